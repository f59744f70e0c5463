/-
 The models of the functions and their contracts. Printed by program.
-/
import Derived.Test.YtpiemlnhjobopaaGreatDoorSxTab
import Derived.Test.YtpiemlnhjobopaaGreatDoorSxS0
import Derived.Test.YtpiemlnhjobopaaGreatDoorSxLib
import Derived.Test.YtpiemlnhjobopaaGreatDoorSxLibF
namespace Go.Proofs.YtpiemlnhjobopaaGreatDoor
open Go Go.Sx
set_option maxRecDepth 100000
set_option maxHeartbeats 3200000
set_option linter.unusedVariables false
set_option linter.unusedSimpArgs false
noncomputable section
abbrev Iq:Ty:=.int .i64
abbrev Wq:=IntKind.wrap IntKind.i64
abbrev Sq:=Za Tryz.prog
theorem Bq {α β:Type} (x:α) (f:α→Option β):(some x).bind f=f x:=rfl
def ZbG (a0:Yq) (left0:Int):Option Int :=
 if Wq (left0-(↑(List.length (Yq.Name a0)):Int))<0 then
 some (-1)
 else
 some (Wq (left0-(↑(List.length (Yq.Name a0)):Int)))
def c0:Ctr:=D2 (Zdb) Iq Iq ZbG
def Zkq (a0:List Yq) (left1:Int) (i0:Int):Option ((Int×Int×Unit) ⊕ Int) :=
 if i0<(↑a0.length:Int) then
 (atI a0 i0).bind fun x0 =>
 (ZbG x0 left1).bind fun szPin0 =>
 if szPin0<0 then
 some (.inr (-1))
 else
 some (.inl (szPin0,Wq (i0+1),()))
 else
 some (.inr left1)
def ZcF (a0:List Yq) (left0:Int):Option Int :=
 if Wq (left0-(↑a0.length:Int))<0 then
 some (-1)
 else
 Zr (fun v=>Zkq a0 v.1 v.2.1) (Wq (left0-(↑a0.length:Int)),(0:Int),())
def c1:Ctr:=D2 (.sl (Zdb)) Iq Iq ZcF
def Yz (a0:List Int) (left0:Int):Option Int :=
 if Wq (left0-(↑a0.length:Int))<0 then
 some (-1)
 else
 some (Wq (left0-(↑a0.length:Int)))
def c2:Ctr:=D2 (.sl Iq) Iq Iq Yz
def VN (a0:Zx) (left0:Int):Option Int :=
 (Yz (Zx.ZhL a0) left0).bind fun szInt64S0 =>
 if szInt64S0<0 then
 some (-1)
 else
 (Yz (Zx.Loads a0) szInt64S0).bind fun szInt64S1 =>
 if szInt64S1<0 then
 some (-1)
 else
 (Yz (Zx.Values a0) szInt64S1).bind fun szInt64S2 =>
 if szInt64S2<0 then
 some (-1)
 else
 some szInt64S2
def c3:Ctr:=D2 (YO) Iq Iq VN
def ZiG (a0:List Zx) (left1:Int) (i0:Int):Option ((Int×Int×Unit) ⊕ Int) :=
 if i0<(↑a0.length:Int) then
 (atI a0 i0).bind fun x0 =>
 (VN x0 left1).bind fun szTable0 =>
 if szTable0<0 then
 some (.inr (-1))
 else
 some (.inl (szTable0,Wq (i0+1),()))
 else
 some (.inr left1)
def V8 (a0:List Zx) (left0:Int):Option Int :=
 if Wq (left0-(↑a0.length:Int))<0 then
 some (-1)
 else
 Zr (fun v=>ZiG a0 v.1 v.2.1) (Wq (left0-(↑a0.length:Int)),(0:Int),())
def c4:Ctr:=D2 (.sl (YO)) Iq Iq V8
def ZbD (a0:ZB) (left0:Int):Option Int :=
 (V8 (ZB.Delay a0) left0).bind fun szTableS0 =>
 if szTableS0<0 then
 some (-1)
 else
 (V8 (ZB.ZaY a0) szTableS0).bind fun szTableS1 =>
 if szTableS1<0 then
 some (-1)
 else
 some szTableS1
def c5:Ctr:=D2 (ZdY) Iq Iq ZbD
def Zkk (a0:List ZB) (left1:Int) (i0:Int):Option ((Int×Int×Unit) ⊕ Int) :=
 if i0<(↑a0.length:Int) then
 (atI a0 i0).bind fun x0 =>
 (ZbD x0 left1).bind fun szArc0 =>
 if szArc0<0 then
 some (.inr (-1))
 else
 some (.inl (szArc0,Wq (i0+1),()))
 else
 some (.inr left1)
def ZcE (a0:List ZB) (left0:Int):Option Int :=
 if Wq (left0-(↑a0.length:Int))<0 then
 some (-1)
 else
 Zr (fun v=>Zkk a0 v.1 v.2.1) (Wq (left0-(↑a0.length:Int)),(0:Int),())
def c6:Ctr:=D2 (.sl (ZdY)) Iq Iq ZcE
def JZ (a0:Zi) (left0:Int):Option Int :=
 if Wq (left0-(↑(List.length (Zi.Name a0)):Int))<0 then
 some (-1)
 else
 (ZcF (Zi.YB a0) (Wq (left0-(↑(List.length (Zi.Name a0)):Int)))).bind fun szPinS0 =>
 if szPinS0<0 then
 some (-1)
 else
 (ZcE (Zi.Zaf a0) szPinS0).bind fun szArcS0 =>
 if szArcS0<0 then
 some (-1)
 else
 (Yz (Zi.Truth a0) szArcS0).bind fun szInt64S0 =>
 if szInt64S0<0 then
 some (-1)
 else
 some szInt64S0
def c7:Ctr:=D2 (Qf) Iq Iq JZ
def Zjq (a0:List Zi) (left1:Int) (i0:Int):Option ((Int×Int×Unit) ⊕ Int) :=
 if i0<(↑a0.length:Int) then
 (atI a0 i0).bind fun x0 =>
 (JZ x0 left1).bind fun szCell0 =>
 if szCell0<0 then
 some (.inr (-1))
 else
 some (.inl (szCell0,Wq (i0+1),()))
 else
 some (.inr left1)
def ZbF (a0:List Zi) (left0:Int):Option Int :=
 if Wq (left0-(↑a0.length:Int))<0 then
 some (-1)
 else
 Zr (fun v=>Zjq a0 v.1 v.2.1) (Wq (left0-(↑a0.length:Int)),(0:Int),())
def c8:Ctr:=D2 (.sl (Qf)) Iq Iq ZbF
def Jp (a0:Zu) (left0:Int):Option Int :=
 (ZbF (Zu.Cells a0) left0).bind fun szCellS0 =>
 if szCellS0<0 then
 some (-1)
 else
 some szCellS0
def c9:Ctr:=D2 (YD) Iq Iq Jp
def X4 (a0:Zk) (left0:Int):Option Int :=
 if Wq (left0-(↑(List.length (Zk.Name a0)):Int))<0 then
 some (-1)
 else
 (Yz (Zk.XJ a0) (Wq (left0-(↑(List.length (Zk.Name a0)):Int)))).bind fun szInt64S0 =>
 if szInt64S0<0 then
 some (-1)
 else
 some szInt64S0
def c10:Ctr:=D2 (Z7) Iq Iq X4
def Zg2 (a0:List Zk) (left1:Int) (i0:Int):Option ((Int×Int×Unit) ⊕ Int) :=
 if i0<(↑a0.length:Int) then
 (atI a0 i0).bind fun x0 =>
 (X4 x0 left1).bind fun szInstance0 =>
 if szInstance0<0 then
 some (.inr (-1))
 else
 some (.inl (szInstance0,Wq (i0+1),()))
 else
 some (.inr left1)
def Q5 (a0:List Zk) (left0:Int):Option Int :=
 if Wq (left0-(↑a0.length:Int))<0 then
 some (-1)
 else
 Zr (fun v=>Zg2 a0 v.1 v.2.1) (Wq (left0-(↑a0.length:Int)),(0:Int),())
def c11:Ctr:=D2 (.sl (Z7)) Iq Iq Q5
def Qn (a0:List (List UInt8)) (left1:Int) (i0:Int):Option ((Int×Int×Unit) ⊕ Int) :=
 if i0<(↑a0.length:Int) then
 (atI a0 i0).bind fun x0 =>
 if Wq (left1-(↑x0.length:Int))<0 then
 some (.inr (-1))
 else
 some (.inl (Wq (left1-(↑x0.length:Int)),Wq (i0+1),()))
 else
 some (.inr left1)
def Jq (a0:List (List UInt8)) (left0:Int):Option Int :=
 if Wq (left0-(↑a0.length:Int))<0 then
 some (-1)
 else
 Zr (fun v=>Qn a0 v.1 v.2.1) (Wq (left0-(↑a0.length:Int)),(0:Int),())
def c12:Ctr:=D2 (.sl (.str)) Iq Iq Jq
def J2 (a0:Ya) (left0:Int):Option Int :=
 if Wq (left0-(↑(List.length (Ya.Name a0)):Int))<0 then
 some (-1)
 else
 some (Wq (left0-(↑(List.length (Ya.Name a0)):Int)))
def c13:Ctr:=D2 (VH) Iq Iq J2
def Zju (a0:List Ya) (left1:Int) (i0:Int):Option ((Int×Int×Unit) ⊕ Int) :=
 if i0<(↑a0.length:Int) then
 (atI a0 i0).bind fun x0 =>
 (J2 x0 left1).bind fun szPort0 =>
 if szPort0<0 then
 some (.inr (-1))
 else
 some (.inl (szPort0,Wq (i0+1),()))
 else
 some (.inr left1)
def ZbH (a0:List Ya) (left0:Int):Option Int :=
 if Wq (left0-(↑a0.length:Int))<0 then
 some (-1)
 else
 Zr (fun v=>Zju a0 v.1 v.2.1) (Wq (left0-(↑a0.length:Int)),(0:Int),())
def c14:Ctr:=D2 (.sl (VH)) Iq Iq ZbH
def Zaw (a0:Zf) (left0:Int):Option Int :=
 (Q5 (Zf.Instances a0) left0).bind fun szInstanceS0 =>
 if szInstanceS0<0 then
 some (-1)
 else
 (Jq (Zf.XJ a0) szInstanceS0).bind fun szStringS0 =>
 if szStringS0<0 then
 some (-1)
 else
 (ZbH (Zf.Xe a0) szStringS0).bind fun szPortS0 =>
 if szPortS0<0 then
 some (-1)
 else
 some szPortS0
def c15:Ctr:=D2 (YN) Iq Iq Zaw
def J3 (a0:Zy) (left0:Int):Option Int :=
 (Yz (Zy.Parent a0) left0).bind fun szInt64S0 =>
 if szInt64S0<0 then
 some (-1)
 else
 (Yz (Zy.Res a0) szInt64S0).bind fun szInt64S1 =>
 if szInt64S1<0 then
 some (-1)
 else
 (Yz (Zy.Cap a0) szInt64S1).bind fun szInt64S2 =>
 if szInt64S2<0 then
 some (-1)
 else
 (Yz (Zy.ZjU a0) szInt64S2).bind fun szInt64S3 =>
 if szInt64S3<0 then
 some (-1)
 else
 some szInt64S3
def c16:Ctr:=D2 (Vr) Iq Iq J3
def Zjw (a0:List Zy) (left1:Int) (i0:Int):Option ((Int×Int×Unit) ⊕ Int) :=
 if i0<(↑a0.length:Int) then
 (atI a0 i0).bind fun x0 =>
 (J3 x0 left1).bind fun szWire0 =>
 if szWire0<0 then
 some (.inr (-1))
 else
 some (.inl (szWire0,Wq (i0+1),()))
 else
 some (.inr left1)
def ZbJ (a0:List Zy) (left0:Int):Option Int :=
 if Wq (left0-(↑a0.length:Int))<0 then
 some (-1)
 else
 Zr (fun v=>Zjw a0 v.1 v.2.1) (Wq (left0-(↑a0.length:Int)),(0:Int),())
def c17:Ctr:=D2 (.sl (Vr)) Iq Iq ZbJ
def ZbE (a0:Zn) (left0:Int):Option Int :=
 (Jp (Zn.Library a0) left0).bind fun szLibrary0 =>
 if szLibrary0<0 then
 some (-1)
 else
 (Zaw (Zn.Design a0) szLibrary0).bind fun szDesign0 =>
 if szDesign0<0 then
 some (-1)
 else
 (ZbJ (Zn.XQ a0) szDesign0).bind fun szWireS0 =>
 if szWireS0<0 then
 some (-1)
 else
 some szWireS0
def c18:Ctr:=D2 (Y2) Iq Iq ZbE
def VL (a0:Zb) (left0:Int):Option Int :=
 if Wq (left0-(↑(List.length (Zb.Name a0)):Int))<0 then
 some (-1)
 else
 some (Wq (left0-(↑(List.length (Zb.Name a0)):Int)))
def c19:Ctr:=D2 (YA) Iq Iq VL
def ZiD (a0:List Zb) (left1:Int) (i0:Int):Option ((Int×Int×Unit) ⊕ Int) :=
 if i0<(↑a0.length:Int) then
 (atI a0 i0).bind fun x0 =>
 (VL x0 left1).bind fun szClock0 =>
 if szClock0<0 then
 some (.inr (-1))
 else
 some (.inl (szClock0,Wq (i0+1),()))
 else
 some (.inr left1)
def Zav (a0:List Zb) (left0:Int):Option Int :=
 if Wq (left0-(↑a0.length:Int))<0 then
 some (-1)
 else
 Zr (fun v=>ZiD a0 v.1 v.2.1) (Wq (left0-(↑a0.length:Int)),(0:Int),())
def c20:Ctr:=D2 (.sl (YA)) Iq Iq Zav
def Qb (a0:List Zd) (left0:Int):Option Int :=
 if Wq (left0-(↑a0.length:Int))<0 then
 some (-1)
 else
 some (Wq (left0-(↑a0.length:Int)))
def c21:Ctr:=D2 (.sl (ZQ)) Iq Iq Qb
def XF (a0:Zh) (left0:Int):Option Int :=
 (Yz (Zh.From a0) left0).bind fun szInt64S0 =>
 if szInt64S0<0 then
 some (-1)
 else
 (Yz (Zh.Through a0) szInt64S0).bind fun szInt64S1 =>
 if szInt64S1<0 then
 some (-1)
 else
 (Yz (Zh.To a0) szInt64S1).bind fun szInt64S2 =>
 if szInt64S2<0 then
 some (-1)
 else
 some szInt64S2
def c22:Ctr:=D2 (ZG) Iq Iq XF
def Zgh (a0:List Zh) (left1:Int) (i0:Int):Option ((Int×Int×Unit) ⊕ Int) :=
 if i0<(↑a0.length:Int) then
 (atI a0 i0).bind fun x0 =>
 (XF x0 left1).bind fun szException0 =>
 if szException0<0 then
 some (.inr (-1))
 else
 some (.inl (szException0,Wq (i0+1),()))
 else
 some (.inr left1)
def QD (a0:List Zh) (left0:Int):Option Int :=
 if Wq (left0-(↑a0.length:Int))<0 then
 some (-1)
 else
 Zr (fun v=>Zgh a0 v.1 v.2.1) (Wq (left0-(↑a0.length:Int)),(0:Int),())
def c23:Ctr:=D2 (.sl (ZG)) Iq Iq QD
def Vg (a0:Zq) (left0:Int):Option Int :=
 if Wq (left0-(↑(List.length (Zq.Name a0)):Int))<0 then
 some (-1)
 else
 some (Wq (left0-(↑(List.length (Zq.Name a0)):Int)))
def c24:Ctr:=D2 (Yo) Iq Iq Vg
def ZhU (a0:List Zq) (left1:Int) (i0:Int):Option ((Int×Int×Unit) ⊕ Int) :=
 if i0<(↑a0.length:Int) then
 (atI a0 i0).bind fun x0 =>
 (Vg x0 left1).bind fun szCorner0 =>
 if szCorner0<0 then
 some (.inr (-1))
 else
 some (.inl (szCorner0,Wq (i0+1),()))
 else
 some (.inr left1)
def Jo (a0:List Zq) (left0:Int):Option Int :=
 if Wq (left0-(↑a0.length:Int))<0 then
 some (-1)
 else
 Zr (fun v=>ZhU a0 v.1 v.2.1) (Wq (left0-(↑a0.length:Int)),(0:Int),())
def c25:Ctr:=D2 (.sl (Yo)) Iq Iq Jo
def ZbI (a0:Zm) (left0:Int):Option Int :=
 (Zav (Zm.ZE a0) left0).bind fun szClockS0 =>
 if szClockS0<0 then
 some (-1)
 else
 (Qb (Zm.QE a0) szClockS0).bind fun szExternalS0 =>
 if szExternalS0<0 then
 some (-1)
 else
 (Qb (Zm.Zdo a0) szExternalS0).bind fun szExternalS1 =>
 if szExternalS1<0 then
 some (-1)
 else
 (QD (Zm.Exceptions a0) szExternalS1).bind fun szExceptionS0 =>
 if szExceptionS0<0 then
 some (-1)
 else
 (Jo (Zm.Zct a0) szExceptionS0).bind fun szCornerS0 =>
 if szCornerS0<0 then
 some (-1)
 else
 some szCornerS0
def c26:Ctr:=D2 (XG) Iq Iq ZbI
def Zft (a0:Yq):Option Yq :=
 some a0
def c27:Ctr:=D1 (Zdb) (Zdb) Zft
def Zkv (a0:List Yq) (i0:Int) (l0:List (List UInt8×Int×Int×Bool×Unit)):Option ((Int×(List (List UInt8×Int×Int×Bool×Unit))×Unit) ⊕ List Yq) :=
 if i0<(↑a0.length:Int) then
 (atI a0 i0).bind fun x0 =>
 (Zft x0).bind fun toPin0 =>
 (atI l0 i0).bind fun x1 =>
 some (.inl (Wq (i0+1),List.set l0 (Int.toNat i0) toPin0,()))
 else
 some (.inr l0)
def Zgk (a0:List Yq):Option (List Yq) :=
 Zv ((0:Int)≤(↑a0.length:Int)) <|
 Zv ((↑a0.length:Int)≤(↑a0.length:Int)) <|
 Zv ((↑a0.length:Int)≤(4611686018427387904:Int)) <|
 Zv ((↑(40:Nat):Int)*(↑a0.length:Int)≤(281474976710656:Int)) <|
 Zr (fun v=>Zkv a0 v.1 v.2.1) ((0:Int),List.replicate (Int.toNat (↑a0.length:Int)) (([]:List UInt8),(0:Int),(0:Int),Bool.false,()),())
def c28:Ctr:=⟨[.dat (.sl (Zdb))],[.own (.ol 373 (.flat (Zdb)))],fun a K=>splitK a fun a0 a=>Xb (Zgk a0) fun r=>K (r,()) ()⟩
def ZiK (a0:List Int) (i0:Int) (l0:List Int):Option ((Int×(List Int)×Unit) ⊕ List Int) :=
 if i0<(↑a0.length:Int) then
 (atI a0 i0).bind fun x0 =>
 (atI l0 i0).bind fun x1 =>
 some (.inl (Wq (i0+1),List.set l0 (Int.toNat i0) x0,()))
 else
 some (.inr l0)
def YS (a0:List Int):Option (List Int) :=
 Zv ((0:Int)≤(↑a0.length:Int)) <|
 Zv ((↑a0.length:Int)≤(↑a0.length:Int)) <|
 Zv ((↑a0.length:Int)≤(4611686018427387904:Int)) <|
 Zv ((↑(8:Nat):Int)*(↑a0.length:Int)≤(281474976710656:Int)) <|
 Zr (fun v=>ZiK a0 v.1 v.2.1) ((0:Int),List.replicate (Int.toNat (↑a0.length:Int)) (0:Int),())
def c29:Ctr:=⟨[.dat (.sl Iq)],[.own (.ol 2 (.flat Iq))],fun a K=>splitK a fun a0 a=>Xb (YS a0) fun r=>K (r,()) ()⟩
def Zdj (a0:Zx):Option Zx :=
 (YS (Zx.ZhL a0)).bind fun toInt64S0 =>
 (YS (Zx.Loads a0)).bind fun toInt64S1 =>
 (YS (Zx.Values a0)).bind fun toInt64S2 =>
 some (toInt64S0,toInt64S1,toInt64S2,())
def c30:Ctr:=⟨[.dat (YO)],[.own (ZgE)],fun a K=>splitK a fun a0 a=>Xb (Zdj a0) fun r=>K (r,()) ()⟩
def ZiL (a0:List Zx) (i0:Int) (l0:List Zx):Option ((Int×(List Zx)×Unit) ⊕ List Zx) :=
 if i0<(↑a0.length:Int) then
 (atI a0 i0).bind fun x0 =>
 (Zdj x0).bind fun toTable0 =>
 (atI l0 i0).bind fun x1 =>
 some (.inl (Wq (i0+1),List.set l0 (Int.toNat i0) toTable0,()))
 else
 some (.inr l0)
def Zb9 (a0:List Zx):Option (List Zx) :=
 Zv ((0:Int)≤(↑a0.length:Int)) <|
 Zv ((↑a0.length:Int)≤(↑a0.length:Int)) <|
 Zv ((↑a0.length:Int)≤(4611686018427387904:Int)) <|
 Zv ((↑(72:Nat):Int)*(↑a0.length:Int)≤(281474976710656:Int)) <|
 Zr (fun v=>ZiL a0 v.1 v.2.1) ((0:Int),List.replicate (Int.toNat (↑a0.length:Int)) (([]:List Int),([]:List Int),([]:List Int),()),())
def c31:Ctr:=⟨[.dat (.sl (YO))],[.own (.ol 379 (ZgE))],fun a K=>splitK a fun a0 a=>Xb (Zb9 a0) fun r=>K (r,()) ()⟩
def Zfs (a0:ZB):Option ZB :=
 (Zb9 (ZB.Delay a0)).bind fun toTableS0 =>
 (Zb9 (ZB.ZaY a0)).bind fun toTableS1 =>
 some (ZB.Kind a0,ZB.From a0,ZB.To a0,ZB.ZbM a0,toTableS0,toTableS1,())
def c32:Ctr:=⟨[.dat (ZdY)],[.own (ZsZ)],fun a K=>splitK a fun a0 a=>Xb (Zfs a0) fun r=>K (r,()) ()⟩
def Zks (a0:List ZB) (i0:Int) (l0:List ZB):Option ((Int×(List ZB)×Unit) ⊕ List ZB) :=
 if i0<(↑a0.length:Int) then
 (atI a0 i0).bind fun x0 =>
 (Zfs x0).bind fun toArc0 =>
 (atI l0 i0).bind fun x1 =>
 some (.inl (Wq (i0+1),List.set l0 (Int.toNat i0) toArc0,()))
 else
 some (.inr l0)
def Zgi (a0:List ZB):Option (List ZB) :=
 Zv ((0:Int)≤(↑a0.length:Int)) <|
 Zv ((↑a0.length:Int)≤(↑a0.length:Int)) <|
 Zv ((↑a0.length:Int)≤(4611686018427387904:Int)) <|
 Zv ((↑(80:Nat):Int)*(↑a0.length:Int)≤(281474976710656:Int)) <|
 Zr (fun v=>Zks a0 v.1 v.2.1) ((0:Int),List.replicate (Int.toNat (↑a0.length:Int)) ((0:Int),(0:Int),(0:Int),(0:Int),([]:List Zx),([]:List Zx),()),())
def c33:Ctr:=⟨[.dat (.sl (ZdY))],[.own (.ol 246 (ZsZ))],fun a K=>splitK a fun a0 a=>Xb (Zgi a0) fun r=>K (r,()) ()⟩
def Zem (a0:Zi):Option Zi :=
 (Zgk (Zi.YB a0)).bind fun toPinS0 =>
 (Zgi (Zi.Zaf a0)).bind fun toArcS0 =>
 (YS (Zi.Truth a0)).bind fun toInt64S0 =>
 some (Zi.Name a0,Zi.Kind a0,toPinS0,toArcS0,toInt64S0,a0.snd.snd.snd.snd.snd)
def c34:Ctr:=⟨[.dat (Qf)],[.own (Zol)],fun a K=>splitK a fun a0 a=>Xb (Zem a0) fun r=>K (r,()) ()⟩
def Zjx (a0:List Zi) (i0:Int) (l0:List Zi):Option ((Int×(List Zi)×Unit) ⊕ List Zi) :=
 if i0<(↑a0.length:Int) then
 (atI a0 i0).bind fun x0 =>
 (Zem x0).bind fun toCell0 =>
 (atI l0 i0).bind fun x1 =>
 some (.inl (Wq (i0+1),List.set l0 (Int.toNat i0) toCell0,()))
 else
 some (.inr l0)
def ZeV (a0:List Zi):Option (List Zi) :=
 Zv ((0:Int)≤(↑a0.length:Int)) <|
 Zv ((↑a0.length:Int)≤(↑a0.length:Int)) <|
 Zv ((↑a0.length:Int)≤(4611686018427387904:Int)) <|
 Zv ((↑(112:Nat):Int)*(↑a0.length:Int)≤(281474976710656:Int)) <|
 Zr (fun v=>Zjx a0 v.1 v.2.1) ((0:Int),List.replicate (Int.toNat (↑a0.length:Int)) (([]:List UInt8),(0:Int),([]:List Yq),([]:List ZB),([]:List Int),(0:Int),(0:Int),()),())
def c35:Ctr:=⟨[.dat (.sl (Qf))],[.own (.ol 241 (Zol))],fun a K=>splitK a fun a0 a=>Xb (ZeV a0) fun r=>K (r,()) ()⟩
def Zc7 (a0:Zu):Option Zu :=
 (ZeV (Zu.Cells a0)).bind fun toCellS0 =>
 some (toCellS0,())
def c36:Ctr:=⟨[.dat (YD)],[.own (Zom)],fun a K=>splitK a fun a0 a=>Xb (Zc7 a0) fun r=>K (r,()) ()⟩
def J5 (a0:Zk):Option Zk :=
 (YS (Zk.XJ a0)).bind fun toInt64S0 =>
 some (Zk.Name a0,Zk.Cell a0,toInt64S0,())
def c37:Ctr:=⟨[.dat (Z7)],[.own (ZbO)],fun a K=>splitK a fun a0 a=>Xb (J5 a0) fun r=>K (r,()) ()⟩
def Zg4 (a0:List Zk) (i0:Int) (l0:List Zk):Option ((Int×(List Zk)×Unit) ⊕ List Zk) :=
 if i0<(↑a0.length:Int) then
 (atI a0 i0).bind fun x0 =>
 (J5 x0).bind fun toInstance0 =>
 (atI l0 i0).bind fun x1 =>
 some (.inl (Wq (i0+1),List.set l0 (Int.toNat i0) toInstance0,()))
 else
 some (.inr l0)
def Za6 (a0:List Zk):Option (List Zk) :=
 Zv ((0:Int)≤(↑a0.length:Int)) <|
 Zv ((↑a0.length:Int)≤(↑a0.length:Int)) <|
 Zv ((↑a0.length:Int)≤(4611686018427387904:Int)) <|
 Zv ((↑(48:Nat):Int)*(↑a0.length:Int)≤(281474976710656:Int)) <|
 Zr (fun v=>Zg4 a0 v.1 v.2.1) ((0:Int),List.replicate (Int.toNat (↑a0.length:Int)) (([]:List UInt8),(0:Int),([]:List Int),()),())
def c38:Ctr:=⟨[.dat (.sl (Z7))],[.own (.ol 243 (ZbO))],fun a K=>splitK a fun a0 a=>Xb (Za6 a0) fun r=>K (r,()) ()⟩
def Zh0 (a0:List (List UInt8)) (i0:Int) (l0:List (List UInt8)):Option ((Int×(List (List UInt8))×Unit) ⊕ List (List UInt8)) :=
 if i0<(↑a0.length:Int) then
 (atI a0 i0).bind fun x0 =>
 (atI l0 i0).bind fun x1 =>
 some (.inl (Wq (i0+1),List.set l0 (Int.toNat i0) x0,()))
 else
 some (.inr l0)
def Zc8 (a0:List (List UInt8)):Option (List (List UInt8)) :=
 Zv ((0:Int)≤(↑a0.length:Int)) <|
 Zv ((↑a0.length:Int)≤(↑a0.length:Int)) <|
 Zv ((↑a0.length:Int)≤(4611686018427387904:Int)) <|
 Zv ((↑(16:Nat):Int)*(↑a0.length:Int)≤(281474976710656:Int)) <|
 Zr (fun v=>Zh0 a0 v.1 v.2.1) ((0:Int),List.replicate (Int.toNat (↑a0.length:Int)) (([]:List UInt8)),())
def c39:Ctr:=⟨[.dat (.sl (.str))],[.own (.ol 9 (.flat (.str)))],fun a K=>splitK a fun a0 a=>Xb (Zc8 a0) fun r=>K (r,()) ()⟩
def Zeo (a0:Ya):Option Ya :=
 some a0
def c40:Ctr:=D1 (VH) (VH) Zeo
def ZjA (a0:List Ya) (i0:Int) (l0:List (List UInt8×Int×Int×Unit)):Option ((Int×(List (List UInt8×Int×Int×Unit))×Unit) ⊕ List Ya) :=
 if i0<(↑a0.length:Int) then
 (atI a0 i0).bind fun x0 =>
 (Zeo x0).bind fun toPort0 =>
 (atI l0 i0).bind fun x1 =>
 some (.inl (Wq (i0+1),List.set l0 (Int.toNat i0) toPort0,()))
 else
 some (.inr l0)
def ZeW (a0:List Ya):Option (List Ya) :=
 Zv ((0:Int)≤(↑a0.length:Int)) <|
 Zv ((↑a0.length:Int)≤(↑a0.length:Int)) <|
 Zv ((↑a0.length:Int)≤(4611686018427387904:Int)) <|
 Zv ((↑(32:Nat):Int)*(↑a0.length:Int)≤(281474976710656:Int)) <|
 Zr (fun v=>ZjA a0 v.1 v.2.1) ((0:Int),List.replicate (Int.toNat (↑a0.length:Int)) (([]:List UInt8),(0:Int),(0:Int),()),())
def c41:Ctr:=⟨[.dat (.sl (VH))],[.own (.ol 297 (.flat (VH)))],fun a K=>splitK a fun a0 a=>Xb (ZeW a0) fun r=>K (r,()) ()⟩
def ZdP (a0:Zf):Option Zf :=
 (Za6 (Zf.Instances a0)).bind fun toInstanceS0 =>
 (Zc8 (Zf.XJ a0)).bind fun toStringS0 =>
 (ZeW (Zf.Xe a0)).bind fun toPortS0 =>
 some (toInstanceS0,toStringS0,toPortS0,())
def c42:Ctr:=⟨[.dat (YN)],[.own (ZpL)],fun a K=>splitK a fun a0 a=>Xb (ZdP a0) fun r=>K (r,()) ()⟩
def Zeq (a0:Zy):Option Zy :=
 (YS (Zy.Parent a0)).bind fun toInt64S0 =>
 (YS (Zy.Res a0)).bind fun toInt64S1 =>
 (YS (Zy.Cap a0)).bind fun toInt64S2 =>
 (YS (Zy.ZjU a0)).bind fun toInt64S3 =>
 some (toInt64S0,toInt64S1,toInt64S2,toInt64S3,())
def c43:Ctr:=⟨[.dat (Vr)],[.own (Zon)],fun a K=>splitK a fun a0 a=>Xb (Zeq a0) fun r=>K (r,()) ()⟩
def ZjB (a0:List Zy) (i0:Int) (l0:List Zy):Option ((Int×(List Zy)×Unit) ⊕ List Zy) :=
 if i0<(↑a0.length:Int) then
 (atI a0 i0).bind fun x0 =>
 (Zeq x0).bind fun toWire0 =>
 (atI l0 i0).bind fun x1 =>
 some (.inl (Wq (i0+1),List.set l0 (Int.toNat i0) toWire0,()))
 else
 some (.inr l0)
def ZeY (a0:List Zy):Option (List Zy) :=
 Zv ((0:Int)≤(↑a0.length:Int)) <|
 Zv ((↑a0.length:Int)≤(↑a0.length:Int)) <|
 Zv ((↑a0.length:Int)≤(4611686018427387904:Int)) <|
 Zv ((↑(96:Nat):Int)*(↑a0.length:Int)≤(281474976710656:Int)) <|
 Zr (fun v=>ZjB a0 v.1 v.2.1) ((0:Int),List.replicate (Int.toNat (↑a0.length:Int)) (([]:List Int),([]:List Int),([]:List Int),([]:List Int),()),())
def c44:Ctr:=⟨[.dat (.sl (Vr))],[.own (.ol 201 (Zon))],fun a K=>splitK a fun a0 a=>Xb (ZeY a0) fun r=>K (r,()) ()⟩
def ZeU (a0:Zn):Option Zn :=
 (Zc7 (Zn.Library a0)).bind fun toLibrary0 =>
 (ZdP (Zn.Design a0)).bind fun toDesign0 =>
 (ZeY (Zn.XQ a0)).bind fun toWireS0 =>
 some (toLibrary0,toDesign0,toWireS0,())
def c45:Ctr:=⟨[.dat (Y2)],[.own (ZrO)],fun a K=>splitK a fun a0 a=>Xb (ZeU a0) fun r=>K (r,()) ()⟩
def Zdi (a0:Zb):Option Zb :=
 some a0
def c46:Ctr:=D1 (YA) (YA) Zdi
def ZiH (a0:List Zb) (i0:Int) (l0:List (List UInt8×Int×Int×Int×Int×Int×Int×Bool×Int×Int×Int×Unit)):Option ((Int×(List (List UInt8×Int×Int×Int×Int×Int×Int×Bool×Int×Int×Int×Unit))×Unit) ⊕ List Zb) :=
 if i0<(↑a0.length:Int) then
 (atI a0 i0).bind fun x0 =>
 (Zdi x0).bind fun toClock0 =>
 (atI l0 i0).bind fun x1 =>
 some (.inl (Wq (i0+1),List.set l0 (Int.toNat i0) toClock0,()))
 else
 some (.inr l0)
def ZdO (a0:List Zb):Option (List Zb) :=
 Zv ((0:Int)≤(↑a0.length:Int)) <|
 Zv ((↑a0.length:Int)≤(↑a0.length:Int)) <|
 Zv ((↑a0.length:Int)≤(4611686018427387904:Int)) <|
 Zv ((↑(96:Nat):Int)*(↑a0.length:Int)≤(281474976710656:Int)) <|
 Zr (fun v=>ZiH a0 v.1 v.2.1) ((0:Int),List.replicate (Int.toNat (↑a0.length:Int)) (([]:List UInt8),(0:Int),(0:Int),(0:Int),(0:Int),(0:Int),(0:Int),Bool.false,(0:Int),(0:Int),(0:Int),()),())
def c47:Ctr:=⟨[.dat (.sl (YA))],[.own (.ol 185 (.flat (YA)))],fun a K=>splitK a fun a0 a=>Xb (ZdO a0) fun r=>K (r,()) ()⟩
def Zep (a0:ZH):Option ZH :=
 some a0
def c48:Ctr:=D1 (Zgy) (Zgy) Zep
def J4 (a0:Zd):Option Zd :=
 (Zep (Zd.Delay a0)).bind fun toSpan0 =>
 (Zep (Zd.ZaY a0)).bind fun toSpan1 =>
 some (Zd.Place a0,Zd.Clock a0,toSpan0,toSpan1,())
def c49:Ctr:=D1 (ZQ) (ZQ) J4
def Zg3 (a0:List Zd) (i0:Int) (l0:List (Int×Int×ZH×ZH×Unit)):Option ((Int×(List (Int×Int×ZH×ZH×Unit))×Unit) ⊕ List Zd) :=
 if i0<(↑a0.length:Int) then
 (atI a0 i0).bind fun x0 =>
 (J4 x0).bind fun toExternal0 =>
 (atI l0 i0).bind fun x1 =>
 some (.inl (Wq (i0+1),List.set l0 (Int.toNat i0) toExternal0,()))
 else
 some (.inr l0)
def Jj (a0:List Zd):Option (List Zd) :=
 Zv ((0:Int)≤(↑a0.length:Int)) <|
 Zv ((↑a0.length:Int)≤(↑a0.length:Int)) <|
 Zv ((↑a0.length:Int)≤(4611686018427387904:Int)) <|
 Zv ((↑(48:Nat):Int)*(↑a0.length:Int)≤(281474976710656:Int)) <|
 Zr (fun v=>Zg3 a0 v.1 v.2.1) ((0:Int),List.replicate (Int.toNat (↑a0.length:Int)) ((0:Int),(0:Int),((0:Int),(0:Int),()),((0:Int),(0:Int),()),()),())
def c50:Ctr:=⟨[.dat (.sl (ZQ))],[.own (.ol 196 (.flat (ZQ)))],fun a K=>splitK a fun a0 a=>Xb (Jj a0) fun r=>K (r,()) ()⟩
def Ji (a0:Zh):Option Zh :=
 (YS (Zh.From a0)).bind fun toInt64S0 =>
 (YS (Zh.Through a0)).bind fun toInt64S1 =>
 (YS (Zh.To a0)).bind fun toInt64S2 =>
 some (Zh.Kind a0,Zh.Value a0,toInt64S0,toInt64S1,toInt64S2,())
def c51:Ctr:=⟨[.dat (ZG)],[.own (Zai)],fun a K=>splitK a fun a0 a=>Xb (Ji a0) fun r=>K (r,()) ()⟩
def Zgj (a0:List Zh) (i0:Int) (l0:List Zh):Option ((Int×(List Zh)×Unit) ⊕ List Zh) :=
 if i0<(↑a0.length:Int) then
 (atI a0 i0).bind fun x0 =>
 (Ji x0).bind fun toException0 =>
 (atI l0 i0).bind fun x1 =>
 some (.inl (Wq (i0+1),List.set l0 (Int.toNat i0) toException0,()))
 else
 some (.inr l0)
def Zax (a0:List Zh):Option (List Zh) :=
 Zv ((0:Int)≤(↑a0.length:Int)) <|
 Zv ((↑a0.length:Int)≤(↑a0.length:Int)) <|
 Zv ((↑a0.length:Int)≤(4611686018427387904:Int)) <|
 Zv ((↑(88:Nat):Int)*(↑a0.length:Int)≤(281474976710656:Int)) <|
 Zr (fun v=>Zgj a0 v.1 v.2.1) ((0:Int),List.replicate (Int.toNat (↑a0.length:Int)) ((0:Int),(0:Int),([]:List Int),([]:List Int),([]:List Int),()),())
def c52:Ctr:=⟨[.dat (.sl (ZG))],[.own (.ol 189 (Zai))],fun a K=>splitK a fun a0 a=>Xb (Zax a0) fun r=>K (r,()) ()⟩
def Zb8 (a0:Zq):Option Zq :=
 some a0
def c53:Ctr:=D1 (Yo) (Yo) Zb8
def ZhY (a0:List Zq) (i0:Int) (l0:List (List UInt8×Int×Int×Int×Int×Unit)):Option ((Int×(List (List UInt8×Int×Int×Int×Int×Unit))×Unit) ⊕ List Zq) :=
 if i0<(↑a0.length:Int) then
 (atI a0 i0).bind fun x0 =>
 (Zb8 x0).bind fun toCorner0 =>
 (atI l0 i0).bind fun x1 =>
 some (.inl (Wq (i0+1),List.set l0 (Int.toNat i0) toCorner0,()))
 else
 some (.inr l0)
def Zc6 (a0:List Zq):Option (List Zq) :=
 Zv ((0:Int)≤(↑a0.length:Int)) <|
 Zv ((↑a0.length:Int)≤(↑a0.length:Int)) <|
 Zv ((↑a0.length:Int)≤(4611686018427387904:Int)) <|
 Zv ((↑(48:Nat):Int)*(↑a0.length:Int)≤(281474976710656:Int)) <|
 Zr (fun v=>ZhY a0 v.1 v.2.1) ((0:Int),List.replicate (Int.toNat (↑a0.length:Int)) (([]:List UInt8),(0:Int),(0:Int),(0:Int),(0:Int),()),())
def c54:Ctr:=⟨[.dat (.sl (Yo))],[.own (.ol 82 (.flat (Yo)))],fun a K=>splitK a fun a0 a=>Xb (Zc6 a0) fun r=>K (r,()) ()⟩
def ZeX (a0:Zm):Option Zm :=
 (ZdO (Zm.ZE a0)).bind fun toClockS0 =>
 (Jj (Zm.QE a0)).bind fun toExternalS0 =>
 (Jj (Zm.Zdo a0)).bind fun toExternalS1 =>
 (Zax (Zm.Exceptions a0)).bind fun toExceptionS0 =>
 (Zc6 (Zm.Zct a0)).bind fun toCornerS0 =>
 some (toClockS0,toExternalS0,toExternalS1,toExceptionS0,toCornerS0,())
def c55:Ctr:=⟨[.dat (XG)],[.own (ZtT)],fun a K=>splitK a fun a0 a=>Xb (ZeX a0) fun r=>K (r,()) ()⟩
def Zcl (s0:List UInt8) (i0:Int):Option ((Int×Unit) ⊕ Bool) :=
 if i0<(↑s0.length:Int) then
 (atI s0 i0).bind fun x0 =>
 if 97≤(↑(UInt8.toNat x0):Int) then
 if 48≤(↑(UInt8.toNat x0):Int) then
 if (↑(UInt8.toNat x0):Int)≤122 then
 some (.inl (Wq (i0+1),()))
 else
 if (↑(UInt8.toNat x0):Int)≤57 then
 if 0<i0 then
 some (.inl (Wq (i0+1),()))
 else
 some (.inr Bool.false)
 else
 some (.inr Bool.false)
 else
 if (↑(UInt8.toNat x0):Int)≤122 then
 some (.inl (Wq (i0+1),()))
 else
 some (.inr Bool.false)
 else
 if 48≤(↑(UInt8.toNat x0):Int) then
 if (↑(UInt8.toNat x0):Int)≤57 then
 if 0<i0 then
 some (.inl (Wq (i0+1),()))
 else
 some (.inr Bool.false)
 else
 some (.inr Bool.false)
 else
 some (.inr Bool.false)
 else
 if 1≤(↑s0.length:Int) then
 some (.inr (Decidable.decide ((↑s0.length:Int)≤8)))
 else
 some (.inr Bool.false)
def VP (s0:List UInt8):Option Bool :=
 Zr (fun v=>Zcl s0 v.1) ((0:Int),())
def c56:Ctr:=D1 (.str) (.bool) VP
def ZV (n0:Int) (low0:Int) (high0:Int):Option Bool :=
 if low0≤n0 then
 some (Decidable.decide (n0≤high0))
 else
 some Bool.false
def c57:Ctr:=D3 Iq Iq Iq (.bool) ZV
def X9 (a0:Zi) (v0:Int) (v1:Int) (x0:Yq) (v2:Int):Option ((Int×Unit) ⊕ ((Int×Int×Unit) ⊕ (Int×Bool))) :=
 if v2<v1 then
 (atI (Zi.YB a0) v2).bind fun x1 =>
 if Yq.Name x1=Yq.Name x0 then
 some (.inr (.inr (0,Bool.false)))
 else
 some (.inl (Wq (v2+1),()))
 else
 (VP (Yq.Name x0)).bind fun l03Name0 =>
 if l03Name0=true then
 (ZV (Yq.Cap x0) 0 500).bind fun l01In0 =>
 if l01In0=true then
 if v1=Wq ((↑(List.length (Zi.YB a0)):Int)-1) then
 if Yq.Dir x0=2 then
 if Yq.Cap x0=0 then
 if (Yq.Clock x0)=true then
 some (.inr (.inr (0,Bool.false)))
 else
 if v1<Wq ((↑(List.length (Zi.YB a0)):Int)-1) then
 if Yq.Dir x0=1 then
 if (Yq.Clock x0)=true then
 some (.inr (.inl (Wq (v0+1),Wq (v1+1),())))
 else
 some (.inr (.inl (v0,Wq (v1+1),())))
 else
 some (.inr (.inr (0,Bool.false)))
 else
 if (Yq.Clock x0)=true then
 some (.inr (.inl (Wq (v0+1),Wq (v1+1),())))
 else
 some (.inr (.inl (v0,Wq (v1+1),())))
 else
 some (.inr (.inr (0,Bool.false)))
 else
 some (.inr (.inr (0,Bool.false)))
 else
 if v1<Wq ((↑(List.length (Zi.YB a0)):Int)-1) then
 if Yq.Dir x0=1 then
 if (Yq.Clock x0)=true then
 some (.inr (.inl (Wq (v0+1),Wq (v1+1),())))
 else
 some (.inr (.inl (v0,Wq (v1+1),())))
 else
 some (.inr (.inr (0,Bool.false)))
 else
 if (Yq.Clock x0)=true then
 some (.inr (.inl (Wq (v0+1),Wq (v1+1),())))
 else
 some (.inr (.inl (v0,Wq (v1+1),())))
 else
 some (.inr (.inr (0,Bool.false)))
 else
 some (.inr (.inr (0,Bool.false)))
def Vk (a0:Zi) (v0:Int) (v1:Int):Option ((Int×Int×Unit) ⊕ (Int×Bool)) :=
 if v1<(↑(List.length (Zi.YB a0)):Int) then
 (atI (Zi.YB a0) v1).bind fun x0 =>
 Zr (fun v=>X9 a0 v0 v1 x0 v.1) ((0:Int),())
 else
 some (.inr (v0,Bool.true))
def Ze6 (a0:Zi):Option (Int×Bool) :=
 if (↑(List.length (Zi.YB a0)):Int)<2 then
 some (0,Bool.false)
 else
 if 5<(↑(List.length (Zi.YB a0)):Int) then
 some (0,Bool.false)
 else
 Zr (fun v=>Vk a0 v.1 v.2.1) ((0:Int),(0:Int),())
def c58:Ctr:=⟨[.dat (Qf)],[.dat Iq,.dat (.bool)],fun a K=>splitK a fun a0 a=>Xb (Ze6 a0) fun r=>K (r.1,r.2,()) ()⟩
def Zck (list0:List Int) (i0:Int):Option ((Int×Unit) ⊕ Bool) :=
 if i0<(↑list0.length:Int) then
 (atI list0 i0).bind fun x0 =>
 (ZV x0 0 100000).bind fun l01In0 =>
 if l01In0=true then
 if 0<i0 then
 (atI list0 (Wq (i0-1))).bind fun x1 =>
 if x0≤x1 then
 some (.inr Bool.false)
 else
 some (.inl (Wq (i0+1),()))
 else
 some (.inl (Wq (i0+1),()))
 else
 some (.inr Bool.false)
 else
 if 1≤(↑list0.length:Int) then
 some (.inr (Decidable.decide ((↑list0.length:Int)≤4)))
 else
 some (.inr Bool.false)
def Zdn (list0:List Int):Option Bool :=
 Zr (fun v=>Zck list0 v.1) ((0:Int),())
def c59:Ctr:=D1 (.sl Iq) (.bool) Zdn
def Zcj (t0:Zx) (i0:Int):Option ((Int×Unit) ⊕ Bool) :=
 if i0<(↑(List.length (Zx.Values t0)):Int) then
 (atI (Zx.Values t0) i0).bind fun x0 =>
 (ZV x0 (-1000000) 1000000).bind fun l01In0 =>
 if l01In0=true then
 some (.inl (Wq (i0+1),()))
 else
 some (.inr Bool.false)
 else
 some (.inr Bool.true)
def Ze5 (t0:Zx):Option Bool :=
 (Zdn (Zx.ZhL t0)).bind fun l02Axis0 =>
 if l02Axis0=true then
 (Zdn (Zx.Loads t0)).bind fun l02Axis1 =>
 if l02Axis1=true then
 if (↑(List.length (Zx.Values t0)):Int)=Wq ((↑(List.length (Zx.ZhL t0)):Int)*(↑(List.length (Zx.Loads t0)):Int)) then
 Zr (fun v=>Zcj t0 v.1) ((0:Int),())
 else
 some Bool.false
 else
 some Bool.false
 else
 some Bool.false
def c60:Ctr:=D1 (YO) (.bool) Ze5
def QU (t0:Zx) (i0:Int) (c0:Int) (c1:Int):Option ((Int×Int×Int×Unit) ⊕ (ZH×Int)) :=
 if i0<(↑(List.length (Zx.Values t0)):Int) then
 (atI (Zx.Values t0) i0).bind fun x1 =>
 some (.inl (Wq (i0+1),Min.min c0 x1,Max.max c1 x1,()))
 else
 some (.inr ((c0,c1,()),0))
def Za8 (t0:Zx):Option (ZH×Int) :=
 (Ze5 t0).bind fun IsTable0 =>
 if IsTable0=true then
 (atI (Zx.Values t0) 0).bind fun x0 =>
 Zr (fun v=>QU t0 v.1 v.2.1 v.2.2.1) ((1:Int),x0,x0,())
 else
 some ((0,0,()),1)
def c61:Ctr:=⟨[.dat (YO)],[.dat (Zgy),.dat Iq],fun a K=>splitK a fun t0 a=>Xb (Za8 t0) fun r=>K (r.1,r.2,()) ()⟩
def ZaO (list0:List Zx) (positive0:Bool) (i0:Int):Option ((Int×Unit) ⊕ Bool) :=
 if i0<2 then
 (atI list0 i0).bind fun x0 =>
 (Za8 x0).bind fun TableBounds0 =>
 if TableBounds0.snd=0 then
 if positive0=true then
 if TableBounds0.fst.fst<0 then
 some (.inr Bool.false)
 else
 some (.inl (Wq (i0+1),()))
 else
 some (.inl (Wq (i0+1),()))
 else
 some (.inr Bool.false)
 else
 some (.inr Bool.true)
def Yp (list0:List Zx) (positive0:Bool):Option Bool :=
 if (↑list0.length:Int)=2 then
 Zr (fun v=>ZaO list0 positive0 v.1) ((0:Int),())
 else
 some Bool.false
def c62:Ctr:=D2 (.sl (YO)) (.bool) (.bool) Yp
def Zgw (a0:Zi) (a1:ZB):Option Bool :=
 (ZV (ZB.From a1) 0 (Wq (Wq ((↑(List.length (Zi.YB a0)):Int)-1)-1))).bind fun l01In0 =>
 if l01In0=true then
 (ZV (ZB.To a1) 0 (Wq ((↑(List.length (Zi.YB a0)):Int)-1))).bind fun l01In1 =>
 if l01In1=true then
 (atI (Zi.YB a0) (ZB.From a1)).bind fun x0 =>
 if ZB.Kind a1=1 then
 if (Yq.Clock x0)=true then
 some Bool.false
 else
 if ZB.To a1=Wq ((↑(List.length (Zi.YB a0)):Int)-1) then
 (ZV (ZB.ZbM a1) 1 3).bind fun l01In2 =>
 if l01In2=true then
 (Yp (ZB.Delay a1) Bool.true).bind fun l03Tables0 =>
 if l03Tables0=true then
 (Yp (ZB.ZaY a1) Bool.true).bind fun l03Tables1 =>
 some l03Tables1
 else
 some Bool.false
 else
 some Bool.false
 else
 some Bool.false
 else
 if ZB.Kind a1=2 then
 if ZB.Kind a1=2 then
 if (Yq.Clock x0)=true then
 if ZB.To a1=Wq ((↑(List.length (Zi.YB a0)):Int)-1) then
 if ZB.ZbM a1=0 then
 (Yp (ZB.Delay a1) Bool.true).bind fun l03Tables0 =>
 if l03Tables0=true then
 (Yp (ZB.ZaY a1) Bool.true).bind fun l03Tables1 =>
 some l03Tables1
 else
 some Bool.false
 else
 some Bool.false
 else
 some Bool.false
 else
 some Bool.false
 else
 if ZB.Kind a1=4 then
 if ZB.Kind a1=4 then
 if (Yq.Clock x0)=true then
 if ZB.To a1<Wq ((↑(List.length (Zi.YB a0)):Int)-1) then
 (atI (Zi.YB a0) (ZB.To a1)).bind fun x1 =>
 if (Yq.Clock x1)=true then
 some Bool.false
 else
 if ZB.ZbM a1=0 then
 (Yp (ZB.Delay a1) Bool.false).bind fun l03Tables0 =>
 if l03Tables0=true then
 some (Decidable.decide ((↑(List.length (ZB.ZaY a1)):Int)=0))
 else
 some Bool.false
 else
 some Bool.false
 else
 some Bool.false
 else
 some Bool.false
 else
 some Bool.false
 else
 if ZB.Kind a1=5 then
 if (Yq.Clock x0)=true then
 if ZB.To a1<Wq ((↑(List.length (Zi.YB a0)):Int)-1) then
 (atI (Zi.YB a0) (ZB.To a1)).bind fun x1 =>
 if (Yq.Clock x1)=true then
 some Bool.false
 else
 if ZB.ZbM a1=0 then
 (Yp (ZB.Delay a1) Bool.false).bind fun l03Tables0 =>
 if l03Tables0=true then
 some (Decidable.decide ((↑(List.length (ZB.ZaY a1)):Int)=0))
 else
 some Bool.false
 else
 some Bool.false
 else
 some Bool.false
 else
 some Bool.false
 else
 some Bool.false
 else
 if ZB.Kind a1=3 then
 if (Yq.Clock x0)=true then
 if ZB.To a1=Wq ((↑(List.length (Zi.YB a0)):Int)-1) then
 if ZB.ZbM a1=0 then
 (Yp (ZB.Delay a1) Bool.true).bind fun l03Tables0 =>
 if l03Tables0=true then
 (Yp (ZB.ZaY a1) Bool.true).bind fun l03Tables1 =>
 some l03Tables1
 else
 some Bool.false
 else
 some Bool.false
 else
 some Bool.false
 else
 some Bool.false
 else
 if ZB.Kind a1=4 then
 if ZB.Kind a1=4 then
 if (Yq.Clock x0)=true then
 if ZB.To a1<Wq ((↑(List.length (Zi.YB a0)):Int)-1) then
 (atI (Zi.YB a0) (ZB.To a1)).bind fun x1 =>
 if (Yq.Clock x1)=true then
 some Bool.false
 else
 if ZB.ZbM a1=0 then
 (Yp (ZB.Delay a1) Bool.false).bind fun l03Tables0 =>
 if l03Tables0=true then
 some (Decidable.decide ((↑(List.length (ZB.ZaY a1)):Int)=0))
 else
 some Bool.false
 else
 some Bool.false
 else
 some Bool.false
 else
 some Bool.false
 else
 some Bool.false
 else
 if ZB.Kind a1=5 then
 if (Yq.Clock x0)=true then
 if ZB.To a1<Wq ((↑(List.length (Zi.YB a0)):Int)-1) then
 (atI (Zi.YB a0) (ZB.To a1)).bind fun x1 =>
 if (Yq.Clock x1)=true then
 some Bool.false
 else
 if ZB.ZbM a1=0 then
 (Yp (ZB.Delay a1) Bool.false).bind fun l03Tables0 =>
 if l03Tables0=true then
 some (Decidable.decide ((↑(List.length (ZB.ZaY a1)):Int)=0))
 else
 some Bool.false
 else
 some Bool.false
 else
 some Bool.false
 else
 some Bool.false
 else
 some Bool.false
 else
 some Bool.false
 else
 some Bool.false
def c63:Ctr:=D2 (Qf) (ZdY) (.bool) Zgw
def Jb (c0:Zi) (i0:Int) (l0:List Int):Option ((Int×(List Int)×Unit) ⊕ List Int) :=
 if i0<(↑(List.length (Zi.Zaf c0)):Int) then
 (atI (Zi.Zaf c0) i0).bind fun x0 =>
 (atI l0 (ZB.Kind x0)).bind fun x1 =>
 some (.inl (Wq (i0+1),List.set l0 (Int.toNat (ZB.Kind x0)) (Wq (x1+1)),()))
 else
 some (.inr l0)
def ZdT (c0:Zi):Option (List Int) :=
 Zr (fun v=>Jb c0 v.1 v.2.1) ((0:Int),List.replicate (Int.toNat (6:Int)) (0:Int),())
def c64:Ctr:=⟨[.dat (Qf)],[.own (.ol 2 (.flat Iq))],fun a K=>splitK a fun c0 a=>Xb (ZdT c0) fun r=>K (r,()) ()⟩
def Zay (a0:Zi) (v0:Int) (x0:ZB) (v1:Int):Option ((Int×Unit) ⊕ ((Int×Unit) ⊕ Bool)) :=
 if v1<v0 then
 (atI (Zi.Zaf a0) v1).bind fun x1 =>
 if ZB.Kind x1=ZB.Kind x0 then
 if ZB.From x1=ZB.From x0 then
 if ZB.To x1=ZB.To x0 then
 some (.inr (.inr Bool.false))
 else
 some (.inl (Wq (v1+1),()))
 else
 some (.inl (Wq (v1+1),()))
 else
 some (.inl (Wq (v1+1),()))
 else
 some (.inr (.inl (Wq (v0+1),())))
def Zaz (a0:Zi) (l03Pins0:Int×Bool) (v1:Int):Option ((Int×Unit) ⊕ ((Int×Unit) ⊕ Bool)) :=
 if v1<(↑(List.length (Zi.Truth a0)):Int) then
 (atI (Zi.Truth a0) v1).bind fun x0 =>
 (ZV x0 0 1).bind fun l01In2 =>
 if l01In2=true then
 some (.inl (Wq (v1+1),()))
 else
 some (.inr (.inr Bool.false))
 else
 if l03Pins0.fst=0 then
 Zv ((0:Int)≤IntKind.wrap IntKind.u64 (Wq ((↑(List.length (Zi.YB a0)):Int)-(1:Int)))) <|
 some (.inr (.inr (Decidable.decide ((↑(List.length (Zi.Truth a0)):Int)=Wq (1*2 ^ Min.min (Int.toNat (IntKind.wrap IntKind.u64 (Wq ((↑(List.length (Zi.YB a0)):Int)-1)))) (IntKind.bits IntKind.i64))))))
 else
 some (.inr (.inr Bool.false))
def ZcK (a0:Zi) (l03Pins0:Int×Bool) (v0:Int):Option ((Int×Unit) ⊕ Bool) :=
 if v0<(↑(List.length (Zi.Zaf a0)):Int) then
 (atI (Zi.Zaf a0) v0).bind fun x0 =>
 (Zgw a0 x0).bind fun l03Arc0 =>
 if l03Arc0=true then
 Zr (fun v=>Zay a0 v0 x0 v.1) ((0:Int),())
 else
 some (.inr Bool.false)
 else
 (ZdT a0).bind fun l03Kinds0 =>
 if Zi.Kind a0=1 then
 Zr (fun v=>Zaz a0 l03Pins0 v.1) ((0:Int),())
 else
 if Zi.Kind a0=2 then
 if l03Pins0.fst=1 then
 (atI l03Kinds0 1).bind fun x0 =>
 if x0=0 then
 (atI l03Kinds0 2).bind fun x1 =>
 (atI l03Kinds0 3).bind fun x2 =>
 if (Decidable.decide (0<x1) == Decidable.decide (0<x2))=true then
 some (.inr Bool.false)
 else
 some (.inr (Decidable.decide ((↑(List.length (Zi.Truth a0)):Int)=0)))
 else
 some (.inr Bool.false)
 else
 some (.inr Bool.false)
 else
 if Zi.Kind a0=3 then
 if l03Pins0.fst=1 then
 (atI l03Kinds0 1).bind fun x0 =>
 if 0<x0 then
 (atI l03Kinds0 2).bind fun x1 =>
 if 0<x1 then
 (atI l03Kinds0 3).bind fun x2 =>
 if x2=0 then
 some (.inr (Decidable.decide ((↑(List.length (Zi.Truth a0)):Int)=0)))
 else
 some (.inr Bool.false)
 else
 some (.inr Bool.false)
 else
 some (.inr Bool.false)
 else
 some (.inr Bool.false)
 else
 some (.inr Bool.false)
def Zgu (a0:Zi):Option Bool :=
 (Ze6 a0).bind fun l03Pins0 =>
 if l03Pins0.snd=true then
 (VP (Zi.Name a0)).bind fun l03Name0 =>
 if l03Name0=true then
 if 8<(↑(List.length (Zi.Zaf a0)):Int) then
 some Bool.false
 else
 (ZV (Zi.ZsY a0) 0 100000).bind fun l01In0 =>
 if l01In0=true then
 (ZV (Zi.Zh1 a0) 0 100000).bind fun l01In1 =>
 if l01In1=true then
 Zr (fun v=>ZcK a0 l03Pins0 v.1) ((0:Int),())
 else
 some Bool.false
 else
 some Bool.false
 else
 some Bool.false
 else
 some Bool.false
def c65:Ctr:=D1 (Qf) (.bool) Zgu
def ZaM (l0:Zu) (i0:Int) (x0:Zi) (k0:Int):Option ((Int×Unit) ⊕ ((Int×Unit) ⊕ Bool)) :=
 if k0<i0 then
 (atI (Zu.Cells l0) k0).bind fun x1 =>
 if Zi.Name x1=Zi.Name x0 then
 some (.inr (.inr Bool.false))
 else
 some (.inl (Wq (k0+1),()))
 else
 some (.inr (.inl (Wq (i0+1),())))
def ZaN (l0:Zu) (i0:Int):Option ((Int×Unit) ⊕ Bool) :=
 if i0<(↑(List.length (Zu.Cells l0)):Int) then
 (atI (Zu.Cells l0) i0).bind fun x0 =>
 (Zgu x0).bind fun IsCell0 =>
 if IsCell0=true then
 Zr (fun v=>ZaM l0 i0 x0 v.1) ((0:Int),())
 else
 some (.inr Bool.false)
 else
 some (.inr (Decidable.decide ((↑(List.length (Zu.Cells l0)):Int)≤8)))
def Zda (l0:Zu):Option Bool :=
 Zr (fun v=>ZaN l0 v.1) ((0:Int),())
def c66:Ctr:=D1 (YD) (.bool) Zda
def Zbw (a1:Zf) (v0:Int) (x0:Zk) (v1:Int):Option ((Int×Unit) ⊕ ((Int×Unit) ⊕ Bool)) :=
 if v1<(↑(List.length (Zk.XJ x0)):Int) then
 (atI (Zk.XJ x0) v1).bind fun x2 =>
 (ZV x2 0 (Wq ((↑(List.length (Zf.XJ a1)):Int)-1))).bind fun l01In1 =>
 if l01In1=true then
 some (.inl (Wq (v1+1),()))
 else
 some (.inr (.inr Bool.false))
 else
 some (.inr (.inl (Wq (v0+1),())))
def Zbx (a1:Zf) (v1:Int):Option ((Int×Unit) ⊕ ((Int×Unit) ⊕ Bool)) :=
 if v1<(↑(List.length (Zf.Xe a1)):Int) then
 (atI (Zf.Xe a1) v1).bind fun x0 =>
 (ZV (Ya.Dir x0) 1 2).bind fun l01In0 =>
 if l01In0=true then
 (ZV (Ya.Net x0) 0 (Wq ((↑(List.length (Zf.XJ a1)):Int)-1))).bind fun l01In1 =>
 if l01In1=true then
 some (.inl (Wq (v1+1),()))
 else
 some (.inr (.inr Bool.false))
 else
 some (.inr (.inr Bool.false))
 else
 some (.inr (.inr Bool.true))
def Zby (a0:Zu) (a1:Zf) (v0:Int):Option ((Int×Unit) ⊕ Bool) :=
 if v0<(↑(List.length (Zf.Instances a1)):Int) then
 (atI (Zf.Instances a1) v0).bind fun x0 =>
 (ZV (Zk.Cell x0) 0 (Wq ((↑(List.length (Zu.Cells a0)):Int)-1))).bind fun l01In0 =>
 if l01In0=true then
 (atI (Zu.Cells a0) (Zk.Cell x0)).bind fun x1 =>
 if (↑(List.length (Zk.XJ x0)):Int)=(↑(List.length (Zi.YB x1)):Int) then
 Zr (fun v=>Zbw a1 v0 x0 v.1) ((0:Int),())
 else
 some (.inr Bool.false)
 else
 some (.inr Bool.false)
 else
 Zr (fun v=>Zbx a1 v.1) ((0:Int),())
def ZdU (a0:Zu) (a1:Zf):Option Bool :=
 Zr (fun v=>Zby a0 a1 v.1) ((0:Int),())
def c67:Ctr:=D2 (YD) (YN) (.bool) ZdU
def Zbu (list0:List (List UInt8)) (i0:Int) (x0:List UInt8) (k0:Int):Option ((Int×Unit) ⊕ ((Int×Unit) ⊕ Bool)) :=
 if k0<i0 then
 (atI list0 k0).bind fun x1 =>
 if x1=x0 then
 some (.inr (.inr Bool.false))
 else
 some (.inl (Wq (k0+1),()))
 else
 some (.inr (.inl (Wq (i0+1),())))
def Zbv (list0:List (List UInt8)) (i0:Int):Option ((Int×Unit) ⊕ Bool) :=
 if i0<(↑list0.length:Int) then
 (atI list0 i0).bind fun x0 =>
 (VP x0).bind fun l03Name0 =>
 if l03Name0=true then
 Zr (fun v=>Zbu list0 i0 x0 v.1) ((0:Int),())
 else
 some (.inr Bool.false)
 else
 some (.inr Bool.true)
def ZaB (list0:List (List UInt8)):Option Bool :=
 Zr (fun v=>Zbv list0 v.1) ((0:Int),())
def c68:Ctr:=D1 (.sl (.str)) (.bool) ZaB
def Zbr (l1:List Int) (v6:Int):Option ((Int×Unit) ⊕ ((Int×(List Int)×Unit) ⊕ ((Int×(List Int)×Unit) ⊕ (((List (List UInt8))×Int×Unit) ⊕ (((List (List UInt8))×Int×Unit) ⊕ Bool))))) :=
 if v6<(↑l1.length:Int) then
 (atI l1 v6).bind fun x0 =>
 if x0=1 then
 some (.inl (Wq (v6+1),()))
 else
 some (.inr (.inr (.inr (.inr (.inr Bool.false)))))
 else
 some (.inr (.inr (.inr (.inr (.inr Bool.true)))))
def QK (a1:Zf) (v5:Int) (l1:List Int):Option ((Int×(List Int)×Unit) ⊕ ((Int×(List Int)×Unit) ⊕ (((List (List UInt8))×Int×Unit) ⊕ (((List (List UInt8))×Int×Unit) ⊕ Bool)))) :=
 if v5<(↑(List.length (Zf.Xe a1)):Int) then
 (atI (Zf.Xe a1) v5).bind fun x0 =>
 if Ya.Dir x0=1 then
 (atI l1 (Ya.Net x0)).bind fun x1 =>
 some (.inl (Wq (v5+1),List.set l1 (Int.toNat (Ya.Net x0)) (Wq (x1+1)),()))
 else
 some (.inl (Wq (v5+1),l1,()))
 else
 Zr (fun v=>Zbr l1 v.1) ((0:Int),())
def QL (a1:Zf) (v4:Int) (l0:List Int):Option ((Int×(List Int)×Unit) ⊕ (((List (List UInt8))×Int×Unit) ⊕ (((List (List UInt8))×Int×Unit) ⊕ Bool))) :=
 if v4<(↑(List.length (Zf.Instances a1)):Int) then
 (atI (Zf.Instances a1) v4).bind fun x0 =>
 (atI (Zk.XJ x0) (Wq ((↑(List.length (Zk.XJ x0)):Int)-1))).bind fun x1 =>
 (atI l0 x1).bind fun x2 =>
 some (.inl (Wq (v4+1),List.set l0 (Int.toNat x1) (Wq (x2+1)),()))
 else
 Zr (fun v=>QK a1 v.1 v.2.1) ((0:Int),l0,())
def Zbs (a1:Zf) (v0:List (List UInt8)) (v2:List (List UInt8)) (v3:Int):Option (((List (List UInt8))×Int×Unit) ⊕ (((List (List UInt8))×Int×Unit) ⊕ Bool)) :=
 if v3<(↑(List.length (Zf.Xe a1)):Int) then
 (atI (Zf.Xe a1) v3).bind fun x0 =>
 Zv ((List.length v2+List.length [Ya.Name x0])*(16:Nat)≤(140737488355328:Nat)) <|
 some (.inl (v2++[Ya.Name x0],Wq (v3+(1:Int)),()))
 else
 (ZaB v0).bind fun l05Names0 =>
 if l05Names0=true then
 (ZaB v2).bind fun l05Names1 =>
 if l05Names1=true then
 (ZaB (Zf.XJ a1)).bind fun l05Names2 =>
 if l05Names2=true then
 Zv ((0:Int)≤(↑(List.length (Zf.XJ a1)):Int)) <|
 Zv ((↑(List.length (Zf.XJ a1)):Int)≤(↑(List.length (Zf.XJ a1)):Int)) <|
 Zv ((↑(List.length (Zf.XJ a1)):Int)≤(4611686018427387904:Int)) <|
 Zv ((↑(8:Nat):Int)*(↑(List.length (Zf.XJ a1)):Int)≤(281474976710656:Int)) <|
 Zr (fun v=>QL a1 v.1 v.2.1) ((0:Int),List.replicate (Int.toNat (↑(List.length (Zf.XJ a1)):Int)) (0:Int),())
 else
 some (.inr (.inr Bool.false))
 else
 some (.inr (.inr Bool.false))
 else
 some (.inr (.inr Bool.false))
def Zbt (a1:Zf) (v0:List (List UInt8)) (v1:Int):Option (((List (List UInt8))×Int×Unit) ⊕ Bool) :=
 if v1<(↑(List.length (Zf.Instances a1)):Int) then
 (atI (Zf.Instances a1) v1).bind fun x0 =>
 Zv ((List.length v0+List.length [Zk.Name x0])*(16:Nat)≤(140737488355328:Nat)) <|
 some (.inl (v0++[Zk.Name x0],Wq (v1+(1:Int)),()))
 else
 Zr (fun v=>Zbs a1 v0 v.1 v.2.1) (([]:List (List UInt8)),(0:Int),())
def ZdS (a0:Zu) (a1:Zf):Option Bool :=
 (Zda a0).bind fun IsLibrary0 =>
 if IsLibrary0=true then
 if 14<(↑(List.length (Zf.Instances a1)):Int) then
 some Bool.false
 else
 if 30<(↑(List.length (Zf.XJ a1)):Int) then
 some Bool.false
 else
 if 8<(↑(List.length (Zf.Xe a1)):Int) then
 some Bool.false
 else
 (ZdU a0 a1).bind fun l05Parts0 =>
 if l05Parts0=true then
 Zr (fun v=>Zbt a1 v.1 v.2.1) (([]:List (List UInt8)),(0:Int),())
 else
 some Bool.false
 else
 some Bool.false
def c69:Ctr:=D2 (YD) (YN) (.bool) ZdS
def ZaP (v1:Int) (x0:Zk) (v2:List YF) (v3:Int):Option (((List YF)×Int×Unit) ⊕ (((List YF)×Int×Unit) ⊕ List YF)) :=
 if v3<(↑(List.length (Zk.XJ x0)):Int) then
 (atI (Zk.XJ x0) v3).bind fun x1 =>
 Zv ((List.length v2+List.length [(v1,v3,x1,Decidable.decide (v3=Wq ((↑(List.length (Zk.XJ x0)):Int)-(1:Int))),())])*(32:Nat)≤(140737488355328:Nat)) <|
 some (.inl (v2++[(v1,v3,x1,Decidable.decide (v3=Wq ((↑(List.length (Zk.XJ x0)):Int)-(1:Int))),())],Wq (v3+(1:Int)),()))
 else
 some (.inr (.inl (v2,Wq (v1+1),())))
def ZaQ (a0:Zf) (v2:List YF) (v3:Int):Option (((List YF)×Int×Unit) ⊕ (((List YF)×Int×Unit) ⊕ List YF)) :=
 if v3<(↑(List.length (Zf.Xe a0)):Int) then
 (atI (Zf.Xe a0) v3).bind fun x0 =>
 Zv ((List.length v2+List.length [((-1:Int),v3,Ya.Net x0,Decidable.decide (Ya.Dir x0=(1:Int)),())])*(32:Nat)≤(140737488355328:Nat)) <|
 some (.inl (v2++[((-1:Int),v3,Ya.Net x0,Decidable.decide (Ya.Dir x0=(1:Int)),())],Wq (v3+(1:Int)),()))
 else
 some (.inr (.inr v2))
def ZaR (a0:Zf) (v0:List YF) (v1:Int):Option (((List YF)×Int×Unit) ⊕ List YF) :=
 if v1<(↑(List.length (Zf.Instances a0)):Int) then
 (atI (Zf.Instances a0) v1).bind fun x0 =>
 Zr (fun v=>ZaP v1 x0 v.1 v.2.1) (v0,(0:Int),())
 else
 Zr (fun v=>ZaQ a0 v.1 v.2.1) (v0,(0:Int),())
def Vp (a0:Zf):Option (List YF) :=
 Zr (fun v=>ZaR a0 v.1 v.2.1) (([]:List (Int×Int×Int×Bool×Unit)),(0:Int),())
def c70:Ctr:=⟨[.dat (YN)],[.own (.ol 296 (.flat (ZfA)))],fun a K=>splitK a fun a0 a=>Xb (Vp a0) fun r=>K (r,()) ()⟩
def Zbz (net0:Int) (l05Places0:List YF) (out0:List Int) (i0:Int):Option (((List Int)×Int×Unit) ⊕ List Int) :=
 if i0<(↑l05Places0.length:Int) then
 (atI l05Places0 i0).bind fun x0 =>
 if YF.net x0=net0 then
 if (YF.drives x0)=true then
 some (.inl (out0,Wq (i0+1),()))
 else
 Zv ((List.length out0+List.length [i0])*(8:Nat)≤(140737488355328:Nat)) <|
 some (.inl (out0++[i0],Wq (i0+(1:Int)),()))
 else
 some (.inl (out0,Wq (i0+1),()))
 else
 some (.inr out0)
def ZdV (d0:Zf) (net0:Int):Option (List Int) :=
 (Vp d0).bind fun l05Places0 =>
 Zr (fun v=>Zbz net0 l05Places0 v.1 v.2.1) (([]:List Int),(0:Int),())
def c71:Ctr:=⟨[.dat (YN),.dat Iq],[.own (.ol 2 (.flat Iq))],fun a K=>splitK a fun d0 a=>splitK a fun net0 a=>Xb (ZdV d0 net0) fun r=>K (r,()) ()⟩
def ZcL (a0:Zy) (v1:Int):Option ((Int×Unit) ⊕ ((Int×Unit) ⊕ Bool)) :=
 if v1<(↑(List.length (Zy.ZjU a0)):Int) then
 (atI (Zy.ZjU a0) v1).bind fun x0 =>
 (ZV x0 0 (Wq ((↑(List.length (Zy.Parent a0)):Int)-1))).bind fun l01In0 =>
 if l01In0=true then
 some (.inl (Wq (v1+1),()))
 else
 some (.inr (.inr Bool.false))
 else
 some (.inr (.inr Bool.true))
def ZcM (a0:Zy) (v0:Int):Option ((Int×Unit) ⊕ Bool) :=
 if v0<(↑(List.length (Zy.Parent a0)):Int) then
 (atI (Zy.Cap a0) v0).bind fun x0 =>
 (ZV x0 0 500).bind fun l01In0 =>
 if l01In0=true then
 (atI (Zy.Res a0) v0).bind fun x1 =>
 (ZV x1 0 1000).bind fun l01In1 =>
 if l01In1=true then
 if v0=0 then
 (atI (Zy.Parent a0) v0).bind fun x2 =>
 if x2=(-1) then
 if x1=0 then
 if 0<v0 then
 (ZV x2 0 (Wq (v0-1))).bind fun l01In2 =>
 if l01In2=true then
 some (.inl (Wq (v0+1),()))
 else
 some (.inr Bool.false)
 else
 some (.inl (Wq (v0+1),()))
 else
 some (.inr Bool.false)
 else
 some (.inr Bool.false)
 else
 if 0<v0 then
 (atI (Zy.Parent a0) v0).bind fun x2 =>
 (ZV x2 0 (Wq (v0-1))).bind fun l01In2 =>
 if l01In2=true then
 some (.inl (Wq (v0+1),()))
 else
 some (.inr Bool.false)
 else
 some (.inl (Wq (v0+1),()))
 else
 some (.inr Bool.false)
 else
 some (.inr Bool.false)
 else
 Zr (fun v=>ZcL a0 v.1) ((0:Int),())
def Zgv (a0:Zy) (a1:Int):Option Bool :=
 if (↑(List.length (Zy.Parent a0)):Int)<1 then
 some Bool.false
 else
 if 8<(↑(List.length (Zy.Parent a0)):Int) then
 some Bool.false
 else
 if (↑(List.length (Zy.Res a0)):Int)=(↑(List.length (Zy.Parent a0)):Int) then
 if (↑(List.length (Zy.Cap a0)):Int)=(↑(List.length (Zy.Parent a0)):Int) then
 if (↑(List.length (Zy.ZjU a0)):Int)=a1 then
 Zr (fun v=>ZcM a0 v.1) ((0:Int),())
 else
 some Bool.false
 else
 some Bool.false
 else
 some Bool.false
def c72:Ctr:=D2 (Vr) Iq (.bool) Zgv
def Zcg (b0:Zn) (net0:Int):Option ((Int×Unit) ⊕ Bool) :=
 if net0<(↑(List.length (Zn.XQ b0)):Int) then
 (atI (Zn.XQ b0) net0).bind fun x0 =>
 (ZdV (Zn.Design b0) net0).bind fun l05Sinks0 =>
 (Zgv x0 (↑l05Sinks0.length:Int)).bind fun IsWire0 =>
 if IsWire0=true then
 some (.inl (Wq (net0+1),()))
 else
 some (.inr Bool.false)
 else
 some (.inr Bool.true)
def Zdm (b0:Zn):Option Bool :=
 (ZdS (Zn.Library b0) (Zn.Design b0)).bind fun IsDesign0 =>
 if IsDesign0=true then
 if (↑(List.length (Zn.XQ b0)):Int)=(↑(List.length (Zf.XJ (Zn.Design b0))):Int) then
 Zr (fun v=>Zcg b0 v.1) ((0:Int),())
 else
 some Bool.false
 else
 some Bool.false
def c73:Ctr:=D1 (Y2) (.bool) Zdm
def ZdW (c0:Zb):Option Bool :=
 (VP (Zb.Name c0)).bind fun l03Name0 =>
 if l03Name0=true then
 if 0≤Zb.Place c0 then
 (ZV (Zb.Yk c0) 0 100000).bind fun l01In0 =>
 if l01In0=true then
 (ZV (Zb.YZ c0) (Zb.Yk c0) 100000).bind fun l01In1 =>
 if l01In1=true then
 (ZV (Zb.JK c0) 0 100000).bind fun l01In2 =>
 some l01In2
 else
 some Bool.false
 else
 some Bool.false
 else
 some Bool.false
 else
 some Bool.false
def c74:Ctr:=D1 (YA) (.bool) ZdW
def Zcn (c0:Zb):Option Bool :=
 (ZV (Zb.YE c0) 2 100000).bind fun l01In0 =>
 if l01In0=true then
 (ZV (Zb.Y7 c0) 0 (Wq (Zb.YE c0-1))).bind fun l01In1 =>
 if l01In1=true then
 (ZV (Zb.Xv c0) 0 (Wq (Zb.YE c0-1))).bind fun l01In2 =>
 if l01In2=true then
 if Zb.Y7 c0=Zb.Xv c0 then
 some Bool.false
 else
 if Zb.Divide c0=1 then
 some (!Zb.Zdy c0)
 else
 some Bool.false
 else
 some Bool.false
 else
 some Bool.false
 else
 some Bool.false
def c75:Ctr:=D1 (YA) (.bool) Zcn
def Zab (rec0:(List Zb)→Int→Option Yw) (list0:List Zb) (k0:Int):Option Yw :=
 (atI list0 k0).bind fun x0 =>
 if Zb.Source x0<0 then
 some (Zb.YE x0,Zb.Y7 x0,Zb.Xv x0,())
 else
 (rec0 list0 (Zb.Source x0)).bind fun r0 =>
 if 1<Zb.Divide x0 then
 if (Zb.Zdy x0)=true then
 some (Wq (Yw.period r0*Zb.Divide x0),Wq (Yw.rise r0+Wq (Wq (Int.tdiv (Zb.Divide x0) 2)*Yw.period r0)),Yw.rise r0,())
 else
 some (Wq (Yw.period r0*Zb.Divide x0),Yw.rise r0,Wq (Yw.rise r0+Wq (Wq (Int.tdiv (Zb.Divide x0) 2)*Yw.period r0)),())
 else
 if (Zb.Zdy x0)=true then
 some (Yw.period r0,Yw.fall r0,Yw.rise r0,())
 else
 some r0
def Zac:Nat→(List Zb)→Int→Option Yw
 | 0=>fun _ _=>none
 | n+1=>Zab (Zac n)
def Zd4 (list0:List Zb) (k0:Int):Option Yw:=ZtW (fun n=>Zac n list0 k0)
def ZdF (rec0:(List Zb)→Int→Option Yw):Ctr:=⟨[.dat (.sl (YA)),.dat Iq],[.dat (ZqQ)],fun a K=>splitK a fun list0 a=>splitK a fun k0 a=>Xb (rec0 list0 k0) fun r=>K (r,()) ()⟩
def c76:Ctr:=ZdF Zd4
def Ja (a0:List Zb) (v0:Int) (x0:Zb) (v1:Int):Option ((Int×Unit) ⊕ ((Int×Unit) ⊕ Bool)) :=
 if v1<v0 then
 (atI a0 v1).bind fun x1 =>
 if Zb.Name x1=Zb.Name x0 then
 some (.inr (.inr Bool.false))
 else
 some (.inl (Wq (v1+1),()))
 else
 if Zb.Source x0=(-1) then
 (Zcn x0).bind fun l14Primary0 =>
 if l14Primary0=true then
 some (.inr (.inl (Wq (v0+1),())))
 else
 some (.inr (.inr Bool.false))
 else
 (ZV (Zb.Source x0) 0 (Wq (v0-1))).bind fun l01In0 =>
 if l01In0=true then
 (ZV (Zb.Divide x0) 1 8).bind fun l01In1 =>
 if l01In1=true then
 if Zb.YE x0=0 then
 if Zb.Y7 x0=0 then
 if Zb.Xv x0=0 then
 (Zd4 a0 v0).bind fun l14Of0 =>
 if 100000<Yw.period l14Of0 then
 some (.inr (.inr Bool.false))
 else
 some (.inr (.inl (Wq (v0+1),())))
 else
 some (.inr (.inr Bool.false))
 else
 some (.inr (.inr Bool.false))
 else
 some (.inr (.inr Bool.false))
 else
 some (.inr (.inr Bool.false))
 else
 some (.inr (.inr Bool.false))
def Zbp (a0:List Zb) (v0:Int):Option ((Int×Unit) ⊕ Bool) :=
 if v0<(↑a0.length:Int) then
 if (↑a0.length:Int)≤6 then
 (atI a0 v0).bind fun x0 =>
 (ZdW x0).bind fun l14Plain0 =>
 if l14Plain0=true then
 Zr (fun v=>Ja a0 v0 x0 v.1) ((0:Int),())
 else
 some (.inr Bool.false)
 else
 some (.inr (Decidable.decide ((↑a0.length:Int)≤6)))
 else
 some (.inr (Decidable.decide ((↑a0.length:Int)≤6)))
def ZdQ (a0:List Zb):Option Bool :=
 Zr (fun v=>Zbp a0 v.1) ((0:Int),())
def c77:Ctr:=D1 (.sl (YA)) (.bool) ZdQ
def Zbq (c0:Zq) (i0:Int):Option ((Int×Unit) ⊕ Bool) :=
 if i0<(↑(List.length [Zq.X0 c0,Zq.Jz c0,Zq.JL c0,Zq.ZcQ c0]):Int) then
 (atI ([Zq.X0 c0,Zq.Jz c0,Zq.JL c0,Zq.ZcQ c0]) i0).bind fun x0 =>
 (ZV x0 100 5000).bind fun l01In0 =>
 if l01In0=true then
 some (.inl (Wq (i0+1),()))
 else
 some (.inr Bool.false)
 else
 (VP (Zq.Name c0)).bind fun l03Name0 =>
 if l03Name0=true then
 if Zq.X0 c0≤Zq.Jz c0 then
 some (.inr (Decidable.decide (Zq.JL c0≤Zq.ZcQ c0)))
 else
 some (.inr Bool.false)
 else
 some (.inr Bool.false)
def ZdR (c0:Zq):Option Bool :=
 Zr (fun v=>Zbq c0 v.1) ((0:Int),())
def c78:Ctr:=D1 (Yo) (.bool) ZdR
def Zad (list0:List Zq) (i0:Int) (x0:Zq) (k0:Int):Option ((Int×Unit) ⊕ ((Int×Unit) ⊕ Bool)) :=
 if k0<i0 then
 (atI list0 k0).bind fun x1 =>
 if Zq.Name x1=Zq.Name x0 then
 some (.inr (.inr Bool.false))
 else
 some (.inl (Wq (k0+1),()))
 else
 some (.inr (.inl (Wq (i0+1),())))
def Zae (list0:List Zq) (i0:Int):Option ((Int×Unit) ⊕ Bool) :=
 if i0<(↑list0.length:Int) then
 (atI list0 i0).bind fun x0 =>
 (ZdR x0).bind fun IsCorner0 =>
 if IsCorner0=true then
 Zr (fun v=>Zad list0 i0 x0 v.1) ((0:Int),())
 else
 some (.inr Bool.false)
 else
 some (.inr (Decidable.decide ((↑list0.length:Int)≤4)))
def Zco (list0:List Zq):Option Bool :=
 Zr (fun v=>Zae list0 v.1) ((0:Int),())
def c79:Ctr:=D1 (.sl (Yo)) (.bool) Zco
def ZdX (b0:Zn):Option Int :=
 (Vp (Zn.Design b0)).bind fun l05Places0 =>
 some (↑l05Places0.length:Int)
def c80:Ctr:=D1 (Y2) Iq ZdX
def ZaS (b0:Zn) (list0:List Int) (sorted0:Bool) (i0:Int):Option ((Int×Unit) ⊕ Bool) :=
 if i0<(↑list0.length:Int) then
 (atI list0 i0).bind fun x0 =>
 (ZdX b0).bind fun l22Count0 =>
 (ZV x0 0 (Wq (l22Count0-1))).bind fun l01In0 =>
 if l01In0=true then
 if sorted0=true then
 if 0<i0 then
 (atI list0 (Wq (i0-1))).bind fun x1 =>
 if x0≤x1 then
 some (.inr Bool.false)
 else
 some (.inl (Wq (i0+1),()))
 else
 some (.inl (Wq (i0+1),()))
 else
 some (.inl (Wq (i0+1),()))
 else
 some (.inr Bool.false)
 else
 some (.inr (Decidable.decide ((↑list0.length:Int)≤4)))
def Js (b0:Zn) (list0:List Int) (sorted0:Bool):Option Bool :=
 Zr (fun v=>ZaS b0 list0 sorted0 v.1) ((0:Int),())
def c81:Ctr:=D3 (Y2) (.sl Iq) (.bool) (.bool) Js
def Za7 (b0:Zn) (e0:Zh):Option Bool :=
 (Zdm b0).bind fun IsBlock0 =>
 if IsBlock0=true then
 (Js b0 (Zh.From e0) Bool.true).bind fun l22Places0 =>
 if l22Places0=true then
 (Js b0 (Zh.Through e0) Bool.false).bind fun l22Places1 =>
 if l22Places1=true then
 (Js b0 (Zh.To e0) Bool.true).bind fun l22Places2 =>
 if l22Places2=true then
 if Zh.Kind e0=1 then
 some (Decidable.decide (Zh.Value e0=0))
 else
 if Zh.Kind e0=2 then
 (ZV (Zh.Value e0) 1 10).bind fun l01In0 =>
 some l01In0
 else
 if Zh.Kind e0=3 then
 if Zh.Kind e0=3 then
 (ZV (Zh.Value e0) 0 1000000000).bind fun l01In0 =>
 some l01In0
 else
 some Bool.false
 else
 if Zh.Kind e0=4 then
 (ZV (Zh.Value e0) 0 1000000000).bind fun l01In0 =>
 some l01In0
 else
 some Bool.false
 else
 some Bool.false
 else
 some Bool.false
 else
 some Bool.false
 else
 some Bool.false
def c82:Ctr:=D2 (Y2) (ZG) (.bool) Za7
def Zcm (s0:ZH):Option Bool :=
 if 0≤ZH.Early s0 then
 if ZH.Early s0≤ZH.Late s0 then
 some (Decidable.decide (ZH.Late s0≤1000000))
 else
 some Bool.false
 else
 some Bool.false
def c83:Ctr:=D1 (Zgy) (.bool) Zcm
def Jc (a1:Zm) (a2:List Zd) (a3:Bool) (l05Places0:List YF) (v0:Int):Option ((Int×Unit) ⊕ Bool) :=
 if v0<(↑a2.length:Int) then
 (atI a2 v0).bind fun x0 =>
 (ZV (Zd.Place x0) 0 (Wq ((↑l05Places0.length:Int)-1))).bind fun l01In0 =>
 if l01In0=true then
 if 0<v0 then
 (atI a2 (Wq (v0-1))).bind fun x1 =>
 if Zd.Place x0≤Zd.Place x1 then
 some (.inr Bool.false)
 else
 (ZV (Zd.Clock x0) 0 (Wq ((↑(List.length (Zm.ZE a1)):Int)-1))).bind fun l01In1 =>
 if l01In1=true then
 (atI l05Places0 (Zd.Place x0)).bind fun x2 =>
 if 0≤YF.instance x2 then
 some (.inr Bool.false)
 else
 if (YF.drives x2 == a3)=true then
 if ZH.Late (Zd.Delay x0)<ZH.Early (Zd.Delay x0) then
 some (.inr Bool.false)
 else
 if ZH.Early (Zd.Delay x0)<(-100000) then
 some (.inr Bool.false)
 else
 if 100000<ZH.Late (Zd.Delay x0) then
 some (.inr Bool.false)
 else
 (Zcm (Zd.ZaY x0)).bind fun l12Slews0 =>
 if l12Slews0=true then
 if a3=true then
 some (.inl (Wq (v0+1),()))
 else
 if (Decidable.decide (ZH.Early (Zd.ZaY x0)=0)&&Decidable.decide (ZH.Late (Zd.ZaY x0)=0))=true then
 some (.inl (Wq (v0+1),()))
 else
 some (.inr Bool.false)
 else
 some (.inr Bool.false)
 else
 some (.inr Bool.false)
 else
 some (.inr Bool.false)
 else
 (ZV (Zd.Clock x0) 0 (Wq ((↑(List.length (Zm.ZE a1)):Int)-1))).bind fun l01In1 =>
 if l01In1=true then
 (atI l05Places0 (Zd.Place x0)).bind fun x1 =>
 if 0≤YF.instance x1 then
 some (.inr Bool.false)
 else
 if (YF.drives x1 == a3)=true then
 if ZH.Late (Zd.Delay x0)<ZH.Early (Zd.Delay x0) then
 some (.inr Bool.false)
 else
 if ZH.Early (Zd.Delay x0)<(-100000) then
 some (.inr Bool.false)
 else
 if 100000<ZH.Late (Zd.Delay x0) then
 some (.inr Bool.false)
 else
 (Zcm (Zd.ZaY x0)).bind fun l12Slews0 =>
 if l12Slews0=true then
 if a3=true then
 some (.inl (Wq (v0+1),()))
 else
 if (Decidable.decide (ZH.Early (Zd.ZaY x0)=0)&&Decidable.decide (ZH.Late (Zd.ZaY x0)=0))=true then
 some (.inl (Wq (v0+1),()))
 else
 some (.inr Bool.false)
 else
 some (.inr Bool.false)
 else
 some (.inr Bool.false)
 else
 some (.inr Bool.false)
 else
 some (.inr Bool.false)
 else
 some (.inr Bool.true)
def VG (a0:Zn) (a1:Zm) (a2:List Zd) (a3:Bool):Option Bool :=
 (Vp (Zn.Design a0)).bind fun l05Places0 =>
 Zr (fun v=>Jc a1 a2 a3 l05Places0 v.1) ((0:Int),())
def c84:Ctr:=D4 (Y2) (XG) (.sl (ZQ)) (.bool) (.bool) VG
def Zch (a0:Zn) (a1:Zm) (v1:Int):Option ((Int×Unit) ⊕ ((Int×Unit) ⊕ Bool)) :=
 if v1<(↑(List.length (Zm.Exceptions a1)):Int) then
 (atI (Zm.Exceptions a1) v1).bind fun x0 =>
 (Za7 a0 x0).bind fun IsException0 =>
 if IsException0=true then
 some (.inl (Wq (v1+1),()))
 else
 some (.inr (.inr Bool.false))
 else
 (VG a0 a1 (Zm.QE a1) Bool.true).bind fun l31Externals0 =>
 if l31Externals0=true then
 (VG a0 a1 (Zm.Zdo a1) Bool.false).bind fun l31Externals1 =>
 some (.inr (.inr l31Externals1))
 else
 some (.inr (.inr Bool.false))
def Zci (a0:Zn) (a1:Zm) (v0:Int):Option ((Int×Unit) ⊕ Bool) :=
 if v0<(↑(List.length (Zm.ZE a1)):Int) then
 (atI (Zm.ZE a1) v0).bind fun x0 =>
 (Vp (Zn.Design a0)).bind fun l05Places0 =>
 if (↑l05Places0.length:Int)≤Zb.Place x0 then
 some (.inr Bool.false)
 else
 some (.inl (Wq (v0+1),()))
 else
 Zr (fun v=>Zch a0 a1 v.1) ((0:Int),())
def Ze4 (a0:Zn) (a1:Zm):Option Bool :=
 (Zdm a0).bind fun IsBlock0 =>
 if IsBlock0=true then
 (ZdQ (Zm.ZE a1)).bind fun IsClocks0 =>
 if IsClocks0=true then
 if 6<(↑(List.length (Zm.Exceptions a1)):Int) then
 some Bool.false
 else
 (Zco (Zm.Zct a1)).bind fun l31Corners0 =>
 if l31Corners0=true then
 Zr (fun v=>Zci a0 a1 v.1) ((0:Int),())
 else
 some Bool.false
 else
 some Bool.false
 else
 some Bool.false
def c85:Ctr:=D2 (Y2) (XG) (.bool) Ze4
def ZaD (list0:List Zl) (rise0:Zl) (fall0:Zl) (at0:Int):Option ((Int×Unit) ⊕ List Zl) :=
 if at0<(↑list0.length:Int) then
 (atI list0 at0).bind fun x0 =>
 if Zl.Node x0<Zl.Node rise0 then
 some (.inl (Wq (at0+1),()))
 else
 if at0<(↑list0.length:Int) then
 if Zl.Node x0=Zl.Node rise0 then
 some (.inr list0)
 else
 Zv ((0:Int)≤at0) <|
 Zv (at0≤(↑list0.length:Int)) <|
 Zv ((↑list0.length:Int)≤(↑list0.length:Int)) <|
 Zv ((List.length [rise0,fall0]+List.length (List.take (Int.toNat (↑list0.length:Int)-Int.toNat at0) (List.drop (Int.toNat at0) list0)))*(40:Nat)≤(140737488355328:Nat)) <|
 Zv ((List.length (([]:List (Int×ZH×ZH×Unit)))+List.length (List.take (Int.toNat at0-Int.toNat (0:Int)) (List.drop (Int.toNat (0:Int)) list0)))*(40:Nat)≤(140737488355328:Nat)) <|
 Zv ((List.length (([]:List (Int×ZH×ZH×Unit))++List.take (Int.toNat at0-Int.toNat (0:Int)) (List.drop (Int.toNat (0:Int)) list0))+List.length ([rise0,fall0]++List.take (Int.toNat (↑list0.length:Int)-Int.toNat at0) (List.drop (Int.toNat at0) list0)))*(40:Nat)≤(140737488355328:Nat)) <|
 some (.inr (([]:List (Int×ZH×ZH×Unit))++List.take (Int.toNat at0-Int.toNat (0:Int)) (List.drop (Int.toNat (0:Int)) list0)++([rise0,fall0]++List.take (Int.toNat (↑list0.length:Int)-Int.toNat at0) (List.drop (Int.toNat at0) list0))))
 else
 Zv ((0:Int)≤at0) <|
 Zv (at0≤(↑list0.length:Int)) <|
 Zv ((↑list0.length:Int)≤(↑list0.length:Int)) <|
 Zv ((List.length [rise0,fall0]+List.length (List.take (Int.toNat (↑list0.length:Int)-Int.toNat at0) (List.drop (Int.toNat at0) list0)))*(40:Nat)≤(140737488355328:Nat)) <|
 Zv ((List.length (([]:List (Int×ZH×ZH×Unit)))+List.length (List.take (Int.toNat at0-Int.toNat (0:Int)) (List.drop (Int.toNat (0:Int)) list0)))*(40:Nat)≤(140737488355328:Nat)) <|
 Zv ((List.length (([]:List (Int×ZH×ZH×Unit))++List.take (Int.toNat at0-Int.toNat (0:Int)) (List.drop (Int.toNat (0:Int)) list0))+List.length ([rise0,fall0]++List.take (Int.toNat (↑list0.length:Int)-Int.toNat at0) (List.drop (Int.toNat at0) list0)))*(40:Nat)≤(140737488355328:Nat)) <|
 some (.inr (([]:List (Int×ZH×ZH×Unit))++List.take (Int.toNat at0-Int.toNat (0:Int)) (List.drop (Int.toNat (0:Int)) list0)++([rise0,fall0]++List.take (Int.toNat (↑list0.length:Int)-Int.toNat at0) (List.drop (Int.toNat at0) list0))))
 else
 if at0<(↑list0.length:Int) then
 (atI list0 at0).bind fun x0 =>
 if Zl.Node x0=Zl.Node rise0 then
 some (.inr list0)
 else
 Zv ((0:Int)≤at0) <|
 Zv (at0≤(↑list0.length:Int)) <|
 Zv ((↑list0.length:Int)≤(↑list0.length:Int)) <|
 Zv ((List.length [rise0,fall0]+List.length (List.take (Int.toNat (↑list0.length:Int)-Int.toNat at0) (List.drop (Int.toNat at0) list0)))*(40:Nat)≤(140737488355328:Nat)) <|
 Zv ((List.length (([]:List (Int×ZH×ZH×Unit)))+List.length (List.take (Int.toNat at0-Int.toNat (0:Int)) (List.drop (Int.toNat (0:Int)) list0)))*(40:Nat)≤(140737488355328:Nat)) <|
 Zv ((List.length (([]:List (Int×ZH×ZH×Unit))++List.take (Int.toNat at0-Int.toNat (0:Int)) (List.drop (Int.toNat (0:Int)) list0))+List.length ([rise0,fall0]++List.take (Int.toNat (↑list0.length:Int)-Int.toNat at0) (List.drop (Int.toNat at0) list0)))*(40:Nat)≤(140737488355328:Nat)) <|
 some (.inr (([]:List (Int×ZH×ZH×Unit))++List.take (Int.toNat at0-Int.toNat (0:Int)) (List.drop (Int.toNat (0:Int)) list0)++([rise0,fall0]++List.take (Int.toNat (↑list0.length:Int)-Int.toNat at0) (List.drop (Int.toNat at0) list0))))
 else
 Zv ((0:Int)≤at0) <|
 Zv (at0≤(↑list0.length:Int)) <|
 Zv ((↑list0.length:Int)≤(↑list0.length:Int)) <|
 Zv ((List.length [rise0,fall0]+List.length (List.take (Int.toNat (↑list0.length:Int)-Int.toNat at0) (List.drop (Int.toNat at0) list0)))*(40:Nat)≤(140737488355328:Nat)) <|
 Zv ((List.length (([]:List (Int×ZH×ZH×Unit)))+List.length (List.take (Int.toNat at0-Int.toNat (0:Int)) (List.drop (Int.toNat (0:Int)) list0)))*(40:Nat)≤(140737488355328:Nat)) <|
 Zv ((List.length (([]:List (Int×ZH×ZH×Unit))++List.take (Int.toNat at0-Int.toNat (0:Int)) (List.drop (Int.toNat (0:Int)) list0))+List.length ([rise0,fall0]++List.take (Int.toNat (↑list0.length:Int)-Int.toNat at0) (List.drop (Int.toNat at0) list0)))*(40:Nat)≤(140737488355328:Nat)) <|
 some (.inr (([]:List (Int×ZH×ZH×Unit))++List.take (Int.toNat at0-Int.toNat (0:Int)) (List.drop (Int.toNat (0:Int)) list0)++([rise0,fall0]++List.take (Int.toNat (↑list0.length:Int)-Int.toNat at0) (List.drop (Int.toNat at0) list0))))
def ZbA (list0:List Zl) (rise0:Zl) (fall0:Zl):Option (List Zl) :=
 Zr (fun v=>ZaD list0 rise0 fall0 v.1) ((0:Int),())
def c86:Ctr:=D3 (.sl (Y5)) (Y5) (Y5) (.sl (Y5)) ZbA
def X5 (a0:Zm) (v2:List Zl) (v3:Int):Option (((List Zl)×Int×Unit) ⊕ (((List Zl)×Int×Unit) ⊕ List Zl)) :=
 if v3<(↑(List.length (Zm.QE a0)):Int) then
 (atI (Zm.QE a0) v3).bind fun x0 =>
 (Zd4 (Zm.ZE a0) (Zd.Clock x0)).bind fun l14Of0 =>
 (ZbA v2 (Wq (2*Zd.Place x0),(Wq (Yw.rise l14Of0+ZH.Early (Zd.Delay x0)),Wq (Yw.rise l14Of0+ZH.Late (Zd.Delay x0)),()),x0.snd.snd.snd) (Wq (Wq (2*Zd.Place x0)+1),(Wq (Yw.rise l14Of0+ZH.Early (Zd.Delay x0)),Wq (Yw.rise l14Of0+ZH.Late (Zd.Delay x0)),()),x0.snd.snd.snd)).bind fun l31Put0 =>
 some (.inl (l31Put0,Wq (v3+1),()))
 else
 some (.inr (.inr v2))
def X6 (a0:Zm) (v0:List Zl) (v1:Int):Option (((List Zl)×Int×Unit) ⊕ List Zl) :=
 if v1<(↑(List.length (Zm.ZE a0)):Int) then
 (atI (Zm.ZE a0) v1).bind fun x0 =>
 (Zd4 (Zm.ZE a0) v1).bind fun l14Of0 =>
 (ZbA v0 (Wq (2*Zb.Place x0),(Wq (Yw.rise l14Of0+Zb.Yk x0),Wq (Yw.rise l14Of0+Zb.YZ x0),()),(0,0,()),()) (Wq (Wq (2*Zb.Place x0)+1),(Wq (Yw.fall l14Of0+Zb.Yk x0),Wq (Yw.fall l14Of0+Zb.YZ x0),()),(0,0,()),())).bind fun l31Put0 =>
 some (.inl (l31Put0,Wq (v1+1),()))
 else
 Zr (fun v=>X5 a0 v.1 v.2.1) (v0,(0:Int),())
def Zcp (a0:Zm):Option (List Zl) :=
 Zr (fun v=>X6 a0 v.1 v.2.1) (([]:List (Int×ZH×ZH×Unit)),(0:Int),())
def c87:Ctr:=D1 (XG) (.sl (Y5)) Zcp
def ZaA (b0:Zn) (s0:Zm):Option ((List Zl)×Int) :=
 (Ze4 b0 s0).bind fun IsSetup0 =>
 if IsSetup0=true then
 (Zcp s0).bind fun l31Sources0 =>
 some (l31Sources0,0)
 else
 some (([]:List Zl),(1:Int))
def c88:Ctr:=⟨[.dat (Y2),.dat (XG)],[.dat (.sl (Y5)),.dat Iq],fun a K=>splitK a fun b0 a=>splitK a fun s0 a=>Xb (ZaA b0 s0) fun r=>K (r.1,r.2,()) ()⟩
def ZW (x0:Int) (low0:Int) (high0:Int):Option Bool :=
 if low0≤x0 then
 some (Decidable.decide (x0≤high0))
 else
 some Bool.false
def c89:Ctr:=D3 Iq Iq Iq (.bool) ZW
def ZcC (s0:List UInt8):Option Bool :=
 (ZW (↑s0.length:Int) 1 8).bind fun within0 =>
 if within0=true then
 Zv (List.length s0≤(1000000:Nat)) <|
 if Go.Lib.trimS s0 [(97:UInt8),(98:UInt8),(99:UInt8),(100:UInt8),(101:UInt8),(102:UInt8),(103:UInt8),(104:UInt8),(105:UInt8),(106:UInt8),(107:UInt8),(108:UInt8),(109:UInt8),(110:UInt8),(111:UInt8),(112:UInt8),(113:UInt8),(114:UInt8),(115:UInt8),(116:UInt8),(117:UInt8),(118:UInt8),(119:UInt8),(120:UInt8),(121:UInt8),(122:UInt8),(48:UInt8),(49:UInt8),(50:UInt8),(51:UInt8),(52:UInt8),(53:UInt8),(54:UInt8),(55:UInt8),(56:UInt8),(57:UInt8)]=([]:List UInt8) then
 (atI s0 0).bind fun x0 =>
 some (Decidable.decide ((0:Int)≤Go.Lib.indexByte [(97:UInt8),(98:UInt8),(99:UInt8),(100:UInt8),(101:UInt8),(102:UInt8),(103:UInt8),(104:UInt8),(105:UInt8),(106:UInt8),(107:UInt8),(108:UInt8),(109:UInt8),(110:UInt8),(111:UInt8),(112:UInt8),(113:UInt8),(114:UInt8),(115:UInt8),(116:UInt8),(117:UInt8),(118:UInt8),(119:UInt8),(120:UInt8),(121:UInt8),(122:UInt8)] (Nat.toUInt8 (Int.toNat (↑(UInt8.toNat x0):Int)))))
 else
 some Bool.false
 else
 some Bool.false
def c90:Ctr:=D1 (.str) (.bool) ZcC
def Vw (list0:List Yq):Option Int :=
 some (↑list0.length:Int)
def c91:Ctr:=D1 (.sl (Zdb)) Iq Vw
def XB (s0:List (List UInt8)) (v0:List UInt8) (v1:Int):Option ((Int×Unit) ⊕ Int) :=
 if v1<(↑s0.length:Int) then
 (atI s0 v1).bind fun x0 =>
 if v0=x0 then
 some (.inr v1)
 else
 some (.inl (Wq (v1+1),()))
 else
 some (.inr (-1))
def XA (s0:List (List UInt8)) (v0:List UInt8):Option Int :=
 Zr (fun v=>XB s0 v0 v.1) ((0:Int),())
def c92:Ctr:=D2 (.sl (.str)) (.str) Iq XA
def Xd (s0:List (List UInt8)) (v0:List UInt8):Option Bool :=
 (XA s0 v0).bind fun string0 =>
 some (Decidable.decide (0≤string0))
def c93:Ctr:=D2 (.sl (.str)) (.str) (.bool) Xd
def Zbh (list0:List (List UInt8)) (v0:Int):Option ((Int×Unit) ⊕ Bool) :=
 if v0<(↑list0.length:Int) then
 (atI list0 v0).bind fun x0 =>
 (ZcC x0).bind fun isName0 =>
 if isName0=true then
 Zv ((0:Int)≤v0) <|
 Zv (v0≤(↑list0.length:Int)) <|
 (Xd (List.take (Int.toNat v0-Int.toNat 0) (List.drop (Int.toNat 0) list0)) x0).bind fun string0 =>
 if string0=true then
 some (.inr Bool.false)
 else
 some (.inl (Wq (v0+1),()))
 else
 some (.inr Bool.false)
 else
 some (.inr Bool.true)
def XV (list0:List (List UInt8)):Option Bool :=
 Zr (fun v=>Zbh list0 v.1) ((0:Int),())
def c94:Ctr:=D1 (.sl (.str)) (.bool) XV
def Ve (list0:List Yq) (names0:List (List UInt8)) (v0:Int):Option (((List (List UInt8))×Int×Unit) ⊕ Bool) :=
 if v0<(↑list0.length:Int) then
 (atI list0 v0).bind fun x0 =>
 Zv ((List.length names0+List.length [Yq.Name x0])*(16:Nat)≤(140737488355328:Nat)) <|
 if v0=Wq ((↑list0.length:Int)-1) then
 if Yq.Dir x0=2 then
 if Yq.Cap x0=0 then
 if (Yq.Clock x0)=true then
 some (.inr Bool.false)
 else
 some (.inl (names0++[Yq.Name x0],Wq (v0+(1:Int)),()))
 else
 some (.inr Bool.false)
 else
 some (.inr Bool.false)
 else
 if Yq.Dir x0=1 then
 (ZW (Yq.Cap x0) 0 500).bind fun within0 =>
 if within0=true then
 some (.inl (names0++[Yq.Name x0],Wq (v0+(1:Int)),()))
 else
 some (.inr Bool.false)
 else
 some (.inr Bool.false)
 else
 (Vw list0).bind fun Pin0 =>
 (ZW Pin0 2 5).bind fun within0 =>
 if within0=true then
 (XV names0).bind fun areNames0 =>
 some (.inr areNames0)
 else
 some (.inr Bool.false)
def ZeI (list0:List Yq):Option Bool :=
 Zr (fun v=>Ve list0 v.1 v.2.1) (([]:List (List UInt8)),(0:Int),())
def c95:Ctr:=D1 (.sl (Zdb)) (.bool) ZeI
def ZeJ (kind0:Int):Option Bool :=
 if kind0=4 then
 some Bool.true
 else
 some (Decidable.decide (kind0=5))
def c96:Ctr:=D1 Iq (.bool) ZeJ
def Xm (list0:List Int):Option Int :=
 some (↑list0.length:Int)
def c97:Ctr:=D1 (.sl Iq) Iq Xm
def ZcA (n0:Int) (a0:Int) (a1:Int):Option Bool :=
 (ZW n0 a0 a1).bind fun within0 =>
 some !within0
def c98:Ctr:=D3 Iq (.ptr Iq) (.ptr Iq) (.bool) ZcA
def Yi (s0:List Int) (f0:Int×Int×Unit) (v0:Int):Option ((Int×Unit) ⊕ Int) :=
 if v0<(↑s0.length:Int) then
 (atI s0 v0).bind fun x0 =>
 (ZcA x0 f0.fst f0.snd.fst).bind fun c1_0 =>
 if c1_0=true then
 some (.inr v0)
 else
 some (.inl (Wq (v0+1),()))
 else
 some (.inr (-1))
def Yd (s0:List Int) (f0:Int×Int×Unit):Option Int :=
 Zr (fun v=>Yi s0 f0 v.1) ((0:Int),())
def c99:Ctr:=D2 (.sl Iq) (.fn 241 (.pair (.ptr Iq) (.pair (.ptr Iq) (.unit)))) Iq Yd
def Yn (s0:List Int) (f0:Int×Int×Unit):Option Bool :=
 (Yd s0 f0).bind fun c1_0 =>
 some (Decidable.decide (0≤c1_0))
def ZwQ:Ctr:=D2 (.sl Iq) (.fn 241 (.pair (.ptr Iq) (.pair (.ptr Iq) (.unit)))) (.bool) Yn
def Xh (list0:List Int) (low0:Int) (high0:Int):Option Bool :=
 (Yn list0 (low0,high0,())).bind fun c1_0 =>
 some !c1_0
def Zt7:Ctr:=D3 (.sl Iq) Iq Iq (.bool) Xh
def Xy (list0:List Int) (i0:Int):Option ((Int×Unit) ⊕ Bool) :=
 if i0<(↑list0.length:Int) then
 (atI list0 (Wq (i0-1))).bind fun x0 =>
 (atI list0 i0).bind fun x1 =>
 if x1≤x0 then
 some (.inr Bool.false)
 else
 some (.inl (Wq (i0+1),()))
 else
 some (.inr Bool.true)
def QB (list0:List Int):Option Bool :=
 Zr (fun v=>Xy list0 v.1) ((1:Int),())
def Zwt:Ctr:=D1 (.sl Iq) (.bool) QB
def Zed (list0:List Int):Option Bool :=
 (Xm list0).bind fun int64_0 =>
 (ZW int64_0 1 4).bind fun within0 =>
 if within0=true then
 (Xh list0 0 100000).bind fun areWithin0 =>
 if areWithin0=true then
 (QB list0).bind fun isIncreasing0 =>
 some isIncreasing0
 else
 some Bool.false
 else
 some Bool.false
def ZwR:Ctr:=D1 (.sl Iq) (.bool) Zed
def ZeH (t0:Zx):Option Bool :=
 (Zed (Zx.ZhL t0)).bind fun isAxis0 =>
 if isAxis0=true then
 (Zed (Zx.Loads t0)).bind fun isAxis1 =>
 if isAxis1=true then
 if (↑(List.length (Zx.Values t0)):Int)=Wq ((↑(List.length (Zx.ZhL t0)):Int)*(↑(List.length (Zx.Loads t0)):Int)) then
 (Xh (Zx.Values t0) (-1000000) 1000000).bind fun areWithin0 =>
 some areWithin0
 else
 some Bool.false
 else
 some Bool.false
 else
 some Bool.false
def ZwS:Ctr:=D1 (YO) (.bool) ZeH
def Qe (x0:List Int) (m0:Int) (i0:Int):Option ((Int×Int×Unit) ⊕ Int) :=
 if i0<(↑x0.length:Int) then
 (atI x0 i0).bind fun x2 =>
 some (.inl (Min.min m0 x2,Wq (i0+1),()))
 else
 some (.inr m0)
def Qt (x0:List Int):Option Int :=
 if (↑x0.length:Int)<1 then
 none
 else
 (atI x0 0).bind fun x1 =>
 Zr (fun v=>Qe x0 v.1 v.2.1) (x1,(1:Int),())
def c105:Ctr:=D1 (.sl Iq) Iq Qt
def QA (t0:Zx) (a0:Bool):Option Bool :=
 (ZeH t0).bind fun IsTable0 =>
 if IsTable0=true then
 if a0=true then
 (Qt (Zx.Values t0)).bind fun int64_0 =>
 some (Decidable.decide (int64_0<0))
 else
 some Bool.false
 else
 some Bool.true
def ZwT:Ctr:=D2 (YO) (.ptr (.bool)) (.bool) QA
def Z6 (s0:List Zx) (f0:Bool×Unit) (v0:Int):Option ((Int×Unit) ⊕ Int) :=
 if v0<(↑s0.length:Int) then
 (atI s0 v0).bind fun x0 =>
 (QA x0 f0.fst).bind fun c1_0 =>
 if c1_0=true then
 some (.inr v0)
 else
 some (.inl (Wq (v0+1),()))
 else
 some (.inr (-1))
def ZP (s0:List Zx) (f0:Bool×Unit):Option Int :=
 Zr (fun v=>Z6 s0 f0 v.1) ((0:Int),())
def c107:Ctr:=D2 (.sl (YO)) (.fn 381 (.pair (.ptr (.bool)) (.unit))) Iq ZP
def ZI (s0:List Zx) (f0:Bool×Unit):Option Bool :=
 (ZP s0 f0).bind fun c1_0 =>
 some (Decidable.decide (0≤c1_0))
def ZwU:Ctr:=D2 (.sl (YO)) (.fn 381 (.pair (.ptr (.bool)) (.unit))) (.bool) ZI
def Jm (list0:List Zx) (positive0:Bool):Option Bool :=
 if (↑list0.length:Int)=2 then
 (ZI list0 (positive0,())).bind fun c1_0 =>
 some !c1_0
 else
 some Bool.false
def c109:Ctr:=D2 (.sl (YO)) (.bool) (.bool) Jm
def ZbV (p0:Yq):Option Bool :=
 some (Yq.Clock p0)
def ZwV:Ctr:=D1 (Zdb) (.bool) ZbV
def Yb (s0:List Yq) (v0:Int):Option ((Int×Unit) ⊕ Int) :=
 if v0<(↑s0.length:Int) then
 (atI s0 v0).bind fun x0 =>
 (ZbV x0).bind fun c1_0 =>
 if c1_0=true then
 some (.inr v0)
 else
 some (.inl (Wq (v0+1),()))
 else
 some (.inr (-1))
def ZX (s0:List Yq) (f0:Unit):Option Int :=
 Zr (fun v=>Yb s0 v.1) ((0:Int),())
def ZwW:Ctr:=D2 (.sl (Zdb)) (.fn 385 (.unit)) Iq ZX
def ZbU (c0:Zi):Option Int :=
 (ZX (Zi.YB c0) ()).bind fun c1_0 =>
 some c1_0
def ZwX:Ctr:=D1 (Qf) Iq ZbU
def Je (c0:Zi):Option Int :=
 (Vw (Zi.YB c0)).bind fun Pin0 =>
 some (Wq (Pin0-1))
def ZvB:Ctr:=D1 (Qf) Iq Je
def Vz (c0:Zi) (pin0:Int):Option Bool :=
 (Je c0).bind fun output0 =>
 (ZW pin0 0 (Wq (output0-1))).bind fun within0 =>
 some within0
def ZwY:Ctr:=D2 (Qf) Iq (.bool) Vz
def ZbW (a0:Zi) (a1:ZB):Option Bool :=
 (ZeJ (ZB.Kind a1)).bind fun isCheck0 =>
 if isCheck0=true then
 if ZB.ZbM a1=0 then
 if (↑(List.length (ZB.ZaY a1)):Int)=0 then
 (Jm (ZB.Delay a1) Bool.false).bind fun areTables0 =>
 if areTables0=true then
 (ZbU a0).bind fun clock0 =>
 if ZB.From a1=clock0 then
 if 0≤ZB.From a1 then
 (Vz a0 (ZB.To a1)).bind fun isInput0 =>
 if isInput0=true then
 some (!Decidable.decide (ZB.To a1=ZB.From a1))
 else
 some Bool.false
 else
 some Bool.false
 else
 some Bool.false
 else
 some Bool.false
 else
 some Bool.false
 else
 some Bool.false
 else
 (Jm (ZB.Delay a1) Bool.true).bind fun areTables0 =>
 if areTables0=true then
 (Jm (ZB.ZaY a1) Bool.true).bind fun areTables1 =>
 if areTables1=true then
 (Je a0).bind fun output0 =>
 if ZB.To a1=output0 then
 (Vz a0 (ZB.From a1)).bind fun isInput0 =>
 if isInput0=true then
 if ZB.Kind a1=1 then
 (atI (Zi.YB a0) (ZB.From a1)).bind fun x0 =>
 if (Yq.Clock x0)=true then
 some Bool.false
 else
 (ZW (ZB.ZbM a1) 1 3).bind fun within0 =>
 some within0
 else
 if ZB.Kind a1=2 then
 if ZB.Kind a1=2 then
 (atI (Zi.YB a0) (ZB.From a1)).bind fun x0 =>
 if (Yq.Clock x0)=true then
 some (Decidable.decide (ZB.ZbM a1=0))
 else
 some Bool.false
 else
 some Bool.false
 else
 if ZB.Kind a1=3 then
 (atI (Zi.YB a0) (ZB.From a1)).bind fun x0 =>
 if (Yq.Clock x0)=true then
 some (Decidable.decide (ZB.ZbM a1=0))
 else
 some Bool.false
 else
 some Bool.false
 else
 some Bool.false
 else
 some Bool.false
 else
 some Bool.false
 else
 some Bool.false
def ZwZ:Ctr:=D2 (Qf) (ZdY) (.bool) ZbW
def XD (o0:ZB) (a0:ZB):Option Bool :=
 if ZB.Kind o0=ZB.Kind a0 then
 if ZB.From o0=ZB.From a0 then
 some (Decidable.decide (ZB.To o0=ZB.To a0))
 else
 some Bool.false
 else
 some Bool.false
def c116:Ctr:=D2 (ZdY) (.ptr (ZdY)) (.bool) XD
def Z8 (s0:List ZB) (f0:ZB×Unit) (v0:Int):Option ((Int×Unit) ⊕ Int) :=
 if v0<(↑s0.length:Int) then
 (atI s0 v0).bind fun x0 =>
 (XD x0 f0.fst).bind fun c1_0 =>
 if c1_0=true then
 some (.inr v0)
 else
 some (.inl (Wq (v0+1),()))
 else
 some (.inr (-1))
def ZR (s0:List ZB) (f0:ZB×Unit):Option Int :=
 Zr (fun v=>Z8 s0 f0 v.1) ((0:Int),())
def c117:Ctr:=D2 (.sl (ZdY)) (.fn 360 (.pair (.ptr (ZdY)) (.unit))) Iq ZR
def ZM (s0:List ZB) (f0:ZB×Unit):Option Bool :=
 (ZR s0 f0).bind fun c1_0 =>
 some (Decidable.decide (0≤c1_0))
def Zw0:Ctr:=D2 (.sl (ZdY)) (.fn 360 (.pair (.ptr (ZdY)) (.unit))) (.bool) ZM
def VY (c0:Zi) (v0:Int):Option ((Int×Unit) ⊕ Bool) :=
 if v0<(↑(List.length (Zi.Zaf c0)):Int) then
 (atI (Zi.Zaf c0) v0).bind fun x0 =>
 (ZbW c0 x0).bind fun isArc0 =>
 if isArc0=true then
 Zv ((0:Int)≤v0) <|
 Zv (v0≤(↑(List.length (Zi.Zaf c0)):Int)) <|
 (ZM (List.take (Int.toNat v0-Int.toNat 0) (List.drop (Int.toNat 0) (Zi.Zaf c0))) (x0,())).bind fun c1_0 =>
 if c1_0=true then
 some (.inr Bool.false)
 else
 some (.inl (Wq (v0+1),()))
 else
 some (.inr Bool.false)
 else
 some (.inr (Decidable.decide ((↑(List.length (Zi.Zaf c0)):Int)≤8)))
def Zal (c0:Zi):Option Bool :=
 Zr (fun v=>VY c0 v.1) ((0:Int),())
def c119:Ctr:=D1 (Qf) (.bool) Zal
def ZaZ (a0:ZB) (a1:Int):Option Bool :=
 some (Decidable.decide (ZB.Kind a0=a1))
def Zw1:Ctr:=D2 (ZdY) (.ptr Iq) (.bool) ZaZ
def Ye (s0:List ZB) (f0:Int×Unit) (v0:Int):Option ((Int×Unit) ⊕ Int) :=
 if v0<(↑s0.length:Int) then
 (atI s0 v0).bind fun x0 =>
 (ZaZ x0 f0.fst).bind fun c1_0 =>
 if c1_0=true then
 some (.inr v0)
 else
 some (.inl (Wq (v0+1),()))
 else
 some (.inr (-1))
def Z4 (s0:List ZB) (f0:Int×Unit):Option Int :=
 Zr (fun v=>Ye s0 f0 v.1) ((0:Int),())
def Zw2:Ctr:=D2 (.sl (ZdY)) (.fn 375 (.pair (.ptr Iq) (.unit))) Iq Z4
def ZT (s0:List ZB) (f0:Int×Unit):Option Bool :=
 (Z4 s0 f0).bind fun c1_0 =>
 some (Decidable.decide (0≤c1_0))
def Zw3:Ctr:=D2 (.sl (ZdY)) (.fn 375 (.pair (.ptr Iq) (.unit))) (.bool) ZT
def Qr (c0:Zi) (kind0:Int):Option Bool :=
 (ZT (Zi.Zaf c0) (kind0,())).bind fun c1_0 =>
 some c1_0
def Zw4:Ctr:=D2 (Qf) Iq (.bool) Qr
def Xl (a0:Zi) (v0:Int) (v1:Int):Option ((Int×Int×Unit) ⊕ Bool) :=
 if v1<(↑(List.length (Zi.YB a0)):Int) then
 (atI (Zi.YB a0) v1).bind fun x0 =>
 if (Yq.Clock x0)=true then
 some (.inl (Wq (v0+1),Wq (v1+1),()))
 else
 some (.inl (v0,Wq (v1+1),()))
 else
 if Zi.Kind a0=1 then
 if v0=0 then
 (Je a0).bind fun output0 =>
 Zv ((0:Int)≤output0) <|
 if (↑(List.length (Zi.Truth a0)):Int)=Wq (1*2 ^ Min.min (Int.toNat output0) (IntKind.bits IntKind.i64)) then
 (Xh (Zi.Truth a0) 0 1).bind fun areWithin0 =>
 some (.inr areWithin0)
 else
 some (.inr Bool.false)
 else
 some (.inr Bool.false)
 else
 if Zi.Kind a0=2 then
 if v0=1 then
 if (↑(List.length (Zi.Truth a0)):Int)=0 then
 (Qr a0 1).bind fun has0 =>
 if has0=true then
 some (.inr Bool.false)
 else
 (Qr a0 2).bind fun has1 =>
 (Qr a0 3).bind fun has2 =>
 some (.inr (!has1 == has2))
 else
 some (.inr Bool.false)
 else
 some (.inr Bool.false)
 else
 if Zi.Kind a0=3 then
 if v0=1 then
 if (↑(List.length (Zi.Truth a0)):Int)=0 then
 (Qr a0 1).bind fun has0 =>
 if has0=true then
 (Qr a0 2).bind fun has1 =>
 if has1=true then
 (Qr a0 3).bind fun has2 =>
 some (.inr !has2)
 else
 some (.inr Bool.false)
 else
 some (.inr Bool.false)
 else
 some (.inr Bool.false)
 else
 some (.inr Bool.false)
 else
 some (.inr Bool.false)
def JA (a0:Zi):Option Bool :=
 Zr (fun v=>Xl a0 v.1 v.2.1) ((0:Int),(0:Int),())
def c124:Ctr:=D1 (Qf) (.bool) JA
def Zf9 (c0:Zi):Option Bool :=
 (ZcC (Zi.Name c0)).bind fun isName0 =>
 if isName0=true then
 (ZeI (Zi.YB c0)).bind fun arePins0 =>
 if arePins0=true then
 (Zal c0).bind fun areArcs0 =>
 if areArcs0=true then
 (ZW (Zi.ZsY c0) 0 100000).bind fun within0 =>
 if within0=true then
 (ZW (Zi.Zh1 c0) 0 100000).bind fun within1 =>
 if within1=true then
 (JA c0).bind fun isOfKind0 =>
 some isOfKind0
 else
 some Bool.false
 else
 some Bool.false
 else
 some Bool.false
 else
 some Bool.false
 else
 some Bool.false
def Zw5:Ctr:=D1 (Qf) (.bool) Zf9
def Qh (l0:Zu) (names0:List (List UInt8)) (v0:Int):Option (((List (List UInt8))×Int×Unit) ⊕ Bool) :=
 if v0<(↑(List.length (Zu.Cells l0)):Int) then
 (atI (Zu.Cells l0) v0).bind fun x0 =>
 (Zf9 x0).bind fun IsCell0 =>
 if IsCell0=true then
 Zv ((List.length names0+List.length [Zi.Name x0])*(16:Nat)≤(140737488355328:Nat)) <|
 some (.inl (names0++[Zi.Name x0],Wq (v0+(1:Int)),()))
 else
 some (.inr Bool.false)
 else
 if (↑(List.length (Zu.Cells l0)):Int)≤8 then
 (XV names0).bind fun areNames0 =>
 some (.inr areNames0)
 else
 some (.inr Bool.false)
def ZcU (l0:Zu):Option Bool :=
 Zr (fun v=>Qh l0 v.1 v.2.1) (([]:List (List UInt8)),(0:Int),())
def Zw6:Ctr:=D1 (YD) (.bool) ZcU
def QZ (d0:Zf) (instances0:List (List UInt8)) (ports0:List (List UInt8)) (v1:Int):Option (((List (List UInt8))×Int×Unit) ⊕ (((List (List UInt8))×Int×Unit) ⊕ Bool)) :=
 if v1<(↑(List.length (Zf.Xe d0)):Int) then
 (atI (Zf.Xe d0) v1).bind fun x0 =>
 Zv ((List.length ports0+List.length [Ya.Name x0])*(16:Nat)≤(140737488355328:Nat)) <|
 some (.inl (ports0++[Ya.Name x0],Wq (v1+(1:Int)),()))
 else
 if (↑instances0.length:Int)≤14 then
 if (↑(List.length (Zf.XJ d0)):Int)≤30 then
 if (↑ports0.length:Int)≤8 then
 (XV instances0).bind fun areNames0 =>
 if areNames0=true then
 (XV (Zf.XJ d0)).bind fun areNames1 =>
 if areNames1=true then
 (XV ports0).bind fun areNames2 =>
 some (.inr (.inr areNames2))
 else
 some (.inr (.inr Bool.false))
 else
 some (.inr (.inr Bool.false))
 else
 some (.inr (.inr Bool.false))
 else
 some (.inr (.inr Bool.false))
 else
 some (.inr (.inr Bool.false))
def Q0 (d0:Zf) (instances0:List (List UInt8)) (v0:Int):Option (((List (List UInt8))×Int×Unit) ⊕ Bool) :=
 if v0<(↑(List.length (Zf.Instances d0)):Int) then
 (atI (Zf.Instances d0) v0).bind fun x0 =>
 Zv ((List.length instances0+List.length [Zk.Name x0])*(16:Nat)≤(140737488355328:Nat)) <|
 some (.inl (instances0++[Zk.Name x0],Wq (v0+(1:Int)),()))
 else
 Zr (fun v=>QZ d0 instances0 v.1 v.2.1) (([]:List (List UInt8)),(0:Int),())
def Vv (d0:Zf):Option Bool :=
 Zr (fun v=>Q0 d0 v.1 v.2.1) (([]:List (List UInt8)),(0:Int),())
def c127:Ctr:=D1 (YN) (.bool) Vv
def JQ (list0:List Zi):Option Int :=
 some (↑list0.length:Int)
def Zw7:Ctr:=D1 (.sl (Qf)) Iq JQ
def ZbZ (list0:List (List UInt8)):Option Int :=
 some (↑list0.length:Int)
def Zw8:Ctr:=D1 (.sl (.str)) Iq ZbZ
def XT (d0:Zf) (net0:Int):Option Bool :=
 (ZbZ (Zf.XJ d0)).bind fun string0 =>
 (ZW net0 0 (Wq (string0-1))).bind fun within0 =>
 some within0
def c130:Ctr:=D2 (YN) Iq (.bool) XT
def Xg (net0:Int) (a0:Zf):Option Bool :=
 (XT a0 net0).bind fun isNet0 =>
 some !isNet0
def c131:Ctr:=D2 Iq (.ptr (YN)) (.bool) Xg
def Z9 (s0:List Int) (f0:Zf×Unit) (v0:Int):Option ((Int×Unit) ⊕ Int) :=
 if v0<(↑s0.length:Int) then
 (atI s0 v0).bind fun x0 =>
 (Xg x0 f0.fst).bind fun c1_0 =>
 if c1_0=true then
 some (.inr v0)
 else
 some (.inl (Wq (v0+1),()))
 else
 some (.inr (-1))
def ZU (s0:List Int) (f0:Zf×Unit):Option Int :=
 Zr (fun v=>Z9 s0 f0 v.1) ((0:Int),())
def Zw9:Ctr:=D2 (.sl Iq) (.fn 309 (.pair (.ptr (YN)) (.unit))) Iq ZU
def ZN (s0:List Int) (f0:Zf×Unit):Option Bool :=
 (ZU s0 f0).bind fun c1_0 =>
 some (Decidable.decide (0≤c1_0))
def Zxa:Ctr:=D2 (.sl Iq) (.fn 309 (.pair (.ptr (YN)) (.unit))) (.bool) ZN
def QN (d0:Zf) (l0:Zu) (x0:Zk):Option Bool :=
 (JQ (Zu.Cells l0)).bind fun Cell0 =>
 (ZW (Zk.Cell x0) 0 (Wq (Cell0-1))).bind fun within0 =>
 if within0=true then
 (atI (Zu.Cells l0) (Zk.Cell x0)).bind fun x1 =>
 if (↑(List.length (Zk.XJ x0)):Int)=(↑(List.length (Zi.YB x1)):Int) then
 (ZN (Zk.XJ x0) (d0,())).bind fun c1_0 =>
 some !c1_0
 else
 some Bool.false
 else
 some Bool.false
def Zxb:Ctr:=D3 (YN) (YD) (Z7) (.bool) QN
def Za0 (n0:Int):Option Bool :=
 some (!Decidable.decide (n0=1))
def Zxc:Ctr:=D1 Iq (.bool) Za0
def Yu (s0:List Int) (v0:Int):Option ((Int×Unit) ⊕ Int) :=
 if v0<(↑s0.length:Int) then
 (atI s0 v0).bind fun x0 =>
 (Za0 x0).bind fun c1_0 =>
 if c1_0=true then
 some (.inr v0)
 else
 some (.inl (Wq (v0+1),()))
 else
 some (.inr (-1))
def Yj (s0:List Int) (f0:Unit):Option Int :=
 Zr (fun v=>Yu s0 v.1) ((0:Int),())
def Zxd:Ctr:=D2 (.sl Iq) (.fn 259 (.unit)) Iq Yj
def Yg (s0:List Int) (f0:Unit):Option Bool :=
 (Yj s0 ()).bind fun c1_0 =>
 some (Decidable.decide (0≤c1_0))
def Zxe:Ctr:=D2 (.sl Iq) (.fn 259 (.unit)) (.bool) Yg
def QG (a1:Zf) (v1:Int) (l1:List Int):Option ((Int×(List Int)×Unit) ⊕ ((Int×(List Int)×Unit) ⊕ Bool)) :=
 if v1<(↑(List.length (Zf.Xe a1)):Int) then
 (atI (Zf.Xe a1) v1).bind fun x0 =>
 if Ya.Dir x0=1 then
 (XT a1 (Ya.Net x0)).bind fun isNet0 =>
 if isNet0=true then
 if Ya.Dir x0=1 then
 (atI l1 (Ya.Net x0)).bind fun x1 =>
 some (.inl (Wq (v1+1),List.set l1 (Int.toNat (Ya.Net x0)) (Wq (x1+1)),()))
 else
 some (.inl (Wq (v1+1),l1,()))
 else
 some (.inr (.inr Bool.false))
 else
 if Ya.Dir x0=2 then
 (XT a1 (Ya.Net x0)).bind fun isNet0 =>
 if isNet0=true then
 if Ya.Dir x0=1 then
 (atI l1 (Ya.Net x0)).bind fun x1 =>
 some (.inl (Wq (v1+1),List.set l1 (Int.toNat (Ya.Net x0)) (Wq (x1+1)),()))
 else
 some (.inl (Wq (v1+1),l1,()))
 else
 some (.inr (.inr Bool.false))
 else
 some (.inr (.inr Bool.false))
 else
 (Yg l1 ()).bind fun c1_0 =>
 some (.inr (.inr !c1_0))
def V3 (a0:Zu) (a1:Zf) (v0:Int) (l0:List Int):Option ((Int×(List Int)×Unit) ⊕ Bool) :=
 if v0<(↑(List.length (Zf.Instances a1)):Int) then
 (atI (Zf.Instances a1) v0).bind fun x0 =>
 (QN a1 a0 x0).bind fun isInstance0 =>
 if isInstance0=true then
 (atI (Zk.XJ x0) (Wq ((↑(List.length (Zk.XJ x0)):Int)-1))).bind fun x1 =>
 (atI l0 x1).bind fun x2 =>
 some (.inl (Wq (v0+1),List.set l0 (Int.toNat x1) (Wq (x2+1)),()))
 else
 some (.inr Bool.false)
 else
 Zr (fun v=>QG a1 v.1 v.2.1) ((0:Int),l0,())
def ZdJ (a0:Zu) (a1:Zf):Option Bool :=
 (ZcU a0).bind fun IsLibrary0 =>
 if IsLibrary0=true then
 (Vv a1).bind fun hasNames0 =>
 if hasNames0=true then
 Zv ((0:Int)≤(↑(List.length (Zf.XJ a1)):Int)) <|
 Zv ((↑(List.length (Zf.XJ a1)):Int)≤(↑(List.length (Zf.XJ a1)):Int)) <|
 Zv ((↑(List.length (Zf.XJ a1)):Int)≤(4611686018427387904:Int)) <|
 Zv ((↑(8:Nat):Int)*(↑(List.length (Zf.XJ a1)):Int)≤(281474976710656:Int)) <|
 Zr (fun v=>V3 a0 a1 v.1 v.2.1) ((0:Int),List.replicate (Int.toNat (↑(List.length (Zf.XJ a1)):Int)) (0:Int),())
 else
 some Bool.false
 else
 some Bool.false
def c138:Ctr:=D2 (YD) (YN) (.bool) ZdJ
def VA (v0:Int) (x0:Zk) (list1:List Y1) (v1:Int):Option (((List Y1)×Int×Unit) ⊕ (((List Y1)×Int×Unit) ⊕ List Y1)) :=
 if v1<(↑(List.length (Zk.XJ x0)):Int) then
 (atI (Zk.XJ x0) v1).bind fun x1 =>
 Zv ((List.length list1+List.length [(v0,v1,x1,Decidable.decide (v1=Wq ((↑(List.length (Zk.XJ x0)):Int)-(1:Int))),())])*(32:Nat)≤(140737488355328:Nat)) <|
 some (.inl (list1++[(v0,v1,x1,Decidable.decide (v1=Wq ((↑(List.length (Zk.XJ x0)):Int)-(1:Int))),())],Wq (v1+(1:Int)),()))
 else
 some (.inr (.inl (list1,Wq (v0+1),())))
def VB (d0:Zf) (list1:List Y1) (v1:Int):Option (((List Y1)×Int×Unit) ⊕ (((List Y1)×Int×Unit) ⊕ List Y1)) :=
 if v1<(↑(List.length (Zf.Xe d0)):Int) then
 (atI (Zf.Xe d0) v1).bind fun x0 =>
 Zv ((List.length list1+List.length [((-1:Int),v1,Ya.Net x0,Decidable.decide (Ya.Dir x0=(1:Int)),())])*(32:Nat)≤(140737488355328:Nat)) <|
 some (.inl (list1++[((-1:Int),v1,Ya.Net x0,Decidable.decide (Ya.Dir x0=(1:Int)),())],Wq (v1+(1:Int)),()))
 else
 some (.inr (.inr list1))
def VD (d0:Zf) (list0:List Y1) (v0:Int):Option (((List Y1)×Int×Unit) ⊕ List Y1) :=
 if v0<(↑(List.length (Zf.Instances d0)):Int) then
 (atI (Zf.Instances d0) v0).bind fun x0 =>
 Zr (fun v=>VA v0 x0 v.1 v.2.1) (list0,(0:Int),())
 else
 Zr (fun v=>VB d0 v.1 v.2.1) (list0,(0:Int),())
def Xw (d0:Zf):Option (List Y1) :=
 Zr (fun v=>VD d0 v.1 v.2.1) (([]:List Y1),(0:Int),())
def c139:Ctr:=⟨[.dat (YN)],[.own (.ol 265 (.flat (Zil)))],fun a K=>splitK a fun d0 a=>Xb (Xw d0) fun r=>K (r,()) ()⟩
def Jt (w0:Zy) (v0:Int):Option ((Int×Unit) ⊕ Bool) :=
 if v0<(↑(List.length (Zy.Parent w0)):Int) then
 (atI (Zy.Parent w0) v0).bind fun x0 =>
 if v0=0 then
 if x0=(-1) then
 (atI (Zy.Res w0) 0).bind fun x1 =>
 if x1=0 then
 if 0<v0 then
 (ZW x0 0 (Wq (v0-1))).bind fun within0 =>
 if within0=true then
 some (.inl (Wq (v0+1),()))
 else
 some (.inr Bool.false)
 else
 some (.inl (Wq (v0+1),()))
 else
 some (.inr Bool.false)
 else
 some (.inr Bool.false)
 else
 if 0<v0 then
 (ZW x0 0 (Wq (v0-1))).bind fun within0 =>
 if within0=true then
 some (.inl (Wq (v0+1),()))
 else
 some (.inr Bool.false)
 else
 some (.inl (Wq (v0+1),()))
 else
 some (.inr Bool.true)
def Za1 (w0:Zy):Option Bool :=
 Zr (fun v=>Jt w0 v.1) ((0:Int),())
def Zxf:Ctr:=D1 (Vr) (.bool) Za1
def Zga (w0:Zy) (sinks0:Int):Option Bool :=
 (Xm (Zy.Parent w0)).bind fun int64_0 =>
 (ZW int64_0 1 8).bind fun within0 =>
 if within0=true then
 (Xm (Zy.Res w0)).bind fun int64_1 =>
 if int64_1=int64_0 then
 (Xm (Zy.Cap w0)).bind fun int64_2 =>
 if int64_2=int64_0 then
 (Za1 w0).bind fun isTree0 =>
 if isTree0=true then
 (Xh (Zy.Res w0) 0 1000).bind fun areWithin0 =>
 if areWithin0=true then
 (Xh (Zy.Cap w0) 0 500).bind fun areWithin1 =>
 if areWithin1=true then
 (Xm (Zy.ZjU w0)).bind fun int64_3 =>
 if int64_3=sinks0 then
 (Xh (Zy.ZjU w0) 0 (Wq (int64_0-1))).bind fun areWithin2 =>
 some areWithin2
 else
 some Bool.false
 else
 some Bool.false
 else
 some Bool.false
 else
 some Bool.false
 else
 some Bool.false
 else
 some Bool.false
 else
 some Bool.false
def c141:Ctr:=D2 (Vr) Iq (.bool) Zga
def ZbX (b0:Zn) (l0:List Int) (v1:Int):Option ((Int×Unit) ⊕ ((Int×(List Int)×Unit) ⊕ Bool)) :=
 if v1<(↑(List.length (Zn.XQ b0)):Int) then
 (atI (Zn.XQ b0) v1).bind fun x0 =>
 (atI l0 v1).bind fun x1 =>
 (Zga x0 x1).bind fun IsWire0 =>
 if IsWire0=true then
 some (.inl (Wq (v1+1),()))
 else
 some (.inr (.inr Bool.false))
 else
 some (.inr (.inr Bool.true))
def JB (b0:Zn) (places0:List Y1) (v0:Int) (l0:List Int):Option ((Int×(List Int)×Unit) ⊕ Bool) :=
 if v0<(↑places0.length:Int) then
 (atI places0 v0).bind fun x0 =>
 if (Y1.drives x0)=true then
 some (.inl (Wq (v0+1),l0,()))
 else
 (atI l0 (Y1.net x0)).bind fun x1 =>
 some (.inl (Wq (v0+1),List.set l0 (Int.toNat (Y1.net x0)) (Wq (x1+1)),()))
 else
 Zr (fun v=>ZbX b0 l0 v.1) ((0:Int),())
def ZeF (b0:Zn):Option Bool :=
 (ZdJ (Zn.Library b0) (Zn.Design b0)).bind fun IsDesign0 =>
 if IsDesign0=true then
 if (↑(List.length (Zn.XQ b0)):Int)=(↑(List.length (Zf.XJ (Zn.Design b0))):Int) then
 Zv ((0:Int)≤(↑(List.length (Zn.XQ b0)):Int)) <|
 Zv ((↑(List.length (Zn.XQ b0)):Int)≤(↑(List.length (Zn.XQ b0)):Int)) <|
 Zv ((↑(List.length (Zn.XQ b0)):Int)≤(4611686018427387904:Int)) <|
 Zv ((↑(8:Nat):Int)*(↑(List.length (Zn.XQ b0)):Int)≤(281474976710656:Int)) <|
 (Xw (Zn.Design b0)).bind fun places0 =>
 Zr (fun v=>JB b0 places0 v.1 v.2.1) ((0:Int),List.replicate (Int.toNat (↑(List.length (Zn.XQ b0)):Int)) (0:Int),())
 else
 some Bool.false
 else
 some Bool.false
def Zxg:Ctr:=D1 (Y2) (.bool) ZeF
def Vs (a0:ZB):Option (List (Int×Int×Unit)) :=
 if ZB.Kind a0=2 then
 some ([((0:Int),(0:Int),()),((0:Int),(1:Int),())])
 else
 if ZB.Kind a0=3 then
 some ([((1:Int),(0:Int),()),((1:Int),(1:Int),())])
 else
 if ZB.Kind a0=1 then
 if ZB.ZbM a0=1 then
 some ([((0:Int),(0:Int),()),((1:Int),(1:Int),())])
 else
 if ZB.ZbM a0=2 then
 some ([((0:Int),(1:Int),()),((1:Int),(0:Int),())])
 else
 some ([((0:Int),(0:Int),()),((0:Int),(1:Int),()),((1:Int),(0:Int),()),((1:Int),(1:Int),())])
 else
 some ([]:List (Int×Int×Unit))
def c143:Ctr:=⟨[.dat (ZdY)],[.own (.ol 214 (.flat (.pair Iq (.pair Iq (.unit)))))],fun a K=>splitK a fun a0 a=>Xb (Vs a0) fun r=>K (r,()) ()⟩
def XK (first0:Int) (v0:Int) (x2:ZB) (transitions0:List (Int×Int×Unit)) (list1:List Vx) (v1:Int):Option (((List Vx)×Int×Unit) ⊕ (((List Vx)×Int×Unit) ⊕ List Vx)) :=
 if v1<(↑transitions0.length:Int) then
 (atI transitions0 v1).bind fun x3 =>
 Zv ((List.length list1+List.length [(Wq (Wq ((2:Int)*Wq (first0+ZB.From x2))+x3.fst),Wq (Wq ((2:Int)*Wq (first0+ZB.To x2))+x3.snd.fst),(1:Int),v0,())])*(32:Nat)≤(140737488355328:Nat)) <|
 some (.inl (list1++[(Wq (Wq ((2:Int)*Wq (first0+ZB.From x2))+x3.fst),Wq (Wq ((2:Int)*Wq (first0+ZB.To x2))+x3.snd.fst),(1:Int),v0,())],Wq (v1+(1:Int)),()))
 else
 some (.inr (.inl (list1,Wq (v0+1),())))
def QW (first0:Int) (x1:Zi) (list0:List Vx) (v0:Int):Option (((List Vx)×Int×Unit) ⊕ List Vx) :=
 if v0<(↑(List.length (Zi.Zaf x1)):Int) then
 (atI (Zi.Zaf x1) v0).bind fun x2 =>
 (Vs x2).bind fun transitions0 =>
 Zr (fun v=>XK first0 v0 x2 transitions0 v.1 v.2.1) (list0,(0:Int),())
 else
 some (.inr list0)
def Vt (b0:Zn) (x0:Zk) (first0:Int):Option (List Vx) :=
 (atI (Zu.Cells (Zn.Library b0)) (Zk.Cell x0)).bind fun x1 =>
 Zr (fun v=>QW first0 x1 v.1 v.2.1) (([]:List Vx),(0:Int),())
def Zxh:Ctr:=⟨[.dat (Y2),.dat (Z7),.dat Iq],[.own (.ol 254 (.flat (Zm5)))],fun a K=>splitK a fun b0 a=>splitK a fun x0 a=>splitK a fun first0 a=>Xb (Vt b0 x0 first0) fun r=>K (r,()) ()⟩
def Vo (s0:List Int):Option (List Int) :=
 Zv ((List.length (([]:List Int))+List.length s0)*(8:Nat)≤(140737488355328:Nat)) <|
 some (([]:List Int)++s0)
def c145:Ctr:=⟨[.dat (.sl Iq)],[.own (.ol 2 (.flat Iq))],fun a K=>splitK a fun s0 a=>Xb (Vo s0) fun r=>K (r,()) ()⟩
def VZ (net0:Int) (places0:List Y1) (list0:List Int) (v0:Int):Option (((List Int)×Int×Unit) ⊕ List Int) :=
 if v0<(↑places0.length:Int) then
 (atI places0 v0).bind fun x0 =>
 if Y1.net x0=net0 then
 if (Y1.drives x0)=true then
 some (.inl (list0,Wq (v0+1),()))
 else
 Zv ((List.length list0+List.length [v0])*(8:Nat)≤(140737488355328:Nat)) <|
 some (.inl (list0++[v0],Wq (v0+(1:Int)),()))
 else
 some (.inl (list0,Wq (v0+1),()))
 else
 some (.inr list0)
def Zan (d0:Zf) (net0:Int):Option (List Int) :=
 (Xw d0).bind fun places0 =>
 Zr (fun v=>VZ net0 places0 v.1 v.2.1) (([]:List Int),(0:Int),())
def c146:Ctr:=⟨[.dat (YN),.dat Iq],[.own (.ol 2 (.flat Iq))],fun a K=>splitK a fun d0 a=>splitK a fun net0 a=>Xb (Zan d0 net0) fun r=>K (r,()) ()⟩
def Zam (d0:Zf) (l0:Zu) (p0:Y1):Option Int :=
 if Y1.instance p0<0 then
 some 0
 else
 (atI (Zf.Instances d0) (Y1.instance p0)).bind fun x0 =>
 (atI (Zu.Cells l0) (Zk.Cell x0)).bind fun x1 =>
 (atI (Zi.YB x1) (Y1.pin p0)).bind fun x2 =>
 some (Yq.Cap x2)
def Zxi:Ctr:=D3 (YN) (YD) (Zil) Iq Zam
def QX (x0:Zy) (v1:Int) (l1:List Int):Option ((Int×(List Int)×Unit) ⊕ ((Int×(List Int)×Unit) ⊕ List Int)) :=
 if 0<v1 then
 (atI (Zy.Parent x0) v1).bind fun x1 =>
 (atI l1 x1).bind fun x2 =>
 (atI l1 v1).bind fun x3 =>
 some (.inl (Wq (v1-1),List.set l1 (Int.toNat x1) (Wq (x2+x3)),()))
 else
 some (.inr (.inr l1))
def QY (a0:Zn) (x0:Zy) (places0:List Y1) (sinks0:List Int) (v0:Int) (l0:List Int):Option ((Int×(List Int)×Unit) ⊕ List Int) :=
 if v0<(↑sinks0.length:Int) then
 (atI sinks0 v0).bind fun x1 =>
 (atI (Zy.ZjU x0) v0).bind fun x2 =>
 (atI l0 x2).bind fun x3 =>
 (atI places0 x1).bind fun x4 =>
 (Zam (Zn.Design a0) (Zn.Library a0) x4).bind fun capOf0 =>
 some (.inl (Wq (v0+1),List.set l0 (Int.toNat x2) (Wq (x3+capOf0)),()))
 else
 Zr (fun v=>QX x0 v.1 v.2.1) (Wq ((↑l0.length:Int)-(1:Int)),l0,())
def Qg (a0:Zn) (a1:Int):Option (List Int) :=
 (atI (Zn.XQ a0) a1).bind fun x0 =>
 (Vo (Zy.Cap x0)).bind fun int64_0 =>
 (Xw (Zn.Design a0)).bind fun places0 =>
 (Zan (Zn.Design a0) a1).bind fun sinks0 =>
 Zr (fun v=>QY a0 x0 places0 sinks0 v.1 v.2.1) ((0:Int),int64_0,())
def c148:Ctr:=⟨[.dat (Y2),.dat Iq],[.own (.ol 2 (.flat Iq))],fun a K=>splitK a fun a0 a=>splitK a fun a1 a=>Xb (Qg a0 a1) fun r=>K (r,()) ()⟩
def QF (x0:Zy) (nodeLoads0:List Int) (i0:Int) (l0:List Int):Option ((Int×(List Int)×Unit) ⊕ List Int) :=
 if i0<(↑l0.length:Int) then
 (atI (Zy.Parent x0) i0).bind fun x1 =>
 (atI l0 x1).bind fun x2 =>
 (atI (Zy.Res x0) i0).bind fun x3 =>
 (atI nodeLoads0 i0).bind fun x4 =>
 (atI l0 i0).bind fun x5 =>
 some (.inl (Wq (i0+1),List.set l0 (Int.toNat i0) (Wq (x2+Wq (x3*x4))),()))
 else
 some (.inr l0)
def Vb (b0:Zn) (net0:Int):Option (List Int) :=
 (atI (Zn.XQ b0) net0).bind fun x0 =>
 (Qg b0 net0).bind fun nodeLoads0 =>
 Zv ((0:Int)≤(↑nodeLoads0.length:Int)) <|
 Zv ((↑nodeLoads0.length:Int)≤(↑nodeLoads0.length:Int)) <|
 Zv ((↑nodeLoads0.length:Int)≤(4611686018427387904:Int)) <|
 Zv ((↑(8:Nat):Int)*(↑nodeLoads0.length:Int)≤(281474976710656:Int)) <|
 Zr (fun v=>QF x0 nodeLoads0 v.1 v.2.1) ((1:Int),List.replicate (Int.toNat (↑nodeLoads0.length:Int)) (0:Int),())
def Zxj:Ctr:=⟨[.dat (Y2),.dat Iq],[.own (.ol 2 (.flat Iq))],fun a K=>splitK a fun b0 a=>splitK a fun net0 a=>Xb (Vb b0 net0) fun r=>K (r,()) ()⟩
def Qq (nodeDelays0:List Int) (x0:Zy) (out0:List Int) (v0:Int):Option (((List Int)×Int×Unit) ⊕ List Int) :=
 if v0<(↑(List.length (Zy.ZjU x0)):Int) then
 (atI (Zy.ZjU x0) v0).bind fun x1 =>
 (atI nodeDelays0 x1).bind fun x2 =>
 Zv ((List.length out0+List.length [x2])*(8:Nat)≤(140737488355328:Nat)) <|
 some (.inl (out0++[x2],Wq (v0+(1:Int)),()))
 else
 some (.inr out0)
def QM (b0:Zn) (net0:Int):Option (List Int) :=
 (Vb b0 net0).bind fun nodeDelays0 =>
 (atI (Zn.XQ b0) net0).bind fun x0 =>
 Zr (fun v=>Qq nodeDelays0 x0 v.1 v.2.1) (([]:List Int),(0:Int),())
def Zxk:Ctr:=⟨[.dat (Y2),.dat Iq],[.own (.ol 2 (.flat Iq))],fun a K=>splitK a fun b0 a=>splitK a fun net0 a=>Xb (QM b0 net0) fun r=>K (r,()) ()⟩
def JC (l0:List Int) (v3:Int) (v4:Int) (x2:Int) (v5:Int) (c5:List Vx):Option ((Int×(List Vx)×Unit) ⊕ ((Int×(List Vx)×Unit) ⊕ ((Int×(List Int)×(List (List Int))×(List Vx)×(List (List Int))×Unit) ⊕ ((Int×(List Int)×(List (List Int))×Unit) ⊕ ((Int×Int×(List Vx)×Unit) ⊕ YT))))) :=
 if v5<2 then
 (atI l0 v3).bind fun x3 =>
 Zv ((List.length c5+List.length [(Wq (Wq ((2:Int)*x3)+v5),Wq (Wq ((2:Int)*x2)+v5),(2:Int),v4,())])*(32:Nat)≤(140737488355328:Nat)) <|
 some (.inl (Wq (v5+(1:Int)),c5++[(Wq (Wq ((2:Int)*x3)+v5),Wq (Wq ((2:Int)*x2)+v5),(2:Int),v4,())],()))
 else
 some (.inr (.inl (Wq (v4+1),c5,())))
def JD (l0:List Int) (v3:Int) (c1:List Int) (c2:List (List Int)) (l2:List (List Int)) (x0:Int) (exactDelays0:List Int) (x1:List Int) (v4:Int) (c4:List Vx):Option ((Int×(List Vx)×Unit) ⊕ ((Int×(List Int)×(List (List Int))×(List Vx)×(List (List Int))×Unit) ⊕ ((Int×(List Int)×(List (List Int))×Unit) ⊕ ((Int×Int×(List Vx)×Unit) ⊕ YT)))) :=
 if v4<(↑x1.length:Int) then
 (atI x1 v4).bind fun x2 =>
 Zr (fun v=>JC l0 v3 v4 x2 v.1 v.2.1) ((0:Int),c4,())
 else
 some (.inr (.inl (Wq (v3+(1:Int)),c1++[x0],c2++[exactDelays0],c4,List.set l2 (Int.toNat v3) x1,())))
def JE (a0:Zn) (places0:List Y1) (l0:List Int) (v3:Int) (c1:List Int) (c2:List (List Int)) (c3:List Vx) (l2:List (List Int)):Option ((Int×(List Int)×(List (List Int))×(List Vx)×(List (List Int))×Unit) ⊕ ((Int×(List Int)×(List (List Int))×Unit) ⊕ ((Int×Int×(List Vx)×Unit) ⊕ YT))) :=
 if v3<(↑(List.length (Zn.XQ a0)):Int) then
 (Qg a0 v3).bind fun nodeLoads0 =>
 (atI nodeLoads0 0).bind fun x0 =>
 Zv ((List.length c1+List.length [x0])*(8:Nat)≤(140737488355328:Nat)) <|
 (QM a0 v3).bind fun exactDelays0 =>
 Zv ((List.length c2+List.length [exactDelays0])*(24:Nat)≤(140737488355328:Nat)) <|
 (atI l2 v3).bind fun x1 =>
 Zr (fun v=>JD l0 v3 c1 c2 l2 x0 exactDelays0 x1 v.1 v.2.1) ((0:Int),c3,())
 else
 some (.inr (.inr (.inr (a0,places0,c3,c1,c2,([]:List Int),()))))
def JF (a0:Zn) (places0:List Y1) (c0:List Vx) (v2:Int) (l0:List Int) (l1:List (List Int)):Option ((Int×(List Int)×(List (List Int))×Unit) ⊕ ((Int×Int×(List Vx)×Unit) ⊕ YT)) :=
 if v2<(↑places0.length:Int) then
 (atI places0 v2).bind fun x0 =>
 if (Y1.drives x0)=true then
 (atI l0 (Y1.net x0)).bind fun x1 =>
 some (.inl (Wq (v2+1),List.set l0 (Int.toNat (Y1.net x0)) v2,l1,()))
 else
 (atI l1 (Y1.net x0)).bind fun x1 =>
 Zv ((List.length x1+List.length [v2])*(8:Nat)≤(140737488355328:Nat)) <|
 some (.inl (Wq (v2+(1:Int)),l0,List.set l1 (Int.toNat (Y1.net x0)) (x1++[v2]),()))
 else
 Zr (fun v=>JE a0 places0 l0 v.1 v.2.1 v.2.2.1 v.2.2.2.1 v.2.2.2.2.1) ((0:Int),([]:List Int),([]:List (List Int)),c0,l1,())
def Zb0 (a0:Zn) (places0:List Y1) (v0:Int) (v1:Int) (c0:List Vx):Option ((Int×Int×(List Vx)×Unit) ⊕ YT) :=
 if v1<(↑(List.length (Zf.Instances (Zn.Design a0))):Int) then
 (atI (Zf.Instances (Zn.Design a0)) v1).bind fun x0 =>
 (Vt a0 x0 v0).bind fun cellLinks0 =>
 Zv ((List.length c0+List.length cellLinks0)*(32:Nat)≤(140737488355328:Nat)) <|
 (Xm (Zk.XJ x0)).bind fun int64_0 =>
 some (.inl (Wq (v0+int64_0),Wq (v1+1),c0++cellLinks0,()))
 else
 Zv ((0:Int)≤(↑(List.length (Zn.XQ a0)):Int)) <|
 Zv ((↑(List.length (Zn.XQ a0)):Int)≤(↑(List.length (Zn.XQ a0)):Int)) <|
 Zv ((↑(List.length (Zn.XQ a0)):Int)≤(4611686018427387904:Int)) <|
 Zv ((↑(8:Nat):Int)*(↑(List.length (Zn.XQ a0)):Int)≤(281474976710656:Int)) <|
 Zv ((↑(24:Nat):Int)*(↑(List.length (Zn.XQ a0)):Int)≤(281474976710656:Int)) <|
 Zr (fun v=>JF a0 places0 c0 v.1 v.2.1 v.2.2.1) ((0:Int),List.replicate (Int.toNat (↑(List.length (Zn.XQ a0)):Int)) (0:Int),List.replicate (Int.toNat (↑(List.length (Zn.XQ a0)):Int)) (([]:List Int)),())
def ZeM (a0:Zn):Option YT :=
 (Xw (Zn.Design a0)).bind fun places0 =>
 Zr (fun v=>Zb0 a0 places0 v.1 v.2.1 v.2.2.1) ((0:Int),(0:Int),([]:List Vx),())
def Zxl:Ctr:=D1 (Y2) (.ptr (ZjQ)) ZeM
def Ju (list0:List Zb):Option Int :=
 some (↑list0.length:Int)
def c152:Ctr:=D1 (.sl (YA)) Iq Ju
def Vu (c0:Zb):Option Bool :=
 (ZW (Zb.YE c0) 2 100000).bind fun within0 =>
 if within0=true then
 (ZW (Zb.Y7 c0) 0 (Wq (Zb.YE c0-1))).bind fun within1 =>
 if within1=true then
 (ZW (Zb.Xv c0) 0 (Wq (Zb.YE c0-1))).bind fun within2 =>
 if within2=true then
 if Zb.Y7 c0=Zb.Xv c0 then
 some Bool.false
 else
 if Zb.Divide c0=1 then
 some (!Zb.Zdy c0)
 else
 some Bool.false
 else
 some Bool.false
 else
 some Bool.false
 else
 some Bool.false
def Zxm:Ctr:=D1 (YA) (.bool) Vu
def Jf (rec0:(List Zb)→Int→Option Zbc) (list0:List Zb) (k0:Int):Option Zbc :=
 (atI list0 k0).bind fun x0 =>
 if Zb.Source x0<0 then
 some (Zb.YE x0,(Zb.Y7 x0,Zb.Xv x0,()),())
 else
 (rec0 list0 (Zb.Source x0)).bind fun r0 =>
 if 1<Zb.Divide x0 then
 if (Zb.Zdy x0)=true then
 some (Wq (Zb.Divide x0*Zbc.period r0),(Wq ((Zbc.edges r0).fst+Wq (Wq (Int.tdiv (Zb.Divide x0) 2)*Zbc.period r0)),(Zbc.edges r0).fst,()),())
 else
 some (Wq (Zb.Divide x0*Zbc.period r0),((Zbc.edges r0).fst,Wq ((Zbc.edges r0).fst+Wq (Wq (Int.tdiv (Zb.Divide x0) 2)*Zbc.period r0)),()),())
 else
 if (Zb.Zdy x0)=true then
 some (Zbc.period r0,((Zbc.edges r0).snd.fst,(Zbc.edges r0).fst,()),())
 else
 some r0
def V6:Nat→(List Zb)→Int→Option Zbc
 | 0=>fun _ _=>none
 | n+1=>Jf (V6 n)
def ZcD (list0:List Zb) (k0:Int):Option Zbc:=ZtW (fun n=>V6 n list0 k0)
def ZcR (rec0:(List Zb)→Int→Option Zbc):Ctr:=⟨[.dat (.sl (YA)),.dat Iq],[.dat (Zwp)],fun a K=>splitK a fun list0 a=>splitK a fun k0 a=>Xb (rec0 list0 k0) fun r=>K (r,()) ()⟩
def c154:Ctr:=ZcR ZcD
def ZeK (a0:List Zb) (a1:Int):Option Bool :=
 (atI a0 a1).bind fun x0 =>
 if Zb.Place x0<0 then
 some Bool.false
 else
 if Zb.Yk x0<0 then
 some Bool.false
 else
 if Zb.YZ x0<Zb.Yk x0 then
 some Bool.false
 else
 if 100000<Zb.YZ x0 then
 some Bool.false
 else
 (ZW (Zb.JK x0) 0 100000).bind fun within0 =>
 if within0=true then
 if Zb.Source x0=(-1) then
 (Vu x0).bind fun isPrimary0 =>
 some isPrimary0
 else
 (ZW (Zb.Source x0) 0 (Wq (a1-1))).bind fun within1 =>
 if within1=true then
 (ZW (Zb.Divide x0) 1 8).bind fun within2 =>
 if within2=true then
 if Zb.YE x0=0 then
 if Zb.Y7 x0=0 then
 if Zb.Xv x0=0 then
 (ZcD a0 a1).bind fun waveOf0 =>
 some (Decidable.decide (Zbc.period waveOf0≤100000))
 else
 some Bool.false
 else
 some Bool.false
 else
 some Bool.false
 else
 some Bool.false
 else
 some Bool.false
 else
 some Bool.false
def Zxn:Ctr:=D2 (.sl (YA)) Iq (.bool) ZeK
def Zbg (list0:List Zb) (names0:List (List UInt8)) (v0:Int):Option (((List (List UInt8))×Int×Unit) ⊕ Bool) :=
 if v0<(↑list0.length:Int) then
 (atI list0 v0).bind fun x0 =>
 (ZeK list0 v0).bind fun isClock0 =>
 if isClock0=true then
 Zv ((List.length names0+List.length [Zb.Name x0])*(16:Nat)≤(140737488355328:Nat)) <|
 some (.inl (names0++[Zb.Name x0],Wq (v0+(1:Int)),()))
 else
 some (.inr Bool.false)
 else
 (XV names0).bind fun areNames0 =>
 some (.inr areNames0)
def ZdH (list0:List Zb):Option Bool :=
 if 6<(↑list0.length:Int) then
 some Bool.false
 else
 Zr (fun v=>Zbg list0 v.1 v.2.1) (([]:List (List UInt8)),(0:Int),())
def c156:Ctr:=D1 (.sl (YA)) (.bool) ZdH
def XL (list0:List Y1):Option Int :=
 some (↑list0.length:Int)
def c157:Ctr:=D1 (.sl (Zil)) Iq XL
def QC (v0:YT) (place0:Int):Option Bool :=
 (XL (YT.places v0)).bind fun place1 =>
 (ZW place0 0 (Wq (place1-1))).bind fun within0 =>
 some within0
def Zwu:Ctr:=D2 (.ptr (ZjQ)) Iq (.bool) QC
def Qk (c0:Zb) (a0:YT):Option Bool :=
 (QC a0 (Zb.Place c0)).bind fun isPlace0 =>
 some !isPlace0
def c159:Ctr:=D2 (YA) (.ptr (.ptr (ZjQ))) (.bool) Qk
def ZY (s0:List Zb) (f0:YT×Unit) (v0:Int):Option ((Int×Unit) ⊕ Int) :=
 if v0<(↑s0.length:Int) then
 (atI s0 v0).bind fun x0 =>
 (Qk x0 f0.fst).bind fun c1_0 =>
 if c1_0=true then
 some (.inr v0)
 else
 some (.inl (Wq (v0+1),()))
 else
 some (.inr (-1))
def ZJ (s0:List Zb) (f0:YT×Unit):Option Int :=
 Zr (fun v=>ZY s0 f0 v.1) ((0:Int),())
def c160:Ctr:=D2 (.sl (YA)) (.fn 202 (.pair (.ptr (.ptr (ZjQ))) (.unit))) Iq ZJ
def ZF (s0:List Zb) (f0:YT×Unit):Option Bool :=
 (ZJ s0 f0).bind fun c1_0 =>
 some (Decidable.decide (0≤c1_0))
def Zxo:Ctr:=D2 (.sl (YA)) (.fn 202 (.pair (.ptr (.ptr (ZjQ))) (.unit))) (.bool) ZF
def Zgc (t0:Int):Option Bool :=
 (ZW t0 (-1000000000) 1000000000).bind fun within0 =>
 some within0
def c162:Ctr:=D1 Iq (.bool) Zgc
def Zcy (s0:ZH):Option Bool :=
 (Zgc (ZH.Early s0)).bind fun isTime0 =>
 if isTime0=true then
 (Zgc (ZH.Late s0)).bind fun isTime1 =>
 if isTime1=true then
 some (Decidable.decide (ZH.Early s0≤ZH.Late s0))
 else
 some Bool.false
 else
 some Bool.false
def Zwv:Ctr:=D1 (Zgy) (.bool) Zcy
def Zgb (n0:Int):Option Bool :=
 (ZW n0 0 1000000).bind fun within0 =>
 some within0
def c164:Ctr:=D1 Iq (.bool) Zgb
def ZbY (s0:ZH):Option Bool :=
 (Zcy s0).bind fun IsSpan0 =>
 if IsSpan0=true then
 (Zgb (ZH.Early s0)).bind fun isSlew0 =>
 if isSlew0=true then
 (Zgb (ZH.Late s0)).bind fun isSlew1 =>
 some isSlew1
 else
 some Bool.false
 else
 some Bool.false
def Zxp:Ctr:=D1 (Zgy) (.bool) ZbY
def Qs (a0:YT) (a1:List Zd) (a2:Bool) (a3:Int) (v0:Int):Option ((Int×Unit) ⊕ Bool) :=
 if v0<(↑a1.length:Int) then
 (atI a1 v0).bind fun x0 =>
 (QC a0 (Zd.Place x0)).bind fun isPlace0 =>
 if isPlace0=true then
 (atI (YT.places a0) (Zd.Place x0)).bind fun x1 =>
 if 0≤Y1.instance x1 then
 some (.inr Bool.false)
 else
 if (Y1.drives x1 == a2)=true then
 if 0<v0 then
 (atI a1 (Wq (v0-1))).bind fun x2 =>
 if Zd.Place x0≤Zd.Place x2 then
 some (.inr Bool.false)
 else
 (ZW (Zd.Clock x0) 0 (Wq (a3-1))).bind fun within0 =>
 if within0=true then
 (Zcy (Zd.Delay x0)).bind fun IsSpan0 =>
 if IsSpan0=true then
 if ZH.Early (Zd.Delay x0)<(-100000) then
 some (.inr Bool.false)
 else
 if 100000<ZH.Late (Zd.Delay x0) then
 some (.inr Bool.false)
 else
 if a2=true then
 (ZbY (Zd.ZaY x0)).bind fun areSlews0 =>
 if areSlews0=true then
 if a2=true then
 some (.inl (Wq (v0+1),()))
 else
 if (Decidable.decide (ZH.Early (Zd.ZaY x0)=0)&&Decidable.decide (ZH.Late (Zd.ZaY x0)=0))=true then
 some (.inl (Wq (v0+1),()))
 else
 some (.inr Bool.false)
 else
 some (.inr Bool.false)
 else
 if a2=true then
 some (.inl (Wq (v0+1),()))
 else
 if (Decidable.decide (ZH.Early (Zd.ZaY x0)=0)&&Decidable.decide (ZH.Late (Zd.ZaY x0)=0))=true then
 some (.inl (Wq (v0+1),()))
 else
 some (.inr Bool.false)
 else
 some (.inr Bool.false)
 else
 some (.inr Bool.false)
 else
 (ZW (Zd.Clock x0) 0 (Wq (a3-1))).bind fun within0 =>
 if within0=true then
 (Zcy (Zd.Delay x0)).bind fun IsSpan0 =>
 if IsSpan0=true then
 if ZH.Early (Zd.Delay x0)<(-100000) then
 some (.inr Bool.false)
 else
 if 100000<ZH.Late (Zd.Delay x0) then
 some (.inr Bool.false)
 else
 if a2=true then
 (ZbY (Zd.ZaY x0)).bind fun areSlews0 =>
 if areSlews0=true then
 if a2=true then
 some (.inl (Wq (v0+1),()))
 else
 if (Decidable.decide (ZH.Early (Zd.ZaY x0)=0)&&Decidable.decide (ZH.Late (Zd.ZaY x0)=0))=true then
 some (.inl (Wq (v0+1),()))
 else
 some (.inr Bool.false)
 else
 some (.inr Bool.false)
 else
 if a2=true then
 some (.inl (Wq (v0+1),()))
 else
 if (Decidable.decide (ZH.Early (Zd.ZaY x0)=0)&&Decidable.decide (ZH.Late (Zd.ZaY x0)=0))=true then
 some (.inl (Wq (v0+1),()))
 else
 some (.inr Bool.false)
 else
 some (.inr Bool.false)
 else
 some (.inr Bool.false)
 else
 some (.inr Bool.false)
 else
 some (.inr Bool.false)
 else
 some (.inr Bool.true)
def XM (a0:YT) (a1:List Zd) (a2:Bool) (a3:Int):Option Bool :=
 Zr (fun v=>Qs a0 a1 a2 a3 v.1) ((0:Int),())
def Zxq:Ctr:=D4 (.ptr (ZjQ)) (.sl (ZQ)) (.bool) Iq (.bool) XM
def ZeL (kind0:Int) (value0:Int):Option Bool :=
 if kind0=1 then
 some (Decidable.decide (value0=0))
 else
 if kind0=2 then
 (ZW value0 1 10).bind fun within0 =>
 some within0
 else
 if kind0=3 then
 if kind0=3 then
 (ZW value0 0 1000000000).bind fun within0 =>
 some within0
 else
 some Bool.false
 else
 if kind0=4 then
 (ZW value0 0 1000000000).bind fun within0 =>
 some within0
 else
 some Bool.false
def c167:Ctr:=D2 Iq Iq (.bool) ZeL
def QH (v0:YT) (e0:Zh) (v1:Int):Option ((Int×Unit) ⊕ Bool) :=
 if v1<(↑(List.length [Zh.From e0,Zh.Through e0,Zh.To e0]):Int) then
 (atI ([Zh.From e0,Zh.Through e0,Zh.To e0]) v1).bind fun x0 =>
 if 4<(↑x0.length:Int) then
 some (.inr Bool.false)
 else
 (XL (YT.places v0)).bind fun place0 =>
 (Xh x0 0 (Wq (place0-1))).bind fun areWithin0 =>
 if areWithin0=true then
 some (.inl (Wq (v1+1),()))
 else
 some (.inr Bool.false)
 else
 (ZeL (Zh.Kind e0) (Zh.Value e0)).bind fun isValue0 =>
 if isValue0=true then
 (QB (Zh.From e0)).bind fun isIncreasing0 =>
 if isIncreasing0=true then
 (QB (Zh.To e0)).bind fun isIncreasing1 =>
 some (.inr isIncreasing1)
 else
 some (.inr Bool.false)
 else
 some (.inr Bool.false)
def X3 (v0:YT) (e0:Zh):Option Bool :=
 Zr (fun v=>QH v0 e0 v.1) ((0:Int),())
def c168:Ctr:=D2 (.ptr (ZjQ)) (ZG) (.bool) X3
def Ql (e0:Zh) (a0:YT):Option Bool :=
 (X3 a0 e0).bind fun isException0 =>
 some !isException0
def Zxr:Ctr:=D2 (ZG) (.ptr (.ptr (ZjQ))) (.bool) Ql
def ZL (s0:List Zh) (f0:YT×Unit) (v0:Int):Option ((Int×Unit) ⊕ Int) :=
 if v0<(↑s0.length:Int) then
 (atI s0 v0).bind fun x0 =>
 (Ql x0 f0.fst).bind fun c2_0 =>
 if c2_0=true then
 some (.inr v0)
 else
 some (.inl (Wq (v0+1),()))
 else
 some (.inr (-1))
def ZC (s0:List Zh) (f0:YT×Unit):Option Int :=
 Zr (fun v=>ZL s0 f0 v.1) ((0:Int),())
def Zxs:Ctr:=D2 (.sl (ZG)) (.fn 206 (.pair (.ptr (.ptr (ZjQ))) (.unit))) Iq ZC
def ZA (s0:List Zh) (f0:YT×Unit):Option Bool :=
 (ZC s0 f0).bind fun c2_0 =>
 some (Decidable.decide (0≤c2_0))
def c171:Ctr:=D2 (.sl (ZG)) (.fn 206 (.pair (.ptr (.ptr (ZjQ))) (.unit))) (.bool) ZA
def JO (early0:Int) (late0:Int):Option Bool :=
 if 100≤early0 then
 if early0≤late0 then
 some (Decidable.decide (late0≤5000))
 else
 some Bool.false
 else
 some Bool.false
def Zxt:Ctr:=D2 Iq Iq (.bool) JO
def ZdI (c0:Zq):Option Bool :=
 (ZcC (Zq.Name c0)).bind fun isName0 =>
 if isName0=true then
 (JO (Zq.X0 c0) (Zq.Jz c0)).bind fun areFactors0 =>
 if areFactors0=true then
 (JO (Zq.JL c0) (Zq.ZcQ c0)).bind fun areFactors1 =>
 some areFactors1
 else
 some Bool.false
 else
 some Bool.false
def c173:Ctr:=D1 (Yo) (.bool) ZdI
def V4 (list0:List Zq):Option Int :=
 some (↑list0.length:Int)
def Zxu:Ctr:=D1 (.sl (Yo)) Iq V4
def Xx (list0:List Zq) (names0:List (List UInt8)) (v0:Int):Option (((List (List UInt8))×Int×Unit) ⊕ Bool) :=
 if v0<(↑list0.length:Int) then
 (atI list0 v0).bind fun x0 =>
 (ZdI x0).bind fun IsCorner0 =>
 if IsCorner0=true then
 Zv ((List.length names0+List.length [Zq.Name x0])*(16:Nat)≤(140737488355328:Nat)) <|
 some (.inl (names0++[Zq.Name x0],Wq (v0+(1:Int)),()))
 else
 some (.inr Bool.false)
 else
 (V4 list0).bind fun Corner0 =>
 (ZW Corner0 1 4).bind fun within0 =>
 if within0=true then
 (XV names0).bind fun areNames0 =>
 some (.inr areNames0)
 else
 some (.inr Bool.false)
def Zao (list0:List Zq):Option Bool :=
 Zr (fun v=>Xx list0 v.1 v.2.1) (([]:List (List UInt8)),(0:Int),())
def c175:Ctr:=D1 (.sl (Yo)) (.bool) Zao
def Zas (v0:YT) (s0:Zm):Option Bool :=
 (Ju (Zm.ZE s0)).bind fun Clock0 =>
 (ZdH (Zm.ZE s0)).bind fun IsClocks0 =>
 if IsClocks0=true then
 (ZF (Zm.ZE s0) (v0,())).bind fun c1_0 =>
 if c1_0=true then
 some Bool.false
 else
 (XM v0 (Zm.QE s0) Bool.true Clock0).bind fun areExternals0 =>
 if areExternals0=true then
 (XM v0 (Zm.Zdo s0) Bool.false Clock0).bind fun areExternals1 =>
 if areExternals1=true then
 if 6<(↑(List.length (Zm.Exceptions s0)):Int) then
 some Bool.false
 else
 (ZA (Zm.Exceptions s0) (v0,())).bind fun c2_0 =>
 if c2_0=true then
 some Bool.false
 else
 if (↑(List.length (Zm.Zct s0)):Int)=0 then
 some Bool.true
 else
 (Zao (Zm.Zct s0)).bind fun IsCornerList0 =>
 some IsCornerList0
 else
 some Bool.false
 else
 some Bool.false
 else
 some Bool.false
def Zxv:Ctr:=D2 (.ptr (ZjQ)) (XG) (.bool) Zas
def ZeG (b0:Zn) (s0:Zm):Option Bool :=
 (ZeF b0).bind fun IsBlock0 =>
 if IsBlock0=true then
 (ZeM b0).bind fun newView0 =>
 (Zas newView0 s0).bind fun isSetup0 =>
 some isSetup0
 else
 some Bool.false
def Zxw:Ctr:=D2 (Y2) (XG) (.bool) ZeG
def YQ (x0:Zb) (waveOf0:Zbc) (out0:List Zl) (v0:Int):Option (((List Zl)×Int×Unit) ⊕ List Zl) :=
 if v0<2 then
 (atI ([(Zbc.edges waveOf0).fst,(Zbc.edges waveOf0).snd.fst]) v0).bind fun x1 =>
 Zv ((List.length out0+List.length [(Wq (Wq ((2:Int)*Zb.Place x0)+v0),(Wq (x1+Zb.Yk x0),Wq (x1+Zb.YZ x0),()),((0:Int),(0:Int),()),())])*(40:Nat)≤(140737488355328:Nat)) <|
 some (.inl (out0++[(Wq (Wq ((2:Int)*Zb.Place x0)+v0),(Wq (x1+Zb.Yk x0),Wq (x1+Zb.YZ x0),()),((0:Int),(0:Int),()),())],Wq (v0+(1:Int)),()))
 else
 some (.inr out0)
def Zar (list0:List Zb) (k0:Int):Option (List Zl) :=
 (atI list0 k0).bind fun x0 =>
 (ZcD list0 k0).bind fun waveOf0 =>
 Zr (fun v=>YQ x0 waveOf0 v.1 v.2.1) (([]:List Zl),(0:Int),())
def Zxx:Ctr:=⟨[.dat (.sl (YA)),.dat Iq],[.own (.ol 118 (.flat (Y5)))],fun a K=>splitK a fun list0 a=>splitK a fun k0 a=>Xb (Zar list0 k0) fun r=>K (r,()) ()⟩
def Zdq (s0:Zl) (a0:Int):Option Bool :=
 some (Decidable.decide (Zl.Node s0=a0))
def Zxy:Ctr:=D2 (Y5) (.ptr Iq) (.bool) Zdq
def Z5 (s0:List Zl) (f0:Int×Unit) (v0:Int):Option ((Int×Unit) ⊕ Int) :=
 if v0<(↑s0.length:Int) then
 (atI s0 v0).bind fun x0 =>
 (Zdq x0 f0.fst).bind fun c1_0 =>
 if c1_0=true then
 some (.inr v0)
 else
 some (.inl (Wq (v0+1),()))
 else
 some (.inr (-1))
def ZO (s0:List Zl) (f0:Int×Unit):Option Int :=
 Zr (fun v=>Z5 s0 f0 v.1) ((0:Int),())
def Zxz:Ctr:=D2 (.sl (Y5)) (.fn 210 (.pair (.ptr Iq) (.unit))) Iq ZO
def V5 (list0:List Zl) (node0:Int):Option (Zl×Bool) :=
 (ZO list0 (node0,())).bind fun c1_0 =>
 if 0≤c1_0 then
 (atI list0 c1_0).bind fun x0 =>
 some (x0,Bool.true)
 else
 some ((0,(0,0,()),(0,0,()),()),Bool.false)
def ZxA:Ctr:=⟨[.dat (.sl (Y5)),.dat Iq],[.dat (Y5),.dat (.bool)],fun a K=>splitK a fun list0 a=>splitK a fun node0 a=>Xb (V5 list0 node0) fun r=>K (r.1,r.2,()) ()⟩
def Qi (a0:Zm) (v1:Int) (c1:List Zl):Option ((Int×(List Zl)×Unit) ⊕ ((Int×(List Zl)×Unit) ⊕ List Zl)) :=
 if v1<(↑(List.length (Zm.QE a0)):Int) then
 (atI (Zm.QE a0) v1).bind fun x0 =>
 (ZcD (Zm.ZE a0) (Zd.Clock x0)).bind fun waveOf0 =>
 (atI ([(Zbc.edges waveOf0).fst,(Zbc.edges waveOf0).snd.fst]) (0:Int)).bind fun x1 =>
 (atI ([(Wq ((2:Int)*Zd.Place x0),(Wq (ZH.Early (Zd.Delay x0)+x1),Wq (ZH.Late (Zd.Delay x0)+x1),()),x0.snd.snd.snd),(Wq (Wq ((2:Int)*Zd.Place x0)+(1:Int)),(Wq (ZH.Early (Zd.Delay x0)+x1),Wq (ZH.Late (Zd.Delay x0)+x1),()),x0.snd.snd.snd)]) (0:Int)).bind fun x2 =>
 (V5 c1 x2.fst).bind fun sourceAt0 =>
 if sourceAt0.snd=true then
 some (.inl (Wq (v1+1),c1,()))
 else
 Zv ((List.length c1+List.length [(Wq ((2:Int)*Zd.Place x0),(Wq (ZH.Early (Zd.Delay x0)+x1),Wq (ZH.Late (Zd.Delay x0)+x1),()),x0.snd.snd.snd),(Wq (Wq ((2:Int)*Zd.Place x0)+(1:Int)),(Wq (ZH.Early (Zd.Delay x0)+x1),Wq (ZH.Late (Zd.Delay x0)+x1),()),x0.snd.snd.snd)])*(40:Nat)≤(140737488355328:Nat)) <|
 some (.inl (Wq (v1+(1:Int)),c1++[(Wq ((2:Int)*Zd.Place x0),(Wq (ZH.Early (Zd.Delay x0)+x1),Wq (ZH.Late (Zd.Delay x0)+x1),()),x0.snd.snd.snd),(Wq (Wq ((2:Int)*Zd.Place x0)+(1:Int)),(Wq (ZH.Early (Zd.Delay x0)+x1),Wq (ZH.Late (Zd.Delay x0)+x1),()),x0.snd.snd.snd)],()))
 else
 (Zsf (fun x=>Zl.Node x) c1).bind fun ksort0 =>
 some (.inr (.inr ksort0))
def Qj (a0:Zm) (v0:Int) (c0:List Zl):Option ((Int×(List Zl)×Unit) ⊕ List Zl) :=
 if v0<(↑(List.length (Zm.ZE a0)):Int) then
 (Zar (Zm.ZE a0) v0).bind fun clockSources0 =>
 (atI clockSources0 0).bind fun x0 =>
 (V5 c0 (Zl.Node x0)).bind fun sourceAt0 =>
 if sourceAt0.snd=true then
 some (.inl (Wq (v0+1),c0,()))
 else
 Zv ((List.length c0+List.length clockSources0)*(40:Nat)≤(140737488355328:Nat)) <|
 some (.inl (Wq (v0+1),c0++clockSources0,()))
 else
 Zr (fun v=>Qi a0 v.1 v.2.1) ((0:Int),c0,())
def ZcV (a0:Zm):Option (List Zl) :=
 Zr (fun v=>Qj a0 v.1 v.2.1) ((0:Int),([]:List Zl),())
def c182:Ctr:=⟨[.dat (XG)],[.own (.ol 118 (.flat (Y5)))],fun a K=>splitK a fun a0 a=>Xb (ZcV a0) fun r=>K (r,()) ()⟩
def Zap (b0:Zn) (s0:Zm):Option ((List Zl)×Int) :=
 (ZeG b0 s0).bind fun IsSetup0 =>
 if IsSetup0=true then
 (ZcV s0).bind fun sourcesOf0 =>
 some (sourcesOf0,0)
 else
 some (([]:List Zl),(1:Int))
def c183:Ctr:=⟨[.dat (Y2),.dat (XG)],[.own (.ol 118 (.flat (Y5))),.dat Iq],fun a K=>splitK a fun b0 a=>splitK a fun s0 a=>Xb (Zap b0 s0) fun r=>K (r.1,r.2,()) ()⟩
def Zbj (a0:ZH) (b0:ZH):Option Bool :=
 if ZH.Early a0=ZH.Early b0 then
 if ZH.Late a0=ZH.Late b0 then
 some Bool.true
 else
 some Bool.false
 else
 some Bool.false
def Zww:Ctr:=D2 (Zgy) (Zgy) (.bool) Zbj
def Zb4 (a0:Zl) (b0:Zl):Option Bool :=
 if Zl.Node a0=Zl.Node b0 then
 (Zbj (Zl.Zba a0) (Zl.Zba b0)).bind fun eqSpan0 =>
 if eqSpan0=true then
 (Zbj (Zl.ZaY a0) (Zl.ZaY b0)).bind fun eqSpan1 =>
 if eqSpan1=true then
 some Bool.true
 else
 some Bool.false
 else
 some Bool.false
 else
 some Bool.false
def ZxB:Ctr:=D2 (Y5) (Y5) (.bool) Zb4
def ZhS (a0:List Zl) (b0:List Zl) (i0:Int):Option ((Int×Unit) ⊕ Bool) :=
 if i0<(↑a0.length:Int) then
 (atI a0 i0).bind fun x0 =>
 (atI b0 i0).bind fun x1 =>
 (Zb4 x0 x1).bind fun eqSource0 =>
 if eqSource0=true then
 some (.inl (Wq (i0+1),()))
 else
 some (.inr Bool.false)
 else
 some (.inr Bool.true)
def ZcY (a0:List Zl) (b0:List Zl):Option Bool :=
 if (↑a0.length:Int)=(↑b0.length:Int) then
 Zr (fun v=>ZhS a0 b0 v.1) ((0:Int),())
 else
 some Bool.false
def ZxC:Ctr:=D2 (.sl (Y5)) (.sl (Y5)) (.bool) ZcY
def Zfq (a0:Yq) (b0:Yq):Option Bool :=
 if Yq.Name a0=Yq.Name b0 then
 if Yq.Dir a0=Yq.Dir b0 then
 if Yq.Cap a0=Yq.Cap b0 then
 if (Yq.Clock a0 == Yq.Clock b0)=true then
 some Bool.true
 else
 some Bool.false
 else
 some Bool.false
 else
 some Bool.false
 else
 some Bool.false
def ZxD:Ctr:=D2 (Zdb) (Zdb) (.bool) Zfq
def Zkc (a0:List Yq) (b0:List Yq) (i0:Int):Option ((Int×Unit) ⊕ Bool) :=
 if i0<(↑a0.length:Int) then
 (atI a0 i0).bind fun x0 =>
 (atI b0 i0).bind fun x1 =>
 (Zfq x0 x1).bind fun eqPin0 =>
 if eqPin0=true then
 some (.inl (Wq (i0+1),()))
 else
 some (.inr Bool.false)
 else
 some (.inr Bool.true)
def Zgg (a0:List Yq) (b0:List Yq):Option Bool :=
 if (↑a0.length:Int)=(↑b0.length:Int) then
 Zr (fun v=>Zkc a0 b0 v.1) ((0:Int),())
 else
 some Bool.false
def ZxE:Ctr:=D2 (.sl (Zdb)) (.sl (Zdb)) (.bool) Zgg
def Ziy (a0:List Int) (b0:List Int) (i0:Int):Option ((Int×Unit) ⊕ Bool) :=
 if i0<(↑a0.length:Int) then
 (atI a0 i0).bind fun x0 =>
 (atI b0 i0).bind fun x1 =>
 if x0=x1 then
 some (.inl (Wq (i0+1),()))
 else
 some (.inr Bool.false)
 else
 some (.inr Bool.true)
def YR (a0:List Int) (b0:List Int):Option Bool :=
 if (↑a0.length:Int)=(↑b0.length:Int) then
 Zr (fun v=>Ziy a0 b0 v.1) ((0:Int),())
 else
 some Bool.false
def Zt8:Ctr:=D2 (.sl Iq) (.sl Iq) (.bool) YR
def Zdg (a0:Zx) (b0:Zx):Option Bool :=
 (YR (Zx.ZhL a0) (Zx.ZhL b0)).bind fun eqInt64S0 =>
 if eqInt64S0=true then
 (YR (Zx.Loads a0) (Zx.Loads b0)).bind fun eqInt64S1 =>
 if eqInt64S1=true then
 (YR (Zx.Values a0) (Zx.Values b0)).bind fun eqInt64S2 =>
 if eqInt64S2=true then
 some Bool.true
 else
 some Bool.false
 else
 some Bool.false
 else
 some Bool.false
def ZxF:Ctr:=D2 (YO) (YO) (.bool) Zdg
def Ziz (a0:List Zx) (b0:List Zx) (i0:Int):Option ((Int×Unit) ⊕ Bool) :=
 if i0<(↑a0.length:Int) then
 (atI a0 i0).bind fun x0 =>
 (atI b0 i0).bind fun x1 =>
 (Zdg x0 x1).bind fun eqTable0 =>
 if eqTable0=true then
 some (.inl (Wq (i0+1),()))
 else
 some (.inr Bool.false)
 else
 some (.inr Bool.true)
def Zb5 (a0:List Zx) (b0:List Zx):Option Bool :=
 if (↑a0.length:Int)=(↑b0.length:Int) then
 Zr (fun v=>Ziz a0 b0 v.1) ((0:Int),())
 else
 some Bool.false
def ZxG:Ctr:=D2 (.sl (YO)) (.sl (YO)) (.bool) Zb5
def Zfp (a0:ZB) (b0:ZB):Option Bool :=
 if ZB.Kind a0=ZB.Kind b0 then
 if ZB.From a0=ZB.From b0 then
 if ZB.To a0=ZB.To b0 then
 if ZB.ZbM a0=ZB.ZbM b0 then
 (Zb5 (ZB.Delay a0) (ZB.Delay b0)).bind fun eqTableS0 =>
 if eqTableS0=true then
 (Zb5 (ZB.ZaY a0) (ZB.ZaY b0)).bind fun eqTableS1 =>
 if eqTableS1=true then
 some Bool.true
 else
 some Bool.false
 else
 some Bool.false
 else
 some Bool.false
 else
 some Bool.false
 else
 some Bool.false
 else
 some Bool.false
def ZxH:Ctr:=D2 (ZdY) (ZdY) (.bool) Zfp
def Zj9 (a0:List ZB) (b0:List ZB) (i0:Int):Option ((Int×Unit) ⊕ Bool) :=
 if i0<(↑a0.length:Int) then
 (atI a0 i0).bind fun x0 =>
 (atI b0 i0).bind fun x1 =>
 (Zfp x0 x1).bind fun eqArc0 =>
 if eqArc0=true then
 some (.inl (Wq (i0+1),()))
 else
 some (.inr Bool.false)
 else
 some (.inr Bool.true)
def Zge (a0:List ZB) (b0:List ZB):Option Bool :=
 if (↑a0.length:Int)=(↑b0.length:Int) then
 Zr (fun v=>Zj9 a0 b0 v.1) ((0:Int),())
 else
 some Bool.false
def c193:Ctr:=D2 (.sl (ZdY)) (.sl (ZdY)) (.bool) Zge
def Zeg (a0:Zi) (b0:Zi):Option Bool :=
 if Zi.Name a0=Zi.Name b0 then
 if Zi.Kind a0=Zi.Kind b0 then
 (Zgg (Zi.YB a0) (Zi.YB b0)).bind fun eqPinS0 =>
 if eqPinS0=true then
 (Zge (Zi.Zaf a0) (Zi.Zaf b0)).bind fun eqArcS0 =>
 if eqArcS0=true then
 (YR (Zi.Truth a0) (Zi.Truth b0)).bind fun eqInt64S0 =>
 if eqInt64S0=true then
 if Zi.ZsY a0=Zi.ZsY b0 then
 if Zi.Zh1 a0=Zi.Zh1 b0 then
 some Bool.true
 else
 some Bool.false
 else
 some Bool.false
 else
 some Bool.false
 else
 some Bool.false
 else
 some Bool.false
 else
 some Bool.false
 else
 some Bool.false
def c194:Ctr:=D2 (Qf) (Qf) (.bool) Zeg
def Zji (a0:List Zi) (b0:List Zi) (i0:Int):Option ((Int×Unit) ⊕ Bool) :=
 if i0<(↑a0.length:Int) then
 (atI a0 i0).bind fun x0 =>
 (atI b0 i0).bind fun x1 =>
 (Zeg x0 x1).bind fun eqCell0 =>
 if eqCell0=true then
 some (.inl (Wq (i0+1),()))
 else
 some (.inr Bool.false)
 else
 some (.inr Bool.true)
def ZeO (a0:List Zi) (b0:List Zi):Option Bool :=
 if (↑a0.length:Int)=(↑b0.length:Int) then
 Zr (fun v=>Zji a0 b0 v.1) ((0:Int),())
 else
 some Bool.false
def ZxI:Ctr:=D2 (.sl (Qf)) (.sl (Qf)) (.bool) ZeO
def ZcX (a0:Zu) (b0:Zu):Option Bool :=
 (ZeO (Zu.Cells a0) (Zu.Cells b0)).bind fun eqCellS0 =>
 if eqCellS0=true then
 some Bool.true
 else
 some Bool.false
def c196:Ctr:=D2 (YD) (YD) (.bool) ZcX
def JU (a0:Zk) (b0:Zk):Option Bool :=
 if Zk.Name a0=Zk.Name b0 then
 if Zk.Cell a0=Zk.Cell b0 then
 (YR (Zk.XJ a0) (Zk.XJ b0)).bind fun eqInt64S0 =>
 if eqInt64S0=true then
 some Bool.true
 else
 some Bool.false
 else
 some Bool.false
 else
 some Bool.false
def ZxJ:Ctr:=D2 (Z7) (Z7) (.bool) JU
def Zg0 (a0:List Zk) (b0:List Zk) (i0:Int):Option ((Int×Unit) ⊕ Bool) :=
 if i0<(↑a0.length:Int) then
 (atI a0 i0).bind fun x0 =>
 (atI b0 i0).bind fun x1 =>
 (JU x0 x1).bind fun eqInstance0 =>
 if eqInstance0=true then
 some (.inl (Wq (i0+1),()))
 else
 some (.inr Bool.false)
 else
 some (.inr Bool.true)
def Za2 (a0:List Zk) (b0:List Zk):Option Bool :=
 if (↑a0.length:Int)=(↑b0.length:Int) then
 Zr (fun v=>Zg0 a0 b0 v.1) ((0:Int),())
 else
 some Bool.false
def c198:Ctr:=D2 (.sl (Z7)) (.sl (Z7)) (.bool) Za2
def ZhT (a0:List (List UInt8)) (b0:List (List UInt8)) (i0:Int):Option ((Int×Unit) ⊕ Bool) :=
 if i0<(↑a0.length:Int) then
 (atI a0 i0).bind fun x0 =>
 (atI b0 i0).bind fun x1 =>
 if x0=x1 then
 some (.inl (Wq (i0+1),()))
 else
 some (.inr Bool.false)
 else
 some (.inr Bool.true)
def Zc0 (a0:List (List UInt8)) (b0:List (List UInt8)):Option Bool :=
 if (↑a0.length:Int)=(↑b0.length:Int) then
 Zr (fun v=>ZhT a0 b0 v.1) ((0:Int),())
 else
 some Bool.false
def ZxK:Ctr:=D2 (.sl (.str)) (.sl (.str)) (.bool) Zc0
def Zei (a0:Ya) (b0:Ya):Option Bool :=
 if Ya.Name a0=Ya.Name b0 then
 if Ya.Dir a0=Ya.Dir b0 then
 if Ya.Net a0=Ya.Net b0 then
 some Bool.true
 else
 some Bool.false
 else
 some Bool.false
 else
 some Bool.false
def ZxL:Ctr:=D2 (VH) (VH) (.bool) Zei
def Zjl (a0:List Ya) (b0:List Ya) (i0:Int):Option ((Int×Unit) ⊕ Bool) :=
 if i0<(↑a0.length:Int) then
 (atI a0 i0).bind fun x0 =>
 (atI b0 i0).bind fun x1 =>
 (Zei x0 x1).bind fun eqPort0 =>
 if eqPort0=true then
 some (.inl (Wq (i0+1),()))
 else
 some (.inr Bool.false)
 else
 some (.inr Bool.true)
def ZeP (a0:List Ya) (b0:List Ya):Option Bool :=
 if (↑a0.length:Int)=(↑b0.length:Int) then
 Zr (fun v=>Zjl a0 b0 v.1) ((0:Int),())
 else
 some Bool.false
def c201:Ctr:=D2 (.sl (VH)) (.sl (VH)) (.bool) ZeP
def ZdL (a0:Zf) (b0:Zf):Option Bool :=
 (Za2 (Zf.Instances a0) (Zf.Instances b0)).bind fun eqInstanceS0 =>
 if eqInstanceS0=true then
 (Zc0 (Zf.XJ a0) (Zf.XJ b0)).bind fun eqStringS0 =>
 if eqStringS0=true then
 (ZeP (Zf.Xe a0) (Zf.Xe b0)).bind fun eqPortS0 =>
 if eqPortS0=true then
 some Bool.true
 else
 some Bool.false
 else
 some Bool.false
 else
 some Bool.false
def ZxM:Ctr:=D2 (YN) (YN) (.bool) ZdL
def Zej (a0:Zy) (b0:Zy):Option Bool :=
 (YR (Zy.Parent a0) (Zy.Parent b0)).bind fun eqInt64S0 =>
 if eqInt64S0=true then
 (YR (Zy.Res a0) (Zy.Res b0)).bind fun eqInt64S1 =>
 if eqInt64S1=true then
 (YR (Zy.Cap a0) (Zy.Cap b0)).bind fun eqInt64S2 =>
 if eqInt64S2=true then
 (YR (Zy.ZjU a0) (Zy.ZjU b0)).bind fun eqInt64S3 =>
 if eqInt64S3=true then
 some Bool.true
 else
 some Bool.false
 else
 some Bool.false
 else
 some Bool.false
 else
 some Bool.false
def c203:Ctr:=D2 (Vr) (Vr) (.bool) Zej
def Zjm (a0:List Zy) (b0:List Zy) (i0:Int):Option ((Int×Unit) ⊕ Bool) :=
 if i0<(↑a0.length:Int) then
 (atI a0 i0).bind fun x0 =>
 (atI b0 i0).bind fun x1 =>
 (Zej x0 x1).bind fun eqWire0 =>
 if eqWire0=true then
 some (.inl (Wq (i0+1),()))
 else
 some (.inr Bool.false)
 else
 some (.inr Bool.true)
def ZeR (a0:List Zy) (b0:List Zy):Option Bool :=
 if (↑a0.length:Int)=(↑b0.length:Int) then
 Zr (fun v=>Zjm a0 b0 v.1) ((0:Int),())
 else
 some Bool.false
def ZxN:Ctr:=D2 (.sl (Vr)) (.sl (Vr)) (.bool) ZeR
def ZeN (a0:Zn) (b0:Zn):Option Bool :=
 (ZcX (Zn.Library a0) (Zn.Library b0)).bind fun eqLibrary0 =>
 if eqLibrary0=true then
 (ZdL (Zn.Design a0) (Zn.Design b0)).bind fun eqDesign0 =>
 if eqDesign0=true then
 (ZeR (Zn.XQ a0) (Zn.XQ b0)).bind fun eqWireS0 =>
 if eqWireS0=true then
 some Bool.true
 else
 some Bool.false
 else
 some Bool.false
 else
 some Bool.false
def ZxO:Ctr:=D2 (Y2) (Y2) (.bool) ZeN
def Zdf (a0:Zb) (b0:Zb):Option Bool :=
 if Zb.Name a0=Zb.Name b0 then
 if Zb.Place a0=Zb.Place b0 then
 if Zb.YE a0=Zb.YE b0 then
 if Zb.Y7 a0=Zb.Y7 b0 then
 if Zb.Xv a0=Zb.Xv b0 then
 if Zb.Source a0=Zb.Source b0 then
 if Zb.Divide a0=Zb.Divide b0 then
 if (Zb.Zdy a0 == Zb.Zdy b0)=true then
 if Zb.Yk a0=Zb.Yk b0 then
 if Zb.YZ a0=Zb.YZ b0 then
 if Zb.JK a0=Zb.JK b0 then
 some Bool.true
 else
 some Bool.false
 else
 some Bool.false
 else
 some Bool.false
 else
 some Bool.false
 else
 some Bool.false
 else
 some Bool.false
 else
 some Bool.false
 else
 some Bool.false
 else
 some Bool.false
 else
 some Bool.false
 else
 some Bool.false
def c206:Ctr:=D2 (YA) (YA) (.bool) Zdf
def Ziv (a0:List Zb) (b0:List Zb) (i0:Int):Option ((Int×Unit) ⊕ Bool) :=
 if i0<(↑a0.length:Int) then
 (atI a0 i0).bind fun x0 =>
 (atI b0 i0).bind fun x1 =>
 (Zdf x0 x1).bind fun eqClock0 =>
 if eqClock0=true then
 some (.inl (Wq (i0+1),()))
 else
 some (.inr Bool.false)
 else
 some (.inr Bool.true)
def ZdK (a0:List Zb) (b0:List Zb):Option Bool :=
 if (↑a0.length:Int)=(↑b0.length:Int) then
 Zr (fun v=>Ziv a0 b0 v.1) ((0:Int),())
 else
 some Bool.false
def ZxP:Ctr:=D2 (.sl (YA)) (.sl (YA)) (.bool) ZdK
def JR (a0:Zd) (b0:Zd):Option Bool :=
 if Zd.Place a0=Zd.Place b0 then
 if Zd.Clock a0=Zd.Clock b0 then
 (Zbj (Zd.Delay a0) (Zd.Delay b0)).bind fun eqSpan0 =>
 if eqSpan0=true then
 (Zbj (Zd.ZaY a0) (Zd.ZaY b0)).bind fun eqSpan1 =>
 if eqSpan1=true then
 some Bool.true
 else
 some Bool.false
 else
 some Bool.false
 else
 some Bool.false
 else
 some Bool.false
def c208:Ctr:=D2 (ZQ) (ZQ) (.bool) JR
def ZgZ (a0:List Zd) (b0:List Zd) (i0:Int):Option ((Int×Unit) ⊕ Bool) :=
 if i0<(↑a0.length:Int) then
 (atI a0 i0).bind fun x0 =>
 (atI b0 i0).bind fun x1 =>
 (JR x0 x1).bind fun eqExternal0 =>
 if eqExternal0=true then
 some (.inl (Wq (i0+1),()))
 else
 some (.inr Bool.false)
 else
 some (.inr Bool.true)
def Jh (a0:List Zd) (b0:List Zd):Option Bool :=
 if (↑a0.length:Int)=(↑b0.length:Int) then
 Zr (fun v=>ZgZ a0 b0 v.1) ((0:Int),())
 else
 some Bool.false
def ZxQ:Ctr:=D2 (.sl (ZQ)) (.sl (ZQ)) (.bool) Jh
def Jg (a0:Zh) (b0:Zh):Option Bool :=
 if Zh.Kind a0=Zh.Kind b0 then
 if Zh.Value a0=Zh.Value b0 then
 (YR (Zh.From a0) (Zh.From b0)).bind fun eqInt64S0 =>
 if eqInt64S0=true then
 (YR (Zh.Through a0) (Zh.Through b0)).bind fun eqInt64S1 =>
 if eqInt64S1=true then
 (YR (Zh.To a0) (Zh.To b0)).bind fun eqInt64S2 =>
 if eqInt64S2=true then
 some Bool.true
 else
 some Bool.false
 else
 some Bool.false
 else
 some Bool.false
 else
 some Bool.false
 else
 some Bool.false
def c210:Ctr:=D2 (ZG) (ZG) (.bool) Jg
def Zgf (a0:List Zh) (b0:List Zh) (i0:Int):Option ((Int×Unit) ⊕ Bool) :=
 if i0<(↑a0.length:Int) then
 (atI a0 i0).bind fun x0 =>
 (atI b0 i0).bind fun x1 =>
 (Jg x0 x1).bind fun eqException0 =>
 if eqException0=true then
 some (.inl (Wq (i0+1),()))
 else
 some (.inr Bool.false)
 else
 some (.inr Bool.true)
def Zau (a0:List Zh) (b0:List Zh):Option Bool :=
 if (↑a0.length:Int)=(↑b0.length:Int) then
 Zr (fun v=>Zgf a0 b0 v.1) ((0:Int),())
 else
 some Bool.false
def ZxR:Ctr:=D2 (.sl (ZG)) (.sl (ZG)) (.bool) Zau
def Zb3 (a0:Zq) (b0:Zq):Option Bool :=
 if Zq.Name a0=Zq.Name b0 then
 if Zq.X0 a0=Zq.X0 b0 then
 if Zq.Jz a0=Zq.Jz b0 then
 if Zq.JL a0=Zq.JL b0 then
 if Zq.ZcQ a0=Zq.ZcQ b0 then
 some Bool.true
 else
 some Bool.false
 else
 some Bool.false
 else
 some Bool.false
 else
 some Bool.false
 else
 some Bool.false
def c212:Ctr:=D2 (Yo) (Yo) (.bool) Zb3
def ZhQ (a0:List Zq) (b0:List Zq) (i0:Int):Option ((Int×Unit) ⊕ Bool) :=
 if i0<(↑a0.length:Int) then
 (atI a0 i0).bind fun x0 =>
 (atI b0 i0).bind fun x1 =>
 (Zb3 x0 x1).bind fun eqCorner0 =>
 if eqCorner0=true then
 some (.inl (Wq (i0+1),()))
 else
 some (.inr Bool.false)
 else
 some (.inr Bool.true)
def ZcW (a0:List Zq) (b0:List Zq):Option Bool :=
 if (↑a0.length:Int)=(↑b0.length:Int) then
 Zr (fun v=>ZhQ a0 b0 v.1) ((0:Int),())
 else
 some Bool.false
def c213:Ctr:=D2 (.sl (Yo)) (.sl (Yo)) (.bool) ZcW
def ZeQ (a0:Zm) (b0:Zm):Option Bool :=
 (ZdK (Zm.ZE a0) (Zm.ZE b0)).bind fun eqClockS0 =>
 if eqClockS0=true then
 (Jh (Zm.QE a0) (Zm.QE b0)).bind fun eqExternalS0 =>
 if eqExternalS0=true then
 (Jh (Zm.Zdo a0) (Zm.Zdo b0)).bind fun eqExternalS1 =>
 if eqExternalS1=true then
 (Zau (Zm.Exceptions a0) (Zm.Exceptions b0)).bind fun eqExceptionS0 =>
 if eqExceptionS0=true then
 (ZcW (Zm.Zct a0) (Zm.Zct b0)).bind fun eqCornerS0 =>
 if eqCornerS0=true then
 some Bool.true
 else
 some Bool.false
 else
 some Bool.false
 else
 some Bool.false
 else
 some Bool.false
 else
 some Bool.false
def ZxS:Ctr:=D2 (XG) (XG) (.bool) ZeQ
def Zbm (k1:Int) (out0:List UInt8):Option ((Int×(List UInt8)×Unit) ⊕ List UInt8) :=
 if 0<k1 then
 Zv ((↑(List.length (bytesOf [IntKind.wrap IntKind.u8 (Wq ((48:Int)+Int.tmod k1 (10:Int)))])):Int)+(↑out0.length:Int)≤(9223372036854775807:Int)) <|
 some (.inl (Wq (Int.tdiv k1 (10:Int)),bytesOf [IntKind.wrap IntKind.u8 (Wq ((48:Int)+Int.tmod k1 (10:Int)))]++out0,()))
 else
 Zv ((↑(List.length [(109:UInt8)]):Int)+(↑out0.length:Int)≤(9223372036854775807:Int)) <|
 some (.inr ([(109:UInt8)]++out0))
def XW (k0:Int):Option (List UInt8) :=
 if k0≤0 then
 some ([(109:UInt8),(48:UInt8)])
 else
 Zr (fun v=>Zbm v.1 v.2.1) (k0,([]:List UInt8),())
def Zs6:Ctr:=D1 Iq (.str) XW
def Zbl (k1:Int) (i0:Int) (l0:List Yq):Option ((Int×Int×(List Yq)×Unit) ⊕ (Int×(List Yq))) :=
 if i0<(↑l0.length:Int) then
 (XW k1).bind fun markText0 =>
 (atI l0 i0).bind fun x0 =>
 (atI (List.set l0 (Int.toNat i0) (markText0,x0.snd)) i0).bind fun x1 =>
 (atI (List.set (List.set l0 (Int.toNat i0) (markText0,x0.snd)) (Int.toNat i0) (Yq.Name x1,Wq (k1+1),x1.snd.snd)) i0).bind fun x2 =>
 (atI (List.set (List.set (List.set l0 (Int.toNat i0) (markText0,x0.snd)) (Int.toNat i0) (Yq.Name x1,Wq (k1+1),x1.snd.snd)) (Int.toNat i0) (Yq.Name x2,Yq.Dir x2,Wq (Wq (k1+1)+1),x2.snd.snd.snd)) i0).bind fun x3 =>
 some (.inl (Wq (Wq (Wq (Wq (k1+1)+1)+1)+1),Wq (i0+1),List.set (List.set (List.set (List.set l0 (Int.toNat i0) (markText0,x0.snd)) (Int.toNat i0) (Yq.Name x1,Wq (k1+1),x1.snd.snd)) (Int.toNat i0) (Yq.Name x2,Yq.Dir x2,Wq (Wq (k1+1)+1),x2.snd.snd.snd)) (Int.toNat i0) (Yq.Name x3,Yq.Dir x3,Yq.Cap x3,Decidable.decide (Int.tmod (Wq (Wq (Wq (k1+1)+1)+1)) 3=0),()),()))
 else
 some (.inr (k1,l0))
def ZdN (a0:List Yq) (k0:Int):Option (Int×(List Yq)) :=
 Zr (fun v=>Zbl v.1 v.2.1 v.2.2.1) (k0,(0:Int),a0,())
def ZxT:Ctr:=⟨[.back (.ol 373 (.flat (Zdb))),.dat Iq],[.dat Iq],fun a K=>splitK a fun a0 a=>splitK a fun k0 a=>Xb (ZdN a0 k0) fun r=>K (r.1,()) (r.2,())⟩
def JW (k1:Int) (i0:Int) (l0:List Int):Option ((Int×Int×(List Int)×Unit) ⊕ (Int×(List Int))) :=
 if i0<(↑l0.length:Int) then
 (atI l0 i0).bind fun x0 =>
 some (.inl (Wq (k1+1),Wq (i0+1),List.set l0 (Int.toNat i0) k1,()))
 else
 some (.inr (k1,l0))
def Yt (a0:List Int) (k0:Int):Option (Int×(List Int)) :=
 Zr (fun v=>JW v.1 v.2.1 v.2.2.1) (k0,(0:Int),a0,())
def Zt9:Ctr:=⟨[.back (.ol 2 (.flat Iq)),.dat Iq],[.dat Iq],fun a K=>splitK a fun a0 a=>splitK a fun k0 a=>Xb (Yt a0 k0) fun r=>K (r.1,()) (r.2,())⟩
def JY (k1:Int) (i0:Int) (l0:List (List Int×List Int×List Int×Unit)):Option ((Int×Int×(List (List Int×List Int×List Int×Unit))×Unit) ⊕ (Int×(List Zx))) :=
 if i0<(↑l0.length:Int) then
 (atI l0 i0).bind fun x0 =>
 (Yt x0.fst k1).bind fun markInt64S0 =>
 (Yt x0.snd.fst markInt64S0.fst).bind fun markInt64S1 =>
 (Yt x0.snd.snd.fst markInt64S1.fst).bind fun markInt64S2 =>
 some (.inl (markInt64S2.fst,Wq (i0+1),List.set l0 (Int.toNat i0) (markInt64S0.snd,markInt64S1.snd,markInt64S2.snd,()),()))
 else
 some (.inr (k1,l0))
def JX (a0:List Zx) (k0:Int):Option (Int×(List Zx)) :=
 Zr (fun v=>JY v.1 v.2.1 v.2.2.1) (k0,(0:Int),a0,())
def c218:Ctr:=⟨[.back (.ol 379 (ZgE)),.dat Iq],[.dat Iq],fun a K=>splitK a fun a0 a=>splitK a fun k0 a=>Xb (JX a0 k0) fun r=>K (r.1,()) (r.2,())⟩
def Zbk (k1:Int) (i0:Int) (l0:List (Int×Int×Int×Int×List Zx×List Zx×Unit)):Option ((Int×Int×(List (Int×Int×Int×Int×List Zx×List Zx×Unit))×Unit) ⊕ (Int×(List ZB))) :=
 if i0<(↑l0.length:Int) then
 (atI l0 i0).bind fun x0 =>
 (JX x0.snd.snd.snd.snd.fst (Wq (Wq (Wq (Wq (k1+1)+1)+1)+1))).bind fun markTableS0 =>
 (JX x0.snd.snd.snd.snd.snd.fst markTableS0.fst).bind fun markTableS1 =>
 some (.inl (markTableS1.fst,Wq (i0+1),List.set l0 (Int.toNat i0) (k1,Wq (k1+1),Wq (Wq (k1+1)+1),Wq (Wq (Wq (k1+1)+1)+1),markTableS0.snd,markTableS1.snd,()),()))
 else
 some (.inr (k1,l0))
def ZdM (a0:List ZB) (k0:Int):Option (Int×(List ZB)) :=
 Zr (fun v=>Zbk v.1 v.2.1 v.2.2.1) (k0,(0:Int),a0,())
def ZxU:Ctr:=⟨[.back (.ol 246 (ZsZ)),.dat Iq],[.dat Iq],fun a K=>splitK a fun a0 a=>splitK a fun k0 a=>Xb (ZdM a0 k0) fun r=>K (r.1,()) (r.2,())⟩
def ZaI (k1:Int) (i0:Int) (l0:List (List UInt8×Int×List Yq×List ZB×List Int×Int×Int×Unit)):Option ((Int×Int×(List (List UInt8×Int×List Yq×List ZB×List Int×Int×Int×Unit))×Unit) ⊕ (Int×(List Zi))) :=
 if i0<(↑l0.length:Int) then
 (XW k1).bind fun markText0 =>
 (atI l0 i0).bind fun x0 =>
 (ZdN x0.snd.snd.fst (Wq (Wq (k1+1)+1))).bind fun markPinS0 =>
 (ZdM x0.snd.snd.snd.fst markPinS0.fst).bind fun markArcS0 =>
 (Yt x0.snd.snd.snd.snd.fst markArcS0.fst).bind fun markInt64S0 =>
 some (.inl (Wq (Wq (markInt64S0.fst+1)+1),Wq (i0+1),List.set l0 (Int.toNat i0) (markText0,Wq (k1+1),markPinS0.snd,markArcS0.snd,markInt64S0.snd,markInt64S0.fst,Wq (markInt64S0.fst+1),()),()))
 else
 some (.inr (k1,l0))
def Zc2 (a0:List Zi) (k0:Int):Option (Int×(List Zi)) :=
 Zr (fun v=>ZaI v.1 v.2.1 v.2.2.1) (k0,(0:Int),a0,())
def ZxV:Ctr:=⟨[.back (.ol 241 (Zol)),.dat Iq],[.dat Iq],fun a K=>splitK a fun a0 a=>splitK a fun k0 a=>Xb (Zc2 a0 k0) fun r=>K (r.1,()) (r.2,())⟩
def Za4 (a0:Zu) (k0:Int):Option (Int×Zu) :=
 (Zc2 (Zu.Cells a0) k0).bind fun markCellS0 =>
 some (markCellS0.fst,(markCellS0.snd,()))
def ZxW:Ctr:=⟨[.back (Zom),.dat Iq],[.dat Iq],fun a K=>splitK a fun a0 a=>splitK a fun k0 a=>Xb (Za4 a0 k0) fun r=>K (r.1,()) (r.2,())⟩
def VF (k1:Int) (i0:Int) (l0:List (List UInt8×Int×List Int×Unit)):Option ((Int×Int×(List (List UInt8×Int×List Int×Unit))×Unit) ⊕ (Int×(List Zk))) :=
 if i0<(↑l0.length:Int) then
 (XW k1).bind fun markText0 =>
 (atI l0 i0).bind fun x0 =>
 (Yt x0.snd.snd.fst (Wq (Wq (k1+1)+1))).bind fun markInt64S0 =>
 some (.inl (markInt64S0.fst,Wq (i0+1),List.set l0 (Int.toNat i0) (markText0,Wq (k1+1),markInt64S0.snd,()),()))
 else
 some (.inr (k1,l0))
def JG (a0:List Zk) (k0:Int):Option (Int×(List Zk)) :=
 Zr (fun v=>VF v.1 v.2.1 v.2.2.1) (k0,(0:Int),a0,())
def c222:Ctr:=⟨[.back (.ol 243 (ZbO)),.dat Iq],[.dat Iq],fun a K=>splitK a fun a0 a=>splitK a fun k0 a=>Xb (JG a0 k0) fun r=>K (r.1,()) (r.2,())⟩
def Jw (k1:Int) (i0:Int) (l0:List (List UInt8)):Option ((Int×Int×(List (List UInt8))×Unit) ⊕ (Int×(List (List UInt8)))) :=
 if i0<(↑l0.length:Int) then
 (XW k1).bind fun markText0 =>
 (atI l0 i0).bind fun x0 =>
 some (.inl (Wq (k1+1),Wq (i0+1),List.set l0 (Int.toNat i0) markText0,()))
 else
 some (.inr (k1,l0))
def Za5 (a0:List (List UInt8)) (k0:Int):Option (Int×(List (List UInt8))) :=
 Zr (fun v=>Jw v.1 v.2.1 v.2.2.1) (k0,(0:Int),a0,())
def ZxX:Ctr:=⟨[.back (.ol 9 (.flat (.str))),.dat Iq],[.dat Iq],fun a K=>splitK a fun a0 a=>splitK a fun k0 a=>Xb (Za5 a0 k0) fun r=>K (r.1,()) (r.2,())⟩
def ZaJ (k1:Int) (i0:Int) (l0:List Ya):Option ((Int×Int×(List Ya)×Unit) ⊕ (Int×(List Ya))) :=
 if i0<(↑l0.length:Int) then
 (XW k1).bind fun markText0 =>
 (atI l0 i0).bind fun x0 =>
 (atI (List.set l0 (Int.toNat i0) (markText0,x0.snd)) i0).bind fun x1 =>
 (atI (List.set (List.set l0 (Int.toNat i0) (markText0,x0.snd)) (Int.toNat i0) (Ya.Name x1,Wq (k1+1),x1.snd.snd)) i0).bind fun x2 =>
 some (.inl (Wq (Wq (Wq (k1+1)+1)+1),Wq (i0+1),List.set (List.set (List.set l0 (Int.toNat i0) (markText0,x0.snd)) (Int.toNat i0) (Ya.Name x1,Wq (k1+1),x1.snd.snd)) (Int.toNat i0) (Ya.Name x2,Ya.Dir x2,Wq (Wq (k1+1)+1),()),()))
 else
 some (.inr (k1,l0))
def Zc3 (a0:List Ya) (k0:Int):Option (Int×(List Ya)) :=
 Zr (fun v=>ZaJ v.1 v.2.1 v.2.2.1) (k0,(0:Int),a0,())
def ZxY:Ctr:=⟨[.back (.ol 297 (.flat (VH))),.dat Iq],[.dat Iq],fun a K=>splitK a fun a0 a=>splitK a fun k0 a=>Xb (Zc3 a0 k0) fun r=>K (r.1,()) (r.2,())⟩
def Zb7 (a0:Zf) (k0:Int):Option (Int×Zf) :=
 (JG (Zf.Instances a0) k0).bind fun markInstanceS0 =>
 (Za5 (Zf.XJ a0) markInstanceS0.fst).bind fun markStringS0 =>
 (Zc3 (Zf.Xe a0) markStringS0.fst).bind fun markPortS0 =>
 some (markPortS0.fst,(markInstanceS0.snd,markStringS0.snd,markPortS0.snd,()))
def ZxZ:Ctr:=⟨[.back (ZpL),.dat Iq],[.dat Iq],fun a K=>splitK a fun a0 a=>splitK a fun k0 a=>Xb (Zb7 a0 k0) fun r=>K (r.1,()) (r.2,())⟩
def ZaK (k1:Int) (i0:Int) (l0:List (List Int×List Int×List Int×List Int×Unit)):Option ((Int×Int×(List (List Int×List Int×List Int×List Int×Unit))×Unit) ⊕ (Int×(List Zy))) :=
 if i0<(↑l0.length:Int) then
 (atI l0 i0).bind fun x0 =>
 (Yt x0.fst k1).bind fun markInt64S0 =>
 (Yt x0.snd.fst markInt64S0.fst).bind fun markInt64S1 =>
 (Yt x0.snd.snd.fst markInt64S1.fst).bind fun markInt64S2 =>
 (Yt x0.snd.snd.snd.fst markInt64S2.fst).bind fun markInt64S3 =>
 some (.inl (markInt64S3.fst,Wq (i0+1),List.set l0 (Int.toNat i0) (markInt64S0.snd,markInt64S1.snd,markInt64S2.snd,markInt64S3.snd,()),()))
 else
 some (.inr (k1,l0))
def Zc5 (a0:List Zy) (k0:Int):Option (Int×(List Zy)) :=
 Zr (fun v=>ZaK v.1 v.2.1 v.2.2.1) (k0,(0:Int),a0,())
def c226:Ctr:=⟨[.back (.ol 201 (Zon)),.dat Iq],[.dat Iq],fun a K=>splitK a fun a0 a=>splitK a fun k0 a=>Xb (Zc5 a0 k0) fun r=>K (r.1,()) (r.2,())⟩
def Zc1 (a0:Zn) (k0:Int):Option (Int×Zn) :=
 (Za4 (Zn.Library a0) k0).bind fun markLibrary0 =>
 (Zb7 (Zn.Design a0) markLibrary0.fst).bind fun markDesign0 =>
 (Zc5 (Zn.XQ a0) markDesign0.fst).bind fun markWireS0 =>
 some (markWireS0.fst,(markLibrary0.snd,markDesign0.snd,markWireS0.snd,()))
def c227:Ctr:=⟨[.back (ZrO),.dat Iq],[.dat Iq],fun a K=>splitK a fun a0 a=>splitK a fun k0 a=>Xb (Zc1 a0 k0) fun r=>K (r.1,()) (r.2,())⟩
def JV (v0:Int) (v1:Int) (l0:List Zb):Option ((Int×Int×(List Zb)×Unit) ⊕ (Int×(List Zb))) :=
 if v1<(↑l0.length:Int) then
 (XW v0).bind fun markText0 =>
 (atI l0 v1).bind fun x0 =>
 (atI (List.set l0 (Int.toNat v1) (markText0,x0.snd)) v1).bind fun x1 =>
 (atI (List.set (List.set l0 (Int.toNat v1) (markText0,x0.snd)) (Int.toNat v1) (Zb.Name x1,Wq (v0+1),x1.snd.snd)) v1).bind fun x2 =>
 (atI (List.set (List.set (List.set l0 (Int.toNat v1) (markText0,x0.snd)) (Int.toNat v1) (Zb.Name x1,Wq (v0+1),x1.snd.snd)) (Int.toNat v1) (Zb.Name x2,Zb.Place x2,Wq (Wq (v0+1)+1),x2.snd.snd.snd)) v1).bind fun x3 =>
 (atI (List.set (List.set (List.set (List.set l0 (Int.toNat v1) (markText0,x0.snd)) (Int.toNat v1) (Zb.Name x1,Wq (v0+1),x1.snd.snd)) (Int.toNat v1) (Zb.Name x2,Zb.Place x2,Wq (Wq (v0+1)+1),x2.snd.snd.snd)) (Int.toNat v1) (Zb.Name x3,Zb.Place x3,Zb.YE x3,Wq (Wq (Wq (v0+1)+1)+1),x3.snd.snd.snd.snd)) v1).bind fun x4 =>
 (atI (List.set (List.set (List.set (List.set (List.set l0 (Int.toNat v1) (markText0,x0.snd)) (Int.toNat v1) (Zb.Name x1,Wq (v0+1),x1.snd.snd)) (Int.toNat v1) (Zb.Name x2,Zb.Place x2,Wq (Wq (v0+1)+1),x2.snd.snd.snd)) (Int.toNat v1) (Zb.Name x3,Zb.Place x3,Zb.YE x3,Wq (Wq (Wq (v0+1)+1)+1),x3.snd.snd.snd.snd)) (Int.toNat v1) (Zb.Name x4,Zb.Place x4,Zb.YE x4,Zb.Y7 x4,Wq (Wq (Wq (Wq (v0+1)+1)+1)+1),x4.snd.snd.snd.snd.snd)) v1).bind fun x5 =>
 (atI (List.set (List.set (List.set (List.set (List.set (List.set l0 (Int.toNat v1) (markText0,x0.snd)) (Int.toNat v1) (Zb.Name x1,Wq (v0+1),x1.snd.snd)) (Int.toNat v1) (Zb.Name x2,Zb.Place x2,Wq (Wq (v0+1)+1),x2.snd.snd.snd)) (Int.toNat v1) (Zb.Name x3,Zb.Place x3,Zb.YE x3,Wq (Wq (Wq (v0+1)+1)+1),x3.snd.snd.snd.snd)) (Int.toNat v1) (Zb.Name x4,Zb.Place x4,Zb.YE x4,Zb.Y7 x4,Wq (Wq (Wq (Wq (v0+1)+1)+1)+1),x4.snd.snd.snd.snd.snd)) (Int.toNat v1) (Zb.Name x5,Zb.Place x5,Zb.YE x5,Zb.Y7 x5,Zb.Xv x5,Wq (Wq (Wq (Wq (Wq (v0+1)+1)+1)+1)+1),x5.snd.snd.snd.snd.snd.snd)) v1).bind fun x6 =>
 (atI (List.set (List.set (List.set (List.set (List.set (List.set (List.set l0 (Int.toNat v1) (markText0,x0.snd)) (Int.toNat v1) (Zb.Name x1,Wq (v0+1),x1.snd.snd)) (Int.toNat v1) (Zb.Name x2,Zb.Place x2,Wq (Wq (v0+1)+1),x2.snd.snd.snd)) (Int.toNat v1) (Zb.Name x3,Zb.Place x3,Zb.YE x3,Wq (Wq (Wq (v0+1)+1)+1),x3.snd.snd.snd.snd)) (Int.toNat v1) (Zb.Name x4,Zb.Place x4,Zb.YE x4,Zb.Y7 x4,Wq (Wq (Wq (Wq (v0+1)+1)+1)+1),x4.snd.snd.snd.snd.snd)) (Int.toNat v1) (Zb.Name x5,Zb.Place x5,Zb.YE x5,Zb.Y7 x5,Zb.Xv x5,Wq (Wq (Wq (Wq (Wq (v0+1)+1)+1)+1)+1),x5.snd.snd.snd.snd.snd.snd)) (Int.toNat v1) (Zb.Name x6,Zb.Place x6,Zb.YE x6,Zb.Y7 x6,Zb.Xv x6,Zb.Source x6,Wq (Wq (Wq (Wq (Wq (Wq (v0+1)+1)+1)+1)+1)+1),x6.snd.snd.snd.snd.snd.snd.snd)) v1).bind fun x7 =>
 (atI (List.set (List.set (List.set (List.set (List.set (List.set (List.set (List.set l0 (Int.toNat v1) (markText0,x0.snd)) (Int.toNat v1) (Zb.Name x1,Wq (v0+1),x1.snd.snd)) (Int.toNat v1) (Zb.Name x2,Zb.Place x2,Wq (Wq (v0+1)+1),x2.snd.snd.snd)) (Int.toNat v1) (Zb.Name x3,Zb.Place x3,Zb.YE x3,Wq (Wq (Wq (v0+1)+1)+1),x3.snd.snd.snd.snd)) (Int.toNat v1) (Zb.Name x4,Zb.Place x4,Zb.YE x4,Zb.Y7 x4,Wq (Wq (Wq (Wq (v0+1)+1)+1)+1),x4.snd.snd.snd.snd.snd)) (Int.toNat v1) (Zb.Name x5,Zb.Place x5,Zb.YE x5,Zb.Y7 x5,Zb.Xv x5,Wq (Wq (Wq (Wq (Wq (v0+1)+1)+1)+1)+1),x5.snd.snd.snd.snd.snd.snd)) (Int.toNat v1) (Zb.Name x6,Zb.Place x6,Zb.YE x6,Zb.Y7 x6,Zb.Xv x6,Zb.Source x6,Wq (Wq (Wq (Wq (Wq (Wq (v0+1)+1)+1)+1)+1)+1),x6.snd.snd.snd.snd.snd.snd.snd)) (Int.toNat v1) (Zb.Name x7,Zb.Place x7,Zb.YE x7,Zb.Y7 x7,Zb.Xv x7,Zb.Source x7,Zb.Divide x7,Decidable.decide (Int.tmod (Wq (Wq (Wq (Wq (Wq (Wq (Wq (v0+1)+1)+1)+1)+1)+1)+1)) 3=0),x7.snd.snd.snd.snd.snd.snd.snd.snd)) v1).bind fun x8 =>
 (atI (List.set (List.set (List.set (List.set (List.set (List.set (List.set (List.set (List.set l0 (Int.toNat v1) (markText0,x0.snd)) (Int.toNat v1) (Zb.Name x1,Wq (v0+1),x1.snd.snd)) (Int.toNat v1) (Zb.Name x2,Zb.Place x2,Wq (Wq (v0+1)+1),x2.snd.snd.snd)) (Int.toNat v1) (Zb.Name x3,Zb.Place x3,Zb.YE x3,Wq (Wq (Wq (v0+1)+1)+1),x3.snd.snd.snd.snd)) (Int.toNat v1) (Zb.Name x4,Zb.Place x4,Zb.YE x4,Zb.Y7 x4,Wq (Wq (Wq (Wq (v0+1)+1)+1)+1),x4.snd.snd.snd.snd.snd)) (Int.toNat v1) (Zb.Name x5,Zb.Place x5,Zb.YE x5,Zb.Y7 x5,Zb.Xv x5,Wq (Wq (Wq (Wq (Wq (v0+1)+1)+1)+1)+1),x5.snd.snd.snd.snd.snd.snd)) (Int.toNat v1) (Zb.Name x6,Zb.Place x6,Zb.YE x6,Zb.Y7 x6,Zb.Xv x6,Zb.Source x6,Wq (Wq (Wq (Wq (Wq (Wq (v0+1)+1)+1)+1)+1)+1),x6.snd.snd.snd.snd.snd.snd.snd)) (Int.toNat v1) (Zb.Name x7,Zb.Place x7,Zb.YE x7,Zb.Y7 x7,Zb.Xv x7,Zb.Source x7,Zb.Divide x7,Decidable.decide (Int.tmod (Wq (Wq (Wq (Wq (Wq (Wq (Wq (v0+1)+1)+1)+1)+1)+1)+1)) 3=0),x7.snd.snd.snd.snd.snd.snd.snd.snd)) (Int.toNat v1) (Zb.Name x8,Zb.Place x8,Zb.YE x8,Zb.Y7 x8,Zb.Xv x8,Zb.Source x8,Zb.Divide x8,Zb.Zdy x8,Wq (Wq (Wq (Wq (Wq (Wq (Wq (Wq (v0+1)+1)+1)+1)+1)+1)+1)+1),x8.snd.snd.snd.snd.snd.snd.snd.snd.snd)) v1).bind fun x9 =>
 (atI (List.set (List.set (List.set (List.set (List.set (List.set (List.set (List.set (List.set (List.set l0 (Int.toNat v1) (markText0,x0.snd)) (Int.toNat v1) (Zb.Name x1,Wq (v0+1),x1.snd.snd)) (Int.toNat v1) (Zb.Name x2,Zb.Place x2,Wq (Wq (v0+1)+1),x2.snd.snd.snd)) (Int.toNat v1) (Zb.Name x3,Zb.Place x3,Zb.YE x3,Wq (Wq (Wq (v0+1)+1)+1),x3.snd.snd.snd.snd)) (Int.toNat v1) (Zb.Name x4,Zb.Place x4,Zb.YE x4,Zb.Y7 x4,Wq (Wq (Wq (Wq (v0+1)+1)+1)+1),x4.snd.snd.snd.snd.snd)) (Int.toNat v1) (Zb.Name x5,Zb.Place x5,Zb.YE x5,Zb.Y7 x5,Zb.Xv x5,Wq (Wq (Wq (Wq (Wq (v0+1)+1)+1)+1)+1),x5.snd.snd.snd.snd.snd.snd)) (Int.toNat v1) (Zb.Name x6,Zb.Place x6,Zb.YE x6,Zb.Y7 x6,Zb.Xv x6,Zb.Source x6,Wq (Wq (Wq (Wq (Wq (Wq (v0+1)+1)+1)+1)+1)+1),x6.snd.snd.snd.snd.snd.snd.snd)) (Int.toNat v1) (Zb.Name x7,Zb.Place x7,Zb.YE x7,Zb.Y7 x7,Zb.Xv x7,Zb.Source x7,Zb.Divide x7,Decidable.decide (Int.tmod (Wq (Wq (Wq (Wq (Wq (Wq (Wq (v0+1)+1)+1)+1)+1)+1)+1)) 3=0),x7.snd.snd.snd.snd.snd.snd.snd.snd)) (Int.toNat v1) (Zb.Name x8,Zb.Place x8,Zb.YE x8,Zb.Y7 x8,Zb.Xv x8,Zb.Source x8,Zb.Divide x8,Zb.Zdy x8,Wq (Wq (Wq (Wq (Wq (Wq (Wq (Wq (v0+1)+1)+1)+1)+1)+1)+1)+1),x8.snd.snd.snd.snd.snd.snd.snd.snd.snd)) (Int.toNat v1) (Zb.Name x9,Zb.Place x9,Zb.YE x9,Zb.Y7 x9,Zb.Xv x9,Zb.Source x9,Zb.Divide x9,Zb.Zdy x9,Zb.Yk x9,Wq (Wq (Wq (Wq (Wq (Wq (Wq (Wq (Wq (v0+1)+1)+1)+1)+1)+1)+1)+1)+1),x9.snd.snd.snd.snd.snd.snd.snd.snd.snd.snd)) v1).bind fun x10 =>
 some (.inl (Wq (Wq (Wq (Wq (Wq (Wq (Wq (Wq (Wq (Wq (Wq (v0+1)+1)+1)+1)+1)+1)+1)+1)+1)+1)+1),Wq (v1+1),List.set (List.set (List.set (List.set (List.set (List.set (List.set (List.set (List.set (List.set (List.set l0 (Int.toNat v1) (markText0,x0.snd)) (Int.toNat v1) (Zb.Name x1,Wq (v0+1),x1.snd.snd)) (Int.toNat v1) (Zb.Name x2,Zb.Place x2,Wq (Wq (v0+1)+1),x2.snd.snd.snd)) (Int.toNat v1) (Zb.Name x3,Zb.Place x3,Zb.YE x3,Wq (Wq (Wq (v0+1)+1)+1),x3.snd.snd.snd.snd)) (Int.toNat v1) (Zb.Name x4,Zb.Place x4,Zb.YE x4,Zb.Y7 x4,Wq (Wq (Wq (Wq (v0+1)+1)+1)+1),x4.snd.snd.snd.snd.snd)) (Int.toNat v1) (Zb.Name x5,Zb.Place x5,Zb.YE x5,Zb.Y7 x5,Zb.Xv x5,Wq (Wq (Wq (Wq (Wq (v0+1)+1)+1)+1)+1),x5.snd.snd.snd.snd.snd.snd)) (Int.toNat v1) (Zb.Name x6,Zb.Place x6,Zb.YE x6,Zb.Y7 x6,Zb.Xv x6,Zb.Source x6,Wq (Wq (Wq (Wq (Wq (Wq (v0+1)+1)+1)+1)+1)+1),x6.snd.snd.snd.snd.snd.snd.snd)) (Int.toNat v1) (Zb.Name x7,Zb.Place x7,Zb.YE x7,Zb.Y7 x7,Zb.Xv x7,Zb.Source x7,Zb.Divide x7,Decidable.decide (Int.tmod (Wq (Wq (Wq (Wq (Wq (Wq (Wq (v0+1)+1)+1)+1)+1)+1)+1)) 3=0),x7.snd.snd.snd.snd.snd.snd.snd.snd)) (Int.toNat v1) (Zb.Name x8,Zb.Place x8,Zb.YE x8,Zb.Y7 x8,Zb.Xv x8,Zb.Source x8,Zb.Divide x8,Zb.Zdy x8,Wq (Wq (Wq (Wq (Wq (Wq (Wq (Wq (v0+1)+1)+1)+1)+1)+1)+1)+1),x8.snd.snd.snd.snd.snd.snd.snd.snd.snd)) (Int.toNat v1) (Zb.Name x9,Zb.Place x9,Zb.YE x9,Zb.Y7 x9,Zb.Xv x9,Zb.Source x9,Zb.Divide x9,Zb.Zdy x9,Zb.Yk x9,Wq (Wq (Wq (Wq (Wq (Wq (Wq (Wq (Wq (v0+1)+1)+1)+1)+1)+1)+1)+1)+1),x9.snd.snd.snd.snd.snd.snd.snd.snd.snd.snd)) (Int.toNat v1) (Zb.Name x10,Zb.Place x10,Zb.YE x10,Zb.Y7 x10,Zb.Xv x10,Zb.Source x10,Zb.Divide x10,Zb.Zdy x10,Zb.Yk x10,Zb.YZ x10,Wq (Wq (Wq (Wq (Wq (Wq (Wq (Wq (Wq (Wq (v0+1)+1)+1)+1)+1)+1)+1)+1)+1)+1),()),()))
 else
 some (.inr (v0,l0))
def Zb6 (a0:List Zb) (a1:Int):Option (Int×(List Zb)) :=
 Zr (fun v=>JV v.1 v.2.1 v.2.2.1) (a1,(0:Int),a0,())
def c228:Ctr:=⟨[.back (.ol 185 (.flat (YA))),.dat Iq],[.dat Iq],fun a K=>splitK a fun a0 a=>splitK a fun a1 a=>Xb (Zb6 a0 a1) fun r=>K (r.1,()) (r.2,())⟩
def VE (k1:Int) (i0:Int) (l0:List Zd):Option ((Int×Int×(List Zd)×Unit) ⊕ (Int×(List Zd))) :=
 if i0<(↑l0.length:Int) then
 (atI l0 i0).bind fun x0 =>
 (atI (List.set l0 (Int.toNat i0) (k1,x0.snd)) i0).bind fun x1 =>
 (atI (List.set (List.set l0 (Int.toNat i0) (k1,x0.snd)) (Int.toNat i0) (Zd.Place x1,Wq (k1+1),x1.snd.snd)) i0).bind fun x2 =>
 (atI (List.set (List.set (List.set l0 (Int.toNat i0) (k1,x0.snd)) (Int.toNat i0) (Zd.Place x1,Wq (k1+1),x1.snd.snd)) (Int.toNat i0) (Zd.Place x2,Zd.Clock x2,(Wq (Wq (k1+1)+1),(Zd.Delay x2).snd),x2.snd.snd.snd)) i0).bind fun x3 =>
 (atI (List.set (List.set (List.set (List.set l0 (Int.toNat i0) (k1,x0.snd)) (Int.toNat i0) (Zd.Place x1,Wq (k1+1),x1.snd.snd)) (Int.toNat i0) (Zd.Place x2,Zd.Clock x2,(Wq (Wq (k1+1)+1),(Zd.Delay x2).snd),x2.snd.snd.snd)) (Int.toNat i0) (Zd.Place x3,Zd.Clock x3,(ZH.Early (Zd.Delay x3),Wq (Wq (Wq (k1+1)+1)+1),()),x3.snd.snd.snd)) i0).bind fun x4 =>
 (atI (List.set (List.set (List.set (List.set (List.set l0 (Int.toNat i0) (k1,x0.snd)) (Int.toNat i0) (Zd.Place x1,Wq (k1+1),x1.snd.snd)) (Int.toNat i0) (Zd.Place x2,Zd.Clock x2,(Wq (Wq (k1+1)+1),(Zd.Delay x2).snd),x2.snd.snd.snd)) (Int.toNat i0) (Zd.Place x3,Zd.Clock x3,(ZH.Early (Zd.Delay x3),Wq (Wq (Wq (k1+1)+1)+1),()),x3.snd.snd.snd)) (Int.toNat i0) (Zd.Place x4,Zd.Clock x4,Zd.Delay x4,(Wq (Wq (Wq (Wq (k1+1)+1)+1)+1),(Zd.ZaY x4).snd),())) i0).bind fun x5 =>
 some (.inl (Wq (Wq (Wq (Wq (Wq (Wq (k1+1)+1)+1)+1)+1)+1),Wq (i0+1),List.set (List.set (List.set (List.set (List.set (List.set l0 (Int.toNat i0) (k1,x0.snd)) (Int.toNat i0) (Zd.Place x1,Wq (k1+1),x1.snd.snd)) (Int.toNat i0) (Zd.Place x2,Zd.Clock x2,(Wq (Wq (k1+1)+1),(Zd.Delay x2).snd),x2.snd.snd.snd)) (Int.toNat i0) (Zd.Place x3,Zd.Clock x3,(ZH.Early (Zd.Delay x3),Wq (Wq (Wq (k1+1)+1)+1),()),x3.snd.snd.snd)) (Int.toNat i0) (Zd.Place x4,Zd.Clock x4,Zd.Delay x4,(Wq (Wq (Wq (Wq (k1+1)+1)+1)+1),(Zd.ZaY x4).snd),())) (Int.toNat i0) (Zd.Place x5,Zd.Clock x5,Zd.Delay x5,(ZH.Early (Zd.ZaY x5),Wq (Wq (Wq (Wq (Wq (k1+1)+1)+1)+1)+1),()),()),()))
 else
 some (.inr (k1,l0))
def Vf (a0:List Zd) (k0:Int):Option (Int×(List Zd)) :=
 Zr (fun v=>VE v.1 v.2.1 v.2.2.1) (k0,(0:Int),a0,())
def c229:Ctr:=⟨[.back (.ol 196 (.flat (ZQ))),.dat Iq],[.dat Iq],fun a K=>splitK a fun a0 a=>splitK a fun k0 a=>Xb (Vf a0 k0) fun r=>K (r.1,()) (r.2,())⟩
def Vm (k1:Int) (i0:Int) (l0:List (Int×Int×List Int×List Int×List Int×Unit)):Option ((Int×Int×(List (Int×Int×List Int×List Int×List Int×Unit))×Unit) ⊕ (Int×(List Zh))) :=
 if i0<(↑l0.length:Int) then
 (atI l0 i0).bind fun x0 =>
 (Yt x0.snd.snd.fst (Wq (Wq (k1+1)+1))).bind fun markInt64S0 =>
 (Yt x0.snd.snd.snd.fst markInt64S0.fst).bind fun markInt64S1 =>
 (Yt x0.snd.snd.snd.snd.fst markInt64S1.fst).bind fun markInt64S2 =>
 some (.inl (markInt64S2.fst,Wq (i0+1),List.set l0 (Int.toNat i0) (k1,Wq (k1+1),markInt64S0.snd,markInt64S1.snd,markInt64S2.snd,()),()))
 else
 some (.inr (k1,l0))
def V7 (a0:List Zh) (k0:Int):Option (Int×(List Zh)) :=
 Zr (fun v=>Vm v.1 v.2.1 v.2.2.1) (k0,(0:Int),a0,())
def Zx0:Ctr:=⟨[.back (.ol 189 (Zai)),.dat Iq],[.dat Iq],fun a K=>splitK a fun a0 a=>splitK a fun k0 a=>Xb (V7 a0 k0) fun r=>K (r.1,()) (r.2,())⟩
def Jv (k1:Int) (i0:Int) (l0:List Zq):Option ((Int×Int×(List Zq)×Unit) ⊕ (Int×(List Zq))) :=
 if i0<(↑l0.length:Int) then
 (XW k1).bind fun markText0 =>
 (atI l0 i0).bind fun x0 =>
 (atI (List.set l0 (Int.toNat i0) (markText0,x0.snd)) i0).bind fun x1 =>
 (atI (List.set (List.set l0 (Int.toNat i0) (markText0,x0.snd)) (Int.toNat i0) (Zq.Name x1,Wq (k1+1),x1.snd.snd)) i0).bind fun x2 =>
 (atI (List.set (List.set (List.set l0 (Int.toNat i0) (markText0,x0.snd)) (Int.toNat i0) (Zq.Name x1,Wq (k1+1),x1.snd.snd)) (Int.toNat i0) (Zq.Name x2,Zq.X0 x2,Wq (Wq (k1+1)+1),x2.snd.snd.snd)) i0).bind fun x3 =>
 (atI (List.set (List.set (List.set (List.set l0 (Int.toNat i0) (markText0,x0.snd)) (Int.toNat i0) (Zq.Name x1,Wq (k1+1),x1.snd.snd)) (Int.toNat i0) (Zq.Name x2,Zq.X0 x2,Wq (Wq (k1+1)+1),x2.snd.snd.snd)) (Int.toNat i0) (Zq.Name x3,Zq.X0 x3,Zq.Jz x3,Wq (Wq (Wq (k1+1)+1)+1),x3.snd.snd.snd.snd)) i0).bind fun x4 =>
 some (.inl (Wq (Wq (Wq (Wq (Wq (k1+1)+1)+1)+1)+1),Wq (i0+1),List.set (List.set (List.set (List.set (List.set l0 (Int.toNat i0) (markText0,x0.snd)) (Int.toNat i0) (Zq.Name x1,Wq (k1+1),x1.snd.snd)) (Int.toNat i0) (Zq.Name x2,Zq.X0 x2,Wq (Wq (k1+1)+1),x2.snd.snd.snd)) (Int.toNat i0) (Zq.Name x3,Zq.X0 x3,Zq.Jz x3,Wq (Wq (Wq (k1+1)+1)+1),x3.snd.snd.snd.snd)) (Int.toNat i0) (Zq.Name x4,Zq.X0 x4,Zq.Jz x4,Zq.JL x4,Wq (Wq (Wq (Wq (k1+1)+1)+1)+1),()),()))
 else
 some (.inr (k1,l0))
def Za3 (a0:List Zq) (k0:Int):Option (Int×(List Zq)) :=
 Zr (fun v=>Jv v.1 v.2.1 v.2.2.1) (k0,(0:Int),a0,())
def Zx1:Ctr:=⟨[.back (.ol 82 (.flat (Yo))),.dat Iq],[.dat Iq],fun a K=>splitK a fun a0 a=>splitK a fun k0 a=>Xb (Za3 a0 k0) fun r=>K (r.1,()) (r.2,())⟩
def Zc4 (a0:Zm) (k0:Int):Option (Int×Zm) :=
 (Zb6 (Zm.ZE a0) k0).bind fun markClockS0 =>
 (Vf (Zm.QE a0) markClockS0.fst).bind fun markExternalS0 =>
 (Vf (Zm.Zdo a0) markExternalS0.fst).bind fun markExternalS1 =>
 (V7 (Zm.Exceptions a0) markExternalS1.fst).bind fun markExceptionS0 =>
 (Za3 (Zm.Zct a0) markExceptionS0.fst).bind fun markCornerS0 =>
 some (markCornerS0.fst,(markClockS0.snd,markExternalS0.snd,markExternalS1.snd,markExceptionS0.snd,markCornerS0.snd,()))
def c232:Ctr:=⟨[.back (ZtT),.dat Iq],[.dat Iq],fun a K=>splitK a fun a0 a=>splitK a fun k0 a=>Xb (Zc4 a0 k0) fun r=>K (r.1,()) (r.2,())⟩
def QT (k1:Int) (i0:Int) (l0:List Zl):Option ((Int×Int×(List Zl)×Unit) ⊕ (Int×(List Zl))) :=
 if i0<(↑l0.length:Int) then
 (atI l0 i0).bind fun x0 =>
 (atI (List.set l0 (Int.toNat i0) (k1,x0.snd)) i0).bind fun x1 =>
 (atI (List.set (List.set l0 (Int.toNat i0) (k1,x0.snd)) (Int.toNat i0) (Zl.Node x1,(Wq (k1+1),(Zl.Zba x1).snd),x1.snd.snd)) i0).bind fun x2 =>
 (atI (List.set (List.set (List.set l0 (Int.toNat i0) (k1,x0.snd)) (Int.toNat i0) (Zl.Node x1,(Wq (k1+1),(Zl.Zba x1).snd),x1.snd.snd)) (Int.toNat i0) (Zl.Node x2,(ZH.Early (Zl.Zba x2),Wq (Wq (k1+1)+1),()),x2.snd.snd)) i0).bind fun x3 =>
 (atI (List.set (List.set (List.set (List.set l0 (Int.toNat i0) (k1,x0.snd)) (Int.toNat i0) (Zl.Node x1,(Wq (k1+1),(Zl.Zba x1).snd),x1.snd.snd)) (Int.toNat i0) (Zl.Node x2,(ZH.Early (Zl.Zba x2),Wq (Wq (k1+1)+1),()),x2.snd.snd)) (Int.toNat i0) (Zl.Node x3,Zl.Zba x3,(Wq (Wq (Wq (k1+1)+1)+1),(Zl.ZaY x3).snd),())) i0).bind fun x4 =>
 some (.inl (Wq (Wq (Wq (Wq (Wq (k1+1)+1)+1)+1)+1),Wq (i0+1),List.set (List.set (List.set (List.set (List.set l0 (Int.toNat i0) (k1,x0.snd)) (Int.toNat i0) (Zl.Node x1,(Wq (k1+1),(Zl.Zba x1).snd),x1.snd.snd)) (Int.toNat i0) (Zl.Node x2,(ZH.Early (Zl.Zba x2),Wq (Wq (k1+1)+1),()),x2.snd.snd)) (Int.toNat i0) (Zl.Node x3,Zl.Zba x3,(Wq (Wq (Wq (k1+1)+1)+1),(Zl.ZaY x3).snd),())) (Int.toNat i0) (Zl.Node x4,Zl.Zba x4,(ZH.Early (Zl.ZaY x4),Wq (Wq (Wq (Wq (k1+1)+1)+1)+1),()),()),()))
 else
 some (.inr (k1,l0))
def Zdu (a0:List Zl) (k0:Int):Option (Int×(List Zl)) :=
 Zr (fun v=>QT v.1 v.2.1 v.2.2.1) (k0,(0:Int),a0,())
def c233:Ctr:=⟨[.back (.ol 118 (.flat (Y5))),.dat Iq],[.dat Iq],fun a K=>splitK a fun a0 a=>splitK a fun k0 a=>Xb (Zdu a0 k0) fun r=>K (r.1,()) (r.2,())⟩
def QS (a0:List Zl) (k1:Int) (i0:Int):Option ((Int×Int×Unit) ⊕ Int) :=
 if i0<(↑a0.length:Int) then
 (atI a0 i0).bind fun x0 =>
 if Zl.Node x0=k1 then
 if ZH.Early (Zl.Zba x0)=Wq (k1+1) then
 if ZH.Late (Zl.Zba x0)=Wq (Wq (k1+1)+1) then
 if ZH.Early (Zl.ZaY x0)=Wq (Wq (Wq (k1+1)+1)+1) then
 if ZH.Late (Zl.ZaY x0)=Wq (Wq (Wq (Wq (k1+1)+1)+1)+1) then
 some (.inl (Wq (Wq (Wq (Wq (Wq (k1+1)+1)+1)+1)+1),Wq (i0+1),()))
 else
 some (.inr (-1))
 else
 some (.inr (-1))
 else
 some (.inr (-1))
 else
 some (.inr (-1))
 else
 some (.inr (-1))
 else
 some (.inr k1)
def Zdt (a0:List Zl) (k0:Int):Option Int :=
 Zr (fun v=>QS a0 v.1 v.2.1) (k0,(0:Int),())
def c234:Ctr:=D2 (.sl (Y5)) Iq Iq Zdt
def Xn (a0:Zn) (a1:Zm):Option Bool :=
 (ZbE a0 1048576).bind fun szBlock0 =>
 if szBlock0<0 then
 some Bool.true
 else
 (ZbI a1 szBlock0).bind fun szSetup0 =>
 if szSetup0<0 then
 some Bool.true
 else
 (ZeU a0).bind fun toBlock0 =>
 (ZeX a1).bind fun toSetup0 =>
 (ZaA toBlock0 toSetup0).bind fun SetupSources0 =>
 (Zap toBlock0 toSetup0).bind fun SetupSources1 =>
 (ZcY SetupSources1.fst SetupSources0.fst).bind fun eqSourceS0 =>
 if eqSourceS0=true then
 if SetupSources1.snd=SetupSources0.snd then
 (ZeN toBlock0 toBlock0).bind fun eqBlock0 =>
 if eqBlock0=true then
 (ZeQ toSetup0 toSetup0).bind fun eqSetup0 =>
 if eqSetup0=true then
 (Zc1 toBlock0 1).bind fun markBlock0 =>
 (Zc4 toSetup0 markBlock0.fst).bind fun markSetup0 =>
 if markSetup0.fst<0 then
 some Bool.false
 else
 if eqSourceS0=true then
 if SetupSources1.snd=SetupSources0.snd then
 (Zdu SetupSources1.fst 1).bind fun markSourceS0 =>
 (Zdt markSourceS0.snd 1).bind fun heldSourceS0 =>
 if heldSourceS0<0 then
 some Bool.false
 else
 if heldSourceS0=markSourceS0.fst then
 if eqSourceS0=true then
 if SetupSources1.snd=SetupSources0.snd then
 if heldSourceS0<0 then
 some Bool.false
 else
 if heldSourceS0=markSourceS0.fst then
 some Bool.true
 else
 some Bool.false
 else
 some Bool.false
 else
 some Bool.false
 else
 some Bool.false
 else
 some Bool.false
 else
 some Bool.false
 else
 some Bool.false
 else
 some Bool.false
 else
 some Bool.false
 else
 some Bool.false
def ZaE:Ctr:=⟨[.dat (Y2),.dat (XG)],[.dat (.bool)],fun a K=>splitK a fun a0 a=>splitK a fun a1 a=>Xb (Xn a0 a1) fun r=>K (r,()) ()⟩
end
end Go.Proofs.YtpiemlnhjobopaaGreatDoor
