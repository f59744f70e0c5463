/-
 The models of the functions and their contracts. Printed by program.
-/
import Derived.Test.YtehkanadahncgaaGreatDoorSxTab
import Derived.Test.YtehkanadahncgaaGreatDoorSxS0
import Derived.Test.YtehkanadahncgaaGreatDoorSxLib
import Derived.Test.YtehkanadahncgaaGreatDoorSxLibR
namespace Go.Proofs.YtehkanadahncgaaGreatDoor
open Go Go.Sx
set_option maxRecDepth 100000
set_option maxHeartbeats 3200000
set_option linter.unusedVariables false
set_option linter.unusedSimpArgs false
noncomputable def Zbp (a0:YB) (left0:Int):Option Int :=
 if IntKind.i64.wrap (left0-(↑(List.length (YB.Name a0)):Int))<0 then
 some (-1)
 else
 some (IntKind.i64.wrap (left0-(↑(List.length (YB.Name a0)):Int)))
noncomputable def c0:Ctr:=⟨[.dat (ZcH),.dat (.int .i64)],[.dat (.int .i64)],fun a K=>splitK a fun a0 a=>splitK a fun left0 a=>ZA (Zbp a0 left0) fun r=>K (r,()) ()⟩
noncomputable def Zd8 (a0:List YB) (left1:Int) (i0:Int):Option ((Int×Int×Unit) ⊕ Int) :=
 if i0<(↑(List.length a0):Int) then
 (atI a0 i0).bind fun x0 =>
 (Zbp x0 left1).bind fun szPin0 =>
 if szPin0<0 then
 some (.inr (-1))
 else
 some (.inl (szPin0,IntKind.i64.wrap (i0+1),()))
 else
 some (.inr left1)
noncomputable def ZbS (a0:List YB) (left0:Int):Option Int :=
 if IntKind.i64.wrap (left0-(↑(List.length a0):Int))<0 then
 some (-1)
 else
 Zt (fun v=>Zd8 a0 v.1 v.2.1) (IntKind.i64.wrap (left0-(↑(List.length a0):Int)),(0:Int),())
noncomputable def c1:Ctr:=⟨[.dat (.sl (ZcH)),.dat (.int .i64)],[.dat (.int .i64)],fun a K=>splitK a fun a0 a=>splitK a fun left0 a=>ZA (ZbS a0 left0) fun r=>K (r,()) ()⟩
noncomputable def YX (a0:List Int) (left0:Int):Option Int :=
 if IntKind.i64.wrap (left0-(↑(List.length a0):Int))<0 then
 some (-1)
 else
 some (IntKind.i64.wrap (left0-(↑(List.length a0):Int)))
noncomputable def c2:Ctr:=⟨[.dat (.sl (.int .i64)),.dat (.int .i64)],[.dat (.int .i64)],fun a K=>splitK a fun a0 a=>splitK a fun left0 a=>ZA (YX a0 left0) fun r=>K (r,()) ()⟩
noncomputable def Jc (a0:Zv) (left0:Int):Option Int :=
 (YX (Zv.ZfN a0) left0).bind fun szInt64S0 =>
 if szInt64S0<0 then
 some (-1)
 else
 (YX (Zv.Loads a0) szInt64S0).bind fun szInt64S1 =>
 if szInt64S1<0 then
 some (-1)
 else
 (YX (Zv.Values a0) szInt64S1).bind fun szInt64S2 =>
 if szInt64S2<0 then
 some (-1)
 else
 some szInt64S2
noncomputable def c3:Ctr:=⟨[.dat (YP),.dat (.int .i64)],[.dat (.int .i64)],fun a K=>splitK a fun a0 a=>splitK a fun left0 a=>ZA (Jc a0 left0) fun r=>K (r,()) ()⟩
noncomputable def ZcM (a0:List Zv) (left1:Int) (i0:Int):Option ((Int×Int×Unit) ⊕ Int) :=
 if i0<(↑(List.length a0):Int) then
 (atI a0 i0).bind fun x0 =>
 (Jc x0 left1).bind fun szTable0 =>
 if szTable0<0 then
 some (.inr (-1))
 else
 some (.inl (szTable0,IntKind.i64.wrap (i0+1),()))
 else
 some (.inr left1)
noncomputable def V8 (a0:List Zv) (left0:Int):Option Int :=
 if IntKind.i64.wrap (left0-(↑(List.length a0):Int))<0 then
 some (-1)
 else
 Zt (fun v=>ZcM a0 v.1 v.2.1) (IntKind.i64.wrap (left0-(↑(List.length a0):Int)),(0:Int),())
noncomputable def c4:Ctr:=⟨[.dat (.sl (YP)),.dat (.int .i64)],[.dat (.int .i64)],fun a K=>splitK a fun a0 a=>splitK a fun left0 a=>ZA (V8 a0 left0) fun r=>K (r,()) ()⟩
noncomputable def Zbr (a0:ZT) (left0:Int):Option Int :=
 (V8 (ZT.Delay a0) left0).bind fun szTableS0 =>
 if szTableS0<0 then
 some (-1)
 else
 (V8 (ZT.Zih a0) szTableS0).bind fun szTableS1 =>
 if szTableS1<0 then
 some (-1)
 else
 some szTableS1
noncomputable def c5:Ctr:=⟨[.dat (ZeP),.dat (.int .i64)],[.dat (.int .i64)],fun a K=>splitK a fun a0 a=>splitK a fun left0 a=>ZA (Zbr a0 left0) fun r=>K (r,()) ()⟩
noncomputable def Zez (a0:List ZT) (left1:Int) (i0:Int):Option ((Int×Int×Unit) ⊕ Int) :=
 if i0<(↑(List.length a0):Int) then
 (atI a0 i0).bind fun x0 =>
 (Zbr x0 left1).bind fun szArc0 =>
 if szArc0<0 then
 some (.inr (-1))
 else
 some (.inl (szArc0,IntKind.i64.wrap (i0+1),()))
 else
 some (.inr left1)
noncomputable def Zb0 (a0:List ZT) (left0:Int):Option Int :=
 if IntKind.i64.wrap (left0-(↑(List.length a0):Int))<0 then
 some (-1)
 else
 Zt (fun v=>Zez a0 v.1 v.2.1) (IntKind.i64.wrap (left0-(↑(List.length a0):Int)),(0:Int),())
noncomputable def c6:Ctr:=⟨[.dat (.sl (ZeP)),.dat (.int .i64)],[.dat (.int .i64)],fun a K=>splitK a fun a0 a=>splitK a fun left0 a=>ZA (Zb0 a0 left0) fun r=>K (r,()) ()⟩
noncomputable def Zaw (a0:Zh) (left0:Int):Option Int :=
 if IntKind.i64.wrap (left0-(↑(List.length (Zh.Name a0)):Int))<0 then
 some (-1)
 else
 (ZbS (Zh.YC a0) (IntKind.i64.wrap (left0-(↑(List.length (Zh.Name a0)):Int)))).bind fun szPinS0 =>
 if szPinS0<0 then
 some (-1)
 else
 (Zb0 (Zh.Za7 a0) szPinS0).bind fun szArcS0 =>
 if szArcS0<0 then
 some (-1)
 else
 (YX (Zh.Truth a0) szArcS0).bind fun szInt64S0 =>
 if szInt64S0<0 then
 some (-1)
 else
 some szInt64S0
noncomputable def c7:Ctr:=⟨[.dat (XY),.dat (.int .i64)],[.dat (.int .i64)],fun a K=>splitK a fun a0 a=>splitK a fun left0 a=>ZA (Zaw a0 left0) fun r=>K (r,()) ()⟩
noncomputable def ZdL (a0:List Zh) (left1:Int) (i0:Int):Option ((Int×Int×Unit) ⊕ Int) :=
 if i0<(↑(List.length a0):Int) then
 (atI a0 i0).bind fun x0 =>
 (Zaw x0 left1).bind fun szCell0 =>
 if szCell0<0 then
 some (.inr (-1))
 else
 some (.inl (szCell0,IntKind.i64.wrap (i0+1),()))
 else
 some (.inr left1)
noncomputable def ZaU (a0:List Zh) (left0:Int):Option Int :=
 if IntKind.i64.wrap (left0-(↑(List.length a0):Int))<0 then
 some (-1)
 else
 Zt (fun v=>ZdL a0 v.1 v.2.1) (IntKind.i64.wrap (left0-(↑(List.length a0):Int)),(0:Int),())
noncomputable def c8:Ctr:=⟨[.dat (.sl (XY)),.dat (.int .i64)],[.dat (.int .i64)],fun a K=>splitK a fun a0 a=>splitK a fun left0 a=>ZA (ZaU a0 left0) fun r=>K (r,()) ()⟩
noncomputable def Jf (a0:Zk) (left0:Int):Option Int :=
 (ZaU (Zk.Cells a0) left0).bind fun szCellS0 =>
 if szCellS0<0 then
 some (-1)
 else
 some szCellS0
noncomputable def c9:Ctr:=⟨[.dat (YE),.dat (.int .i64)],[.dat (.int .i64)],fun a K=>splitK a fun a0 a=>splitK a fun left0 a=>ZA (Jf a0 left0) fun r=>K (r,()) ()⟩
noncomputable def XU (a0:Zd) (left0:Int):Option Int :=
 if IntKind.i64.wrap (left0-(↑(List.length (Zd.Name a0)):Int))<0 then
 some (-1)
 else
 (YX (Zd.ZM a0) (IntKind.i64.wrap (left0-(↑(List.length (Zd.Name a0)):Int)))).bind fun szInt64S0 =>
 if szInt64S0<0 then
 some (-1)
 else
 some szInt64S0
noncomputable def c10:Ctr:=⟨[.dat (Z6),.dat (.int .i64)],[.dat (.int .i64)],fun a K=>splitK a fun a0 a=>splitK a fun left0 a=>ZA (XU a0 left0) fun r=>K (r,()) ()⟩
noncomputable def ZbC (a0:List Zd) (left1:Int) (i0:Int):Option ((Int×Int×Unit) ⊕ Int) :=
 if i0<(↑(List.length a0):Int) then
 (atI a0 i0).bind fun x0 =>
 (XU x0 left1).bind fun szInstance0 =>
 if szInstance0<0 then
 some (.inr (-1))
 else
 some (.inl (szInstance0,IntKind.i64.wrap (i0+1),()))
 else
 some (.inr left1)
noncomputable def QU (a0:List Zd) (left0:Int):Option Int :=
 if IntKind.i64.wrap (left0-(↑(List.length a0):Int))<0 then
 some (-1)
 else
 Zt (fun v=>ZbC a0 v.1 v.2.1) (IntKind.i64.wrap (left0-(↑(List.length a0):Int)),(0:Int),())
noncomputable def c11:Ctr:=⟨[.dat (.sl (Z6)),.dat (.int .i64)],[.dat (.int .i64)],fun a K=>splitK a fun a0 a=>splitK a fun left0 a=>ZA (QU a0 left0) fun r=>K (r,()) ()⟩
noncomputable def XG (a0:List (List UInt8)) (left1:Int) (i0:Int):Option ((Int×Int×Unit) ⊕ Int) :=
 if i0<(↑(List.length a0):Int) then
 (atI a0 i0).bind fun x0 =>
 if IntKind.i64.wrap (left1-(↑(List.length x0):Int))<0 then
 some (.inr (-1))
 else
 some (.inl (IntKind.i64.wrap (left1-(↑(List.length x0):Int)),IntKind.i64.wrap (i0+1),()))
 else
 some (.inr left1)
noncomputable def V9 (a0:List (List UInt8)) (left0:Int):Option Int :=
 if IntKind.i64.wrap (left0-(↑(List.length a0):Int))<0 then
 some (-1)
 else
 Zt (fun v=>XG a0 v.1 v.2.1) (IntKind.i64.wrap (left0-(↑(List.length a0):Int)),(0:Int),())
noncomputable def c12:Ctr:=⟨[.dat (.sl (.str)),.dat (.int .i64)],[.dat (.int .i64)],fun a K=>splitK a fun a0 a=>splitK a fun left0 a=>ZA (V9 a0 left0) fun r=>K (r,()) ()⟩
noncomputable def Zav (a0:ZL) (left0:Int):Option Int :=
 if IntKind.i64.wrap (left0-(↑(List.length (ZL.Name a0)):Int))<0 then
 some (-1)
 else
 some (IntKind.i64.wrap (left0-(↑(List.length (ZL.Name a0)):Int)))
noncomputable def c13:Ctr:=⟨[.dat (Vz),.dat (.int .i64)],[.dat (.int .i64)],fun a K=>splitK a fun a0 a=>splitK a fun left0 a=>ZA (Zav a0 left0) fun r=>K (r,()) ()⟩
noncomputable def ZdC (a0:List ZL) (left1:Int) (i0:Int):Option ((Int×Int×Unit) ⊕ Int) :=
 if i0<(↑(List.length a0):Int) then
 (atI a0 i0).bind fun x0 =>
 (Zav x0 left1).bind fun szPort0 =>
 if szPort0<0 then
 some (.inr (-1))
 else
 some (.inl (szPort0,IntKind.i64.wrap (i0+1),()))
 else
 some (.inr left1)
noncomputable def ZaY (a0:List ZL) (left0:Int):Option Int :=
 if IntKind.i64.wrap (left0-(↑(List.length a0):Int))<0 then
 some (-1)
 else
 Zt (fun v=>ZdC a0 v.1 v.2.1) (IntKind.i64.wrap (left0-(↑(List.length a0):Int)),(0:Int),())
noncomputable def c14:Ctr:=⟨[.dat (.sl (Vz)),.dat (.int .i64)],[.dat (.int .i64)],fun a K=>splitK a fun a0 a=>splitK a fun left0 a=>ZA (ZaY a0 left0) fun r=>K (r,()) ()⟩
noncomputable def Zak (a0:Za) (left0:Int):Option Int :=
 (QU (Za.Instances a0) left0).bind fun szInstanceS0 =>
 if szInstanceS0<0 then
 some (-1)
 else
 (V9 (Za.ZM a0) szInstanceS0).bind fun szStringS0 =>
 if szStringS0<0 then
 some (-1)
 else
 (ZaY (Za.ZX a0) szStringS0).bind fun szPortS0 =>
 if szPortS0<0 then
 some (-1)
 else
 some szPortS0
noncomputable def c15:Ctr:=⟨[.dat (Yr),.dat (.int .i64)],[.dat (.int .i64)],fun a K=>splitK a fun a0 a=>splitK a fun left0 a=>ZA (Zak a0 left0) fun r=>K (r,()) ()⟩
noncomputable def JO (a0:Zn) (left0:Int):Option Int :=
 (YX (Zn.Parent a0) left0).bind fun szInt64S0 =>
 if szInt64S0<0 then
 some (-1)
 else
 (YX (Zn.Res a0) szInt64S0).bind fun szInt64S1 =>
 if szInt64S1<0 then
 some (-1)
 else
 (YX (Zn.Cap a0) szInt64S1).bind fun szInt64S2 =>
 if szInt64S2<0 then
 some (-1)
 else
 (YX (Zn.Zfx a0) szInt64S2).bind fun szInt64S3 =>
 if szInt64S3<0 then
 some (-1)
 else
 some szInt64S3
noncomputable def c16:Ctr:=⟨[.dat (XR),.dat (.int .i64)],[.dat (.int .i64)],fun a K=>splitK a fun a0 a=>splitK a fun left0 a=>ZA (JO a0 left0) fun r=>K (r,()) ()⟩
noncomputable def ZdE (a0:List Zn) (left1:Int) (i0:Int):Option ((Int×Int×Unit) ⊕ Int) :=
 if i0<(↑(List.length a0):Int) then
 (atI a0 i0).bind fun x0 =>
 (JO x0 left1).bind fun szWire0 =>
 if szWire0<0 then
 some (.inr (-1))
 else
 some (.inl (szWire0,IntKind.i64.wrap (i0+1),()))
 else
 some (.inr left1)
noncomputable def ZaW (a0:List Zn) (left0:Int):Option Int :=
 if IntKind.i64.wrap (left0-(↑(List.length a0):Int))<0 then
 some (-1)
 else
 Zt (fun v=>ZdE a0 v.1 v.2.1) (IntKind.i64.wrap (left0-(↑(List.length a0):Int)),(0:Int),())
noncomputable def c17:Ctr:=⟨[.dat (.sl (XR)),.dat (.int .i64)],[.dat (.int .i64)],fun a K=>splitK a fun a0 a=>splitK a fun left0 a=>ZA (ZaW a0 left0) fun r=>K (r,()) ()⟩
noncomputable def ZaZ (a0:Zb) (left0:Int):Option Int :=
 (Jf (Zb.Library a0) left0).bind fun szLibrary0 =>
 if szLibrary0<0 then
 some (-1)
 else
 (Zak (Zb.Design a0) szLibrary0).bind fun szDesign0 =>
 if szDesign0<0 then
 some (-1)
 else
 (ZaW (Zb.Zw a0) szDesign0).bind fun szWireS0 =>
 if szWireS0<0 then
 some (-1)
 else
 some szWireS0
noncomputable def c18:Ctr:=⟨[.dat (YL),.dat (.int .i64)],[.dat (.int .i64)],fun a K=>splitK a fun a0 a=>splitK a fun left0 a=>ZA (ZaZ a0 left0) fun r=>K (r,()) ()⟩
noncomputable def Zas (a0:Zf) (left0:Int):Option Int :=
 if IntKind.i64.wrap (left0-(↑(List.length (Zf.Name a0)):Int))<0 then
 some (-1)
 else
 (JO (Zf.Zdl a0) (IntKind.i64.wrap (left0-(↑(List.length (Zf.Name a0)):Int)))).bind fun szWire0 =>
 if szWire0<0 then
 some (-1)
 else
 some szWire0
noncomputable def c19:Ctr:=⟨[.dat (Ym),.dat (.int .i64)],[.dat (.int .i64)],fun a K=>splitK a fun a0 a=>splitK a fun left0 a=>ZA (Zas a0 left0) fun r=>K (r,()) ()⟩
noncomputable def ZdH (a0:List Zf) (left1:Int) (i0:Int):Option ((Int×Int×Unit) ⊕ Int) :=
 if i0<(↑(List.length a0):Int) then
 (atI a0 i0).bind fun x0 =>
 (Zas x0 left1).bind fun szEdit0 =>
 if szEdit0<0 then
 some (.inr (-1))
 else
 some (.inl (szEdit0,IntKind.i64.wrap (i0+1),()))
 else
 some (.inr left1)
noncomputable def ZaS (a0:List Zf) (left0:Int):Option Int :=
 if IntKind.i64.wrap (left0-(↑(List.length a0):Int))<0 then
 some (-1)
 else
 Zt (fun v=>ZdH a0 v.1 v.2.1) (IntKind.i64.wrap (left0-(↑(List.length a0):Int)),(0:Int),())
noncomputable def c20:Ctr:=⟨[.dat (.sl (Ym)),.dat (.int .i64)],[.dat (.int .i64)],fun a K=>splitK a fun a0 a=>splitK a fun left0 a=>ZA (ZaS a0 left0) fun r=>K (r,()) ()⟩
noncomputable def Zeg (a0:YB):Option YB :=
 some a0
noncomputable def c21:Ctr:=⟨[.dat (ZcH)],[.dat (ZcH)],fun a K=>splitK a fun a0 a=>ZA (Zeg a0) fun r=>K (r,()) ()⟩
noncomputable def Zej (a0:List YB) (i0:Int) (l0:List (List UInt8×Int×Int×Bool×Unit)):Option ((Int×(List (List UInt8×Int×Int×Bool×Unit))×Unit) ⊕ List YB) :=
 if i0<(↑(List.length a0):Int) then
 (atI a0 i0).bind fun x0 =>
 (Zeg x0).bind fun toPin0 =>
 (atI l0 i0).bind fun x1 =>
 some (.inl (IntKind.i64.wrap (i0+1),List.set l0 (Int.toNat i0) toPin0,()))
 else
 some (.inr l0)
noncomputable def Zew (a0:List YB):Option (List YB) :=
 Zx ((0:Int)≤(↑(List.length a0):Int)) <|
 Zx ((↑(List.length a0):Int)≤(↑(List.length a0):Int)) <|
 Zx ((↑(List.length a0):Int)≤(4611686018427387904:Int)) <|
 Zx ((↑(40:Nat):Int)*(↑(List.length a0):Int)≤(281474976710656:Int)) <|
 Zt (fun v=>Zej a0 v.1 v.2.1) ((0:Int),List.replicate (Int.toNat (↑(List.length a0):Int)) (([]:List UInt8),(0:Int),(0:Int),Bool.false,()),())
noncomputable def c22:Ctr:=⟨[.dat (.sl (ZcH))],[.own (.ol 218 (.flat (ZcH)))],fun a K=>splitK a fun a0 a=>ZA (Zew a0) fun r=>K (r,()) ()⟩
noncomputable def ZcT (a0:List Int) (i0:Int) (l0:List Int):Option ((Int×(List Int)×Unit) ⊕ List Int) :=
 if i0<(↑(List.length a0):Int) then
 (atI a0 i0).bind fun x0 =>
 (atI l0 i0).bind fun x1 =>
 some (.inl (IntKind.i64.wrap (i0+1),List.set l0 (Int.toNat i0) x0,()))
 else
 some (.inr l0)
noncomputable def Xe (a0:List Int):Option (List Int) :=
 Zx ((0:Int)≤(↑(List.length a0):Int)) <|
 Zx ((↑(List.length a0):Int)≤(↑(List.length a0):Int)) <|
 Zx ((↑(List.length a0):Int)≤(4611686018427387904:Int)) <|
 Zx ((↑(8:Nat):Int)*(↑(List.length a0):Int)≤(281474976710656:Int)) <|
 Zt (fun v=>ZcT a0 v.1 v.2.1) ((0:Int),List.replicate (Int.toNat (↑(List.length a0):Int)) (0:Int),())
noncomputable def c23:Ctr:=⟨[.dat (.sl (.int .i64))],[.own (.ol 2 (.flat (.int .i64)))],fun a K=>splitK a fun a0 a=>ZA (Xe a0) fun r=>K (r,()) ()⟩
noncomputable def ZbL (a0:Zv):Option Zv :=
 (Xe (Zv.ZfN a0)).bind fun toInt64S0 =>
 (Xe (Zv.Loads a0)).bind fun toInt64S1 =>
 (Xe (Zv.Values a0)).bind fun toInt64S2 =>
 some (toInt64S0,toInt64S1,toInt64S2,())
noncomputable def c24:Ctr:=⟨[.dat (YP)],[.own (ZeJ)],fun a K=>splitK a fun a0 a=>ZA (ZbL a0) fun r=>K (r,()) ()⟩
noncomputable def ZcX (a0:List Zv) (i0:Int) (l0:List Zv):Option ((Int×(List Zv)×Unit) ⊕ List Zv) :=
 if i0<(↑(List.length a0):Int) then
 (atI a0 i0).bind fun x0 =>
 (ZbL x0).bind fun toTable0 =>
 (atI l0 i0).bind fun x1 =>
 some (.inl (IntKind.i64.wrap (i0+1),List.set l0 (Int.toNat i0) toTable0,()))
 else
 some (.inr l0)
noncomputable def Za6 (a0:List Zv):Option (List Zv) :=
 Zx ((0:Int)≤(↑(List.length a0):Int)) <|
 Zx ((↑(List.length a0):Int)≤(↑(List.length a0):Int)) <|
 Zx ((↑(List.length a0):Int)≤(4611686018427387904:Int)) <|
 Zx ((↑(72:Nat):Int)*(↑(List.length a0):Int)≤(281474976710656:Int)) <|
 Zt (fun v=>ZcX a0 v.1 v.2.1) ((0:Int),List.replicate (Int.toNat (↑(List.length a0):Int)) (([]:List Int),([]:List Int),([]:List Int),()),())
noncomputable def c25:Ctr:=⟨[.dat (.sl (YP))],[.own (.ol 263 (ZeJ))],fun a K=>splitK a fun a0 a=>ZA (Za6 a0) fun r=>K (r,()) ()⟩
noncomputable def Zeb (a0:ZT):Option ZT :=
 (Za6 (ZT.Delay a0)).bind fun toTableS0 =>
 (Za6 (ZT.Zih a0)).bind fun toTableS1 =>
 some (ZT.Kind a0,ZT.From a0,ZT.To a0,ZT.ZcB a0,toTableS0,toTableS1,())
noncomputable def c26:Ctr:=⟨[.dat (ZeP)],[.own (ZqC)],fun a K=>splitK a fun a0 a=>ZA (Zeb a0) fun r=>K (r,()) ()⟩
noncomputable def Zei (a0:List ZT) (i0:Int) (l0:List ZT):Option ((Int×(List ZT)×Unit) ⊕ List ZT) :=
 if i0<(↑(List.length a0):Int) then
 (atI a0 i0).bind fun x0 =>
 (Zeb x0).bind fun toArc0 =>
 (atI l0 i0).bind fun x1 =>
 some (.inl (IntKind.i64.wrap (i0+1),List.set l0 (Int.toNat i0) toArc0,()))
 else
 some (.inr l0)
noncomputable def Zef (a0:List ZT):Option (List ZT) :=
 Zx ((0:Int)≤(↑(List.length a0):Int)) <|
 Zx ((↑(List.length a0):Int)≤(↑(List.length a0):Int)) <|
 Zx ((↑(List.length a0):Int)≤(4611686018427387904:Int)) <|
 Zx ((↑(80:Nat):Int)*(↑(List.length a0):Int)≤(281474976710656:Int)) <|
 Zt (fun v=>Zei a0 v.1 v.2.1) ((0:Int),List.replicate (Int.toNat (↑(List.length a0):Int)) ((0:Int),(0:Int),(0:Int),(0:Int),([]:List Zv),([]:List Zv),()),())
noncomputable def c27:Ctr:=⟨[.dat (.sl (ZeP))],[.own (.ol 235 (ZqC))],fun a K=>splitK a fun a0 a=>ZA (Zef a0) fun r=>K (r,()) ()⟩
noncomputable def ZcP (a0:Zh):Option Zh :=
 (Zew (Zh.YC a0)).bind fun toPinS0 =>
 (Zef (Zh.Za7 a0)).bind fun toArcS0 =>
 (Xe (Zh.Truth a0)).bind fun toInt64S0 =>
 some (Zh.Name a0,Zh.Kind a0,toPinS0,toArcS0,toInt64S0,a0.snd.snd.snd.snd.snd)
noncomputable def c28:Ctr:=⟨[.dat (XY)],[.own (Zjc)],fun a K=>splitK a fun a0 a=>ZA (ZcP a0) fun r=>K (r,()) ()⟩
noncomputable def ZdZ (a0:List Zh) (i0:Int) (l0:List Zh):Option ((Int×(List Zh)×Unit) ⊕ List Zh) :=
 if i0<(↑(List.length a0):Int) then
 (atI a0 i0).bind fun x0 =>
 (ZcP x0).bind fun toCell0 =>
 (atI l0 i0).bind fun x1 =>
 some (.inl (IntKind.i64.wrap (i0+1),List.set l0 (Int.toNat i0) toCell0,()))
 else
 some (.inr l0)
noncomputable def Zdm (a0:List Zh):Option (List Zh) :=
 Zx ((0:Int)≤(↑(List.length a0):Int)) <|
 Zx ((↑(List.length a0):Int)≤(↑(List.length a0):Int)) <|
 Zx ((↑(List.length a0):Int)≤(4611686018427387904:Int)) <|
 Zx ((↑(112:Nat):Int)*(↑(List.length a0):Int)≤(281474976710656:Int)) <|
 Zt (fun v=>ZdZ a0 v.1 v.2.1) ((0:Int),List.replicate (Int.toNat (↑(List.length a0):Int)) (([]:List UInt8),(0:Int),([]:List YB),([]:List ZT),([]:List Int),(0:Int),(0:Int),()),())
noncomputable def c29:Ctr:=⟨[.dat (.sl (XY))],[.own (.ol 169 (Zjc))],fun a K=>splitK a fun a0 a=>ZA (Zdm a0) fun r=>K (r,()) ()⟩
noncomputable def Zbx (a0:Zk):Option Zk :=
 (Zdm (Zk.Cells a0)).bind fun toCellS0 =>
 some (toCellS0,())
noncomputable def c30:Ctr:=⟨[.dat (YE)],[.own (ZjJ)],fun a K=>splitK a fun a0 a=>ZA (Zbx a0) fun r=>K (r,()) ()⟩
noncomputable def JK (a0:Zd):Option Zd :=
 (Xe (Zd.ZM a0)).bind fun toInt64S0 =>
 some (Zd.Name a0,Zd.Cell a0,toInt64S0,())
noncomputable def c31:Ctr:=⟨[.dat (Z6)],[.own (ZaN)],fun a K=>splitK a fun a0 a=>ZA (JK a0) fun r=>K (r,()) ()⟩
noncomputable def ZbB (a0:List Zd) (i0:Int) (l0:List Zd):Option ((Int×(List Zd)×Unit) ⊕ List Zd) :=
 if i0<(↑(List.length a0):Int) then
 (atI a0 i0).bind fun x0 =>
 (JK x0).bind fun toInstance0 =>
 (atI l0 i0).bind fun x1 =>
 some (.inl (IntKind.i64.wrap (i0+1),List.set l0 (Int.toNat i0) toInstance0,()))
 else
 some (.inr l0)
noncomputable def Zaa (a0:List Zd):Option (List Zd) :=
 Zx ((0:Int)≤(↑(List.length a0):Int)) <|
 Zx ((↑(List.length a0):Int)≤(↑(List.length a0):Int)) <|
 Zx ((↑(List.length a0):Int)≤(4611686018427387904:Int)) <|
 Zx ((↑(48:Nat):Int)*(↑(List.length a0):Int)≤(281474976710656:Int)) <|
 Zt (fun v=>ZbB a0 v.1 v.2.1) ((0:Int),List.replicate (Int.toNat (↑(List.length a0):Int)) (([]:List UInt8),(0:Int),([]:List Int),()),())
noncomputable def c32:Ctr:=⟨[.dat (.sl (Z6))],[.own (.ol 124 (ZaN))],fun a K=>splitK a fun a0 a=>ZA (Zaa a0) fun r=>K (r,()) ()⟩
noncomputable def Zcw (a0:List (List UInt8)) (i0:Int) (l0:List (List UInt8)):Option ((Int×(List (List UInt8))×Unit) ⊕ List (List UInt8)) :=
 if i0<(↑(List.length a0):Int) then
 (atI a0 i0).bind fun x0 =>
 (atI l0 i0).bind fun x1 =>
 some (.inl (IntKind.i64.wrap (i0+1),List.set l0 (Int.toNat i0) x0,()))
 else
 some (.inr l0)
noncomputable def Zby (a0:List (List UInt8)):Option (List (List UInt8)) :=
 Zx ((0:Int)≤(↑(List.length a0):Int)) <|
 Zx ((↑(List.length a0):Int)≤(↑(List.length a0):Int)) <|
 Zx ((↑(List.length a0):Int)≤(4611686018427387904:Int)) <|
 Zx ((↑(16:Nat):Int)*(↑(List.length a0):Int)≤(281474976710656:Int)) <|
 Zt (fun v=>Zcw a0 v.1 v.2.1) ((0:Int),List.replicate (Int.toNat (↑(List.length a0):Int)) (([]:List UInt8)),())
noncomputable def c33:Ctr:=⟨[.dat (.sl (.str))],[.own (.ol 9 (.flat (.str)))],fun a K=>splitK a fun a0 a=>ZA (Zby a0) fun r=>K (r,()) ()⟩
noncomputable def ZcY (a0:ZL):Option ZL :=
 some a0
noncomputable def c34:Ctr:=⟨[.dat (Vz)],[.dat (Vz)],fun a K=>splitK a fun a0 a=>ZA (ZcY a0) fun r=>K (r,()) ()⟩
noncomputable def ZdM (a0:List ZL) (i0:Int) (l0:List (List UInt8×Int×Int×Unit)):Option ((Int×(List (List UInt8×Int×Int×Unit))×Unit) ⊕ List ZL) :=
 if i0<(↑(List.length a0):Int) then
 (atI a0 i0).bind fun x0 =>
 (ZcY x0).bind fun toPort0 =>
 (atI l0 i0).bind fun x1 =>
 some (.inl (IntKind.i64.wrap (i0+1),List.set l0 (Int.toNat i0) toPort0,()))
 else
 some (.inr l0)
noncomputable def Zde (a0:List ZL):Option (List ZL) :=
 Zx ((0:Int)≤(↑(List.length a0):Int)) <|
 Zx ((↑(List.length a0):Int)≤(↑(List.length a0):Int)) <|
 Zx ((↑(List.length a0):Int)≤(4611686018427387904:Int)) <|
 Zx ((↑(32:Nat):Int)*(↑(List.length a0):Int)≤(281474976710656:Int)) <|
 Zt (fun v=>ZdM a0 v.1 v.2.1) ((0:Int),List.replicate (Int.toNat (↑(List.length a0):Int)) (([]:List UInt8),(0:Int),(0:Int),()),())
noncomputable def c35:Ctr:=⟨[.dat (.sl (Vz))],[.own (.ol 178 (.flat (Vz)))],fun a K=>splitK a fun a0 a=>ZA (Zde a0) fun r=>K (r,()) ()⟩
noncomputable def Zce (a0:Za):Option Za :=
 (Zaa (Za.Instances a0)).bind fun toInstanceS0 =>
 (Zby (Za.ZM a0)).bind fun toStringS0 =>
 (Zde (Za.ZX a0)).bind fun toPortS0 =>
 some (toInstanceS0,toStringS0,toPortS0,())
noncomputable def c36:Ctr:=⟨[.dat (Yr)],[.own (Zky)],fun a K=>splitK a fun a0 a=>ZA (Zce a0) fun r=>K (r,()) ()⟩
noncomputable def ZbP (a0:Zn):Option Zn :=
 (Xe (Zn.Parent a0)).bind fun toInt64S0 =>
 (Xe (Zn.Res a0)).bind fun toInt64S1 =>
 (Xe (Zn.Cap a0)).bind fun toInt64S2 =>
 (Xe (Zn.Zfx a0)).bind fun toInt64S3 =>
 some (toInt64S0,toInt64S1,toInt64S2,toInt64S3,())
noncomputable def c37:Ctr:=⟨[.dat (XR)],[.own (Zha)],fun a K=>splitK a fun a0 a=>ZA (ZbP a0) fun r=>K (r,()) ()⟩
noncomputable def ZdV (a0:List Zn) (i0:Int) (l0:List Zn):Option ((Int×(List Zn)×Unit) ⊕ List Zn) :=
 if i0<(↑(List.length a0):Int) then
 (atI a0 i0).bind fun x0 =>
 (ZbP x0).bind fun toWire0 =>
 (atI l0 i0).bind fun x1 =>
 some (.inl (IntKind.i64.wrap (i0+1),List.set l0 (Int.toNat i0) toWire0,()))
 else
 some (.inr l0)
noncomputable def Zc6 (a0:List Zn):Option (List Zn) :=
 Zx ((0:Int)≤(↑(List.length a0):Int)) <|
 Zx ((↑(List.length a0):Int)≤(↑(List.length a0):Int)) <|
 Zx ((↑(List.length a0):Int)≤(4611686018427387904:Int)) <|
 Zx ((↑(96:Nat):Int)*(↑(List.length a0):Int)≤(281474976710656:Int)) <|
 Zt (fun v=>ZdV a0 v.1 v.2.1) ((0:Int),List.replicate (Int.toNat (↑(List.length a0):Int)) (([]:List Int),([]:List Int),([]:List Int),([]:List Int),()),())
noncomputable def c38:Ctr:=⟨[.dat (.sl (XR))],[.own (.ol 64 (Zha))],fun a K=>splitK a fun a0 a=>ZA (Zc6 a0) fun r=>K (r,()) ()⟩
noncomputable def Zdb (a0:Zb):Option Zb :=
 (Zbx (Zb.Library a0)).bind fun toLibrary0 =>
 (Zce (Zb.Design a0)).bind fun toDesign0 =>
 (Zc6 (Zb.Zw a0)).bind fun toWireS0 =>
 some (toLibrary0,toDesign0,toWireS0,())
noncomputable def c39:Ctr:=⟨[.dat (YL)],[.own (Zdv)],fun a K=>splitK a fun a0 a=>ZA (Zdb a0) fun r=>K (r,()) ()⟩
noncomputable def ZcW (a0:Zf):Option Zf :=
 (ZbP (Zf.Zdl a0)).bind fun toWire0 =>
 some (Zf.Kind a0,Zf.Place a0,Zf.Cell a0,Zf.Net a0,Zf.Node a0,Zf.Name a0,toWire0,())
noncomputable def c40:Ctr:=⟨[.dat (Ym)],[.own (Zi2)],fun a K=>splitK a fun a0 a=>ZA (ZcW a0) fun r=>K (r,()) ()⟩
noncomputable def Zdr (a0:List Zf) (i0:Int) (l0:List Zf):Option ((Int×(List Zf)×Unit) ⊕ List Zf) :=
 if i0<(↑(List.length a0):Int) then
 (atI a0 i0).bind fun x0 =>
 (ZcW x0).bind fun toEdit0 =>
 (atI l0 i0).bind fun x1 =>
 some (.inl (IntKind.i64.wrap (i0+1),List.set l0 (Int.toNat i0) toEdit0,()))
 else
 some (.inr l0)
noncomputable def Zdc (a0:List Zf):Option (List Zf) :=
 Zx ((0:Int)≤(↑(List.length a0):Int)) <|
 Zx ((↑(List.length a0):Int)≤(↑(List.length a0):Int)) <|
 Zx ((↑(List.length a0):Int)≤(4611686018427387904:Int)) <|
 Zx ((↑(152:Nat):Int)*(↑(List.length a0):Int)≤(281474976710656:Int)) <|
 Zt (fun v=>Zdr a0 v.1 v.2.1) ((0:Int),List.replicate (Int.toNat (↑(List.length a0):Int)) ((0:Int),(0:Int),(0:Int),(0:Int),(0:Int),([]:List UInt8),(([]:List Int),([]:List Int),([]:List Int),([]:List Int),()),()),())
noncomputable def c41:Ctr:=⟨[.dat (.sl (Ym))],[.own (.ol 66 (Zi2))],fun a K=>splitK a fun a0 a=>ZA (Zdc a0) fun r=>K (r,()) ()⟩
noncomputable def Zac (s0:List UInt8) (i0:Int):Option ((Int×Unit) ⊕ Bool) :=
 if i0<(↑(List.length s0):Int) then
 (atI s0 i0).bind fun x0 =>
 if 97≤(↑(UInt8.toNat x0):Int) then
 if 48≤(↑(UInt8.toNat x0):Int) then
 if (↑(UInt8.toNat x0):Int)≤122 then
 some (.inl (IntKind.i64.wrap (i0+1),()))
 else
 if (↑(UInt8.toNat x0):Int)≤57 then
 if 0<i0 then
 some (.inl (IntKind.i64.wrap (i0+1),()))
 else
 some (.inr Bool.false)
 else
 some (.inr Bool.false)
 else
 if (↑(UInt8.toNat x0):Int)≤122 then
 some (.inl (IntKind.i64.wrap (i0+1),()))
 else
 some (.inr Bool.false)
 else
 if 48≤(↑(UInt8.toNat x0):Int) then
 if (↑(UInt8.toNat x0):Int)≤57 then
 if 0<i0 then
 some (.inl (IntKind.i64.wrap (i0+1),()))
 else
 some (.inr Bool.false)
 else
 some (.inr Bool.false)
 else
 some (.inr Bool.false)
 else
 if 1≤(↑(List.length s0):Int) then
 some (.inr (Decidable.decide ((↑(List.length s0):Int)≤8)))
 else
 some (.inr Bool.false)
noncomputable def Zai (s0:List UInt8):Option Bool :=
 Zt (fun v=>Zac s0 v.1) ((0:Int),())
noncomputable def c42:Ctr:=⟨[.dat (.str)],[.dat (.bool)],fun a K=>splitK a fun s0 a=>ZA (Zai s0) fun r=>K (r,()) ()⟩
noncomputable def Yd (n0:Int) (low0:Int) (high0:Int):Option Bool :=
 if low0≤n0 then
 some (Decidable.decide (n0≤high0))
 else
 some Bool.false
noncomputable def c43:Ctr:=⟨[.dat (.int .i64),.dat (.int .i64),.dat (.int .i64)],[.dat (.bool)],fun a K=>splitK a fun n0 a=>splitK a fun low0 a=>splitK a fun high0 a=>ZA (Yd n0 low0 high0) fun r=>K (r,()) ()⟩
noncomputable def XI (a0:Zh) (v0:Int) (v1:Int) (x0:YB) (v2:Int):Option ((Int×Unit) ⊕ ((Int×Int×Unit) ⊕ (Int×Bool))) :=
 if v2<v1 then
 (atI (Zh.YC a0) v2).bind fun x1 =>
 if YB.Name x1=YB.Name x0 then
 some (.inr (.inr (0,Bool.false)))
 else
 some (.inl (IntKind.i64.wrap (v2+1),()))
 else
 (Zai (YB.Name x0)).bind fun l03Name0 =>
 if l03Name0=true then
 (Yd (YB.Cap x0) 0 500).bind fun l01In0 =>
 if l01In0=true then
 if v1=IntKind.i64.wrap ((↑(List.length (Zh.YC a0)):Int)-1) then
 if YB.Dir x0=2 then
 if YB.Cap x0=0 then
 if (YB.Clock x0)=true then
 some (.inr (.inr (0,Bool.false)))
 else
 if v1<IntKind.i64.wrap ((↑(List.length (Zh.YC a0)):Int)-1) then
 if YB.Dir x0=1 then
 if (YB.Clock x0)=true then
 some (.inr (.inl (IntKind.i64.wrap (v0+1),IntKind.i64.wrap (v1+1),())))
 else
 some (.inr (.inl (v0,IntKind.i64.wrap (v1+1),())))
 else
 some (.inr (.inr (0,Bool.false)))
 else
 if (YB.Clock x0)=true then
 some (.inr (.inl (IntKind.i64.wrap (v0+1),IntKind.i64.wrap (v1+1),())))
 else
 some (.inr (.inl (v0,IntKind.i64.wrap (v1+1),())))
 else
 some (.inr (.inr (0,Bool.false)))
 else
 some (.inr (.inr (0,Bool.false)))
 else
 if v1<IntKind.i64.wrap ((↑(List.length (Zh.YC a0)):Int)-1) then
 if YB.Dir x0=1 then
 if (YB.Clock x0)=true then
 some (.inr (.inl (IntKind.i64.wrap (v0+1),IntKind.i64.wrap (v1+1),())))
 else
 some (.inr (.inl (v0,IntKind.i64.wrap (v1+1),())))
 else
 some (.inr (.inr (0,Bool.false)))
 else
 if (YB.Clock x0)=true then
 some (.inr (.inl (IntKind.i64.wrap (v0+1),IntKind.i64.wrap (v1+1),())))
 else
 some (.inr (.inl (v0,IntKind.i64.wrap (v1+1),())))
 else
 some (.inr (.inr (0,Bool.false)))
 else
 some (.inr (.inr (0,Bool.false)))
noncomputable def QD (a0:Zh) (v0:Int) (v1:Int):Option ((Int×Int×Unit) ⊕ (Int×Bool)) :=
 if v1<(↑(List.length (Zh.YC a0)):Int) then
 (atI (Zh.YC a0) v1).bind fun x0 =>
 Zt (fun v=>XI a0 v0 v1 x0 v.1) ((0:Int),())
 else
 some (.inr (v0,Bool.true))
noncomputable def Zda (a0:Zh):Option (Int×Bool) :=
 if (↑(List.length (Zh.YC a0)):Int)<2 then
 some (0,Bool.false)
 else
 if 5<(↑(List.length (Zh.YC a0)):Int) then
 some (0,Bool.false)
 else
 Zt (fun v=>QD a0 v.1 v.2.1) ((0:Int),(0:Int),())
noncomputable def c44:Ctr:=⟨[.dat (XY)],[.dat (.int .i64),.dat (.bool)],fun a K=>splitK a fun a0 a=>ZA (Zda a0) fun r=>K (r.1,r.2,()) ()⟩
noncomputable def Zam (list0:List Int) (i0:Int):Option ((Int×Unit) ⊕ Bool) :=
 if i0<(↑(List.length list0):Int) then
 (atI list0 i0).bind fun x0 =>
 (Yd x0 0 100000).bind fun l01In0 =>
 if l01In0=true then
 if 0<i0 then
 (atI list0 (IntKind.i64.wrap (i0-1))).bind fun x1 =>
 if x0≤x1 then
 some (.inr Bool.false)
 else
 some (.inl (IntKind.i64.wrap (i0+1),()))
 else
 some (.inl (IntKind.i64.wrap (i0+1),()))
 else
 some (.inr Bool.false)
 else
 if 1≤(↑(List.length list0):Int) then
 some (.inr (Decidable.decide ((↑(List.length list0):Int)≤4)))
 else
 some (.inr Bool.false)
noncomputable def ZbV (list0:List Int):Option Bool :=
 Zt (fun v=>Zam list0 v.1) ((0:Int),())
noncomputable def c45:Ctr:=⟨[.dat (.sl (.int .i64))],[.dat (.bool)],fun a K=>splitK a fun list0 a=>ZA (ZbV list0) fun r=>K (r,()) ()⟩
noncomputable def Zal (t0:Zv) (i0:Int):Option ((Int×Unit) ⊕ Bool) :=
 if i0<(↑(List.length (Zv.Values t0)):Int) then
 (atI (Zv.Values t0) i0).bind fun x0 =>
 (Yd x0 (-1000000) 1000000).bind fun l01In0 =>
 if l01In0=true then
 some (.inl (IntKind.i64.wrap (i0+1),()))
 else
 some (.inr Bool.false)
 else
 some (.inr Bool.true)
noncomputable def Zdd (t0:Zv):Option Bool :=
 (ZbV (Zv.ZfN t0)).bind fun l02Axis0 =>
 if l02Axis0=true then
 (ZbV (Zv.Loads t0)).bind fun l02Axis1 =>
 if l02Axis1=true then
 if (↑(List.length (Zv.Values t0)):Int)=IntKind.i64.wrap ((↑(List.length (Zv.ZfN t0)):Int)*(↑(List.length (Zv.Loads t0)):Int)) then
 Zt (fun v=>Zal t0 v.1) ((0:Int),())
 else
 some Bool.false
 else
 some Bool.false
 else
 some Bool.false
noncomputable def c46:Ctr:=⟨[.dat (YP)],[.dat (.bool)],fun a K=>splitK a fun t0 a=>ZA (Zdd t0) fun r=>K (r,()) ()⟩
noncomputable def XL (t0:Zv) (i0:Int) (c0:Int) (c1:Int):Option ((Int×Int×Int×Unit) ⊕ (Zqg×Int)) :=
 if i0<(↑(List.length (Zv.Values t0)):Int) then
 (atI (Zv.Values t0) i0).bind fun x1 =>
 some (.inl (IntKind.i64.wrap (i0+1),Min.min c0 x1,Max.max c1 x1,()))
 else
 some (.inr ((c0,c1,()),0))
noncomputable def J6 (t0:Zv):Option (Zqg×Int) :=
 (Zdd t0).bind fun IsTable0 =>
 if IsTable0=true then
 (atI (Zv.Values t0) 0).bind fun x0 =>
 Zt (fun v=>XL t0 v.1 v.2.1 v.2.2.1) ((1:Int),x0,x0,())
 else
 some ((0,0,()),1)
noncomputable def c47:Ctr:=⟨[.dat (YP)],[.dat (ZvJ),.dat (.int .i64)],fun a K=>splitK a fun t0 a=>ZA (J6 t0) fun r=>K (r.1,r.2,()) ()⟩
noncomputable def VZ (list0:List Zv) (positive0:Bool) (i0:Int):Option ((Int×Unit) ⊕ Bool) :=
 if i0<2 then
 (atI list0 i0).bind fun x0 =>
 (J6 x0).bind fun TableBounds0 =>
 if TableBounds0.snd=0 then
 if positive0=true then
 if TableBounds0.fst.fst<0 then
 some (.inr Bool.false)
 else
 some (.inl (IntKind.i64.wrap (i0+1),()))
 else
 some (.inl (IntKind.i64.wrap (i0+1),()))
 else
 some (.inr Bool.false)
 else
 some (.inr Bool.true)
noncomputable def Yx (list0:List Zv) (positive0:Bool):Option Bool :=
 if (↑(List.length list0):Int)=2 then
 Zt (fun v=>VZ list0 positive0 v.1) ((0:Int),())
 else
 some Bool.false
noncomputable def c48:Ctr:=⟨[.dat (.sl (YP)),.dat (.bool)],[.dat (.bool)],fun a K=>splitK a fun list0 a=>splitK a fun positive0 a=>ZA (Yx list0 positive0) fun r=>K (r,()) ()⟩
noncomputable def Zel (a0:Zh) (a1:ZT):Option Bool :=
 (Yd (ZT.From a1) 0 (IntKind.i64.wrap (IntKind.i64.wrap ((↑(List.length (Zh.YC a0)):Int)-1)-1))).bind fun l01In0 =>
 if l01In0=true then
 (Yd (ZT.To a1) 0 (IntKind.i64.wrap ((↑(List.length (Zh.YC a0)):Int)-1))).bind fun l01In1 =>
 if l01In1=true then
 (atI (Zh.YC a0) (ZT.From a1)).bind fun x0 =>
 if ZT.Kind a1=1 then
 if (YB.Clock x0)=true then
 some Bool.false
 else
 if ZT.To a1=IntKind.i64.wrap ((↑(List.length (Zh.YC a0)):Int)-1) then
 (Yd (ZT.ZcB a1) 1 3).bind fun l01In2 =>
 if l01In2=true then
 (Yx (ZT.Delay a1) Bool.true).bind fun l03Tables0 =>
 if l03Tables0=true then
 (Yx (ZT.Zih a1) Bool.true).bind fun l03Tables1 =>
 some l03Tables1
 else
 some Bool.false
 else
 some Bool.false
 else
 some Bool.false
 else
 if ZT.Kind a1=2 then
 if ZT.Kind a1=2 then
 if (YB.Clock x0)=true then
 if ZT.To a1=IntKind.i64.wrap ((↑(List.length (Zh.YC a0)):Int)-1) then
 if ZT.ZcB a1=0 then
 (Yx (ZT.Delay a1) Bool.true).bind fun l03Tables0 =>
 if l03Tables0=true then
 (Yx (ZT.Zih a1) Bool.true).bind fun l03Tables1 =>
 some l03Tables1
 else
 some Bool.false
 else
 some Bool.false
 else
 some Bool.false
 else
 some Bool.false
 else
 if ZT.Kind a1=4 then
 if ZT.Kind a1=4 then
 if (YB.Clock x0)=true then
 if ZT.To a1<IntKind.i64.wrap ((↑(List.length (Zh.YC a0)):Int)-1) then
 (atI (Zh.YC a0) (ZT.To a1)).bind fun x1 =>
 if (YB.Clock x1)=true then
 some Bool.false
 else
 if ZT.ZcB a1=0 then
 (Yx (ZT.Delay a1) Bool.false).bind fun l03Tables0 =>
 if l03Tables0=true then
 some (Decidable.decide ((↑(List.length (ZT.Zih a1)):Int)=0))
 else
 some Bool.false
 else
 some Bool.false
 else
 some Bool.false
 else
 some Bool.false
 else
 some Bool.false
 else
 if ZT.Kind a1=5 then
 if (YB.Clock x0)=true then
 if ZT.To a1<IntKind.i64.wrap ((↑(List.length (Zh.YC a0)):Int)-1) then
 (atI (Zh.YC a0) (ZT.To a1)).bind fun x1 =>
 if (YB.Clock x1)=true then
 some Bool.false
 else
 if ZT.ZcB a1=0 then
 (Yx (ZT.Delay a1) Bool.false).bind fun l03Tables0 =>
 if l03Tables0=true then
 some (Decidable.decide ((↑(List.length (ZT.Zih a1)):Int)=0))
 else
 some Bool.false
 else
 some Bool.false
 else
 some Bool.false
 else
 some Bool.false
 else
 some Bool.false
 else
 if ZT.Kind a1=3 then
 if (YB.Clock x0)=true then
 if ZT.To a1=IntKind.i64.wrap ((↑(List.length (Zh.YC a0)):Int)-1) then
 if ZT.ZcB a1=0 then
 (Yx (ZT.Delay a1) Bool.true).bind fun l03Tables0 =>
 if l03Tables0=true then
 (Yx (ZT.Zih a1) Bool.true).bind fun l03Tables1 =>
 some l03Tables1
 else
 some Bool.false
 else
 some Bool.false
 else
 some Bool.false
 else
 some Bool.false
 else
 if ZT.Kind a1=4 then
 if ZT.Kind a1=4 then
 if (YB.Clock x0)=true then
 if ZT.To a1<IntKind.i64.wrap ((↑(List.length (Zh.YC a0)):Int)-1) then
 (atI (Zh.YC a0) (ZT.To a1)).bind fun x1 =>
 if (YB.Clock x1)=true then
 some Bool.false
 else
 if ZT.ZcB a1=0 then
 (Yx (ZT.Delay a1) Bool.false).bind fun l03Tables0 =>
 if l03Tables0=true then
 some (Decidable.decide ((↑(List.length (ZT.Zih a1)):Int)=0))
 else
 some Bool.false
 else
 some Bool.false
 else
 some Bool.false
 else
 some Bool.false
 else
 some Bool.false
 else
 if ZT.Kind a1=5 then
 if (YB.Clock x0)=true then
 if ZT.To a1<IntKind.i64.wrap ((↑(List.length (Zh.YC a0)):Int)-1) then
 (atI (Zh.YC a0) (ZT.To a1)).bind fun x1 =>
 if (YB.Clock x1)=true then
 some Bool.false
 else
 if ZT.ZcB a1=0 then
 (Yx (ZT.Delay a1) Bool.false).bind fun l03Tables0 =>
 if l03Tables0=true then
 some (Decidable.decide ((↑(List.length (ZT.Zih a1)):Int)=0))
 else
 some Bool.false
 else
 some Bool.false
 else
 some Bool.false
 else
 some Bool.false
 else
 some Bool.false
 else
 some Bool.false
 else
 some Bool.false
noncomputable def c49:Ctr:=⟨[.dat (XY),.dat (ZeP)],[.dat (.bool)],fun a K=>splitK a fun a0 a=>splitK a fun a1 a=>ZA (Zel a0 a1) fun r=>K (r,()) ()⟩
noncomputable def Va (c0:Zh) (i0:Int) (l0:List Int):Option ((Int×(List Int)×Unit) ⊕ List Int) :=
 if i0<(↑(List.length (Zh.Za7 c0)):Int) then
 (atI (Zh.Za7 c0) i0).bind fun x0 =>
 (atI l0 (ZT.Kind x0)).bind fun x1 =>
 some (.inl (IntKind.i64.wrap (i0+1),List.set l0 (Int.toNat (ZT.Kind x0)) (IntKind.i64.wrap (x1+1)),()))
 else
 some (.inr l0)
noncomputable def Zcl (c0:Zh):Option (List Int) :=
 Zt (fun v=>Va c0 v.1 v.2.1) ((0:Int),List.replicate (Int.toNat (6:Int)) (0:Int),())
noncomputable def c50:Ctr:=⟨[.dat (XY)],[.own (.ol 2 (.flat (.int .i64)))],fun a K=>splitK a fun c0 a=>ZA (Zcl c0) fun r=>K (r,()) ()⟩
noncomputable def Jh (a0:Zh) (v0:Int) (x0:ZT) (v1:Int):Option ((Int×Unit) ⊕ ((Int×Unit) ⊕ Bool)) :=
 if v1<v0 then
 (atI (Zh.Za7 a0) v1).bind fun x1 =>
 if ZT.Kind x1=ZT.Kind x0 then
 if ZT.From x1=ZT.From x0 then
 if ZT.To x1=ZT.To x0 then
 some (.inr (.inr Bool.false))
 else
 some (.inl (IntKind.i64.wrap (v1+1),()))
 else
 some (.inl (IntKind.i64.wrap (v1+1),()))
 else
 some (.inl (IntKind.i64.wrap (v1+1),()))
 else
 some (.inr (.inl (IntKind.i64.wrap (v0+1),())))
noncomputable def Jg (a0:Zh) (l03Pins0:Int×Bool) (v1:Int):Option ((Int×Unit) ⊕ ((Int×Unit) ⊕ Bool)) :=
 if v1<(↑(List.length (Zh.Truth a0)):Int) then
 (atI (Zh.Truth a0) v1).bind fun x0 =>
 (Yd x0 0 1).bind fun l01In2 =>
 if l01In2=true then
 some (.inl (IntKind.i64.wrap (v1+1),()))
 else
 some (.inr (.inr Bool.false))
 else
 if l03Pins0.fst=0 then
 Zx ((0:Int)≤IntKind.wrap IntKind.u64 (IntKind.i64.wrap ((↑(List.length (Zh.YC a0)):Int)-(1:Int)))) <|
 some (.inr (.inr (Decidable.decide ((↑(List.length (Zh.Truth a0)):Int)=IntKind.i64.wrap (1*2 ^ Min.min (Int.toNat (IntKind.wrap IntKind.u64 (IntKind.i64.wrap ((↑(List.length (Zh.YC a0)):Int)-1)))) (IntKind.bits IntKind.i64))))))
 else
 some (.inr (.inr Bool.false))
noncomputable def ZaP (a0:Zh) (l03Pins0:Int×Bool) (v0:Int):Option ((Int×Unit) ⊕ Bool) :=
 if v0<(↑(List.length (Zh.Za7 a0)):Int) then
 (atI (Zh.Za7 a0) v0).bind fun x0 =>
 (Zel a0 x0).bind fun l03Arc0 =>
 if l03Arc0=true then
 Zt (fun v=>Jh a0 v0 x0 v.1) ((0:Int),())
 else
 some (.inr Bool.false)
 else
 (Zcl a0).bind fun l03Kinds0 =>
 if Zh.Kind a0=1 then
 Zt (fun v=>Jg a0 l03Pins0 v.1) ((0:Int),())
 else
 if Zh.Kind a0=2 then
 if l03Pins0.fst=1 then
 (atI l03Kinds0 1).bind fun x0 =>
 if x0=0 then
 (atI l03Kinds0 2).bind fun x1 =>
 (atI l03Kinds0 3).bind fun x2 =>
 if (Decidable.decide (0<x1) == Decidable.decide (0<x2))=true then
 some (.inr Bool.false)
 else
 some (.inr (Decidable.decide ((↑(List.length (Zh.Truth a0)):Int)=0)))
 else
 some (.inr Bool.false)
 else
 some (.inr Bool.false)
 else
 if Zh.Kind a0=3 then
 if l03Pins0.fst=1 then
 (atI l03Kinds0 1).bind fun x0 =>
 if 0<x0 then
 (atI l03Kinds0 2).bind fun x1 =>
 if 0<x1 then
 (atI l03Kinds0 3).bind fun x2 =>
 if x2=0 then
 some (.inr (Decidable.decide ((↑(List.length (Zh.Truth a0)):Int)=0)))
 else
 some (.inr Bool.false)
 else
 some (.inr Bool.false)
 else
 some (.inr Bool.false)
 else
 some (.inr Bool.false)
 else
 some (.inr Bool.false)
noncomputable def Zen (a0:Zh):Option Bool :=
 (Zda a0).bind fun l03Pins0 =>
 if l03Pins0.snd=true then
 (Zai (Zh.Name a0)).bind fun l03Name0 =>
 if l03Name0=true then
 if 8<(↑(List.length (Zh.Za7 a0)):Int) then
 some Bool.false
 else
 (Yd (Zh.Ztj a0) 0 100000).bind fun l01In0 =>
 if l01In0=true then
 (Yd (Zh.Zid a0) 0 100000).bind fun l01In1 =>
 if l01In1=true then
 Zt (fun v=>ZaP a0 l03Pins0 v.1) ((0:Int),())
 else
 some Bool.false
 else
 some Bool.false
 else
 some Bool.false
 else
 some Bool.false
noncomputable def c51:Ctr:=⟨[.dat (XY)],[.dat (.bool)],fun a K=>splitK a fun a0 a=>ZA (Zen a0) fun r=>K (r,()) ()⟩
noncomputable def VX (l0:Zk) (i0:Int) (x0:Zh) (k0:Int):Option ((Int×Unit) ⊕ ((Int×Unit) ⊕ Bool)) :=
 if k0<i0 then
 (atI (Zk.Cells l0) k0).bind fun x1 =>
 if Zh.Name x1=Zh.Name x0 then
 some (.inr (.inr Bool.false))
 else
 some (.inl (IntKind.i64.wrap (k0+1),()))
 else
 some (.inr (.inl (IntKind.i64.wrap (i0+1),())))
noncomputable def VU (l0:Zk) (i0:Int):Option ((Int×Unit) ⊕ Bool) :=
 if i0<(↑(List.length (Zk.Cells l0)):Int) then
 (atI (Zk.Cells l0) i0).bind fun x0 =>
 (Zen x0).bind fun IsCell0 =>
 if IsCell0=true then
 Zt (fun v=>VX l0 i0 x0 v.1) ((0:Int),())
 else
 some (.inr Bool.false)
 else
 some (.inr (Decidable.decide ((↑(List.length (Zk.Cells l0)):Int)≤8)))
noncomputable def Zbw (l0:Zk):Option Bool :=
 Zt (fun v=>VU l0 v.1) ((0:Int),())
noncomputable def c52:Ctr:=⟨[.dat (YE)],[.dat (.bool)],fun a K=>splitK a fun l0 a=>ZA (Zbw l0) fun r=>K (r,()) ()⟩
noncomputable def JA (a1:Za) (v0:Int) (x0:Zd) (v1:Int):Option ((Int×Unit) ⊕ ((Int×Unit) ⊕ Bool)) :=
 if v1<(↑(List.length (Zd.ZM x0)):Int) then
 (atI (Zd.ZM x0) v1).bind fun x2 =>
 (Yd x2 0 (IntKind.i64.wrap ((↑(List.length (Za.ZM a1)):Int)-1))).bind fun l01In1 =>
 if l01In1=true then
 some (.inl (IntKind.i64.wrap (v1+1),()))
 else
 some (.inr (.inr Bool.false))
 else
 some (.inr (.inl (IntKind.i64.wrap (v0+1),())))
noncomputable def JE (a1:Za) (v1:Int):Option ((Int×Unit) ⊕ ((Int×Unit) ⊕ Bool)) :=
 if v1<(↑(List.length (Za.ZX a1)):Int) then
 (atI (Za.ZX a1) v1).bind fun x0 =>
 (Yd (ZL.Dir x0) 1 2).bind fun l01In0 =>
 if l01In0=true then
 (Yd (ZL.Net x0) 0 (IntKind.i64.wrap ((↑(List.length (Za.ZM a1)):Int)-1))).bind fun l01In1 =>
 if l01In1=true then
 some (.inl (IntKind.i64.wrap (v1+1),()))
 else
 some (.inr (.inr Bool.false))
 else
 some (.inr (.inr Bool.false))
 else
 some (.inr (.inr Bool.true))
noncomputable def JI (a0:Zk) (a1:Za) (v0:Int):Option ((Int×Unit) ⊕ Bool) :=
 if v0<(↑(List.length (Za.Instances a1)):Int) then
 (atI (Za.Instances a1) v0).bind fun x0 =>
 (Yd (Zd.Cell x0) 0 (IntKind.i64.wrap ((↑(List.length (Zk.Cells a0)):Int)-1))).bind fun l01In0 =>
 if l01In0=true then
 (atI (Zk.Cells a0) (Zd.Cell x0)).bind fun x1 =>
 if (↑(List.length (Zd.ZM x0)):Int)=(↑(List.length (Zh.YC x1)):Int) then
 Zt (fun v=>JA a1 v0 x0 v.1) ((0:Int),())
 else
 some (.inr Bool.false)
 else
 some (.inr Bool.false)
 else
 Zt (fun v=>JE a1 v.1) ((0:Int),())
noncomputable def Zcq (a0:Zk) (a1:Za):Option Bool :=
 Zt (fun v=>JI a0 a1 v.1) ((0:Int),())
noncomputable def c53:Ctr:=⟨[.dat (YE),.dat (Yr)],[.dat (.bool)],fun a K=>splitK a fun a0 a=>splitK a fun a1 a=>ZA (Zcq a0 a1) fun r=>K (r,()) ()⟩
noncomputable def JL (list0:List (List UInt8)) (i0:Int) (x0:List UInt8) (k0:Int):Option ((Int×Unit) ⊕ ((Int×Unit) ⊕ Bool)) :=
 if k0<i0 then
 (atI list0 k0).bind fun x1 =>
 if x1=x0 then
 some (.inr (.inr Bool.false))
 else
 some (.inl (IntKind.i64.wrap (k0+1),()))
 else
 some (.inr (.inl (IntKind.i64.wrap (i0+1),())))
noncomputable def JX (list0:List (List UInt8)) (i0:Int):Option ((Int×Unit) ⊕ Bool) :=
 if i0<(↑(List.length list0):Int) then
 (atI list0 i0).bind fun x0 =>
 (Zai x0).bind fun l03Name0 =>
 if l03Name0=true then
 Zt (fun v=>JL list0 i0 x0 v.1) ((0:Int),())
 else
 some (.inr Bool.false)
 else
 some (.inr Bool.true)
noncomputable def Zaf (list0:List (List UInt8)):Option Bool :=
 Zt (fun v=>JX list0 v.1) ((0:Int),())
noncomputable def c54:Ctr:=⟨[.dat (.sl (.str))],[.dat (.bool)],fun a K=>splitK a fun list0 a=>ZA (Zaf list0) fun r=>K (r,()) ()⟩
noncomputable def JB (l1:List Int) (v6:Int):Option ((Int×Unit) ⊕ ((Int×(List Int)×Unit) ⊕ ((Int×(List Int)×Unit) ⊕ (((List (List UInt8))×Int×Unit) ⊕ (((List (List UInt8))×Int×Unit) ⊕ Bool))))) :=
 if v6<(↑(List.length l1):Int) then
 (atI l1 v6).bind fun x0 =>
 if x0=1 then
 some (.inl (IntKind.i64.wrap (v6+1),()))
 else
 some (.inr (.inr (.inr (.inr (.inr Bool.false)))))
 else
 some (.inr (.inr (.inr (.inr (.inr Bool.true)))))
noncomputable def X9 (a1:Za) (v5:Int) (l1:List Int):Option ((Int×(List Int)×Unit) ⊕ ((Int×(List Int)×Unit) ⊕ (((List (List UInt8))×Int×Unit) ⊕ (((List (List UInt8))×Int×Unit) ⊕ Bool)))) :=
 if v5<(↑(List.length (Za.ZX a1)):Int) then
 (atI (Za.ZX a1) v5).bind fun x0 =>
 if ZL.Dir x0=1 then
 (atI l1 (ZL.Net x0)).bind fun x1 =>
 some (.inl (IntKind.i64.wrap (v5+1),List.set l1 (Int.toNat (ZL.Net x0)) (IntKind.i64.wrap (x1+1)),()))
 else
 some (.inl (IntKind.i64.wrap (v5+1),l1,()))
 else
 Zt (fun v=>JB l1 v.1) ((0:Int),())
noncomputable def X8 (a1:Za) (v4:Int) (l0:List Int):Option ((Int×(List Int)×Unit) ⊕ (((List (List UInt8))×Int×Unit) ⊕ (((List (List UInt8))×Int×Unit) ⊕ Bool))) :=
 if v4<(↑(List.length (Za.Instances a1)):Int) then
 (atI (Za.Instances a1) v4).bind fun x0 =>
 (atI (Zd.ZM x0) (IntKind.i64.wrap ((↑(List.length (Zd.ZM x0)):Int)-1))).bind fun x1 =>
 (atI l0 x1).bind fun x2 =>
 some (.inl (IntKind.i64.wrap (v4+1),List.set l0 (Int.toNat x1) (IntKind.i64.wrap (x2+1)),()))
 else
 Zt (fun v=>X9 a1 v.1 v.2.1) ((0:Int),l0,())
noncomputable def JV (a1:Za) (v0:List (List UInt8)) (v2:List (List UInt8)) (v3:Int):Option (((List (List UInt8))×Int×Unit) ⊕ (((List (List UInt8))×Int×Unit) ⊕ Bool)) :=
 if v3<(↑(List.length (Za.ZX a1)):Int) then
 (atI (Za.ZX a1) v3).bind fun x0 =>
 Zx ((List.length v2+List.length [ZL.Name x0])*(16:Nat)≤(140737488355328:Nat)) <|
 some (.inl (v2++[ZL.Name x0],IntKind.i64.wrap (v3+(1:Int)),()))
 else
 (Zaf v0).bind fun l05Names0 =>
 if l05Names0=true then
 (Zaf v2).bind fun l05Names1 =>
 if l05Names1=true then
 (Zaf (Za.ZM a1)).bind fun l05Names2 =>
 if l05Names2=true then
 Zx ((0:Int)≤(↑(List.length (Za.ZM a1)):Int)) <|
 Zx ((↑(List.length (Za.ZM a1)):Int)≤(↑(List.length (Za.ZM a1)):Int)) <|
 Zx ((↑(List.length (Za.ZM a1)):Int)≤(4611686018427387904:Int)) <|
 Zx ((↑(8:Nat):Int)*(↑(List.length (Za.ZM a1)):Int)≤(281474976710656:Int)) <|
 Zt (fun v=>X8 a1 v.1 v.2.1) ((0:Int),List.replicate (Int.toNat (↑(List.length (Za.ZM a1)):Int)) (0:Int),())
 else
 some (.inr (.inr Bool.false))
 else
 some (.inr (.inr Bool.false))
 else
 some (.inr (.inr Bool.false))
noncomputable def JW (a1:Za) (v0:List (List UInt8)) (v1:Int):Option (((List (List UInt8))×Int×Unit) ⊕ Bool) :=
 if v1<(↑(List.length (Za.Instances a1)):Int) then
 (atI (Za.Instances a1) v1).bind fun x0 =>
 Zx ((List.length v0+List.length [Zd.Name x0])*(16:Nat)≤(140737488355328:Nat)) <|
 some (.inl (v0++[Zd.Name x0],IntKind.i64.wrap (v1+(1:Int)),()))
 else
 Zt (fun v=>JV a1 v0 v.1 v.2.1) (([]:List (List UInt8)),(0:Int),())
noncomputable def Zcd (a0:Zk) (a1:Za):Option Bool :=
 (Zbw a0).bind fun IsLibrary0 =>
 if IsLibrary0=true then
 if 14<(↑(List.length (Za.Instances a1)):Int) then
 some Bool.false
 else
 if 30<(↑(List.length (Za.ZM a1)):Int) then
 some Bool.false
 else
 if 8<(↑(List.length (Za.ZX a1)):Int) then
 some Bool.false
 else
 (Zcq a0 a1).bind fun l05Parts0 =>
 if l05Parts0=true then
 Zt (fun v=>JW a1 v.1 v.2.1) (([]:List (List UInt8)),(0:Int),())
 else
 some Bool.false
 else
 some Bool.false
noncomputable def c55:Ctr:=⟨[.dat (YE),.dat (Yr)],[.dat (.bool)],fun a K=>splitK a fun a0 a=>splitK a fun a1 a=>ZA (Zcd a0 a1) fun r=>K (r,()) ()⟩
noncomputable def VY (v1:Int) (x0:Zd) (v2:List Z4) (v3:Int):Option (((List Z4)×Int×Unit) ⊕ (((List Z4)×Int×Unit) ⊕ List Z4)) :=
 if v3<(↑(List.length (Zd.ZM x0)):Int) then
 (atI (Zd.ZM x0) v3).bind fun x1 =>
 Zx ((List.length v2+List.length [(v1,v3,x1,Decidable.decide (v3=IntKind.i64.wrap ((↑(List.length (Zd.ZM x0)):Int)-(1:Int))),())])*(32:Nat)≤(140737488355328:Nat)) <|
 some (.inl (v2++[(v1,v3,x1,Decidable.decide (v3=IntKind.i64.wrap ((↑(List.length (Zd.ZM x0)):Int)-(1:Int))),())],IntKind.i64.wrap (v3+(1:Int)),()))
 else
 some (.inr (.inl (v2,IntKind.i64.wrap (v1+1),())))
noncomputable def VR (a0:Za) (v2:List Z4) (v3:Int):Option (((List Z4)×Int×Unit) ⊕ (((List Z4)×Int×Unit) ⊕ List Z4)) :=
 if v3<(↑(List.length (Za.ZX a0)):Int) then
 (atI (Za.ZX a0) v3).bind fun x0 =>
 Zx ((List.length v2+List.length [((-1:Int),v3,ZL.Net x0,Decidable.decide (ZL.Dir x0=(1:Int)),())])*(32:Nat)≤(140737488355328:Nat)) <|
 some (.inl (v2++[((-1:Int),v3,ZL.Net x0,Decidable.decide (ZL.Dir x0=(1:Int)),())],IntKind.i64.wrap (v3+(1:Int)),()))
 else
 some (.inr (.inr v2))
noncomputable def VQ (a0:Za) (v0:List Z4) (v1:Int):Option (((List Z4)×Int×Unit) ⊕ List Z4) :=
 if v1<(↑(List.length (Za.Instances a0)):Int) then
 (atI (Za.Instances a0) v1).bind fun x0 =>
 Zt (fun v=>VY v1 x0 v.1 v.2.1) (v0,(0:Int),())
 else
 Zt (fun v=>VR a0 v.1 v.2.1) (v0,(0:Int),())
noncomputable def Y9 (a0:Za):Option (List Z4) :=
 Zt (fun v=>VQ a0 v.1 v.2.1) (([]:List (Int×Int×Int×Bool×Unit)),(0:Int),())
noncomputable def c56:Ctr:=⟨[.dat (Yr)],[.own (.ol 126 (.flat (Zfr)))],fun a K=>splitK a fun a0 a=>ZA (Y9 a0) fun r=>K (r,()) ()⟩
noncomputable def JY (net0:Int) (l05Places0:List Z4) (out0:List Int) (i0:Int):Option (((List Int)×Int×Unit) ⊕ List Int) :=
 if i0<(↑(List.length l05Places0):Int) then
 (atI l05Places0 i0).bind fun x0 =>
 if Z4.net x0=net0 then
 if (Z4.drives x0)=true then
 some (.inl (out0,IntKind.i64.wrap (i0+1),()))
 else
 Zx ((List.length out0+List.length [i0])*(8:Nat)≤(140737488355328:Nat)) <|
 some (.inl (out0++[i0],IntKind.i64.wrap (i0+(1:Int)),()))
 else
 some (.inl (out0,IntKind.i64.wrap (i0+1),()))
 else
 some (.inr out0)
noncomputable def Xw (d0:Za) (net0:Int):Option (List Int) :=
 (Y9 d0).bind fun l05Places0 =>
 Zt (fun v=>JY net0 l05Places0 v.1 v.2.1) (([]:List Int),(0:Int),())
noncomputable def c57:Ctr:=⟨[.dat (Yr),.dat (.int .i64)],[.own (.ol 2 (.flat (.int .i64)))],fun a K=>splitK a fun d0 a=>splitK a fun net0 a=>ZA (Xw d0 net0) fun r=>K (r,()) ()⟩
noncomputable def ZaB (a0:Zn) (v1:Int):Option ((Int×Unit) ⊕ ((Int×Unit) ⊕ Bool)) :=
 if v1<(↑(List.length (Zn.Zfx a0)):Int) then
 (atI (Zn.Zfx a0) v1).bind fun x0 =>
 (Yd x0 0 (IntKind.i64.wrap ((↑(List.length (Zn.Parent a0)):Int)-1))).bind fun l01In0 =>
 if l01In0=true then
 some (.inl (IntKind.i64.wrap (v1+1),()))
 else
 some (.inr (.inr Bool.false))
 else
 some (.inr (.inr Bool.true))
noncomputable def ZaM (a0:Zn) (v0:Int):Option ((Int×Unit) ⊕ Bool) :=
 if v0<(↑(List.length (Zn.Parent a0)):Int) then
 (atI (Zn.Cap a0) v0).bind fun x0 =>
 (Yd x0 0 500).bind fun l01In0 =>
 if l01In0=true then
 (atI (Zn.Res a0) v0).bind fun x1 =>
 (Yd x1 0 1000).bind fun l01In1 =>
 if l01In1=true then
 if v0=0 then
 (atI (Zn.Parent a0) v0).bind fun x2 =>
 if x2=(-1) then
 if x1=0 then
 if 0<v0 then
 (Yd x2 0 (IntKind.i64.wrap (v0-1))).bind fun l01In2 =>
 if l01In2=true then
 some (.inl (IntKind.i64.wrap (v0+1),()))
 else
 some (.inr Bool.false)
 else
 some (.inl (IntKind.i64.wrap (v0+1),()))
 else
 some (.inr Bool.false)
 else
 some (.inr Bool.false)
 else
 if 0<v0 then
 (atI (Zn.Parent a0) v0).bind fun x2 =>
 (Yd x2 0 (IntKind.i64.wrap (v0-1))).bind fun l01In2 =>
 if l01In2=true then
 some (.inl (IntKind.i64.wrap (v0+1),()))
 else
 some (.inr Bool.false)
 else
 some (.inl (IntKind.i64.wrap (v0+1),()))
 else
 some (.inr Bool.false)
 else
 some (.inr Bool.false)
 else
 Zt (fun v=>ZaB a0 v.1) ((0:Int),())
noncomputable def ZcS (a0:Zn) (a1:Int):Option Bool :=
 if (↑(List.length (Zn.Parent a0)):Int)<1 then
 some Bool.false
 else
 if 8<(↑(List.length (Zn.Parent a0)):Int) then
 some Bool.false
 else
 if (↑(List.length (Zn.Res a0)):Int)=(↑(List.length (Zn.Parent a0)):Int) then
 if (↑(List.length (Zn.Cap a0)):Int)=(↑(List.length (Zn.Parent a0)):Int) then
 if (↑(List.length (Zn.Zfx a0)):Int)=a1 then
 Zt (fun v=>ZaM a0 v.1) ((0:Int),())
 else
 some Bool.false
 else
 some Bool.false
 else
 some Bool.false
noncomputable def c58:Ctr:=⟨[.dat (XR),.dat (.int .i64)],[.dat (.bool)],fun a K=>splitK a fun a0 a=>splitK a fun a1 a=>ZA (ZcS a0 a1) fun r=>K (r,()) ()⟩
noncomputable def Zaj (b0:Zb) (net0:Int):Option ((Int×Unit) ⊕ Bool) :=
 if net0<(↑(List.length (Zb.Zw b0)):Int) then
 (atI (Zb.Zw b0) net0).bind fun x0 =>
 (Xw (Zb.Design b0) net0).bind fun l05Sinks0 =>
 (ZcS x0 (↑(List.length l05Sinks0):Int)).bind fun IsWire0 =>
 if IsWire0=true then
 some (.inl (IntKind.i64.wrap (net0+1),()))
 else
 some (.inr Bool.false)
 else
 some (.inr Bool.true)
noncomputable def ZbM (b0:Zb):Option Bool :=
 (Zcd (Zb.Library b0) (Zb.Design b0)).bind fun IsDesign0 =>
 if IsDesign0=true then
 if (↑(List.length (Zb.Zw b0)):Int)=(↑(List.length (Za.ZM (Zb.Design b0))):Int) then
 Zt (fun v=>Zaj b0 v.1) ((0:Int),())
 else
 some Bool.false
 else
 some Bool.false
noncomputable def c59:Ctr:=⟨[.dat (YL)],[.dat (.bool)],fun a K=>splitK a fun b0 a=>ZA (ZbM b0) fun r=>K (r,()) ()⟩
noncomputable def Xc (list0:List Int):Option (List Int) :=
 Zx ((List.length (([]:List Int))+List.length list0)*(8:Nat)≤(140737488355328:Nat)) <|
 some (([]:List Int)++list0)
noncomputable def c60:Ctr:=⟨[.dat (.sl (.int .i64))],[.own (.ol 2 (.flat (.int .i64)))],fun a K=>splitK a fun list0 a=>ZA (Xc list0) fun r=>K (r,()) ()⟩
noncomputable def Zee (t0:Zv):Option Zv :=
 (Xc (Zv.ZfN t0)).bind fun l02Ints0 =>
 (Xc (Zv.Loads t0)).bind fun l02Ints1 =>
 (Xc (Zv.Values t0)).bind fun l02Ints2 =>
 some (l02Ints0,l02Ints1,l02Ints2,())
noncomputable def c61:Ctr:=⟨[.dat (YP)],[.own (ZeJ)],fun a K=>splitK a fun t0 a=>ZA (Zee t0) fun r=>K (r,()) ()⟩
noncomputable def Xu (list0:List Zv) (out0:List Zv) (i0:Int):Option (((List Zv)×Int×Unit) ⊕ List Zv) :=
 if i0<(↑(List.length list0):Int) then
 (atI list0 i0).bind fun x0 =>
 (Zee x0).bind fun l02Own0 =>
 Zx ((List.length out0+List.length [l02Own0])*(72:Nat)≤(140737488355328:Nat)) <|
 some (.inl (out0++[l02Own0],IntKind.i64.wrap (i0+(1:Int)),()))
 else
 some (.inr out0)
noncomputable def Ve (list0:List Zv):Option (List Zv) :=
 Zt (fun v=>Xu list0 v.1 v.2.1) (([]:List Zv),(0:Int),())
noncomputable def c62:Ctr:=⟨[.dat (.sl (YP))],[.own (.ol 263 (ZeJ))],fun a K=>splitK a fun list0 a=>ZA (Ve list0) fun r=>K (r,()) ()⟩
noncomputable def Jq (c0:Zh) (l02Ints0:List Int) (i0:Int) (c1:List ZT):Option ((Int×(List ZT)×Unit) ⊕ Zh) :=
 if i0<(↑(List.length (Zh.Za7 c0)):Int) then
 (atI (Zh.Za7 c0) i0).bind fun x0 =>
 (Ve (ZT.Delay x0)).bind fun l03OwnTables0 =>
 (Ve (ZT.Zih x0)).bind fun l03OwnTables1 =>
 Zx ((List.length c1+List.length [(ZT.Kind x0,ZT.From x0,ZT.To x0,ZT.ZcB x0,l03OwnTables0,l03OwnTables1,())])*(80:Nat)≤(140737488355328:Nat)) <|
 some (.inl (IntKind.i64.wrap (i0+(1:Int)),c1++[(ZT.Kind x0,ZT.From x0,ZT.To x0,ZT.ZcB x0,l03OwnTables0,l03OwnTables1,())],()))
 else
 some (.inr (Zh.Name c0,Zh.Kind c0,([]:List (List UInt8×Int×Int×Bool×Unit))++Zh.YC c0,c1,l02Ints0,c0.snd.snd.snd.snd.snd))
noncomputable def Zd6 (c0:Zh):Option Zh :=
 Zx ((List.length (([]:List (List UInt8×Int×Int×Bool×Unit)))+List.length (Zh.YC c0))*(40:Nat)≤(140737488355328:Nat)) <|
 (Xc (Zh.Truth c0)).bind fun l02Ints0 =>
 Zt (fun v=>Jq c0 l02Ints0 v.1 v.2.1) ((0:Int),([]:List ZT),())
noncomputable def c63:Ctr:=⟨[.dat (XY)],[.own (Zjc)],fun a K=>splitK a fun c0 a=>ZA (Zd6 c0) fun r=>K (r,()) ()⟩
noncomputable def Xm (l0:Zk) (i0:Int) (c0:List Zh):Option ((Int×(List Zh)×Unit) ⊕ Zk) :=
 if i0<(↑(List.length (Zk.Cells l0)):Int) then
 (atI (Zk.Cells l0) i0).bind fun x0 =>
 (Zd6 x0).bind fun l03Own0 =>
 Zx ((List.length c0+List.length [l03Own0])*(112:Nat)≤(140737488355328:Nat)) <|
 some (.inl (IntKind.i64.wrap (i0+(1:Int)),c0++[l03Own0],()))
 else
 some (.inr (c0,()))
noncomputable def VF (l0:Zk):Option Zk :=
 Zt (fun v=>Xm l0 v.1 v.2.1) ((0:Int),([]:List Zh),())
noncomputable def c64:Ctr:=⟨[.dat (YE)],[.own (ZjJ)],fun a K=>splitK a fun l0 a=>ZA (VF l0) fun r=>K (r,()) ()⟩
noncomputable def Ji (d0:Za) (i0:Int) (c0:List Zd):Option ((Int×(List Zd)×Unit) ⊕ Za) :=
 if i0<(↑(List.length (Za.Instances d0)):Int) then
 (atI (Za.Instances d0) i0).bind fun x0 =>
 (Xc (Zd.ZM x0)).bind fun l02Ints0 =>
 Zx ((List.length c0+List.length [(Zd.Name x0,Zd.Cell x0,l02Ints0,())])*(48:Nat)≤(140737488355328:Nat)) <|
 some (.inl (IntKind.i64.wrap (i0+(1:Int)),c0++[(Zd.Name x0,Zd.Cell x0,l02Ints0,())],()))
 else
 some (.inr (c0,([]:List (List UInt8))++Za.ZM d0,([]:List (List UInt8×Int×Int×Unit))++Za.ZX d0,()))
noncomputable def Zd5 (d0:Za):Option Za :=
 Zx ((List.length (([]:List (List UInt8)))+List.length (Za.ZM d0))*(16:Nat)≤(140737488355328:Nat)) <|
 Zx ((List.length (([]:List (List UInt8×Int×Int×Unit)))+List.length (Za.ZX d0))*(32:Nat)≤(140737488355328:Nat)) <|
 Zt (fun v=>Ji d0 v.1 v.2.1) ((0:Int),([]:List Zd),())
noncomputable def c65:Ctr:=⟨[.dat (Yr)],[.own (Zky)],fun a K=>splitK a fun d0 a=>ZA (Zd5 d0) fun r=>K (r,()) ()⟩
noncomputable def Vq (w0:Zn):Option Zn :=
 (Xc (Zn.Parent w0)).bind fun l02Ints0 =>
 (Xc (Zn.Res w0)).bind fun l02Ints1 =>
 (Xc (Zn.Cap w0)).bind fun l02Ints2 =>
 (Xc (Zn.Zfx w0)).bind fun l02Ints3 =>
 some (l02Ints0,l02Ints1,l02Ints2,l02Ints3,())
noncomputable def c66:Ctr:=⟨[.dat (XR)],[.own (Zha)],fun a K=>splitK a fun w0 a=>ZA (Vq w0) fun r=>K (r,()) ()⟩
noncomputable def Jm (b0:Zb) (l03OwnLibrary0:Zk) (l05Own0:Za) (i0:Int) (c0:List Zn):Option ((Int×(List Zn)×Unit) ⊕ Zb) :=
 if i0<(↑(List.length (Zb.Zw b0)):Int) then
 (atI (Zb.Zw b0) i0).bind fun x0 =>
 (Vq x0).bind fun l07OwnWire0 =>
 Zx ((List.length c0+List.length [l07OwnWire0])*(96:Nat)≤(140737488355328:Nat)) <|
 some (.inl (IntKind.i64.wrap (i0+(1:Int)),c0++[l07OwnWire0],()))
 else
 some (.inr (l03OwnLibrary0,l05Own0,c0,()))
noncomputable def ZcL (b0:Zb):Option Zb :=
 (VF (Zb.Library b0)).bind fun l03OwnLibrary0 =>
 (Zd5 (Zb.Design b0)).bind fun l05Own0 =>
 Zt (fun v=>Jm b0 l03OwnLibrary0 l05Own0 v.1 v.2.1) ((0:Int),([]:List Zn),())
noncomputable def c67:Ctr:=⟨[.dat (YL)],[.own (Zdv)],fun a K=>splitK a fun b0 a=>ZA (ZcL b0) fun r=>K (r,()) ()⟩
noncomputable def Zb5 (a0:Zf):Option Bool :=
 if Zf.Kind a0=1 then
 if Zf.Net a0=0 then
 if Zf.Node a0=0 then
 if Zf.Name a0=([]:List UInt8) then
 some (Decidable.decide (IntKind.i64.wrap (IntKind.i64.wrap (IntKind.i64.wrap ((↑(List.length (Zn.Parent (Zf.Zdl a0))):Int)+(↑(List.length (Zn.Res (Zf.Zdl a0))):Int))+(↑(List.length (Zn.Cap (Zf.Zdl a0))):Int))+(↑(List.length (Zn.Zfx (Zf.Zdl a0))):Int))=0))
 else
 some Bool.false
 else
 some Bool.false
 else
 some Bool.false
 else
 if Zf.Kind a0=2 then
 if Zf.Net a0=0 then
 if Zf.Node a0=0 then
 some (Decidable.decide (IntKind.i64.wrap (IntKind.i64.wrap (IntKind.i64.wrap ((↑(List.length (Zn.Parent (Zf.Zdl a0))):Int)+(↑(List.length (Zn.Res (Zf.Zdl a0))):Int))+(↑(List.length (Zn.Cap (Zf.Zdl a0))):Int))+(↑(List.length (Zn.Zfx (Zf.Zdl a0))):Int))=0))
 else
 some Bool.false
 else
 some Bool.false
 else
 if Zf.Kind a0=3 then
 if Zf.Place a0=0 then
 if Zf.Cell a0=0 then
 if Zf.Net a0=0 then
 if Zf.Node a0=0 then
 if Zf.Name a0=([]:List UInt8) then
 some (Decidable.decide (IntKind.i64.wrap (IntKind.i64.wrap (IntKind.i64.wrap ((↑(List.length (Zn.Parent (Zf.Zdl a0))):Int)+(↑(List.length (Zn.Res (Zf.Zdl a0))):Int))+(↑(List.length (Zn.Cap (Zf.Zdl a0))):Int))+(↑(List.length (Zn.Zfx (Zf.Zdl a0))):Int))=0))
 else
 some Bool.false
 else
 some Bool.false
 else
 some Bool.false
 else
 some Bool.false
 else
 some Bool.false
 else
 if Zf.Kind a0=4 then
 if Zf.Cell a0=0 then
 if Zf.Name a0=([]:List UInt8) then
 some (Decidable.decide (IntKind.i64.wrap (IntKind.i64.wrap (IntKind.i64.wrap ((↑(List.length (Zn.Parent (Zf.Zdl a0))):Int)+(↑(List.length (Zn.Res (Zf.Zdl a0))):Int))+(↑(List.length (Zn.Cap (Zf.Zdl a0))):Int))+(↑(List.length (Zn.Zfx (Zf.Zdl a0))):Int))=0))
 else
 some Bool.false
 else
 some Bool.false
 else
 if Zf.Kind a0=5 then
 if Zf.Place a0=0 then
 if Zf.Cell a0=0 then
 if Zf.Node a0=0 then
 some (Decidable.decide (Zf.Name a0=([]:List UInt8)))
 else
 some Bool.false
 else
 some Bool.false
 else
 some Bool.false
 else
 some Bool.false
noncomputable def c68:Ctr:=⟨[.dat (Ym)],[.dat (.bool)],fun a K=>splitK a fun a0 a=>ZA (Zb5 a0) fun r=>K (r,()) ()⟩
noncomputable def Zct (a0:Zb) (a1:Zf):Option Bool :=
 (Y9 (Zb.Design a0)).bind fun l05Places0 =>
 if Zf.Kind a1=1 then
 if Zf.Kind a1=1 then
 (Yd (Zf.Place a1) 0 (IntKind.i64.wrap ((↑(List.length l05Places0):Int)-1))).bind fun l01In0 =>
 if l01In0=true then
 (Yd (Zf.Cell a1) 0 (IntKind.i64.wrap ((↑(List.length (Zk.Cells (Zb.Library a0))):Int)-1))).bind fun l01In1 =>
 some l01In1
 else
 some Bool.false
 else
 if Zf.Kind a1=4 then
 (Yd (Zf.Place a1) 0 (IntKind.i64.wrap ((↑(List.length l05Places0):Int)-1))).bind fun l01In0 =>
 if l01In0=true then
 (Yd (Zf.Net a1) 0 (IntKind.i64.wrap ((↑(List.length (Zb.Zw a0)):Int)-1))).bind fun l01In1 =>
 if l01In1=true then
 (atI (Zb.Zw a0) (Zf.Net a1)).bind fun x0 =>
 (Yd (Zf.Node a1) 0 (IntKind.i64.wrap ((↑(List.length (Zn.Parent x0)):Int)-1))).bind fun l01In2 =>
 some l01In2
 else
 some Bool.false
 else
 some Bool.false
 else
 if Zf.Kind a1=5 then
 (Yd (Zf.Net a1) 0 (IntKind.i64.wrap ((↑(List.length (Zb.Zw a0)):Int)-1))).bind fun l01In0 =>
 some l01In0
 else
 some Bool.true
 else
 if Zf.Kind a1=2 then
 (Yd (Zf.Place a1) 0 (IntKind.i64.wrap ((↑(List.length l05Places0):Int)-1))).bind fun l01In0 =>
 if l01In0=true then
 (Yd (Zf.Cell a1) 0 (IntKind.i64.wrap ((↑(List.length (Zk.Cells (Zb.Library a0))):Int)-1))).bind fun l01In1 =>
 some l01In1
 else
 some Bool.false
 else
 if Zf.Kind a1=4 then
 (Yd (Zf.Place a1) 0 (IntKind.i64.wrap ((↑(List.length l05Places0):Int)-1))).bind fun l01In0 =>
 if l01In0=true then
 (Yd (Zf.Net a1) 0 (IntKind.i64.wrap ((↑(List.length (Zb.Zw a0)):Int)-1))).bind fun l01In1 =>
 if l01In1=true then
 (atI (Zb.Zw a0) (Zf.Net a1)).bind fun x0 =>
 (Yd (Zf.Node a1) 0 (IntKind.i64.wrap ((↑(List.length (Zn.Parent x0)):Int)-1))).bind fun l01In2 =>
 some l01In2
 else
 some Bool.false
 else
 some Bool.false
 else
 if Zf.Kind a1=5 then
 (Yd (Zf.Net a1) 0 (IntKind.i64.wrap ((↑(List.length (Zb.Zw a0)):Int)-1))).bind fun l01In0 =>
 some l01In0
 else
 some Bool.true
noncomputable def c69:Ctr:=⟨[.dat (YL),.dat (Ym)],[.dat (.bool)],fun a K=>splitK a fun a0 a=>splitK a fun a1 a=>ZA (Zct a0 a1) fun r=>K (r,()) ()⟩
noncomputable def Q8 (a0:Zh) (b0:Zh) (i0:Int):Option ((Int×Unit) ⊕ Bool) :=
 if i0<(↑(List.length (Zh.YC a0)):Int) then
 (atI (Zh.YC a0) i0).bind fun x0 =>
 (atI (Zh.YC b0) i0).bind fun x1 =>
 if (YB.Clock x0 == YB.Clock x1)=true then
 some (.inl (IntKind.i64.wrap (i0+1),()))
 else
 some (.inr Bool.false)
 else
 some (.inr Bool.true)
noncomputable def Vo (a0:Zh) (b0:Zh):Option Bool :=
 if Zh.Kind a0=Zh.Kind b0 then
 if (↑(List.length (Zh.YC a0)):Int)=(↑(List.length (Zh.YC b0)):Int) then
 Zt (fun v=>Q8 a0 b0 v.1) ((0:Int),())
 else
 some Bool.false
 else
 some Bool.false
noncomputable def c70:Ctr:=⟨[.dat (XY),.dat (XY)],[.dat (.bool)],fun a K=>splitK a fun a0 a=>splitK a fun b0 a=>ZA (Vo a0 b0) fun r=>K (r,()) ()⟩
noncomputable def Zau (c0:Zh):Option Bool :=
 if Zh.Kind c0=1 then
 some (Decidable.decide ((↑(List.length (Zh.YC c0)):Int)=2))
 else
 some Bool.false
noncomputable def c71:Ctr:=⟨[.dat (XY)],[.dat (.bool)],fun a K=>splitK a fun c0 a=>ZA (Zau c0) fun r=>K (r,()) ()⟩
noncomputable def Qj (d0:Za) (name0:List UInt8) (i0:Int):Option ((Int×Unit) ⊕ Int) :=
 if i0<(↑(List.length (Za.Instances d0)):Int) then
 (atI (Za.Instances d0) i0).bind fun x0 =>
 if Zd.Name x0=name0 then
 some (.inr i0)
 else
 some (.inl (IntKind.i64.wrap (i0+1),()))
 else
 some (.inr (-1))
noncomputable def VA (d0:Za) (name0:List UInt8):Option Int :=
 Zt (fun v=>Qj d0 name0 v.1) ((0:Int),())
noncomputable def c72:Ctr:=⟨[.dat (Yr),.dat (.str)],[.dat (.int .i64)],fun a K=>splitK a fun d0 a=>splitK a fun name0 a=>ZA (VA d0 name0) fun r=>K (r,()) ()⟩
noncomputable def JM (list0:List (List UInt8)) (word0:List UInt8) (i0:Int):Option ((Int×Unit) ⊕ Int) :=
 if i0<(↑(List.length list0):Int) then
 (atI list0 i0).bind fun x0 =>
 if x0=word0 then
 some (.inr i0)
 else
 some (.inl (IntKind.i64.wrap (i0+1),()))
 else
 some (.inr (-1))
noncomputable def Zdn (list0:List (List UInt8)) (word0:List UInt8):Option Int :=
 Zt (fun v=>JM list0 word0 v.1) ((0:Int),())
noncomputable def c73:Ctr:=⟨[.dat (.sl (.str)),.dat (.str)],[.dat (.int .i64)],fun a K=>splitK a fun list0 a=>splitK a fun word0 a=>ZA (Zdn list0 word0) fun r=>K (r,()) ()⟩
noncomputable def Zcr (d0:Za) (name0:List UInt8):Option Int :=
 (Zdn (Za.ZM d0) name0).bind fun l04Index0 =>
 some l04Index0
noncomputable def c74:Ctr:=⟨[.dat (Yr),.dat (.str)],[.dat (.int .i64)],fun a K=>splitK a fun d0 a=>splitK a fun name0 a=>ZA (Zcr d0 name0) fun r=>K (r,()) ()⟩
noncomputable def ZeH (w0:Zn):Option Bool :=
 if (↑(List.length (Zn.Parent w0)):Int)=1 then
 (atI (Zn.Cap w0) 0).bind fun x0 =>
 some (Decidable.decide (x0=0))
 else
 some Bool.false
noncomputable def c75:Ctr:=⟨[.dat (XR)],[.dat (.bool)],fun a K=>splitK a fun w0 a=>ZA (ZeH w0) fun r=>K (r,()) ()⟩
noncomputable def Zc3 (a0:Zb):Option Bool :=
 if IntKind.i64.wrap ((↑(List.length (Za.Instances (Zb.Design a0))):Int)-1)<0 then
 some Bool.false
 else
 (atI (Za.Instances (Zb.Design a0)) (IntKind.i64.wrap ((↑(List.length (Za.Instances (Zb.Design a0))):Int)-1))).bind fun x0 =>
 (atI (Zk.Cells (Zb.Library a0)) (Zd.Cell x0)).bind fun x1 =>
 (Zau x1).bind fun l08Buffer0 =>
 if l08Buffer0=true then
 (atI (Zd.ZM x0) 1).bind fun x2 =>
 if x2=IntKind.i64.wrap ((↑(List.length (Zb.Zw a0)):Int)-1) then
 (atI (Za.ZM (Zb.Design a0)) (IntKind.i64.wrap ((↑(List.length (Zb.Zw a0)):Int)-1))).bind fun x3 =>
 if x3=Zd.Name x0 then
 (atI (Zd.ZM x0) 0).bind fun x4 =>
 if x4=IntKind.i64.wrap ((↑(List.length (Zb.Zw a0)):Int)-1) then
 some Bool.false
 else
 (Xw (Zb.Design a0) (IntKind.i64.wrap ((↑(List.length (Zb.Zw a0)):Int)-1))).bind fun l05Sinks0 =>
 if (↑(List.length l05Sinks0):Int)=1 then
 (atI (Zb.Zw a0) (IntKind.i64.wrap ((↑(List.length (Zb.Zw a0)):Int)-1))).bind fun x5 =>
 (ZeH x5).bind fun l08Bare0 =>
 some l08Bare0
 else
 some Bool.false
 else
 some Bool.false
 else
 some Bool.false
 else
 some Bool.false
noncomputable def c76:Ctr:=⟨[.dat (YL)],[.dat (.bool)],fun a K=>splitK a fun a0 a=>ZA (Zc3 a0) fun r=>K (r,()) ()⟩
noncomputable def Zca (a0:Zb) (a1:Zf):Option Bool :=
 (Y9 (Zb.Design a0)).bind fun l05Places0 =>
 if Zf.Kind a1=1 then
 (atI l05Places0 (Zf.Place a1)).bind fun x0 =>
 if 0≤Z4.instance x0 then
 if (Z4.drives x0)=true then
 (atI (Za.Instances (Zb.Design a0)) (Z4.instance x0)).bind fun x1 =>
 (atI (Zk.Cells (Zb.Library a0)) (Zd.Cell x1)).bind fun x2 =>
 (atI (Zk.Cells (Zb.Library a0)) (Zf.Cell a1)).bind fun x3 =>
 (Vo x2 x3).bind fun l08Alike0 =>
 some l08Alike0
 else
 some Bool.false
 else
 some Bool.false
 else
 if Zf.Kind a1=2 then
 (atI l05Places0 (Zf.Place a1)).bind fun x0 =>
 if (Z4.drives x0)=true then
 some Bool.false
 else
 (atI (Zk.Cells (Zb.Library a0)) (Zf.Cell a1)).bind fun x1 =>
 (Zau x1).bind fun l08Buffer0 =>
 if l08Buffer0=true then
 (Zai (Zf.Name a1)).bind fun l03Name0 =>
 if l03Name0=true then
 (VA (Zb.Design a0) (Zf.Name a1)).bind fun InstanceNamed0 =>
 if InstanceNamed0<0 then
 (Zcr (Zb.Design a0) (Zf.Name a1)).bind fun NetNamed0 =>
 some (Decidable.decide (NetNamed0<0))
 else
 some Bool.false
 else
 some Bool.false
 else
 some Bool.false
 else
 if Zf.Kind a1=3 then
 (Zc3 a0).bind fun l08Last0 =>
 some l08Last0
 else
 if Zf.Kind a1=4 then
 (atI l05Places0 (Zf.Place a1)).bind fun x0 =>
 if (Z4.drives x0)=true then
 some Bool.false
 else
 some (!Decidable.decide (Z4.net x0=Zf.Net a1))
 else
 (Xw (Zb.Design a0) (Zf.Net a1)).bind fun l05Sinks0 =>
 (ZcS (Zf.Zdl a1) (↑(List.length l05Sinks0):Int)).bind fun IsWire0 =>
 some IsWire0
noncomputable def c77:Ctr:=⟨[.dat (YL),.dat (Ym)],[.dat (.bool)],fun a K=>splitK a fun a0 a=>splitK a fun a1 a=>ZA (Zca a0 a1) fun r=>K (r,()) ()⟩
noncomputable def Zcg (b0:Zb) (e0:Zf):Option Int :=
 (ZbM b0).bind fun IsBlock0 =>
 if IsBlock0=true then
 (Zb5 e0).bind fun l08Blank0 =>
 if l08Blank0=true then
 (Zct b0 e0).bind fun l08Range0 =>
 if l08Range0=true then
 (Zca b0 e0).bind fun l08State0 =>
 if l08State0=true then
 if Zf.Kind e0=2 then
 if (↑(List.length (Za.Instances (Zb.Design b0))):Int)=14 then
 some 3
 else
 if (↑(List.length (Zb.Zw b0)):Int)=30 then
 some 3
 else
 some 0
 else
 some 0
 else
 some 5
 else
 some 2
 else
 some 2
 else
 some 1
noncomputable def c78:Ctr:=⟨[.dat (YL),.dat (Ym)],[.dat (.int .i64)],fun a K=>splitK a fun b0 a=>splitK a fun e0 a=>ZA (Zcg b0 e0) fun r=>K (r,()) ()⟩
noncomputable def JG (b0:Zb) (net0:Int) (l05Sinks0:List Int) (i0:Int) (l1:List Int):Option ((Int×(List Int)×Unit) ⊕ ((Int×(List Int)×Unit) ⊕ List Int)) :=
 if i0<(↑(List.length l05Sinks0):Int) then
 (atI l05Sinks0 i0).bind fun x0 =>
 (atI (Zb.Zw b0) net0).bind fun x1 =>
 (atI (Zn.Zfx x1) i0).bind fun x2 =>
 (atI l1 x0).bind fun x3 =>
 some (.inl (IntKind.i64.wrap (i0+1),List.set l1 (Int.toNat x0) x2,()))
 else
 some (.inr (.inl (IntKind.i64.wrap (net0+1),l1,())))
noncomputable def JD (b0:Zb) (net0:Int) (l0:List Int):Option ((Int×(List Int)×Unit) ⊕ List Int) :=
 if net0<(↑(List.length (Zb.Zw b0)):Int) then
 (Xw (Zb.Design b0) net0).bind fun l05Sinks0 =>
 Zt (fun v=>JG b0 net0 l05Sinks0 v.1 v.2.1) ((0:Int),l0,())
 else
 some (.inr l0)
noncomputable def V6 (b0:Zb):Option (List Int) :=
 (Y9 (Zb.Design b0)).bind fun l05Places0 =>
 Zx ((0:Int)≤(↑(List.length l05Places0):Int)) <|
 Zx ((↑(List.length l05Places0):Int)≤(↑(List.length l05Places0):Int)) <|
 Zx ((↑(List.length l05Places0):Int)≤(4611686018427387904:Int)) <|
 Zx ((↑(8:Nat):Int)*(↑(List.length l05Places0):Int)≤(281474976710656:Int)) <|
 Zt (fun v=>JD b0 v.1 v.2.1) ((0:Int),List.replicate (Int.toNat (↑(List.length l05Places0):Int)) (0:Int),())
noncomputable def c79:Ctr:=⟨[.dat (YL)],[.own (.ol 2 (.flat (.int .i64)))],fun a K=>splitK a fun b0 a=>ZA (V6 b0) fun r=>K (r,()) ()⟩
noncomputable def Vv (d0:Za) (p0:Z4) (net0:Int):Option Za :=
 if Z4.instance p0<0 then
 (atI (Za.ZX d0) (Z4.pin p0)).bind fun x0 =>
 some (Za.Instances d0,Za.ZM d0,List.set (Za.ZX d0) (Int.toNat (Z4.pin p0)) (ZL.Name x0,ZL.Dir x0,net0,()),())
 else
 (atI (Za.Instances d0) (Z4.instance p0)).bind fun x0 =>
 (atI x0.snd.snd.fst (Z4.pin p0)).bind fun x1 =>
 some (List.set (Za.Instances d0) (Int.toNat (Z4.instance p0)) (x0.fst,x0.snd.fst,List.set x0.snd.snd.fst (Int.toNat (Z4.pin p0)) net0,()),d0.snd)
noncomputable def c80:Ctr:=⟨[.back (Zky),.dat (Zfr),.dat (.int .i64)],[],fun a K=>splitK a fun d0 a=>splitK a fun p0 a=>splitK a fun net0 a=>ZA (Vv d0 p0 net0) fun r=>K () (r,())⟩
noncomputable def Zat (sinks0:Int) (load0:Int):Option Zn :=
 Zx ((0:Int)≤sinks0) <|
 Zx (sinks0≤sinks0) <|
 Zx (sinks0≤(4611686018427387904:Int)) <|
 Zx ((↑(8:Nat):Int)*sinks0≤(281474976710656:Int)) <|
 some ([(-1:Int)],[(0:Int)],[load0],List.replicate (Int.toNat sinks0) (0:Int),())
noncomputable def c81:Ctr:=⟨[.dat (.int .i64),.dat (.int .i64)],[.own (Zha)],fun a K=>splitK a fun sinks0 a=>splitK a fun load0 a=>ZA (Zat sinks0 load0) fun r=>K (r,()) ()⟩
noncomputable def V3 (nodes0:List Int) (net0:Int) (l0:List (List Int×List Int×List Int×List Int×Unit)) (l05Sinks0:List Int) (list0:List Int) (i0:Int):Option (((List Int)×Int×Unit) ⊕ ((Int×(List (List Int×List Int×List Int×List Int×Unit))×Unit) ⊕ Zb)) :=
 if i0<(↑(List.length l05Sinks0):Int) then
 (atI l05Sinks0 i0).bind fun x0 =>
 (atI nodes0 x0).bind fun x1 =>
 Zx ((List.length list0+List.length [x1])*(8:Nat)≤(140737488355328:Nat)) <|
 some (.inl (list0++[x1],IntKind.i64.wrap (i0+(1:Int)),()))
 else
 (atI l0 net0).bind fun x0 =>
 some (.inr (.inl (IntKind.i64.wrap (net0+1),List.set l0 (Int.toNat net0) (x0.fst,x0.snd.fst,x0.snd.snd.fst,list0,()),())))
noncomputable def QL (b0:Zb) (nodes0:List Int) (net0:Int) (l0:List (List Int×List Int×List Int×List Int×Unit)):Option ((Int×(List (List Int×List Int×List Int×List Int×Unit))×Unit) ⊕ Zb) :=
 if net0<(↑(List.length l0):Int) then
 (Xw (Zb.Design b0) net0).bind fun l05Sinks0 =>
 Zt (fun v=>V3 nodes0 net0 l0 l05Sinks0 v.1 v.2.1) (([]:List Int),(0:Int),())
 else
 some (.inr (Zb.Library b0,Zb.Design b0,l0,()))
noncomputable def XT (b0:Zb) (nodes0:List Int):Option Zb :=
 Zt (fun v=>QL b0 nodes0 v.1 v.2.1) ((0:Int),Zb.Zw b0,())
noncomputable def c82:Ctr:=⟨[.own (Zdv),.dat (.sl (.int .i64))],[.own (Zdv)],fun a K=>splitK a fun b0 a=>splitK a fun nodes0 a=>ZA (XT b0 nodes0) fun r=>K (r,()) ()⟩
noncomputable def Zbk (a0:Zb) (a1:Zf):Option Zb :=
 (Y9 (Zb.Design a0)).bind fun l05Places0 =>
 (atI l05Places0 (Zf.Place a1)).bind fun x0 =>
 (V6 a0).bind fun l08Nodes0 =>
 (atI l08Nodes0 (Zf.Place a1)).bind fun x1 =>
 Zx ((0:Int)≤IntKind.i64.wrap ((↑(List.length l08Nodes0):Int)-(↑(List.length (Za.ZX (Zb.Design a0))):Int))) <|
 Zx (IntKind.i64.wrap ((↑(List.length l08Nodes0):Int)-(↑(List.length (Za.ZX (Zb.Design a0))):Int))≤(↑(List.length l08Nodes0):Int)) <|
 (Xc (List.take (Int.toNat (IntKind.i64.wrap ((↑(List.length l08Nodes0):Int)-(↑(List.length (Za.ZX (Zb.Design a0))):Int)))-Int.toNat 0) (List.drop (Int.toNat 0) l08Nodes0))).bind fun l02Ints0 =>
 Zx ((List.length l02Ints0+List.length [x1,(0:Int)])*(8:Nat)≤(140737488355328:Nat)) <|
 Zx ((↑(List.length l08Nodes0):Int)≤(↑(List.length l08Nodes0):Int)) <|
 Zx ((List.length (l02Ints0++[x1,(0:Int)])+List.length (List.take (Int.toNat (↑(List.length l08Nodes0):Int)-Int.toNat (IntKind.i64.wrap ((↑(List.length l08Nodes0):Int)-(↑(List.length (Za.ZX (Zb.Design a0))):Int)))) (List.drop (Int.toNat (IntKind.i64.wrap ((↑(List.length l08Nodes0):Int)-(↑(List.length (Za.ZX (Zb.Design a0))):Int)))) l08Nodes0)))*(8:Nat)≤(140737488355328:Nat)) <|
 (Vv (Zb.Design a0) x0 (↑(List.length (Zb.Zw a0)):Int)).bind fun l08Connect0 =>
 if IntKind.i64.wrap ((↑(List.length l08Nodes0):Int)-(↑(List.length (Za.ZX (Zb.Design a0))):Int))≤Zf.Place a1 then
 (atI (l02Ints0++[x1,(0:Int)]++List.take (Int.toNat (↑(List.length l08Nodes0):Int)-Int.toNat (IntKind.i64.wrap ((↑(List.length l08Nodes0):Int)-(↑(List.length (Za.ZX (Zb.Design a0))):Int)))) (List.drop (Int.toNat (IntKind.i64.wrap ((↑(List.length l08Nodes0):Int)-(↑(List.length (Za.ZX (Zb.Design a0))):Int)))) l08Nodes0)) (IntKind.i64.wrap (Zf.Place a1+(2:Int)))).bind fun x2 =>
 Zx ((List.length (Za.Instances l08Connect0)+List.length [(Zf.Name a1,Zf.Cell a1,[Z4.net x0,(↑(List.length (Zb.Zw a0)):Int)],())])*(48:Nat)≤(140737488355328:Nat)) <|
 Zx ((List.length (Za.ZM l08Connect0)+List.length [Zf.Name a1])*(16:Nat)≤(140737488355328:Nat)) <|
 (Zat 1 0).bind fun l07Lumped0 =>
 Zx ((List.length (Zb.Zw a0)+List.length [l07Lumped0])*(96:Nat)≤(140737488355328:Nat)) <|
 (XT (Zb.Library a0,(Za.Instances l08Connect0++[(Zf.Name a1,Zf.Cell a1,[Z4.net x0,(↑(List.length (Zb.Zw a0)):Int)],())],Za.ZM l08Connect0++[Zf.Name a1],l08Connect0.snd.snd),Zb.Zw a0++[l07Lumped0],()) (List.set (l02Ints0++[x1,(0:Int)]++List.take (Int.toNat (↑(List.length l08Nodes0):Int)-Int.toNat (IntKind.i64.wrap ((↑(List.length l08Nodes0):Int)-(↑(List.length (Za.ZX (Zb.Design a0))):Int)))) (List.drop (Int.toNat (IntKind.i64.wrap ((↑(List.length l08Nodes0):Int)-(↑(List.length (Za.ZX (Zb.Design a0))):Int)))) l08Nodes0)) (Int.toNat (IntKind.i64.wrap (Zf.Place a1+(2:Int)))) (0:Int))).bind fun l08Attach0 =>
 some l08Attach0
 else
 (atI (l02Ints0++[x1,(0:Int)]++List.take (Int.toNat (↑(List.length l08Nodes0):Int)-Int.toNat (IntKind.i64.wrap ((↑(List.length l08Nodes0):Int)-(↑(List.length (Za.ZX (Zb.Design a0))):Int)))) (List.drop (Int.toNat (IntKind.i64.wrap ((↑(List.length l08Nodes0):Int)-(↑(List.length (Za.ZX (Zb.Design a0))):Int)))) l08Nodes0)) (Zf.Place a1)).bind fun x2 =>
 Zx ((List.length (Za.Instances l08Connect0)+List.length [(Zf.Name a1,Zf.Cell a1,[Z4.net x0,(↑(List.length (Zb.Zw a0)):Int)],())])*(48:Nat)≤(140737488355328:Nat)) <|
 Zx ((List.length (Za.ZM l08Connect0)+List.length [Zf.Name a1])*(16:Nat)≤(140737488355328:Nat)) <|
 (Zat 1 0).bind fun l07Lumped0 =>
 Zx ((List.length (Zb.Zw a0)+List.length [l07Lumped0])*(96:Nat)≤(140737488355328:Nat)) <|
 (XT (Zb.Library a0,(Za.Instances l08Connect0++[(Zf.Name a1,Zf.Cell a1,[Z4.net x0,(↑(List.length (Zb.Zw a0)):Int)],())],Za.ZM l08Connect0++[Zf.Name a1],l08Connect0.snd.snd),Zb.Zw a0++[l07Lumped0],()) (List.set (l02Ints0++[x1,(0:Int)]++List.take (Int.toNat (↑(List.length l08Nodes0):Int)-Int.toNat (IntKind.i64.wrap ((↑(List.length l08Nodes0):Int)-(↑(List.length (Za.ZX (Zb.Design a0))):Int)))) (List.drop (Int.toNat (IntKind.i64.wrap ((↑(List.length l08Nodes0):Int)-(↑(List.length (Za.ZX (Zb.Design a0))):Int)))) l08Nodes0)) (Int.toNat (Zf.Place a1)) (0:Int))).bind fun l08Attach0 =>
 some l08Attach0
noncomputable def c83:Ctr:=⟨[.own (Zdv),.dat (Ym)],[.own (Zdv)],fun a K=>splitK a fun a0 a=>splitK a fun a1 a=>ZA (Zbk a0 a1) fun r=>K (r,()) ()⟩
noncomputable def Zbo (a0:Zb):Option Zb :=
 (V6 a0).bind fun l08Nodes0 =>
 (Xw (Zb.Design a0) (IntKind.i64.wrap ((↑(List.length (Zb.Zw a0)):Int)-1))).bind fun l05Sinks0 =>
 (atI l05Sinks0 0).bind fun x0 =>
 (atI l08Nodes0 (IntKind.i64.wrap (IntKind.i64.wrap ((↑(List.length l08Nodes0):Int)-(↑(List.length (Za.ZX (Zb.Design a0))):Int))-2))).bind fun x1 =>
 (atI l08Nodes0 x0).bind fun x2 =>
 (atI (Za.Instances (Zb.Design a0)) (IntKind.i64.wrap ((↑(List.length (Za.Instances (Zb.Design a0))):Int)-1))).bind fun x3 =>
 (atI x3.snd.snd.fst 0).bind fun x4 =>
 (Y9 (List.set (Za.Instances (Zb.Design a0)) (Int.toNat (IntKind.i64.wrap ((↑(List.length (Za.Instances (Zb.Design a0))):Int)-1))) x3,(Zb.Design a0).snd)).bind fun l05Places0 =>
 (atI l05Places0 x0).bind fun x5 =>
 (Vv (List.set (Za.Instances (Zb.Design a0)) (Int.toNat (IntKind.i64.wrap ((↑(List.length (Za.Instances (Zb.Design a0))):Int)-1))) x3,(Zb.Design a0).snd) x5 x4).bind fun l08Connect0 =>
 Zx ((0:Int)≤IntKind.i64.wrap (IntKind.i64.wrap ((↑(List.length l08Nodes0):Int)-(↑(List.length (Za.ZX (Zb.Design a0))):Int))-(2:Int))) <|
 Zx (IntKind.i64.wrap (IntKind.i64.wrap ((↑(List.length l08Nodes0):Int)-(↑(List.length (Za.ZX (Zb.Design a0))):Int))-(2:Int))≤(↑(List.length (List.set l08Nodes0 (Int.toNat x0) x1)):Int)) <|
 (Xc (List.take (Int.toNat (IntKind.i64.wrap (IntKind.i64.wrap ((↑(List.length l08Nodes0):Int)-(↑(List.length (Za.ZX (Zb.Design a0))):Int))-2))-Int.toNat 0) (List.drop (Int.toNat 0) (List.set l08Nodes0 (Int.toNat x0) x1)))).bind fun l02Ints0 =>
 Zx ((0:Int)≤IntKind.i64.wrap ((↑(List.length l08Nodes0):Int)-(↑(List.length (Za.ZX (Zb.Design a0))):Int))) <|
 Zx (IntKind.i64.wrap ((↑(List.length l08Nodes0):Int)-(↑(List.length (Za.ZX (Zb.Design a0))):Int))≤(↑(List.length (List.set l08Nodes0 (Int.toNat x0) x1)):Int)) <|
 Zx ((↑(List.length (List.set l08Nodes0 (Int.toNat x0) x1)):Int)≤(↑(List.length (List.set l08Nodes0 (Int.toNat x0) x1)):Int)) <|
 Zx ((List.length l02Ints0+List.length (List.take (Int.toNat (↑(List.length (List.set l08Nodes0 (Int.toNat x0) x1)):Int)-Int.toNat (IntKind.i64.wrap ((↑(List.length l08Nodes0):Int)-(↑(List.length (Za.ZX (Zb.Design a0))):Int)))) (List.drop (Int.toNat (IntKind.i64.wrap ((↑(List.length l08Nodes0):Int)-(↑(List.length (Za.ZX (Zb.Design a0))):Int)))) (List.set l08Nodes0 (Int.toNat x0) x1))))*(8:Nat)≤(140737488355328:Nat)) <|
 Zx ((0:Int)≤IntKind.i64.wrap ((↑(List.length (Za.Instances (Zb.Design a0))):Int)-(1:Int))) <|
 Zx (IntKind.i64.wrap ((↑(List.length (Za.Instances (Zb.Design a0))):Int)-(1:Int))≤(↑(List.length (Za.Instances l08Connect0)):Int)) <|
 Zx ((0:Int)≤IntKind.i64.wrap ((↑(List.length (Zb.Zw a0)):Int)-(1:Int))) <|
 Zx (IntKind.i64.wrap ((↑(List.length (Zb.Zw a0)):Int)-(1:Int))≤(↑(List.length (Za.ZM l08Connect0)):Int)) <|
 Zx (IntKind.i64.wrap ((↑(List.length (Zb.Zw a0)):Int)-(1:Int))≤(↑(List.length (Zb.Zw a0)):Int)) <|
 (XT (Zb.Library a0,(List.take (Int.toNat (IntKind.i64.wrap ((↑(List.length (Za.Instances (Zb.Design a0))):Int)-1))-Int.toNat 0) (List.drop (Int.toNat 0) (Za.Instances l08Connect0)),List.take (Int.toNat (IntKind.i64.wrap ((↑(List.length (Zb.Zw a0)):Int)-1))-Int.toNat 0) (List.drop (Int.toNat 0) (Za.ZM l08Connect0)),l08Connect0.snd.snd),List.take (Int.toNat (IntKind.i64.wrap ((↑(List.length (Zb.Zw a0)):Int)-1))-Int.toNat 0) (List.drop (Int.toNat 0) (Zb.Zw a0)),()) (l02Ints0++List.take (Int.toNat (↑(List.length (List.set l08Nodes0 (Int.toNat x0) x1)):Int)-Int.toNat (IntKind.i64.wrap ((↑(List.length l08Nodes0):Int)-(↑(List.length (Za.ZX (Zb.Design a0))):Int)))) (List.drop (Int.toNat (IntKind.i64.wrap ((↑(List.length l08Nodes0):Int)-(↑(List.length (Za.ZX (Zb.Design a0))):Int)))) (List.set l08Nodes0 (Int.toNat x0) x1)))).bind fun l08Attach0 =>
 some l08Attach0
noncomputable def c84:Ctr:=⟨[.own (Zdv)],[.own (Zdv)],fun a K=>splitK a fun a0 a=>ZA (Zbo a0) fun r=>K (r,()) ()⟩
noncomputable def Zae (a0:Zb) (a1:Zf):Option Zb :=
 (ZcL a0).bind fun l07Own0 =>
 (Y9 (Zb.Design l07Own0)).bind fun l05Places0 =>
 if Zf.Kind a1=1 then
 (atI l05Places0 (Zf.Place a1)).bind fun x0 =>
 (atI (Za.Instances (Zb.Design l07Own0)) (Z4.instance x0)).bind fun x1 =>
 some (Zb.Library l07Own0,(List.set (Za.Instances (Zb.Design l07Own0)) (Int.toNat (Z4.instance x0)) (x1.fst,Zf.Cell a1,x1.snd.snd),(Zb.Design l07Own0).snd),l07Own0.snd.snd)
 else
 if Zf.Kind a1=2 then
 (Zbk l07Own0 a1).bind fun l08Insert0 =>
 some l08Insert0
 else
 if Zf.Kind a1=3 then
 (Zbo l07Own0).bind fun l08Remove0 =>
 some l08Remove0
 else
 if Zf.Kind a1=4 then
 (V6 l07Own0).bind fun l08Nodes0 =>
 (atI l08Nodes0 (Zf.Place a1)).bind fun x0 =>
 (atI l05Places0 (Zf.Place a1)).bind fun x1 =>
 (Vv (Zb.Design l07Own0) x1 (Zf.Net a1)).bind fun l08Connect0 =>
 (XT (Zb.Library l07Own0,l08Connect0,l07Own0.snd.snd) (List.set l08Nodes0 (Int.toNat (Zf.Place a1)) (Zf.Node a1))).bind fun l08Attach0 =>
 some l08Attach0
 else
 if Zf.Kind a1=5 then
 (Vq (Zf.Zdl a1)).bind fun l07OwnWire0 =>
 (atI (Zb.Zw l07Own0) (Zf.Net a1)).bind fun x0 =>
 some (Zb.Library l07Own0,Zb.Design l07Own0,List.set (Zb.Zw l07Own0) (Int.toNat (Zf.Net a1)) l07OwnWire0,())
 else
 some l07Own0
noncomputable def c85:Ctr:=⟨[.dat (YL),.dat (Ym)],[.own (Zdv)],fun a K=>splitK a fun a0 a=>splitK a fun a1 a=>ZA (Zae a0 a1) fun r=>K (r,()) ()⟩
noncomputable def Qy (b0:Zb) (e0:Zf):Option (Zb×Int) :=
 (Zcg b0 e0).bind fun EditCode0 =>
 if EditCode0=0 then
 (Zae b0 e0).bind fun l08Apply0 =>
 some (l08Apply0,0)
 else
 some (((([]:List Zh),()),(([]:List Zd),([]:List (List UInt8)),([]:List ZL),()),([]:List Zn),()),EditCode0)
noncomputable def c86:Ctr:=⟨[.dat (YL),.dat (Ym)],[.own (Zdv),.dat (.int .i64)],fun a K=>splitK a fun b0 a=>splitK a fun e0 a=>ZA (Qy b0 e0) fun r=>K (r.1,r.2,()) ()⟩
noncomputable def Xp (list0:List Zf) (i0:Int) (c0:List Zh) (c1:List Zd) (c2:List (List UInt8)) (c3:List ZL) (c4:List Zn) (c5:List (List UInt8×Int×List YB×List ZT×List Int×Int×Int×Unit)) (c6:List (List UInt8×Int×List Int×Unit)) (c7:List (List UInt8)) (c8:List ZL) (c9:List (List Int×List Int×List Int×List Int×Unit)):Option ((Int×(List Zh)×(List Zd)×(List (List UInt8))×(List ZL)×(List Zn)×(List (List UInt8×Int×List YB×List ZT×List Int×Int×Int×Unit))×(List (List UInt8×Int×List Int×Unit))×(List (List UInt8))×(List ZL)×(List (List Int×List Int×List Int×List Int×Unit))×Unit) ⊕ (Zb×Int×Int)) :=
 if i0<(↑(List.length list0):Int) then
 (atI list0 i0).bind fun x0 =>
 (Qy ((c5,()),(c6,c7,c8,()),c9,()) x0).bind fun ApplyEdit0 =>
 if ApplyEdit0.snd=0 then
 some (.inl (IntKind.i64.wrap (i0+1),c0,c1,c2,c3,c4,ApplyEdit0.fst.fst.fst,ApplyEdit0.fst.snd.fst.fst,ApplyEdit0.fst.snd.fst.snd.fst,ApplyEdit0.fst.snd.fst.snd.snd.fst,ApplyEdit0.fst.snd.snd.fst,()))
 else
 some (.inr (((([]:List Zh),()),(([]:List Zd),([]:List (List UInt8)),([]:List ZL),()),([]:List Zn),()),ApplyEdit0.snd,i0))
 else
 some (.inr (((c5,()),(c6,c7,c8,()),c9,()),0,(-1)))
noncomputable def ZaK (b0:Zb) (list0:List Zf):Option (Zb×Int×Int) :=
 (ZbM b0).bind fun IsBlock0 =>
 if IsBlock0=true then
 if 20<(↑(List.length list0):Int) then
 some (((([]:List Zh),()),(([]:List Zd),([]:List (List UInt8)),([]:List ZL),()),([]:List Zn),()),(3:Int),(-1:Int))
 else
 (ZcL b0).bind fun l07Own0 =>
 Zt (fun v=>Xp list0 v.1 v.2.1 v.2.2.1 v.2.2.2.1 v.2.2.2.2.1 v.2.2.2.2.2.1 v.2.2.2.2.2.2.1 v.2.2.2.2.2.2.2.1 v.2.2.2.2.2.2.2.2.1 v.2.2.2.2.2.2.2.2.2.1 v.2.2.2.2.2.2.2.2.2.2.1) ((0:Int),([]:List Zh),([]:List Zd),([]:List (List UInt8)),([]:List ZL),([]:List Zn),Zk.Cells (Zb.Library l07Own0),Za.Instances (Zb.Design l07Own0),Za.ZM (Zb.Design l07Own0),Za.ZX (Zb.Design l07Own0),Zb.Zw l07Own0,())
 else
 some (((([]:List Zh),()),(([]:List Zd),([]:List (List UInt8)),([]:List ZL),()),([]:List Zn),()),(1:Int),(-1:Int))
noncomputable def c87:Ctr:=⟨[.dat (YL),.dat (.sl (Ym))],[.own (Zdv),.dat (.int .i64),.dat (.int .i64)],fun a K=>splitK a fun b0 a=>splitK a fun list0 a=>ZA (ZaK b0 list0) fun r=>K (r.1,r.2.1,r.2.2,()) ()⟩
noncomputable def JR (a0:Zb) (a1:Zf):Option Zf :=
 (Y9 (Zb.Design a0)).bind fun l05Places0 =>
 if Zf.Kind a1=1 then
 (atI l05Places0 (Zf.Place a1)).bind fun x0 =>
 (atI (Za.Instances (Zb.Design a0)) (Z4.instance x0)).bind fun x1 =>
 some ((1:Int),Zf.Place a1,Zd.Cell x1,(0:Int),(0:Int),([]:List UInt8),(([]:List Int),([]:List Int),([]:List Int),([]:List Int),()),())
 else
 if Zf.Kind a1=2 then
 some ((3:Int),(0:Int),(0:Int),(0:Int),(0:Int),([]:List UInt8),(([]:List Int),([]:List Int),([]:List Int),([]:List Int),()),())
 else
 if Zf.Kind a1=3 then
 (atI (Za.Instances (Zb.Design a0)) (IntKind.i64.wrap ((↑(List.length (Za.Instances (Zb.Design a0))):Int)-1))).bind fun x0 =>
 (Xw (Zb.Design a0) (IntKind.i64.wrap ((↑(List.length (Zb.Zw a0)):Int)-1))).bind fun l05Sinks0 =>
 (atI l05Sinks0 0).bind fun x1 =>
 (atI l05Places0 x1).bind fun x2 =>
 if Z4.instance x2<0 then
 some ((2:Int),IntKind.i64.wrap (x1-(2:Int)),Zd.Cell x0,(0:Int),(0:Int),Zd.Name x0,(([]:List Int),([]:List Int),([]:List Int),([]:List Int),()),())
 else
 some ((2:Int),x1,Zd.Cell x0,(0:Int),(0:Int),Zd.Name x0,(([]:List Int),([]:List Int),([]:List Int),([]:List Int),()),())
 else
 if Zf.Kind a1=4 then
 (atI l05Places0 (Zf.Place a1)).bind fun x0 =>
 (V6 a0).bind fun l08Nodes0 =>
 (atI l08Nodes0 (Zf.Place a1)).bind fun x1 =>
 some ((4:Int),Zf.Place a1,(0:Int),Z4.net x0,x1,([]:List UInt8),(([]:List Int),([]:List Int),([]:List Int),([]:List Int),()),())
 else
 (atI (Zb.Zw a0) (Zf.Net a1)).bind fun x0 =>
 (Vq x0).bind fun l07OwnWire0 =>
 some ((5:Int),(0:Int),(0:Int),Zf.Net a1,(0:Int),([]:List UInt8),l07OwnWire0,())
noncomputable def c88:Ctr:=⟨[.dat (YL),.dat (Ym)],[.own (Zi2)],fun a K=>splitK a fun a0 a=>splitK a fun a1 a=>ZA (JR a0 a1) fun r=>K (r,()) ()⟩
noncomputable def Xx (list0:List Zf) (out0:List Zf) (i0:Int) (c0:List Zh) (c1:List Zd) (c2:List (List UInt8)) (c3:List ZL) (c4:List Zn):Option (((List Zf)×Int×(List Zh)×(List Zd)×(List (List UInt8))×(List ZL)×(List Zn)×Unit) ⊕ ((List Zf)×Int)) :=
 if i0<(↑(List.length list0):Int) then
 (atI list0 i0).bind fun x0 =>
 (JR ((c0,()),(c1,c2,c3,()),c4,()) x0).bind fun l08Inverse0 =>
 Zx ((List.length [l08Inverse0]+List.length out0)*(152:Nat)≤(140737488355328:Nat)) <|
 (Zae ((c0,()),(c1,c2,c3,()),c4,()) x0).bind fun l08Apply0 =>
 some (.inl ([l08Inverse0]++out0,IntKind.i64.wrap (i0+(1:Int)),Zk.Cells (Zb.Library l08Apply0),Za.Instances (Zb.Design l08Apply0),Za.ZM (Zb.Design l08Apply0),Za.ZX (Zb.Design l08Apply0),Zb.Zw l08Apply0,()))
 else
 some (.inr (out0,0))
noncomputable def Jp (b0:Zb) (list0:List Zf):Option ((List Zf)×Int) :=
 (ZaK b0 list0).bind fun ApplyEdits0 =>
 if ApplyEdits0.snd.fst=0 then
 Zt (fun v=>Xx list0 v.1 v.2.1 v.2.2.1 v.2.2.2.1 v.2.2.2.2.1 v.2.2.2.2.2.1 v.2.2.2.2.2.2.1) (([]:List (Int×Int×Int×Int×Int×List UInt8×Zn×Unit)),(0:Int),Zk.Cells (Zb.Library b0),Za.Instances (Zb.Design b0),Za.ZM (Zb.Design b0),Za.ZX (Zb.Design b0),Zb.Zw b0,())
 else
 some (([]:List Zf),ApplyEdits0.snd.fst)
noncomputable def c89:Ctr:=⟨[.dat (YL),.dat (.sl (Ym))],[.dat (.sl (Ym)),.dat (.int .i64)],fun a K=>splitK a fun b0 a=>splitK a fun list0 a=>ZA (Jp b0 list0) fun r=>K (r.1,r.2,()) ()⟩
noncomputable def Yp (x0:Int) (low0:Int) (high0:Int):Option Bool :=
 if low0≤x0 then
 some (Decidable.decide (x0≤high0))
 else
 some Bool.false
noncomputable def c90:Ctr:=⟨[.dat (.int .i64),.dat (.int .i64),.dat (.int .i64)],[.dat (.bool)],fun a K=>splitK a fun x0 a=>splitK a fun low0 a=>splitK a fun high0 a=>ZA (Yp x0 low0 high0) fun r=>K (r,()) ()⟩
noncomputable def ZbR (s0:List UInt8):Option Bool :=
 (Yp (↑(List.length s0):Int) 1 8).bind fun within0 =>
 if within0=true then
 Zx (List.length s0≤(1000000:Nat)) <|
 if Go.Lib.trimS s0 [(97:UInt8),(98:UInt8),(99:UInt8),(100:UInt8),(101:UInt8),(102:UInt8),(103:UInt8),(104:UInt8),(105:UInt8),(106:UInt8),(107:UInt8),(108:UInt8),(109:UInt8),(110:UInt8),(111:UInt8),(112:UInt8),(113:UInt8),(114:UInt8),(115:UInt8),(116:UInt8),(117:UInt8),(118:UInt8),(119:UInt8),(120:UInt8),(121:UInt8),(122:UInt8),(48:UInt8),(49:UInt8),(50:UInt8),(51:UInt8),(52:UInt8),(53:UInt8),(54:UInt8),(55:UInt8),(56:UInt8),(57:UInt8)]=([]:List UInt8) then
 (atI s0 0).bind fun x0 =>
 some (Decidable.decide ((0:Int)≤Go.Lib.indexByte [(97:UInt8),(98:UInt8),(99:UInt8),(100:UInt8),(101:UInt8),(102:UInt8),(103:UInt8),(104:UInt8),(105:UInt8),(106:UInt8),(107:UInt8),(108:UInt8),(109:UInt8),(110:UInt8),(111:UInt8),(112:UInt8),(113:UInt8),(114:UInt8),(115:UInt8),(116:UInt8),(117:UInt8),(118:UInt8),(119:UInt8),(120:UInt8),(121:UInt8),(122:UInt8)] (Nat.toUInt8 (Int.toNat (↑(UInt8.toNat x0):Int)))))
 else
 some Bool.false
 else
 some Bool.false
noncomputable def c91:Ctr:=⟨[.dat (.str)],[.dat (.bool)],fun a K=>splitK a fun s0 a=>ZA (ZbR s0) fun r=>K (r,()) ()⟩
noncomputable def QN (list0:List YB):Option Int :=
 some (↑(List.length list0):Int)
noncomputable def c92:Ctr:=⟨[.dat (.sl (ZcH))],[.dat (.int .i64)],fun a K=>splitK a fun list0 a=>ZA (QN list0) fun r=>K (r,()) ()⟩
noncomputable def Yo (s0:List (List UInt8)) (v0:List UInt8) (v1:Int):Option ((Int×Unit) ⊕ Int) :=
 if v1<(↑(List.length s0):Int) then
 (atI s0 v1).bind fun x0 =>
 if v0=x0 then
 some (.inr v1)
 else
 some (.inl (IntKind.i64.wrap (v1+1),()))
 else
 some (.inr (-1))
noncomputable def Yq (s0:List (List UInt8)) (v0:List UInt8):Option Int :=
 Zt (fun v=>Yo s0 v0 v.1) ((0:Int),())
noncomputable def c93:Ctr:=⟨[.dat (.sl (.str)),.dat (.str)],[.dat (.int .i64)],fun a K=>splitK a fun s0 a=>splitK a fun v0 a=>ZA (Yq s0 v0) fun r=>K (r,()) ()⟩
noncomputable def YN (s0:List (List UInt8)) (v0:List UInt8):Option Bool :=
 (Yq s0 v0).bind fun string0 =>
 some (Decidable.decide (0≤string0))
noncomputable def c94:Ctr:=⟨[.dat (.sl (.str)),.dat (.str)],[.dat (.bool)],fun a K=>splitK a fun s0 a=>splitK a fun v0 a=>ZA (YN s0 v0) fun r=>K (r,()) ()⟩
noncomputable def Jy (list0:List (List UInt8)) (v0:Int):Option ((Int×Unit) ⊕ Bool) :=
 if v0<(↑(List.length list0):Int) then
 (atI list0 v0).bind fun x0 =>
 (ZbR x0).bind fun isName0 =>
 if isName0=true then
 Zx ((0:Int)≤v0) <|
 Zx (v0≤(↑(List.length list0):Int)) <|
 (YN (List.take (Int.toNat v0-Int.toNat 0) (List.drop (Int.toNat 0) list0)) x0).bind fun string0 =>
 if string0=true then
 some (.inr Bool.false)
 else
 some (.inl (IntKind.i64.wrap (v0+1),()))
 else
 some (.inr Bool.false)
 else
 some (.inr Bool.true)
noncomputable def Vn (list0:List (List UInt8)):Option Bool :=
 Zt (fun v=>Jy list0 v.1) ((0:Int),())
noncomputable def c95:Ctr:=⟨[.dat (.sl (.str))],[.dat (.bool)],fun a K=>splitK a fun list0 a=>ZA (Vn list0) fun r=>K (r,()) ()⟩
noncomputable def QE (list0:List YB) (names0:List (List UInt8)) (v0:Int):Option (((List (List UInt8))×Int×Unit) ⊕ Bool) :=
 if v0<(↑(List.length list0):Int) then
 (atI list0 v0).bind fun x0 =>
 Zx ((List.length names0+List.length [YB.Name x0])*(16:Nat)≤(140737488355328:Nat)) <|
 if v0=IntKind.i64.wrap ((↑(List.length list0):Int)-1) then
 if YB.Dir x0=2 then
 if YB.Cap x0=0 then
 if (YB.Clock x0)=true then
 some (.inr Bool.false)
 else
 some (.inl (names0++[YB.Name x0],IntKind.i64.wrap (v0+(1:Int)),()))
 else
 some (.inr Bool.false)
 else
 some (.inr Bool.false)
 else
 if YB.Dir x0=1 then
 (Yp (YB.Cap x0) 0 500).bind fun within0 =>
 if within0=true then
 some (.inl (names0++[YB.Name x0],IntKind.i64.wrap (v0+(1:Int)),()))
 else
 some (.inr Bool.false)
 else
 some (.inr Bool.false)
 else
 (QN list0).bind fun Pin0 =>
 (Yp Pin0 2 5).bind fun within0 =>
 if within0=true then
 (Vn names0).bind fun areNames0 =>
 some (.inr areNames0)
 else
 some (.inr Bool.false)
noncomputable def Zdf (list0:List YB):Option Bool :=
 Zt (fun v=>QE list0 v.1 v.2.1) (([]:List (List UInt8)),(0:Int),())
noncomputable def c96:Ctr:=⟨[.dat (.sl (ZcH))],[.dat (.bool)],fun a K=>splitK a fun list0 a=>ZA (Zdf list0) fun r=>K (r,()) ()⟩
noncomputable def Zc7 (kind0:Int):Option Bool :=
 if kind0=4 then
 some Bool.true
 else
 some (Decidable.decide (kind0=5))
noncomputable def c97:Ctr:=⟨[.dat (.int .i64)],[.dat (.bool)],fun a K=>splitK a fun kind0 a=>ZA (Zc7 kind0) fun r=>K (r,()) ()⟩
noncomputable def YK (list0:List Int):Option Int :=
 some (↑(List.length list0):Int)
noncomputable def c98:Ctr:=⟨[.dat (.sl (.int .i64))],[.dat (.int .i64)],fun a K=>splitK a fun list0 a=>ZA (YK list0) fun r=>K (r,()) ()⟩
noncomputable def ZaI (n0:Int) (a0:Int) (a1:Int):Option Bool :=
 (Yp n0 a0 a1).bind fun within0 =>
 some !within0
noncomputable def c99:Ctr:=⟨[.dat (.int .i64),.dat (.ptr (.int .i64)),.dat (.ptr (.int .i64))],[.dat (.bool)],fun a K=>splitK a fun n0 a=>splitK a fun a0 a=>splitK a fun a1 a=>ZA (ZaI n0 a0 a1) fun r=>K (r,()) ()⟩
noncomputable def Z9 (s0:List Int) (f0:Int×Int×Unit) (v0:Int):Option ((Int×Unit) ⊕ Int) :=
 if v0<(↑(List.length s0):Int) then
 (atI s0 v0).bind fun x0 =>
 (ZaI x0 f0.fst f0.snd.fst).bind fun c1_0 =>
 if c1_0=true then
 some (.inr v0)
 else
 some (.inl (IntKind.i64.wrap (v0+1),()))
 else
 some (.inr (-1))
noncomputable def Z8 (s0:List Int) (f0:Int×Int×Unit):Option Int :=
 Zt (fun v=>Z9 s0 f0 v.1) ((0:Int),())
noncomputable def Zxq:Ctr:=⟨[.dat (.sl (.int .i64)),.dat (.fn 191 (.pair (.ptr (.int .i64)) (.pair (.ptr (.int .i64)) (.unit))))],[.dat (.int .i64)],fun a K=>splitK a fun s0 a=>splitK a fun f0 a=>ZA (Z8 s0 f0) fun r=>K (r,()) ()⟩
noncomputable def Ye (s0:List Int) (f0:Int×Int×Unit):Option Bool :=
 (Z8 s0 f0).bind fun c1_0 =>
 some (Decidable.decide (0≤c1_0))
noncomputable def Zys:Ctr:=⟨[.dat (.sl (.int .i64)),.dat (.fn 191 (.pair (.ptr (.int .i64)) (.pair (.ptr (.int .i64)) (.unit))))],[.dat (.bool)],fun a K=>splitK a fun s0 a=>splitK a fun f0 a=>ZA (Ye s0 f0) fun r=>K (r,()) ()⟩
noncomputable def Xq (list0:List Int) (low0:Int) (high0:Int):Option Bool :=
 (Ye list0 (low0,high0,())).bind fun c1_0 =>
 some !c1_0
noncomputable def ZvC:Ctr:=⟨[.dat (.sl (.int .i64)),.dat (.int .i64),.dat (.int .i64)],[.dat (.bool)],fun a K=>splitK a fun list0 a=>splitK a fun low0 a=>splitK a fun high0 a=>ZA (Xq list0 low0 high0) fun r=>K (r,()) ()⟩
noncomputable def Y4 (list0:List Int) (i0:Int):Option ((Int×Unit) ⊕ Bool) :=
 if i0<(↑(List.length list0):Int) then
 (atI list0 (IntKind.i64.wrap (i0-1))).bind fun x0 =>
 (atI list0 i0).bind fun x1 =>
 if x1≤x0 then
 some (.inr Bool.false)
 else
 some (.inl (IntKind.i64.wrap (i0+1),()))
 else
 some (.inr Bool.true)
noncomputable def Js (list0:List Int):Option Bool :=
 Zt (fun v=>Y4 list0 v.1) ((1:Int),())
noncomputable def ZxU:Ctr:=⟨[.dat (.sl (.int .i64))],[.dat (.bool)],fun a K=>splitK a fun list0 a=>ZA (Js list0) fun r=>K (r,()) ()⟩
noncomputable def ZcU (list0:List Int):Option Bool :=
 (YK list0).bind fun int64_0 =>
 (Yp int64_0 1 4).bind fun within0 =>
 if within0=true then
 (Xq list0 0 100000).bind fun areWithin0 =>
 if areWithin0=true then
 (Js list0).bind fun isIncreasing0 =>
 some isIncreasing0
 else
 some Bool.false
 else
 some Bool.false
noncomputable def ZxD:Ctr:=⟨[.dat (.sl (.int .i64))],[.dat (.bool)],fun a K=>splitK a fun list0 a=>ZA (ZcU list0) fun r=>K (r,()) ()⟩
noncomputable def Zc1 (t0:Zv):Option Bool :=
 (ZcU (Zv.ZfN t0)).bind fun isAxis0 =>
 if isAxis0=true then
 (ZcU (Zv.Loads t0)).bind fun isAxis1 =>
 if isAxis1=true then
 if (↑(List.length (Zv.Values t0)):Int)=IntKind.i64.wrap ((↑(List.length (Zv.ZfN t0)):Int)*(↑(List.length (Zv.Loads t0)):Int)) then
 (Xq (Zv.Values t0) (-1000000) 1000000).bind fun areWithin0 =>
 some areWithin0
 else
 some Bool.false
 else
 some Bool.false
 else
 some Bool.false
noncomputable def c105:Ctr:=⟨[.dat (YP)],[.dat (.bool)],fun a K=>splitK a fun t0 a=>ZA (Zc1 t0) fun r=>K (r,()) ()⟩
noncomputable def Y7 (x0:List Int) (m0:Int) (i0:Int):Option ((Int×Int×Unit) ⊕ Int) :=
 if i0<(↑(List.length x0):Int) then
 (atI x0 i0).bind fun x2 =>
 some (.inl (Min.min m0 x2,IntKind.i64.wrap (i0+1),()))
 else
 some (.inr m0)
noncomputable def Xv (x0:List Int):Option Int :=
 if (↑(List.length x0):Int)<1 then
 none
 else
 (atI x0 0).bind fun x1 =>
 Zt (fun v=>Y7 x0 v.1 v.2.1) (x1,(1:Int),())
noncomputable def ZyM:Ctr:=⟨[.dat (.sl (.int .i64))],[.dat (.int .i64)],fun a K=>splitK a fun x0 a=>ZA (Xv x0) fun r=>K (r,()) ()⟩
noncomputable def Qb (t0:Zv) (a0:Bool):Option Bool :=
 (Zc1 t0).bind fun IsTable0 =>
 if IsTable0=true then
 if a0=true then
 (Xv (Zv.Values t0)).bind fun int64_0 =>
 some (Decidable.decide (int64_0<0))
 else
 some Bool.false
 else
 some Bool.true
noncomputable def c107:Ctr:=⟨[.dat (YP),.dat (.ptr (.bool))],[.dat (.bool)],fun a K=>splitK a fun t0 a=>splitK a fun a0 a=>ZA (Qb t0 a0) fun r=>K (r,()) ()⟩
noncomputable def ZP (s0:List Zv) (f0:Bool×Unit) (v0:Int):Option ((Int×Unit) ⊕ Int) :=
 if v0<(↑(List.length s0):Int) then
 (atI s0 v0).bind fun x0 =>
 (Qb x0 f0.fst).bind fun c1_0 =>
 if c1_0=true then
 some (.inr v0)
 else
 some (.inl (IntKind.i64.wrap (v0+1),()))
 else
 some (.inr (-1))
noncomputable def ZJ (s0:List Zv) (f0:Bool×Unit):Option Int :=
 Zt (fun v=>ZP s0 f0 v.1) ((0:Int),())
noncomputable def Zxw:Ctr:=⟨[.dat (.sl (YP)),.dat (.fn 276 (.pair (.ptr (.bool)) (.unit)))],[.dat (.int .i64)],fun a K=>splitK a fun s0 a=>splitK a fun f0 a=>ZA (ZJ s0 f0) fun r=>K (r,()) ()⟩
noncomputable def ZF (s0:List Zv) (f0:Bool×Unit):Option Bool :=
 (ZJ s0 f0).bind fun c1_0 =>
 some (Decidable.decide (0≤c1_0))
noncomputable def c109:Ctr:=⟨[.dat (.sl (YP)),.dat (.fn 276 (.pair (.ptr (.bool)) (.unit)))],[.dat (.bool)],fun a K=>splitK a fun s0 a=>splitK a fun f0 a=>ZA (ZF s0 f0) fun r=>K (r,()) ()⟩
noncomputable def Jd (list0:List Zv) (positive0:Bool):Option Bool :=
 if (↑(List.length list0):Int)=2 then
 (ZF list0 (positive0,())).bind fun c1_0 =>
 some !c1_0
 else
 some Bool.false
noncomputable def ZyE:Ctr:=⟨[.dat (.sl (YP)),.dat (.bool)],[.dat (.bool)],fun a K=>splitK a fun list0 a=>splitK a fun positive0 a=>ZA (Jd list0 positive0) fun r=>K (r,()) ()⟩
noncomputable def Zap (p0:YB):Option Bool :=
 some (YB.Clock p0)
noncomputable def Zx9:Ctr:=⟨[.dat (ZcH)],[.dat (.bool)],fun a K=>splitK a fun p0 a=>ZA (Zap p0) fun r=>K (r,()) ()⟩
noncomputable def ZY (s0:List YB) (v0:Int):Option ((Int×Unit) ⊕ Int) :=
 if v0<(↑(List.length s0):Int) then
 (atI s0 v0).bind fun x0 =>
 (Zap x0).bind fun c1_0 =>
 if c1_0=true then
 some (.inr v0)
 else
 some (.inl (IntKind.i64.wrap (v0+1),()))
 else
 some (.inr (-1))
noncomputable def ZQ (s0:List YB) (f0:Unit):Option Int :=
 Zt (fun v=>ZY s0 v.1) ((0:Int),())
noncomputable def Zxg:Ctr:=⟨[.dat (.sl (ZcH)),.dat (.fn 280 (.unit))],[.dat (.int .i64)],fun a K=>splitK a fun s0 a=>splitK a fun f0 a=>ZA (ZQ s0 f0) fun r=>K (r,()) ()⟩
noncomputable def ZaC (c0:Zh):Option Int :=
 (ZQ (Zh.YC c0) ()).bind fun c1_0 =>
 some c1_0
noncomputable def ZyH:Ctr:=⟨[.dat (XY)],[.dat (.int .i64)],fun a K=>splitK a fun c0 a=>ZA (ZaC c0) fun r=>K (r,()) ()⟩
noncomputable def VL (c0:Zh):Option Int :=
 (QN (Zh.YC c0)).bind fun Pin0 =>
 some (IntKind.i64.wrap (Pin0-1))
noncomputable def Zwf:Ctr:=⟨[.dat (XY)],[.dat (.int .i64)],fun a K=>splitK a fun c0 a=>ZA (VL c0) fun r=>K (r,()) ()⟩
noncomputable def Q9 (c0:Zh) (pin0:Int):Option Bool :=
 (VL c0).bind fun output0 =>
 (Yp pin0 0 (IntKind.i64.wrap (output0-1))).bind fun within0 =>
 some within0
noncomputable def ZxF:Ctr:=⟨[.dat (XY),.dat (.int .i64)],[.dat (.bool)],fun a K=>splitK a fun c0 a=>splitK a fun pin0 a=>ZA (Q9 c0 pin0) fun r=>K (r,()) ()⟩
noncomputable def ZaD (a0:Zh) (a1:ZT):Option Bool :=
 (Zc7 (ZT.Kind a1)).bind fun isCheck0 =>
 if isCheck0=true then
 if ZT.ZcB a1=0 then
 if (↑(List.length (ZT.Zih a1)):Int)=0 then
 (Jd (ZT.Delay a1) Bool.false).bind fun areTables0 =>
 if areTables0=true then
 (ZaC a0).bind fun clock0 =>
 if ZT.From a1=clock0 then
 if 0≤ZT.From a1 then
 (Q9 a0 (ZT.To a1)).bind fun isInput0 =>
 if isInput0=true then
 some (!Decidable.decide (ZT.To a1=ZT.From a1))
 else
 some Bool.false
 else
 some Bool.false
 else
 some Bool.false
 else
 some Bool.false
 else
 some Bool.false
 else
 some Bool.false
 else
 (Jd (ZT.Delay a1) Bool.true).bind fun areTables0 =>
 if areTables0=true then
 (Jd (ZT.Zih a1) Bool.true).bind fun areTables1 =>
 if areTables1=true then
 (VL a0).bind fun output0 =>
 if ZT.To a1=output0 then
 (Q9 a0 (ZT.From a1)).bind fun isInput0 =>
 if isInput0=true then
 if ZT.Kind a1=1 then
 (atI (Zh.YC a0) (ZT.From a1)).bind fun x0 =>
 if (YB.Clock x0)=true then
 some Bool.false
 else
 (Yp (ZT.ZcB a1) 1 3).bind fun within0 =>
 some within0
 else
 if ZT.Kind a1=2 then
 if ZT.Kind a1=2 then
 (atI (Zh.YC a0) (ZT.From a1)).bind fun x0 =>
 if (YB.Clock x0)=true then
 some (Decidable.decide (ZT.ZcB a1=0))
 else
 some Bool.false
 else
 some Bool.false
 else
 if ZT.Kind a1=3 then
 (atI (Zh.YC a0) (ZT.From a1)).bind fun x0 =>
 if (YB.Clock x0)=true then
 some (Decidable.decide (ZT.ZcB a1=0))
 else
 some Bool.false
 else
 some Bool.false
 else
 some Bool.false
 else
 some Bool.false
 else
 some Bool.false
 else
 some Bool.false
noncomputable def c116:Ctr:=⟨[.dat (XY),.dat (ZeP)],[.dat (.bool)],fun a K=>splitK a fun a0 a=>splitK a fun a1 a=>ZA (ZaD a0 a1) fun r=>K (r,()) ()⟩
noncomputable def Xb (o0:ZT) (a0:ZT):Option Bool :=
 if ZT.Kind o0=ZT.Kind a0 then
 if ZT.From o0=ZT.From a0 then
 some (Decidable.decide (ZT.To o0=ZT.To a0))
 else
 some Bool.false
 else
 some Bool.false
noncomputable def c117:Ctr:=⟨[.dat (ZeP),.dat (.ptr (ZeP))],[.dat (.bool)],fun a K=>splitK a fun o0 a=>splitK a fun a0 a=>ZA (Xb o0 a0) fun r=>K (r,()) ()⟩
noncomputable def ZR (s0:List ZT) (f0:ZT×Unit) (v0:Int):Option ((Int×Unit) ⊕ Int) :=
 if v0<(↑(List.length s0):Int) then
 (atI s0 v0).bind fun x0 =>
 (Xb x0 f0.fst).bind fun c1_0 =>
 if c1_0=true then
 some (.inr v0)
 else
 some (.inl (IntKind.i64.wrap (v0+1),()))
 else
 some (.inr (-1))
noncomputable def ZK (s0:List ZT) (f0:ZT×Unit):Option Int :=
 Zt (fun v=>ZR s0 f0 v.1) ((0:Int),())
noncomputable def Zxi:Ctr:=⟨[.dat (.sl (ZeP)),.dat (.fn 247 (.pair (.ptr (ZeP)) (.unit)))],[.dat (.int .i64)],fun a K=>splitK a fun s0 a=>splitK a fun f0 a=>ZA (ZK s0 f0) fun r=>K (r,()) ()⟩
noncomputable def ZG (s0:List ZT) (f0:ZT×Unit):Option Bool :=
 (ZK s0 f0).bind fun c1_0 =>
 some (Decidable.decide (0≤c1_0))
noncomputable def c119:Ctr:=⟨[.dat (.sl (ZeP)),.dat (.fn 247 (.pair (.ptr (ZeP)) (.unit)))],[.dat (.bool)],fun a K=>splitK a fun s0 a=>splitK a fun f0 a=>ZA (ZG s0 f0) fun r=>K (r,()) ()⟩
noncomputable def QF (c0:Zh) (v0:Int):Option ((Int×Unit) ⊕ Bool) :=
 if v0<(↑(List.length (Zh.Za7 c0)):Int) then
 (atI (Zh.Za7 c0) v0).bind fun x0 =>
 (ZaD c0 x0).bind fun isArc0 =>
 if isArc0=true then
 Zx ((0:Int)≤v0) <|
 Zx (v0≤(↑(List.length (Zh.Za7 c0)):Int)) <|
 (ZG (List.take (Int.toNat v0-Int.toNat 0) (List.drop (Int.toNat 0) (Zh.Za7 c0))) (x0,())).bind fun c1_0 =>
 if c1_0=true then
 some (.inr Bool.false)
 else
 some (.inl (IntKind.i64.wrap (v0+1),()))
 else
 some (.inr Bool.false)
 else
 some (.inr (Decidable.decide ((↑(List.length (Zh.Za7 c0)):Int)≤8)))
noncomputable def Jl (c0:Zh):Option Bool :=
 Zt (fun v=>QF c0 v.1) ((0:Int),())
noncomputable def Zw7:Ctr:=⟨[.dat (XY)],[.dat (.bool)],fun a K=>splitK a fun c0 a=>ZA (Jl c0) fun r=>K (r,()) ()⟩
noncomputable def J7 (a0:ZT) (a1:Int):Option Bool :=
 some (Decidable.decide (ZT.Kind a0=a1))
noncomputable def ZxE:Ctr:=⟨[.dat (ZeP),.dat (.ptr (.int .i64))],[.dat (.bool)],fun a K=>splitK a fun a0 a=>splitK a fun a1 a=>ZA (J7 a0 a1) fun r=>K (r,()) ()⟩
noncomputable def Z5 (s0:List ZT) (f0:Int×Unit) (v0:Int):Option ((Int×Unit) ⊕ Int) :=
 if v0<(↑(List.length s0):Int) then
 (atI s0 v0).bind fun x0 =>
 (J7 x0 f0.fst).bind fun c1_0 =>
 if c1_0=true then
 some (.inr v0)
 else
 some (.inl (IntKind.i64.wrap (v0+1),()))
 else
 some (.inr (-1))
noncomputable def ZW (s0:List ZT) (f0:Int×Unit):Option Int :=
 Zt (fun v=>Z5 s0 f0 v.1) ((0:Int),())
noncomputable def Zyf:Ctr:=⟨[.dat (.sl (ZeP)),.dat (.fn 266 (.pair (.ptr (.int .i64)) (.unit)))],[.dat (.int .i64)],fun a K=>splitK a fun s0 a=>splitK a fun f0 a=>ZA (ZW s0 f0) fun r=>K (r,()) ()⟩
noncomputable def ZO (s0:List ZT) (f0:Int×Unit):Option Bool :=
 (ZW s0 f0).bind fun c1_0 =>
 some (Decidable.decide (0≤c1_0))
noncomputable def Zyb:Ctr:=⟨[.dat (.sl (ZeP)),.dat (.fn 266 (.pair (.ptr (.int .i64)) (.unit)))],[.dat (.bool)],fun a K=>splitK a fun s0 a=>splitK a fun f0 a=>ZA (ZO s0 f0) fun r=>K (r,()) ()⟩
noncomputable def QA (c0:Zh) (kind0:Int):Option Bool :=
 (ZO (Zh.Za7 c0) (kind0,())).bind fun c1_0 =>
 some c1_0
noncomputable def c124:Ctr:=⟨[.dat (XY),.dat (.int .i64)],[.dat (.bool)],fun a K=>splitK a fun c0 a=>splitK a fun kind0 a=>ZA (QA c0 kind0) fun r=>K (r,()) ()⟩
noncomputable def Y2 (a0:Zh) (v0:Int) (v1:Int):Option ((Int×Int×Unit) ⊕ Bool) :=
 if v1<(↑(List.length (Zh.YC a0)):Int) then
 (atI (Zh.YC a0) v1).bind fun x0 =>
 if (YB.Clock x0)=true then
 some (.inl (IntKind.i64.wrap (v0+1),IntKind.i64.wrap (v1+1),()))
 else
 some (.inl (v0,IntKind.i64.wrap (v1+1),()))
 else
 if Zh.Kind a0=1 then
 if v0=0 then
 (VL a0).bind fun output0 =>
 Zx ((0:Int)≤output0) <|
 if (↑(List.length (Zh.Truth a0)):Int)=IntKind.i64.wrap (1*2 ^ Min.min (Int.toNat output0) (IntKind.bits IntKind.i64)) then
 (Xq (Zh.Truth a0) 0 1).bind fun areWithin0 =>
 some (.inr areWithin0)
 else
 some (.inr Bool.false)
 else
 some (.inr Bool.false)
 else
 if Zh.Kind a0=2 then
 if v0=1 then
 if (↑(List.length (Zh.Truth a0)):Int)=0 then
 (QA a0 1).bind fun has0 =>
 if has0=true then
 some (.inr Bool.false)
 else
 (QA a0 2).bind fun has1 =>
 (QA a0 3).bind fun has2 =>
 some (.inr (!has1 == has2))
 else
 some (.inr Bool.false)
 else
 some (.inr Bool.false)
 else
 if Zh.Kind a0=3 then
 if v0=1 then
 if (↑(List.length (Zh.Truth a0)):Int)=0 then
 (QA a0 1).bind fun has0 =>
 if has0=true then
 (QA a0 2).bind fun has1 =>
 if has1=true then
 (QA a0 3).bind fun has2 =>
 some (.inr !has2)
 else
 some (.inr Bool.false)
 else
 some (.inr Bool.false)
 else
 some (.inr Bool.false)
 else
 some (.inr Bool.false)
 else
 some (.inr Bool.false)
noncomputable def VG (a0:Zh):Option Bool :=
 Zt (fun v=>Y2 a0 v.1 v.2.1) ((0:Int),(0:Int),())
noncomputable def ZxM:Ctr:=⟨[.dat (XY)],[.dat (.bool)],fun a K=>splitK a fun a0 a=>ZA (VG a0) fun r=>K (r,()) ()⟩
noncomputable def Zd7 (c0:Zh):Option Bool :=
 (ZbR (Zh.Name c0)).bind fun isName0 =>
 if isName0=true then
 (Zdf (Zh.YC c0)).bind fun arePins0 =>
 if arePins0=true then
 (Jl c0).bind fun areArcs0 =>
 if areArcs0=true then
 (Yp (Zh.Ztj c0) 0 100000).bind fun within0 =>
 if within0=true then
 (Yp (Zh.Zid c0) 0 100000).bind fun within1 =>
 if within1=true then
 (VG c0).bind fun isOfKind0 =>
 some isOfKind0
 else
 some Bool.false
 else
 some Bool.false
 else
 some Bool.false
 else
 some Bool.false
 else
 some Bool.false
noncomputable def Zyt:Ctr:=⟨[.dat (XY)],[.dat (.bool)],fun a K=>splitK a fun c0 a=>ZA (Zd7 c0) fun r=>K (r,()) ()⟩
noncomputable def XH (l0:Zk) (names0:List (List UInt8)) (v0:Int):Option (((List (List UInt8))×Int×Unit) ⊕ Bool) :=
 if v0<(↑(List.length (Zk.Cells l0)):Int) then
 (atI (Zk.Cells l0) v0).bind fun x0 =>
 (Zd7 x0).bind fun IsCell0 =>
 if IsCell0=true then
 Zx ((List.length names0+List.length [Zh.Name x0])*(16:Nat)≤(140737488355328:Nat)) <|
 some (.inl (names0++[Zh.Name x0],IntKind.i64.wrap (v0+(1:Int)),()))
 else
 some (.inr Bool.false)
 else
 if (↑(List.length (Zk.Cells l0)):Int)≤8 then
 (Vn names0).bind fun areNames0 =>
 some (.inr areNames0)
 else
 some (.inr Bool.false)
noncomputable def Zbz (l0:Zk):Option Bool :=
 Zt (fun v=>XH l0 v.1 v.2.1) (([]:List (List UInt8)),(0:Int),())
noncomputable def c127:Ctr:=⟨[.dat (YE)],[.dat (.bool)],fun a K=>splitK a fun l0 a=>ZA (Zbz l0) fun r=>K (r,()) ()⟩
noncomputable def XC (d0:Za) (instances0:List (List UInt8)) (ports0:List (List UInt8)) (v1:Int):Option (((List (List UInt8))×Int×Unit) ⊕ (((List (List UInt8))×Int×Unit) ⊕ Bool)) :=
 if v1<(↑(List.length (Za.ZX d0)):Int) then
 (atI (Za.ZX d0) v1).bind fun x0 =>
 Zx ((List.length ports0+List.length [ZL.Name x0])*(16:Nat)≤(140737488355328:Nat)) <|
 some (.inl (ports0++[ZL.Name x0],IntKind.i64.wrap (v1+(1:Int)),()))
 else
 if (↑(List.length instances0):Int)≤14 then
 if (↑(List.length (Za.ZM d0)):Int)≤30 then
 if (↑(List.length ports0):Int)≤8 then
 (Vn instances0).bind fun areNames0 =>
 if areNames0=true then
 (Vn (Za.ZM d0)).bind fun areNames1 =>
 if areNames1=true then
 (Vn ports0).bind fun areNames2 =>
 some (.inr (.inr areNames2))
 else
 some (.inr (.inr Bool.false))
 else
 some (.inr (.inr Bool.false))
 else
 some (.inr (.inr Bool.false))
 else
 some (.inr (.inr Bool.false))
 else
 some (.inr (.inr Bool.false))
noncomputable def XB (d0:Za) (instances0:List (List UInt8)) (v0:Int):Option (((List (List UInt8))×Int×Unit) ⊕ Bool) :=
 if v0<(↑(List.length (Za.Instances d0)):Int) then
 (atI (Za.Instances d0) v0).bind fun x0 =>
 Zx ((List.length instances0+List.length [Zd.Name x0])*(16:Nat)≤(140737488355328:Nat)) <|
 some (.inl (instances0++[Zd.Name x0],IntKind.i64.wrap (v0+(1:Int)),()))
 else
 Zt (fun v=>XC d0 instances0 v.1 v.2.1) (([]:List (List UInt8)),(0:Int),())
noncomputable def QM (d0:Za):Option Bool :=
 Zt (fun v=>XB d0 v.1 v.2.1) (([]:List (List UInt8)),(0:Int),())
noncomputable def ZxT:Ctr:=⟨[.dat (Yr)],[.dat (.bool)],fun a K=>splitK a fun d0 a=>ZA (QM d0) fun r=>K (r,()) ()⟩
noncomputable def Y3 (list0:List Zh):Option Int :=
 some (↑(List.length list0):Int)
noncomputable def ZwO:Ctr:=⟨[.dat (.sl (XY))],[.dat (.int .i64)],fun a K=>splitK a fun list0 a=>ZA (Y3 list0) fun r=>K (r,()) ()⟩
noncomputable def YS (list0:List (List UInt8)):Option Int :=
 some (↑(List.length list0):Int)
noncomputable def c130:Ctr:=⟨[.dat (.sl (.str))],[.dat (.int .i64)],fun a K=>splitK a fun list0 a=>ZA (YS list0) fun r=>K (r,()) ()⟩
noncomputable def YD (d0:Za) (net0:Int):Option Bool :=
 (YS (Za.ZM d0)).bind fun string0 =>
 (Yp net0 0 (IntKind.i64.wrap (string0-1))).bind fun within0 =>
 some within0
noncomputable def c131:Ctr:=⟨[.dat (Yr),.dat (.int .i64)],[.dat (.bool)],fun a K=>splitK a fun d0 a=>splitK a fun net0 a=>ZA (YD d0 net0) fun r=>K (r,()) ()⟩
noncomputable def YT (net0:Int) (a0:Za):Option Bool :=
 (YD a0 net0).bind fun isNet0 =>
 some !isNet0
noncomputable def Zxr:Ctr:=⟨[.dat (.int .i64),.dat (.ptr (Yr))],[.dat (.bool)],fun a K=>splitK a fun net0 a=>splitK a fun a0 a=>ZA (YT net0 a0) fun r=>K (r,()) ()⟩
noncomputable def ZU (s0:List Int) (f0:Za×Unit) (v0:Int):Option ((Int×Unit) ⊕ Int) :=
 if v0<(↑(List.length s0):Int) then
 (atI s0 v0).bind fun x0 =>
 (YT x0 f0.fst).bind fun c1_0 =>
 if c1_0=true then
 some (.inr v0)
 else
 some (.inl (IntKind.i64.wrap (v0+1),()))
 else
 some (.inr (-1))
noncomputable def ZN (s0:List Int) (f0:Za×Unit):Option Int :=
 Zt (fun v=>ZU s0 f0 v.1) ((0:Int),())
noncomputable def ZxC:Ctr:=⟨[.dat (.sl (.int .i64)),.dat (.fn 189 (.pair (.ptr (Yr)) (.unit)))],[.dat (.int .i64)],fun a K=>splitK a fun s0 a=>splitK a fun f0 a=>ZA (ZN s0 f0) fun r=>K (r,()) ()⟩
noncomputable def ZI (s0:List Int) (f0:Za×Unit):Option Bool :=
 (ZN s0 f0).bind fun c1_0 =>
 some (Decidable.decide (0≤c1_0))
noncomputable def Zxd:Ctr:=⟨[.dat (.sl (.int .i64)),.dat (.fn 189 (.pair (.ptr (Yr)) (.unit)))],[.dat (.bool)],fun a K=>splitK a fun s0 a=>splitK a fun f0 a=>ZA (ZI s0 f0) fun r=>K (r,()) ()⟩
noncomputable def XM (d0:Za) (l0:Zk) (x0:Zd):Option Bool :=
 (Y3 (Zk.Cells l0)).bind fun Cell0 =>
 (Yp (Zd.Cell x0) 0 (IntKind.i64.wrap (Cell0-1))).bind fun within0 =>
 if within0=true then
 (atI (Zk.Cells l0) (Zd.Cell x0)).bind fun x1 =>
 if (↑(List.length (Zd.ZM x0)):Int)=(↑(List.length (Zh.YC x1)):Int) then
 (ZI (Zd.ZM x0) (d0,())).bind fun c1_0 =>
 some !c1_0
 else
 some Bool.false
 else
 some Bool.false
noncomputable def ZxG:Ctr:=⟨[.dat (Yr),.dat (YE),.dat (Z6)],[.dat (.bool)],fun a K=>splitK a fun d0 a=>splitK a fun l0 a=>splitK a fun x0 a=>ZA (XM d0 l0 x0) fun r=>K (r,()) ()⟩
noncomputable def J9 (n0:Int):Option Bool :=
 some (!Decidable.decide (n0=1))
noncomputable def Zxn:Ctr:=⟨[.dat (.int .i64)],[.dat (.bool)],fun a K=>splitK a fun n0 a=>ZA (J9 n0) fun r=>K (r,()) ()⟩
noncomputable def Yg (s0:List Int) (v0:Int):Option ((Int×Unit) ⊕ Int) :=
 if v0<(↑(List.length s0):Int) then
 (atI s0 v0).bind fun x0 =>
 (J9 x0).bind fun c1_0 =>
 if c1_0=true then
 some (.inr v0)
 else
 some (.inl (IntKind.i64.wrap (v0+1),()))
 else
 some (.inr (-1))
noncomputable def Yf (s0:List Int) (f0:Unit):Option Int :=
 Zt (fun v=>Yg s0 v.1) ((0:Int),())
noncomputable def ZxK:Ctr:=⟨[.dat (.sl (.int .i64)),.dat (.fn 135 (.unit))],[.dat (.int .i64)],fun a K=>splitK a fun s0 a=>splitK a fun f0 a=>ZA (Yf s0 f0) fun r=>K (r,()) ()⟩
noncomputable def Ya (s0:List Int) (f0:Unit):Option Bool :=
 (Yf s0 ()).bind fun c1_0 =>
 some (Decidable.decide (0≤c1_0))
noncomputable def c138:Ctr:=⟨[.dat (.sl (.int .i64)),.dat (.fn 135 (.unit))],[.dat (.bool)],fun a K=>splitK a fun s0 a=>splitK a fun f0 a=>ZA (Ya s0 f0) fun r=>K (r,()) ()⟩
noncomputable def Qa (a1:Za) (v1:Int) (l1:List Int):Option ((Int×(List Int)×Unit) ⊕ ((Int×(List Int)×Unit) ⊕ Bool)) :=
 if v1<(↑(List.length (Za.ZX a1)):Int) then
 (atI (Za.ZX a1) v1).bind fun x0 =>
 if ZL.Dir x0=1 then
 (YD a1 (ZL.Net x0)).bind fun isNet0 =>
 if isNet0=true then
 if ZL.Dir x0=1 then
 (atI l1 (ZL.Net x0)).bind fun x1 =>
 some (.inl (IntKind.i64.wrap (v1+1),List.set l1 (Int.toNat (ZL.Net x0)) (IntKind.i64.wrap (x1+1)),()))
 else
 some (.inl (IntKind.i64.wrap (v1+1),l1,()))
 else
 some (.inr (.inr Bool.false))
 else
 if ZL.Dir x0=2 then
 (YD a1 (ZL.Net x0)).bind fun isNet0 =>
 if isNet0=true then
 if ZL.Dir x0=1 then
 (atI l1 (ZL.Net x0)).bind fun x1 =>
 some (.inl (IntKind.i64.wrap (v1+1),List.set l1 (Int.toNat (ZL.Net x0)) (IntKind.i64.wrap (x1+1)),()))
 else
 some (.inl (IntKind.i64.wrap (v1+1),l1,()))
 else
 some (.inr (.inr Bool.false))
 else
 some (.inr (.inr Bool.false))
 else
 (Ya l1 ()).bind fun c1_0 =>
 some (.inr (.inr !c1_0))
noncomputable def Vg (a0:Zk) (a1:Za) (v0:Int) (l0:List Int):Option ((Int×(List Int)×Unit) ⊕ Bool) :=
 if v0<(↑(List.length (Za.Instances a1)):Int) then
 (atI (Za.Instances a1) v0).bind fun x0 =>
 (XM a1 a0 x0).bind fun isInstance0 =>
 if isInstance0=true then
 (atI (Zd.ZM x0) (IntKind.i64.wrap ((↑(List.length (Zd.ZM x0)):Int)-1))).bind fun x1 =>
 (atI l0 x1).bind fun x2 =>
 some (.inl (IntKind.i64.wrap (v0+1),List.set l0 (Int.toNat x1) (IntKind.i64.wrap (x2+1)),()))
 else
 some (.inr Bool.false)
 else
 Zt (fun v=>Qa a1 v.1 v.2.1) ((0:Int),l0,())
noncomputable def Zcf (a0:Zk) (a1:Za):Option Bool :=
 (Zbz a0).bind fun IsLibrary0 =>
 if IsLibrary0=true then
 (QM a1).bind fun hasNames0 =>
 if hasNames0=true then
 Zx ((0:Int)≤(↑(List.length (Za.ZM a1)):Int)) <|
 Zx ((↑(List.length (Za.ZM a1)):Int)≤(↑(List.length (Za.ZM a1)):Int)) <|
 Zx ((↑(List.length (Za.ZM a1)):Int)≤(4611686018427387904:Int)) <|
 Zx ((↑(8:Nat):Int)*(↑(List.length (Za.ZM a1)):Int)≤(281474976710656:Int)) <|
 Zt (fun v=>Vg a0 a1 v.1 v.2.1) ((0:Int),List.replicate (Int.toNat (↑(List.length (Za.ZM a1)):Int)) (0:Int),())
 else
 some Bool.false
 else
 some Bool.false
noncomputable def c139:Ctr:=⟨[.dat (YE),.dat (Yr)],[.dat (.bool)],fun a K=>splitK a fun a0 a=>splitK a fun a1 a=>ZA (Zcf a0 a1) fun r=>K (r,()) ()⟩
noncomputable def Qi (v0:Int) (x0:Zd) (list1:List Yc) (v1:Int):Option (((List Yc)×Int×Unit) ⊕ (((List Yc)×Int×Unit) ⊕ List Yc)) :=
 if v1<(↑(List.length (Zd.ZM x0)):Int) then
 (atI (Zd.ZM x0) v1).bind fun x1 =>
 Zx ((List.length list1+List.length [(v0,v1,x1,Decidable.decide (v1=IntKind.i64.wrap ((↑(List.length (Zd.ZM x0)):Int)-(1:Int))),())])*(32:Nat)≤(140737488355328:Nat)) <|
 some (.inl (list1++[(v0,v1,x1,Decidable.decide (v1=IntKind.i64.wrap ((↑(List.length (Zd.ZM x0)):Int)-(1:Int))),())],IntKind.i64.wrap (v1+(1:Int)),()))
 else
 some (.inr (.inl (list1,IntKind.i64.wrap (v0+1),())))
noncomputable def Ql (d0:Za) (list1:List Yc) (v1:Int):Option (((List Yc)×Int×Unit) ⊕ (((List Yc)×Int×Unit) ⊕ List Yc)) :=
 if v1<(↑(List.length (Za.ZX d0)):Int) then
 (atI (Za.ZX d0) v1).bind fun x0 =>
 Zx ((List.length list1+List.length [((-1:Int),v1,ZL.Net x0,Decidable.decide (ZL.Dir x0=(1:Int)),())])*(32:Nat)≤(140737488355328:Nat)) <|
 some (.inl (list1++[((-1:Int),v1,ZL.Net x0,Decidable.decide (ZL.Dir x0=(1:Int)),())],IntKind.i64.wrap (v1+(1:Int)),()))
 else
 some (.inr (.inr list1))
noncomputable def Qc (d0:Za) (list0:List Yc) (v0:Int):Option (((List Yc)×Int×Unit) ⊕ List Yc) :=
 if v0<(↑(List.length (Za.Instances d0)):Int) then
 (atI (Za.Instances d0) v0).bind fun x0 =>
 Zt (fun v=>Qi v0 x0 v.1 v.2.1) (list0,(0:Int),())
 else
 Zt (fun v=>Ql d0 v.1 v.2.1) (list0,(0:Int),())
noncomputable def Yh (d0:Za):Option (List Yc) :=
 Zt (fun v=>Qc d0 v.1 v.2.1) (([]:List Yc),(0:Int),())
noncomputable def Zra:Ctr:=⟨[.dat (Yr)],[.own (.ol 115 (.flat (Zjr)))],fun a K=>splitK a fun d0 a=>ZA (Yh d0) fun r=>K (r,()) ()⟩
noncomputable def Q7 (w0:Zn) (v0:Int):Option ((Int×Unit) ⊕ Bool) :=
 if v0<(↑(List.length (Zn.Parent w0)):Int) then
 (atI (Zn.Parent w0) v0).bind fun x0 =>
 if v0=0 then
 if x0=(-1) then
 (atI (Zn.Res w0) 0).bind fun x1 =>
 if x1=0 then
 if 0<v0 then
 (Yp x0 0 (IntKind.i64.wrap (v0-1))).bind fun within0 =>
 if within0=true then
 some (.inl (IntKind.i64.wrap (v0+1),()))
 else
 some (.inr Bool.false)
 else
 some (.inl (IntKind.i64.wrap (v0+1),()))
 else
 some (.inr Bool.false)
 else
 some (.inr Bool.false)
 else
 if 0<v0 then
 (Yp x0 0 (IntKind.i64.wrap (v0-1))).bind fun within0 =>
 if within0=true then
 some (.inl (IntKind.i64.wrap (v0+1),()))
 else
 some (.inr Bool.false)
 else
 some (.inl (IntKind.i64.wrap (v0+1),()))
 else
 some (.inr Bool.true)
noncomputable def J5 (w0:Zn):Option Bool :=
 Zt (fun v=>Q7 w0 v.1) ((0:Int),())
noncomputable def c141:Ctr:=⟨[.dat (XR)],[.dat (.bool)],fun a K=>splitK a fun w0 a=>ZA (J5 w0) fun r=>K (r,()) ()⟩
noncomputable def Zc0 (w0:Zn) (sinks0:Int):Option Bool :=
 (YK (Zn.Parent w0)).bind fun int64_0 =>
 (Yp int64_0 1 8).bind fun within0 =>
 if within0=true then
 (YK (Zn.Res w0)).bind fun int64_1 =>
 if int64_1=int64_0 then
 (YK (Zn.Cap w0)).bind fun int64_2 =>
 if int64_2=int64_0 then
 (J5 w0).bind fun isTree0 =>
 if isTree0=true then
 (Xq (Zn.Res w0) 0 1000).bind fun areWithin0 =>
 if areWithin0=true then
 (Xq (Zn.Cap w0) 0 500).bind fun areWithin1 =>
 if areWithin1=true then
 (YK (Zn.Zfx w0)).bind fun int64_3 =>
 if int64_3=sinks0 then
 (Xq (Zn.Zfx w0) 0 (IntKind.i64.wrap (int64_0-1))).bind fun areWithin2 =>
 some areWithin2
 else
 some Bool.false
 else
 some Bool.false
 else
 some Bool.false
 else
 some Bool.false
 else
 some Bool.false
 else
 some Bool.false
 else
 some Bool.false
noncomputable def Zwq:Ctr:=⟨[.dat (XR),.dat (.int .i64)],[.dat (.bool)],fun a K=>splitK a fun w0 a=>splitK a fun sinks0 a=>ZA (Zc0 w0 sinks0) fun r=>K (r,()) ()⟩
noncomputable def Zah (b0:Zb) (l0:List Int) (v1:Int):Option ((Int×Unit) ⊕ ((Int×(List Int)×Unit) ⊕ Bool)) :=
 if v1<(↑(List.length (Zb.Zw b0)):Int) then
 (atI (Zb.Zw b0) v1).bind fun x0 =>
 (atI l0 v1).bind fun x1 =>
 (Zc0 x0 x1).bind fun IsWire0 =>
 if IsWire0=true then
 some (.inl (IntKind.i64.wrap (v1+1),()))
 else
 some (.inr (.inr Bool.false))
 else
 some (.inr (.inr Bool.true))
noncomputable def VD (b0:Zb) (places0:List Yc) (v0:Int) (l0:List Int):Option ((Int×(List Int)×Unit) ⊕ Bool) :=
 if v0<(↑(List.length places0):Int) then
 (atI places0 v0).bind fun x0 =>
 if (Yc.drives x0)=true then
 some (.inl (IntKind.i64.wrap (v0+1),l0,()))
 else
 (atI l0 (Yc.net x0)).bind fun x1 =>
 some (.inl (IntKind.i64.wrap (v0+1),List.set l0 (Int.toNat (Yc.net x0)) (IntKind.i64.wrap (x1+1)),()))
 else
 Zt (fun v=>Zah b0 l0 v.1) ((0:Int),())
noncomputable def Zc4 (b0:Zb):Option Bool :=
 (Zcf (Zb.Library b0) (Zb.Design b0)).bind fun IsDesign0 =>
 if IsDesign0=true then
 if (↑(List.length (Zb.Zw b0)):Int)=(↑(List.length (Za.ZM (Zb.Design b0))):Int) then
 Zx ((0:Int)≤(↑(List.length (Zb.Zw b0)):Int)) <|
 Zx ((↑(List.length (Zb.Zw b0)):Int)≤(↑(List.length (Zb.Zw b0)):Int)) <|
 Zx ((↑(List.length (Zb.Zw b0)):Int)≤(4611686018427387904:Int)) <|
 Zx ((↑(8:Nat):Int)*(↑(List.length (Zb.Zw b0)):Int)≤(281474976710656:Int)) <|
 (Yh (Zb.Design b0)).bind fun places0 =>
 Zt (fun v=>VD b0 places0 v.1 v.2.1) ((0:Int),List.replicate (Int.toNat (↑(List.length (Zb.Zw b0)):Int)) (0:Int),())
 else
 some Bool.false
 else
 some Bool.false
noncomputable def c143:Ctr:=⟨[.dat (YL)],[.dat (.bool)],fun a K=>splitK a fun b0 a=>ZA (Zc4 b0) fun r=>K (r,()) ()⟩
noncomputable def YZ (s0:List YB):Option (List YB) :=
 Zx ((List.length (([]:List (List UInt8×Int×Int×Bool×Unit)))+List.length s0)*(40:Nat)≤(140737488355328:Nat)) <|
 some (([]:List (List UInt8×Int×Int×Bool×Unit))++s0)
noncomputable def ZyN:Ctr:=⟨[.dat (.sl (ZcH))],[.own (.ol 218 (.flat (ZcH)))],fun a K=>splitK a fun s0 a=>ZA (YZ s0) fun r=>K (r,()) ()⟩
noncomputable def Z7 (s0:List Int):Option (List Int) :=
 Zx ((List.length (([]:List Int))+List.length s0)*(8:Nat)≤(140737488355328:Nat)) <|
 some (([]:List Int)++s0)
noncomputable def c145:Ctr:=⟨[.dat (.sl (.int .i64))],[.own (.ol 2 (.flat (.int .i64)))],fun a K=>splitK a fun s0 a=>ZA (Z7 s0) fun r=>K (r,()) ()⟩
noncomputable def Y0 (s0:List ZT):Option (List ZT) :=
 Zx ((List.length (([]:List (Int×Int×Int×Int×List Zv×List Zv×Unit)))+List.length s0)*(80:Nat)≤(140737488355328:Nat)) <|
 some (([]:List (Int×Int×Int×Int×List Zv×List Zv×Unit))++s0)
noncomputable def c146:Ctr:=⟨[.dat (.sl (ZeP))],[.own (.ol 235 (.flat (ZeP)))],fun a K=>splitK a fun s0 a=>ZA (Y0 s0) fun r=>K (r,()) ()⟩
noncomputable def XJ (list0:List Zv) (out0:List Zv) (v0:Int):Option (((List Zv)×Int×Unit) ⊕ List Zv) :=
 if v0<(↑(List.length list0):Int) then
 (atI list0 v0).bind fun x0 =>
 (Z7 (Zv.ZfN x0)).bind fun int64_0 =>
 (Z7 (Zv.Loads x0)).bind fun int64_1 =>
 (Z7 (Zv.Values x0)).bind fun int64_2 =>
 Zx ((List.length out0+List.length [(int64_0,int64_1,int64_2,())])*(72:Nat)≤(140737488355328:Nat)) <|
 some (.inl (out0++[(int64_0,int64_1,int64_2,())],IntKind.i64.wrap (v0+(1:Int)),()))
 else
 some (.inr out0)
noncomputable def VN (list0:List Zv):Option (List Zv) :=
 Zt (fun v=>XJ list0 v.1 v.2.1) (([]:List Zv),(0:Int),())
noncomputable def ZxR:Ctr:=⟨[.dat (.sl (YP))],[.own (.ol 263 (ZeJ))],fun a K=>splitK a fun list0 a=>ZA (VN list0) fun r=>K (r,()) ()⟩
noncomputable def QB (v0:Int) (c0:List Zh) (x0:Zh) (Pin0:List YB) (int64_0:List Int) (Arc0:List ZT) (v1:Int) (l1:List ZT×Int):Option ((Int×(List ZT×Int)×Unit) ⊕ ((Int×(List Zh)×Unit) ⊕ Zk)) :=
 if v1<(↑(List.length Arc0):Int) then
 (atI l1.fst v1).bind fun x1 =>
 Zx (l1.snd≤v1) <|
 (VN (ZT.Delay x1)).bind fun cloneTables0 =>
 (VN (ZT.Zih x1)).bind fun cloneTables1 =>
 Zx (v1=l1.snd) <|
 (atI l1.fst l1.snd).bind fun x2 =>
 some (.inl (IntKind.i64.wrap (v1+1),(List.set l1.fst (Int.toNat l1.snd) (ZT.Kind x2,ZT.From x2,ZT.To x2,ZT.ZcB x2,cloneTables0,cloneTables1,()),l1.snd+1),()))
 else
 Zx (l1.snd=(↑(List.length l1.fst):Int)) <|
 Zx ((List.length c0+List.length [(Zh.Name x0,Zh.Kind x0,Pin0,l1.fst,int64_0,x0.snd.snd.snd.snd.snd)])*(112:Nat)≤(140737488355328:Nat)) <|
 some (.inr (.inl (IntKind.i64.wrap (v0+(1:Int)),c0++[(Zh.Name x0,Zh.Kind x0,Pin0,l1.fst,int64_0,x0.snd.snd.snd.snd.snd)],())))
noncomputable def Xz (l0:Zk) (v0:Int) (c0:List Zh):Option ((Int×(List Zh)×Unit) ⊕ Zk) :=
 if v0<(↑(List.length (Zk.Cells l0)):Int) then
 (atI (Zk.Cells l0) v0).bind fun x0 =>
 (YZ (Zh.YC x0)).bind fun Pin0 =>
 (Z7 (Zh.Truth x0)).bind fun int64_0 =>
 (Y0 (Zh.Za7 x0)).bind fun Arc0 =>
 Zt (fun v=>QB v0 c0 x0 Pin0 int64_0 Arc0 v.1 v.2.1) ((0:Int),(Arc0,(0:Int)),())
 else
 some (.inr (c0,()))
noncomputable def Jj (l0:Zk):Option Zk :=
 Zt (fun v=>Xz l0 v.1 v.2.1) ((0:Int),([]:List Zh),())
noncomputable def c148:Ctr:=⟨[.dat (YE)],[.own (ZjJ)],fun a K=>splitK a fun l0 a=>ZA (Jj l0) fun r=>K (r,()) ()⟩
noncomputable def Yu (s0:List Zd):Option (List Zd) :=
 Zx ((List.length (([]:List (List UInt8×Int×List Int×Unit)))+List.length s0)*(48:Nat)≤(140737488355328:Nat)) <|
 some (([]:List (List UInt8×Int×List Int×Unit))++s0)
noncomputable def Zxa:Ctr:=⟨[.dat (.sl (Z6))],[.own (.ol 124 (.flat (Z6)))],fun a K=>splitK a fun s0 a=>ZA (Yu s0) fun r=>K (r,()) ()⟩
noncomputable def Xn (s0:List (List UInt8)):Option (List (List UInt8)) :=
 Zx ((List.length (([]:List (List UInt8)))+List.length s0)*(16:Nat)≤(140737488355328:Nat)) <|
 some (([]:List (List UInt8))++s0)
noncomputable def Zxv:Ctr:=⟨[.dat (.sl (.str))],[.own (.ol 9 (.flat (.str)))],fun a K=>splitK a fun s0 a=>ZA (Xn s0) fun r=>K (r,()) ()⟩
noncomputable def YR (s0:List ZL):Option (List ZL) :=
 Zx ((List.length (([]:List (List UInt8×Int×Int×Unit)))+List.length s0)*(32:Nat)≤(140737488355328:Nat)) <|
 some (([]:List (List UInt8×Int×Int×Unit))++s0)
noncomputable def Zw8:Ctr:=⟨[.dat (.sl (Vz))],[.own (.ol 178 (.flat (Vz)))],fun a K=>splitK a fun s0 a=>ZA (YR s0) fun r=>K (r,()) ()⟩
noncomputable def QH (Instance0:List Zd) (string0:List (List UInt8)) (Port0:List ZL) (v0:Int) (l0:List Zd×Int):Option ((Int×(List Zd×Int)×Unit) ⊕ Za) :=
 if v0<(↑(List.length Instance0):Int) then
 (atI l0.fst v0).bind fun x0 =>
 Zx (l0.snd≤v0) <|
 (Z7 (Zd.ZM x0)).bind fun int64_0 =>
 Zx (v0=l0.snd) <|
 (atI l0.fst l0.snd).bind fun x1 =>
 some (.inl (IntKind.i64.wrap (v0+1),(List.set l0.fst (Int.toNat l0.snd) (Zd.Name x1,Zd.Cell x1,int64_0,()),l0.snd+1),()))
 else
 Zx (l0.snd=(↑(List.length l0.fst):Int)) <|
 some (.inr (l0.fst,string0,Port0,()))
noncomputable def Ju (d0:Za):Option Za :=
 (Yu (Za.Instances d0)).bind fun Instance0 =>
 (Xn (Za.ZM d0)).bind fun string0 =>
 (YR (Za.ZX d0)).bind fun Port0 =>
 Zt (fun v=>QH Instance0 string0 Port0 v.1 v.2.1) ((0:Int),(Instance0,(0:Int)),())
noncomputable def c152:Ctr:=⟨[.dat (Yr)],[.own (Zky)],fun a K=>splitK a fun d0 a=>ZA (Ju d0) fun r=>K (r,()) ()⟩
noncomputable def Vt (w0:Zn):Option Zn :=
 (Z7 (Zn.Parent w0)).bind fun int64_0 =>
 (Z7 (Zn.Res w0)).bind fun int64_1 =>
 (Z7 (Zn.Cap w0)).bind fun int64_2 =>
 (Z7 (Zn.Zfx w0)).bind fun int64_3 =>
 some (int64_0,int64_1,int64_2,int64_3,())
noncomputable def ZvL:Ctr:=⟨[.dat (XR)],[.own (Zha)],fun a K=>splitK a fun w0 a=>ZA (Vt w0) fun r=>K (r,()) ()⟩
noncomputable def XO (b0:Zb) (cloneLibrary0:Zk) (clone0:Za) (v0:Int) (c0:List Zn):Option ((Int×(List Zn)×Unit) ⊕ Zb) :=
 if v0<(↑(List.length (Zb.Zw b0)):Int) then
 (atI (Zb.Zw b0) v0).bind fun x0 =>
 (Vt x0).bind fun clone1 =>
 Zx ((List.length c0+List.length [clone1])*(96:Nat)≤(140737488355328:Nat)) <|
 some (.inl (IntKind.i64.wrap (v0+(1:Int)),c0++[clone1],()))
 else
 some (.inr (cloneLibrary0,clone0,c0,()))
noncomputable def QT (b0:Zb):Option Zb :=
 (Jj (Zb.Library b0)).bind fun cloneLibrary0 =>
 (Ju (Zb.Design b0)).bind fun clone0 =>
 Zt (fun v=>XO b0 cloneLibrary0 clone0 v.1 v.2.1) ((0:Int),([]:List Zn),())
noncomputable def c154:Ctr:=⟨[.dat (YL)],[.own (Zdv)],fun a K=>splitK a fun b0 a=>ZA (QT b0) fun r=>K (r,()) ()⟩
noncomputable def Zb3 (e0:Zf):Option Zf :=
 if Zf.Kind e0=1 then
 some (Zf.Kind e0,Zf.Place e0,Zf.Cell e0,(0:Int),(0:Int),([]:List UInt8),(([]:List Int),([]:List Int),([]:List Int),([]:List Int),()),())
 else
 if Zf.Kind e0=2 then
 some (Zf.Kind e0,Zf.Place e0,Zf.Cell e0,(0:Int),(0:Int),Zf.Name e0,(([]:List Int),([]:List Int),([]:List Int),([]:List Int),()),())
 else
 if Zf.Kind e0=4 then
 some (Zf.Kind e0,Zf.Place e0,(0:Int),Zf.Net e0,Zf.Node e0,([]:List UInt8),(([]:List Int),([]:List Int),([]:List Int),([]:List Int),()),())
 else
 if Zf.Kind e0=5 then
 some (Zf.Kind e0,(0:Int),(0:Int),Zf.Net e0,(0:Int),([]:List UInt8),e0.snd.snd.snd.snd.snd.snd)
 else
 some (Zf.Kind e0,(0:Int),(0:Int),(0:Int),(0:Int),([]:List UInt8),(([]:List Int),([]:List Int),([]:List Int),([]:List Int),()),())
noncomputable def Zx1:Ctr:=⟨[.dat (Ym)],[.dat (Ym)],fun a K=>splitK a fun e0 a=>ZA (Zb3 e0) fun r=>K (r,()) ()⟩
noncomputable def Y1 (s1_0:List Int) (s2_0:List Int) (v0:Int):Option ((Int×Unit) ⊕ Bool) :=
 if v0<(↑(List.length s1_0):Int) then
 (atI s1_0 v0).bind fun x0 =>
 (atI s2_0 v0).bind fun x1 =>
 if x0=x1 then
 some (.inl (IntKind.i64.wrap (v0+1),()))
 else
 some (.inr Bool.false)
 else
 some (.inr Bool.true)
noncomputable def Yy (s1_0:List Int) (s2_0:List Int):Option Bool :=
 if (↑(List.length s1_0):Int)=(↑(List.length s2_0):Int) then
 Zt (fun v=>Y1 s1_0 s2_0 v.1) ((0:Int),())
 else
 some Bool.false
noncomputable def c156:Ctr:=⟨[.dat (.sl (.int .i64)),.dat (.sl (.int .i64))],[.dat (.bool)],fun a K=>splitK a fun s1_0 a=>splitK a fun s2_0 a=>ZA (Yy s1_0 s2_0) fun r=>K (r,()) ()⟩
noncomputable def Zb4 (a0:Zn) (b0:Zn):Option Bool :=
 (Yy (Zn.Parent a0) (Zn.Parent b0)).bind fun int64_0 =>
 if int64_0=true then
 (Yy (Zn.Res a0) (Zn.Res b0)).bind fun int64_1 =>
 if int64_1=true then
 (Yy (Zn.Cap a0) (Zn.Cap b0)).bind fun int64_2 =>
 if int64_2=true then
 (Yy (Zn.Zfx a0) (Zn.Zfx b0)).bind fun int64_3 =>
 some int64_3
 else
 some Bool.false
 else
 some Bool.false
 else
 some Bool.false
noncomputable def c157:Ctr:=⟨[.dat (XR),.dat (XR)],[.dat (.bool)],fun a K=>splitK a fun a0 a=>splitK a fun b0 a=>ZA (Zb4 a0 b0) fun r=>K (r,()) ()⟩
noncomputable def Za3 (a0:Zf) (b0:Zf):Option Bool :=
 if Zf.Kind a0=Zf.Kind b0 then
 if Zf.Place a0=Zf.Place b0 then
 if Zf.Cell a0=Zf.Cell b0 then
 if Zf.Net a0=Zf.Net b0 then
 if Zf.Node a0=Zf.Node b0 then
 if Zf.Name a0=Zf.Name b0 then
 (Zb4 (Zf.Zdl a0) (Zf.Zdl b0)).bind fun sameWire0 =>
 some sameWire0
 else
 some Bool.false
 else
 some Bool.false
 else
 some Bool.false
 else
 some Bool.false
 else
 some Bool.false
 else
 some Bool.false
noncomputable def Zyu:Ctr:=⟨[.dat (Ym),.dat (Ym)],[.dat (.bool)],fun a K=>splitK a fun a0 a=>splitK a fun b0 a=>ZA (Za3 a0 b0) fun r=>K (r,()) ()⟩
noncomputable def Q5 (list0:List Yc):Option Int :=
 some (↑(List.length list0):Int)
noncomputable def c159:Ctr:=⟨[.dat (.sl (Zjr))],[.dat (.int .i64)],fun a K=>splitK a fun list0 a=>ZA (Q5 list0) fun r=>K (r,()) ()⟩
noncomputable def Vd (a0:Zf) (a1:Zb):Option Bool :=
 (Yp (Zf.Kind a0) 1 5).bind fun within0 =>
 if within0=true then
 (Zb3 a0).bind fun own0 =>
 (Za3 a0 own0).bind fun sameEdit0 =>
 if sameEdit0=true then
 (Yh (Zb.Design a1)).bind fun places0 =>
 (Q5 places0).bind fun place0 =>
 (Yp (Zf.Place a0) 0 (IntKind.i64.wrap (place0-1))).bind fun within1 =>
 if Zf.Kind a0=1 then
 if Zf.Kind a0=1 then
 if within1=true then
 (Y3 (Zk.Cells (Zb.Library a1))).bind fun Cell0 =>
 (Yp (Zf.Cell a0) 0 (IntKind.i64.wrap (Cell0-1))).bind fun within2 =>
 some within2
 else
 some Bool.false
 else
 if Zf.Kind a0=4 then
 if within1=true then
 (YD (Zb.Design a1) (Zf.Net a0)).bind fun isNet0 =>
 if isNet0=true then
 (atI (Zb.Zw a1) (Zf.Net a0)).bind fun x0 =>
 (YK (Zn.Parent x0)).bind fun int64_0 =>
 (Yp (Zf.Node a0) 0 (IntKind.i64.wrap (int64_0-1))).bind fun within2 =>
 some within2
 else
 some Bool.false
 else
 some Bool.false
 else
 if Zf.Kind a0=5 then
 (YD (Zb.Design a1) (Zf.Net a0)).bind fun isNet0 =>
 some isNet0
 else
 some Bool.true
 else
 if Zf.Kind a0=2 then
 if within1=true then
 (Y3 (Zk.Cells (Zb.Library a1))).bind fun Cell0 =>
 (Yp (Zf.Cell a0) 0 (IntKind.i64.wrap (Cell0-1))).bind fun within2 =>
 some within2
 else
 some Bool.false
 else
 if Zf.Kind a0=4 then
 if within1=true then
 (YD (Zb.Design a1) (Zf.Net a0)).bind fun isNet0 =>
 if isNet0=true then
 (atI (Zb.Zw a1) (Zf.Net a0)).bind fun x0 =>
 (YK (Zn.Parent x0)).bind fun int64_0 =>
 (Yp (Zf.Node a0) 0 (IntKind.i64.wrap (int64_0-1))).bind fun within2 =>
 some within2
 else
 some Bool.false
 else
 some Bool.false
 else
 if Zf.Kind a0=5 then
 (YD (Zb.Design a1) (Zf.Net a0)).bind fun isNet0 =>
 some isNet0
 else
 some Bool.true
 else
 some Bool.false
 else
 some Bool.false
noncomputable def c160:Ctr:=⟨[.dat (Ym),.dat (YL)],[.dat (.bool)],fun a K=>splitK a fun a0 a=>splitK a fun a1 a=>ZA (Vd a0 a1) fun r=>K (r,()) ()⟩
noncomputable def Zbi (p0:YB) (q0:YB):Option Bool :=
 some (YB.Clock p0 == YB.Clock q0)
noncomputable def Zyx:Ctr:=⟨[.dat (ZcH),.dat (ZcH)],[.dat (.bool)],fun a K=>splitK a fun p0 a=>splitK a fun q0 a=>ZA (Zbi p0 q0) fun r=>K (r,()) ()⟩
noncomputable def Zq (s1_0:List YB) (s2_0:List YB) (v0:Int):Option ((Int×Unit) ⊕ Bool) :=
 if v0<(↑(List.length s1_0):Int) then
 (atI s1_0 v0).bind fun x0 =>
 (atI s2_0 v0).bind fun x1 =>
 (Zbi x0 x1).bind fun c1_0 =>
 if c1_0=true then
 some (.inl (IntKind.i64.wrap (v0+1),()))
 else
 some (.inr Bool.false)
 else
 some (.inr Bool.true)
noncomputable def ZE (s1_0:List YB) (s2_0:List YB) (eq0:Unit):Option Bool :=
 if (↑(List.length s1_0):Int)=(↑(List.length s2_0):Int) then
 Zt (fun v=>Zq s1_0 s2_0 v.1) ((0:Int),())
 else
 some Bool.false
noncomputable def c162:Ctr:=⟨[.dat (.sl (ZcH)),.dat (.sl (ZcH)),.dat (.fn 212 (.unit))],[.dat (.bool)],fun a K=>splitK a fun s1_0 a=>splitK a fun s2_0 a=>splitK a fun eq0 a=>ZA (ZE s1_0 s2_0 eq0) fun r=>K (r,()) ()⟩
noncomputable def Zcc (a0:Zh) (b0:Zh):Option Bool :=
 if Zh.Kind a0=Zh.Kind b0 then
 (ZE (Zh.YC a0) (Zh.YC b0) ()).bind fun c1_0 =>
 some c1_0
 else
 some Bool.false
noncomputable def ZyD:Ctr:=⟨[.dat (XY),.dat (XY)],[.dat (.bool)],fun a K=>splitK a fun a0 a=>splitK a fun b0 a=>ZA (Zcc a0 b0) fun r=>K (r,()) ()⟩
noncomputable def QC (c0:Zh):Option Bool :=
 if Zh.Kind c0=1 then
 some (Decidable.decide ((↑(List.length (Zh.YC c0)):Int)=2))
 else
 some Bool.false
noncomputable def c164:Ctr:=⟨[.dat (XY)],[.dat (.bool)],fun a K=>splitK a fun c0 a=>ZA (QC c0) fun r=>K (r,()) ()⟩
noncomputable def Vs (x0:Zd) (a0:List UInt8):Option Bool :=
 some (Decidable.decide (Zd.Name x0=a0))
noncomputable def ZyI:Ctr:=⟨[.dat (Z6),.dat (.ptr (.str))],[.dat (.bool)],fun a K=>splitK a fun x0 a=>splitK a fun a0 a=>ZA (Vs x0 a0) fun r=>K (r,()) ()⟩
noncomputable def ZB (s0:List Zd) (f0:List UInt8×Unit) (v0:Int):Option ((Int×Unit) ⊕ Int) :=
 if v0<(↑(List.length s0):Int) then
 (atI s0 v0).bind fun x0 =>
 (Vs x0 f0.fst).bind fun c1_0 =>
 if c1_0=true then
 some (.inr v0)
 else
 some (.inl (IntKind.i64.wrap (v0+1),()))
 else
 some (.inr (-1))
noncomputable def Zy (s0:List Zd) (f0:List UInt8×Unit):Option Int :=
 Zt (fun v=>ZB s0 f0 v.1) ((0:Int),())
noncomputable def Zxt:Ctr:=⟨[.dat (.sl (Z6)),.dat (.fn 216 (.pair (.ptr (.str)) (.unit)))],[.dat (.int .i64)],fun a K=>splitK a fun s0 a=>splitK a fun f0 a=>ZA (Zy s0 f0) fun r=>K (r,()) ()⟩
noncomputable def VB (d0:Za) (name0:List UInt8):Option Int :=
 (Zy (Za.Instances d0) (name0,())).bind fun c1_0 =>
 some c1_0
noncomputable def c167:Ctr:=⟨[.dat (Yr),.dat (.str)],[.dat (.int .i64)],fun a K=>splitK a fun d0 a=>splitK a fun name0 a=>ZA (VB d0 name0) fun r=>K (r,()) ()⟩
noncomputable def QJ (d0:Za) (name0:List UInt8):Option Int :=
 (Yq (Za.ZM d0) name0).bind fun string0 =>
 some string0
noncomputable def c168:Ctr:=⟨[.dat (Yr),.dat (.str)],[.dat (.int .i64)],fun a K=>splitK a fun d0 a=>splitK a fun name0 a=>ZA (QJ d0 name0) fun r=>K (r,()) ()⟩
noncomputable def XK (a0:Zb):Option Bool :=
 if (↑(List.length (Za.Instances (Zb.Design a0))):Int)=0 then
 some Bool.false
 else
 (atI (Za.Instances (Zb.Design a0)) (IntKind.i64.wrap ((↑(List.length (Za.Instances (Zb.Design a0))):Int)-1))).bind fun x0 =>
 (YS (Za.ZM (Zb.Design a0))).bind fun string0 =>
 (atI (Zk.Cells (Zb.Library a0)) (Zd.Cell x0)).bind fun x1 =>
 (QC x1).bind fun isBuffer0 =>
 if isBuffer0=true then
 (atI (Zd.ZM x0) 1).bind fun x2 =>
 if x2=IntKind.i64.wrap (string0-1) then
 (atI (Zd.ZM x0) 0).bind fun x3 =>
 if x3=IntKind.i64.wrap (string0-1) then
 some Bool.false
 else
 (atI (Za.ZM (Zb.Design a0)) (IntKind.i64.wrap (string0-1))).bind fun x4 =>
 if x4=Zd.Name x0 then
 (atI (Zb.Zw a0) (IntKind.i64.wrap (string0-1))).bind fun x5 =>
 if (↑(List.length (Zn.Zfx x5)):Int)=1 then
 if (↑(List.length (Zn.Parent x5)):Int)=1 then
 (atI (Zn.Cap x5) 0).bind fun x6 =>
 some (Decidable.decide (x6=0))
 else
 some Bool.false
 else
 some Bool.false
 else
 some Bool.false
 else
 some Bool.false
 else
 some Bool.false
noncomputable def ZxX:Ctr:=⟨[.dat (YL)],[.dat (.bool)],fun a K=>splitK a fun a0 a=>ZA (XK a0) fun r=>K (r,()) ()⟩
noncomputable def QK (a0:Zf) (a1:Zb):Option Bool :=
 (Yh (Zb.Design a1)).bind fun places0 =>
 if Zf.Kind a0=1 then
 (atI places0 (Zf.Place a0)).bind fun x0 =>
 if 0≤Yc.instance x0 then
 if (Yc.drives x0)=true then
 (atI (Za.Instances (Zb.Design a1)) (Yc.instance x0)).bind fun x1 =>
 (atI (Zk.Cells (Zb.Library a1)) (Zd.Cell x1)).bind fun x2 =>
 (atI (Zk.Cells (Zb.Library a1)) (Zf.Cell a0)).bind fun x3 =>
 (Zcc x2 x3).bind fun fitsSwap0 =>
 some fitsSwap0
 else
 some Bool.false
 else
 some Bool.false
 else
 if Zf.Kind a0=2 then
 (atI places0 (Zf.Place a0)).bind fun x0 =>
 if (Yc.drives x0)=true then
 some Bool.false
 else
 (atI (Zk.Cells (Zb.Library a1)) (Zf.Cell a0)).bind fun x1 =>
 (QC x1).bind fun isBuffer0 =>
 if isBuffer0=true then
 (ZbR (Zf.Name a0)).bind fun isName0 =>
 if isName0=true then
 (VB (Zb.Design a1) (Zf.Name a0)).bind fun InstanceNamed0 =>
 if InstanceNamed0<0 then
 (QJ (Zb.Design a1) (Zf.Name a0)).bind fun netNamed0 =>
 some (Decidable.decide (netNamed0<0))
 else
 some Bool.false
 else
 some Bool.false
 else
 some Bool.false
 else
 if Zf.Kind a0=3 then
 (XK a1).bind fun canUnbuffer0 =>
 some canUnbuffer0
 else
 if Zf.Kind a0=4 then
 (atI places0 (Zf.Place a0)).bind fun x0 =>
 if (Yc.drives x0)=true then
 some Bool.false
 else
 some (!Decidable.decide (Yc.net x0=Zf.Net a0))
 else
 (atI (Zb.Zw a1) (Zf.Net a0)).bind fun x0 =>
 (YK (Zn.Zfx x0)).bind fun int64_0 =>
 (Zc0 (Zf.Zdl a0) int64_0).bind fun IsWire0 =>
 some IsWire0
noncomputable def Zyl:Ctr:=⟨[.dat (Ym),.dat (YL)],[.dat (.bool)],fun a K=>splitK a fun a0 a=>splitK a fun a1 a=>ZA (QK a0 a1) fun r=>K (r,()) ()⟩
noncomputable def Ja (e0:Zf) (b0:Zb):Option Int :=
 (Vd e0 b0).bind fun isInRange0 =>
 if isInRange0=true then
 (QK e0 b0).bind fun isPossible0 =>
 if isPossible0=true then
 if Zf.Kind e0=2 then
 if (↑(List.length (Za.Instances (Zb.Design b0))):Int)=14 then
 some 3
 else
 if (↑(List.length (Za.ZM (Zb.Design b0))):Int)=30 then
 some 3
 else
 some 0
 else
 some 0
 else
 some 5
 else
 some 2
noncomputable def c171:Ctr:=⟨[.dat (Ym),.dat (YL)],[.dat (.int .i64)],fun a K=>splitK a fun e0 a=>splitK a fun b0 a=>ZA (Ja e0 b0) fun r=>K (r,()) ()⟩
noncomputable def Qd (b0:Zb) (places0:List Yc) (v0:Int) (m0:List ((Int×Int×Unit)×Int)) (l0:List Int):Option ((Int×(List ((Int×Int×Unit)×Int))×(List Int)×Unit) ⊕ List (J2×Int)) :=
 if v0<(↑(List.length places0):Int) then
 (atI places0 v0).bind fun x0 =>
 if (Yc.drives x0)=true then
 some (.inl (IntKind.i64.wrap (v0+1),m0,l0,()))
 else
 (atI (Zb.Zw b0) (Yc.net x0)).bind fun x1 =>
 (atI l0 (Yc.net x0)).bind fun x2 =>
 (atI (Zn.Zfx x1) x2).bind fun x3 =>
 some (.inl (IntKind.i64.wrap (v0+1),ZkK Zpf.ty Zpf.ety m0 (Yc.instance x0,Yc.pin x0,()) x3,List.set l0 (Int.toNat (Yc.net x0)) (IntKind.i64.wrap (x2+1)),()))
 else
 some (.inr m0)
noncomputable def Xi (b0:Zb):Option (List (J2×Int)) :=
 Zx ((0:Int)≤(↑(List.length (Zb.Zw b0)):Int)) <|
 Zx ((↑(List.length (Zb.Zw b0)):Int)≤(↑(List.length (Zb.Zw b0)):Int)) <|
 Zx ((↑(List.length (Zb.Zw b0)):Int)≤(4611686018427387904:Int)) <|
 Zx ((↑(8:Nat):Int)*(↑(List.length (Zb.Zw b0)):Int)≤(281474976710656:Int)) <|
 (Yh (Zb.Design b0)).bind fun places0 =>
 Zt (fun v=>Qd b0 places0 v.1 v.2.1 v.2.2.1) ((0:Int),([]:List ((Int×Int×Unit)×Int)),List.replicate (Int.toNat (↑(List.length (Zb.Zw b0)):Int)) (0:Int),())
noncomputable def Zvz:Ctr:=⟨[.dat (YL)],[.own (.mp (Za2) (.int .i64))],fun a K=>splitK a fun b0 a=>ZA (Xi b0) fun r=>K (r,()) ()⟩
noncomputable def QI (net0:Int) (places0:List Yc) (list0:List Int) (v0:Int):Option (((List Int)×Int×Unit) ⊕ List Int) :=
 if v0<(↑(List.length places0):Int) then
 (atI places0 v0).bind fun x0 =>
 if Yc.net x0=net0 then
 if (Yc.drives x0)=true then
 some (.inl (list0,IntKind.i64.wrap (v0+1),()))
 else
 Zx ((List.length list0+List.length [v0])*(8:Nat)≤(140737488355328:Nat)) <|
 some (.inl (list0++[v0],IntKind.i64.wrap (v0+(1:Int)),()))
 else
 some (.inl (list0,IntKind.i64.wrap (v0+1),()))
 else
 some (.inr list0)
noncomputable def Jr (d0:Za) (net0:Int):Option (List Int) :=
 (Yh d0).bind fun places0 =>
 Zt (fun v=>QI net0 places0 v.1 v.2.1) (([]:List Int),(0:Int),())
noncomputable def c173:Ctr:=⟨[.dat (Yr),.dat (.int .i64)],[.own (.ol 2 (.flat (.int .i64)))],fun a K=>splitK a fun d0 a=>splitK a fun net0 a=>ZA (Jr d0 net0) fun r=>K (r,()) ()⟩
noncomputable def Qk (b0:Zb) (key0:J2) (net0:Int):Option Zb :=
 if J2.instance key0<0 then
 (atI (Za.ZX (Zb.Design b0)) (J2.pin key0)).bind fun x0 =>
 some (Zb.Library b0,(Za.Instances (Zb.Design b0),Za.ZM (Zb.Design b0),List.set (Za.ZX (Zb.Design b0)) (Int.toNat (J2.pin key0)) (ZL.Name x0,ZL.Dir x0,net0,()),()),b0.snd.snd)
 else
 (atI (Za.Instances (Zb.Design b0)) (J2.instance key0)).bind fun x0 =>
 (atI x0.snd.snd.fst (J2.pin key0)).bind fun x1 =>
 some (Zb.Library b0,(List.set (Za.Instances (Zb.Design b0)) (Int.toNat (J2.instance key0)) (x0.fst,x0.snd.fst,List.set x0.snd.snd.fst (Int.toNat (J2.pin key0)) net0,()),(Zb.Design b0).snd),b0.snd.snd)
noncomputable def ZvR:Ctr:=⟨[.io (Zdv),.dat (Za2),.dat (.int .i64)],[],fun a K=>splitK a fun b0 a=>splitK a fun key0 a=>splitK a fun net0 a=>ZA (Qk b0 key0 net0) fun r=>K () (r,())⟩
noncomputable def Qh (b0:Zb) (nodes0:List (J2×Int)) (places0:List Yc) (v1:Int) (l1:List (List Int×List Int×List Int×List Int×Unit)):Option ((Int×(List (List Int×List Int×List Int×List Int×Unit))×Unit) ⊕ ((Int×(List (List Int×List Int×List Int×List Int×Unit))×Unit) ⊕ Zb)) :=
 if v1<(↑(List.length places0):Int) then
 (atI places0 v1).bind fun x0 =>
 if (Yc.drives x0)=true then
 some (.inl (IntKind.i64.wrap (v1+1),l1,()))
 else
 (atI l1 (Yc.net x0)).bind fun x1 =>
 Zx ((List.length x1.snd.snd.snd.fst+List.length [Option.getD (Zhj Za2 (Ty.int IntKind.i64) nodes0 (Yc.instance x0,Yc.pin x0,())) (0:Int)])*(8:Nat)≤(140737488355328:Nat)) <|
 some (.inl (IntKind.i64.wrap (v1+(1:Int)),List.set l1 (Int.toNat (Yc.net x0)) (x1.fst,x1.snd.fst,x1.snd.snd.fst,x1.snd.snd.snd.fst++[Option.getD (Zhj Za2 (Ty.int IntKind.i64) nodes0 (Yc.instance x0,Yc.pin x0,())) (0:Int)],()),()))
 else
 some (.inr (.inr (Zb.Library b0,Zb.Design b0,l1,())))
noncomputable def Xl (b0:Zb) (nodes0:List (J2×Int)) (v0:Int) (l0:List (List Int×List Int×List Int×List Int×Unit)):Option ((Int×(List (List Int×List Int×List Int×List Int×Unit))×Unit) ⊕ Zb) :=
 if v0<(↑(List.length (Zb.Zw b0)):Int) then
 (atI l0 v0).bind fun x0 =>
 some (.inl (IntKind.i64.wrap (v0+(1:Int)),List.set l0 (Int.toNat v0) (x0.fst,x0.snd.fst,x0.snd.snd.fst,([]:List Int),()),()))
 else
 (Yh (Zb.Design b0)).bind fun places0 =>
 Zt (fun v=>Qh b0 nodes0 places0 v.1 v.2.1) ((0:Int),l0,())
noncomputable def Xh (b0:Zb) (nodes0:List (J2×Int)):Option Zb :=
 Zt (fun v=>Xl b0 nodes0 v.1 v.2.1) ((0:Int),Zb.Zw b0,())
noncomputable def c175:Ctr:=⟨[.io (Zdv),.dat (.mp (Za2) (.int .i64))],[],fun a K=>splitK a fun b0 a=>splitK a fun nodes0 a=>ZA (Xh b0 nodes0) fun r=>K () (r,())⟩
noncomputable def X6 (a0:Zb):Option (J2×Zb) :=
 (Xi a0).bind fun nodesOf0 =>
 (Yh (Zb.Design a0)).bind fun places0 =>
 (YS (Za.ZM (Zb.Design a0))).bind fun string0 =>
 (Jr (Zb.Design a0) (IntKind.i64.wrap (string0-1))).bind fun sinks0 =>
 (atI sinks0 0).bind fun x0 =>
 (atI places0 x0).bind fun x1 =>
 (atI (Za.Instances (Zb.Design a0)) (IntKind.i64.wrap ((↑(List.length (Za.Instances (Zb.Design a0))):Int)-1))).bind fun x2 =>
 (atI x2.snd.snd.fst 0).bind fun x3 =>
 (Qk (Zb.Library a0,(List.set (Za.Instances (Zb.Design a0)) (Int.toNat (IntKind.i64.wrap ((↑(List.length (Za.Instances (Zb.Design a0))):Int)-1))) x2,(Zb.Design a0).snd),a0.snd.snd) (Yc.instance x1,Yc.pin x1,()) x3).bind fun setNet0 =>
 Zx ((0:Int)≤IntKind.i64.wrap ((↑(List.length (Za.Instances (Zb.Design a0))):Int)-(1:Int))) <|
 Zx (IntKind.i64.wrap ((↑(List.length (Za.Instances (Zb.Design a0))):Int)-(1:Int))≤(↑(List.length (Za.Instances (Zb.Design setNet0))):Int)) <|
 Zx ((0:Int)≤IntKind.i64.wrap ((↑(List.length (Za.ZM (Zb.Design setNet0))):Int)-(1:Int))) <|
 Zx (IntKind.i64.wrap ((↑(List.length (Za.ZM (Zb.Design setNet0))):Int)-(1:Int))≤(↑(List.length (Za.ZM (Zb.Design setNet0))):Int)) <|
 Zx ((0:Int)≤IntKind.i64.wrap ((↑(List.length (Zb.Zw setNet0)):Int)-(1:Int))) <|
 Zx (IntKind.i64.wrap ((↑(List.length (Zb.Zw setNet0)):Int)-(1:Int))≤(↑(List.length (Zb.Zw setNet0)):Int)) <|
 (Xh (Zb.Library setNet0,(List.take (Int.toNat (IntKind.i64.wrap ((↑(List.length (Za.Instances (Zb.Design a0))):Int)-1))-Int.toNat 0) (List.drop (Int.toNat 0) (Za.Instances (Zb.Design setNet0))),List.take (Int.toNat (IntKind.i64.wrap ((↑(List.length (Za.ZM (Zb.Design setNet0))):Int)-1))-Int.toNat 0) (List.drop (Int.toNat 0) (Za.ZM (Zb.Design setNet0))),(Zb.Design setNet0).snd.snd),List.take (Int.toNat (IntKind.i64.wrap ((↑(List.length (Zb.Zw setNet0)):Int)-1))-Int.toNat 0) (List.drop (Int.toNat 0) (Zb.Zw setNet0)),()) (ZkK Za2 (Ty.int IntKind.i64) nodesOf0 (Yc.instance x1,Yc.pin x1,()) (Option.getD (Zhj Za2 (Ty.int IntKind.i64) nodesOf0 (IntKind.i64.wrap ((↑(List.length (Za.Instances (Zb.Design a0))):Int)-1),0,())) 0))).bind fun connect0 =>
 some ((Yc.instance x1,Yc.pin x1,()),connect0)
noncomputable def ZwV:Ctr:=⟨[.io (Zdv)],[.dat (Za2)],fun a K=>splitK a fun a0 a=>ZA (X6 a0) fun r=>K (r.1,()) (r.2,())⟩
noncomputable def XP (p0:Yc) (a0:Int) (a1:Int):Option Bool :=
 if Yc.instance p0=a0 then
 some (Decidable.decide (Yc.pin p0=a1))
 else
 some Bool.false
noncomputable def Zw9:Ctr:=⟨[.dat (Zjr),.dat (.ptr (.int .i64)),.dat (.ptr (.int .i64))],[.dat (.bool)],fun a K=>splitK a fun p0 a=>splitK a fun a0 a=>splitK a fun a1 a=>ZA (XP p0 a0 a1) fun r=>K (r,()) ()⟩
noncomputable def ZH (s0:List Yc) (f0:Int×Int×Unit) (v0:Int):Option ((Int×Unit) ⊕ Int) :=
 if v0<(↑(List.length s0):Int) then
 (atI s0 v0).bind fun x0 =>
 (XP x0 f0.fst f0.snd.fst).bind fun c1_0 =>
 if c1_0=true then
 some (.inr v0)
 else
 some (.inl (IntKind.i64.wrap (v0+1),()))
 else
 some (.inr (-1))
noncomputable def ZC (s0:List Yc) (f0:Int×Int×Unit):Option Int :=
 Zt (fun v=>ZH s0 f0 v.1) ((0:Int),())
noncomputable def ZxZ:Ctr:=⟨[.dat (.sl (Zjr)),.dat (.fn 173 (.pair (.ptr (.int .i64)) (.pair (.ptr (.int .i64)) (.unit))))],[.dat (.int .i64)],fun a K=>splitK a fun s0 a=>splitK a fun f0 a=>ZA (ZC s0 f0) fun r=>K (r,()) ()⟩
noncomputable def X7 (d0:Za) (instance0:Int) (pin0:Int):Option Int :=
 (Yh d0).bind fun places0 =>
 (ZC places0 (instance0,pin0,())).bind fun c1_0 =>
 some c1_0
noncomputable def Zxu:Ctr:=⟨[.dat (Yr),.dat (.int .i64),.dat (.int .i64)],[.dat (.int .i64)],fun a K=>splitK a fun d0 a=>splitK a fun instance0 a=>splitK a fun pin0 a=>ZA (X7 d0 instance0 pin0) fun r=>K (r,()) ()⟩
noncomputable def Qf (a0:Zf) (a1:Zb):Option Zf :=
 if Zf.Kind a0=1 then
 (Yh (Zb.Design a1)).bind fun places0 =>
 (atI places0 (Zf.Place a0)).bind fun x0 =>
 (atI (Za.Instances (Zb.Design a1)) (Yc.instance x0)).bind fun x1 =>
 some ((1:Int),Zf.Place a0,Zd.Cell x1,(0:Int),(0:Int),([]:List UInt8),(([]:List Int),([]:List Int),([]:List Int),([]:List Int),()),())
 else
 if Zf.Kind a0=2 then
 some ((3:Int),(0:Int),(0:Int),(0:Int),(0:Int),([]:List UInt8),(([]:List Int),([]:List Int),([]:List Int),([]:List Int),()),())
 else
 if Zf.Kind a0=3 then
 (QT a1).bind fun clone0 =>
 (X6 clone0).bind fun unbuffer0 =>
 (atI (Za.Instances (Zb.Design a1)) (IntKind.i64.wrap ((↑(List.length (Za.Instances (Zb.Design a1))):Int)-1))).bind fun x0 =>
 (X7 unbuffer0.snd.snd.fst unbuffer0.fst.fst unbuffer0.fst.snd.fst).bind fun placeOf0 =>
 some ((2:Int),placeOf0,Zd.Cell x0,(0:Int),(0:Int),Zd.Name x0,(([]:List Int),([]:List Int),([]:List Int),([]:List Int),()),())
 else
 if Zf.Kind a0=4 then
 (Yh (Zb.Design a1)).bind fun places0 =>
 (atI places0 (Zf.Place a0)).bind fun x0 =>
 (Xi a1).bind fun nodesOf0 =>
 some ((4:Int),Zf.Place a0,(0:Int),Yc.net x0,Option.getD (Zhj Za2 (Ty.int IntKind.i64) nodesOf0 (Yc.instance x0,Yc.pin x0,())) (0:Int),([]:List UInt8),(([]:List Int),([]:List Int),([]:List Int),([]:List Int),()),())
 else
 (atI (Zb.Zw a1) (Zf.Net a0)).bind fun x0 =>
 (Vt x0).bind fun clone0 =>
 some ((5:Int),(0:Int),(0:Int),Zf.Net a0,(0:Int),([]:List UInt8),clone0,())
noncomputable def Zyd:Ctr:=⟨[.dat (Ym),.dat (YL)],[.own (Zi2)],fun a K=>splitK a fun a0 a=>splitK a fun a1 a=>ZA (Qf a0 a1) fun r=>K (r,()) ()⟩
noncomputable def XQ (list0:List Zd):Option Int :=
 some (↑(List.length list0):Int)
noncomputable def Zyw:Ctr:=⟨[.dat (.sl (Z6))],[.dat (.int .i64)],fun a K=>splitK a fun list0 a=>ZA (XQ list0) fun r=>K (r,()) ()⟩
noncomputable def Jt (a0:Zb) (a1:Zf):Option Zb :=
 (Xi a0).bind fun nodesOf0 =>
 (Yh (Zb.Design a0)).bind fun places0 =>
 (atI places0 (Zf.Place a1)).bind fun x0 =>
 (YS (Za.ZM (Zb.Design a0))).bind fun string0 =>
 (XQ (Za.Instances (Zb.Design a0))).bind fun Instance0 =>
 Zx ((List.length (Za.Instances (Zb.Design a0))+List.length [(Zf.Name a1,Zf.Cell a1,[Yc.net x0,string0],())])*(48:Nat)≤(140737488355328:Nat)) <|
 Zx ((List.length (Za.ZM (Zb.Design a0))+List.length [Zf.Name a1])*(16:Nat)≤(140737488355328:Nat)) <|
 Zx ((List.length (Zb.Zw a0)+List.length [([(-1:Int)],[(0:Int)],[(0:Int)],([]:List Int),())])*(96:Nat)≤(140737488355328:Nat)) <|
 (Qk (Zb.Library a0,(Za.Instances (Zb.Design a0)++[(Zf.Name a1,Zf.Cell a1,[Yc.net x0,string0],())],Za.ZM (Zb.Design a0)++[Zf.Name a1],(Zb.Design a0).snd.snd),Zb.Zw a0++[([(-1:Int)],[(0:Int)],[(0:Int)],([]:List Int),())],()) (Yc.instance x0,Yc.pin x0,()) string0).bind fun setNet0 =>
 (Xh setNet0 (ZkK Za2 (Ty.int IntKind.i64) (ZkK Za2 (Ty.int IntKind.i64) nodesOf0 (Instance0,0,()) (Option.getD (Zhj Za2 (Ty.int IntKind.i64) nodesOf0 (Yc.instance x0,Yc.pin x0,())) 0)) (Yc.instance x0,Yc.pin x0,()) 0)).bind fun connect0 =>
 some connect0
noncomputable def c182:Ctr:=⟨[.io (Zdv),.dat (Ym)],[],fun a K=>splitK a fun a0 a=>splitK a fun a1 a=>ZA (Jt a0 a1) fun r=>K () (r,())⟩
noncomputable def Vx (a0:Zf) (a1:Zb):Option Zb :=
 (QT a1).bind fun clone0 =>
 if Zf.Kind a0=1 then
 (Yh (Zb.Design a1)).bind fun places0 =>
 (atI places0 (Zf.Place a0)).bind fun x0 =>
 (atI (Za.Instances (Zb.Design clone0)) (Yc.instance x0)).bind fun x1 =>
 some (Zb.Library clone0,(List.set (Za.Instances (Zb.Design clone0)) (Int.toNat (Yc.instance x0)) (x1.fst,Zf.Cell a0,x1.snd.snd),(Zb.Design clone0).snd),clone0.snd.snd)
 else
 if Zf.Kind a0=2 then
 (Jt clone0 a0).bind fun buffer0 =>
 some buffer0
 else
 if Zf.Kind a0=3 then
 (X6 clone0).bind fun unbuffer0 =>
 some unbuffer0.snd
 else
 if Zf.Kind a0=4 then
 (Xi clone0).bind fun nodesOf0 =>
 (Yh (Zb.Design clone0)).bind fun places0 =>
 (atI places0 (Zf.Place a0)).bind fun x0 =>
 (Qk clone0 (Yc.instance x0,Yc.pin x0,()) (Zf.Net a0)).bind fun setNet0 =>
 (Xh setNet0 (ZkK Za2 (Ty.int IntKind.i64) nodesOf0 (Yc.instance x0,Yc.pin x0,()) (Zf.Node a0))).bind fun connect0 =>
 some connect0
 else
 if Zf.Kind a0=5 then
 (Vt (Zf.Zdl a0)).bind fun clone1 =>
 (atI (Zb.Zw clone0) (Zf.Net a0)).bind fun x0 =>
 some (Zb.Library clone0,Zb.Design clone0,List.set (Zb.Zw clone0) (Int.toNat (Zf.Net a0)) clone1,())
 else
 some clone0
noncomputable def c183:Ctr:=⟨[.dat (Ym),.dat (YL)],[.own (Zdv)],fun a K=>splitK a fun a0 a=>splitK a fun a1 a=>ZA (Vx a0 a1) fun r=>K (r,()) ()⟩
noncomputable def YU (list0:List Zf) (back0:List Zf) (v0:Int) (c0:List Zh) (c1:List Zd) (c2:List (List UInt8)) (c3:List ZL) (c4:List Zn) (c5:List (List UInt8×Int×List YB×List ZT×List Int×Int×Int×Unit)) (c6:List (List UInt8×Int×List Int×Unit)) (c7:List (List UInt8)) (c8:List ZL) (c9:List (List Int×List Int×List Int×List Int×Unit)):Option (((List Zf)×Int×(List Zh)×(List Zd)×(List (List UInt8))×(List ZL)×(List Zn)×(List (List UInt8×Int×List YB×List ZT×List Int×Int×Int×Unit))×(List (List UInt8×Int×List Int×Unit))×(List (List UInt8))×(List ZL)×(List (List Int×List Int×List Int×List Int×Unit))×Unit) ⊕ (Zb×(List Zf)×Int×Int)) :=
 if v0<(↑(List.length list0):Int) then
 (atI list0 v0).bind fun x0 =>
 (Ja x0 ((c5,()),(c6,c7,c8,()),c9,())).bind fun code0 =>
 if code0=0 then
 (Qf x0 ((c5,()),(c6,c7,c8,()),c9,())).bind fun inverse0 =>
 Zx ((List.length back0+List.length [inverse0])*(152:Nat)≤(140737488355328:Nat)) <|
 (Vx x0 ((c5,()),(c6,c7,c8,()),c9,())).bind fun apply0 =>
 some (.inl (back0++[inverse0],IntKind.i64.wrap (v0+(1:Int)),c0,c1,c2,c3,c4,Zk.Cells (Zb.Library apply0),Za.Instances (Zb.Design apply0),Za.ZM (Zb.Design apply0),Za.ZX (Zb.Design apply0),Zb.Zw apply0,()))
 else
 some (.inr (((([]:List Zh),()),(([]:List Zd),([]:List (List UInt8)),([]:List ZL),()),([]:List Zn),()),([]:List Zf),code0,v0))
 else
 some (.inr (((c5,()),(c6,c7,c8,()),c9,()),List.reverse back0,0,(-1)))
noncomputable def Zbb (b0:Zb) (list0:List Zf):Option (Zb×(List Zf)×Int×Int) :=
 (Zc4 b0).bind fun IsBlock0 =>
 if IsBlock0=true then
 if 20<(↑(List.length list0):Int) then
 some (((([]:List Zh),()),(([]:List Zd),([]:List (List UInt8)),([]:List ZL),()),([]:List Zn),()),([]:List Zf),(3:Int),(-1:Int))
 else
 (QT b0).bind fun clone0 =>
 Zt (fun v=>YU list0 v.1 v.2.1 v.2.2.1 v.2.2.2.1 v.2.2.2.2.1 v.2.2.2.2.2.1 v.2.2.2.2.2.2.1 v.2.2.2.2.2.2.2.1 v.2.2.2.2.2.2.2.2.1 v.2.2.2.2.2.2.2.2.2.1 v.2.2.2.2.2.2.2.2.2.2.1 v.2.2.2.2.2.2.2.2.2.2.2.1) (([]:List Zf),(0:Int),([]:List Zh),([]:List Zd),([]:List (List UInt8)),([]:List ZL),([]:List Zn),Zk.Cells (Zb.Library clone0),Za.Instances (Zb.Design clone0),Za.ZM (Zb.Design clone0),Za.ZX (Zb.Design clone0),Zb.Zw clone0,())
 else
 some (((([]:List Zh),()),(([]:List Zd),([]:List (List UInt8)),([]:List ZL),()),([]:List Zn),()),([]:List Zf),(1:Int),(-1:Int))
noncomputable def Zxs:Ctr:=⟨[.dat (YL),.dat (.sl (Ym))],[.own (Zdv),.own (.ol 66 (Zi2)),.dat (.int .i64),.dat (.int .i64)],fun a K=>splitK a fun b0 a=>splitK a fun list0 a=>ZA (Zbb b0 list0) fun r=>K (r.1,r.2.1,r.2.2.1,r.2.2.2,()) ()⟩
noncomputable def Jo (b0:Zb) (list0:List Zf):Option ((List Zf)×Int) :=
 (Zbb b0 list0).bind fun applyAll0 =>
 some (applyAll0.snd.fst,applyAll0.snd.snd.fst)
noncomputable def Zyy:Ctr:=⟨[.dat (YL),.dat (.sl (Ym))],[.own (.ol 66 (Zi2)),.dat (.int .i64)],fun a K=>splitK a fun b0 a=>splitK a fun list0 a=>ZA (Jo b0 list0) fun r=>K (r.1,r.2,()) ()⟩
noncomputable def ZcI (a0:List Int) (b0:List Int) (i0:Int):Option ((Int×Unit) ⊕ Bool) :=
 if i0<(↑(List.length a0):Int) then
 (atI a0 i0).bind fun x0 =>
 (atI b0 i0).bind fun x1 =>
 if x0=x1 then
 some (.inl (IntKind.i64.wrap (i0+1),()))
 else
 some (.inr Bool.false)
 else
 some (.inr Bool.true)
noncomputable def Xg (a0:List Int) (b0:List Int):Option Bool :=
 if (↑(List.length a0):Int)=(↑(List.length b0):Int) then
 Zt (fun v=>ZcI a0 b0 v.1) ((0:Int),())
 else
 some Bool.false
noncomputable def ZvF:Ctr:=⟨[.dat (.sl (.int .i64)),.dat (.sl (.int .i64))],[.dat (.bool)],fun a K=>splitK a fun a0 a=>splitK a fun b0 a=>ZA (Xg a0 b0) fun r=>K (r,()) ()⟩
noncomputable def ZbY (a0:Zn) (b0:Zn):Option Bool :=
 (Xg (Zn.Parent a0) (Zn.Parent b0)).bind fun eqInt64S0 =>
 if eqInt64S0=true then
 (Xg (Zn.Res a0) (Zn.Res b0)).bind fun eqInt64S1 =>
 if eqInt64S1=true then
 (Xg (Zn.Cap a0) (Zn.Cap b0)).bind fun eqInt64S2 =>
 if eqInt64S2=true then
 (Xg (Zn.Zfx a0) (Zn.Zfx b0)).bind fun eqInt64S3 =>
 if eqInt64S3=true then
 some Bool.true
 else
 some Bool.false
 else
 some Bool.false
 else
 some Bool.false
 else
 some Bool.false
noncomputable def Zw3:Ctr:=⟨[.dat (XR),.dat (XR)],[.dat (.bool)],fun a K=>splitK a fun a0 a=>splitK a fun b0 a=>ZA (ZbY a0 b0) fun r=>K (r,()) ()⟩
noncomputable def ZcJ (a0:Zf) (b0:Zf):Option Bool :=
 if Zf.Kind a0=Zf.Kind b0 then
 if Zf.Place a0=Zf.Place b0 then
 if Zf.Cell a0=Zf.Cell b0 then
 if Zf.Net a0=Zf.Net b0 then
 if Zf.Node a0=Zf.Node b0 then
 if Zf.Name a0=Zf.Name b0 then
 (ZbY (Zf.Zdl a0) (Zf.Zdl b0)).bind fun eqWire0 =>
 if eqWire0=true then
 some Bool.true
 else
 some Bool.false
 else
 some Bool.false
 else
 some Bool.false
 else
 some Bool.false
 else
 some Bool.false
 else
 some Bool.false
 else
 some Bool.false
noncomputable def Zx5:Ctr:=⟨[.dat (Ym),.dat (Ym)],[.dat (.bool)],fun a K=>splitK a fun a0 a=>splitK a fun b0 a=>ZA (ZcJ a0 b0) fun r=>K (r,()) ()⟩
noncomputable def ZdP (a0:List Zf) (b0:List Zf) (i0:Int):Option ((Int×Unit) ⊕ Bool) :=
 if i0<(↑(List.length a0):Int) then
 (atI a0 i0).bind fun x0 =>
 (atI b0 i0).bind fun x1 =>
 (ZcJ x0 x1).bind fun eqEdit0 =>
 if eqEdit0=true then
 some (.inl (IntKind.i64.wrap (i0+1),()))
 else
 some (.inr Bool.false)
 else
 some (.inr Bool.true)
noncomputable def ZbU (a0:List Zf) (b0:List Zf):Option Bool :=
 if (↑(List.length a0):Int)=(↑(List.length b0):Int) then
 Zt (fun v=>ZdP a0 b0 v.1) ((0:Int),())
 else
 some Bool.false
noncomputable def ZxV:Ctr:=⟨[.dat (.sl (Ym)),.dat (.sl (Ym))],[.dat (.bool)],fun a K=>splitK a fun a0 a=>splitK a fun b0 a=>ZA (ZbU a0 b0) fun r=>K (r,()) ()⟩
noncomputable def Zet (a0:YB) (b0:YB):Option Bool :=
 if YB.Name a0=YB.Name b0 then
 if YB.Dir a0=YB.Dir b0 then
 if YB.Cap a0=YB.Cap b0 then
 if (YB.Clock a0 == YB.Clock b0)=true then
 some Bool.true
 else
 some Bool.false
 else
 some Bool.false
 else
 some Bool.false
 else
 some Bool.false
noncomputable def Zxx:Ctr:=⟨[.dat (ZcH),.dat (ZcH)],[.dat (.bool)],fun a K=>splitK a fun a0 a=>splitK a fun b0 a=>ZA (Zet a0 b0) fun r=>K (r,()) ()⟩
noncomputable def ZeA (a0:List YB) (b0:List YB) (i0:Int):Option ((Int×Unit) ⊕ Bool) :=
 if i0<(↑(List.length a0):Int) then
 (atI a0 i0).bind fun x0 =>
 (atI b0 i0).bind fun x1 =>
 (Zet x0 x1).bind fun eqPin0 =>
 if eqPin0=true then
 some (.inl (IntKind.i64.wrap (i0+1),()))
 else
 some (.inr Bool.false)
 else
 some (.inr Bool.true)
noncomputable def Zeu (a0:List YB) (b0:List YB):Option Bool :=
 if (↑(List.length a0):Int)=(↑(List.length b0):Int) then
 Zt (fun v=>ZeA a0 b0 v.1) ((0:Int),())
 else
 some Bool.false
noncomputable def Zxc:Ctr:=⟨[.dat (.sl (ZcH)),.dat (.sl (ZcH))],[.dat (.bool)],fun a K=>splitK a fun a0 a=>splitK a fun b0 a=>ZA (Zeu a0 b0) fun r=>K (r,()) ()⟩
noncomputable def ZbX (a0:Zv) (b0:Zv):Option Bool :=
 (Xg (Zv.ZfN a0) (Zv.ZfN b0)).bind fun eqInt64S0 =>
 if eqInt64S0=true then
 (Xg (Zv.Loads a0) (Zv.Loads b0)).bind fun eqInt64S1 =>
 if eqInt64S1=true then
 (Xg (Zv.Values a0) (Zv.Values b0)).bind fun eqInt64S2 =>
 if eqInt64S2=true then
 some Bool.true
 else
 some Bool.false
 else
 some Bool.false
 else
 some Bool.false
noncomputable def ZxN:Ctr:=⟨[.dat (YP),.dat (YP)],[.dat (.bool)],fun a K=>splitK a fun a0 a=>splitK a fun b0 a=>ZA (ZbX a0 b0) fun r=>K (r,()) ()⟩
noncomputable def ZcZ (a0:List Zv) (b0:List Zv) (i0:Int):Option ((Int×Unit) ⊕ Bool) :=
 if i0<(↑(List.length a0):Int) then
 (atI a0 i0).bind fun x0 =>
 (atI b0 i0).bind fun x1 =>
 (ZbX x0 x1).bind fun eqTable0 =>
 if eqTable0=true then
 some (.inl (IntKind.i64.wrap (i0+1),()))
 else
 some (.inr Bool.false)
 else
 some (.inr Bool.true)
noncomputable def Za4 (a0:List Zv) (b0:List Zv):Option Bool :=
 if (↑(List.length a0):Int)=(↑(List.length b0):Int) then
 Zt (fun v=>ZcZ a0 b0 v.1) ((0:Int),())
 else
 some Bool.false
noncomputable def c193:Ctr:=⟨[.dat (.sl (YP)),.dat (.sl (YP))],[.dat (.bool)],fun a K=>splitK a fun a0 a=>splitK a fun b0 a=>ZA (Za4 a0 b0) fun r=>K (r,()) ()⟩
noncomputable def Zeo (a0:ZT) (b0:ZT):Option Bool :=
 if ZT.Kind a0=ZT.Kind b0 then
 if ZT.From a0=ZT.From b0 then
 if ZT.To a0=ZT.To b0 then
 if ZT.ZcB a0=ZT.ZcB b0 then
 (Za4 (ZT.Delay a0) (ZT.Delay b0)).bind fun eqTableS0 =>
 if eqTableS0=true then
 (Za4 (ZT.Zih a0) (ZT.Zih b0)).bind fun eqTableS1 =>
 if eqTableS1=true then
 some Bool.true
 else
 some Bool.false
 else
 some Bool.false
 else
 some Bool.false
 else
 some Bool.false
 else
 some Bool.false
 else
 some Bool.false
noncomputable def c194:Ctr:=⟨[.dat (ZeP),.dat (ZeP)],[.dat (.bool)],fun a K=>splitK a fun a0 a=>splitK a fun b0 a=>ZA (Zeo a0 b0) fun r=>K (r,()) ()⟩
noncomputable def Zed (a0:List ZT) (b0:List ZT) (i0:Int):Option ((Int×Unit) ⊕ Bool) :=
 if i0<(↑(List.length a0):Int) then
 (atI a0 i0).bind fun x0 =>
 (atI b0 i0).bind fun x1 =>
 (Zeo x0 x1).bind fun eqArc0 =>
 if eqArc0=true then
 some (.inl (IntKind.i64.wrap (i0+1),()))
 else
 some (.inr Bool.false)
 else
 some (.inr Bool.true)
noncomputable def Zeq (a0:List ZT) (b0:List ZT):Option Bool :=
 if (↑(List.length a0):Int)=(↑(List.length b0):Int) then
 Zt (fun v=>Zed a0 b0 v.1) ((0:Int),())
 else
 some Bool.false
noncomputable def ZxB:Ctr:=⟨[.dat (.sl (ZeP)),.dat (.sl (ZeP))],[.dat (.bool)],fun a K=>splitK a fun a0 a=>splitK a fun b0 a=>ZA (Zeq a0 b0) fun r=>K (r,()) ()⟩
noncomputable def ZcN (a0:Zh) (b0:Zh):Option Bool :=
 if Zh.Name a0=Zh.Name b0 then
 if Zh.Kind a0=Zh.Kind b0 then
 (Zeu (Zh.YC a0) (Zh.YC b0)).bind fun eqPinS0 =>
 if eqPinS0=true then
 (Zeq (Zh.Za7 a0) (Zh.Za7 b0)).bind fun eqArcS0 =>
 if eqArcS0=true then
 (Xg (Zh.Truth a0) (Zh.Truth b0)).bind fun eqInt64S0 =>
 if eqInt64S0=true then
 if Zh.Ztj a0=Zh.Ztj b0 then
 if Zh.Zid a0=Zh.Zid b0 then
 some Bool.true
 else
 some Bool.false
 else
 some Bool.false
 else
 some Bool.false
 else
 some Bool.false
 else
 some Bool.false
 else
 some Bool.false
 else
 some Bool.false
noncomputable def c196:Ctr:=⟨[.dat (XY),.dat (XY)],[.dat (.bool)],fun a K=>splitK a fun a0 a=>splitK a fun b0 a=>ZA (ZcN a0 b0) fun r=>K (r,()) ()⟩
noncomputable def ZdF (a0:List Zh) (b0:List Zh) (i0:Int):Option ((Int×Unit) ⊕ Bool) :=
 if i0<(↑(List.length a0):Int) then
 (atI a0 i0).bind fun x0 =>
 (atI b0 i0).bind fun x1 =>
 (ZcN x0 x1).bind fun eqCell0 =>
 if eqCell0=true then
 some (.inl (IntKind.i64.wrap (i0+1),()))
 else
 some (.inr Bool.false)
 else
 some (.inr Bool.true)
noncomputable def Zdi (a0:List Zh) (b0:List Zh):Option Bool :=
 if (↑(List.length a0):Int)=(↑(List.length b0):Int) then
 Zt (fun v=>ZdF a0 b0 v.1) ((0:Int),())
 else
 some Bool.false
noncomputable def Zx4:Ctr:=⟨[.dat (.sl (XY)),.dat (.sl (XY))],[.dat (.bool)],fun a K=>splitK a fun a0 a=>splitK a fun b0 a=>ZA (Zdi a0 b0) fun r=>K (r,()) ()⟩
noncomputable def Zbm (a0:Zk) (b0:Zk):Option Bool :=
 (Zdi (Zk.Cells a0) (Zk.Cells b0)).bind fun eqCellS0 =>
 if eqCellS0=true then
 some Bool.true
 else
 some Bool.false
noncomputable def c198:Ctr:=⟨[.dat (YE),.dat (YE)],[.dat (.bool)],fun a K=>splitK a fun a0 a=>splitK a fun b0 a=>ZA (Zbm a0 b0) fun r=>K (r,()) ()⟩
noncomputable def JC (a0:Zd) (b0:Zd):Option Bool :=
 if Zd.Name a0=Zd.Name b0 then
 if Zd.Cell a0=Zd.Cell b0 then
 (Xg (Zd.ZM a0) (Zd.ZM b0)).bind fun eqInt64S0 =>
 if eqInt64S0=true then
 some Bool.true
 else
 some Bool.false
 else
 some Bool.false
 else
 some Bool.false
noncomputable def Zxz:Ctr:=⟨[.dat (Z6),.dat (Z6)],[.dat (.bool)],fun a K=>splitK a fun a0 a=>splitK a fun b0 a=>ZA (JC a0 b0) fun r=>K (r,()) ()⟩
noncomputable def ZbE (a0:List Zd) (b0:List Zd) (i0:Int):Option ((Int×Unit) ⊕ Bool) :=
 if i0<(↑(List.length a0):Int) then
 (atI a0 i0).bind fun x0 =>
 (atI b0 i0).bind fun x1 =>
 (JC x0 x1).bind fun eqInstance0 =>
 if eqInstance0=true then
 some (.inl (IntKind.i64.wrap (i0+1),()))
 else
 some (.inr Bool.false)
 else
 some (.inr Bool.true)
noncomputable def J4 (a0:List Zd) (b0:List Zd):Option Bool :=
 if (↑(List.length a0):Int)=(↑(List.length b0):Int) then
 Zt (fun v=>ZbE a0 b0 v.1) ((0:Int),())
 else
 some Bool.false
noncomputable def ZxO:Ctr:=⟨[.dat (.sl (Z6)),.dat (.sl (Z6))],[.dat (.bool)],fun a K=>splitK a fun a0 a=>splitK a fun b0 a=>ZA (J4 a0 b0) fun r=>K (r,()) ()⟩
noncomputable def Zcv (a0:List (List UInt8)) (b0:List (List UInt8)) (i0:Int):Option ((Int×Unit) ⊕ Bool) :=
 if i0<(↑(List.length a0):Int) then
 (atI a0 i0).bind fun x0 =>
 (atI b0 i0).bind fun x1 =>
 if x0=x1 then
 some (.inl (IntKind.i64.wrap (i0+1),()))
 else
 some (.inr Bool.false)
 else
 some (.inr Bool.true)
noncomputable def Zbl (a0:List (List UInt8)) (b0:List (List UInt8)):Option Bool :=
 if (↑(List.length a0):Int)=(↑(List.length b0):Int) then
 Zt (fun v=>Zcv a0 b0 v.1) ((0:Int),())
 else
 some Bool.false
noncomputable def c201:Ctr:=⟨[.dat (.sl (.str)),.dat (.sl (.str))],[.dat (.bool)],fun a K=>splitK a fun a0 a=>splitK a fun b0 a=>ZA (Zbl a0 b0) fun r=>K (r,()) ()⟩
noncomputable def ZcK (a0:ZL) (b0:ZL):Option Bool :=
 if ZL.Name a0=ZL.Name b0 then
 if ZL.Dir a0=ZL.Dir b0 then
 if ZL.Net a0=ZL.Net b0 then
 some Bool.true
 else
 some Bool.false
 else
 some Bool.false
 else
 some Bool.false
noncomputable def Zyn:Ctr:=⟨[.dat (Vz),.dat (Vz)],[.dat (.bool)],fun a K=>splitK a fun a0 a=>splitK a fun b0 a=>ZA (ZcK a0 b0) fun r=>K (r,()) ()⟩
noncomputable def ZdK (a0:List ZL) (b0:List ZL) (i0:Int):Option ((Int×Unit) ⊕ Bool) :=
 if i0<(↑(List.length a0):Int) then
 (atI a0 i0).bind fun x0 =>
 (atI b0 i0).bind fun x1 =>
 (ZcK x0 x1).bind fun eqPort0 =>
 if eqPort0=true then
 some (.inl (IntKind.i64.wrap (i0+1),()))
 else
 some (.inr Bool.false)
 else
 some (.inr Bool.true)
noncomputable def Zc8 (a0:List ZL) (b0:List ZL):Option Bool :=
 if (↑(List.length a0):Int)=(↑(List.length b0):Int) then
 Zt (fun v=>ZdK a0 b0 v.1) ((0:Int),())
 else
 some Bool.false
noncomputable def c203:Ctr:=⟨[.dat (.sl (Vz)),.dat (.sl (Vz))],[.dat (.bool)],fun a K=>splitK a fun a0 a=>splitK a fun b0 a=>ZA (Zc8 a0 b0) fun r=>K (r,()) ()⟩
noncomputable def Zci (a0:Za) (b0:Za):Option Bool :=
 (J4 (Za.Instances a0) (Za.Instances b0)).bind fun eqInstanceS0 =>
 if eqInstanceS0=true then
 (Zbl (Za.ZM a0) (Za.ZM b0)).bind fun eqStringS0 =>
 if eqStringS0=true then
 (Zc8 (Za.ZX a0) (Za.ZX b0)).bind fun eqPortS0 =>
 if eqPortS0=true then
 some Bool.true
 else
 some Bool.false
 else
 some Bool.false
 else
 some Bool.false
noncomputable def Zyj:Ctr:=⟨[.dat (Yr),.dat (Yr)],[.dat (.bool)],fun a K=>splitK a fun a0 a=>splitK a fun b0 a=>ZA (Zci a0 b0) fun r=>K (r,()) ()⟩
noncomputable def ZdJ (a0:List Zn) (b0:List Zn) (i0:Int):Option ((Int×Unit) ⊕ Bool) :=
 if i0<(↑(List.length a0):Int) then
 (atI a0 i0).bind fun x0 =>
 (atI b0 i0).bind fun x1 =>
 (ZbY x0 x1).bind fun eqWire0 =>
 if eqWire0=true then
 some (.inl (IntKind.i64.wrap (i0+1),()))
 else
 some (.inr Bool.false)
 else
 some (.inr Bool.true)
noncomputable def Zc2 (a0:List Zn) (b0:List Zn):Option Bool :=
 if (↑(List.length a0):Int)=(↑(List.length b0):Int) then
 Zt (fun v=>ZdJ a0 b0 v.1) ((0:Int),())
 else
 some Bool.false
noncomputable def Zxe:Ctr:=⟨[.dat (.sl (XR)),.dat (.sl (XR))],[.dat (.bool)],fun a K=>splitK a fun a0 a=>splitK a fun b0 a=>ZA (Zc2 a0 b0) fun r=>K (r,()) ()⟩
noncomputable def Zdk (a0:Zb) (b0:Zb):Option Bool :=
 (Zbm (Zb.Library a0) (Zb.Library b0)).bind fun eqLibrary0 =>
 if eqLibrary0=true then
 (Zci (Zb.Design a0) (Zb.Design b0)).bind fun eqDesign0 =>
 if eqDesign0=true then
 (Zc2 (Zb.Zw a0) (Zb.Zw b0)).bind fun eqWireS0 =>
 if eqWireS0=true then
 some Bool.true
 else
 some Bool.false
 else
 some Bool.false
 else
 some Bool.false
noncomputable def c206:Ctr:=⟨[.dat (YL),.dat (YL)],[.dat (.bool)],fun a K=>splitK a fun a0 a=>splitK a fun b0 a=>ZA (Zdk a0 b0) fun r=>K (r,()) ()⟩
noncomputable def JH (k1:Int) (out0:List UInt8):Option ((Int×(List UInt8)×Unit) ⊕ List UInt8) :=
 if 0<k1 then
 Zx ((↑(List.length (bytesOf [IntKind.wrap IntKind.u8 (IntKind.i64.wrap ((48:Int)+Int.tmod k1 (10:Int)))])):Int)+(↑(List.length out0):Int)≤(9223372036854775807:Int)) <|
 some (.inl (IntKind.i64.wrap (Int.tdiv k1 (10:Int)),bytesOf [IntKind.wrap IntKind.u8 (IntKind.i64.wrap ((48:Int)+Int.tmod k1 (10:Int)))]++out0,()))
 else
 Zx ((↑(List.length [(109:UInt8)]):Int)+(↑(List.length out0):Int)≤(9223372036854775807:Int)) <|
 some (.inr ([(109:UInt8)]++out0))
noncomputable def Xf (k0:Int):Option (List UInt8) :=
 if k0≤0 then
 some ([(109:UInt8),(48:UInt8)])
 else
 Zt (fun v=>JH v.1 v.2.1) (k0,([]:List UInt8),())
noncomputable def ZtG:Ctr:=⟨[.dat (.int .i64)],[.dat (.str)],fun a K=>splitK a fun k0 a=>ZA (Xf k0) fun r=>K (r,()) ()⟩
noncomputable def Jv (k1:Int) (i0:Int) (l0:List YB):Option ((Int×Int×(List YB)×Unit) ⊕ (Int×(List YB))) :=
 if i0<(↑(List.length l0):Int) then
 (Xf k1).bind fun markText0 =>
 (atI l0 i0).bind fun x0 =>
 (atI (List.set l0 (Int.toNat i0) (markText0,x0.snd)) i0).bind fun x1 =>
 (atI (List.set (List.set l0 (Int.toNat i0) (markText0,x0.snd)) (Int.toNat i0) (YB.Name x1,IntKind.i64.wrap (k1+1),x1.snd.snd)) i0).bind fun x2 =>
 (atI (List.set (List.set (List.set l0 (Int.toNat i0) (markText0,x0.snd)) (Int.toNat i0) (YB.Name x1,IntKind.i64.wrap (k1+1),x1.snd.snd)) (Int.toNat i0) (YB.Name x2,YB.Dir x2,IntKind.i64.wrap (IntKind.i64.wrap (k1+1)+1),x2.snd.snd.snd)) i0).bind fun x3 =>
 some (.inl (IntKind.i64.wrap (IntKind.i64.wrap (IntKind.i64.wrap (IntKind.i64.wrap (k1+1)+1)+1)+1),IntKind.i64.wrap (i0+1),List.set (List.set (List.set (List.set l0 (Int.toNat i0) (markText0,x0.snd)) (Int.toNat i0) (YB.Name x1,IntKind.i64.wrap (k1+1),x1.snd.snd)) (Int.toNat i0) (YB.Name x2,YB.Dir x2,IntKind.i64.wrap (IntKind.i64.wrap (k1+1)+1),x2.snd.snd.snd)) (Int.toNat i0) (YB.Name x3,YB.Dir x3,YB.Cap x3,Decidable.decide (Int.tmod (IntKind.i64.wrap (IntKind.i64.wrap (IntKind.i64.wrap (k1+1)+1)+1)) 3=0),()),()))
 else
 some (.inr (k1,l0))
noncomputable def Zcs (a0:List YB) (k0:Int):Option (Int×(List YB)) :=
 Zt (fun v=>Jv v.1 v.2.1 v.2.2.1) (k0,(0:Int),a0,())
noncomputable def c208:Ctr:=⟨[.back (.ol 218 (.flat (ZcH))),.dat (.int .i64)],[.dat (.int .i64)],fun a K=>splitK a fun a0 a=>splitK a fun k0 a=>ZA (Zcs a0 k0) fun r=>K (r.1,()) (r.2,())⟩
noncomputable def Xo (k1:Int) (i0:Int) (l0:List Int):Option ((Int×Int×(List Int)×Unit) ⊕ (Int×(List Int))) :=
 if i0<(↑(List.length l0):Int) then
 (atI l0 i0).bind fun x0 =>
 some (.inl (IntKind.i64.wrap (k1+1),IntKind.i64.wrap (i0+1),List.set l0 (Int.toNat i0) k1,()))
 else
 some (.inr (k1,l0))
noncomputable def Yk (a0:List Int) (k0:Int):Option (Int×(List Int)) :=
 Zt (fun v=>Xo v.1 v.2.1 v.2.2.1) (k0,(0:Int),a0,())
noncomputable def Zu3:Ctr:=⟨[.back (.ol 2 (.flat (.int .i64))),.dat (.int .i64)],[.dat (.int .i64)],fun a K=>splitK a fun a0 a=>splitK a fun k0 a=>ZA (Yk a0 k0) fun r=>K (r.1,()) (r.2,())⟩
noncomputable def Vw (k1:Int) (i0:Int) (l0:List (List Int×List Int×List Int×Unit)):Option ((Int×Int×(List (List Int×List Int×List Int×Unit))×Unit) ⊕ (Int×(List Zv))) :=
 if i0<(↑(List.length l0):Int) then
 (atI l0 i0).bind fun x0 =>
 (Yk x0.fst k1).bind fun markInt64S0 =>
 (Yk x0.snd.fst markInt64S0.fst).bind fun markInt64S1 =>
 (Yk x0.snd.snd.fst markInt64S1.fst).bind fun markInt64S2 =>
 some (.inl (markInt64S2.fst,IntKind.i64.wrap (i0+1),List.set l0 (Int.toNat i0) (markInt64S0.snd,markInt64S1.snd,markInt64S2.snd,()),()))
 else
 some (.inr (k1,l0))
noncomputable def Jw (a0:List Zv) (k0:Int):Option (Int×(List Zv)) :=
 Zt (fun v=>Vw v.1 v.2.1 v.2.2.1) (k0,(0:Int),a0,())
noncomputable def c210:Ctr:=⟨[.back (.ol 263 (ZeJ)),.dat (.int .i64)],[.dat (.int .i64)],fun a K=>splitK a fun a0 a=>splitK a fun k0 a=>ZA (Jw a0 k0) fun r=>K (r.1,()) (r.2,())⟩
noncomputable def JN (k1:Int) (i0:Int) (l0:List (Int×Int×Int×Int×List Zv×List Zv×Unit)):Option ((Int×Int×(List (Int×Int×Int×Int×List Zv×List Zv×Unit))×Unit) ⊕ (Int×(List ZT))) :=
 if i0<(↑(List.length l0):Int) then
 (atI l0 i0).bind fun x0 =>
 (Jw x0.snd.snd.snd.snd.fst (IntKind.i64.wrap (IntKind.i64.wrap (IntKind.i64.wrap (IntKind.i64.wrap (k1+1)+1)+1)+1))).bind fun markTableS0 =>
 (Jw x0.snd.snd.snd.snd.snd.fst markTableS0.fst).bind fun markTableS1 =>
 some (.inl (markTableS1.fst,IntKind.i64.wrap (i0+1),List.set l0 (Int.toNat i0) (k1,IntKind.i64.wrap (k1+1),IntKind.i64.wrap (IntKind.i64.wrap (k1+1)+1),IntKind.i64.wrap (IntKind.i64.wrap (IntKind.i64.wrap (k1+1)+1)+1),markTableS0.snd,markTableS1.snd,()),()))
 else
 some (.inr (k1,l0))
noncomputable def Zb8 (a0:List ZT) (k0:Int):Option (Int×(List ZT)) :=
 Zt (fun v=>JN v.1 v.2.1 v.2.2.1) (k0,(0:Int),a0,())
noncomputable def ZxH:Ctr:=⟨[.back (.ol 235 (ZqC)),.dat (.int .i64)],[.dat (.int .i64)],fun a K=>splitK a fun a0 a=>splitK a fun k0 a=>ZA (Zb8 a0 k0) fun r=>K (r.1,()) (r.2,())⟩
noncomputable def VP (k1:Int) (i0:Int) (l0:List (List UInt8×Int×List YB×List ZT×List Int×Int×Int×Unit)):Option ((Int×Int×(List (List UInt8×Int×List YB×List ZT×List Int×Int×Int×Unit))×Unit) ⊕ (Int×(List Zh))) :=
 if i0<(↑(List.length l0):Int) then
 (Xf k1).bind fun markText0 =>
 (atI l0 i0).bind fun x0 =>
 (Zcs x0.snd.snd.fst (IntKind.i64.wrap (IntKind.i64.wrap (k1+1)+1))).bind fun markPinS0 =>
 (Zb8 x0.snd.snd.snd.fst markPinS0.fst).bind fun markArcS0 =>
 (Yk x0.snd.snd.snd.snd.fst markArcS0.fst).bind fun markInt64S0 =>
 some (.inl (IntKind.i64.wrap (IntKind.i64.wrap (markInt64S0.fst+1)+1),IntKind.i64.wrap (i0+1),List.set l0 (Int.toNat i0) (markText0,IntKind.i64.wrap (k1+1),markPinS0.snd,markArcS0.snd,markInt64S0.snd,markInt64S0.fst,IntKind.i64.wrap (markInt64S0.fst+1),()),()))
 else
 some (.inr (k1,l0))
noncomputable def Zbq (a0:List Zh) (k0:Int):Option (Int×(List Zh)) :=
 Zt (fun v=>VP v.1 v.2.1 v.2.2.1) (k0,(0:Int),a0,())
noncomputable def c212:Ctr:=⟨[.back (.ol 169 (Zjc)),.dat (.int .i64)],[.dat (.int .i64)],fun a K=>splitK a fun a0 a=>splitK a fun k0 a=>ZA (Zbq a0 k0) fun r=>K (r.1,()) (r.2,())⟩
noncomputable def J8 (a0:Zk) (k0:Int):Option (Int×Zk) :=
 (Zbq (Zk.Cells a0) k0).bind fun markCellS0 =>
 some (markCellS0.fst,(markCellS0.snd,()))
noncomputable def c213:Ctr:=⟨[.back (ZjJ),.dat (.int .i64)],[.dat (.int .i64)],fun a K=>splitK a fun a0 a=>splitK a fun k0 a=>ZA (J8 a0 k0) fun r=>K (r.1,()) (r.2,())⟩
noncomputable def Qm (k1:Int) (i0:Int) (l0:List (List UInt8×Int×List Int×Unit)):Option ((Int×Int×(List (List UInt8×Int×List Int×Unit))×Unit) ⊕ (Int×(List Zd))) :=
 if i0<(↑(List.length l0):Int) then
 (Xf k1).bind fun markText0 =>
 (atI l0 i0).bind fun x0 =>
 (Yk x0.snd.snd.fst (IntKind.i64.wrap (IntKind.i64.wrap (k1+1)+1))).bind fun markInt64S0 =>
 some (.inl (markInt64S0.fst,IntKind.i64.wrap (i0+1),List.set l0 (Int.toNat i0) (markText0,IntKind.i64.wrap (k1+1),markInt64S0.snd,()),()))
 else
 some (.inr (k1,l0))
noncomputable def VI (a0:List Zd) (k0:Int):Option (Int×(List Zd)) :=
 Zt (fun v=>Qm v.1 v.2.1 v.2.2.1) (k0,(0:Int),a0,())
noncomputable def Zxh:Ctr:=⟨[.back (.ol 124 (ZaN)),.dat (.int .i64)],[.dat (.int .i64)],fun a K=>splitK a fun a0 a=>splitK a fun k0 a=>ZA (VI a0 k0) fun r=>K (r.1,()) (r.2,())⟩
noncomputable def Q0 (k1:Int) (i0:Int) (l0:List (List UInt8)):Option ((Int×Int×(List (List UInt8))×Unit) ⊕ (Int×(List (List UInt8)))) :=
 if i0<(↑(List.length l0):Int) then
 (Xf k1).bind fun markText0 =>
 (atI l0 i0).bind fun x0 =>
 some (.inl (IntKind.i64.wrap (k1+1),IntKind.i64.wrap (i0+1),List.set l0 (Int.toNat i0) markText0,()))
 else
 some (.inr (k1,l0))
noncomputable def Zab (a0:List (List UInt8)) (k0:Int):Option (Int×(List (List UInt8))) :=
 Zt (fun v=>Q0 v.1 v.2.1 v.2.2.1) (k0,(0:Int),a0,())
noncomputable def Zyv:Ctr:=⟨[.back (.ol 9 (.flat (.str))),.dat (.int .i64)],[.dat (.int .i64)],fun a K=>splitK a fun a0 a=>splitK a fun k0 a=>ZA (Zab a0 k0) fun r=>K (r.1,()) (r.2,())⟩
noncomputable def VW (k1:Int) (i0:Int) (l0:List ZL):Option ((Int×Int×(List ZL)×Unit) ⊕ (Int×(List ZL))) :=
 if i0<(↑(List.length l0):Int) then
 (Xf k1).bind fun markText0 =>
 (atI l0 i0).bind fun x0 =>
 (atI (List.set l0 (Int.toNat i0) (markText0,x0.snd)) i0).bind fun x1 =>
 (atI (List.set (List.set l0 (Int.toNat i0) (markText0,x0.snd)) (Int.toNat i0) (ZL.Name x1,IntKind.i64.wrap (k1+1),x1.snd.snd)) i0).bind fun x2 =>
 some (.inl (IntKind.i64.wrap (IntKind.i64.wrap (IntKind.i64.wrap (k1+1)+1)+1),IntKind.i64.wrap (i0+1),List.set (List.set (List.set l0 (Int.toNat i0) (markText0,x0.snd)) (Int.toNat i0) (ZL.Name x1,IntKind.i64.wrap (k1+1),x1.snd.snd)) (Int.toNat i0) (ZL.Name x2,ZL.Dir x2,IntKind.i64.wrap (IntKind.i64.wrap (k1+1)+1),()),()))
 else
 some (.inr (k1,l0))
noncomputable def Zbs (a0:List ZL) (k0:Int):Option (Int×(List ZL)) :=
 Zt (fun v=>VW v.1 v.2.1 v.2.2.1) (k0,(0:Int),a0,())
noncomputable def Zx0:Ctr:=⟨[.back (.ol 178 (.flat (Vz))),.dat (.int .i64)],[.dat (.int .i64)],fun a K=>splitK a fun a0 a=>splitK a fun k0 a=>ZA (Zbs a0 k0) fun r=>K (r.1,()) (r.2,())⟩
noncomputable def ZaO (a0:Za) (k0:Int):Option (Int×Za) :=
 (VI (Za.Instances a0) k0).bind fun markInstanceS0 =>
 (Zab (Za.ZM a0) markInstanceS0.fst).bind fun markStringS0 =>
 (Zbs (Za.ZX a0) markStringS0.fst).bind fun markPortS0 =>
 some (markPortS0.fst,(markInstanceS0.snd,markStringS0.snd,markPortS0.snd,()))
noncomputable def ZxI:Ctr:=⟨[.back (Zky),.dat (.int .i64)],[.dat (.int .i64)],fun a K=>splitK a fun a0 a=>splitK a fun k0 a=>ZA (ZaO a0 k0) fun r=>K (r.1,()) (r.2,())⟩
noncomputable def V5 (k1:Int) (i0:Int) (l0:List (List Int×List Int×List Int×List Int×Unit)):Option ((Int×Int×(List (List Int×List Int×List Int×List Int×Unit))×Unit) ⊕ (Int×(List Zn))) :=
 if i0<(↑(List.length l0):Int) then
 (atI l0 i0).bind fun x0 =>
 (Yk x0.fst k1).bind fun markInt64S0 =>
 (Yk x0.snd.fst markInt64S0.fst).bind fun markInt64S1 =>
 (Yk x0.snd.snd.fst markInt64S1.fst).bind fun markInt64S2 =>
 (Yk x0.snd.snd.snd.fst markInt64S2.fst).bind fun markInt64S3 =>
 some (.inl (markInt64S3.fst,IntKind.i64.wrap (i0+1),List.set l0 (Int.toNat i0) (markInt64S0.snd,markInt64S1.snd,markInt64S2.snd,markInt64S3.snd,()),()))
 else
 some (.inr (k1,l0))
noncomputable def Zbv (a0:List Zn) (k0:Int):Option (Int×(List Zn)) :=
 Zt (fun v=>V5 v.1 v.2.1 v.2.2.1) (k0,(0:Int),a0,())
noncomputable def c218:Ctr:=⟨[.back (.ol 64 (Zha)),.dat (.int .i64)],[.dat (.int .i64)],fun a K=>splitK a fun a0 a=>splitK a fun k0 a=>ZA (Zbv a0 k0) fun r=>K (r.1,()) (r.2,())⟩
noncomputable def Zbt (a0:Zb) (k0:Int):Option (Int×Zb) :=
 (J8 (Zb.Library a0) k0).bind fun markLibrary0 =>
 (ZaO (Zb.Design a0) markLibrary0.fst).bind fun markDesign0 =>
 (Zbv (Zb.Zw a0) markDesign0.fst).bind fun markWireS0 =>
 some (markWireS0.fst,(markLibrary0.snd,markDesign0.snd,markWireS0.snd,()))
noncomputable def Zxf:Ctr:=⟨[.back (Zdv),.dat (.int .i64)],[.dat (.int .i64)],fun a K=>splitK a fun a0 a=>splitK a fun k0 a=>ZA (Zbt a0 k0) fun r=>K (r.1,()) (r.2,())⟩
noncomputable def XF (v0:Int) (v1:Int) (l0:List (Int×Int×Int×Int×Int×List UInt8×Zn×Unit)):Option ((Int×Int×(List (Int×Int×Int×Int×Int×List UInt8×Zn×Unit))×Unit) ⊕ (Int×(List Zf))) :=
 if v1<(↑(List.length l0):Int) then
 (atI l0 v1).bind fun x0 =>
 (Xf (IntKind.i64.wrap (IntKind.i64.wrap (IntKind.i64.wrap (IntKind.i64.wrap (IntKind.i64.wrap (v0+1)+1)+1)+1)+1))).bind fun markText0 =>
 (Yk x0.snd.snd.snd.snd.snd.snd.fst.fst (IntKind.i64.wrap (IntKind.i64.wrap (IntKind.i64.wrap (IntKind.i64.wrap (IntKind.i64.wrap (IntKind.i64.wrap (v0+1)+1)+1)+1)+1)+1))).bind fun markInt64S0 =>
 (Yk x0.snd.snd.snd.snd.snd.snd.fst.snd.fst markInt64S0.fst).bind fun markInt64S1 =>
 (Yk x0.snd.snd.snd.snd.snd.snd.fst.snd.snd.fst markInt64S1.fst).bind fun markInt64S2 =>
 (Yk x0.snd.snd.snd.snd.snd.snd.fst.snd.snd.snd.fst markInt64S2.fst).bind fun markInt64S3 =>
 some (.inl (markInt64S3.fst,IntKind.i64.wrap (v1+1),List.set l0 (Int.toNat v1) (v0,IntKind.i64.wrap (v0+1),IntKind.i64.wrap (IntKind.i64.wrap (v0+1)+1),IntKind.i64.wrap (IntKind.i64.wrap (IntKind.i64.wrap (v0+1)+1)+1),IntKind.i64.wrap (IntKind.i64.wrap (IntKind.i64.wrap (IntKind.i64.wrap (v0+1)+1)+1)+1),markText0,(markInt64S0.snd,markInt64S1.snd,markInt64S2.snd,markInt64S3.snd,()),()),()))
 else
 some (.inr (v0,l0))
noncomputable def Vm (a0:List Zf) (a1:Int):Option (Int×(List Zf)) :=
 Zt (fun v=>XF v.1 v.2.1 v.2.2.1) (a1,(0:Int),a0,())
noncomputable def Zye:Ctr:=⟨[.back (.ol 66 (Zi2)),.dat (.int .i64)],[.dat (.int .i64)],fun a K=>splitK a fun a0 a=>splitK a fun a1 a=>ZA (Vm a0 a1) fun r=>K (r.1,()) (r.2,())⟩
noncomputable def Qe (a0:List Int) (k1:Int) (i0:Int):Option ((Int×Int×Unit) ⊕ Int) :=
 if i0<(↑(List.length a0):Int) then
 (atI a0 i0).bind fun x0 =>
 if x0=k1 then
 some (.inl (IntKind.i64.wrap (k1+1),IntKind.i64.wrap (i0+1),()))
 else
 some (.inr (-1))
 else
 some (.inr k1)
noncomputable def QG (a0:List Int) (k0:Int):Option Int :=
 Zt (fun v=>Qe a0 v.1 v.2.1) (k0,(0:Int),())
noncomputable def ZyC:Ctr:=⟨[.dat (.sl (.int .i64)),.dat (.int .i64)],[.dat (.int .i64)],fun a K=>splitK a fun a0 a=>splitK a fun k0 a=>ZA (QG a0 k0) fun r=>K (r,()) ()⟩
noncomputable def QO (a0:List Zf) (v0:Int) (v1:Int):Option ((Int×Int×Unit) ⊕ Int) :=
 if v1<(↑(List.length a0):Int) then
 (atI a0 v1).bind fun x0 =>
 if Zf.Kind x0=v0 then
 if Zf.Place x0=IntKind.i64.wrap (v0+1) then
 if Zf.Cell x0=IntKind.i64.wrap (IntKind.i64.wrap (v0+1)+1) then
 if Zf.Net x0=IntKind.i64.wrap (IntKind.i64.wrap (IntKind.i64.wrap (v0+1)+1)+1) then
 if Zf.Node x0=IntKind.i64.wrap (IntKind.i64.wrap (IntKind.i64.wrap (IntKind.i64.wrap (v0+1)+1)+1)+1) then
 (Xf (IntKind.i64.wrap (IntKind.i64.wrap (IntKind.i64.wrap (IntKind.i64.wrap (IntKind.i64.wrap (v0+1)+1)+1)+1)+1))).bind fun markText0 =>
 if Zf.Name x0=markText0 then
 (QG (Zn.Parent (Zf.Zdl x0)) (IntKind.i64.wrap (IntKind.i64.wrap (IntKind.i64.wrap (IntKind.i64.wrap (IntKind.i64.wrap (IntKind.i64.wrap (v0+1)+1)+1)+1)+1)+1))).bind fun heldInt64S0 =>
 if heldInt64S0<0 then
 some (.inr (-1))
 else
 (QG (Zn.Res (Zf.Zdl x0)) heldInt64S0).bind fun heldInt64S1 =>
 if heldInt64S1<0 then
 some (.inr (-1))
 else
 (QG (Zn.Cap (Zf.Zdl x0)) heldInt64S1).bind fun heldInt64S2 =>
 if heldInt64S2<0 then
 some (.inr (-1))
 else
 (QG (Zn.Zfx (Zf.Zdl x0)) heldInt64S2).bind fun heldInt64S3 =>
 if heldInt64S3<0 then
 some (.inr (-1))
 else
 some (.inl (heldInt64S3,IntKind.i64.wrap (v1+1),()))
 else
 some (.inr (-1))
 else
 some (.inr (-1))
 else
 some (.inr (-1))
 else
 some (.inr (-1))
 else
 some (.inr (-1))
 else
 some (.inr (-1))
 else
 some (.inr v0)
noncomputable def ZbA (a0:List Zf) (a1:Int):Option Int :=
 Zt (fun v=>QO a0 v.1 v.2.1) (a1,(0:Int),())
noncomputable def c222:Ctr:=⟨[.dat (.sl (Ym)),.dat (.int .i64)],[.dat (.int .i64)],fun a K=>splitK a fun a0 a=>splitK a fun a1 a=>ZA (ZbA a0 a1) fun r=>K (r,()) ()⟩
noncomputable def Qp (a0:Zb) (a1:List Zf):Option Bool :=
 (ZaZ a0 1048576).bind fun szBlock0 =>
 if szBlock0<0 then
 some Bool.true
 else
 (ZaS a1 szBlock0).bind fun szEditS0 =>
 if szEditS0<0 then
 some Bool.true
 else
 (Zdb a0).bind fun toBlock0 =>
 (Zdc a1).bind fun toEditS0 =>
 (Jp toBlock0 toEditS0).bind fun InverseEdits0 =>
 (Jo toBlock0 toEditS0).bind fun InverseEdits1 =>
 (ZbU InverseEdits1.fst InverseEdits0.fst).bind fun eqEditS0 =>
 if eqEditS0=true then
 if InverseEdits1.snd=InverseEdits0.snd then
 (Zdk toBlock0 toBlock0).bind fun eqBlock0 =>
 if eqBlock0=true then
 (ZbU toEditS0 toEditS0).bind fun eqEditS1 =>
 if eqEditS1=true then
 (Zbt toBlock0 1).bind fun markBlock0 =>
 (Vm toEditS0 markBlock0.fst).bind fun markEditS0 =>
 if markEditS0.fst<0 then
 some Bool.false
 else
 if eqEditS0=true then
 if InverseEdits1.snd=InverseEdits0.snd then
 (Vm InverseEdits1.fst 1).bind fun markEditS1 =>
 (ZbA markEditS1.snd 1).bind fun heldEditS0 =>
 if heldEditS0<0 then
 some Bool.false
 else
 if heldEditS0=markEditS1.fst then
 if eqEditS0=true then
 if InverseEdits1.snd=InverseEdits0.snd then
 if heldEditS0<0 then
 some Bool.false
 else
 if heldEditS0=markEditS1.fst then
 some Bool.true
 else
 some Bool.false
 else
 some Bool.false
 else
 some Bool.false
 else
 some Bool.false
 else
 some Bool.false
 else
 some Bool.false
 else
 some Bool.false
 else
 some Bool.false
 else
 some Bool.false
 else
 some Bool.false
noncomputable def Zcu:Ctr:=⟨[.dat (YL),.dat (.sl (Ym))],[.dat (.bool)],fun a K=>splitK a fun a0 a=>splitK a fun a1 a=>ZA (Qp a0 a1) fun r=>K (r,()) ()⟩
end Go.Proofs.YtehkanadahncgaaGreatDoor
