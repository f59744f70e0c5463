/-
 The models of the functions and their contracts. Printed by program.
-/
import Derived.Test.YtfndhpjedmopdaaGreatDoorSxTab
import Derived.Test.YtfndhpjedmopdaaGreatDoorSxS0
import Derived.Test.YtfndhpjedmopdaaGreatDoorSxLib
import Derived.Test.YtfndhpjedmopdaaGreatDoorSxLibR
namespace Go.Proofs.YtfndhpjedmopdaaGreatDoor
open Go Go.Sx
set_option maxRecDepth 100000
set_option maxHeartbeats 3200000
set_option linter.unusedVariables false
set_option linter.unusedSimpArgs false
noncomputable section
def ZbG (a0:Yv) (left0:Int):Option Int :=
 if IntKind.i64.wrap (left0-(↑(List.length (Yv.Name a0)):Int))<0 then
 some (-1)
 else
 some (IntKind.i64.wrap (left0-(↑(List.length (Yv.Name a0)):Int)))
def c0:Ctr:=D2 (Je) (.int .i64) (.int .i64) ZbG
def Zev (a0:List Yv) (left1:Int) (i0:Int):Option ((Int×Int×Unit) ⊕ Int) :=
 if i0<(↑(List.length a0):Int) then
 (atI a0 i0).bind fun x0 =>
 (ZbG x0 left1).bind fun szPin0 =>
 if szPin0<0 then
 some (.inr (-1))
 else
 some (.inl (szPin0,IntKind.i64.wrap (i0+1),()))
 else
 some (.inr left1)
def Zcc (a0:List Yv) (left0:Int):Option Int :=
 if IntKind.i64.wrap (left0-(↑(List.length a0):Int))<0 then
 some (-1)
 else
 Zu (fun v=>Zev a0 v.1 v.2.1) (IntKind.i64.wrap (left0-(↑(List.length a0):Int)),(0:Int),())
def c1:Ctr:=D2 (.sl (Je)) (.int .i64) (.int .i64) Zcc
def YX (a0:List Int) (left0:Int):Option Int :=
 if IntKind.i64.wrap (left0-(↑(List.length a0):Int))<0 then
 some (-1)
 else
 some (IntKind.i64.wrap (left0-(↑(List.length a0):Int)))
def c2:Ctr:=D2 (.sl (.int .i64)) (.int .i64) (.int .i64) YX
def Ju (a0:Zt) (left0:Int):Option Int :=
 (YX (Zt.Zfx a0) left0).bind fun szInt64S0 =>
 if szInt64S0<0 then
 some (-1)
 else
 (YX (Zt.Loads a0) szInt64S0).bind fun szInt64S1 =>
 if szInt64S1<0 then
 some (-1)
 else
 (YX (Zt.Values a0) szInt64S1).bind fun szInt64S2 =>
 if szInt64S2<0 then
 some (-1)
 else
 some szInt64S2
def c3:Ctr:=D2 (Yh) (.int .i64) (.int .i64) Ju
def Zc1 (a0:List Zt) (left1:Int) (i0:Int):Option ((Int×Int×Unit) ⊕ Int) :=
 if i0<(↑(List.length a0):Int) then
 (atI a0 i0).bind fun x0 =>
 (Ju x0 left1).bind fun szTable0 =>
 if szTable0<0 then
 some (.inr (-1))
 else
 some (.inl (szTable0,IntKind.i64.wrap (i0+1),()))
 else
 some (.inr left1)
def Jr (a0:List Zt) (left0:Int):Option Int :=
 if IntKind.i64.wrap (left0-(↑(List.length a0):Int))<0 then
 some (-1)
 else
 Zu (fun v=>Zc1 a0 v.1 v.2.1) (IntKind.i64.wrap (left0-(↑(List.length a0):Int)),(0:Int),())
def c4:Ctr:=D2 (.sl (Yh)) (.int .i64) (.int .i64) Jr
def ZbI (a0:ZM) (left0:Int):Option Int :=
 (Jr (ZM.Delay a0) left0).bind fun szTableS0 =>
 if szTableS0<0 then
 some (-1)
 else
 (Jr (ZM.Zhj a0) szTableS0).bind fun szTableS1 =>
 if szTableS1<0 then
 some (-1)
 else
 some szTableS1
def c5:Ctr:=D2 (ZaK) (.int .i64) (.int .i64) ZbI
def ZeD (a0:List ZM) (left1:Int) (i0:Int):Option ((Int×Int×Unit) ⊕ Int) :=
 if i0<(↑(List.length a0):Int) then
 (atI a0 i0).bind fun x0 =>
 (ZbI x0 left1).bind fun szArc0 =>
 if szArc0<0 then
 some (.inr (-1))
 else
 some (.inl (szArc0,IntKind.i64.wrap (i0+1),()))
 else
 some (.inr left1)
def Zb7 (a0:List ZM) (left0:Int):Option Int :=
 if IntKind.i64.wrap (left0-(↑(List.length a0):Int))<0 then
 some (-1)
 else
 Zu (fun v=>ZeD a0 v.1 v.2.1) (IntKind.i64.wrap (left0-(↑(List.length a0):Int)),(0:Int),())
def c6:Ctr:=D2 (.sl (ZaK)) (.int .i64) (.int .i64) Zb7
def ZaN (a0:Zh) (left0:Int):Option Int :=
 if IntKind.i64.wrap (left0-(↑(List.length (Zh.Name a0)):Int))<0 then
 some (-1)
 else
 (Zcc (Zh.YC a0) (IntKind.i64.wrap (left0-(↑(List.length (Zh.Name a0)):Int)))).bind fun szPinS0 =>
 if szPinS0<0 then
 some (-1)
 else
 (Zb7 (Zh.Zbc a0) szPinS0).bind fun szArcS0 =>
 if szArcS0<0 then
 some (-1)
 else
 (YX (Zh.Truth a0) szArcS0).bind fun szInt64S0 =>
 if szInt64S0<0 then
 some (-1)
 else
 some szInt64S0
def c7:Ctr:=D2 (YL) (.int .i64) (.int .i64) ZaN
def Zd3 (a0:List Zh) (left1:Int) (i0:Int):Option ((Int×Int×Unit) ⊕ Int) :=
 if i0<(↑(List.length a0):Int) then
 (atI a0 i0).bind fun x0 =>
 (ZaN x0 left1).bind fun szCell0 =>
 if szCell0<0 then
 some (.inr (-1))
 else
 some (.inl (szCell0,IntKind.i64.wrap (i0+1),()))
 else
 some (.inr left1)
def Zbi (a0:List Zh) (left0:Int):Option Int :=
 if IntKind.i64.wrap (left0-(↑(List.length a0):Int))<0 then
 some (-1)
 else
 Zu (fun v=>Zd3 a0 v.1 v.2.1) (IntKind.i64.wrap (left0-(↑(List.length a0):Int)),(0:Int),())
def c8:Ctr:=D2 (.sl (YL)) (.int .i64) (.int .i64) Zbi
def JB (a0:Zl) (left0:Int):Option Int :=
 (Zbi (Zl.Cells a0) left0).bind fun szCellS0 =>
 if szCellS0<0 then
 some (-1)
 else
 some szCellS0
def c9:Ctr:=D2 (Z6) (.int .i64) (.int .i64) JB
def X9 (a0:Zd) (left0:Int):Option Int :=
 if IntKind.i64.wrap (left0-(↑(List.length (Zd.Name a0)):Int))<0 then
 some (-1)
 else
 (YX (Zd.ZP a0) (IntKind.i64.wrap (left0-(↑(List.length (Zd.Name a0)):Int)))).bind fun szInt64S0 =>
 if szInt64S0<0 then
 some (-1)
 else
 some szInt64S0
def c10:Ctr:=D2 (Zw) (.int .i64) (.int .i64) X9
def Zb0 (a0:List Zd) (left1:Int) (i0:Int):Option ((Int×Int×Unit) ⊕ Int) :=
 if i0<(↑(List.length a0):Int) then
 (atI a0 i0).bind fun x0 =>
 (X9 x0 left1).bind fun szInstance0 =>
 if szInstance0<0 then
 some (.inr (-1))
 else
 some (.inl (szInstance0,IntKind.i64.wrap (i0+1),()))
 else
 some (.inr left1)
def Vg (a0:List Zd) (left0:Int):Option Int :=
 if IntKind.i64.wrap (left0-(↑(List.length a0):Int))<0 then
 some (-1)
 else
 Zu (fun v=>Zb0 a0 v.1 v.2.1) (IntKind.i64.wrap (left0-(↑(List.length a0):Int)),(0:Int),())
def c11:Ctr:=D2 (.sl (Zw)) (.int .i64) (.int .i64) Vg
def XL (a0:List (List UInt8)) (left1:Int) (i0:Int):Option ((Int×Int×Unit) ⊕ Int) :=
 if i0<(↑(List.length a0):Int) then
 (atI a0 i0).bind fun x0 =>
 if IntKind.i64.wrap (left1-(↑(List.length x0):Int))<0 then
 some (.inr (-1))
 else
 some (.inl (IntKind.i64.wrap (left1-(↑(List.length x0):Int)),IntKind.i64.wrap (i0+1),()))
 else
 some (.inr left1)
def Jy (a0:List (List UInt8)) (left0:Int):Option Int :=
 if IntKind.i64.wrap (left0-(↑(List.length a0):Int))<0 then
 some (-1)
 else
 Zu (fun v=>XL a0 v.1 v.2.1) (IntKind.i64.wrap (left0-(↑(List.length a0):Int)),(0:Int),())
def c12:Ctr:=D2 (.sl (.str)) (.int .i64) (.int .i64) Jy
def ZaO (a0:ZI) (left0:Int):Option Int :=
 if IntKind.i64.wrap (left0-(↑(List.length (ZI.Name a0)):Int))<0 then
 some (-1)
 else
 some (IntKind.i64.wrap (left0-(↑(List.length (ZI.Name a0)):Int)))
def c13:Ctr:=D2 (Xa) (.int .i64) (.int .i64) ZaO
def ZdI (a0:List ZI) (left1:Int) (i0:Int):Option ((Int×Int×Unit) ⊕ Int) :=
 if i0<(↑(List.length a0):Int) then
 (atI a0 i0).bind fun x0 =>
 (ZaO x0 left1).bind fun szPort0 =>
 if szPort0<0 then
 some (.inr (-1))
 else
 some (.inl (szPort0,IntKind.i64.wrap (i0+1),()))
 else
 some (.inr left1)
def Zbg (a0:List ZI) (left0:Int):Option Int :=
 if IntKind.i64.wrap (left0-(↑(List.length a0):Int))<0 then
 some (-1)
 else
 Zu (fun v=>ZdI a0 v.1 v.2.1) (IntKind.i64.wrap (left0-(↑(List.length a0):Int)),(0:Int),())
def c14:Ctr:=D2 (.sl (Xa)) (.int .i64) (.int .i64) Zbg
def ZaF (a0:Za) (left0:Int):Option Int :=
 (Vg (Za.Instances a0) left0).bind fun szInstanceS0 =>
 if szInstanceS0<0 then
 some (-1)
 else
 (Jy (Za.ZP a0) szInstanceS0).bind fun szStringS0 =>
 if szStringS0<0 then
 some (-1)
 else
 (Zbg (Za.Z0 a0) szStringS0).bind fun szPortS0 =>
 if szPortS0<0 then
 some (-1)
 else
 some szPortS0
def c15:Ctr:=D2 (Z9) (.int .i64) (.int .i64) ZaF
def JR (a0:Zn) (left0:Int):Option Int :=
 (YX (Zn.Parent a0) left0).bind fun szInt64S0 =>
 if szInt64S0<0 then
 some (-1)
 else
 (YX (Zn.Res a0) szInt64S0).bind fun szInt64S1 =>
 if szInt64S1<0 then
 some (-1)
 else
 (YX (Zn.Cap a0) szInt64S1).bind fun szInt64S2 =>
 if szInt64S2<0 then
 some (-1)
 else
 (YX (Zn.ZfM a0) szInt64S2).bind fun szInt64S3 =>
 if szInt64S3<0 then
 some (-1)
 else
 some szInt64S3
def c16:Ctr:=D2 (YP) (.int .i64) (.int .i64) JR
def Zeh (a0:List Zn) (left1:Int) (i0:Int):Option ((Int×Int×Unit) ⊕ Int) :=
 if i0<(↑(List.length a0):Int) then
 (atI a0 i0).bind fun x0 =>
 (JR x0 left1).bind fun szWire0 =>
 if szWire0<0 then
 some (.inr (-1))
 else
 some (.inl (szWire0,IntKind.i64.wrap (i0+1),()))
 else
 some (.inr left1)
def Zbh (a0:List Zn) (left0:Int):Option Int :=
 if IntKind.i64.wrap (left0-(↑(List.length a0):Int))<0 then
 some (-1)
 else
 Zu (fun v=>Zeh a0 v.1 v.2.1) (IntKind.i64.wrap (left0-(↑(List.length a0):Int)),(0:Int),())
def c17:Ctr:=D2 (.sl (YP)) (.int .i64) (.int .i64) Zbh
def Zbe (a0:Zb) (left0:Int):Option Int :=
 (JB (Zb.Library a0) left0).bind fun szLibrary0 =>
 if szLibrary0<0 then
 some (-1)
 else
 (ZaF (Zb.Design a0) szLibrary0).bind fun szDesign0 =>
 if szDesign0<0 then
 some (-1)
 else
 (Zbh (Zb.Zy a0) szDesign0).bind fun szWireS0 =>
 if szWireS0<0 then
 some (-1)
 else
 some szWireS0
def c18:Ctr:=D2 (Yt) (.int .i64) (.int .i64) Zbe
def ZaP (a0:Zf) (left0:Int):Option Int :=
 if IntKind.i64.wrap (left0-(↑(List.length (Zf.Name a0)):Int))<0 then
 some (-1)
 else
 (JR (Zf.Zfc a0) (IntKind.i64.wrap (left0-(↑(List.length (Zf.Name a0)):Int)))).bind fun szWire0 =>
 if szWire0<0 then
 some (-1)
 else
 some szWire0
def c19:Ctr:=D2 (Y9) (.int .i64) (.int .i64) ZaP
def ZdP (a0:List Zf) (left1:Int) (i0:Int):Option ((Int×Int×Unit) ⊕ Int) :=
 if i0<(↑(List.length a0):Int) then
 (atI a0 i0).bind fun x0 =>
 (ZaP x0 left1).bind fun szEdit0 =>
 if szEdit0<0 then
 some (.inr (-1))
 else
 some (.inl (szEdit0,IntKind.i64.wrap (i0+1),()))
 else
 some (.inr left1)
def Zbd (a0:List Zf) (left0:Int):Option Int :=
 if IntKind.i64.wrap (left0-(↑(List.length a0):Int))<0 then
 some (-1)
 else
 Zu (fun v=>ZdP a0 v.1 v.2.1) (IntKind.i64.wrap (left0-(↑(List.length a0):Int)),(0:Int),())
def c20:Ctr:=D2 (.sl (Y9)) (.int .i64) (.int .i64) Zbd
def Zeu (a0:Yv):Option Yv :=
 some a0
def c21:Ctr:=D1 (Je) (Je) Zeu
def Zex (a0:List Yv) (i0:Int) (l0:List (List UInt8×Int×Int×Bool×Unit)):Option ((Int×(List (List UInt8×Int×Int×Bool×Unit))×Unit) ⊕ List Yv) :=
 if i0<(↑(List.length a0):Int) then
 (atI a0 i0).bind fun x0 =>
 (Zeu x0).bind fun toPin0 =>
 (atI l0 i0).bind fun x1 =>
 some (.inl (IntKind.i64.wrap (i0+1),List.set l0 (Int.toNat i0) toPin0,()))
 else
 some (.inr l0)
def ZeA (a0:List Yv):Option (List Yv) :=
 Zz ((0:Int)≤(↑(List.length a0):Int)) <|
 Zz ((↑(List.length a0):Int)≤(↑(List.length a0):Int)) <|
 Zz ((↑(List.length a0):Int)≤(4611686018427387904:Int)) <|
 Zz ((↑(40:Nat):Int)*(↑(List.length a0):Int)≤(281474976710656:Int)) <|
 Zu (fun v=>Zex a0 v.1 v.2.1) ((0:Int),List.replicate (Int.toNat (↑(List.length a0):Int)) (([]:List UInt8),(0:Int),(0:Int),Bool.false,()),())
def c22:Ctr:=⟨[.dat (.sl (Je))],[.own (.ol 260 (.flat (Je)))],fun a K=>splitK a fun a0 a=>Y4 (ZeA a0) fun r=>K (r,()) ()⟩
def Zc4 (a0:List Int) (i0:Int) (l0:List Int):Option ((Int×(List Int)×Unit) ⊕ List Int) :=
 if i0<(↑(List.length a0):Int) then
 (atI a0 i0).bind fun x0 =>
 (atI l0 i0).bind fun x1 =>
 some (.inl (IntKind.i64.wrap (i0+1),List.set l0 (Int.toNat i0) x0,()))
 else
 some (.inr l0)
def Xl (a0:List Int):Option (List Int) :=
 Zz ((0:Int)≤(↑(List.length a0):Int)) <|
 Zz ((↑(List.length a0):Int)≤(↑(List.length a0):Int)) <|
 Zz ((↑(List.length a0):Int)≤(4611686018427387904:Int)) <|
 Zz ((↑(8:Nat):Int)*(↑(List.length a0):Int)≤(281474976710656:Int)) <|
 Zu (fun v=>Zc4 a0 v.1 v.2.1) ((0:Int),List.replicate (Int.toNat (↑(List.length a0):Int)) (0:Int),())
def c23:Ctr:=⟨[.dat (.sl (.int .i64))],[.own (.ol 2 (.flat (.int .i64)))],fun a K=>splitK a fun a0 a=>Y4 (Xl a0) fun r=>K (r,()) ()⟩
def Zch (a0:Zt):Option Zt :=
 (Xl (Zt.Zfx a0)).bind fun toInt64S0 =>
 (Xl (Zt.Loads a0)).bind fun toInt64S1 =>
 (Xl (Zt.Values a0)).bind fun toInt64S2 =>
 some (toInt64S0,toInt64S1,toInt64S2,())
def c24:Ctr:=⟨[.dat (Yh)],[.own (ZeY)],fun a K=>splitK a fun a0 a=>Y4 (Zch a0) fun r=>K (r,()) ()⟩
def Zc7 (a0:List Zt) (i0:Int) (l0:List Zt):Option ((Int×(List Zt)×Unit) ⊕ List Zt) :=
 if i0<(↑(List.length a0):Int) then
 (atI a0 i0).bind fun x0 =>
 (Zch x0).bind fun toTable0 =>
 (atI l0 i0).bind fun x1 =>
 some (.inl (IntKind.i64.wrap (i0+1),List.set l0 (Int.toNat i0) toTable0,()))
 else
 some (.inr l0)
def Zbr (a0:List Zt):Option (List Zt) :=
 Zz ((0:Int)≤(↑(List.length a0):Int)) <|
 Zz ((↑(List.length a0):Int)≤(↑(List.length a0):Int)) <|
 Zz ((↑(List.length a0):Int)≤(4611686018427387904:Int)) <|
 Zz ((↑(72:Nat):Int)*(↑(List.length a0):Int)≤(281474976710656:Int)) <|
 Zu (fun v=>Zc7 a0 v.1 v.2.1) ((0:Int),List.replicate (Int.toNat (↑(List.length a0):Int)) (([]:List Int),([]:List Int),([]:List Int),()),())
def c25:Ctr:=⟨[.dat (.sl (Yh))],[.own (.ol 290 (ZeY))],fun a K=>splitK a fun a0 a=>Y4 (Zbr a0) fun r=>K (r,()) ()⟩
def ZeM (a0:ZM):Option ZM :=
 (Zbr (ZM.Delay a0)).bind fun toTableS0 =>
 (Zbr (ZM.Zhj a0)).bind fun toTableS1 =>
 some (ZM.Kind a0,ZM.From a0,ZM.To a0,ZM.ZcL a0,toTableS0,toTableS1,())
def c26:Ctr:=⟨[.dat (ZaK)],[.own (Zrh)],fun a K=>splitK a fun a0 a=>Y4 (ZeM a0) fun r=>K (r,()) ()⟩
def ZeJ (a0:List ZM) (i0:Int) (l0:List ZM):Option ((Int×(List ZM)×Unit) ⊕ List ZM) :=
 if i0<(↑(List.length a0):Int) then
 (atI a0 i0).bind fun x0 =>
 (ZeM x0).bind fun toArc0 =>
 (atI l0 i0).bind fun x1 =>
 some (.inl (IntKind.i64.wrap (i0+1),List.set l0 (Int.toNat i0) toArc0,()))
 else
 some (.inr l0)
def Zes (a0:List ZM):Option (List ZM) :=
 Zz ((0:Int)≤(↑(List.length a0):Int)) <|
 Zz ((↑(List.length a0):Int)≤(↑(List.length a0):Int)) <|
 Zz ((↑(List.length a0):Int)≤(4611686018427387904:Int)) <|
 Zz ((↑(80:Nat):Int)*(↑(List.length a0):Int)≤(281474976710656:Int)) <|
 Zu (fun v=>ZeJ a0 v.1 v.2.1) ((0:Int),List.replicate (Int.toNat (↑(List.length a0):Int)) ((0:Int),(0:Int),(0:Int),(0:Int),([]:List Zt),([]:List Zt),()),())
def c27:Ctr:=⟨[.dat (.sl (ZaK))],[.own (.ol 235 (Zrh))],fun a K=>splitK a fun a0 a=>Y4 (Zes a0) fun r=>K (r,()) ()⟩
def Zc0 (a0:Zh):Option Zh :=
 (ZeA (Zh.YC a0)).bind fun toPinS0 =>
 (Zes (Zh.Zbc a0)).bind fun toArcS0 =>
 (Xl (Zh.Truth a0)).bind fun toInt64S0 =>
 some (Zh.Name a0,Zh.Kind a0,toPinS0,toArcS0,toInt64S0,a0.snd.snd.snd.snd.snd)
def c28:Ctr:=⟨[.dat (YL)],[.own (Zka)],fun a K=>splitK a fun a0 a=>Y4 (Zc0 a0) fun r=>K (r,()) ()⟩
def Zed (a0:List Zh) (i0:Int) (l0:List Zh):Option ((Int×(List Zh)×Unit) ⊕ List Zh) :=
 if i0<(↑(List.length a0):Int) then
 (atI a0 i0).bind fun x0 =>
 (Zc0 x0).bind fun toCell0 =>
 (atI l0 i0).bind fun x1 =>
 some (.inl (IntKind.i64.wrap (i0+1),List.set l0 (Int.toNat i0) toCell0,()))
 else
 some (.inr l0)
def Zdt (a0:List Zh):Option (List Zh) :=
 Zz ((0:Int)≤(↑(List.length a0):Int)) <|
 Zz ((↑(List.length a0):Int)≤(↑(List.length a0):Int)) <|
 Zz ((↑(List.length a0):Int)≤(4611686018427387904:Int)) <|
 Zz ((↑(112:Nat):Int)*(↑(List.length a0):Int)≤(281474976710656:Int)) <|
 Zu (fun v=>Zed a0 v.1 v.2.1) ((0:Int),List.replicate (Int.toNat (↑(List.length a0):Int)) (([]:List UInt8),(0:Int),([]:List Yv),([]:List ZM),([]:List Int),(0:Int),(0:Int),()),())
def c29:Ctr:=⟨[.dat (.sl (YL))],[.own (.ol 207 (Zka))],fun a K=>splitK a fun a0 a=>Y4 (Zdt a0) fun r=>K (r,()) ()⟩
def ZbN (a0:Zl):Option Zl :=
 (Zdt (Zl.Cells a0)).bind fun toCellS0 =>
 some (toCellS0,())
def c30:Ctr:=⟨[.dat (Z6)],[.own (ZjO)],fun a K=>splitK a fun a0 a=>Y4 (ZbN a0) fun r=>K (r,()) ()⟩
def JZ (a0:Zd):Option Zd :=
 (Xl (Zd.ZP a0)).bind fun toInt64S0 =>
 some (Zd.Name a0,Zd.Cell a0,toInt64S0,())
def c31:Ctr:=⟨[.dat (Zw)],[.own (ZaY)],fun a K=>splitK a fun a0 a=>Y4 (JZ a0) fun r=>K (r,()) ()⟩
def ZbX (a0:List Zd) (i0:Int) (l0:List Zd):Option ((Int×(List Zd)×Unit) ⊕ List Zd) :=
 if i0<(↑(List.length a0):Int) then
 (atI a0 i0).bind fun x0 =>
 (JZ x0).bind fun toInstance0 =>
 (atI l0 i0).bind fun x1 =>
 some (.inl (IntKind.i64.wrap (i0+1),List.set l0 (Int.toNat i0) toInstance0,()))
 else
 some (.inr l0)
def Zap (a0:List Zd):Option (List Zd) :=
 Zz ((0:Int)≤(↑(List.length a0):Int)) <|
 Zz ((↑(List.length a0):Int)≤(↑(List.length a0):Int)) <|
 Zz ((↑(List.length a0):Int)≤(4611686018427387904:Int)) <|
 Zz ((↑(48:Nat):Int)*(↑(List.length a0):Int)≤(281474976710656:Int)) <|
 Zu (fun v=>ZbX a0 v.1 v.2.1) ((0:Int),List.replicate (Int.toNat (↑(List.length a0):Int)) (([]:List UInt8),(0:Int),([]:List Int),()),())
def c32:Ctr:=⟨[.dat (.sl (Zw))],[.own (.ol 169 (ZaY))],fun a K=>splitK a fun a0 a=>Y4 (Zap a0) fun r=>K (r,()) ()⟩
def ZcO (a0:List (List UInt8)) (i0:Int) (l0:List (List UInt8)):Option ((Int×(List (List UInt8))×Unit) ⊕ List (List UInt8)) :=
 if i0<(↑(List.length a0):Int) then
 (atI a0 i0).bind fun x0 =>
 (atI l0 i0).bind fun x1 =>
 some (.inl (IntKind.i64.wrap (i0+1),List.set l0 (Int.toNat i0) x0,()))
 else
 some (.inr l0)
def ZbP (a0:List (List UInt8)):Option (List (List UInt8)) :=
 Zz ((0:Int)≤(↑(List.length a0):Int)) <|
 Zz ((↑(List.length a0):Int)≤(↑(List.length a0):Int)) <|
 Zz ((↑(List.length a0):Int)≤(4611686018427387904:Int)) <|
 Zz ((↑(16:Nat):Int)*(↑(List.length a0):Int)≤(281474976710656:Int)) <|
 Zu (fun v=>ZcO a0 v.1 v.2.1) ((0:Int),List.replicate (Int.toNat (↑(List.length a0):Int)) (([]:List UInt8)),())
def c33:Ctr:=⟨[.dat (.sl (.str))],[.own (.ol 9 (.flat (.str)))],fun a K=>splitK a fun a0 a=>Y4 (ZbP a0) fun r=>K (r,()) ()⟩
def ZcZ (a0:ZI):Option ZI :=
 some a0
def c34:Ctr:=D1 (Xa) (Xa) ZcZ
def ZdT (a0:List ZI) (i0:Int) (l0:List (List UInt8×Int×Int×Unit)):Option ((Int×(List (List UInt8×Int×Int×Unit))×Unit) ⊕ List ZI) :=
 if i0<(↑(List.length a0):Int) then
 (atI a0 i0).bind fun x0 =>
 (ZcZ x0).bind fun toPort0 =>
 (atI l0 i0).bind fun x1 =>
 some (.inl (IntKind.i64.wrap (i0+1),List.set l0 (Int.toNat i0) toPort0,()))
 else
 some (.inr l0)
def Zdn (a0:List ZI):Option (List ZI) :=
 Zz ((0:Int)≤(↑(List.length a0):Int)) <|
 Zz ((↑(List.length a0):Int)≤(↑(List.length a0):Int)) <|
 Zz ((↑(List.length a0):Int)≤(4611686018427387904:Int)) <|
 Zz ((↑(32:Nat):Int)*(↑(List.length a0):Int)≤(281474976710656:Int)) <|
 Zu (fun v=>ZdT a0 v.1 v.2.1) ((0:Int),List.replicate (Int.toNat (↑(List.length a0):Int)) (([]:List UInt8),(0:Int),(0:Int),()),())
def c35:Ctr:=⟨[.dat (.sl (Xa))],[.own (.ol 201 (.flat (Xa)))],fun a K=>splitK a fun a0 a=>Y4 (Zdn a0) fun r=>K (r,()) ()⟩
def Zcx (a0:Za):Option Za :=
 (Zap (Za.Instances a0)).bind fun toInstanceS0 =>
 (ZbP (Za.ZP a0)).bind fun toStringS0 =>
 (Zdn (Za.Z0 a0)).bind fun toPortS0 =>
 some (toInstanceS0,toStringS0,toPortS0,())
def c36:Ctr:=⟨[.dat (Z9)],[.own (Zkv)],fun a K=>splitK a fun a0 a=>Y4 (Zcx a0) fun r=>K (r,()) ()⟩
def Zb8 (a0:Zn):Option Zn :=
 (Xl (Zn.Parent a0)).bind fun toInt64S0 =>
 (Xl (Zn.Res a0)).bind fun toInt64S1 =>
 (Xl (Zn.Cap a0)).bind fun toInt64S2 =>
 (Xl (Zn.ZfM a0)).bind fun toInt64S3 =>
 some (toInt64S0,toInt64S1,toInt64S2,toInt64S3,())
def c37:Ctr:=⟨[.dat (YP)],[.own (Zg0)],fun a K=>splitK a fun a0 a=>Y4 (Zb8 a0) fun r=>K (r,()) ()⟩
def Zd1 (a0:List Zn) (i0:Int) (l0:List Zn):Option ((Int×(List Zn)×Unit) ⊕ List Zn) :=
 if i0<(↑(List.length a0):Int) then
 (atI a0 i0).bind fun x0 =>
 (Zb8 x0).bind fun toWire0 =>
 (atI l0 i0).bind fun x1 =>
 some (.inl (IntKind.i64.wrap (i0+1),List.set l0 (Int.toNat i0) toWire0,()))
 else
 some (.inr l0)
def Zdo (a0:List Zn):Option (List Zn) :=
 Zz ((0:Int)≤(↑(List.length a0):Int)) <|
 Zz ((↑(List.length a0):Int)≤(↑(List.length a0):Int)) <|
 Zz ((↑(List.length a0):Int)≤(4611686018427387904:Int)) <|
 Zz ((↑(96:Nat):Int)*(↑(List.length a0):Int)≤(281474976710656:Int)) <|
 Zu (fun v=>Zd1 a0 v.1 v.2.1) ((0:Int),List.replicate (Int.toNat (↑(List.length a0):Int)) (([]:List Int),([]:List Int),([]:List Int),([]:List Int),()),())
def c38:Ctr:=⟨[.dat (.sl (YP))],[.own (.ol 72 (Zg0))],fun a K=>splitK a fun a0 a=>Y4 (Zdo a0) fun r=>K (r,()) ()⟩
def Zdv (a0:Zb):Option Zb :=
 (ZbN (Zb.Library a0)).bind fun toLibrary0 =>
 (Zcx (Zb.Design a0)).bind fun toDesign0 =>
 (Zdo (Zb.Zy a0)).bind fun toWireS0 =>
 some (toLibrary0,toDesign0,toWireS0,())
def c39:Ctr:=⟨[.dat (Yt)],[.own (ZcT)],fun a K=>splitK a fun a0 a=>Y4 (Zdv a0) fun r=>K (r,()) ()⟩
def Zdd (a0:Zf):Option Zf :=
 (Zb8 (Zf.Zfc a0)).bind fun toWire0 =>
 some (Zf.Kind a0,Zf.Place a0,Zf.Cell a0,Zf.Net a0,Zf.Node a0,Zf.Name a0,toWire0,())
def c40:Ctr:=⟨[.dat (Y9)],[.own (Zld)],fun a K=>splitK a fun a0 a=>Y4 (Zdd a0) fun r=>K (r,()) ()⟩
def Zeg (a0:List Zf) (i0:Int) (l0:List Zf):Option ((Int×(List Zf)×Unit) ⊕ List Zf) :=
 if i0<(↑(List.length a0):Int) then
 (atI a0 i0).bind fun x0 =>
 (Zdd x0).bind fun toEdit0 =>
 (atI l0 i0).bind fun x1 =>
 some (.inl (IntKind.i64.wrap (i0+1),List.set l0 (Int.toNat i0) toEdit0,()))
 else
 some (.inr l0)
def Zds (a0:List Zf):Option (List Zf) :=
 Zz ((0:Int)≤(↑(List.length a0):Int)) <|
 Zz ((↑(List.length a0):Int)≤(↑(List.length a0):Int)) <|
 Zz ((↑(List.length a0):Int)≤(4611686018427387904:Int)) <|
 Zz ((↑(152:Nat):Int)*(↑(List.length a0):Int)≤(281474976710656:Int)) <|
 Zu (fun v=>Zeg a0 v.1 v.2.1) ((0:Int),List.replicate (Int.toNat (↑(List.length a0):Int)) ((0:Int),(0:Int),(0:Int),(0:Int),(0:Int),([]:List UInt8),(([]:List Int),([]:List Int),([]:List Int),([]:List Int),()),()),())
def c41:Ctr:=⟨[.dat (.sl (Y9))],[.own (.ol 74 (Zld))],fun a K=>splitK a fun a0 a=>Y4 (Zds a0) fun r=>K (r,()) ()⟩
def Zav (s0:List UInt8) (i0:Int):Option ((Int×Unit) ⊕ Bool) :=
 if i0<(↑(List.length s0):Int) then
 (atI s0 i0).bind fun x0 =>
 if 97≤(↑(UInt8.toNat x0):Int) then
 if 48≤(↑(UInt8.toNat x0):Int) then
 if (↑(UInt8.toNat x0):Int)≤122 then
 some (.inl (IntKind.i64.wrap (i0+1),()))
 else
 if (↑(UInt8.toNat x0):Int)≤57 then
 if 0<i0 then
 some (.inl (IntKind.i64.wrap (i0+1),()))
 else
 some (.inr Bool.false)
 else
 some (.inr Bool.false)
 else
 if (↑(UInt8.toNat x0):Int)≤122 then
 some (.inl (IntKind.i64.wrap (i0+1),()))
 else
 some (.inr Bool.false)
 else
 if 48≤(↑(UInt8.toNat x0):Int) then
 if (↑(UInt8.toNat x0):Int)≤57 then
 if 0<i0 then
 some (.inl (IntKind.i64.wrap (i0+1),()))
 else
 some (.inr Bool.false)
 else
 some (.inr Bool.false)
 else
 some (.inr Bool.false)
 else
 if 1≤(↑(List.length s0):Int) then
 some (.inr (Decidable.decide ((↑(List.length s0):Int)≤8)))
 else
 some (.inr Bool.false)
def ZaI (s0:List UInt8):Option Bool :=
 Zu (fun v=>Zav s0 v.1) ((0:Int),())
def c42:Ctr:=D1 (.str) (.bool) ZaI
def Ye (n0:Int) (low0:Int) (high0:Int):Option Bool :=
 if low0≤n0 then
 some (Decidable.decide (n0≤high0))
 else
 some Bool.false
def c43:Ctr:=D3 (.int .i64) (.int .i64) (.int .i64) (.bool) Ye
def XU (a0:Zh) (v0:Int) (v1:Int) (x0:Yv) (v2:Int):Option ((Int×Unit) ⊕ ((Int×Int×Unit) ⊕ (Int×Bool))) :=
 if v2<v1 then
 (atI (Zh.YC a0) v2).bind fun x1 =>
 if Yv.Name x1=Yv.Name x0 then
 some (.inr (.inr (0,Bool.false)))
 else
 some (.inl (IntKind.i64.wrap (v2+1),()))
 else
 (ZaI (Yv.Name x0)).bind fun l03Name0 =>
 if l03Name0=true then
 (Ye (Yv.Cap x0) 0 500).bind fun l01In0 =>
 if l01In0=true then
 if v1=IntKind.i64.wrap ((↑(List.length (Zh.YC a0)):Int)-1) then
 if Yv.Dir x0=2 then
 if Yv.Cap x0=0 then
 if (Yv.Clock x0)=true then
 some (.inr (.inr (0,Bool.false)))
 else
 if v1<IntKind.i64.wrap ((↑(List.length (Zh.YC a0)):Int)-1) then
 if Yv.Dir x0=1 then
 if (Yv.Clock x0)=true then
 some (.inr (.inl (IntKind.i64.wrap (v0+1),IntKind.i64.wrap (v1+1),())))
 else
 some (.inr (.inl (v0,IntKind.i64.wrap (v1+1),())))
 else
 some (.inr (.inr (0,Bool.false)))
 else
 if (Yv.Clock x0)=true then
 some (.inr (.inl (IntKind.i64.wrap (v0+1),IntKind.i64.wrap (v1+1),())))
 else
 some (.inr (.inl (v0,IntKind.i64.wrap (v1+1),())))
 else
 some (.inr (.inr (0,Bool.false)))
 else
 some (.inr (.inr (0,Bool.false)))
 else
 if v1<IntKind.i64.wrap ((↑(List.length (Zh.YC a0)):Int)-1) then
 if Yv.Dir x0=1 then
 if (Yv.Clock x0)=true then
 some (.inr (.inl (IntKind.i64.wrap (v0+1),IntKind.i64.wrap (v1+1),())))
 else
 some (.inr (.inl (v0,IntKind.i64.wrap (v1+1),())))
 else
 some (.inr (.inr (0,Bool.false)))
 else
 if (Yv.Clock x0)=true then
 some (.inr (.inl (IntKind.i64.wrap (v0+1),IntKind.i64.wrap (v1+1),())))
 else
 some (.inr (.inl (v0,IntKind.i64.wrap (v1+1),())))
 else
 some (.inr (.inr (0,Bool.false)))
 else
 some (.inr (.inr (0,Bool.false)))
def QS (a0:Zh) (v0:Int) (v1:Int):Option ((Int×Int×Unit) ⊕ (Int×Bool)) :=
 if v1<(↑(List.length (Zh.YC a0)):Int) then
 (atI (Zh.YC a0) v1).bind fun x0 =>
 Zu (fun v=>XU a0 v0 v1 x0 v.1) ((0:Int),())
 else
 some (.inr (v0,Bool.true))
def Zdp (a0:Zh):Option (Int×Bool) :=
 if (↑(List.length (Zh.YC a0)):Int)<2 then
 some (0,Bool.false)
 else
 if 5<(↑(List.length (Zh.YC a0)):Int) then
 some (0,Bool.false)
 else
 Zu (fun v=>QS a0 v.1 v.2.1) ((0:Int),(0:Int),())
def c44:Ctr:=⟨[.dat (YL)],[.dat (.int .i64),.dat (.bool)],fun a K=>splitK a fun a0 a=>Y4 (Zdp a0) fun r=>K (r.1,r.2,()) ()⟩
def Zay (list0:List Int) (i0:Int):Option ((Int×Unit) ⊕ Bool) :=
 if i0<(↑(List.length list0):Int) then
 (atI list0 i0).bind fun x0 =>
 (Ye x0 0 100000).bind fun l01In0 =>
 if l01In0=true then
 if 0<i0 then
 (atI list0 (IntKind.i64.wrap (i0-1))).bind fun x1 =>
 if x0≤x1 then
 some (.inr Bool.false)
 else
 some (.inl (IntKind.i64.wrap (i0+1),()))
 else
 some (.inl (IntKind.i64.wrap (i0+1),()))
 else
 some (.inr Bool.false)
 else
 if 1≤(↑(List.length list0):Int) then
 some (.inr (Decidable.decide ((↑(List.length list0):Int)≤4)))
 else
 some (.inr Bool.false)
def Zck (list0:List Int):Option Bool :=
 Zu (fun v=>Zay list0 v.1) ((0:Int),())
def c45:Ctr:=D1 (.sl (.int .i64)) (.bool) Zck
def ZaA (t0:Zt) (i0:Int):Option ((Int×Unit) ⊕ Bool) :=
 if i0<(↑(List.length (Zt.Values t0)):Int) then
 (atI (Zt.Values t0) i0).bind fun x0 =>
 (Ye x0 (-1000000) 1000000).bind fun l01In0 =>
 if l01In0=true then
 some (.inl (IntKind.i64.wrap (i0+1),()))
 else
 some (.inr Bool.false)
 else
 some (.inr Bool.true)
def Zdy (t0:Zt):Option Bool :=
 (Zck (Zt.Zfx t0)).bind fun l02Axis0 =>
 if l02Axis0=true then
 (Zck (Zt.Loads t0)).bind fun l02Axis1 =>
 if l02Axis1=true then
 if (↑(List.length (Zt.Values t0)):Int)=IntKind.i64.wrap ((↑(List.length (Zt.Zfx t0)):Int)*(↑(List.length (Zt.Loads t0)):Int)) then
 Zu (fun v=>ZaA t0 v.1) ((0:Int),())
 else
 some Bool.false
 else
 some Bool.false
 else
 some Bool.false
def c46:Ctr:=D1 (Yh) (.bool) Zdy
def X0 (t0:Zt) (i0:Int) (c0:Int) (c1:Int):Option ((Int×Int×Int×Unit) ⊕ (ZoO×Int)) :=
 if i0<(↑(List.length (Zt.Values t0)):Int) then
 (atI (Zt.Values t0) i0).bind fun x1 =>
 some (.inl (IntKind.i64.wrap (i0+1),Min.min c0 x1,Max.max c1 x1,()))
 else
 some (.inr ((c0,c1,()),0))
def Zas (t0:Zt):Option (ZoO×Int) :=
 (Zdy t0).bind fun IsTable0 =>
 if IsTable0=true then
 (atI (Zt.Values t0) 0).bind fun x0 =>
 Zu (fun v=>X0 t0 v.1 v.2.1 v.2.2.1) ((1:Int),x0,x0,())
 else
 some ((0,0,()),1)
def c47:Ctr:=⟨[.dat (Yh)],[.dat (ZrN),.dat (.int .i64)],fun a K=>splitK a fun t0 a=>Y4 (Zas t0) fun r=>K (r.1,r.2,()) ()⟩
def Jm (list0:List Zt) (positive0:Bool) (i0:Int):Option ((Int×Unit) ⊕ Bool) :=
 if i0<2 then
 (atI list0 i0).bind fun x0 =>
 (Zas x0).bind fun TableBounds0 =>
 if TableBounds0.snd=0 then
 if positive0=true then
 if TableBounds0.fst.fst<0 then
 some (.inr Bool.false)
 else
 some (.inl (IntKind.i64.wrap (i0+1),()))
 else
 some (.inl (IntKind.i64.wrap (i0+1),()))
 else
 some (.inr Bool.false)
 else
 some (.inr Bool.true)
def Yz (list0:List Zt) (positive0:Bool):Option Bool :=
 if (↑(List.length list0):Int)=2 then
 Zu (fun v=>Jm list0 positive0 v.1) ((0:Int),())
 else
 some Bool.false
def c48:Ctr:=D2 (.sl (Yh)) (.bool) (.bool) Yz
def Zet (a0:Zh) (a1:ZM):Option Bool :=
 (Ye (ZM.From a1) 0 (IntKind.i64.wrap (IntKind.i64.wrap ((↑(List.length (Zh.YC a0)):Int)-1)-1))).bind fun l01In0 =>
 if l01In0=true then
 (Ye (ZM.To a1) 0 (IntKind.i64.wrap ((↑(List.length (Zh.YC a0)):Int)-1))).bind fun l01In1 =>
 if l01In1=true then
 (atI (Zh.YC a0) (ZM.From a1)).bind fun x0 =>
 if ZM.Kind a1=1 then
 if (Yv.Clock x0)=true then
 some Bool.false
 else
 if ZM.To a1=IntKind.i64.wrap ((↑(List.length (Zh.YC a0)):Int)-1) then
 (Ye (ZM.ZcL a1) 1 3).bind fun l01In2 =>
 if l01In2=true then
 (Yz (ZM.Delay a1) Bool.true).bind fun l03Tables0 =>
 if l03Tables0=true then
 (Yz (ZM.Zhj a1) Bool.true).bind fun l03Tables1 =>
 some l03Tables1
 else
 some Bool.false
 else
 some Bool.false
 else
 some Bool.false
 else
 if ZM.Kind a1=2 then
 if ZM.Kind a1=2 then
 if (Yv.Clock x0)=true then
 if ZM.To a1=IntKind.i64.wrap ((↑(List.length (Zh.YC a0)):Int)-1) then
 if ZM.ZcL a1=0 then
 (Yz (ZM.Delay a1) Bool.true).bind fun l03Tables0 =>
 if l03Tables0=true then
 (Yz (ZM.Zhj a1) Bool.true).bind fun l03Tables1 =>
 some l03Tables1
 else
 some Bool.false
 else
 some Bool.false
 else
 some Bool.false
 else
 some Bool.false
 else
 if ZM.Kind a1=4 then
 if ZM.Kind a1=4 then
 if (Yv.Clock x0)=true then
 if ZM.To a1<IntKind.i64.wrap ((↑(List.length (Zh.YC a0)):Int)-1) then
 (atI (Zh.YC a0) (ZM.To a1)).bind fun x1 =>
 if (Yv.Clock x1)=true then
 some Bool.false
 else
 if ZM.ZcL a1=0 then
 (Yz (ZM.Delay a1) Bool.false).bind fun l03Tables0 =>
 if l03Tables0=true then
 some (Decidable.decide ((↑(List.length (ZM.Zhj a1)):Int)=0))
 else
 some Bool.false
 else
 some Bool.false
 else
 some Bool.false
 else
 some Bool.false
 else
 some Bool.false
 else
 if ZM.Kind a1=5 then
 if (Yv.Clock x0)=true then
 if ZM.To a1<IntKind.i64.wrap ((↑(List.length (Zh.YC a0)):Int)-1) then
 (atI (Zh.YC a0) (ZM.To a1)).bind fun x1 =>
 if (Yv.Clock x1)=true then
 some Bool.false
 else
 if ZM.ZcL a1=0 then
 (Yz (ZM.Delay a1) Bool.false).bind fun l03Tables0 =>
 if l03Tables0=true then
 some (Decidable.decide ((↑(List.length (ZM.Zhj a1)):Int)=0))
 else
 some Bool.false
 else
 some Bool.false
 else
 some Bool.false
 else
 some Bool.false
 else
 some Bool.false
 else
 if ZM.Kind a1=3 then
 if (Yv.Clock x0)=true then
 if ZM.To a1=IntKind.i64.wrap ((↑(List.length (Zh.YC a0)):Int)-1) then
 if ZM.ZcL a1=0 then
 (Yz (ZM.Delay a1) Bool.true).bind fun l03Tables0 =>
 if l03Tables0=true then
 (Yz (ZM.Zhj a1) Bool.true).bind fun l03Tables1 =>
 some l03Tables1
 else
 some Bool.false
 else
 some Bool.false
 else
 some Bool.false
 else
 some Bool.false
 else
 if ZM.Kind a1=4 then
 if ZM.Kind a1=4 then
 if (Yv.Clock x0)=true then
 if ZM.To a1<IntKind.i64.wrap ((↑(List.length (Zh.YC a0)):Int)-1) then
 (atI (Zh.YC a0) (ZM.To a1)).bind fun x1 =>
 if (Yv.Clock x1)=true then
 some Bool.false
 else
 if ZM.ZcL a1=0 then
 (Yz (ZM.Delay a1) Bool.false).bind fun l03Tables0 =>
 if l03Tables0=true then
 some (Decidable.decide ((↑(List.length (ZM.Zhj a1)):Int)=0))
 else
 some Bool.false
 else
 some Bool.false
 else
 some Bool.false
 else
 some Bool.false
 else
 some Bool.false
 else
 if ZM.Kind a1=5 then
 if (Yv.Clock x0)=true then
 if ZM.To a1<IntKind.i64.wrap ((↑(List.length (Zh.YC a0)):Int)-1) then
 (atI (Zh.YC a0) (ZM.To a1)).bind fun x1 =>
 if (Yv.Clock x1)=true then
 some Bool.false
 else
 if ZM.ZcL a1=0 then
 (Yz (ZM.Delay a1) Bool.false).bind fun l03Tables0 =>
 if l03Tables0=true then
 some (Decidable.decide ((↑(List.length (ZM.Zhj a1)):Int)=0))
 else
 some Bool.false
 else
 some Bool.false
 else
 some Bool.false
 else
 some Bool.false
 else
 some Bool.false
 else
 some Bool.false
 else
 some Bool.false
def c49:Ctr:=D2 (YL) (ZaK) (.bool) Zet
def VB (c0:Zh) (i0:Int) (l0:List Int):Option ((Int×(List Int)×Unit) ⊕ List Int) :=
 if i0<(↑(List.length (Zh.Zbc c0)):Int) then
 (atI (Zh.Zbc c0) i0).bind fun x0 =>
 (atI l0 (ZM.Kind x0)).bind fun x1 =>
 some (.inl (IntKind.i64.wrap (i0+1),List.set l0 (Int.toNat (ZM.Kind x0)) (IntKind.i64.wrap (x1+1)),()))
 else
 some (.inr l0)
def Zcr (c0:Zh):Option (List Int) :=
 Zu (fun v=>VB c0 v.1 v.2.1) ((0:Int),List.replicate (Int.toNat (6:Int)) (0:Int),())
def c50:Ctr:=⟨[.dat (YL)],[.own (.ol 2 (.flat (.int .i64)))],fun a K=>splitK a fun c0 a=>Y4 (Zcr c0) fun r=>K (r,()) ()⟩
def JL (a0:Zh) (v0:Int) (x0:ZM) (v1:Int):Option ((Int×Unit) ⊕ ((Int×Unit) ⊕ Bool)) :=
 if v1<v0 then
 (atI (Zh.Zbc a0) v1).bind fun x1 =>
 if ZM.Kind x1=ZM.Kind x0 then
 if ZM.From x1=ZM.From x0 then
 if ZM.To x1=ZM.To x0 then
 some (.inr (.inr Bool.false))
 else
 some (.inl (IntKind.i64.wrap (v1+1),()))
 else
 some (.inl (IntKind.i64.wrap (v1+1),()))
 else
 some (.inl (IntKind.i64.wrap (v1+1),()))
 else
 some (.inr (.inl (IntKind.i64.wrap (v0+1),())))
def JE (a0:Zh) (l03Pins0:Int×Bool) (v1:Int):Option ((Int×Unit) ⊕ ((Int×Unit) ⊕ Bool)) :=
 if v1<(↑(List.length (Zh.Truth a0)):Int) then
 (atI (Zh.Truth a0) v1).bind fun x0 =>
 (Ye x0 0 1).bind fun l01In2 =>
 if l01In2=true then
 some (.inl (IntKind.i64.wrap (v1+1),()))
 else
 some (.inr (.inr Bool.false))
 else
 if l03Pins0.fst=0 then
 Zz ((0:Int)≤IntKind.wrap IntKind.u64 (IntKind.i64.wrap ((↑(List.length (Zh.YC a0)):Int)-(1:Int)))) <|
 some (.inr (.inr (Decidable.decide ((↑(List.length (Zh.Truth a0)):Int)=IntKind.i64.wrap (1*2 ^ Min.min (Int.toNat (IntKind.wrap IntKind.u64 (IntKind.i64.wrap ((↑(List.length (Zh.YC a0)):Int)-1)))) (IntKind.bits IntKind.i64))))))
 else
 some (.inr (.inr Bool.false))
def Za8 (a0:Zh) (l03Pins0:Int×Bool) (v0:Int):Option ((Int×Unit) ⊕ Bool) :=
 if v0<(↑(List.length (Zh.Zbc a0)):Int) then
 (atI (Zh.Zbc a0) v0).bind fun x0 =>
 (Zet a0 x0).bind fun l03Arc0 =>
 if l03Arc0=true then
 Zu (fun v=>JL a0 v0 x0 v.1) ((0:Int),())
 else
 some (.inr Bool.false)
 else
 (Zcr a0).bind fun l03Kinds0 =>
 if Zh.Kind a0=1 then
 Zu (fun v=>JE a0 l03Pins0 v.1) ((0:Int),())
 else
 if Zh.Kind a0=2 then
 if l03Pins0.fst=1 then
 (atI l03Kinds0 1).bind fun x0 =>
 if x0=0 then
 (atI l03Kinds0 2).bind fun x1 =>
 (atI l03Kinds0 3).bind fun x2 =>
 if (Decidable.decide (0<x1) == Decidable.decide (0<x2))=true then
 some (.inr Bool.false)
 else
 some (.inr (Decidable.decide ((↑(List.length (Zh.Truth a0)):Int)=0)))
 else
 some (.inr Bool.false)
 else
 some (.inr Bool.false)
 else
 if Zh.Kind a0=3 then
 if l03Pins0.fst=1 then
 (atI l03Kinds0 1).bind fun x0 =>
 if 0<x0 then
 (atI l03Kinds0 2).bind fun x1 =>
 if 0<x1 then
 (atI l03Kinds0 3).bind fun x2 =>
 if x2=0 then
 some (.inr (Decidable.decide ((↑(List.length (Zh.Truth a0)):Int)=0)))
 else
 some (.inr Bool.false)
 else
 some (.inr Bool.false)
 else
 some (.inr Bool.false)
 else
 some (.inr Bool.false)
 else
 some (.inr Bool.false)
def Zep (a0:Zh):Option Bool :=
 (Zdp a0).bind fun l03Pins0 =>
 if l03Pins0.snd=true then
 (ZaI (Zh.Name a0)).bind fun l03Name0 =>
 if l03Name0=true then
 if 8<(↑(List.length (Zh.Zbc a0)):Int) then
 some Bool.false
 else
 (Ye (Zh.Zsj a0) 0 100000).bind fun l01In0 =>
 if l01In0=true then
 (Ye (Zh.ZgT a0) 0 100000).bind fun l01In1 =>
 if l01In1=true then
 Zu (fun v=>Za8 a0 l03Pins0 v.1) ((0:Int),())
 else
 some Bool.false
 else
 some Bool.false
 else
 some Bool.false
 else
 some Bool.false
def c51:Ctr:=D1 (YL) (.bool) Zep
def Jh (l0:Zl) (i0:Int) (x0:Zh) (k0:Int):Option ((Int×Unit) ⊕ ((Int×Unit) ⊕ Bool)) :=
 if k0<i0 then
 (atI (Zl.Cells l0) k0).bind fun x1 =>
 if Zh.Name x1=Zh.Name x0 then
 some (.inr (.inr Bool.false))
 else
 some (.inl (IntKind.i64.wrap (k0+1),()))
 else
 some (.inr (.inl (IntKind.i64.wrap (i0+1),())))
def Jg (l0:Zl) (i0:Int):Option ((Int×Unit) ⊕ Bool) :=
 if i0<(↑(List.length (Zl.Cells l0)):Int) then
 (atI (Zl.Cells l0) i0).bind fun x0 =>
 (Zep x0).bind fun IsCell0 =>
 if IsCell0=true then
 Zu (fun v=>Jh l0 i0 x0 v.1) ((0:Int),())
 else
 some (.inr Bool.false)
 else
 some (.inr (Decidable.decide ((↑(List.length (Zl.Cells l0)):Int)≤8)))
def ZbU (l0:Zl):Option Bool :=
 Zu (fun v=>Jg l0 v.1) ((0:Int),())
def c52:Ctr:=D1 (Z6) (.bool) ZbU
def Zad (a1:Za) (v0:Int) (x0:Zd) (v1:Int):Option ((Int×Unit) ⊕ ((Int×Unit) ⊕ Bool)) :=
 if v1<(↑(List.length (Zd.ZP x0)):Int) then
 (atI (Zd.ZP x0) v1).bind fun x2 =>
 (Ye x2 0 (IntKind.i64.wrap ((↑(List.length (Za.ZP a1)):Int)-1))).bind fun l01In1 =>
 if l01In1=true then
 some (.inl (IntKind.i64.wrap (v1+1),()))
 else
 some (.inr (.inr Bool.false))
 else
 some (.inr (.inl (IntKind.i64.wrap (v0+1),())))
def Zab (a1:Za) (v1:Int):Option ((Int×Unit) ⊕ ((Int×Unit) ⊕ Bool)) :=
 if v1<(↑(List.length (Za.Z0 a1)):Int) then
 (atI (Za.Z0 a1) v1).bind fun x0 =>
 (Ye (ZI.Dir x0) 1 2).bind fun l01In0 =>
 if l01In0=true then
 (Ye (ZI.Net x0) 0 (IntKind.i64.wrap ((↑(List.length (Za.ZP a1)):Int)-1))).bind fun l01In1 =>
 if l01In1=true then
 some (.inl (IntKind.i64.wrap (v1+1),()))
 else
 some (.inr (.inr Bool.false))
 else
 some (.inr (.inr Bool.false))
 else
 some (.inr (.inr Bool.true))
def JW (a0:Zl) (a1:Za) (v0:Int):Option ((Int×Unit) ⊕ Bool) :=
 if v0<(↑(List.length (Za.Instances a1)):Int) then
 (atI (Za.Instances a1) v0).bind fun x0 =>
 (Ye (Zd.Cell x0) 0 (IntKind.i64.wrap ((↑(List.length (Zl.Cells a0)):Int)-1))).bind fun l01In0 =>
 if l01In0=true then
 (atI (Zl.Cells a0) (Zd.Cell x0)).bind fun x1 =>
 if (↑(List.length (Zd.ZP x0)):Int)=(↑(List.length (Zh.YC x1)):Int) then
 Zu (fun v=>Zad a1 v0 x0 v.1) ((0:Int),())
 else
 some (.inr Bool.false)
 else
 some (.inr Bool.false)
 else
 Zu (fun v=>Zab a1 v.1) ((0:Int),())
def ZcC (a0:Zl) (a1:Za):Option Bool :=
 Zu (fun v=>JW a0 a1 v.1) ((0:Int),())
def c53:Ctr:=D2 (Z6) (Z9) (.bool) ZcC
def JV (list0:List (List UInt8)) (i0:Int) (x0:List UInt8) (k0:Int):Option ((Int×Unit) ⊕ ((Int×Unit) ⊕ Bool)) :=
 if k0<i0 then
 (atI list0 k0).bind fun x1 =>
 if x1=x0 then
 some (.inr (.inr Bool.false))
 else
 some (.inl (IntKind.i64.wrap (k0+1),()))
 else
 some (.inr (.inl (IntKind.i64.wrap (i0+1),())))
def JY (list0:List (List UInt8)) (i0:Int):Option ((Int×Unit) ⊕ Bool) :=
 if i0<(↑(List.length list0):Int) then
 (atI list0 i0).bind fun x0 =>
 (ZaI x0).bind fun l03Name0 =>
 if l03Name0=true then
 Zu (fun v=>JV list0 i0 x0 v.1) ((0:Int),())
 else
 some (.inr Bool.false)
 else
 some (.inr Bool.true)
def Zau (list0:List (List UInt8)):Option Bool :=
 Zu (fun v=>JY list0 v.1) ((0:Int),())
def c54:Ctr:=D1 (.sl (.str)) (.bool) Zau
def Zac (l1:List Int) (v6:Int):Option ((Int×Unit) ⊕ ((Int×(List Int)×Unit) ⊕ ((Int×(List Int)×Unit) ⊕ (((List (List UInt8))×Int×Unit) ⊕ (((List (List UInt8))×Int×Unit) ⊕ Bool))))) :=
 if v6<(↑(List.length l1):Int) then
 (atI l1 v6).bind fun x0 =>
 if x0=1 then
 some (.inl (IntKind.i64.wrap (v6+1),()))
 else
 some (.inr (.inr (.inr (.inr (.inr Bool.false)))))
 else
 some (.inr (.inr (.inr (.inr (.inr Bool.true)))))
def Qm (a1:Za) (v5:Int) (l1:List Int):Option ((Int×(List Int)×Unit) ⊕ ((Int×(List Int)×Unit) ⊕ (((List (List UInt8))×Int×Unit) ⊕ (((List (List UInt8))×Int×Unit) ⊕ Bool)))) :=
 if v5<(↑(List.length (Za.Z0 a1)):Int) then
 (atI (Za.Z0 a1) v5).bind fun x0 =>
 if ZI.Dir x0=1 then
 (atI l1 (ZI.Net x0)).bind fun x1 =>
 some (.inl (IntKind.i64.wrap (v5+1),List.set l1 (Int.toNat (ZI.Net x0)) (IntKind.i64.wrap (x1+1)),()))
 else
 some (.inl (IntKind.i64.wrap (v5+1),l1,()))
 else
 Zu (fun v=>Zac l1 v.1) ((0:Int),())
def Ql (a1:Za) (v4:Int) (l0:List Int):Option ((Int×(List Int)×Unit) ⊕ (((List (List UInt8))×Int×Unit) ⊕ (((List (List UInt8))×Int×Unit) ⊕ Bool))) :=
 if v4<(↑(List.length (Za.Instances a1)):Int) then
 (atI (Za.Instances a1) v4).bind fun x0 =>
 (atI (Zd.ZP x0) (IntKind.i64.wrap ((↑(List.length (Zd.ZP x0)):Int)-1))).bind fun x1 =>
 (atI l0 x1).bind fun x2 =>
 some (.inl (IntKind.i64.wrap (v4+1),List.set l0 (Int.toNat x1) (IntKind.i64.wrap (x2+1)),()))
 else
 Zu (fun v=>Qm a1 v.1 v.2.1) ((0:Int),l0,())
def JO (a1:Za) (v0:List (List UInt8)) (v2:List (List UInt8)) (v3:Int):Option (((List (List UInt8))×Int×Unit) ⊕ (((List (List UInt8))×Int×Unit) ⊕ Bool)) :=
 if v3<(↑(List.length (Za.Z0 a1)):Int) then
 (atI (Za.Z0 a1) v3).bind fun x0 =>
 Zz ((List.length v2+List.length [ZI.Name x0])*(16:Nat)≤(140737488355328:Nat)) <|
 some (.inl (v2++[ZI.Name x0],IntKind.i64.wrap (v3+(1:Int)),()))
 else
 (Zau v0).bind fun l05Names0 =>
 if l05Names0=true then
 (Zau v2).bind fun l05Names1 =>
 if l05Names1=true then
 (Zau (Za.ZP a1)).bind fun l05Names2 =>
 if l05Names2=true then
 Zz ((0:Int)≤(↑(List.length (Za.ZP a1)):Int)) <|
 Zz ((↑(List.length (Za.ZP a1)):Int)≤(↑(List.length (Za.ZP a1)):Int)) <|
 Zz ((↑(List.length (Za.ZP a1)):Int)≤(4611686018427387904:Int)) <|
 Zz ((↑(8:Nat):Int)*(↑(List.length (Za.ZP a1)):Int)≤(281474976710656:Int)) <|
 Zu (fun v=>Ql a1 v.1 v.2.1) ((0:Int),List.replicate (Int.toNat (↑(List.length (Za.ZP a1)):Int)) (0:Int),())
 else
 some (.inr (.inr Bool.false))
 else
 some (.inr (.inr Bool.false))
 else
 some (.inr (.inr Bool.false))
def JX (a1:Za) (v0:List (List UInt8)) (v1:Int):Option (((List (List UInt8))×Int×Unit) ⊕ Bool) :=
 if v1<(↑(List.length (Za.Instances a1)):Int) then
 (atI (Za.Instances a1) v1).bind fun x0 =>
 Zz ((List.length v0+List.length [Zd.Name x0])*(16:Nat)≤(140737488355328:Nat)) <|
 some (.inl (v0++[Zd.Name x0],IntKind.i64.wrap (v1+(1:Int)),()))
 else
 Zu (fun v=>JO a1 v0 v.1 v.2.1) (([]:List (List UInt8)),(0:Int),())
def Zcv (a0:Zl) (a1:Za):Option Bool :=
 (ZbU a0).bind fun IsLibrary0 =>
 if IsLibrary0=true then
 if 14<(↑(List.length (Za.Instances a1)):Int) then
 some Bool.false
 else
 if 30<(↑(List.length (Za.ZP a1)):Int) then
 some Bool.false
 else
 if 8<(↑(List.length (Za.Z0 a1)):Int) then
 some Bool.false
 else
 (ZcC a0 a1).bind fun l05Parts0 =>
 if l05Parts0=true then
 Zu (fun v=>JX a1 v.1 v.2.1) (([]:List (List UInt8)),(0:Int),())
 else
 some Bool.false
 else
 some Bool.false
def c55:Ctr:=D2 (Z6) (Z9) (.bool) Zcv
def Jf (v1:Int) (x0:Zd) (v2:List Ya) (v3:Int):Option (((List Ya)×Int×Unit) ⊕ (((List Ya)×Int×Unit) ⊕ List Ya)) :=
 if v3<(↑(List.length (Zd.ZP x0)):Int) then
 (atI (Zd.ZP x0) v3).bind fun x1 =>
 Zz ((List.length v2+List.length [(v1,v3,x1,Decidable.decide (v3=IntKind.i64.wrap ((↑(List.length (Zd.ZP x0)):Int)-(1:Int))),())])*(32:Nat)≤(140737488355328:Nat)) <|
 some (.inl (v2++[(v1,v3,x1,Decidable.decide (v3=IntKind.i64.wrap ((↑(List.length (Zd.ZP x0)):Int)-(1:Int))),())],IntKind.i64.wrap (v3+(1:Int)),()))
 else
 some (.inr (.inl (v2,IntKind.i64.wrap (v1+1),())))
def Ji (a0:Za) (v2:List Ya) (v3:Int):Option (((List Ya)×Int×Unit) ⊕ (((List Ya)×Int×Unit) ⊕ List Ya)) :=
 if v3<(↑(List.length (Za.Z0 a0)):Int) then
 (atI (Za.Z0 a0) v3).bind fun x0 =>
 Zz ((List.length v2+List.length [((-1:Int),v3,ZI.Net x0,Decidable.decide (ZI.Dir x0=(1:Int)),())])*(32:Nat)≤(140737488355328:Nat)) <|
 some (.inl (v2++[((-1:Int),v3,ZI.Net x0,Decidable.decide (ZI.Dir x0=(1:Int)),())],IntKind.i64.wrap (v3+(1:Int)),()))
 else
 some (.inr (.inr v2))
def Jl (a0:Za) (v0:List Ya) (v1:Int):Option (((List Ya)×Int×Unit) ⊕ List Ya) :=
 if v1<(↑(List.length (Za.Instances a0)):Int) then
 (atI (Za.Instances a0) v1).bind fun x0 =>
 Zu (fun v=>Jf v1 x0 v.1 v.2.1) (v0,(0:Int),())
 else
 Zu (fun v=>Ji a0 v.1 v.2.1) (v0,(0:Int),())
def XA (a0:Za):Option (List Ya) :=
 Zu (fun v=>Jl a0 v.1 v.2.1) (([]:List (Int×Int×Int×Bool×Unit)),(0:Int),())
def c56:Ctr:=⟨[.dat (Z9)],[.own (.ol 189 (.flat (Zfw)))],fun a K=>splitK a fun a0 a=>Y4 (XA a0) fun r=>K (r,()) ()⟩
def J6 (net0:Int) (l05Places0:List Ya) (out0:List Int) (i0:Int):Option (((List Int)×Int×Unit) ⊕ List Int) :=
 if i0<(↑(List.length l05Places0):Int) then
 (atI l05Places0 i0).bind fun x0 =>
 if Ya.net x0=net0 then
 if (Ya.drives x0)=true then
 some (.inl (out0,IntKind.i64.wrap (i0+1),()))
 else
 Zz ((List.length out0+List.length [i0])*(8:Nat)≤(140737488355328:Nat)) <|
 some (.inl (out0++[i0],IntKind.i64.wrap (i0+(1:Int)),()))
 else
 some (.inl (out0,IntKind.i64.wrap (i0+1),()))
 else
 some (.inr out0)
def Qe (d0:Za) (net0:Int):Option (List Int) :=
 (XA d0).bind fun l05Places0 =>
 Zu (fun v=>J6 net0 l05Places0 v.1 v.2.1) (([]:List Int),(0:Int),())
def c57:Ctr:=⟨[.dat (Z9),.dat (.int .i64)],[.own (.ol 2 (.flat (.int .i64)))],fun a K=>splitK a fun d0 a=>splitK a fun net0 a=>Y4 (Qe d0 net0) fun r=>K (r,()) ()⟩
def Zba (a0:Zn) (v1:Int):Option ((Int×Unit) ⊕ ((Int×Unit) ⊕ Bool)) :=
 if v1<(↑(List.length (Zn.ZfM a0)):Int) then
 (atI (Zn.ZfM a0) v1).bind fun x0 =>
 (Ye x0 0 (IntKind.i64.wrap ((↑(List.length (Zn.Parent a0)):Int)-1))).bind fun l01In0 =>
 if l01In0=true then
 some (.inl (IntKind.i64.wrap (v1+1),()))
 else
 some (.inr (.inr Bool.false))
 else
 some (.inr (.inr Bool.true))
def ZaX (a0:Zn) (v0:Int):Option ((Int×Unit) ⊕ Bool) :=
 if v0<(↑(List.length (Zn.Parent a0)):Int) then
 (atI (Zn.Cap a0) v0).bind fun x0 =>
 (Ye x0 0 500).bind fun l01In0 =>
 if l01In0=true then
 (atI (Zn.Res a0) v0).bind fun x1 =>
 (Ye x1 0 1000).bind fun l01In1 =>
 if l01In1=true then
 if v0=0 then
 (atI (Zn.Parent a0) v0).bind fun x2 =>
 if x2=(-1) then
 if x1=0 then
 if 0<v0 then
 (Ye x2 0 (IntKind.i64.wrap (v0-1))).bind fun l01In2 =>
 if l01In2=true then
 some (.inl (IntKind.i64.wrap (v0+1),()))
 else
 some (.inr Bool.false)
 else
 some (.inl (IntKind.i64.wrap (v0+1),()))
 else
 some (.inr Bool.false)
 else
 some (.inr Bool.false)
 else
 if 0<v0 then
 (atI (Zn.Parent a0) v0).bind fun x2 =>
 (Ye x2 0 (IntKind.i64.wrap (v0-1))).bind fun l01In2 =>
 if l01In2=true then
 some (.inl (IntKind.i64.wrap (v0+1),()))
 else
 some (.inr Bool.false)
 else
 some (.inl (IntKind.i64.wrap (v0+1),()))
 else
 some (.inr Bool.false)
 else
 some (.inr Bool.false)
 else
 Zu (fun v=>Zba a0 v.1) ((0:Int),())
def ZcY (a0:Zn) (a1:Int):Option Bool :=
 if (↑(List.length (Zn.Parent a0)):Int)<1 then
 some Bool.false
 else
 if 8<(↑(List.length (Zn.Parent a0)):Int) then
 some Bool.false
 else
 if (↑(List.length (Zn.Res a0)):Int)=(↑(List.length (Zn.Parent a0)):Int) then
 if (↑(List.length (Zn.Cap a0)):Int)=(↑(List.length (Zn.Parent a0)):Int) then
 if (↑(List.length (Zn.ZfM a0)):Int)=a1 then
 Zu (fun v=>ZaX a0 v.1) ((0:Int),())
 else
 some Bool.false
 else
 some Bool.false
 else
 some Bool.false
def c58:Ctr:=D2 (YP) (.int .i64) (.bool) ZcY
def ZaB (b0:Zb) (net0:Int):Option ((Int×Unit) ⊕ Bool) :=
 if net0<(↑(List.length (Zb.Zy b0)):Int) then
 (atI (Zb.Zy b0) net0).bind fun x0 =>
 (Qe (Zb.Design b0) net0).bind fun l05Sinks0 =>
 (ZcY x0 (↑(List.length l05Sinks0):Int)).bind fun IsWire0 =>
 if IsWire0=true then
 some (.inl (IntKind.i64.wrap (net0+1),()))
 else
 some (.inr Bool.false)
 else
 some (.inr Bool.true)
def Zca (b0:Zb):Option Bool :=
 (Zcv (Zb.Library b0) (Zb.Design b0)).bind fun IsDesign0 =>
 if IsDesign0=true then
 if (↑(List.length (Zb.Zy b0)):Int)=(↑(List.length (Za.ZP (Zb.Design b0))):Int) then
 Zu (fun v=>ZaB b0 v.1) ((0:Int),())
 else
 some Bool.false
 else
 some Bool.false
def c59:Ctr:=D1 (Yt) (.bool) Zca
def Xf (list0:List Int):Option (List Int) :=
 Zz ((List.length (([]:List Int))+List.length list0)*(8:Nat)≤(140737488355328:Nat)) <|
 some (([]:List Int)++list0)
def c60:Ctr:=⟨[.dat (.sl (.int .i64))],[.own (.ol 2 (.flat (.int .i64)))],fun a K=>splitK a fun list0 a=>Y4 (Xf list0) fun r=>K (r,()) ()⟩
def ZeB (t0:Zt):Option Zt :=
 (Xf (Zt.Zfx t0)).bind fun l02Ints0 =>
 (Xf (Zt.Loads t0)).bind fun l02Ints1 =>
 (Xf (Zt.Values t0)).bind fun l02Ints2 =>
 some (l02Ints0,l02Ints1,l02Ints2,())
def c61:Ctr:=⟨[.dat (Yh)],[.own (ZeY)],fun a K=>splitK a fun t0 a=>Y4 (ZeB t0) fun r=>K (r,()) ()⟩
def XE (list0:List Zt) (out0:List Zt) (i0:Int):Option (((List Zt)×Int×Unit) ⊕ List Zt) :=
 if i0<(↑(List.length list0):Int) then
 (atI list0 i0).bind fun x0 =>
 (ZeB x0).bind fun l02Own0 =>
 Zz ((List.length out0+List.length [l02Own0])*(72:Nat)≤(140737488355328:Nat)) <|
 some (.inl (out0++[l02Own0],IntKind.i64.wrap (i0+(1:Int)),()))
 else
 some (.inr out0)
def Vz (list0:List Zt):Option (List Zt) :=
 Zu (fun v=>XE list0 v.1 v.2.1) (([]:List Zt),(0:Int),())
def c62:Ctr:=⟨[.dat (.sl (Yh))],[.own (.ol 290 (ZeY))],fun a K=>splitK a fun list0 a=>Y4 (Vz list0) fun r=>K (r,()) ()⟩
def JK (c0:Zh) (l02Ints0:List Int) (i0:Int) (c1:List ZM):Option ((Int×(List ZM)×Unit) ⊕ Zh) :=
 if i0<(↑(List.length (Zh.Zbc c0)):Int) then
 (atI (Zh.Zbc c0) i0).bind fun x0 =>
 (Vz (ZM.Delay x0)).bind fun l03OwnTables0 =>
 (Vz (ZM.Zhj x0)).bind fun l03OwnTables1 =>
 Zz ((List.length c1+List.length [(ZM.Kind x0,ZM.From x0,ZM.To x0,ZM.ZcL x0,l03OwnTables0,l03OwnTables1,())])*(80:Nat)≤(140737488355328:Nat)) <|
 some (.inl (IntKind.i64.wrap (i0+(1:Int)),c1++[(ZM.Kind x0,ZM.From x0,ZM.To x0,ZM.ZcL x0,l03OwnTables0,l03OwnTables1,())],()))
 else
 some (.inr (Zh.Name c0,Zh.Kind c0,([]:List (List UInt8×Int×Int×Bool×Unit))++Zh.YC c0,c1,l02Ints0,c0.snd.snd.snd.snd.snd))
def Zen (c0:Zh):Option Zh :=
 Zz ((List.length (([]:List (List UInt8×Int×Int×Bool×Unit)))+List.length (Zh.YC c0))*(40:Nat)≤(140737488355328:Nat)) <|
 (Xf (Zh.Truth c0)).bind fun l02Ints0 =>
 Zu (fun v=>JK c0 l02Ints0 v.1 v.2.1) ((0:Int),([]:List ZM),())
def c63:Ctr:=⟨[.dat (YL)],[.own (Zka)],fun a K=>splitK a fun c0 a=>Y4 (Zen c0) fun r=>K (r,()) ()⟩
def Xq (l0:Zl) (i0:Int) (c0:List Zh):Option ((Int×(List Zh)×Unit) ⊕ Zl) :=
 if i0<(↑(List.length (Zl.Cells l0)):Int) then
 (atI (Zl.Cells l0) i0).bind fun x0 =>
 (Zen x0).bind fun l03Own0 =>
 Zz ((List.length c0+List.length [l03Own0])*(112:Nat)≤(140737488355328:Nat)) <|
 some (.inl (IntKind.i64.wrap (i0+(1:Int)),c0++[l03Own0],()))
 else
 some (.inr (c0,()))
def VY (l0:Zl):Option Zl :=
 Zu (fun v=>Xq l0 v.1 v.2.1) ((0:Int),([]:List Zh),())
def c64:Ctr:=⟨[.dat (Z6)],[.own (ZjO)],fun a K=>splitK a fun l0 a=>Y4 (VY l0) fun r=>K (r,()) ()⟩
def JC (d0:Za) (i0:Int) (c0:List Zd):Option ((Int×(List Zd)×Unit) ⊕ Za) :=
 if i0<(↑(List.length (Za.Instances d0)):Int) then
 (atI (Za.Instances d0) i0).bind fun x0 =>
 (Xf (Zd.ZP x0)).bind fun l02Ints0 =>
 Zz ((List.length c0+List.length [(Zd.Name x0,Zd.Cell x0,l02Ints0,())])*(48:Nat)≤(140737488355328:Nat)) <|
 some (.inl (IntKind.i64.wrap (i0+(1:Int)),c0++[(Zd.Name x0,Zd.Cell x0,l02Ints0,())],()))
 else
 some (.inr (c0,([]:List (List UInt8))++Za.ZP d0,([]:List (List UInt8×Int×Int×Unit))++Za.Z0 d0,()))
def ZeH (d0:Za):Option Za :=
 Zz ((List.length (([]:List (List UInt8)))+List.length (Za.ZP d0))*(16:Nat)≤(140737488355328:Nat)) <|
 Zz ((List.length (([]:List (List UInt8×Int×Int×Unit)))+List.length (Za.Z0 d0))*(32:Nat)≤(140737488355328:Nat)) <|
 Zu (fun v=>JC d0 v.1 v.2.1) ((0:Int),([]:List Zd),())
def c65:Ctr:=⟨[.dat (Z9)],[.own (Zkv)],fun a K=>splitK a fun d0 a=>Y4 (ZeH d0) fun r=>K (r,()) ()⟩
def Zae (w0:Zn):Option Zn :=
 (Xf (Zn.Parent w0)).bind fun l02Ints0 =>
 (Xf (Zn.Res w0)).bind fun l02Ints1 =>
 (Xf (Zn.Cap w0)).bind fun l02Ints2 =>
 (Xf (Zn.ZfM w0)).bind fun l02Ints3 =>
 some (l02Ints0,l02Ints1,l02Ints2,l02Ints3,())
def c66:Ctr:=⟨[.dat (YP)],[.own (Zg0)],fun a K=>splitK a fun w0 a=>Y4 (Zae w0) fun r=>K (r,()) ()⟩
def JF (b0:Zb) (l03OwnLibrary0:Zl) (l05Own0:Za) (i0:Int) (c0:List Zn):Option ((Int×(List Zn)×Unit) ⊕ Zb) :=
 if i0<(↑(List.length (Zb.Zy b0)):Int) then
 (atI (Zb.Zy b0) i0).bind fun x0 =>
 (Zae x0).bind fun l07OwnWire0 =>
 Zz ((List.length c0+List.length [l07OwnWire0])*(96:Nat)≤(140737488355328:Nat)) <|
 some (.inl (IntKind.i64.wrap (i0+(1:Int)),c0++[l07OwnWire0],()))
 else
 some (.inr (l03OwnLibrary0,l05Own0,c0,()))
def Zda (b0:Zb):Option Zb :=
 (VY (Zb.Library b0)).bind fun l03OwnLibrary0 =>
 (ZeH (Zb.Design b0)).bind fun l05Own0 =>
 Zu (fun v=>JF b0 l03OwnLibrary0 l05Own0 v.1 v.2.1) ((0:Int),([]:List Zn),())
def c67:Ctr:=⟨[.dat (Yt)],[.own (ZcT)],fun a K=>splitK a fun b0 a=>Y4 (Zda b0) fun r=>K (r,()) ()⟩
def ZcI (a0:Zf):Option Bool :=
 if Zf.Kind a0=1 then
 if Zf.Net a0=0 then
 if Zf.Node a0=0 then
 if Zf.Name a0=([]:List UInt8) then
 some (Decidable.decide (IntKind.i64.wrap (IntKind.i64.wrap (IntKind.i64.wrap ((↑(List.length (Zn.Parent (Zf.Zfc a0))):Int)+(↑(List.length (Zn.Res (Zf.Zfc a0))):Int))+(↑(List.length (Zn.Cap (Zf.Zfc a0))):Int))+(↑(List.length (Zn.ZfM (Zf.Zfc a0))):Int))=0))
 else
 some Bool.false
 else
 some Bool.false
 else
 some Bool.false
 else
 if Zf.Kind a0=2 then
 if Zf.Net a0=0 then
 if Zf.Node a0=0 then
 some (Decidable.decide (IntKind.i64.wrap (IntKind.i64.wrap (IntKind.i64.wrap ((↑(List.length (Zn.Parent (Zf.Zfc a0))):Int)+(↑(List.length (Zn.Res (Zf.Zfc a0))):Int))+(↑(List.length (Zn.Cap (Zf.Zfc a0))):Int))+(↑(List.length (Zn.ZfM (Zf.Zfc a0))):Int))=0))
 else
 some Bool.false
 else
 some Bool.false
 else
 if Zf.Kind a0=3 then
 if Zf.Place a0=0 then
 if Zf.Cell a0=0 then
 if Zf.Net a0=0 then
 if Zf.Node a0=0 then
 if Zf.Name a0=([]:List UInt8) then
 some (Decidable.decide (IntKind.i64.wrap (IntKind.i64.wrap (IntKind.i64.wrap ((↑(List.length (Zn.Parent (Zf.Zfc a0))):Int)+(↑(List.length (Zn.Res (Zf.Zfc a0))):Int))+(↑(List.length (Zn.Cap (Zf.Zfc a0))):Int))+(↑(List.length (Zn.ZfM (Zf.Zfc a0))):Int))=0))
 else
 some Bool.false
 else
 some Bool.false
 else
 some Bool.false
 else
 some Bool.false
 else
 some Bool.false
 else
 if Zf.Kind a0=4 then
 if Zf.Cell a0=0 then
 if Zf.Name a0=([]:List UInt8) then
 some (Decidable.decide (IntKind.i64.wrap (IntKind.i64.wrap (IntKind.i64.wrap ((↑(List.length (Zn.Parent (Zf.Zfc a0))):Int)+(↑(List.length (Zn.Res (Zf.Zfc a0))):Int))+(↑(List.length (Zn.Cap (Zf.Zfc a0))):Int))+(↑(List.length (Zn.ZfM (Zf.Zfc a0))):Int))=0))
 else
 some Bool.false
 else
 some Bool.false
 else
 if Zf.Kind a0=5 then
 if Zf.Place a0=0 then
 if Zf.Cell a0=0 then
 if Zf.Node a0=0 then
 some (Decidable.decide (Zf.Name a0=([]:List UInt8)))
 else
 some Bool.false
 else
 some Bool.false
 else
 some Bool.false
 else
 some Bool.false
def c68:Ctr:=D1 (Y9) (.bool) ZcI
def ZcD (a0:Zb) (a1:Zf):Option Bool :=
 (XA (Zb.Design a0)).bind fun l05Places0 =>
 if Zf.Kind a1=1 then
 if Zf.Kind a1=1 then
 (Ye (Zf.Place a1) 0 (IntKind.i64.wrap ((↑(List.length l05Places0):Int)-1))).bind fun l01In0 =>
 if l01In0=true then
 (Ye (Zf.Cell a1) 0 (IntKind.i64.wrap ((↑(List.length (Zl.Cells (Zb.Library a0))):Int)-1))).bind fun l01In1 =>
 some l01In1
 else
 some Bool.false
 else
 if Zf.Kind a1=4 then
 (Ye (Zf.Place a1) 0 (IntKind.i64.wrap ((↑(List.length l05Places0):Int)-1))).bind fun l01In0 =>
 if l01In0=true then
 (Ye (Zf.Net a1) 0 (IntKind.i64.wrap ((↑(List.length (Zb.Zy a0)):Int)-1))).bind fun l01In1 =>
 if l01In1=true then
 (atI (Zb.Zy a0) (Zf.Net a1)).bind fun x0 =>
 (Ye (Zf.Node a1) 0 (IntKind.i64.wrap ((↑(List.length (Zn.Parent x0)):Int)-1))).bind fun l01In2 =>
 some l01In2
 else
 some Bool.false
 else
 some Bool.false
 else
 if Zf.Kind a1=5 then
 (Ye (Zf.Net a1) 0 (IntKind.i64.wrap ((↑(List.length (Zb.Zy a0)):Int)-1))).bind fun l01In0 =>
 some l01In0
 else
 some Bool.true
 else
 if Zf.Kind a1=2 then
 (Ye (Zf.Place a1) 0 (IntKind.i64.wrap ((↑(List.length l05Places0):Int)-1))).bind fun l01In0 =>
 if l01In0=true then
 (Ye (Zf.Cell a1) 0 (IntKind.i64.wrap ((↑(List.length (Zl.Cells (Zb.Library a0))):Int)-1))).bind fun l01In1 =>
 some l01In1
 else
 some Bool.false
 else
 if Zf.Kind a1=4 then
 (Ye (Zf.Place a1) 0 (IntKind.i64.wrap ((↑(List.length l05Places0):Int)-1))).bind fun l01In0 =>
 if l01In0=true then
 (Ye (Zf.Net a1) 0 (IntKind.i64.wrap ((↑(List.length (Zb.Zy a0)):Int)-1))).bind fun l01In1 =>
 if l01In1=true then
 (atI (Zb.Zy a0) (Zf.Net a1)).bind fun x0 =>
 (Ye (Zf.Node a1) 0 (IntKind.i64.wrap ((↑(List.length (Zn.Parent x0)):Int)-1))).bind fun l01In2 =>
 some l01In2
 else
 some Bool.false
 else
 some Bool.false
 else
 if Zf.Kind a1=5 then
 (Ye (Zf.Net a1) 0 (IntKind.i64.wrap ((↑(List.length (Zb.Zy a0)):Int)-1))).bind fun l01In0 =>
 some l01In0
 else
 some Bool.true
def c69:Ctr:=D2 (Yt) (Y9) (.bool) ZcD
def VD (a0:Zh) (b0:Zh) (i0:Int):Option ((Int×Unit) ⊕ Bool) :=
 if i0<(↑(List.length (Zh.YC a0)):Int) then
 (atI (Zh.YC a0) i0).bind fun x0 =>
 (atI (Zh.YC b0) i0).bind fun x1 =>
 if (Yv.Clock x0 == Yv.Clock x1)=true then
 some (.inl (IntKind.i64.wrap (i0+1),()))
 else
 some (.inr Bool.false)
 else
 some (.inr Bool.true)
def VF (a0:Zh) (b0:Zh):Option Bool :=
 if Zh.Kind a0=Zh.Kind b0 then
 if (↑(List.length (Zh.YC a0)):Int)=(↑(List.length (Zh.YC b0)):Int) then
 Zu (fun v=>VD a0 b0 v.1) ((0:Int),())
 else
 some Bool.false
 else
 some Bool.false
def c70:Ctr:=D2 (YL) (YL) (.bool) VF
def ZaL (c0:Zh):Option Bool :=
 if Zh.Kind c0=1 then
 some (Decidable.decide ((↑(List.length (Zh.YC c0)):Int)=2))
 else
 some Bool.false
def c71:Ctr:=D1 (YL) (.bool) ZaL
def QB (d0:Za) (name0:List UInt8) (i0:Int):Option ((Int×Unit) ⊕ Int) :=
 if i0<(↑(List.length (Za.Instances d0)):Int) then
 (atI (Za.Instances d0) i0).bind fun x0 =>
 if Zd.Name x0=name0 then
 some (.inr i0)
 else
 some (.inl (IntKind.i64.wrap (i0+1),()))
 else
 some (.inr (-1))
def VZ (d0:Za) (name0:List UInt8):Option Int :=
 Zu (fun v=>QB d0 name0 v.1) ((0:Int),())
def c72:Ctr:=D2 (Z9) (.str) (.int .i64) VZ
def JQ (list0:List (List UInt8)) (word0:List UInt8) (i0:Int):Option ((Int×Unit) ⊕ Int) :=
 if i0<(↑(List.length list0):Int) then
 (atI list0 i0).bind fun x0 =>
 if x0=word0 then
 some (.inr i0)
 else
 some (.inl (IntKind.i64.wrap (i0+1),()))
 else
 some (.inr (-1))
def ZdH (list0:List (List UInt8)) (word0:List UInt8):Option Int :=
 Zu (fun v=>JQ list0 word0 v.1) ((0:Int),())
def c73:Ctr:=D2 (.sl (.str)) (.str) (.int .i64) ZdH
def Zco (d0:Za) (name0:List UInt8):Option Int :=
 (ZdH (Za.ZP d0) name0).bind fun l04Index0 =>
 some l04Index0
def c74:Ctr:=D2 (Z9) (.str) (.int .i64) Zco
def ZeV (w0:Zn):Option Bool :=
 if (↑(List.length (Zn.Parent w0)):Int)=1 then
 (atI (Zn.Cap w0) 0).bind fun x0 =>
 some (Decidable.decide (x0=0))
 else
 some Bool.false
def c75:Ctr:=D1 (YP) (.bool) ZeV
def Zdr (a0:Zb):Option Bool :=
 if IntKind.i64.wrap ((↑(List.length (Za.Instances (Zb.Design a0))):Int)-1)<0 then
 some Bool.false
 else
 (atI (Za.Instances (Zb.Design a0)) (IntKind.i64.wrap ((↑(List.length (Za.Instances (Zb.Design a0))):Int)-1))).bind fun x0 =>
 (atI (Zl.Cells (Zb.Library a0)) (Zd.Cell x0)).bind fun x1 =>
 (ZaL x1).bind fun l08Buffer0 =>
 if l08Buffer0=true then
 (atI (Zd.ZP x0) 1).bind fun x2 =>
 if x2=IntKind.i64.wrap ((↑(List.length (Zb.Zy a0)):Int)-1) then
 (atI (Za.ZP (Zb.Design a0)) (IntKind.i64.wrap ((↑(List.length (Zb.Zy a0)):Int)-1))).bind fun x3 =>
 if x3=Zd.Name x0 then
 (atI (Zd.ZP x0) 0).bind fun x4 =>
 if x4=IntKind.i64.wrap ((↑(List.length (Zb.Zy a0)):Int)-1) then
 some Bool.false
 else
 (Qe (Zb.Design a0) (IntKind.i64.wrap ((↑(List.length (Zb.Zy a0)):Int)-1))).bind fun l05Sinks0 =>
 if (↑(List.length l05Sinks0):Int)=1 then
 (atI (Zb.Zy a0) (IntKind.i64.wrap ((↑(List.length (Zb.Zy a0)):Int)-1))).bind fun x5 =>
 (ZeV x5).bind fun l08Bare0 =>
 some l08Bare0
 else
 some Bool.false
 else
 some Bool.false
 else
 some Bool.false
 else
 some Bool.false
def c76:Ctr:=D1 (Yt) (.bool) Zdr
def ZcE (a0:Zb) (a1:Zf):Option Bool :=
 (XA (Zb.Design a0)).bind fun l05Places0 =>
 if Zf.Kind a1=1 then
 (atI l05Places0 (Zf.Place a1)).bind fun x0 =>
 if 0≤Ya.instance x0 then
 if (Ya.drives x0)=true then
 (atI (Za.Instances (Zb.Design a0)) (Ya.instance x0)).bind fun x1 =>
 (atI (Zl.Cells (Zb.Library a0)) (Zd.Cell x1)).bind fun x2 =>
 (atI (Zl.Cells (Zb.Library a0)) (Zf.Cell a1)).bind fun x3 =>
 (VF x2 x3).bind fun l08Alike0 =>
 some l08Alike0
 else
 some Bool.false
 else
 some Bool.false
 else
 if Zf.Kind a1=2 then
 (atI l05Places0 (Zf.Place a1)).bind fun x0 =>
 if (Ya.drives x0)=true then
 some Bool.false
 else
 (atI (Zl.Cells (Zb.Library a0)) (Zf.Cell a1)).bind fun x1 =>
 (ZaL x1).bind fun l08Buffer0 =>
 if l08Buffer0=true then
 (ZaI (Zf.Name a1)).bind fun l03Name0 =>
 if l03Name0=true then
 (VZ (Zb.Design a0) (Zf.Name a1)).bind fun InstanceNamed0 =>
 if InstanceNamed0<0 then
 (Zco (Zb.Design a0) (Zf.Name a1)).bind fun NetNamed0 =>
 some (Decidable.decide (NetNamed0<0))
 else
 some Bool.false
 else
 some Bool.false
 else
 some Bool.false
 else
 if Zf.Kind a1=3 then
 (Zdr a0).bind fun l08Last0 =>
 some l08Last0
 else
 if Zf.Kind a1=4 then
 (atI l05Places0 (Zf.Place a1)).bind fun x0 =>
 if (Ya.drives x0)=true then
 some Bool.false
 else
 some (!Decidable.decide (Ya.net x0=Zf.Net a1))
 else
 (Qe (Zb.Design a0) (Zf.Net a1)).bind fun l05Sinks0 =>
 (ZcY (Zf.Zfc a1) (↑(List.length l05Sinks0):Int)).bind fun IsWire0 =>
 some IsWire0
def c77:Ctr:=D2 (Yt) (Y9) (.bool) ZcE
def Zcu (b0:Zb) (e0:Zf):Option Int :=
 (Zca b0).bind fun IsBlock0 =>
 if IsBlock0=true then
 (ZcI e0).bind fun l08Blank0 =>
 if l08Blank0=true then
 (ZcD b0 e0).bind fun l08Range0 =>
 if l08Range0=true then
 (ZcE b0 e0).bind fun l08State0 =>
 if l08State0=true then
 if Zf.Kind e0=2 then
 if (↑(List.length (Za.Instances (Zb.Design b0))):Int)=14 then
 some 3
 else
 if (↑(List.length (Zb.Zy b0)):Int)=30 then
 some 3
 else
 some 0
 else
 some 0
 else
 some 5
 else
 some 2
 else
 some 2
 else
 some 1
def c78:Ctr:=D2 (Yt) (Y9) (.int .i64) Zcu
def J4 (b0:Zb) (net0:Int) (l05Sinks0:List Int) (i0:Int) (l1:List Int):Option ((Int×(List Int)×Unit) ⊕ ((Int×(List Int)×Unit) ⊕ List Int)) :=
 if i0<(↑(List.length l05Sinks0):Int) then
 (atI l05Sinks0 i0).bind fun x0 =>
 (atI (Zb.Zy b0) net0).bind fun x1 =>
 (atI (Zn.ZfM x1) i0).bind fun x2 =>
 (atI l1 x0).bind fun x3 =>
 some (.inl (IntKind.i64.wrap (i0+1),List.set l1 (Int.toNat x0) x2,()))
 else
 some (.inr (.inl (IntKind.i64.wrap (net0+1),l1,())))
def J8 (b0:Zb) (net0:Int) (l0:List Int):Option ((Int×(List Int)×Unit) ⊕ List Int) :=
 if net0<(↑(List.length (Zb.Zy b0)):Int) then
 (Qe (Zb.Design b0) net0).bind fun l05Sinks0 =>
 Zu (fun v=>J4 b0 net0 l05Sinks0 v.1 v.2.1) ((0:Int),l0,())
 else
 some (.inr l0)
def Zax (b0:Zb):Option (List Int) :=
 (XA (Zb.Design b0)).bind fun l05Places0 =>
 Zz ((0:Int)≤(↑(List.length l05Places0):Int)) <|
 Zz ((↑(List.length l05Places0):Int)≤(↑(List.length l05Places0):Int)) <|
 Zz ((↑(List.length l05Places0):Int)≤(4611686018427387904:Int)) <|
 Zz ((↑(8:Nat):Int)*(↑(List.length l05Places0):Int)≤(281474976710656:Int)) <|
 Zu (fun v=>J8 b0 v.1 v.2.1) ((0:Int),List.replicate (Int.toNat (↑(List.length l05Places0):Int)) (0:Int),())
def c79:Ctr:=⟨[.dat (Yt)],[.own (.ol 2 (.flat (.int .i64)))],fun a K=>splitK a fun b0 a=>Y4 (Zax b0) fun r=>K (r,()) ()⟩
def VN (d0:Za) (p0:Ya) (net0:Int):Option Za :=
 if Ya.instance p0<0 then
 (atI (Za.Z0 d0) (Ya.pin p0)).bind fun x0 =>
 some (Za.Instances d0,Za.ZP d0,List.set (Za.Z0 d0) (Int.toNat (Ya.pin p0)) (ZI.Name x0,ZI.Dir x0,net0,()),())
 else
 (atI (Za.Instances d0) (Ya.instance p0)).bind fun x0 =>
 (atI x0.snd.snd.fst (Ya.pin p0)).bind fun x1 =>
 some (List.set (Za.Instances d0) (Int.toNat (Ya.instance p0)) (x0.fst,x0.snd.fst,List.set x0.snd.snd.fst (Int.toNat (Ya.pin p0)) net0,()),d0.snd)
def c80:Ctr:=⟨[.back (Zkv),.dat (Zfw),.dat (.int .i64)],[],fun a K=>splitK a fun d0 a=>splitK a fun p0 a=>splitK a fun net0 a=>Y4 (VN d0 p0 net0) fun r=>K () (r,())⟩
def ZaM (sinks0:Int) (load0:Int):Option Zn :=
 Zz ((0:Int)≤sinks0) <|
 Zz (sinks0≤sinks0) <|
 Zz (sinks0≤(4611686018427387904:Int)) <|
 Zz ((↑(8:Nat):Int)*sinks0≤(281474976710656:Int)) <|
 some ([(-1:Int)],[(0:Int)],[load0],List.replicate (Int.toNat sinks0) (0:Int),())
def c81:Ctr:=⟨[.dat (.int .i64),.dat (.int .i64)],[.own (Zg0)],fun a K=>splitK a fun sinks0 a=>splitK a fun load0 a=>Y4 (ZaM sinks0 load0) fun r=>K (r,()) ()⟩
def Jk (nodes0:List Int) (net0:Int) (l0:List (List Int×List Int×List Int×List Int×Unit)) (l05Sinks0:List Int) (list0:List Int) (i0:Int):Option (((List Int)×Int×Unit) ⊕ ((Int×(List (List Int×List Int×List Int×List Int×Unit))×Unit) ⊕ Zb)) :=
 if i0<(↑(List.length l05Sinks0):Int) then
 (atI l05Sinks0 i0).bind fun x0 =>
 (atI nodes0 x0).bind fun x1 =>
 Zz ((List.length list0+List.length [x1])*(8:Nat)≤(140737488355328:Nat)) <|
 some (.inl (list0++[x1],IntKind.i64.wrap (i0+(1:Int)),()))
 else
 (atI l0 net0).bind fun x0 =>
 some (.inr (.inl (IntKind.i64.wrap (net0+1),List.set l0 (Int.toNat net0) (x0.fst,x0.snd.fst,x0.snd.snd.fst,list0,()),())))
def Q7 (b0:Zb) (nodes0:List Int) (net0:Int) (l0:List (List Int×List Int×List Int×List Int×Unit)):Option ((Int×(List (List Int×List Int×List Int×List Int×Unit))×Unit) ⊕ Zb) :=
 if net0<(↑(List.length l0):Int) then
 (Qe (Zb.Design b0) net0).bind fun l05Sinks0 =>
 Zu (fun v=>Jk nodes0 net0 l0 l05Sinks0 v.1 v.2.1) (([]:List Int),(0:Int),())
 else
 some (.inr (Zb.Library b0,Zb.Design b0,l0,()))
def X7 (b0:Zb) (nodes0:List Int):Option Zb :=
 Zu (fun v=>Q7 b0 nodes0 v.1 v.2.1) ((0:Int),Zb.Zy b0,())
def c82:Ctr:=⟨[.own (ZcT),.dat (.sl (.int .i64))],[.own (ZcT)],fun a K=>splitK a fun b0 a=>splitK a fun nodes0 a=>Y4 (X7 b0 nodes0) fun r=>K (r,()) ()⟩
def ZbT (a0:Zb) (a1:Zf):Option Zb :=
 (XA (Zb.Design a0)).bind fun l05Places0 =>
 (atI l05Places0 (Zf.Place a1)).bind fun x0 =>
 (Zax a0).bind fun l08Nodes0 =>
 (atI l08Nodes0 (Zf.Place a1)).bind fun x1 =>
 Zz ((0:Int)≤IntKind.i64.wrap ((↑(List.length l08Nodes0):Int)-(↑(List.length (Za.Z0 (Zb.Design a0))):Int))) <|
 Zz (IntKind.i64.wrap ((↑(List.length l08Nodes0):Int)-(↑(List.length (Za.Z0 (Zb.Design a0))):Int))≤(↑(List.length l08Nodes0):Int)) <|
 (Xf (List.take (Int.toNat (IntKind.i64.wrap ((↑(List.length l08Nodes0):Int)-(↑(List.length (Za.Z0 (Zb.Design a0))):Int)))-Int.toNat 0) (List.drop (Int.toNat 0) l08Nodes0))).bind fun l02Ints0 =>
 Zz ((List.length l02Ints0+List.length [x1,(0:Int)])*(8:Nat)≤(140737488355328:Nat)) <|
 Zz ((↑(List.length l08Nodes0):Int)≤(↑(List.length l08Nodes0):Int)) <|
 Zz ((List.length (l02Ints0++[x1,(0:Int)])+List.length (List.take (Int.toNat (↑(List.length l08Nodes0):Int)-Int.toNat (IntKind.i64.wrap ((↑(List.length l08Nodes0):Int)-(↑(List.length (Za.Z0 (Zb.Design a0))):Int)))) (List.drop (Int.toNat (IntKind.i64.wrap ((↑(List.length l08Nodes0):Int)-(↑(List.length (Za.Z0 (Zb.Design a0))):Int)))) l08Nodes0)))*(8:Nat)≤(140737488355328:Nat)) <|
 (VN (Zb.Design a0) x0 (↑(List.length (Zb.Zy a0)):Int)).bind fun l08Connect0 =>
 if IntKind.i64.wrap ((↑(List.length l08Nodes0):Int)-(↑(List.length (Za.Z0 (Zb.Design a0))):Int))≤Zf.Place a1 then
 (atI (l02Ints0++[x1,(0:Int)]++List.take (Int.toNat (↑(List.length l08Nodes0):Int)-Int.toNat (IntKind.i64.wrap ((↑(List.length l08Nodes0):Int)-(↑(List.length (Za.Z0 (Zb.Design a0))):Int)))) (List.drop (Int.toNat (IntKind.i64.wrap ((↑(List.length l08Nodes0):Int)-(↑(List.length (Za.Z0 (Zb.Design a0))):Int)))) l08Nodes0)) (IntKind.i64.wrap (Zf.Place a1+(2:Int)))).bind fun x2 =>
 Zz ((List.length (Za.Instances l08Connect0)+List.length [(Zf.Name a1,Zf.Cell a1,[Ya.net x0,(↑(List.length (Zb.Zy a0)):Int)],())])*(48:Nat)≤(140737488355328:Nat)) <|
 Zz ((List.length (Za.ZP l08Connect0)+List.length [Zf.Name a1])*(16:Nat)≤(140737488355328:Nat)) <|
 (ZaM 1 0).bind fun l07Lumped0 =>
 Zz ((List.length (Zb.Zy a0)+List.length [l07Lumped0])*(96:Nat)≤(140737488355328:Nat)) <|
 (X7 (Zb.Library a0,(Za.Instances l08Connect0++[(Zf.Name a1,Zf.Cell a1,[Ya.net x0,(↑(List.length (Zb.Zy a0)):Int)],())],Za.ZP l08Connect0++[Zf.Name a1],l08Connect0.snd.snd),Zb.Zy a0++[l07Lumped0],()) (List.set (l02Ints0++[x1,(0:Int)]++List.take (Int.toNat (↑(List.length l08Nodes0):Int)-Int.toNat (IntKind.i64.wrap ((↑(List.length l08Nodes0):Int)-(↑(List.length (Za.Z0 (Zb.Design a0))):Int)))) (List.drop (Int.toNat (IntKind.i64.wrap ((↑(List.length l08Nodes0):Int)-(↑(List.length (Za.Z0 (Zb.Design a0))):Int)))) l08Nodes0)) (Int.toNat (IntKind.i64.wrap (Zf.Place a1+(2:Int)))) (0:Int))).bind fun l08Attach0 =>
 some l08Attach0
 else
 (atI (l02Ints0++[x1,(0:Int)]++List.take (Int.toNat (↑(List.length l08Nodes0):Int)-Int.toNat (IntKind.i64.wrap ((↑(List.length l08Nodes0):Int)-(↑(List.length (Za.Z0 (Zb.Design a0))):Int)))) (List.drop (Int.toNat (IntKind.i64.wrap ((↑(List.length l08Nodes0):Int)-(↑(List.length (Za.Z0 (Zb.Design a0))):Int)))) l08Nodes0)) (Zf.Place a1)).bind fun x2 =>
 Zz ((List.length (Za.Instances l08Connect0)+List.length [(Zf.Name a1,Zf.Cell a1,[Ya.net x0,(↑(List.length (Zb.Zy a0)):Int)],())])*(48:Nat)≤(140737488355328:Nat)) <|
 Zz ((List.length (Za.ZP l08Connect0)+List.length [Zf.Name a1])*(16:Nat)≤(140737488355328:Nat)) <|
 (ZaM 1 0).bind fun l07Lumped0 =>
 Zz ((List.length (Zb.Zy a0)+List.length [l07Lumped0])*(96:Nat)≤(140737488355328:Nat)) <|
 (X7 (Zb.Library a0,(Za.Instances l08Connect0++[(Zf.Name a1,Zf.Cell a1,[Ya.net x0,(↑(List.length (Zb.Zy a0)):Int)],())],Za.ZP l08Connect0++[Zf.Name a1],l08Connect0.snd.snd),Zb.Zy a0++[l07Lumped0],()) (List.set (l02Ints0++[x1,(0:Int)]++List.take (Int.toNat (↑(List.length l08Nodes0):Int)-Int.toNat (IntKind.i64.wrap ((↑(List.length l08Nodes0):Int)-(↑(List.length (Za.Z0 (Zb.Design a0))):Int)))) (List.drop (Int.toNat (IntKind.i64.wrap ((↑(List.length l08Nodes0):Int)-(↑(List.length (Za.Z0 (Zb.Design a0))):Int)))) l08Nodes0)) (Int.toNat (Zf.Place a1)) (0:Int))).bind fun l08Attach0 =>
 some l08Attach0
def c83:Ctr:=⟨[.own (ZcT),.dat (Y9)],[.own (ZcT)],fun a K=>splitK a fun a0 a=>splitK a fun a1 a=>Y4 (ZbT a0 a1) fun r=>K (r,()) ()⟩
def ZbR (a0:Zb):Option Zb :=
 (Zax a0).bind fun l08Nodes0 =>
 (Qe (Zb.Design a0) (IntKind.i64.wrap ((↑(List.length (Zb.Zy a0)):Int)-1))).bind fun l05Sinks0 =>
 (atI l05Sinks0 0).bind fun x0 =>
 (atI l08Nodes0 (IntKind.i64.wrap (IntKind.i64.wrap ((↑(List.length l08Nodes0):Int)-(↑(List.length (Za.Z0 (Zb.Design a0))):Int))-2))).bind fun x1 =>
 (atI l08Nodes0 x0).bind fun x2 =>
 (atI (Za.Instances (Zb.Design a0)) (IntKind.i64.wrap ((↑(List.length (Za.Instances (Zb.Design a0))):Int)-1))).bind fun x3 =>
 (atI x3.snd.snd.fst 0).bind fun x4 =>
 (XA (List.set (Za.Instances (Zb.Design a0)) (Int.toNat (IntKind.i64.wrap ((↑(List.length (Za.Instances (Zb.Design a0))):Int)-1))) x3,(Zb.Design a0).snd)).bind fun l05Places0 =>
 (atI l05Places0 x0).bind fun x5 =>
 (VN (List.set (Za.Instances (Zb.Design a0)) (Int.toNat (IntKind.i64.wrap ((↑(List.length (Za.Instances (Zb.Design a0))):Int)-1))) x3,(Zb.Design a0).snd) x5 x4).bind fun l08Connect0 =>
 Zz ((0:Int)≤IntKind.i64.wrap (IntKind.i64.wrap ((↑(List.length l08Nodes0):Int)-(↑(List.length (Za.Z0 (Zb.Design a0))):Int))-(2:Int))) <|
 Zz (IntKind.i64.wrap (IntKind.i64.wrap ((↑(List.length l08Nodes0):Int)-(↑(List.length (Za.Z0 (Zb.Design a0))):Int))-(2:Int))≤(↑(List.length (List.set l08Nodes0 (Int.toNat x0) x1)):Int)) <|
 (Xf (List.take (Int.toNat (IntKind.i64.wrap (IntKind.i64.wrap ((↑(List.length l08Nodes0):Int)-(↑(List.length (Za.Z0 (Zb.Design a0))):Int))-2))-Int.toNat 0) (List.drop (Int.toNat 0) (List.set l08Nodes0 (Int.toNat x0) x1)))).bind fun l02Ints0 =>
 Zz ((0:Int)≤IntKind.i64.wrap ((↑(List.length l08Nodes0):Int)-(↑(List.length (Za.Z0 (Zb.Design a0))):Int))) <|
 Zz (IntKind.i64.wrap ((↑(List.length l08Nodes0):Int)-(↑(List.length (Za.Z0 (Zb.Design a0))):Int))≤(↑(List.length (List.set l08Nodes0 (Int.toNat x0) x1)):Int)) <|
 Zz ((↑(List.length (List.set l08Nodes0 (Int.toNat x0) x1)):Int)≤(↑(List.length (List.set l08Nodes0 (Int.toNat x0) x1)):Int)) <|
 Zz ((List.length l02Ints0+List.length (List.take (Int.toNat (↑(List.length (List.set l08Nodes0 (Int.toNat x0) x1)):Int)-Int.toNat (IntKind.i64.wrap ((↑(List.length l08Nodes0):Int)-(↑(List.length (Za.Z0 (Zb.Design a0))):Int)))) (List.drop (Int.toNat (IntKind.i64.wrap ((↑(List.length l08Nodes0):Int)-(↑(List.length (Za.Z0 (Zb.Design a0))):Int)))) (List.set l08Nodes0 (Int.toNat x0) x1))))*(8:Nat)≤(140737488355328:Nat)) <|
 Zz ((0:Int)≤IntKind.i64.wrap ((↑(List.length (Za.Instances (Zb.Design a0))):Int)-(1:Int))) <|
 Zz (IntKind.i64.wrap ((↑(List.length (Za.Instances (Zb.Design a0))):Int)-(1:Int))≤(↑(List.length (Za.Instances l08Connect0)):Int)) <|
 Zz ((0:Int)≤IntKind.i64.wrap ((↑(List.length (Zb.Zy a0)):Int)-(1:Int))) <|
 Zz (IntKind.i64.wrap ((↑(List.length (Zb.Zy a0)):Int)-(1:Int))≤(↑(List.length (Za.ZP l08Connect0)):Int)) <|
 Zz (IntKind.i64.wrap ((↑(List.length (Zb.Zy a0)):Int)-(1:Int))≤(↑(List.length (Zb.Zy a0)):Int)) <|
 (X7 (Zb.Library a0,(List.take (Int.toNat (IntKind.i64.wrap ((↑(List.length (Za.Instances (Zb.Design a0))):Int)-1))-Int.toNat 0) (List.drop (Int.toNat 0) (Za.Instances l08Connect0)),List.take (Int.toNat (IntKind.i64.wrap ((↑(List.length (Zb.Zy a0)):Int)-1))-Int.toNat 0) (List.drop (Int.toNat 0) (Za.ZP l08Connect0)),l08Connect0.snd.snd),List.take (Int.toNat (IntKind.i64.wrap ((↑(List.length (Zb.Zy a0)):Int)-1))-Int.toNat 0) (List.drop (Int.toNat 0) (Zb.Zy a0)),()) (l02Ints0++List.take (Int.toNat (↑(List.length (List.set l08Nodes0 (Int.toNat x0) x1)):Int)-Int.toNat (IntKind.i64.wrap ((↑(List.length l08Nodes0):Int)-(↑(List.length (Za.Z0 (Zb.Design a0))):Int)))) (List.drop (Int.toNat (IntKind.i64.wrap ((↑(List.length l08Nodes0):Int)-(↑(List.length (Za.Z0 (Zb.Design a0))):Int)))) (List.set l08Nodes0 (Int.toNat x0) x1)))).bind fun l08Attach0 =>
 some l08Attach0
def c84:Ctr:=⟨[.own (ZcT)],[.own (ZcT)],fun a K=>splitK a fun a0 a=>Y4 (ZbR a0) fun r=>K (r,()) ()⟩
def Zbq (a0:Zb) (a1:Zf):Option Zb :=
 (Zda a0).bind fun l07Own0 =>
 (XA (Zb.Design l07Own0)).bind fun l05Places0 =>
 if Zf.Kind a1=1 then
 (atI l05Places0 (Zf.Place a1)).bind fun x0 =>
 (atI (Za.Instances (Zb.Design l07Own0)) (Ya.instance x0)).bind fun x1 =>
 some (Zb.Library l07Own0,(List.set (Za.Instances (Zb.Design l07Own0)) (Int.toNat (Ya.instance x0)) (x1.fst,Zf.Cell a1,x1.snd.snd),(Zb.Design l07Own0).snd),l07Own0.snd.snd)
 else
 if Zf.Kind a1=2 then
 (ZbT l07Own0 a1).bind fun l08Insert0 =>
 some l08Insert0
 else
 if Zf.Kind a1=3 then
 (ZbR l07Own0).bind fun l08Remove0 =>
 some l08Remove0
 else
 if Zf.Kind a1=4 then
 (Zax l07Own0).bind fun l08Nodes0 =>
 (atI l08Nodes0 (Zf.Place a1)).bind fun x0 =>
 (atI l05Places0 (Zf.Place a1)).bind fun x1 =>
 (VN (Zb.Design l07Own0) x1 (Zf.Net a1)).bind fun l08Connect0 =>
 (X7 (Zb.Library l07Own0,l08Connect0,l07Own0.snd.snd) (List.set l08Nodes0 (Int.toNat (Zf.Place a1)) (Zf.Node a1))).bind fun l08Attach0 =>
 some l08Attach0
 else
 if Zf.Kind a1=5 then
 (Zae (Zf.Zfc a1)).bind fun l07OwnWire0 =>
 (atI (Zb.Zy l07Own0) (Zf.Net a1)).bind fun x0 =>
 some (Zb.Library l07Own0,Zb.Design l07Own0,List.set (Zb.Zy l07Own0) (Int.toNat (Zf.Net a1)) l07OwnWire0,())
 else
 some l07Own0
def c85:Ctr:=⟨[.dat (Yt),.dat (Y9)],[.own (ZcT)],fun a K=>splitK a fun a0 a=>splitK a fun a1 a=>Y4 (Zbq a0 a1) fun r=>K (r,()) ()⟩
def QM (b0:Zb) (e0:Zf):Option (Zb×Int) :=
 (Zcu b0 e0).bind fun EditCode0 =>
 if EditCode0=0 then
 (Zbq b0 e0).bind fun l08Apply0 =>
 some (l08Apply0,0)
 else
 some (((([]:List Zh),()),(([]:List Zd),([]:List (List UInt8)),([]:List ZI),()),([]:List Zn),()),EditCode0)
def c86:Ctr:=⟨[.dat (Yt),.dat (Y9)],[.own (ZcT),.dat (.int .i64)],fun a K=>splitK a fun b0 a=>splitK a fun e0 a=>Y4 (QM b0 e0) fun r=>K (r.1,r.2,()) ()⟩
def Xy (list0:List Zf) (i0:Int) (c0:List Zh) (c1:List Zd) (c2:List (List UInt8)) (c3:List ZI) (c4:List Zn) (c5:List (List UInt8×Int×List Yv×List ZM×List Int×Int×Int×Unit)) (c6:List (List UInt8×Int×List Int×Unit)) (c7:List (List UInt8)) (c8:List ZI) (c9:List (List Int×List Int×List Int×List Int×Unit)):Option ((Int×(List Zh)×(List Zd)×(List (List UInt8))×(List ZI)×(List Zn)×(List (List UInt8×Int×List Yv×List ZM×List Int×Int×Int×Unit))×(List (List UInt8×Int×List Int×Unit))×(List (List UInt8))×(List ZI)×(List (List Int×List Int×List Int×List Int×Unit))×Unit) ⊕ (Zb×Int×Int)) :=
 if i0<(↑(List.length list0):Int) then
 (atI list0 i0).bind fun x0 =>
 (QM ((c5,()),(c6,c7,c8,()),c9,()) x0).bind fun ApplyEdit0 =>
 if ApplyEdit0.snd=0 then
 some (.inl (IntKind.i64.wrap (i0+1),c0,c1,c2,c3,c4,ApplyEdit0.fst.fst.fst,ApplyEdit0.fst.snd.fst.fst,ApplyEdit0.fst.snd.fst.snd.fst,ApplyEdit0.fst.snd.fst.snd.snd.fst,ApplyEdit0.fst.snd.snd.fst,()))
 else
 some (.inr (((([]:List Zh),()),(([]:List Zd),([]:List (List UInt8)),([]:List ZI),()),([]:List Zn),()),ApplyEdit0.snd,i0))
 else
 some (.inr (((c5,()),(c6,c7,c8,()),c9,()),0,(-1)))
def Za9 (b0:Zb) (list0:List Zf):Option (Zb×Int×Int) :=
 (Zca b0).bind fun IsBlock0 =>
 if IsBlock0=true then
 if 20<(↑(List.length list0):Int) then
 some (((([]:List Zh),()),(([]:List Zd),([]:List (List UInt8)),([]:List ZI),()),([]:List Zn),()),(3:Int),(-1:Int))
 else
 (Zda b0).bind fun l07Own0 =>
 Zu (fun v=>Xy list0 v.1 v.2.1 v.2.2.1 v.2.2.2.1 v.2.2.2.2.1 v.2.2.2.2.2.1 v.2.2.2.2.2.2.1 v.2.2.2.2.2.2.2.1 v.2.2.2.2.2.2.2.2.1 v.2.2.2.2.2.2.2.2.2.1 v.2.2.2.2.2.2.2.2.2.2.1) ((0:Int),([]:List Zh),([]:List Zd),([]:List (List UInt8)),([]:List ZI),([]:List Zn),Zl.Cells (Zb.Library l07Own0),Za.Instances (Zb.Design l07Own0),Za.ZP (Zb.Design l07Own0),Za.Z0 (Zb.Design l07Own0),Zb.Zy l07Own0,())
 else
 some (((([]:List Zh),()),(([]:List Zd),([]:List (List UInt8)),([]:List ZI),()),([]:List Zn),()),(1:Int),(-1:Int))
def c87:Ctr:=⟨[.dat (Yt),.dat (.sl (Y9))],[.own (ZcT),.dat (.int .i64),.dat (.int .i64)],fun a K=>splitK a fun b0 a=>splitK a fun list0 a=>Y4 (Za9 b0 list0) fun r=>K (r.1,r.2.1,r.2.2,()) ()⟩
def Yo (x0:Int) (low0:Int) (high0:Int):Option Bool :=
 if low0≤x0 then
 some (Decidable.decide (x0≤high0))
 else
 some Bool.false
def c88:Ctr:=D3 (.int .i64) (.int .i64) (.int .i64) (.bool) Yo
def Zb4 (s0:List UInt8):Option Bool :=
 (Yo (↑(List.length s0):Int) 1 8).bind fun within0 =>
 if within0=true then
 Zz (List.length s0≤(1000000:Nat)) <|
 if Go.Lib.trimS s0 [(97:UInt8),(98:UInt8),(99:UInt8),(100:UInt8),(101:UInt8),(102:UInt8),(103:UInt8),(104:UInt8),(105:UInt8),(106:UInt8),(107:UInt8),(108:UInt8),(109:UInt8),(110:UInt8),(111:UInt8),(112:UInt8),(113:UInt8),(114:UInt8),(115:UInt8),(116:UInt8),(117:UInt8),(118:UInt8),(119:UInt8),(120:UInt8),(121:UInt8),(122:UInt8),(48:UInt8),(49:UInt8),(50:UInt8),(51:UInt8),(52:UInt8),(53:UInt8),(54:UInt8),(55:UInt8),(56:UInt8),(57:UInt8)]=([]:List UInt8) then
 (atI s0 0).bind fun x0 =>
 some (Decidable.decide ((0:Int)≤Go.Lib.indexByte [(97:UInt8),(98:UInt8),(99:UInt8),(100:UInt8),(101:UInt8),(102:UInt8),(103:UInt8),(104:UInt8),(105:UInt8),(106:UInt8),(107:UInt8),(108:UInt8),(109:UInt8),(110:UInt8),(111:UInt8),(112:UInt8),(113:UInt8),(114:UInt8),(115:UInt8),(116:UInt8),(117:UInt8),(118:UInt8),(119:UInt8),(120:UInt8),(121:UInt8),(122:UInt8)] (Nat.toUInt8 (Int.toNat (↑(UInt8.toNat x0):Int)))))
 else
 some Bool.false
 else
 some Bool.false
def c89:Ctr:=D1 (.str) (.bool) Zb4
def Q8 (list0:List Yv):Option Int :=
 some (↑(List.length list0):Int)
def c90:Ctr:=D1 (.sl (Je)) (.int .i64) Q8
def Yq (s0:List (List UInt8)) (v0:List UInt8) (v1:Int):Option ((Int×Unit) ⊕ Int) :=
 if v1<(↑(List.length s0):Int) then
 (atI s0 v1).bind fun x0 =>
 if v0=x0 then
 some (.inr v1)
 else
 some (.inl (IntKind.i64.wrap (v1+1),()))
 else
 some (.inr (-1))
def Yp (s0:List (List UInt8)) (v0:List UInt8):Option Int :=
 Zu (fun v=>Yq s0 v0 v.1) ((0:Int),())
def c91:Ctr:=D2 (.sl (.str)) (.str) (.int .i64) Yp
def YO (s0:List (List UInt8)) (v0:List UInt8):Option Bool :=
 (Yp s0 v0).bind fun string0 =>
 some (Decidable.decide (0≤string0))
def c92:Ctr:=D2 (.sl (.str)) (.str) (.bool) YO
def J5 (list0:List (List UInt8)) (v0:Int):Option ((Int×Unit) ⊕ Bool) :=
 if v0<(↑(List.length list0):Int) then
 (atI list0 v0).bind fun x0 =>
 (Zb4 x0).bind fun isName0 =>
 if isName0=true then
 Zz ((0:Int)≤v0) <|
 Zz (v0≤(↑(List.length list0):Int)) <|
 (YO (List.take (Int.toNat v0-Int.toNat 0) (List.drop (Int.toNat 0) list0)) x0).bind fun string0 =>
 if string0=true then
 some (.inr Bool.false)
 else
 some (.inl (IntKind.i64.wrap (v0+1),()))
 else
 some (.inr Bool.false)
 else
 some (.inr Bool.true)
def VG (list0:List (List UInt8)):Option Bool :=
 Zu (fun v=>J5 list0 v.1) ((0:Int),())
def c93:Ctr:=D1 (.sl (.str)) (.bool) VG
def QW (list0:List Yv) (names0:List (List UInt8)) (v0:Int):Option (((List (List UInt8))×Int×Unit) ⊕ Bool) :=
 if v0<(↑(List.length list0):Int) then
 (atI list0 v0).bind fun x0 =>
 Zz ((List.length names0+List.length [Yv.Name x0])*(16:Nat)≤(140737488355328:Nat)) <|
 if v0=IntKind.i64.wrap ((↑(List.length list0):Int)-1) then
 if Yv.Dir x0=2 then
 if Yv.Cap x0=0 then
 if (Yv.Clock x0)=true then
 some (.inr Bool.false)
 else
 some (.inl (names0++[Yv.Name x0],IntKind.i64.wrap (v0+(1:Int)),()))
 else
 some (.inr Bool.false)
 else
 some (.inr Bool.false)
 else
 if Yv.Dir x0=1 then
 (Yo (Yv.Cap x0) 0 500).bind fun within0 =>
 if within0=true then
 some (.inl (names0++[Yv.Name x0],IntKind.i64.wrap (v0+(1:Int)),()))
 else
 some (.inr Bool.false)
 else
 some (.inr Bool.false)
 else
 (Q8 list0).bind fun Pin0 =>
 (Yo Pin0 2 5).bind fun within0 =>
 if within0=true then
 (VG names0).bind fun areNames0 =>
 some (.inr areNames0)
 else
 some (.inr Bool.false)
def Zdj (list0:List Yv):Option Bool :=
 Zu (fun v=>QW list0 v.1 v.2.1) (([]:List (List UInt8)),(0:Int),())
def c94:Ctr:=D1 (.sl (Je)) (.bool) Zdj
def Zdk (kind0:Int):Option Bool :=
 if kind0=4 then
 some Bool.true
 else
 some (Decidable.decide (kind0=5))
def c95:Ctr:=D1 (.int .i64) (.bool) Zdk
def YK (list0:List Int):Option Int :=
 some (↑(List.length list0):Int)
def c96:Ctr:=D1 (.sl (.int .i64)) (.int .i64) YK
def Za7 (n0:Int) (a0:Int) (a1:Int):Option Bool :=
 (Yo n0 a0 a1).bind fun within0 =>
 some !within0
def c97:Ctr:=D3 (.int .i64) (.ptr (.int .i64)) (.ptr (.int .i64)) (.bool) Za7
def Yb (s0:List Int) (f0:Int×Int×Unit) (v0:Int):Option ((Int×Unit) ⊕ Int) :=
 if v0<(↑(List.length s0):Int) then
 (atI s0 v0).bind fun x0 =>
 (Za7 x0 f0.fst f0.snd.fst).bind fun c1_0 =>
 if c1_0=true then
 some (.inr v0)
 else
 some (.inl (IntKind.i64.wrap (v0+1),()))
 else
 some (.inr (-1))
def Z8 (s0:List Int) (f0:Int×Int×Unit):Option Int :=
 Zu (fun v=>Yb s0 f0 v.1) ((0:Int),())
def c98:Ctr:=D2 (.sl (.int .i64)) (.fn 250 (.pair (.ptr (.int .i64)) (.pair (.ptr (.int .i64)) (.unit)))) (.int .i64) Z8
def Yf (s0:List Int) (f0:Int×Int×Unit):Option Bool :=
 (Z8 s0 f0).bind fun c1_0 =>
 some (Decidable.decide (0≤c1_0))
def c99:Ctr:=D2 (.sl (.int .i64)) (.fn 250 (.pair (.ptr (.int .i64)) (.pair (.ptr (.int .i64)) (.unit)))) (.bool) Yf
def Xz (list0:List Int) (low0:Int) (high0:Int):Option Bool :=
 (Yf list0 (low0,high0,())).bind fun c1_0 =>
 some !c1_0
def Zwk:Ctr:=D3 (.sl (.int .i64)) (.int .i64) (.int .i64) (.bool) Xz
def Y7 (list0:List Int) (i0:Int):Option ((Int×Unit) ⊕ Bool) :=
 if i0<(↑(List.length list0):Int) then
 (atI list0 (IntKind.i64.wrap (i0-1))).bind fun x0 =>
 (atI list0 i0).bind fun x1 =>
 if x1≤x0 then
 some (.inr Bool.false)
 else
 some (.inl (IntKind.i64.wrap (i0+1),()))
 else
 some (.inr Bool.true)
def JJ (list0:List Int):Option Bool :=
 Zu (fun v=>Y7 list0 v.1) ((1:Int),())
def Zze:Ctr:=D1 (.sl (.int .i64)) (.bool) JJ
def Zc6 (list0:List Int):Option Bool :=
 (YK list0).bind fun int64_0 =>
 (Yo int64_0 1 4).bind fun within0 =>
 if within0=true then
 (Xz list0 0 100000).bind fun areWithin0 =>
 if areWithin0=true then
 (JJ list0).bind fun isIncreasing0 =>
 some isIncreasing0
 else
 some Bool.false
 else
 some Bool.false
def ZyQ:Ctr:=D1 (.sl (.int .i64)) (.bool) Zc6
def ZdC (t0:Zt):Option Bool :=
 (Zc6 (Zt.Zfx t0)).bind fun isAxis0 =>
 if isAxis0=true then
 (Zc6 (Zt.Loads t0)).bind fun isAxis1 =>
 if isAxis1=true then
 if (↑(List.length (Zt.Values t0)):Int)=IntKind.i64.wrap ((↑(List.length (Zt.Zfx t0)):Int)*(↑(List.length (Zt.Loads t0)):Int)) then
 (Xz (Zt.Values t0) (-1000000) 1000000).bind fun areWithin0 =>
 some areWithin0
 else
 some Bool.false
 else
 some Bool.false
 else
 some Bool.false
def Zyw:Ctr:=D1 (Yh) (.bool) ZdC
def Xb (x0:List Int) (m0:Int) (i0:Int):Option ((Int×Int×Unit) ⊕ Int) :=
 if i0<(↑(List.length x0):Int) then
 (atI x0 i0).bind fun x2 =>
 some (.inl (Min.min m0 x2,IntKind.i64.wrap (i0+1),()))
 else
 some (.inr m0)
def XH (x0:List Int):Option Int :=
 if (↑(List.length x0):Int)<1 then
 none
 else
 (atI x0 0).bind fun x1 =>
 Zu (fun v=>Xb x0 v.1 v.2.1) (x1,(1:Int),())
def Zyc:Ctr:=D1 (.sl (.int .i64)) (.int .i64) XH
def QE (t0:Zt) (a0:Bool):Option Bool :=
 (ZdC t0).bind fun IsTable0 =>
 if IsTable0=true then
 if a0=true then
 (XH (Zt.Values t0)).bind fun int64_0 =>
 some (Decidable.decide (int64_0<0))
 else
 some Bool.false
 else
 some Bool.true
def c105:Ctr:=D2 (Yh) (.ptr (.bool)) (.bool) QE
def ZR (s0:List Zt) (f0:Bool×Unit) (v0:Int):Option ((Int×Unit) ⊕ Int) :=
 if v0<(↑(List.length s0):Int) then
 (atI s0 v0).bind fun x0 =>
 (QE x0 f0.fst).bind fun c1_0 =>
 if c1_0=true then
 some (.inr v0)
 else
 some (.inl (IntKind.i64.wrap (v0+1),()))
 else
 some (.inr (-1))
def ZK (s0:List Zt) (f0:Bool×Unit):Option Int :=
 Zu (fun v=>ZR s0 f0 v.1) ((0:Int),())
def Zyt:Ctr:=D2 (.sl (Yh)) (.fn 324 (.pair (.ptr (.bool)) (.unit))) (.int .i64) ZK
def ZF (s0:List Zt) (f0:Bool×Unit):Option Bool :=
 (ZK s0 f0).bind fun c1_0 =>
 some (Decidable.decide (0≤c1_0))
def c107:Ctr:=D2 (.sl (Yh)) (.fn 324 (.pair (.ptr (.bool)) (.unit))) (.bool) ZF
def Jw (list0:List Zt) (positive0:Bool):Option Bool :=
 if (↑(List.length list0):Int)=2 then
 (ZF list0 (positive0,())).bind fun c1_0 =>
 some !c1_0
 else
 some Bool.false
def ZyJ:Ctr:=D2 (.sl (Yh)) (.bool) (.bool) Jw
def ZaD (p0:Yv):Option Bool :=
 some (Yv.Clock p0)
def c109:Ctr:=D1 (Je) (.bool) ZaD
def ZX (s0:List Yv) (v0:Int):Option ((Int×Unit) ⊕ Int) :=
 if v0<(↑(List.length s0):Int) then
 (atI s0 v0).bind fun x0 =>
 (ZaD x0).bind fun c1_0 =>
 if c1_0=true then
 some (.inr v0)
 else
 some (.inl (IntKind.i64.wrap (v0+1),()))
 else
 some (.inr (-1))
def ZQ (s0:List Yv) (f0:Unit):Option Int :=
 Zu (fun v=>ZX s0 v.1) ((0:Int),())
def Zyq:Ctr:=D2 (.sl (Je)) (.fn 328 (.unit)) (.int .i64) ZQ
def Za6 (c0:Zh):Option Int :=
 (ZQ (Zh.YC c0) ()).bind fun c1_0 =>
 some c1_0
def Zx7:Ctr:=D1 (YL) (.int .i64) Za6
def Ja (c0:Zh):Option Int :=
 (Q8 (Zh.YC c0)).bind fun Pin0 =>
 some (IntKind.i64.wrap (Pin0-1))
def ZwQ:Ctr:=D1 (YL) (.int .i64) Ja
def Vw (c0:Zh) (pin0:Int):Option Bool :=
 (Ja c0).bind fun output0 =>
 (Yo pin0 0 (IntKind.i64.wrap (output0-1))).bind fun within0 =>
 some within0
def ZxV:Ctr:=D2 (YL) (.int .i64) (.bool) Vw
def Za3 (a0:Zh) (a1:ZM):Option Bool :=
 (Zdk (ZM.Kind a1)).bind fun isCheck0 =>
 if isCheck0=true then
 if ZM.ZcL a1=0 then
 if (↑(List.length (ZM.Zhj a1)):Int)=0 then
 (Jw (ZM.Delay a1) Bool.false).bind fun areTables0 =>
 if areTables0=true then
 (Za6 a0).bind fun clock0 =>
 if ZM.From a1=clock0 then
 if 0≤ZM.From a1 then
 (Vw a0 (ZM.To a1)).bind fun isInput0 =>
 if isInput0=true then
 some (!Decidable.decide (ZM.To a1=ZM.From a1))
 else
 some Bool.false
 else
 some Bool.false
 else
 some Bool.false
 else
 some Bool.false
 else
 some Bool.false
 else
 some Bool.false
 else
 (Jw (ZM.Delay a1) Bool.true).bind fun areTables0 =>
 if areTables0=true then
 (Jw (ZM.Zhj a1) Bool.true).bind fun areTables1 =>
 if areTables1=true then
 (Ja a0).bind fun output0 =>
 if ZM.To a1=output0 then
 (Vw a0 (ZM.From a1)).bind fun isInput0 =>
 if isInput0=true then
 if ZM.Kind a1=1 then
 (atI (Zh.YC a0) (ZM.From a1)).bind fun x0 =>
 if (Yv.Clock x0)=true then
 some Bool.false
 else
 (Yo (ZM.ZcL a1) 1 3).bind fun within0 =>
 some within0
 else
 if ZM.Kind a1=2 then
 if ZM.Kind a1=2 then
 (atI (Zh.YC a0) (ZM.From a1)).bind fun x0 =>
 if (Yv.Clock x0)=true then
 some (Decidable.decide (ZM.ZcL a1=0))
 else
 some Bool.false
 else
 some Bool.false
 else
 if ZM.Kind a1=3 then
 (atI (Zh.YC a0) (ZM.From a1)).bind fun x0 =>
 if (Yv.Clock x0)=true then
 some (Decidable.decide (ZM.ZcL a1=0))
 else
 some Bool.false
 else
 some Bool.false
 else
 some Bool.false
 else
 some Bool.false
 else
 some Bool.false
 else
 some Bool.false
def Zzf:Ctr:=D2 (YL) (ZaK) (.bool) Za3
def Xe (o0:ZM) (a0:ZM):Option Bool :=
 if ZM.Kind o0=ZM.Kind a0 then
 if ZM.From o0=ZM.From a0 then
 some (Decidable.decide (ZM.To o0=ZM.To a0))
 else
 some Bool.false
 else
 some Bool.false
def ZyL:Ctr:=D2 (ZaK) (.ptr (ZaK)) (.bool) Xe
def ZT (s0:List ZM) (f0:ZM×Unit) (v0:Int):Option ((Int×Unit) ⊕ Int) :=
 if v0<(↑(List.length s0):Int) then
 (atI s0 v0).bind fun x0 =>
 (Xe x0 f0.fst).bind fun c1_0 =>
 if c1_0=true then
 some (.inr v0)
 else
 some (.inl (IntKind.i64.wrap (v0+1),()))
 else
 some (.inr (-1))
def ZL (s0:List ZM) (f0:ZM×Unit):Option Int :=
 Zu (fun v=>ZT s0 f0 v.1) ((0:Int),())
def c116:Ctr:=D2 (.sl (ZaK)) (.fn 302 (.pair (.ptr (ZaK)) (.unit))) (.int .i64) ZL
def ZG (s0:List ZM) (f0:ZM×Unit):Option Bool :=
 (ZL s0 f0).bind fun c1_0 =>
 some (Decidable.decide (0≤c1_0))
def c117:Ctr:=D2 (.sl (ZaK)) (.fn 302 (.pair (.ptr (ZaK)) (.unit))) (.bool) ZG
def QV (c0:Zh) (v0:Int):Option ((Int×Unit) ⊕ Bool) :=
 if v0<(↑(List.length (Zh.Zbc c0)):Int) then
 (atI (Zh.Zbc c0) v0).bind fun x0 =>
 (Za3 c0 x0).bind fun isArc0 =>
 if isArc0=true then
 Zz ((0:Int)≤v0) <|
 Zz (v0≤(↑(List.length (Zh.Zbc c0)):Int)) <|
 (ZG (List.take (Int.toNat v0-Int.toNat 0) (List.drop (Int.toNat 0) (Zh.Zbc c0))) (x0,())).bind fun c1_0 =>
 if c1_0=true then
 some (.inr Bool.false)
 else
 some (.inl (IntKind.i64.wrap (v0+1),()))
 else
 some (.inr Bool.false)
 else
 some (.inr (Decidable.decide ((↑(List.length (Zh.Zbc c0)):Int)≤8)))
def JD (c0:Zh):Option Bool :=
 Zu (fun v=>QV c0 v.1) ((0:Int),())
def Zy9:Ctr:=D1 (YL) (.bool) JD
def Zao (a0:ZM) (a1:Int):Option Bool :=
 some (Decidable.decide (ZM.Kind a0=a1))
def c119:Ctr:=D2 (ZaK) (.ptr (.int .i64)) (.bool) Zao
def Z4 (s0:List ZM) (f0:Int×Unit) (v0:Int):Option ((Int×Unit) ⊕ Int) :=
 if v0<(↑(List.length s0):Int) then
 (atI s0 v0).bind fun x0 =>
 (Zao x0 f0.fst).bind fun c1_0 =>
 if c1_0=true then
 some (.inr v0)
 else
 some (.inl (IntKind.i64.wrap (v0+1),()))
 else
 some (.inr (-1))
def ZW (s0:List ZM) (f0:Int×Unit):Option Int :=
 Zu (fun v=>Z4 s0 f0 v.1) ((0:Int),())
def Zzo:Ctr:=D2 (.sl (ZaK)) (.fn 318 (.pair (.ptr (.int .i64)) (.unit))) (.int .i64) ZW
def ZO (s0:List ZM) (f0:Int×Unit):Option Bool :=
 (ZW s0 f0).bind fun c1_0 =>
 some (Decidable.decide (0≤c1_0))
def Zyv:Ctr:=D2 (.sl (ZaK)) (.fn 318 (.pair (.ptr (.int .i64)) (.unit))) (.bool) ZO
def QY (c0:Zh) (kind0:Int):Option Bool :=
 (ZO (Zh.Zbc c0) (kind0,())).bind fun c1_0 =>
 some c1_0
def Zyg:Ctr:=D2 (YL) (.int .i64) (.bool) QY
def Y3 (a0:Zh) (v0:Int) (v1:Int):Option ((Int×Int×Unit) ⊕ Bool) :=
 if v1<(↑(List.length (Zh.YC a0)):Int) then
 (atI (Zh.YC a0) v1).bind fun x0 =>
 if (Yv.Clock x0)=true then
 some (.inl (IntKind.i64.wrap (v0+1),IntKind.i64.wrap (v1+1),()))
 else
 some (.inl (v0,IntKind.i64.wrap (v1+1),()))
 else
 if Zh.Kind a0=1 then
 if v0=0 then
 (Ja a0).bind fun output0 =>
 Zz ((0:Int)≤output0) <|
 if (↑(List.length (Zh.Truth a0)):Int)=IntKind.i64.wrap (1*2 ^ Min.min (Int.toNat output0) (IntKind.bits IntKind.i64)) then
 (Xz (Zh.Truth a0) 0 1).bind fun areWithin0 =>
 some (.inr areWithin0)
 else
 some (.inr Bool.false)
 else
 some (.inr Bool.false)
 else
 if Zh.Kind a0=2 then
 if v0=1 then
 if (↑(List.length (Zh.Truth a0)):Int)=0 then
 (QY a0 1).bind fun has0 =>
 if has0=true then
 some (.inr Bool.false)
 else
 (QY a0 2).bind fun has1 =>
 (QY a0 3).bind fun has2 =>
 some (.inr (!has1 == has2))
 else
 some (.inr Bool.false)
 else
 some (.inr Bool.false)
 else
 if Zh.Kind a0=3 then
 if v0=1 then
 if (↑(List.length (Zh.Truth a0)):Int)=0 then
 (QY a0 1).bind fun has0 =>
 if has0=true then
 (QY a0 2).bind fun has1 =>
 if has1=true then
 (QY a0 3).bind fun has2 =>
 some (.inr !has2)
 else
 some (.inr Bool.false)
 else
 some (.inr Bool.false)
 else
 some (.inr Bool.false)
 else
 some (.inr Bool.false)
 else
 some (.inr Bool.false)
def V7 (a0:Zh):Option Bool :=
 Zu (fun v=>Y3 a0 v.1 v.2.1) ((0:Int),(0:Int),())
def Zy1:Ctr:=D1 (YL) (.bool) V7
def ZeF (c0:Zh):Option Bool :=
 (Zb4 (Zh.Name c0)).bind fun isName0 =>
 if isName0=true then
 (Zdj (Zh.YC c0)).bind fun arePins0 =>
 if arePins0=true then
 (JD c0).bind fun areArcs0 =>
 if areArcs0=true then
 (Yo (Zh.Zsj c0) 0 100000).bind fun within0 =>
 if within0=true then
 (Yo (Zh.ZgT c0) 0 100000).bind fun within1 =>
 if within1=true then
 (V7 c0).bind fun isOfKind0 =>
 some isOfKind0
 else
 some Bool.false
 else
 some Bool.false
 else
 some Bool.false
 else
 some Bool.false
 else
 some Bool.false
def c124:Ctr:=D1 (YL) (.bool) ZeF
def XT (l0:Zl) (names0:List (List UInt8)) (v0:Int):Option (((List (List UInt8))×Int×Unit) ⊕ Bool) :=
 if v0<(↑(List.length (Zl.Cells l0)):Int) then
 (atI (Zl.Cells l0) v0).bind fun x0 =>
 (ZeF x0).bind fun IsCell0 =>
 if IsCell0=true then
 Zz ((List.length names0+List.length [Zh.Name x0])*(16:Nat)≤(140737488355328:Nat)) <|
 some (.inl (names0++[Zh.Name x0],IntKind.i64.wrap (v0+(1:Int)),()))
 else
 some (.inr Bool.false)
 else
 if (↑(List.length (Zl.Cells l0)):Int)≤8 then
 (VG names0).bind fun areNames0 =>
 some (.inr areNames0)
 else
 some (.inr Bool.false)
def ZbS (l0:Zl):Option Bool :=
 Zu (fun v=>XT l0 v.1 v.2.1) (([]:List (List UInt8)),(0:Int),())
def ZyK:Ctr:=D1 (Z6) (.bool) ZbS
def XI (d0:Za) (instances0:List (List UInt8)) (ports0:List (List UInt8)) (v1:Int):Option (((List (List UInt8))×Int×Unit) ⊕ (((List (List UInt8))×Int×Unit) ⊕ Bool)) :=
 if v1<(↑(List.length (Za.Z0 d0)):Int) then
 (atI (Za.Z0 d0) v1).bind fun x0 =>
 Zz ((List.length ports0+List.length [ZI.Name x0])*(16:Nat)≤(140737488355328:Nat)) <|
 some (.inl (ports0++[ZI.Name x0],IntKind.i64.wrap (v1+(1:Int)),()))
 else
 if (↑(List.length instances0):Int)≤14 then
 if (↑(List.length (Za.ZP d0)):Int)≤30 then
 if (↑(List.length ports0):Int)≤8 then
 (VG instances0).bind fun areNames0 =>
 if areNames0=true then
 (VG (Za.ZP d0)).bind fun areNames1 =>
 if areNames1=true then
 (VG ports0).bind fun areNames2 =>
 some (.inr (.inr areNames2))
 else
 some (.inr (.inr Bool.false))
 else
 some (.inr (.inr Bool.false))
 else
 some (.inr (.inr Bool.false))
 else
 some (.inr (.inr Bool.false))
 else
 some (.inr (.inr Bool.false))
def XK (d0:Za) (instances0:List (List UInt8)) (v0:Int):Option (((List (List UInt8))×Int×Unit) ⊕ Bool) :=
 if v0<(↑(List.length (Za.Instances d0)):Int) then
 (atI (Za.Instances d0) v0).bind fun x0 =>
 Zz ((List.length instances0+List.length [Zd.Name x0])*(16:Nat)≤(140737488355328:Nat)) <|
 some (.inl (instances0++[Zd.Name x0],IntKind.i64.wrap (v0+(1:Int)),()))
 else
 Zu (fun v=>XI d0 instances0 v.1 v.2.1) (([]:List (List UInt8)),(0:Int),())
def Va (d0:Za):Option Bool :=
 Zu (fun v=>XK d0 v.1 v.2.1) (([]:List (List UInt8)),(0:Int),())
def Zzp:Ctr:=D1 (Z9) (.bool) Va
def Y6 (list0:List Zh):Option Int :=
 some (↑(List.length list0):Int)
def c127:Ctr:=D1 (.sl (YL)) (.int .i64) Y6
def YR (list0:List (List UInt8)):Option Int :=
 some (↑(List.length list0):Int)
def Zwf:Ctr:=D1 (.sl (.str)) (.int .i64) YR
def YE (d0:Za) (net0:Int):Option Bool :=
 (YR (Za.ZP d0)).bind fun string0 =>
 (Yo net0 0 (IntKind.i64.wrap (string0-1))).bind fun within0 =>
 some within0
def ZwC:Ctr:=D2 (Z9) (.int .i64) (.bool) YE
def YV (net0:Int) (a0:Za):Option Bool :=
 (YE a0 net0).bind fun isNet0 =>
 some !isNet0
def c130:Ctr:=D2 (.int .i64) (.ptr (Z9)) (.bool) YV
def ZV (s0:List Int) (f0:Za×Unit) (v0:Int):Option ((Int×Unit) ⊕ Int) :=
 if v0<(↑(List.length s0):Int) then
 (atI s0 v0).bind fun x0 =>
 (YV x0 f0.fst).bind fun c1_0 =>
 if c1_0=true then
 some (.inr v0)
 else
 some (.inl (IntKind.i64.wrap (v0+1),()))
 else
 some (.inr (-1))
def ZN (s0:List Int) (f0:Za×Unit):Option Int :=
 Zu (fun v=>ZV s0 f0 v.1) ((0:Int),())
def c131:Ctr:=D2 (.sl (.int .i64)) (.fn 248 (.pair (.ptr (Z9)) (.unit))) (.int .i64) ZN
def ZJ (s0:List Int) (f0:Za×Unit):Option Bool :=
 (ZN s0 f0).bind fun c1_0 =>
 some (Decidable.decide (0≤c1_0))
def ZxP:Ctr:=D2 (.sl (.int .i64)) (.fn 248 (.pair (.ptr (Z9)) (.unit))) (.bool) ZJ
def X4 (d0:Za) (l0:Zl) (x0:Zd):Option Bool :=
 (Y6 (Zl.Cells l0)).bind fun Cell0 =>
 (Yo (Zd.Cell x0) 0 (IntKind.i64.wrap (Cell0-1))).bind fun within0 =>
 if within0=true then
 (atI (Zl.Cells l0) (Zd.Cell x0)).bind fun x1 =>
 if (↑(List.length (Zd.ZP x0)):Int)=(↑(List.length (Zh.YC x1)):Int) then
 (ZJ (Zd.ZP x0) (d0,())).bind fun c1_0 =>
 some !c1_0
 else
 some Bool.false
 else
 some Bool.false
def Zyn:Ctr:=D3 (Z9) (Z6) (Zw) (.bool) X4
def Zaq (n0:Int):Option Bool :=
 some (!Decidable.decide (n0=1))
def Zzs:Ctr:=D1 (.int .i64) (.bool) Zaq
def Yi (s0:List Int) (v0:Int):Option ((Int×Unit) ⊕ Int) :=
 if v0<(↑(List.length s0):Int) then
 (atI s0 v0).bind fun x0 =>
 (Zaq x0).bind fun c1_0 =>
 if c1_0=true then
 some (.inr v0)
 else
 some (.inl (IntKind.i64.wrap (v0+1),()))
 else
 some (.inr (-1))
def Yg (s0:List Int) (f0:Unit):Option Int :=
 Zu (fun v=>Yi s0 v.1) ((0:Int),())
def Zyf:Ctr:=D2 (.sl (.int .i64)) (.fn 208 (.unit)) (.int .i64) Yg
def Yc (s0:List Int) (f0:Unit):Option Bool :=
 (Yg s0 ()).bind fun c1_0 =>
 some (Decidable.decide (0≤c1_0))
def ZyI:Ctr:=D2 (.sl (.int .i64)) (.fn 208 (.unit)) (.bool) Yc
def Qo (a1:Za) (v1:Int) (l1:List Int):Option ((Int×(List Int)×Unit) ⊕ ((Int×(List Int)×Unit) ⊕ Bool)) :=
 if v1<(↑(List.length (Za.Z0 a1)):Int) then
 (atI (Za.Z0 a1) v1).bind fun x0 =>
 if ZI.Dir x0=1 then
 (YE a1 (ZI.Net x0)).bind fun isNet0 =>
 if isNet0=true then
 if ZI.Dir x0=1 then
 (atI l1 (ZI.Net x0)).bind fun x1 =>
 some (.inl (IntKind.i64.wrap (v1+1),List.set l1 (Int.toNat (ZI.Net x0)) (IntKind.i64.wrap (x1+1)),()))
 else
 some (.inl (IntKind.i64.wrap (v1+1),l1,()))
 else
 some (.inr (.inr Bool.false))
 else
 if ZI.Dir x0=2 then
 (YE a1 (ZI.Net x0)).bind fun isNet0 =>
 if isNet0=true then
 if ZI.Dir x0=1 then
 (atI l1 (ZI.Net x0)).bind fun x1 =>
 some (.inl (IntKind.i64.wrap (v1+1),List.set l1 (Int.toNat (ZI.Net x0)) (IntKind.i64.wrap (x1+1)),()))
 else
 some (.inl (IntKind.i64.wrap (v1+1),l1,()))
 else
 some (.inr (.inr Bool.false))
 else
 some (.inr (.inr Bool.false))
 else
 (Yc l1 ()).bind fun c1_0 =>
 some (.inr (.inr !c1_0))
def VA (a0:Zl) (a1:Za) (v0:Int) (l0:List Int):Option ((Int×(List Int)×Unit) ⊕ Bool) :=
 if v0<(↑(List.length (Za.Instances a1)):Int) then
 (atI (Za.Instances a1) v0).bind fun x0 =>
 (X4 a1 a0 x0).bind fun isInstance0 =>
 if isInstance0=true then
 (atI (Zd.ZP x0) (IntKind.i64.wrap ((↑(List.length (Zd.ZP x0)):Int)-1))).bind fun x1 =>
 (atI l0 x1).bind fun x2 =>
 some (.inl (IntKind.i64.wrap (v0+1),List.set l0 (Int.toNat x1) (IntKind.i64.wrap (x2+1)),()))
 else
 some (.inr Bool.false)
 else
 Zu (fun v=>Qo a1 v.1 v.2.1) ((0:Int),l0,())
def Zcz (a0:Zl) (a1:Za):Option Bool :=
 (ZbS a0).bind fun IsLibrary0 =>
 if IsLibrary0=true then
 (Va a1).bind fun hasNames0 =>
 if hasNames0=true then
 Zz ((0:Int)≤(↑(List.length (Za.ZP a1)):Int)) <|
 Zz ((↑(List.length (Za.ZP a1)):Int)≤(↑(List.length (Za.ZP a1)):Int)) <|
 Zz ((↑(List.length (Za.ZP a1)):Int)≤(4611686018427387904:Int)) <|
 Zz ((↑(8:Nat):Int)*(↑(List.length (Za.ZP a1)):Int)≤(281474976710656:Int)) <|
 Zu (fun v=>VA a0 a1 v.1 v.2.1) ((0:Int),List.replicate (Int.toNat (↑(List.length (Za.ZP a1)):Int)) (0:Int),())
 else
 some Bool.false
 else
 some Bool.false
def ZxS:Ctr:=D2 (Z6) (Z9) (.bool) Zcz
def QD (v0:Int) (x0:Zd) (list1:List Yd) (v1:Int):Option (((List Yd)×Int×Unit) ⊕ (((List Yd)×Int×Unit) ⊕ List Yd)) :=
 if v1<(↑(List.length (Zd.ZP x0)):Int) then
 (atI (Zd.ZP x0) v1).bind fun x1 =>
 Zz ((List.length list1+List.length [(v0,v1,x1,Decidable.decide (v1=IntKind.i64.wrap ((↑(List.length (Zd.ZP x0)):Int)-(1:Int))),())])*(32:Nat)≤(140737488355328:Nat)) <|
 some (.inl (list1++[(v0,v1,x1,Decidable.decide (v1=IntKind.i64.wrap ((↑(List.length (Zd.ZP x0)):Int)-(1:Int))),())],IntKind.i64.wrap (v1+(1:Int)),()))
 else
 some (.inr (.inl (list1,IntKind.i64.wrap (v0+1),())))
def Qw (d0:Za) (list1:List Yd) (v1:Int):Option (((List Yd)×Int×Unit) ⊕ (((List Yd)×Int×Unit) ⊕ List Yd)) :=
 if v1<(↑(List.length (Za.Z0 d0)):Int) then
 (atI (Za.Z0 d0) v1).bind fun x0 =>
 Zz ((List.length list1+List.length [((-1:Int),v1,ZI.Net x0,Decidable.decide (ZI.Dir x0=(1:Int)),())])*(32:Nat)≤(140737488355328:Nat)) <|
 some (.inl (list1++[((-1:Int),v1,ZI.Net x0,Decidable.decide (ZI.Dir x0=(1:Int)),())],IntKind.i64.wrap (v1+(1:Int)),()))
 else
 some (.inr (.inr list1))
def QA (d0:Za) (list0:List Yd) (v0:Int):Option (((List Yd)×Int×Unit) ⊕ List Yd) :=
 if v0<(↑(List.length (Za.Instances d0)):Int) then
 (atI (Za.Instances d0) v0).bind fun x0 =>
 Zu (fun v=>QD v0 x0 v.1 v.2.1) (list0,(0:Int),())
 else
 Zu (fun v=>Qw d0 v.1 v.2.1) (list0,(0:Int),())
def Yj (d0:Za):Option (List Yd) :=
 Zu (fun v=>QA d0 v.1 v.2.1) (([]:List Yd),(0:Int),())
def c138:Ctr:=⟨[.dat (Z9)],[.own (.ol 173 (.flat (Zhx)))],fun a K=>splitK a fun d0 a=>Y4 (Yj d0) fun r=>K (r,()) ()⟩
def Vq (w0:Zn) (v0:Int):Option ((Int×Unit) ⊕ Bool) :=
 if v0<(↑(List.length (Zn.Parent w0)):Int) then
 (atI (Zn.Parent w0) v0).bind fun x0 =>
 if v0=0 then
 if x0=(-1) then
 (atI (Zn.Res w0) 0).bind fun x1 =>
 if x1=0 then
 if 0<v0 then
 (Yo x0 0 (IntKind.i64.wrap (v0-1))).bind fun within0 =>
 if within0=true then
 some (.inl (IntKind.i64.wrap (v0+1),()))
 else
 some (.inr Bool.false)
 else
 some (.inl (IntKind.i64.wrap (v0+1),()))
 else
 some (.inr Bool.false)
 else
 some (.inr Bool.false)
 else
 if 0<v0 then
 (Yo x0 0 (IntKind.i64.wrap (v0-1))).bind fun within0 =>
 if within0=true then
 some (.inl (IntKind.i64.wrap (v0+1),()))
 else
 some (.inr Bool.false)
 else
 some (.inl (IntKind.i64.wrap (v0+1),()))
 else
 some (.inr Bool.true)
def Zak (w0:Zn):Option Bool :=
 Zu (fun v=>Vq w0 v.1) ((0:Int),())
def c139:Ctr:=D1 (YP) (.bool) Zak
def Zde (w0:Zn) (sinks0:Int):Option Bool :=
 (YK (Zn.Parent w0)).bind fun int64_0 =>
 (Yo int64_0 1 8).bind fun within0 =>
 if within0=true then
 (YK (Zn.Res w0)).bind fun int64_1 =>
 if int64_1=int64_0 then
 (YK (Zn.Cap w0)).bind fun int64_2 =>
 if int64_2=int64_0 then
 (Zak w0).bind fun isTree0 =>
 if isTree0=true then
 (Xz (Zn.Res w0) 0 1000).bind fun areWithin0 =>
 if areWithin0=true then
 (Xz (Zn.Cap w0) 0 500).bind fun areWithin1 =>
 if areWithin1=true then
 (YK (Zn.ZfM w0)).bind fun int64_3 =>
 if int64_3=sinks0 then
 (Xz (Zn.ZfM w0) 0 (IntKind.i64.wrap (int64_0-1))).bind fun areWithin2 =>
 some areWithin2
 else
 some Bool.false
 else
 some Bool.false
 else
 some Bool.false
 else
 some Bool.false
 else
 some Bool.false
 else
 some Bool.false
 else
 some Bool.false
def Zxi:Ctr:=D2 (YP) (.int .i64) (.bool) Zde
def Zaz (b0:Zb) (l0:List Int) (v1:Int):Option ((Int×Unit) ⊕ ((Int×(List Int)×Unit) ⊕ Bool)) :=
 if v1<(↑(List.length (Zb.Zy b0)):Int) then
 (atI (Zb.Zy b0) v1).bind fun x0 =>
 (atI l0 v1).bind fun x1 =>
 (Zde x0 x1).bind fun IsWire0 =>
 if IsWire0=true then
 some (.inl (IntKind.i64.wrap (v1+1),()))
 else
 some (.inr (.inr Bool.false))
 else
 some (.inr (.inr Bool.true))
def V4 (b0:Zb) (places0:List Yd) (v0:Int) (l0:List Int):Option ((Int×(List Int)×Unit) ⊕ Bool) :=
 if v0<(↑(List.length places0):Int) then
 (atI places0 v0).bind fun x0 =>
 if (Yd.drives x0)=true then
 some (.inl (IntKind.i64.wrap (v0+1),l0,()))
 else
 (atI l0 (Yd.net x0)).bind fun x1 =>
 some (.inl (IntKind.i64.wrap (v0+1),List.set l0 (Int.toNat (Yd.net x0)) (IntKind.i64.wrap (x1+1)),()))
 else
 Zu (fun v=>Zaz b0 l0 v.1) ((0:Int),())
def ZdD (b0:Zb):Option Bool :=
 (Zcz (Zb.Library b0) (Zb.Design b0)).bind fun IsDesign0 =>
 if IsDesign0=true then
 if (↑(List.length (Zb.Zy b0)):Int)=(↑(List.length (Za.ZP (Zb.Design b0))):Int) then
 Zz ((0:Int)≤(↑(List.length (Zb.Zy b0)):Int)) <|
 Zz ((↑(List.length (Zb.Zy b0)):Int)≤(↑(List.length (Zb.Zy b0)):Int)) <|
 Zz ((↑(List.length (Zb.Zy b0)):Int)≤(4611686018427387904:Int)) <|
 Zz ((↑(8:Nat):Int)*(↑(List.length (Zb.Zy b0)):Int)≤(281474976710656:Int)) <|
 (Yj (Zb.Design b0)).bind fun places0 =>
 Zu (fun v=>V4 b0 places0 v.1 v.2.1) ((0:Int),List.replicate (Int.toNat (↑(List.length (Zb.Zy b0)):Int)) (0:Int),())
 else
 some Bool.false
 else
 some Bool.false
def c141:Ctr:=D1 (Yt) (.bool) ZdD
def YZ (s0:List Yv):Option (List Yv) :=
 Zz ((List.length (([]:List (List UInt8×Int×Int×Bool×Unit)))+List.length s0)*(40:Nat)≤(140737488355328:Nat)) <|
 some (([]:List (List UInt8×Int×Int×Bool×Unit))++s0)
def Zy3:Ctr:=⟨[.dat (.sl (Je))],[.own (.ol 260 (.flat (Je)))],fun a K=>splitK a fun s0 a=>Y4 (YZ s0) fun r=>K (r,()) ()⟩
def Z7 (s0:List Int):Option (List Int) :=
 Zz ((List.length (([]:List Int))+List.length s0)*(8:Nat)≤(140737488355328:Nat)) <|
 some (([]:List Int)++s0)
def c143:Ctr:=⟨[.dat (.sl (.int .i64))],[.own (.ol 2 (.flat (.int .i64)))],fun a K=>splitK a fun s0 a=>Y4 (Z7 s0) fun r=>K (r,()) ()⟩
def Y2 (s0:List ZM):Option (List ZM) :=
 Zz ((List.length (([]:List (Int×Int×Int×Int×List Zt×List Zt×Unit)))+List.length s0)*(80:Nat)≤(140737488355328:Nat)) <|
 some (([]:List (Int×Int×Int×Int×List Zt×List Zt×Unit))++s0)
def Zyz:Ctr:=⟨[.dat (.sl (ZaK))],[.own (.ol 235 (.flat (ZaK)))],fun a K=>splitK a fun s0 a=>Y4 (Y2 s0) fun r=>K (r,()) ()⟩
def X3 (list0:List Zt) (out0:List Zt) (v0:Int):Option (((List Zt)×Int×Unit) ⊕ List Zt) :=
 if v0<(↑(List.length list0):Int) then
 (atI list0 v0).bind fun x0 =>
 (Z7 (Zt.Zfx x0)).bind fun int64_0 =>
 (Z7 (Zt.Loads x0)).bind fun int64_1 =>
 (Z7 (Zt.Values x0)).bind fun int64_2 =>
 Zz ((List.length out0+List.length [(int64_0,int64_1,int64_2,())])*(72:Nat)≤(140737488355328:Nat)) <|
 some (.inl (out0++[(int64_0,int64_1,int64_2,())],IntKind.i64.wrap (v0+(1:Int)),()))
 else
 some (.inr out0)
def Jc (list0:List Zt):Option (List Zt) :=
 Zu (fun v=>X3 list0 v.1 v.2.1) (([]:List Zt),(0:Int),())
def c145:Ctr:=⟨[.dat (.sl (Yh))],[.own (.ol 290 (ZeY))],fun a K=>splitK a fun list0 a=>Y4 (Jc list0) fun r=>K (r,()) ()⟩
def QT (v0:Int) (c0:List Zh) (x0:Zh) (Pin0:List Yv) (int64_0:List Int) (Arc0:List ZM) (v1:Int) (l1:List ZM×Int):Option ((Int×(List ZM×Int)×Unit) ⊕ ((Int×(List Zh)×Unit) ⊕ Zl)) :=
 if v1<(↑(List.length Arc0):Int) then
 (atI l1.fst v1).bind fun x1 =>
 Zz (l1.snd≤v1) <|
 (Jc (ZM.Delay x1)).bind fun cloneTables0 =>
 (Jc (ZM.Zhj x1)).bind fun cloneTables1 =>
 Zz (v1=l1.snd) <|
 (atI l1.fst l1.snd).bind fun x2 =>
 some (.inl (IntKind.i64.wrap (v1+1),(List.set l1.fst (Int.toNat l1.snd) (ZM.Kind x2,ZM.From x2,ZM.To x2,ZM.ZcL x2,cloneTables0,cloneTables1,()),l1.snd+1),()))
 else
 Zz (l1.snd=(↑(List.length l1.fst):Int)) <|
 Zz ((List.length c0+List.length [(Zh.Name x0,Zh.Kind x0,Pin0,l1.fst,int64_0,x0.snd.snd.snd.snd.snd)])*(112:Nat)≤(140737488355328:Nat)) <|
 some (.inr (.inl (IntKind.i64.wrap (v0+(1:Int)),c0++[(Zh.Name x0,Zh.Kind x0,Pin0,l1.fst,int64_0,x0.snd.snd.snd.snd.snd)],())))
def XB (l0:Zl) (v0:Int) (c0:List Zh):Option ((Int×(List Zh)×Unit) ⊕ Zl) :=
 if v0<(↑(List.length (Zl.Cells l0)):Int) then
 (atI (Zl.Cells l0) v0).bind fun x0 =>
 (YZ (Zh.YC x0)).bind fun Pin0 =>
 (Z7 (Zh.Truth x0)).bind fun int64_0 =>
 (Y2 (Zh.Zbc x0)).bind fun Arc0 =>
 Zu (fun v=>QT v0 c0 x0 Pin0 int64_0 Arc0 v.1 v.2.1) ((0:Int),(Arc0,(0:Int)),())
 else
 some (.inr (c0,()))
def JM (l0:Zl):Option Zl :=
 Zu (fun v=>XB l0 v.1 v.2.1) ((0:Int),([]:List Zh),())
def c146:Ctr:=⟨[.dat (Z6)],[.own (ZjO)],fun a K=>splitK a fun l0 a=>Y4 (JM l0) fun r=>K (r,()) ()⟩
def Yw (s0:List Zd):Option (List Zd) :=
 Zz ((List.length (([]:List (List UInt8×Int×List Int×Unit)))+List.length s0)*(48:Nat)≤(140737488355328:Nat)) <|
 some (([]:List (List UInt8×Int×List Int×Unit))++s0)
def Zx4:Ctr:=⟨[.dat (.sl (Zw))],[.own (.ol 169 (.flat (Zw)))],fun a K=>splitK a fun s0 a=>Y4 (Yw s0) fun r=>K (r,()) ()⟩
def Xv (s0:List (List UInt8)):Option (List (List UInt8)) :=
 Zz ((List.length (([]:List (List UInt8)))+List.length s0)*(16:Nat)≤(140737488355328:Nat)) <|
 some (([]:List (List UInt8))++s0)
def c148:Ctr:=⟨[.dat (.sl (.str))],[.own (.ol 9 (.flat (.str)))],fun a K=>splitK a fun s0 a=>Y4 (Xv s0) fun r=>K (r,()) ()⟩
def YU (s0:List ZI):Option (List ZI) :=
 Zz ((List.length (([]:List (List UInt8×Int×Int×Unit)))+List.length s0)*(32:Nat)≤(140737488355328:Nat)) <|
 some (([]:List (List UInt8×Int×Int×Unit))++s0)
def Zyl:Ctr:=⟨[.dat (.sl (Xa))],[.own (.ol 201 (.flat (Xa)))],fun a K=>splitK a fun s0 a=>Y4 (YU s0) fun r=>K (r,()) ()⟩
def QZ (Instance0:List Zd) (string0:List (List UInt8)) (Port0:List ZI) (v0:Int) (l0:List Zd×Int):Option ((Int×(List Zd×Int)×Unit) ⊕ Za) :=
 if v0<(↑(List.length Instance0):Int) then
 (atI l0.fst v0).bind fun x0 =>
 Zz (l0.snd≤v0) <|
 (Z7 (Zd.ZP x0)).bind fun int64_0 =>
 Zz (v0=l0.snd) <|
 (atI l0.fst l0.snd).bind fun x1 =>
 some (.inl (IntKind.i64.wrap (v0+1),(List.set l0.fst (Int.toNat l0.snd) (Zd.Name x1,Zd.Cell x1,int64_0,()),l0.snd+1),()))
 else
 Zz (l0.snd=(↑(List.length l0.fst):Int)) <|
 some (.inr (l0.fst,string0,Port0,()))
def JN (d0:Za):Option Za :=
 (Yw (Za.Instances d0)).bind fun Instance0 =>
 (Xv (Za.ZP d0)).bind fun string0 =>
 (YU (Za.Z0 d0)).bind fun Port0 =>
 Zu (fun v=>QZ Instance0 string0 Port0 v.1 v.2.1) ((0:Int),(Instance0,(0:Int)),())
def Zzt:Ctr:=⟨[.dat (Z9)],[.own (Zkv)],fun a K=>splitK a fun d0 a=>Y4 (JN d0) fun r=>K (r,()) ()⟩
def VU (w0:Zn):Option Zn :=
 (Z7 (Zn.Parent w0)).bind fun int64_0 =>
 (Z7 (Zn.Res w0)).bind fun int64_1 =>
 (Z7 (Zn.Cap w0)).bind fun int64_2 =>
 (Z7 (Zn.ZfM w0)).bind fun int64_3 =>
 some (int64_0,int64_1,int64_2,int64_3,())
def ZwS:Ctr:=⟨[.dat (YP)],[.own (Zg0)],fun a K=>splitK a fun w0 a=>Y4 (VU w0) fun r=>K (r,()) ()⟩
def XW (b0:Zb) (cloneLibrary0:Zl) (clone0:Za) (v0:Int) (c0:List Zn):Option ((Int×(List Zn)×Unit) ⊕ Zb) :=
 if v0<(↑(List.length (Zb.Zy b0)):Int) then
 (atI (Zb.Zy b0) v0).bind fun x0 =>
 (VU x0).bind fun clone1 =>
 Zz ((List.length c0+List.length [clone1])*(96:Nat)≤(140737488355328:Nat)) <|
 some (.inl (IntKind.i64.wrap (v0+(1:Int)),c0++[clone1],()))
 else
 some (.inr (cloneLibrary0,clone0,c0,()))
def Vi (b0:Zb):Option Zb :=
 (JM (Zb.Library b0)).bind fun cloneLibrary0 =>
 (JN (Zb.Design b0)).bind fun clone0 =>
 Zu (fun v=>XW b0 cloneLibrary0 clone0 v.1 v.2.1) ((0:Int),([]:List Zn),())
def c152:Ctr:=⟨[.dat (Yt)],[.own (ZcT)],fun a K=>splitK a fun b0 a=>Y4 (Vi b0) fun r=>K (r,()) ()⟩
def ZcG (e0:Zf):Option Zf :=
 if Zf.Kind e0=1 then
 some (Zf.Kind e0,Zf.Place e0,Zf.Cell e0,(0:Int),(0:Int),([]:List UInt8),(([]:List Int),([]:List Int),([]:List Int),([]:List Int),()),())
 else
 if Zf.Kind e0=2 then
 some (Zf.Kind e0,Zf.Place e0,Zf.Cell e0,(0:Int),(0:Int),Zf.Name e0,(([]:List Int),([]:List Int),([]:List Int),([]:List Int),()),())
 else
 if Zf.Kind e0=4 then
 some (Zf.Kind e0,Zf.Place e0,(0:Int),Zf.Net e0,Zf.Node e0,([]:List UInt8),(([]:List Int),([]:List Int),([]:List Int),([]:List Int),()),())
 else
 if Zf.Kind e0=5 then
 some (Zf.Kind e0,(0:Int),(0:Int),Zf.Net e0,(0:Int),([]:List UInt8),e0.snd.snd.snd.snd.snd.snd)
 else
 some (Zf.Kind e0,(0:Int),(0:Int),(0:Int),(0:Int),([]:List UInt8),(([]:List Int),([]:List Int),([]:List Int),([]:List Int),()),())
def Zys:Ctr:=D1 (Y9) (Y9) ZcG
def Y1 (s1_0:List Int) (s2_0:List Int) (v0:Int):Option ((Int×Unit) ⊕ Bool) :=
 if v0<(↑(List.length s1_0):Int) then
 (atI s1_0 v0).bind fun x0 =>
 (atI s2_0 v0).bind fun x1 =>
 if x0=x1 then
 some (.inl (IntKind.i64.wrap (v0+1),()))
 else
 some (.inr Bool.false)
 else
 some (.inr Bool.true)
def YA (s1_0:List Int) (s2_0:List Int):Option Bool :=
 if (↑(List.length s1_0):Int)=(↑(List.length s2_0):Int) then
 Zu (fun v=>Y1 s1_0 s2_0 v.1) ((0:Int),())
 else
 some Bool.false
def c154:Ctr:=D2 (.sl (.int .i64)) (.sl (.int .i64)) (.bool) YA
def ZcB (a0:Zn) (b0:Zn):Option Bool :=
 (YA (Zn.Parent a0) (Zn.Parent b0)).bind fun int64_0 =>
 if int64_0=true then
 (YA (Zn.Res a0) (Zn.Res b0)).bind fun int64_1 =>
 if int64_1=true then
 (YA (Zn.Cap a0) (Zn.Cap b0)).bind fun int64_2 =>
 if int64_2=true then
 (YA (Zn.ZfM a0) (Zn.ZfM b0)).bind fun int64_3 =>
 some int64_3
 else
 some Bool.false
 else
 some Bool.false
 else
 some Bool.false
def Zyy:Ctr:=D2 (YP) (YP) (.bool) ZcB
def Zbu (a0:Zf) (b0:Zf):Option Bool :=
 if Zf.Kind a0=Zf.Kind b0 then
 if Zf.Place a0=Zf.Place b0 then
 if Zf.Cell a0=Zf.Cell b0 then
 if Zf.Net a0=Zf.Net b0 then
 if Zf.Node a0=Zf.Node b0 then
 if Zf.Name a0=Zf.Name b0 then
 (ZcB (Zf.Zfc a0) (Zf.Zfc b0)).bind fun sameWire0 =>
 some sameWire0
 else
 some Bool.false
 else
 some Bool.false
 else
 some Bool.false
 else
 some Bool.false
 else
 some Bool.false
 else
 some Bool.false
def c156:Ctr:=D2 (Y9) (Y9) (.bool) Zbu
def Vn (list0:List Yd):Option Int :=
 some (↑(List.length list0):Int)
def c157:Ctr:=D1 (.sl (Zhx)) (.int .i64) Vn
def Vt (a0:Zf) (a1:Zb):Option Bool :=
 (Yo (Zf.Kind a0) 1 5).bind fun within0 =>
 if within0=true then
 (ZcG a0).bind fun own0 =>
 (Zbu a0 own0).bind fun sameEdit0 =>
 if sameEdit0=true then
 (Yj (Zb.Design a1)).bind fun places0 =>
 (Vn places0).bind fun place0 =>
 (Yo (Zf.Place a0) 0 (IntKind.i64.wrap (place0-1))).bind fun within1 =>
 if Zf.Kind a0=1 then
 if Zf.Kind a0=1 then
 if within1=true then
 (Y6 (Zl.Cells (Zb.Library a1))).bind fun Cell0 =>
 (Yo (Zf.Cell a0) 0 (IntKind.i64.wrap (Cell0-1))).bind fun within2 =>
 some within2
 else
 some Bool.false
 else
 if Zf.Kind a0=4 then
 if within1=true then
 (YE (Zb.Design a1) (Zf.Net a0)).bind fun isNet0 =>
 if isNet0=true then
 (atI (Zb.Zy a1) (Zf.Net a0)).bind fun x0 =>
 (YK (Zn.Parent x0)).bind fun int64_0 =>
 (Yo (Zf.Node a0) 0 (IntKind.i64.wrap (int64_0-1))).bind fun within2 =>
 some within2
 else
 some Bool.false
 else
 some Bool.false
 else
 if Zf.Kind a0=5 then
 (YE (Zb.Design a1) (Zf.Net a0)).bind fun isNet0 =>
 some isNet0
 else
 some Bool.true
 else
 if Zf.Kind a0=2 then
 if within1=true then
 (Y6 (Zl.Cells (Zb.Library a1))).bind fun Cell0 =>
 (Yo (Zf.Cell a0) 0 (IntKind.i64.wrap (Cell0-1))).bind fun within2 =>
 some within2
 else
 some Bool.false
 else
 if Zf.Kind a0=4 then
 if within1=true then
 (YE (Zb.Design a1) (Zf.Net a0)).bind fun isNet0 =>
 if isNet0=true then
 (atI (Zb.Zy a1) (Zf.Net a0)).bind fun x0 =>
 (YK (Zn.Parent x0)).bind fun int64_0 =>
 (Yo (Zf.Node a0) 0 (IntKind.i64.wrap (int64_0-1))).bind fun within2 =>
 some within2
 else
 some Bool.false
 else
 some Bool.false
 else
 if Zf.Kind a0=5 then
 (YE (Zb.Design a1) (Zf.Net a0)).bind fun isNet0 =>
 some isNet0
 else
 some Bool.true
 else
 some Bool.false
 else
 some Bool.false
def Zyh:Ctr:=D2 (Y9) (Yt) (.bool) Vt
def Zbz (p0:Yv) (q0:Yv):Option Bool :=
 some (Yv.Clock p0 == Yv.Clock q0)
def c159:Ctr:=D2 (Je) (Je) (.bool) Zbz
def Zv (s1_0:List Yv) (s2_0:List Yv) (v0:Int):Option ((Int×Unit) ⊕ Bool) :=
 if v0<(↑(List.length s1_0):Int) then
 (atI s1_0 v0).bind fun x0 =>
 (atI s2_0 v0).bind fun x1 =>
 (Zbz x0 x1).bind fun c1_0 =>
 if c1_0=true then
 some (.inl (IntKind.i64.wrap (v0+1),()))
 else
 some (.inr Bool.false)
 else
 some (.inr Bool.true)
def ZE (s1_0:List Yv) (s2_0:List Yv) (eq0:Unit):Option Bool :=
 if (↑(List.length s1_0):Int)=(↑(List.length s2_0):Int) then
 Zu (fun v=>Zv s1_0 s2_0 v.1) ((0:Int),())
 else
 some Bool.false
def c160:Ctr:=D3 (.sl (Je)) (.sl (Je)) (.fn 253 (.unit)) (.bool) ZE
def Zcq (a0:Zh) (b0:Zh):Option Bool :=
 if Zh.Kind a0=Zh.Kind b0 then
 (ZE (Zh.YC a0) (Zh.YC b0) ()).bind fun c1_0 =>
 some c1_0
 else
 some Bool.false
def ZyA:Ctr:=D2 (YL) (YL) (.bool) Zcq
def QN (c0:Zh):Option Bool :=
 if Zh.Kind c0=1 then
 some (Decidable.decide ((↑(List.length (Zh.YC c0)):Int)=2))
 else
 some Bool.false
def c162:Ctr:=D1 (YL) (.bool) QN
def VW (x0:Zd) (a0:List UInt8):Option Bool :=
 some (Decidable.decide (Zd.Name x0=a0))
def ZxU:Ctr:=D2 (Zw) (.ptr (.str)) (.bool) VW
def ZB (s0:List Zd) (f0:List UInt8×Unit) (v0:Int):Option ((Int×Unit) ⊕ Int) :=
 if v0<(↑(List.length s0):Int) then
 (atI s0 v0).bind fun x0 =>
 (VW x0 f0.fst).bind fun c1_0 =>
 if c1_0=true then
 some (.inr v0)
 else
 some (.inl (IntKind.i64.wrap (v0+1),()))
 else
 some (.inr (-1))
def ZA (s0:List Zd) (f0:List UInt8×Unit):Option Int :=
 Zu (fun v=>ZB s0 f0 v.1) ((0:Int),())
def c164:Ctr:=D2 (.sl (Zw)) (.fn 257 (.pair (.ptr (.str)) (.unit))) (.int .i64) ZA
def VX (d0:Za) (name0:List UInt8):Option Int :=
 (ZA (Za.Instances d0) (name0,())).bind fun c1_0 =>
 some c1_0
def Zzi:Ctr:=D2 (Z9) (.str) (.int .i64) VX
def Vd (d0:Za) (name0:List UInt8):Option Int :=
 (Yp (Za.ZP d0) name0).bind fun string0 =>
 some string0
def Zzg:Ctr:=D2 (Z9) (.str) (.int .i64) Vd
def X5 (a0:Zb):Option Bool :=
 if (↑(List.length (Za.Instances (Zb.Design a0))):Int)=0 then
 some Bool.false
 else
 (atI (Za.Instances (Zb.Design a0)) (IntKind.i64.wrap ((↑(List.length (Za.Instances (Zb.Design a0))):Int)-1))).bind fun x0 =>
 (YR (Za.ZP (Zb.Design a0))).bind fun string0 =>
 (atI (Zl.Cells (Zb.Library a0)) (Zd.Cell x0)).bind fun x1 =>
 (QN x1).bind fun isBuffer0 =>
 if isBuffer0=true then
 (atI (Zd.ZP x0) 1).bind fun x2 =>
 if x2=IntKind.i64.wrap (string0-1) then
 (atI (Zd.ZP x0) 0).bind fun x3 =>
 if x3=IntKind.i64.wrap (string0-1) then
 some Bool.false
 else
 (atI (Za.ZP (Zb.Design a0)) (IntKind.i64.wrap (string0-1))).bind fun x4 =>
 if x4=Zd.Name x0 then
 (atI (Zb.Zy a0) (IntKind.i64.wrap (string0-1))).bind fun x5 =>
 if (↑(List.length (Zn.ZfM x5)):Int)=1 then
 if (↑(List.length (Zn.Parent x5)):Int)=1 then
 (atI (Zn.Cap x5) 0).bind fun x6 =>
 some (Decidable.decide (x6=0))
 else
 some Bool.false
 else
 some Bool.false
 else
 some Bool.false
 else
 some Bool.false
 else
 some Bool.false
def c167:Ctr:=D1 (Yt) (.bool) X5
def Q9 (a0:Zf) (a1:Zb):Option Bool :=
 (Yj (Zb.Design a1)).bind fun places0 =>
 if Zf.Kind a0=1 then
 (atI places0 (Zf.Place a0)).bind fun x0 =>
 if 0≤Yd.instance x0 then
 if (Yd.drives x0)=true then
 (atI (Za.Instances (Zb.Design a1)) (Yd.instance x0)).bind fun x1 =>
 (atI (Zl.Cells (Zb.Library a1)) (Zd.Cell x1)).bind fun x2 =>
 (atI (Zl.Cells (Zb.Library a1)) (Zf.Cell a0)).bind fun x3 =>
 (Zcq x2 x3).bind fun fitsSwap0 =>
 some fitsSwap0
 else
 some Bool.false
 else
 some Bool.false
 else
 if Zf.Kind a0=2 then
 (atI places0 (Zf.Place a0)).bind fun x0 =>
 if (Yd.drives x0)=true then
 some Bool.false
 else
 (atI (Zl.Cells (Zb.Library a1)) (Zf.Cell a0)).bind fun x1 =>
 (QN x1).bind fun isBuffer0 =>
 if isBuffer0=true then
 (Zb4 (Zf.Name a0)).bind fun isName0 =>
 if isName0=true then
 (VX (Zb.Design a1) (Zf.Name a0)).bind fun InstanceNamed0 =>
 if InstanceNamed0<0 then
 (Vd (Zb.Design a1) (Zf.Name a0)).bind fun netNamed0 =>
 some (Decidable.decide (netNamed0<0))
 else
 some Bool.false
 else
 some Bool.false
 else
 some Bool.false
 else
 if Zf.Kind a0=3 then
 (X5 a1).bind fun canUnbuffer0 =>
 some canUnbuffer0
 else
 if Zf.Kind a0=4 then
 (atI places0 (Zf.Place a0)).bind fun x0 =>
 if (Yd.drives x0)=true then
 some Bool.false
 else
 some (!Decidable.decide (Yd.net x0=Zf.Net a0))
 else
 (atI (Zb.Zy a1) (Zf.Net a0)).bind fun x0 =>
 (YK (Zn.ZfM x0)).bind fun int64_0 =>
 (Zde (Zf.Zfc a0) int64_0).bind fun IsWire0 =>
 some IsWire0
def c168:Ctr:=D2 (Y9) (Yt) (.bool) Q9
def ZaQ (e0:Zf) (b0:Zb):Option Int :=
 (Vt e0 b0).bind fun isInRange0 =>
 if isInRange0=true then
 (Q9 e0 b0).bind fun isPossible0 =>
 if isPossible0=true then
 if Zf.Kind e0=2 then
 if (↑(List.length (Za.Instances (Zb.Design b0))):Int)=14 then
 some 3
 else
 if (↑(List.length (Za.ZP (Zb.Design b0))):Int)=30 then
 some 3
 else
 some 0
 else
 some 0
 else
 some 5
 else
 some 2
def Zx9:Ctr:=D2 (Y9) (Yt) (.int .i64) ZaQ
def Qx (b0:Zb) (places0:List Yd) (v0:Int) (m0:List ((Int×Int×Unit)×Int)) (l0:List Int):Option ((Int×(List ((Int×Int×Unit)×Int))×(List Int)×Unit) ⊕ List (Zaj×Int)) :=
 if v0<(↑(List.length places0):Int) then
 (atI places0 v0).bind fun x0 =>
 if (Yd.drives x0)=true then
 some (.inl (IntKind.i64.wrap (v0+1),m0,l0,()))
 else
 (atI (Zb.Zy b0) (Yd.net x0)).bind fun x1 =>
 (atI l0 (Yd.net x0)).bind fun x2 =>
 (atI (Zn.ZfM x1) x2).bind fun x3 =>
 some (.inl (IntKind.i64.wrap (v0+1),Zln ZpH.ty ZpH.ety m0 (Yd.instance x0,Yd.pin x0,()) x3,List.set l0 (Int.toNat (Yd.net x0)) (IntKind.i64.wrap (x2+1)),()))
 else
 some (.inr m0)
def Xk (b0:Zb):Option (List (Zaj×Int)) :=
 Zz ((0:Int)≤(↑(List.length (Zb.Zy b0)):Int)) <|
 Zz ((↑(List.length (Zb.Zy b0)):Int)≤(↑(List.length (Zb.Zy b0)):Int)) <|
 Zz ((↑(List.length (Zb.Zy b0)):Int)≤(4611686018427387904:Int)) <|
 Zz ((↑(8:Nat):Int)*(↑(List.length (Zb.Zy b0)):Int)≤(281474976710656:Int)) <|
 (Yj (Zb.Design b0)).bind fun places0 =>
 Zu (fun v=>Qx b0 places0 v.1 v.2.1 v.2.2.1) ((0:Int),([]:List ((Int×Int×Unit)×Int)),List.replicate (Int.toNat (↑(List.length (Zb.Zy b0)):Int)) (0:Int),())
def Zwl:Ctr:=⟨[.dat (Yt)],[.own (.mp (ZbZ) (.int .i64))],fun a K=>splitK a fun b0 a=>Y4 (Xk b0) fun r=>K (r,()) ()⟩
def QU (net0:Int) (places0:List Yd) (list0:List Int) (v0:Int):Option (((List Int)×Int×Unit) ⊕ List Int) :=
 if v0<(↑(List.length places0):Int) then
 (atI places0 v0).bind fun x0 =>
 if Yd.net x0=net0 then
 if (Yd.drives x0)=true then
 some (.inl (list0,IntKind.i64.wrap (v0+1),()))
 else
 Zz ((List.length list0+List.length [v0])*(8:Nat)≤(140737488355328:Nat)) <|
 some (.inl (list0++[v0],IntKind.i64.wrap (v0+(1:Int)),()))
 else
 some (.inl (list0,IntKind.i64.wrap (v0+1),()))
 else
 some (.inr list0)
def JH (d0:Za) (net0:Int):Option (List Int) :=
 (Yj d0).bind fun places0 =>
 Zu (fun v=>QU net0 places0 v.1 v.2.1) (([]:List Int),(0:Int),())
def c171:Ctr:=⟨[.dat (Z9),.dat (.int .i64)],[.own (.ol 2 (.flat (.int .i64)))],fun a K=>splitK a fun d0 a=>splitK a fun net0 a=>Y4 (JH d0 net0) fun r=>K (r,()) ()⟩
def Qv (b0:Zb) (key0:Zaj) (net0:Int):Option Zb :=
 if Zaj.instance key0<0 then
 (atI (Za.Z0 (Zb.Design b0)) (Zaj.pin key0)).bind fun x0 =>
 some (Zb.Library b0,(Za.Instances (Zb.Design b0),Za.ZP (Zb.Design b0),List.set (Za.Z0 (Zb.Design b0)) (Int.toNat (Zaj.pin key0)) (ZI.Name x0,ZI.Dir x0,net0,()),()),b0.snd.snd)
 else
 (atI (Za.Instances (Zb.Design b0)) (Zaj.instance key0)).bind fun x0 =>
 (atI x0.snd.snd.fst (Zaj.pin key0)).bind fun x1 =>
 some (Zb.Library b0,(List.set (Za.Instances (Zb.Design b0)) (Int.toNat (Zaj.instance key0)) (x0.fst,x0.snd.fst,List.set x0.snd.snd.fst (Int.toNat (Zaj.pin key0)) net0,()),(Zb.Design b0).snd),b0.snd.snd)
def ZwA:Ctr:=⟨[.io (ZcT),.dat (ZbZ),.dat (.int .i64)],[],fun a K=>splitK a fun b0 a=>splitK a fun key0 a=>splitK a fun net0 a=>Y4 (Qv b0 key0 net0) fun r=>K () (r,())⟩
def Qy (b0:Zb) (nodes0:List (Zaj×Int)) (places0:List Yd) (v1:Int) (l1:List (List Int×List Int×List Int×List Int×Unit)):Option ((Int×(List (List Int×List Int×List Int×List Int×Unit))×Unit) ⊕ ((Int×(List (List Int×List Int×List Int×List Int×Unit))×Unit) ⊕ Zb)) :=
 if v1<(↑(List.length places0):Int) then
 (atI places0 v1).bind fun x0 =>
 if (Yd.drives x0)=true then
 some (.inl (IntKind.i64.wrap (v1+1),l1,()))
 else
 (atI l1 (Yd.net x0)).bind fun x1 =>
 Zz ((List.length x1.snd.snd.snd.fst+List.length [Option.getD (ZhR ZbZ (Ty.int IntKind.i64) nodes0 (Yd.instance x0,Yd.pin x0,())) (0:Int)])*(8:Nat)≤(140737488355328:Nat)) <|
 some (.inl (IntKind.i64.wrap (v1+(1:Int)),List.set l1 (Int.toNat (Yd.net x0)) (x1.fst,x1.snd.fst,x1.snd.snd.fst,x1.snd.snd.snd.fst++[Option.getD (ZhR ZbZ (Ty.int IntKind.i64) nodes0 (Yd.instance x0,Yd.pin x0,())) (0:Int)],()),()))
 else
 some (.inr (.inr (Zb.Library b0,Zb.Design b0,l1,())))
def Xt (b0:Zb) (nodes0:List (Zaj×Int)) (v0:Int) (l0:List (List Int×List Int×List Int×List Int×Unit)):Option ((Int×(List (List Int×List Int×List Int×List Int×Unit))×Unit) ⊕ Zb) :=
 if v0<(↑(List.length (Zb.Zy b0)):Int) then
 (atI l0 v0).bind fun x0 =>
 some (.inl (IntKind.i64.wrap (v0+(1:Int)),List.set l0 (Int.toNat v0) (x0.fst,x0.snd.fst,x0.snd.snd.fst,([]:List Int),()),()))
 else
 (Yj (Zb.Design b0)).bind fun places0 =>
 Zu (fun v=>Qy b0 nodes0 places0 v.1 v.2.1) ((0:Int),l0,())
def Xm (b0:Zb) (nodes0:List (Zaj×Int)):Option Zb :=
 Zu (fun v=>Xt b0 nodes0 v.1 v.2.1) ((0:Int),Zb.Zy b0,())
def c173:Ctr:=⟨[.io (ZcT),.dat (.mp (ZbZ) (.int .i64))],[],fun a K=>splitK a fun b0 a=>splitK a fun nodes0 a=>Y4 (Xm b0 nodes0) fun r=>K () (r,())⟩
def Qp (a0:Zb):Option (Zaj×Zb) :=
 (Xk a0).bind fun nodesOf0 =>
 (Yj (Zb.Design a0)).bind fun places0 =>
 (YR (Za.ZP (Zb.Design a0))).bind fun string0 =>
 (JH (Zb.Design a0) (IntKind.i64.wrap (string0-1))).bind fun sinks0 =>
 (atI sinks0 0).bind fun x0 =>
 (atI places0 x0).bind fun x1 =>
 (atI (Za.Instances (Zb.Design a0)) (IntKind.i64.wrap ((↑(List.length (Za.Instances (Zb.Design a0))):Int)-1))).bind fun x2 =>
 (atI x2.snd.snd.fst 0).bind fun x3 =>
 (Qv (Zb.Library a0,(List.set (Za.Instances (Zb.Design a0)) (Int.toNat (IntKind.i64.wrap ((↑(List.length (Za.Instances (Zb.Design a0))):Int)-1))) x2,(Zb.Design a0).snd),a0.snd.snd) (Yd.instance x1,Yd.pin x1,()) x3).bind fun setNet0 =>
 Zz ((0:Int)≤IntKind.i64.wrap ((↑(List.length (Za.Instances (Zb.Design a0))):Int)-(1:Int))) <|
 Zz (IntKind.i64.wrap ((↑(List.length (Za.Instances (Zb.Design a0))):Int)-(1:Int))≤(↑(List.length (Za.Instances (Zb.Design setNet0))):Int)) <|
 Zz ((0:Int)≤IntKind.i64.wrap ((↑(List.length (Za.ZP (Zb.Design setNet0))):Int)-(1:Int))) <|
 Zz (IntKind.i64.wrap ((↑(List.length (Za.ZP (Zb.Design setNet0))):Int)-(1:Int))≤(↑(List.length (Za.ZP (Zb.Design setNet0))):Int)) <|
 Zz ((0:Int)≤IntKind.i64.wrap ((↑(List.length (Zb.Zy setNet0)):Int)-(1:Int))) <|
 Zz (IntKind.i64.wrap ((↑(List.length (Zb.Zy setNet0)):Int)-(1:Int))≤(↑(List.length (Zb.Zy setNet0)):Int)) <|
 (Xm (Zb.Library setNet0,(List.take (Int.toNat (IntKind.i64.wrap ((↑(List.length (Za.Instances (Zb.Design a0))):Int)-1))-Int.toNat 0) (List.drop (Int.toNat 0) (Za.Instances (Zb.Design setNet0))),List.take (Int.toNat (IntKind.i64.wrap ((↑(List.length (Za.ZP (Zb.Design setNet0))):Int)-1))-Int.toNat 0) (List.drop (Int.toNat 0) (Za.ZP (Zb.Design setNet0))),(Zb.Design setNet0).snd.snd),List.take (Int.toNat (IntKind.i64.wrap ((↑(List.length (Zb.Zy setNet0)):Int)-1))-Int.toNat 0) (List.drop (Int.toNat 0) (Zb.Zy setNet0)),()) (Zln ZbZ (Ty.int IntKind.i64) nodesOf0 (Yd.instance x1,Yd.pin x1,()) (Option.getD (ZhR ZbZ (Ty.int IntKind.i64) nodesOf0 (IntKind.i64.wrap ((↑(List.length (Za.Instances (Zb.Design a0))):Int)-1),0,())) 0))).bind fun connect0 =>
 some ((Yd.instance x1,Yd.pin x1,()),connect0)
def Zxq:Ctr:=⟨[.io (ZcT)],[.dat (ZbZ)],fun a K=>splitK a fun a0 a=>Y4 (Qp a0) fun r=>K (r.1,()) (r.2,())⟩
def XZ (p0:Yd) (a0:Int) (a1:Int):Option Bool :=
 if Yd.instance p0=a0 then
 some (Decidable.decide (Yd.pin p0=a1))
 else
 some Bool.false
def c175:Ctr:=D3 (Zhx) (.ptr (.int .i64)) (.ptr (.int .i64)) (.bool) XZ
def ZH (s0:List Yd) (f0:Int×Int×Unit) (v0:Int):Option ((Int×Unit) ⊕ Int) :=
 if v0<(↑(List.length s0):Int) then
 (atI s0 v0).bind fun x0 =>
 (XZ x0 f0.fst f0.snd.fst).bind fun c1_0 =>
 if c1_0=true then
 some (.inr v0)
 else
 some (.inl (IntKind.i64.wrap (v0+1),()))
 else
 some (.inr (-1))
def ZC (s0:List Yd) (f0:Int×Int×Unit):Option Int :=
 Zu (fun v=>ZH s0 f0 v.1) ((0:Int),())
def Zx5:Ctr:=D2 (.sl (Zhx)) (.fn 228 (.pair (.ptr (.int .i64)) (.pair (.ptr (.int .i64)) (.unit)))) (.int .i64) ZC
def Qk (d0:Za) (instance0:Int) (pin0:Int):Option Int :=
 (Yj d0).bind fun places0 =>
 (ZC places0 (instance0,pin0,())).bind fun c1_0 =>
 some c1_0
def ZyD:Ctr:=D3 (Z9) (.int .i64) (.int .i64) (.int .i64) Qk
def Vx (a0:Zf) (a1:Zb):Option Zf :=
 if Zf.Kind a0=1 then
 (Yj (Zb.Design a1)).bind fun places0 =>
 (atI places0 (Zf.Place a0)).bind fun x0 =>
 (atI (Za.Instances (Zb.Design a1)) (Yd.instance x0)).bind fun x1 =>
 some ((1:Int),Zf.Place a0,Zd.Cell x1,(0:Int),(0:Int),([]:List UInt8),(([]:List Int),([]:List Int),([]:List Int),([]:List Int),()),())
 else
 if Zf.Kind a0=2 then
 some ((3:Int),(0:Int),(0:Int),(0:Int),(0:Int),([]:List UInt8),(([]:List Int),([]:List Int),([]:List Int),([]:List Int),()),())
 else
 if Zf.Kind a0=3 then
 (Vi a1).bind fun clone0 =>
 (Qp clone0).bind fun unbuffer0 =>
 (atI (Za.Instances (Zb.Design a1)) (IntKind.i64.wrap ((↑(List.length (Za.Instances (Zb.Design a1))):Int)-1))).bind fun x0 =>
 (Qk unbuffer0.snd.snd.fst unbuffer0.fst.fst unbuffer0.fst.snd.fst).bind fun placeOf0 =>
 some ((2:Int),placeOf0,Zd.Cell x0,(0:Int),(0:Int),Zd.Name x0,(([]:List Int),([]:List Int),([]:List Int),([]:List Int),()),())
 else
 if Zf.Kind a0=4 then
 (Yj (Zb.Design a1)).bind fun places0 =>
 (atI places0 (Zf.Place a0)).bind fun x0 =>
 (Xk a1).bind fun nodesOf0 =>
 some ((4:Int),Zf.Place a0,(0:Int),Yd.net x0,Option.getD (ZhR ZbZ (Ty.int IntKind.i64) nodesOf0 (Yd.instance x0,Yd.pin x0,())) (0:Int),([]:List UInt8),(([]:List Int),([]:List Int),([]:List Int),([]:List Int),()),())
 else
 (atI (Zb.Zy a1) (Zf.Net a0)).bind fun x0 =>
 (VU x0).bind fun clone0 =>
 some ((5:Int),(0:Int),(0:Int),Zf.Net a0,(0:Int),([]:List UInt8),clone0,())
def Zyx:Ctr:=⟨[.dat (Y9),.dat (Yt)],[.own (Zld)],fun a K=>splitK a fun a0 a=>splitK a fun a1 a=>Y4 (Vx a0 a1) fun r=>K (r,()) ()⟩
def X6 (list0:List Zd):Option Int :=
 some (↑(List.length list0):Int)
def Zzh:Ctr:=D1 (.sl (Zw)) (.int .i64) X6
def JI (a0:Zb) (a1:Zf):Option Zb :=
 (Xk a0).bind fun nodesOf0 =>
 (Yj (Zb.Design a0)).bind fun places0 =>
 (atI places0 (Zf.Place a1)).bind fun x0 =>
 (YR (Za.ZP (Zb.Design a0))).bind fun string0 =>
 (X6 (Za.Instances (Zb.Design a0))).bind fun Instance0 =>
 Zz ((List.length (Za.Instances (Zb.Design a0))+List.length [(Zf.Name a1,Zf.Cell a1,[Yd.net x0,string0],())])*(48:Nat)≤(140737488355328:Nat)) <|
 Zz ((List.length (Za.ZP (Zb.Design a0))+List.length [Zf.Name a1])*(16:Nat)≤(140737488355328:Nat)) <|
 Zz ((List.length (Zb.Zy a0)+List.length [([(-1:Int)],[(0:Int)],[(0:Int)],([]:List Int),())])*(96:Nat)≤(140737488355328:Nat)) <|
 (Qv (Zb.Library a0,(Za.Instances (Zb.Design a0)++[(Zf.Name a1,Zf.Cell a1,[Yd.net x0,string0],())],Za.ZP (Zb.Design a0)++[Zf.Name a1],(Zb.Design a0).snd.snd),Zb.Zy a0++[([(-1:Int)],[(0:Int)],[(0:Int)],([]:List Int),())],()) (Yd.instance x0,Yd.pin x0,()) string0).bind fun setNet0 =>
 (Xm setNet0 (Zln ZbZ (Ty.int IntKind.i64) (Zln ZbZ (Ty.int IntKind.i64) nodesOf0 (Instance0,0,()) (Option.getD (ZhR ZbZ (Ty.int IntKind.i64) nodesOf0 (Yd.instance x0,Yd.pin x0,())) 0)) (Yd.instance x0,Yd.pin x0,()) 0)).bind fun connect0 =>
 some connect0
def Zzb:Ctr:=⟨[.io (ZcT),.dat (Y9)],[],fun a K=>splitK a fun a0 a=>splitK a fun a1 a=>Y4 (JI a0 a1) fun r=>K () (r,())⟩
def VT (a0:Zf) (a1:Zb):Option Zb :=
 (Vi a1).bind fun clone0 =>
 if Zf.Kind a0=1 then
 (Yj (Zb.Design a1)).bind fun places0 =>
 (atI places0 (Zf.Place a0)).bind fun x0 =>
 (atI (Za.Instances (Zb.Design clone0)) (Yd.instance x0)).bind fun x1 =>
 some (Zb.Library clone0,(List.set (Za.Instances (Zb.Design clone0)) (Int.toNat (Yd.instance x0)) (x1.fst,Zf.Cell a0,x1.snd.snd),(Zb.Design clone0).snd),clone0.snd.snd)
 else
 if Zf.Kind a0=2 then
 (JI clone0 a0).bind fun buffer0 =>
 some buffer0
 else
 if Zf.Kind a0=3 then
 (Qp clone0).bind fun unbuffer0 =>
 some unbuffer0.snd
 else
 if Zf.Kind a0=4 then
 (Xk clone0).bind fun nodesOf0 =>
 (Yj (Zb.Design clone0)).bind fun places0 =>
 (atI places0 (Zf.Place a0)).bind fun x0 =>
 (Qv clone0 (Yd.instance x0,Yd.pin x0,()) (Zf.Net a0)).bind fun setNet0 =>
 (Xm setNet0 (Zln ZbZ (Ty.int IntKind.i64) nodesOf0 (Yd.instance x0,Yd.pin x0,()) (Zf.Node a0))).bind fun connect0 =>
 some connect0
 else
 if Zf.Kind a0=5 then
 (VU (Zf.Zfc a0)).bind fun clone1 =>
 (atI (Zb.Zy clone0) (Zf.Net a0)).bind fun x0 =>
 some (Zb.Library clone0,Zb.Design clone0,List.set (Zb.Zy clone0) (Int.toNat (Zf.Net a0)) clone1,())
 else
 some clone0
def Zx8:Ctr:=⟨[.dat (Y9),.dat (Yt)],[.own (ZcT)],fun a K=>splitK a fun a0 a=>splitK a fun a1 a=>Y4 (VT a0 a1) fun r=>K (r,()) ()⟩
def Qr (list0:List Zf) (back0:List Zf) (v0:Int) (c0:List Zh) (c1:List Zd) (c2:List (List UInt8)) (c3:List ZI) (c4:List Zn) (c5:List (List UInt8×Int×List Yv×List ZM×List Int×Int×Int×Unit)) (c6:List (List UInt8×Int×List Int×Unit)) (c7:List (List UInt8)) (c8:List ZI) (c9:List (List Int×List Int×List Int×List Int×Unit)):Option (((List Zf)×Int×(List Zh)×(List Zd)×(List (List UInt8))×(List ZI)×(List Zn)×(List (List UInt8×Int×List Yv×List ZM×List Int×Int×Int×Unit))×(List (List UInt8×Int×List Int×Unit))×(List (List UInt8))×(List ZI)×(List (List Int×List Int×List Int×List Int×Unit))×Unit) ⊕ (Zb×(List Zf)×Int×Int)) :=
 if v0<(↑(List.length list0):Int) then
 (atI list0 v0).bind fun x0 =>
 (ZaQ x0 ((c5,()),(c6,c7,c8,()),c9,())).bind fun code0 =>
 if code0=0 then
 (Vx x0 ((c5,()),(c6,c7,c8,()),c9,())).bind fun inverse0 =>
 Zz ((List.length back0+List.length [inverse0])*(152:Nat)≤(140737488355328:Nat)) <|
 (VT x0 ((c5,()),(c6,c7,c8,()),c9,())).bind fun apply0 =>
 some (.inl (back0++[inverse0],IntKind.i64.wrap (v0+(1:Int)),c0,c1,c2,c3,c4,Zl.Cells (Zb.Library apply0),Za.Instances (Zb.Design apply0),Za.ZP (Zb.Design apply0),Za.Z0 (Zb.Design apply0),Zb.Zy apply0,()))
 else
 some (.inr (((([]:List Zh),()),(([]:List Zd),([]:List (List UInt8)),([]:List ZI),()),([]:List Zn),()),([]:List Zf),code0,v0))
 else
 some (.inr (((c5,()),(c6,c7,c8,()),c9,()),List.reverse back0,0,(-1)))
def ZcH (b0:Zb) (list0:List Zf):Option (Zb×(List Zf)×Int×Int) :=
 (ZdD b0).bind fun IsBlock0 =>
 if IsBlock0=true then
 if 20<(↑(List.length list0):Int) then
 some (((([]:List Zh),()),(([]:List Zd),([]:List (List UInt8)),([]:List ZI),()),([]:List Zn),()),([]:List Zf),(3:Int),(-1:Int))
 else
 (Vi b0).bind fun clone0 =>
 Zu (fun v=>Qr list0 v.1 v.2.1 v.2.2.1 v.2.2.2.1 v.2.2.2.2.1 v.2.2.2.2.2.1 v.2.2.2.2.2.2.1 v.2.2.2.2.2.2.2.1 v.2.2.2.2.2.2.2.2.1 v.2.2.2.2.2.2.2.2.2.1 v.2.2.2.2.2.2.2.2.2.2.1 v.2.2.2.2.2.2.2.2.2.2.2.1) (([]:List Zf),(0:Int),([]:List Zh),([]:List Zd),([]:List (List UInt8)),([]:List ZI),([]:List Zn),Zl.Cells (Zb.Library clone0),Za.Instances (Zb.Design clone0),Za.ZP (Zb.Design clone0),Za.Z0 (Zb.Design clone0),Zb.Zy clone0,())
 else
 some (((([]:List Zh),()),(([]:List Zd),([]:List (List UInt8)),([]:List ZI),()),([]:List Zn),()),([]:List Zf),(1:Int),(-1:Int))
def c182:Ctr:=⟨[.dat (Yt),.dat (.sl (Y9))],[.own (ZcT),.own (.ol 74 (Zld)),.dat (.int .i64),.dat (.int .i64)],fun a K=>splitK a fun b0 a=>splitK a fun list0 a=>Y4 (ZcH b0 list0) fun r=>K (r.1,r.2.1,r.2.2.1,r.2.2.2,()) ()⟩
def ZaZ (b0:Zb) (list0:List Zf):Option (Zb×Int×Int) :=
 (ZcH b0 list0).bind fun applyAll0 =>
 some (applyAll0.fst,applyAll0.snd.snd.fst,applyAll0.snd.snd.snd)
def c183:Ctr:=⟨[.dat (Yt),.dat (.sl (Y9))],[.own (ZcT),.dat (.int .i64),.dat (.int .i64)],fun a K=>splitK a fun b0 a=>splitK a fun list0 a=>Y4 (ZaZ b0 list0) fun r=>K (r.1,r.2.1,r.2.2,()) ()⟩
def Zeo (a0:Yv) (b0:Yv):Option Bool :=
 if Yv.Name a0=Yv.Name b0 then
 if Yv.Dir a0=Yv.Dir b0 then
 if Yv.Cap a0=Yv.Cap b0 then
 if (Yv.Clock a0 == Yv.Clock b0)=true then
 some Bool.true
 else
 some Bool.false
 else
 some Bool.false
 else
 some Bool.false
 else
 some Bool.false
def ZxQ:Ctr:=D2 (Je) (Je) (.bool) Zeo
def ZeQ (a0:List Yv) (b0:List Yv) (i0:Int):Option ((Int×Unit) ⊕ Bool) :=
 if i0<(↑(List.length a0):Int) then
 (atI a0 i0).bind fun x0 =>
 (atI b0 i0).bind fun x1 =>
 (Zeo x0 x1).bind fun eqPin0 =>
 if eqPin0=true then
 some (.inl (IntKind.i64.wrap (i0+1),()))
 else
 some (.inr Bool.false)
 else
 some (.inr Bool.true)
def ZeN (a0:List Yv) (b0:List Yv):Option Bool :=
 if (↑(List.length a0):Int)=(↑(List.length b0):Int) then
 Zu (fun v=>ZeQ a0 b0 v.1) ((0:Int),())
 else
 some Bool.false
def ZyT:Ctr:=D2 (.sl (Je)) (.sl (Je)) (.bool) ZeN
def Zdc (a0:List Int) (b0:List Int) (i0:Int):Option ((Int×Unit) ⊕ Bool) :=
 if i0<(↑(List.length a0):Int) then
 (atI a0 i0).bind fun x0 =>
 (atI b0 i0).bind fun x1 =>
 if x0=x1 then
 some (.inl (IntKind.i64.wrap (i0+1),()))
 else
 some (.inr Bool.false)
 else
 some (.inr Bool.true)
def Xo (a0:List Int) (b0:List Int):Option Bool :=
 if (↑(List.length a0):Int)=(↑(List.length b0):Int) then
 Zu (fun v=>Zdc a0 b0 v.1) ((0:Int),())
 else
 some Bool.false
def Zwd:Ctr:=D2 (.sl (.int .i64)) (.sl (.int .i64)) (.bool) Xo
def Zb6 (a0:Zt) (b0:Zt):Option Bool :=
 (Xo (Zt.Zfx a0) (Zt.Zfx b0)).bind fun eqInt64S0 =>
 if eqInt64S0=true then
 (Xo (Zt.Loads a0) (Zt.Loads b0)).bind fun eqInt64S1 =>
 if eqInt64S1=true then
 (Xo (Zt.Values a0) (Zt.Values b0)).bind fun eqInt64S2 =>
 if eqInt64S2=true then
 some Bool.true
 else
 some Bool.false
 else
 some Bool.false
 else
 some Bool.false
def ZxT:Ctr:=D2 (Yh) (Yh) (.bool) Zb6
def Zc8 (a0:List Zt) (b0:List Zt) (i0:Int):Option ((Int×Unit) ⊕ Bool) :=
 if i0<(↑(List.length a0):Int) then
 (atI a0 i0).bind fun x0 =>
 (atI b0 i0).bind fun x1 =>
 (Zb6 x0 x1).bind fun eqTable0 =>
 if eqTable0=true then
 some (.inl (IntKind.i64.wrap (i0+1),()))
 else
 some (.inr Bool.false)
 else
 some (.inr Bool.true)
def Zbl (a0:List Zt) (b0:List Zt):Option Bool :=
 if (↑(List.length a0):Int)=(↑(List.length b0):Int) then
 Zu (fun v=>Zc8 a0 b0 v.1) ((0:Int),())
 else
 some Bool.false
def ZyP:Ctr:=D2 (.sl (Yh)) (.sl (Yh)) (.bool) Zbl
def Zel (a0:ZM) (b0:ZM):Option Bool :=
 if ZM.Kind a0=ZM.Kind b0 then
 if ZM.From a0=ZM.From b0 then
 if ZM.To a0=ZM.To b0 then
 if ZM.ZcL a0=ZM.ZcL b0 then
 (Zbl (ZM.Delay a0) (ZM.Delay b0)).bind fun eqTableS0 =>
 if eqTableS0=true then
 (Zbl (ZM.Zhj a0) (ZM.Zhj b0)).bind fun eqTableS1 =>
 if eqTableS1=true then
 some Bool.true
 else
 some Bool.false
 else
 some Bool.false
 else
 some Bool.false
 else
 some Bool.false
 else
 some Bool.false
 else
 some Bool.false
def ZyC:Ctr:=D2 (ZaK) (ZaK) (.bool) Zel
def Zeq (a0:List ZM) (b0:List ZM) (i0:Int):Option ((Int×Unit) ⊕ Bool) :=
 if i0<(↑(List.length a0):Int) then
 (atI a0 i0).bind fun x0 =>
 (atI b0 i0).bind fun x1 =>
 (Zel x0 x1).bind fun eqArc0 =>
 if eqArc0=true then
 some (.inl (IntKind.i64.wrap (i0+1),()))
 else
 some (.inr Bool.false)
 else
 some (.inr Bool.true)
def ZeI (a0:List ZM) (b0:List ZM):Option Bool :=
 if (↑(List.length a0):Int)=(↑(List.length b0):Int) then
 Zu (fun v=>Zeq a0 b0 v.1) ((0:Int),())
 else
 some Bool.false
def ZyO:Ctr:=D2 (.sl (ZaK)) (.sl (ZaK)) (.bool) ZeI
def Zdf (a0:Zh) (b0:Zh):Option Bool :=
 if Zh.Name a0=Zh.Name b0 then
 if Zh.Kind a0=Zh.Kind b0 then
 (ZeN (Zh.YC a0) (Zh.YC b0)).bind fun eqPinS0 =>
 if eqPinS0=true then
 (ZeI (Zh.Zbc a0) (Zh.Zbc b0)).bind fun eqArcS0 =>
 if eqArcS0=true then
 (Xo (Zh.Truth a0) (Zh.Truth b0)).bind fun eqInt64S0 =>
 if eqInt64S0=true then
 if Zh.Zsj a0=Zh.Zsj b0 then
 if Zh.ZgT a0=Zh.ZgT b0 then
 some Bool.true
 else
 some Bool.false
 else
 some Bool.false
 else
 some Bool.false
 else
 some Bool.false
 else
 some Bool.false
 else
 some Bool.false
 else
 some Bool.false
def ZxY:Ctr:=D2 (YL) (YL) (.bool) Zdf
def Zd6 (a0:List Zh) (b0:List Zh) (i0:Int):Option ((Int×Unit) ⊕ Bool) :=
 if i0<(↑(List.length a0):Int) then
 (atI a0 i0).bind fun x0 =>
 (atI b0 i0).bind fun x1 =>
 (Zdf x0 x1).bind fun eqCell0 =>
 if eqCell0=true then
 some (.inl (IntKind.i64.wrap (i0+1),()))
 else
 some (.inr Bool.false)
 else
 some (.inr Bool.true)
def Zdw (a0:List Zh) (b0:List Zh):Option Bool :=
 if (↑(List.length a0):Int)=(↑(List.length b0):Int) then
 Zu (fun v=>Zd6 a0 b0 v.1) ((0:Int),())
 else
 some Bool.false
def ZxR:Ctr:=D2 (.sl (YL)) (.sl (YL)) (.bool) Zdw
def ZbL (a0:Zl) (b0:Zl):Option Bool :=
 (Zdw (Zl.Cells a0) (Zl.Cells b0)).bind fun eqCellS0 =>
 if eqCellS0=true then
 some Bool.true
 else
 some Bool.false
def c193:Ctr:=D2 (Z6) (Z6) (.bool) ZbL
def J9 (a0:Zd) (b0:Zd):Option Bool :=
 if Zd.Name a0=Zd.Name b0 then
 if Zd.Cell a0=Zd.Cell b0 then
 (Xo (Zd.ZP a0) (Zd.ZP b0)).bind fun eqInt64S0 =>
 if eqInt64S0=true then
 some Bool.true
 else
 some Bool.false
 else
 some Bool.false
 else
 some Bool.false
def c194:Ctr:=D2 (Zw) (Zw) (.bool) J9
def ZbV (a0:List Zd) (b0:List Zd) (i0:Int):Option ((Int×Unit) ⊕ Bool) :=
 if i0<(↑(List.length a0):Int) then
 (atI a0 i0).bind fun x0 =>
 (atI b0 i0).bind fun x1 =>
 (J9 x0 x1).bind fun eqInstance0 =>
 if eqInstance0=true then
 some (.inl (IntKind.i64.wrap (i0+1),()))
 else
 some (.inr Bool.false)
 else
 some (.inr Bool.true)
def Zam (a0:List Zd) (b0:List Zd):Option Bool :=
 if (↑(List.length a0):Int)=(↑(List.length b0):Int) then
 Zu (fun v=>ZbV a0 b0 v.1) ((0:Int),())
 else
 some Bool.false
def Zyp:Ctr:=D2 (.sl (Zw)) (.sl (Zw)) (.bool) Zam
def ZcM (a0:List (List UInt8)) (b0:List (List UInt8)) (i0:Int):Option ((Int×Unit) ⊕ Bool) :=
 if i0<(↑(List.length a0):Int) then
 (atI a0 i0).bind fun x0 =>
 (atI b0 i0).bind fun x1 =>
 if x0=x1 then
 some (.inl (IntKind.i64.wrap (i0+1),()))
 else
 some (.inr Bool.false)
 else
 some (.inr Bool.true)
def ZbE (a0:List (List UInt8)) (b0:List (List UInt8)):Option Bool :=
 if (↑(List.length a0):Int)=(↑(List.length b0):Int) then
 Zu (fun v=>ZcM a0 b0 v.1) ((0:Int),())
 else
 some Bool.false
def c196:Ctr:=D2 (.sl (.str)) (.sl (.str)) (.bool) ZbE
def Zdg (a0:ZI) (b0:ZI):Option Bool :=
 if ZI.Name a0=ZI.Name b0 then
 if ZI.Dir a0=ZI.Dir b0 then
 if ZI.Net a0=ZI.Net b0 then
 some Bool.true
 else
 some Bool.false
 else
 some Bool.false
 else
 some Bool.false
def ZyX:Ctr:=D2 (Xa) (Xa) (.bool) Zdg
def ZdY (a0:List ZI) (b0:List ZI) (i0:Int):Option ((Int×Unit) ⊕ Bool) :=
 if i0<(↑(List.length a0):Int) then
 (atI a0 i0).bind fun x0 =>
 (atI b0 i0).bind fun x1 =>
 (Zdg x0 x1).bind fun eqPort0 =>
 if eqPort0=true then
 some (.inl (IntKind.i64.wrap (i0+1),()))
 else
 some (.inr Bool.false)
 else
 some (.inr Bool.true)
def Zdh (a0:List ZI) (b0:List ZI):Option Bool :=
 if (↑(List.length a0):Int)=(↑(List.length b0):Int) then
 Zu (fun v=>ZdY a0 b0 v.1) ((0:Int),())
 else
 some Bool.false
def c198:Ctr:=D2 (.sl (Xa)) (.sl (Xa)) (.bool) Zdh
def ZcK (a0:Za) (b0:Za):Option Bool :=
 (Zam (Za.Instances a0) (Za.Instances b0)).bind fun eqInstanceS0 =>
 if eqInstanceS0=true then
 (ZbE (Za.ZP a0) (Za.ZP b0)).bind fun eqStringS0 =>
 if eqStringS0=true then
 (Zdh (Za.Z0 a0) (Za.Z0 b0)).bind fun eqPortS0 =>
 if eqPortS0=true then
 some Bool.true
 else
 some Bool.false
 else
 some Bool.false
 else
 some Bool.false
def Zx2:Ctr:=D2 (Z9) (Z9) (.bool) ZcK
def Zcb (a0:Zn) (b0:Zn):Option Bool :=
 (Xo (Zn.Parent a0) (Zn.Parent b0)).bind fun eqInt64S0 =>
 if eqInt64S0=true then
 (Xo (Zn.Res a0) (Zn.Res b0)).bind fun eqInt64S1 =>
 if eqInt64S1=true then
 (Xo (Zn.Cap a0) (Zn.Cap b0)).bind fun eqInt64S2 =>
 if eqInt64S2=true then
 (Xo (Zn.ZfM a0) (Zn.ZfM b0)).bind fun eqInt64S3 =>
 if eqInt64S3=true then
 some Bool.true
 else
 some Bool.false
 else
 some Bool.false
 else
 some Bool.false
 else
 some Bool.false
def ZxC:Ctr:=D2 (YP) (YP) (.bool) Zcb
def ZdF (a0:List Zn) (b0:List Zn) (i0:Int):Option ((Int×Unit) ⊕ Bool) :=
 if i0<(↑(List.length a0):Int) then
 (atI a0 i0).bind fun x0 =>
 (atI b0 i0).bind fun x1 =>
 (Zcb x0 x1).bind fun eqWire0 =>
 if eqWire0=true then
 some (.inl (IntKind.i64.wrap (i0+1),()))
 else
 some (.inr Bool.false)
 else
 some (.inr Bool.true)
def ZdB (a0:List Zn) (b0:List Zn):Option Bool :=
 if (↑(List.length a0):Int)=(↑(List.length b0):Int) then
 Zu (fun v=>ZdF a0 b0 v.1) ((0:Int),())
 else
 some Bool.false
def c201:Ctr:=D2 (.sl (YP)) (.sl (YP)) (.bool) ZdB
def Zce (a0:Zb) (b0:Zb):Option Bool :=
 (ZbL (Zb.Library a0) (Zb.Library b0)).bind fun eqLibrary0 =>
 if eqLibrary0=true then
 (ZcK (Zb.Design a0) (Zb.Design b0)).bind fun eqDesign0 =>
 if eqDesign0=true then
 (ZdB (Zb.Zy a0) (Zb.Zy b0)).bind fun eqWireS0 =>
 if eqWireS0=true then
 some Bool.true
 else
 some Bool.false
 else
 some Bool.false
 else
 some Bool.false
def Zy5:Ctr:=D2 (Yt) (Yt) (.bool) Zce
def Zdb (a0:Zf) (b0:Zf):Option Bool :=
 if Zf.Kind a0=Zf.Kind b0 then
 if Zf.Place a0=Zf.Place b0 then
 if Zf.Cell a0=Zf.Cell b0 then
 if Zf.Net a0=Zf.Net b0 then
 if Zf.Node a0=Zf.Node b0 then
 if Zf.Name a0=Zf.Name b0 then
 (Zcb (Zf.Zfc a0) (Zf.Zfc b0)).bind fun eqWire0 =>
 if eqWire0=true then
 some Bool.true
 else
 some Bool.false
 else
 some Bool.false
 else
 some Bool.false
 else
 some Bool.false
 else
 some Bool.false
 else
 some Bool.false
 else
 some Bool.false
def c203:Ctr:=D2 (Y9) (Y9) (.bool) Zdb
def ZdM (a0:List Zf) (b0:List Zf) (i0:Int):Option ((Int×Unit) ⊕ Bool) :=
 if i0<(↑(List.length a0):Int) then
 (atI a0 i0).bind fun x0 =>
 (atI b0 i0).bind fun x1 =>
 (Zdb x0 x1).bind fun eqEdit0 =>
 if eqEdit0=true then
 some (.inl (IntKind.i64.wrap (i0+1),()))
 else
 some (.inr Bool.false)
 else
 some (.inr Bool.true)
def Zdu (a0:List Zf) (b0:List Zf):Option Bool :=
 if (↑(List.length a0):Int)=(↑(List.length b0):Int) then
 Zu (fun v=>ZdM a0 b0 v.1) ((0:Int),())
 else
 some Bool.false
def Zzx:Ctr:=D2 (.sl (Y9)) (.sl (Y9)) (.bool) Zdu
def J2 (k1:Int) (out0:List UInt8):Option ((Int×(List UInt8)×Unit) ⊕ List UInt8) :=
 if 0<k1 then
 Zz ((↑(List.length (bytesOf [IntKind.wrap IntKind.u8 (IntKind.i64.wrap ((48:Int)+Int.tmod k1 (10:Int)))])):Int)+(↑(List.length out0):Int)≤(9223372036854775807:Int)) <|
 some (.inl (IntKind.i64.wrap (Int.tdiv k1 (10:Int)),bytesOf [IntKind.wrap IntKind.u8 (IntKind.i64.wrap ((48:Int)+Int.tmod k1 (10:Int)))]++out0,()))
 else
 Zz ((↑(List.length [(109:UInt8)]):Int)+(↑(List.length out0):Int)≤(9223372036854775807:Int)) <|
 some (.inr ([(109:UInt8)]++out0))
def YM (k0:Int):Option (List UInt8) :=
 if k0≤0 then
 some ([(109:UInt8),(48:UInt8)])
 else
 Zu (fun v=>J2 v.1 v.2.1) (k0,([]:List UInt8),())
def ZrR:Ctr:=D1 (.int .i64) (.str) YM
def Qn (k1:Int) (i0:Int) (l0:List Yv):Option ((Int×Int×(List Yv)×Unit) ⊕ (Int×(List Yv))) :=
 if i0<(↑(List.length l0):Int) then
 (YM k1).bind fun markText0 =>
 (atI l0 i0).bind fun x0 =>
 (atI (List.set l0 (Int.toNat i0) (markText0,x0.snd)) i0).bind fun x1 =>
 (atI (List.set (List.set l0 (Int.toNat i0) (markText0,x0.snd)) (Int.toNat i0) (Yv.Name x1,IntKind.i64.wrap (k1+1),x1.snd.snd)) i0).bind fun x2 =>
 (atI (List.set (List.set (List.set l0 (Int.toNat i0) (markText0,x0.snd)) (Int.toNat i0) (Yv.Name x1,IntKind.i64.wrap (k1+1),x1.snd.snd)) (Int.toNat i0) (Yv.Name x2,Yv.Dir x2,IntKind.i64.wrap (IntKind.i64.wrap (k1+1)+1),x2.snd.snd.snd)) i0).bind fun x3 =>
 some (.inl (IntKind.i64.wrap (IntKind.i64.wrap (IntKind.i64.wrap (IntKind.i64.wrap (k1+1)+1)+1)+1),IntKind.i64.wrap (i0+1),List.set (List.set (List.set (List.set l0 (Int.toNat i0) (markText0,x0.snd)) (Int.toNat i0) (Yv.Name x1,IntKind.i64.wrap (k1+1),x1.snd.snd)) (Int.toNat i0) (Yv.Name x2,Yv.Dir x2,IntKind.i64.wrap (IntKind.i64.wrap (k1+1)+1),x2.snd.snd.snd)) (Int.toNat i0) (Yv.Name x3,Yv.Dir x3,Yv.Cap x3,Decidable.decide (Int.tmod (IntKind.i64.wrap (IntKind.i64.wrap (IntKind.i64.wrap (k1+1)+1)+1)) 3=0),()),()))
 else
 some (.inr (k1,l0))
def ZaH (a0:List Yv) (k0:Int):Option (Int×(List Yv)) :=
 Zu (fun v=>Qn v.1 v.2.1 v.2.2.1) (k0,(0:Int),a0,())
def c206:Ctr:=⟨[.back (.ol 260 (.flat (Je))),.dat (.int .i64)],[.dat (.int .i64)],fun a K=>splitK a fun a0 a=>splitK a fun k0 a=>Y4 (ZaH a0 k0) fun r=>K (r.1,()) (r.2,())⟩
def Xw (k1:Int) (i0:Int) (l0:List Int):Option ((Int×Int×(List Int)×Unit) ⊕ (Int×(List Int))) :=
 if i0<(↑(List.length l0):Int) then
 (atI l0 i0).bind fun x0 =>
 some (.inl (IntKind.i64.wrap (k1+1),IntKind.i64.wrap (i0+1),List.set l0 (Int.toNat i0) k1,()))
 else
 some (.inr (k1,l0))
def Ym (a0:List Int) (k0:Int):Option (Int×(List Int)) :=
 Zu (fun v=>Xw v.1 v.2.1 v.2.2.1) (k0,(0:Int),a0,())
def Zv9:Ctr:=⟨[.back (.ol 2 (.flat (.int .i64))),.dat (.int .i64)],[.dat (.int .i64)],fun a K=>splitK a fun a0 a=>splitK a fun k0 a=>Y4 (Ym a0 k0) fun r=>K (r.1,()) (r.2,())⟩
def Xx (k1:Int) (i0:Int) (l0:List (List Int×List Int×List Int×Unit)):Option ((Int×Int×(List (List Int×List Int×List Int×Unit))×Unit) ⊕ (Int×(List Zt))) :=
 if i0<(↑(List.length l0):Int) then
 (atI l0 i0).bind fun x0 =>
 (Ym x0.fst k1).bind fun markInt64S0 =>
 (Ym x0.snd.fst markInt64S0.fst).bind fun markInt64S1 =>
 (Ym x0.snd.snd.fst markInt64S1.fst).bind fun markInt64S2 =>
 some (.inl (markInt64S2.fst,IntKind.i64.wrap (i0+1),List.set l0 (Int.toNat i0) (markInt64S0.snd,markInt64S1.snd,markInt64S2.snd,()),()))
 else
 some (.inr (k1,l0))
def Q0 (a0:List Zt) (k0:Int):Option (Int×(List Zt)) :=
 Zu (fun v=>Xx v.1 v.2.1 v.2.2.1) (k0,(0:Int),a0,())
def c208:Ctr:=⟨[.back (.ol 290 (ZeY)),.dat (.int .i64)],[.dat (.int .i64)],fun a K=>splitK a fun a0 a=>splitK a fun k0 a=>Y4 (Q0 a0 k0) fun r=>K (r.1,()) (r.2,())⟩
def Qq (k1:Int) (i0:Int) (l0:List (Int×Int×Int×Int×List Zt×List Zt×Unit)):Option ((Int×Int×(List (Int×Int×Int×Int×List Zt×List Zt×Unit))×Unit) ⊕ (Int×(List ZM))) :=
 if i0<(↑(List.length l0):Int) then
 (atI l0 i0).bind fun x0 =>
 (Q0 x0.snd.snd.snd.snd.fst (IntKind.i64.wrap (IntKind.i64.wrap (IntKind.i64.wrap (IntKind.i64.wrap (k1+1)+1)+1)+1))).bind fun markTableS0 =>
 (Q0 x0.snd.snd.snd.snd.snd.fst markTableS0.fst).bind fun markTableS1 =>
 some (.inl (markTableS1.fst,IntKind.i64.wrap (i0+1),List.set l0 (Int.toNat i0) (k1,IntKind.i64.wrap (k1+1),IntKind.i64.wrap (IntKind.i64.wrap (k1+1)+1),IntKind.i64.wrap (IntKind.i64.wrap (IntKind.i64.wrap (k1+1)+1)+1),markTableS0.snd,markTableS1.snd,()),()))
 else
 some (.inr (k1,l0))
def Zat (a0:List ZM) (k0:Int):Option (Int×(List ZM)) :=
 Zu (fun v=>Qq v.1 v.2.1 v.2.2.1) (k0,(0:Int),a0,())
def Zyr:Ctr:=⟨[.back (.ol 235 (Zrh)),.dat (.int .i64)],[.dat (.int .i64)],fun a K=>splitK a fun a0 a=>splitK a fun k0 a=>Y4 (Zat a0 k0) fun r=>K (r.1,()) (r.2,())⟩
def XO (k1:Int) (i0:Int) (l0:List (List UInt8×Int×List Yv×List ZM×List Int×Int×Int×Unit)):Option ((Int×Int×(List (List UInt8×Int×List Yv×List ZM×List Int×Int×Int×Unit))×Unit) ⊕ (Int×(List Zh))) :=
 if i0<(↑(List.length l0):Int) then
 (YM k1).bind fun markText0 =>
 (atI l0 i0).bind fun x0 =>
 (ZaH x0.snd.snd.fst (IntKind.i64.wrap (IntKind.i64.wrap (k1+1)+1))).bind fun markPinS0 =>
 (Zat x0.snd.snd.snd.fst markPinS0.fst).bind fun markArcS0 =>
 (Ym x0.snd.snd.snd.snd.fst markArcS0.fst).bind fun markInt64S0 =>
 some (.inl (IntKind.i64.wrap (IntKind.i64.wrap (markInt64S0.fst+1)+1),IntKind.i64.wrap (i0+1),List.set l0 (Int.toNat i0) (markText0,IntKind.i64.wrap (k1+1),markPinS0.snd,markArcS0.snd,markInt64S0.snd,markInt64S0.fst,IntKind.i64.wrap (markInt64S0.fst+1),()),()))
 else
 some (.inr (k1,l0))
def Jv (a0:List Zh) (k0:Int):Option (Int×(List Zh)) :=
 Zu (fun v=>XO v.1 v.2.1 v.2.2.1) (k0,(0:Int),a0,())
def c210:Ctr:=⟨[.back (.ol 207 (Zka)),.dat (.int .i64)],[.dat (.int .i64)],fun a K=>splitK a fun a0 a=>splitK a fun k0 a=>Y4 (Jv a0 k0) fun r=>K (r.1,()) (r.2,())⟩
def Vf (a0:Zl) (k0:Int):Option (Int×Zl) :=
 (Jv (Zl.Cells a0) k0).bind fun markCellS0 =>
 some (markCellS0.fst,(markCellS0.snd,()))
def ZzB:Ctr:=⟨[.back (ZjO),.dat (.int .i64)],[.dat (.int .i64)],fun a K=>splitK a fun a0 a=>splitK a fun k0 a=>Y4 (Vf a0 k0) fun r=>K (r.1,()) (r.2,())⟩
def Y0 (k1:Int) (i0:Int) (l0:List (List UInt8×Int×List Int×Unit)):Option ((Int×Int×(List (List UInt8×Int×List Int×Unit))×Unit) ⊕ (Int×(List Zd))) :=
 if i0<(↑(List.length l0):Int) then
 (YM k1).bind fun markText0 =>
 (atI l0 i0).bind fun x0 =>
 (Ym x0.snd.snd.fst (IntKind.i64.wrap (IntKind.i64.wrap (k1+1)+1))).bind fun markInt64S0 =>
 some (.inl (markInt64S0.fst,IntKind.i64.wrap (i0+1),List.set l0 (Int.toNat i0) (markText0,IntKind.i64.wrap (k1+1),markInt64S0.snd,()),()))
 else
 some (.inr (k1,l0))
def XV (a0:List Zd) (k0:Int):Option (Int×(List Zd)) :=
 Zu (fun v=>Y0 v.1 v.2.1 v.2.2.1) (k0,(0:Int),a0,())
def c212:Ctr:=⟨[.back (.ol 169 (ZaY)),.dat (.int .i64)],[.dat (.int .i64)],fun a K=>splitK a fun a0 a=>splitK a fun k0 a=>Y4 (XV a0 k0) fun r=>K (r.1,()) (r.2,())⟩
def Xi (k1:Int) (i0:Int) (l0:List (List UInt8)):Option ((Int×Int×(List (List UInt8))×Unit) ⊕ (Int×(List (List UInt8)))) :=
 if i0<(↑(List.length l0):Int) then
 (YM k1).bind fun markText0 =>
 (atI l0 i0).bind fun x0 =>
 some (.inl (IntKind.i64.wrap (k1+1),IntKind.i64.wrap (i0+1),List.set l0 (Int.toNat i0) markText0,()))
 else
 some (.inr (k1,l0))
def Vh (a0:List (List UInt8)) (k0:Int):Option (Int×(List (List UInt8))) :=
 Zu (fun v=>Xi v.1 v.2.1 v.2.2.1) (k0,(0:Int),a0,())
def c213:Ctr:=⟨[.back (.ol 9 (.flat (.str))),.dat (.int .i64)],[.dat (.int .i64)],fun a K=>splitK a fun a0 a=>splitK a fun k0 a=>Y4 (Vh a0 k0) fun r=>K (r.1,()) (r.2,())⟩
def XM (k1:Int) (i0:Int) (l0:List ZI):Option ((Int×Int×(List ZI)×Unit) ⊕ (Int×(List ZI))) :=
 if i0<(↑(List.length l0):Int) then
 (YM k1).bind fun markText0 =>
 (atI l0 i0).bind fun x0 =>
 (atI (List.set l0 (Int.toNat i0) (markText0,x0.snd)) i0).bind fun x1 =>
 (atI (List.set (List.set l0 (Int.toNat i0) (markText0,x0.snd)) (Int.toNat i0) (ZI.Name x1,IntKind.i64.wrap (k1+1),x1.snd.snd)) i0).bind fun x2 =>
 some (.inl (IntKind.i64.wrap (IntKind.i64.wrap (IntKind.i64.wrap (k1+1)+1)+1),IntKind.i64.wrap (i0+1),List.set (List.set (List.set l0 (Int.toNat i0) (markText0,x0.snd)) (Int.toNat i0) (ZI.Name x1,IntKind.i64.wrap (k1+1),x1.snd.snd)) (Int.toNat i0) (ZI.Name x2,ZI.Dir x2,IntKind.i64.wrap (IntKind.i64.wrap (k1+1)+1),()),()))
 else
 some (.inr (k1,l0))
def Jz (a0:List ZI) (k0:Int):Option (Int×(List ZI)) :=
 Zu (fun v=>XM v.1 v.2.1 v.2.2.1) (k0,(0:Int),a0,())
def Zx0:Ctr:=⟨[.back (.ol 201 (.flat (Xa))),.dat (.int .i64)],[.dat (.int .i64)],fun a K=>splitK a fun a0 a=>splitK a fun k0 a=>Y4 (Jz a0 k0) fun r=>K (r.1,()) (r.2,())⟩
def VO (a0:Za) (k0:Int):Option (Int×Za) :=
 (XV (Za.Instances a0) k0).bind fun markInstanceS0 =>
 (Vh (Za.ZP a0) markInstanceS0.fst).bind fun markStringS0 =>
 (Jz (Za.Z0 a0) markStringS0.fst).bind fun markPortS0 =>
 some (markPortS0.fst,(markInstanceS0.snd,markStringS0.snd,markPortS0.snd,()))
def ZyF:Ctr:=⟨[.back (Zkv),.dat (.int .i64)],[.dat (.int .i64)],fun a K=>splitK a fun a0 a=>splitK a fun k0 a=>Y4 (VO a0 k0) fun r=>K (r.1,()) (r.2,())⟩
def XR (k1:Int) (i0:Int) (l0:List (List Int×List Int×List Int×List Int×Unit)):Option ((Int×Int×(List (List Int×List Int×List Int×List Int×Unit))×Unit) ⊕ (Int×(List Zn))) :=
 if i0<(↑(List.length l0):Int) then
 (atI l0 i0).bind fun x0 =>
 (Ym x0.fst k1).bind fun markInt64S0 =>
 (Ym x0.snd.fst markInt64S0.fst).bind fun markInt64S1 =>
 (Ym x0.snd.snd.fst markInt64S1.fst).bind fun markInt64S2 =>
 (Ym x0.snd.snd.snd.fst markInt64S2.fst).bind fun markInt64S3 =>
 some (.inl (markInt64S3.fst,IntKind.i64.wrap (i0+1),List.set l0 (Int.toNat i0) (markInt64S0.snd,markInt64S1.snd,markInt64S2.snd,markInt64S3.snd,()),()))
 else
 some (.inr (k1,l0))
def Jt (a0:List Zn) (k0:Int):Option (Int×(List Zn)) :=
 Zu (fun v=>XR v.1 v.2.1 v.2.2.1) (k0,(0:Int),a0,())
def ZyB:Ctr:=⟨[.back (.ol 72 (Zg0)),.dat (.int .i64)],[.dat (.int .i64)],fun a K=>splitK a fun a0 a=>splitK a fun k0 a=>Y4 (Jt a0 k0) fun r=>K (r.1,()) (r.2,())⟩
def VH (a0:Zb) (k0:Int):Option (Int×Zb) :=
 (Vf (Zb.Library a0) k0).bind fun markLibrary0 =>
 (VO (Zb.Design a0) markLibrary0.fst).bind fun markDesign0 =>
 (Jt (Zb.Zy a0) markDesign0.fst).bind fun markWireS0 =>
 some (markWireS0.fst,(markLibrary0.snd,markDesign0.snd,markWireS0.snd,()))
def Zyo:Ctr:=⟨[.back (ZcT),.dat (.int .i64)],[.dat (.int .i64)],fun a K=>splitK a fun a0 a=>splitK a fun k0 a=>Y4 (VH a0 k0) fun r=>K (r.1,()) (r.2,())⟩
def Jj (v0:Int) (v1:Int) (l0:List (Int×Int×Int×Int×Int×List UInt8×Zn×Unit)):Option ((Int×Int×(List (Int×Int×Int×Int×Int×List UInt8×Zn×Unit))×Unit) ⊕ (Int×(List Zf))) :=
 if v1<(↑(List.length l0):Int) then
 (atI l0 v1).bind fun x0 =>
 (YM (IntKind.i64.wrap (IntKind.i64.wrap (IntKind.i64.wrap (IntKind.i64.wrap (IntKind.i64.wrap (v0+1)+1)+1)+1)+1))).bind fun markText0 =>
 (Ym x0.snd.snd.snd.snd.snd.snd.fst.fst (IntKind.i64.wrap (IntKind.i64.wrap (IntKind.i64.wrap (IntKind.i64.wrap (IntKind.i64.wrap (IntKind.i64.wrap (v0+1)+1)+1)+1)+1)+1))).bind fun markInt64S0 =>
 (Ym x0.snd.snd.snd.snd.snd.snd.fst.snd.fst markInt64S0.fst).bind fun markInt64S1 =>
 (Ym x0.snd.snd.snd.snd.snd.snd.fst.snd.snd.fst markInt64S1.fst).bind fun markInt64S2 =>
 (Ym x0.snd.snd.snd.snd.snd.snd.fst.snd.snd.snd.fst markInt64S2.fst).bind fun markInt64S3 =>
 some (.inl (markInt64S3.fst,IntKind.i64.wrap (v1+1),List.set l0 (Int.toNat v1) (v0,IntKind.i64.wrap (v0+1),IntKind.i64.wrap (IntKind.i64.wrap (v0+1)+1),IntKind.i64.wrap (IntKind.i64.wrap (IntKind.i64.wrap (v0+1)+1)+1),IntKind.i64.wrap (IntKind.i64.wrap (IntKind.i64.wrap (IntKind.i64.wrap (v0+1)+1)+1)+1),markText0,(markInt64S0.snd,markInt64S1.snd,markInt64S2.snd,markInt64S3.snd,()),()),()))
 else
 some (.inr (v0,l0))
def ZbD (a0:List Zf) (a1:Int):Option (Int×(List Zf)) :=
 Zu (fun v=>Jj v.1 v.2.1 v.2.2.1) (a1,(0:Int),a0,())
def c218:Ctr:=⟨[.back (.ol 74 (Zld)),.dat (.int .i64)],[.dat (.int .i64)],fun a K=>splitK a fun a0 a=>splitK a fun a1 a=>Y4 (ZbD a0 a1) fun r=>K (r.1,()) (r.2,())⟩
def Vr (a0:List Yv) (k1:Int) (i0:Int):Option ((Int×Int×Unit) ⊕ Int) :=
 if i0<(↑(List.length a0):Int) then
 (atI a0 i0).bind fun x0 =>
 (YM k1).bind fun markText0 =>
 if Yv.Name x0=markText0 then
 if Yv.Dir x0=IntKind.i64.wrap (k1+1) then
 if Yv.Cap x0=IntKind.i64.wrap (IntKind.i64.wrap (k1+1)+1) then
 if (Yv.Clock x0 == Decidable.decide (Int.tmod (IntKind.i64.wrap (IntKind.i64.wrap (IntKind.i64.wrap (k1+1)+1)+1)) 3=0))=true then
 some (.inl (IntKind.i64.wrap (IntKind.i64.wrap (IntKind.i64.wrap (IntKind.i64.wrap (k1+1)+1)+1)+1),IntKind.i64.wrap (i0+1),()))
 else
 some (.inr (-1))
 else
 some (.inr (-1))
 else
 some (.inr (-1))
 else
 some (.inr (-1))
 else
 some (.inr k1)
def Zcw (a0:List Yv) (k0:Int):Option Int :=
 Zu (fun v=>Vr a0 v.1 v.2.1) (k0,(0:Int),())
def Zx1:Ctr:=D2 (.sl (Je)) (.int .i64) (.int .i64) Zcw
def Qu (a0:List Int) (k1:Int) (i0:Int):Option ((Int×Int×Unit) ⊕ Int) :=
 if i0<(↑(List.length a0):Int) then
 (atI a0 i0).bind fun x0 =>
 if x0=k1 then
 some (.inl (IntKind.i64.wrap (k1+1),IntKind.i64.wrap (i0+1),()))
 else
 some (.inr (-1))
 else
 some (.inr k1)
def YT (a0:List Int) (k0:Int):Option Int :=
 Zu (fun v=>Qu a0 v.1 v.2.1) (k0,(0:Int),())
def Zwh:Ctr:=D2 (.sl (.int .i64)) (.int .i64) (.int .i64) YT
def Qt (a0:List Zt) (k1:Int) (i0:Int):Option ((Int×Int×Unit) ⊕ Int) :=
 if i0<(↑(List.length a0):Int) then
 (atI a0 i0).bind fun x0 =>
 (YT (Zt.Zfx x0) k1).bind fun heldInt64S0 =>
 if heldInt64S0<0 then
 some (.inr (-1))
 else
 (YT (Zt.Loads x0) heldInt64S0).bind fun heldInt64S1 =>
 if heldInt64S1<0 then
 some (.inr (-1))
 else
 (YT (Zt.Values x0) heldInt64S1).bind fun heldInt64S2 =>
 if heldInt64S2<0 then
 some (.inr (-1))
 else
 some (.inl (heldInt64S2,IntKind.i64.wrap (i0+1),()))
 else
 some (.inr k1)
def Zaa (a0:List Zt) (k0:Int):Option Int :=
 Zu (fun v=>Qt a0 v.1 v.2.1) (k0,(0:Int),())
def Zy0:Ctr:=D2 (.sl (Yh)) (.int .i64) (.int .i64) Zaa
def Vu (a0:List ZM) (v0:Int) (v1:Int):Option ((Int×Int×Unit) ⊕ Int) :=
 if v1<(↑(List.length a0):Int) then
 (atI a0 v1).bind fun x0 =>
 if ZM.Kind x0=v0 then
 if ZM.From x0=IntKind.i64.wrap (v0+1) then
 if ZM.To x0=IntKind.i64.wrap (IntKind.i64.wrap (v0+1)+1) then
 if ZM.ZcL x0=IntKind.i64.wrap (IntKind.i64.wrap (IntKind.i64.wrap (v0+1)+1)+1) then
 (Zaa (ZM.Delay x0) (IntKind.i64.wrap (IntKind.i64.wrap (IntKind.i64.wrap (IntKind.i64.wrap (v0+1)+1)+1)+1))).bind fun heldTableS0 =>
 if heldTableS0<0 then
 some (.inr (-1))
 else
 (Zaa (ZM.Zhj x0) heldTableS0).bind fun heldTableS1 =>
 if heldTableS1<0 then
 some (.inr (-1))
 else
 some (.inl (heldTableS1,IntKind.i64.wrap (v1+1),()))
 else
 some (.inr (-1))
 else
 some (.inr (-1))
 else
 some (.inr (-1))
 else
 some (.inr (-1))
 else
 some (.inr v0)
def Zcm (a0:List ZM) (a1:Int):Option Int :=
 Zu (fun v=>Vu a0 v.1 v.2.1) (a1,(0:Int),())
def c222:Ctr:=D2 (.sl (ZaK)) (.int .i64) (.int .i64) Zcm
def Q5 (a0:List Zh) (v0:Int) (v1:Int):Option ((Int×Int×Unit) ⊕ Int) :=
 if v1<(↑(List.length a0):Int) then
 (atI a0 v1).bind fun x0 =>
 (YM v0).bind fun markText0 =>
 if Zh.Name x0=markText0 then
 if Zh.Kind x0=IntKind.i64.wrap (v0+1) then
 (Zcw (Zh.YC x0) (IntKind.i64.wrap (IntKind.i64.wrap (v0+1)+1))).bind fun heldPinS0 =>
 if heldPinS0<0 then
 some (.inr (-1))
 else
 (Zcm (Zh.Zbc x0) heldPinS0).bind fun heldArcS0 =>
 if heldArcS0<0 then
 some (.inr (-1))
 else
 (YT (Zh.Truth x0) heldArcS0).bind fun heldInt64S0 =>
 if heldInt64S0<0 then
 some (.inr (-1))
 else
 if Zh.Zsj x0=heldInt64S0 then
 if Zh.ZgT x0=IntKind.i64.wrap (heldInt64S0+1) then
 some (.inl (IntKind.i64.wrap (IntKind.i64.wrap (heldInt64S0+1)+1),IntKind.i64.wrap (v1+1),()))
 else
 some (.inr (-1))
 else
 some (.inr (-1))
 else
 some (.inr (-1))
 else
 some (.inr (-1))
 else
 some (.inr v0)
def ZbJ (a0:List Zh) (a1:Int):Option Int :=
 Zu (fun v=>Q5 a0 v.1 v.2.1) (a1,(0:Int),())
def Zyk:Ctr:=D2 (.sl (YL)) (.int .i64) (.int .i64) ZbJ
def Zan (a0:Zl) (k0:Int):Option Int :=
 (ZbJ (Zl.Cells a0) k0).bind fun heldCellS0 =>
 if heldCellS0<0 then
 some (-1)
 else
 some heldCellS0
def ZxL:Ctr:=D2 (Z6) (.int .i64) (.int .i64) Zan
def Xr (a0:List Zd) (k1:Int) (i0:Int):Option ((Int×Int×Unit) ⊕ Int) :=
 if i0<(↑(List.length a0):Int) then
 (atI a0 i0).bind fun x0 =>
 (YM k1).bind fun markText0 =>
 if Zd.Name x0=markText0 then
 if Zd.Cell x0=IntKind.i64.wrap (k1+1) then
 (YT (Zd.ZP x0) (IntKind.i64.wrap (IntKind.i64.wrap (k1+1)+1))).bind fun heldInt64S0 =>
 if heldInt64S0<0 then
 some (.inr (-1))
 else
 some (.inl (heldInt64S0,IntKind.i64.wrap (i0+1),()))
 else
 some (.inr (-1))
 else
 some (.inr (-1))
 else
 some (.inr k1)
def V6 (a0:List Zd) (k0:Int):Option Int :=
 Zu (fun v=>Xr a0 v.1 v.2.1) (k0,(0:Int),())
def Zx6:Ctr:=D2 (.sl (Zw)) (.int .i64) (.int .i64) V6
def XY (a0:List (List UInt8)) (k1:Int) (i0:Int):Option ((Int×Int×Unit) ⊕ Int) :=
 if i0<(↑(List.length a0):Int) then
 (atI a0 i0).bind fun x0 =>
 (YM k1).bind fun markText0 =>
 if x0=markText0 then
 some (.inl (IntKind.i64.wrap (k1+1),IntKind.i64.wrap (i0+1),()))
 else
 some (.inr (-1))
 else
 some (.inr k1)
def Zal (a0:List (List UInt8)) (k0:Int):Option Int :=
 Zu (fun v=>XY a0 v.1 v.2.1) (k0,(0:Int),())
def c226:Ctr:=D2 (.sl (.str)) (.int .i64) (.int .i64) Zal
def Vb (a0:List ZI) (k1:Int) (i0:Int):Option ((Int×Int×Unit) ⊕ Int) :=
 if i0<(↑(List.length a0):Int) then
 (atI a0 i0).bind fun x0 =>
 (YM k1).bind fun markText0 =>
 if ZI.Name x0=markText0 then
 if ZI.Dir x0=IntKind.i64.wrap (k1+1) then
 if ZI.Net x0=IntKind.i64.wrap (IntKind.i64.wrap (k1+1)+1) then
 some (.inl (IntKind.i64.wrap (IntKind.i64.wrap (IntKind.i64.wrap (k1+1)+1)+1),IntKind.i64.wrap (i0+1),()))
 else
 some (.inr (-1))
 else
 some (.inr (-1))
 else
 some (.inr (-1))
 else
 some (.inr k1)
def ZbK (a0:List ZI) (k0:Int):Option Int :=
 Zu (fun v=>Vb a0 v.1 v.2.1) (k0,(0:Int),())
def c227:Ctr:=D2 (.sl (Xa)) (.int .i64) (.int .i64) ZbK
def Za2 (a0:Za) (k0:Int):Option Int :=
 (V6 (Za.Instances a0) k0).bind fun heldInstanceS0 =>
 if heldInstanceS0<0 then
 some (-1)
 else
 (Zal (Za.ZP a0) heldInstanceS0).bind fun heldStringS0 =>
 if heldStringS0<0 then
 some (-1)
 else
 (ZbK (Za.Z0 a0) heldStringS0).bind fun heldPortS0 =>
 if heldPortS0<0 then
 some (-1)
 else
 some heldPortS0
def c228:Ctr:=D2 (Z9) (.int .i64) (.int .i64) Za2
def Q6 (a0:List Zn) (k1:Int) (i0:Int):Option ((Int×Int×Unit) ⊕ Int) :=
 if i0<(↑(List.length a0):Int) then
 (atI a0 i0).bind fun x0 =>
 (YT (Zn.Parent x0) k1).bind fun heldInt64S0 =>
 if heldInt64S0<0 then
 some (.inr (-1))
 else
 (YT (Zn.Res x0) heldInt64S0).bind fun heldInt64S1 =>
 if heldInt64S1<0 then
 some (.inr (-1))
 else
 (YT (Zn.Cap x0) heldInt64S1).bind fun heldInt64S2 =>
 if heldInt64S2<0 then
 some (.inr (-1))
 else
 (YT (Zn.ZfM x0) heldInt64S2).bind fun heldInt64S3 =>
 if heldInt64S3<0 then
 some (.inr (-1))
 else
 some (.inl (heldInt64S3,IntKind.i64.wrap (i0+1),()))
 else
 some (.inr k1)
def ZbH (a0:List Zn) (k0:Int):Option Int :=
 Zu (fun v=>Q6 a0 v.1 v.2.1) (k0,(0:Int),())
def c229:Ctr:=D2 (.sl (YP)) (.int .i64) (.int .i64) ZbH
def ZbO (a0:Zb) (k0:Int):Option Int :=
 (Zan (Zb.Library a0) k0).bind fun heldLibrary0 =>
 if heldLibrary0<0 then
 some (-1)
 else
 (Za2 (Zb.Design a0) heldLibrary0).bind fun heldDesign0 =>
 if heldDesign0<0 then
 some (-1)
 else
 (ZbH (Zb.Zy a0) heldDesign0).bind fun heldWireS0 =>
 if heldWireS0<0 then
 some (-1)
 else
 some heldWireS0
def ZxZ:Ctr:=D2 (Yt) (.int .i64) (.int .i64) ZbO
def Vo (a0:Zb) (a1:List Zf):Option Bool :=
 (Zbe a0 1048576).bind fun szBlock0 =>
 if szBlock0<0 then
 some Bool.true
 else
 (Zbd a1 szBlock0).bind fun szEditS0 =>
 if szEditS0<0 then
 some Bool.true
 else
 (Zdv a0).bind fun toBlock0 =>
 (Zds a1).bind fun toEditS0 =>
 (Za9 toBlock0 toEditS0).bind fun ApplyEdits0 =>
 (ZaZ toBlock0 toEditS0).bind fun ApplyEdits1 =>
 (Zce ApplyEdits1.fst ApplyEdits0.fst).bind fun eqBlock0 =>
 if eqBlock0=true then
 if ApplyEdits1.snd.fst=ApplyEdits0.snd.fst then
 if ApplyEdits1.snd.snd=ApplyEdits0.snd.snd then
 (Zce toBlock0 toBlock0).bind fun eqBlock1 =>
 if eqBlock1=true then
 (Zdu toEditS0 toEditS0).bind fun eqEditS0 =>
 if eqEditS0=true then
 (VH toBlock0 1).bind fun markBlock0 =>
 (ZbD toEditS0 markBlock0.fst).bind fun markEditS0 =>
 if markEditS0.fst<0 then
 some Bool.false
 else
 if eqBlock0=true then
 if ApplyEdits1.snd.fst=ApplyEdits0.snd.fst then
 if ApplyEdits1.snd.snd=ApplyEdits0.snd.snd then
 (VH ApplyEdits1.fst 1).bind fun markBlock1 =>
 (ZbO markBlock1.snd 1).bind fun heldBlock0 =>
 if heldBlock0<0 then
 some Bool.false
 else
 if heldBlock0=markBlock1.fst then
 if eqBlock0=true then
 if ApplyEdits1.snd.fst=ApplyEdits0.snd.fst then
 if ApplyEdits1.snd.snd=ApplyEdits0.snd.snd then
 if heldBlock0<0 then
 some Bool.false
 else
 if heldBlock0=markBlock1.fst then
 some Bool.true
 else
 some Bool.false
 else
 some Bool.false
 else
 some Bool.false
 else
 some Bool.false
 else
 some Bool.false
 else
 some Bool.false
 else
 some Bool.false
 else
 some Bool.false
 else
 some Bool.false
 else
 some Bool.false
 else
 some Bool.false
 else
 some Bool.false
 else
 some Bool.false
def Zdm:Ctr:=⟨[.dat (Yt),.dat (.sl (Y9))],[.dat (.bool)],fun a K=>splitK a fun a0 a=>splitK a fun a1 a=>Y4 (Vo a0 a1) fun r=>K (r,()) ()⟩
end
end Go.Proofs.YtfndhpjedmopdaaGreatDoor
