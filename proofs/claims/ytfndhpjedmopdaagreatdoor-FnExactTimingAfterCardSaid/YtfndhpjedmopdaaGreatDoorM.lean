/-
 The models of the functions and their contracts. Printed by program.
-/
import Derived.Test.YtfndhpjedmopdaaGreatDoorSxTab
import Derived.Test.YtfndhpjedmopdaaGreatDoorSxS0
import Derived.Test.YtfndhpjedmopdaaGreatDoorSxLib
namespace Go.Proofs.YtfndhpjedmopdaaGreatDoor
open Go Go.Sx
set_option maxRecDepth 100000
set_option maxHeartbeats 3200000
set_option linter.unusedVariables false
set_option linter.unusedSimpArgs false
noncomputable section
def ZbG (a0:Yz) (left0:Int):Option Int :=
 if IntKind.i64.wrap (left0-(↑(List.length (Yz.Name a0)):Int))<0 then
 some (-1)
 else
 some (IntKind.i64.wrap (left0-(↑(List.length (Yz.Name a0)):Int)))
def c0:Ctr:=D2 (ZdO) (.int .i64) (.int .i64) ZbG
def ZeT (a0:List Yz) (left1:Int) (i0:Int):Option ((Int×Int×Unit) ⊕ Int) :=
 if i0<(↑(List.length a0):Int) then
 (atI a0 i0).bind fun x0 =>
 (ZbG x0 left1).bind fun szPin0 =>
 if szPin0<0 then
 some (.inr (-1))
 else
 some (.inl (szPin0,IntKind.i64.wrap (i0+1),()))
 else
 some (.inr left1)
def Zcg (a0:List Yz) (left0:Int):Option Int :=
 if IntKind.i64.wrap (left0-(↑(List.length a0):Int))<0 then
 some (-1)
 else
 Zt (fun v=>ZeT a0 v.1 v.2.1) (IntKind.i64.wrap (left0-(↑(List.length a0):Int)),(0:Int),())
def c1:Ctr:=D2 (.sl (ZdO)) (.int .i64) (.int .i64) Zcg
def YZ (a0:List Int) (left0:Int):Option Int :=
 if IntKind.i64.wrap (left0-(↑(List.length a0):Int))<0 then
 some (-1)
 else
 some (IntKind.i64.wrap (left0-(↑(List.length a0):Int)))
def c2:Ctr:=D2 (.sl (.int .i64)) (.int .i64) (.int .i64) YZ
def Jb (a0:Zx) (left0:Int):Option Int :=
 (YZ (Zx.Zgn a0) left0).bind fun szInt64S0 =>
 if szInt64S0<0 then
 some (-1)
 else
 (YZ (Zx.Loads a0) szInt64S0).bind fun szInt64S1 =>
 if szInt64S1<0 then
 some (-1)
 else
 (YZ (Zx.Values a0) szInt64S1).bind fun szInt64S2 =>
 if szInt64S2<0 then
 some (-1)
 else
 some szInt64S2
def c3:Ctr:=D2 (YP) (.int .i64) (.int .i64) Jb
def Zdo (a0:List Zx) (left1:Int) (i0:Int):Option ((Int×Int×Unit) ⊕ Int) :=
 if i0<(↑(List.length a0):Int) then
 (atI a0 i0).bind fun x0 =>
 (Jb x0 left1).bind fun szTable0 =>
 if szTable0<0 then
 some (.inr (-1))
 else
 some (.inl (szTable0,IntKind.i64.wrap (i0+1),()))
 else
 some (.inr left1)
def V8 (a0:List Zx) (left0:Int):Option Int :=
 if IntKind.i64.wrap (left0-(↑(List.length a0):Int))<0 then
 some (-1)
 else
 Zt (fun v=>Zdo a0 v.1 v.2.1) (IntKind.i64.wrap (left0-(↑(List.length a0):Int)),(0:Int),())
def c4:Ctr:=D2 (.sl (YP)) (.int .i64) (.int .i64) V8
def Zbw (a0:ZJ) (left0:Int):Option Int :=
 (V8 (ZJ.Delay a0) left0).bind fun szTableS0 =>
 if szTableS0<0 then
 some (-1)
 else
 (V8 (ZJ.ZbU a0) szTableS0).bind fun szTableS1 =>
 if szTableS1<0 then
 some (-1)
 else
 some szTableS1
def c5:Ctr:=D2 (Zfc) (.int .i64) (.int .i64) Zbw
def ZlG (a0:List ZJ) (left1:Int) (i0:Int):Option ((Int×Int×Unit) ⊕ Int) :=
 if i0<(↑(List.length a0):Int) then
 (atI a0 i0).bind fun x0 =>
 (Zbw x0 left1).bind fun szArc0 =>
 if szArc0<0 then
 some (.inr (-1))
 else
 some (.inl (szArc0,IntKind.i64.wrap (i0+1),()))
 else
 some (.inr left1)
def ZeV (a0:List ZJ) (left0:Int):Option Int :=
 if IntKind.i64.wrap (left0-(↑(List.length a0):Int))<0 then
 some (-1)
 else
 Zt (fun v=>ZlG a0 v.1 v.2.1) (IntKind.i64.wrap (left0-(↑(List.length a0):Int)),(0:Int),())
def c6:Ctr:=D2 (.sl (Zfc)) (.int .i64) (.int .i64) ZeV
def Zb3 (a0:Zi) (left0:Int):Option Int :=
 if IntKind.i64.wrap (left0-(↑(List.length (Zi.Name a0)):Int))<0 then
 some (-1)
 else
 (Zcg (Zi.Yx a0) (IntKind.i64.wrap (left0-(↑(List.length (Zi.Name a0)):Int)))).bind fun szPinS0 =>
 if szPinS0<0 then
 some (-1)
 else
 (ZeV (Zi.ZaZ a0) szPinS0).bind fun szArcS0 =>
 if szArcS0<0 then
 some (-1)
 else
 (YZ (Zi.Truth a0) szArcS0).bind fun szInt64S0 =>
 if szInt64S0<0 then
 some (-1)
 else
 some szInt64S0
def c7:Ctr:=D2 (X3) (.int .i64) (.int .i64) Zb3
def Zef (a0:List Zi) (left1:Int) (i0:Int):Option ((Int×Int×Unit) ⊕ Int) :=
 if i0<(↑(List.length a0):Int) then
 (atI a0 i0).bind fun x0 =>
 (Zb3 x0 left1).bind fun szCell0 =>
 if szCell0<0 then
 some (.inr (-1))
 else
 some (.inl (szCell0,IntKind.i64.wrap (i0+1),()))
 else
 some (.inr left1)
def Za5 (a0:List Zi) (left0:Int):Option Int :=
 if IntKind.i64.wrap (left0-(↑(List.length a0):Int))<0 then
 some (-1)
 else
 Zt (fun v=>Zef a0 v.1 v.2.1) (IntKind.i64.wrap (left0-(↑(List.length a0):Int)),(0:Int),())
def c8:Ctr:=D2 (.sl (X3)) (.int .i64) (.int .i64) Za5
def Je (a0:Zk) (left0:Int):Option Int :=
 (Za5 (Zk.Cells a0) left0).bind fun szCellS0 =>
 if szCellS0<0 then
 some (-1)
 else
 some szCellS0
def c9:Ctr:=D2 (YH) (.int .i64) (.int .i64) Je
def XW (a0:Zd) (left0:Int):Option Int :=
 if IntKind.i64.wrap (left0-(↑(List.length (Zd.Name a0)):Int))<0 then
 some (-1)
 else
 (YZ (Zd.ZM a0) (IntKind.i64.wrap (left0-(↑(List.length (Zd.Name a0)):Int)))).bind fun szInt64S0 =>
 if szInt64S0<0 then
 some (-1)
 else
 some szInt64S0
def c10:Ctr:=D2 (Z0) (.int .i64) (.int .i64) XW
def ZhV (a0:List Zd) (left1:Int) (i0:Int):Option ((Int×Int×Unit) ⊕ Int) :=
 if i0<(↑(List.length a0):Int) then
 (atI a0 i0).bind fun x0 =>
 (XW x0 left1).bind fun szInstance0 =>
 if szInstance0<0 then
 some (.inr (-1))
 else
 some (.inl (szInstance0,IntKind.i64.wrap (i0+1),()))
 else
 some (.inr left1)
def Zae (a0:List Zd) (left0:Int):Option Int :=
 if IntKind.i64.wrap (left0-(↑(List.length a0):Int))<0 then
 some (-1)
 else
 Zt (fun v=>ZhV a0 v.1 v.2.1) (IntKind.i64.wrap (left0-(↑(List.length a0):Int)),(0:Int),())
def c11:Ctr:=D2 (.sl (Z0)) (.int .i64) (.int .i64) Zae
def XL (a0:List (List UInt8)) (left1:Int) (i0:Int):Option ((Int×Int×Unit) ⊕ Int) :=
 if i0<(↑(List.length a0):Int) then
 (atI a0 i0).bind fun x0 =>
 if IntKind.i64.wrap (left1-(↑(List.length x0):Int))<0 then
 some (.inr (-1))
 else
 some (.inl (IntKind.i64.wrap (left1-(↑(List.length x0):Int)),IntKind.i64.wrap (i0+1),()))
 else
 some (.inr left1)
def Jd (a0:List (List UInt8)) (left0:Int):Option Int :=
 if IntKind.i64.wrap (left0-(↑(List.length a0):Int))<0 then
 some (-1)
 else
 Zt (fun v=>XL a0 v.1 v.2.1) (IntKind.i64.wrap (left0-(↑(List.length a0):Int)),(0:Int),())
def c12:Ctr:=D2 (.sl (.str)) (.int .i64) (.int .i64) Jd
def ZaH (a0:ZV) (left0:Int):Option Int :=
 if IntKind.i64.wrap (left0-(↑(List.length (ZV.Name a0)):Int))<0 then
 some (-1)
 else
 some (IntKind.i64.wrap (left0-(↑(List.length (ZV.Name a0)):Int)))
def c13:Ctr:=D2 (J5) (.int .i64) (.int .i64) ZaH
def Zj5 (a0:List ZV) (left1:Int) (i0:Int):Option ((Int×Int×Unit) ⊕ Int) :=
 if i0<(↑(List.length a0):Int) then
 (atI a0 i0).bind fun x0 =>
 (ZaH x0 left1).bind fun szPort0 =>
 if szPort0<0 then
 some (.inr (-1))
 else
 some (.inl (szPort0,IntKind.i64.wrap (i0+1),()))
 else
 some (.inr left1)
def ZdG (a0:List ZV) (left0:Int):Option Int :=
 if IntKind.i64.wrap (left0-(↑(List.length a0):Int))<0 then
 some (-1)
 else
 Zt (fun v=>Zj5 a0 v.1 v.2.1) (IntKind.i64.wrap (left0-(↑(List.length a0):Int)),(0:Int),())
def c14:Ctr:=D2 (.sl (J5)) (.int .i64) (.int .i64) ZdG
def Zam (a0:Zb) (left0:Int):Option Int :=
 (Zae (Zb.Instances a0) left0).bind fun szInstanceS0 =>
 if szInstanceS0<0 then
 some (-1)
 else
 (Jd (Zb.ZM a0) szInstanceS0).bind fun szStringS0 =>
 if szStringS0<0 then
 some (-1)
 else
 (ZdG (Zb.ZQ a0) szStringS0).bind fun szPortS0 =>
 if szPortS0<0 then
 some (-1)
 else
 some szPortS0
def c15:Ctr:=D2 (Yn) (.int .i64) (.int .i64) Zam
def JI (a0:Zo) (left0:Int):Option Int :=
 (YZ (Zo.Parent a0) left0).bind fun szInt64S0 =>
 if szInt64S0<0 then
 some (-1)
 else
 (YZ (Zo.Res a0) szInt64S0).bind fun szInt64S1 =>
 if szInt64S1<0 then
 some (-1)
 else
 (YZ (Zo.Cap a0) szInt64S1).bind fun szInt64S2 =>
 if szInt64S2<0 then
 some (-1)
 else
 (YZ (Zo.Zfj a0) szInt64S2).bind fun szInt64S3 =>
 if szInt64S3<0 then
 some (-1)
 else
 some szInt64S3
def c16:Ctr:=D2 (X6) (.int .i64) (.int .i64) JI
def Zd9 (a0:List Zo) (left1:Int) (i0:Int):Option ((Int×Int×Unit) ⊕ Int) :=
 if i0<(↑(List.length a0):Int) then
 (atI a0 i0).bind fun x0 =>
 (JI x0 left1).bind fun szWire0 =>
 if szWire0<0 then
 some (.inr (-1))
 else
 some (.inl (szWire0,IntKind.i64.wrap (i0+1),()))
 else
 some (.inr left1)
def Za3 (a0:List Zo) (left0:Int):Option Int :=
 if IntKind.i64.wrap (left0-(↑(List.length a0):Int))<0 then
 some (-1)
 else
 Zt (fun v=>Zd9 a0 v.1 v.2.1) (IntKind.i64.wrap (left0-(↑(List.length a0):Int)),(0:Int),())
def c17:Ctr:=D2 (.sl (X6)) (.int .i64) (.int .i64) Za3
def Za8 (a0:Za) (left0:Int):Option Int :=
 (Je (Za.Library a0) left0).bind fun szLibrary0 =>
 if szLibrary0<0 then
 some (-1)
 else
 (Zam (Za.Design a0) szLibrary0).bind fun szDesign0 =>
 if szDesign0<0 then
 some (-1)
 else
 (Za3 (Za.Zy a0) szDesign0).bind fun szWireS0 =>
 if szWireS0<0 then
 some (-1)
 else
 some szWireS0
def c18:Ctr:=D2 (YG) (.int .i64) (.int .i64) Za8
def Zb5 (a0:Zg) (left0:Int):Option Int :=
 if IntKind.i64.wrap (left0-(↑(List.length (Zg.Name a0)):Int))<0 then
 some (-1)
 else
 (JI (Zg.Zet a0) (IntKind.i64.wrap (left0-(↑(List.length (Zg.Name a0)):Int)))).bind fun szWire0 =>
 if szWire0<0 then
 some (-1)
 else
 some szWire0
def c19:Ctr:=D2 (QW) (.int .i64) (.int .i64) Zb5
def Za9 (a0:List Bool) (left0:Int):Option Int :=
 if IntKind.i64.wrap (left0-(↑(List.length a0):Int))<0 then
 some (-1)
 else
 some (IntKind.i64.wrap (left0-(↑(List.length a0):Int)))
def c20:Ctr:=D2 (.sl (.bool)) (.int .i64) (.int .i64) Za9
def Zaj (a0:List Yh) (left0:Int):Option Int :=
 if IntKind.i64.wrap (left0-(↑(List.length a0):Int))<0 then
 some (-1)
 else
 some (IntKind.i64.wrap (left0-(↑(List.length a0):Int)))
def c21:Ctr:=D2 (.sl (Xj)) (.int .i64) (.int .i64) Zaj
def Zax (a0:Zn) (left0:Int):Option Int :=
 (Za9 (Zn.Reached a0) left0).bind fun szBoolS0 =>
 if szBoolS0<0 then
 some (-1)
 else
 (Zaj (Zn.Y7 a0) szBoolS0).bind fun szSpanS0 =>
 if szSpanS0<0 then
 some (-1)
 else
 (Zaj (Zn.ZbU a0) szSpanS0).bind fun szSpanS1 =>
 if szSpanS1<0 then
 some (-1)
 else
 some szSpanS1
def c22:Ctr:=D2 (YB) (.int .i64) (.int .i64) Zax
def ZeS (a0:Yz):Option Yz :=
 some a0
def c23:Ctr:=D1 (ZdO) (ZdO) ZeS
def ZeA (a0:List Yz) (i0:Int) (l0:List (List UInt8×Int×Int×Bool×Unit)):Option ((Int×(List (List UInt8×Int×Int×Bool×Unit))×Unit) ⊕ List Yz) :=
 if i0<(↑(List.length a0):Int) then
 (atI a0 i0).bind fun x0 =>
 (ZeS x0).bind fun toPin0 =>
 (atI l0 i0).bind fun x1 =>
 some (.inl (IntKind.i64.wrap (i0+1),List.set l0 (Int.toNat i0) toPin0,()))
 else
 some (.inr l0)
def ZeM (a0:List Yz):Option (List Yz) :=
 Zp ((0:Int)≤(↑(List.length a0):Int)) <|
 Zp ((↑(List.length a0):Int)≤(↑(List.length a0):Int)) <|
 Zp ((↑(List.length a0):Int)≤(4611686018427387904:Int)) <|
 Zp ((↑(40:Nat):Int)*(↑(List.length a0):Int)≤(281474976710656:Int)) <|
 Zt (fun v=>ZeA a0 v.1 v.2.1) ((0:Int),List.replicate (Int.toNat (↑(List.length a0):Int)) (([]:List UInt8),(0:Int),(0:Int),Bool.false,()),())
def c24:Ctr:=⟨[.dat (.sl (ZdO))],[.own (.ol 260 (.flat (ZdO)))],fun a K=>splitK a fun a0 a=>YJ (ZeM a0) fun r=>K (r,()) ()⟩
def Zdf (a0:List Int) (i0:Int) (l0:List Int):Option ((Int×(List Int)×Unit) ⊕ List Int) :=
 if i0<(↑(List.length a0):Int) then
 (atI a0 i0).bind fun x0 =>
 (atI l0 i0).bind fun x1 =>
 some (.inl (IntKind.i64.wrap (i0+1),List.set l0 (Int.toNat i0) x0,()))
 else
 some (.inr l0)
def Xn (a0:List Int):Option (List Int) :=
 Zp ((0:Int)≤(↑(List.length a0):Int)) <|
 Zp ((↑(List.length a0):Int)≤(↑(List.length a0):Int)) <|
 Zp ((↑(List.length a0):Int)≤(4611686018427387904:Int)) <|
 Zp ((↑(8:Nat):Int)*(↑(List.length a0):Int)≤(281474976710656:Int)) <|
 Zt (fun v=>Zdf a0 v.1 v.2.1) ((0:Int),List.replicate (Int.toNat (↑(List.length a0):Int)) (0:Int),())
def c25:Ctr:=⟨[.dat (.sl (.int .i64))],[.own (.ol 2 (.flat (.int .i64)))],fun a K=>splitK a fun a0 a=>YJ (Xn a0) fun r=>K (r,()) ()⟩
def Zb1 (a0:Zx):Option Zx :=
 (Xn (Zx.Zgn a0)).bind fun toInt64S0 =>
 (Xn (Zx.Loads a0)).bind fun toInt64S1 =>
 (Xn (Zx.Values a0)).bind fun toInt64S2 =>
 some (toInt64S0,toInt64S1,toInt64S2,())
def c26:Ctr:=⟨[.dat (YP)],[.own (Ze9)],fun a K=>splitK a fun a0 a=>YJ (Zb1 a0) fun r=>K (r,()) ()⟩
def Zdk (a0:List Zx) (i0:Int) (l0:List Zx):Option ((Int×(List Zx)×Unit) ⊕ List Zx) :=
 if i0<(↑(List.length a0):Int) then
 (atI a0 i0).bind fun x0 =>
 (Zb1 x0).bind fun toTable0 =>
 (atI l0 i0).bind fun x1 =>
 some (.inl (IntKind.i64.wrap (i0+1),List.set l0 (Int.toNat i0) toTable0,()))
 else
 some (.inr l0)
def Zbb (a0:List Zx):Option (List Zx) :=
 Zp ((0:Int)≤(↑(List.length a0):Int)) <|
 Zp ((↑(List.length a0):Int)≤(↑(List.length a0):Int)) <|
 Zp ((↑(List.length a0):Int)≤(4611686018427387904:Int)) <|
 Zp ((↑(72:Nat):Int)*(↑(List.length a0):Int)≤(281474976710656:Int)) <|
 Zt (fun v=>Zdk a0 v.1 v.2.1) ((0:Int),List.replicate (Int.toNat (↑(List.length a0):Int)) (([]:List Int),([]:List Int),([]:List Int),()),())
def c27:Ctr:=⟨[.dat (.sl (YP))],[.own (.ol 290 (Ze9))],fun a K=>splitK a fun a0 a=>YJ (Zbb a0) fun r=>K (r,()) ()⟩
def ZeK (a0:ZJ):Option ZJ :=
 (Zbb (ZJ.Delay a0)).bind fun toTableS0 =>
 (Zbb (ZJ.ZbU a0)).bind fun toTableS1 =>
 some (ZJ.Kind a0,ZJ.From a0,ZJ.To a0,ZJ.Zcl a0,toTableS0,toTableS1,())
def c28:Ctr:=⟨[.dat (Zfc)],[.own (ZtF)],fun a K=>splitK a fun a0 a=>YJ (ZeK a0) fun r=>K (r,()) ()⟩
def Zep (a0:List ZJ) (i0:Int) (l0:List ZJ):Option ((Int×(List ZJ)×Unit) ⊕ List ZJ) :=
 if i0<(↑(List.length a0):Int) then
 (atI a0 i0).bind fun x0 =>
 (ZeK x0).bind fun toArc0 =>
 (atI l0 i0).bind fun x1 =>
 some (.inl (IntKind.i64.wrap (i0+1),List.set l0 (Int.toNat i0) toArc0,()))
 else
 some (.inr l0)
def ZeU (a0:List ZJ):Option (List ZJ) :=
 Zp ((0:Int)≤(↑(List.length a0):Int)) <|
 Zp ((↑(List.length a0):Int)≤(↑(List.length a0):Int)) <|
 Zp ((↑(List.length a0):Int)≤(4611686018427387904:Int)) <|
 Zp ((↑(80:Nat):Int)*(↑(List.length a0):Int)≤(281474976710656:Int)) <|
 Zt (fun v=>Zep a0 v.1 v.2.1) ((0:Int),List.replicate (Int.toNat (↑(List.length a0):Int)) ((0:Int),(0:Int),(0:Int),(0:Int),([]:List Zx),([]:List Zx),()),())
def c29:Ctr:=⟨[.dat (.sl (Zfc))],[.own (.ol 235 (ZtF))],fun a K=>splitK a fun a0 a=>YJ (ZeU a0) fun r=>K (r,()) ()⟩
def Zdt (a0:Zi):Option Zi :=
 (ZeM (Zi.Yx a0)).bind fun toPinS0 =>
 (ZeU (Zi.ZaZ a0)).bind fun toArcS0 =>
 (Xn (Zi.Truth a0)).bind fun toInt64S0 =>
 some (Zi.Name a0,Zi.Kind a0,toPinS0,toArcS0,toInt64S0,a0.snd.snd.snd.snd.snd)
def c30:Ctr:=⟨[.dat (X3)],[.own (Zms)],fun a K=>splitK a fun a0 a=>YJ (Zdt a0) fun r=>K (r,()) ()⟩
def Zeh (a0:List Zi) (i0:Int) (l0:List Zi):Option ((Int×(List Zi)×Unit) ⊕ List Zi) :=
 if i0<(↑(List.length a0):Int) then
 (atI a0 i0).bind fun x0 =>
 (Zdt x0).bind fun toCell0 =>
 (atI l0 i0).bind fun x1 =>
 some (.inl (IntKind.i64.wrap (i0+1),List.set l0 (Int.toNat i0) toCell0,()))
 else
 some (.inr l0)
def ZdI (a0:List Zi):Option (List Zi) :=
 Zp ((0:Int)≤(↑(List.length a0):Int)) <|
 Zp ((↑(List.length a0):Int)≤(↑(List.length a0):Int)) <|
 Zp ((↑(List.length a0):Int)≤(4611686018427387904:Int)) <|
 Zp ((↑(112:Nat):Int)*(↑(List.length a0):Int)≤(281474976710656:Int)) <|
 Zt (fun v=>Zeh a0 v.1 v.2.1) ((0:Int),List.replicate (Int.toNat (↑(List.length a0):Int)) (([]:List UInt8),(0:Int),([]:List Yz),([]:List ZJ),([]:List Int),(0:Int),(0:Int),()),())
def c31:Ctr:=⟨[.dat (.sl (X3))],[.own (.ol 207 (Zms))],fun a K=>splitK a fun a0 a=>YJ (ZdI a0) fun r=>K (r,()) ()⟩
def Zbv (a0:Zk):Option Zk :=
 (ZdI (Zk.Cells a0)).bind fun toCellS0 =>
 some (toCellS0,())
def c32:Ctr:=⟨[.dat (YH)],[.own (ZkH)],fun a K=>splitK a fun a0 a=>YJ (Zbv a0) fun r=>K (r,()) ()⟩
def JE (a0:Zd):Option Zd :=
 (Xn (Zd.ZM a0)).bind fun toInt64S0 =>
 some (Zd.Name a0,Zd.Cell a0,toInt64S0,())
def c33:Ctr:=⟨[.dat (Z0)],[.own (Zb4)],fun a K=>splitK a fun a0 a=>YJ (JE a0) fun r=>K (r,()) ()⟩
def ZbO (a0:List Zd) (i0:Int) (l0:List Zd):Option ((Int×(List Zd)×Unit) ⊕ List Zd) :=
 if i0<(↑(List.length a0):Int) then
 (atI a0 i0).bind fun x0 =>
 (JE x0).bind fun toInstance0 =>
 (atI l0 i0).bind fun x1 =>
 some (.inl (IntKind.i64.wrap (i0+1),List.set l0 (Int.toNat i0) toInstance0,()))
 else
 some (.inr l0)
def Zab (a0:List Zd):Option (List Zd) :=
 Zp ((0:Int)≤(↑(List.length a0):Int)) <|
 Zp ((↑(List.length a0):Int)≤(↑(List.length a0):Int)) <|
 Zp ((↑(List.length a0):Int)≤(4611686018427387904:Int)) <|
 Zp ((↑(48:Nat):Int)*(↑(List.length a0):Int)≤(281474976710656:Int)) <|
 Zt (fun v=>ZbO a0 v.1 v.2.1) ((0:Int),List.replicate (Int.toNat (↑(List.length a0):Int)) (([]:List UInt8),(0:Int),([]:List Int),()),())
def c34:Ctr:=⟨[.dat (.sl (Z0))],[.own (.ol 169 (Zb4))],fun a K=>splitK a fun a0 a=>YJ (Zab a0) fun r=>K (r,()) ()⟩
def ZcX (a0:List (List UInt8)) (i0:Int) (l0:List (List UInt8)):Option ((Int×(List (List UInt8))×Unit) ⊕ List (List UInt8)) :=
 if i0<(↑(List.length a0):Int) then
 (atI a0 i0).bind fun x0 =>
 (atI l0 i0).bind fun x1 =>
 some (.inl (IntKind.i64.wrap (i0+1),List.set l0 (Int.toNat i0) x0,()))
 else
 some (.inr l0)
def ZbJ (a0:List (List UInt8)):Option (List (List UInt8)) :=
 Zp ((0:Int)≤(↑(List.length a0):Int)) <|
 Zp ((↑(List.length a0):Int)≤(↑(List.length a0):Int)) <|
 Zp ((↑(List.length a0):Int)≤(4611686018427387904:Int)) <|
 Zp ((↑(16:Nat):Int)*(↑(List.length a0):Int)≤(281474976710656:Int)) <|
 Zt (fun v=>ZcX a0 v.1 v.2.1) ((0:Int),List.replicate (Int.toNat (↑(List.length a0):Int)) (([]:List UInt8)),())
def c35:Ctr:=⟨[.dat (.sl (.str))],[.own (.ol 9 (.flat (.str)))],fun a K=>splitK a fun a0 a=>YJ (ZbJ a0) fun r=>K (r,()) ()⟩
def Zdp (a0:ZV):Option ZV :=
 some a0
def c36:Ctr:=D1 (J5) (J5) Zdp
def ZdQ (a0:List ZV) (i0:Int) (l0:List (List UInt8×Int×Int×Unit)):Option ((Int×(List (List UInt8×Int×Int×Unit))×Unit) ⊕ List ZV) :=
 if i0<(↑(List.length a0):Int) then
 (atI a0 i0).bind fun x0 =>
 (Zdp x0).bind fun toPort0 =>
 (atI l0 i0).bind fun x1 =>
 some (.inl (IntKind.i64.wrap (i0+1),List.set l0 (Int.toNat i0) toPort0,()))
 else
 some (.inr l0)
def ZdH (a0:List ZV):Option (List ZV) :=
 Zp ((0:Int)≤(↑(List.length a0):Int)) <|
 Zp ((↑(List.length a0):Int)≤(↑(List.length a0):Int)) <|
 Zp ((↑(List.length a0):Int)≤(4611686018427387904:Int)) <|
 Zp ((↑(32:Nat):Int)*(↑(List.length a0):Int)≤(281474976710656:Int)) <|
 Zt (fun v=>ZdQ a0 v.1 v.2.1) ((0:Int),List.replicate (Int.toNat (↑(List.length a0):Int)) (([]:List UInt8),(0:Int),(0:Int),()),())
def c37:Ctr:=⟨[.dat (.sl (J5))],[.own (.ol 201 (.flat (J5)))],fun a K=>splitK a fun a0 a=>YJ (ZdH a0) fun r=>K (r,()) ()⟩
def ZcH (a0:Zb):Option Zb :=
 (Zab (Zb.Instances a0)).bind fun toInstanceS0 =>
 (ZbJ (Zb.ZM a0)).bind fun toStringS0 =>
 (ZdH (Zb.ZQ a0)).bind fun toPortS0 =>
 some (toInstanceS0,toStringS0,toPortS0,())
def c38:Ctr:=⟨[.dat (Yn)],[.own (Zlf)],fun a K=>splitK a fun a0 a=>YJ (ZcH a0) fun r=>K (r,()) ()⟩
def ZbY (a0:Zo):Option Zo :=
 (Xn (Zo.Parent a0)).bind fun toInt64S0 =>
 (Xn (Zo.Res a0)).bind fun toInt64S1 =>
 (Xn (Zo.Cap a0)).bind fun toInt64S2 =>
 (Xn (Zo.Zfj a0)).bind fun toInt64S3 =>
 some (toInt64S0,toInt64S1,toInt64S2,toInt64S3,())
def c39:Ctr:=⟨[.dat (X6)],[.own (ZiZ)],fun a K=>splitK a fun a0 a=>YJ (ZbY a0) fun r=>K (r,()) ()⟩
def Zd5 (a0:List Zo) (i0:Int) (l0:List Zo):Option ((Int×(List Zo)×Unit) ⊕ List Zo) :=
 if i0<(↑(List.length a0):Int) then
 (atI a0 i0).bind fun x0 =>
 (ZbY x0).bind fun toWire0 =>
 (atI l0 i0).bind fun x1 =>
 some (.inl (IntKind.i64.wrap (i0+1),List.set l0 (Int.toNat i0) toWire0,()))
 else
 some (.inr l0)
def ZdE (a0:List Zo):Option (List Zo) :=
 Zp ((0:Int)≤(↑(List.length a0):Int)) <|
 Zp ((↑(List.length a0):Int)≤(↑(List.length a0):Int)) <|
 Zp ((↑(List.length a0):Int)≤(4611686018427387904:Int)) <|
 Zp ((↑(96:Nat):Int)*(↑(List.length a0):Int)≤(281474976710656:Int)) <|
 Zt (fun v=>Zd5 a0 v.1 v.2.1) ((0:Int),List.replicate (Int.toNat (↑(List.length a0):Int)) (([]:List Int),([]:List Int),([]:List Int),([]:List Int),()),())
def c40:Ctr:=⟨[.dat (.sl (X6))],[.own (.ol 72 (ZiZ))],fun a K=>splitK a fun a0 a=>YJ (ZdE a0) fun r=>K (r,()) ()⟩
def ZdK (a0:Za):Option Za :=
 (Zbv (Za.Library a0)).bind fun toLibrary0 =>
 (ZcH (Za.Design a0)).bind fun toDesign0 =>
 (ZdE (Za.Zy a0)).bind fun toWireS0 =>
 some (toLibrary0,toDesign0,toWireS0,())
def c41:Ctr:=⟨[.dat (YG)],[.own (Zfd)],fun a K=>splitK a fun a0 a=>YJ (ZdK a0) fun r=>K (r,()) ()⟩
def Zer (a0:Zg):Option Zg :=
 (ZbY (Zg.Zet a0)).bind fun toWire0 =>
 some (Zg.Kind a0,Zg.Place a0,Zg.Cell a0,Zg.Net a0,Zg.Node a0,Zg.Name a0,toWire0,())
def c42:Ctr:=⟨[.dat (QW)],[.own (Zx0)],fun a K=>splitK a fun a0 a=>YJ (Zer a0) fun r=>K (r,()) ()⟩
def ZdV (a0:List Bool) (i0:Int) (l0:List Bool):Option ((Int×(List Bool)×Unit) ⊕ List Bool) :=
 if i0<(↑(List.length a0):Int) then
 (atI a0 i0).bind fun x0 =>
 (atI l0 i0).bind fun x1 =>
 some (.inl (IntKind.i64.wrap (i0+1),List.set l0 (Int.toNat i0) x0,()))
 else
 some (.inr l0)
def ZdM (a0:List Bool):Option (List Bool) :=
 Zp ((0:Int)≤(↑(List.length a0):Int)) <|
 Zp ((↑(List.length a0):Int)≤(↑(List.length a0):Int)) <|
 Zp ((↑(List.length a0):Int)≤(4611686018427387904:Int)) <|
 Zp ((↑(1:Nat):Int)*(↑(List.length a0):Int)≤(281474976710656:Int)) <|
 Zt (fun v=>ZdV a0 v.1 v.2.1) ((0:Int),List.replicate (Int.toNat (↑(List.length a0):Int)) Bool.false,())
def c43:Ctr:=⟨[.dat (.sl (.bool))],[.own (.ol 4 (.flat (.bool)))],fun a K=>splitK a fun a0 a=>YJ (ZdM a0) fun r=>K (r,()) ()⟩
def Zdn (a0:Yh):Option Yh :=
 some a0
def c44:Ctr:=D1 (Xj) (Xj) Zdn
def Zd6 (a0:List Yh) (i0:Int) (l0:List (Int×Int×Unit)):Option ((Int×(List (Int×Int×Unit))×Unit) ⊕ List Yh) :=
 if i0<(↑(List.length a0):Int) then
 (atI a0 i0).bind fun x0 =>
 (Zdn x0).bind fun toSpan0 =>
 (atI l0 i0).bind fun x1 =>
 some (.inl (IntKind.i64.wrap (i0+1),List.set l0 (Int.toNat i0) toSpan0,()))
 else
 some (.inr l0)
def Zb9 (a0:List Yh):Option (List Yh) :=
 Zp ((0:Int)≤(↑(List.length a0):Int)) <|
 Zp ((↑(List.length a0):Int)≤(↑(List.length a0):Int)) <|
 Zp ((↑(List.length a0):Int)≤(4611686018427387904:Int)) <|
 Zp ((↑(16:Nat):Int)*(↑(List.length a0):Int)≤(281474976710656:Int)) <|
 Zt (fun v=>Zd6 a0 v.1 v.2.1) ((0:Int),List.replicate (Int.toNat (↑(List.length a0):Int)) ((0:Int),(0:Int),()),())
def c45:Ctr:=⟨[.dat (.sl (Xj))],[.own (.ol 158 (.flat (Xj)))],fun a K=>splitK a fun a0 a=>YJ (Zb9 a0) fun r=>K (r,()) ()⟩
def Zci (a0:Zn):Option Zn :=
 (ZdM (Zn.Reached a0)).bind fun toBoolS0 =>
 (Zb9 (Zn.Y7 a0)).bind fun toSpanS0 =>
 (Zb9 (Zn.ZbU a0)).bind fun toSpanS1 =>
 some (toBoolS0,toSpanS0,toSpanS1,())
def c46:Ctr:=⟨[.dat (YB)],[.own (Zib)],fun a K=>splitK a fun a0 a=>YJ (Zci a0) fun r=>K (r,()) ()⟩
def Zau (s0:List UInt8) (i0:Int):Option ((Int×Unit) ⊕ Bool) :=
 if i0<(↑(List.length s0):Int) then
 (atI s0 i0).bind fun x0 =>
 if 97≤(↑(UInt8.toNat x0):Int) then
 if 48≤(↑(UInt8.toNat x0):Int) then
 if (↑(UInt8.toNat x0):Int)≤122 then
 some (.inl (IntKind.i64.wrap (i0+1),()))
 else
 if (↑(UInt8.toNat x0):Int)≤57 then
 if 0<i0 then
 some (.inl (IntKind.i64.wrap (i0+1),()))
 else
 some (.inr Bool.false)
 else
 some (.inr Bool.false)
 else
 if (↑(UInt8.toNat x0):Int)≤122 then
 some (.inl (IntKind.i64.wrap (i0+1),()))
 else
 some (.inr Bool.false)
 else
 if 48≤(↑(UInt8.toNat x0):Int) then
 if (↑(UInt8.toNat x0):Int)≤57 then
 if 0<i0 then
 some (.inl (IntKind.i64.wrap (i0+1),()))
 else
 some (.inr Bool.false)
 else
 some (.inr Bool.false)
 else
 some (.inr Bool.false)
 else
 if 1≤(↑(List.length s0):Int) then
 some (.inr (Decidable.decide ((↑(List.length s0):Int)≤8)))
 else
 some (.inr Bool.false)
def ZaA (s0:List UInt8):Option Bool :=
 Zt (fun v=>Zau s0 v.1) ((0:Int),())
def c47:Ctr:=D1 (.str) (.bool) ZaA
def ZX (n0:Int) (low0:Int) (high0:Int):Option Bool :=
 if low0≤n0 then
 some (Decidable.decide (n0≤high0))
 else
 some Bool.false
def c48:Ctr:=D3 (.int .i64) (.int .i64) (.int .i64) (.bool) ZX
def VH (a0:Zi) (v0:Int) (v1:Int) (x0:Yz) (v2:Int):Option ((Int×Unit) ⊕ ((Int×Int×Unit) ⊕ (Int×Bool))) :=
 if v2<v1 then
 (atI (Zi.Yx a0) v2).bind fun x1 =>
 if Yz.Name x1=Yz.Name x0 then
 some (.inr (.inr (0,Bool.false)))
 else
 some (.inl (IntKind.i64.wrap (v2+1),()))
 else
 (ZaA (Yz.Name x0)).bind fun l03Name0 =>
 if l03Name0=true then
 (ZX (Yz.Cap x0) 0 500).bind fun l01In0 =>
 if l01In0=true then
 if v1=IntKind.i64.wrap ((↑(List.length (Zi.Yx a0)):Int)-1) then
 if Yz.Dir x0=2 then
 if Yz.Cap x0=0 then
 if (Yz.Clock x0)=true then
 some (.inr (.inr (0,Bool.false)))
 else
 if v1<IntKind.i64.wrap ((↑(List.length (Zi.Yx a0)):Int)-1) then
 if Yz.Dir x0=1 then
 if (Yz.Clock x0)=true then
 some (.inr (.inl (IntKind.i64.wrap (v0+1),IntKind.i64.wrap (v1+1),())))
 else
 some (.inr (.inl (v0,IntKind.i64.wrap (v1+1),())))
 else
 some (.inr (.inr (0,Bool.false)))
 else
 if (Yz.Clock x0)=true then
 some (.inr (.inl (IntKind.i64.wrap (v0+1),IntKind.i64.wrap (v1+1),())))
 else
 some (.inr (.inl (v0,IntKind.i64.wrap (v1+1),())))
 else
 some (.inr (.inr (0,Bool.false)))
 else
 some (.inr (.inr (0,Bool.false)))
 else
 if v1<IntKind.i64.wrap ((↑(List.length (Zi.Yx a0)):Int)-1) then
 if Yz.Dir x0=1 then
 if (Yz.Clock x0)=true then
 some (.inr (.inl (IntKind.i64.wrap (v0+1),IntKind.i64.wrap (v1+1),())))
 else
 some (.inr (.inl (v0,IntKind.i64.wrap (v1+1),())))
 else
 some (.inr (.inr (0,Bool.false)))
 else
 if (Yz.Clock x0)=true then
 some (.inr (.inl (IntKind.i64.wrap (v0+1),IntKind.i64.wrap (v1+1),())))
 else
 some (.inr (.inl (v0,IntKind.i64.wrap (v1+1),())))
 else
 some (.inr (.inr (0,Bool.false)))
 else
 some (.inr (.inr (0,Bool.false)))
def ZaC (a0:Zi) (v0:Int) (v1:Int):Option ((Int×Int×Unit) ⊕ (Int×Bool)) :=
 if v1<(↑(List.length (Zi.Yx a0)):Int) then
 (atI (Zi.Yx a0) v1).bind fun x0 =>
 Zt (fun v=>VH a0 v0 v1 x0 v.1) ((0:Int),())
 else
 some (.inr (v0,Bool.true))
def Zf6 (a0:Zi):Option (Int×Bool) :=
 if (↑(List.length (Zi.Yx a0)):Int)<2 then
 some (0,Bool.false)
 else
 if 5<(↑(List.length (Zi.Yx a0)):Int) then
 some (0,Bool.false)
 else
 Zt (fun v=>ZaC a0 v.1 v.2.1) ((0:Int),(0:Int),())
def c49:Ctr:=⟨[.dat (X3)],[.dat (.int .i64),.dat (.bool)],fun a K=>splitK a fun a0 a=>YJ (Zf6 a0) fun r=>K (r.1,r.2,()) ()⟩
def Zd1 (list0:List Int) (i0:Int):Option ((Int×Unit) ⊕ Bool) :=
 if i0<(↑(List.length list0):Int) then
 (atI list0 i0).bind fun x0 =>
 (ZX x0 0 100000).bind fun l01In0 =>
 if l01In0=true then
 if 0<i0 then
 (atI list0 (IntKind.i64.wrap (i0-1))).bind fun x1 =>
 if x0≤x1 then
 some (.inr Bool.false)
 else
 some (.inl (IntKind.i64.wrap (i0+1),()))
 else
 some (.inl (IntKind.i64.wrap (i0+1),()))
 else
 some (.inr Bool.false)
 else
 if 1≤(↑(List.length list0):Int) then
 some (.inr (Decidable.decide ((↑(List.length list0):Int)≤4)))
 else
 some (.inr Bool.false)
def Ze5 (list0:List Int):Option Bool :=
 Zt (fun v=>Zd1 list0 v.1) ((0:Int),())
def c50:Ctr:=D1 (.sl (.int .i64)) (.bool) Ze5
def Zay (t0:Zx) (i0:Int):Option ((Int×Unit) ⊕ Bool) :=
 if i0<(↑(List.length (Zx.Values t0)):Int) then
 (atI (Zx.Values t0) i0).bind fun x0 =>
 (ZX x0 (-1000000) 1000000).bind fun l01In0 =>
 if l01In0=true then
 some (.inl (IntKind.i64.wrap (i0+1),()))
 else
 some (.inr Bool.false)
 else
 some (.inr Bool.true)
def ZdN (t0:Zx):Option Bool :=
 (Ze5 (Zx.Zgn t0)).bind fun l02Axis0 =>
 if l02Axis0=true then
 (Ze5 (Zx.Loads t0)).bind fun l02Axis1 =>
 if l02Axis1=true then
 if (↑(List.length (Zx.Values t0)):Int)=IntKind.i64.wrap ((↑(List.length (Zx.Zgn t0)):Int)*(↑(List.length (Zx.Loads t0)):Int)) then
 Zt (fun v=>Zay t0 v.1) ((0:Int),())
 else
 some Bool.false
 else
 some Bool.false
 else
 some Bool.false
def c51:Ctr:=D1 (YP) (.bool) ZdN
def JY (t0:Zx) (i0:Int) (c0:Int) (c1:Int):Option ((Int×Int×Int×Unit) ⊕ (Yh×Int)) :=
 if i0<(↑(List.length (Zx.Values t0)):Int) then
 (atI (Zx.Values t0) i0).bind fun x1 =>
 some (.inl (IntKind.i64.wrap (i0+1),Min.min c0 x1,Max.max c1 x1,()))
 else
 some (.inr ((c0,c1,()),0))
def Zc8 (t0:Zx):Option (Yh×Int) :=
 (ZdN t0).bind fun IsTable0 =>
 if IsTable0=true then
 (atI (Zx.Values t0) 0).bind fun x0 =>
 Zt (fun v=>JY t0 v.1 v.2.1 v.2.2.1) ((1:Int),x0,x0,())
 else
 some ((0,0,()),1)
def c52:Ctr:=⟨[.dat (YP)],[.dat (Xj),.dat (.int .i64)],fun a K=>splitK a fun t0 a=>YJ (Zc8 t0) fun r=>K (r.1,r.2,()) ()⟩
def VP (list0:List Zx) (positive0:Bool) (i0:Int):Option ((Int×Unit) ⊕ Bool) :=
 if i0<2 then
 (atI list0 i0).bind fun x0 =>
 (Zc8 x0).bind fun TableBounds0 =>
 if TableBounds0.snd=0 then
 if positive0=true then
 if TableBounds0.fst.fst<0 then
 some (.inr Bool.false)
 else
 some (.inl (IntKind.i64.wrap (i0+1),()))
 else
 some (.inl (IntKind.i64.wrap (i0+1),()))
 else
 some (.inr Bool.false)
 else
 some (.inr Bool.true)
def Yw (list0:List Zx) (positive0:Bool):Option Bool :=
 if (↑(List.length list0):Int)=2 then
 Zt (fun v=>VP list0 positive0 v.1) ((0:Int),())
 else
 some Bool.false
def c53:Ctr:=D2 (.sl (YP)) (.bool) (.bool) Yw
def ZeB (a0:Zi) (a1:ZJ):Option Bool :=
 (ZX (ZJ.From a1) 0 (IntKind.i64.wrap (IntKind.i64.wrap ((↑(List.length (Zi.Yx a0)):Int)-1)-1))).bind fun l01In0 =>
 if l01In0=true then
 (ZX (ZJ.To a1) 0 (IntKind.i64.wrap ((↑(List.length (Zi.Yx a0)):Int)-1))).bind fun l01In1 =>
 if l01In1=true then
 (atI (Zi.Yx a0) (ZJ.From a1)).bind fun x0 =>
 if ZJ.Kind a1=1 then
 if (Yz.Clock x0)=true then
 some Bool.false
 else
 if ZJ.To a1=IntKind.i64.wrap ((↑(List.length (Zi.Yx a0)):Int)-1) then
 (ZX (ZJ.Zcl a1) 1 3).bind fun l01In2 =>
 if l01In2=true then
 (Yw (ZJ.Delay a1) Bool.true).bind fun l03Tables0 =>
 if l03Tables0=true then
 (Yw (ZJ.ZbU a1) Bool.true).bind fun l03Tables1 =>
 some l03Tables1
 else
 some Bool.false
 else
 some Bool.false
 else
 some Bool.false
 else
 if ZJ.Kind a1=2 then
 if ZJ.Kind a1=2 then
 if (Yz.Clock x0)=true then
 if ZJ.To a1=IntKind.i64.wrap ((↑(List.length (Zi.Yx a0)):Int)-1) then
 if ZJ.Zcl a1=0 then
 (Yw (ZJ.Delay a1) Bool.true).bind fun l03Tables0 =>
 if l03Tables0=true then
 (Yw (ZJ.ZbU a1) Bool.true).bind fun l03Tables1 =>
 some l03Tables1
 else
 some Bool.false
 else
 some Bool.false
 else
 some Bool.false
 else
 some Bool.false
 else
 if ZJ.Kind a1=4 then
 if ZJ.Kind a1=4 then
 if (Yz.Clock x0)=true then
 if ZJ.To a1<IntKind.i64.wrap ((↑(List.length (Zi.Yx a0)):Int)-1) then
 (atI (Zi.Yx a0) (ZJ.To a1)).bind fun x1 =>
 if (Yz.Clock x1)=true then
 some Bool.false
 else
 if ZJ.Zcl a1=0 then
 (Yw (ZJ.Delay a1) Bool.false).bind fun l03Tables0 =>
 if l03Tables0=true then
 some (Decidable.decide ((↑(List.length (ZJ.ZbU a1)):Int)=0))
 else
 some Bool.false
 else
 some Bool.false
 else
 some Bool.false
 else
 some Bool.false
 else
 some Bool.false
 else
 if ZJ.Kind a1=5 then
 if (Yz.Clock x0)=true then
 if ZJ.To a1<IntKind.i64.wrap ((↑(List.length (Zi.Yx a0)):Int)-1) then
 (atI (Zi.Yx a0) (ZJ.To a1)).bind fun x1 =>
 if (Yz.Clock x1)=true then
 some Bool.false
 else
 if ZJ.Zcl a1=0 then
 (Yw (ZJ.Delay a1) Bool.false).bind fun l03Tables0 =>
 if l03Tables0=true then
 some (Decidable.decide ((↑(List.length (ZJ.ZbU a1)):Int)=0))
 else
 some Bool.false
 else
 some Bool.false
 else
 some Bool.false
 else
 some Bool.false
 else
 some Bool.false
 else
 if ZJ.Kind a1=3 then
 if (Yz.Clock x0)=true then
 if ZJ.To a1=IntKind.i64.wrap ((↑(List.length (Zi.Yx a0)):Int)-1) then
 if ZJ.Zcl a1=0 then
 (Yw (ZJ.Delay a1) Bool.true).bind fun l03Tables0 =>
 if l03Tables0=true then
 (Yw (ZJ.ZbU a1) Bool.true).bind fun l03Tables1 =>
 some l03Tables1
 else
 some Bool.false
 else
 some Bool.false
 else
 some Bool.false
 else
 some Bool.false
 else
 if ZJ.Kind a1=4 then
 if ZJ.Kind a1=4 then
 if (Yz.Clock x0)=true then
 if ZJ.To a1<IntKind.i64.wrap ((↑(List.length (Zi.Yx a0)):Int)-1) then
 (atI (Zi.Yx a0) (ZJ.To a1)).bind fun x1 =>
 if (Yz.Clock x1)=true then
 some Bool.false
 else
 if ZJ.Zcl a1=0 then
 (Yw (ZJ.Delay a1) Bool.false).bind fun l03Tables0 =>
 if l03Tables0=true then
 some (Decidable.decide ((↑(List.length (ZJ.ZbU a1)):Int)=0))
 else
 some Bool.false
 else
 some Bool.false
 else
 some Bool.false
 else
 some Bool.false
 else
 some Bool.false
 else
 if ZJ.Kind a1=5 then
 if (Yz.Clock x0)=true then
 if ZJ.To a1<IntKind.i64.wrap ((↑(List.length (Zi.Yx a0)):Int)-1) then
 (atI (Zi.Yx a0) (ZJ.To a1)).bind fun x1 =>
 if (Yz.Clock x1)=true then
 some Bool.false
 else
 if ZJ.Zcl a1=0 then
 (Yw (ZJ.Delay a1) Bool.false).bind fun l03Tables0 =>
 if l03Tables0=true then
 some (Decidable.decide ((↑(List.length (ZJ.ZbU a1)):Int)=0))
 else
 some Bool.false
 else
 some Bool.false
 else
 some Bool.false
 else
 some Bool.false
 else
 some Bool.false
 else
 some Bool.false
 else
 some Bool.false
def c54:Ctr:=D2 (X3) (Zfc) (.bool) ZeB
def Vf (c0:Zi) (i0:Int) (l0:List Int):Option ((Int×(List Int)×Unit) ⊕ List Int) :=
 if i0<(↑(List.length (Zi.ZaZ c0)):Int) then
 (atI (Zi.ZaZ c0) i0).bind fun x0 =>
 (atI l0 (ZJ.Kind x0)).bind fun x1 =>
 some (.inl (IntKind.i64.wrap (i0+1),List.set l0 (Int.toNat (ZJ.Kind x0)) (IntKind.i64.wrap (x1+1)),()))
 else
 some (.inr l0)
def Zcx (c0:Zi):Option (List Int) :=
 Zt (fun v=>Vf c0 v.1 v.2.1) ((0:Int),List.replicate (Int.toNat (6:Int)) (0:Int),())
def c55:Ctr:=⟨[.dat (X3)],[.own (.ol 2 (.flat (.int .i64)))],fun a K=>splitK a fun c0 a=>YJ (Zcx c0) fun r=>K (r,()) ()⟩
def Jk (a0:Zi) (v0:Int) (x0:ZJ) (v1:Int):Option ((Int×Unit) ⊕ ((Int×Unit) ⊕ Bool)) :=
 if v1<v0 then
 (atI (Zi.ZaZ a0) v1).bind fun x1 =>
 if ZJ.Kind x1=ZJ.Kind x0 then
 if ZJ.From x1=ZJ.From x0 then
 if ZJ.To x1=ZJ.To x0 then
 some (.inr (.inr Bool.false))
 else
 some (.inl (IntKind.i64.wrap (v1+1),()))
 else
 some (.inl (IntKind.i64.wrap (v1+1),()))
 else
 some (.inl (IntKind.i64.wrap (v1+1),()))
 else
 some (.inr (.inl (IntKind.i64.wrap (v0+1),())))
def Jo (a0:Zi) (l03Pins0:Int×Bool) (v1:Int):Option ((Int×Unit) ⊕ ((Int×Unit) ⊕ Bool)) :=
 if v1<(↑(List.length (Zi.Truth a0)):Int) then
 (atI (Zi.Truth a0) v1).bind fun x0 =>
 (ZX x0 0 1).bind fun l01In2 =>
 if l01In2=true then
 some (.inl (IntKind.i64.wrap (v1+1),()))
 else
 some (.inr (.inr Bool.false))
 else
 if l03Pins0.fst=0 then
 Zp ((0:Int)≤IntKind.wrap IntKind.u64 (IntKind.i64.wrap ((↑(List.length (Zi.Yx a0)):Int)-(1:Int)))) <|
 some (.inr (.inr (Decidable.decide ((↑(List.length (Zi.Truth a0)):Int)=IntKind.i64.wrap (1*2 ^ Min.min (Int.toNat (IntKind.wrap IntKind.u64 (IntKind.i64.wrap ((↑(List.length (Zi.Yx a0)):Int)-1)))) (IntKind.bits IntKind.i64))))))
 else
 some (.inr (.inr Bool.false))
def ZaU (a0:Zi) (l03Pins0:Int×Bool) (v0:Int):Option ((Int×Unit) ⊕ Bool) :=
 if v0<(↑(List.length (Zi.ZaZ a0)):Int) then
 (atI (Zi.ZaZ a0) v0).bind fun x0 =>
 (ZeB a0 x0).bind fun l03Arc0 =>
 if l03Arc0=true then
 Zt (fun v=>Jk a0 v0 x0 v.1) ((0:Int),())
 else
 some (.inr Bool.false)
 else
 (Zcx a0).bind fun l03Kinds0 =>
 if Zi.Kind a0=1 then
 Zt (fun v=>Jo a0 l03Pins0 v.1) ((0:Int),())
 else
 if Zi.Kind a0=2 then
 if l03Pins0.fst=1 then
 (atI l03Kinds0 1).bind fun x0 =>
 if x0=0 then
 (atI l03Kinds0 2).bind fun x1 =>
 (atI l03Kinds0 3).bind fun x2 =>
 if (Decidable.decide (0<x1) == Decidable.decide (0<x2))=true then
 some (.inr Bool.false)
 else
 some (.inr (Decidable.decide ((↑(List.length (Zi.Truth a0)):Int)=0)))
 else
 some (.inr Bool.false)
 else
 some (.inr Bool.false)
 else
 if Zi.Kind a0=3 then
 if l03Pins0.fst=1 then
 (atI l03Kinds0 1).bind fun x0 =>
 if 0<x0 then
 (atI l03Kinds0 2).bind fun x1 =>
 if 0<x1 then
 (atI l03Kinds0 3).bind fun x2 =>
 if x2=0 then
 some (.inr (Decidable.decide ((↑(List.length (Zi.Truth a0)):Int)=0)))
 else
 some (.inr Bool.false)
 else
 some (.inr Bool.false)
 else
 some (.inr Bool.false)
 else
 some (.inr Bool.false)
 else
 some (.inr Bool.false)
def Zes (a0:Zi):Option Bool :=
 (Zf6 a0).bind fun l03Pins0 =>
 if l03Pins0.snd=true then
 (ZaA (Zi.Name a0)).bind fun l03Name0 =>
 if l03Name0=true then
 if 8<(↑(List.length (Zi.ZaZ a0)):Int) then
 some Bool.false
 else
 (ZX (Zi.Zvn a0) 0 100000).bind fun l01In0 =>
 if l01In0=true then
 (ZX (Zi.Zjk a0) 0 100000).bind fun l01In1 =>
 if l01In1=true then
 Zt (fun v=>ZaU a0 l03Pins0 v.1) ((0:Int),())
 else
 some Bool.false
 else
 some Bool.false
 else
 some Bool.false
 else
 some Bool.false
def c56:Ctr:=D1 (X3) (.bool) Zes
def ZcW (l0:Zk) (i0:Int) (x0:Zi) (k0:Int):Option ((Int×Unit) ⊕ ((Int×Unit) ⊕ Bool)) :=
 if k0<i0 then
 (atI (Zk.Cells l0) k0).bind fun x1 =>
 if Zi.Name x1=Zi.Name x0 then
 some (.inr (.inr Bool.false))
 else
 some (.inl (IntKind.i64.wrap (k0+1),()))
 else
 some (.inr (.inl (IntKind.i64.wrap (i0+1),())))
def ZcT (l0:Zk) (i0:Int):Option ((Int×Unit) ⊕ Bool) :=
 if i0<(↑(List.length (Zk.Cells l0)):Int) then
 (atI (Zk.Cells l0) i0).bind fun x0 =>
 (Zes x0).bind fun IsCell0 =>
 if IsCell0=true then
 Zt (fun v=>ZcW l0 i0 x0 v.1) ((0:Int),())
 else
 some (.inr Bool.false)
 else
 some (.inr (Decidable.decide ((↑(List.length (Zk.Cells l0)):Int)≤8)))
def ZeW (l0:Zk):Option Bool :=
 Zt (fun v=>ZcT l0 v.1) ((0:Int),())
def c57:Ctr:=D1 (YH) (.bool) ZeW
def JU (a1:Zb) (v0:Int) (x0:Zd) (v1:Int):Option ((Int×Unit) ⊕ ((Int×Unit) ⊕ Bool)) :=
 if v1<(↑(List.length (Zd.ZM x0)):Int) then
 (atI (Zd.ZM x0) v1).bind fun x2 =>
 (ZX x2 0 (IntKind.i64.wrap ((↑(List.length (Zb.ZM a1)):Int)-1))).bind fun l01In1 =>
 if l01In1=true then
 some (.inl (IntKind.i64.wrap (v1+1),()))
 else
 some (.inr (.inr Bool.false))
 else
 some (.inr (.inl (IntKind.i64.wrap (v0+1),())))
def JJ (a1:Zb) (v1:Int):Option ((Int×Unit) ⊕ ((Int×Unit) ⊕ Bool)) :=
 if v1<(↑(List.length (Zb.ZQ a1)):Int) then
 (atI (Zb.ZQ a1) v1).bind fun x0 =>
 (ZX (ZV.Dir x0) 1 2).bind fun l01In0 =>
 if l01In0=true then
 (ZX (ZV.Net x0) 0 (IntKind.i64.wrap ((↑(List.length (Zb.ZM a1)):Int)-1))).bind fun l01In1 =>
 if l01In1=true then
 some (.inl (IntKind.i64.wrap (v1+1),()))
 else
 some (.inr (.inr Bool.false))
 else
 some (.inr (.inr Bool.false))
 else
 some (.inr (.inr Bool.true))
def JV (a0:Zk) (a1:Zb) (v0:Int):Option ((Int×Unit) ⊕ Bool) :=
 if v0<(↑(List.length (Zb.Instances a1)):Int) then
 (atI (Zb.Instances a1) v0).bind fun x0 =>
 (ZX (Zd.Cell x0) 0 (IntKind.i64.wrap ((↑(List.length (Zk.Cells a0)):Int)-1))).bind fun l01In0 =>
 if l01In0=true then
 (atI (Zk.Cells a0) (Zd.Cell x0)).bind fun x1 =>
 if (↑(List.length (Zd.ZM x0)):Int)=(↑(List.length (Zi.Yx x1)):Int) then
 Zt (fun v=>JU a1 v0 x0 v.1) ((0:Int),())
 else
 some (.inr Bool.false)
 else
 some (.inr Bool.false)
 else
 Zt (fun v=>JJ a1 v.1) ((0:Int),())
def Zcq (a0:Zk) (a1:Zb):Option Bool :=
 Zt (fun v=>JV a0 a1 v.1) ((0:Int),())
def c58:Ctr:=D2 (YH) (Yn) (.bool) Zcq
def Jw (list0:List (List UInt8)) (i0:Int) (x0:List UInt8) (k0:Int):Option ((Int×Unit) ⊕ ((Int×Unit) ⊕ Bool)) :=
 if k0<i0 then
 (atI list0 k0).bind fun x1 =>
 if x1=x0 then
 some (.inr (.inr Bool.false))
 else
 some (.inl (IntKind.i64.wrap (k0+1),()))
 else
 some (.inr (.inl (IntKind.i64.wrap (i0+1),())))
def Jr (list0:List (List UInt8)) (i0:Int):Option ((Int×Unit) ⊕ Bool) :=
 if i0<(↑(List.length list0):Int) then
 (atI list0 i0).bind fun x0 =>
 (ZaA x0).bind fun l03Name0 =>
 if l03Name0=true then
 Zt (fun v=>Jw list0 i0 x0 v.1) ((0:Int),())
 else
 some (.inr Bool.false)
 else
 some (.inr Bool.true)
def ZaB (list0:List (List UInt8)):Option Bool :=
 Zt (fun v=>Jr list0 v.1) ((0:Int),())
def c59:Ctr:=D1 (.sl (.str)) (.bool) ZaB
def JQ (l1:List Int) (v6:Int):Option ((Int×Unit) ⊕ ((Int×(List Int)×Unit) ⊕ ((Int×(List Int)×Unit) ⊕ (((List (List UInt8))×Int×Unit) ⊕ (((List (List UInt8))×Int×Unit) ⊕ Bool))))) :=
 if v6<(↑(List.length l1):Int) then
 (atI l1 v6).bind fun x0 =>
 if x0=1 then
 some (.inl (IntKind.i64.wrap (v6+1),()))
 else
 some (.inr (.inr (.inr (.inr (.inr Bool.false)))))
 else
 some (.inr (.inr (.inr (.inr (.inr Bool.true)))))
def Qa (a1:Zb) (v5:Int) (l1:List Int):Option ((Int×(List Int)×Unit) ⊕ ((Int×(List Int)×Unit) ⊕ (((List (List UInt8))×Int×Unit) ⊕ (((List (List UInt8))×Int×Unit) ⊕ Bool)))) :=
 if v5<(↑(List.length (Zb.ZQ a1)):Int) then
 (atI (Zb.ZQ a1) v5).bind fun x0 =>
 if ZV.Dir x0=1 then
 (atI l1 (ZV.Net x0)).bind fun x1 =>
 some (.inl (IntKind.i64.wrap (v5+1),List.set l1 (Int.toNat (ZV.Net x0)) (IntKind.i64.wrap (x1+1)),()))
 else
 some (.inl (IntKind.i64.wrap (v5+1),l1,()))
 else
 Zt (fun v=>JQ l1 v.1) ((0:Int),())
def X9 (a1:Zb) (v4:Int) (l0:List Int):Option ((Int×(List Int)×Unit) ⊕ (((List (List UInt8))×Int×Unit) ⊕ (((List (List UInt8))×Int×Unit) ⊕ Bool))) :=
 if v4<(↑(List.length (Zb.Instances a1)):Int) then
 (atI (Zb.Instances a1) v4).bind fun x0 =>
 (atI (Zd.ZM x0) (IntKind.i64.wrap ((↑(List.length (Zd.ZM x0)):Int)-1))).bind fun x1 =>
 (atI l0 x1).bind fun x2 =>
 some (.inl (IntKind.i64.wrap (v4+1),List.set l0 (Int.toNat x1) (IntKind.i64.wrap (x2+1)),()))
 else
 Zt (fun v=>Qa a1 v.1 v.2.1) ((0:Int),l0,())
def JK (a1:Zb) (v0:List (List UInt8)) (v2:List (List UInt8)) (v3:Int):Option (((List (List UInt8))×Int×Unit) ⊕ (((List (List UInt8))×Int×Unit) ⊕ Bool)) :=
 if v3<(↑(List.length (Zb.ZQ a1)):Int) then
 (atI (Zb.ZQ a1) v3).bind fun x0 =>
 Zp ((List.length v2+List.length [ZV.Name x0])*(16:Nat)≤(140737488355328:Nat)) <|
 some (.inl (v2++[ZV.Name x0],IntKind.i64.wrap (v3+(1:Int)),()))
 else
 (ZaB v0).bind fun l05Names0 =>
 if l05Names0=true then
 (ZaB v2).bind fun l05Names1 =>
 if l05Names1=true then
 (ZaB (Zb.ZM a1)).bind fun l05Names2 =>
 if l05Names2=true then
 Zp ((0:Int)≤(↑(List.length (Zb.ZM a1)):Int)) <|
 Zp ((↑(List.length (Zb.ZM a1)):Int)≤(↑(List.length (Zb.ZM a1)):Int)) <|
 Zp ((↑(List.length (Zb.ZM a1)):Int)≤(4611686018427387904:Int)) <|
 Zp ((↑(8:Nat):Int)*(↑(List.length (Zb.ZM a1)):Int)≤(281474976710656:Int)) <|
 Zt (fun v=>X9 a1 v.1 v.2.1) ((0:Int),List.replicate (Int.toNat (↑(List.length (Zb.ZM a1)):Int)) (0:Int),())
 else
 some (.inr (.inr Bool.false))
 else
 some (.inr (.inr Bool.false))
 else
 some (.inr (.inr Bool.false))
def JC (a1:Zb) (v0:List (List UInt8)) (v1:Int):Option (((List (List UInt8))×Int×Unit) ⊕ Bool) :=
 if v1<(↑(List.length (Zb.Instances a1)):Int) then
 (atI (Zb.Instances a1) v1).bind fun x0 =>
 Zp ((List.length v0+List.length [Zd.Name x0])*(16:Nat)≤(140737488355328:Nat)) <|
 some (.inl (v0++[Zd.Name x0],IntKind.i64.wrap (v1+(1:Int)),()))
 else
 Zt (fun v=>JK a1 v0 v.1 v.2.1) (([]:List (List UInt8)),(0:Int),())
def ZcI (a0:Zk) (a1:Zb):Option Bool :=
 (ZeW a0).bind fun IsLibrary0 =>
 if IsLibrary0=true then
 if 14<(↑(List.length (Zb.Instances a1)):Int) then
 some Bool.false
 else
 if 30<(↑(List.length (Zb.ZM a1)):Int) then
 some Bool.false
 else
 if 8<(↑(List.length (Zb.ZQ a1)):Int) then
 some Bool.false
 else
 (Zcq a0 a1).bind fun l05Parts0 =>
 if l05Parts0=true then
 Zt (fun v=>JC a1 v.1 v.2.1) (([]:List (List UInt8)),(0:Int),())
 else
 some Bool.false
 else
 some Bool.false
def c60:Ctr:=D2 (YH) (Yn) (.bool) ZcI
def VQ (v1:Int) (x0:Zd) (v2:List ZW) (v3:Int):Option (((List ZW)×Int×Unit) ⊕ (((List ZW)×Int×Unit) ⊕ List ZW)) :=
 if v3<(↑(List.length (Zd.ZM x0)):Int) then
 (atI (Zd.ZM x0) v3).bind fun x1 =>
 Zp ((List.length v2+List.length [(v1,v3,x1,Decidable.decide (v3=IntKind.i64.wrap ((↑(List.length (Zd.ZM x0)):Int)-(1:Int))),())])*(32:Nat)≤(140737488355328:Nat)) <|
 some (.inl (v2++[(v1,v3,x1,Decidable.decide (v3=IntKind.i64.wrap ((↑(List.length (Zd.ZM x0)):Int)-(1:Int))),())],IntKind.i64.wrap (v3+(1:Int)),()))
 else
 some (.inr (.inl (v2,IntKind.i64.wrap (v1+1),())))
def V4 (a0:Zb) (v2:List ZW) (v3:Int):Option (((List ZW)×Int×Unit) ⊕ (((List ZW)×Int×Unit) ⊕ List ZW)) :=
 if v3<(↑(List.length (Zb.ZQ a0)):Int) then
 (atI (Zb.ZQ a0) v3).bind fun x0 =>
 Zp ((List.length v2+List.length [((-1:Int),v3,ZV.Net x0,Decidable.decide (ZV.Dir x0=(1:Int)),())])*(32:Nat)≤(140737488355328:Nat)) <|
 some (.inl (v2++[((-1:Int),v3,ZV.Net x0,Decidable.decide (ZV.Dir x0=(1:Int)),())],IntKind.i64.wrap (v3+(1:Int)),()))
 else
 some (.inr (.inr v2))
def VW (a0:Zb) (v0:List ZW) (v1:Int):Option (((List ZW)×Int×Unit) ⊕ List ZW) :=
 if v1<(↑(List.length (Zb.Instances a0)):Int) then
 (atI (Zb.Instances a0) v1).bind fun x0 =>
 Zt (fun v=>VQ v1 x0 v.1 v.2.1) (v0,(0:Int),())
 else
 Zt (fun v=>V4 a0 v.1 v.2.1) (v0,(0:Int),())
def Y5 (a0:Zb):Option (List ZW) :=
 Zt (fun v=>VW a0 v.1 v.2.1) (([]:List (Int×Int×Int×Bool×Unit)),(0:Int),())
def c61:Ctr:=⟨[.dat (Yn)],[.own (.ol 189 (.flat (ZfW)))],fun a K=>splitK a fun a0 a=>YJ (Y5 a0) fun r=>K (r,()) ()⟩
def Jv (net0:Int) (l05Places0:List ZW) (out0:List Int) (i0:Int):Option (((List Int)×Int×Unit) ⊕ List Int) :=
 if i0<(↑(List.length l05Places0):Int) then
 (atI l05Places0 i0).bind fun x0 =>
 if ZW.net x0=net0 then
 if (ZW.drives x0)=true then
 some (.inl (out0,IntKind.i64.wrap (i0+1),()))
 else
 Zp ((List.length out0+List.length [i0])*(8:Nat)≤(140737488355328:Nat)) <|
 some (.inl (out0++[i0],IntKind.i64.wrap (i0+(1:Int)),()))
 else
 some (.inl (out0,IntKind.i64.wrap (i0+1),()))
 else
 some (.inr out0)
def X0 (d0:Zb) (net0:Int):Option (List Int) :=
 (Y5 d0).bind fun l05Places0 =>
 Zt (fun v=>Jv net0 l05Places0 v.1 v.2.1) (([]:List Int),(0:Int),())
def c62:Ctr:=⟨[.dat (Yn),.dat (.int .i64)],[.own (.ol 2 (.flat (.int .i64)))],fun a K=>splitK a fun d0 a=>splitK a fun net0 a=>YJ (X0 d0 net0) fun r=>K (r,()) ()⟩
def ZaV (a0:Zo) (v1:Int):Option ((Int×Unit) ⊕ ((Int×Unit) ⊕ Bool)) :=
 if v1<(↑(List.length (Zo.Zfj a0)):Int) then
 (atI (Zo.Zfj a0) v1).bind fun x0 =>
 (ZX x0 0 (IntKind.i64.wrap ((↑(List.length (Zo.Parent a0)):Int)-1))).bind fun l01In0 =>
 if l01In0=true then
 some (.inl (IntKind.i64.wrap (v1+1),()))
 else
 some (.inr (.inr Bool.false))
 else
 some (.inr (.inr Bool.true))
def Za0 (a0:Zo) (v0:Int):Option ((Int×Unit) ⊕ Bool) :=
 if v0<(↑(List.length (Zo.Parent a0)):Int) then
 (atI (Zo.Cap a0) v0).bind fun x0 =>
 (ZX x0 0 500).bind fun l01In0 =>
 if l01In0=true then
 (atI (Zo.Res a0) v0).bind fun x1 =>
 (ZX x1 0 1000).bind fun l01In1 =>
 if l01In1=true then
 if v0=0 then
 (atI (Zo.Parent a0) v0).bind fun x2 =>
 if x2=(-1) then
 if x1=0 then
 if 0<v0 then
 (ZX x2 0 (IntKind.i64.wrap (v0-1))).bind fun l01In2 =>
 if l01In2=true then
 some (.inl (IntKind.i64.wrap (v0+1),()))
 else
 some (.inr Bool.false)
 else
 some (.inl (IntKind.i64.wrap (v0+1),()))
 else
 some (.inr Bool.false)
 else
 some (.inr Bool.false)
 else
 if 0<v0 then
 (atI (Zo.Parent a0) v0).bind fun x2 =>
 (ZX x2 0 (IntKind.i64.wrap (v0-1))).bind fun l01In2 =>
 if l01In2=true then
 some (.inl (IntKind.i64.wrap (v0+1),()))
 else
 some (.inr Bool.false)
 else
 some (.inl (IntKind.i64.wrap (v0+1),()))
 else
 some (.inr Bool.false)
 else
 some (.inr Bool.false)
 else
 Zt (fun v=>ZaV a0 v.1) ((0:Int),())
def Zdi (a0:Zo) (a1:Int):Option Bool :=
 if (↑(List.length (Zo.Parent a0)):Int)<1 then
 some Bool.false
 else
 if 8<(↑(List.length (Zo.Parent a0)):Int) then
 some Bool.false
 else
 if (↑(List.length (Zo.Res a0)):Int)=(↑(List.length (Zo.Parent a0)):Int) then
 if (↑(List.length (Zo.Cap a0)):Int)=(↑(List.length (Zo.Parent a0)):Int) then
 if (↑(List.length (Zo.Zfj a0)):Int)=a1 then
 Zt (fun v=>Za0 a0 v.1) ((0:Int),())
 else
 some Bool.false
 else
 some Bool.false
 else
 some Bool.false
def c63:Ctr:=D2 (X6) (.int .i64) (.bool) Zdi
def Zah (b0:Za) (net0:Int):Option ((Int×Unit) ⊕ Bool) :=
 if net0<(↑(List.length (Za.Zy b0)):Int) then
 (atI (Za.Zy b0) net0).bind fun x0 =>
 (X0 (Za.Design b0) net0).bind fun l05Sinks0 =>
 (Zdi x0 (↑(List.length l05Sinks0):Int)).bind fun IsWire0 =>
 if IsWire0=true then
 some (.inl (IntKind.i64.wrap (net0+1),()))
 else
 some (.inr Bool.false)
 else
 some (.inr Bool.true)
def Zb6 (b0:Za):Option Bool :=
 (ZcI (Za.Library b0) (Za.Design b0)).bind fun IsDesign0 =>
 if IsDesign0=true then
 if (↑(List.length (Za.Zy b0)):Int)=(↑(List.length (Zb.ZM (Za.Design b0))):Int) then
 Zt (fun v=>Zah b0 v.1) ((0:Int),())
 else
 some Bool.false
 else
 some Bool.false
def c64:Ctr:=D1 (YG) (.bool) Zb6
def Zcz (a0:Zg):Option Bool :=
 if Zg.Kind a0=1 then
 if Zg.Net a0=0 then
 if Zg.Node a0=0 then
 if Zg.Name a0=([]:List UInt8) then
 some (Decidable.decide (IntKind.i64.wrap (IntKind.i64.wrap (IntKind.i64.wrap ((↑(List.length (Zo.Parent (Zg.Zet a0))):Int)+(↑(List.length (Zo.Res (Zg.Zet a0))):Int))+(↑(List.length (Zo.Cap (Zg.Zet a0))):Int))+(↑(List.length (Zo.Zfj (Zg.Zet a0))):Int))=0))
 else
 some Bool.false
 else
 some Bool.false
 else
 some Bool.false
 else
 if Zg.Kind a0=2 then
 if Zg.Net a0=0 then
 if Zg.Node a0=0 then
 some (Decidable.decide (IntKind.i64.wrap (IntKind.i64.wrap (IntKind.i64.wrap ((↑(List.length (Zo.Parent (Zg.Zet a0))):Int)+(↑(List.length (Zo.Res (Zg.Zet a0))):Int))+(↑(List.length (Zo.Cap (Zg.Zet a0))):Int))+(↑(List.length (Zo.Zfj (Zg.Zet a0))):Int))=0))
 else
 some Bool.false
 else
 some Bool.false
 else
 if Zg.Kind a0=3 then
 if Zg.Place a0=0 then
 if Zg.Cell a0=0 then
 if Zg.Net a0=0 then
 if Zg.Node a0=0 then
 if Zg.Name a0=([]:List UInt8) then
 some (Decidable.decide (IntKind.i64.wrap (IntKind.i64.wrap (IntKind.i64.wrap ((↑(List.length (Zo.Parent (Zg.Zet a0))):Int)+(↑(List.length (Zo.Res (Zg.Zet a0))):Int))+(↑(List.length (Zo.Cap (Zg.Zet a0))):Int))+(↑(List.length (Zo.Zfj (Zg.Zet a0))):Int))=0))
 else
 some Bool.false
 else
 some Bool.false
 else
 some Bool.false
 else
 some Bool.false
 else
 some Bool.false
 else
 if Zg.Kind a0=4 then
 if Zg.Cell a0=0 then
 if Zg.Name a0=([]:List UInt8) then
 some (Decidable.decide (IntKind.i64.wrap (IntKind.i64.wrap (IntKind.i64.wrap ((↑(List.length (Zo.Parent (Zg.Zet a0))):Int)+(↑(List.length (Zo.Res (Zg.Zet a0))):Int))+(↑(List.length (Zo.Cap (Zg.Zet a0))):Int))+(↑(List.length (Zo.Zfj (Zg.Zet a0))):Int))=0))
 else
 some Bool.false
 else
 some Bool.false
 else
 if Zg.Kind a0=5 then
 if Zg.Place a0=0 then
 if Zg.Cell a0=0 then
 if Zg.Node a0=0 then
 some (Decidable.decide (Zg.Name a0=([]:List UInt8)))
 else
 some Bool.false
 else
 some Bool.false
 else
 some Bool.false
 else
 some Bool.false
def c65:Ctr:=D1 (QW) (.bool) Zcz
def Zfw (a0:Za) (a1:Zg):Option Bool :=
 (Y5 (Za.Design a0)).bind fun l05Places0 =>
 if Zg.Kind a1=1 then
 if Zg.Kind a1=1 then
 (ZX (Zg.Place a1) 0 (IntKind.i64.wrap ((↑(List.length l05Places0):Int)-1))).bind fun l01In0 =>
 if l01In0=true then
 (ZX (Zg.Cell a1) 0 (IntKind.i64.wrap ((↑(List.length (Zk.Cells (Za.Library a0))):Int)-1))).bind fun l01In1 =>
 some l01In1
 else
 some Bool.false
 else
 if Zg.Kind a1=4 then
 (ZX (Zg.Place a1) 0 (IntKind.i64.wrap ((↑(List.length l05Places0):Int)-1))).bind fun l01In0 =>
 if l01In0=true then
 (ZX (Zg.Net a1) 0 (IntKind.i64.wrap ((↑(List.length (Za.Zy a0)):Int)-1))).bind fun l01In1 =>
 if l01In1=true then
 (atI (Za.Zy a0) (Zg.Net a1)).bind fun x0 =>
 (ZX (Zg.Node a1) 0 (IntKind.i64.wrap ((↑(List.length (Zo.Parent x0)):Int)-1))).bind fun l01In2 =>
 some l01In2
 else
 some Bool.false
 else
 some Bool.false
 else
 if Zg.Kind a1=5 then
 (ZX (Zg.Net a1) 0 (IntKind.i64.wrap ((↑(List.length (Za.Zy a0)):Int)-1))).bind fun l01In0 =>
 some l01In0
 else
 some Bool.true
 else
 if Zg.Kind a1=2 then
 (ZX (Zg.Place a1) 0 (IntKind.i64.wrap ((↑(List.length l05Places0):Int)-1))).bind fun l01In0 =>
 if l01In0=true then
 (ZX (Zg.Cell a1) 0 (IntKind.i64.wrap ((↑(List.length (Zk.Cells (Za.Library a0))):Int)-1))).bind fun l01In1 =>
 some l01In1
 else
 some Bool.false
 else
 if Zg.Kind a1=4 then
 (ZX (Zg.Place a1) 0 (IntKind.i64.wrap ((↑(List.length l05Places0):Int)-1))).bind fun l01In0 =>
 if l01In0=true then
 (ZX (Zg.Net a1) 0 (IntKind.i64.wrap ((↑(List.length (Za.Zy a0)):Int)-1))).bind fun l01In1 =>
 if l01In1=true then
 (atI (Za.Zy a0) (Zg.Net a1)).bind fun x0 =>
 (ZX (Zg.Node a1) 0 (IntKind.i64.wrap ((↑(List.length (Zo.Parent x0)):Int)-1))).bind fun l01In2 =>
 some l01In2
 else
 some Bool.false
 else
 some Bool.false
 else
 if Zg.Kind a1=5 then
 (ZX (Zg.Net a1) 0 (IntKind.i64.wrap ((↑(List.length (Za.Zy a0)):Int)-1))).bind fun l01In0 =>
 some l01In0
 else
 some Bool.true
def c66:Ctr:=D2 (YG) (QW) (.bool) Zfw
def Zbh (a0:Zi) (b0:Zi) (i0:Int):Option ((Int×Unit) ⊕ Bool) :=
 if i0<(↑(List.length (Zi.Yx a0)):Int) then
 (atI (Zi.Yx a0) i0).bind fun x0 =>
 (atI (Zi.Yx b0) i0).bind fun x1 =>
 if (Yz.Clock x0 == Yz.Clock x1)=true then
 some (.inl (IntKind.i64.wrap (i0+1),()))
 else
 some (.inr Bool.false)
 else
 some (.inr Bool.true)
def Zak (a0:Zi) (b0:Zi):Option Bool :=
 if Zi.Kind a0=Zi.Kind b0 then
 if (↑(List.length (Zi.Yx a0)):Int)=(↑(List.length (Zi.Yx b0)):Int) then
 Zt (fun v=>Zbh a0 b0 v.1) ((0:Int),())
 else
 some Bool.false
 else
 some Bool.false
def c67:Ctr:=D2 (X3) (X3) (.bool) Zak
def ZaF (c0:Zi):Option Bool :=
 if Zi.Kind c0=1 then
 some (Decidable.decide ((↑(List.length (Zi.Yx c0)):Int)=2))
 else
 some Bool.false
def c68:Ctr:=D1 (X3) (.bool) ZaF
def Qo (d0:Zb) (name0:List UInt8) (i0:Int):Option ((Int×Unit) ⊕ Int) :=
 if i0<(↑(List.length (Zb.Instances d0)):Int) then
 (atI (Zb.Instances d0) i0).bind fun x0 =>
 if Zd.Name x0=name0 then
 some (.inr i0)
 else
 some (.inl (IntKind.i64.wrap (i0+1),()))
 else
 some (.inr (-1))
def Vu (d0:Zb) (name0:List UInt8):Option Int :=
 Zt (fun v=>Qo d0 name0 v.1) ((0:Int),())
def c69:Ctr:=D2 (Yn) (.str) (.int .i64) Vu
def Js (list0:List (List UInt8)) (word0:List UInt8) (i0:Int):Option ((Int×Unit) ⊕ Int) :=
 if i0<(↑(List.length list0):Int) then
 (atI list0 i0).bind fun x0 =>
 if x0=word0 then
 some (.inr i0)
 else
 some (.inl (IntKind.i64.wrap (i0+1),()))
 else
 some (.inr (-1))
def Zd2 (list0:List (List UInt8)) (word0:List UInt8):Option Int :=
 Zt (fun v=>Js list0 word0 v.1) ((0:Int),())
def c70:Ctr:=D2 (.sl (.str)) (.str) (.int .i64) Zd2
def Zco (d0:Zb) (name0:List UInt8):Option Int :=
 (Zd2 (Zb.ZM d0) name0).bind fun l04Index0 =>
 some l04Index0
def c71:Ctr:=D2 (Yn) (.str) (.int .i64) Zco
def Zfg (w0:Zo):Option Bool :=
 if (↑(List.length (Zo.Parent w0)):Int)=1 then
 (atI (Zo.Cap w0) 0).bind fun x0 =>
 some (Decidable.decide (x0=0))
 else
 some Bool.false
def c72:Ctr:=D1 (X6) (.bool) Zfg
def ZdA (a0:Za):Option Bool :=
 if IntKind.i64.wrap ((↑(List.length (Zb.Instances (Za.Design a0))):Int)-1)<0 then
 some Bool.false
 else
 (atI (Zb.Instances (Za.Design a0)) (IntKind.i64.wrap ((↑(List.length (Zb.Instances (Za.Design a0))):Int)-1))).bind fun x0 =>
 (atI (Zk.Cells (Za.Library a0)) (Zd.Cell x0)).bind fun x1 =>
 (ZaF x1).bind fun l08Buffer0 =>
 if l08Buffer0=true then
 (atI (Zd.ZM x0) 1).bind fun x2 =>
 if x2=IntKind.i64.wrap ((↑(List.length (Za.Zy a0)):Int)-1) then
 (atI (Zb.ZM (Za.Design a0)) (IntKind.i64.wrap ((↑(List.length (Za.Zy a0)):Int)-1))).bind fun x3 =>
 if x3=Zd.Name x0 then
 (atI (Zd.ZM x0) 0).bind fun x4 =>
 if x4=IntKind.i64.wrap ((↑(List.length (Za.Zy a0)):Int)-1) then
 some Bool.false
 else
 (X0 (Za.Design a0) (IntKind.i64.wrap ((↑(List.length (Za.Zy a0)):Int)-1))).bind fun l05Sinks0 =>
 if (↑(List.length l05Sinks0):Int)=1 then
 (atI (Za.Zy a0) (IntKind.i64.wrap ((↑(List.length (Za.Zy a0)):Int)-1))).bind fun x5 =>
 (Zfg x5).bind fun l08Bare0 =>
 some l08Bare0
 else
 some Bool.false
 else
 some Bool.false
 else
 some Bool.false
 else
 some Bool.false
def c73:Ctr:=D1 (YG) (.bool) ZdA
def Zcs (a0:Za) (a1:Zg):Option Bool :=
 (Y5 (Za.Design a0)).bind fun l05Places0 =>
 if Zg.Kind a1=1 then
 (atI l05Places0 (Zg.Place a1)).bind fun x0 =>
 if 0≤ZW.instance x0 then
 if (ZW.drives x0)=true then
 (atI (Zb.Instances (Za.Design a0)) (ZW.instance x0)).bind fun x1 =>
 (atI (Zk.Cells (Za.Library a0)) (Zd.Cell x1)).bind fun x2 =>
 (atI (Zk.Cells (Za.Library a0)) (Zg.Cell a1)).bind fun x3 =>
 (Zak x2 x3).bind fun l08Alike0 =>
 some l08Alike0
 else
 some Bool.false
 else
 some Bool.false
 else
 if Zg.Kind a1=2 then
 (atI l05Places0 (Zg.Place a1)).bind fun x0 =>
 if (ZW.drives x0)=true then
 some Bool.false
 else
 (atI (Zk.Cells (Za.Library a0)) (Zg.Cell a1)).bind fun x1 =>
 (ZaF x1).bind fun l08Buffer0 =>
 if l08Buffer0=true then
 (ZaA (Zg.Name a1)).bind fun l03Name0 =>
 if l03Name0=true then
 (Vu (Za.Design a0) (Zg.Name a1)).bind fun InstanceNamed0 =>
 if InstanceNamed0<0 then
 (Zco (Za.Design a0) (Zg.Name a1)).bind fun NetNamed0 =>
 some (Decidable.decide (NetNamed0<0))
 else
 some Bool.false
 else
 some Bool.false
 else
 some Bool.false
 else
 if Zg.Kind a1=3 then
 (ZdA a0).bind fun l08Last0 =>
 some l08Last0
 else
 if Zg.Kind a1=4 then
 (atI l05Places0 (Zg.Place a1)).bind fun x0 =>
 if (ZW.drives x0)=true then
 some Bool.false
 else
 some (!Decidable.decide (ZW.net x0=Zg.Net a1))
 else
 (X0 (Za.Design a0) (Zg.Net a1)).bind fun l05Sinks0 =>
 (Zdi (Zg.Zet a1) (↑(List.length l05Sinks0):Int)).bind fun IsWire0 =>
 some IsWire0
def c74:Ctr:=D2 (YG) (QW) (.bool) Zcs
def Zai (b0:Za) (e0:Zg):Option Int :=
 (Zb6 b0).bind fun IsBlock0 =>
 if IsBlock0=true then
 (Zcz e0).bind fun l08Blank0 =>
 if l08Blank0=true then
 (Zfw b0 e0).bind fun l08Range0 =>
 if l08Range0=true then
 (Zcs b0 e0).bind fun l08State0 =>
 if l08State0=true then
 if Zg.Kind e0=2 then
 if (↑(List.length (Zb.Instances (Za.Design b0))):Int)=14 then
 some 3
 else
 if (↑(List.length (Za.Zy b0)):Int)=30 then
 some 3
 else
 some 0
 else
 some 0
 else
 some 5
 else
 some 2
 else
 some 2
 else
 some 1
def c75:Ctr:=D2 (YG) (QW) (.int .i64) Zai
def Zbi (b0:Za):Option Int :=
 (Y5 (Za.Design b0)).bind fun l05Places0 =>
 some (IntKind.i64.wrap (2*(↑(List.length l05Places0):Int)))
def c76:Ctr:=D1 (YG) (.int .i64) Zbi
def ZeJ (s0:Yh):Option Bool :=
 (ZX (Yh.Early s0) (-1000000000) 1000000000).bind fun l01In0 =>
 if l01In0=true then
 (ZX (Yh.Late s0) (-1000000000) 1000000000).bind fun l01In1 =>
 if l01In1=true then
 some (Decidable.decide (Yh.Early s0≤Yh.Late s0))
 else
 some Bool.false
 else
 some Bool.false
def c77:Ctr:=D1 (Xj) (.bool) ZeJ
def ZcN (s0:Yh):Option Bool :=
 if 0≤Yh.Early s0 then
 if Yh.Early s0≤Yh.Late s0 then
 some (Decidable.decide (Yh.Late s0≤1000000))
 else
 some Bool.false
 else
 some Bool.false
def c78:Ctr:=D1 (Xj) (.bool) ZcN
def QT (a1:Zn) (v0:Int):Option ((Int×Unit) ⊕ Bool) :=
 if v0<(↑(List.length (Zn.Reached a1)):Int) then
 (atI (Zn.Y7 a1) v0).bind fun x0 =>
 (ZeJ x0).bind fun IsSpan0 =>
 if IsSpan0=true then
 (atI (Zn.ZbU a1) v0).bind fun x1 =>
 (ZcN x1).bind fun l12Slews0 =>
 if l12Slews0=true then
 (atI (Zn.Reached a1) v0).bind fun x2 =>
 if x2=true then
 some (.inl (IntKind.i64.wrap (v0+1),()))
 else
 if (Decidable.decide (Yh.Early x0=0)&&Decidable.decide (Yh.Late x0=0))=true then
 if (Decidable.decide (Yh.Early x1=0)&&Decidable.decide (Yh.Late x1=0))=true then
 some (.inl (IntKind.i64.wrap (v0+1),()))
 else
 some (.inr Bool.false)
 else
 some (.inr Bool.false)
 else
 some (.inr Bool.false)
 else
 some (.inr Bool.false)
 else
 some (.inr Bool.true)
def Zbx (a0:Int) (a1:Zn):Option Bool :=
 if (↑(List.length (Zn.Reached a1)):Int)=a0 then
 if (↑(List.length (Zn.Y7 a1)):Int)=a0 then
 if (↑(List.length (Zn.ZbU a1)):Int)=a0 then
 Zt (fun v=>QT a1 v.1) ((0:Int),())
 else
 some Bool.false
 else
 some Bool.false
 else
 some Bool.false
def c79:Ctr:=D2 (.int .i64) (YB) (.bool) Zbx
def Zfx (b0:Za) (t0:Zn):Option Bool :=
 (Zb6 b0).bind fun IsBlock0 =>
 if IsBlock0=true then
 (Zbi b0).bind fun l09Count0 =>
 (Zbx l09Count0 t0).bind fun l12Timing0 =>
 some l12Timing0
 else
 some Bool.false
def c80:Ctr:=D2 (YG) (YB) (.bool) Zfx
def Xg (list0:List Int):Option (List Int) :=
 Zp ((List.length (([]:List Int))+List.length list0)*(8:Nat)≤(140737488355328:Nat)) <|
 some (([]:List Int)++list0)
def c81:Ctr:=⟨[.dat (.sl (.int .i64))],[.own (.ol 2 (.flat (.int .i64)))],fun a K=>splitK a fun list0 a=>YJ (Xg list0) fun r=>K (r,()) ()⟩
def ZeC (t0:Zx):Option Zx :=
 (Xg (Zx.Zgn t0)).bind fun l02Ints0 =>
 (Xg (Zx.Loads t0)).bind fun l02Ints1 =>
 (Xg (Zx.Values t0)).bind fun l02Ints2 =>
 some (l02Ints0,l02Ints1,l02Ints2,())
def c82:Ctr:=⟨[.dat (YP)],[.own (Ze9)],fun a K=>splitK a fun t0 a=>YJ (ZeC t0) fun r=>K (r,()) ()⟩
def XD (list0:List Zx) (out0:List Zx) (i0:Int):Option (((List Zx)×Int×Unit) ⊕ List Zx) :=
 if i0<(↑(List.length list0):Int) then
 (atI list0 i0).bind fun x0 =>
 (ZeC x0).bind fun l02Own0 =>
 Zp ((List.length out0+List.length [l02Own0])*(72:Nat)≤(140737488355328:Nat)) <|
 some (.inl (out0++[l02Own0],IntKind.i64.wrap (i0+(1:Int)),()))
 else
 some (.inr out0)
def Vb (list0:List Zx):Option (List Zx) :=
 Zt (fun v=>XD list0 v.1 v.2.1) (([]:List Zx),(0:Int),())
def c83:Ctr:=⟨[.dat (.sl (YP))],[.own (.ol 290 (Ze9))],fun a K=>splitK a fun list0 a=>YJ (Vb list0) fun r=>K (r,()) ()⟩
def Jm (c0:Zi) (l02Ints0:List Int) (i0:Int) (c1:List ZJ):Option ((Int×(List ZJ)×Unit) ⊕ Zi) :=
 if i0<(↑(List.length (Zi.ZaZ c0)):Int) then
 (atI (Zi.ZaZ c0) i0).bind fun x0 =>
 (Vb (ZJ.Delay x0)).bind fun l03OwnTables0 =>
 (Vb (ZJ.ZbU x0)).bind fun l03OwnTables1 =>
 Zp ((List.length c1+List.length [(ZJ.Kind x0,ZJ.From x0,ZJ.To x0,ZJ.Zcl x0,l03OwnTables0,l03OwnTables1,())])*(80:Nat)≤(140737488355328:Nat)) <|
 some (.inl (IntKind.i64.wrap (i0+(1:Int)),c1++[(ZJ.Kind x0,ZJ.From x0,ZJ.To x0,ZJ.Zcl x0,l03OwnTables0,l03OwnTables1,())],()))
 else
 some (.inr (Zi.Name c0,Zi.Kind c0,([]:List (List UInt8×Int×Int×Bool×Unit))++Zi.Yx c0,c1,l02Ints0,c0.snd.snd.snd.snd.snd))
def ZeP (c0:Zi):Option Zi :=
 Zp ((List.length (([]:List (List UInt8×Int×Int×Bool×Unit)))+List.length (Zi.Yx c0))*(40:Nat)≤(140737488355328:Nat)) <|
 (Xg (Zi.Truth c0)).bind fun l02Ints0 =>
 Zt (fun v=>Jm c0 l02Ints0 v.1 v.2.1) ((0:Int),([]:List ZJ),())
def c84:Ctr:=⟨[.dat (X3)],[.own (Zms)],fun a K=>splitK a fun c0 a=>YJ (ZeP c0) fun r=>K (r,()) ()⟩
def VB (l0:Zk) (i0:Int) (c0:List Zi):Option ((Int×(List Zi)×Unit) ⊕ Zk) :=
 if i0<(↑(List.length (Zk.Cells l0)):Int) then
 (atI (Zk.Cells l0) i0).bind fun x0 =>
 (ZeP x0).bind fun l03Own0 =>
 Zp ((List.length c0+List.length [l03Own0])*(112:Nat)≤(140737488355328:Nat)) <|
 some (.inl (IntKind.i64.wrap (i0+(1:Int)),c0++[l03Own0],()))
 else
 some (.inr (c0,()))
def ZbT (l0:Zk):Option Zk :=
 Zt (fun v=>VB l0 v.1 v.2.1) ((0:Int),([]:List Zi),())
def c85:Ctr:=⟨[.dat (YH)],[.own (ZkH)],fun a K=>splitK a fun l0 a=>YJ (ZbT l0) fun r=>K (r,()) ()⟩
def Jq (d0:Zb) (i0:Int) (c0:List Zd):Option ((Int×(List Zd)×Unit) ⊕ Zb) :=
 if i0<(↑(List.length (Zb.Instances d0)):Int) then
 (atI (Zb.Instances d0) i0).bind fun x0 =>
 (Xg (Zd.ZM x0)).bind fun l02Ints0 =>
 Zp ((List.length c0+List.length [(Zd.Name x0,Zd.Cell x0,l02Ints0,())])*(48:Nat)≤(140737488355328:Nat)) <|
 some (.inl (IntKind.i64.wrap (i0+(1:Int)),c0++[(Zd.Name x0,Zd.Cell x0,l02Ints0,())],()))
 else
 some (.inr (c0,([]:List (List UInt8))++Zb.ZM d0,([]:List (List UInt8×Int×Int×Unit))++Zb.ZQ d0,()))
def Zeu (d0:Zb):Option Zb :=
 Zp ((List.length (([]:List (List UInt8)))+List.length (Zb.ZM d0))*(16:Nat)≤(140737488355328:Nat)) <|
 Zp ((List.length (([]:List (List UInt8×Int×Int×Unit)))+List.length (Zb.ZQ d0))*(32:Nat)≤(140737488355328:Nat)) <|
 Zt (fun v=>Jq d0 v.1 v.2.1) ((0:Int),([]:List Zd),())
def c86:Ctr:=⟨[.dat (Yn)],[.own (Zlf)],fun a K=>splitK a fun d0 a=>YJ (Zeu d0) fun r=>K (r,()) ()⟩
def JH (w0:Zo):Option Zo :=
 (Xg (Zo.Parent w0)).bind fun l02Ints0 =>
 (Xg (Zo.Res w0)).bind fun l02Ints1 =>
 (Xg (Zo.Cap w0)).bind fun l02Ints2 =>
 (Xg (Zo.Zfj w0)).bind fun l02Ints3 =>
 some (l02Ints0,l02Ints1,l02Ints2,l02Ints3,())
def c87:Ctr:=⟨[.dat (X6)],[.own (ZiZ)],fun a K=>splitK a fun w0 a=>YJ (JH w0) fun r=>K (r,()) ()⟩
def Zcn (b0:Za) (l03OwnLibrary0:Zk) (l05Own0:Zb) (i0:Int) (c0:List Zo):Option ((Int×(List Zo)×Unit) ⊕ Za) :=
 if i0<(↑(List.length (Za.Zy b0)):Int) then
 (atI (Za.Zy b0) i0).bind fun x0 =>
 (JH x0).bind fun l07OwnWire0 =>
 Zp ((List.length c0+List.length [l07OwnWire0])*(96:Nat)≤(140737488355328:Nat)) <|
 some (.inl (IntKind.i64.wrap (i0+(1:Int)),c0++[l07OwnWire0],()))
 else
 some (.inr (l03OwnLibrary0,l05Own0,c0,()))
def Zhj (b0:Za):Option Za :=
 (ZbT (Za.Library b0)).bind fun l03OwnLibrary0 =>
 (Zeu (Za.Design b0)).bind fun l05Own0 =>
 Zt (fun v=>Zcn b0 l03OwnLibrary0 l05Own0 v.1 v.2.1) ((0:Int),([]:List Zo),())
def c88:Ctr:=⟨[.dat (YG)],[.own (Zfd)],fun a K=>splitK a fun b0 a=>YJ (Zhj b0) fun r=>K (r,()) ()⟩
def JG (b0:Za) (net0:Int) (l05Sinks0:List Int) (i0:Int) (l1:List Int):Option ((Int×(List Int)×Unit) ⊕ ((Int×(List Int)×Unit) ⊕ List Int)) :=
 if i0<(↑(List.length l05Sinks0):Int) then
 (atI l05Sinks0 i0).bind fun x0 =>
 (atI (Za.Zy b0) net0).bind fun x1 =>
 (atI (Zo.Zfj x1) i0).bind fun x2 =>
 (atI l1 x0).bind fun x3 =>
 some (.inl (IntKind.i64.wrap (i0+1),List.set l1 (Int.toNat x0) x2,()))
 else
 some (.inr (.inl (IntKind.i64.wrap (net0+1),l1,())))
def JL (b0:Za) (net0:Int) (l0:List Int):Option ((Int×(List Int)×Unit) ⊕ List Int) :=
 if net0<(↑(List.length (Za.Zy b0)):Int) then
 (X0 (Za.Design b0) net0).bind fun l05Sinks0 =>
 Zt (fun v=>JG b0 net0 l05Sinks0 v.1 v.2.1) ((0:Int),l0,())
 else
 some (.inr l0)
def ZaD (b0:Za):Option (List Int) :=
 (Y5 (Za.Design b0)).bind fun l05Places0 =>
 Zp ((0:Int)≤(↑(List.length l05Places0):Int)) <|
 Zp ((↑(List.length l05Places0):Int)≤(↑(List.length l05Places0):Int)) <|
 Zp ((↑(List.length l05Places0):Int)≤(4611686018427387904:Int)) <|
 Zp ((↑(8:Nat):Int)*(↑(List.length l05Places0):Int)≤(281474976710656:Int)) <|
 Zt (fun v=>JL b0 v.1 v.2.1) ((0:Int),List.replicate (Int.toNat (↑(List.length l05Places0):Int)) (0:Int),())
def c89:Ctr:=⟨[.dat (YG)],[.own (.ol 2 (.flat (.int .i64)))],fun a K=>splitK a fun b0 a=>YJ (ZaD b0) fun r=>K (r,()) ()⟩
def Vr (d0:Zb) (p0:ZW) (net0:Int):Option Zb :=
 if ZW.instance p0<0 then
 (atI (Zb.ZQ d0) (ZW.pin p0)).bind fun x0 =>
 some (Zb.Instances d0,Zb.ZM d0,List.set (Zb.ZQ d0) (Int.toNat (ZW.pin p0)) (ZV.Name x0,ZV.Dir x0,net0,()),())
 else
 (atI (Zb.Instances d0) (ZW.instance p0)).bind fun x0 =>
 (atI x0.snd.snd.fst (ZW.pin p0)).bind fun x1 =>
 some (List.set (Zb.Instances d0) (Int.toNat (ZW.instance p0)) (x0.fst,x0.snd.fst,List.set x0.snd.snd.fst (Int.toNat (ZW.pin p0)) net0,()),d0.snd)
def c90:Ctr:=⟨[.back (Zlf),.dat (ZfW),.dat (.int .i64)],[],fun a K=>splitK a fun d0 a=>splitK a fun p0 a=>splitK a fun net0 a=>YJ (Vr d0 p0 net0) fun r=>K () (r,())⟩
def ZaG (sinks0:Int) (load0:Int):Option Zo :=
 Zp ((0:Int)≤sinks0) <|
 Zp (sinks0≤sinks0) <|
 Zp (sinks0≤(4611686018427387904:Int)) <|
 Zp ((↑(8:Nat):Int)*sinks0≤(281474976710656:Int)) <|
 some ([(-1:Int)],[(0:Int)],[load0],List.replicate (Int.toNat sinks0) (0:Int),())
def c91:Ctr:=⟨[.dat (.int .i64),.dat (.int .i64)],[.own (ZiZ)],fun a K=>splitK a fun sinks0 a=>splitK a fun load0 a=>YJ (ZaG sinks0 load0) fun r=>K (r,()) ()⟩
def V3 (nodes0:List Int) (net0:Int) (l0:List (List Int×List Int×List Int×List Int×Unit)) (l05Sinks0:List Int) (list0:List Int) (i0:Int):Option (((List Int)×Int×Unit) ⊕ ((Int×(List (List Int×List Int×List Int×List Int×Unit))×Unit) ⊕ Za)) :=
 if i0<(↑(List.length l05Sinks0):Int) then
 (atI l05Sinks0 i0).bind fun x0 =>
 (atI nodes0 x0).bind fun x1 =>
 Zp ((List.length list0+List.length [x1])*(8:Nat)≤(140737488355328:Nat)) <|
 some (.inl (list0++[x1],IntKind.i64.wrap (i0+(1:Int)),()))
 else
 (atI l0 net0).bind fun x0 =>
 some (.inr (.inl (IntKind.i64.wrap (net0+1),List.set l0 (Int.toNat net0) (x0.fst,x0.snd.fst,x0.snd.snd.fst,list0,()),())))
def QK (b0:Za) (nodes0:List Int) (net0:Int) (l0:List (List Int×List Int×List Int×List Int×Unit)):Option ((Int×(List (List Int×List Int×List Int×List Int×Unit))×Unit) ⊕ Za) :=
 if net0<(↑(List.length l0):Int) then
 (X0 (Za.Design b0) net0).bind fun l05Sinks0 =>
 Zt (fun v=>V3 nodes0 net0 l0 l05Sinks0 v.1 v.2.1) (([]:List Int),(0:Int),())
 else
 some (.inr (Za.Library b0,Za.Design b0,l0,()))
def XZ (b0:Za) (nodes0:List Int):Option Za :=
 Zt (fun v=>QK b0 nodes0 v.1 v.2.1) ((0:Int),Za.Zy b0,())
def c92:Ctr:=⟨[.own (Zfd),.dat (.sl (.int .i64))],[.own (Zfd)],fun a K=>splitK a fun b0 a=>splitK a fun nodes0 a=>YJ (XZ b0 nodes0) fun r=>K (r,()) ()⟩
def ZbB (a0:Za) (a1:Zg):Option Za :=
 (Y5 (Za.Design a0)).bind fun l05Places0 =>
 (atI l05Places0 (Zg.Place a1)).bind fun x0 =>
 (ZaD a0).bind fun l08Nodes0 =>
 (atI l08Nodes0 (Zg.Place a1)).bind fun x1 =>
 Zp ((0:Int)≤IntKind.i64.wrap ((↑(List.length l08Nodes0):Int)-(↑(List.length (Zb.ZQ (Za.Design a0))):Int))) <|
 Zp (IntKind.i64.wrap ((↑(List.length l08Nodes0):Int)-(↑(List.length (Zb.ZQ (Za.Design a0))):Int))≤(↑(List.length l08Nodes0):Int)) <|
 (Xg (List.take (Int.toNat (IntKind.i64.wrap ((↑(List.length l08Nodes0):Int)-(↑(List.length (Zb.ZQ (Za.Design a0))):Int)))-Int.toNat 0) (List.drop (Int.toNat 0) l08Nodes0))).bind fun l02Ints0 =>
 Zp ((List.length l02Ints0+List.length [x1,(0:Int)])*(8:Nat)≤(140737488355328:Nat)) <|
 Zp ((↑(List.length l08Nodes0):Int)≤(↑(List.length l08Nodes0):Int)) <|
 Zp ((List.length (l02Ints0++[x1,(0:Int)])+List.length (List.take (Int.toNat (↑(List.length l08Nodes0):Int)-Int.toNat (IntKind.i64.wrap ((↑(List.length l08Nodes0):Int)-(↑(List.length (Zb.ZQ (Za.Design a0))):Int)))) (List.drop (Int.toNat (IntKind.i64.wrap ((↑(List.length l08Nodes0):Int)-(↑(List.length (Zb.ZQ (Za.Design a0))):Int)))) l08Nodes0)))*(8:Nat)≤(140737488355328:Nat)) <|
 (Vr (Za.Design a0) x0 (↑(List.length (Za.Zy a0)):Int)).bind fun l08Connect0 =>
 if IntKind.i64.wrap ((↑(List.length l08Nodes0):Int)-(↑(List.length (Zb.ZQ (Za.Design a0))):Int))≤Zg.Place a1 then
 (atI (l02Ints0++[x1,(0:Int)]++List.take (Int.toNat (↑(List.length l08Nodes0):Int)-Int.toNat (IntKind.i64.wrap ((↑(List.length l08Nodes0):Int)-(↑(List.length (Zb.ZQ (Za.Design a0))):Int)))) (List.drop (Int.toNat (IntKind.i64.wrap ((↑(List.length l08Nodes0):Int)-(↑(List.length (Zb.ZQ (Za.Design a0))):Int)))) l08Nodes0)) (IntKind.i64.wrap (Zg.Place a1+(2:Int)))).bind fun x2 =>
 Zp ((List.length (Zb.Instances l08Connect0)+List.length [(Zg.Name a1,Zg.Cell a1,[ZW.net x0,(↑(List.length (Za.Zy a0)):Int)],())])*(48:Nat)≤(140737488355328:Nat)) <|
 Zp ((List.length (Zb.ZM l08Connect0)+List.length [Zg.Name a1])*(16:Nat)≤(140737488355328:Nat)) <|
 (ZaG 1 0).bind fun l07Lumped0 =>
 Zp ((List.length (Za.Zy a0)+List.length [l07Lumped0])*(96:Nat)≤(140737488355328:Nat)) <|
 (XZ (Za.Library a0,(Zb.Instances l08Connect0++[(Zg.Name a1,Zg.Cell a1,[ZW.net x0,(↑(List.length (Za.Zy a0)):Int)],())],Zb.ZM l08Connect0++[Zg.Name a1],l08Connect0.snd.snd),Za.Zy a0++[l07Lumped0],()) (List.set (l02Ints0++[x1,(0:Int)]++List.take (Int.toNat (↑(List.length l08Nodes0):Int)-Int.toNat (IntKind.i64.wrap ((↑(List.length l08Nodes0):Int)-(↑(List.length (Zb.ZQ (Za.Design a0))):Int)))) (List.drop (Int.toNat (IntKind.i64.wrap ((↑(List.length l08Nodes0):Int)-(↑(List.length (Zb.ZQ (Za.Design a0))):Int)))) l08Nodes0)) (Int.toNat (IntKind.i64.wrap (Zg.Place a1+(2:Int)))) (0:Int))).bind fun l08Attach0 =>
 some l08Attach0
 else
 (atI (l02Ints0++[x1,(0:Int)]++List.take (Int.toNat (↑(List.length l08Nodes0):Int)-Int.toNat (IntKind.i64.wrap ((↑(List.length l08Nodes0):Int)-(↑(List.length (Zb.ZQ (Za.Design a0))):Int)))) (List.drop (Int.toNat (IntKind.i64.wrap ((↑(List.length l08Nodes0):Int)-(↑(List.length (Zb.ZQ (Za.Design a0))):Int)))) l08Nodes0)) (Zg.Place a1)).bind fun x2 =>
 Zp ((List.length (Zb.Instances l08Connect0)+List.length [(Zg.Name a1,Zg.Cell a1,[ZW.net x0,(↑(List.length (Za.Zy a0)):Int)],())])*(48:Nat)≤(140737488355328:Nat)) <|
 Zp ((List.length (Zb.ZM l08Connect0)+List.length [Zg.Name a1])*(16:Nat)≤(140737488355328:Nat)) <|
 (ZaG 1 0).bind fun l07Lumped0 =>
 Zp ((List.length (Za.Zy a0)+List.length [l07Lumped0])*(96:Nat)≤(140737488355328:Nat)) <|
 (XZ (Za.Library a0,(Zb.Instances l08Connect0++[(Zg.Name a1,Zg.Cell a1,[ZW.net x0,(↑(List.length (Za.Zy a0)):Int)],())],Zb.ZM l08Connect0++[Zg.Name a1],l08Connect0.snd.snd),Za.Zy a0++[l07Lumped0],()) (List.set (l02Ints0++[x1,(0:Int)]++List.take (Int.toNat (↑(List.length l08Nodes0):Int)-Int.toNat (IntKind.i64.wrap ((↑(List.length l08Nodes0):Int)-(↑(List.length (Zb.ZQ (Za.Design a0))):Int)))) (List.drop (Int.toNat (IntKind.i64.wrap ((↑(List.length l08Nodes0):Int)-(↑(List.length (Zb.ZQ (Za.Design a0))):Int)))) l08Nodes0)) (Int.toNat (Zg.Place a1)) (0:Int))).bind fun l08Attach0 =>
 some l08Attach0
def c93:Ctr:=⟨[.own (Zfd),.dat (QW)],[.own (Zfd)],fun a K=>splitK a fun a0 a=>splitK a fun a1 a=>YJ (ZbB a0 a1) fun r=>K (r,()) ()⟩
def ZbL (a0:Za):Option Za :=
 (ZaD a0).bind fun l08Nodes0 =>
 (X0 (Za.Design a0) (IntKind.i64.wrap ((↑(List.length (Za.Zy a0)):Int)-1))).bind fun l05Sinks0 =>
 (atI l05Sinks0 0).bind fun x0 =>
 (atI l08Nodes0 (IntKind.i64.wrap (IntKind.i64.wrap ((↑(List.length l08Nodes0):Int)-(↑(List.length (Zb.ZQ (Za.Design a0))):Int))-2))).bind fun x1 =>
 (atI l08Nodes0 x0).bind fun x2 =>
 (atI (Zb.Instances (Za.Design a0)) (IntKind.i64.wrap ((↑(List.length (Zb.Instances (Za.Design a0))):Int)-1))).bind fun x3 =>
 (atI x3.snd.snd.fst 0).bind fun x4 =>
 (Y5 (List.set (Zb.Instances (Za.Design a0)) (Int.toNat (IntKind.i64.wrap ((↑(List.length (Zb.Instances (Za.Design a0))):Int)-1))) x3,(Za.Design a0).snd)).bind fun l05Places0 =>
 (atI l05Places0 x0).bind fun x5 =>
 (Vr (List.set (Zb.Instances (Za.Design a0)) (Int.toNat (IntKind.i64.wrap ((↑(List.length (Zb.Instances (Za.Design a0))):Int)-1))) x3,(Za.Design a0).snd) x5 x4).bind fun l08Connect0 =>
 Zp ((0:Int)≤IntKind.i64.wrap (IntKind.i64.wrap ((↑(List.length l08Nodes0):Int)-(↑(List.length (Zb.ZQ (Za.Design a0))):Int))-(2:Int))) <|
 Zp (IntKind.i64.wrap (IntKind.i64.wrap ((↑(List.length l08Nodes0):Int)-(↑(List.length (Zb.ZQ (Za.Design a0))):Int))-(2:Int))≤(↑(List.length (List.set l08Nodes0 (Int.toNat x0) x1)):Int)) <|
 (Xg (List.take (Int.toNat (IntKind.i64.wrap (IntKind.i64.wrap ((↑(List.length l08Nodes0):Int)-(↑(List.length (Zb.ZQ (Za.Design a0))):Int))-2))-Int.toNat 0) (List.drop (Int.toNat 0) (List.set l08Nodes0 (Int.toNat x0) x1)))).bind fun l02Ints0 =>
 Zp ((0:Int)≤IntKind.i64.wrap ((↑(List.length l08Nodes0):Int)-(↑(List.length (Zb.ZQ (Za.Design a0))):Int))) <|
 Zp (IntKind.i64.wrap ((↑(List.length l08Nodes0):Int)-(↑(List.length (Zb.ZQ (Za.Design a0))):Int))≤(↑(List.length (List.set l08Nodes0 (Int.toNat x0) x1)):Int)) <|
 Zp ((↑(List.length (List.set l08Nodes0 (Int.toNat x0) x1)):Int)≤(↑(List.length (List.set l08Nodes0 (Int.toNat x0) x1)):Int)) <|
 Zp ((List.length l02Ints0+List.length (List.take (Int.toNat (↑(List.length (List.set l08Nodes0 (Int.toNat x0) x1)):Int)-Int.toNat (IntKind.i64.wrap ((↑(List.length l08Nodes0):Int)-(↑(List.length (Zb.ZQ (Za.Design a0))):Int)))) (List.drop (Int.toNat (IntKind.i64.wrap ((↑(List.length l08Nodes0):Int)-(↑(List.length (Zb.ZQ (Za.Design a0))):Int)))) (List.set l08Nodes0 (Int.toNat x0) x1))))*(8:Nat)≤(140737488355328:Nat)) <|
 Zp ((0:Int)≤IntKind.i64.wrap ((↑(List.length (Zb.Instances (Za.Design a0))):Int)-(1:Int))) <|
 Zp (IntKind.i64.wrap ((↑(List.length (Zb.Instances (Za.Design a0))):Int)-(1:Int))≤(↑(List.length (Zb.Instances l08Connect0)):Int)) <|
 Zp ((0:Int)≤IntKind.i64.wrap ((↑(List.length (Za.Zy a0)):Int)-(1:Int))) <|
 Zp (IntKind.i64.wrap ((↑(List.length (Za.Zy a0)):Int)-(1:Int))≤(↑(List.length (Zb.ZM l08Connect0)):Int)) <|
 Zp (IntKind.i64.wrap ((↑(List.length (Za.Zy a0)):Int)-(1:Int))≤(↑(List.length (Za.Zy a0)):Int)) <|
 (XZ (Za.Library a0,(List.take (Int.toNat (IntKind.i64.wrap ((↑(List.length (Zb.Instances (Za.Design a0))):Int)-1))-Int.toNat 0) (List.drop (Int.toNat 0) (Zb.Instances l08Connect0)),List.take (Int.toNat (IntKind.i64.wrap ((↑(List.length (Za.Zy a0)):Int)-1))-Int.toNat 0) (List.drop (Int.toNat 0) (Zb.ZM l08Connect0)),l08Connect0.snd.snd),List.take (Int.toNat (IntKind.i64.wrap ((↑(List.length (Za.Zy a0)):Int)-1))-Int.toNat 0) (List.drop (Int.toNat 0) (Za.Zy a0)),()) (l02Ints0++List.take (Int.toNat (↑(List.length (List.set l08Nodes0 (Int.toNat x0) x1)):Int)-Int.toNat (IntKind.i64.wrap ((↑(List.length l08Nodes0):Int)-(↑(List.length (Zb.ZQ (Za.Design a0))):Int)))) (List.drop (Int.toNat (IntKind.i64.wrap ((↑(List.length l08Nodes0):Int)-(↑(List.length (Zb.ZQ (Za.Design a0))):Int)))) (List.set l08Nodes0 (Int.toNat x0) x1)))).bind fun l08Attach0 =>
 some l08Attach0
def c94:Ctr:=⟨[.own (Zfd)],[.own (Zfd)],fun a K=>splitK a fun a0 a=>YJ (ZbL a0) fun r=>K (r,()) ()⟩
def Zfy (a0:Za) (a1:Zg):Option Za :=
 (Zhj a0).bind fun l07Own0 =>
 (Y5 (Za.Design l07Own0)).bind fun l05Places0 =>
 if Zg.Kind a1=1 then
 (atI l05Places0 (Zg.Place a1)).bind fun x0 =>
 (atI (Zb.Instances (Za.Design l07Own0)) (ZW.instance x0)).bind fun x1 =>
 some (Za.Library l07Own0,(List.set (Zb.Instances (Za.Design l07Own0)) (Int.toNat (ZW.instance x0)) (x1.fst,Zg.Cell a1,x1.snd.snd),(Za.Design l07Own0).snd),l07Own0.snd.snd)
 else
 if Zg.Kind a1=2 then
 (ZbB l07Own0 a1).bind fun l08Insert0 =>
 some l08Insert0
 else
 if Zg.Kind a1=3 then
 (ZbL l07Own0).bind fun l08Remove0 =>
 some l08Remove0
 else
 if Zg.Kind a1=4 then
 (ZaD l07Own0).bind fun l08Nodes0 =>
 (atI l08Nodes0 (Zg.Place a1)).bind fun x0 =>
 (atI l05Places0 (Zg.Place a1)).bind fun x1 =>
 (Vr (Za.Design l07Own0) x1 (Zg.Net a1)).bind fun l08Connect0 =>
 (XZ (Za.Library l07Own0,l08Connect0,l07Own0.snd.snd) (List.set l08Nodes0 (Int.toNat (Zg.Place a1)) (Zg.Node a1))).bind fun l08Attach0 =>
 some l08Attach0
 else
 if Zg.Kind a1=5 then
 (JH (Zg.Zet a1)).bind fun l07OwnWire0 =>
 (atI (Za.Zy l07Own0) (Zg.Net a1)).bind fun x0 =>
 some (Za.Library l07Own0,Za.Design l07Own0,List.set (Za.Zy l07Own0) (Int.toNat (Zg.Net a1)) l07OwnWire0,())
 else
 some l07Own0
def c95:Ctr:=⟨[.dat (YG),.dat (QW)],[.own (Zfd)],fun a K=>splitK a fun a0 a=>splitK a fun a1 a=>YJ (Zfy a0 a1) fun r=>K (r,()) ()⟩
def Zct (n0:Int):Option Zn :=
 Zp ((0:Int)≤n0) <|
 Zp (n0≤n0) <|
 Zp (n0≤(4611686018427387904:Int)) <|
 Zp ((↑(1:Nat):Int)*n0≤(281474976710656:Int)) <|
 Zp ((↑(16:Nat):Int)*n0≤(281474976710656:Int)) <|
 some (List.replicate (Int.toNat n0) Bool.false,List.replicate (Int.toNat n0) (0,0,()),List.replicate (Int.toNat n0) (0,0,()),())
def c96:Ctr:=⟨[.dat (.int .i64)],[.own (Zib)],fun a K=>splitK a fun n0 a=>YJ (Zct n0) fun r=>K (r,()) ()⟩
def QO (b0:Za) (e0:Zg) (l05Places0:List ZW) (out0:List Int) (p0:Int):Option (((List Int)×Int×Unit) ⊕ List Int) :=
 if p0<(↑(List.length l05Places0):Int) then
 if Zg.Kind e0=2 then
 if IntKind.i64.wrap ((↑(List.length l05Places0):Int)-(↑(List.length (Zb.ZQ (Za.Design b0))):Int))≤p0 then
 Zp ((List.length out0+List.length [IntKind.i64.wrap (p0+(2:Int))])*(8:Nat)≤(140737488355328:Nat)) <|
 some (.inl (out0++[IntKind.i64.wrap (p0+(2:Int))],IntKind.i64.wrap (p0+(1:Int)),()))
 else
 if Zg.Kind e0=3 then
 if IntKind.i64.wrap ((↑(List.length l05Places0):Int)-(↑(List.length (Zb.ZQ (Za.Design b0))):Int))≤p0 then
 Zp ((List.length out0+List.length [IntKind.i64.wrap (p0-(2:Int))])*(8:Nat)≤(140737488355328:Nat)) <|
 some (.inl (out0++[IntKind.i64.wrap (p0-(2:Int))],IntKind.i64.wrap (p0+(1:Int)),()))
 else
 if Zg.Kind e0=3 then
 if IntKind.i64.wrap (IntKind.i64.wrap ((↑(List.length l05Places0):Int)-(↑(List.length (Zb.ZQ (Za.Design b0))):Int))-2)≤p0 then
 Zp ((List.length out0+List.length [(-1:Int)])*(8:Nat)≤(140737488355328:Nat)) <|
 some (.inl (out0++[(-1:Int)],IntKind.i64.wrap (p0+(1:Int)),()))
 else
 Zp ((List.length out0+List.length [p0])*(8:Nat)≤(140737488355328:Nat)) <|
 some (.inl (out0++[p0],IntKind.i64.wrap (p0+(1:Int)),()))
 else
 Zp ((List.length out0+List.length [p0])*(8:Nat)≤(140737488355328:Nat)) <|
 some (.inl (out0++[p0],IntKind.i64.wrap (p0+(1:Int)),()))
 else
 if Zg.Kind e0=3 then
 if IntKind.i64.wrap (IntKind.i64.wrap ((↑(List.length l05Places0):Int)-(↑(List.length (Zb.ZQ (Za.Design b0))):Int))-2)≤p0 then
 Zp ((List.length out0+List.length [(-1:Int)])*(8:Nat)≤(140737488355328:Nat)) <|
 some (.inl (out0++[(-1:Int)],IntKind.i64.wrap (p0+(1:Int)),()))
 else
 Zp ((List.length out0+List.length [p0])*(8:Nat)≤(140737488355328:Nat)) <|
 some (.inl (out0++[p0],IntKind.i64.wrap (p0+(1:Int)),()))
 else
 Zp ((List.length out0+List.length [p0])*(8:Nat)≤(140737488355328:Nat)) <|
 some (.inl (out0++[p0],IntKind.i64.wrap (p0+(1:Int)),()))
 else
 if Zg.Kind e0=3 then
 if IntKind.i64.wrap ((↑(List.length l05Places0):Int)-(↑(List.length (Zb.ZQ (Za.Design b0))):Int))≤p0 then
 Zp ((List.length out0+List.length [IntKind.i64.wrap (p0-(2:Int))])*(8:Nat)≤(140737488355328:Nat)) <|
 some (.inl (out0++[IntKind.i64.wrap (p0-(2:Int))],IntKind.i64.wrap (p0+(1:Int)),()))
 else
 if Zg.Kind e0=3 then
 if IntKind.i64.wrap (IntKind.i64.wrap ((↑(List.length l05Places0):Int)-(↑(List.length (Zb.ZQ (Za.Design b0))):Int))-2)≤p0 then
 Zp ((List.length out0+List.length [(-1:Int)])*(8:Nat)≤(140737488355328:Nat)) <|
 some (.inl (out0++[(-1:Int)],IntKind.i64.wrap (p0+(1:Int)),()))
 else
 Zp ((List.length out0+List.length [p0])*(8:Nat)≤(140737488355328:Nat)) <|
 some (.inl (out0++[p0],IntKind.i64.wrap (p0+(1:Int)),()))
 else
 Zp ((List.length out0+List.length [p0])*(8:Nat)≤(140737488355328:Nat)) <|
 some (.inl (out0++[p0],IntKind.i64.wrap (p0+(1:Int)),()))
 else
 if Zg.Kind e0=3 then
 if IntKind.i64.wrap (IntKind.i64.wrap ((↑(List.length l05Places0):Int)-(↑(List.length (Zb.ZQ (Za.Design b0))):Int))-2)≤p0 then
 Zp ((List.length out0+List.length [(-1:Int)])*(8:Nat)≤(140737488355328:Nat)) <|
 some (.inl (out0++[(-1:Int)],IntKind.i64.wrap (p0+(1:Int)),()))
 else
 Zp ((List.length out0+List.length [p0])*(8:Nat)≤(140737488355328:Nat)) <|
 some (.inl (out0++[p0],IntKind.i64.wrap (p0+(1:Int)),()))
 else
 Zp ((List.length out0+List.length [p0])*(8:Nat)≤(140737488355328:Nat)) <|
 some (.inl (out0++[p0],IntKind.i64.wrap (p0+(1:Int)),()))
 else
 some (.inr out0)
def ZbC (b0:Za) (e0:Zg):Option (List Int) :=
 (Y5 (Za.Design b0)).bind fun l05Places0 =>
 Zt (fun v=>QO b0 e0 l05Places0 v.1 v.2.1) (([]:List Int),(0:Int),())
def c97:Ctr:=⟨[.dat (YG),.dat (QW)],[.own (.ol 2 (.flat (.int .i64)))],fun a K=>splitK a fun b0 a=>splitK a fun e0 a=>YJ (ZbC b0 e0) fun r=>K (r,()) ()⟩
def QM (a2:Zn) (l32Places0:List Int) (v0:Int) (l0:List Bool) (l1:List Yh) (l2:List Yh):Option ((Int×(List Bool)×(List Yh)×(List Yh)×Unit) ⊕ Zn) :=
 if v0<(↑(List.length (Zn.Reached a2)):Int) then
 (atI l32Places0 (IntKind.i64.wrap (Int.tdiv v0 2))).bind fun x0 =>
 if x0<0 then
 some (.inl (IntKind.i64.wrap (v0+1),l0,l1,l2,()))
 else
 (atI (Zn.Reached a2) v0).bind fun x1 =>
 (atI l0 (IntKind.i64.wrap (IntKind.i64.wrap (2*x0)+Int.tmod v0 2))).bind fun x2 =>
 (atI (Zn.Y7 a2) v0).bind fun x3 =>
 (atI l1 (IntKind.i64.wrap (IntKind.i64.wrap (2*x0)+Int.tmod v0 2))).bind fun x4 =>
 (atI (Zn.ZbU a2) v0).bind fun x5 =>
 (atI l2 (IntKind.i64.wrap (IntKind.i64.wrap (2*x0)+Int.tmod v0 2))).bind fun x6 =>
 some (.inl (IntKind.i64.wrap (v0+1),List.set l0 (Int.toNat (IntKind.i64.wrap (IntKind.i64.wrap (2*x0)+Int.tmod v0 2))) x1,List.set l1 (Int.toNat (IntKind.i64.wrap (IntKind.i64.wrap (2*x0)+Int.tmod v0 2))) x3,List.set l2 (Int.toNat (IntKind.i64.wrap (IntKind.i64.wrap (2*x0)+Int.tmod v0 2))) x5,()))
 else
 some (.inr (l0,l1,l2,()))
def ZbD (a0:Za) (a1:Zg) (a2:Zn):Option Zn :=
 (Zfy a0 a1).bind fun l08Apply0 =>
 (Zbi l08Apply0).bind fun l09Count0 =>
 (Zct l09Count0).bind fun l12Empty0 =>
 (ZbC a0 a1).bind fun l32Places0 =>
 Zt (fun v=>QM a2 l32Places0 v.1 v.2.1 v.2.2.1 v.2.2.2.1) ((0:Int),Zn.Reached l12Empty0,Zn.Y7 l12Empty0,Zn.ZbU l12Empty0,())
def c98:Ctr:=⟨[.dat (YG),.dat (QW),.dat (YB)],[.own (Zib)],fun a K=>splitK a fun a0 a=>splitK a fun a1 a=>splitK a fun a2 a=>YJ (ZbD a0 a1 a2) fun r=>K (r,()) ()⟩
def Zag (b0:Za) (e0:Zg) (t0:Zn):Option (Zn×Int) :=
 (Zai b0 e0).bind fun EditCode0 =>
 if EditCode0=0 then
 (Zfx b0 t0).bind fun IsTiming0 =>
 if IsTiming0=true then
 (ZbD b0 e0 t0).bind fun l32Timing0 =>
 some (l32Timing0,0)
 else
 some ((([]:List Bool),([]:List Yh),([]:List Yh),()),(2:Int))
 else
 some ((([]:List Bool),([]:List Yh),([]:List Yh),()),EditCode0)
def c99:Ctr:=⟨[.dat (YG),.dat (QW),.dat (YB)],[.own (Zib),.dat (.int .i64)],fun a K=>splitK a fun b0 a=>splitK a fun e0 a=>splitK a fun t0 a=>YJ (Zag b0 e0 t0) fun r=>K (r.1,r.2,()) ()⟩
def Yd (x0:Int) (low0:Int) (high0:Int):Option Bool :=
 if low0≤x0 then
 some (Decidable.decide (x0≤high0))
 else
 some Bool.false
def Zrh:Ctr:=D3 (.int .i64) (.int .i64) (.int .i64) (.bool) Yd
def Zcb (s0:List UInt8):Option Bool :=
 (Yd (↑(List.length s0):Int) 1 8).bind fun within0 =>
 if within0=true then
 Zp (List.length s0≤(1000000:Nat)) <|
 if Go.Lib.trimS s0 [(97:UInt8),(98:UInt8),(99:UInt8),(100:UInt8),(101:UInt8),(102:UInt8),(103:UInt8),(104:UInt8),(105:UInt8),(106:UInt8),(107:UInt8),(108:UInt8),(109:UInt8),(110:UInt8),(111:UInt8),(112:UInt8),(113:UInt8),(114:UInt8),(115:UInt8),(116:UInt8),(117:UInt8),(118:UInt8),(119:UInt8),(120:UInt8),(121:UInt8),(122:UInt8),(48:UInt8),(49:UInt8),(50:UInt8),(51:UInt8),(52:UInt8),(53:UInt8),(54:UInt8),(55:UInt8),(56:UInt8),(57:UInt8)]=([]:List UInt8) then
 (atI s0 0).bind fun x0 =>
 some (Decidable.decide ((0:Int)≤Go.Lib.indexByte [(97:UInt8),(98:UInt8),(99:UInt8),(100:UInt8),(101:UInt8),(102:UInt8),(103:UInt8),(104:UInt8),(105:UInt8),(106:UInt8),(107:UInt8),(108:UInt8),(109:UInt8),(110:UInt8),(111:UInt8),(112:UInt8),(113:UInt8),(114:UInt8),(115:UInt8),(116:UInt8),(117:UInt8),(118:UInt8),(119:UInt8),(120:UInt8),(121:UInt8),(122:UInt8)] (Nat.toUInt8 (Int.toNat (↑(UInt8.toNat x0):Int)))))
 else
 some Bool.false
 else
 some Bool.false
def Zx5:Ctr:=D1 (.str) (.bool) Zcb
def QL (list0:List Yz):Option Int :=
 some (↑(List.length list0):Int)
def ZyW:Ctr:=D1 (.sl (ZdO)) (.int .i64) QL
def Ym (s0:List (List UInt8)) (v0:List UInt8) (v1:Int):Option ((Int×Unit) ⊕ Int) :=
 if v1<(↑(List.length s0):Int) then
 (atI s0 v1).bind fun x0 =>
 if v0=x0 then
 some (.inr v1)
 else
 some (.inl (IntKind.i64.wrap (v1+1),()))
 else
 some (.inr (-1))
def Yi (s0:List (List UInt8)) (v0:List UInt8):Option Int :=
 Zt (fun v=>Ym s0 v0 v.1) ((0:Int),())
def Zzt:Ctr:=D2 (.sl (.str)) (.str) (.int .i64) Yi
def YM (s0:List (List UInt8)) (v0:List UInt8):Option Bool :=
 (Yi s0 v0).bind fun string0 =>
 some (Decidable.decide (0≤string0))
def ZzY:Ctr:=D2 (.sl (.str)) (.str) (.bool) YM
def JB (list0:List (List UInt8)) (v0:Int):Option ((Int×Unit) ⊕ Bool) :=
 if v0<(↑(List.length list0):Int) then
 (atI list0 v0).bind fun x0 =>
 (Zcb x0).bind fun isName0 =>
 if isName0=true then
 Zp ((0:Int)≤v0) <|
 Zp (v0≤(↑(List.length list0):Int)) <|
 (YM (List.take (Int.toNat v0-Int.toNat 0) (List.drop (Int.toNat 0) list0)) x0).bind fun string0 =>
 if string0=true then
 some (.inr Bool.false)
 else
 some (.inl (IntKind.i64.wrap (v0+1),()))
 else
 some (.inr Bool.false)
 else
 some (.inr Bool.true)
def Vm (list0:List (List UInt8)):Option Bool :=
 Zt (fun v=>JB list0 v.1) ((0:Int),())
def c105:Ctr:=D1 (.sl (.str)) (.bool) Vm
def QC (list0:List Yz) (names0:List (List UInt8)) (v0:Int):Option (((List (List UInt8))×Int×Unit) ⊕ Bool) :=
 if v0<(↑(List.length list0):Int) then
 (atI list0 v0).bind fun x0 =>
 Zp ((List.length names0+List.length [Yz.Name x0])*(16:Nat)≤(140737488355328:Nat)) <|
 if v0=IntKind.i64.wrap ((↑(List.length list0):Int)-1) then
 if Yz.Dir x0=2 then
 if Yz.Cap x0=0 then
 if (Yz.Clock x0)=true then
 some (.inr Bool.false)
 else
 some (.inl (names0++[Yz.Name x0],IntKind.i64.wrap (v0+(1:Int)),()))
 else
 some (.inr Bool.false)
 else
 some (.inr Bool.false)
 else
 if Yz.Dir x0=1 then
 (Yd (Yz.Cap x0) 0 500).bind fun within0 =>
 if within0=true then
 some (.inl (names0++[Yz.Name x0],IntKind.i64.wrap (v0+(1:Int)),()))
 else
 some (.inr Bool.false)
 else
 some (.inr Bool.false)
 else
 (QL list0).bind fun Pin0 =>
 (Yd Pin0 2 5).bind fun within0 =>
 if within0=true then
 (Vm names0).bind fun areNames0 =>
 some (.inr areNames0)
 else
 some (.inr Bool.false)
def ZdL (list0:List Yz):Option Bool :=
 Zt (fun v=>QC list0 v.1 v.2.1) (([]:List (List UInt8)),(0:Int),())
def ZzS:Ctr:=D1 (.sl (ZdO)) (.bool) ZdL
def Zdv (kind0:Int):Option Bool :=
 if kind0=4 then
 some Bool.true
 else
 some (Decidable.decide (kind0=5))
def c107:Ctr:=D1 (.int .i64) (.bool) Zdv
def YE (list0:List Int):Option Int :=
 some (↑(List.length list0):Int)
def Zxi:Ctr:=D1 (.sl (.int .i64)) (.int .i64) YE
def ZaT (n0:Int) (a0:Int) (a1:Int):Option Bool :=
 (Yd n0 a0 a1).bind fun within0 =>
 some !within0
def c109:Ctr:=D3 (.int .i64) (.ptr (.int .i64)) (.ptr (.int .i64)) (.bool) ZaT
def YA (s0:List Int) (f0:Int×Int×Unit) (v0:Int):Option ((Int×Unit) ⊕ Int) :=
 if v0<(↑(List.length s0):Int) then
 (atI s0 v0).bind fun x0 =>
 (ZaT x0 f0.fst f0.snd.fst).bind fun c1_0 =>
 if c1_0=true then
 some (.inr v0)
 else
 some (.inl (IntKind.i64.wrap (v0+1),()))
 else
 some (.inr (-1))
def Yo (s0:List Int) (f0:Int×Int×Unit):Option Int :=
 Zt (fun v=>YA s0 f0 v.1) ((0:Int),())
def ZAW:Ctr:=D2 (.sl (.int .i64)) (.fn 250 (.pair (.ptr (.int .i64)) (.pair (.ptr (.int .i64)) (.unit)))) (.int .i64) Yo
def Z4 (s0:List Int) (f0:Int×Int×Unit):Option Bool :=
 (Yo s0 f0).bind fun c1_0 =>
 some (Decidable.decide (0≤c1_0))
def ZAe:Ctr:=D2 (.sl (.int .i64)) (.fn 250 (.pair (.ptr (.int .i64)) (.pair (.ptr (.int .i64)) (.unit)))) (.bool) Z4
def Xv (list0:List Int) (low0:Int) (high0:Int):Option Bool :=
 (Z4 list0 (low0,high0,())).bind fun c1_0 =>
 some !c1_0
def ZxN:Ctr:=D3 (.sl (.int .i64)) (.int .i64) (.int .i64) (.bool) Xv
def Xb (list0:List Int) (i0:Int):Option ((Int×Unit) ⊕ Bool) :=
 if i0<(↑(List.length list0):Int) then
 (atI list0 (IntKind.i64.wrap (i0-1))).bind fun x0 =>
 (atI list0 i0).bind fun x1 =>
 if x1≤x0 then
 some (.inr Bool.false)
 else
 some (.inl (IntKind.i64.wrap (i0+1),()))
 else
 some (.inr Bool.true)
def Jf (list0:List Int):Option Bool :=
 Zt (fun v=>Xb list0 v.1) ((1:Int),())
def ZAr:Ctr:=D1 (.sl (.int .i64)) (.bool) Jf
def Zdr (list0:List Int):Option Bool :=
 (YE list0).bind fun int64_0 =>
 (Yd int64_0 1 4).bind fun within0 =>
 if within0=true then
 (Xv list0 0 100000).bind fun areWithin0 =>
 if areWithin0=true then
 (Jf list0).bind fun isIncreasing0 =>
 some isIncreasing0
 else
 some Bool.false
 else
 some Bool.false
def ZAj:Ctr:=D1 (.sl (.int .i64)) (.bool) Zdr
def Zdy (t0:Zx):Option Bool :=
 (Zdr (Zx.Zgn t0)).bind fun isAxis0 =>
 if isAxis0=true then
 (Zdr (Zx.Loads t0)).bind fun isAxis1 =>
 if isAxis1=true then
 if (↑(List.length (Zx.Values t0)):Int)=IntKind.i64.wrap ((↑(List.length (Zx.Zgn t0)):Int)*(↑(List.length (Zx.Loads t0)):Int)) then
 (Xv (Zx.Values t0) (-1000000) 1000000).bind fun areWithin0 =>
 some areWithin0
 else
 some Bool.false
 else
 some Bool.false
 else
 some Bool.false
def ZzK:Ctr:=D1 (YP) (.bool) Zdy
def Xc (x0:List Int) (m0:Int) (i0:Int):Option ((Int×Int×Unit) ⊕ Int) :=
 if i0<(↑(List.length x0):Int) then
 (atI x0 i0).bind fun x2 =>
 some (.inl (Min.min m0 x2,IntKind.i64.wrap (i0+1),()))
 else
 some (.inr m0)
def XE (x0:List Int):Option Int :=
 if (↑(List.length x0):Int)<1 then
 none
 else
 (atI x0 0).bind fun x1 =>
 Zt (fun v=>Xc x0 v.1 v.2.1) (x1,(1:Int),())
def c116:Ctr:=D1 (.sl (.int .i64)) (.int .i64) XE
def Qd (t0:Zx) (a0:Bool):Option Bool :=
 (Zdy t0).bind fun IsTable0 =>
 if IsTable0=true then
 if a0=true then
 (XE (Zx.Values t0)).bind fun int64_0 =>
 some (Decidable.decide (int64_0<0))
 else
 some Bool.false
 else
 some Bool.true
def c117:Ctr:=D2 (YP) (.ptr (.bool)) (.bool) Qd
def Yf (s0:List Zx) (f0:Bool×Unit) (v0:Int):Option ((Int×Unit) ⊕ Int) :=
 if v0<(↑(List.length s0):Int) then
 (atI s0 v0).bind fun x0 =>
 (Qd x0 f0.fst).bind fun c1_0 =>
 if c1_0=true then
 some (.inr v0)
 else
 some (.inl (IntKind.i64.wrap (v0+1),()))
 else
 some (.inr (-1))
def Z8 (s0:List Zx) (f0:Bool×Unit):Option Int :=
 Zt (fun v=>Yf s0 f0 v.1) ((0:Int),())
def ZBe:Ctr:=D2 (.sl (YP)) (.fn 324 (.pair (.ptr (.bool)) (.unit))) (.int .i64) Z8
def ZA (s0:List Zx) (f0:Bool×Unit):Option Bool :=
 (Z8 s0 f0).bind fun c1_0 =>
 some (Decidable.decide (0≤c1_0))
def c119:Ctr:=D2 (.sl (YP)) (.fn 324 (.pair (.ptr (.bool)) (.unit))) (.bool) ZA
def Jc (list0:List Zx) (positive0:Bool):Option Bool :=
 if (↑(List.length list0):Int)=2 then
 (ZA list0 (positive0,())).bind fun c1_0 =>
 some !c1_0
 else
 some Bool.false
def ZAE:Ctr:=D2 (.sl (YP)) (.bool) (.bool) Jc
def Zar (p0:Yz):Option Bool :=
 some (Yz.Clock p0)
def ZAh:Ctr:=D1 (ZdO) (.bool) Zar
def Yl (s0:List Yz) (v0:Int):Option ((Int×Unit) ⊕ Int) :=
 if v0<(↑(List.length s0):Int) then
 (atI s0 v0).bind fun x0 =>
 (Zar x0).bind fun c1_0 =>
 if c1_0=true then
 some (.inr v0)
 else
 some (.inl (IntKind.i64.wrap (v0+1),()))
 else
 some (.inr (-1))
def Yb (s0:List Yz) (f0:Unit):Option Int :=
 Zt (fun v=>Yl s0 v.1) ((0:Int),())
def ZzJ:Ctr:=D2 (.sl (ZdO)) (.fn 328 (.unit)) (.int .i64) Yb
def ZaS (c0:Zi):Option Int :=
 (Yb (Zi.Yx c0) ()).bind fun c1_0 =>
 some c1_0
def Zz5:Ctr:=D1 (X3) (.int .i64) ZaS
def VN (c0:Zi):Option Int :=
 (QL (Zi.Yx c0)).bind fun Pin0 =>
 some (IntKind.i64.wrap (Pin0-1))
def c124:Ctr:=D1 (X3) (.int .i64) VN
def Vh (c0:Zi) (pin0:Int):Option Bool :=
 (VN c0).bind fun output0 =>
 (Yd pin0 0 (IntKind.i64.wrap (output0-1))).bind fun within0 =>
 some within0
def ZzQ:Ctr:=D2 (X3) (.int .i64) (.bool) Vh
def ZaP (a0:Zi) (a1:ZJ):Option Bool :=
 (Zdv (ZJ.Kind a1)).bind fun isCheck0 =>
 if isCheck0=true then
 if ZJ.Zcl a1=0 then
 if (↑(List.length (ZJ.ZbU a1)):Int)=0 then
 (Jc (ZJ.Delay a1) Bool.false).bind fun areTables0 =>
 if areTables0=true then
 (ZaS a0).bind fun clock0 =>
 if ZJ.From a1=clock0 then
 if 0≤ZJ.From a1 then
 (Vh a0 (ZJ.To a1)).bind fun isInput0 =>
 if isInput0=true then
 some (!Decidable.decide (ZJ.To a1=ZJ.From a1))
 else
 some Bool.false
 else
 some Bool.false
 else
 some Bool.false
 else
 some Bool.false
 else
 some Bool.false
 else
 some Bool.false
 else
 (Jc (ZJ.Delay a1) Bool.true).bind fun areTables0 =>
 if areTables0=true then
 (Jc (ZJ.ZbU a1) Bool.true).bind fun areTables1 =>
 if areTables1=true then
 (VN a0).bind fun output0 =>
 if ZJ.To a1=output0 then
 (Vh a0 (ZJ.From a1)).bind fun isInput0 =>
 if isInput0=true then
 if ZJ.Kind a1=1 then
 (atI (Zi.Yx a0) (ZJ.From a1)).bind fun x0 =>
 if (Yz.Clock x0)=true then
 some Bool.false
 else
 (Yd (ZJ.Zcl a1) 1 3).bind fun within0 =>
 some within0
 else
 if ZJ.Kind a1=2 then
 if ZJ.Kind a1=2 then
 (atI (Zi.Yx a0) (ZJ.From a1)).bind fun x0 =>
 if (Yz.Clock x0)=true then
 some (Decidable.decide (ZJ.Zcl a1=0))
 else
 some Bool.false
 else
 some Bool.false
 else
 if ZJ.Kind a1=3 then
 (atI (Zi.Yx a0) (ZJ.From a1)).bind fun x0 =>
 if (Yz.Clock x0)=true then
 some (Decidable.decide (ZJ.Zcl a1=0))
 else
 some Bool.false
 else
 some Bool.false
 else
 some Bool.false
 else
 some Bool.false
 else
 some Bool.false
 else
 some Bool.false
def ZAq:Ctr:=D2 (X3) (Zfc) (.bool) ZaP
def Xi (o0:ZJ) (a0:ZJ):Option Bool :=
 if ZJ.Kind o0=ZJ.Kind a0 then
 if ZJ.From o0=ZJ.From a0 then
 some (Decidable.decide (ZJ.To o0=ZJ.To a0))
 else
 some Bool.false
 else
 some Bool.false
def c127:Ctr:=D2 (Zfc) (.ptr (Zfc)) (.bool) Xi
def ZL (s0:List ZJ) (f0:ZJ×Unit) (v0:Int):Option ((Int×Unit) ⊕ Int) :=
 if v0<(↑(List.length s0):Int) then
 (atI s0 v0).bind fun x0 =>
 (Xi x0 f0.fst).bind fun c1_0 =>
 if c1_0=true then
 some (.inr v0)
 else
 some (.inl (IntKind.i64.wrap (v0+1),()))
 else
 some (.inr (-1))
def ZG (s0:List ZJ) (f0:ZJ×Unit):Option Int :=
 Zt (fun v=>ZL s0 f0 v.1) ((0:Int),())
def ZzF:Ctr:=D2 (.sl (Zfc)) (.fn 302 (.pair (.ptr (Zfc)) (.unit))) (.int .i64) ZG
def ZE (s0:List ZJ) (f0:ZJ×Unit):Option Bool :=
 (ZG s0 f0).bind fun c1_0 =>
 some (Decidable.decide (0≤c1_0))
def Zz4:Ctr:=D2 (.sl (Zfc)) (.fn 302 (.pair (.ptr (Zfc)) (.unit))) (.bool) ZE
def QE (c0:Zi) (v0:Int):Option ((Int×Unit) ⊕ Bool) :=
 if v0<(↑(List.length (Zi.ZaZ c0)):Int) then
 (atI (Zi.ZaZ c0) v0).bind fun x0 =>
 (ZaP c0 x0).bind fun isArc0 =>
 if isArc0=true then
 Zp ((0:Int)≤v0) <|
 Zp (v0≤(↑(List.length (Zi.ZaZ c0)):Int)) <|
 (ZE (List.take (Int.toNat v0-Int.toNat 0) (List.drop (Int.toNat 0) (Zi.ZaZ c0))) (x0,())).bind fun c1_0 =>
 if c1_0=true then
 some (.inr Bool.false)
 else
 some (.inl (IntKind.i64.wrap (v0+1),()))
 else
 some (.inr Bool.false)
 else
 some (.inr (Decidable.decide ((↑(List.length (Zi.ZaZ c0)):Int)≤8)))
def Jp (c0:Zi):Option Bool :=
 Zt (fun v=>QE c0 v.1) ((0:Int),())
def c130:Ctr:=D1 (X3) (.bool) Jp
def Zaa (a0:ZJ) (a1:Int):Option Bool :=
 some (Decidable.decide (ZJ.Kind a0=a1))
def c131:Ctr:=D2 (Zfc) (.ptr (.int .i64)) (.bool) Zaa
def ZT (s0:List ZJ) (f0:Int×Unit) (v0:Int):Option ((Int×Unit) ⊕ Int) :=
 if v0<(↑(List.length s0):Int) then
 (atI s0 v0).bind fun x0 =>
 (Zaa x0 f0.fst).bind fun c1_0 =>
 if c1_0=true then
 some (.inr v0)
 else
 some (.inl (IntKind.i64.wrap (v0+1),()))
 else
 some (.inr (-1))
def ZP (s0:List ZJ) (f0:Int×Unit):Option Int :=
 Zt (fun v=>ZT s0 f0 v.1) ((0:Int),())
def ZBc:Ctr:=D2 (.sl (Zfc)) (.fn 318 (.pair (.ptr (.int .i64)) (.unit))) (.int .i64) ZP
def ZH (s0:List ZJ) (f0:Int×Unit):Option Bool :=
 (ZP s0 f0).bind fun c1_0 =>
 some (Decidable.decide (0≤c1_0))
def ZBq:Ctr:=D2 (.sl (Zfc)) (.fn 318 (.pair (.ptr (.int .i64)) (.unit))) (.bool) ZH
def QG (c0:Zi) (kind0:Int):Option Bool :=
 (ZH (Zi.ZaZ c0) (kind0,())).bind fun c1_0 =>
 some c1_0
def ZAJ:Ctr:=D2 (X3) (.int .i64) (.bool) QG
def Y0 (a0:Zi) (v0:Int) (v1:Int):Option ((Int×Int×Unit) ⊕ Bool) :=
 if v1<(↑(List.length (Zi.Yx a0)):Int) then
 (atI (Zi.Yx a0) v1).bind fun x0 =>
 if (Yz.Clock x0)=true then
 some (.inl (IntKind.i64.wrap (v0+1),IntKind.i64.wrap (v1+1),()))
 else
 some (.inl (v0,IntKind.i64.wrap (v1+1),()))
 else
 if Zi.Kind a0=1 then
 if v0=0 then
 (VN a0).bind fun output0 =>
 Zp ((0:Int)≤output0) <|
 if (↑(List.length (Zi.Truth a0)):Int)=IntKind.i64.wrap (1*2 ^ Min.min (Int.toNat output0) (IntKind.bits IntKind.i64)) then
 (Xv (Zi.Truth a0) 0 1).bind fun areWithin0 =>
 some (.inr areWithin0)
 else
 some (.inr Bool.false)
 else
 some (.inr Bool.false)
 else
 if Zi.Kind a0=2 then
 if v0=1 then
 if (↑(List.length (Zi.Truth a0)):Int)=0 then
 (QG a0 1).bind fun has0 =>
 if has0=true then
 some (.inr Bool.false)
 else
 (QG a0 2).bind fun has1 =>
 (QG a0 3).bind fun has2 =>
 some (.inr (!has1 == has2))
 else
 some (.inr Bool.false)
 else
 some (.inr Bool.false)
 else
 if Zi.Kind a0=3 then
 if v0=1 then
 if (↑(List.length (Zi.Truth a0)):Int)=0 then
 (QG a0 1).bind fun has0 =>
 if has0=true then
 (QG a0 2).bind fun has1 =>
 if has1=true then
 (QG a0 3).bind fun has2 =>
 some (.inr !has2)
 else
 some (.inr Bool.false)
 else
 some (.inr Bool.false)
 else
 some (.inr Bool.false)
 else
 some (.inr Bool.false)
 else
 some (.inr Bool.false)
def VE (a0:Zi):Option Bool :=
 Zt (fun v=>Y0 a0 v.1 v.2.1) ((0:Int),(0:Int),())
def ZBw:Ctr:=D1 (X3) (.bool) VE
def ZgX (c0:Zi):Option Bool :=
 (Zcb (Zi.Name c0)).bind fun isName0 =>
 if isName0=true then
 (ZdL (Zi.Yx c0)).bind fun arePins0 =>
 if arePins0=true then
 (Jp c0).bind fun areArcs0 =>
 if areArcs0=true then
 (Yd (Zi.Zvn c0) 0 100000).bind fun within0 =>
 if within0=true then
 (Yd (Zi.Zjk c0) 0 100000).bind fun within1 =>
 if within1=true then
 (VE c0).bind fun isOfKind0 =>
 some isOfKind0
 else
 some Bool.false
 else
 some Bool.false
 else
 some Bool.false
 else
 some Bool.false
 else
 some Bool.false
def ZBu:Ctr:=D1 (X3) (.bool) ZgX
def VY (l0:Zk) (names0:List (List UInt8)) (v0:Int):Option (((List (List UInt8))×Int×Unit) ⊕ Bool) :=
 if v0<(↑(List.length (Zk.Cells l0)):Int) then
 (atI (Zk.Cells l0) v0).bind fun x0 =>
 (ZgX x0).bind fun IsCell0 =>
 if IsCell0=true then
 Zp ((List.length names0+List.length [Zi.Name x0])*(16:Nat)≤(140737488355328:Nat)) <|
 some (.inl (names0++[Zi.Name x0],IntKind.i64.wrap (v0+(1:Int)),()))
 else
 some (.inr Bool.false)
 else
 if (↑(List.length (Zk.Cells l0)):Int)≤8 then
 (Vm names0).bind fun areNames0 =>
 some (.inr areNames0)
 else
 some (.inr Bool.false)
def ZeZ (l0:Zk):Option Bool :=
 Zt (fun v=>VY l0 v.1 v.2.1) (([]:List (List UInt8)),(0:Int),())
def ZAZ:Ctr:=D1 (YH) (.bool) ZeZ
def XF (d0:Zb) (instances0:List (List UInt8)) (ports0:List (List UInt8)) (v1:Int):Option (((List (List UInt8))×Int×Unit) ⊕ (((List (List UInt8))×Int×Unit) ⊕ Bool)) :=
 if v1<(↑(List.length (Zb.ZQ d0)):Int) then
 (atI (Zb.ZQ d0) v1).bind fun x0 =>
 Zp ((List.length ports0+List.length [ZV.Name x0])*(16:Nat)≤(140737488355328:Nat)) <|
 some (.inl (ports0++[ZV.Name x0],IntKind.i64.wrap (v1+(1:Int)),()))
 else
 if (↑(List.length instances0):Int)≤14 then
 if (↑(List.length (Zb.ZM d0)):Int)≤30 then
 if (↑(List.length ports0):Int)≤8 then
 (Vm instances0).bind fun areNames0 =>
 if areNames0=true then
 (Vm (Zb.ZM d0)).bind fun areNames1 =>
 if areNames1=true then
 (Vm ports0).bind fun areNames2 =>
 some (.inr (.inr areNames2))
 else
 some (.inr (.inr Bool.false))
 else
 some (.inr (.inr Bool.false))
 else
 some (.inr (.inr Bool.false))
 else
 some (.inr (.inr Bool.false))
 else
 some (.inr (.inr Bool.false))
def XI (d0:Zb) (instances0:List (List UInt8)) (v0:Int):Option (((List (List UInt8))×Int×Unit) ⊕ Bool) :=
 if v0<(↑(List.length (Zb.Instances d0)):Int) then
 (atI (Zb.Instances d0) v0).bind fun x0 =>
 Zp ((List.length instances0+List.length [Zd.Name x0])*(16:Nat)≤(140737488355328:Nat)) <|
 some (.inl (instances0++[Zd.Name x0],IntKind.i64.wrap (v0+(1:Int)),()))
 else
 Zt (fun v=>XF d0 instances0 v.1 v.2.1) (([]:List (List UInt8)),(0:Int),())
def QS (d0:Zb):Option Bool :=
 Zt (fun v=>XI d0 v.1 v.2.1) (([]:List (List UInt8)),(0:Int),())
def c138:Ctr:=D1 (Yn) (.bool) QS
def Y8 (list0:List Zi):Option Int :=
 some (↑(List.length list0):Int)
def c139:Ctr:=D1 (.sl (X3)) (.int .i64) Y8
def YR (list0:List (List UInt8)):Option Int :=
 some (↑(List.length list0):Int)
def ZxX:Ctr:=D1 (.sl (.str)) (.int .i64) YR
def YC (d0:Zb) (net0:Int):Option Bool :=
 (YR (Zb.ZM d0)).bind fun string0 =>
 (Yd net0 0 (IntKind.i64.wrap (string0-1))).bind fun within0 =>
 some within0
def c141:Ctr:=D2 (Yn) (.int .i64) (.bool) YC
def YT (net0:Int) (a0:Zb):Option Bool :=
 (YC a0 net0).bind fun isNet0 =>
 some !isNet0
def ZA6:Ctr:=D2 (.int .i64) (.ptr (Yn)) (.bool) YT
def ZN (s0:List Int) (f0:Zb×Unit) (v0:Int):Option ((Int×Unit) ⊕ Int) :=
 if v0<(↑(List.length s0):Int) then
 (atI s0 v0).bind fun x0 =>
 (YT x0 f0.fst).bind fun c1_0 =>
 if c1_0=true then
 some (.inr v0)
 else
 some (.inl (IntKind.i64.wrap (v0+1),()))
 else
 some (.inr (-1))
def ZI (s0:List Int) (f0:Zb×Unit):Option Int :=
 Zt (fun v=>ZN s0 f0 v.1) ((0:Int),())
def c143:Ctr:=D2 (.sl (.int .i64)) (.fn 248 (.pair (.ptr (Yn)) (.unit))) (.int .i64) ZI
def ZF (s0:List Int) (f0:Zb×Unit):Option Bool :=
 (ZI s0 f0).bind fun c1_0 =>
 some (Decidable.decide (0≤c1_0))
def ZAu:Ctr:=D2 (.sl (.int .i64)) (.fn 248 (.pair (.ptr (Yn)) (.unit))) (.bool) ZF
def JX (d0:Zb) (l0:Zk) (x0:Zd):Option Bool :=
 (Y8 (Zk.Cells l0)).bind fun Cell0 =>
 (Yd (Zd.Cell x0) 0 (IntKind.i64.wrap (Cell0-1))).bind fun within0 =>
 if within0=true then
 (atI (Zk.Cells l0) (Zd.Cell x0)).bind fun x1 =>
 if (↑(List.length (Zd.ZM x0)):Int)=(↑(List.length (Zi.Yx x1)):Int) then
 (ZF (Zd.ZM x0) (d0,())).bind fun c1_0 =>
 some !c1_0
 else
 some Bool.false
 else
 some Bool.false
def c145:Ctr:=D3 (Yn) (YH) (Z0) (.bool) JX
def J9 (n0:Int):Option Bool :=
 some (!Decidable.decide (n0=1))
def c146:Ctr:=D1 (.int .i64) (.bool) J9
def Z7 (s0:List Int) (v0:Int):Option ((Int×Unit) ⊕ Int) :=
 if v0<(↑(List.length s0):Int) then
 (atI s0 v0).bind fun x0 =>
 (J9 x0).bind fun c1_0 =>
 if c1_0=true then
 some (.inr v0)
 else
 some (.inl (IntKind.i64.wrap (v0+1),()))
 else
 some (.inr (-1))
def Z5 (s0:List Int) (f0:Unit):Option Int :=
 Zt (fun v=>Z7 s0 v.1) ((0:Int),())
def ZAD:Ctr:=D2 (.sl (.int .i64)) (.fn 208 (.unit)) (.int .i64) Z5
def ZY (s0:List Int) (f0:Unit):Option Bool :=
 (Z5 s0 ()).bind fun c1_0 =>
 some (Decidable.decide (0≤c1_0))
def c148:Ctr:=D2 (.sl (.int .i64)) (.fn 208 (.unit)) (.bool) ZY
def Qc (a1:Zb) (v1:Int) (l1:List Int):Option ((Int×(List Int)×Unit) ⊕ ((Int×(List Int)×Unit) ⊕ Bool)) :=
 if v1<(↑(List.length (Zb.ZQ a1)):Int) then
 (atI (Zb.ZQ a1) v1).bind fun x0 =>
 if ZV.Dir x0=1 then
 (YC a1 (ZV.Net x0)).bind fun isNet0 =>
 if isNet0=true then
 if ZV.Dir x0=1 then
 (atI l1 (ZV.Net x0)).bind fun x1 =>
 some (.inl (IntKind.i64.wrap (v1+1),List.set l1 (Int.toNat (ZV.Net x0)) (IntKind.i64.wrap (x1+1)),()))
 else
 some (.inl (IntKind.i64.wrap (v1+1),l1,()))
 else
 some (.inr (.inr Bool.false))
 else
 if ZV.Dir x0=2 then
 (YC a1 (ZV.Net x0)).bind fun isNet0 =>
 if isNet0=true then
 if ZV.Dir x0=1 then
 (atI l1 (ZV.Net x0)).bind fun x1 =>
 some (.inl (IntKind.i64.wrap (v1+1),List.set l1 (Int.toNat (ZV.Net x0)) (IntKind.i64.wrap (x1+1)),()))
 else
 some (.inl (IntKind.i64.wrap (v1+1),l1,()))
 else
 some (.inr (.inr Bool.false))
 else
 some (.inr (.inr Bool.false))
 else
 (ZY l1 ()).bind fun c1_0 =>
 some (.inr (.inr !c1_0))
def Vj (a0:Zk) (a1:Zb) (v0:Int) (l0:List Int):Option ((Int×(List Int)×Unit) ⊕ Bool) :=
 if v0<(↑(List.length (Zb.Instances a1)):Int) then
 (atI (Zb.Instances a1) v0).bind fun x0 =>
 (JX a1 a0 x0).bind fun isInstance0 =>
 if isInstance0=true then
 (atI (Zd.ZM x0) (IntKind.i64.wrap ((↑(List.length (Zd.ZM x0)):Int)-1))).bind fun x1 =>
 (atI l0 x1).bind fun x2 =>
 some (.inl (IntKind.i64.wrap (v0+1),List.set l0 (Int.toNat x1) (IntKind.i64.wrap (x2+1)),()))
 else
 some (.inr Bool.false)
 else
 Zt (fun v=>Qc a1 v.1 v.2.1) ((0:Int),l0,())
def ZcG (a0:Zk) (a1:Zb):Option Bool :=
 (ZeZ a0).bind fun IsLibrary0 =>
 if IsLibrary0=true then
 (QS a1).bind fun hasNames0 =>
 if hasNames0=true then
 Zp ((0:Int)≤(↑(List.length (Zb.ZM a1)):Int)) <|
 Zp ((↑(List.length (Zb.ZM a1)):Int)≤(↑(List.length (Zb.ZM a1)):Int)) <|
 Zp ((↑(List.length (Zb.ZM a1)):Int)≤(4611686018427387904:Int)) <|
 Zp ((↑(8:Nat):Int)*(↑(List.length (Zb.ZM a1)):Int)≤(281474976710656:Int)) <|
 Zt (fun v=>Vj a0 a1 v.1 v.2.1) ((0:Int),List.replicate (Int.toNat (↑(List.length (Zb.ZM a1)):Int)) (0:Int),())
 else
 some Bool.false
 else
 some Bool.false
def ZzO:Ctr:=D2 (YH) (Yn) (.bool) ZcG
def Ql (v0:Int) (x0:Zd) (list1:List ZR) (v1:Int):Option (((List ZR)×Int×Unit) ⊕ (((List ZR)×Int×Unit) ⊕ List ZR)) :=
 if v1<(↑(List.length (Zd.ZM x0)):Int) then
 (atI (Zd.ZM x0) v1).bind fun x1 =>
 Zp ((List.length list1+List.length [(v0,v1,x1,Decidable.decide (v1=IntKind.i64.wrap ((↑(List.length (Zd.ZM x0)):Int)-(1:Int))),())])*(32:Nat)≤(140737488355328:Nat)) <|
 some (.inl (list1++[(v0,v1,x1,Decidable.decide (v1=IntKind.i64.wrap ((↑(List.length (Zd.ZM x0)):Int)-(1:Int))),())],IntKind.i64.wrap (v1+(1:Int)),()))
 else
 some (.inr (.inl (list1,IntKind.i64.wrap (v0+1),())))
def Qm (d0:Zb) (list1:List ZR) (v1:Int):Option (((List ZR)×Int×Unit) ⊕ (((List ZR)×Int×Unit) ⊕ List ZR)) :=
 if v1<(↑(List.length (Zb.ZQ d0)):Int) then
 (atI (Zb.ZQ d0) v1).bind fun x0 =>
 Zp ((List.length list1+List.length [((-1:Int),v1,ZV.Net x0,Decidable.decide (ZV.Dir x0=(1:Int)),())])*(32:Nat)≤(140737488355328:Nat)) <|
 some (.inl (list1++[((-1:Int),v1,ZV.Net x0,Decidable.decide (ZV.Dir x0=(1:Int)),())],IntKind.i64.wrap (v1+(1:Int)),()))
 else
 some (.inr (.inr list1))
def Qk (d0:Zb) (list0:List ZR) (v0:Int):Option (((List ZR)×Int×Unit) ⊕ List ZR) :=
 if v0<(↑(List.length (Zb.Instances d0)):Int) then
 (atI (Zb.Instances d0) v0).bind fun x0 =>
 Zt (fun v=>Ql v0 x0 v.1 v.2.1) (list0,(0:Int),())
 else
 Zt (fun v=>Qm d0 v.1 v.2.1) (list0,(0:Int),())
def Z9 (d0:Zb):Option (List ZR) :=
 Zt (fun v=>Qk d0 v.1 v.2.1) (([]:List ZR),(0:Int),())
def ZsN:Ctr:=⟨[.dat (Yn)],[.own (.ol 173 (.flat (Zjd)))],fun a K=>splitK a fun d0 a=>YJ (Z9 d0) fun r=>K (r,()) ()⟩
def Q8 (w0:Zo) (v0:Int):Option ((Int×Unit) ⊕ Bool) :=
 if v0<(↑(List.length (Zo.Parent w0)):Int) then
 (atI (Zo.Parent w0) v0).bind fun x0 =>
 if v0=0 then
 if x0=(-1) then
 (atI (Zo.Res w0) 0).bind fun x1 =>
 if x1=0 then
 if 0<v0 then
 (Yd x0 0 (IntKind.i64.wrap (v0-1))).bind fun within0 =>
 if within0=true then
 some (.inl (IntKind.i64.wrap (v0+1),()))
 else
 some (.inr Bool.false)
 else
 some (.inl (IntKind.i64.wrap (v0+1),()))
 else
 some (.inr Bool.false)
 else
 some (.inr Bool.false)
 else
 if 0<v0 then
 (Yd x0 0 (IntKind.i64.wrap (v0-1))).bind fun within0 =>
 if within0=true then
 some (.inl (IntKind.i64.wrap (v0+1),()))
 else
 some (.inr Bool.false)
 else
 some (.inl (IntKind.i64.wrap (v0+1),()))
 else
 some (.inr Bool.true)
def Zad (w0:Zo):Option Bool :=
 Zt (fun v=>Q8 w0 v.1) ((0:Int),())
def ZBo:Ctr:=D1 (X6) (.bool) Zad
def ZfR (w0:Zo) (sinks0:Int):Option Bool :=
 (YE (Zo.Parent w0)).bind fun int64_0 =>
 (Yd int64_0 1 8).bind fun within0 =>
 if within0=true then
 (YE (Zo.Res w0)).bind fun int64_1 =>
 if int64_1=int64_0 then
 (YE (Zo.Cap w0)).bind fun int64_2 =>
 if int64_2=int64_0 then
 (Zad w0).bind fun isTree0 =>
 if isTree0=true then
 (Xv (Zo.Res w0) 0 1000).bind fun areWithin0 =>
 if areWithin0=true then
 (Xv (Zo.Cap w0) 0 500).bind fun areWithin1 =>
 if areWithin1=true then
 (YE (Zo.Zfj w0)).bind fun int64_3 =>
 if int64_3=sinks0 then
 (Xv (Zo.Zfj w0) 0 (IntKind.i64.wrap (int64_0-1))).bind fun areWithin2 =>
 some areWithin2
 else
 some Bool.false
 else
 some Bool.false
 else
 some Bool.false
 else
 some Bool.false
 else
 some Bool.false
 else
 some Bool.false
 else
 some Bool.false
def c152:Ctr:=D2 (X6) (.int .i64) (.bool) ZfR
def Zat (b0:Za) (l0:List Int) (v1:Int):Option ((Int×Unit) ⊕ ((Int×(List Int)×Unit) ⊕ Bool)) :=
 if v1<(↑(List.length (Za.Zy b0)):Int) then
 (atI (Za.Zy b0) v1).bind fun x0 =>
 (atI l0 v1).bind fun x1 =>
 (ZfR x0 x1).bind fun IsWire0 =>
 if IsWire0=true then
 some (.inl (IntKind.i64.wrap (v1+1),()))
 else
 some (.inr (.inr Bool.false))
 else
 some (.inr (.inr Bool.true))
def Vv (b0:Za) (places0:List ZR) (v0:Int) (l0:List Int):Option ((Int×(List Int)×Unit) ⊕ Bool) :=
 if v0<(↑(List.length places0):Int) then
 (atI places0 v0).bind fun x0 =>
 if (ZR.drives x0)=true then
 some (.inl (IntKind.i64.wrap (v0+1),l0,()))
 else
 (atI l0 (ZR.net x0)).bind fun x1 =>
 some (.inl (IntKind.i64.wrap (v0+1),List.set l0 (Int.toNat (ZR.net x0)) (IntKind.i64.wrap (x1+1)),()))
 else
 Zt (fun v=>Zat b0 l0 v.1) ((0:Int),())
def ZdF (b0:Za):Option Bool :=
 (ZcG (Za.Library b0) (Za.Design b0)).bind fun IsDesign0 =>
 if IsDesign0=true then
 if (↑(List.length (Za.Zy b0)):Int)=(↑(List.length (Zb.ZM (Za.Design b0))):Int) then
 Zp ((0:Int)≤(↑(List.length (Za.Zy b0)):Int)) <|
 Zp ((↑(List.length (Za.Zy b0)):Int)≤(↑(List.length (Za.Zy b0)):Int)) <|
 Zp ((↑(List.length (Za.Zy b0)):Int)≤(4611686018427387904:Int)) <|
 Zp ((↑(8:Nat):Int)*(↑(List.length (Za.Zy b0)):Int)≤(281474976710656:Int)) <|
 (Z9 (Za.Design b0)).bind fun places0 =>
 Zt (fun v=>Vv b0 places0 v.1 v.2.1) ((0:Int),List.replicate (Int.toNat (↑(List.length (Za.Zy b0)):Int)) (0:Int),())
 else
 some Bool.false
 else
 some Bool.false
def ZBk:Ctr:=D1 (YG) (.bool) ZdF
def Zcy (e0:Zg):Option Zg :=
 if Zg.Kind e0=1 then
 some (Zg.Kind e0,Zg.Place e0,Zg.Cell e0,(0:Int),(0:Int),([]:List UInt8),(([]:List Int),([]:List Int),([]:List Int),([]:List Int),()),())
 else
 if Zg.Kind e0=2 then
 some (Zg.Kind e0,Zg.Place e0,Zg.Cell e0,(0:Int),(0:Int),Zg.Name e0,(([]:List Int),([]:List Int),([]:List Int),([]:List Int),()),())
 else
 if Zg.Kind e0=4 then
 some (Zg.Kind e0,Zg.Place e0,(0:Int),Zg.Net e0,Zg.Node e0,([]:List UInt8),(([]:List Int),([]:List Int),([]:List Int),([]:List Int),()),())
 else
 if Zg.Kind e0=5 then
 some (Zg.Kind e0,(0:Int),(0:Int),Zg.Net e0,(0:Int),([]:List UInt8),e0.snd.snd.snd.snd.snd.snd)
 else
 some (Zg.Kind e0,(0:Int),(0:Int),(0:Int),(0:Int),([]:List UInt8),(([]:List Int),([]:List Int),([]:List Int),([]:List Int),()),())
def c154:Ctr:=D1 (QW) (QW) Zcy
def Y1 (s1_0:List Int) (s2_0:List Int) (v0:Int):Option ((Int×Unit) ⊕ Bool) :=
 if v0<(↑(List.length s1_0):Int) then
 (atI s1_0 v0).bind fun x0 =>
 (atI s2_0 v0).bind fun x1 =>
 if x0=x1 then
 some (.inl (IntKind.i64.wrap (v0+1),()))
 else
 some (.inr Bool.false)
 else
 some (.inr Bool.true)
def Yv (s1_0:List Int) (s2_0:List Int):Option Bool :=
 if (↑(List.length s1_0):Int)=(↑(List.length s2_0):Int) then
 Zt (fun v=>Y1 s1_0 s2_0 v.1) ((0:Int),())
 else
 some Bool.false
def ZBv:Ctr:=D2 (.sl (.int .i64)) (.sl (.int .i64)) (.bool) Yv
def ZcO (a0:Zo) (b0:Zo):Option Bool :=
 (Yv (Zo.Parent a0) (Zo.Parent b0)).bind fun int64_0 =>
 if int64_0=true then
 (Yv (Zo.Res a0) (Zo.Res b0)).bind fun int64_1 =>
 if int64_1=true then
 (Yv (Zo.Cap a0) (Zo.Cap b0)).bind fun int64_2 =>
 if int64_2=true then
 (Yv (Zo.Zfj a0) (Zo.Zfj b0)).bind fun int64_3 =>
 some int64_3
 else
 some Bool.false
 else
 some Bool.false
 else
 some Bool.false
def c156:Ctr:=D2 (X6) (X6) (.bool) ZcO
def Zbd (a0:Zg) (b0:Zg):Option Bool :=
 if Zg.Kind a0=Zg.Kind b0 then
 if Zg.Place a0=Zg.Place b0 then
 if Zg.Cell a0=Zg.Cell b0 then
 if Zg.Net a0=Zg.Net b0 then
 if Zg.Node a0=Zg.Node b0 then
 if Zg.Name a0=Zg.Name b0 then
 (ZcO (Zg.Zet a0) (Zg.Zet b0)).bind fun sameWire0 =>
 some sameWire0
 else
 some Bool.false
 else
 some Bool.false
 else
 some Bool.false
 else
 some Bool.false
 else
 some Bool.false
 else
 some Bool.false
def c157:Ctr:=D2 (QW) (QW) (.bool) Zbd
def YX (list0:List ZR):Option Int :=
 some (↑(List.length list0):Int)
def Zzy:Ctr:=D1 (.sl (Zjd)) (.int .i64) YX
def Ve (a0:Zg) (a1:Za):Option Bool :=
 (Yd (Zg.Kind a0) 1 5).bind fun within0 =>
 if within0=true then
 (Zcy a0).bind fun own0 =>
 (Zbd a0 own0).bind fun sameEdit0 =>
 if sameEdit0=true then
 (Z9 (Za.Design a1)).bind fun places0 =>
 (YX places0).bind fun place0 =>
 (Yd (Zg.Place a0) 0 (IntKind.i64.wrap (place0-1))).bind fun within1 =>
 if Zg.Kind a0=1 then
 if Zg.Kind a0=1 then
 if within1=true then
 (Y8 (Zk.Cells (Za.Library a1))).bind fun Cell0 =>
 (Yd (Zg.Cell a0) 0 (IntKind.i64.wrap (Cell0-1))).bind fun within2 =>
 some within2
 else
 some Bool.false
 else
 if Zg.Kind a0=4 then
 if within1=true then
 (YC (Za.Design a1) (Zg.Net a0)).bind fun isNet0 =>
 if isNet0=true then
 (atI (Za.Zy a1) (Zg.Net a0)).bind fun x0 =>
 (YE (Zo.Parent x0)).bind fun int64_0 =>
 (Yd (Zg.Node a0) 0 (IntKind.i64.wrap (int64_0-1))).bind fun within2 =>
 some within2
 else
 some Bool.false
 else
 some Bool.false
 else
 if Zg.Kind a0=5 then
 (YC (Za.Design a1) (Zg.Net a0)).bind fun isNet0 =>
 some isNet0
 else
 some Bool.true
 else
 if Zg.Kind a0=2 then
 if within1=true then
 (Y8 (Zk.Cells (Za.Library a1))).bind fun Cell0 =>
 (Yd (Zg.Cell a0) 0 (IntKind.i64.wrap (Cell0-1))).bind fun within2 =>
 some within2
 else
 some Bool.false
 else
 if Zg.Kind a0=4 then
 if within1=true then
 (YC (Za.Design a1) (Zg.Net a0)).bind fun isNet0 =>
 if isNet0=true then
 (atI (Za.Zy a1) (Zg.Net a0)).bind fun x0 =>
 (YE (Zo.Parent x0)).bind fun int64_0 =>
 (Yd (Zg.Node a0) 0 (IntKind.i64.wrap (int64_0-1))).bind fun within2 =>
 some within2
 else
 some Bool.false
 else
 some Bool.false
 else
 if Zg.Kind a0=5 then
 (YC (Za.Design a1) (Zg.Net a0)).bind fun isNet0 =>
 some isNet0
 else
 some Bool.true
 else
 some Bool.false
 else
 some Bool.false
def c159:Ctr:=D2 (QW) (YG) (.bool) Ve
def Zbq (p0:Yz) (q0:Yz):Option Bool :=
 some (Yz.Clock p0 == Yz.Clock q0)
def c160:Ctr:=D2 (ZdO) (ZdO) (.bool) Zbq
def Zw (s1_0:List Yz) (s2_0:List Yz) (v0:Int):Option ((Int×Unit) ⊕ Bool) :=
 if v0<(↑(List.length s1_0):Int) then
 (atI s1_0 v0).bind fun x0 =>
 (atI s2_0 v0).bind fun x1 =>
 (Zbq x0 x1).bind fun c1_0 =>
 if c1_0=true then
 some (.inl (IntKind.i64.wrap (v0+1),()))
 else
 some (.inr Bool.false)
 else
 some (.inr Bool.true)
def Zz (s1_0:List Yz) (s2_0:List Yz) (eq0:Unit):Option Bool :=
 if (↑(List.length s1_0):Int)=(↑(List.length s2_0):Int) then
 Zt (fun v=>Zw s1_0 s2_0 v.1) ((0:Int),())
 else
 some Bool.false
def ZAL:Ctr:=D3 (.sl (ZdO)) (.sl (ZdO)) (.fn 253 (.unit)) (.bool) Zz
def Zcw (a0:Zi) (b0:Zi):Option Bool :=
 if Zi.Kind a0=Zi.Kind b0 then
 (Zz (Zi.Yx a0) (Zi.Yx b0) ()).bind fun c1_0 =>
 some c1_0
 else
 some Bool.false
def c162:Ctr:=D2 (X3) (X3) (.bool) Zcw
def Qx (c0:Zi):Option Bool :=
 if Zi.Kind c0=1 then
 some (Decidable.decide ((↑(List.length (Zi.Yx c0)):Int)=2))
 else
 some Bool.false
def Zzv:Ctr:=D1 (X3) (.bool) Qx
def Vo (x0:Zd) (a0:List UInt8):Option Bool :=
 some (Decidable.decide (Zd.Name x0=a0))
def c164:Ctr:=D2 (Z0) (.ptr (.str)) (.bool) Vo
def Z6 (s0:List Zd) (f0:List UInt8×Unit) (v0:Int):Option ((Int×Unit) ⊕ Int) :=
 if v0<(↑(List.length s0):Int) then
 (atI s0 v0).bind fun x0 =>
 (Vo x0 f0.fst).bind fun c1_0 =>
 if c1_0=true then
 some (.inr v0)
 else
 some (.inl (IntKind.i64.wrap (v0+1),()))
 else
 some (.inr (-1))
def ZU (s0:List Zd) (f0:List UInt8×Unit):Option Int :=
 Zt (fun v=>Z6 s0 f0 v.1) ((0:Int),())
def ZAX:Ctr:=D2 (.sl (Z0)) (.fn 257 (.pair (.ptr (.str)) (.unit))) (.int .i64) ZU
def Vw (d0:Zb) (name0:List UInt8):Option Int :=
 (ZU (Zb.Instances d0) (name0,())).bind fun c1_0 =>
 some c1_0
def ZzI:Ctr:=D2 (Yn) (.str) (.int .i64) Vw
def QU (d0:Zb) (name0:List UInt8):Option Int :=
 (Yi (Zb.ZM d0) name0).bind fun string0 =>
 some string0
def c167:Ctr:=D2 (Yn) (.str) (.int .i64) QU
def JW (a0:Za):Option Bool :=
 if (↑(List.length (Zb.Instances (Za.Design a0))):Int)=0 then
 some Bool.false
 else
 (atI (Zb.Instances (Za.Design a0)) (IntKind.i64.wrap ((↑(List.length (Zb.Instances (Za.Design a0))):Int)-1))).bind fun x0 =>
 (YR (Zb.ZM (Za.Design a0))).bind fun string0 =>
 (atI (Zk.Cells (Za.Library a0)) (Zd.Cell x0)).bind fun x1 =>
 (Qx x1).bind fun isBuffer0 =>
 if isBuffer0=true then
 (atI (Zd.ZM x0) 1).bind fun x2 =>
 if x2=IntKind.i64.wrap (string0-1) then
 (atI (Zd.ZM x0) 0).bind fun x3 =>
 if x3=IntKind.i64.wrap (string0-1) then
 some Bool.false
 else
 (atI (Zb.ZM (Za.Design a0)) (IntKind.i64.wrap (string0-1))).bind fun x4 =>
 if x4=Zd.Name x0 then
 (atI (Za.Zy a0) (IntKind.i64.wrap (string0-1))).bind fun x5 =>
 if (↑(List.length (Zo.Zfj x5)):Int)=1 then
 if (↑(List.length (Zo.Parent x5)):Int)=1 then
 (atI (Zo.Cap x5) 0).bind fun x6 =>
 some (Decidable.decide (x6=0))
 else
 some Bool.false
 else
 some Bool.false
 else
 some Bool.false
 else
 some Bool.false
 else
 some Bool.false
def c168:Ctr:=D1 (YG) (.bool) JW
def QI (a0:Zg) (a1:Za):Option Bool :=
 (Z9 (Za.Design a1)).bind fun places0 =>
 if Zg.Kind a0=1 then
 (atI places0 (Zg.Place a0)).bind fun x0 =>
 if 0≤ZR.instance x0 then
 if (ZR.drives x0)=true then
 (atI (Zb.Instances (Za.Design a1)) (ZR.instance x0)).bind fun x1 =>
 (atI (Zk.Cells (Za.Library a1)) (Zd.Cell x1)).bind fun x2 =>
 (atI (Zk.Cells (Za.Library a1)) (Zg.Cell a0)).bind fun x3 =>
 (Zcw x2 x3).bind fun fitsSwap0 =>
 some fitsSwap0
 else
 some Bool.false
 else
 some Bool.false
 else
 if Zg.Kind a0=2 then
 (atI places0 (Zg.Place a0)).bind fun x0 =>
 if (ZR.drives x0)=true then
 some Bool.false
 else
 (atI (Zk.Cells (Za.Library a1)) (Zg.Cell a0)).bind fun x1 =>
 (Qx x1).bind fun isBuffer0 =>
 if isBuffer0=true then
 (Zcb (Zg.Name a0)).bind fun isName0 =>
 if isName0=true then
 (Vw (Za.Design a1) (Zg.Name a0)).bind fun InstanceNamed0 =>
 if InstanceNamed0<0 then
 (QU (Za.Design a1) (Zg.Name a0)).bind fun netNamed0 =>
 some (Decidable.decide (netNamed0<0))
 else
 some Bool.false
 else
 some Bool.false
 else
 some Bool.false
 else
 if Zg.Kind a0=3 then
 (JW a1).bind fun canUnbuffer0 =>
 some canUnbuffer0
 else
 if Zg.Kind a0=4 then
 (atI places0 (Zg.Place a0)).bind fun x0 =>
 if (ZR.drives x0)=true then
 some Bool.false
 else
 some (!Decidable.decide (ZR.net x0=Zg.Net a0))
 else
 (atI (Za.Zy a1) (Zg.Net a0)).bind fun x0 =>
 (YE (Zo.Zfj x0)).bind fun int64_0 =>
 (ZfR (Zg.Zet a0) int64_0).bind fun IsWire0 =>
 some IsWire0
def ZBl:Ctr:=D2 (QW) (YG) (.bool) QI
def ZbM (e0:Zg) (b0:Za):Option Int :=
 (Ve e0 b0).bind fun isInRange0 =>
 if isInRange0=true then
 (QI e0 b0).bind fun isPossible0 =>
 if isPossible0=true then
 if Zg.Kind e0=2 then
 if (↑(List.length (Zb.Instances (Za.Design b0))):Int)=14 then
 some 3
 else
 if (↑(List.length (Zb.ZM (Za.Design b0))):Int)=30 then
 some 3
 else
 some 0
 else
 some 0
 else
 some 5
 else
 some 2
def ZzL:Ctr:=D2 (QW) (YG) (.int .i64) ZbM
def Zcv (b0:Za) (e0:Zg):Option Int :=
 (ZdF b0).bind fun IsBlock0 =>
 if IsBlock0=true then
 (ZbM e0 b0).bind fun code0 =>
 some code0
 else
 some 1
def c171:Ctr:=D2 (YG) (QW) (.int .i64) Zcv
def QN (a0:ZJ):Option (List (Int×Int×Unit)) :=
 if ZJ.Kind a0=2 then
 some ([((0:Int),(0:Int),()),((0:Int),(1:Int),())])
 else
 if ZJ.Kind a0=3 then
 some ([((1:Int),(0:Int),()),((1:Int),(1:Int),())])
 else
 if ZJ.Kind a0=1 then
 if ZJ.Zcl a0=1 then
 some ([((0:Int),(0:Int),()),((1:Int),(1:Int),())])
 else
 if ZJ.Zcl a0=2 then
 some ([((0:Int),(1:Int),()),((1:Int),(0:Int),())])
 else
 some ([((0:Int),(0:Int),()),((0:Int),(1:Int),()),((1:Int),(0:Int),()),((1:Int),(1:Int),())])
 else
 some ([]:List (Int×Int×Unit))
def ZA4:Ctr:=⟨[.dat (Zfc)],[.own (.ol 238 (.flat (.pair (.int .i64) (.pair (.int .i64) (.unit)))))],fun a K=>splitK a fun a0 a=>YJ (QN a0) fun r=>K (r,()) ()⟩
def Xa (first0:Int) (v0:Int) (x2:ZJ) (transitions0:List (Int×Int×Unit)) (list1:List ZaQ) (v1:Int):Option (((List ZaQ)×Int×Unit) ⊕ (((List ZaQ)×Int×Unit) ⊕ List ZaQ)) :=
 if v1<(↑(List.length transitions0):Int) then
 (atI transitions0 v1).bind fun x3 =>
 Zp ((List.length list1+List.length [(IntKind.i64.wrap (IntKind.i64.wrap ((2:Int)*IntKind.i64.wrap (first0+ZJ.From x2))+x3.fst),IntKind.i64.wrap (IntKind.i64.wrap ((2:Int)*IntKind.i64.wrap (first0+ZJ.To x2))+x3.snd.fst),(1:Int),v0,())])*(32:Nat)≤(140737488355328:Nat)) <|
 some (.inl (list1++[(IntKind.i64.wrap (IntKind.i64.wrap ((2:Int)*IntKind.i64.wrap (first0+ZJ.From x2))+x3.fst),IntKind.i64.wrap (IntKind.i64.wrap ((2:Int)*IntKind.i64.wrap (first0+ZJ.To x2))+x3.snd.fst),(1:Int),v0,())],IntKind.i64.wrap (v1+(1:Int)),()))
 else
 some (.inr (.inl (list1,IntKind.i64.wrap (v0+1),())))
def XH (first0:Int) (x1:Zi) (list0:List ZaQ) (v0:Int):Option (((List ZaQ)×Int×Unit) ⊕ List ZaQ) :=
 if v0<(↑(List.length (Zi.ZaZ x1)):Int) then
 (atI (Zi.ZaZ x1) v0).bind fun x2 =>
 (QN x2).bind fun transitions0 =>
 Zt (fun v=>Xa first0 v0 x2 transitions0 v.1 v.2.1) (list0,(0:Int),())
 else
 some (.inr list0)
def QV (b0:Za) (x0:Zd) (first0:Int):Option (List ZaQ) :=
 (atI (Zk.Cells (Za.Library b0)) (Zd.Cell x0)).bind fun x1 =>
 Zt (fun v=>XH first0 x1 v.1 v.2.1) (([]:List ZaQ),(0:Int),())
def c173:Ctr:=⟨[.dat (YG),.dat (Z0),.dat (.int .i64)],[.own (.ol 176 (.flat (Znf)))],fun a K=>splitK a fun b0 a=>splitK a fun x0 a=>splitK a fun first0 a=>YJ (QV b0 x0 first0) fun r=>K (r,()) ()⟩
def ZK (s0:List Int):Option (List Int) :=
 Zp ((List.length (([]:List Int))+List.length s0)*(8:Nat)≤(140737488355328:Nat)) <|
 some (([]:List Int)++s0)
def Zxu:Ctr:=⟨[.dat (.sl (.int .i64))],[.own (.ol 2 (.flat (.int .i64)))],fun a K=>splitK a fun s0 a=>YJ (ZK s0) fun r=>K (r,()) ()⟩
def QB (net0:Int) (places0:List ZR) (list0:List Int) (v0:Int):Option (((List Int)×Int×Unit) ⊕ List Int) :=
 if v0<(↑(List.length places0):Int) then
 (atI places0 v0).bind fun x0 =>
 if ZR.net x0=net0 then
 if (ZR.drives x0)=true then
 some (.inl (list0,IntKind.i64.wrap (v0+1),()))
 else
 Zp ((List.length list0+List.length [v0])*(8:Nat)≤(140737488355328:Nat)) <|
 some (.inl (list0++[v0],IntKind.i64.wrap (v0+(1:Int)),()))
 else
 some (.inl (list0,IntKind.i64.wrap (v0+1),()))
 else
 some (.inr list0)
def Q9 (d0:Zb) (net0:Int):Option (List Int) :=
 (Z9 d0).bind fun places0 =>
 Zt (fun v=>QB net0 places0 v.1 v.2.1) (([]:List Int),(0:Int),())
def c175:Ctr:=⟨[.dat (Yn),.dat (.int .i64)],[.own (.ol 2 (.flat (.int .i64)))],fun a K=>splitK a fun d0 a=>splitK a fun net0 a=>YJ (Q9 d0 net0) fun r=>K (r,()) ()⟩
def Ji (d0:Zb) (l0:Zk) (p0:ZR):Option Int :=
 if ZR.instance p0<0 then
 some 0
 else
 (atI (Zb.Instances d0) (ZR.instance p0)).bind fun x0 =>
 (atI (Zk.Cells l0) (Zd.Cell x0)).bind fun x1 =>
 (atI (Zi.Yx x1) (ZR.pin p0)).bind fun x2 =>
 some (Yz.Cap x2)
def ZBp:Ctr:=D3 (Yn) (YH) (Zjd) (.int .i64) Ji
def XJ (x0:Zo) (v1:Int) (l1:List Int):Option ((Int×(List Int)×Unit) ⊕ ((Int×(List Int)×Unit) ⊕ List Int)) :=
 if 0<v1 then
 (atI (Zo.Parent x0) v1).bind fun x1 =>
 (atI l1 x1).bind fun x2 =>
 (atI l1 v1).bind fun x3 =>
 some (.inl (IntKind.i64.wrap (v1-1),List.set l1 (Int.toNat x1) (IntKind.i64.wrap (x2+x3)),()))
 else
 some (.inr (.inr l1))
def XG (a0:Za) (x0:Zo) (places0:List ZR) (sinks0:List Int) (v0:Int) (l0:List Int):Option ((Int×(List Int)×Unit) ⊕ List Int) :=
 if v0<(↑(List.length sinks0):Int) then
 (atI sinks0 v0).bind fun x1 =>
 (atI (Zo.Zfj x0) v0).bind fun x2 =>
 (atI l0 x2).bind fun x3 =>
 (atI places0 x1).bind fun x4 =>
 (Ji (Za.Design a0) (Za.Library a0) x4).bind fun capOf0 =>
 some (.inl (IntKind.i64.wrap (v0+1),List.set l0 (Int.toNat x2) (IntKind.i64.wrap (x3+capOf0)),()))
 else
 Zt (fun v=>XJ x0 v.1 v.2.1) (IntKind.i64.wrap ((↑(List.length l0):Int)-(1:Int)),l0,())
def XO (a0:Za) (a1:Int):Option (List Int) :=
 (atI (Za.Zy a0) a1).bind fun x0 =>
 (ZK (Zo.Cap x0)).bind fun int64_0 =>
 (Z9 (Za.Design a0)).bind fun places0 =>
 (Q9 (Za.Design a0) a1).bind fun sinks0 =>
 Zt (fun v=>XG a0 x0 places0 sinks0 v.1 v.2.1) ((0:Int),int64_0,())
def Zzx:Ctr:=⟨[.dat (YG),.dat (.int .i64)],[.own (.ol 2 (.flat (.int .i64)))],fun a K=>splitK a fun a0 a=>splitK a fun a1 a=>YJ (XO a0 a1) fun r=>K (r,()) ()⟩
def Xq (x0:Zo) (nodeLoads0:List Int) (i0:Int) (l0:List Int):Option ((Int×(List Int)×Unit) ⊕ List Int) :=
 if i0<(↑(List.length l0):Int) then
 (atI (Zo.Parent x0) i0).bind fun x1 =>
 (atI l0 x1).bind fun x2 =>
 (atI (Zo.Res x0) i0).bind fun x3 =>
 (atI nodeLoads0 i0).bind fun x4 =>
 (atI l0 i0).bind fun x5 =>
 some (.inl (IntKind.i64.wrap (i0+1),List.set l0 (Int.toNat i0) (IntKind.i64.wrap (x2+IntKind.i64.wrap (x3*x4))),()))
 else
 some (.inr l0)
def Qn (b0:Za) (net0:Int):Option (List Int) :=
 (atI (Za.Zy b0) net0).bind fun x0 =>
 (XO b0 net0).bind fun nodeLoads0 =>
 Zp ((0:Int)≤(↑(List.length nodeLoads0):Int)) <|
 Zp ((↑(List.length nodeLoads0):Int)≤(↑(List.length nodeLoads0):Int)) <|
 Zp ((↑(List.length nodeLoads0):Int)≤(4611686018427387904:Int)) <|
 Zp ((↑(8:Nat):Int)*(↑(List.length nodeLoads0):Int)≤(281474976710656:Int)) <|
 Zt (fun v=>Xq x0 nodeLoads0 v.1 v.2.1) ((1:Int),List.replicate (Int.toNat (↑(List.length nodeLoads0):Int)) (0:Int),())
def ZzM:Ctr:=⟨[.dat (YG),.dat (.int .i64)],[.own (.ol 2 (.flat (.int .i64)))],fun a K=>splitK a fun b0 a=>splitK a fun net0 a=>YJ (Qn b0 net0) fun r=>K (r,()) ()⟩
def V6 (nodeDelays0:List Int) (x0:Zo) (out0:List Int) (v0:Int):Option (((List Int)×Int×Unit) ⊕ List Int) :=
 if v0<(↑(List.length (Zo.Zfj x0)):Int) then
 (atI (Zo.Zfj x0) v0).bind fun x1 =>
 (atI nodeDelays0 x1).bind fun x2 =>
 Zp ((List.length out0+List.length [x2])*(8:Nat)≤(140737488355328:Nat)) <|
 some (.inl (out0++[x2],IntKind.i64.wrap (v0+(1:Int)),()))
 else
 some (.inr out0)
def JZ (b0:Za) (net0:Int):Option (List Int) :=
 (Qn b0 net0).bind fun nodeDelays0 =>
 (atI (Za.Zy b0) net0).bind fun x0 =>
 Zt (fun v=>V6 nodeDelays0 x0 v.1 v.2.1) (([]:List Int),(0:Int),())
def ZzE:Ctr:=⟨[.dat (YG),.dat (.int .i64)],[.own (.ol 2 (.flat (.int .i64)))],fun a K=>splitK a fun b0 a=>splitK a fun net0 a=>YJ (JZ b0 net0) fun r=>K (r,()) ()⟩
def VF (l0:List Int) (v3:Int) (v4:Int) (x2:Int) (v5:Int) (c5:List ZaQ):Option ((Int×(List ZaQ)×Unit) ⊕ ((Int×(List ZaQ)×Unit) ⊕ ((Int×(List Int)×(List (List Int))×(List ZaQ)×(List (List Int))×Unit) ⊕ ((Int×(List Int)×(List (List Int))×Unit) ⊕ ((Int×Int×(List ZaQ)×Unit) ⊕ Zbl))))) :=
 if v5<2 then
 (atI l0 v3).bind fun x3 =>
 Zp ((List.length c5+List.length [(IntKind.i64.wrap (IntKind.i64.wrap ((2:Int)*x3)+v5),IntKind.i64.wrap (IntKind.i64.wrap ((2:Int)*x2)+v5),(2:Int),v4,())])*(32:Nat)≤(140737488355328:Nat)) <|
 some (.inl (IntKind.i64.wrap (v5+(1:Int)),c5++[(IntKind.i64.wrap (IntKind.i64.wrap ((2:Int)*x3)+v5),IntKind.i64.wrap (IntKind.i64.wrap ((2:Int)*x2)+v5),(2:Int),v4,())],()))
 else
 some (.inr (.inl (IntKind.i64.wrap (v4+1),c5,())))
def Vt (l0:List Int) (v3:Int) (c1:List Int) (c2:List (List Int)) (l2:List (List Int)) (x0:Int) (exactDelays0:List Int) (x1:List Int) (v4:Int) (c4:List ZaQ):Option ((Int×(List ZaQ)×Unit) ⊕ ((Int×(List Int)×(List (List Int))×(List ZaQ)×(List (List Int))×Unit) ⊕ ((Int×(List Int)×(List (List Int))×Unit) ⊕ ((Int×Int×(List ZaQ)×Unit) ⊕ Zbl)))) :=
 if v4<(↑(List.length x1):Int) then
 (atI x1 v4).bind fun x2 =>
 Zt (fun v=>VF l0 v3 v4 x2 v.1 v.2.1) ((0:Int),c4,())
 else
 some (.inr (.inl (IntKind.i64.wrap (v3+(1:Int)),c1++[x0],c2++[exactDelays0],c4,List.set l2 (Int.toNat v3) x1,())))
def VD (a0:Za) (places0:List ZR) (l0:List Int) (v3:Int) (c1:List Int) (c2:List (List Int)) (c3:List ZaQ) (l2:List (List Int)):Option ((Int×(List Int)×(List (List Int))×(List ZaQ)×(List (List Int))×Unit) ⊕ ((Int×(List Int)×(List (List Int))×Unit) ⊕ ((Int×Int×(List ZaQ)×Unit) ⊕ Zbl))) :=
 if v3<(↑(List.length (Za.Zy a0)):Int) then
 (XO a0 v3).bind fun nodeLoads0 =>
 (atI nodeLoads0 0).bind fun x0 =>
 Zp ((List.length c1+List.length [x0])*(8:Nat)≤(140737488355328:Nat)) <|
 (JZ a0 v3).bind fun exactDelays0 =>
 Zp ((List.length c2+List.length [exactDelays0])*(24:Nat)≤(140737488355328:Nat)) <|
 (atI l2 v3).bind fun x1 =>
 Zt (fun v=>Vt l0 v3 c1 c2 l2 x0 exactDelays0 x1 v.1 v.2.1) ((0:Int),c3,())
 else
 some (.inr (.inr (.inr (a0,places0,c3,c1,c2,([]:List Int),()))))
def VG (a0:Za) (places0:List ZR) (c0:List ZaQ) (v2:Int) (l0:List Int) (l1:List (List Int)):Option ((Int×(List Int)×(List (List Int))×Unit) ⊕ ((Int×Int×(List ZaQ)×Unit) ⊕ Zbl)) :=
 if v2<(↑(List.length places0):Int) then
 (atI places0 v2).bind fun x0 =>
 if (ZR.drives x0)=true then
 (atI l0 (ZR.net x0)).bind fun x1 =>
 some (.inl (IntKind.i64.wrap (v2+1),List.set l0 (Int.toNat (ZR.net x0)) v2,l1,()))
 else
 (atI l1 (ZR.net x0)).bind fun x1 =>
 Zp ((List.length x1+List.length [v2])*(8:Nat)≤(140737488355328:Nat)) <|
 some (.inl (IntKind.i64.wrap (v2+(1:Int)),l0,List.set l1 (Int.toNat (ZR.net x0)) (x1++[v2]),()))
 else
 Zt (fun v=>VD a0 places0 l0 v.1 v.2.1 v.2.2.1 v.2.2.2.1 v.2.2.2.2.1) ((0:Int),([]:List Int),([]:List (List Int)),c0,l1,())
def Zap (a0:Za) (places0:List ZR) (v0:Int) (v1:Int) (c0:List ZaQ):Option ((Int×Int×(List ZaQ)×Unit) ⊕ Zbl) :=
 if v1<(↑(List.length (Zb.Instances (Za.Design a0))):Int) then
 (atI (Zb.Instances (Za.Design a0)) v1).bind fun x0 =>
 (QV a0 x0 v0).bind fun cellLinks0 =>
 Zp ((List.length c0+List.length cellLinks0)*(32:Nat)≤(140737488355328:Nat)) <|
 (YE (Zd.ZM x0)).bind fun int64_0 =>
 some (.inl (IntKind.i64.wrap (v0+int64_0),IntKind.i64.wrap (v1+1),c0++cellLinks0,()))
 else
 Zp ((0:Int)≤(↑(List.length (Za.Zy a0)):Int)) <|
 Zp ((↑(List.length (Za.Zy a0)):Int)≤(↑(List.length (Za.Zy a0)):Int)) <|
 Zp ((↑(List.length (Za.Zy a0)):Int)≤(4611686018427387904:Int)) <|
 Zp ((↑(8:Nat):Int)*(↑(List.length (Za.Zy a0)):Int)≤(281474976710656:Int)) <|
 Zp ((↑(24:Nat):Int)*(↑(List.length (Za.Zy a0)):Int)≤(281474976710656:Int)) <|
 Zt (fun v=>VG a0 places0 c0 v.1 v.2.1 v.2.2.1) ((0:Int),List.replicate (Int.toNat (↑(List.length (Za.Zy a0)):Int)) (0:Int),List.replicate (Int.toNat (↑(List.length (Za.Zy a0)):Int)) (([]:List Int)),())
def Zb2 (a0:Za):Option Zbl :=
 (Z9 (Za.Design a0)).bind fun places0 =>
 Zt (fun v=>Zap a0 places0 v.1 v.2.1 v.2.2.1) ((0:Int),(0:Int),([]:List ZaQ),())
def Zzb:Ctr:=D1 (YG) (.ptr (Zui)) Zb2
def JN (v0:Zbl):Option Int :=
 (YX (Zbl.places v0)).bind fun place0 =>
 some (IntKind.i64.wrap (2*place0))
def Zzp:Ctr:=D1 (.ptr (Zui)) (.int .i64) JN
def VJ (list0:List Bool):Option Int :=
 some (↑(List.length list0):Int)
def c182:Ctr:=D1 (.sl (.bool)) (.int .i64) VJ
def Xt (list0:List Yh):Option Int :=
 some (↑(List.length list0):Int)
def c183:Ctr:=D1 (.sl (Xj)) (.int .i64) Xt
def Zey (t0:Int):Option Bool :=
 (Yd t0 (-1000000000) 1000000000).bind fun within0 =>
 some within0
def ZAM:Ctr:=D1 (.int .i64) (.bool) Zey
def Zdu (s0:Yh):Option Bool :=
 (Zey (Yh.Early s0)).bind fun isTime0 =>
 if isTime0=true then
 (Zey (Yh.Late s0)).bind fun isTime1 =>
 if isTime1=true then
 some (Decidable.decide (Yh.Early s0≤Yh.Late s0))
 else
 some Bool.false
 else
 some Bool.false
def Zzd:Ctr:=D1 (Xj) (.bool) Zdu
def ZeF (n0:Int):Option Bool :=
 (Yd n0 0 1000000).bind fun within0 =>
 some within0
def ZA9:Ctr:=D1 (.int .i64) (.bool) ZeF
def ZcF (s0:Yh):Option Bool :=
 (Zdu s0).bind fun IsSpan0 =>
 if IsSpan0=true then
 (ZeF (Yh.Early s0)).bind fun isSlew0 =>
 if isSlew0=true then
 (ZeF (Yh.Late s0)).bind fun isSlew1 =>
 some isSlew1
 else
 some Bool.false
 else
 some Bool.false
def ZzU:Ctr:=D1 (Xj) (.bool) ZcF
def Xp (a1:Zn) (v0:Int):Option ((Int×Unit) ⊕ Bool) :=
 if v0<(↑(List.length (Zn.Reached a1)):Int) then
 (atI (Zn.Reached a1) v0).bind fun x0 =>
 (atI (Zn.Y7 a1) v0).bind fun x1 =>
 (Zdu x1).bind fun IsSpan0 =>
 if IsSpan0=true then
 (atI (Zn.ZbU a1) v0).bind fun x2 =>
 (ZcF x2).bind fun areSlews0 =>
 if areSlews0=true then
 if x0=true then
 some (.inl (IntKind.i64.wrap (v0+1),()))
 else
 if (Decidable.decide (Yh.Early x1=0)&&Decidable.decide (Yh.Late x1=0))=true then
 if (Decidable.decide (Yh.Early x2=0)&&Decidable.decide (Yh.Late x2=0))=true then
 some (.inl (IntKind.i64.wrap (v0+1),()))
 else
 some (.inr Bool.false)
 else
 some (.inr Bool.false)
 else
 some (.inr Bool.false)
 else
 some (.inr Bool.false)
 else
 some (.inr Bool.true)
def Vs (a0:Zbl) (a1:Zn):Option Bool :=
 (JN a0).bind fun nodes0 =>
 (VJ (Zn.Reached a1)).bind fun bool0 =>
 if bool0=nodes0 then
 (Xt (Zn.Y7 a1)).bind fun Span0 =>
 if Span0=nodes0 then
 (Xt (Zn.ZbU a1)).bind fun Span1 =>
 if Span1=nodes0 then
 Zt (fun v=>Xp a1 v.1) ((0:Int),())
 else
 some Bool.false
 else
 some Bool.false
 else
 some Bool.false
def ZAk:Ctr:=D2 (.ptr (Zui)) (YB) (.bool) Vs
def Y2 (s0:List Yz):Option (List Yz) :=
 Zp ((List.length (([]:List (List UInt8×Int×Int×Bool×Unit)))+List.length s0)*(40:Nat)≤(140737488355328:Nat)) <|
 some (([]:List (List UInt8×Int×Int×Bool×Unit))++s0)
def Zz7:Ctr:=⟨[.dat (.sl (ZdO))],[.own (.ol 260 (.flat (ZdO)))],fun a K=>splitK a fun s0 a=>YJ (Y2 s0) fun r=>K (r,()) ()⟩
def Y3 (s0:List ZJ):Option (List ZJ) :=
 Zp ((List.length (([]:List (Int×Int×Int×Int×List Zx×List Zx×Unit)))+List.length s0)*(80:Nat)≤(140737488355328:Nat)) <|
 some (([]:List (Int×Int×Int×Int×List Zx×List Zx×Unit))++s0)
def ZA2:Ctr:=⟨[.dat (.sl (Zfc))],[.own (.ol 235 (.flat (Zfc)))],fun a K=>splitK a fun s0 a=>YJ (Y3 s0) fun r=>K (r,()) ()⟩
def XT (list0:List Zx) (out0:List Zx) (v0:Int):Option (((List Zx)×Int×Unit) ⊕ List Zx) :=
 if v0<(↑(List.length list0):Int) then
 (atI list0 v0).bind fun x0 =>
 (ZK (Zx.Zgn x0)).bind fun int64_0 =>
 (ZK (Zx.Loads x0)).bind fun int64_1 =>
 (ZK (Zx.Values x0)).bind fun int64_2 =>
 Zp ((List.length out0+List.length [(int64_0,int64_1,int64_2,())])*(72:Nat)≤(140737488355328:Nat)) <|
 some (.inl (out0++[(int64_0,int64_1,int64_2,())],IntKind.i64.wrap (v0+(1:Int)),()))
 else
 some (.inr out0)
def VL (list0:List Zx):Option (List Zx) :=
 Zt (fun v=>XT list0 v.1 v.2.1) (([]:List Zx),(0:Int),())
def ZzG:Ctr:=⟨[.dat (.sl (YP))],[.own (.ol 290 (Ze9))],fun a K=>splitK a fun list0 a=>YJ (VL list0) fun r=>K (r,()) ()⟩
def QH (v0:Int) (c0:List Zi) (x0:Zi) (Pin0:List Yz) (int64_0:List Int) (Arc0:List ZJ) (v1:Int) (l1:List ZJ×Int):Option ((Int×(List ZJ×Int)×Unit) ⊕ ((Int×(List Zi)×Unit) ⊕ Zk)) :=
 if v1<(↑(List.length Arc0):Int) then
 (atI l1.fst v1).bind fun x1 =>
 Zp (l1.snd≤v1) <|
 (VL (ZJ.Delay x1)).bind fun cloneTables0 =>
 (VL (ZJ.ZbU x1)).bind fun cloneTables1 =>
 Zp (v1=l1.snd) <|
 (atI l1.fst l1.snd).bind fun x2 =>
 some (.inl (IntKind.i64.wrap (v1+1),(List.set l1.fst (Int.toNat l1.snd) (ZJ.Kind x2,ZJ.From x2,ZJ.To x2,ZJ.Zcl x2,cloneTables0,cloneTables1,()),l1.snd+1),()))
 else
 Zp (l1.snd=(↑(List.length l1.fst):Int)) <|
 Zp ((List.length c0+List.length [(Zi.Name x0,Zi.Kind x0,Pin0,l1.fst,int64_0,x0.snd.snd.snd.snd.snd)])*(112:Nat)≤(140737488355328:Nat)) <|
 some (.inr (.inl (IntKind.i64.wrap (v0+(1:Int)),c0++[(Zi.Name x0,Zi.Kind x0,Pin0,l1.fst,int64_0,x0.snd.snd.snd.snd.snd)],())))
def XC (l0:Zk) (v0:Int) (c0:List Zi):Option ((Int×(List Zi)×Unit) ⊕ Zk) :=
 if v0<(↑(List.length (Zk.Cells l0)):Int) then
 (atI (Zk.Cells l0) v0).bind fun x0 =>
 (Y2 (Zi.Yx x0)).bind fun Pin0 =>
 (ZK (Zi.Truth x0)).bind fun int64_0 =>
 (Y3 (Zi.ZaZ x0)).bind fun Arc0 =>
 Zt (fun v=>QH v0 c0 x0 Pin0 int64_0 Arc0 v.1 v.2.1) ((0:Int),(Arc0,(0:Int)),())
 else
 some (.inr (c0,()))
def Jl (l0:Zk):Option Zk :=
 Zt (fun v=>XC l0 v.1 v.2.1) ((0:Int),([]:List Zi),())
def ZA0:Ctr:=⟨[.dat (YH)],[.own (ZkH)],fun a K=>splitK a fun l0 a=>YJ (Jl l0) fun r=>K (r,()) ()⟩
def Yq (s0:List Zd):Option (List Zd) :=
 Zp ((List.length (([]:List (List UInt8×Int×List Int×Unit)))+List.length s0)*(48:Nat)≤(140737488355328:Nat)) <|
 some (([]:List (List UInt8×Int×List Int×Unit))++s0)
def c193:Ctr:=⟨[.dat (.sl (Z0))],[.own (.ol 169 (.flat (Z0)))],fun a K=>splitK a fun s0 a=>YJ (Yq s0) fun r=>K (r,()) ()⟩
def Xr (s0:List (List UInt8)):Option (List (List UInt8)) :=
 Zp ((List.length (([]:List (List UInt8)))+List.length s0)*(16:Nat)≤(140737488355328:Nat)) <|
 some (([]:List (List UInt8))++s0)
def c194:Ctr:=⟨[.dat (.sl (.str))],[.own (.ol 9 (.flat (.str)))],fun a K=>splitK a fun s0 a=>YJ (Xr s0) fun r=>K (r,()) ()⟩
def YQ (s0:List ZV):Option (List ZV) :=
 Zp ((List.length (([]:List (List UInt8×Int×Int×Unit)))+List.length s0)*(32:Nat)≤(140737488355328:Nat)) <|
 some (([]:List (List UInt8×Int×Int×Unit))++s0)
def ZA7:Ctr:=⟨[.dat (.sl (J5))],[.own (.ol 201 (.flat (J5)))],fun a K=>splitK a fun s0 a=>YJ (YQ s0) fun r=>K (r,()) ()⟩
def Qy (Instance0:List Zd) (string0:List (List UInt8)) (Port0:List ZV) (v0:Int) (l0:List Zd×Int):Option ((Int×(List Zd×Int)×Unit) ⊕ Zb) :=
 if v0<(↑(List.length Instance0):Int) then
 (atI l0.fst v0).bind fun x0 =>
 Zp (l0.snd≤v0) <|
 (ZK (Zd.ZM x0)).bind fun int64_0 =>
 Zp (v0=l0.snd) <|
 (atI l0.fst l0.snd).bind fun x1 =>
 some (.inl (IntKind.i64.wrap (v0+1),(List.set l0.fst (Int.toNat l0.snd) (Zd.Name x1,Zd.Cell x1,int64_0,()),l0.snd+1),()))
 else
 Zp (l0.snd=(↑(List.length l0.fst):Int)) <|
 some (.inr (l0.fst,string0,Port0,()))
def Jh (d0:Zb):Option Zb :=
 (Yq (Zb.Instances d0)).bind fun Instance0 =>
 (Xr (Zb.ZM d0)).bind fun string0 =>
 (YQ (Zb.ZQ d0)).bind fun Port0 =>
 Zt (fun v=>Qy Instance0 string0 Port0 v.1 v.2.1) ((0:Int),(Instance0,(0:Int)),())
def c196:Ctr:=⟨[.dat (Yn)],[.own (Zlf)],fun a K=>splitK a fun d0 a=>YJ (Jh d0) fun r=>K (r,()) ()⟩
def Ju (w0:Zo):Option Zo :=
 (ZK (Zo.Parent w0)).bind fun int64_0 =>
 (ZK (Zo.Res w0)).bind fun int64_1 =>
 (ZK (Zo.Cap w0)).bind fun int64_2 =>
 (ZK (Zo.Zfj w0)).bind fun int64_3 =>
 some (int64_0,int64_1,int64_2,int64_3,())
def Zy4:Ctr:=⟨[.dat (X6)],[.own (ZiZ)],fun a K=>splitK a fun w0 a=>YJ (Ju w0) fun r=>K (r,()) ()⟩
def XR (b0:Za) (cloneLibrary0:Zk) (clone0:Zb) (v0:Int) (c0:List Zo):Option ((Int×(List Zo)×Unit) ⊕ Za) :=
 if v0<(↑(List.length (Za.Zy b0)):Int) then
 (atI (Za.Zy b0) v0).bind fun x0 =>
 (Ju x0).bind fun clone1 =>
 Zp ((List.length c0+List.length [clone1])*(96:Nat)≤(140737488355328:Nat)) <|
 some (.inl (IntKind.i64.wrap (v0+(1:Int)),c0++[clone1],()))
 else
 some (.inr (cloneLibrary0,clone0,c0,()))
def J7 (b0:Za):Option Za :=
 (Jl (Za.Library b0)).bind fun cloneLibrary0 =>
 (Jh (Za.Design b0)).bind fun clone0 =>
 Zt (fun v=>XR b0 cloneLibrary0 clone0 v.1 v.2.1) ((0:Int),([]:List Zo),())
def c198:Ctr:=⟨[.dat (YG)],[.own (Zfd)],fun a K=>splitK a fun b0 a=>YJ (J7 b0) fun r=>K (r,()) ()⟩
def Qi (b0:Za) (places0:List ZR) (v0:Int) (m0:List ((Int×Int×Unit)×Int)) (l0:List Int):Option ((Int×(List ((Int×Int×Unit)×Int))×(List Int)×Unit) ⊕ List (J3×Int)) :=
 if v0<(↑(List.length places0):Int) then
 (atI places0 v0).bind fun x0 =>
 if (ZR.drives x0)=true then
 some (.inl (IntKind.i64.wrap (v0+1),m0,l0,()))
 else
 (atI (Za.Zy b0) (ZR.net x0)).bind fun x1 =>
 (atI l0 (ZR.net x0)).bind fun x2 =>
 (atI (Zo.Zfj x1) x2).bind fun x3 =>
 some (.inl (IntKind.i64.wrap (v0+1),ZlV Zqt.ty Zqt.ety m0 (ZR.instance x0,ZR.pin x0,()) x3,List.set l0 (Int.toNat (ZR.net x0)) (IntKind.i64.wrap (x2+1)),()))
 else
 some (.inr m0)
def XQ (b0:Za):Option (List (J3×Int)) :=
 Zp ((0:Int)≤(↑(List.length (Za.Zy b0)):Int)) <|
 Zp ((↑(List.length (Za.Zy b0)):Int)≤(↑(List.length (Za.Zy b0)):Int)) <|
 Zp ((↑(List.length (Za.Zy b0)):Int)≤(4611686018427387904:Int)) <|
 Zp ((↑(8:Nat):Int)*(↑(List.length (Za.Zy b0)):Int)≤(281474976710656:Int)) <|
 (Z9 (Za.Design b0)).bind fun places0 =>
 Zt (fun v=>Qi b0 places0 v.1 v.2.1 v.2.2.1) ((0:Int),([]:List ((Int×Int×Unit)×Int)),List.replicate (Int.toNat (↑(List.length (Za.Zy b0)):Int)) (0:Int),())
def Zyz:Ctr:=⟨[.dat (YG)],[.own (.mp (Zb7) (.int .i64))],fun a K=>splitK a fun b0 a=>YJ (XQ b0) fun r=>K (r,()) ()⟩
def YS (list0:List Zd):Option Int :=
 some (↑(List.length list0):Int)
def Zzu:Ctr:=D1 (.sl (Z0)) (.int .i64) YS
def Qe (b0:Za) (key0:J3) (net0:Int):Option Za :=
 if J3.instance key0<0 then
 (atI (Zb.ZQ (Za.Design b0)) (J3.pin key0)).bind fun x0 =>
 some (Za.Library b0,(Zb.Instances (Za.Design b0),Zb.ZM (Za.Design b0),List.set (Zb.ZQ (Za.Design b0)) (Int.toNat (J3.pin key0)) (ZV.Name x0,ZV.Dir x0,net0,()),()),b0.snd.snd)
 else
 (atI (Zb.Instances (Za.Design b0)) (J3.instance key0)).bind fun x0 =>
 (atI x0.snd.snd.fst (J3.pin key0)).bind fun x1 =>
 some (Za.Library b0,(List.set (Zb.Instances (Za.Design b0)) (Int.toNat (J3.instance key0)) (x0.fst,x0.snd.fst,List.set x0.snd.snd.fst (Int.toNat (J3.pin key0)) net0,()),(Za.Design b0).snd),b0.snd.snd)
def c201:Ctr:=⟨[.io (Zfd),.dat (Zb7),.dat (.int .i64)],[],fun a K=>splitK a fun b0 a=>splitK a fun key0 a=>splitK a fun net0 a=>YJ (Qe b0 key0 net0) fun r=>K () (r,())⟩
def ZaX (b0:Za) (nodes0:List (J3×Int)) (places0:List ZR) (v1:Int) (l1:List (List Int×List Int×List Int×List Int×Unit)):Option ((Int×(List (List Int×List Int×List Int×List Int×Unit))×Unit) ⊕ ((Int×(List (List Int×List Int×List Int×List Int×Unit))×Unit) ⊕ Za)) :=
 if v1<(↑(List.length places0):Int) then
 (atI places0 v1).bind fun x0 =>
 if (ZR.drives x0)=true then
 some (.inl (IntKind.i64.wrap (v1+1),l1,()))
 else
 (atI l1 (ZR.net x0)).bind fun x1 =>
 Zp ((List.length x1.snd.snd.snd.fst+List.length [Option.getD (ZiU Zb7 (Ty.int IntKind.i64) nodes0 (ZR.instance x0,ZR.pin x0,())) (0:Int)])*(8:Nat)≤(140737488355328:Nat)) <|
 some (.inl (IntKind.i64.wrap (v1+(1:Int)),List.set l1 (Int.toNat (ZR.net x0)) (x1.fst,x1.snd.fst,x1.snd.snd.fst,x1.snd.snd.snd.fst++[Option.getD (ZiU Zb7 (Ty.int IntKind.i64) nodes0 (ZR.instance x0,ZR.pin x0,())) (0:Int)],()),()))
 else
 some (.inr (.inr (Za.Library b0,Za.Design b0,l1,())))
def Vz (b0:Za) (nodes0:List (J3×Int)) (v0:Int) (l0:List (List Int×List Int×List Int×List Int×Unit)):Option ((Int×(List (List Int×List Int×List Int×List Int×Unit))×Unit) ⊕ Za) :=
 if v0<(↑(List.length (Za.Zy b0)):Int) then
 (atI l0 v0).bind fun x0 =>
 some (.inl (IntKind.i64.wrap (v0+(1:Int)),List.set l0 (Int.toNat v0) (x0.fst,x0.snd.fst,x0.snd.snd.fst,([]:List Int),()),()))
 else
 (Z9 (Za.Design b0)).bind fun places0 =>
 Zt (fun v=>ZaX b0 nodes0 places0 v.1 v.2.1) ((0:Int),l0,())
def QA (b0:Za) (nodes0:List (J3×Int)):Option Za :=
 Zt (fun v=>Vz b0 nodes0 v.1 v.2.1) ((0:Int),Za.Zy b0,())
def ZyL:Ctr:=⟨[.io (Zfd),.dat (.mp (Zb7) (.int .i64))],[],fun a K=>splitK a fun b0 a=>splitK a fun nodes0 a=>YJ (QA b0 nodes0) fun r=>K () (r,())⟩
def Jj (a0:Za) (a1:Zg):Option Za :=
 (XQ a0).bind fun nodesOf0 =>
 (Z9 (Za.Design a0)).bind fun places0 =>
 (atI places0 (Zg.Place a1)).bind fun x0 =>
 (YR (Zb.ZM (Za.Design a0))).bind fun string0 =>
 (YS (Zb.Instances (Za.Design a0))).bind fun Instance0 =>
 Zp ((List.length (Zb.Instances (Za.Design a0))+List.length [(Zg.Name a1,Zg.Cell a1,[ZR.net x0,string0],())])*(48:Nat)≤(140737488355328:Nat)) <|
 Zp ((List.length (Zb.ZM (Za.Design a0))+List.length [Zg.Name a1])*(16:Nat)≤(140737488355328:Nat)) <|
 Zp ((List.length (Za.Zy a0)+List.length [([(-1:Int)],[(0:Int)],[(0:Int)],([]:List Int),())])*(96:Nat)≤(140737488355328:Nat)) <|
 (Qe (Za.Library a0,(Zb.Instances (Za.Design a0)++[(Zg.Name a1,Zg.Cell a1,[ZR.net x0,string0],())],Zb.ZM (Za.Design a0)++[Zg.Name a1],(Za.Design a0).snd.snd),Za.Zy a0++[([(-1:Int)],[(0:Int)],[(0:Int)],([]:List Int),())],()) (ZR.instance x0,ZR.pin x0,()) string0).bind fun setNet0 =>
 (QA setNet0 (ZlV Zb7 (Ty.int IntKind.i64) (ZlV Zb7 (Ty.int IntKind.i64) nodesOf0 (Instance0,0,()) (Option.getD (ZiU Zb7 (Ty.int IntKind.i64) nodesOf0 (ZR.instance x0,ZR.pin x0,())) 0)) (ZR.instance x0,ZR.pin x0,()) 0)).bind fun connect0 =>
 some connect0
def c203:Ctr:=⟨[.io (Zfd),.dat (QW)],[],fun a K=>splitK a fun a0 a=>splitK a fun a1 a=>YJ (Jj a0 a1) fun r=>K () (r,())⟩
def Vd (a0:Za):Option (J3×Za) :=
 (XQ a0).bind fun nodesOf0 =>
 (Z9 (Za.Design a0)).bind fun places0 =>
 (YR (Zb.ZM (Za.Design a0))).bind fun string0 =>
 (Q9 (Za.Design a0) (IntKind.i64.wrap (string0-1))).bind fun sinks0 =>
 (atI sinks0 0).bind fun x0 =>
 (atI places0 x0).bind fun x1 =>
 (atI (Zb.Instances (Za.Design a0)) (IntKind.i64.wrap ((↑(List.length (Zb.Instances (Za.Design a0))):Int)-1))).bind fun x2 =>
 (atI x2.snd.snd.fst 0).bind fun x3 =>
 (Qe (Za.Library a0,(List.set (Zb.Instances (Za.Design a0)) (Int.toNat (IntKind.i64.wrap ((↑(List.length (Zb.Instances (Za.Design a0))):Int)-1))) x2,(Za.Design a0).snd),a0.snd.snd) (ZR.instance x1,ZR.pin x1,()) x3).bind fun setNet0 =>
 Zp ((0:Int)≤IntKind.i64.wrap ((↑(List.length (Zb.Instances (Za.Design a0))):Int)-(1:Int))) <|
 Zp (IntKind.i64.wrap ((↑(List.length (Zb.Instances (Za.Design a0))):Int)-(1:Int))≤(↑(List.length (Zb.Instances (Za.Design setNet0))):Int)) <|
 Zp ((0:Int)≤IntKind.i64.wrap ((↑(List.length (Zb.ZM (Za.Design setNet0))):Int)-(1:Int))) <|
 Zp (IntKind.i64.wrap ((↑(List.length (Zb.ZM (Za.Design setNet0))):Int)-(1:Int))≤(↑(List.length (Zb.ZM (Za.Design setNet0))):Int)) <|
 Zp ((0:Int)≤IntKind.i64.wrap ((↑(List.length (Za.Zy setNet0)):Int)-(1:Int))) <|
 Zp (IntKind.i64.wrap ((↑(List.length (Za.Zy setNet0)):Int)-(1:Int))≤(↑(List.length (Za.Zy setNet0)):Int)) <|
 (QA (Za.Library setNet0,(List.take (Int.toNat (IntKind.i64.wrap ((↑(List.length (Zb.Instances (Za.Design a0))):Int)-1))-Int.toNat 0) (List.drop (Int.toNat 0) (Zb.Instances (Za.Design setNet0))),List.take (Int.toNat (IntKind.i64.wrap ((↑(List.length (Zb.ZM (Za.Design setNet0))):Int)-1))-Int.toNat 0) (List.drop (Int.toNat 0) (Zb.ZM (Za.Design setNet0))),(Za.Design setNet0).snd.snd),List.take (Int.toNat (IntKind.i64.wrap ((↑(List.length (Za.Zy setNet0)):Int)-1))-Int.toNat 0) (List.drop (Int.toNat 0) (Za.Zy setNet0)),()) (ZlV Zb7 (Ty.int IntKind.i64) nodesOf0 (ZR.instance x1,ZR.pin x1,()) (Option.getD (ZiU Zb7 (Ty.int IntKind.i64) nodesOf0 (IntKind.i64.wrap ((↑(List.length (Zb.Instances (Za.Design a0))):Int)-1),0,())) 0))).bind fun connect0 =>
 some ((ZR.instance x1,ZR.pin x1,()),connect0)
def ZBt:Ctr:=⟨[.io (Zfd)],[.dat (Zb7)],fun a K=>splitK a fun a0 a=>YJ (Vd a0) fun r=>K (r.1,()) (r.2,())⟩
def ZdY (a0:Zg) (a1:Za):Option Za :=
 (J7 a1).bind fun clone0 =>
 if Zg.Kind a0=1 then
 (Z9 (Za.Design a1)).bind fun places0 =>
 (atI places0 (Zg.Place a0)).bind fun x0 =>
 (atI (Zb.Instances (Za.Design clone0)) (ZR.instance x0)).bind fun x1 =>
 some (Za.Library clone0,(List.set (Zb.Instances (Za.Design clone0)) (Int.toNat (ZR.instance x0)) (x1.fst,Zg.Cell a0,x1.snd.snd),(Za.Design clone0).snd),clone0.snd.snd)
 else
 if Zg.Kind a0=2 then
 (Jj clone0 a0).bind fun buffer0 =>
 some buffer0
 else
 if Zg.Kind a0=3 then
 (Vd clone0).bind fun unbuffer0 =>
 some unbuffer0.snd
 else
 if Zg.Kind a0=4 then
 (XQ clone0).bind fun nodesOf0 =>
 (Z9 (Za.Design clone0)).bind fun places0 =>
 (atI places0 (Zg.Place a0)).bind fun x0 =>
 (Qe clone0 (ZR.instance x0,ZR.pin x0,()) (Zg.Net a0)).bind fun setNet0 =>
 (QA setNet0 (ZlV Zb7 (Ty.int IntKind.i64) nodesOf0 (ZR.instance x0,ZR.pin x0,()) (Zg.Node a0))).bind fun connect0 =>
 some connect0
 else
 if Zg.Kind a0=5 then
 (Ju (Zg.Zet a0)).bind fun clone1 =>
 (atI (Za.Zy clone0) (Zg.Net a0)).bind fun x0 =>
 some (Za.Library clone0,Za.Design clone0,List.set (Za.Zy clone0) (Int.toNat (Zg.Net a0)) clone1,())
 else
 some clone0
def ZAF:Ctr:=⟨[.dat (QW),.dat (YG)],[.own (Zfd)],fun a K=>splitK a fun a0 a=>splitK a fun a1 a=>YJ (ZdY a0 a1) fun r=>K (r,()) ()⟩
def Vg (v0:Zbl):Option Zn :=
 (JN v0).bind fun nodes0 =>
 Zp ((0:Int)≤nodes0) <|
 Zp (nodes0≤nodes0) <|
 Zp (nodes0≤(4611686018427387904:Int)) <|
 Zp ((↑(1:Nat):Int)*nodes0≤(281474976710656:Int)) <|
 Zp ((↑(16:Nat):Int)*nodes0≤(281474976710656:Int)) <|
 some (List.replicate (Int.toNat nodes0) Bool.false,List.replicate (Int.toNat nodes0) (0,0,()),List.replicate (Int.toNat nodes0) (0,0,()),())
def c206:Ctr:=⟨[.dat (.ptr (Zui))],[.own (Zib)],fun a K=>splitK a fun v0 a=>YJ (Vg v0) fun r=>K (r,()) ()⟩
def Y4 (e0:Zg) (Instance0:Int) (places0:List ZR) (out0:List Int) (v0:Int):Option (((List Int)×Int×Unit) ⊕ List Int) :=
 if v0<(↑(List.length places0):Int) then
 (atI places0 v0).bind fun x0 =>
 if Zg.Kind e0=2 then
 if ZR.instance x0<0 then
 Zp ((List.length out0+List.length [IntKind.i64.wrap (v0+(2:Int))])*(8:Nat)≤(140737488355328:Nat)) <|
 some (.inl (out0++[IntKind.i64.wrap (v0+(2:Int))],IntKind.i64.wrap (v0+(1:Int)),()))
 else
 if Zg.Kind e0=3 then
 if ZR.instance x0<0 then
 Zp ((List.length out0+List.length [IntKind.i64.wrap (v0-(2:Int))])*(8:Nat)≤(140737488355328:Nat)) <|
 some (.inl (out0++[IntKind.i64.wrap (v0-(2:Int))],IntKind.i64.wrap (v0+(1:Int)),()))
 else
 if Zg.Kind e0=3 then
 if ZR.instance x0=IntKind.i64.wrap (Instance0-1) then
 Zp ((List.length out0+List.length [(-1:Int)])*(8:Nat)≤(140737488355328:Nat)) <|
 some (.inl (out0++[(-1:Int)],IntKind.i64.wrap (v0+(1:Int)),()))
 else
 Zp ((List.length out0+List.length [v0])*(8:Nat)≤(140737488355328:Nat)) <|
 some (.inl (out0++[v0],IntKind.i64.wrap (v0+(1:Int)),()))
 else
 Zp ((List.length out0+List.length [v0])*(8:Nat)≤(140737488355328:Nat)) <|
 some (.inl (out0++[v0],IntKind.i64.wrap (v0+(1:Int)),()))
 else
 if Zg.Kind e0=3 then
 if ZR.instance x0=IntKind.i64.wrap (Instance0-1) then
 Zp ((List.length out0+List.length [(-1:Int)])*(8:Nat)≤(140737488355328:Nat)) <|
 some (.inl (out0++[(-1:Int)],IntKind.i64.wrap (v0+(1:Int)),()))
 else
 Zp ((List.length out0+List.length [v0])*(8:Nat)≤(140737488355328:Nat)) <|
 some (.inl (out0++[v0],IntKind.i64.wrap (v0+(1:Int)),()))
 else
 Zp ((List.length out0+List.length [v0])*(8:Nat)≤(140737488355328:Nat)) <|
 some (.inl (out0++[v0],IntKind.i64.wrap (v0+(1:Int)),()))
 else
 if Zg.Kind e0=3 then
 if ZR.instance x0<0 then
 Zp ((List.length out0+List.length [IntKind.i64.wrap (v0-(2:Int))])*(8:Nat)≤(140737488355328:Nat)) <|
 some (.inl (out0++[IntKind.i64.wrap (v0-(2:Int))],IntKind.i64.wrap (v0+(1:Int)),()))
 else
 if Zg.Kind e0=3 then
 if ZR.instance x0=IntKind.i64.wrap (Instance0-1) then
 Zp ((List.length out0+List.length [(-1:Int)])*(8:Nat)≤(140737488355328:Nat)) <|
 some (.inl (out0++[(-1:Int)],IntKind.i64.wrap (v0+(1:Int)),()))
 else
 Zp ((List.length out0+List.length [v0])*(8:Nat)≤(140737488355328:Nat)) <|
 some (.inl (out0++[v0],IntKind.i64.wrap (v0+(1:Int)),()))
 else
 Zp ((List.length out0+List.length [v0])*(8:Nat)≤(140737488355328:Nat)) <|
 some (.inl (out0++[v0],IntKind.i64.wrap (v0+(1:Int)),()))
 else
 if Zg.Kind e0=3 then
 if ZR.instance x0=IntKind.i64.wrap (Instance0-1) then
 Zp ((List.length out0+List.length [(-1:Int)])*(8:Nat)≤(140737488355328:Nat)) <|
 some (.inl (out0++[(-1:Int)],IntKind.i64.wrap (v0+(1:Int)),()))
 else
 Zp ((List.length out0+List.length [v0])*(8:Nat)≤(140737488355328:Nat)) <|
 some (.inl (out0++[v0],IntKind.i64.wrap (v0+(1:Int)),()))
 else
 Zp ((List.length out0+List.length [v0])*(8:Nat)≤(140737488355328:Nat)) <|
 some (.inl (out0++[v0],IntKind.i64.wrap (v0+(1:Int)),()))
 else
 some (.inr out0)
def Qg (e0:Zg) (b0:Za):Option (List Int) :=
 (YS (Zb.Instances (Za.Design b0))).bind fun Instance0 =>
 (Z9 (Za.Design b0)).bind fun places0 =>
 Zt (fun v=>Y4 e0 Instance0 places0 v.1 v.2.1) (([]:List Int),(0:Int),())
def ZBb:Ctr:=⟨[.dat (QW),.dat (YG)],[.own (.ol 2 (.flat (.int .i64)))],fun a K=>splitK a fun e0 a=>splitK a fun b0 a=>YJ (Qg e0 b0) fun r=>K (r,()) ()⟩
def Zfa (after0:List Int) (node0:Int):Option (Int×Bool) :=
 (atI after0 (IntKind.i64.wrap (Int.tdiv node0 2))).bind fun x0 =>
 some (IntKind.i64.wrap (IntKind.i64.wrap (2*x0)+Int.tmod node0 2),Decidable.decide (0≤x0))
def c208:Ctr:=⟨[.dat (.sl (.int .i64)),.dat (.int .i64)],[.dat (.int .i64),.dat (.bool)],fun a K=>splitK a fun after0 a=>splitK a fun node0 a=>YJ (Zfa after0 node0) fun r=>K (r.1,r.2,()) ()⟩
def Qw (t0:Zn) (placesAfter0:List Int) (bool0:Int) (v0:Int) (l0:List Bool) (l1:List Yh) (l2:List Yh):Option ((Int×(List Bool)×(List Yh)×(List Yh)×Unit) ⊕ Zn) :=
 if v0<bool0 then
 (Zfa placesAfter0 v0).bind fun carried0 =>
 if carried0.snd=true then
 (atI (Zn.Reached t0) v0).bind fun x0 =>
 (atI (Zn.Y7 t0) v0).bind fun x1 =>
 (atI (Zn.ZbU t0) v0).bind fun x2 =>
 (atI l0 carried0.fst).bind fun x3 =>
 (atI l1 carried0.fst).bind fun x4 =>
 (atI l2 carried0.fst).bind fun x5 =>
 some (.inl (IntKind.i64.wrap (v0+1),List.set l0 (Int.toNat carried0.fst) x0,List.set l1 (Int.toNat carried0.fst) x1,List.set l2 (Int.toNat carried0.fst) x2,()))
 else
 some (.inl (IntKind.i64.wrap (v0+1),l0,l1,l2,()))
 else
 some (.inr (l0,l1,l2,()))
def Zav (e0:Zg) (b0:Za) (t0:Zn):Option Zn :=
 (ZdY e0 b0).bind fun apply0 =>
 (Zb2 apply0).bind fun newView0 =>
 (Vg newView0).bind fun newTiming0 =>
 (Qg e0 b0).bind fun placesAfter0 =>
 (VJ (Zn.Reached t0)).bind fun bool0 =>
 Zt (fun v=>Qw t0 placesAfter0 bool0 v.1 v.2.1 v.2.2.1 v.2.2.2.1) ((0:Int),Zn.Reached newTiming0,Zn.Y7 newTiming0,Zn.ZbU newTiming0,())
def ZAH:Ctr:=⟨[.dat (QW),.dat (YG),.dat (YB)],[.own (Zib)],fun a K=>splitK a fun e0 a=>splitK a fun b0 a=>splitK a fun t0 a=>YJ (Zav e0 b0 t0) fun r=>K (r,()) ()⟩
def Zaf (b0:Za) (e0:Zg) (t0:Zn):Option (Zn×Int) :=
 (Zcv b0 e0).bind fun EditCode0 =>
 if EditCode0=0 then
 (Zb2 b0).bind fun newView0 =>
 (Vs newView0 t0).bind fun isTiming0 =>
 if isTiming0=true then
 (Zav e0 b0 t0).bind fun timingAfter0 =>
 some (timingAfter0,0)
 else
 some ((([]:List Bool),([]:List Yh),([]:List Yh),()),(2:Int))
 else
 some ((([]:List Bool),([]:List Yh),([]:List Yh),()),EditCode0)
def c210:Ctr:=⟨[.dat (YG),.dat (QW),.dat (YB)],[.own (Zib),.dat (.int .i64)],fun a K=>splitK a fun b0 a=>splitK a fun e0 a=>splitK a fun t0 a=>YJ (Zaf b0 e0 t0) fun r=>K (r.1,r.2,()) ()⟩
def ZkQ (a0:List Bool) (b0:List Bool) (i0:Int):Option ((Int×Unit) ⊕ Bool) :=
 if i0<(↑(List.length a0):Int) then
 (atI a0 i0).bind fun x0 =>
 (atI b0 i0).bind fun x1 =>
 if (x0 == x1)=true then
 some (.inl (IntKind.i64.wrap (i0+1),()))
 else
 some (.inr Bool.false)
 else
 some (.inr Bool.true)
def Zga (a0:List Bool) (b0:List Bool):Option Bool :=
 if (↑(List.length a0):Int)=(↑(List.length b0):Int) then
 Zt (fun v=>ZkQ a0 b0 v.1) ((0:Int),())
 else
 some Bool.false
def ZzP:Ctr:=D2 (.sl (.bool)) (.sl (.bool)) (.bool) Zga
def Zdj (a0:Yh) (b0:Yh):Option Bool :=
 if Yh.Early a0=Yh.Early b0 then
 if Yh.Late a0=Yh.Late b0 then
 some Bool.true
 else
 some Bool.false
 else
 some Bool.false
def c212:Ctr:=D2 (Xj) (Xj) (.bool) Zdj
def ZkE (a0:List Yh) (b0:List Yh) (i0:Int):Option ((Int×Unit) ⊕ Bool) :=
 if i0<(↑(List.length a0):Int) then
 (atI a0 i0).bind fun x0 =>
 (atI b0 i0).bind fun x1 =>
 (Zdj x0 x1).bind fun eqSpan0 =>
 if eqSpan0=true then
 some (.inl (IntKind.i64.wrap (i0+1),()))
 else
 some (.inr Bool.false)
 else
 some (.inr Bool.true)
def Zff (a0:List Yh) (b0:List Yh):Option Bool :=
 if (↑(List.length a0):Int)=(↑(List.length b0):Int) then
 Zt (fun v=>ZkE a0 b0 v.1) ((0:Int),())
 else
 some Bool.false
def c213:Ctr:=D2 (.sl (Xj)) (.sl (Xj)) (.bool) Zff
def Zbf (a0:Zn) (b0:Zn):Option Bool :=
 (Zga (Zn.Reached a0) (Zn.Reached b0)).bind fun eqBoolS0 =>
 if eqBoolS0=true then
 (Zff (Zn.Y7 a0) (Zn.Y7 b0)).bind fun eqSpanS0 =>
 if eqSpanS0=true then
 (Zff (Zn.ZbU a0) (Zn.ZbU b0)).bind fun eqSpanS1 =>
 if eqSpanS1=true then
 some Bool.true
 else
 some Bool.false
 else
 some Bool.false
 else
 some Bool.false
def ZzX:Ctr:=D2 (YB) (YB) (.bool) Zbf
def ZeG (a0:Yz) (b0:Yz):Option Bool :=
 if Yz.Name a0=Yz.Name b0 then
 if Yz.Dir a0=Yz.Dir b0 then
 if Yz.Cap a0=Yz.Cap b0 then
 if (Yz.Clock a0 == Yz.Clock b0)=true then
 some Bool.true
 else
 some Bool.false
 else
 some Bool.false
 else
 some Bool.false
 else
 some Bool.false
def ZAw:Ctr:=D2 (ZdO) (ZdO) (.bool) ZeG
def ZkZ (a0:List Yz) (b0:List Yz) (i0:Int):Option ((Int×Unit) ⊕ Bool) :=
 if i0<(↑(List.length a0):Int) then
 (atI a0 i0).bind fun x0 =>
 (atI b0 i0).bind fun x1 =>
 (ZeG x0 x1).bind fun eqPin0 =>
 if eqPin0=true then
 some (.inl (IntKind.i64.wrap (i0+1),()))
 else
 some (.inr Bool.false)
 else
 some (.inr Bool.true)
def Zha (a0:List Yz) (b0:List Yz):Option Bool :=
 if (↑(List.length a0):Int)=(↑(List.length b0):Int) then
 Zt (fun v=>ZkZ a0 b0 v.1) ((0:Int),())
 else
 some Bool.false
def ZAU:Ctr:=D2 (.sl (ZdO)) (.sl (ZdO)) (.bool) Zha
def ZjB (a0:List Int) (b0:List Int) (i0:Int):Option ((Int×Unit) ⊕ Bool) :=
 if i0<(↑(List.length a0):Int) then
 (atI a0 i0).bind fun x0 =>
 (atI b0 i0).bind fun x1 =>
 if x0=x1 then
 some (.inl (IntKind.i64.wrap (i0+1),()))
 else
 some (.inr Bool.false)
 else
 some (.inr Bool.true)
def X7 (a0:List Int) (b0:List Int):Option Bool :=
 if (↑(List.length a0):Int)=(↑(List.length b0):Int) then
 Zt (fun v=>ZjB a0 b0 v.1) ((0:Int),())
 else
 some Bool.false
def ZxT:Ctr:=D2 (.sl (.int .i64)) (.sl (.int .i64)) (.bool) X7
def Zca (a0:Zx) (b0:Zx):Option Bool :=
 (X7 (Zx.Zgn a0) (Zx.Zgn b0)).bind fun eqInt64S0 =>
 if eqInt64S0=true then
 (X7 (Zx.Loads a0) (Zx.Loads b0)).bind fun eqInt64S1 =>
 if eqInt64S1=true then
 (X7 (Zx.Values a0) (Zx.Values b0)).bind fun eqInt64S2 =>
 if eqInt64S2=true then
 some Bool.true
 else
 some Bool.false
 else
 some Bool.false
 else
 some Bool.false
def c218:Ctr:=D2 (YP) (YP) (.bool) Zca
def Zdq (a0:List Zx) (b0:List Zx) (i0:Int):Option ((Int×Unit) ⊕ Bool) :=
 if i0<(↑(List.length a0):Int) then
 (atI a0 i0).bind fun x0 =>
 (atI b0 i0).bind fun x1 =>
 (Zca x0 x1).bind fun eqTable0 =>
 if eqTable0=true then
 some (.inl (IntKind.i64.wrap (i0+1),()))
 else
 some (.inr Bool.false)
 else
 some (.inr Bool.true)
def Zba (a0:List Zx) (b0:List Zx):Option Bool :=
 if (↑(List.length a0):Int)=(↑(List.length b0):Int) then
 Zt (fun v=>Zdq a0 b0 v.1) ((0:Int),())
 else
 some Bool.false
def ZAl:Ctr:=D2 (.sl (YP)) (.sl (YP)) (.bool) Zba
def ZgP (a0:ZJ) (b0:ZJ):Option Bool :=
 if ZJ.Kind a0=ZJ.Kind b0 then
 if ZJ.From a0=ZJ.From b0 then
 if ZJ.To a0=ZJ.To b0 then
 if ZJ.Zcl a0=ZJ.Zcl b0 then
 (Zba (ZJ.Delay a0) (ZJ.Delay b0)).bind fun eqTableS0 =>
 if eqTableS0=true then
 (Zba (ZJ.ZbU a0) (ZJ.ZbU b0)).bind fun eqTableS1 =>
 if eqTableS1=true then
 some Bool.true
 else
 some Bool.false
 else
 some Bool.false
 else
 some Bool.false
 else
 some Bool.false
 else
 some Bool.false
 else
 some Bool.false
def ZAS:Ctr:=D2 (Zfc) (Zfc) (.bool) ZgP
def ZeI (a0:List ZJ) (b0:List ZJ) (i0:Int):Option ((Int×Unit) ⊕ Bool) :=
 if i0<(↑(List.length a0):Int) then
 (atI a0 i0).bind fun x0 =>
 (atI b0 i0).bind fun x1 =>
 (ZgP x0 x1).bind fun eqArc0 =>
 if eqArc0=true then
 some (.inl (IntKind.i64.wrap (i0+1),()))
 else
 some (.inr Bool.false)
 else
 some (.inr Bool.true)
def Zex (a0:List ZJ) (b0:List ZJ):Option Bool :=
 if (↑(List.length a0):Int)=(↑(List.length b0):Int) then
 Zt (fun v=>ZeI a0 b0 v.1) ((0:Int),())
 else
 some Bool.false
def ZBj:Ctr:=D2 (.sl (Zfc)) (.sl (Zfc)) (.bool) Zex
def Zdg (a0:Zi) (b0:Zi):Option Bool :=
 if Zi.Name a0=Zi.Name b0 then
 if Zi.Kind a0=Zi.Kind b0 then
 (Zha (Zi.Yx a0) (Zi.Yx b0)).bind fun eqPinS0 =>
 if eqPinS0=true then
 (Zex (Zi.ZaZ a0) (Zi.ZaZ b0)).bind fun eqArcS0 =>
 if eqArcS0=true then
 (X7 (Zi.Truth a0) (Zi.Truth b0)).bind fun eqInt64S0 =>
 if eqInt64S0=true then
 if Zi.Zvn a0=Zi.Zvn b0 then
 if Zi.Zjk a0=Zi.Zjk b0 then
 some Bool.true
 else
 some Bool.false
 else
 some Bool.false
 else
 some Bool.false
 else
 some Bool.false
 else
 some Bool.false
 else
 some Bool.false
 else
 some Bool.false
def c222:Ctr:=D2 (X3) (X3) (.bool) Zdg
def Zee (a0:List Zi) (b0:List Zi) (i0:Int):Option ((Int×Unit) ⊕ Bool) :=
 if i0<(↑(List.length a0):Int) then
 (atI a0 i0).bind fun x0 =>
 (atI b0 i0).bind fun x1 =>
 (Zdg x0 x1).bind fun eqCell0 =>
 if eqCell0=true then
 some (.inl (IntKind.i64.wrap (i0+1),()))
 else
 some (.inr Bool.false)
 else
 some (.inr Bool.true)
def ZdD (a0:List Zi) (b0:List Zi):Option Bool :=
 if (↑(List.length a0):Int)=(↑(List.length b0):Int) then
 Zt (fun v=>Zee a0 b0 v.1) ((0:Int),())
 else
 some Bool.false
def ZAb:Ctr:=D2 (.sl (X3)) (.sl (X3)) (.bool) ZdD
def ZbK (a0:Zk) (b0:Zk):Option Bool :=
 (ZdD (Zk.Cells a0) (Zk.Cells b0)).bind fun eqCellS0 =>
 if eqCellS0=true then
 some Bool.true
 else
 some Bool.false
def ZAz:Ctr:=D2 (YH) (YH) (.bool) ZbK
def Jz (a0:Zd) (b0:Zd):Option Bool :=
 if Zd.Name a0=Zd.Name b0 then
 if Zd.Cell a0=Zd.Cell b0 then
 (X7 (Zd.ZM a0) (Zd.ZM b0)).bind fun eqInt64S0 =>
 if eqInt64S0=true then
 some Bool.true
 else
 some Bool.false
 else
 some Bool.false
 else
 some Bool.false
def ZBf:Ctr:=D2 (Z0) (Z0) (.bool) Jz
def ZhA (a0:List Zd) (b0:List Zd) (i0:Int):Option ((Int×Unit) ⊕ Bool) :=
 if i0<(↑(List.length a0):Int) then
 (atI a0 i0).bind fun x0 =>
 (atI b0 i0).bind fun x1 =>
 (Jz x0 x1).bind fun eqInstance0 =>
 if eqInstance0=true then
 some (.inl (IntKind.i64.wrap (i0+1),()))
 else
 some (.inr Bool.false)
 else
 some (.inr Bool.true)
def Zdb (a0:List Zd) (b0:List Zd):Option Bool :=
 if (↑(List.length a0):Int)=(↑(List.length b0):Int) then
 Zt (fun v=>ZhA a0 b0 v.1) ((0:Int),())
 else
 some Bool.false
def c226:Ctr:=D2 (.sl (Z0)) (.sl (Z0)) (.bool) Zdb
def Zi3 (a0:List (List UInt8)) (b0:List (List UInt8)) (i0:Int):Option ((Int×Unit) ⊕ Bool) :=
 if i0<(↑(List.length a0):Int) then
 (atI a0 i0).bind fun x0 =>
 (atI b0 i0).bind fun x1 =>
 if x0=x1 then
 some (.inl (IntKind.i64.wrap (i0+1),()))
 else
 some (.inr Bool.false)
 else
 some (.inr Bool.true)
def Ze1 (a0:List (List UInt8)) (b0:List (List UInt8)):Option Bool :=
 if (↑(List.length a0):Int)=(↑(List.length b0):Int) then
 Zt (fun v=>Zi3 a0 b0 v.1) ((0:Int),())
 else
 some Bool.false
def c227:Ctr:=D2 (.sl (.str)) (.sl (.str)) (.bool) Ze1
def Zdl (a0:ZV) (b0:ZV):Option Bool :=
 if ZV.Name a0=ZV.Name b0 then
 if ZV.Dir a0=ZV.Dir b0 then
 if ZV.Net a0=ZV.Net b0 then
 some Bool.true
 else
 some Bool.false
 else
 some Bool.false
 else
 some Bool.false
def c228:Ctr:=D2 (J5) (J5) (.bool) Zdl
def Zea (a0:List ZV) (b0:List ZV) (i0:Int):Option ((Int×Unit) ⊕ Bool) :=
 if i0<(↑(List.length a0):Int) then
 (atI a0 i0).bind fun x0 =>
 (atI b0 i0).bind fun x1 =>
 (Zdl x0 x1).bind fun eqPort0 =>
 if eqPort0=true then
 some (.inl (IntKind.i64.wrap (i0+1),()))
 else
 some (.inr Bool.false)
 else
 some (.inr Bool.true)
def Zdz (a0:List ZV) (b0:List ZV):Option Bool :=
 if (↑(List.length a0):Int)=(↑(List.length b0):Int) then
 Zt (fun v=>Zea a0 b0 v.1) ((0:Int),())
 else
 some Bool.false
def c229:Ctr:=D2 (.sl (J5)) (.sl (J5)) (.bool) Zdz
def ZcC (a0:Zb) (b0:Zb):Option Bool :=
 (Zdb (Zb.Instances a0) (Zb.Instances b0)).bind fun eqInstanceS0 =>
 if eqInstanceS0=true then
 (Ze1 (Zb.ZM a0) (Zb.ZM b0)).bind fun eqStringS0 =>
 if eqStringS0=true then
 (Zdz (Zb.ZQ a0) (Zb.ZQ b0)).bind fun eqPortS0 =>
 if eqPortS0=true then
 some Bool.true
 else
 some Bool.false
 else
 some Bool.false
 else
 some Bool.false
def ZAI:Ctr:=D2 (Yn) (Yn) (.bool) ZcC
def Zcd (a0:Zo) (b0:Zo):Option Bool :=
 (X7 (Zo.Parent a0) (Zo.Parent b0)).bind fun eqInt64S0 =>
 if eqInt64S0=true then
 (X7 (Zo.Res a0) (Zo.Res b0)).bind fun eqInt64S1 =>
 if eqInt64S1=true then
 (X7 (Zo.Cap a0) (Zo.Cap b0)).bind fun eqInt64S2 =>
 if eqInt64S2=true then
 (X7 (Zo.Zfj a0) (Zo.Zfj b0)).bind fun eqInt64S3 =>
 if eqInt64S3=true then
 some Bool.true
 else
 some Bool.false
 else
 some Bool.false
 else
 some Bool.false
 else
 some Bool.false
def Zzh:Ctr:=D2 (X6) (X6) (.bool) Zcd
def Zd7 (a0:List Zo) (b0:List Zo) (i0:Int):Option ((Int×Unit) ⊕ Bool) :=
 if i0<(↑(List.length a0):Int) then
 (atI a0 i0).bind fun x0 =>
 (atI b0 i0).bind fun x1 =>
 (Zcd x0 x1).bind fun eqWire0 =>
 if eqWire0=true then
 some (.inl (IntKind.i64.wrap (i0+1),()))
 else
 some (.inr Bool.false)
 else
 some (.inr Bool.true)
def ZdB (a0:List Zo) (b0:List Zo):Option Bool :=
 if (↑(List.length a0):Int)=(↑(List.length b0):Int) then
 Zt (fun v=>Zd7 a0 b0 v.1) ((0:Int),())
 else
 some Bool.false
def c232:Ctr:=D2 (.sl (X6)) (.sl (X6)) (.bool) ZdB
def ZdJ (a0:Za) (b0:Za):Option Bool :=
 (ZbK (Za.Library a0) (Za.Library b0)).bind fun eqLibrary0 =>
 if eqLibrary0=true then
 (ZcC (Za.Design a0) (Za.Design b0)).bind fun eqDesign0 =>
 if eqDesign0=true then
 (ZdB (Za.Zy a0) (Za.Zy b0)).bind fun eqWireS0 =>
 if eqWireS0=true then
 some Bool.true
 else
 some Bool.false
 else
 some Bool.false
 else
 some Bool.false
def c233:Ctr:=D2 (YG) (YG) (.bool) ZdJ
def Zhd (a0:Zg) (b0:Zg):Option Bool :=
 if Zg.Kind a0=Zg.Kind b0 then
 if Zg.Place a0=Zg.Place b0 then
 if Zg.Cell a0=Zg.Cell b0 then
 if Zg.Net a0=Zg.Net b0 then
 if Zg.Node a0=Zg.Node b0 then
 if Zg.Name a0=Zg.Name b0 then
 (Zcd (Zg.Zet a0) (Zg.Zet b0)).bind fun eqWire0 =>
 if eqWire0=true then
 some Bool.true
 else
 some Bool.false
 else
 some Bool.false
 else
 some Bool.false
 else
 some Bool.false
 else
 some Bool.false
 else
 some Bool.false
 else
 some Bool.false
def c234:Ctr:=D2 (QW) (QW) (.bool) Zhd
def JO (k1:Int) (out0:List UInt8):Option ((Int×(List UInt8)×Unit) ⊕ List UInt8) :=
 if 0<k1 then
 Zp ((↑(List.length (bytesOf [IntKind.wrap IntKind.u8 (IntKind.i64.wrap ((48:Int)+Int.tmod k1 (10:Int)))])):Int)+(↑(List.length out0):Int)≤(9223372036854775807:Int)) <|
 some (.inl (IntKind.i64.wrap (Int.tdiv k1 (10:Int)),bytesOf [IntKind.wrap IntKind.u8 (IntKind.i64.wrap ((48:Int)+Int.tmod k1 (10:Int)))]++out0,()))
 else
 Zp ((↑(List.length [(109:UInt8)]):Int)+(↑(List.length out0):Int)≤(9223372036854775807:Int)) <|
 some (.inr ([(109:UInt8)]++out0))
def Qv (k0:Int):Option (List UInt8) :=
 if k0≤0 then
 some ([(109:UInt8),(48:UInt8)])
 else
 Zt (fun v=>JO v.1 v.2.1) (k0,([]:List UInt8),())
def ZxJ:Ctr:=D1 (.int .i64) (.str) Qv
def Jt (k1:Int) (i0:Int) (l0:List Yz):Option ((Int×Int×(List Yz)×Unit) ⊕ (Int×(List Yz))) :=
 if i0<(↑(List.length l0):Int) then
 (Qv k1).bind fun markText0 =>
 (atI l0 i0).bind fun x0 =>
 (atI (List.set l0 (Int.toNat i0) (markText0,x0.snd)) i0).bind fun x1 =>
 (atI (List.set (List.set l0 (Int.toNat i0) (markText0,x0.snd)) (Int.toNat i0) (Yz.Name x1,IntKind.i64.wrap (k1+1),x1.snd.snd)) i0).bind fun x2 =>
 (atI (List.set (List.set (List.set l0 (Int.toNat i0) (markText0,x0.snd)) (Int.toNat i0) (Yz.Name x1,IntKind.i64.wrap (k1+1),x1.snd.snd)) (Int.toNat i0) (Yz.Name x2,Yz.Dir x2,IntKind.i64.wrap (IntKind.i64.wrap (k1+1)+1),x2.snd.snd.snd)) i0).bind fun x3 =>
 some (.inl (IntKind.i64.wrap (IntKind.i64.wrap (IntKind.i64.wrap (IntKind.i64.wrap (k1+1)+1)+1)+1),IntKind.i64.wrap (i0+1),List.set (List.set (List.set (List.set l0 (Int.toNat i0) (markText0,x0.snd)) (Int.toNat i0) (Yz.Name x1,IntKind.i64.wrap (k1+1),x1.snd.snd)) (Int.toNat i0) (Yz.Name x2,Yz.Dir x2,IntKind.i64.wrap (IntKind.i64.wrap (k1+1)+1),x2.snd.snd.snd)) (Int.toNat i0) (Yz.Name x3,Yz.Dir x3,Yz.Cap x3,Decidable.decide (Int.tmod (IntKind.i64.wrap (IntKind.i64.wrap (IntKind.i64.wrap (k1+1)+1)+1)) 3=0),()),()))
 else
 some (.inr (k1,l0))
def ZcM (a0:List Yz) (k0:Int):Option (Int×(List Yz)) :=
 Zt (fun v=>Jt v.1 v.2.1 v.2.2.1) (k0,(0:Int),a0,())
def c236:Ctr:=⟨[.back (.ol 260 (.flat (ZdO))),.dat (.int .i64)],[.dat (.int .i64)],fun a K=>splitK a fun a0 a=>splitK a fun k0 a=>YJ (ZcM a0 k0) fun r=>K (r.1,()) (r.2,())⟩
def Xu (k1:Int) (i0:Int) (l0:List Int):Option ((Int×Int×(List Int)×Unit) ⊕ (Int×(List Int))) :=
 if i0<(↑(List.length l0):Int) then
 (atI l0 i0).bind fun x0 =>
 some (.inl (IntKind.i64.wrap (k1+1),IntKind.i64.wrap (i0+1),List.set l0 (Int.toNat i0) k1,()))
 else
 some (.inr (k1,l0))
def Yg (a0:List Int) (k0:Int):Option (Int×(List Int)) :=
 Zt (fun v=>Xu v.1 v.2.1 v.2.2.1) (k0,(0:Int),a0,())
def Zxo:Ctr:=⟨[.back (.ol 2 (.flat (.int .i64))),.dat (.int .i64)],[.dat (.int .i64)],fun a K=>splitK a fun a0 a=>splitK a fun k0 a=>YJ (Yg a0 k0) fun r=>K (r.1,()) (r.2,())⟩
def ZbW (k1:Int) (i0:Int) (l0:List (List Int×List Int×List Int×Unit)):Option ((Int×Int×(List (List Int×List Int×List Int×Unit))×Unit) ⊕ (Int×(List Zx))) :=
 if i0<(↑(List.length l0):Int) then
 (atI l0 i0).bind fun x0 =>
 (Yg x0.fst k1).bind fun markInt64S0 =>
 (Yg x0.snd.fst markInt64S0.fst).bind fun markInt64S1 =>
 (Yg x0.snd.snd.fst markInt64S1.fst).bind fun markInt64S2 =>
 some (.inl (markInt64S2.fst,IntKind.i64.wrap (i0+1),List.set l0 (Int.toNat i0) (markInt64S0.snd,markInt64S1.snd,markInt64S2.snd,()),()))
 else
 some (.inr (k1,l0))
def Zb8 (a0:List Zx) (k0:Int):Option (Int×(List Zx)) :=
 Zt (fun v=>ZbW v.1 v.2.1 v.2.2.1) (k0,(0:Int),a0,())
def ZAV:Ctr:=⟨[.back (.ol 290 (Ze9)),.dat (.int .i64)],[.dat (.int .i64)],fun a K=>splitK a fun a0 a=>splitK a fun k0 a=>YJ (Zb8 a0 k0) fun r=>K (r.1,()) (r.2,())⟩
def JD (k1:Int) (i0:Int) (l0:List (Int×Int×Int×Int×List Zx×List Zx×Unit)):Option ((Int×Int×(List (Int×Int×Int×Int×List Zx×List Zx×Unit))×Unit) ⊕ (Int×(List ZJ))) :=
 if i0<(↑(List.length l0):Int) then
 (atI l0 i0).bind fun x0 =>
 (Zb8 x0.snd.snd.snd.snd.fst (IntKind.i64.wrap (IntKind.i64.wrap (IntKind.i64.wrap (IntKind.i64.wrap (k1+1)+1)+1)+1))).bind fun markTableS0 =>
 (Zb8 x0.snd.snd.snd.snd.snd.fst markTableS0.fst).bind fun markTableS1 =>
 some (.inl (markTableS1.fst,IntKind.i64.wrap (i0+1),List.set l0 (Int.toNat i0) (k1,IntKind.i64.wrap (k1+1),IntKind.i64.wrap (IntKind.i64.wrap (k1+1)+1),IntKind.i64.wrap (IntKind.i64.wrap (IntKind.i64.wrap (k1+1)+1)+1),markTableS0.snd,markTableS1.snd,()),()))
 else
 some (.inr (k1,l0))
def ZcD (a0:List ZJ) (k0:Int):Option (Int×(List ZJ)) :=
 Zt (fun v=>JD v.1 v.2.1 v.2.2.1) (k0,(0:Int),a0,())
def ZzD:Ctr:=⟨[.back (.ol 235 (ZtF)),.dat (.int .i64)],[.dat (.int .i64)],fun a K=>splitK a fun a0 a=>splitK a fun k0 a=>YJ (ZcD a0 k0) fun r=>K (r.1,()) (r.2,())⟩
def ZcY (k1:Int) (i0:Int) (l0:List (List UInt8×Int×List Yz×List ZJ×List Int×Int×Int×Unit)):Option ((Int×Int×(List (List UInt8×Int×List Yz×List ZJ×List Int×Int×Int×Unit))×Unit) ⊕ (Int×(List Zi))) :=
 if i0<(↑(List.length l0):Int) then
 (Qv k1).bind fun markText0 =>
 (atI l0 i0).bind fun x0 =>
 (ZcM x0.snd.snd.fst (IntKind.i64.wrap (IntKind.i64.wrap (k1+1)+1))).bind fun markPinS0 =>
 (ZcD x0.snd.snd.snd.fst markPinS0.fst).bind fun markArcS0 =>
 (Yg x0.snd.snd.snd.snd.fst markArcS0.fst).bind fun markInt64S0 =>
 some (.inl (IntKind.i64.wrap (IntKind.i64.wrap (markInt64S0.fst+1)+1),IntKind.i64.wrap (i0+1),List.set l0 (Int.toNat i0) (markText0,IntKind.i64.wrap (k1+1),markPinS0.snd,markArcS0.snd,markInt64S0.snd,markInt64S0.fst,IntKind.i64.wrap (markInt64S0.fst+1),()),()))
 else
 some (.inr (k1,l0))
def ZeY (a0:List Zi) (k0:Int):Option (Int×(List Zi)) :=
 Zt (fun v=>ZcY v.1 v.2.1 v.2.2.1) (k0,(0:Int),a0,())
def ZBd:Ctr:=⟨[.back (.ol 207 (Zms)),.dat (.int .i64)],[.dat (.int .i64)],fun a K=>splitK a fun a0 a=>splitK a fun k0 a=>YJ (ZeY a0 k0) fun r=>K (r.1,()) (r.2,())⟩
def Zac (a0:Zk) (k0:Int):Option (Int×Zk) :=
 (ZeY (Zk.Cells a0) k0).bind fun markCellS0 =>
 some (markCellS0.fst,(markCellS0.snd,()))
def ZAY:Ctr:=⟨[.back (ZkH),.dat (.int .i64)],[.dat (.int .i64)],fun a K=>splitK a fun a0 a=>splitK a fun k0 a=>YJ (Zac a0 k0) fun r=>K (r.1,()) (r.2,())⟩
def Qf (k1:Int) (i0:Int) (l0:List (List UInt8×Int×List Int×Unit)):Option ((Int×Int×(List (List UInt8×Int×List Int×Unit))×Unit) ⊕ (Int×(List Zd))) :=
 if i0<(↑(List.length l0):Int) then
 (Qv k1).bind fun markText0 =>
 (atI l0 i0).bind fun x0 =>
 (Yg x0.snd.snd.fst (IntKind.i64.wrap (IntKind.i64.wrap (k1+1)+1))).bind fun markInt64S0 =>
 some (.inl (markInt64S0.fst,IntKind.i64.wrap (i0+1),List.set l0 (Int.toNat i0) (markText0,IntKind.i64.wrap (k1+1),markInt64S0.snd,()),()))
 else
 some (.inr (k1,l0))
def VA (a0:List Zd) (k0:Int):Option (Int×(List Zd)) :=
 Zt (fun v=>Qf v.1 v.2.1 v.2.2.1) (k0,(0:Int),a0,())
def ZAC:Ctr:=⟨[.back (.ol 169 (Zb4)),.dat (.int .i64)],[.dat (.int .i64)],fun a K=>splitK a fun a0 a=>splitK a fun k0 a=>YJ (VA a0 k0) fun r=>K (r.1,()) (r.2,())⟩
def Q7 (k1:Int) (i0:Int) (l0:List (List UInt8)):Option ((Int×Int×(List (List UInt8))×Unit) ⊕ (Int×(List (List UInt8)))) :=
 if i0<(↑(List.length l0):Int) then
 (Qv k1).bind fun markText0 =>
 (atI l0 i0).bind fun x0 =>
 some (.inl (IntKind.i64.wrap (k1+1),IntKind.i64.wrap (i0+1),List.set l0 (Int.toNat i0) markText0,()))
 else
 some (.inr (k1,l0))
def J6 (a0:List (List UInt8)) (k0:Int):Option (Int×(List (List UInt8))) :=
 Zt (fun v=>Q7 v.1 v.2.1 v.2.2.1) (k0,(0:Int),a0,())
def ZBg:Ctr:=⟨[.back (.ol 9 (.flat (.str))),.dat (.int .i64)],[.dat (.int .i64)],fun a K=>splitK a fun a0 a=>splitK a fun k0 a=>YJ (J6 a0 k0) fun r=>K (r.1,()) (r.2,())⟩
def VO (k1:Int) (i0:Int) (l0:List ZV):Option ((Int×Int×(List ZV)×Unit) ⊕ (Int×(List ZV))) :=
 if i0<(↑(List.length l0):Int) then
 (Qv k1).bind fun markText0 =>
 (atI l0 i0).bind fun x0 =>
 (atI (List.set l0 (Int.toNat i0) (markText0,x0.snd)) i0).bind fun x1 =>
 (atI (List.set (List.set l0 (Int.toNat i0) (markText0,x0.snd)) (Int.toNat i0) (ZV.Name x1,IntKind.i64.wrap (k1+1),x1.snd.snd)) i0).bind fun x2 =>
 some (.inl (IntKind.i64.wrap (IntKind.i64.wrap (IntKind.i64.wrap (k1+1)+1)+1),IntKind.i64.wrap (i0+1),List.set (List.set (List.set l0 (Int.toNat i0) (markText0,x0.snd)) (Int.toNat i0) (ZV.Name x1,IntKind.i64.wrap (k1+1),x1.snd.snd)) (Int.toNat i0) (ZV.Name x2,ZV.Dir x2,IntKind.i64.wrap (IntKind.i64.wrap (k1+1)+1),()),()))
 else
 some (.inr (k1,l0))
def ZbA (a0:List ZV) (k0:Int):Option (Int×(List ZV)) :=
 Zt (fun v=>VO v.1 v.2.1 v.2.2.1) (k0,(0:Int),a0,())
def ZBz:Ctr:=⟨[.back (.ol 201 (.flat (J5))),.dat (.int .i64)],[.dat (.int .i64)],fun a K=>splitK a fun a0 a=>splitK a fun k0 a=>YJ (ZbA a0 k0) fun r=>K (r.1,()) (r.2,())⟩
def ZaR (a0:Zb) (k0:Int):Option (Int×Zb) :=
 (VA (Zb.Instances a0) k0).bind fun markInstanceS0 =>
 (J6 (Zb.ZM a0) markInstanceS0.fst).bind fun markStringS0 =>
 (ZbA (Zb.ZQ a0) markStringS0.fst).bind fun markPortS0 =>
 some (markPortS0.fst,(markInstanceS0.snd,markStringS0.snd,markPortS0.snd,()))
def ZAd:Ctr:=⟨[.back (Zlf),.dat (.int .i64)],[.dat (.int .i64)],fun a K=>splitK a fun a0 a=>splitK a fun k0 a=>YJ (ZaR a0 k0) fun r=>K (r.1,()) (r.2,())⟩
def ZcU (k1:Int) (i0:Int) (l0:List (List Int×List Int×List Int×List Int×Unit)):Option ((Int×Int×(List (List Int×List Int×List Int×List Int×Unit))×Unit) ⊕ (Int×(List Zo))) :=
 if i0<(↑(List.length l0):Int) then
 (atI l0 i0).bind fun x0 =>
 (Yg x0.fst k1).bind fun markInt64S0 =>
 (Yg x0.snd.fst markInt64S0.fst).bind fun markInt64S1 =>
 (Yg x0.snd.snd.fst markInt64S1.fst).bind fun markInt64S2 =>
 (Yg x0.snd.snd.snd.fst markInt64S2.fst).bind fun markInt64S3 =>
 some (.inl (markInt64S3.fst,IntKind.i64.wrap (i0+1),List.set l0 (Int.toNat i0) (markInt64S0.snd,markInt64S1.snd,markInt64S2.snd,markInt64S3.snd,()),()))
 else
 some (.inr (k1,l0))
def Ze0 (a0:List Zo) (k0:Int):Option (Int×(List Zo)) :=
 Zt (fun v=>ZcU v.1 v.2.1 v.2.2.1) (k0,(0:Int),a0,())
def Zz6:Ctr:=⟨[.back (.ol 72 (ZiZ)),.dat (.int .i64)],[.dat (.int .i64)],fun a K=>splitK a fun a0 a=>splitK a fun k0 a=>YJ (Ze0 a0 k0) fun r=>K (r.1,()) (r.2,())⟩
def Zby (a0:Za) (k0:Int):Option (Int×Za) :=
 (Zac (Za.Library a0) k0).bind fun markLibrary0 =>
 (ZaR (Za.Design a0) markLibrary0.fst).bind fun markDesign0 =>
 (Ze0 (Za.Zy a0) markDesign0.fst).bind fun markWireS0 =>
 some (markWireS0.fst,(markLibrary0.snd,markDesign0.snd,markWireS0.snd,()))
def Zz2:Ctr:=⟨[.back (Zfd),.dat (.int .i64)],[.dat (.int .i64)],fun a K=>splitK a fun a0 a=>splitK a fun k0 a=>YJ (Zby a0 k0) fun r=>K (r.1,()) (r.2,())⟩
def Zcj (a0:Zo) (k0:Int):Option (Int×Zo) :=
 (Yg (Zo.Parent a0) k0).bind fun markInt64S0 =>
 (Yg (Zo.Res a0) markInt64S0.fst).bind fun markInt64S1 =>
 (Yg (Zo.Cap a0) markInt64S1.fst).bind fun markInt64S2 =>
 (Yg (Zo.Zfj a0) markInt64S2.fst).bind fun markInt64S3 =>
 some (markInt64S3.fst,(markInt64S0.snd,markInt64S1.snd,markInt64S2.snd,markInt64S3.snd,()))
def ZzZ:Ctr:=⟨[.back (ZiZ),.dat (.int .i64)],[.dat (.int .i64)],fun a K=>splitK a fun a0 a=>splitK a fun k0 a=>YJ (Zcj a0 k0) fun r=>K (r.1,()) (r.2,())⟩
def Zcp (a0:Zg) (k0:Int):Option (Int×Zg) :=
 (Zcj (Zg.Zet a0) k0).bind fun markWire0 =>
 some (markWire0.fst,(Zg.Kind a0,Zg.Place a0,Zg.Cell a0,Zg.Net a0,Zg.Node a0,Zg.Name a0,markWire0.snd,()))
def ZAi:Ctr:=⟨[.back (Zx0),.dat (.int .i64)],[.dat (.int .i64)],fun a K=>splitK a fun a0 a=>splitK a fun k0 a=>YJ (Zcp a0 k0) fun r=>K (r.1,()) (r.2,())⟩
def VX (k1:Int) (i0:Int) (l0:List Bool):Option ((Int×Int×(List Bool)×Unit) ⊕ (Int×(List Bool))) :=
 if i0<(↑(List.length l0):Int) then
 (atI l0 i0).bind fun x0 =>
 some (.inl (IntKind.i64.wrap (k1+1),IntKind.i64.wrap (i0+1),List.set l0 (Int.toNat i0) (Decidable.decide (Int.tmod k1 3=0)),()))
 else
 some (.inr (k1,l0))
def Zbu (a0:List Bool) (k0:Int):Option (Int×(List Bool)) :=
 Zt (fun v=>VX v.1 v.2.1 v.2.2.1) (k0,(0:Int),a0,())
def ZAg:Ctr:=⟨[.back (.ol 4 (.flat (.bool))),.dat (.int .i64)],[.dat (.int .i64)],fun a K=>splitK a fun a0 a=>splitK a fun k0 a=>YJ (Zbu a0 k0) fun r=>K (r.1,()) (r.2,())⟩
def VT (k1:Int) (i0:Int) (l0:List Yh):Option ((Int×Int×(List Yh)×Unit) ⊕ (Int×(List Yh))) :=
 if i0<(↑(List.length l0):Int) then
 (atI l0 i0).bind fun x0 =>
 (atI (List.set l0 (Int.toNat i0) (k1,x0.snd)) i0).bind fun x1 =>
 some (.inl (IntKind.i64.wrap (IntKind.i64.wrap (k1+1)+1),IntKind.i64.wrap (i0+1),List.set (List.set l0 (Int.toNat i0) (k1,x0.snd)) (Int.toNat i0) (Yh.Early x1,IntKind.i64.wrap (k1+1),()),()))
 else
 some (.inr (k1,l0))
def ZaK (a0:List Yh) (k0:Int):Option (Int×(List Yh)) :=
 Zt (fun v=>VT v.1 v.2.1 v.2.2.1) (k0,(0:Int),a0,())
def ZzR:Ctr:=⟨[.back (.ol 158 (.flat (Xj))),.dat (.int .i64)],[.dat (.int .i64)],fun a K=>splitK a fun a0 a=>splitK a fun k0 a=>YJ (ZaK a0 k0) fun r=>K (r.1,()) (r.2,())⟩
def JR (a0:Zn) (k0:Int):Option (Int×Zn) :=
 (Zbu (Zn.Reached a0) k0).bind fun markBoolS0 =>
 (ZaK (Zn.Y7 a0) markBoolS0.fst).bind fun markSpanS0 =>
 (ZaK (Zn.ZbU a0) markSpanS0.fst).bind fun markSpanS1 =>
 some (markSpanS1.fst,(markBoolS0.snd,markSpanS0.snd,markSpanS1.snd,()))
def ZAt:Ctr:=⟨[.back (Zib),.dat (.int .i64)],[.dat (.int .i64)],fun a K=>splitK a fun a0 a=>splitK a fun k0 a=>YJ (JR a0 k0) fun r=>K (r.1,()) (r.2,())⟩
def QJ (a0:List Bool) (k1:Int) (i0:Int):Option ((Int×Int×Unit) ⊕ Int) :=
 if i0<(↑(List.length a0):Int) then
 (atI a0 i0).bind fun x0 =>
 if (x0 == Decidable.decide (Int.tmod k1 3=0))=true then
 some (.inl (IntKind.i64.wrap (k1+1),IntKind.i64.wrap (i0+1),()))
 else
 some (.inr (-1))
 else
 some (.inr k1)
def ZbH (a0:List Bool) (k0:Int):Option Int :=
 Zt (fun v=>QJ a0 v.1 v.2.1) (k0,(0:Int),())
def ZzV:Ctr:=D2 (.sl (.bool)) (.int .i64) (.int .i64) ZbH
def ZaO (a0:List Yh) (k1:Int) (i0:Int):Option ((Int×Int×Unit) ⊕ Int) :=
 if i0<(↑(List.length a0):Int) then
 (atI a0 i0).bind fun x0 =>
 if Yh.Early x0=k1 then
 if Yh.Late x0=IntKind.i64.wrap (k1+1) then
 some (.inl (IntKind.i64.wrap (IntKind.i64.wrap (k1+1)+1),IntKind.i64.wrap (i0+1),()))
 else
 some (.inr (-1))
 else
 some (.inr (-1))
 else
 some (.inr k1)
def Zc5 (a0:List Yh) (k0:Int):Option Int :=
 Zt (fun v=>ZaO a0 v.1 v.2.1) (k0,(0:Int),())
def ZAx:Ctr:=D2 (.sl (Xj)) (.int .i64) (.int .i64) Zc5
def ZaW (a0:Zn) (k0:Int):Option Int :=
 (ZbH (Zn.Reached a0) k0).bind fun heldBoolS0 =>
 if heldBoolS0<0 then
 some (-1)
 else
 (Zc5 (Zn.Y7 a0) heldBoolS0).bind fun heldSpanS0 =>
 if heldSpanS0<0 then
 some (-1)
 else
 (Zc5 (Zn.ZbU a0) heldSpanS0).bind fun heldSpanS1 =>
 if heldSpanS1<0 then
 some (-1)
 else
 some heldSpanS1
def Zz0:Ctr:=D2 (YB) (.int .i64) (.int .i64) ZaW
def QD (a0:Za) (a1:Zg) (a2:Zn):Option Bool :=
 (Za8 a0 1048576).bind fun szBlock0 =>
 if szBlock0<0 then
 some Bool.true
 else
 (Zb5 a1 szBlock0).bind fun szEdit0 =>
 if szEdit0<0 then
 some Bool.true
 else
 (Zax a2 szEdit0).bind fun szTiming0 =>
 if szTiming0<0 then
 some Bool.true
 else
 (ZdK a0).bind fun toBlock0 =>
 (Zer a1).bind fun toEdit0 =>
 (Zci a2).bind fun toTiming0 =>
 (Zag toBlock0 toEdit0 toTiming0).bind fun TimingAfter0 =>
 (Zaf toBlock0 toEdit0 toTiming0).bind fun TimingAfter1 =>
 (Zbf TimingAfter1.fst TimingAfter0.fst).bind fun eqTiming0 =>
 if eqTiming0=true then
 if TimingAfter1.snd=TimingAfter0.snd then
 (ZdJ toBlock0 toBlock0).bind fun eqBlock0 =>
 if eqBlock0=true then
 (Zhd toEdit0 toEdit0).bind fun eqEdit0 =>
 if eqEdit0=true then
 (Zbf toTiming0 toTiming0).bind fun eqTiming1 =>
 if eqTiming1=true then
 (Zby toBlock0 1).bind fun markBlock0 =>
 (Zcp toEdit0 markBlock0.fst).bind fun markEdit0 =>
 (JR toTiming0 markEdit0.fst).bind fun markTiming0 =>
 if markTiming0.fst<0 then
 some Bool.false
 else
 if eqTiming0=true then
 if TimingAfter1.snd=TimingAfter0.snd then
 (JR TimingAfter1.fst 1).bind fun markTiming1 =>
 (ZaW markTiming1.snd 1).bind fun heldTiming0 =>
 if heldTiming0<0 then
 some Bool.false
 else
 if heldTiming0=markTiming1.fst then
 if eqTiming0=true then
 if TimingAfter1.snd=TimingAfter0.snd then
 if heldTiming0<0 then
 some Bool.false
 else
 if heldTiming0=markTiming1.fst then
 some Bool.true
 else
 some Bool.false
 else
 some Bool.false
 else
 some Bool.false
 else
 some Bool.false
 else
 some Bool.false
 else
 some Bool.false
 else
 some Bool.false
 else
 some Bool.false
 else
 some Bool.false
 else
 some Bool.false
 else
 some Bool.false
def Zc4:Ctr:=⟨[.dat (YG),.dat (QW),.dat (YB)],[.dat (.bool)],fun a K=>splitK a fun a0 a=>splitK a fun a1 a=>splitK a fun a2 a=>YJ (QD a0 a1 a2) fun r=>K (r,()) ()⟩
end
end Go.Proofs.YtfndhpjedmopdaaGreatDoor
