/-
 The models of the functions and their contracts. Printed by program.
-/
import Derived.Test.YtehkanadahncgaaGreatDoorSxTab
import Derived.Test.YtehkanadahncgaaGreatDoorSxS0
import Derived.Test.YtehkanadahncgaaGreatDoorSxLib
namespace Go.Proofs.YtehkanadahncgaaGreatDoor
open Go Go.Sx
set_option maxRecDepth 100000
set_option maxHeartbeats 3200000
set_option linter.unusedVariables false
set_option linter.unusedSimpArgs false
noncomputable def Zbr (a0:Yu) (left0:Int):Option Int :=
 if IntKind.i64.wrap (left0-(↑(List.length (Yu.Name a0)):Int))<0 then
 some (-1)
 else
 some (IntKind.i64.wrap (left0-(↑(List.length (Yu.Name a0)):Int)))
noncomputable def c0:Ctr:=⟨[.dat (V9),.dat (.int .i64)],[.dat (.int .i64)],fun a K=>splitK a fun a0 a=>splitK a fun left0 a=>ZB (Zbr a0 left0) fun r=>K (r,()) ()⟩
noncomputable def Zek (a0:List Yu) (left1:Int) (i0:Int):Option ((Int×Int×Unit) ⊕ Int) :=
 if i0<(↑(List.length a0):Int) then
 (atI a0 i0).bind fun x0 =>
 (Zbr x0 left1).bind fun szPin0 =>
 if szPin0<0 then
 some (.inr (-1))
 else
 some (.inl (szPin0,IntKind.i64.wrap (i0+1),()))
 else
 some (.inr left1)
noncomputable def ZbM (a0:List Yu) (left0:Int):Option Int :=
 if IntKind.i64.wrap (left0-(↑(List.length a0):Int))<0 then
 some (-1)
 else
 Zw (fun v=>Zek a0 v.1 v.2.1) (IntKind.i64.wrap (left0-(↑(List.length a0):Int)),(0:Int),())
noncomputable def c1:Ctr:=⟨[.dat (.sl (V9)),.dat (.int .i64)],[.dat (.int .i64)],fun a K=>splitK a fun a0 a=>splitK a fun left0 a=>ZB (ZbM a0 left0) fun r=>K (r,()) ()⟩
noncomputable def YV (a0:List Int) (left0:Int):Option Int :=
 if IntKind.i64.wrap (left0-(↑(List.length a0):Int))<0 then
 some (-1)
 else
 some (IntKind.i64.wrap (left0-(↑(List.length a0):Int)))
noncomputable def c2:Ctr:=⟨[.dat (.sl (.int .i64)),.dat (.int .i64)],[.dat (.int .i64)],fun a K=>splitK a fun a0 a=>splitK a fun left0 a=>ZB (YV a0 left0) fun r=>K (r,()) ()⟩
noncomputable def Je (a0:Zr) (left0:Int):Option Int :=
 (YV (Zr.Zfk a0) left0).bind fun szInt64S0 =>
 if szInt64S0<0 then
 some (-1)
 else
 (YV (Zr.Loads a0) szInt64S0).bind fun szInt64S1 =>
 if szInt64S1<0 then
 some (-1)
 else
 (YV (Zr.Values a0) szInt64S1).bind fun szInt64S2 =>
 if szInt64S2<0 then
 some (-1)
 else
 some szInt64S2
noncomputable def c3:Ctr:=⟨[.dat (Yf),.dat (.int .i64)],[.dat (.int .i64)],fun a K=>splitK a fun a0 a=>splitK a fun left0 a=>ZB (Je a0 left0) fun r=>K (r,()) ()⟩
noncomputable def ZcN (a0:List Zr) (left1:Int) (i0:Int):Option ((Int×Int×Unit) ⊕ Int) :=
 if i0<(↑(List.length a0):Int) then
 (atI a0 i0).bind fun x0 =>
 (Je x0 left1).bind fun szTable0 =>
 if szTable0<0 then
 some (.inr (-1))
 else
 some (.inl (szTable0,IntKind.i64.wrap (i0+1),()))
 else
 some (.inr left1)
noncomputable def Ja (a0:List Zr) (left0:Int):Option Int :=
 if IntKind.i64.wrap (left0-(↑(List.length a0):Int))<0 then
 some (-1)
 else
 Zw (fun v=>ZcN a0 v.1 v.2.1) (IntKind.i64.wrap (left0-(↑(List.length a0):Int)),(0:Int),())
noncomputable def c4:Ctr:=⟨[.dat (.sl (Yf)),.dat (.int .i64)],[.dat (.int .i64)],fun a K=>splitK a fun a0 a=>splitK a fun left0 a=>ZB (Ja a0 left0) fun r=>K (r,()) ()⟩
noncomputable def Zbw (a0:ZM) (left0:Int):Option Int :=
 (Ja (ZM.Delay a0) left0).bind fun szTableS0 =>
 if szTableS0<0 then
 some (-1)
 else
 (Ja (ZM.Zhn a0) szTableS0).bind fun szTableS1 =>
 if szTableS1<0 then
 some (-1)
 else
 some szTableS1
noncomputable def c5:Ctr:=⟨[.dat (Zaw),.dat (.int .i64)],[.dat (.int .i64)],fun a K=>splitK a fun a0 a=>splitK a fun left0 a=>ZB (Zbw a0 left0) fun r=>K (r,()) ()⟩
noncomputable def Zej (a0:List ZM) (left1:Int) (i0:Int):Option ((Int×Int×Unit) ⊕ Int) :=
 if i0<(↑(List.length a0):Int) then
 (atI a0 i0).bind fun x0 =>
 (Zbw x0 left1).bind fun szArc0 =>
 if szArc0<0 then
 some (.inr (-1))
 else
 some (.inl (szArc0,IntKind.i64.wrap (i0+1),()))
 else
 some (.inr left1)
noncomputable def ZbU (a0:List ZM) (left0:Int):Option Int :=
 if IntKind.i64.wrap (left0-(↑(List.length a0):Int))<0 then
 some (-1)
 else
 Zw (fun v=>Zej a0 v.1 v.2.1) (IntKind.i64.wrap (left0-(↑(List.length a0):Int)),(0:Int),())
noncomputable def c6:Ctr:=⟨[.dat (.sl (Zaw)),.dat (.int .i64)],[.dat (.int .i64)],fun a K=>splitK a fun a0 a=>splitK a fun left0 a=>ZB (ZbU a0 left0) fun r=>K (r,()) ()⟩
noncomputable def ZaD (a0:Zh) (left0:Int):Option Int :=
 if IntKind.i64.wrap (left0-(↑(List.length (Zh.Name a0)):Int))<0 then
 some (-1)
 else
 (ZbM (Zh.Yy a0) (IntKind.i64.wrap (left0-(↑(List.length (Zh.Name a0)):Int)))).bind fun szPinS0 =>
 if szPinS0<0 then
 some (-1)
 else
 (ZbU (Zh.ZaS a0) szPinS0).bind fun szArcS0 =>
 if szArcS0<0 then
 some (-1)
 else
 (YV (Zh.Truth a0) szArcS0).bind fun szInt64S0 =>
 if szInt64S0<0 then
 some (-1)
 else
 some szInt64S0
noncomputable def c7:Ctr:=⟨[.dat (YL),.dat (.int .i64)],[.dat (.int .i64)],fun a K=>splitK a fun a0 a=>splitK a fun left0 a=>ZB (ZaD a0 left0) fun r=>K (r,()) ()⟩
noncomputable def ZdM (a0:List Zh) (left1:Int) (i0:Int):Option ((Int×Int×Unit) ⊕ Int) :=
 if i0<(↑(List.length a0):Int) then
 (atI a0 i0).bind fun x0 =>
 (ZaD x0 left1).bind fun szCell0 =>
 if szCell0<0 then
 some (.inr (-1))
 else
 some (.inl (szCell0,IntKind.i64.wrap (i0+1),()))
 else
 some (.inr left1)
noncomputable def ZaW (a0:List Zh) (left0:Int):Option Int :=
 if IntKind.i64.wrap (left0-(↑(List.length a0):Int))<0 then
 some (-1)
 else
 Zw (fun v=>ZdM a0 v.1 v.2.1) (IntKind.i64.wrap (left0-(↑(List.length a0):Int)),(0:Int),())
noncomputable def c8:Ctr:=⟨[.dat (.sl (YL)),.dat (.int .i64)],[.dat (.int .i64)],fun a K=>splitK a fun a0 a=>splitK a fun left0 a=>ZB (ZaW a0 left0) fun r=>K (r,()) ()⟩
noncomputable def Ji (a0:Zl) (left0:Int):Option Int :=
 (ZaW (Zl.Cells a0) left0).bind fun szCellS0 =>
 if szCellS0<0 then
 some (-1)
 else
 some szCellS0
noncomputable def c9:Ctr:=⟨[.dat (Z0),.dat (.int .i64)],[.dat (.int .i64)],fun a K=>splitK a fun a0 a=>splitK a fun left0 a=>ZB (Ji a0 left0) fun r=>K (r,()) ()⟩
noncomputable def X0 (a0:Zd) (left0:Int):Option Int :=
 if IntKind.i64.wrap (left0-(↑(List.length (Zd.Name a0)):Int))<0 then
 some (-1)
 else
 (YV (Zd.ZQ a0) (IntKind.i64.wrap (left0-(↑(List.length (Zd.Name a0)):Int)))).bind fun szInt64S0 =>
 if szInt64S0<0 then
 some (-1)
 else
 some szInt64S0
noncomputable def c10:Ctr:=⟨[.dat (Zv),.dat (.int .i64)],[.dat (.int .i64)],fun a K=>splitK a fun a0 a=>splitK a fun left0 a=>ZB (X0 a0 left0) fun r=>K (r,()) ()⟩
noncomputable def ZbE (a0:List Zd) (left1:Int) (i0:Int):Option ((Int×Int×Unit) ⊕ Int) :=
 if i0<(↑(List.length a0):Int) then
 (atI a0 i0).bind fun x0 =>
 (X0 x0 left1).bind fun szInstance0 =>
 if szInstance0<0 then
 some (.inr (-1))
 else
 some (.inl (szInstance0,IntKind.i64.wrap (i0+1),()))
 else
 some (.inr left1)
noncomputable def QX (a0:List Zd) (left0:Int):Option Int :=
 if IntKind.i64.wrap (left0-(↑(List.length a0):Int))<0 then
 some (-1)
 else
 Zw (fun v=>ZbE a0 v.1 v.2.1) (IntKind.i64.wrap (left0-(↑(List.length a0):Int)),(0:Int),())
noncomputable def c11:Ctr:=⟨[.dat (.sl (Zv)),.dat (.int .i64)],[.dat (.int .i64)],fun a K=>splitK a fun a0 a=>splitK a fun left0 a=>ZB (QX a0 left0) fun r=>K (r,()) ()⟩
noncomputable def XI (a0:List (List UInt8)) (left1:Int) (i0:Int):Option ((Int×Int×Unit) ⊕ Int) :=
 if i0<(↑(List.length a0):Int) then
 (atI a0 i0).bind fun x0 =>
 if IntKind.i64.wrap (left1-(↑(List.length x0):Int))<0 then
 some (.inr (-1))
 else
 some (.inl (IntKind.i64.wrap (left1-(↑(List.length x0):Int)),IntKind.i64.wrap (i0+1),()))
 else
 some (.inr left1)
noncomputable def Jj (a0:List (List UInt8)) (left0:Int):Option Int :=
 if IntKind.i64.wrap (left0-(↑(List.length a0):Int))<0 then
 some (-1)
 else
 Zw (fun v=>XI a0 v.1 v.2.1) (IntKind.i64.wrap (left0-(↑(List.length a0):Int)),(0:Int),())
noncomputable def c12:Ctr:=⟨[.dat (.sl (.str)),.dat (.int .i64)],[.dat (.int .i64)],fun a K=>splitK a fun a0 a=>splitK a fun left0 a=>ZB (Jj a0 left0) fun r=>K (r,()) ()⟩
noncomputable def ZaE (a0:ZU) (left0:Int):Option Int :=
 if IntKind.i64.wrap (left0-(↑(List.length (ZU.Name a0)):Int))<0 then
 some (-1)
 else
 some (IntKind.i64.wrap (left0-(↑(List.length (ZU.Name a0)):Int)))
noncomputable def c13:Ctr:=⟨[.dat (Xk),.dat (.int .i64)],[.dat (.int .i64)],fun a K=>splitK a fun a0 a=>splitK a fun left0 a=>ZB (ZaE a0 left0) fun r=>K (r,()) ()⟩
noncomputable def Zdp (a0:List ZU) (left1:Int) (i0:Int):Option ((Int×Int×Unit) ⊕ Int) :=
 if i0<(↑(List.length a0):Int) then
 (atI a0 i0).bind fun x0 =>
 (ZaE x0 left1).bind fun szPort0 =>
 if szPort0<0 then
 some (.inr (-1))
 else
 some (.inl (szPort0,IntKind.i64.wrap (i0+1),()))
 else
 some (.inr left1)
noncomputable def Za0 (a0:List ZU) (left0:Int):Option Int :=
 if IntKind.i64.wrap (left0-(↑(List.length a0):Int))<0 then
 some (-1)
 else
 Zw (fun v=>Zdp a0 v.1 v.2.1) (IntKind.i64.wrap (left0-(↑(List.length a0):Int)),(0:Int),())
noncomputable def c14:Ctr:=⟨[.dat (.sl (Xk)),.dat (.int .i64)],[.dat (.int .i64)],fun a K=>splitK a fun a0 a=>splitK a fun left0 a=>ZB (Za0 a0 left0) fun r=>K (r,()) ()⟩
noncomputable def Zak (a0:Za) (left0:Int):Option Int :=
 (QX (Za.Instances a0) left0).bind fun szInstanceS0 =>
 if szInstanceS0<0 then
 some (-1)
 else
 (Jj (Za.ZQ a0) szInstanceS0).bind fun szStringS0 =>
 if szStringS0<0 then
 some (-1)
 else
 (Za0 (Za.Z5 a0) szStringS0).bind fun szPortS0 =>
 if szPortS0<0 then
 some (-1)
 else
 some szPortS0
noncomputable def c15:Ctr:=⟨[.dat (Z8),.dat (.int .i64)],[.dat (.int .i64)],fun a K=>splitK a fun a0 a=>splitK a fun left0 a=>ZB (Zak a0 left0) fun r=>K (r,()) ()⟩
noncomputable def JE (a0:Zn) (left0:Int):Option Int :=
 (YV (Zn.Parent a0) left0).bind fun szInt64S0 =>
 if szInt64S0<0 then
 some (-1)
 else
 (YV (Zn.Res a0) szInt64S0).bind fun szInt64S1 =>
 if szInt64S1<0 then
 some (-1)
 else
 (YV (Zn.Cap a0) szInt64S1).bind fun szInt64S2 =>
 if szInt64S2<0 then
 some (-1)
 else
 (YV (Zn.Zfp a0) szInt64S2).bind fun szInt64S3 =>
 if szInt64S3<0 then
 some (-1)
 else
 some szInt64S3
noncomputable def c16:Ctr:=⟨[.dat (YJ),.dat (.int .i64)],[.dat (.int .i64)],fun a K=>splitK a fun a0 a=>splitK a fun left0 a=>ZB (JE a0 left0) fun r=>K (r,()) ()⟩
noncomputable def Zdl (a0:List Zn) (left1:Int) (i0:Int):Option ((Int×Int×Unit) ⊕ Int) :=
 if i0<(↑(List.length a0):Int) then
 (atI a0 i0).bind fun x0 =>
 (JE x0 left1).bind fun szWire0 =>
 if szWire0<0 then
 some (.inr (-1))
 else
 some (.inl (szWire0,IntKind.i64.wrap (i0+1),()))
 else
 some (.inr left1)
noncomputable def ZaU (a0:List Zn) (left0:Int):Option Int :=
 if IntKind.i64.wrap (left0-(↑(List.length a0):Int))<0 then
 some (-1)
 else
 Zw (fun v=>Zdl a0 v.1 v.2.1) (IntKind.i64.wrap (left0-(↑(List.length a0):Int)),(0:Int),())
noncomputable def c17:Ctr:=⟨[.dat (.sl (YJ)),.dat (.int .i64)],[.dat (.int .i64)],fun a K=>splitK a fun a0 a=>splitK a fun left0 a=>ZB (ZaU a0 left0) fun r=>K (r,()) ()⟩
noncomputable def ZaV (a0:Zb) (left0:Int):Option Int :=
 (Ji (Zb.Library a0) left0).bind fun szLibrary0 =>
 if szLibrary0<0 then
 some (-1)
 else
 (Zak (Zb.Design a0) szLibrary0).bind fun szDesign0 =>
 if szDesign0<0 then
 some (-1)
 else
 (ZaU (Zb.Zz a0) szDesign0).bind fun szWireS0 =>
 if szWireS0<0 then
 some (-1)
 else
 some szWireS0
noncomputable def c18:Ctr:=⟨[.dat (Yr),.dat (.int .i64)],[.dat (.int .i64)],fun a K=>splitK a fun a0 a=>splitK a fun left0 a=>ZB (ZaV a0 left0) fun r=>K (r,()) ()⟩
noncomputable def ZbT (a0:Zf) (left0:Int):Option Int :=
 if IntKind.i64.wrap (left0-(↑(List.length (Zf.Name a0)):Int))<0 then
 some (-1)
 else
 (JE (Zf.Zeq a0) (IntKind.i64.wrap (left0-(↑(List.length (Zf.Name a0)):Int)))).bind fun szWire0 =>
 if szWire0<0 then
 some (-1)
 else
 some szWire0
noncomputable def c19:Ctr:=⟨[.dat (VT),.dat (.int .i64)],[.dat (.int .i64)],fun a K=>splitK a fun a0 a=>splitK a fun left0 a=>ZB (ZbT a0 left0) fun r=>K (r,()) ()⟩
noncomputable def Zd0 (a0:Yu):Option Yu :=
 some a0
noncomputable def c20:Ctr:=⟨[.dat (V9)],[.dat (V9)],fun a K=>splitK a fun a0 a=>ZB (Zd0 a0) fun r=>K (r,()) ()⟩
noncomputable def Zeg (a0:List Yu) (i0:Int) (l0:List (List UInt8×Int×Int×Bool×Unit)):Option ((Int×(List (List UInt8×Int×Int×Bool×Unit))×Unit) ⊕ List Yu) :=
 if i0<(↑(List.length a0):Int) then
 (atI a0 i0).bind fun x0 =>
 (Zd0 x0).bind fun toPin0 =>
 (atI l0 i0).bind fun x1 =>
 some (.inl (IntKind.i64.wrap (i0+1),List.set l0 (Int.toNat i0) toPin0,()))
 else
 some (.inr l0)
noncomputable def Zel (a0:List Yu):Option (List Yu) :=
 ZA ((0:Int)≤(↑(List.length a0):Int)) <|
 ZA ((↑(List.length a0):Int)≤(↑(List.length a0):Int)) <|
 ZA ((↑(List.length a0):Int)≤(4611686018427387904:Int)) <|
 ZA ((↑(40:Nat):Int)*(↑(List.length a0):Int)≤(281474976710656:Int)) <|
 Zw (fun v=>Zeg a0 v.1 v.2.1) ((0:Int),List.replicate (Int.toNat (↑(List.length a0):Int)) (([]:List UInt8),(0:Int),(0:Int),Bool.false,()),())
noncomputable def c21:Ctr:=⟨[.dat (.sl (V9))],[.own (.ol 218 (.flat (V9)))],fun a K=>splitK a fun a0 a=>ZB (Zel a0) fun r=>K (r,()) ()⟩
noncomputable def ZcR (a0:List Int) (i0:Int) (l0:List Int):Option ((Int×(List Int)×Unit) ⊕ List Int) :=
 if i0<(↑(List.length a0):Int) then
 (atI a0 i0).bind fun x0 =>
 (atI l0 i0).bind fun x1 =>
 some (.inl (IntKind.i64.wrap (i0+1),List.set l0 (Int.toNat i0) x0,()))
 else
 some (.inr l0)
noncomputable def Xi (a0:List Int):Option (List Int) :=
 ZA ((0:Int)≤(↑(List.length a0):Int)) <|
 ZA ((↑(List.length a0):Int)≤(↑(List.length a0):Int)) <|
 ZA ((↑(List.length a0):Int)≤(4611686018427387904:Int)) <|
 ZA ((↑(8:Nat):Int)*(↑(List.length a0):Int)≤(281474976710656:Int)) <|
 Zw (fun v=>ZcR a0 v.1 v.2.1) ((0:Int),List.replicate (Int.toNat (↑(List.length a0):Int)) (0:Int),())
noncomputable def c22:Ctr:=⟨[.dat (.sl (.int .i64))],[.own (.ol 2 (.flat (.int .i64)))],fun a K=>splitK a fun a0 a=>ZB (Xi a0) fun r=>K (r,()) ()⟩
noncomputable def ZbY (a0:Zr):Option Zr :=
 (Xi (Zr.Zfk a0)).bind fun toInt64S0 =>
 (Xi (Zr.Loads a0)).bind fun toInt64S1 =>
 (Xi (Zr.Values a0)).bind fun toInt64S2 =>
 some (toInt64S0,toInt64S1,toInt64S2,())
noncomputable def c23:Ctr:=⟨[.dat (Yf)],[.own (ZeB)],fun a K=>splitK a fun a0 a=>ZB (ZbY a0) fun r=>K (r,()) ()⟩
noncomputable def ZcK (a0:List Zr) (i0:Int) (l0:List Zr):Option ((Int×(List Zr)×Unit) ⊕ List Zr) :=
 if i0<(↑(List.length a0):Int) then
 (atI a0 i0).bind fun x0 =>
 (ZbY x0).bind fun toTable0 =>
 (atI l0 i0).bind fun x1 =>
 some (.inl (IntKind.i64.wrap (i0+1),List.set l0 (Int.toNat i0) toTable0,()))
 else
 some (.inr l0)
noncomputable def Za6 (a0:List Zr):Option (List Zr) :=
 ZA ((0:Int)≤(↑(List.length a0):Int)) <|
 ZA ((↑(List.length a0):Int)≤(↑(List.length a0):Int)) <|
 ZA ((↑(List.length a0):Int)≤(4611686018427387904:Int)) <|
 ZA ((↑(72:Nat):Int)*(↑(List.length a0):Int)≤(281474976710656:Int)) <|
 Zw (fun v=>ZcK a0 v.1 v.2.1) ((0:Int),List.replicate (Int.toNat (↑(List.length a0):Int)) (([]:List Int),([]:List Int),([]:List Int),()),())
noncomputable def c24:Ctr:=⟨[.dat (.sl (Yf))],[.own (.ol 263 (ZeB))],fun a K=>splitK a fun a0 a=>ZB (Za6 a0) fun r=>K (r,()) ()⟩
noncomputable def Zd1 (a0:ZM):Option ZM :=
 (Za6 (ZM.Delay a0)).bind fun toTableS0 =>
 (Za6 (ZM.Zhn a0)).bind fun toTableS1 =>
 some (ZM.Kind a0,ZM.From a0,ZM.To a0,ZM.Zb5 a0,toTableS0,toTableS1,())
noncomputable def c25:Ctr:=⟨[.dat (Zaw)],[.own (ZrA)],fun a K=>splitK a fun a0 a=>ZB (Zd1 a0) fun r=>K (r,()) ()⟩
noncomputable def Zef (a0:List ZM) (i0:Int) (l0:List ZM):Option ((Int×(List ZM)×Unit) ⊕ List ZM) :=
 if i0<(↑(List.length a0):Int) then
 (atI a0 i0).bind fun x0 =>
 (Zd1 x0).bind fun toArc0 =>
 (atI l0 i0).bind fun x1 =>
 some (.inl (IntKind.i64.wrap (i0+1),List.set l0 (Int.toNat i0) toArc0,()))
 else
 some (.inr l0)
noncomputable def ZdZ (a0:List ZM):Option (List ZM) :=
 ZA ((0:Int)≤(↑(List.length a0):Int)) <|
 ZA ((↑(List.length a0):Int)≤(↑(List.length a0):Int)) <|
 ZA ((↑(List.length a0):Int)≤(4611686018427387904:Int)) <|
 ZA ((↑(80:Nat):Int)*(↑(List.length a0):Int)≤(281474976710656:Int)) <|
 Zw (fun v=>Zef a0 v.1 v.2.1) ((0:Int),List.replicate (Int.toNat (↑(List.length a0):Int)) ((0:Int),(0:Int),(0:Int),(0:Int),([]:List Zr),([]:List Zr),()),())
noncomputable def c26:Ctr:=⟨[.dat (.sl (Zaw))],[.own (.ol 235 (ZrA))],fun a K=>splitK a fun a0 a=>ZB (ZdZ a0) fun r=>K (r,()) ()⟩
noncomputable def ZcO (a0:Zh):Option Zh :=
 (Zel (Zh.Yy a0)).bind fun toPinS0 =>
 (ZdZ (Zh.ZaS a0)).bind fun toArcS0 =>
 (Xi (Zh.Truth a0)).bind fun toInt64S0 =>
 some (Zh.Name a0,Zh.Kind a0,toPinS0,toArcS0,toInt64S0,a0.snd.snd.snd.snd.snd)
noncomputable def c27:Ctr:=⟨[.dat (YL)],[.own (Zlp)],fun a K=>splitK a fun a0 a=>ZB (ZcO a0) fun r=>K (r,()) ()⟩
noncomputable def Zdo (a0:List Zh) (i0:Int) (l0:List Zh):Option ((Int×(List Zh)×Unit) ⊕ List Zh) :=
 if i0<(↑(List.length a0):Int) then
 (atI a0 i0).bind fun x0 =>
 (ZcO x0).bind fun toCell0 =>
 (atI l0 i0).bind fun x1 =>
 some (.inl (IntKind.i64.wrap (i0+1),List.set l0 (Int.toNat i0) toCell0,()))
 else
 some (.inr l0)
noncomputable def Zda (a0:List Zh):Option (List Zh) :=
 ZA ((0:Int)≤(↑(List.length a0):Int)) <|
 ZA ((↑(List.length a0):Int)≤(↑(List.length a0):Int)) <|
 ZA ((↑(List.length a0):Int)≤(4611686018427387904:Int)) <|
 ZA ((↑(112:Nat):Int)*(↑(List.length a0):Int)≤(281474976710656:Int)) <|
 Zw (fun v=>Zdo a0 v.1 v.2.1) ((0:Int),List.replicate (Int.toNat (↑(List.length a0):Int)) (([]:List UInt8),(0:Int),([]:List Yu),([]:List ZM),([]:List Int),(0:Int),(0:Int),()),())
noncomputable def c28:Ctr:=⟨[.dat (.sl (YL))],[.own (.ol 169 (Zlp))],fun a K=>splitK a fun a0 a=>ZB (Zda a0) fun r=>K (r,()) ()⟩
noncomputable def Zbt (a0:Zl):Option Zl :=
 (Zda (Zl.Cells a0)).bind fun toCellS0 =>
 some (toCellS0,())
noncomputable def c29:Ctr:=⟨[.dat (Z0)],[.own (ZjB)],fun a K=>splitK a fun a0 a=>ZB (Zbt a0) fun r=>K (r,()) ()⟩
noncomputable def JD (a0:Zd):Option Zd :=
 (Xi (Zd.ZQ a0)).bind fun toInt64S0 =>
 some (Zd.Name a0,Zd.Cell a0,toInt64S0,())
noncomputable def c30:Ctr:=⟨[.dat (Zv)],[.own (ZbN)],fun a K=>splitK a fun a0 a=>ZB (JD a0) fun r=>K (r,()) ()⟩
noncomputable def Zbz (a0:List Zd) (i0:Int) (l0:List Zd):Option ((Int×(List Zd)×Unit) ⊕ List Zd) :=
 if i0<(↑(List.length a0):Int) then
 (atI a0 i0).bind fun x0 =>
 (JD x0).bind fun toInstance0 =>
 (atI l0 i0).bind fun x1 =>
 some (.inl (IntKind.i64.wrap (i0+1),List.set l0 (Int.toNat i0) toInstance0,()))
 else
 some (.inr l0)
noncomputable def J9 (a0:List Zd):Option (List Zd) :=
 ZA ((0:Int)≤(↑(List.length a0):Int)) <|
 ZA ((↑(List.length a0):Int)≤(↑(List.length a0):Int)) <|
 ZA ((↑(List.length a0):Int)≤(4611686018427387904:Int)) <|
 ZA ((↑(48:Nat):Int)*(↑(List.length a0):Int)≤(281474976710656:Int)) <|
 Zw (fun v=>Zbz a0 v.1 v.2.1) ((0:Int),List.replicate (Int.toNat (↑(List.length a0):Int)) (([]:List UInt8),(0:Int),([]:List Int),()),())
noncomputable def c31:Ctr:=⟨[.dat (.sl (Zv))],[.own (.ol 124 (ZbN))],fun a K=>splitK a fun a0 a=>ZB (J9 a0) fun r=>K (r,()) ()⟩
noncomputable def ZcA (a0:List (List UInt8)) (i0:Int) (l0:List (List UInt8)):Option ((Int×(List (List UInt8))×Unit) ⊕ List (List UInt8)) :=
 if i0<(↑(List.length a0):Int) then
 (atI a0 i0).bind fun x0 =>
 (atI l0 i0).bind fun x1 =>
 some (.inl (IntKind.i64.wrap (i0+1),List.set l0 (Int.toNat i0) x0,()))
 else
 some (.inr l0)
noncomputable def Zbq (a0:List (List UInt8)):Option (List (List UInt8)) :=
 ZA ((0:Int)≤(↑(List.length a0):Int)) <|
 ZA ((↑(List.length a0):Int)≤(↑(List.length a0):Int)) <|
 ZA ((↑(List.length a0):Int)≤(4611686018427387904:Int)) <|
 ZA ((↑(16:Nat):Int)*(↑(List.length a0):Int)≤(281474976710656:Int)) <|
 Zw (fun v=>ZcA a0 v.1 v.2.1) ((0:Int),List.replicate (Int.toNat (↑(List.length a0):Int)) (([]:List UInt8)),())
noncomputable def c32:Ctr:=⟨[.dat (.sl (.str))],[.own (.ol 9 (.flat (.str)))],fun a K=>splitK a fun a0 a=>ZB (Zbq a0) fun r=>K (r,()) ()⟩
noncomputable def ZcS (a0:ZU):Option ZU :=
 some a0
noncomputable def c33:Ctr:=⟨[.dat (Xk)],[.dat (Xk)],fun a K=>splitK a fun a0 a=>ZB (ZcS a0) fun r=>K (r,()) ()⟩
noncomputable def ZdG (a0:List ZU) (i0:Int) (l0:List (List UInt8×Int×Int×Unit)):Option ((Int×(List (List UInt8×Int×Int×Unit))×Unit) ⊕ List ZU) :=
 if i0<(↑(List.length a0):Int) then
 (atI a0 i0).bind fun x0 =>
 (ZcS x0).bind fun toPort0 =>
 (atI l0 i0).bind fun x1 =>
 some (.inl (IntKind.i64.wrap (i0+1),List.set l0 (Int.toNat i0) toPort0,()))
 else
 some (.inr l0)
noncomputable def Zc7 (a0:List ZU):Option (List ZU) :=
 ZA ((0:Int)≤(↑(List.length a0):Int)) <|
 ZA ((↑(List.length a0):Int)≤(↑(List.length a0):Int)) <|
 ZA ((↑(List.length a0):Int)≤(4611686018427387904:Int)) <|
 ZA ((↑(32:Nat):Int)*(↑(List.length a0):Int)≤(281474976710656:Int)) <|
 Zw (fun v=>ZdG a0 v.1 v.2.1) ((0:Int),List.replicate (Int.toNat (↑(List.length a0):Int)) (([]:List UInt8),(0:Int),(0:Int),()),())
noncomputable def c34:Ctr:=⟨[.dat (.sl (Xk))],[.own (.ol 178 (.flat (Xk)))],fun a K=>splitK a fun a0 a=>ZB (Zc7 a0) fun r=>K (r,()) ()⟩
noncomputable def Zct (a0:Za):Option Za :=
 (J9 (Za.Instances a0)).bind fun toInstanceS0 =>
 (Zbq (Za.ZQ a0)).bind fun toStringS0 =>
 (Zc7 (Za.Z5 a0)).bind fun toPortS0 =>
 some (toInstanceS0,toStringS0,toPortS0,())
noncomputable def c35:Ctr:=⟨[.dat (Z8)],[.own (Zkz)],fun a K=>splitK a fun a0 a=>ZB (Zct a0) fun r=>K (r,()) ()⟩
noncomputable def ZbQ (a0:Zn):Option Zn :=
 (Xi (Zn.Parent a0)).bind fun toInt64S0 =>
 (Xi (Zn.Res a0)).bind fun toInt64S1 =>
 (Xi (Zn.Cap a0)).bind fun toInt64S2 =>
 (Xi (Zn.Zfp a0)).bind fun toInt64S3 =>
 some (toInt64S0,toInt64S1,toInt64S2,toInt64S3,())
noncomputable def c36:Ctr:=⟨[.dat (YJ)],[.own (Zhu)],fun a K=>splitK a fun a0 a=>ZB (ZbQ a0) fun r=>K (r,()) ()⟩
noncomputable def ZdK (a0:List Zn) (i0:Int) (l0:List Zn):Option ((Int×(List Zn)×Unit) ⊕ List Zn) :=
 if i0<(↑(List.length a0):Int) then
 (atI a0 i0).bind fun x0 =>
 (ZbQ x0).bind fun toWire0 =>
 (atI l0 i0).bind fun x1 =>
 some (.inl (IntKind.i64.wrap (i0+1),List.set l0 (Int.toNat i0) toWire0,()))
 else
 some (.inr l0)
noncomputable def Zc1 (a0:List Zn):Option (List Zn) :=
 ZA ((0:Int)≤(↑(List.length a0):Int)) <|
 ZA ((↑(List.length a0):Int)≤(↑(List.length a0):Int)) <|
 ZA ((↑(List.length a0):Int)≤(4611686018427387904:Int)) <|
 ZA ((↑(96:Nat):Int)*(↑(List.length a0):Int)≤(281474976710656:Int)) <|
 Zw (fun v=>ZdK a0 v.1 v.2.1) ((0:Int),List.replicate (Int.toNat (↑(List.length a0):Int)) (([]:List Int),([]:List Int),([]:List Int),([]:List Int),()),())
noncomputable def c37:Ctr:=⟨[.dat (.sl (YJ))],[.own (.ol 64 (Zhu))],fun a K=>splitK a fun a0 a=>ZB (Zc1 a0) fun r=>K (r,()) ()⟩
noncomputable def Zdh (a0:Zb):Option Zb :=
 (Zbt (Zb.Library a0)).bind fun toLibrary0 =>
 (Zct (Zb.Design a0)).bind fun toDesign0 =>
 (Zc1 (Zb.Zz a0)).bind fun toWireS0 =>
 some (toLibrary0,toDesign0,toWireS0,())
noncomputable def c38:Ctr:=⟨[.dat (Yr)],[.own (ZdW)],fun a K=>splitK a fun a0 a=>ZB (Zdh a0) fun r=>K (r,()) ()⟩
noncomputable def Zes (a0:Zf):Option Zf :=
 (ZbQ (Zf.Zeq a0)).bind fun toWire0 =>
 some (Zf.Kind a0,Zf.Place a0,Zf.Cell a0,Zf.Net a0,Zf.Node a0,Zf.Name a0,toWire0,())
noncomputable def c39:Ctr:=⟨[.dat (VT)],[.own (ZvH)],fun a K=>splitK a fun a0 a=>ZB (Zes a0) fun r=>K (r,()) ()⟩
noncomputable def Zam (s0:List UInt8) (i0:Int):Option ((Int×Unit) ⊕ Bool) :=
 if i0<(↑(List.length s0):Int) then
 (atI s0 i0).bind fun x0 =>
 if 97≤(↑(UInt8.toNat x0):Int) then
 if 48≤(↑(UInt8.toNat x0):Int) then
 if (↑(UInt8.toNat x0):Int)≤122 then
 some (.inl (IntKind.i64.wrap (i0+1),()))
 else
 if (↑(UInt8.toNat x0):Int)≤57 then
 if 0<i0 then
 some (.inl (IntKind.i64.wrap (i0+1),()))
 else
 some (.inr Bool.false)
 else
 some (.inr Bool.false)
 else
 if (↑(UInt8.toNat x0):Int)≤122 then
 some (.inl (IntKind.i64.wrap (i0+1),()))
 else
 some (.inr Bool.false)
 else
 if 48≤(↑(UInt8.toNat x0):Int) then
 if (↑(UInt8.toNat x0):Int)≤57 then
 if 0<i0 then
 some (.inl (IntKind.i64.wrap (i0+1),()))
 else
 some (.inr Bool.false)
 else
 some (.inr Bool.false)
 else
 some (.inr Bool.false)
 else
 if 1≤(↑(List.length s0):Int) then
 some (.inr (Decidable.decide ((↑(List.length s0):Int)≤8)))
 else
 some (.inr Bool.false)
noncomputable def Zag (s0:List UInt8):Option Bool :=
 Zw (fun v=>Zam s0 v.1) ((0:Int),())
noncomputable def c40:Ctr:=⟨[.dat (.str)],[.dat (.bool)],fun a K=>splitK a fun s0 a=>ZB (Zag s0) fun r=>K (r,()) ()⟩
noncomputable def Yc (n0:Int) (low0:Int) (high0:Int):Option Bool :=
 if low0≤n0 then
 some (Decidable.decide (n0≤high0))
 else
 some Bool.false
noncomputable def c41:Ctr:=⟨[.dat (.int .i64),.dat (.int .i64),.dat (.int .i64)],[.dat (.bool)],fun a K=>splitK a fun n0 a=>splitK a fun low0 a=>splitK a fun high0 a=>ZB (Yc n0 low0 high0) fun r=>K (r,()) ()⟩
noncomputable def XP (a0:Zh) (v0:Int) (v1:Int) (x0:Yu) (v2:Int):Option ((Int×Unit) ⊕ ((Int×Int×Unit) ⊕ (Int×Bool))) :=
 if v2<v1 then
 (atI (Zh.Yy a0) v2).bind fun x1 =>
 if Yu.Name x1=Yu.Name x0 then
 some (.inr (.inr (0,Bool.false)))
 else
 some (.inl (IntKind.i64.wrap (v2+1),()))
 else
 (Zag (Yu.Name x0)).bind fun l03Name0 =>
 if l03Name0=true then
 (Yc (Yu.Cap x0) 0 500).bind fun l01In0 =>
 if l01In0=true then
 if v1=IntKind.i64.wrap ((↑(List.length (Zh.Yy a0)):Int)-1) then
 if Yu.Dir x0=2 then
 if Yu.Cap x0=0 then
 if (Yu.Clock x0)=true then
 some (.inr (.inr (0,Bool.false)))
 else
 if v1<IntKind.i64.wrap ((↑(List.length (Zh.Yy a0)):Int)-1) then
 if Yu.Dir x0=1 then
 if (Yu.Clock x0)=true then
 some (.inr (.inl (IntKind.i64.wrap (v0+1),IntKind.i64.wrap (v1+1),())))
 else
 some (.inr (.inl (v0,IntKind.i64.wrap (v1+1),())))
 else
 some (.inr (.inr (0,Bool.false)))
 else
 if (Yu.Clock x0)=true then
 some (.inr (.inl (IntKind.i64.wrap (v0+1),IntKind.i64.wrap (v1+1),())))
 else
 some (.inr (.inl (v0,IntKind.i64.wrap (v1+1),())))
 else
 some (.inr (.inr (0,Bool.false)))
 else
 some (.inr (.inr (0,Bool.false)))
 else
 if v1<IntKind.i64.wrap ((↑(List.length (Zh.Yy a0)):Int)-1) then
 if Yu.Dir x0=1 then
 if (Yu.Clock x0)=true then
 some (.inr (.inl (IntKind.i64.wrap (v0+1),IntKind.i64.wrap (v1+1),())))
 else
 some (.inr (.inl (v0,IntKind.i64.wrap (v1+1),())))
 else
 some (.inr (.inr (0,Bool.false)))
 else
 if (Yu.Clock x0)=true then
 some (.inr (.inl (IntKind.i64.wrap (v0+1),IntKind.i64.wrap (v1+1),())))
 else
 some (.inr (.inl (v0,IntKind.i64.wrap (v1+1),())))
 else
 some (.inr (.inr (0,Bool.false)))
 else
 some (.inr (.inr (0,Bool.false)))
noncomputable def QH (a0:Zh) (v0:Int) (v1:Int):Option ((Int×Int×Unit) ⊕ (Int×Bool)) :=
 if v1<(↑(List.length (Zh.Yy a0)):Int) then
 (atI (Zh.Yy a0) v1).bind fun x0 =>
 Zw (fun v=>XP a0 v0 v1 x0 v.1) ((0:Int),())
 else
 some (.inr (v0,Bool.true))
noncomputable def Zdf (a0:Zh):Option (Int×Bool) :=
 if (↑(List.length (Zh.Yy a0)):Int)<2 then
 some (0,Bool.false)
 else
 if 5<(↑(List.length (Zh.Yy a0)):Int) then
 some (0,Bool.false)
 else
 Zw (fun v=>QH a0 v.1 v.2.1) ((0:Int),(0:Int),())
noncomputable def c42:Ctr:=⟨[.dat (YL)],[.dat (.int .i64),.dat (.bool)],fun a K=>splitK a fun a0 a=>ZB (Zdf a0) fun r=>K (r.1,r.2,()) ()⟩
noncomputable def Zal (list0:List Int) (i0:Int):Option ((Int×Unit) ⊕ Bool) :=
 if i0<(↑(List.length list0):Int) then
 (atI list0 i0).bind fun x0 =>
 (Yc x0 0 100000).bind fun l01In0 =>
 if l01In0=true then
 if 0<i0 then
 (atI list0 (IntKind.i64.wrap (i0-1))).bind fun x1 =>
 if x0≤x1 then
 some (.inr Bool.false)
 else
 some (.inl (IntKind.i64.wrap (i0+1),()))
 else
 some (.inl (IntKind.i64.wrap (i0+1),()))
 else
 some (.inr Bool.false)
 else
 if 1≤(↑(List.length list0):Int) then
 some (.inr (Decidable.decide ((↑(List.length list0):Int)≤4)))
 else
 some (.inr Bool.false)
noncomputable def ZbX (list0:List Int):Option Bool :=
 Zw (fun v=>Zal list0 v.1) ((0:Int),())
noncomputable def c43:Ctr:=⟨[.dat (.sl (.int .i64))],[.dat (.bool)],fun a K=>splitK a fun list0 a=>ZB (ZbX list0) fun r=>K (r,()) ()⟩
noncomputable def Zar (t0:Zr) (i0:Int):Option ((Int×Unit) ⊕ Bool) :=
 if i0<(↑(List.length (Zr.Values t0)):Int) then
 (atI (Zr.Values t0) i0).bind fun x0 =>
 (Yc x0 (-1000000) 1000000).bind fun l01In0 =>
 if l01In0=true then
 some (.inl (IntKind.i64.wrap (i0+1),()))
 else
 some (.inr Bool.false)
 else
 some (.inr Bool.true)
noncomputable def Zc2 (t0:Zr):Option Bool :=
 (ZbX (Zr.Zfk t0)).bind fun l02Axis0 =>
 if l02Axis0=true then
 (ZbX (Zr.Loads t0)).bind fun l02Axis1 =>
 if l02Axis1=true then
 if (↑(List.length (Zr.Values t0)):Int)=IntKind.i64.wrap ((↑(List.length (Zr.Zfk t0)):Int)*(↑(List.length (Zr.Loads t0)):Int)) then
 Zw (fun v=>Zar t0 v.1) ((0:Int),())
 else
 some Bool.false
 else
 some Bool.false
 else
 some Bool.false
noncomputable def c44:Ctr:=⟨[.dat (Yf)],[.dat (.bool)],fun a K=>splitK a fun t0 a=>ZB (Zc2 t0) fun r=>K (r,()) ()⟩
noncomputable def XV (t0:Zr) (i0:Int) (c0:Int) (c1:Int):Option ((Int×Int×Int×Unit) ⊕ (ZpS×Int)) :=
 if i0<(↑(List.length (Zr.Values t0)):Int) then
 (atI (Zr.Values t0) i0).bind fun x1 =>
 some (.inl (IntKind.i64.wrap (i0+1),Min.min c0 x1,Max.max c1 x1,()))
 else
 some (.inr ((c0,c1,()),0))
noncomputable def J7 (t0:Zr):Option (ZpS×Int) :=
 (Zc2 t0).bind fun IsTable0 =>
 if IsTable0=true then
 (atI (Zr.Values t0) 0).bind fun x0 =>
 Zw (fun v=>XV t0 v.1 v.2.1 v.2.2.1) ((1:Int),x0,x0,())
 else
 some ((0,0,()),1)
noncomputable def c45:Ctr:=⟨[.dat (Yf)],[.dat (ZvG),.dat (.int .i64)],fun a K=>splitK a fun t0 a=>ZB (J7 t0) fun r=>K (r.1,r.2,()) ()⟩
noncomputable def VX (list0:List Zr) (positive0:Bool) (i0:Int):Option ((Int×Unit) ⊕ Bool) :=
 if i0<2 then
 (atI list0 i0).bind fun x0 =>
 (J7 x0).bind fun TableBounds0 =>
 if TableBounds0.snd=0 then
 if positive0=true then
 if TableBounds0.fst.fst<0 then
 some (.inr Bool.false)
 else
 some (.inl (IntKind.i64.wrap (i0+1),()))
 else
 some (.inl (IntKind.i64.wrap (i0+1),()))
 else
 some (.inr Bool.false)
 else
 some (.inr Bool.true)
noncomputable def Yx (list0:List Zr) (positive0:Bool):Option Bool :=
 if (↑(List.length list0):Int)=2 then
 Zw (fun v=>VX list0 positive0 v.1) ((0:Int),())
 else
 some Bool.false
noncomputable def c46:Ctr:=⟨[.dat (.sl (Yf)),.dat (.bool)],[.dat (.bool)],fun a K=>splitK a fun list0 a=>splitK a fun positive0 a=>ZB (Yx list0 positive0) fun r=>K (r,()) ()⟩
noncomputable def Zeo (a0:Zh) (a1:ZM):Option Bool :=
 (Yc (ZM.From a1) 0 (IntKind.i64.wrap (IntKind.i64.wrap ((↑(List.length (Zh.Yy a0)):Int)-1)-1))).bind fun l01In0 =>
 if l01In0=true then
 (Yc (ZM.To a1) 0 (IntKind.i64.wrap ((↑(List.length (Zh.Yy a0)):Int)-1))).bind fun l01In1 =>
 if l01In1=true then
 (atI (Zh.Yy a0) (ZM.From a1)).bind fun x0 =>
 if ZM.Kind a1=1 then
 if (Yu.Clock x0)=true then
 some Bool.false
 else
 if ZM.To a1=IntKind.i64.wrap ((↑(List.length (Zh.Yy a0)):Int)-1) then
 (Yc (ZM.Zb5 a1) 1 3).bind fun l01In2 =>
 if l01In2=true then
 (Yx (ZM.Delay a1) Bool.true).bind fun l03Tables0 =>
 if l03Tables0=true then
 (Yx (ZM.Zhn a1) Bool.true).bind fun l03Tables1 =>
 some l03Tables1
 else
 some Bool.false
 else
 some Bool.false
 else
 some Bool.false
 else
 if ZM.Kind a1=2 then
 if ZM.Kind a1=2 then
 if (Yu.Clock x0)=true then
 if ZM.To a1=IntKind.i64.wrap ((↑(List.length (Zh.Yy a0)):Int)-1) then
 if ZM.Zb5 a1=0 then
 (Yx (ZM.Delay a1) Bool.true).bind fun l03Tables0 =>
 if l03Tables0=true then
 (Yx (ZM.Zhn a1) Bool.true).bind fun l03Tables1 =>
 some l03Tables1
 else
 some Bool.false
 else
 some Bool.false
 else
 some Bool.false
 else
 some Bool.false
 else
 if ZM.Kind a1=4 then
 if ZM.Kind a1=4 then
 if (Yu.Clock x0)=true then
 if ZM.To a1<IntKind.i64.wrap ((↑(List.length (Zh.Yy a0)):Int)-1) then
 (atI (Zh.Yy a0) (ZM.To a1)).bind fun x1 =>
 if (Yu.Clock x1)=true then
 some Bool.false
 else
 if ZM.Zb5 a1=0 then
 (Yx (ZM.Delay a1) Bool.false).bind fun l03Tables0 =>
 if l03Tables0=true then
 some (Decidable.decide ((↑(List.length (ZM.Zhn a1)):Int)=0))
 else
 some Bool.false
 else
 some Bool.false
 else
 some Bool.false
 else
 some Bool.false
 else
 some Bool.false
 else
 if ZM.Kind a1=5 then
 if (Yu.Clock x0)=true then
 if ZM.To a1<IntKind.i64.wrap ((↑(List.length (Zh.Yy a0)):Int)-1) then
 (atI (Zh.Yy a0) (ZM.To a1)).bind fun x1 =>
 if (Yu.Clock x1)=true then
 some Bool.false
 else
 if ZM.Zb5 a1=0 then
 (Yx (ZM.Delay a1) Bool.false).bind fun l03Tables0 =>
 if l03Tables0=true then
 some (Decidable.decide ((↑(List.length (ZM.Zhn a1)):Int)=0))
 else
 some Bool.false
 else
 some Bool.false
 else
 some Bool.false
 else
 some Bool.false
 else
 some Bool.false
 else
 if ZM.Kind a1=3 then
 if (Yu.Clock x0)=true then
 if ZM.To a1=IntKind.i64.wrap ((↑(List.length (Zh.Yy a0)):Int)-1) then
 if ZM.Zb5 a1=0 then
 (Yx (ZM.Delay a1) Bool.true).bind fun l03Tables0 =>
 if l03Tables0=true then
 (Yx (ZM.Zhn a1) Bool.true).bind fun l03Tables1 =>
 some l03Tables1
 else
 some Bool.false
 else
 some Bool.false
 else
 some Bool.false
 else
 some Bool.false
 else
 if ZM.Kind a1=4 then
 if ZM.Kind a1=4 then
 if (Yu.Clock x0)=true then
 if ZM.To a1<IntKind.i64.wrap ((↑(List.length (Zh.Yy a0)):Int)-1) then
 (atI (Zh.Yy a0) (ZM.To a1)).bind fun x1 =>
 if (Yu.Clock x1)=true then
 some Bool.false
 else
 if ZM.Zb5 a1=0 then
 (Yx (ZM.Delay a1) Bool.false).bind fun l03Tables0 =>
 if l03Tables0=true then
 some (Decidable.decide ((↑(List.length (ZM.Zhn a1)):Int)=0))
 else
 some Bool.false
 else
 some Bool.false
 else
 some Bool.false
 else
 some Bool.false
 else
 some Bool.false
 else
 if ZM.Kind a1=5 then
 if (Yu.Clock x0)=true then
 if ZM.To a1<IntKind.i64.wrap ((↑(List.length (Zh.Yy a0)):Int)-1) then
 (atI (Zh.Yy a0) (ZM.To a1)).bind fun x1 =>
 if (Yu.Clock x1)=true then
 some Bool.false
 else
 if ZM.Zb5 a1=0 then
 (Yx (ZM.Delay a1) Bool.false).bind fun l03Tables0 =>
 if l03Tables0=true then
 some (Decidable.decide ((↑(List.length (ZM.Zhn a1)):Int)=0))
 else
 some Bool.false
 else
 some Bool.false
 else
 some Bool.false
 else
 some Bool.false
 else
 some Bool.false
 else
 some Bool.false
 else
 some Bool.false
noncomputable def c47:Ctr:=⟨[.dat (YL),.dat (Zaw)],[.dat (.bool)],fun a K=>splitK a fun a0 a=>splitK a fun a1 a=>ZB (Zeo a0 a1) fun r=>K (r,()) ()⟩
noncomputable def Vg (c0:Zh) (i0:Int) (l0:List Int):Option ((Int×(List Int)×Unit) ⊕ List Int) :=
 if i0<(↑(List.length (Zh.ZaS c0)):Int) then
 (atI (Zh.ZaS c0) i0).bind fun x0 =>
 (atI l0 (ZM.Kind x0)).bind fun x1 =>
 some (.inl (IntKind.i64.wrap (i0+1),List.set l0 (Int.toNat (ZM.Kind x0)) (IntKind.i64.wrap (x1+1)),()))
 else
 some (.inr l0)
noncomputable def Zcl (c0:Zh):Option (List Int) :=
 Zw (fun v=>Vg c0 v.1 v.2.1) ((0:Int),List.replicate (Int.toNat (6:Int)) (0:Int),())
noncomputable def c48:Ctr:=⟨[.dat (YL)],[.own (.ol 2 (.flat (.int .i64)))],fun a K=>splitK a fun c0 a=>ZB (Zcl c0) fun r=>K (r,()) ()⟩
noncomputable def Jt (a0:Zh) (v0:Int) (x0:ZM) (v1:Int):Option ((Int×Unit) ⊕ ((Int×Unit) ⊕ Bool)) :=
 if v1<v0 then
 (atI (Zh.ZaS a0) v1).bind fun x1 =>
 if ZM.Kind x1=ZM.Kind x0 then
 if ZM.From x1=ZM.From x0 then
 if ZM.To x1=ZM.To x0 then
 some (.inr (.inr Bool.false))
 else
 some (.inl (IntKind.i64.wrap (v1+1),()))
 else
 some (.inl (IntKind.i64.wrap (v1+1),()))
 else
 some (.inl (IntKind.i64.wrap (v1+1),()))
 else
 some (.inr (.inl (IntKind.i64.wrap (v0+1),())))
noncomputable def Jp (a0:Zh) (l03Pins0:Int×Bool) (v1:Int):Option ((Int×Unit) ⊕ ((Int×Unit) ⊕ Bool)) :=
 if v1<(↑(List.length (Zh.Truth a0)):Int) then
 (atI (Zh.Truth a0) v1).bind fun x0 =>
 (Yc x0 0 1).bind fun l01In2 =>
 if l01In2=true then
 some (.inl (IntKind.i64.wrap (v1+1),()))
 else
 some (.inr (.inr Bool.false))
 else
 if l03Pins0.fst=0 then
 ZA ((0:Int)≤IntKind.wrap IntKind.u64 (IntKind.i64.wrap ((↑(List.length (Zh.Yy a0)):Int)-(1:Int)))) <|
 some (.inr (.inr (Decidable.decide ((↑(List.length (Zh.Truth a0)):Int)=IntKind.i64.wrap (1*2 ^ Min.min (Int.toNat (IntKind.wrap IntKind.u64 (IntKind.i64.wrap ((↑(List.length (Zh.Yy a0)):Int)-1)))) (IntKind.bits IntKind.i64))))))
 else
 some (.inr (.inr Bool.false))
noncomputable def ZaH (a0:Zh) (l03Pins0:Int×Bool) (v0:Int):Option ((Int×Unit) ⊕ Bool) :=
 if v0<(↑(List.length (Zh.ZaS a0)):Int) then
 (atI (Zh.ZaS a0) v0).bind fun x0 =>
 (Zeo a0 x0).bind fun l03Arc0 =>
 if l03Arc0=true then
 Zw (fun v=>Jt a0 v0 x0 v.1) ((0:Int),())
 else
 some (.inr Bool.false)
 else
 (Zcl a0).bind fun l03Kinds0 =>
 if Zh.Kind a0=1 then
 Zw (fun v=>Jp a0 l03Pins0 v.1) ((0:Int),())
 else
 if Zh.Kind a0=2 then
 if l03Pins0.fst=1 then
 (atI l03Kinds0 1).bind fun x0 =>
 if x0=0 then
 (atI l03Kinds0 2).bind fun x1 =>
 (atI l03Kinds0 3).bind fun x2 =>
 if (Decidable.decide (0<x1) == Decidable.decide (0<x2))=true then
 some (.inr Bool.false)
 else
 some (.inr (Decidable.decide ((↑(List.length (Zh.Truth a0)):Int)=0)))
 else
 some (.inr Bool.false)
 else
 some (.inr Bool.false)
 else
 if Zh.Kind a0=3 then
 if l03Pins0.fst=1 then
 (atI l03Kinds0 1).bind fun x0 =>
 if 0<x0 then
 (atI l03Kinds0 2).bind fun x1 =>
 if 0<x1 then
 (atI l03Kinds0 3).bind fun x2 =>
 if x2=0 then
 some (.inr (Decidable.decide ((↑(List.length (Zh.Truth a0)):Int)=0)))
 else
 some (.inr Bool.false)
 else
 some (.inr Bool.false)
 else
 some (.inr Bool.false)
 else
 some (.inr Bool.false)
 else
 some (.inr Bool.false)
noncomputable def Zeh (a0:Zh):Option Bool :=
 (Zdf a0).bind fun l03Pins0 =>
 if l03Pins0.snd=true then
 (Zag (Zh.Name a0)).bind fun l03Name0 =>
 if l03Name0=true then
 if 8<(↑(List.length (Zh.ZaS a0)):Int) then
 some Bool.false
 else
 (Yc (Zh.ZrB a0) 0 100000).bind fun l01In0 =>
 if l01In0=true then
 (Yc (Zh.Zgy a0) 0 100000).bind fun l01In1 =>
 if l01In1=true then
 Zw (fun v=>ZaH a0 l03Pins0 v.1) ((0:Int),())
 else
 some Bool.false
 else
 some Bool.false
 else
 some Bool.false
 else
 some Bool.false
noncomputable def c49:Ctr:=⟨[.dat (YL)],[.dat (.bool)],fun a K=>splitK a fun a0 a=>ZB (Zeh a0) fun r=>K (r,()) ()⟩
noncomputable def V4 (l0:Zl) (i0:Int) (x0:Zh) (k0:Int):Option ((Int×Unit) ⊕ ((Int×Unit) ⊕ Bool)) :=
 if k0<i0 then
 (atI (Zl.Cells l0) k0).bind fun x1 =>
 if Zh.Name x1=Zh.Name x0 then
 some (.inr (.inr Bool.false))
 else
 some (.inl (IntKind.i64.wrap (k0+1),()))
 else
 some (.inr (.inl (IntKind.i64.wrap (i0+1),())))
noncomputable def VZ (l0:Zl) (i0:Int):Option ((Int×Unit) ⊕ Bool) :=
 if i0<(↑(List.length (Zl.Cells l0)):Int) then
 (atI (Zl.Cells l0) i0).bind fun x0 =>
 (Zeh x0).bind fun IsCell0 =>
 if IsCell0=true then
 Zw (fun v=>V4 l0 i0 x0 v.1) ((0:Int),())
 else
 some (.inr Bool.false)
 else
 some (.inr (Decidable.decide ((↑(List.length (Zl.Cells l0)):Int)≤8)))
noncomputable def Zbu (l0:Zl):Option Bool :=
 Zw (fun v=>VZ l0 v.1) ((0:Int),())
noncomputable def c50:Ctr:=⟨[.dat (Z0)],[.dat (.bool)],fun a K=>splitK a fun l0 a=>ZB (Zbu l0) fun r=>K (r,()) ()⟩
noncomputable def JB (a1:Za) (v0:Int) (x0:Zd) (v1:Int):Option ((Int×Unit) ⊕ ((Int×Unit) ⊕ Bool)) :=
 if v1<(↑(List.length (Zd.ZQ x0)):Int) then
 (atI (Zd.ZQ x0) v1).bind fun x2 =>
 (Yc x2 0 (IntKind.i64.wrap ((↑(List.length (Za.ZQ a1)):Int)-1))).bind fun l01In1 =>
 if l01In1=true then
 some (.inl (IntKind.i64.wrap (v1+1),()))
 else
 some (.inr (.inr Bool.false))
 else
 some (.inr (.inl (IntKind.i64.wrap (v0+1),())))
noncomputable def JO (a1:Za) (v1:Int):Option ((Int×Unit) ⊕ ((Int×Unit) ⊕ Bool)) :=
 if v1<(↑(List.length (Za.Z5 a1)):Int) then
 (atI (Za.Z5 a1) v1).bind fun x0 =>
 (Yc (ZU.Dir x0) 1 2).bind fun l01In0 =>
 if l01In0=true then
 (Yc (ZU.Net x0) 0 (IntKind.i64.wrap ((↑(List.length (Za.ZQ a1)):Int)-1))).bind fun l01In1 =>
 if l01In1=true then
 some (.inl (IntKind.i64.wrap (v1+1),()))
 else
 some (.inr (.inr Bool.false))
 else
 some (.inr (.inr Bool.false))
 else
 some (.inr (.inr Bool.true))
noncomputable def JH (a0:Zl) (a1:Za) (v0:Int):Option ((Int×Unit) ⊕ Bool) :=
 if v0<(↑(List.length (Za.Instances a1)):Int) then
 (atI (Za.Instances a1) v0).bind fun x0 =>
 (Yc (Zd.Cell x0) 0 (IntKind.i64.wrap ((↑(List.length (Zl.Cells a0)):Int)-1))).bind fun l01In0 =>
 if l01In0=true then
 (atI (Zl.Cells a0) (Zd.Cell x0)).bind fun x1 =>
 if (↑(List.length (Zd.ZQ x0)):Int)=(↑(List.length (Zh.Yy x1)):Int) then
 Zw (fun v=>JB a1 v0 x0 v.1) ((0:Int),())
 else
 some (.inr Bool.false)
 else
 some (.inr Bool.false)
 else
 Zw (fun v=>JO a1 v.1) ((0:Int),())
noncomputable def Zcm (a0:Zl) (a1:Za):Option Bool :=
 Zw (fun v=>JH a0 a1 v.1) ((0:Int),())
noncomputable def c51:Ctr:=⟨[.dat (Z0),.dat (Z8)],[.dat (.bool)],fun a K=>splitK a fun a0 a=>splitK a fun a1 a=>ZB (Zcm a0 a1) fun r=>K (r,()) ()⟩
noncomputable def JK (list0:List (List UInt8)) (i0:Int) (x0:List UInt8) (k0:Int):Option ((Int×Unit) ⊕ ((Int×Unit) ⊕ Bool)) :=
 if k0<i0 then
 (atI list0 k0).bind fun x1 =>
 if x1=x0 then
 some (.inr (.inr Bool.false))
 else
 some (.inl (IntKind.i64.wrap (k0+1),()))
 else
 some (.inr (.inl (IntKind.i64.wrap (i0+1),())))
noncomputable def JV (list0:List (List UInt8)) (i0:Int):Option ((Int×Unit) ⊕ Bool) :=
 if i0<(↑(List.length list0):Int) then
 (atI list0 i0).bind fun x0 =>
 (Zag x0).bind fun l03Name0 =>
 if l03Name0=true then
 Zw (fun v=>JK list0 i0 x0 v.1) ((0:Int),())
 else
 some (.inr Bool.false)
 else
 some (.inr Bool.true)
noncomputable def Zan (list0:List (List UInt8)):Option Bool :=
 Zw (fun v=>JV list0 v.1) ((0:Int),())
noncomputable def c52:Ctr:=⟨[.dat (.sl (.str))],[.dat (.bool)],fun a K=>splitK a fun list0 a=>ZB (Zan list0) fun r=>K (r,()) ()⟩
noncomputable def JQ (l1:List Int) (v6:Int):Option ((Int×Unit) ⊕ ((Int×(List Int)×Unit) ⊕ ((Int×(List Int)×Unit) ⊕ (((List (List UInt8))×Int×Unit) ⊕ (((List (List UInt8))×Int×Unit) ⊕ Bool))))) :=
 if v6<(↑(List.length l1):Int) then
 (atI l1 v6).bind fun x0 =>
 if x0=1 then
 some (.inl (IntKind.i64.wrap (v6+1),()))
 else
 some (.inr (.inr (.inr (.inr (.inr Bool.false)))))
 else
 some (.inr (.inr (.inr (.inr (.inr Bool.true)))))
noncomputable def Qc (a1:Za) (v5:Int) (l1:List Int):Option ((Int×(List Int)×Unit) ⊕ ((Int×(List Int)×Unit) ⊕ (((List (List UInt8))×Int×Unit) ⊕ (((List (List UInt8))×Int×Unit) ⊕ Bool)))) :=
 if v5<(↑(List.length (Za.Z5 a1)):Int) then
 (atI (Za.Z5 a1) v5).bind fun x0 =>
 if ZU.Dir x0=1 then
 (atI l1 (ZU.Net x0)).bind fun x1 =>
 some (.inl (IntKind.i64.wrap (v5+1),List.set l1 (Int.toNat (ZU.Net x0)) (IntKind.i64.wrap (x1+1)),()))
 else
 some (.inl (IntKind.i64.wrap (v5+1),l1,()))
 else
 Zw (fun v=>JQ l1 v.1) ((0:Int),())
noncomputable def Qa (a1:Za) (v4:Int) (l0:List Int):Option ((Int×(List Int)×Unit) ⊕ (((List (List UInt8))×Int×Unit) ⊕ (((List (List UInt8))×Int×Unit) ⊕ Bool))) :=
 if v4<(↑(List.length (Za.Instances a1)):Int) then
 (atI (Za.Instances a1) v4).bind fun x0 =>
 (atI (Zd.ZQ x0) (IntKind.i64.wrap ((↑(List.length (Zd.ZQ x0)):Int)-1))).bind fun x1 =>
 (atI l0 x1).bind fun x2 =>
 some (.inl (IntKind.i64.wrap (v4+1),List.set l0 (Int.toNat x1) (IntKind.i64.wrap (x2+1)),()))
 else
 Zw (fun v=>Qc a1 v.1 v.2.1) ((0:Int),l0,())
noncomputable def JU (a1:Za) (v0:List (List UInt8)) (v2:List (List UInt8)) (v3:Int):Option (((List (List UInt8))×Int×Unit) ⊕ (((List (List UInt8))×Int×Unit) ⊕ Bool)) :=
 if v3<(↑(List.length (Za.Z5 a1)):Int) then
 (atI (Za.Z5 a1) v3).bind fun x0 =>
 ZA ((List.length v2+List.length [ZU.Name x0])*(16:Nat)≤(140737488355328:Nat)) <|
 some (.inl (v2++[ZU.Name x0],IntKind.i64.wrap (v3+(1:Int)),()))
 else
 (Zan v0).bind fun l05Names0 =>
 if l05Names0=true then
 (Zan v2).bind fun l05Names1 =>
 if l05Names1=true then
 (Zan (Za.ZQ a1)).bind fun l05Names2 =>
 if l05Names2=true then
 ZA ((0:Int)≤(↑(List.length (Za.ZQ a1)):Int)) <|
 ZA ((↑(List.length (Za.ZQ a1)):Int)≤(↑(List.length (Za.ZQ a1)):Int)) <|
 ZA ((↑(List.length (Za.ZQ a1)):Int)≤(4611686018427387904:Int)) <|
 ZA ((↑(8:Nat):Int)*(↑(List.length (Za.ZQ a1)):Int)≤(281474976710656:Int)) <|
 Zw (fun v=>Qa a1 v.1 v.2.1) ((0:Int),List.replicate (Int.toNat (↑(List.length (Za.ZQ a1)):Int)) (0:Int),())
 else
 some (.inr (.inr Bool.false))
 else
 some (.inr (.inr Bool.false))
 else
 some (.inr (.inr Bool.false))
noncomputable def JL (a1:Za) (v0:List (List UInt8)) (v1:Int):Option (((List (List UInt8))×Int×Unit) ⊕ Bool) :=
 if v1<(↑(List.length (Za.Instances a1)):Int) then
 (atI (Za.Instances a1) v1).bind fun x0 =>
 ZA ((List.length v0+List.length [Zd.Name x0])*(16:Nat)≤(140737488355328:Nat)) <|
 some (.inl (v0++[Zd.Name x0],IntKind.i64.wrap (v1+(1:Int)),()))
 else
 Zw (fun v=>JU a1 v0 v.1 v.2.1) (([]:List (List UInt8)),(0:Int),())
noncomputable def Zcp (a0:Zl) (a1:Za):Option Bool :=
 (Zbu a0).bind fun IsLibrary0 =>
 if IsLibrary0=true then
 if 14<(↑(List.length (Za.Instances a1)):Int) then
 some Bool.false
 else
 if 30<(↑(List.length (Za.ZQ a1)):Int) then
 some Bool.false
 else
 if 8<(↑(List.length (Za.Z5 a1)):Int) then
 some Bool.false
 else
 (Zcm a0 a1).bind fun l05Parts0 =>
 if l05Parts0=true then
 Zw (fun v=>JL a1 v.1 v.2.1) (([]:List (List UInt8)),(0:Int),())
 else
 some Bool.false
 else
 some Bool.false
noncomputable def c53:Ctr:=⟨[.dat (Z0),.dat (Z8)],[.dat (.bool)],fun a K=>splitK a fun a0 a=>splitK a fun a1 a=>ZB (Zcp a0 a1) fun r=>K (r,()) ()⟩
noncomputable def V5 (v1:Int) (x0:Zd) (v2:List Ya) (v3:Int):Option (((List Ya)×Int×Unit) ⊕ (((List Ya)×Int×Unit) ⊕ List Ya)) :=
 if v3<(↑(List.length (Zd.ZQ x0)):Int) then
 (atI (Zd.ZQ x0) v3).bind fun x1 =>
 ZA ((List.length v2+List.length [(v1,v3,x1,Decidable.decide (v3=IntKind.i64.wrap ((↑(List.length (Zd.ZQ x0)):Int)-(1:Int))),())])*(32:Nat)≤(140737488355328:Nat)) <|
 some (.inl (v2++[(v1,v3,x1,Decidable.decide (v3=IntKind.i64.wrap ((↑(List.length (Zd.ZQ x0)):Int)-(1:Int))),())],IntKind.i64.wrap (v3+(1:Int)),()))
 else
 some (.inr (.inl (v2,IntKind.i64.wrap (v1+1),())))
noncomputable def V7 (a0:Za) (v2:List Ya) (v3:Int):Option (((List Ya)×Int×Unit) ⊕ (((List Ya)×Int×Unit) ⊕ List Ya)) :=
 if v3<(↑(List.length (Za.Z5 a0)):Int) then
 (atI (Za.Z5 a0) v3).bind fun x0 =>
 ZA ((List.length v2+List.length [((-1:Int),v3,ZU.Net x0,Decidable.decide (ZU.Dir x0=(1:Int)),())])*(32:Nat)≤(140737488355328:Nat)) <|
 some (.inl (v2++[((-1:Int),v3,ZU.Net x0,Decidable.decide (ZU.Dir x0=(1:Int)),())],IntKind.i64.wrap (v3+(1:Int)),()))
 else
 some (.inr (.inr v2))
noncomputable def VW (a0:Za) (v0:List Ya) (v1:Int):Option (((List Ya)×Int×Unit) ⊕ List Ya) :=
 if v1<(↑(List.length (Za.Instances a0)):Int) then
 (atI (Za.Instances a0) v1).bind fun x0 =>
 Zw (fun v=>V5 v1 x0 v.1 v.2.1) (v0,(0:Int),())
 else
 Zw (fun v=>V7 a0 v.1 v.2.1) (v0,(0:Int),())
noncomputable def Xu (a0:Za):Option (List Ya) :=
 Zw (fun v=>VW a0 v.1 v.2.1) (([]:List (Int×Int×Int×Bool×Unit)),(0:Int),())
noncomputable def c54:Ctr:=⟨[.dat (Z8)],[.own (.ol 126 (.flat (Zfs)))],fun a K=>splitK a fun a0 a=>ZB (Xu a0) fun r=>K (r,()) ()⟩
noncomputable def JC (net0:Int) (l05Places0:List Ya) (out0:List Int) (i0:Int):Option (((List Int)×Int×Unit) ⊕ List Int) :=
 if i0<(↑(List.length l05Places0):Int) then
 (atI l05Places0 i0).bind fun x0 =>
 if Ya.net x0=net0 then
 if (Ya.drives x0)=true then
 some (.inl (out0,IntKind.i64.wrap (i0+1),()))
 else
 ZA ((List.length out0+List.length [i0])*(8:Nat)≤(140737488355328:Nat)) <|
 some (.inl (out0++[i0],IntKind.i64.wrap (i0+(1:Int)),()))
 else
 some (.inl (out0,IntKind.i64.wrap (i0+1),()))
 else
 some (.inr out0)
noncomputable def X7 (d0:Za) (net0:Int):Option (List Int) :=
 (Xu d0).bind fun l05Places0 =>
 Zw (fun v=>JC net0 l05Places0 v.1 v.2.1) (([]:List Int),(0:Int),())
noncomputable def c55:Ctr:=⟨[.dat (Z8),.dat (.int .i64)],[.own (.ol 2 (.flat (.int .i64)))],fun a K=>splitK a fun d0 a=>splitK a fun net0 a=>ZB (X7 d0 net0) fun r=>K (r,()) ()⟩
noncomputable def ZaN (a0:Zn) (v1:Int):Option ((Int×Unit) ⊕ ((Int×Unit) ⊕ Bool)) :=
 if v1<(↑(List.length (Zn.Zfp a0)):Int) then
 (atI (Zn.Zfp a0) v1).bind fun x0 =>
 (Yc x0 0 (IntKind.i64.wrap ((↑(List.length (Zn.Parent a0)):Int)-1))).bind fun l01In0 =>
 if l01In0=true then
 some (.inl (IntKind.i64.wrap (v1+1),()))
 else
 some (.inr (.inr Bool.false))
 else
 some (.inr (.inr Bool.true))
noncomputable def ZaO (a0:Zn) (v0:Int):Option ((Int×Unit) ⊕ Bool) :=
 if v0<(↑(List.length (Zn.Parent a0)):Int) then
 (atI (Zn.Cap a0) v0).bind fun x0 =>
 (Yc x0 0 500).bind fun l01In0 =>
 if l01In0=true then
 (atI (Zn.Res a0) v0).bind fun x1 =>
 (Yc x1 0 1000).bind fun l01In1 =>
 if l01In1=true then
 if v0=0 then
 (atI (Zn.Parent a0) v0).bind fun x2 =>
 if x2=(-1) then
 if x1=0 then
 if 0<v0 then
 (Yc x2 0 (IntKind.i64.wrap (v0-1))).bind fun l01In2 =>
 if l01In2=true then
 some (.inl (IntKind.i64.wrap (v0+1),()))
 else
 some (.inr Bool.false)
 else
 some (.inl (IntKind.i64.wrap (v0+1),()))
 else
 some (.inr Bool.false)
 else
 some (.inr Bool.false)
 else
 if 0<v0 then
 (atI (Zn.Parent a0) v0).bind fun x2 =>
 (Yc x2 0 (IntKind.i64.wrap (v0-1))).bind fun l01In2 =>
 if l01In2=true then
 some (.inl (IntKind.i64.wrap (v0+1),()))
 else
 some (.inr Bool.false)
 else
 some (.inl (IntKind.i64.wrap (v0+1),()))
 else
 some (.inr Bool.false)
 else
 some (.inr Bool.false)
 else
 Zw (fun v=>ZaN a0 v.1) ((0:Int),())
noncomputable def ZcW (a0:Zn) (a1:Int):Option Bool :=
 if (↑(List.length (Zn.Parent a0)):Int)<1 then
 some Bool.false
 else
 if 8<(↑(List.length (Zn.Parent a0)):Int) then
 some Bool.false
 else
 if (↑(List.length (Zn.Res a0)):Int)=(↑(List.length (Zn.Parent a0)):Int) then
 if (↑(List.length (Zn.Cap a0)):Int)=(↑(List.length (Zn.Parent a0)):Int) then
 if (↑(List.length (Zn.Zfp a0)):Int)=a1 then
 Zw (fun v=>ZaO a0 v.1) ((0:Int),())
 else
 some Bool.false
 else
 some Bool.false
 else
 some Bool.false
noncomputable def c56:Ctr:=⟨[.dat (YJ),.dat (.int .i64)],[.dat (.bool)],fun a K=>splitK a fun a0 a=>splitK a fun a1 a=>ZB (ZcW a0 a1) fun r=>K (r,()) ()⟩
noncomputable def Zai (b0:Zb) (net0:Int):Option ((Int×Unit) ⊕ Bool) :=
 if net0<(↑(List.length (Zb.Zz b0)):Int) then
 (atI (Zb.Zz b0) net0).bind fun x0 =>
 (X7 (Zb.Design b0) net0).bind fun l05Sinks0 =>
 (ZcW x0 (↑(List.length l05Sinks0):Int)).bind fun IsWire0 =>
 if IsWire0=true then
 some (.inl (IntKind.i64.wrap (net0+1),()))
 else
 some (.inr Bool.false)
 else
 some (.inr Bool.true)
noncomputable def Zdi (b0:Zb):Option Bool :=
 (Zcp (Zb.Library b0) (Zb.Design b0)).bind fun IsDesign0 =>
 if IsDesign0=true then
 if (↑(List.length (Zb.Zz b0)):Int)=(↑(List.length (Za.ZQ (Zb.Design b0))):Int) then
 Zw (fun v=>Zai b0 v.1) ((0:Int),())
 else
 some Bool.false
 else
 some Bool.false
noncomputable def c57:Ctr:=⟨[.dat (Yr)],[.dat (.bool)],fun a K=>splitK a fun b0 a=>ZB (Zdi b0) fun r=>K (r,()) ()⟩
noncomputable def Zb8 (a0:Zf):Option Bool :=
 if Zf.Kind a0=1 then
 if Zf.Net a0=0 then
 if Zf.Node a0=0 then
 if Zf.Name a0=([]:List UInt8) then
 some (Decidable.decide (IntKind.i64.wrap (IntKind.i64.wrap (IntKind.i64.wrap ((↑(List.length (Zn.Parent (Zf.Zeq a0))):Int)+(↑(List.length (Zn.Res (Zf.Zeq a0))):Int))+(↑(List.length (Zn.Cap (Zf.Zeq a0))):Int))+(↑(List.length (Zn.Zfp (Zf.Zeq a0))):Int))=0))
 else
 some Bool.false
 else
 some Bool.false
 else
 some Bool.false
 else
 if Zf.Kind a0=2 then
 if Zf.Net a0=0 then
 if Zf.Node a0=0 then
 some (Decidable.decide (IntKind.i64.wrap (IntKind.i64.wrap (IntKind.i64.wrap ((↑(List.length (Zn.Parent (Zf.Zeq a0))):Int)+(↑(List.length (Zn.Res (Zf.Zeq a0))):Int))+(↑(List.length (Zn.Cap (Zf.Zeq a0))):Int))+(↑(List.length (Zn.Zfp (Zf.Zeq a0))):Int))=0))
 else
 some Bool.false
 else
 some Bool.false
 else
 if Zf.Kind a0=3 then
 if Zf.Place a0=0 then
 if Zf.Cell a0=0 then
 if Zf.Net a0=0 then
 if Zf.Node a0=0 then
 if Zf.Name a0=([]:List UInt8) then
 some (Decidable.decide (IntKind.i64.wrap (IntKind.i64.wrap (IntKind.i64.wrap ((↑(List.length (Zn.Parent (Zf.Zeq a0))):Int)+(↑(List.length (Zn.Res (Zf.Zeq a0))):Int))+(↑(List.length (Zn.Cap (Zf.Zeq a0))):Int))+(↑(List.length (Zn.Zfp (Zf.Zeq a0))):Int))=0))
 else
 some Bool.false
 else
 some Bool.false
 else
 some Bool.false
 else
 some Bool.false
 else
 some Bool.false
 else
 if Zf.Kind a0=4 then
 if Zf.Cell a0=0 then
 if Zf.Name a0=([]:List UInt8) then
 some (Decidable.decide (IntKind.i64.wrap (IntKind.i64.wrap (IntKind.i64.wrap ((↑(List.length (Zn.Parent (Zf.Zeq a0))):Int)+(↑(List.length (Zn.Res (Zf.Zeq a0))):Int))+(↑(List.length (Zn.Cap (Zf.Zeq a0))):Int))+(↑(List.length (Zn.Zfp (Zf.Zeq a0))):Int))=0))
 else
 some Bool.false
 else
 some Bool.false
 else
 if Zf.Kind a0=5 then
 if Zf.Place a0=0 then
 if Zf.Cell a0=0 then
 if Zf.Node a0=0 then
 some (Decidable.decide (Zf.Name a0=([]:List UInt8)))
 else
 some Bool.false
 else
 some Bool.false
 else
 some Bool.false
 else
 some Bool.false
noncomputable def c58:Ctr:=⟨[.dat (VT)],[.dat (.bool)],fun a K=>splitK a fun a0 a=>ZB (Zb8 a0) fun r=>K (r,()) ()⟩
noncomputable def Zcs (a0:Zb) (a1:Zf):Option Bool :=
 (Xu (Zb.Design a0)).bind fun l05Places0 =>
 if Zf.Kind a1=1 then
 if Zf.Kind a1=1 then
 (Yc (Zf.Place a1) 0 (IntKind.i64.wrap ((↑(List.length l05Places0):Int)-1))).bind fun l01In0 =>
 if l01In0=true then
 (Yc (Zf.Cell a1) 0 (IntKind.i64.wrap ((↑(List.length (Zl.Cells (Zb.Library a0))):Int)-1))).bind fun l01In1 =>
 some l01In1
 else
 some Bool.false
 else
 if Zf.Kind a1=4 then
 (Yc (Zf.Place a1) 0 (IntKind.i64.wrap ((↑(List.length l05Places0):Int)-1))).bind fun l01In0 =>
 if l01In0=true then
 (Yc (Zf.Net a1) 0 (IntKind.i64.wrap ((↑(List.length (Zb.Zz a0)):Int)-1))).bind fun l01In1 =>
 if l01In1=true then
 (atI (Zb.Zz a0) (Zf.Net a1)).bind fun x0 =>
 (Yc (Zf.Node a1) 0 (IntKind.i64.wrap ((↑(List.length (Zn.Parent x0)):Int)-1))).bind fun l01In2 =>
 some l01In2
 else
 some Bool.false
 else
 some Bool.false
 else
 if Zf.Kind a1=5 then
 (Yc (Zf.Net a1) 0 (IntKind.i64.wrap ((↑(List.length (Zb.Zz a0)):Int)-1))).bind fun l01In0 =>
 some l01In0
 else
 some Bool.true
 else
 if Zf.Kind a1=2 then
 (Yc (Zf.Place a1) 0 (IntKind.i64.wrap ((↑(List.length l05Places0):Int)-1))).bind fun l01In0 =>
 if l01In0=true then
 (Yc (Zf.Cell a1) 0 (IntKind.i64.wrap ((↑(List.length (Zl.Cells (Zb.Library a0))):Int)-1))).bind fun l01In1 =>
 some l01In1
 else
 some Bool.false
 else
 if Zf.Kind a1=4 then
 (Yc (Zf.Place a1) 0 (IntKind.i64.wrap ((↑(List.length l05Places0):Int)-1))).bind fun l01In0 =>
 if l01In0=true then
 (Yc (Zf.Net a1) 0 (IntKind.i64.wrap ((↑(List.length (Zb.Zz a0)):Int)-1))).bind fun l01In1 =>
 if l01In1=true then
 (atI (Zb.Zz a0) (Zf.Net a1)).bind fun x0 =>
 (Yc (Zf.Node a1) 0 (IntKind.i64.wrap ((↑(List.length (Zn.Parent x0)):Int)-1))).bind fun l01In2 =>
 some l01In2
 else
 some Bool.false
 else
 some Bool.false
 else
 if Zf.Kind a1=5 then
 (Yc (Zf.Net a1) 0 (IntKind.i64.wrap ((↑(List.length (Zb.Zz a0)):Int)-1))).bind fun l01In0 =>
 some l01In0
 else
 some Bool.true
noncomputable def c59:Ctr:=⟨[.dat (Yr),.dat (VT)],[.dat (.bool)],fun a K=>splitK a fun a0 a=>splitK a fun a1 a=>ZB (Zcs a0 a1) fun r=>K (r,()) ()⟩
noncomputable def Ve (a0:Zh) (b0:Zh) (i0:Int):Option ((Int×Unit) ⊕ Bool) :=
 if i0<(↑(List.length (Zh.Yy a0)):Int) then
 (atI (Zh.Yy a0) i0).bind fun x0 =>
 (atI (Zh.Yy b0) i0).bind fun x1 =>
 if (Yu.Clock x0 == Yu.Clock x1)=true then
 some (.inl (IntKind.i64.wrap (i0+1),()))
 else
 some (.inr Bool.false)
 else
 some (.inr Bool.true)
noncomputable def Vs (a0:Zh) (b0:Zh):Option Bool :=
 if Zh.Kind a0=Zh.Kind b0 then
 if (↑(List.length (Zh.Yy a0)):Int)=(↑(List.length (Zh.Yy b0)):Int) then
 Zw (fun v=>Ve a0 b0 v.1) ((0:Int),())
 else
 some Bool.false
 else
 some Bool.false
noncomputable def c60:Ctr:=⟨[.dat (YL),.dat (YL)],[.dat (.bool)],fun a K=>splitK a fun a0 a=>splitK a fun b0 a=>ZB (Vs a0 b0) fun r=>K (r,()) ()⟩
noncomputable def Zay (c0:Zh):Option Bool :=
 if Zh.Kind c0=1 then
 some (Decidable.decide ((↑(List.length (Zh.Yy c0)):Int)=2))
 else
 some Bool.false
noncomputable def c61:Ctr:=⟨[.dat (YL)],[.dat (.bool)],fun a K=>splitK a fun c0 a=>ZB (Zay c0) fun r=>K (r,()) ()⟩
noncomputable def Qo (d0:Za) (name0:List UInt8) (i0:Int):Option ((Int×Unit) ⊕ Int) :=
 if i0<(↑(List.length (Za.Instances d0)):Int) then
 (atI (Za.Instances d0) i0).bind fun x0 =>
 if Zd.Name x0=name0 then
 some (.inr i0)
 else
 some (.inl (IntKind.i64.wrap (i0+1),()))
 else
 some (.inr (-1))
noncomputable def VK (d0:Za) (name0:List UInt8):Option Int :=
 Zw (fun v=>Qo d0 name0 v.1) ((0:Int),())
noncomputable def c62:Ctr:=⟨[.dat (Z8),.dat (.str)],[.dat (.int .i64)],fun a K=>splitK a fun d0 a=>splitK a fun name0 a=>ZB (VK d0 name0) fun r=>K (r,()) ()⟩
noncomputable def JN (list0:List (List UInt8)) (word0:List UInt8) (i0:Int):Option ((Int×Unit) ⊕ Int) :=
 if i0<(↑(List.length list0):Int) then
 (atI list0 i0).bind fun x0 =>
 if x0=word0 then
 some (.inr i0)
 else
 some (.inl (IntKind.i64.wrap (i0+1),()))
 else
 some (.inr (-1))
noncomputable def ZdJ (list0:List (List UInt8)) (word0:List UInt8):Option Int :=
 Zw (fun v=>JN list0 word0 v.1) ((0:Int),())
noncomputable def c63:Ctr:=⟨[.dat (.sl (.str)),.dat (.str)],[.dat (.int .i64)],fun a K=>splitK a fun list0 a=>splitK a fun word0 a=>ZB (ZdJ list0 word0) fun r=>K (r,()) ()⟩
noncomputable def Zcg (d0:Za) (name0:List UInt8):Option Int :=
 (ZdJ (Za.ZQ d0) name0).bind fun l04Index0 =>
 some l04Index0
noncomputable def c64:Ctr:=⟨[.dat (Z8),.dat (.str)],[.dat (.int .i64)],fun a K=>splitK a fun d0 a=>splitK a fun name0 a=>ZB (Zcg d0 name0) fun r=>K (r,()) ()⟩
noncomputable def ZeI (w0:Zn):Option Bool :=
 if (↑(List.length (Zn.Parent w0)):Int)=1 then
 (atI (Zn.Cap w0) 0).bind fun x0 =>
 some (Decidable.decide (x0=0))
 else
 some Bool.false
noncomputable def c65:Ctr:=⟨[.dat (YJ)],[.dat (.bool)],fun a K=>splitK a fun w0 a=>ZB (ZeI w0) fun r=>K (r,()) ()⟩
noncomputable def Zdc (a0:Zb):Option Bool :=
 if IntKind.i64.wrap ((↑(List.length (Za.Instances (Zb.Design a0))):Int)-1)<0 then
 some Bool.false
 else
 (atI (Za.Instances (Zb.Design a0)) (IntKind.i64.wrap ((↑(List.length (Za.Instances (Zb.Design a0))):Int)-1))).bind fun x0 =>
 (atI (Zl.Cells (Zb.Library a0)) (Zd.Cell x0)).bind fun x1 =>
 (Zay x1).bind fun l08Buffer0 =>
 if l08Buffer0=true then
 (atI (Zd.ZQ x0) 1).bind fun x2 =>
 if x2=IntKind.i64.wrap ((↑(List.length (Zb.Zz a0)):Int)-1) then
 (atI (Za.ZQ (Zb.Design a0)) (IntKind.i64.wrap ((↑(List.length (Zb.Zz a0)):Int)-1))).bind fun x3 =>
 if x3=Zd.Name x0 then
 (atI (Zd.ZQ x0) 0).bind fun x4 =>
 if x4=IntKind.i64.wrap ((↑(List.length (Zb.Zz a0)):Int)-1) then
 some Bool.false
 else
 (X7 (Zb.Design a0) (IntKind.i64.wrap ((↑(List.length (Zb.Zz a0)):Int)-1))).bind fun l05Sinks0 =>
 if (↑(List.length l05Sinks0):Int)=1 then
 (atI (Zb.Zz a0) (IntKind.i64.wrap ((↑(List.length (Zb.Zz a0)):Int)-1))).bind fun x5 =>
 (ZeI x5).bind fun l08Bare0 =>
 some l08Bare0
 else
 some Bool.false
 else
 some Bool.false
 else
 some Bool.false
 else
 some Bool.false
noncomputable def c66:Ctr:=⟨[.dat (Yr)],[.dat (.bool)],fun a K=>splitK a fun a0 a=>ZB (Zdc a0) fun r=>K (r,()) ()⟩
noncomputable def Zca (a0:Zb) (a1:Zf):Option Bool :=
 (Xu (Zb.Design a0)).bind fun l05Places0 =>
 if Zf.Kind a1=1 then
 (atI l05Places0 (Zf.Place a1)).bind fun x0 =>
 if 0≤Ya.instance x0 then
 if (Ya.drives x0)=true then
 (atI (Za.Instances (Zb.Design a0)) (Ya.instance x0)).bind fun x1 =>
 (atI (Zl.Cells (Zb.Library a0)) (Zd.Cell x1)).bind fun x2 =>
 (atI (Zl.Cells (Zb.Library a0)) (Zf.Cell a1)).bind fun x3 =>
 (Vs x2 x3).bind fun l08Alike0 =>
 some l08Alike0
 else
 some Bool.false
 else
 some Bool.false
 else
 if Zf.Kind a1=2 then
 (atI l05Places0 (Zf.Place a1)).bind fun x0 =>
 if (Ya.drives x0)=true then
 some Bool.false
 else
 (atI (Zl.Cells (Zb.Library a0)) (Zf.Cell a1)).bind fun x1 =>
 (Zay x1).bind fun l08Buffer0 =>
 if l08Buffer0=true then
 (Zag (Zf.Name a1)).bind fun l03Name0 =>
 if l03Name0=true then
 (VK (Zb.Design a0) (Zf.Name a1)).bind fun InstanceNamed0 =>
 if InstanceNamed0<0 then
 (Zcg (Zb.Design a0) (Zf.Name a1)).bind fun NetNamed0 =>
 some (Decidable.decide (NetNamed0<0))
 else
 some Bool.false
 else
 some Bool.false
 else
 some Bool.false
 else
 if Zf.Kind a1=3 then
 (Zdc a0).bind fun l08Last0 =>
 some l08Last0
 else
 if Zf.Kind a1=4 then
 (atI l05Places0 (Zf.Place a1)).bind fun x0 =>
 if (Ya.drives x0)=true then
 some Bool.false
 else
 some (!Decidable.decide (Ya.net x0=Zf.Net a1))
 else
 (X7 (Zb.Design a0) (Zf.Net a1)).bind fun l05Sinks0 =>
 (ZcW (Zf.Zeq a1) (↑(List.length l05Sinks0):Int)).bind fun IsWire0 =>
 some IsWire0
noncomputable def c67:Ctr:=⟨[.dat (Yr),.dat (VT)],[.dat (.bool)],fun a K=>splitK a fun a0 a=>splitK a fun a1 a=>ZB (Zca a0 a1) fun r=>K (r,()) ()⟩
noncomputable def Zcu (b0:Zb) (e0:Zf):Option Int :=
 (Zdi b0).bind fun IsBlock0 =>
 if IsBlock0=true then
 (Zb8 e0).bind fun l08Blank0 =>
 if l08Blank0=true then
 (Zcs b0 e0).bind fun l08Range0 =>
 if l08Range0=true then
 (Zca b0 e0).bind fun l08State0 =>
 if l08State0=true then
 if Zf.Kind e0=2 then
 if (↑(List.length (Za.Instances (Zb.Design b0))):Int)=14 then
 some 3
 else
 if (↑(List.length (Zb.Zz b0)):Int)=30 then
 some 3
 else
 some 0
 else
 some 0
 else
 some 5
 else
 some 2
 else
 some 2
 else
 some 1
noncomputable def c68:Ctr:=⟨[.dat (Yr),.dat (VT)],[.dat (.int .i64)],fun a K=>splitK a fun b0 a=>splitK a fun e0 a=>ZB (Zcu b0 e0) fun r=>K (r,()) ()⟩
noncomputable def Xa (list0:List Int):Option (List Int) :=
 ZA ((List.length (([]:List Int))+List.length list0)*(8:Nat)≤(140737488355328:Nat)) <|
 some (([]:List Int)++list0)
noncomputable def c69:Ctr:=⟨[.dat (.sl (.int .i64))],[.own (.ol 2 (.flat (.int .i64)))],fun a K=>splitK a fun list0 a=>ZB (Xa list0) fun r=>K (r,()) ()⟩
noncomputable def Zd9 (t0:Zr):Option Zr :=
 (Xa (Zr.Zfk t0)).bind fun l02Ints0 =>
 (Xa (Zr.Loads t0)).bind fun l02Ints1 =>
 (Xa (Zr.Values t0)).bind fun l02Ints2 =>
 some (l02Ints0,l02Ints1,l02Ints2,())
noncomputable def c70:Ctr:=⟨[.dat (Yf)],[.own (ZeB)],fun a K=>splitK a fun t0 a=>ZB (Zd9 t0) fun r=>K (r,()) ()⟩
noncomputable def Xz (list0:List Zr) (out0:List Zr) (i0:Int):Option (((List Zr)×Int×Unit) ⊕ List Zr) :=
 if i0<(↑(List.length list0):Int) then
 (atI list0 i0).bind fun x0 =>
 (Zd9 x0).bind fun l02Own0 =>
 ZA ((List.length out0+List.length [l02Own0])*(72:Nat)≤(140737488355328:Nat)) <|
 some (.inl (out0++[l02Own0],IntKind.i64.wrap (i0+(1:Int)),()))
 else
 some (.inr out0)
noncomputable def Vo (list0:List Zr):Option (List Zr) :=
 Zw (fun v=>Xz list0 v.1 v.2.1) (([]:List Zr),(0:Int),())
noncomputable def c71:Ctr:=⟨[.dat (.sl (Yf))],[.own (.ol 263 (ZeB))],fun a K=>splitK a fun list0 a=>ZB (Vo list0) fun r=>K (r,()) ()⟩
noncomputable def Js (c0:Zh) (l02Ints0:List Int) (i0:Int) (c1:List ZM):Option ((Int×(List ZM)×Unit) ⊕ Zh) :=
 if i0<(↑(List.length (Zh.ZaS c0)):Int) then
 (atI (Zh.ZaS c0) i0).bind fun x0 =>
 (Vo (ZM.Delay x0)).bind fun l03OwnTables0 =>
 (Vo (ZM.Zhn x0)).bind fun l03OwnTables1 =>
 ZA ((List.length c1+List.length [(ZM.Kind x0,ZM.From x0,ZM.To x0,ZM.Zb5 x0,l03OwnTables0,l03OwnTables1,())])*(80:Nat)≤(140737488355328:Nat)) <|
 some (.inl (IntKind.i64.wrap (i0+(1:Int)),c1++[(ZM.Kind x0,ZM.From x0,ZM.To x0,ZM.Zb5 x0,l03OwnTables0,l03OwnTables1,())],()))
 else
 some (.inr (Zh.Name c0,Zh.Kind c0,([]:List (List UInt8×Int×Int×Bool×Unit))++Zh.Yy c0,c1,l02Ints0,c0.snd.snd.snd.snd.snd))
noncomputable def Zet (c0:Zh):Option Zh :=
 ZA ((List.length (([]:List (List UInt8×Int×Int×Bool×Unit)))+List.length (Zh.Yy c0))*(40:Nat)≤(140737488355328:Nat)) <|
 (Xa (Zh.Truth c0)).bind fun l02Ints0 =>
 Zw (fun v=>Js c0 l02Ints0 v.1 v.2.1) ((0:Int),([]:List ZM),())
noncomputable def c72:Ctr:=⟨[.dat (YL)],[.own (Zlp)],fun a K=>splitK a fun c0 a=>ZB (Zet c0) fun r=>K (r,()) ()⟩
noncomputable def Xm (l0:Zl) (i0:Int) (c0:List Zh):Option ((Int×(List Zh)×Unit) ⊕ Zl) :=
 if i0<(↑(List.length (Zl.Cells l0)):Int) then
 (atI (Zl.Cells l0) i0).bind fun x0 =>
 (Zet x0).bind fun l03Own0 =>
 ZA ((List.length c0+List.length [l03Own0])*(112:Nat)≤(140737488355328:Nat)) <|
 some (.inl (IntKind.i64.wrap (i0+(1:Int)),c0++[l03Own0],()))
 else
 some (.inr (c0,()))
noncomputable def VE (l0:Zl):Option Zl :=
 Zw (fun v=>Xm l0 v.1 v.2.1) ((0:Int),([]:List Zh),())
noncomputable def c73:Ctr:=⟨[.dat (Z0)],[.own (ZjB)],fun a K=>splitK a fun l0 a=>ZB (VE l0) fun r=>K (r,()) ()⟩
noncomputable def Jv (d0:Za) (i0:Int) (c0:List Zd):Option ((Int×(List Zd)×Unit) ⊕ Za) :=
 if i0<(↑(List.length (Za.Instances d0)):Int) then
 (atI (Za.Instances d0) i0).bind fun x0 =>
 (Xa (Zd.ZQ x0)).bind fun l02Ints0 =>
 ZA ((List.length c0+List.length [(Zd.Name x0,Zd.Cell x0,l02Ints0,())])*(48:Nat)≤(140737488355328:Nat)) <|
 some (.inl (IntKind.i64.wrap (i0+(1:Int)),c0++[(Zd.Name x0,Zd.Cell x0,l02Ints0,())],()))
 else
 some (.inr (c0,([]:List (List UInt8))++Za.ZQ d0,([]:List (List UInt8×Int×Int×Unit))++Za.Z5 d0,()))
noncomputable def Zei (d0:Za):Option Za :=
 ZA ((List.length (([]:List (List UInt8)))+List.length (Za.ZQ d0))*(16:Nat)≤(140737488355328:Nat)) <|
 ZA ((List.length (([]:List (List UInt8×Int×Int×Unit)))+List.length (Za.Z5 d0))*(32:Nat)≤(140737488355328:Nat)) <|
 Zw (fun v=>Jv d0 v.1 v.2.1) ((0:Int),([]:List Zd),())
noncomputable def c74:Ctr:=⟨[.dat (Z8)],[.own (Zkz)],fun a K=>splitK a fun d0 a=>ZB (Zei d0) fun r=>K (r,()) ()⟩
noncomputable def JR (w0:Zn):Option Zn :=
 (Xa (Zn.Parent w0)).bind fun l02Ints0 =>
 (Xa (Zn.Res w0)).bind fun l02Ints1 =>
 (Xa (Zn.Cap w0)).bind fun l02Ints2 =>
 (Xa (Zn.Zfp w0)).bind fun l02Ints3 =>
 some (l02Ints0,l02Ints1,l02Ints2,l02Ints3,())
noncomputable def c75:Ctr:=⟨[.dat (YJ)],[.own (Zhu)],fun a K=>splitK a fun w0 a=>ZB (JR w0) fun r=>K (r,()) ()⟩
noncomputable def Jq (b0:Zb) (l03OwnLibrary0:Zl) (l05Own0:Za) (i0:Int) (c0:List Zn):Option ((Int×(List Zn)×Unit) ⊕ Zb) :=
 if i0<(↑(List.length (Zb.Zz b0)):Int) then
 (atI (Zb.Zz b0) i0).bind fun x0 =>
 (JR x0).bind fun l07OwnWire0 =>
 ZA ((List.length c0+List.length [l07OwnWire0])*(96:Nat)≤(140737488355328:Nat)) <|
 some (.inl (IntKind.i64.wrap (i0+(1:Int)),c0++[l07OwnWire0],()))
 else
 some (.inr (l03OwnLibrary0,l05Own0,c0,()))
noncomputable def ZdY (b0:Zb):Option Zb :=
 (VE (Zb.Library b0)).bind fun l03OwnLibrary0 =>
 (Zei (Zb.Design b0)).bind fun l05Own0 =>
 Zw (fun v=>Jq b0 l03OwnLibrary0 l05Own0 v.1 v.2.1) ((0:Int),([]:List Zn),())
noncomputable def c76:Ctr:=⟨[.dat (Yr)],[.own (ZdW)],fun a K=>splitK a fun b0 a=>ZB (ZdY b0) fun r=>K (r,()) ()⟩
noncomputable def JI (b0:Zb) (net0:Int) (l05Sinks0:List Int) (i0:Int) (l1:List Int):Option ((Int×(List Int)×Unit) ⊕ ((Int×(List Int)×Unit) ⊕ List Int)) :=
 if i0<(↑(List.length l05Sinks0):Int) then
 (atI l05Sinks0 i0).bind fun x0 =>
 (atI (Zb.Zz b0) net0).bind fun x1 =>
 (atI (Zn.Zfp x1) i0).bind fun x2 =>
 (atI l1 x0).bind fun x3 =>
 some (.inl (IntKind.i64.wrap (i0+1),List.set l1 (Int.toNat x0) x2,()))
 else
 some (.inr (.inl (IntKind.i64.wrap (net0+1),l1,())))
noncomputable def JY (b0:Zb) (net0:Int) (l0:List Int):Option ((Int×(List Int)×Unit) ⊕ List Int) :=
 if net0<(↑(List.length (Zb.Zz b0)):Int) then
 (X7 (Zb.Design b0) net0).bind fun l05Sinks0 =>
 Zw (fun v=>JI b0 net0 l05Sinks0 v.1 v.2.1) ((0:Int),l0,())
 else
 some (.inr l0)
noncomputable def Zau (b0:Zb):Option (List Int) :=
 (Xu (Zb.Design b0)).bind fun l05Places0 =>
 ZA ((0:Int)≤(↑(List.length l05Places0):Int)) <|
 ZA ((↑(List.length l05Places0):Int)≤(↑(List.length l05Places0):Int)) <|
 ZA ((↑(List.length l05Places0):Int)≤(4611686018427387904:Int)) <|
 ZA ((↑(8:Nat):Int)*(↑(List.length l05Places0):Int)≤(281474976710656:Int)) <|
 Zw (fun v=>JY b0 v.1 v.2.1) ((0:Int),List.replicate (Int.toNat (↑(List.length l05Places0):Int)) (0:Int),())
noncomputable def c77:Ctr:=⟨[.dat (Yr)],[.own (.ol 2 (.flat (.int .i64)))],fun a K=>splitK a fun b0 a=>ZB (Zau b0) fun r=>K (r,()) ()⟩
noncomputable def Vz (d0:Za) (p0:Ya) (net0:Int):Option Za :=
 if Ya.instance p0<0 then
 (atI (Za.Z5 d0) (Ya.pin p0)).bind fun x0 =>
 some (Za.Instances d0,Za.ZQ d0,List.set (Za.Z5 d0) (Int.toNat (Ya.pin p0)) (ZU.Name x0,ZU.Dir x0,net0,()),())
 else
 (atI (Za.Instances d0) (Ya.instance p0)).bind fun x0 =>
 (atI x0.snd.snd.fst (Ya.pin p0)).bind fun x1 =>
 some (List.set (Za.Instances d0) (Int.toNat (Ya.instance p0)) (x0.fst,x0.snd.fst,List.set x0.snd.snd.fst (Int.toNat (Ya.pin p0)) net0,()),d0.snd)
noncomputable def c78:Ctr:=⟨[.back (Zkz),.dat (Zfs),.dat (.int .i64)],[],fun a K=>splitK a fun d0 a=>splitK a fun p0 a=>splitK a fun net0 a=>ZB (Vz d0 p0 net0) fun r=>K () (r,())⟩
noncomputable def ZaB (sinks0:Int) (load0:Int):Option Zn :=
 ZA ((0:Int)≤sinks0) <|
 ZA (sinks0≤sinks0) <|
 ZA (sinks0≤(4611686018427387904:Int)) <|
 ZA ((↑(8:Nat):Int)*sinks0≤(281474976710656:Int)) <|
 some ([(-1:Int)],[(0:Int)],[load0],List.replicate (Int.toNat sinks0) (0:Int),())
noncomputable def c79:Ctr:=⟨[.dat (.int .i64),.dat (.int .i64)],[.own (Zhu)],fun a K=>splitK a fun sinks0 a=>splitK a fun load0 a=>ZB (ZaB sinks0 load0) fun r=>K (r,()) ()⟩
noncomputable def VY (nodes0:List Int) (net0:Int) (l0:List (List Int×List Int×List Int×List Int×Unit)) (l05Sinks0:List Int) (list0:List Int) (i0:Int):Option (((List Int)×Int×Unit) ⊕ ((Int×(List (List Int×List Int×List Int×List Int×Unit))×Unit) ⊕ Zb)) :=
 if i0<(↑(List.length l05Sinks0):Int) then
 (atI l05Sinks0 i0).bind fun x0 =>
 (atI nodes0 x0).bind fun x1 =>
 ZA ((List.length list0+List.length [x1])*(8:Nat)≤(140737488355328:Nat)) <|
 some (.inl (list0++[x1],IntKind.i64.wrap (i0+(1:Int)),()))
 else
 (atI l0 net0).bind fun x0 =>
 some (.inr (.inl (IntKind.i64.wrap (net0+1),List.set l0 (Int.toNat net0) (x0.fst,x0.snd.fst,x0.snd.snd.fst,list0,()),())))
noncomputable def QL (b0:Zb) (nodes0:List Int) (net0:Int) (l0:List (List Int×List Int×List Int×List Int×Unit)):Option ((Int×(List (List Int×List Int×List Int×List Int×Unit))×Unit) ⊕ Zb) :=
 if net0<(↑(List.length l0):Int) then
 (X7 (Zb.Design b0) net0).bind fun l05Sinks0 =>
 Zw (fun v=>VY nodes0 net0 l0 l05Sinks0 v.1 v.2.1) (([]:List Int),(0:Int),())
 else
 some (.inr (Zb.Library b0,Zb.Design b0,l0,()))
noncomputable def XY (b0:Zb) (nodes0:List Int):Option Zb :=
 Zw (fun v=>QL b0 nodes0 v.1 v.2.1) ((0:Int),Zb.Zz b0,())
noncomputable def c80:Ctr:=⟨[.own (ZdW),.dat (.sl (.int .i64))],[.own (ZdW)],fun a K=>splitK a fun b0 a=>splitK a fun nodes0 a=>ZB (XY b0 nodes0) fun r=>K (r,()) ()⟩
noncomputable def Zbm (a0:Zb) (a1:Zf):Option Zb :=
 (Xu (Zb.Design a0)).bind fun l05Places0 =>
 (atI l05Places0 (Zf.Place a1)).bind fun x0 =>
 (Zau a0).bind fun l08Nodes0 =>
 (atI l08Nodes0 (Zf.Place a1)).bind fun x1 =>
 ZA ((0:Int)≤IntKind.i64.wrap ((↑(List.length l08Nodes0):Int)-(↑(List.length (Za.Z5 (Zb.Design a0))):Int))) <|
 ZA (IntKind.i64.wrap ((↑(List.length l08Nodes0):Int)-(↑(List.length (Za.Z5 (Zb.Design a0))):Int))≤(↑(List.length l08Nodes0):Int)) <|
 (Xa (List.take (Int.toNat (IntKind.i64.wrap ((↑(List.length l08Nodes0):Int)-(↑(List.length (Za.Z5 (Zb.Design a0))):Int)))-Int.toNat 0) (List.drop (Int.toNat 0) l08Nodes0))).bind fun l02Ints0 =>
 ZA ((List.length l02Ints0+List.length [x1,(0:Int)])*(8:Nat)≤(140737488355328:Nat)) <|
 ZA ((↑(List.length l08Nodes0):Int)≤(↑(List.length l08Nodes0):Int)) <|
 ZA ((List.length (l02Ints0++[x1,(0:Int)])+List.length (List.take (Int.toNat (↑(List.length l08Nodes0):Int)-Int.toNat (IntKind.i64.wrap ((↑(List.length l08Nodes0):Int)-(↑(List.length (Za.Z5 (Zb.Design a0))):Int)))) (List.drop (Int.toNat (IntKind.i64.wrap ((↑(List.length l08Nodes0):Int)-(↑(List.length (Za.Z5 (Zb.Design a0))):Int)))) l08Nodes0)))*(8:Nat)≤(140737488355328:Nat)) <|
 (Vz (Zb.Design a0) x0 (↑(List.length (Zb.Zz a0)):Int)).bind fun l08Connect0 =>
 if IntKind.i64.wrap ((↑(List.length l08Nodes0):Int)-(↑(List.length (Za.Z5 (Zb.Design a0))):Int))≤Zf.Place a1 then
 (atI (l02Ints0++[x1,(0:Int)]++List.take (Int.toNat (↑(List.length l08Nodes0):Int)-Int.toNat (IntKind.i64.wrap ((↑(List.length l08Nodes0):Int)-(↑(List.length (Za.Z5 (Zb.Design a0))):Int)))) (List.drop (Int.toNat (IntKind.i64.wrap ((↑(List.length l08Nodes0):Int)-(↑(List.length (Za.Z5 (Zb.Design a0))):Int)))) l08Nodes0)) (IntKind.i64.wrap (Zf.Place a1+(2:Int)))).bind fun x2 =>
 ZA ((List.length (Za.Instances l08Connect0)+List.length [(Zf.Name a1,Zf.Cell a1,[Ya.net x0,(↑(List.length (Zb.Zz a0)):Int)],())])*(48:Nat)≤(140737488355328:Nat)) <|
 ZA ((List.length (Za.ZQ l08Connect0)+List.length [Zf.Name a1])*(16:Nat)≤(140737488355328:Nat)) <|
 (ZaB 1 0).bind fun l07Lumped0 =>
 ZA ((List.length (Zb.Zz a0)+List.length [l07Lumped0])*(96:Nat)≤(140737488355328:Nat)) <|
 (XY (Zb.Library a0,(Za.Instances l08Connect0++[(Zf.Name a1,Zf.Cell a1,[Ya.net x0,(↑(List.length (Zb.Zz a0)):Int)],())],Za.ZQ l08Connect0++[Zf.Name a1],l08Connect0.snd.snd),Zb.Zz a0++[l07Lumped0],()) (List.set (l02Ints0++[x1,(0:Int)]++List.take (Int.toNat (↑(List.length l08Nodes0):Int)-Int.toNat (IntKind.i64.wrap ((↑(List.length l08Nodes0):Int)-(↑(List.length (Za.Z5 (Zb.Design a0))):Int)))) (List.drop (Int.toNat (IntKind.i64.wrap ((↑(List.length l08Nodes0):Int)-(↑(List.length (Za.Z5 (Zb.Design a0))):Int)))) l08Nodes0)) (Int.toNat (IntKind.i64.wrap (Zf.Place a1+(2:Int)))) (0:Int))).bind fun l08Attach0 =>
 some l08Attach0
 else
 (atI (l02Ints0++[x1,(0:Int)]++List.take (Int.toNat (↑(List.length l08Nodes0):Int)-Int.toNat (IntKind.i64.wrap ((↑(List.length l08Nodes0):Int)-(↑(List.length (Za.Z5 (Zb.Design a0))):Int)))) (List.drop (Int.toNat (IntKind.i64.wrap ((↑(List.length l08Nodes0):Int)-(↑(List.length (Za.Z5 (Zb.Design a0))):Int)))) l08Nodes0)) (Zf.Place a1)).bind fun x2 =>
 ZA ((List.length (Za.Instances l08Connect0)+List.length [(Zf.Name a1,Zf.Cell a1,[Ya.net x0,(↑(List.length (Zb.Zz a0)):Int)],())])*(48:Nat)≤(140737488355328:Nat)) <|
 ZA ((List.length (Za.ZQ l08Connect0)+List.length [Zf.Name a1])*(16:Nat)≤(140737488355328:Nat)) <|
 (ZaB 1 0).bind fun l07Lumped0 =>
 ZA ((List.length (Zb.Zz a0)+List.length [l07Lumped0])*(96:Nat)≤(140737488355328:Nat)) <|
 (XY (Zb.Library a0,(Za.Instances l08Connect0++[(Zf.Name a1,Zf.Cell a1,[Ya.net x0,(↑(List.length (Zb.Zz a0)):Int)],())],Za.ZQ l08Connect0++[Zf.Name a1],l08Connect0.snd.snd),Zb.Zz a0++[l07Lumped0],()) (List.set (l02Ints0++[x1,(0:Int)]++List.take (Int.toNat (↑(List.length l08Nodes0):Int)-Int.toNat (IntKind.i64.wrap ((↑(List.length l08Nodes0):Int)-(↑(List.length (Za.Z5 (Zb.Design a0))):Int)))) (List.drop (Int.toNat (IntKind.i64.wrap ((↑(List.length l08Nodes0):Int)-(↑(List.length (Za.Z5 (Zb.Design a0))):Int)))) l08Nodes0)) (Int.toNat (Zf.Place a1)) (0:Int))).bind fun l08Attach0 =>
 some l08Attach0
noncomputable def c81:Ctr:=⟨[.own (ZdW),.dat (VT)],[.own (ZdW)],fun a K=>splitK a fun a0 a=>splitK a fun a1 a=>ZB (Zbm a0 a1) fun r=>K (r,()) ()⟩
noncomputable def Zbo (a0:Zb):Option Zb :=
 (Zau a0).bind fun l08Nodes0 =>
 (X7 (Zb.Design a0) (IntKind.i64.wrap ((↑(List.length (Zb.Zz a0)):Int)-1))).bind fun l05Sinks0 =>
 (atI l05Sinks0 0).bind fun x0 =>
 (atI l08Nodes0 (IntKind.i64.wrap (IntKind.i64.wrap ((↑(List.length l08Nodes0):Int)-(↑(List.length (Za.Z5 (Zb.Design a0))):Int))-2))).bind fun x1 =>
 (atI l08Nodes0 x0).bind fun x2 =>
 (atI (Za.Instances (Zb.Design a0)) (IntKind.i64.wrap ((↑(List.length (Za.Instances (Zb.Design a0))):Int)-1))).bind fun x3 =>
 (atI x3.snd.snd.fst 0).bind fun x4 =>
 (Xu (List.set (Za.Instances (Zb.Design a0)) (Int.toNat (IntKind.i64.wrap ((↑(List.length (Za.Instances (Zb.Design a0))):Int)-1))) x3,(Zb.Design a0).snd)).bind fun l05Places0 =>
 (atI l05Places0 x0).bind fun x5 =>
 (Vz (List.set (Za.Instances (Zb.Design a0)) (Int.toNat (IntKind.i64.wrap ((↑(List.length (Za.Instances (Zb.Design a0))):Int)-1))) x3,(Zb.Design a0).snd) x5 x4).bind fun l08Connect0 =>
 ZA ((0:Int)≤IntKind.i64.wrap (IntKind.i64.wrap ((↑(List.length l08Nodes0):Int)-(↑(List.length (Za.Z5 (Zb.Design a0))):Int))-(2:Int))) <|
 ZA (IntKind.i64.wrap (IntKind.i64.wrap ((↑(List.length l08Nodes0):Int)-(↑(List.length (Za.Z5 (Zb.Design a0))):Int))-(2:Int))≤(↑(List.length (List.set l08Nodes0 (Int.toNat x0) x1)):Int)) <|
 (Xa (List.take (Int.toNat (IntKind.i64.wrap (IntKind.i64.wrap ((↑(List.length l08Nodes0):Int)-(↑(List.length (Za.Z5 (Zb.Design a0))):Int))-2))-Int.toNat 0) (List.drop (Int.toNat 0) (List.set l08Nodes0 (Int.toNat x0) x1)))).bind fun l02Ints0 =>
 ZA ((0:Int)≤IntKind.i64.wrap ((↑(List.length l08Nodes0):Int)-(↑(List.length (Za.Z5 (Zb.Design a0))):Int))) <|
 ZA (IntKind.i64.wrap ((↑(List.length l08Nodes0):Int)-(↑(List.length (Za.Z5 (Zb.Design a0))):Int))≤(↑(List.length (List.set l08Nodes0 (Int.toNat x0) x1)):Int)) <|
 ZA ((↑(List.length (List.set l08Nodes0 (Int.toNat x0) x1)):Int)≤(↑(List.length (List.set l08Nodes0 (Int.toNat x0) x1)):Int)) <|
 ZA ((List.length l02Ints0+List.length (List.take (Int.toNat (↑(List.length (List.set l08Nodes0 (Int.toNat x0) x1)):Int)-Int.toNat (IntKind.i64.wrap ((↑(List.length l08Nodes0):Int)-(↑(List.length (Za.Z5 (Zb.Design a0))):Int)))) (List.drop (Int.toNat (IntKind.i64.wrap ((↑(List.length l08Nodes0):Int)-(↑(List.length (Za.Z5 (Zb.Design a0))):Int)))) (List.set l08Nodes0 (Int.toNat x0) x1))))*(8:Nat)≤(140737488355328:Nat)) <|
 ZA ((0:Int)≤IntKind.i64.wrap ((↑(List.length (Za.Instances (Zb.Design a0))):Int)-(1:Int))) <|
 ZA (IntKind.i64.wrap ((↑(List.length (Za.Instances (Zb.Design a0))):Int)-(1:Int))≤(↑(List.length (Za.Instances l08Connect0)):Int)) <|
 ZA ((0:Int)≤IntKind.i64.wrap ((↑(List.length (Zb.Zz a0)):Int)-(1:Int))) <|
 ZA (IntKind.i64.wrap ((↑(List.length (Zb.Zz a0)):Int)-(1:Int))≤(↑(List.length (Za.ZQ l08Connect0)):Int)) <|
 ZA (IntKind.i64.wrap ((↑(List.length (Zb.Zz a0)):Int)-(1:Int))≤(↑(List.length (Zb.Zz a0)):Int)) <|
 (XY (Zb.Library a0,(List.take (Int.toNat (IntKind.i64.wrap ((↑(List.length (Za.Instances (Zb.Design a0))):Int)-1))-Int.toNat 0) (List.drop (Int.toNat 0) (Za.Instances l08Connect0)),List.take (Int.toNat (IntKind.i64.wrap ((↑(List.length (Zb.Zz a0)):Int)-1))-Int.toNat 0) (List.drop (Int.toNat 0) (Za.ZQ l08Connect0)),l08Connect0.snd.snd),List.take (Int.toNat (IntKind.i64.wrap ((↑(List.length (Zb.Zz a0)):Int)-1))-Int.toNat 0) (List.drop (Int.toNat 0) (Zb.Zz a0)),()) (l02Ints0++List.take (Int.toNat (↑(List.length (List.set l08Nodes0 (Int.toNat x0) x1)):Int)-Int.toNat (IntKind.i64.wrap ((↑(List.length l08Nodes0):Int)-(↑(List.length (Za.Z5 (Zb.Design a0))):Int)))) (List.drop (Int.toNat (IntKind.i64.wrap ((↑(List.length l08Nodes0):Int)-(↑(List.length (Za.Z5 (Zb.Design a0))):Int)))) (List.set l08Nodes0 (Int.toNat x0) x1)))).bind fun l08Attach0 =>
 some l08Attach0
noncomputable def c82:Ctr:=⟨[.own (ZdW)],[.own (ZdW)],fun a K=>splitK a fun a0 a=>ZB (Zbo a0) fun r=>K (r,()) ()⟩
noncomputable def Zcn (a0:Zb) (a1:Zf):Option Zb :=
 (ZdY a0).bind fun l07Own0 =>
 (Xu (Zb.Design l07Own0)).bind fun l05Places0 =>
 if Zf.Kind a1=1 then
 (atI l05Places0 (Zf.Place a1)).bind fun x0 =>
 (atI (Za.Instances (Zb.Design l07Own0)) (Ya.instance x0)).bind fun x1 =>
 some (Zb.Library l07Own0,(List.set (Za.Instances (Zb.Design l07Own0)) (Int.toNat (Ya.instance x0)) (x1.fst,Zf.Cell a1,x1.snd.snd),(Zb.Design l07Own0).snd),l07Own0.snd.snd)
 else
 if Zf.Kind a1=2 then
 (Zbm l07Own0 a1).bind fun l08Insert0 =>
 some l08Insert0
 else
 if Zf.Kind a1=3 then
 (Zbo l07Own0).bind fun l08Remove0 =>
 some l08Remove0
 else
 if Zf.Kind a1=4 then
 (Zau l07Own0).bind fun l08Nodes0 =>
 (atI l08Nodes0 (Zf.Place a1)).bind fun x0 =>
 (atI l05Places0 (Zf.Place a1)).bind fun x1 =>
 (Vz (Zb.Design l07Own0) x1 (Zf.Net a1)).bind fun l08Connect0 =>
 (XY (Zb.Library l07Own0,l08Connect0,l07Own0.snd.snd) (List.set l08Nodes0 (Int.toNat (Zf.Place a1)) (Zf.Node a1))).bind fun l08Attach0 =>
 some l08Attach0
 else
 if Zf.Kind a1=5 then
 (JR (Zf.Zeq a1)).bind fun l07OwnWire0 =>
 (atI (Zb.Zz l07Own0) (Zf.Net a1)).bind fun x0 =>
 some (Zb.Library l07Own0,Zb.Design l07Own0,List.set (Zb.Zz l07Own0) (Int.toNat (Zf.Net a1)) l07OwnWire0,())
 else
 some l07Own0
noncomputable def c83:Ctr:=⟨[.dat (Yr),.dat (VT)],[.own (ZdW)],fun a K=>splitK a fun a0 a=>splitK a fun a1 a=>ZB (Zcn a0 a1) fun r=>K (r,()) ()⟩
noncomputable def Zbh (b0:Zb) (e0:Zf):Option (Zb×Int) :=
 (Zcu b0 e0).bind fun EditCode0 =>
 if EditCode0=0 then
 (Zcn b0 e0).bind fun l08Apply0 =>
 some (l08Apply0,0)
 else
 some (((([]:List Zh),()),(([]:List Zd),([]:List (List UInt8)),([]:List ZU),()),([]:List Zn),()),EditCode0)
noncomputable def c84:Ctr:=⟨[.dat (Yr),.dat (VT)],[.own (ZdW),.dat (.int .i64)],fun a K=>splitK a fun b0 a=>splitK a fun e0 a=>ZB (Zbh b0 e0) fun r=>K (r.1,r.2,()) ()⟩
noncomputable def Yl (x0:Int) (low0:Int) (high0:Int):Option Bool :=
 if low0≤x0 then
 some (Decidable.decide (x0≤high0))
 else
 some Bool.false
noncomputable def c85:Ctr:=⟨[.dat (.int .i64),.dat (.int .i64),.dat (.int .i64)],[.dat (.bool)],fun a K=>splitK a fun x0 a=>splitK a fun low0 a=>splitK a fun high0 a=>ZB (Yl x0 low0 high0) fun r=>K (r,()) ()⟩
noncomputable def ZbZ (s0:List UInt8):Option Bool :=
 (Yl (↑(List.length s0):Int) 1 8).bind fun within0 =>
 if within0=true then
 ZA (List.length s0≤(1000000:Nat)) <|
 if Go.Lib.trimS s0 [(97:UInt8),(98:UInt8),(99:UInt8),(100:UInt8),(101:UInt8),(102:UInt8),(103:UInt8),(104:UInt8),(105:UInt8),(106:UInt8),(107:UInt8),(108:UInt8),(109:UInt8),(110:UInt8),(111:UInt8),(112:UInt8),(113:UInt8),(114:UInt8),(115:UInt8),(116:UInt8),(117:UInt8),(118:UInt8),(119:UInt8),(120:UInt8),(121:UInt8),(122:UInt8),(48:UInt8),(49:UInt8),(50:UInt8),(51:UInt8),(52:UInt8),(53:UInt8),(54:UInt8),(55:UInt8),(56:UInt8),(57:UInt8)]=([]:List UInt8) then
 (atI s0 0).bind fun x0 =>
 some (Decidable.decide ((0:Int)≤Go.Lib.indexByte [(97:UInt8),(98:UInt8),(99:UInt8),(100:UInt8),(101:UInt8),(102:UInt8),(103:UInt8),(104:UInt8),(105:UInt8),(106:UInt8),(107:UInt8),(108:UInt8),(109:UInt8),(110:UInt8),(111:UInt8),(112:UInt8),(113:UInt8),(114:UInt8),(115:UInt8),(116:UInt8),(117:UInt8),(118:UInt8),(119:UInt8),(120:UInt8),(121:UInt8),(122:UInt8)] (Nat.toUInt8 (Int.toNat (↑(UInt8.toNat x0):Int)))))
 else
 some Bool.false
 else
 some Bool.false
noncomputable def c86:Ctr:=⟨[.dat (.str)],[.dat (.bool)],fun a K=>splitK a fun s0 a=>ZB (ZbZ s0) fun r=>K (r,()) ()⟩
noncomputable def QM (list0:List Yu):Option Int :=
 some (↑(List.length list0):Int)
noncomputable def c87:Ctr:=⟨[.dat (.sl (V9))],[.dat (.int .i64)],fun a K=>splitK a fun list0 a=>ZB (QM list0) fun r=>K (r,()) ()⟩
noncomputable def Ym (s0:List (List UInt8)) (v0:List UInt8) (v1:Int):Option ((Int×Unit) ⊕ Int) :=
 if v1<(↑(List.length s0):Int) then
 (atI s0 v1).bind fun x0 =>
 if v0=x0 then
 some (.inr v1)
 else
 some (.inl (IntKind.i64.wrap (v1+1),()))
 else
 some (.inr (-1))
noncomputable def Yo (s0:List (List UInt8)) (v0:List UInt8):Option Int :=
 Zw (fun v=>Ym s0 v0 v.1) ((0:Int),())
noncomputable def c88:Ctr:=⟨[.dat (.sl (.str)),.dat (.str)],[.dat (.int .i64)],fun a K=>splitK a fun s0 a=>splitK a fun v0 a=>ZB (Yo s0 v0) fun r=>K (r,()) ()⟩
noncomputable def YM (s0:List (List UInt8)) (v0:List UInt8):Option Bool :=
 (Yo s0 v0).bind fun string0 =>
 some (Decidable.decide (0≤string0))
noncomputable def c89:Ctr:=⟨[.dat (.sl (.str)),.dat (.str)],[.dat (.bool)],fun a K=>splitK a fun s0 a=>splitK a fun v0 a=>ZB (YM s0 v0) fun r=>K (r,()) ()⟩
noncomputable def JG (list0:List (List UInt8)) (v0:Int):Option ((Int×Unit) ⊕ Bool) :=
 if v0<(↑(List.length list0):Int) then
 (atI list0 v0).bind fun x0 =>
 (ZbZ x0).bind fun isName0 =>
 if isName0=true then
 ZA ((0:Int)≤v0) <|
 ZA (v0≤(↑(List.length list0):Int)) <|
 (YM (List.take (Int.toNat v0-Int.toNat 0) (List.drop (Int.toNat 0) list0)) x0).bind fun string0 =>
 if string0=true then
 some (.inr Bool.false)
 else
 some (.inl (IntKind.i64.wrap (v0+1),()))
 else
 some (.inr Bool.false)
 else
 some (.inr Bool.true)
noncomputable def Vr (list0:List (List UInt8)):Option Bool :=
 Zw (fun v=>JG list0 v.1) ((0:Int),())
noncomputable def c90:Ctr:=⟨[.dat (.sl (.str))],[.dat (.bool)],fun a K=>splitK a fun list0 a=>ZB (Vr list0) fun r=>K (r,()) ()⟩
noncomputable def QA (list0:List Yu) (names0:List (List UInt8)) (v0:Int):Option (((List (List UInt8))×Int×Unit) ⊕ Bool) :=
 if v0<(↑(List.length list0):Int) then
 (atI list0 v0).bind fun x0 =>
 ZA ((List.length names0+List.length [Yu.Name x0])*(16:Nat)≤(140737488355328:Nat)) <|
 if v0=IntKind.i64.wrap ((↑(List.length list0):Int)-1) then
 if Yu.Dir x0=2 then
 if Yu.Cap x0=0 then
 if (Yu.Clock x0)=true then
 some (.inr Bool.false)
 else
 some (.inl (names0++[Yu.Name x0],IntKind.i64.wrap (v0+(1:Int)),()))
 else
 some (.inr Bool.false)
 else
 some (.inr Bool.false)
 else
 if Yu.Dir x0=1 then
 (Yl (Yu.Cap x0) 0 500).bind fun within0 =>
 if within0=true then
 some (.inl (names0++[Yu.Name x0],IntKind.i64.wrap (v0+(1:Int)),()))
 else
 some (.inr Bool.false)
 else
 some (.inr Bool.false)
 else
 (QM list0).bind fun Pin0 =>
 (Yl Pin0 2 5).bind fun within0 =>
 if within0=true then
 (Vr names0).bind fun areNames0 =>
 some (.inr areNames0)
 else
 some (.inr Bool.false)
noncomputable def Zc5 (list0:List Yu):Option Bool :=
 Zw (fun v=>QA list0 v.1 v.2.1) (([]:List (List UInt8)),(0:Int),())
noncomputable def c91:Ctr:=⟨[.dat (.sl (V9))],[.dat (.bool)],fun a K=>splitK a fun list0 a=>ZB (Zc5 list0) fun r=>K (r,()) ()⟩
noncomputable def Zdd (kind0:Int):Option Bool :=
 if kind0=4 then
 some Bool.true
 else
 some (Decidable.decide (kind0=5))
noncomputable def c92:Ctr:=⟨[.dat (.int .i64)],[.dat (.bool)],fun a K=>splitK a fun kind0 a=>ZB (Zdd kind0) fun r=>K (r,()) ()⟩
noncomputable def YH (list0:List Int):Option Int :=
 some (↑(List.length list0):Int)
noncomputable def c93:Ctr:=⟨[.dat (.sl (.int .i64))],[.dat (.int .i64)],fun a K=>splitK a fun list0 a=>ZB (YH list0) fun r=>K (r,()) ()⟩
noncomputable def ZaK (n0:Int) (a0:Int) (a1:Int):Option Bool :=
 (Yl n0 a0 a1).bind fun within0 =>
 some !within0
noncomputable def c94:Ctr:=⟨[.dat (.int .i64),.dat (.ptr (.int .i64)),.dat (.ptr (.int .i64))],[.dat (.bool)],fun a K=>splitK a fun n0 a=>splitK a fun a0 a=>splitK a fun a1 a=>ZB (ZaK n0 a0 a1) fun r=>K (r,()) ()⟩
noncomputable def Z9 (s0:List Int) (f0:Int×Int×Unit) (v0:Int):Option ((Int×Unit) ⊕ Int) :=
 if v0<(↑(List.length s0):Int) then
 (atI s0 v0).bind fun x0 =>
 (ZaK x0 f0.fst f0.snd.fst).bind fun c1_0 =>
 if c1_0=true then
 some (.inr v0)
 else
 some (.inl (IntKind.i64.wrap (v0+1),()))
 else
 some (.inr (-1))
noncomputable def Z6 (s0:List Int) (f0:Int×Int×Unit):Option Int :=
 Zw (fun v=>Z9 s0 f0 v.1) ((0:Int),())
noncomputable def c95:Ctr:=⟨[.dat (.sl (.int .i64)),.dat (.fn 191 (.pair (.ptr (.int .i64)) (.pair (.ptr (.int .i64)) (.unit))))],[.dat (.int .i64)],fun a K=>splitK a fun s0 a=>splitK a fun f0 a=>ZB (Z6 s0 f0) fun r=>K (r,()) ()⟩
noncomputable def Yd (s0:List Int) (f0:Int×Int×Unit):Option Bool :=
 (Z6 s0 f0).bind fun c1_0 =>
 some (Decidable.decide (0≤c1_0))
noncomputable def c96:Ctr:=⟨[.dat (.sl (.int .i64)),.dat (.fn 191 (.pair (.ptr (.int .i64)) (.pair (.ptr (.int .i64)) (.unit))))],[.dat (.bool)],fun a K=>splitK a fun s0 a=>splitK a fun f0 a=>ZB (Yd s0 f0) fun r=>K (r,()) ()⟩
noncomputable def Xt (list0:List Int) (low0:Int) (high0:Int):Option Bool :=
 (Yd list0 (low0,high0,())).bind fun c1_0 =>
 some !c1_0
noncomputable def c97:Ctr:=⟨[.dat (.sl (.int .i64)),.dat (.int .i64),.dat (.int .i64)],[.dat (.bool)],fun a K=>splitK a fun list0 a=>splitK a fun low0 a=>splitK a fun high0 a=>ZB (Xt list0 low0 high0) fun r=>K (r,()) ()⟩
noncomputable def Y4 (list0:List Int) (i0:Int):Option ((Int×Unit) ⊕ Bool) :=
 if i0<(↑(List.length list0):Int) then
 (atI list0 (IntKind.i64.wrap (i0-1))).bind fun x0 =>
 (atI list0 i0).bind fun x1 =>
 if x1≤x0 then
 some (.inr Bool.false)
 else
 some (.inl (IntKind.i64.wrap (i0+1),()))
 else
 some (.inr Bool.true)
noncomputable def Jr (list0:List Int):Option Bool :=
 Zw (fun v=>Y4 list0 v.1) ((1:Int),())
noncomputable def c98:Ctr:=⟨[.dat (.sl (.int .i64))],[.dat (.bool)],fun a K=>splitK a fun list0 a=>ZB (Jr list0) fun r=>K (r,()) ()⟩
noncomputable def ZcT (list0:List Int):Option Bool :=
 (YH list0).bind fun int64_0 =>
 (Yl int64_0 1 4).bind fun within0 =>
 if within0=true then
 (Xt list0 0 100000).bind fun areWithin0 =>
 if areWithin0=true then
 (Jr list0).bind fun isIncreasing0 =>
 some isIncreasing0
 else
 some Bool.false
 else
 some Bool.false
noncomputable def c99:Ctr:=⟨[.dat (.sl (.int .i64))],[.dat (.bool)],fun a K=>splitK a fun list0 a=>ZB (ZcT list0) fun r=>K (r,()) ()⟩
noncomputable def Zdb (t0:Zr):Option Bool :=
 (ZcT (Zr.Zfk t0)).bind fun isAxis0 =>
 if isAxis0=true then
 (ZcT (Zr.Loads t0)).bind fun isAxis1 =>
 if isAxis1=true then
 if (↑(List.length (Zr.Values t0)):Int)=IntKind.i64.wrap ((↑(List.length (Zr.Zfk t0)):Int)*(↑(List.length (Zr.Loads t0)):Int)) then
 (Xt (Zr.Values t0) (-1000000) 1000000).bind fun areWithin0 =>
 some areWithin0
 else
 some Bool.false
 else
 some Bool.false
 else
 some Bool.false
noncomputable def Zxw:Ctr:=⟨[.dat (Yf)],[.dat (.bool)],fun a K=>splitK a fun t0 a=>ZB (Zdb t0) fun r=>K (r,()) ()⟩
noncomputable def Y6 (x0:List Int) (m0:Int) (i0:Int):Option ((Int×Int×Unit) ⊕ Int) :=
 if i0<(↑(List.length x0):Int) then
 (atI x0 i0).bind fun x2 =>
 some (.inl (Min.min m0 x2,IntKind.i64.wrap (i0+1),()))
 else
 some (.inr m0)
noncomputable def XB (x0:List Int):Option Int :=
 if (↑(List.length x0):Int)<1 then
 none
 else
 (atI x0 0).bind fun x1 =>
 Zw (fun v=>Y6 x0 v.1 v.2.1) (x1,(1:Int),())
noncomputable def ZxV:Ctr:=⟨[.dat (.sl (.int .i64))],[.dat (.int .i64)],fun a K=>splitK a fun x0 a=>ZB (XB x0) fun r=>K (r,()) ()⟩
noncomputable def Qi (t0:Zr) (a0:Bool):Option Bool :=
 (Zdb t0).bind fun IsTable0 =>
 if IsTable0=true then
 if a0=true then
 (XB (Zr.Values t0)).bind fun int64_0 =>
 some (Decidable.decide (int64_0<0))
 else
 some Bool.false
 else
 some Bool.true
noncomputable def Zw0:Ctr:=⟨[.dat (Yf),.dat (.ptr (.bool))],[.dat (.bool)],fun a K=>splitK a fun t0 a=>splitK a fun a0 a=>ZB (Qi t0 a0) fun r=>K (r,()) ()⟩
noncomputable def ZO (s0:List Zr) (f0:Bool×Unit) (v0:Int):Option ((Int×Unit) ⊕ Int) :=
 if v0<(↑(List.length s0):Int) then
 (atI s0 v0).bind fun x0 =>
 (Qi x0 f0.fst).bind fun c1_0 =>
 if c1_0=true then
 some (.inr v0)
 else
 some (.inl (IntKind.i64.wrap (v0+1),()))
 else
 some (.inr (-1))
noncomputable def ZI (s0:List Zr) (f0:Bool×Unit):Option Int :=
 Zw (fun v=>ZO s0 f0 v.1) ((0:Int),())
noncomputable def Zyi:Ctr:=⟨[.dat (.sl (Yf)),.dat (.fn 276 (.pair (.ptr (.bool)) (.unit)))],[.dat (.int .i64)],fun a K=>splitK a fun s0 a=>splitK a fun f0 a=>ZB (ZI s0 f0) fun r=>K (r,()) ()⟩
noncomputable def ZF (s0:List Zr) (f0:Bool×Unit):Option Bool :=
 (ZI s0 f0).bind fun c1_0 =>
 some (Decidable.decide (0≤c1_0))
noncomputable def Zx1:Ctr:=⟨[.dat (.sl (Yf)),.dat (.fn 276 (.pair (.ptr (.bool)) (.unit)))],[.dat (.bool)],fun a K=>splitK a fun s0 a=>splitK a fun f0 a=>ZB (ZF s0 f0) fun r=>K (r,()) ()⟩
noncomputable def Jk (list0:List Zr) (positive0:Bool):Option Bool :=
 if (↑(List.length list0):Int)=2 then
 (ZF list0 (positive0,())).bind fun c1_0 =>
 some !c1_0
 else
 some Bool.false
noncomputable def c105:Ctr:=⟨[.dat (.sl (Yf)),.dat (.bool)],[.dat (.bool)],fun a K=>splitK a fun list0 a=>splitK a fun positive0 a=>ZB (Jk list0 positive0) fun r=>K (r,()) ()⟩
noncomputable def Zao (p0:Yu):Option Bool :=
 some (Yu.Clock p0)
noncomputable def ZxG:Ctr:=⟨[.dat (V9)],[.dat (.bool)],fun a K=>splitK a fun p0 a=>ZB (Zao p0) fun r=>K (r,()) ()⟩
noncomputable def ZW (s0:List Yu) (v0:Int):Option ((Int×Unit) ⊕ Int) :=
 if v0<(↑(List.length s0):Int) then
 (atI s0 v0).bind fun x0 =>
 (Zao x0).bind fun c1_0 =>
 if c1_0=true then
 some (.inr v0)
 else
 some (.inl (IntKind.i64.wrap (v0+1),()))
 else
 some (.inr (-1))
noncomputable def ZN (s0:List Yu) (f0:Unit):Option Int :=
 Zw (fun v=>ZW s0 v.1) ((0:Int),())
noncomputable def c107:Ctr:=⟨[.dat (.sl (V9)),.dat (.fn 280 (.unit))],[.dat (.int .i64)],fun a K=>splitK a fun s0 a=>splitK a fun f0 a=>ZB (ZN s0 f0) fun r=>K (r,()) ()⟩
noncomputable def ZaQ (c0:Zh):Option Int :=
 (ZN (Zh.Yy c0) ()).bind fun c1_0 =>
 some c1_0
noncomputable def ZxB:Ctr:=⟨[.dat (YL)],[.dat (.int .i64)],fun a K=>splitK a fun c0 a=>ZB (ZaQ c0) fun r=>K (r,()) ()⟩
noncomputable def VQ (c0:Zh):Option Int :=
 (QM (Zh.Yy c0)).bind fun Pin0 =>
 some (IntKind.i64.wrap (Pin0-1))
noncomputable def c109:Ctr:=⟨[.dat (YL)],[.dat (.int .i64)],fun a K=>splitK a fun c0 a=>ZB (VQ c0) fun r=>K (r,()) ()⟩
noncomputable def Vd (c0:Zh) (pin0:Int):Option Bool :=
 (VQ c0).bind fun output0 =>
 (Yl pin0 0 (IntKind.i64.wrap (output0-1))).bind fun within0 =>
 some within0
noncomputable def ZxS:Ctr:=⟨[.dat (YL),.dat (.int .i64)],[.dat (.bool)],fun a K=>splitK a fun c0 a=>splitK a fun pin0 a=>ZB (Vd c0 pin0) fun r=>K (r,()) ()⟩
noncomputable def ZaI (a0:Zh) (a1:ZM):Option Bool :=
 (Zdd (ZM.Kind a1)).bind fun isCheck0 =>
 if isCheck0=true then
 if ZM.Zb5 a1=0 then
 if (↑(List.length (ZM.Zhn a1)):Int)=0 then
 (Jk (ZM.Delay a1) Bool.false).bind fun areTables0 =>
 if areTables0=true then
 (ZaQ a0).bind fun clock0 =>
 if ZM.From a1=clock0 then
 if 0≤ZM.From a1 then
 (Vd a0 (ZM.To a1)).bind fun isInput0 =>
 if isInput0=true then
 some (!Decidable.decide (ZM.To a1=ZM.From a1))
 else
 some Bool.false
 else
 some Bool.false
 else
 some Bool.false
 else
 some Bool.false
 else
 some Bool.false
 else
 some Bool.false
 else
 (Jk (ZM.Delay a1) Bool.true).bind fun areTables0 =>
 if areTables0=true then
 (Jk (ZM.Zhn a1) Bool.true).bind fun areTables1 =>
 if areTables1=true then
 (VQ a0).bind fun output0 =>
 if ZM.To a1=output0 then
 (Vd a0 (ZM.From a1)).bind fun isInput0 =>
 if isInput0=true then
 if ZM.Kind a1=1 then
 (atI (Zh.Yy a0) (ZM.From a1)).bind fun x0 =>
 if (Yu.Clock x0)=true then
 some Bool.false
 else
 (Yl (ZM.Zb5 a1) 1 3).bind fun within0 =>
 some within0
 else
 if ZM.Kind a1=2 then
 if ZM.Kind a1=2 then
 (atI (Zh.Yy a0) (ZM.From a1)).bind fun x0 =>
 if (Yu.Clock x0)=true then
 some (Decidable.decide (ZM.Zb5 a1=0))
 else
 some Bool.false
 else
 some Bool.false
 else
 if ZM.Kind a1=3 then
 (atI (Zh.Yy a0) (ZM.From a1)).bind fun x0 =>
 if (Yu.Clock x0)=true then
 some (Decidable.decide (ZM.Zb5 a1=0))
 else
 some Bool.false
 else
 some Bool.false
 else
 some Bool.false
 else
 some Bool.false
 else
 some Bool.false
 else
 some Bool.false
noncomputable def Zyd:Ctr:=⟨[.dat (YL),.dat (Zaw)],[.dat (.bool)],fun a K=>splitK a fun a0 a=>splitK a fun a1 a=>ZB (ZaI a0 a1) fun r=>K (r,()) ()⟩
noncomputable def Xb (o0:ZM) (a0:ZM):Option Bool :=
 if ZM.Kind o0=ZM.Kind a0 then
 if ZM.From o0=ZM.From a0 then
 some (Decidable.decide (ZM.To o0=ZM.To a0))
 else
 some Bool.false
 else
 some Bool.false
noncomputable def ZxK:Ctr:=⟨[.dat (Zaw),.dat (.ptr (Zaw))],[.dat (.bool)],fun a K=>splitK a fun o0 a=>splitK a fun a0 a=>ZB (Xb o0 a0) fun r=>K (r,()) ()⟩
noncomputable def ZP (s0:List ZM) (f0:ZM×Unit) (v0:Int):Option ((Int×Unit) ⊕ Int) :=
 if v0<(↑(List.length s0):Int) then
 (atI s0 v0).bind fun x0 =>
 (Xb x0 f0.fst).bind fun c1_0 =>
 if c1_0=true then
 some (.inr v0)
 else
 some (.inl (IntKind.i64.wrap (v0+1),()))
 else
 some (.inr (-1))
noncomputable def ZJ (s0:List ZM) (f0:ZM×Unit):Option Int :=
 Zw (fun v=>ZP s0 f0 v.1) ((0:Int),())
noncomputable def Zxn:Ctr:=⟨[.dat (.sl (Zaw)),.dat (.fn 247 (.pair (.ptr (Zaw)) (.unit)))],[.dat (.int .i64)],fun a K=>splitK a fun s0 a=>splitK a fun f0 a=>ZB (ZJ s0 f0) fun r=>K (r,()) ()⟩
noncomputable def ZG (s0:List ZM) (f0:ZM×Unit):Option Bool :=
 (ZJ s0 f0).bind fun c1_0 =>
 some (Decidable.decide (0≤c1_0))
noncomputable def Zxu:Ctr:=⟨[.dat (.sl (Zaw)),.dat (.fn 247 (.pair (.ptr (Zaw)) (.unit)))],[.dat (.bool)],fun a K=>splitK a fun s0 a=>splitK a fun f0 a=>ZB (ZG s0 f0) fun r=>K (r,()) ()⟩
noncomputable def Qy (c0:Zh) (v0:Int):Option ((Int×Unit) ⊕ Bool) :=
 if v0<(↑(List.length (Zh.ZaS c0)):Int) then
 (atI (Zh.ZaS c0) v0).bind fun x0 =>
 (ZaI c0 x0).bind fun isArc0 =>
 if isArc0=true then
 ZA ((0:Int)≤v0) <|
 ZA (v0≤(↑(List.length (Zh.ZaS c0)):Int)) <|
 (ZG (List.take (Int.toNat v0-Int.toNat 0) (List.drop (Int.toNat 0) (Zh.ZaS c0))) (x0,())).bind fun c1_0 =>
 if c1_0=true then
 some (.inr Bool.false)
 else
 some (.inl (IntKind.i64.wrap (v0+1),()))
 else
 some (.inr Bool.false)
 else
 some (.inr (Decidable.decide ((↑(List.length (Zh.ZaS c0)):Int)≤8)))
noncomputable def Jm (c0:Zh):Option Bool :=
 Zw (fun v=>Qy c0 v.1) ((0:Int),())
noncomputable def Zxc:Ctr:=⟨[.dat (YL)],[.dat (.bool)],fun a K=>splitK a fun c0 a=>ZB (Jm c0) fun r=>K (r,()) ()⟩
noncomputable def Zaa (a0:ZM) (a1:Int):Option Bool :=
 some (Decidable.decide (ZM.Kind a0=a1))
noncomputable def c116:Ctr:=⟨[.dat (Zaw),.dat (.ptr (.int .i64))],[.dat (.bool)],fun a K=>splitK a fun a0 a=>splitK a fun a1 a=>ZB (Zaa a0 a1) fun r=>K (r,()) ()⟩
noncomputable def ZX (s0:List ZM) (f0:Int×Unit) (v0:Int):Option ((Int×Unit) ⊕ Int) :=
 if v0<(↑(List.length s0):Int) then
 (atI s0 v0).bind fun x0 =>
 (Zaa x0 f0.fst).bind fun c1_0 =>
 if c1_0=true then
 some (.inr v0)
 else
 some (.inl (IntKind.i64.wrap (v0+1),()))
 else
 some (.inr (-1))
noncomputable def ZT (s0:List ZM) (f0:Int×Unit):Option Int :=
 Zw (fun v=>ZX s0 f0 v.1) ((0:Int),())
noncomputable def c117:Ctr:=⟨[.dat (.sl (Zaw)),.dat (.fn 266 (.pair (.ptr (.int .i64)) (.unit)))],[.dat (.int .i64)],fun a K=>splitK a fun s0 a=>splitK a fun f0 a=>ZB (ZT s0 f0) fun r=>K (r,()) ()⟩
noncomputable def ZK (s0:List ZM) (f0:Int×Unit):Option Bool :=
 (ZT s0 f0).bind fun c1_0 =>
 some (Decidable.decide (0≤c1_0))
noncomputable def ZxM:Ctr:=⟨[.dat (.sl (Zaw)),.dat (.fn 266 (.pair (.ptr (.int .i64)) (.unit)))],[.dat (.bool)],fun a K=>splitK a fun s0 a=>splitK a fun f0 a=>ZB (ZK s0 f0) fun r=>K (r,()) ()⟩
noncomputable def QG (c0:Zh) (kind0:Int):Option Bool :=
 (ZK (Zh.ZaS c0) (kind0,())).bind fun c1_0 =>
 some c1_0
noncomputable def c119:Ctr:=⟨[.dat (YL),.dat (.int .i64)],[.dat (.bool)],fun a K=>splitK a fun c0 a=>splitK a fun kind0 a=>ZB (QG c0 kind0) fun r=>K (r,()) ()⟩
noncomputable def Y0 (a0:Zh) (v0:Int) (v1:Int):Option ((Int×Int×Unit) ⊕ Bool) :=
 if v1<(↑(List.length (Zh.Yy a0)):Int) then
 (atI (Zh.Yy a0) v1).bind fun x0 =>
 if (Yu.Clock x0)=true then
 some (.inl (IntKind.i64.wrap (v0+1),IntKind.i64.wrap (v1+1),()))
 else
 some (.inl (v0,IntKind.i64.wrap (v1+1),()))
 else
 if Zh.Kind a0=1 then
 if v0=0 then
 (VQ a0).bind fun output0 =>
 ZA ((0:Int)≤output0) <|
 if (↑(List.length (Zh.Truth a0)):Int)=IntKind.i64.wrap (1*2 ^ Min.min (Int.toNat output0) (IntKind.bits IntKind.i64)) then
 (Xt (Zh.Truth a0) 0 1).bind fun areWithin0 =>
 some (.inr areWithin0)
 else
 some (.inr Bool.false)
 else
 some (.inr Bool.false)
 else
 if Zh.Kind a0=2 then
 if v0=1 then
 if (↑(List.length (Zh.Truth a0)):Int)=0 then
 (QG a0 1).bind fun has0 =>
 if has0=true then
 some (.inr Bool.false)
 else
 (QG a0 2).bind fun has1 =>
 (QG a0 3).bind fun has2 =>
 some (.inr (!has1 == has2))
 else
 some (.inr Bool.false)
 else
 some (.inr Bool.false)
 else
 if Zh.Kind a0=3 then
 if v0=1 then
 if (↑(List.length (Zh.Truth a0)):Int)=0 then
 (QG a0 1).bind fun has0 =>
 if has0=true then
 (QG a0 2).bind fun has1 =>
 if has1=true then
 (QG a0 3).bind fun has2 =>
 some (.inr !has2)
 else
 some (.inr Bool.false)
 else
 some (.inr Bool.false)
 else
 some (.inr Bool.false)
 else
 some (.inr Bool.false)
 else
 some (.inr Bool.false)
noncomputable def VG (a0:Zh):Option Bool :=
 Zw (fun v=>Y0 a0 v.1 v.2.1) ((0:Int),(0:Int),())
noncomputable def Zw2:Ctr:=⟨[.dat (YL)],[.dat (.bool)],fun a K=>splitK a fun a0 a=>ZB (VG a0) fun r=>K (r,()) ()⟩
noncomputable def Zd3 (c0:Zh):Option Bool :=
 (ZbZ (Zh.Name c0)).bind fun isName0 =>
 if isName0=true then
 (Zc5 (Zh.Yy c0)).bind fun arePins0 =>
 if arePins0=true then
 (Jm c0).bind fun areArcs0 =>
 if areArcs0=true then
 (Yl (Zh.ZrB c0) 0 100000).bind fun within0 =>
 if within0=true then
 (Yl (Zh.Zgy c0) 0 100000).bind fun within1 =>
 if within1=true then
 (VG c0).bind fun isOfKind0 =>
 some isOfKind0
 else
 some Bool.false
 else
 some Bool.false
 else
 some Bool.false
 else
 some Bool.false
 else
 some Bool.false
noncomputable def Zxj:Ctr:=⟨[.dat (YL)],[.dat (.bool)],fun a K=>splitK a fun c0 a=>ZB (Zd3 c0) fun r=>K (r,()) ()⟩
noncomputable def XG (l0:Zl) (names0:List (List UInt8)) (v0:Int):Option (((List (List UInt8))×Int×Unit) ⊕ Bool) :=
 if v0<(↑(List.length (Zl.Cells l0)):Int) then
 (atI (Zl.Cells l0) v0).bind fun x0 =>
 (Zd3 x0).bind fun IsCell0 =>
 if IsCell0=true then
 ZA ((List.length names0+List.length [Zh.Name x0])*(16:Nat)≤(140737488355328:Nat)) <|
 some (.inl (names0++[Zh.Name x0],IntKind.i64.wrap (v0+(1:Int)),()))
 else
 some (.inr Bool.false)
 else
 if (↑(List.length (Zl.Cells l0)):Int)≤8 then
 (Vr names0).bind fun areNames0 =>
 some (.inr areNames0)
 else
 some (.inr Bool.false)
noncomputable def Zbj (l0:Zl):Option Bool :=
 Zw (fun v=>XG l0 v.1 v.2.1) (([]:List (List UInt8)),(0:Int),())
noncomputable def Zw3:Ctr:=⟨[.dat (Z0)],[.dat (.bool)],fun a K=>splitK a fun l0 a=>ZB (Zbj l0) fun r=>K (r,()) ()⟩
noncomputable def XD (d0:Za) (instances0:List (List UInt8)) (ports0:List (List UInt8)) (v1:Int):Option (((List (List UInt8))×Int×Unit) ⊕ (((List (List UInt8))×Int×Unit) ⊕ Bool)) :=
 if v1<(↑(List.length (Za.Z5 d0)):Int) then
 (atI (Za.Z5 d0) v1).bind fun x0 =>
 ZA ((List.length ports0+List.length [ZU.Name x0])*(16:Nat)≤(140737488355328:Nat)) <|
 some (.inl (ports0++[ZU.Name x0],IntKind.i64.wrap (v1+(1:Int)),()))
 else
 if (↑(List.length instances0):Int)≤14 then
 if (↑(List.length (Za.ZQ d0)):Int)≤30 then
 if (↑(List.length ports0):Int)≤8 then
 (Vr instances0).bind fun areNames0 =>
 if areNames0=true then
 (Vr (Za.ZQ d0)).bind fun areNames1 =>
 if areNames1=true then
 (Vr ports0).bind fun areNames2 =>
 some (.inr (.inr areNames2))
 else
 some (.inr (.inr Bool.false))
 else
 some (.inr (.inr Bool.false))
 else
 some (.inr (.inr Bool.false))
 else
 some (.inr (.inr Bool.false))
 else
 some (.inr (.inr Bool.false))
noncomputable def XE (d0:Za) (instances0:List (List UInt8)) (v0:Int):Option (((List (List UInt8))×Int×Unit) ⊕ Bool) :=
 if v0<(↑(List.length (Za.Instances d0)):Int) then
 (atI (Za.Instances d0) v0).bind fun x0 =>
 ZA ((List.length instances0+List.length [Zd.Name x0])*(16:Nat)≤(140737488355328:Nat)) <|
 some (.inl (instances0++[Zd.Name x0],IntKind.i64.wrap (v0+(1:Int)),()))
 else
 Zw (fun v=>XD d0 instances0 v.1 v.2.1) (([]:List (List UInt8)),(0:Int),())
noncomputable def QT (d0:Za):Option Bool :=
 Zw (fun v=>XE d0 v.1 v.2.1) (([]:List (List UInt8)),(0:Int),())
noncomputable def Zyj:Ctr:=⟨[.dat (Z8)],[.dat (.bool)],fun a K=>splitK a fun d0 a=>ZB (QT d0) fun r=>K (r,()) ()⟩
noncomputable def Y2 (list0:List Zh):Option Int :=
 some (↑(List.length list0):Int)
noncomputable def c124:Ctr:=⟨[.dat (.sl (YL))],[.dat (.int .i64)],fun a K=>splitK a fun list0 a=>ZB (Y2 list0) fun r=>K (r,()) ()⟩
noncomputable def YQ (list0:List (List UInt8)):Option Int :=
 some (↑(List.length list0):Int)
noncomputable def Zvp:Ctr:=⟨[.dat (.sl (.str))],[.dat (.int .i64)],fun a K=>splitK a fun list0 a=>ZB (YQ list0) fun r=>K (r,()) ()⟩
noncomputable def YD (d0:Za) (net0:Int):Option Bool :=
 (YQ (Za.ZQ d0)).bind fun string0 =>
 (Yl net0 0 (IntKind.i64.wrap (string0-1))).bind fun within0 =>
 some within0
noncomputable def ZvD:Ctr:=⟨[.dat (Z8),.dat (.int .i64)],[.dat (.bool)],fun a K=>splitK a fun d0 a=>splitK a fun net0 a=>ZB (YD d0 net0) fun r=>K (r,()) ()⟩
noncomputable def YT (net0:Int) (a0:Za):Option Bool :=
 (YD a0 net0).bind fun isNet0 =>
 some !isNet0
noncomputable def c127:Ctr:=⟨[.dat (.int .i64),.dat (.ptr (Z8))],[.dat (.bool)],fun a K=>splitK a fun net0 a=>splitK a fun a0 a=>ZB (YT net0 a0) fun r=>K (r,()) ()⟩
noncomputable def ZR (s0:List Int) (f0:Za×Unit) (v0:Int):Option ((Int×Unit) ⊕ Int) :=
 if v0<(↑(List.length s0):Int) then
 (atI s0 v0).bind fun x0 =>
 (YT x0 f0.fst).bind fun c1_0 =>
 if c1_0=true then
 some (.inr v0)
 else
 some (.inl (IntKind.i64.wrap (v0+1),()))
 else
 some (.inr (-1))
noncomputable def ZL (s0:List Int) (f0:Za×Unit):Option Int :=
 Zw (fun v=>ZR s0 f0 v.1) ((0:Int),())
noncomputable def ZxU:Ctr:=⟨[.dat (.sl (.int .i64)),.dat (.fn 189 (.pair (.ptr (Z8)) (.unit)))],[.dat (.int .i64)],fun a K=>splitK a fun s0 a=>splitK a fun f0 a=>ZB (ZL s0 f0) fun r=>K (r,()) ()⟩
noncomputable def ZH (s0:List Int) (f0:Za×Unit):Option Bool :=
 (ZL s0 f0).bind fun c1_0 =>
 some (Decidable.decide (0≤c1_0))
noncomputable def Zw7:Ctr:=⟨[.dat (.sl (.int .i64)),.dat (.fn 189 (.pair (.ptr (Z8)) (.unit)))],[.dat (.bool)],fun a K=>splitK a fun s0 a=>splitK a fun f0 a=>ZB (ZH s0 f0) fun r=>K (r,()) ()⟩
noncomputable def XQ (d0:Za) (l0:Zl) (x0:Zd):Option Bool :=
 (Y2 (Zl.Cells l0)).bind fun Cell0 =>
 (Yl (Zd.Cell x0) 0 (IntKind.i64.wrap (Cell0-1))).bind fun within0 =>
 if within0=true then
 (atI (Zl.Cells l0) (Zd.Cell x0)).bind fun x1 =>
 if (↑(List.length (Zd.ZQ x0)):Int)=(↑(List.length (Zh.Yy x1)):Int) then
 (ZH (Zd.ZQ x0) (d0,())).bind fun c1_0 =>
 some !c1_0
 else
 some Bool.false
 else
 some Bool.false
noncomputable def c130:Ctr:=⟨[.dat (Z8),.dat (Z0),.dat (Zv)],[.dat (.bool)],fun a K=>splitK a fun d0 a=>splitK a fun l0 a=>splitK a fun x0 a=>ZB (XQ d0 l0 x0) fun r=>K (r,()) ()⟩
noncomputable def J8 (n0:Int):Option Bool :=
 some (!Decidable.decide (n0=1))
noncomputable def c131:Ctr:=⟨[.dat (.int .i64)],[.dat (.bool)],fun a K=>splitK a fun n0 a=>ZB (J8 n0) fun r=>K (r,()) ()⟩
noncomputable def Yg (s0:List Int) (v0:Int):Option ((Int×Unit) ⊕ Int) :=
 if v0<(↑(List.length s0):Int) then
 (atI s0 v0).bind fun x0 =>
 (J8 x0).bind fun c1_0 =>
 if c1_0=true then
 some (.inr v0)
 else
 some (.inl (IntKind.i64.wrap (v0+1),()))
 else
 some (.inr (-1))
noncomputable def Ye (s0:List Int) (f0:Unit):Option Int :=
 Zw (fun v=>Yg s0 v.1) ((0:Int),())
noncomputable def Zyc:Ctr:=⟨[.dat (.sl (.int .i64)),.dat (.fn 135 (.unit))],[.dat (.int .i64)],fun a K=>splitK a fun s0 a=>splitK a fun f0 a=>ZB (Ye s0 f0) fun r=>K (r,()) ()⟩
noncomputable def Yb (s0:List Int) (f0:Unit):Option Bool :=
 (Ye s0 ()).bind fun c1_0 =>
 some (Decidable.decide (0≤c1_0))
noncomputable def ZxO:Ctr:=⟨[.dat (.sl (.int .i64)),.dat (.fn 135 (.unit))],[.dat (.bool)],fun a K=>splitK a fun s0 a=>splitK a fun f0 a=>ZB (Yb s0 f0) fun r=>K (r,()) ()⟩
noncomputable def Qe (a1:Za) (v1:Int) (l1:List Int):Option ((Int×(List Int)×Unit) ⊕ ((Int×(List Int)×Unit) ⊕ Bool)) :=
 if v1<(↑(List.length (Za.Z5 a1)):Int) then
 (atI (Za.Z5 a1) v1).bind fun x0 =>
 if ZU.Dir x0=1 then
 (YD a1 (ZU.Net x0)).bind fun isNet0 =>
 if isNet0=true then
 if ZU.Dir x0=1 then
 (atI l1 (ZU.Net x0)).bind fun x1 =>
 some (.inl (IntKind.i64.wrap (v1+1),List.set l1 (Int.toNat (ZU.Net x0)) (IntKind.i64.wrap (x1+1)),()))
 else
 some (.inl (IntKind.i64.wrap (v1+1),l1,()))
 else
 some (.inr (.inr Bool.false))
 else
 if ZU.Dir x0=2 then
 (YD a1 (ZU.Net x0)).bind fun isNet0 =>
 if isNet0=true then
 if ZU.Dir x0=1 then
 (atI l1 (ZU.Net x0)).bind fun x1 =>
 some (.inl (IntKind.i64.wrap (v1+1),List.set l1 (Int.toNat (ZU.Net x0)) (IntKind.i64.wrap (x1+1)),()))
 else
 some (.inl (IntKind.i64.wrap (v1+1),l1,()))
 else
 some (.inr (.inr Bool.false))
 else
 some (.inr (.inr Bool.false))
 else
 (Yb l1 ()).bind fun c1_0 =>
 some (.inr (.inr !c1_0))
noncomputable def Vl (a0:Zl) (a1:Za) (v0:Int) (l0:List Int):Option ((Int×(List Int)×Unit) ⊕ Bool) :=
 if v0<(↑(List.length (Za.Instances a1)):Int) then
 (atI (Za.Instances a1) v0).bind fun x0 =>
 (XQ a1 a0 x0).bind fun isInstance0 =>
 if isInstance0=true then
 (atI (Zd.ZQ x0) (IntKind.i64.wrap ((↑(List.length (Zd.ZQ x0)):Int)-1))).bind fun x1 =>
 (atI l0 x1).bind fun x2 =>
 some (.inl (IntKind.i64.wrap (v0+1),List.set l0 (Int.toNat x1) (IntKind.i64.wrap (x2+1)),()))
 else
 some (.inr Bool.false)
 else
 Zw (fun v=>Qe a1 v.1 v.2.1) ((0:Int),l0,())
noncomputable def Zcy (a0:Zl) (a1:Za):Option Bool :=
 (Zbj a0).bind fun IsLibrary0 =>
 if IsLibrary0=true then
 (QT a1).bind fun hasNames0 =>
 if hasNames0=true then
 ZA ((0:Int)≤(↑(List.length (Za.ZQ a1)):Int)) <|
 ZA ((↑(List.length (Za.ZQ a1)):Int)≤(↑(List.length (Za.ZQ a1)):Int)) <|
 ZA ((↑(List.length (Za.ZQ a1)):Int)≤(4611686018427387904:Int)) <|
 ZA ((↑(8:Nat):Int)*(↑(List.length (Za.ZQ a1)):Int)≤(281474976710656:Int)) <|
 Zw (fun v=>Vl a0 a1 v.1 v.2.1) ((0:Int),List.replicate (Int.toNat (↑(List.length (Za.ZQ a1)):Int)) (0:Int),())
 else
 some Bool.false
 else
 some Bool.false
noncomputable def Zyt:Ctr:=⟨[.dat (Z0),.dat (Z8)],[.dat (.bool)],fun a K=>splitK a fun a0 a=>splitK a fun a1 a=>ZB (Zcy a0 a1) fun r=>K (r,()) ()⟩
noncomputable def Qk (v0:Int) (x0:Zd) (list1:List Yh) (v1:Int):Option (((List Yh)×Int×Unit) ⊕ (((List Yh)×Int×Unit) ⊕ List Yh)) :=
 if v1<(↑(List.length (Zd.ZQ x0)):Int) then
 (atI (Zd.ZQ x0) v1).bind fun x1 =>
 ZA ((List.length list1+List.length [(v0,v1,x1,Decidable.decide (v1=IntKind.i64.wrap ((↑(List.length (Zd.ZQ x0)):Int)-(1:Int))),())])*(32:Nat)≤(140737488355328:Nat)) <|
 some (.inl (list1++[(v0,v1,x1,Decidable.decide (v1=IntKind.i64.wrap ((↑(List.length (Zd.ZQ x0)):Int)-(1:Int))),())],IntKind.i64.wrap (v1+(1:Int)),()))
 else
 some (.inr (.inl (list1,IntKind.i64.wrap (v0+1),())))
noncomputable def Qm (d0:Za) (list1:List Yh) (v1:Int):Option (((List Yh)×Int×Unit) ⊕ (((List Yh)×Int×Unit) ⊕ List Yh)) :=
 if v1<(↑(List.length (Za.Z5 d0)):Int) then
 (atI (Za.Z5 d0) v1).bind fun x0 =>
 ZA ((List.length list1+List.length [((-1:Int),v1,ZU.Net x0,Decidable.decide (ZU.Dir x0=(1:Int)),())])*(32:Nat)≤(140737488355328:Nat)) <|
 some (.inl (list1++[((-1:Int),v1,ZU.Net x0,Decidable.decide (ZU.Dir x0=(1:Int)),())],IntKind.i64.wrap (v1+(1:Int)),()))
 else
 some (.inr (.inr list1))
noncomputable def Qq (d0:Za) (list0:List Yh) (v0:Int):Option (((List Yh)×Int×Unit) ⊕ List Yh) :=
 if v0<(↑(List.length (Za.Instances d0)):Int) then
 (atI (Za.Instances d0) v0).bind fun x0 =>
 Zw (fun v=>Qk v0 x0 v.1 v.2.1) (list0,(0:Int),())
 else
 Zw (fun v=>Qm d0 v.1 v.2.1) (list0,(0:Int),())
noncomputable def Yn (d0:Za):Option (List Yh) :=
 Zw (fun v=>Qq d0 v.1 v.2.1) (([]:List Yh),(0:Int),())
noncomputable def Zr6:Ctr:=⟨[.dat (Z8)],[.own (.ol 115 (.flat (Zmh)))],fun a K=>splitK a fun d0 a=>ZB (Yn d0) fun r=>K (r,()) ()⟩
noncomputable def Q7 (w0:Zn) (v0:Int):Option ((Int×Unit) ⊕ Bool) :=
 if v0<(↑(List.length (Zn.Parent w0)):Int) then
 (atI (Zn.Parent w0) v0).bind fun x0 =>
 if v0=0 then
 if x0=(-1) then
 (atI (Zn.Res w0) 0).bind fun x1 =>
 if x1=0 then
 if 0<v0 then
 (Yl x0 0 (IntKind.i64.wrap (v0-1))).bind fun within0 =>
 if within0=true then
 some (.inl (IntKind.i64.wrap (v0+1),()))
 else
 some (.inr Bool.false)
 else
 some (.inl (IntKind.i64.wrap (v0+1),()))
 else
 some (.inr Bool.false)
 else
 some (.inr Bool.false)
 else
 if 0<v0 then
 (Yl x0 0 (IntKind.i64.wrap (v0-1))).bind fun within0 =>
 if within0=true then
 some (.inl (IntKind.i64.wrap (v0+1),()))
 else
 some (.inr Bool.false)
 else
 some (.inl (IntKind.i64.wrap (v0+1),()))
 else
 some (.inr Bool.true)
noncomputable def Zad (w0:Zn):Option Bool :=
 Zw (fun v=>Q7 w0 v.1) ((0:Int),())
noncomputable def Zx2:Ctr:=⟨[.dat (YJ)],[.dat (.bool)],fun a K=>splitK a fun w0 a=>ZB (Zad w0) fun r=>K (r,()) ()⟩
noncomputable def ZcZ (w0:Zn) (sinks0:Int):Option Bool :=
 (YH (Zn.Parent w0)).bind fun int64_0 =>
 (Yl int64_0 1 8).bind fun within0 =>
 if within0=true then
 (YH (Zn.Res w0)).bind fun int64_1 =>
 if int64_1=int64_0 then
 (YH (Zn.Cap w0)).bind fun int64_2 =>
 if int64_2=int64_0 then
 (Zad w0).bind fun isTree0 =>
 if isTree0=true then
 (Xt (Zn.Res w0) 0 1000).bind fun areWithin0 =>
 if areWithin0=true then
 (Xt (Zn.Cap w0) 0 500).bind fun areWithin1 =>
 if areWithin1=true then
 (YH (Zn.Zfp w0)).bind fun int64_3 =>
 if int64_3=sinks0 then
 (Xt (Zn.Zfp w0) 0 (IntKind.i64.wrap (int64_0-1))).bind fun areWithin2 =>
 some areWithin2
 else
 some Bool.false
 else
 some Bool.false
 else
 some Bool.false
 else
 some Bool.false
 else
 some Bool.false
 else
 some Bool.false
 else
 some Bool.false
noncomputable def Zwg:Ctr:=⟨[.dat (YJ),.dat (.int .i64)],[.dat (.bool)],fun a K=>splitK a fun w0 a=>splitK a fun sinks0 a=>ZB (ZcZ w0 sinks0) fun r=>K (r,()) ()⟩
noncomputable def Zat (b0:Zb) (l0:List Int) (v1:Int):Option ((Int×Unit) ⊕ ((Int×(List Int)×Unit) ⊕ Bool)) :=
 if v1<(↑(List.length (Zb.Zz b0)):Int) then
 (atI (Zb.Zz b0) v1).bind fun x0 =>
 (atI l0 v1).bind fun x1 =>
 (ZcZ x0 x1).bind fun IsWire0 =>
 if IsWire0=true then
 some (.inl (IntKind.i64.wrap (v1+1),()))
 else
 some (.inr (.inr Bool.false))
 else
 some (.inr (.inr Bool.true))
noncomputable def VH (b0:Zb) (places0:List Yh) (v0:Int) (l0:List Int):Option ((Int×(List Int)×Unit) ⊕ Bool) :=
 if v0<(↑(List.length places0):Int) then
 (atI places0 v0).bind fun x0 =>
 if (Yh.drives x0)=true then
 some (.inl (IntKind.i64.wrap (v0+1),l0,()))
 else
 (atI l0 (Yh.net x0)).bind fun x1 =>
 some (.inl (IntKind.i64.wrap (v0+1),List.set l0 (Int.toNat (Yh.net x0)) (IntKind.i64.wrap (x1+1)),()))
 else
 Zw (fun v=>Zat b0 l0 v.1) ((0:Int),())
noncomputable def Zc6 (b0:Zb):Option Bool :=
 (Zcy (Zb.Library b0) (Zb.Design b0)).bind fun IsDesign0 =>
 if IsDesign0=true then
 if (↑(List.length (Zb.Zz b0)):Int)=(↑(List.length (Za.ZQ (Zb.Design b0))):Int) then
 ZA ((0:Int)≤(↑(List.length (Zb.Zz b0)):Int)) <|
 ZA ((↑(List.length (Zb.Zz b0)):Int)≤(↑(List.length (Zb.Zz b0)):Int)) <|
 ZA ((↑(List.length (Zb.Zz b0)):Int)≤(4611686018427387904:Int)) <|
 ZA ((↑(8:Nat):Int)*(↑(List.length (Zb.Zz b0)):Int)≤(281474976710656:Int)) <|
 (Yn (Zb.Design b0)).bind fun places0 =>
 Zw (fun v=>VH b0 places0 v.1 v.2.1) ((0:Int),List.replicate (Int.toNat (↑(List.length (Zb.Zz b0)):Int)) (0:Int),())
 else
 some Bool.false
 else
 some Bool.false
noncomputable def c138:Ctr:=⟨[.dat (Yr)],[.dat (.bool)],fun a K=>splitK a fun b0 a=>ZB (Zc6 b0) fun r=>K (r,()) ()⟩
noncomputable def Zci (e0:Zf):Option Zf :=
 if Zf.Kind e0=1 then
 some (Zf.Kind e0,Zf.Place e0,Zf.Cell e0,(0:Int),(0:Int),([]:List UInt8),(([]:List Int),([]:List Int),([]:List Int),([]:List Int),()),())
 else
 if Zf.Kind e0=2 then
 some (Zf.Kind e0,Zf.Place e0,Zf.Cell e0,(0:Int),(0:Int),Zf.Name e0,(([]:List Int),([]:List Int),([]:List Int),([]:List Int),()),())
 else
 if Zf.Kind e0=4 then
 some (Zf.Kind e0,Zf.Place e0,(0:Int),Zf.Net e0,Zf.Node e0,([]:List UInt8),(([]:List Int),([]:List Int),([]:List Int),([]:List Int),()),())
 else
 if Zf.Kind e0=5 then
 some (Zf.Kind e0,(0:Int),(0:Int),Zf.Net e0,(0:Int),([]:List UInt8),e0.snd.snd.snd.snd.snd.snd)
 else
 some (Zf.Kind e0,(0:Int),(0:Int),(0:Int),(0:Int),([]:List UInt8),(([]:List Int),([]:List Int),([]:List Int),([]:List Int),()),())
noncomputable def c139:Ctr:=⟨[.dat (VT)],[.dat (VT)],fun a K=>splitK a fun e0 a=>ZB (Zci e0) fun r=>K (r,()) ()⟩
noncomputable def YZ (s1_0:List Int) (s2_0:List Int) (v0:Int):Option ((Int×Unit) ⊕ Bool) :=
 if v0<(↑(List.length s1_0):Int) then
 (atI s1_0 v0).bind fun x0 =>
 (atI s2_0 v0).bind fun x1 =>
 if x0=x1 then
 some (.inl (IntKind.i64.wrap (v0+1),()))
 else
 some (.inr Bool.false)
 else
 some (.inr Bool.true)
noncomputable def Yw (s1_0:List Int) (s2_0:List Int):Option Bool :=
 if (↑(List.length s1_0):Int)=(↑(List.length s2_0):Int) then
 Zw (fun v=>YZ s1_0 s2_0 v.1) ((0:Int),())
 else
 some Bool.false
noncomputable def Zxd:Ctr:=⟨[.dat (.sl (.int .i64)),.dat (.sl (.int .i64))],[.dat (.bool)],fun a K=>splitK a fun s1_0 a=>splitK a fun s2_0 a=>ZB (Yw s1_0 s2_0) fun r=>K (r,()) ()⟩
noncomputable def Zck (a0:Zn) (b0:Zn):Option Bool :=
 (Yw (Zn.Parent a0) (Zn.Parent b0)).bind fun int64_0 =>
 if int64_0=true then
 (Yw (Zn.Res a0) (Zn.Res b0)).bind fun int64_1 =>
 if int64_1=true then
 (Yw (Zn.Cap a0) (Zn.Cap b0)).bind fun int64_2 =>
 if int64_2=true then
 (Yw (Zn.Zfp a0) (Zn.Zfp b0)).bind fun int64_3 =>
 some int64_3
 else
 some Bool.false
 else
 some Bool.false
 else
 some Bool.false
noncomputable def c141:Ctr:=⟨[.dat (YJ),.dat (YJ)],[.dat (.bool)],fun a K=>splitK a fun a0 a=>splitK a fun b0 a=>ZB (Zck a0 b0) fun r=>K (r,()) ()⟩
noncomputable def Za3 (a0:Zf) (b0:Zf):Option Bool :=
 if Zf.Kind a0=Zf.Kind b0 then
 if Zf.Place a0=Zf.Place b0 then
 if Zf.Cell a0=Zf.Cell b0 then
 if Zf.Net a0=Zf.Net b0 then
 if Zf.Node a0=Zf.Node b0 then
 if Zf.Name a0=Zf.Name b0 then
 (Zck (Zf.Zeq a0) (Zf.Zeq b0)).bind fun sameWire0 =>
 some sameWire0
 else
 some Bool.false
 else
 some Bool.false
 else
 some Bool.false
 else
 some Bool.false
 else
 some Bool.false
 else
 some Bool.false
noncomputable def Zx7:Ctr:=⟨[.dat (VT),.dat (VT)],[.dat (.bool)],fun a K=>splitK a fun a0 a=>splitK a fun b0 a=>ZB (Za3 a0 b0) fun r=>K (r,()) ()⟩
noncomputable def Q8 (list0:List Yh):Option Int :=
 some (↑(List.length list0):Int)
noncomputable def c143:Ctr:=⟨[.dat (.sl (Zmh))],[.dat (.int .i64)],fun a K=>splitK a fun list0 a=>ZB (Q8 list0) fun r=>K (r,()) ()⟩
noncomputable def Vn (a0:Zf) (a1:Zb):Option Bool :=
 (Yl (Zf.Kind a0) 1 5).bind fun within0 =>
 if within0=true then
 (Zci a0).bind fun own0 =>
 (Za3 a0 own0).bind fun sameEdit0 =>
 if sameEdit0=true then
 (Yn (Zb.Design a1)).bind fun places0 =>
 (Q8 places0).bind fun place0 =>
 (Yl (Zf.Place a0) 0 (IntKind.i64.wrap (place0-1))).bind fun within1 =>
 if Zf.Kind a0=1 then
 if Zf.Kind a0=1 then
 if within1=true then
 (Y2 (Zl.Cells (Zb.Library a1))).bind fun Cell0 =>
 (Yl (Zf.Cell a0) 0 (IntKind.i64.wrap (Cell0-1))).bind fun within2 =>
 some within2
 else
 some Bool.false
 else
 if Zf.Kind a0=4 then
 if within1=true then
 (YD (Zb.Design a1) (Zf.Net a0)).bind fun isNet0 =>
 if isNet0=true then
 (atI (Zb.Zz a1) (Zf.Net a0)).bind fun x0 =>
 (YH (Zn.Parent x0)).bind fun int64_0 =>
 (Yl (Zf.Node a0) 0 (IntKind.i64.wrap (int64_0-1))).bind fun within2 =>
 some within2
 else
 some Bool.false
 else
 some Bool.false
 else
 if Zf.Kind a0=5 then
 (YD (Zb.Design a1) (Zf.Net a0)).bind fun isNet0 =>
 some isNet0
 else
 some Bool.true
 else
 if Zf.Kind a0=2 then
 if within1=true then
 (Y2 (Zl.Cells (Zb.Library a1))).bind fun Cell0 =>
 (Yl (Zf.Cell a0) 0 (IntKind.i64.wrap (Cell0-1))).bind fun within2 =>
 some within2
 else
 some Bool.false
 else
 if Zf.Kind a0=4 then
 if within1=true then
 (YD (Zb.Design a1) (Zf.Net a0)).bind fun isNet0 =>
 if isNet0=true then
 (atI (Zb.Zz a1) (Zf.Net a0)).bind fun x0 =>
 (YH (Zn.Parent x0)).bind fun int64_0 =>
 (Yl (Zf.Node a0) 0 (IntKind.i64.wrap (int64_0-1))).bind fun within2 =>
 some within2
 else
 some Bool.false
 else
 some Bool.false
 else
 if Zf.Kind a0=5 then
 (YD (Zb.Design a1) (Zf.Net a0)).bind fun isNet0 =>
 some isNet0
 else
 some Bool.true
 else
 some Bool.false
 else
 some Bool.false
noncomputable def ZwV:Ctr:=⟨[.dat (VT),.dat (Yr)],[.dat (.bool)],fun a K=>splitK a fun a0 a=>splitK a fun a1 a=>ZB (Vn a0 a1) fun r=>K (r,()) ()⟩
noncomputable def Zbe (p0:Yu) (q0:Yu):Option Bool :=
 some (Yu.Clock p0 == Yu.Clock q0)
noncomputable def c145:Ctr:=⟨[.dat (V9),.dat (V9)],[.dat (.bool)],fun a K=>splitK a fun p0 a=>splitK a fun q0 a=>ZB (Zbe p0 q0) fun r=>K (r,()) ()⟩
noncomputable def Zt (s1_0:List Yu) (s2_0:List Yu) (v0:Int):Option ((Int×Unit) ⊕ Bool) :=
 if v0<(↑(List.length s1_0):Int) then
 (atI s1_0 v0).bind fun x0 =>
 (atI s2_0 v0).bind fun x1 =>
 (Zbe x0 x1).bind fun c1_0 =>
 if c1_0=true then
 some (.inl (IntKind.i64.wrap (v0+1),()))
 else
 some (.inr Bool.false)
 else
 some (.inr Bool.true)
noncomputable def ZE (s1_0:List Yu) (s2_0:List Yu) (eq0:Unit):Option Bool :=
 if (↑(List.length s1_0):Int)=(↑(List.length s2_0):Int) then
 Zw (fun v=>Zt s1_0 s2_0 v.1) ((0:Int),())
 else
 some Bool.false
noncomputable def c146:Ctr:=⟨[.dat (.sl (V9)),.dat (.sl (V9)),.dat (.fn 212 (.unit))],[.dat (.bool)],fun a K=>splitK a fun s1_0 a=>splitK a fun s2_0 a=>splitK a fun eq0 a=>ZB (ZE s1_0 s2_0 eq0) fun r=>K (r,()) ()⟩
noncomputable def Zb6 (a0:Zh) (b0:Zh):Option Bool :=
 if Zh.Kind a0=Zh.Kind b0 then
 (ZE (Zh.Yy a0) (Zh.Yy b0) ()).bind fun c1_0 =>
 some c1_0
 else
 some Bool.false
noncomputable def ZxP:Ctr:=⟨[.dat (YL),.dat (YL)],[.dat (.bool)],fun a K=>splitK a fun a0 a=>splitK a fun b0 a=>ZB (Zb6 a0 b0) fun r=>K (r,()) ()⟩
noncomputable def Qz (c0:Zh):Option Bool :=
 if Zh.Kind c0=1 then
 some (Decidable.decide ((↑(List.length (Zh.Yy c0)):Int)=2))
 else
 some Bool.false
noncomputable def c148:Ctr:=⟨[.dat (YL)],[.dat (.bool)],fun a K=>splitK a fun c0 a=>ZB (Qz c0) fun r=>K (r,()) ()⟩
noncomputable def VA (x0:Zd) (a0:List UInt8):Option Bool :=
 some (Decidable.decide (Zd.Name x0=a0))
noncomputable def ZwT:Ctr:=⟨[.dat (Zv),.dat (.ptr (.str))],[.dat (.bool)],fun a K=>splitK a fun x0 a=>splitK a fun a0 a=>ZB (VA x0 a0) fun r=>K (r,()) ()⟩
noncomputable def ZC (s0:List Zd) (f0:List UInt8×Unit) (v0:Int):Option ((Int×Unit) ⊕ Int) :=
 if v0<(↑(List.length s0):Int) then
 (atI s0 v0).bind fun x0 =>
 (VA x0 f0.fst).bind fun c1_0 =>
 if c1_0=true then
 some (.inr v0)
 else
 some (.inl (IntKind.i64.wrap (v0+1),()))
 else
 some (.inr (-1))
noncomputable def Zy (s0:List Zd) (f0:List UInt8×Unit):Option Int :=
 Zw (fun v=>ZC s0 f0 v.1) ((0:Int),())
noncomputable def ZwQ:Ctr:=⟨[.dat (.sl (Zv)),.dat (.fn 216 (.pair (.ptr (.str)) (.unit)))],[.dat (.int .i64)],fun a K=>splitK a fun s0 a=>splitK a fun f0 a=>ZB (Zy s0 f0) fun r=>K (r,()) ()⟩
noncomputable def VF (d0:Za) (name0:List UInt8):Option Int :=
 (Zy (Za.Instances d0) (name0,())).bind fun c1_0 =>
 some c1_0
noncomputable def Zx9:Ctr:=⟨[.dat (Z8),.dat (.str)],[.dat (.int .i64)],fun a K=>splitK a fun d0 a=>splitK a fun name0 a=>ZB (VF d0 name0) fun r=>K (r,()) ()⟩
noncomputable def QO (d0:Za) (name0:List UInt8):Option Int :=
 (Yo (Za.ZQ d0) name0).bind fun string0 =>
 some string0
noncomputable def c152:Ctr:=⟨[.dat (Z8),.dat (.str)],[.dat (.int .i64)],fun a K=>splitK a fun d0 a=>splitK a fun name0 a=>ZB (QO d0 name0) fun r=>K (r,()) ()⟩
noncomputable def XW (a0:Zb):Option Bool :=
 if (↑(List.length (Za.Instances (Zb.Design a0))):Int)=0 then
 some Bool.false
 else
 (atI (Za.Instances (Zb.Design a0)) (IntKind.i64.wrap ((↑(List.length (Za.Instances (Zb.Design a0))):Int)-1))).bind fun x0 =>
 (YQ (Za.ZQ (Zb.Design a0))).bind fun string0 =>
 (atI (Zl.Cells (Zb.Library a0)) (Zd.Cell x0)).bind fun x1 =>
 (Qz x1).bind fun isBuffer0 =>
 if isBuffer0=true then
 (atI (Zd.ZQ x0) 1).bind fun x2 =>
 if x2=IntKind.i64.wrap (string0-1) then
 (atI (Zd.ZQ x0) 0).bind fun x3 =>
 if x3=IntKind.i64.wrap (string0-1) then
 some Bool.false
 else
 (atI (Za.ZQ (Zb.Design a0)) (IntKind.i64.wrap (string0-1))).bind fun x4 =>
 if x4=Zd.Name x0 then
 (atI (Zb.Zz a0) (IntKind.i64.wrap (string0-1))).bind fun x5 =>
 if (↑(List.length (Zn.Zfp x5)):Int)=1 then
 if (↑(List.length (Zn.Parent x5)):Int)=1 then
 (atI (Zn.Cap x5) 0).bind fun x6 =>
 some (Decidable.decide (x6=0))
 else
 some Bool.false
 else
 some Bool.false
 else
 some Bool.false
 else
 some Bool.false
 else
 some Bool.false
noncomputable def ZxF:Ctr:=⟨[.dat (Yr)],[.dat (.bool)],fun a K=>splitK a fun a0 a=>ZB (XW a0) fun r=>K (r,()) ()⟩
noncomputable def QU (a0:Zf) (a1:Zb):Option Bool :=
 (Yn (Zb.Design a1)).bind fun places0 =>
 if Zf.Kind a0=1 then
 (atI places0 (Zf.Place a0)).bind fun x0 =>
 if 0≤Yh.instance x0 then
 if (Yh.drives x0)=true then
 (atI (Za.Instances (Zb.Design a1)) (Yh.instance x0)).bind fun x1 =>
 (atI (Zl.Cells (Zb.Library a1)) (Zd.Cell x1)).bind fun x2 =>
 (atI (Zl.Cells (Zb.Library a1)) (Zf.Cell a0)).bind fun x3 =>
 (Zb6 x2 x3).bind fun fitsSwap0 =>
 some fitsSwap0
 else
 some Bool.false
 else
 some Bool.false
 else
 if Zf.Kind a0=2 then
 (atI places0 (Zf.Place a0)).bind fun x0 =>
 if (Yh.drives x0)=true then
 some Bool.false
 else
 (atI (Zl.Cells (Zb.Library a1)) (Zf.Cell a0)).bind fun x1 =>
 (Qz x1).bind fun isBuffer0 =>
 if isBuffer0=true then
 (ZbZ (Zf.Name a0)).bind fun isName0 =>
 if isName0=true then
 (VF (Zb.Design a1) (Zf.Name a0)).bind fun InstanceNamed0 =>
 if InstanceNamed0<0 then
 (QO (Zb.Design a1) (Zf.Name a0)).bind fun netNamed0 =>
 some (Decidable.decide (netNamed0<0))
 else
 some Bool.false
 else
 some Bool.false
 else
 some Bool.false
 else
 if Zf.Kind a0=3 then
 (XW a1).bind fun canUnbuffer0 =>
 some canUnbuffer0
 else
 if Zf.Kind a0=4 then
 (atI places0 (Zf.Place a0)).bind fun x0 =>
 if (Yh.drives x0)=true then
 some Bool.false
 else
 some (!Decidable.decide (Yh.net x0=Zf.Net a0))
 else
 (atI (Zb.Zz a1) (Zf.Net a0)).bind fun x0 =>
 (YH (Zn.Zfp x0)).bind fun int64_0 =>
 (ZcZ (Zf.Zeq a0) int64_0).bind fun IsWire0 =>
 some IsWire0
noncomputable def c154:Ctr:=⟨[.dat (VT),.dat (Yr)],[.dat (.bool)],fun a K=>splitK a fun a0 a=>splitK a fun a1 a=>ZB (QU a0 a1) fun r=>K (r,()) ()⟩
noncomputable def ZcI (e0:Zf) (b0:Zb):Option Int :=
 (Vn e0 b0).bind fun isInRange0 =>
 if isInRange0=true then
 (QU e0 b0).bind fun isPossible0 =>
 if isPossible0=true then
 if Zf.Kind e0=2 then
 if (↑(List.length (Za.Instances (Zb.Design b0))):Int)=14 then
 some 3
 else
 if (↑(List.length (Za.ZQ (Zb.Design b0))):Int)=30 then
 some 3
 else
 some 0
 else
 some 0
 else
 some 5
 else
 some 2
noncomputable def ZwP:Ctr:=⟨[.dat (VT),.dat (Yr)],[.dat (.int .i64)],fun a K=>splitK a fun e0 a=>splitK a fun b0 a=>ZB (ZcI e0 b0) fun r=>K (r,()) ()⟩
noncomputable def Zcw (b0:Zb) (e0:Zf):Option Int :=
 (Zc6 b0).bind fun IsBlock0 =>
 if IsBlock0=true then
 (ZcI e0 b0).bind fun code0 =>
 some code0
 else
 some 1
noncomputable def c156:Ctr:=⟨[.dat (Yr),.dat (VT)],[.dat (.int .i64)],fun a K=>splitK a fun b0 a=>splitK a fun e0 a=>ZB (Zcw b0 e0) fun r=>K (r,()) ()⟩
noncomputable def YX (s0:List Yu):Option (List Yu) :=
 ZA ((List.length (([]:List (List UInt8×Int×Int×Bool×Unit)))+List.length s0)*(40:Nat)≤(140737488355328:Nat)) <|
 some (([]:List (List UInt8×Int×Int×Bool×Unit))++s0)
noncomputable def c157:Ctr:=⟨[.dat (.sl (V9))],[.own (.ol 218 (.flat (V9)))],fun a K=>splitK a fun s0 a=>ZB (YX s0) fun r=>K (r,()) ()⟩
noncomputable def Z4 (s0:List Int):Option (List Int) :=
 ZA ((List.length (([]:List Int))+List.length s0)*(8:Nat)≤(140737488355328:Nat)) <|
 some (([]:List Int)++s0)
noncomputable def Zvs:Ctr:=⟨[.dat (.sl (.int .i64))],[.own (.ol 2 (.flat (.int .i64)))],fun a K=>splitK a fun s0 a=>ZB (Z4 s0) fun r=>K (r,()) ()⟩
noncomputable def Y1 (s0:List ZM):Option (List ZM) :=
 ZA ((List.length (([]:List (Int×Int×Int×Int×List Zr×List Zr×Unit)))+List.length s0)*(80:Nat)≤(140737488355328:Nat)) <|
 some (([]:List (Int×Int×Int×Int×List Zr×List Zr×Unit))++s0)
noncomputable def c159:Ctr:=⟨[.dat (.sl (Zaw))],[.own (.ol 235 (.flat (Zaw)))],fun a K=>splitK a fun s0 a=>ZB (Y1 s0) fun r=>K (r,()) ()⟩
noncomputable def XT (list0:List Zr) (out0:List Zr) (v0:Int):Option (((List Zr)×Int×Unit) ⊕ List Zr) :=
 if v0<(↑(List.length list0):Int) then
 (atI list0 v0).bind fun x0 =>
 (Z4 (Zr.Zfk x0)).bind fun int64_0 =>
 (Z4 (Zr.Loads x0)).bind fun int64_1 =>
 (Z4 (Zr.Values x0)).bind fun int64_2 =>
 ZA ((List.length out0+List.length [(int64_0,int64_1,int64_2,())])*(72:Nat)≤(140737488355328:Nat)) <|
 some (.inl (out0++[(int64_0,int64_1,int64_2,())],IntKind.i64.wrap (v0+(1:Int)),()))
 else
 some (.inr out0)
noncomputable def VR (list0:List Zr):Option (List Zr) :=
 Zw (fun v=>XT list0 v.1 v.2.1) (([]:List Zr),(0:Int),())
noncomputable def c160:Ctr:=⟨[.dat (.sl (Yf))],[.own (.ol 263 (ZeB))],fun a K=>splitK a fun list0 a=>ZB (VR list0) fun r=>K (r,()) ()⟩
noncomputable def QD (v0:Int) (c0:List Zh) (x0:Zh) (Pin0:List Yu) (int64_0:List Int) (Arc0:List ZM) (v1:Int) (l1:List ZM×Int):Option ((Int×(List ZM×Int)×Unit) ⊕ ((Int×(List Zh)×Unit) ⊕ Zl)) :=
 if v1<(↑(List.length Arc0):Int) then
 (atI l1.fst v1).bind fun x1 =>
 ZA (l1.snd≤v1) <|
 (VR (ZM.Delay x1)).bind fun cloneTables0 =>
 (VR (ZM.Zhn x1)).bind fun cloneTables1 =>
 ZA (v1=l1.snd) <|
 (atI l1.fst l1.snd).bind fun x2 =>
 some (.inl (IntKind.i64.wrap (v1+1),(List.set l1.fst (Int.toNat l1.snd) (ZM.Kind x2,ZM.From x2,ZM.To x2,ZM.Zb5 x2,cloneTables0,cloneTables1,()),l1.snd+1),()))
 else
 ZA (l1.snd=(↑(List.length l1.fst):Int)) <|
 ZA ((List.length c0+List.length [(Zh.Name x0,Zh.Kind x0,Pin0,l1.fst,int64_0,x0.snd.snd.snd.snd.snd)])*(112:Nat)≤(140737488355328:Nat)) <|
 some (.inr (.inl (IntKind.i64.wrap (v0+(1:Int)),c0++[(Zh.Name x0,Zh.Kind x0,Pin0,l1.fst,int64_0,x0.snd.snd.snd.snd.snd)],())))
noncomputable def Xx (l0:Zl) (v0:Int) (c0:List Zh):Option ((Int×(List Zh)×Unit) ⊕ Zl) :=
 if v0<(↑(List.length (Zl.Cells l0)):Int) then
 (atI (Zl.Cells l0) v0).bind fun x0 =>
 (YX (Zh.Yy x0)).bind fun Pin0 =>
 (Z4 (Zh.Truth x0)).bind fun int64_0 =>
 (Y1 (Zh.ZaS x0)).bind fun Arc0 =>
 Zw (fun v=>QD v0 c0 x0 Pin0 int64_0 Arc0 v.1 v.2.1) ((0:Int),(Arc0,(0:Int)),())
 else
 some (.inr (c0,()))
noncomputable def Jw (l0:Zl):Option Zl :=
 Zw (fun v=>Xx l0 v.1 v.2.1) ((0:Int),([]:List Zh),())
noncomputable def Zxg:Ctr:=⟨[.dat (Z0)],[.own (ZjB)],fun a K=>splitK a fun l0 a=>ZB (Jw l0) fun r=>K (r,()) ()⟩
noncomputable def Yt (s0:List Zd):Option (List Zd) :=
 ZA ((List.length (([]:List (List UInt8×Int×List Int×Unit)))+List.length s0)*(48:Nat)≤(140737488355328:Nat)) <|
 some (([]:List (List UInt8×Int×List Int×Unit))++s0)
noncomputable def c162:Ctr:=⟨[.dat (.sl (Zv))],[.own (.ol 124 (.flat (Zv)))],fun a K=>splitK a fun s0 a=>ZB (Yt s0) fun r=>K (r,()) ()⟩
noncomputable def Xq (s0:List (List UInt8)):Option (List (List UInt8)) :=
 ZA ((List.length (([]:List (List UInt8)))+List.length s0)*(16:Nat)≤(140737488355328:Nat)) <|
 some (([]:List (List UInt8))++s0)
noncomputable def Zx3:Ctr:=⟨[.dat (.sl (.str))],[.own (.ol 9 (.flat (.str)))],fun a K=>splitK a fun s0 a=>ZB (Xq s0) fun r=>K (r,()) ()⟩
noncomputable def YP (s0:List ZU):Option (List ZU) :=
 ZA ((List.length (([]:List (List UInt8×Int×Int×Unit)))+List.length s0)*(32:Nat)≤(140737488355328:Nat)) <|
 some (([]:List (List UInt8×Int×Int×Unit))++s0)
noncomputable def c164:Ctr:=⟨[.dat (.sl (Xk))],[.own (.ol 178 (.flat (Xk)))],fun a K=>splitK a fun s0 a=>ZB (YP s0) fun r=>K (r,()) ()⟩
noncomputable def QJ (Instance0:List Zd) (string0:List (List UInt8)) (Port0:List ZU) (v0:Int) (l0:List Zd×Int):Option ((Int×(List Zd×Int)×Unit) ⊕ Za) :=
 if v0<(↑(List.length Instance0):Int) then
 (atI l0.fst v0).bind fun x0 =>
 ZA (l0.snd≤v0) <|
 (Z4 (Zd.ZQ x0)).bind fun int64_0 =>
 ZA (v0=l0.snd) <|
 (atI l0.fst l0.snd).bind fun x1 =>
 some (.inl (IntKind.i64.wrap (v0+1),(List.set l0.fst (Int.toNat l0.snd) (Zd.Name x1,Zd.Cell x1,int64_0,()),l0.snd+1),()))
 else
 ZA (l0.snd=(↑(List.length l0.fst):Int)) <|
 some (.inr (l0.fst,string0,Port0,()))
noncomputable def Jo (d0:Za):Option Za :=
 (Yt (Za.Instances d0)).bind fun Instance0 =>
 (Xq (Za.ZQ d0)).bind fun string0 =>
 (YP (Za.Z5 d0)).bind fun Port0 =>
 Zw (fun v=>QJ Instance0 string0 Port0 v.1 v.2.1) ((0:Int),(Instance0,(0:Int)),())
noncomputable def Zyq:Ctr:=⟨[.dat (Z8)],[.own (Zkz)],fun a K=>splitK a fun d0 a=>ZB (Jo d0) fun r=>K (r,()) ()⟩
noncomputable def JX (w0:Zn):Option Zn :=
 (Z4 (Zn.Parent w0)).bind fun int64_0 =>
 (Z4 (Zn.Res w0)).bind fun int64_1 =>
 (Z4 (Zn.Cap w0)).bind fun int64_2 =>
 (Z4 (Zn.Zfp w0)).bind fun int64_3 =>
 some (int64_0,int64_1,int64_2,int64_3,())
noncomputable def ZwA:Ctr:=⟨[.dat (YJ)],[.own (Zhu)],fun a K=>splitK a fun w0 a=>ZB (JX w0) fun r=>K (r,()) ()⟩
noncomputable def XR (b0:Zb) (cloneLibrary0:Zl) (clone0:Za) (v0:Int) (c0:List Zn):Option ((Int×(List Zn)×Unit) ⊕ Zb) :=
 if v0<(↑(List.length (Zb.Zz b0)):Int) then
 (atI (Zb.Zz b0) v0).bind fun x0 =>
 (JX x0).bind fun clone1 =>
 ZA ((List.length c0+List.length [clone1])*(96:Nat)≤(140737488355328:Nat)) <|
 some (.inl (IntKind.i64.wrap (v0+(1:Int)),c0++[clone1],()))
 else
 some (.inr (cloneLibrary0,clone0,c0,()))
noncomputable def Zab (b0:Zb):Option Zb :=
 (Jw (Zb.Library b0)).bind fun cloneLibrary0 =>
 (Jo (Zb.Design b0)).bind fun clone0 =>
 Zw (fun v=>XR b0 cloneLibrary0 clone0 v.1 v.2.1) ((0:Int),([]:List Zn),())
noncomputable def c167:Ctr:=⟨[.dat (Yr)],[.own (ZdW)],fun a K=>splitK a fun b0 a=>ZB (Zab b0) fun r=>K (r,()) ()⟩
noncomputable def Qg (b0:Zb) (places0:List Yh) (v0:Int) (m0:List ((Int×Int×Unit)×Int)) (l0:List Int):Option ((Int×(List ((Int×Int×Unit)×Int))×(List Int)×Unit) ⊕ List (J3×Int)) :=
 if v0<(↑(List.length places0):Int) then
 (atI places0 v0).bind fun x0 =>
 if (Yh.drives x0)=true then
 some (.inl (IntKind.i64.wrap (v0+1),m0,l0,()))
 else
 (atI (Zb.Zz b0) (Yh.net x0)).bind fun x1 =>
 (atI l0 (Yh.net x0)).bind fun x2 =>
 (atI (Zn.Zfp x1) x2).bind fun x3 =>
 some (.inl (IntKind.i64.wrap (v0+1),ZkM Zo2.ty Zo2.ety m0 (Yh.instance x0,Yh.pin x0,()) x3,List.set l0 (Int.toNat (Yh.net x0)) (IntKind.i64.wrap (x2+1)),()))
 else
 some (.inr m0)
noncomputable def XM (b0:Zb):Option (List (J3×Int)) :=
 ZA ((0:Int)≤(↑(List.length (Zb.Zz b0)):Int)) <|
 ZA ((↑(List.length (Zb.Zz b0)):Int)≤(↑(List.length (Zb.Zz b0)):Int)) <|
 ZA ((↑(List.length (Zb.Zz b0)):Int)≤(4611686018427387904:Int)) <|
 ZA ((↑(8:Nat):Int)*(↑(List.length (Zb.Zz b0)):Int)≤(281474976710656:Int)) <|
 (Yn (Zb.Design b0)).bind fun places0 =>
 Zw (fun v=>Qg b0 places0 v.1 v.2.1 v.2.2.1) ((0:Int),([]:List ((Int×Int×Unit)×Int)),List.replicate (Int.toNat (↑(List.length (Zb.Zz b0)):Int)) (0:Int),())
noncomputable def c168:Ctr:=⟨[.dat (Yr)],[.own (.mp (Zb2) (.int .i64))],fun a K=>splitK a fun b0 a=>ZB (XM b0) fun r=>K (r,()) ()⟩
noncomputable def X4 (list0:List Zd):Option Int :=
 some (↑(List.length list0):Int)
noncomputable def Zyb:Ctr:=⟨[.dat (.sl (Zv))],[.dat (.int .i64)],fun a K=>splitK a fun list0 a=>ZB (X4 list0) fun r=>K (r,()) ()⟩
noncomputable def Qn (b0:Zb) (key0:J3) (net0:Int):Option Zb :=
 if J3.instance key0<0 then
 (atI (Za.Z5 (Zb.Design b0)) (J3.pin key0)).bind fun x0 =>
 some (Zb.Library b0,(Za.Instances (Zb.Design b0),Za.ZQ (Zb.Design b0),List.set (Za.Z5 (Zb.Design b0)) (Int.toNat (J3.pin key0)) (ZU.Name x0,ZU.Dir x0,net0,()),()),b0.snd.snd)
 else
 (atI (Za.Instances (Zb.Design b0)) (J3.instance key0)).bind fun x0 =>
 (atI x0.snd.snd.fst (J3.pin key0)).bind fun x1 =>
 some (Zb.Library b0,(List.set (Za.Instances (Zb.Design b0)) (Int.toNat (J3.instance key0)) (x0.fst,x0.snd.fst,List.set x0.snd.snd.fst (Int.toNat (J3.pin key0)) net0,()),(Zb.Design b0).snd),b0.snd.snd)
noncomputable def ZvT:Ctr:=⟨[.io (ZdW),.dat (Zb2),.dat (.int .i64)],[],fun a K=>splitK a fun b0 a=>splitK a fun key0 a=>splitK a fun net0 a=>ZB (Qn b0 key0 net0) fun r=>K () (r,())⟩
noncomputable def Qf (b0:Zb) (nodes0:List (J3×Int)) (places0:List Yh) (v1:Int) (l1:List (List Int×List Int×List Int×List Int×Unit)):Option ((Int×(List (List Int×List Int×List Int×List Int×Unit))×Unit) ⊕ ((Int×(List (List Int×List Int×List Int×List Int×Unit))×Unit) ⊕ Zb)) :=
 if v1<(↑(List.length places0):Int) then
 (atI places0 v1).bind fun x0 =>
 if (Yh.drives x0)=true then
 some (.inl (IntKind.i64.wrap (v1+1),l1,()))
 else
 (atI l1 (Yh.net x0)).bind fun x1 =>
 ZA ((List.length x1.snd.snd.snd.fst+List.length [Option.getD (Zhp Zb2 (Ty.int IntKind.i64) nodes0 (Yh.instance x0,Yh.pin x0,())) (0:Int)])*(8:Nat)≤(140737488355328:Nat)) <|
 some (.inl (IntKind.i64.wrap (v1+(1:Int)),List.set l1 (Int.toNat (Yh.net x0)) (x1.fst,x1.snd.fst,x1.snd.snd.fst,x1.snd.snd.snd.fst++[Option.getD (Zhp Zb2 (Ty.int IntKind.i64) nodes0 (Yh.instance x0,Yh.pin x0,())) (0:Int)],()),()))
 else
 some (.inr (.inr (Zb.Library b0,Zb.Design b0,l1,())))
noncomputable def Xn (b0:Zb) (nodes0:List (J3×Int)) (v0:Int) (l0:List (List Int×List Int×List Int×List Int×Unit)):Option ((Int×(List (List Int×List Int×List Int×List Int×Unit))×Unit) ⊕ Zb) :=
 if v0<(↑(List.length (Zb.Zz b0)):Int) then
 (atI l0 v0).bind fun x0 =>
 some (.inl (IntKind.i64.wrap (v0+(1:Int)),List.set l0 (Int.toNat v0) (x0.fst,x0.snd.fst,x0.snd.snd.fst,([]:List Int),()),()))
 else
 (Yn (Zb.Design b0)).bind fun places0 =>
 Zw (fun v=>Qf b0 nodes0 places0 v.1 v.2.1) ((0:Int),l0,())
noncomputable def Xf (b0:Zb) (nodes0:List (J3×Int)):Option Zb :=
 Zw (fun v=>Xn b0 nodes0 v.1 v.2.1) ((0:Int),Zb.Zz b0,())
noncomputable def c171:Ctr:=⟨[.io (ZdW),.dat (.mp (Zb2) (.int .i64))],[],fun a K=>splitK a fun b0 a=>splitK a fun nodes0 a=>ZB (Xf b0 nodes0) fun r=>K () (r,())⟩
noncomputable def Jz (a0:Zb) (a1:Zf):Option Zb :=
 (XM a0).bind fun nodesOf0 =>
 (Yn (Zb.Design a0)).bind fun places0 =>
 (atI places0 (Zf.Place a1)).bind fun x0 =>
 (YQ (Za.ZQ (Zb.Design a0))).bind fun string0 =>
 (X4 (Za.Instances (Zb.Design a0))).bind fun Instance0 =>
 ZA ((List.length (Za.Instances (Zb.Design a0))+List.length [(Zf.Name a1,Zf.Cell a1,[Yh.net x0,string0],())])*(48:Nat)≤(140737488355328:Nat)) <|
 ZA ((List.length (Za.ZQ (Zb.Design a0))+List.length [Zf.Name a1])*(16:Nat)≤(140737488355328:Nat)) <|
 ZA ((List.length (Zb.Zz a0)+List.length [([(-1:Int)],[(0:Int)],[(0:Int)],([]:List Int),())])*(96:Nat)≤(140737488355328:Nat)) <|
 (Qn (Zb.Library a0,(Za.Instances (Zb.Design a0)++[(Zf.Name a1,Zf.Cell a1,[Yh.net x0,string0],())],Za.ZQ (Zb.Design a0)++[Zf.Name a1],(Zb.Design a0).snd.snd),Zb.Zz a0++[([(-1:Int)],[(0:Int)],[(0:Int)],([]:List Int),())],()) (Yh.instance x0,Yh.pin x0,()) string0).bind fun setNet0 =>
 (Xf setNet0 (ZkM Zb2 (Ty.int IntKind.i64) (ZkM Zb2 (Ty.int IntKind.i64) nodesOf0 (Instance0,0,()) (Option.getD (Zhp Zb2 (Ty.int IntKind.i64) nodesOf0 (Yh.instance x0,Yh.pin x0,())) 0)) (Yh.instance x0,Yh.pin x0,()) 0)).bind fun connect0 =>
 some connect0
noncomputable def Zyh:Ctr:=⟨[.io (ZdW),.dat (VT)],[],fun a K=>splitK a fun a0 a=>splitK a fun a1 a=>ZB (Jz a0 a1) fun r=>K () (r,())⟩
noncomputable def QE (net0:Int) (places0:List Yh) (list0:List Int) (v0:Int):Option (((List Int)×Int×Unit) ⊕ List Int) :=
 if v0<(↑(List.length places0):Int) then
 (atI places0 v0).bind fun x0 =>
 if Yh.net x0=net0 then
 if (Yh.drives x0)=true then
 some (.inl (list0,IntKind.i64.wrap (v0+1),()))
 else
 ZA ((List.length list0+List.length [v0])*(8:Nat)≤(140737488355328:Nat)) <|
 some (.inl (list0++[v0],IntKind.i64.wrap (v0+(1:Int)),()))
 else
 some (.inl (list0,IntKind.i64.wrap (v0+1),()))
 else
 some (.inr list0)
noncomputable def Jy (d0:Za) (net0:Int):Option (List Int) :=
 (Yn d0).bind fun places0 =>
 Zw (fun v=>QE net0 places0 v.1 v.2.1) (([]:List Int),(0:Int),())
noncomputable def c173:Ctr:=⟨[.dat (Z8),.dat (.int .i64)],[.own (.ol 2 (.flat (.int .i64)))],fun a K=>splitK a fun d0 a=>splitK a fun net0 a=>ZB (Jy d0 net0) fun r=>K (r,()) ()⟩
noncomputable def Vk (a0:Zb):Option (J3×Zb) :=
 (XM a0).bind fun nodesOf0 =>
 (Yn (Zb.Design a0)).bind fun places0 =>
 (YQ (Za.ZQ (Zb.Design a0))).bind fun string0 =>
 (Jy (Zb.Design a0) (IntKind.i64.wrap (string0-1))).bind fun sinks0 =>
 (atI sinks0 0).bind fun x0 =>
 (atI places0 x0).bind fun x1 =>
 (atI (Za.Instances (Zb.Design a0)) (IntKind.i64.wrap ((↑(List.length (Za.Instances (Zb.Design a0))):Int)-1))).bind fun x2 =>
 (atI x2.snd.snd.fst 0).bind fun x3 =>
 (Qn (Zb.Library a0,(List.set (Za.Instances (Zb.Design a0)) (Int.toNat (IntKind.i64.wrap ((↑(List.length (Za.Instances (Zb.Design a0))):Int)-1))) x2,(Zb.Design a0).snd),a0.snd.snd) (Yh.instance x1,Yh.pin x1,()) x3).bind fun setNet0 =>
 ZA ((0:Int)≤IntKind.i64.wrap ((↑(List.length (Za.Instances (Zb.Design a0))):Int)-(1:Int))) <|
 ZA (IntKind.i64.wrap ((↑(List.length (Za.Instances (Zb.Design a0))):Int)-(1:Int))≤(↑(List.length (Za.Instances (Zb.Design setNet0))):Int)) <|
 ZA ((0:Int)≤IntKind.i64.wrap ((↑(List.length (Za.ZQ (Zb.Design setNet0))):Int)-(1:Int))) <|
 ZA (IntKind.i64.wrap ((↑(List.length (Za.ZQ (Zb.Design setNet0))):Int)-(1:Int))≤(↑(List.length (Za.ZQ (Zb.Design setNet0))):Int)) <|
 ZA ((0:Int)≤IntKind.i64.wrap ((↑(List.length (Zb.Zz setNet0)):Int)-(1:Int))) <|
 ZA (IntKind.i64.wrap ((↑(List.length (Zb.Zz setNet0)):Int)-(1:Int))≤(↑(List.length (Zb.Zz setNet0)):Int)) <|
 (Xf (Zb.Library setNet0,(List.take (Int.toNat (IntKind.i64.wrap ((↑(List.length (Za.Instances (Zb.Design a0))):Int)-1))-Int.toNat 0) (List.drop (Int.toNat 0) (Za.Instances (Zb.Design setNet0))),List.take (Int.toNat (IntKind.i64.wrap ((↑(List.length (Za.ZQ (Zb.Design setNet0))):Int)-1))-Int.toNat 0) (List.drop (Int.toNat 0) (Za.ZQ (Zb.Design setNet0))),(Zb.Design setNet0).snd.snd),List.take (Int.toNat (IntKind.i64.wrap ((↑(List.length (Zb.Zz setNet0)):Int)-1))-Int.toNat 0) (List.drop (Int.toNat 0) (Zb.Zz setNet0)),()) (ZkM Zb2 (Ty.int IntKind.i64) nodesOf0 (Yh.instance x1,Yh.pin x1,()) (Option.getD (Zhp Zb2 (Ty.int IntKind.i64) nodesOf0 (IntKind.i64.wrap ((↑(List.length (Za.Instances (Zb.Design a0))):Int)-1),0,())) 0))).bind fun connect0 =>
 some ((Yh.instance x1,Yh.pin x1,()),connect0)
noncomputable def Zyk:Ctr:=⟨[.io (ZdW)],[.dat (Zb2)],fun a K=>splitK a fun a0 a=>ZB (Vk a0) fun r=>K (r.1,()) (r.2,())⟩
noncomputable def ZaL (a0:Zf) (a1:Zb):Option Zb :=
 (Zab a1).bind fun clone0 =>
 if Zf.Kind a0=1 then
 (Yn (Zb.Design a1)).bind fun places0 =>
 (atI places0 (Zf.Place a0)).bind fun x0 =>
 (atI (Za.Instances (Zb.Design clone0)) (Yh.instance x0)).bind fun x1 =>
 some (Zb.Library clone0,(List.set (Za.Instances (Zb.Design clone0)) (Int.toNat (Yh.instance x0)) (x1.fst,Zf.Cell a0,x1.snd.snd),(Zb.Design clone0).snd),clone0.snd.snd)
 else
 if Zf.Kind a0=2 then
 (Jz clone0 a0).bind fun buffer0 =>
 some buffer0
 else
 if Zf.Kind a0=3 then
 (Vk clone0).bind fun unbuffer0 =>
 some unbuffer0.snd
 else
 if Zf.Kind a0=4 then
 (XM clone0).bind fun nodesOf0 =>
 (Yn (Zb.Design clone0)).bind fun places0 =>
 (atI places0 (Zf.Place a0)).bind fun x0 =>
 (Qn clone0 (Yh.instance x0,Yh.pin x0,()) (Zf.Net a0)).bind fun setNet0 =>
 (Xf setNet0 (ZkM Zb2 (Ty.int IntKind.i64) nodesOf0 (Yh.instance x0,Yh.pin x0,()) (Zf.Node a0))).bind fun connect0 =>
 some connect0
 else
 if Zf.Kind a0=5 then
 (JX (Zf.Zeq a0)).bind fun clone1 =>
 (atI (Zb.Zz clone0) (Zf.Net a0)).bind fun x0 =>
 some (Zb.Library clone0,Zb.Design clone0,List.set (Zb.Zz clone0) (Int.toNat (Zf.Net a0)) clone1,())
 else
 some clone0
noncomputable def c175:Ctr:=⟨[.dat (VT),.dat (Yr)],[.own (ZdW)],fun a K=>splitK a fun a0 a=>splitK a fun a1 a=>ZB (ZaL a0 a1) fun r=>K (r,()) ()⟩
noncomputable def Zbp (b0:Zb) (e0:Zf):Option (Zb×Int) :=
 (Zcw b0 e0).bind fun EditCode0 =>
 if EditCode0=0 then
 (ZaL e0 b0).bind fun apply0 =>
 some (apply0,0)
 else
 some (((([]:List Zh),()),(([]:List Zd),([]:List (List UInt8)),([]:List ZU),()),([]:List Zn),()),EditCode0)
noncomputable def ZwU:Ctr:=⟨[.dat (Yr),.dat (VT)],[.own (ZdW),.dat (.int .i64)],fun a K=>splitK a fun b0 a=>splitK a fun e0 a=>ZB (Zbp b0 e0) fun r=>K (r.1,r.2,()) ()⟩
noncomputable def Zea (a0:Yu) (b0:Yu):Option Bool :=
 if Yu.Name a0=Yu.Name b0 then
 if Yu.Dir a0=Yu.Dir b0 then
 if Yu.Cap a0=Yu.Cap b0 then
 if (Yu.Clock a0 == Yu.Clock b0)=true then
 some Bool.true
 else
 some Bool.false
 else
 some Bool.false
 else
 some Bool.false
 else
 some Bool.false
noncomputable def ZwZ:Ctr:=⟨[.dat (V9),.dat (V9)],[.dat (.bool)],fun a K=>splitK a fun a0 a=>splitK a fun b0 a=>ZB (Zea a0 b0) fun r=>K (r,()) ()⟩
noncomputable def Zev (a0:List Yu) (b0:List Yu) (i0:Int):Option ((Int×Unit) ⊕ Bool) :=
 if i0<(↑(List.length a0):Int) then
 (atI a0 i0).bind fun x0 =>
 (atI b0 i0).bind fun x1 =>
 (Zea x0 x1).bind fun eqPin0 =>
 if eqPin0=true then
 some (.inl (IntKind.i64.wrap (i0+1),()))
 else
 some (.inr Bool.false)
 else
 some (.inr Bool.true)
noncomputable def Zeu (a0:List Yu) (b0:List Yu):Option Bool :=
 if (↑(List.length a0):Int)=(↑(List.length b0):Int) then
 Zw (fun v=>Zev a0 b0 v.1) ((0:Int),())
 else
 some Bool.false
noncomputable def ZxI:Ctr:=⟨[.dat (.sl (V9)),.dat (.sl (V9))],[.dat (.bool)],fun a K=>splitK a fun a0 a=>splitK a fun b0 a=>ZB (Zeu a0 b0) fun r=>K (r,()) ()⟩
noncomputable def ZcY (a0:List Int) (b0:List Int) (i0:Int):Option ((Int×Unit) ⊕ Bool) :=
 if i0<(↑(List.length a0):Int) then
 (atI a0 i0).bind fun x0 =>
 (atI b0 i0).bind fun x1 =>
 if x0=x1 then
 some (.inl (IntKind.i64.wrap (i0+1),()))
 else
 some (.inr Bool.false)
 else
 some (.inr Bool.true)
noncomputable def Xg (a0:List Int) (b0:List Int):Option Bool :=
 if (↑(List.length a0):Int)=(↑(List.length b0):Int) then
 Zw (fun v=>ZcY a0 b0 v.1) ((0:Int),())
 else
 some Bool.false
noncomputable def Zvo:Ctr:=⟨[.dat (.sl (.int .i64)),.dat (.sl (.int .i64))],[.dat (.bool)],fun a K=>splitK a fun a0 a=>splitK a fun b0 a=>ZB (Xg a0 b0) fun r=>K (r,()) ()⟩
noncomputable def ZbR (a0:Zr) (b0:Zr):Option Bool :=
 (Xg (Zr.Zfk a0) (Zr.Zfk b0)).bind fun eqInt64S0 =>
 if eqInt64S0=true then
 (Xg (Zr.Loads a0) (Zr.Loads b0)).bind fun eqInt64S1 =>
 if eqInt64S1=true then
 (Xg (Zr.Values a0) (Zr.Values b0)).bind fun eqInt64S2 =>
 if eqInt64S2=true then
 some Bool.true
 else
 some Bool.false
 else
 some Bool.false
 else
 some Bool.false
noncomputable def ZxE:Ctr:=⟨[.dat (Yf),.dat (Yf)],[.dat (.bool)],fun a K=>splitK a fun a0 a=>splitK a fun b0 a=>ZB (ZbR a0 b0) fun r=>K (r,()) ()⟩
noncomputable def ZcP (a0:List Zr) (b0:List Zr) (i0:Int):Option ((Int×Unit) ⊕ Bool) :=
 if i0<(↑(List.length a0):Int) then
 (atI a0 i0).bind fun x0 =>
 (atI b0 i0).bind fun x1 =>
 (ZbR x0 x1).bind fun eqTable0 =>
 if eqTable0=true then
 some (.inl (IntKind.i64.wrap (i0+1),()))
 else
 some (.inr Bool.false)
 else
 some (.inr Bool.true)
noncomputable def Za7 (a0:List Zr) (b0:List Zr):Option Bool :=
 if (↑(List.length a0):Int)=(↑(List.length b0):Int) then
 Zw (fun v=>ZcP a0 b0 v.1) ((0:Int),())
 else
 some Bool.false
noncomputable def Zyp:Ctr:=⟨[.dat (.sl (Yf)),.dat (.sl (Yf))],[.dat (.bool)],fun a K=>splitK a fun a0 a=>splitK a fun b0 a=>ZB (Za7 a0 b0) fun r=>K (r,()) ()⟩
noncomputable def Zer (a0:ZM) (b0:ZM):Option Bool :=
 if ZM.Kind a0=ZM.Kind b0 then
 if ZM.From a0=ZM.From b0 then
 if ZM.To a0=ZM.To b0 then
 if ZM.Zb5 a0=ZM.Zb5 b0 then
 (Za7 (ZM.Delay a0) (ZM.Delay b0)).bind fun eqTableS0 =>
 if eqTableS0=true then
 (Za7 (ZM.Zhn a0) (ZM.Zhn b0)).bind fun eqTableS1 =>
 if eqTableS1=true then
 some Bool.true
 else
 some Bool.false
 else
 some Bool.false
 else
 some Bool.false
 else
 some Bool.false
 else
 some Bool.false
 else
 some Bool.false
noncomputable def c182:Ctr:=⟨[.dat (Zaw),.dat (Zaw)],[.dat (.bool)],fun a K=>splitK a fun a0 a=>splitK a fun b0 a=>ZB (Zer a0 b0) fun r=>K (r,()) ()⟩
noncomputable def Zew (a0:List ZM) (b0:List ZM) (i0:Int):Option ((Int×Unit) ⊕ Bool) :=
 if i0<(↑(List.length a0):Int) then
 (atI a0 i0).bind fun x0 =>
 (atI b0 i0).bind fun x1 =>
 (Zer x0 x1).bind fun eqArc0 =>
 if eqArc0=true then
 some (.inl (IntKind.i64.wrap (i0+1),()))
 else
 some (.inr Bool.false)
 else
 some (.inr Bool.true)
noncomputable def Zd6 (a0:List ZM) (b0:List ZM):Option Bool :=
 if (↑(List.length a0):Int)=(↑(List.length b0):Int) then
 Zw (fun v=>Zew a0 b0 v.1) ((0:Int),())
 else
 some Bool.false
noncomputable def c183:Ctr:=⟨[.dat (.sl (Zaw)),.dat (.sl (Zaw))],[.dat (.bool)],fun a K=>splitK a fun a0 a=>splitK a fun b0 a=>ZB (Zd6 a0 b0) fun r=>K (r,()) ()⟩
noncomputable def ZcU (a0:Zh) (b0:Zh):Option Bool :=
 if Zh.Name a0=Zh.Name b0 then
 if Zh.Kind a0=Zh.Kind b0 then
 (Zeu (Zh.Yy a0) (Zh.Yy b0)).bind fun eqPinS0 =>
 if eqPinS0=true then
 (Zd6 (Zh.ZaS a0) (Zh.ZaS b0)).bind fun eqArcS0 =>
 if eqArcS0=true then
 (Xg (Zh.Truth a0) (Zh.Truth b0)).bind fun eqInt64S0 =>
 if eqInt64S0=true then
 if Zh.ZrB a0=Zh.ZrB b0 then
 if Zh.Zgy a0=Zh.Zgy b0 then
 some Bool.true
 else
 some Bool.false
 else
 some Bool.false
 else
 some Bool.false
 else
 some Bool.false
 else
 some Bool.false
 else
 some Bool.false
 else
 some Bool.false
noncomputable def Zxs:Ctr:=⟨[.dat (YL),.dat (YL)],[.dat (.bool)],fun a K=>splitK a fun a0 a=>splitK a fun b0 a=>ZB (ZcU a0 b0) fun r=>K (r,()) ()⟩
noncomputable def Zdk (a0:List Zh) (b0:List Zh) (i0:Int):Option ((Int×Unit) ⊕ Bool) :=
 if i0<(↑(List.length a0):Int) then
 (atI a0 i0).bind fun x0 =>
 (atI b0 i0).bind fun x1 =>
 (ZcU x0 x1).bind fun eqCell0 =>
 if eqCell0=true then
 some (.inl (IntKind.i64.wrap (i0+1),()))
 else
 some (.inr Bool.false)
 else
 some (.inr Bool.true)
noncomputable def Zdg (a0:List Zh) (b0:List Zh):Option Bool :=
 if (↑(List.length a0):Int)=(↑(List.length b0):Int) then
 Zw (fun v=>Zdk a0 b0 v.1) ((0:Int),())
 else
 some Bool.false
noncomputable def Zw1:Ctr:=⟨[.dat (.sl (YL)),.dat (.sl (YL))],[.dat (.bool)],fun a K=>splitK a fun a0 a=>splitK a fun b0 a=>ZB (Zdg a0 b0) fun r=>K (r,()) ()⟩
noncomputable def Zbn (a0:Zl) (b0:Zl):Option Bool :=
 (Zdg (Zl.Cells a0) (Zl.Cells b0)).bind fun eqCellS0 =>
 if eqCellS0=true then
 some Bool.true
 else
 some Bool.false
noncomputable def Zxx:Ctr:=⟨[.dat (Z0),.dat (Z0)],[.dat (.bool)],fun a K=>splitK a fun a0 a=>splitK a fun b0 a=>ZB (Zbn a0 b0) fun r=>K (r,()) ()⟩
noncomputable def JZ (a0:Zd) (b0:Zd):Option Bool :=
 if Zd.Name a0=Zd.Name b0 then
 if Zd.Cell a0=Zd.Cell b0 then
 (Xg (Zd.ZQ a0) (Zd.ZQ b0)).bind fun eqInt64S0 =>
 if eqInt64S0=true then
 some Bool.true
 else
 some Bool.false
 else
 some Bool.false
 else
 some Bool.false
noncomputable def Zyg:Ctr:=⟨[.dat (Zv),.dat (Zv)],[.dat (.bool)],fun a K=>splitK a fun a0 a=>splitK a fun b0 a=>ZB (JZ a0 b0) fun r=>K (r,()) ()⟩
noncomputable def ZbC (a0:List Zd) (b0:List Zd) (i0:Int):Option ((Int×Unit) ⊕ Bool) :=
 if i0<(↑(List.length a0):Int) then
 (atI a0 i0).bind fun x0 =>
 (atI b0 i0).bind fun x1 =>
 (JZ x0 x1).bind fun eqInstance0 =>
 if eqInstance0=true then
 some (.inl (IntKind.i64.wrap (i0+1),()))
 else
 some (.inr Bool.false)
 else
 some (.inr Bool.true)
noncomputable def Zae (a0:List Zd) (b0:List Zd):Option Bool :=
 if (↑(List.length a0):Int)=(↑(List.length b0):Int) then
 Zw (fun v=>ZbC a0 b0 v.1) ((0:Int),())
 else
 some Bool.false
noncomputable def ZxN:Ctr:=⟨[.dat (.sl (Zv)),.dat (.sl (Zv))],[.dat (.bool)],fun a K=>splitK a fun a0 a=>splitK a fun b0 a=>ZB (Zae a0 b0) fun r=>K (r,()) ()⟩
noncomputable def ZcD (a0:List (List UInt8)) (b0:List (List UInt8)) (i0:Int):Option ((Int×Unit) ⊕ Bool) :=
 if i0<(↑(List.length a0):Int) then
 (atI a0 i0).bind fun x0 =>
 (atI b0 i0).bind fun x1 =>
 if x0=x1 then
 some (.inl (IntKind.i64.wrap (i0+1),()))
 else
 some (.inr Bool.false)
 else
 some (.inr Bool.true)
noncomputable def Zbx (a0:List (List UInt8)) (b0:List (List UInt8)):Option Bool :=
 if (↑(List.length a0):Int)=(↑(List.length b0):Int) then
 Zw (fun v=>ZcD a0 b0 v.1) ((0:Int),())
 else
 some Bool.false
noncomputable def ZxT:Ctr:=⟨[.dat (.sl (.str)),.dat (.sl (.str))],[.dat (.bool)],fun a K=>splitK a fun a0 a=>splitK a fun b0 a=>ZB (Zbx a0 b0) fun r=>K (r,()) ()⟩
noncomputable def ZcQ (a0:ZU) (b0:ZU):Option Bool :=
 if ZU.Name a0=ZU.Name b0 then
 if ZU.Dir a0=ZU.Dir b0 then
 if ZU.Net a0=ZU.Net b0 then
 some Bool.true
 else
 some Bool.false
 else
 some Bool.false
 else
 some Bool.false
noncomputable def Zys:Ctr:=⟨[.dat (Xk),.dat (Xk)],[.dat (.bool)],fun a K=>splitK a fun a0 a=>splitK a fun b0 a=>ZB (ZcQ a0 b0) fun r=>K (r,()) ()⟩
noncomputable def ZdC (a0:List ZU) (b0:List ZU) (i0:Int):Option ((Int×Unit) ⊕ Bool) :=
 if i0<(↑(List.length a0):Int) then
 (atI a0 i0).bind fun x0 =>
 (atI b0 i0).bind fun x1 =>
 (ZcQ x0 x1).bind fun eqPort0 =>
 if eqPort0=true then
 some (.inl (IntKind.i64.wrap (i0+1),()))
 else
 some (.inr Bool.false)
 else
 some (.inr Bool.true)
noncomputable def Zc9 (a0:List ZU) (b0:List ZU):Option Bool :=
 if (↑(List.length a0):Int)=(↑(List.length b0):Int) then
 Zw (fun v=>ZdC a0 b0 v.1) ((0:Int),())
 else
 some Bool.false
noncomputable def ZwW:Ctr:=⟨[.dat (.sl (Xk)),.dat (.sl (Xk))],[.dat (.bool)],fun a K=>splitK a fun a0 a=>splitK a fun b0 a=>ZB (Zc9 a0 b0) fun r=>K (r,()) ()⟩
noncomputable def Zcb (a0:Za) (b0:Za):Option Bool :=
 (Zae (Za.Instances a0) (Za.Instances b0)).bind fun eqInstanceS0 =>
 if eqInstanceS0=true then
 (Zbx (Za.ZQ a0) (Za.ZQ b0)).bind fun eqStringS0 =>
 if eqStringS0=true then
 (Zc9 (Za.Z5 a0) (Za.Z5 b0)).bind fun eqPortS0 =>
 if eqPortS0=true then
 some Bool.true
 else
 some Bool.false
 else
 some Bool.false
 else
 some Bool.false
noncomputable def Zxl:Ctr:=⟨[.dat (Z8),.dat (Z8)],[.dat (.bool)],fun a K=>splitK a fun a0 a=>splitK a fun b0 a=>ZB (Zcb a0 b0) fun r=>K (r,()) ()⟩
noncomputable def ZbP (a0:Zn) (b0:Zn):Option Bool :=
 (Xg (Zn.Parent a0) (Zn.Parent b0)).bind fun eqInt64S0 =>
 if eqInt64S0=true then
 (Xg (Zn.Res a0) (Zn.Res b0)).bind fun eqInt64S1 =>
 if eqInt64S1=true then
 (Xg (Zn.Cap a0) (Zn.Cap b0)).bind fun eqInt64S2 =>
 if eqInt64S2=true then
 (Xg (Zn.Zfp a0) (Zn.Zfp b0)).bind fun eqInt64S3 =>
 if eqInt64S3=true then
 some Bool.true
 else
 some Bool.false
 else
 some Bool.false
 else
 some Bool.false
 else
 some Bool.false
noncomputable def c193:Ctr:=⟨[.dat (YJ),.dat (YJ)],[.dat (.bool)],fun a K=>splitK a fun a0 a=>splitK a fun b0 a=>ZB (ZbP a0 b0) fun r=>K (r,()) ()⟩
noncomputable def ZdL (a0:List Zn) (b0:List Zn) (i0:Int):Option ((Int×Unit) ⊕ Bool) :=
 if i0<(↑(List.length a0):Int) then
 (atI a0 i0).bind fun x0 =>
 (atI b0 i0).bind fun x1 =>
 (ZbP x0 x1).bind fun eqWire0 =>
 if eqWire0=true then
 some (.inl (IntKind.i64.wrap (i0+1),()))
 else
 some (.inr Bool.false)
 else
 some (.inr Bool.true)
noncomputable def Zc3 (a0:List Zn) (b0:List Zn):Option Bool :=
 if (↑(List.length a0):Int)=(↑(List.length b0):Int) then
 Zw (fun v=>ZdL a0 b0 v.1) ((0:Int),())
 else
 some Bool.false
noncomputable def c194:Ctr:=⟨[.dat (.sl (YJ)),.dat (.sl (YJ))],[.dat (.bool)],fun a K=>splitK a fun a0 a=>splitK a fun b0 a=>ZB (Zc3 a0 b0) fun r=>K (r,()) ()⟩
noncomputable def Zb0 (a0:Zb) (b0:Zb):Option Bool :=
 (Zbn (Zb.Library a0) (Zb.Library b0)).bind fun eqLibrary0 =>
 if eqLibrary0=true then
 (Zcb (Zb.Design a0) (Zb.Design b0)).bind fun eqDesign0 =>
 if eqDesign0=true then
 (Zc3 (Zb.Zz a0) (Zb.Zz b0)).bind fun eqWireS0 =>
 if eqWireS0=true then
 some Bool.true
 else
 some Bool.false
 else
 some Bool.false
 else
 some Bool.false
noncomputable def Zxe:Ctr:=⟨[.dat (Yr),.dat (Yr)],[.dat (.bool)],fun a K=>splitK a fun a0 a=>splitK a fun b0 a=>ZB (Zb0 a0 b0) fun r=>K (r,()) ()⟩
noncomputable def Zd7 (a0:Zf) (b0:Zf):Option Bool :=
 if Zf.Kind a0=Zf.Kind b0 then
 if Zf.Place a0=Zf.Place b0 then
 if Zf.Cell a0=Zf.Cell b0 then
 if Zf.Net a0=Zf.Net b0 then
 if Zf.Node a0=Zf.Node b0 then
 if Zf.Name a0=Zf.Name b0 then
 (ZbP (Zf.Zeq a0) (Zf.Zeq b0)).bind fun eqWire0 =>
 if eqWire0=true then
 some Bool.true
 else
 some Bool.false
 else
 some Bool.false
 else
 some Bool.false
 else
 some Bool.false
 else
 some Bool.false
 else
 some Bool.false
 else
 some Bool.false
noncomputable def c196:Ctr:=⟨[.dat (VT),.dat (VT)],[.dat (.bool)],fun a K=>splitK a fun a0 a=>splitK a fun b0 a=>ZB (Zd7 a0 b0) fun r=>K (r,()) ()⟩
noncomputable def JA (k1:Int) (out0:List UInt8):Option ((Int×(List UInt8)×Unit) ⊕ List UInt8) :=
 if 0<k1 then
 ZA ((↑(List.length (bytesOf [IntKind.wrap IntKind.u8 (IntKind.i64.wrap ((48:Int)+Int.tmod k1 (10:Int)))])):Int)+(↑(List.length out0):Int)≤(9223372036854775807:Int)) <|
 some (.inl (IntKind.i64.wrap (Int.tdiv k1 (10:Int)),bytesOf [IntKind.wrap IntKind.u8 (IntKind.i64.wrap ((48:Int)+Int.tmod k1 (10:Int)))]++out0,()))
 else
 ZA ((↑(List.length [(109:UInt8)]):Int)+(↑(List.length out0):Int)≤(9223372036854775807:Int)) <|
 some (.inr ([(109:UInt8)]++out0))
noncomputable def YN (k0:Int):Option (List UInt8) :=
 if k0≤0 then
 some ([(109:UInt8),(48:UInt8)])
 else
 Zw (fun v=>JA v.1 v.2.1) (k0,([]:List UInt8),())
noncomputable def Zry:Ctr:=⟨[.dat (.int .i64)],[.dat (.str)],fun a K=>splitK a fun k0 a=>ZB (YN k0) fun r=>K (r,()) ()⟩
noncomputable def Qd (k1:Int) (i0:Int) (l0:List Yu):Option ((Int×Int×(List Yu)×Unit) ⊕ (Int×(List Yu))) :=
 if i0<(↑(List.length l0):Int) then
 (YN k1).bind fun markText0 =>
 (atI l0 i0).bind fun x0 =>
 (atI (List.set l0 (Int.toNat i0) (markText0,x0.snd)) i0).bind fun x1 =>
 (atI (List.set (List.set l0 (Int.toNat i0) (markText0,x0.snd)) (Int.toNat i0) (Yu.Name x1,IntKind.i64.wrap (k1+1),x1.snd.snd)) i0).bind fun x2 =>
 (atI (List.set (List.set (List.set l0 (Int.toNat i0) (markText0,x0.snd)) (Int.toNat i0) (Yu.Name x1,IntKind.i64.wrap (k1+1),x1.snd.snd)) (Int.toNat i0) (Yu.Name x2,Yu.Dir x2,IntKind.i64.wrap (IntKind.i64.wrap (k1+1)+1),x2.snd.snd.snd)) i0).bind fun x3 =>
 some (.inl (IntKind.i64.wrap (IntKind.i64.wrap (IntKind.i64.wrap (IntKind.i64.wrap (k1+1)+1)+1)+1),IntKind.i64.wrap (i0+1),List.set (List.set (List.set (List.set l0 (Int.toNat i0) (markText0,x0.snd)) (Int.toNat i0) (Yu.Name x1,IntKind.i64.wrap (k1+1),x1.snd.snd)) (Int.toNat i0) (Yu.Name x2,Yu.Dir x2,IntKind.i64.wrap (IntKind.i64.wrap (k1+1)+1),x2.snd.snd.snd)) (Int.toNat i0) (Yu.Name x3,Yu.Dir x3,Yu.Cap x3,Decidable.decide (Int.tmod (IntKind.i64.wrap (IntKind.i64.wrap (IntKind.i64.wrap (k1+1)+1)+1)) 3=0),()),()))
 else
 some (.inr (k1,l0))
noncomputable def Zas (a0:List Yu) (k0:Int):Option (Int×(List Yu)) :=
 Zw (fun v=>Qd v.1 v.2.1 v.2.2.1) (k0,(0:Int),a0,())
noncomputable def c198:Ctr:=⟨[.back (.ol 218 (.flat (V9))),.dat (.int .i64)],[.dat (.int .i64)],fun a K=>splitK a fun a0 a=>splitK a fun k0 a=>ZB (Zas a0 k0) fun r=>K (r.1,()) (r.2,())⟩
noncomputable def Xp (k1:Int) (i0:Int) (l0:List Int):Option ((Int×Int×(List Int)×Unit) ⊕ (Int×(List Int))) :=
 if i0<(↑(List.length l0):Int) then
 (atI l0 i0).bind fun x0 =>
 some (.inl (IntKind.i64.wrap (k1+1),IntKind.i64.wrap (i0+1),List.set l0 (Int.toNat i0) k1,()))
 else
 some (.inr (k1,l0))
noncomputable def Yj (a0:List Int) (k0:Int):Option (Int×(List Int)) :=
 Zw (fun v=>Xp v.1 v.2.1 v.2.2.1) (k0,(0:Int),a0,())
noncomputable def Zu9:Ctr:=⟨[.back (.ol 2 (.flat (.int .i64))),.dat (.int .i64)],[.dat (.int .i64)],fun a K=>splitK a fun a0 a=>splitK a fun k0 a=>ZB (Yj a0 k0) fun r=>K (r.1,()) (r.2,())⟩
noncomputable def Xr (k1:Int) (i0:Int) (l0:List (List Int×List Int×List Int×Unit)):Option ((Int×Int×(List (List Int×List Int×List Int×Unit))×Unit) ⊕ (Int×(List Zr))) :=
 if i0<(↑(List.length l0):Int) then
 (atI l0 i0).bind fun x0 =>
 (Yj x0.fst k1).bind fun markInt64S0 =>
 (Yj x0.snd.fst markInt64S0.fst).bind fun markInt64S1 =>
 (Yj x0.snd.snd.fst markInt64S1.fst).bind fun markInt64S2 =>
 some (.inl (markInt64S2.fst,IntKind.i64.wrap (i0+1),List.set l0 (Int.toNat i0) (markInt64S0.snd,markInt64S1.snd,markInt64S2.snd,()),()))
 else
 some (.inr (k1,l0))
noncomputable def QF (a0:List Zr) (k0:Int):Option (Int×(List Zr)) :=
 Zw (fun v=>Xr v.1 v.2.1 v.2.2.1) (k0,(0:Int),a0,())
noncomputable def Zym:Ctr:=⟨[.back (.ol 263 (ZeB)),.dat (.int .i64)],[.dat (.int .i64)],fun a K=>splitK a fun a0 a=>splitK a fun k0 a=>ZB (QF a0 k0) fun r=>K (r.1,()) (r.2,())⟩
noncomputable def Qb (k1:Int) (i0:Int) (l0:List (Int×Int×Int×Int×List Zr×List Zr×Unit)):Option ((Int×Int×(List (Int×Int×Int×Int×List Zr×List Zr×Unit))×Unit) ⊕ (Int×(List ZM))) :=
 if i0<(↑(List.length l0):Int) then
 (atI l0 i0).bind fun x0 =>
 (QF x0.snd.snd.snd.snd.fst (IntKind.i64.wrap (IntKind.i64.wrap (IntKind.i64.wrap (IntKind.i64.wrap (k1+1)+1)+1)+1))).bind fun markTableS0 =>
 (QF x0.snd.snd.snd.snd.snd.fst markTableS0.fst).bind fun markTableS1 =>
 some (.inl (markTableS1.fst,IntKind.i64.wrap (i0+1),List.set l0 (Int.toNat i0) (k1,IntKind.i64.wrap (k1+1),IntKind.i64.wrap (IntKind.i64.wrap (k1+1)+1),IntKind.i64.wrap (IntKind.i64.wrap (IntKind.i64.wrap (k1+1)+1)+1),markTableS0.snd,markTableS1.snd,()),()))
 else
 some (.inr (k1,l0))
noncomputable def Zah (a0:List ZM) (k0:Int):Option (Int×(List ZM)) :=
 Zw (fun v=>Qb v.1 v.2.1 v.2.2.1) (k0,(0:Int),a0,())
noncomputable def c201:Ctr:=⟨[.back (.ol 235 (ZrA)),.dat (.int .i64)],[.dat (.int .i64)],fun a K=>splitK a fun a0 a=>splitK a fun k0 a=>ZB (Zah a0 k0) fun r=>K (r.1,()) (r.2,())⟩
noncomputable def XH (k1:Int) (i0:Int) (l0:List (List UInt8×Int×List Yu×List ZM×List Int×Int×Int×Unit)):Option ((Int×Int×(List (List UInt8×Int×List Yu×List ZM×List Int×Int×Int×Unit))×Unit) ⊕ (Int×(List Zh))) :=
 if i0<(↑(List.length l0):Int) then
 (YN k1).bind fun markText0 =>
 (atI l0 i0).bind fun x0 =>
 (Zas x0.snd.snd.fst (IntKind.i64.wrap (IntKind.i64.wrap (k1+1)+1))).bind fun markPinS0 =>
 (Zah x0.snd.snd.snd.fst markPinS0.fst).bind fun markArcS0 =>
 (Yj x0.snd.snd.snd.snd.fst markArcS0.fst).bind fun markInt64S0 =>
 some (.inl (IntKind.i64.wrap (IntKind.i64.wrap (markInt64S0.fst+1)+1),IntKind.i64.wrap (i0+1),List.set l0 (Int.toNat i0) (markText0,IntKind.i64.wrap (k1+1),markPinS0.snd,markArcS0.snd,markInt64S0.snd,markInt64S0.fst,IntKind.i64.wrap (markInt64S0.fst+1),()),()))
 else
 some (.inr (k1,l0))
noncomputable def Jg (a0:List Zh) (k0:Int):Option (Int×(List Zh)) :=
 Zw (fun v=>XH v.1 v.2.1 v.2.2.1) (k0,(0:Int),a0,())
noncomputable def Zx8:Ctr:=⟨[.back (.ol 169 (Zlp)),.dat (.int .i64)],[.dat (.int .i64)],fun a K=>splitK a fun a0 a=>splitK a fun k0 a=>ZB (Jg a0 k0) fun r=>K (r.1,()) (r.2,())⟩
noncomputable def QW (a0:Zl) (k0:Int):Option (Int×Zl) :=
 (Jg (Zl.Cells a0) k0).bind fun markCellS0 =>
 some (markCellS0.fst,(markCellS0.snd,()))
noncomputable def c203:Ctr:=⟨[.back (ZjB),.dat (.int .i64)],[.dat (.int .i64)],fun a K=>splitK a fun a0 a=>splitK a fun k0 a=>ZB (QW a0 k0) fun r=>K (r.1,()) (r.2,())⟩
noncomputable def YW (k1:Int) (i0:Int) (l0:List (List UInt8×Int×List Int×Unit)):Option ((Int×Int×(List (List UInt8×Int×List Int×Unit))×Unit) ⊕ (Int×(List Zd))) :=
 if i0<(↑(List.length l0):Int) then
 (YN k1).bind fun markText0 =>
 (atI l0 i0).bind fun x0 =>
 (Yj x0.snd.snd.fst (IntKind.i64.wrap (IntKind.i64.wrap (k1+1)+1))).bind fun markInt64S0 =>
 some (.inl (markInt64S0.fst,IntKind.i64.wrap (i0+1),List.set l0 (Int.toNat i0) (markText0,IntKind.i64.wrap (k1+1),markInt64S0.snd,()),()))
 else
 some (.inr (k1,l0))
noncomputable def XO (a0:List Zd) (k0:Int):Option (Int×(List Zd)) :=
 Zw (fun v=>YW v.1 v.2.1 v.2.2.1) (k0,(0:Int),a0,())
noncomputable def Zxf:Ctr:=⟨[.back (.ol 124 (ZbN)),.dat (.int .i64)],[.dat (.int .i64)],fun a K=>splitK a fun a0 a=>splitK a fun k0 a=>ZB (XO a0 k0) fun r=>K (r.1,()) (r.2,())⟩
noncomputable def Xe (k1:Int) (i0:Int) (l0:List (List UInt8)):Option ((Int×Int×(List (List UInt8))×Unit) ⊕ (Int×(List (List UInt8)))) :=
 if i0<(↑(List.length l0):Int) then
 (YN k1).bind fun markText0 =>
 (atI l0 i0).bind fun x0 =>
 some (.inl (IntKind.i64.wrap (k1+1),IntKind.i64.wrap (i0+1),List.set l0 (Int.toNat i0) markText0,()))
 else
 some (.inr (k1,l0))
noncomputable def QY (a0:List (List UInt8)) (k0:Int):Option (Int×(List (List UInt8))) :=
 Zw (fun v=>Xe v.1 v.2.1 v.2.2.1) (k0,(0:Int),a0,())
noncomputable def ZxJ:Ctr:=⟨[.back (.ol 9 (.flat (.str))),.dat (.int .i64)],[.dat (.int .i64)],fun a K=>splitK a fun a0 a=>splitK a fun k0 a=>ZB (QY a0 k0) fun r=>K (r.1,()) (r.2,())⟩
noncomputable def XJ (k1:Int) (i0:Int) (l0:List ZU):Option ((Int×Int×(List ZU)×Unit) ⊕ (Int×(List ZU))) :=
 if i0<(↑(List.length l0):Int) then
 (YN k1).bind fun markText0 =>
 (atI l0 i0).bind fun x0 =>
 (atI (List.set l0 (Int.toNat i0) (markText0,x0.snd)) i0).bind fun x1 =>
 (atI (List.set (List.set l0 (Int.toNat i0) (markText0,x0.snd)) (Int.toNat i0) (ZU.Name x1,IntKind.i64.wrap (k1+1),x1.snd.snd)) i0).bind fun x2 =>
 some (.inl (IntKind.i64.wrap (IntKind.i64.wrap (IntKind.i64.wrap (k1+1)+1)+1),IntKind.i64.wrap (i0+1),List.set (List.set (List.set l0 (Int.toNat i0) (markText0,x0.snd)) (Int.toNat i0) (ZU.Name x1,IntKind.i64.wrap (k1+1),x1.snd.snd)) (Int.toNat i0) (ZU.Name x2,ZU.Dir x2,IntKind.i64.wrap (IntKind.i64.wrap (k1+1)+1),()),()))
 else
 some (.inr (k1,l0))
noncomputable def Jf (a0:List ZU) (k0:Int):Option (Int×(List ZU)) :=
 Zw (fun v=>XJ v.1 v.2.1 v.2.2.1) (k0,(0:Int),a0,())
noncomputable def c206:Ctr:=⟨[.back (.ol 178 (.flat (Xk))),.dat (.int .i64)],[.dat (.int .i64)],fun a K=>splitK a fun a0 a=>splitK a fun k0 a=>ZB (Jf a0 k0) fun r=>K (r.1,()) (r.2,())⟩
noncomputable def Vy (a0:Za) (k0:Int):Option (Int×Za) :=
 (XO (Za.Instances a0) k0).bind fun markInstanceS0 =>
 (QY (Za.ZQ a0) markInstanceS0.fst).bind fun markStringS0 =>
 (Jf (Za.Z5 a0) markStringS0.fst).bind fun markPortS0 =>
 some (markPortS0.fst,(markInstanceS0.snd,markStringS0.snd,markPortS0.snd,()))
noncomputable def Zx0:Ctr:=⟨[.back (Zkz),.dat (.int .i64)],[.dat (.int .i64)],fun a K=>splitK a fun a0 a=>splitK a fun k0 a=>ZB (Vy a0 k0) fun r=>K (r.1,()) (r.2,())⟩
noncomputable def XK (k1:Int) (i0:Int) (l0:List (List Int×List Int×List Int×List Int×Unit)):Option ((Int×Int×(List (List Int×List Int×List Int×List Int×Unit))×Unit) ⊕ (Int×(List Zn))) :=
 if i0<(↑(List.length l0):Int) then
 (atI l0 i0).bind fun x0 =>
 (Yj x0.fst k1).bind fun markInt64S0 =>
 (Yj x0.snd.fst markInt64S0.fst).bind fun markInt64S1 =>
 (Yj x0.snd.snd.fst markInt64S1.fst).bind fun markInt64S2 =>
 (Yj x0.snd.snd.snd.fst markInt64S2.fst).bind fun markInt64S3 =>
 some (.inl (markInt64S3.fst,IntKind.i64.wrap (i0+1),List.set l0 (Int.toNat i0) (markInt64S0.snd,markInt64S1.snd,markInt64S2.snd,markInt64S3.snd,()),()))
 else
 some (.inr (k1,l0))
noncomputable def Jl (a0:List Zn) (k0:Int):Option (Int×(List Zn)) :=
 Zw (fun v=>XK v.1 v.2.1 v.2.2.1) (k0,(0:Int),a0,())
noncomputable def c208:Ctr:=⟨[.back (.ol 64 (Zhu)),.dat (.int .i64)],[.dat (.int .i64)],fun a K=>splitK a fun a0 a=>splitK a fun k0 a=>ZB (Jl a0 k0) fun r=>K (r.1,()) (r.2,())⟩
noncomputable def Vt (a0:Zb) (k0:Int):Option (Int×Zb) :=
 (QW (Zb.Library a0) k0).bind fun markLibrary0 =>
 (Vy (Zb.Design a0) markLibrary0.fst).bind fun markDesign0 =>
 (Jl (Zb.Zz a0) markDesign0.fst).bind fun markWireS0 =>
 some (markWireS0.fst,(markLibrary0.snd,markDesign0.snd,markWireS0.snd,()))
noncomputable def Zyr:Ctr:=⟨[.back (ZdW),.dat (.int .i64)],[.dat (.int .i64)],fun a K=>splitK a fun a0 a=>splitK a fun k0 a=>ZB (Vt a0 k0) fun r=>K (r.1,()) (r.2,())⟩
noncomputable def Zch (a0:Zn) (k0:Int):Option (Int×Zn) :=
 (Yj (Zn.Parent a0) k0).bind fun markInt64S0 =>
 (Yj (Zn.Res a0) markInt64S0.fst).bind fun markInt64S1 =>
 (Yj (Zn.Cap a0) markInt64S1.fst).bind fun markInt64S2 =>
 (Yj (Zn.Zfp a0) markInt64S2.fst).bind fun markInt64S3 =>
 some (markInt64S3.fst,(markInt64S0.snd,markInt64S1.snd,markInt64S2.snd,markInt64S3.snd,()))
noncomputable def c210:Ctr:=⟨[.back (Zhu),.dat (.int .i64)],[.dat (.int .i64)],fun a K=>splitK a fun a0 a=>splitK a fun k0 a=>ZB (Zch a0 k0) fun r=>K (r.1,()) (r.2,())⟩
noncomputable def Zcx (a0:Zf) (k0:Int):Option (Int×Zf) :=
 (Zch (Zf.Zeq a0) k0).bind fun markWire0 =>
 some (markWire0.fst,(Zf.Kind a0,Zf.Place a0,Zf.Cell a0,Zf.Net a0,Zf.Node a0,Zf.Name a0,markWire0.snd,()))
noncomputable def ZxW:Ctr:=⟨[.back (ZvH),.dat (.int .i64)],[.dat (.int .i64)],fun a K=>splitK a fun a0 a=>splitK a fun k0 a=>ZB (Zcx a0 k0) fun r=>K (r.1,()) (r.2,())⟩
noncomputable def Vj (a0:List Yu) (k1:Int) (i0:Int):Option ((Int×Int×Unit) ⊕ Int) :=
 if i0<(↑(List.length a0):Int) then
 (atI a0 i0).bind fun x0 =>
 (YN k1).bind fun markText0 =>
 if Yu.Name x0=markText0 then
 if Yu.Dir x0=IntKind.i64.wrap (k1+1) then
 if Yu.Cap x0=IntKind.i64.wrap (IntKind.i64.wrap (k1+1)+1) then
 if (Yu.Clock x0 == Decidable.decide (Int.tmod (IntKind.i64.wrap (IntKind.i64.wrap (IntKind.i64.wrap (k1+1)+1)+1)) 3=0))=true then
 some (.inl (IntKind.i64.wrap (IntKind.i64.wrap (IntKind.i64.wrap (IntKind.i64.wrap (k1+1)+1)+1)+1),IntKind.i64.wrap (i0+1),()))
 else
 some (.inr (-1))
 else
 some (.inr (-1))
 else
 some (.inr (-1))
 else
 some (.inr (-1))
 else
 some (.inr k1)
noncomputable def Zcq (a0:List Yu) (k0:Int):Option Int :=
 Zw (fun v=>Vj a0 v.1 v.2.1) (k0,(0:Int),())
noncomputable def c212:Ctr:=⟨[.dat (.sl (V9)),.dat (.int .i64)],[.dat (.int .i64)],fun a K=>splitK a fun a0 a=>splitK a fun k0 a=>ZB (Zcq a0 k0) fun r=>K (r,()) ()⟩
noncomputable def Qp (a0:List Int) (k1:Int) (i0:Int):Option ((Int×Int×Unit) ⊕ Int) :=
 if i0<(↑(List.length a0):Int) then
 (atI a0 i0).bind fun x0 =>
 if x0=k1 then
 some (.inl (IntKind.i64.wrap (k1+1),IntKind.i64.wrap (i0+1),()))
 else
 some (.inr (-1))
 else
 some (.inr k1)
noncomputable def YO (a0:List Int) (k0:Int):Option Int :=
 Zw (fun v=>Qp a0 v.1 v.2.1) (k0,(0:Int),())
noncomputable def c213:Ctr:=⟨[.dat (.sl (.int .i64)),.dat (.int .i64)],[.dat (.int .i64)],fun a K=>splitK a fun a0 a=>splitK a fun k0 a=>ZB (YO a0 k0) fun r=>K (r,()) ()⟩
noncomputable def Qj (a0:List Zr) (k1:Int) (i0:Int):Option ((Int×Int×Unit) ⊕ Int) :=
 if i0<(↑(List.length a0):Int) then
 (atI a0 i0).bind fun x0 =>
 (YO (Zr.Zfk x0) k1).bind fun heldInt64S0 =>
 if heldInt64S0<0 then
 some (.inr (-1))
 else
 (YO (Zr.Loads x0) heldInt64S0).bind fun heldInt64S1 =>
 if heldInt64S1<0 then
 some (.inr (-1))
 else
 (YO (Zr.Values x0) heldInt64S1).bind fun heldInt64S2 =>
 if heldInt64S2<0 then
 some (.inr (-1))
 else
 some (.inl (heldInt64S2,IntKind.i64.wrap (i0+1),()))
 else
 some (.inr k1)
noncomputable def JW (a0:List Zr) (k0:Int):Option Int :=
 Zw (fun v=>Qj a0 v.1 v.2.1) (k0,(0:Int),())
noncomputable def ZwS:Ctr:=⟨[.dat (.sl (Yf)),.dat (.int .i64)],[.dat (.int .i64)],fun a K=>splitK a fun a0 a=>splitK a fun k0 a=>ZB (JW a0 k0) fun r=>K (r,()) ()⟩
noncomputable def Vm (a0:List ZM) (v0:Int) (v1:Int):Option ((Int×Int×Unit) ⊕ Int) :=
 if v1<(↑(List.length a0):Int) then
 (atI a0 v1).bind fun x0 =>
 if ZM.Kind x0=v0 then
 if ZM.From x0=IntKind.i64.wrap (v0+1) then
 if ZM.To x0=IntKind.i64.wrap (IntKind.i64.wrap (v0+1)+1) then
 if ZM.Zb5 x0=IntKind.i64.wrap (IntKind.i64.wrap (IntKind.i64.wrap (v0+1)+1)+1) then
 (JW (ZM.Delay x0) (IntKind.i64.wrap (IntKind.i64.wrap (IntKind.i64.wrap (IntKind.i64.wrap (v0+1)+1)+1)+1))).bind fun heldTableS0 =>
 if heldTableS0<0 then
 some (.inr (-1))
 else
 (JW (ZM.Zhn x0) heldTableS0).bind fun heldTableS1 =>
 if heldTableS1<0 then
 some (.inr (-1))
 else
 some (.inl (heldTableS1,IntKind.i64.wrap (v1+1),()))
 else
 some (.inr (-1))
 else
 some (.inr (-1))
 else
 some (.inr (-1))
 else
 some (.inr (-1))
 else
 some (.inr v0)
noncomputable def Zb7 (a0:List ZM) (a1:Int):Option Int :=
 Zw (fun v=>Vm a0 v.1 v.2.1) (a1,(0:Int),())
noncomputable def Zxy:Ctr:=⟨[.dat (.sl (Zaw)),.dat (.int .i64)],[.dat (.int .i64)],fun a K=>splitK a fun a0 a=>splitK a fun a1 a=>ZB (Zb7 a0 a1) fun r=>K (r,()) ()⟩
noncomputable def QK (a0:List Zh) (v0:Int) (v1:Int):Option ((Int×Int×Unit) ⊕ Int) :=
 if v1<(↑(List.length a0):Int) then
 (atI a0 v1).bind fun x0 =>
 (YN v0).bind fun markText0 =>
 if Zh.Name x0=markText0 then
 if Zh.Kind x0=IntKind.i64.wrap (v0+1) then
 (Zcq (Zh.Yy x0) (IntKind.i64.wrap (IntKind.i64.wrap (v0+1)+1))).bind fun heldPinS0 =>
 if heldPinS0<0 then
 some (.inr (-1))
 else
 (Zb7 (Zh.ZaS x0) heldPinS0).bind fun heldArcS0 =>
 if heldArcS0<0 then
 some (.inr (-1))
 else
 (YO (Zh.Truth x0) heldArcS0).bind fun heldInt64S0 =>
 if heldInt64S0<0 then
 some (.inr (-1))
 else
 if Zh.ZrB x0=heldInt64S0 then
 if Zh.Zgy x0=IntKind.i64.wrap (heldInt64S0+1) then
 some (.inl (IntKind.i64.wrap (IntKind.i64.wrap (heldInt64S0+1)+1),IntKind.i64.wrap (v1+1),()))
 else
 some (.inr (-1))
 else
 some (.inr (-1))
 else
 some (.inr (-1))
 else
 some (.inr (-1))
 else
 some (.inr v0)
noncomputable def Zbv (a0:List Zh) (a1:Int):Option Int :=
 Zw (fun v=>QK a0 v.1 v.2.1) (a1,(0:Int),())
noncomputable def ZxD:Ctr:=⟨[.dat (.sl (YL)),.dat (.int .i64)],[.dat (.int .i64)],fun a K=>splitK a fun a0 a=>splitK a fun a1 a=>ZB (Zbv a0 a1) fun r=>K (r,()) ()⟩
noncomputable def J5 (a0:Zl) (k0:Int):Option Int :=
 (Zbv (Zl.Cells a0) k0).bind fun heldCellS0 =>
 if heldCellS0<0 then
 some (-1)
 else
 some heldCellS0
noncomputable def ZxZ:Ctr:=⟨[.dat (Z0),.dat (.int .i64)],[.dat (.int .i64)],fun a K=>splitK a fun a0 a=>splitK a fun k0 a=>ZB (J5 a0 k0) fun r=>K (r,()) ()⟩
noncomputable def Xo (a0:List Zd) (k1:Int) (i0:Int):Option ((Int×Int×Unit) ⊕ Int) :=
 if i0<(↑(List.length a0):Int) then
 (atI a0 i0).bind fun x0 =>
 (YN k1).bind fun markText0 =>
 if Zd.Name x0=markText0 then
 if Zd.Cell x0=IntKind.i64.wrap (k1+1) then
 (YO (Zd.ZQ x0) (IntKind.i64.wrap (IntKind.i64.wrap (k1+1)+1))).bind fun heldInt64S0 =>
 if heldInt64S0<0 then
 some (.inr (-1))
 else
 some (.inl (heldInt64S0,IntKind.i64.wrap (i0+1),()))
 else
 some (.inr (-1))
 else
 some (.inr (-1))
 else
 some (.inr k1)
noncomputable def VD (a0:List Zd) (k0:Int):Option Int :=
 Zw (fun v=>Xo a0 v.1 v.2.1) (k0,(0:Int),())
noncomputable def c218:Ctr:=⟨[.dat (.sl (Zv)),.dat (.int .i64)],[.dat (.int .i64)],fun a K=>splitK a fun a0 a=>splitK a fun k0 a=>ZB (VD a0 k0) fun r=>K (r,()) ()⟩
noncomputable def XU (a0:List (List UInt8)) (k1:Int) (i0:Int):Option ((Int×Int×Unit) ⊕ Int) :=
 if i0<(↑(List.length a0):Int) then
 (atI a0 i0).bind fun x0 =>
 (YN k1).bind fun markText0 =>
 if x0=markText0 then
 some (.inl (IntKind.i64.wrap (k1+1),IntKind.i64.wrap (i0+1),()))
 else
 some (.inr (-1))
 else
 some (.inr k1)
noncomputable def J6 (a0:List (List UInt8)) (k0:Int):Option Int :=
 Zw (fun v=>XU a0 v.1 v.2.1) (k0,(0:Int),())
noncomputable def ZwO:Ctr:=⟨[.dat (.sl (.str)),.dat (.int .i64)],[.dat (.int .i64)],fun a K=>splitK a fun a0 a=>splitK a fun k0 a=>ZB (J6 a0 k0) fun r=>K (r,()) ()⟩
noncomputable def QS (a0:List ZU) (k1:Int) (i0:Int):Option ((Int×Int×Unit) ⊕ Int) :=
 if i0<(↑(List.length a0):Int) then
 (atI a0 i0).bind fun x0 =>
 (YN k1).bind fun markText0 =>
 if ZU.Name x0=markText0 then
 if ZU.Dir x0=IntKind.i64.wrap (k1+1) then
 if ZU.Net x0=IntKind.i64.wrap (IntKind.i64.wrap (k1+1)+1) then
 some (.inl (IntKind.i64.wrap (IntKind.i64.wrap (IntKind.i64.wrap (k1+1)+1)+1),IntKind.i64.wrap (i0+1),()))
 else
 some (.inr (-1))
 else
 some (.inr (-1))
 else
 some (.inr (-1))
 else
 some (.inr k1)
noncomputable def Zbf (a0:List ZU) (k0:Int):Option Int :=
 Zw (fun v=>QS a0 v.1 v.2.1) (k0,(0:Int),())
noncomputable def Zx4:Ctr:=⟨[.dat (.sl (Xk)),.dat (.int .i64)],[.dat (.int .i64)],fun a K=>splitK a fun a0 a=>splitK a fun k0 a=>ZB (Zbf a0 k0) fun r=>K (r,()) ()⟩
noncomputable def ZaM (a0:Za) (k0:Int):Option Int :=
 (VD (Za.Instances a0) k0).bind fun heldInstanceS0 =>
 if heldInstanceS0<0 then
 some (-1)
 else
 (J6 (Za.ZQ a0) heldInstanceS0).bind fun heldStringS0 =>
 if heldStringS0<0 then
 some (-1)
 else
 (Zbf (Za.Z5 a0) heldStringS0).bind fun heldPortS0 =>
 if heldPortS0<0 then
 some (-1)
 else
 some heldPortS0
noncomputable def Zw4:Ctr:=⟨[.dat (Z8),.dat (.int .i64)],[.dat (.int .i64)],fun a K=>splitK a fun a0 a=>splitK a fun k0 a=>ZB (ZaM a0 k0) fun r=>K (r,()) ()⟩
noncomputable def QN (a0:List Zn) (k1:Int) (i0:Int):Option ((Int×Int×Unit) ⊕ Int) :=
 if i0<(↑(List.length a0):Int) then
 (atI a0 i0).bind fun x0 =>
 (YO (Zn.Parent x0) k1).bind fun heldInt64S0 =>
 if heldInt64S0<0 then
 some (.inr (-1))
 else
 (YO (Zn.Res x0) heldInt64S0).bind fun heldInt64S1 =>
 if heldInt64S1<0 then
 some (.inr (-1))
 else
 (YO (Zn.Cap x0) heldInt64S1).bind fun heldInt64S2 =>
 if heldInt64S2<0 then
 some (.inr (-1))
 else
 (YO (Zn.Zfp x0) heldInt64S2).bind fun heldInt64S3 =>
 if heldInt64S3<0 then
 some (.inr (-1))
 else
 some (.inl (heldInt64S3,IntKind.i64.wrap (i0+1),()))
 else
 some (.inr k1)
noncomputable def Zbg (a0:List Zn) (k0:Int):Option Int :=
 Zw (fun v=>QN a0 v.1 v.2.1) (k0,(0:Int),())
noncomputable def c222:Ctr:=⟨[.dat (.sl (YJ)),.dat (.int .i64)],[.dat (.int .i64)],fun a K=>splitK a fun a0 a=>splitK a fun k0 a=>ZB (Zbg a0 k0) fun r=>K (r,()) ()⟩
noncomputable def Zbi (a0:Zb) (k0:Int):Option Int :=
 (J5 (Zb.Library a0) k0).bind fun heldLibrary0 =>
 if heldLibrary0<0 then
 some (-1)
 else
 (ZaM (Zb.Design a0) heldLibrary0).bind fun heldDesign0 =>
 if heldDesign0<0 then
 some (-1)
 else
 (Zbg (Zb.Zz a0) heldDesign0).bind fun heldWireS0 =>
 if heldWireS0<0 then
 some (-1)
 else
 some heldWireS0
noncomputable def Zxm:Ctr:=⟨[.dat (Yr),.dat (.int .i64)],[.dat (.int .i64)],fun a K=>splitK a fun a0 a=>splitK a fun k0 a=>ZB (Zbi a0 k0) fun r=>K (r,()) ()⟩
noncomputable def Vx (a0:Zb) (a1:Zf):Option Bool :=
 (ZaV a0 1048576).bind fun szBlock0 =>
 if szBlock0<0 then
 some Bool.true
 else
 (ZbT a1 szBlock0).bind fun szEdit0 =>
 if szEdit0<0 then
 some Bool.true
 else
 (Zdh a0).bind fun toBlock0 =>
 (Zes a1).bind fun toEdit0 =>
 (Zbh toBlock0 toEdit0).bind fun ApplyEdit0 =>
 (Zbp toBlock0 toEdit0).bind fun ApplyEdit1 =>
 (Zb0 ApplyEdit1.fst ApplyEdit0.fst).bind fun eqBlock0 =>
 if eqBlock0=true then
 if ApplyEdit1.snd=ApplyEdit0.snd then
 (Zb0 toBlock0 toBlock0).bind fun eqBlock1 =>
 if eqBlock1=true then
 (Zd7 toEdit0 toEdit0).bind fun eqEdit0 =>
 if eqEdit0=true then
 (Vt toBlock0 1).bind fun markBlock0 =>
 (Zcx toEdit0 markBlock0.fst).bind fun markEdit0 =>
 if markEdit0.fst<0 then
 some Bool.false
 else
 if eqBlock0=true then
 if ApplyEdit1.snd=ApplyEdit0.snd then
 (Vt ApplyEdit1.fst 1).bind fun markBlock1 =>
 (Zbi markBlock1.snd 1).bind fun heldBlock0 =>
 if heldBlock0<0 then
 some Bool.false
 else
 if heldBlock0=markBlock1.fst then
 if eqBlock0=true then
 if ApplyEdit1.snd=ApplyEdit0.snd then
 if heldBlock0<0 then
 some Bool.false
 else
 if heldBlock0=markBlock1.fst then
 some Bool.true
 else
 some Bool.false
 else
 some Bool.false
 else
 some Bool.false
 else
 some Bool.false
 else
 some Bool.false
 else
 some Bool.false
 else
 some Bool.false
 else
 some Bool.false
 else
 some Bool.false
 else
 some Bool.false
noncomputable def ZdA:Ctr:=⟨[.dat (Yr),.dat (VT)],[.dat (.bool)],fun a K=>splitK a fun a0 a=>splitK a fun a1 a=>ZB (Vx a0 a1) fun r=>K (r,()) ()⟩
end Go.Proofs.YtehkanadahncgaaGreatDoor
