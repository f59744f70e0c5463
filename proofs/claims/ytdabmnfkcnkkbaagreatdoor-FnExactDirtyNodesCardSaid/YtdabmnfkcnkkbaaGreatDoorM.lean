/-
 The models of the functions and their contracts. Printed by program.
-/
import Derived.Test.YtdabmnfkcnkkbaaGreatDoorSxTab
import Derived.Test.YtdabmnfkcnkkbaaGreatDoorSxS0
import Derived.Test.YtdabmnfkcnkkbaaGreatDoorSxLib
import Derived.Test.YtdabmnfkcnkkbaaGreatDoorSxLibS
namespace Go.Proofs.YtdabmnfkcnkkbaaGreatDoor
open Go Go.Sx
set_option maxRecDepth 100000
set_option maxHeartbeats 3200000
set_option linter.unusedVariables false
set_option linter.unusedSimpArgs false
noncomputable section
def Zb6 (a0:YX) (left0:Int):Option Int :=
 if IntKind.i64.wrap (left0-(↑(List.length (YX.Name a0)):Int))<0 then
 some (-1)
 else
 some (IntKind.i64.wrap (left0-(↑(List.length (YX.Name a0)):Int)))
def c0:Ctr:=D2 (Zcb) (.int .i64) (.int .i64) Zb6
def ZjA (a0:List YX) (left1:Int) (i0:Int):Option ((Int×Int×Unit) ⊕ Int) :=
 if i0<(↑(List.length a0):Int) then
 (atI a0 i0).bind fun x0 =>
 (Zb6 x0 left1).bind fun szPin0 =>
 if szPin0<0 then
 some (.inr (-1))
 else
 some (.inl (szPin0,IntKind.i64.wrap (i0+1),()))
 else
 some (.inr left1)
def ZcV (a0:List YX) (left0:Int):Option Int :=
 if IntKind.i64.wrap (left0-(↑(List.length a0):Int))<0 then
 some (-1)
 else
 Yc (fun v=>ZjA a0 v.1 v.2.1) (IntKind.i64.wrap (left0-(↑(List.length a0):Int)),(0:Int),())
def c1:Ctr:=D2 (.sl (Zcb)) (.int .i64) (.int .i64) ZcV
def Xy (a0:List Int) (left0:Int):Option Int :=
 if IntKind.i64.wrap (left0-(↑(List.length a0):Int))<0 then
 some (-1)
 else
 some (IntKind.i64.wrap (left0-(↑(List.length a0):Int)))
def c2:Ctr:=D2 (.sl (.int .i64)) (.int .i64) (.int .i64) Xy
def Jz (a0:Yb) (left0:Int):Option Int :=
 (Xy (Yb.Ze5 a0) left0).bind fun szInt64S0 =>
 if szInt64S0<0 then
 some (-1)
 else
 (Xy (Yb.Loads a0) szInt64S0).bind fun szInt64S1 =>
 if szInt64S1<0 then
 some (-1)
 else
 (Xy (Yb.Values a0) szInt64S1).bind fun szInt64S2 =>
 if szInt64S2<0 then
 some (-1)
 else
 some szInt64S2
def c3:Ctr:=D2 (Xc) (.int .i64) (.int .i64) Jz
def Zh0 (a0:List Yb) (left1:Int) (i0:Int):Option ((Int×Int×Unit) ⊕ Int) :=
 if i0<(↑(List.length a0):Int) then
 (atI a0 i0).bind fun x0 =>
 (Jz x0 left1).bind fun szTable0 =>
 if szTable0<0 then
 some (.inr (-1))
 else
 some (.inl (szTable0,IntKind.i64.wrap (i0+1),()))
 else
 some (.inr left1)
def JK (a0:List Yb) (left0:Int):Option Int :=
 if IntKind.i64.wrap (left0-(↑(List.length a0):Int))<0 then
 some (-1)
 else
 Yc (fun v=>Zh0 a0 v.1 v.2.1) (IntKind.i64.wrap (left0-(↑(List.length a0):Int)),(0:Int),())
def c4:Ctr:=D2 (.sl (Xc)) (.int .i64) (.int .i64) JK
def Zb3 (a0:Yi) (left0:Int):Option Int :=
 (JK (Yi.Delay a0) left0).bind fun szTableS0 =>
 if szTableS0<0 then
 some (-1)
 else
 (JK (Yi.Zhn a0) szTableS0).bind fun szTableS1 =>
 if szTableS1<0 then
 some (-1)
 else
 some szTableS1
def c5:Ctr:=D2 (Zdz) (.int .i64) (.int .i64) Zb3
def Zjx (a0:List Yi) (left1:Int) (i0:Int):Option ((Int×Int×Unit) ⊕ Int) :=
 if i0<(↑(List.length a0):Int) then
 (atI a0 i0).bind fun x0 =>
 (Zb3 x0 left1).bind fun szArc0 =>
 if szArc0<0 then
 some (.inr (-1))
 else
 some (.inl (szArc0,IntKind.i64.wrap (i0+1),()))
 else
 some (.inr left1)
def ZcT (a0:List Yi) (left0:Int):Option Int :=
 if IntKind.i64.wrap (left0-(↑(List.length a0):Int))<0 then
 some (-1)
 else
 Yc (fun v=>Zjx a0 v.1 v.2.1) (IntKind.i64.wrap (left0-(↑(List.length a0):Int)),(0:Int),())
def c6:Ctr:=D2 (.sl (Zdz)) (.int .i64) (.int .i64) ZcT
def ZaD (a0:Z4) (left0:Int):Option Int :=
 if IntKind.i64.wrap (left0-(↑(List.length (Z4.Name a0)):Int))<0 then
 some (-1)
 else
 (ZcV (Z4.YV a0) (IntKind.i64.wrap (left0-(↑(List.length (Z4.Name a0)):Int)))).bind fun szPinS0 =>
 if szPinS0<0 then
 some (-1)
 else
 (ZcT (Z4.JB a0) szPinS0).bind fun szArcS0 =>
 if szArcS0<0 then
 some (-1)
 else
 (Xy (Z4.Truth a0) szArcS0).bind fun szInt64S0 =>
 if szInt64S0<0 then
 some (-1)
 else
 some szInt64S0
def c7:Ctr:=D2 (XZ) (.int .i64) (.int .i64) ZaD
def ZiG (a0:List Z4) (left1:Int) (i0:Int):Option ((Int×Int×Unit) ⊕ Int) :=
 if i0<(↑(List.length a0):Int) then
 (atI a0 i0).bind fun x0 =>
 (ZaD x0 left1).bind fun szCell0 =>
 if szCell0<0 then
 some (.inr (-1))
 else
 some (.inl (szCell0,IntKind.i64.wrap (i0+1),()))
 else
 some (.inr left1)
def Zb5 (a0:List Z4) (left0:Int):Option Int :=
 if IntKind.i64.wrap (left0-(↑(List.length a0):Int))<0 then
 some (-1)
 else
 Yc (fun v=>ZiG a0 v.1 v.2.1) (IntKind.i64.wrap (left0-(↑(List.length a0):Int)),(0:Int),())
def c8:Ctr:=D2 (.sl (XZ)) (.int .i64) (.int .i64) Zb5
def J8 (a0:Z7) (left0:Int):Option Int :=
 (Zb5 (Z7.Cells a0) left0).bind fun szCellS0 =>
 if szCellS0<0 then
 some (-1)
 else
 some szCellS0
def c9:Ctr:=D2 (Y9) (.int .i64) (.int .i64) J8
def QK (a0:ZW) (left0:Int):Option Int :=
 if IntKind.i64.wrap (left0-(↑(List.length (ZW.Name a0)):Int))<0 then
 some (-1)
 else
 (Xy (ZW.Yh a0) (IntKind.i64.wrap (left0-(↑(List.length (ZW.Name a0)):Int)))).bind fun szInt64S0 =>
 if szInt64S0<0 then
 some (-1)
 else
 some szInt64S0
def c10:Ctr:=D2 (Yr) (.int .i64) (.int .i64) QK
def Zgj (a0:List ZW) (left1:Int) (i0:Int):Option ((Int×Int×Unit) ⊕ Int) :=
 if i0<(↑(List.length a0):Int) then
 (atI a0 i0).bind fun x0 =>
 (QK x0 left1).bind fun szInstance0 =>
 if szInstance0<0 then
 some (.inr (-1))
 else
 some (.inl (szInstance0,IntKind.i64.wrap (i0+1),()))
 else
 some (.inr left1)
def VH (a0:List ZW) (left0:Int):Option Int :=
 if IntKind.i64.wrap (left0-(↑(List.length a0):Int))<0 then
 some (-1)
 else
 Yc (fun v=>Zgj a0 v.1 v.2.1) (IntKind.i64.wrap (left0-(↑(List.length a0):Int)),(0:Int),())
def c11:Ctr:=D2 (.sl (Yr)) (.int .i64) (.int .i64) VH
def Q6 (a0:List (List UInt8)) (left1:Int) (i0:Int):Option ((Int×Int×Unit) ⊕ Int) :=
 if i0<(↑(List.length a0):Int) then
 (atI a0 i0).bind fun x0 =>
 if IntKind.i64.wrap (left1-(↑(List.length x0):Int))<0 then
 some (.inr (-1))
 else
 some (.inl (IntKind.i64.wrap (left1-(↑(List.length x0):Int)),IntKind.i64.wrap (i0+1),()))
 else
 some (.inr left1)
def J9 (a0:List (List UInt8)) (left0:Int):Option Int :=
 if IntKind.i64.wrap (left0-(↑(List.length a0):Int))<0 then
 some (-1)
 else
 Yc (fun v=>Q6 a0 v.1 v.2.1) (IntKind.i64.wrap (left0-(↑(List.length a0):Int)),(0:Int),())
def c12:Ctr:=D2 (.sl (.str)) (.int .i64) (.int .i64) J9
def ZaE (a0:Ym) (left0:Int):Option Int :=
 if IntKind.i64.wrap (left0-(↑(List.length (Ym.Name a0)):Int))<0 then
 some (-1)
 else
 some (IntKind.i64.wrap (left0-(↑(List.length (Ym.Name a0)):Int)))
def c13:Ctr:=D2 (VX) (.int .i64) (.int .i64) ZaE
def ZiJ (a0:List Ym) (left1:Int) (i0:Int):Option ((Int×Int×Unit) ⊕ Int) :=
 if i0<(↑(List.length a0):Int) then
 (atI a0 i0).bind fun x0 =>
 (ZaE x0 left1).bind fun szPort0 =>
 if szPort0<0 then
 some (.inr (-1))
 else
 some (.inl (szPort0,IntKind.i64.wrap (i0+1),()))
 else
 some (.inr left1)
def Zb7 (a0:List Ym) (left0:Int):Option Int :=
 if IntKind.i64.wrap (left0-(↑(List.length a0):Int))<0 then
 some (-1)
 else
 Yc (fun v=>ZiJ a0 v.1 v.2.1) (IntKind.i64.wrap (left0-(↑(List.length a0):Int)),(0:Int),())
def c14:Ctr:=D2 (.sl (VX)) (.int .i64) (.int .i64) Zb7
def ZaX (a0:ZT) (left0:Int):Option Int :=
 (VH (ZT.Instances a0) left0).bind fun szInstanceS0 =>
 if szInstanceS0<0 then
 some (-1)
 else
 (J9 (ZT.Yh a0) szInstanceS0).bind fun szStringS0 =>
 if szStringS0<0 then
 some (-1)
 else
 (Zb7 (ZT.Yo a0) szStringS0).bind fun szPortS0 =>
 if szPortS0<0 then
 some (-1)
 else
 some szPortS0
def c15:Ctr:=D2 (YQ) (.int .i64) (.int .i64) ZaX
def JL (a0:Z9) (left0:Int):Option Int :=
 (Xy (Z9.Parent a0) left0).bind fun szInt64S0 =>
 if szInt64S0<0 then
 some (-1)
 else
 (Xy (Z9.Res a0) szInt64S0).bind fun szInt64S1 =>
 if szInt64S1<0 then
 some (-1)
 else
 (Xy (Z9.Cap a0) szInt64S1).bind fun szInt64S2 =>
 if szInt64S2<0 then
 some (-1)
 else
 (Xy (Z9.Ze4 a0) szInt64S2).bind fun szInt64S3 =>
 if szInt64S3<0 then
 some (-1)
 else
 some szInt64S3
def c16:Ctr:=D2 (Xr) (.int .i64) (.int .i64) JL
def ZiL (a0:List Z9) (left1:Int) (i0:Int):Option ((Int×Int×Unit) ⊕ Int) :=
 if i0<(↑(List.length a0):Int) then
 (atI a0 i0).bind fun x0 =>
 (JL x0 left1).bind fun szWire0 =>
 if szWire0<0 then
 some (.inr (-1))
 else
 some (.inl (szWire0,IntKind.i64.wrap (i0+1),()))
 else
 some (.inr left1)
def Zb8 (a0:List Z9) (left0:Int):Option Int :=
 if IntKind.i64.wrap (left0-(↑(List.length a0):Int))<0 then
 some (-1)
 else
 Yc (fun v=>ZiL a0 v.1 v.2.1) (IntKind.i64.wrap (left0-(↑(List.length a0):Int)),(0:Int),())
def c17:Ctr:=D2 (.sl (Xr)) (.int .i64) (.int .i64) Zb8
def Zb4 (a0:ZU) (left0:Int):Option Int :=
 (J8 (ZU.Library a0) left0).bind fun szLibrary0 =>
 if szLibrary0<0 then
 some (-1)
 else
 (ZaX (ZU.Design a0) szLibrary0).bind fun szDesign0 =>
 if szDesign0<0 then
 some (-1)
 else
 (Zb8 (ZU.Ye a0) szDesign0).bind fun szWireS0 =>
 if szWireS0<0 then
 some (-1)
 else
 some szWireS0
def c18:Ctr:=D2 (Xg) (.int .i64) (.int .i64) Zb4
def ZcU (a0:ZY) (left0:Int):Option Int :=
 if IntKind.i64.wrap (left0-(↑(List.length (ZY.Name a0)):Int))<0 then
 some (-1)
 else
 (JL (ZY.Zc9 a0) (IntKind.i64.wrap (left0-(↑(List.length (ZY.Name a0)):Int)))).bind fun szWire0 =>
 if szWire0<0 then
 some (-1)
 else
 some szWire0
def c19:Ctr:=D2 (QZ) (.int .i64) (.int .i64) ZcU
def Zfr (a0:YX):Option YX :=
 some a0
def c20:Ctr:=D1 (Zcb) (Zcb) Zfr
def ZjE (a0:List YX) (i0:Int) (l0:List (List UInt8×Int×Int×Bool×Unit)):Option ((Int×(List (List UInt8×Int×Int×Bool×Unit))×Unit) ⊕ List YX) :=
 if i0<(↑(List.length a0):Int) then
 (atI a0 i0).bind fun x0 =>
 (Zfr x0).bind fun toPin0 =>
 (atI l0 i0).bind fun x1 =>
 some (.inl (IntKind.i64.wrap (i0+1),List.set l0 (Int.toNat i0) toPin0,()))
 else
 some (.inr l0)
def ZfO (a0:List YX):Option (List YX) :=
 Yf ((0:Int)≤(↑(List.length a0):Int)) <|
 Yf ((↑(List.length a0):Int)≤(↑(List.length a0):Int)) <|
 Yf ((↑(List.length a0):Int)≤(4611686018427387904:Int)) <|
 Yf ((↑(40:Nat):Int)*(↑(List.length a0):Int)≤(281474976710656:Int)) <|
 Yc (fun v=>ZjE a0 v.1 v.2.1) ((0:Int),List.replicate (Int.toNat (↑(List.length a0):Int)) (([]:List UInt8),(0:Int),(0:Int),Bool.false,()),())
def c21:Ctr:=⟨[.dat (.sl (Zcb))],[.own (.ol 168 (.flat (Zcb)))],fun a K=>splitK a fun a0 a=>Xl (ZfO a0) fun r=>K (r,()) ()⟩
def Zh2 (a0:List Int) (i0:Int) (l0:List Int):Option ((Int×(List Int)×Unit) ⊕ List Int) :=
 if i0<(↑(List.length a0):Int) then
 (atI a0 i0).bind fun x0 =>
 (atI l0 i0).bind fun x1 =>
 some (.inl (IntKind.i64.wrap (i0+1),List.set l0 (Int.toNat i0) x0,()))
 else
 some (.inr l0)
def XW (a0:List Int):Option (List Int) :=
 Yf ((0:Int)≤(↑(List.length a0):Int)) <|
 Yf ((↑(List.length a0):Int)≤(↑(List.length a0):Int)) <|
 Yf ((↑(List.length a0):Int)≤(4611686018427387904:Int)) <|
 Yf ((↑(8:Nat):Int)*(↑(List.length a0):Int)≤(281474976710656:Int)) <|
 Yc (fun v=>Zh2 a0 v.1 v.2.1) ((0:Int),List.replicate (Int.toNat (↑(List.length a0):Int)) (0:Int),())
def c22:Ctr:=⟨[.dat (.sl (.int .i64))],[.own (.ol 2 (.flat (.int .i64)))],fun a K=>splitK a fun a0 a=>Xl (XW a0) fun r=>K (r,()) ()⟩
def Zdu (a0:Yb):Option Yb :=
 (XW (Yb.Ze5 a0)).bind fun toInt64S0 =>
 (XW (Yb.Loads a0)).bind fun toInt64S1 =>
 (XW (Yb.Values a0)).bind fun toInt64S2 =>
 some (toInt64S0,toInt64S1,toInt64S2,())
def c23:Ctr:=⟨[.dat (Xc)],[.own (Zds)],fun a K=>splitK a fun a0 a=>Xl (Zdu a0) fun r=>K (r,()) ()⟩
def Zh3 (a0:List Yb) (i0:Int) (l0:List Yb):Option ((Int×(List Yb)×Unit) ⊕ List Yb) :=
 if i0<(↑(List.length a0):Int) then
 (atI a0 i0).bind fun x0 =>
 (Zdu x0).bind fun toTable0 =>
 (atI l0 i0).bind fun x1 =>
 some (.inl (IntKind.i64.wrap (i0+1),List.set l0 (Int.toNat i0) toTable0,()))
 else
 some (.inr l0)
def Zcs (a0:List Yb):Option (List Yb) :=
 Yf ((0:Int)≤(↑(List.length a0):Int)) <|
 Yf ((↑(List.length a0):Int)≤(↑(List.length a0):Int)) <|
 Yf ((↑(List.length a0):Int)≤(4611686018427387904:Int)) <|
 Yf ((↑(72:Nat):Int)*(↑(List.length a0):Int)≤(281474976710656:Int)) <|
 Yc (fun v=>Zh3 a0 v.1 v.2.1) ((0:Int),List.replicate (Int.toNat (↑(List.length a0):Int)) (([]:List Int),([]:List Int),([]:List Int),()),())
def c24:Ctr:=⟨[.dat (.sl (Xc))],[.own (.ol 241 (Zds))],fun a K=>splitK a fun a0 a=>Xl (Zcs a0) fun r=>K (r,()) ()⟩
def Zfq (a0:Yi):Option Yi :=
 (Zcs (Yi.Delay a0)).bind fun toTableS0 =>
 (Zcs (Yi.Zhn a0)).bind fun toTableS1 =>
 some (Yi.Kind a0,Yi.From a0,Yi.To a0,Yi.Zbn a0,toTableS0,toTableS1,())
def c25:Ctr:=⟨[.dat (Zdz)],[.own (Zqz)],fun a K=>splitK a fun a0 a=>Xl (Zfq a0) fun r=>K (r,()) ()⟩
def ZjC (a0:List Yi) (i0:Int) (l0:List Yi):Option ((Int×(List Yi)×Unit) ⊕ List Yi) :=
 if i0<(↑(List.length a0):Int) then
 (atI a0 i0).bind fun x0 =>
 (Zfq x0).bind fun toArc0 =>
 (atI l0 i0).bind fun x1 =>
 some (.inl (IntKind.i64.wrap (i0+1),List.set l0 (Int.toNat i0) toArc0,()))
 else
 some (.inr l0)
def ZfM (a0:List Yi):Option (List Yi) :=
 Yf ((0:Int)≤(↑(List.length a0):Int)) <|
 Yf ((↑(List.length a0):Int)≤(↑(List.length a0):Int)) <|
 Yf ((↑(List.length a0):Int)≤(4611686018427387904:Int)) <|
 Yf ((↑(80:Nat):Int)*(↑(List.length a0):Int)≤(281474976710656:Int)) <|
 Yc (fun v=>ZjC a0 v.1 v.2.1) ((0:Int),List.replicate (Int.toNat (↑(List.length a0):Int)) ((0:Int),(0:Int),(0:Int),(0:Int),([]:List Yb),([]:List Yb),()),())
def c26:Ctr:=⟨[.dat (.sl (Zdz))],[.own (.ol 201 (Zqz))],fun a K=>splitK a fun a0 a=>Xl (ZfM a0) fun r=>K (r,()) ()⟩
def Zer (a0:Z4):Option Z4 :=
 (ZfO (Z4.YV a0)).bind fun toPinS0 =>
 (ZfM (Z4.JB a0)).bind fun toArcS0 =>
 (XW (Z4.Truth a0)).bind fun toInt64S0 =>
 some (Z4.Name a0,Z4.Kind a0,toPinS0,toArcS0,toInt64S0,a0.snd.snd.snd.snd.snd)
def c27:Ctr:=⟨[.dat (XZ)],[.own (Zkg)],fun a K=>splitK a fun a0 a=>Xl (Zer a0) fun r=>K (r,()) ()⟩
def ZiM (a0:List Z4) (i0:Int) (l0:List Z4):Option ((Int×(List Z4)×Unit) ⊕ List Z4) :=
 if i0<(↑(List.length a0):Int) then
 (atI a0 i0).bind fun x0 =>
 (Zer x0).bind fun toCell0 =>
 (atI l0 i0).bind fun x1 =>
 some (.inl (IntKind.i64.wrap (i0+1),List.set l0 (Int.toNat i0) toCell0,()))
 else
 some (.inr l0)
def ZeR (a0:List Z4):Option (List Z4) :=
 Yf ((0:Int)≤(↑(List.length a0):Int)) <|
 Yf ((↑(List.length a0):Int)≤(↑(List.length a0):Int)) <|
 Yf ((↑(List.length a0):Int)≤(4611686018427387904:Int)) <|
 Yf ((↑(112:Nat):Int)*(↑(List.length a0):Int)≤(281474976710656:Int)) <|
 Yc (fun v=>ZiM a0 v.1 v.2.1) ((0:Int),List.replicate (Int.toNat (↑(List.length a0):Int)) (([]:List UInt8),(0:Int),([]:List YX),([]:List Yi),([]:List Int),(0:Int),(0:Int),()),())
def c28:Ctr:=⟨[.dat (.sl (XZ))],[.own (.ol 133 (Zkg))],fun a K=>splitK a fun a0 a=>Xl (ZeR a0) fun r=>K (r,()) ()⟩
def Zdk (a0:Z7):Option Z7 :=
 (ZeR (Z7.Cells a0)).bind fun toCellS0 =>
 some (toCellS0,())
def c29:Ctr:=⟨[.dat (Y9)],[.own (Zil)],fun a K=>splitK a fun a0 a=>Xl (Zdk a0) fun r=>K (r,()) ()⟩
def ZaF (a0:ZW):Option ZW :=
 (XW (ZW.Yh a0)).bind fun toInt64S0 =>
 some (ZW.Name a0,ZW.Cell a0,toInt64S0,())
def c30:Ctr:=⟨[.dat (Yr)],[.own (Zat)],fun a K=>splitK a fun a0 a=>Xl (ZaF a0) fun r=>K (r,()) ()⟩
def Zgk (a0:List ZW) (i0:Int) (l0:List ZW):Option ((Int×(List ZW)×Unit) ⊕ List ZW) :=
 if i0<(↑(List.length a0):Int) then
 (atI a0 i0).bind fun x0 =>
 (ZaF x0).bind fun toInstance0 =>
 (atI l0 i0).bind fun x1 =>
 some (.inl (IntKind.i64.wrap (i0+1),List.set l0 (Int.toNat i0) toInstance0,()))
 else
 some (.inr l0)
def ZbE (a0:List ZW):Option (List ZW) :=
 Yf ((0:Int)≤(↑(List.length a0):Int)) <|
 Yf ((↑(List.length a0):Int)≤(↑(List.length a0):Int)) <|
 Yf ((↑(List.length a0):Int)≤(4611686018427387904:Int)) <|
 Yf ((↑(48:Nat):Int)*(↑(List.length a0):Int)≤(281474976710656:Int)) <|
 Yc (fun v=>Zgk a0 v.1 v.2.1) ((0:Int),List.replicate (Int.toNat (↑(List.length a0):Int)) (([]:List UInt8),(0:Int),([]:List Int),()),())
def c31:Ctr:=⟨[.dat (.sl (Yr))],[.own (.ol 134 (Zat))],fun a K=>splitK a fun a0 a=>Xl (ZbE a0) fun r=>K (r,()) ()⟩
def Zhg (a0:List (List UInt8)) (i0:Int) (l0:List (List UInt8)):Option ((Int×(List (List UInt8))×Unit) ⊕ List (List UInt8)) :=
 if i0<(↑(List.length a0):Int) then
 (atI a0 i0).bind fun x0 =>
 (atI l0 i0).bind fun x1 =>
 some (.inl (IntKind.i64.wrap (i0+1),List.set l0 (Int.toNat i0) x0,()))
 else
 some (.inr l0)
def Zdl (a0:List (List UInt8)):Option (List (List UInt8)) :=
 Yf ((0:Int)≤(↑(List.length a0):Int)) <|
 Yf ((↑(List.length a0):Int)≤(↑(List.length a0):Int)) <|
 Yf ((↑(List.length a0):Int)≤(4611686018427387904:Int)) <|
 Yf ((↑(16:Nat):Int)*(↑(List.length a0):Int)≤(281474976710656:Int)) <|
 Yc (fun v=>Zhg a0 v.1 v.2.1) ((0:Int),List.replicate (Int.toNat (↑(List.length a0):Int)) (([]:List UInt8)),())
def c32:Ctr:=⟨[.dat (.sl (.str))],[.own (.ol 9 (.flat (.str)))],fun a K=>splitK a fun a0 a=>Xl (Zdl a0) fun r=>K (r,()) ()⟩
def Zes (a0:Ym):Option Ym :=
 some a0
def c33:Ctr:=D1 (VX) (VX) Zes
def ZiO (a0:List Ym) (i0:Int) (l0:List (List UInt8×Int×Int×Unit)):Option ((Int×(List (List UInt8×Int×Int×Unit))×Unit) ⊕ List Ym) :=
 if i0<(↑(List.length a0):Int) then
 (atI a0 i0).bind fun x0 =>
 (Zes x0).bind fun toPort0 =>
 (atI l0 i0).bind fun x1 =>
 some (.inl (IntKind.i64.wrap (i0+1),List.set l0 (Int.toNat i0) toPort0,()))
 else
 some (.inr l0)
def ZeS (a0:List Ym):Option (List Ym) :=
 Yf ((0:Int)≤(↑(List.length a0):Int)) <|
 Yf ((↑(List.length a0):Int)≤(↑(List.length a0):Int)) <|
 Yf ((↑(List.length a0):Int)≤(4611686018427387904:Int)) <|
 Yf ((↑(32:Nat):Int)*(↑(List.length a0):Int)≤(281474976710656:Int)) <|
 Yc (fun v=>ZiO a0 v.1 v.2.1) ((0:Int),List.replicate (Int.toNat (↑(List.length a0):Int)) (([]:List UInt8),(0:Int),(0:Int),()),())
def c34:Ctr:=⟨[.dat (.sl (VX))],[.own (.ol 138 (.flat (VX)))],fun a K=>splitK a fun a0 a=>Xl (ZeS a0) fun r=>K (r,()) ()⟩
def ZdZ (a0:ZT):Option ZT :=
 (ZbE (ZT.Instances a0)).bind fun toInstanceS0 =>
 (Zdl (ZT.Yh a0)).bind fun toStringS0 =>
 (ZeS (ZT.Yo a0)).bind fun toPortS0 =>
 some (toInstanceS0,toStringS0,toPortS0,())
def c35:Ctr:=⟨[.dat (YQ)],[.own (Zjc)],fun a K=>splitK a fun a0 a=>Xl (ZdZ a0) fun r=>K (r,()) ()⟩
def ZcW (a0:Z9):Option Z9 :=
 (XW (Z9.Parent a0)).bind fun toInt64S0 =>
 (XW (Z9.Res a0)).bind fun toInt64S1 =>
 (XW (Z9.Cap a0)).bind fun toInt64S2 =>
 (XW (Z9.Ze4 a0)).bind fun toInt64S3 =>
 some (toInt64S0,toInt64S1,toInt64S2,toInt64S3,())
def c36:Ctr:=⟨[.dat (Xr)],[.own (Zg8)],fun a K=>splitK a fun a0 a=>Xl (ZcW a0) fun r=>K (r,()) ()⟩
def ZiP (a0:List Z9) (i0:Int) (l0:List Z9):Option ((Int×(List Z9)×Unit) ⊕ List Z9) :=
 if i0<(↑(List.length a0):Int) then
 (atI a0 i0).bind fun x0 =>
 (ZcW x0).bind fun toWire0 =>
 (atI l0 i0).bind fun x1 =>
 some (.inl (IntKind.i64.wrap (i0+1),List.set l0 (Int.toNat i0) toWire0,()))
 else
 some (.inr l0)
def ZeT (a0:List Z9):Option (List Z9) :=
 Yf ((0:Int)≤(↑(List.length a0):Int)) <|
 Yf ((↑(List.length a0):Int)≤(↑(List.length a0):Int)) <|
 Yf ((↑(List.length a0):Int)≤(4611686018427387904:Int)) <|
 Yf ((↑(96:Nat):Int)*(↑(List.length a0):Int)≤(281474976710656:Int)) <|
 Yc (fun v=>ZiP a0 v.1 v.2.1) ((0:Int),List.replicate (Int.toNat (↑(List.length a0):Int)) (([]:List Int),([]:List Int),([]:List Int),([]:List Int),()),())
def c37:Ctr:=⟨[.dat (.sl (Xr))],[.own (.ol 53 (Zg8))],fun a K=>splitK a fun a0 a=>Xl (ZeT a0) fun r=>K (r,()) ()⟩
def ZeQ (a0:ZU):Option ZU :=
 (Zdk (ZU.Library a0)).bind fun toLibrary0 =>
 (ZdZ (ZU.Design a0)).bind fun toDesign0 =>
 (ZeT (ZU.Ye a0)).bind fun toWireS0 =>
 some (toLibrary0,toDesign0,toWireS0,())
def c38:Ctr:=⟨[.dat (Xg)],[.own (ZdK)],fun a K=>splitK a fun a0 a=>Xl (ZeQ a0) fun r=>K (r,()) ()⟩
def ZfN (a0:ZY):Option ZY :=
 (ZcW (ZY.Zc9 a0)).bind fun toWire0 =>
 some (ZY.Kind a0,ZY.Place a0,ZY.Cell a0,ZY.Net a0,ZY.Node a0,ZY.Name a0,toWire0,())
def c39:Ctr:=⟨[.dat (QZ)],[.own (ZuR)],fun a K=>splitK a fun a0 a=>Xl (ZfN a0) fun r=>K (r,()) ()⟩
def ZcD (s0:List UInt8) (i0:Int):Option ((Int×Unit) ⊕ Bool) :=
 if i0<(↑(List.length s0):Int) then
 (atI s0 i0).bind fun x0 =>
 if 97≤(↑(UInt8.toNat x0):Int) then
 if 48≤(↑(UInt8.toNat x0):Int) then
 if (↑(UInt8.toNat x0):Int)≤122 then
 some (.inl (IntKind.i64.wrap (i0+1),()))
 else
 if (↑(UInt8.toNat x0):Int)≤57 then
 if 0<i0 then
 some (.inl (IntKind.i64.wrap (i0+1),()))
 else
 some (.inr Bool.false)
 else
 some (.inr Bool.false)
 else
 if (↑(UInt8.toNat x0):Int)≤122 then
 some (.inl (IntKind.i64.wrap (i0+1),()))
 else
 some (.inr Bool.false)
 else
 if 48≤(↑(UInt8.toNat x0):Int) then
 if (↑(UInt8.toNat x0):Int)≤57 then
 if 0<i0 then
 some (.inl (IntKind.i64.wrap (i0+1),()))
 else
 some (.inr Bool.false)
 else
 some (.inr Bool.false)
 else
 some (.inr Bool.false)
 else
 if 1≤(↑(List.length s0):Int) then
 some (.inr (Decidable.decide ((↑(List.length s0):Int)≤8)))
 else
 some (.inr Bool.false)
def ZaJ (s0:List UInt8):Option Bool :=
 Yc (fun v=>ZcD s0 v.1) ((0:Int),())
def c40:Ctr:=D1 (.str) (.bool) ZaJ
def Yv (n0:Int) (low0:Int) (high0:Int):Option Bool :=
 if low0≤n0 then
 some (Decidable.decide (n0≤high0))
 else
 some Bool.false
def c41:Ctr:=D3 (.int .i64) (.int .i64) (.int .i64) (.bool) Yv
def QV (a0:Z4) (v0:Int) (v1:Int) (x0:YX) (v2:Int):Option ((Int×Unit) ⊕ ((Int×Int×Unit) ⊕ (Int×Bool))) :=
 if v2<v1 then
 (atI (Z4.YV a0) v2).bind fun x1 =>
 if YX.Name x1=YX.Name x0 then
 some (.inr (.inr (0,Bool.false)))
 else
 some (.inl (IntKind.i64.wrap (v2+1),()))
 else
 (ZaJ (YX.Name x0)).bind fun l03Name0 =>
 if l03Name0=true then
 (Yv (YX.Cap x0) 0 500).bind fun l01In0 =>
 if l01In0=true then
 if v1=IntKind.i64.wrap ((↑(List.length (Z4.YV a0)):Int)-1) then
 if YX.Dir x0=2 then
 if YX.Cap x0=0 then
 if (YX.Clock x0)=true then
 some (.inr (.inr (0,Bool.false)))
 else
 if v1<IntKind.i64.wrap ((↑(List.length (Z4.YV a0)):Int)-1) then
 if YX.Dir x0=1 then
 if (YX.Clock x0)=true then
 some (.inr (.inl (IntKind.i64.wrap (v0+1),IntKind.i64.wrap (v1+1),())))
 else
 some (.inr (.inl (v0,IntKind.i64.wrap (v1+1),())))
 else
 some (.inr (.inr (0,Bool.false)))
 else
 if (YX.Clock x0)=true then
 some (.inr (.inl (IntKind.i64.wrap (v0+1),IntKind.i64.wrap (v1+1),())))
 else
 some (.inr (.inl (v0,IntKind.i64.wrap (v1+1),())))
 else
 some (.inr (.inr (0,Bool.false)))
 else
 some (.inr (.inr (0,Bool.false)))
 else
 if v1<IntKind.i64.wrap ((↑(List.length (Z4.YV a0)):Int)-1) then
 if YX.Dir x0=1 then
 if (YX.Clock x0)=true then
 some (.inr (.inl (IntKind.i64.wrap (v0+1),IntKind.i64.wrap (v1+1),())))
 else
 some (.inr (.inl (v0,IntKind.i64.wrap (v1+1),())))
 else
 some (.inr (.inr (0,Bool.false)))
 else
 if (YX.Clock x0)=true then
 some (.inr (.inl (IntKind.i64.wrap (v0+1),IntKind.i64.wrap (v1+1),())))
 else
 some (.inr (.inl (v0,IntKind.i64.wrap (v1+1),())))
 else
 some (.inr (.inr (0,Bool.false)))
 else
 some (.inr (.inr (0,Bool.false)))
def VU (a0:Z4) (v0:Int) (v1:Int):Option ((Int×Int×Unit) ⊕ (Int×Bool)) :=
 if v1<(↑(List.length (Z4.YV a0)):Int) then
 (atI (Z4.YV a0) v1).bind fun x0 =>
 Yc (fun v=>QV a0 v0 v1 x0 v.1) ((0:Int),())
 else
 some (.inr (v0,Bool.true))
def Ze2 (a0:Z4):Option (Int×Bool) :=
 if (↑(List.length (Z4.YV a0)):Int)<2 then
 some (0,Bool.false)
 else
 if 5<(↑(List.length (Z4.YV a0)):Int) then
 some (0,Bool.false)
 else
 Yc (fun v=>VU a0 v.1 v.2.1) ((0:Int),(0:Int),())
def c42:Ctr:=⟨[.dat (XZ)],[.dat (.int .i64),.dat (.bool)],fun a K=>splitK a fun a0 a=>Xl (Ze2 a0) fun r=>K (r.1,r.2,()) ()⟩
def ZcB (list0:List Int) (i0:Int):Option ((Int×Unit) ⊕ Bool) :=
 if i0<(↑(List.length list0):Int) then
 (atI list0 i0).bind fun x0 =>
 (Yv x0 0 100000).bind fun l01In0 =>
 if l01In0=true then
 if 0<i0 then
 (atI list0 (IntKind.i64.wrap (i0-1))).bind fun x1 =>
 if x0≤x1 then
 some (.inr Bool.false)
 else
 some (.inl (IntKind.i64.wrap (i0+1),()))
 else
 some (.inl (IntKind.i64.wrap (i0+1),()))
 else
 some (.inr Bool.false)
 else
 if 1≤(↑(List.length list0):Int) then
 some (.inr (Decidable.decide ((↑(List.length list0):Int)≤4)))
 else
 some (.inr Bool.false)
def Zdy (list0:List Int):Option Bool :=
 Yc (fun v=>ZcB list0 v.1) ((0:Int),())
def c43:Ctr:=D1 (.sl (.int .i64)) (.bool) Zdy
def Zcz (t0:Yb) (i0:Int):Option ((Int×Unit) ⊕ Bool) :=
 if i0<(↑(List.length (Yb.Values t0)):Int) then
 (atI (Yb.Values t0) i0).bind fun x0 =>
 (Yv x0 (-1000000) 1000000).bind fun l01In0 =>
 if l01In0=true then
 some (.inl (IntKind.i64.wrap (i0+1),()))
 else
 some (.inr Bool.false)
 else
 some (.inr Bool.true)
def Ze1 (t0:Yb):Option Bool :=
 (Zdy (Yb.Ze5 t0)).bind fun l02Axis0 =>
 if l02Axis0=true then
 (Zdy (Yb.Loads t0)).bind fun l02Axis1 =>
 if l02Axis1=true then
 if (↑(List.length (Yb.Values t0)):Int)=IntKind.i64.wrap ((↑(List.length (Yb.Ze5 t0)):Int)*(↑(List.length (Yb.Loads t0)):Int)) then
 Yc (fun v=>Zcz t0 v.1) ((0:Int),())
 else
 some Bool.false
 else
 some Bool.false
 else
 some Bool.false
def c44:Ctr:=D1 (Xc) (.bool) Ze1
def Vz (t0:Yb) (i0:Int) (c0:Int) (c1:Int):Option ((Int×Int×Int×Unit) ⊕ (ZoA×Int)) :=
 if i0<(↑(List.length (Yb.Values t0)):Int) then
 (atI (Yb.Values t0) i0).bind fun x1 =>
 some (.inl (IntKind.i64.wrap (i0+1),Min.min c0 x1,Max.max c1 x1,()))
 else
 some (.inr ((c0,c1,()),0))
def ZbF (t0:Yb):Option (ZoA×Int) :=
 (Ze1 t0).bind fun IsTable0 =>
 if IsTable0=true then
 (atI (Yb.Values t0) 0).bind fun x0 =>
 Yc (fun v=>Vz t0 v.1 v.2.1 v.2.2.1) ((1:Int),x0,x0,())
 else
 some ((0,0,()),1)
def c45:Ctr:=⟨[.dat (Xc)],[.dat (Zvb),.dat (.int .i64)],fun a K=>splitK a fun t0 a=>Xl (ZbF t0) fun r=>K (r.1,r.2,()) ()⟩
def Zbi (list0:List Yb) (positive0:Bool) (i0:Int):Option ((Int×Unit) ⊕ Bool) :=
 if i0<2 then
 (atI list0 i0).bind fun x0 =>
 (ZbF x0).bind fun TableBounds0 =>
 if TableBounds0.snd=0 then
 if positive0=true then
 if TableBounds0.fst.fst<0 then
 some (.inr Bool.false)
 else
 some (.inl (IntKind.i64.wrap (i0+1),()))
 else
 some (.inl (IntKind.i64.wrap (i0+1),()))
 else
 some (.inr Bool.false)
 else
 some (.inr Bool.true)
def Y6 (list0:List Yb) (positive0:Bool):Option Bool :=
 if (↑(List.length list0):Int)=2 then
 Yc (fun v=>Zbi list0 positive0 v.1) ((0:Int),())
 else
 some Bool.false
def c46:Ctr:=D2 (.sl (Xc)) (.bool) (.bool) Y6
def Zf0 (a0:Z4) (a1:Yi):Option Bool :=
 (Yv (Yi.From a1) 0 (IntKind.i64.wrap (IntKind.i64.wrap ((↑(List.length (Z4.YV a0)):Int)-1)-1))).bind fun l01In0 =>
 if l01In0=true then
 (Yv (Yi.To a1) 0 (IntKind.i64.wrap ((↑(List.length (Z4.YV a0)):Int)-1))).bind fun l01In1 =>
 if l01In1=true then
 (atI (Z4.YV a0) (Yi.From a1)).bind fun x0 =>
 if Yi.Kind a1=1 then
 if (YX.Clock x0)=true then
 some Bool.false
 else
 if Yi.To a1=IntKind.i64.wrap ((↑(List.length (Z4.YV a0)):Int)-1) then
 (Yv (Yi.Zbn a1) 1 3).bind fun l01In2 =>
 if l01In2=true then
 (Y6 (Yi.Delay a1) Bool.true).bind fun l03Tables0 =>
 if l03Tables0=true then
 (Y6 (Yi.Zhn a1) Bool.true).bind fun l03Tables1 =>
 some l03Tables1
 else
 some Bool.false
 else
 some Bool.false
 else
 some Bool.false
 else
 if Yi.Kind a1=2 then
 if Yi.Kind a1=2 then
 if (YX.Clock x0)=true then
 if Yi.To a1=IntKind.i64.wrap ((↑(List.length (Z4.YV a0)):Int)-1) then
 if Yi.Zbn a1=0 then
 (Y6 (Yi.Delay a1) Bool.true).bind fun l03Tables0 =>
 if l03Tables0=true then
 (Y6 (Yi.Zhn a1) Bool.true).bind fun l03Tables1 =>
 some l03Tables1
 else
 some Bool.false
 else
 some Bool.false
 else
 some Bool.false
 else
 some Bool.false
 else
 if Yi.Kind a1=4 then
 if Yi.Kind a1=4 then
 if (YX.Clock x0)=true then
 if Yi.To a1<IntKind.i64.wrap ((↑(List.length (Z4.YV a0)):Int)-1) then
 (atI (Z4.YV a0) (Yi.To a1)).bind fun x1 =>
 if (YX.Clock x1)=true then
 some Bool.false
 else
 if Yi.Zbn a1=0 then
 (Y6 (Yi.Delay a1) Bool.false).bind fun l03Tables0 =>
 if l03Tables0=true then
 some (Decidable.decide ((↑(List.length (Yi.Zhn a1)):Int)=0))
 else
 some Bool.false
 else
 some Bool.false
 else
 some Bool.false
 else
 some Bool.false
 else
 some Bool.false
 else
 if Yi.Kind a1=5 then
 if (YX.Clock x0)=true then
 if Yi.To a1<IntKind.i64.wrap ((↑(List.length (Z4.YV a0)):Int)-1) then
 (atI (Z4.YV a0) (Yi.To a1)).bind fun x1 =>
 if (YX.Clock x1)=true then
 some Bool.false
 else
 if Yi.Zbn a1=0 then
 (Y6 (Yi.Delay a1) Bool.false).bind fun l03Tables0 =>
 if l03Tables0=true then
 some (Decidable.decide ((↑(List.length (Yi.Zhn a1)):Int)=0))
 else
 some Bool.false
 else
 some Bool.false
 else
 some Bool.false
 else
 some Bool.false
 else
 some Bool.false
 else
 if Yi.Kind a1=3 then
 if (YX.Clock x0)=true then
 if Yi.To a1=IntKind.i64.wrap ((↑(List.length (Z4.YV a0)):Int)-1) then
 if Yi.Zbn a1=0 then
 (Y6 (Yi.Delay a1) Bool.true).bind fun l03Tables0 =>
 if l03Tables0=true then
 (Y6 (Yi.Zhn a1) Bool.true).bind fun l03Tables1 =>
 some l03Tables1
 else
 some Bool.false
 else
 some Bool.false
 else
 some Bool.false
 else
 some Bool.false
 else
 if Yi.Kind a1=4 then
 if Yi.Kind a1=4 then
 if (YX.Clock x0)=true then
 if Yi.To a1<IntKind.i64.wrap ((↑(List.length (Z4.YV a0)):Int)-1) then
 (atI (Z4.YV a0) (Yi.To a1)).bind fun x1 =>
 if (YX.Clock x1)=true then
 some Bool.false
 else
 if Yi.Zbn a1=0 then
 (Y6 (Yi.Delay a1) Bool.false).bind fun l03Tables0 =>
 if l03Tables0=true then
 some (Decidable.decide ((↑(List.length (Yi.Zhn a1)):Int)=0))
 else
 some Bool.false
 else
 some Bool.false
 else
 some Bool.false
 else
 some Bool.false
 else
 some Bool.false
 else
 if Yi.Kind a1=5 then
 if (YX.Clock x0)=true then
 if Yi.To a1<IntKind.i64.wrap ((↑(List.length (Z4.YV a0)):Int)-1) then
 (atI (Z4.YV a0) (Yi.To a1)).bind fun x1 =>
 if (YX.Clock x1)=true then
 some Bool.false
 else
 if Yi.Zbn a1=0 then
 (Y6 (Yi.Delay a1) Bool.false).bind fun l03Tables0 =>
 if l03Tables0=true then
 some (Decidable.decide ((↑(List.length (Yi.Zhn a1)):Int)=0))
 else
 some Bool.false
 else
 some Bool.false
 else
 some Bool.false
 else
 some Bool.false
 else
 some Bool.false
 else
 some Bool.false
 else
 some Bool.false
def c47:Ctr:=D2 (XZ) (Zdz) (.bool) Zf0
def JQ (c0:Z4) (i0:Int) (l0:List Int):Option ((Int×(List Int)×Unit) ⊕ List Int) :=
 if i0<(↑(List.length (Z4.JB c0)):Int) then
 (atI (Z4.JB c0) i0).bind fun x0 =>
 (atI l0 (Yi.Kind x0)).bind fun x1 =>
 some (.inl (IntKind.i64.wrap (i0+1),List.set l0 (Int.toNat (Yi.Kind x0)) (IntKind.i64.wrap (x1+1)),()))
 else
 some (.inr l0)
def Zd2 (c0:Z4):Option (List Int) :=
 Yc (fun v=>JQ c0 v.1 v.2.1) ((0:Int),List.replicate (Int.toNat (6:Int)) (0:Int),())
def c48:Ctr:=⟨[.dat (XZ)],[.own (.ol 2 (.flat (.int .i64)))],fun a K=>splitK a fun c0 a=>Xl (Zd2 c0) fun r=>K (r,()) ()⟩
def Za1 (a0:Z4) (v0:Int) (x0:Yi) (v1:Int):Option ((Int×Unit) ⊕ ((Int×Unit) ⊕ Bool)) :=
 if v1<v0 then
 (atI (Z4.JB a0) v1).bind fun x1 =>
 if Yi.Kind x1=Yi.Kind x0 then
 if Yi.From x1=Yi.From x0 then
 if Yi.To x1=Yi.To x0 then
 some (.inr (.inr Bool.false))
 else
 some (.inl (IntKind.i64.wrap (v1+1),()))
 else
 some (.inl (IntKind.i64.wrap (v1+1),()))
 else
 some (.inl (IntKind.i64.wrap (v1+1),()))
 else
 some (.inr (.inl (IntKind.i64.wrap (v0+1),())))
def Za2 (a0:Z4) (l03Pins0:Int×Bool) (v1:Int):Option ((Int×Unit) ⊕ ((Int×Unit) ⊕ Bool)) :=
 if v1<(↑(List.length (Z4.Truth a0)):Int) then
 (atI (Z4.Truth a0) v1).bind fun x0 =>
 (Yv x0 0 1).bind fun l01In2 =>
 if l01In2=true then
 some (.inl (IntKind.i64.wrap (v1+1),()))
 else
 some (.inr (.inr Bool.false))
 else
 if l03Pins0.fst=0 then
 Yf ((0:Int)≤IntKind.wrap IntKind.u64 (IntKind.i64.wrap ((↑(List.length (Z4.YV a0)):Int)-(1:Int)))) <|
 some (.inr (.inr (Decidable.decide ((↑(List.length (Z4.Truth a0)):Int)=IntKind.i64.wrap (1*2 ^ Min.min (Int.toNat (IntKind.wrap IntKind.u64 (IntKind.i64.wrap ((↑(List.length (Z4.YV a0)):Int)-1)))) (IntKind.bits IntKind.i64))))))
 else
 some (.inr (.inr Bool.false))
def Zc2 (a0:Z4) (l03Pins0:Int×Bool) (v0:Int):Option ((Int×Unit) ⊕ Bool) :=
 if v0<(↑(List.length (Z4.JB a0)):Int) then
 (atI (Z4.JB a0) v0).bind fun x0 =>
 (Zf0 a0 x0).bind fun l03Arc0 =>
 if l03Arc0=true then
 Yc (fun v=>Za1 a0 v0 x0 v.1) ((0:Int),())
 else
 some (.inr Bool.false)
 else
 (Zd2 a0).bind fun l03Kinds0 =>
 if Z4.Kind a0=1 then
 Yc (fun v=>Za2 a0 l03Pins0 v.1) ((0:Int),())
 else
 if Z4.Kind a0=2 then
 if l03Pins0.fst=1 then
 (atI l03Kinds0 1).bind fun x0 =>
 if x0=0 then
 (atI l03Kinds0 2).bind fun x1 =>
 (atI l03Kinds0 3).bind fun x2 =>
 if (Decidable.decide (0<x1) == Decidable.decide (0<x2))=true then
 some (.inr Bool.false)
 else
 some (.inr (Decidable.decide ((↑(List.length (Z4.Truth a0)):Int)=0)))
 else
 some (.inr Bool.false)
 else
 some (.inr Bool.false)
 else
 if Z4.Kind a0=3 then
 if l03Pins0.fst=1 then
 (atI l03Kinds0 1).bind fun x0 =>
 if 0<x0 then
 (atI l03Kinds0 2).bind fun x1 =>
 if 0<x1 then
 (atI l03Kinds0 3).bind fun x2 =>
 if x2=0 then
 some (.inr (Decidable.decide ((↑(List.length (Z4.Truth a0)):Int)=0)))
 else
 some (.inr Bool.false)
 else
 some (.inr Bool.false)
 else
 some (.inr Bool.false)
 else
 some (.inr Bool.false)
 else
 some (.inr Bool.false)
def ZfY (a0:Z4):Option Bool :=
 (Ze2 a0).bind fun l03Pins0 =>
 if l03Pins0.snd=true then
 (ZaJ (Z4.Name a0)).bind fun l03Name0 =>
 if l03Name0=true then
 if 8<(↑(List.length (Z4.JB a0)):Int) then
 some Bool.false
 else
 (Yv (Z4.Zr7 a0) 0 100000).bind fun l01In0 =>
 if l01In0=true then
 (Yv (Z4.Zhh a0) 0 100000).bind fun l01In1 =>
 if l01In1=true then
 Yc (fun v=>Zc2 a0 l03Pins0 v.1) ((0:Int),())
 else
 some Bool.false
 else
 some Bool.false
 else
 some Bool.false
 else
 some Bool.false
def c49:Ctr:=D1 (XZ) (.bool) ZfY
def Zbg (l0:Z7) (i0:Int) (x0:Z4) (k0:Int):Option ((Int×Unit) ⊕ ((Int×Unit) ⊕ Bool)) :=
 if k0<i0 then
 (atI (Z7.Cells l0) k0).bind fun x1 =>
 if Z4.Name x1=Z4.Name x0 then
 some (.inr (.inr Bool.false))
 else
 some (.inl (IntKind.i64.wrap (k0+1),()))
 else
 some (.inr (.inl (IntKind.i64.wrap (i0+1),())))
def Zbh (l0:Z7) (i0:Int):Option ((Int×Unit) ⊕ Bool) :=
 if i0<(↑(List.length (Z7.Cells l0)):Int) then
 (atI (Z7.Cells l0) i0).bind fun x0 =>
 (ZfY x0).bind fun IsCell0 =>
 if IsCell0=true then
 Yc (fun v=>Zbg l0 i0 x0 v.1) ((0:Int),())
 else
 some (.inr Bool.false)
 else
 some (.inr (Decidable.decide ((↑(List.length (Z7.Cells l0)):Int)≤8)))
def Zdn (l0:Z7):Option Bool :=
 Yc (fun v=>Zbh l0 v.1) ((0:Int),())
def c50:Ctr:=D1 (Y9) (.bool) Zdn
def ZbW (a1:ZT) (v0:Int) (x0:ZW) (v1:Int):Option ((Int×Unit) ⊕ ((Int×Unit) ⊕ Bool)) :=
 if v1<(↑(List.length (ZW.Yh x0)):Int) then
 (atI (ZW.Yh x0) v1).bind fun x2 =>
 (Yv x2 0 (IntKind.i64.wrap ((↑(List.length (ZT.Yh a1)):Int)-1))).bind fun l01In1 =>
 if l01In1=true then
 some (.inl (IntKind.i64.wrap (v1+1),()))
 else
 some (.inr (.inr Bool.false))
 else
 some (.inr (.inl (IntKind.i64.wrap (v0+1),())))
def ZbX (a1:ZT) (v1:Int):Option ((Int×Unit) ⊕ ((Int×Unit) ⊕ Bool)) :=
 if v1<(↑(List.length (ZT.Yo a1)):Int) then
 (atI (ZT.Yo a1) v1).bind fun x0 =>
 (Yv (Ym.Dir x0) 1 2).bind fun l01In0 =>
 if l01In0=true then
 (Yv (Ym.Net x0) 0 (IntKind.i64.wrap ((↑(List.length (ZT.Yh a1)):Int)-1))).bind fun l01In1 =>
 if l01In1=true then
 some (.inl (IntKind.i64.wrap (v1+1),()))
 else
 some (.inr (.inr Bool.false))
 else
 some (.inr (.inr Bool.false))
 else
 some (.inr (.inr Bool.true))
def ZbY (a0:Z7) (a1:ZT) (v0:Int):Option ((Int×Unit) ⊕ Bool) :=
 if v0<(↑(List.length (ZT.Instances a1)):Int) then
 (atI (ZT.Instances a1) v0).bind fun x0 =>
 (Yv (ZW.Cell x0) 0 (IntKind.i64.wrap ((↑(List.length (Z7.Cells a0)):Int)-1))).bind fun l01In0 =>
 if l01In0=true then
 (atI (Z7.Cells a0) (ZW.Cell x0)).bind fun x1 =>
 if (↑(List.length (ZW.Yh x0)):Int)=(↑(List.length (Z4.YV x1)):Int) then
 Yc (fun v=>ZbW a1 v0 x0 v.1) ((0:Int),())
 else
 some (.inr Bool.false)
 else
 some (.inr Bool.false)
 else
 Yc (fun v=>ZbX a1 v.1) ((0:Int),())
def Zd3 (a0:Z7) (a1:ZT):Option Bool :=
 Yc (fun v=>ZbY a0 a1 v.1) ((0:Int),())
def c51:Ctr:=D2 (Y9) (YQ) (.bool) Zd3
def ZbU (list0:List (List UInt8)) (i0:Int) (x0:List UInt8) (k0:Int):Option ((Int×Unit) ⊕ ((Int×Unit) ⊕ Bool)) :=
 if k0<i0 then
 (atI list0 k0).bind fun x1 =>
 if x1=x0 then
 some (.inr (.inr Bool.false))
 else
 some (.inl (IntKind.i64.wrap (k0+1),()))
 else
 some (.inr (.inl (IntKind.i64.wrap (i0+1),())))
def ZbV (list0:List (List UInt8)) (i0:Int):Option ((Int×Unit) ⊕ Bool) :=
 if i0<(↑(List.length list0):Int) then
 (atI list0 i0).bind fun x0 =>
 (ZaJ x0).bind fun l03Name0 =>
 if l03Name0=true then
 Yc (fun v=>ZbU list0 i0 x0 v.1) ((0:Int),())
 else
 some (.inr Bool.false)
 else
 some (.inr Bool.true)
def Za4 (list0:List (List UInt8)):Option Bool :=
 Yc (fun v=>ZbV list0 v.1) ((0:Int),())
def c52:Ctr:=D1 (.sl (.str)) (.bool) Za4
def ZbQ (l1:List Int) (v6:Int):Option ((Int×Unit) ⊕ ((Int×(List Int)×Unit) ⊕ ((Int×(List Int)×Unit) ⊕ (((List (List UInt8))×Int×Unit) ⊕ (((List (List UInt8))×Int×Unit) ⊕ Bool))))) :=
 if v6<(↑(List.length l1):Int) then
 (atI l1 v6).bind fun x0 =>
 if x0=1 then
 some (.inl (IntKind.i64.wrap (v6+1),()))
 else
 some (.inr (.inr (.inr (.inr (.inr Bool.false)))))
 else
 some (.inr (.inr (.inr (.inr (.inr Bool.true)))))
def Vs (a1:ZT) (v5:Int) (l1:List Int):Option ((Int×(List Int)×Unit) ⊕ ((Int×(List Int)×Unit) ⊕ (((List (List UInt8))×Int×Unit) ⊕ (((List (List UInt8))×Int×Unit) ⊕ Bool)))) :=
 if v5<(↑(List.length (ZT.Yo a1)):Int) then
 (atI (ZT.Yo a1) v5).bind fun x0 =>
 if Ym.Dir x0=1 then
 (atI l1 (Ym.Net x0)).bind fun x1 =>
 some (.inl (IntKind.i64.wrap (v5+1),List.set l1 (Int.toNat (Ym.Net x0)) (IntKind.i64.wrap (x1+1)),()))
 else
 some (.inl (IntKind.i64.wrap (v5+1),l1,()))
 else
 Yc (fun v=>ZbQ l1 v.1) ((0:Int),())
def Vt (a1:ZT) (v4:Int) (l0:List Int):Option ((Int×(List Int)×Unit) ⊕ (((List (List UInt8))×Int×Unit) ⊕ (((List (List UInt8))×Int×Unit) ⊕ Bool))) :=
 if v4<(↑(List.length (ZT.Instances a1)):Int) then
 (atI (ZT.Instances a1) v4).bind fun x0 =>
 (atI (ZW.Yh x0) (IntKind.i64.wrap ((↑(List.length (ZW.Yh x0)):Int)-1))).bind fun x1 =>
 (atI l0 x1).bind fun x2 =>
 some (.inl (IntKind.i64.wrap (v4+1),List.set l0 (Int.toNat x1) (IntKind.i64.wrap (x2+1)),()))
 else
 Yc (fun v=>Vs a1 v.1 v.2.1) ((0:Int),l0,())
def ZbR (a1:ZT) (v0:List (List UInt8)) (v2:List (List UInt8)) (v3:Int):Option (((List (List UInt8))×Int×Unit) ⊕ (((List (List UInt8))×Int×Unit) ⊕ Bool)) :=
 if v3<(↑(List.length (ZT.Yo a1)):Int) then
 (atI (ZT.Yo a1) v3).bind fun x0 =>
 Yf ((List.length v2+List.length [Ym.Name x0])*(16:Nat)≤(140737488355328:Nat)) <|
 some (.inl (v2++[Ym.Name x0],IntKind.i64.wrap (v3+(1:Int)),()))
 else
 (Za4 v0).bind fun l05Names0 =>
 if l05Names0=true then
 (Za4 v2).bind fun l05Names1 =>
 if l05Names1=true then
 (Za4 (ZT.Yh a1)).bind fun l05Names2 =>
 if l05Names2=true then
 Yf ((0:Int)≤(↑(List.length (ZT.Yh a1)):Int)) <|
 Yf ((↑(List.length (ZT.Yh a1)):Int)≤(↑(List.length (ZT.Yh a1)):Int)) <|
 Yf ((↑(List.length (ZT.Yh a1)):Int)≤(4611686018427387904:Int)) <|
 Yf ((↑(8:Nat):Int)*(↑(List.length (ZT.Yh a1)):Int)≤(281474976710656:Int)) <|
 Yc (fun v=>Vt a1 v.1 v.2.1) ((0:Int),List.replicate (Int.toNat (↑(List.length (ZT.Yh a1)):Int)) (0:Int),())
 else
 some (.inr (.inr Bool.false))
 else
 some (.inr (.inr Bool.false))
 else
 some (.inr (.inr Bool.false))
def ZbS (a1:ZT) (v0:List (List UInt8)) (v1:Int):Option (((List (List UInt8))×Int×Unit) ⊕ Bool) :=
 if v1<(↑(List.length (ZT.Instances a1)):Int) then
 (atI (ZT.Instances a1) v1).bind fun x0 =>
 Yf ((List.length v0+List.length [ZW.Name x0])*(16:Nat)≤(140737488355328:Nat)) <|
 some (.inl (v0++[ZW.Name x0],IntKind.i64.wrap (v1+(1:Int)),()))
 else
 Yc (fun v=>ZbR a1 v0 v.1 v.2.1) (([]:List (List UInt8)),(0:Int),())
def Zd0 (a0:Z7) (a1:ZT):Option Bool :=
 (Zdn a0).bind fun IsLibrary0 =>
 if IsLibrary0=true then
 if 14<(↑(List.length (ZT.Instances a1)):Int) then
 some Bool.false
 else
 if 30<(↑(List.length (ZT.Yh a1)):Int) then
 some Bool.false
 else
 if 8<(↑(List.length (ZT.Yo a1)):Int) then
 some Bool.false
 else
 (Zd3 a0 a1).bind fun l05Parts0 =>
 if l05Parts0=true then
 Yc (fun v=>ZbS a1 v.1 v.2.1) (([]:List (List UInt8)),(0:Int),())
 else
 some Bool.false
 else
 some Bool.false
def c53:Ctr:=D2 (Y9) (YQ) (.bool) Zd0
def Zbj (v1:Int) (x0:ZW) (v2:List Yk) (v3:Int):Option (((List Yk)×Int×Unit) ⊕ (((List Yk)×Int×Unit) ⊕ List Yk)) :=
 if v3<(↑(List.length (ZW.Yh x0)):Int) then
 (atI (ZW.Yh x0) v3).bind fun x1 =>
 Yf ((List.length v2+List.length [(v1,v3,x1,Decidable.decide (v3=IntKind.i64.wrap ((↑(List.length (ZW.Yh x0)):Int)-(1:Int))),())])*(32:Nat)≤(140737488355328:Nat)) <|
 some (.inl (v2++[(v1,v3,x1,Decidable.decide (v3=IntKind.i64.wrap ((↑(List.length (ZW.Yh x0)):Int)-(1:Int))),())],IntKind.i64.wrap (v3+(1:Int)),()))
 else
 some (.inr (.inl (v2,IntKind.i64.wrap (v1+1),())))
def Zbk (a0:ZT) (v2:List Yk) (v3:Int):Option (((List Yk)×Int×Unit) ⊕ (((List Yk)×Int×Unit) ⊕ List Yk)) :=
 if v3<(↑(List.length (ZT.Yo a0)):Int) then
 (atI (ZT.Yo a0) v3).bind fun x0 =>
 Yf ((List.length v2+List.length [((-1:Int),v3,Ym.Net x0,Decidable.decide (Ym.Dir x0=(1:Int)),())])*(32:Nat)≤(140737488355328:Nat)) <|
 some (.inl (v2++[((-1:Int),v3,Ym.Net x0,Decidable.decide (Ym.Dir x0=(1:Int)),())],IntKind.i64.wrap (v3+(1:Int)),()))
 else
 some (.inr (.inr v2))
def Zbl (a0:ZT) (v0:List Yk) (v1:Int):Option (((List Yk)×Int×Unit) ⊕ List Yk) :=
 if v1<(↑(List.length (ZT.Instances a0)):Int) then
 (atI (ZT.Instances a0) v1).bind fun x0 =>
 Yc (fun v=>Zbj v1 x0 v.1 v.2.1) (v0,(0:Int),())
 else
 Yc (fun v=>Zbk a0 v.1 v.2.1) (v0,(0:Int),())
def XB (a0:ZT):Option (List Yk) :=
 Yc (fun v=>Zbl a0 v.1 v.2.1) (([]:List (Int×Int×Int×Bool×Unit)),(0:Int),())
def c54:Ctr:=⟨[.dat (YQ)],[.own (.ol 95 (.flat (Zez)))],fun a K=>splitK a fun a0 a=>Xl (XB a0) fun r=>K (r,()) ()⟩
def ZbZ (net0:Int) (l05Places0:List Yk) (out0:List Int) (i0:Int):Option (((List Int)×Int×Unit) ⊕ List Int) :=
 if i0<(↑(List.length l05Places0):Int) then
 (atI l05Places0 i0).bind fun x0 =>
 if Yk.net x0=net0 then
 if (Yk.drives x0)=true then
 some (.inl (out0,IntKind.i64.wrap (i0+1),()))
 else
 Yf ((List.length out0+List.length [i0])*(8:Nat)≤(140737488355328:Nat)) <|
 some (.inl (out0++[i0],IntKind.i64.wrap (i0+(1:Int)),()))
 else
 some (.inl (out0,IntKind.i64.wrap (i0+1),()))
 else
 some (.inr out0)
def QE (d0:ZT) (net0:Int):Option (List Int) :=
 (XB d0).bind fun l05Places0 =>
 Yc (fun v=>ZbZ net0 l05Places0 v.1 v.2.1) (([]:List Int),(0:Int),())
def c55:Ctr:=⟨[.dat (YQ),.dat (.int .i64)],[.own (.ol 2 (.flat (.int .i64)))],fun a K=>splitK a fun d0 a=>splitK a fun net0 a=>Xl (QE d0 net0) fun r=>K (r,()) ()⟩
def Zc3 (a0:Z9) (v1:Int):Option ((Int×Unit) ⊕ ((Int×Unit) ⊕ Bool)) :=
 if v1<(↑(List.length (Z9.Ze4 a0)):Int) then
 (atI (Z9.Ze4 a0) v1).bind fun x0 =>
 (Yv x0 0 (IntKind.i64.wrap ((↑(List.length (Z9.Parent a0)):Int)-1))).bind fun l01In0 =>
 if l01In0=true then
 some (.inl (IntKind.i64.wrap (v1+1),()))
 else
 some (.inr (.inr Bool.false))
 else
 some (.inr (.inr Bool.true))
def Zc4 (a0:Z9) (v0:Int):Option ((Int×Unit) ⊕ Bool) :=
 if v0<(↑(List.length (Z9.Parent a0)):Int) then
 (atI (Z9.Cap a0) v0).bind fun x0 =>
 (Yv x0 0 500).bind fun l01In0 =>
 if l01In0=true then
 (atI (Z9.Res a0) v0).bind fun x1 =>
 (Yv x1 0 1000).bind fun l01In1 =>
 if l01In1=true then
 if v0=0 then
 (atI (Z9.Parent a0) v0).bind fun x2 =>
 if x2=(-1) then
 if x1=0 then
 if 0<v0 then
 (Yv x2 0 (IntKind.i64.wrap (v0-1))).bind fun l01In2 =>
 if l01In2=true then
 some (.inl (IntKind.i64.wrap (v0+1),()))
 else
 some (.inr Bool.false)
 else
 some (.inl (IntKind.i64.wrap (v0+1),()))
 else
 some (.inr Bool.false)
 else
 some (.inr Bool.false)
 else
 if 0<v0 then
 (atI (Z9.Parent a0) v0).bind fun x2 =>
 (Yv x2 0 (IntKind.i64.wrap (v0-1))).bind fun l01In2 =>
 if l01In2=true then
 some (.inl (IntKind.i64.wrap (v0+1),()))
 else
 some (.inr Bool.false)
 else
 some (.inl (IntKind.i64.wrap (v0+1),()))
 else
 some (.inr Bool.false)
 else
 some (.inr Bool.false)
 else
 Yc (fun v=>Zc3 a0 v.1) ((0:Int),())
def Zex (a0:Z9) (a1:Int):Option Bool :=
 if (↑(List.length (Z9.Parent a0)):Int)<1 then
 some Bool.false
 else
 if 8<(↑(List.length (Z9.Parent a0)):Int) then
 some Bool.false
 else
 if (↑(List.length (Z9.Res a0)):Int)=(↑(List.length (Z9.Parent a0)):Int) then
 if (↑(List.length (Z9.Cap a0)):Int)=(↑(List.length (Z9.Parent a0)):Int) then
 if (↑(List.length (Z9.Ze4 a0)):Int)=a1 then
 Yc (fun v=>Zc4 a0 v.1) ((0:Int),())
 else
 some Bool.false
 else
 some Bool.false
 else
 some Bool.false
def c56:Ctr:=D2 (Xr) (.int .i64) (.bool) Zex
def Zcy (b0:ZU) (net0:Int):Option ((Int×Unit) ⊕ Bool) :=
 if net0<(↑(List.length (ZU.Ye b0)):Int) then
 (atI (ZU.Ye b0) net0).bind fun x0 =>
 (QE (ZU.Design b0) net0).bind fun l05Sinks0 =>
 (Zex x0 (↑(List.length l05Sinks0):Int)).bind fun IsWire0 =>
 if IsWire0=true then
 some (.inl (IntKind.i64.wrap (net0+1),()))
 else
 some (.inr Bool.false)
 else
 some (.inr Bool.true)
def Ze0 (b0:ZU):Option Bool :=
 (Zd0 (ZU.Library b0) (ZU.Design b0)).bind fun IsDesign0 =>
 if IsDesign0=true then
 if (↑(List.length (ZU.Ye b0)):Int)=(↑(List.length (ZT.Yh (ZU.Design b0))):Int) then
 Yc (fun v=>Zcy b0 v.1) ((0:Int),())
 else
 some Bool.false
 else
 some Bool.false
def c57:Ctr:=D1 (Xg) (.bool) Ze0
def Zd4 (a0:ZY):Option Bool :=
 if ZY.Kind a0=1 then
 if ZY.Net a0=0 then
 if ZY.Node a0=0 then
 if ZY.Name a0=([]:List UInt8) then
 some (Decidable.decide (IntKind.i64.wrap (IntKind.i64.wrap (IntKind.i64.wrap ((↑(List.length (Z9.Parent (ZY.Zc9 a0))):Int)+(↑(List.length (Z9.Res (ZY.Zc9 a0))):Int))+(↑(List.length (Z9.Cap (ZY.Zc9 a0))):Int))+(↑(List.length (Z9.Ze4 (ZY.Zc9 a0))):Int))=0))
 else
 some Bool.false
 else
 some Bool.false
 else
 some Bool.false
 else
 if ZY.Kind a0=2 then
 if ZY.Net a0=0 then
 if ZY.Node a0=0 then
 some (Decidable.decide (IntKind.i64.wrap (IntKind.i64.wrap (IntKind.i64.wrap ((↑(List.length (Z9.Parent (ZY.Zc9 a0))):Int)+(↑(List.length (Z9.Res (ZY.Zc9 a0))):Int))+(↑(List.length (Z9.Cap (ZY.Zc9 a0))):Int))+(↑(List.length (Z9.Ze4 (ZY.Zc9 a0))):Int))=0))
 else
 some Bool.false
 else
 some Bool.false
 else
 if ZY.Kind a0=3 then
 if ZY.Place a0=0 then
 if ZY.Cell a0=0 then
 if ZY.Net a0=0 then
 if ZY.Node a0=0 then
 if ZY.Name a0=([]:List UInt8) then
 some (Decidable.decide (IntKind.i64.wrap (IntKind.i64.wrap (IntKind.i64.wrap ((↑(List.length (Z9.Parent (ZY.Zc9 a0))):Int)+(↑(List.length (Z9.Res (ZY.Zc9 a0))):Int))+(↑(List.length (Z9.Cap (ZY.Zc9 a0))):Int))+(↑(List.length (Z9.Ze4 (ZY.Zc9 a0))):Int))=0))
 else
 some Bool.false
 else
 some Bool.false
 else
 some Bool.false
 else
 some Bool.false
 else
 some Bool.false
 else
 if ZY.Kind a0=4 then
 if ZY.Cell a0=0 then
 if ZY.Name a0=([]:List UInt8) then
 some (Decidable.decide (IntKind.i64.wrap (IntKind.i64.wrap (IntKind.i64.wrap ((↑(List.length (Z9.Parent (ZY.Zc9 a0))):Int)+(↑(List.length (Z9.Res (ZY.Zc9 a0))):Int))+(↑(List.length (Z9.Cap (ZY.Zc9 a0))):Int))+(↑(List.length (Z9.Ze4 (ZY.Zc9 a0))):Int))=0))
 else
 some Bool.false
 else
 some Bool.false
 else
 if ZY.Kind a0=5 then
 if ZY.Place a0=0 then
 if ZY.Cell a0=0 then
 if ZY.Node a0=0 then
 some (Decidable.decide (ZY.Name a0=([]:List UInt8)))
 else
 some Bool.false
 else
 some Bool.false
 else
 some Bool.false
 else
 some Bool.false
def c58:Ctr:=D1 (QZ) (.bool) Zd4
def Zd5 (a0:ZU) (a1:ZY):Option Bool :=
 (XB (ZU.Design a0)).bind fun l05Places0 =>
 if ZY.Kind a1=1 then
 if ZY.Kind a1=1 then
 (Yv (ZY.Place a1) 0 (IntKind.i64.wrap ((↑(List.length l05Places0):Int)-1))).bind fun l01In0 =>
 if l01In0=true then
 (Yv (ZY.Cell a1) 0 (IntKind.i64.wrap ((↑(List.length (Z7.Cells (ZU.Library a0))):Int)-1))).bind fun l01In1 =>
 some l01In1
 else
 some Bool.false
 else
 if ZY.Kind a1=4 then
 (Yv (ZY.Place a1) 0 (IntKind.i64.wrap ((↑(List.length l05Places0):Int)-1))).bind fun l01In0 =>
 if l01In0=true then
 (Yv (ZY.Net a1) 0 (IntKind.i64.wrap ((↑(List.length (ZU.Ye a0)):Int)-1))).bind fun l01In1 =>
 if l01In1=true then
 (atI (ZU.Ye a0) (ZY.Net a1)).bind fun x0 =>
 (Yv (ZY.Node a1) 0 (IntKind.i64.wrap ((↑(List.length (Z9.Parent x0)):Int)-1))).bind fun l01In2 =>
 some l01In2
 else
 some Bool.false
 else
 some Bool.false
 else
 if ZY.Kind a1=5 then
 (Yv (ZY.Net a1) 0 (IntKind.i64.wrap ((↑(List.length (ZU.Ye a0)):Int)-1))).bind fun l01In0 =>
 some l01In0
 else
 some Bool.true
 else
 if ZY.Kind a1=2 then
 (Yv (ZY.Place a1) 0 (IntKind.i64.wrap ((↑(List.length l05Places0):Int)-1))).bind fun l01In0 =>
 if l01In0=true then
 (Yv (ZY.Cell a1) 0 (IntKind.i64.wrap ((↑(List.length (Z7.Cells (ZU.Library a0))):Int)-1))).bind fun l01In1 =>
 some l01In1
 else
 some Bool.false
 else
 if ZY.Kind a1=4 then
 (Yv (ZY.Place a1) 0 (IntKind.i64.wrap ((↑(List.length l05Places0):Int)-1))).bind fun l01In0 =>
 if l01In0=true then
 (Yv (ZY.Net a1) 0 (IntKind.i64.wrap ((↑(List.length (ZU.Ye a0)):Int)-1))).bind fun l01In1 =>
 if l01In1=true then
 (atI (ZU.Ye a0) (ZY.Net a1)).bind fun x0 =>
 (Yv (ZY.Node a1) 0 (IntKind.i64.wrap ((↑(List.length (Z9.Parent x0)):Int)-1))).bind fun l01In2 =>
 some l01In2
 else
 some Bool.false
 else
 some Bool.false
 else
 if ZY.Kind a1=5 then
 (Yv (ZY.Net a1) 0 (IntKind.i64.wrap ((↑(List.length (ZU.Ye a0)):Int)-1))).bind fun l01In0 =>
 some l01In0
 else
 some Bool.true
def c59:Ctr:=D2 (Xg) (QZ) (.bool) Zd5
def JR (a0:Z4) (b0:Z4) (i0:Int):Option ((Int×Unit) ⊕ Bool) :=
 if i0<(↑(List.length (Z4.YV a0)):Int) then
 (atI (Z4.YV a0) i0).bind fun x0 =>
 (atI (Z4.YV b0) i0).bind fun x1 =>
 if (YX.Clock x0 == YX.Clock x1)=true then
 some (.inl (IntKind.i64.wrap (i0+1),()))
 else
 some (.inr Bool.false)
 else
 some (.inr Bool.true)
def VW (a0:Z4) (b0:Z4):Option Bool :=
 if Z4.Kind a0=Z4.Kind b0 then
 if (↑(List.length (Z4.YV a0)):Int)=(↑(List.length (Z4.YV b0)):Int) then
 Yc (fun v=>JR a0 b0 v.1) ((0:Int),())
 else
 some Bool.false
 else
 some Bool.false
def c60:Ctr:=D2 (XZ) (XZ) (.bool) VW
def Zbs (c0:Z4):Option Bool :=
 if Z4.Kind c0=1 then
 some (Decidable.decide ((↑(List.length (Z4.YV c0)):Int)=2))
 else
 some Bool.false
def c61:Ctr:=D1 (XZ) (.bool) Zbs
def Jr (d0:ZT) (name0:List UInt8) (i0:Int):Option ((Int×Unit) ⊕ Int) :=
 if i0<(↑(List.length (ZT.Instances d0)):Int) then
 (atI (ZT.Instances d0) i0).bind fun x0 =>
 if ZW.Name x0=name0 then
 some (.inr i0)
 else
 some (.inl (IntKind.i64.wrap (i0+1),()))
 else
 some (.inr (-1))
def Zan (d0:ZT) (name0:List UInt8):Option Int :=
 Yc (fun v=>Jr d0 name0 v.1) ((0:Int),())
def c62:Ctr:=D2 (YQ) (.str) (.int .i64) Zan
def ZbT (list0:List (List UInt8)) (word0:List UInt8) (i0:Int):Option ((Int×Unit) ⊕ Int) :=
 if i0<(↑(List.length list0):Int) then
 (atI list0 i0).bind fun x0 =>
 if x0=word0 then
 some (.inr i0)
 else
 some (.inl (IntKind.i64.wrap (i0+1),()))
 else
 some (.inr (-1))
def Zf2 (list0:List (List UInt8)) (word0:List UInt8):Option Int :=
 Yc (fun v=>ZbT list0 word0 v.1) ((0:Int),())
def c63:Ctr:=D2 (.sl (.str)) (.str) (.int .i64) Zf2
def Zd1 (d0:ZT) (name0:List UInt8):Option Int :=
 (Zf2 (ZT.Yh d0) name0).bind fun l04Index0 =>
 some l04Index0
def c64:Ctr:=D2 (YQ) (.str) (.int .i64) Zd1
def ZgN (w0:Z9):Option Bool :=
 if (↑(List.length (Z9.Parent w0)):Int)=1 then
 (atI (Z9.Cap w0) 0).bind fun x0 =>
 some (Decidable.decide (x0=0))
 else
 some Bool.false
def c65:Ctr:=D1 (Xr) (.bool) ZgN
def Ze3 (a0:ZU):Option Bool :=
 if IntKind.i64.wrap ((↑(List.length (ZT.Instances (ZU.Design a0))):Int)-1)<0 then
 some Bool.false
 else
 (atI (ZT.Instances (ZU.Design a0)) (IntKind.i64.wrap ((↑(List.length (ZT.Instances (ZU.Design a0))):Int)-1))).bind fun x0 =>
 (atI (Z7.Cells (ZU.Library a0)) (ZW.Cell x0)).bind fun x1 =>
 (Zbs x1).bind fun l08Buffer0 =>
 if l08Buffer0=true then
 (atI (ZW.Yh x0) 1).bind fun x2 =>
 if x2=IntKind.i64.wrap ((↑(List.length (ZU.Ye a0)):Int)-1) then
 (atI (ZT.Yh (ZU.Design a0)) (IntKind.i64.wrap ((↑(List.length (ZU.Ye a0)):Int)-1))).bind fun x3 =>
 if x3=ZW.Name x0 then
 (atI (ZW.Yh x0) 0).bind fun x4 =>
 if x4=IntKind.i64.wrap ((↑(List.length (ZU.Ye a0)):Int)-1) then
 some Bool.false
 else
 (QE (ZU.Design a0) (IntKind.i64.wrap ((↑(List.length (ZU.Ye a0)):Int)-1))).bind fun l05Sinks0 =>
 if (↑(List.length l05Sinks0):Int)=1 then
 (atI (ZU.Ye a0) (IntKind.i64.wrap ((↑(List.length (ZU.Ye a0)):Int)-1))).bind fun x5 =>
 (ZgN x5).bind fun l08Bare0 =>
 some l08Bare0
 else
 some Bool.false
 else
 some Bool.false
 else
 some Bool.false
 else
 some Bool.false
def c66:Ctr:=D1 (Xg) (.bool) Ze3
def Zd6 (a0:ZU) (a1:ZY):Option Bool :=
 (XB (ZU.Design a0)).bind fun l05Places0 =>
 if ZY.Kind a1=1 then
 (atI l05Places0 (ZY.Place a1)).bind fun x0 =>
 if 0≤Yk.instance x0 then
 if (Yk.drives x0)=true then
 (atI (ZT.Instances (ZU.Design a0)) (Yk.instance x0)).bind fun x1 =>
 (atI (Z7.Cells (ZU.Library a0)) (ZW.Cell x1)).bind fun x2 =>
 (atI (Z7.Cells (ZU.Library a0)) (ZY.Cell a1)).bind fun x3 =>
 (VW x2 x3).bind fun l08Alike0 =>
 some l08Alike0
 else
 some Bool.false
 else
 some Bool.false
 else
 if ZY.Kind a1=2 then
 (atI l05Places0 (ZY.Place a1)).bind fun x0 =>
 if (Yk.drives x0)=true then
 some Bool.false
 else
 (atI (Z7.Cells (ZU.Library a0)) (ZY.Cell a1)).bind fun x1 =>
 (Zbs x1).bind fun l08Buffer0 =>
 if l08Buffer0=true then
 (ZaJ (ZY.Name a1)).bind fun l03Name0 =>
 if l03Name0=true then
 (Zan (ZU.Design a0) (ZY.Name a1)).bind fun InstanceNamed0 =>
 if InstanceNamed0<0 then
 (Zd1 (ZU.Design a0) (ZY.Name a1)).bind fun NetNamed0 =>
 some (Decidable.decide (NetNamed0<0))
 else
 some Bool.false
 else
 some Bool.false
 else
 some Bool.false
 else
 if ZY.Kind a1=3 then
 (Ze3 a0).bind fun l08Last0 =>
 some l08Last0
 else
 if ZY.Kind a1=4 then
 (atI l05Places0 (ZY.Place a1)).bind fun x0 =>
 if (Yk.drives x0)=true then
 some Bool.false
 else
 some (!Decidable.decide (Yk.net x0=ZY.Net a1))
 else
 (QE (ZU.Design a0) (ZY.Net a1)).bind fun l05Sinks0 =>
 (Zex (ZY.Zc9 a1) (↑(List.length l05Sinks0):Int)).bind fun IsWire0 =>
 some IsWire0
def c67:Ctr:=D2 (Xg) (QZ) (.bool) Zd6
def Za0 (b0:ZU) (e0:ZY):Option Int :=
 (Ze0 b0).bind fun IsBlock0 =>
 if IsBlock0=true then
 (Zd4 e0).bind fun l08Blank0 =>
 if l08Blank0=true then
 (Zd5 b0 e0).bind fun l08Range0 =>
 if l08Range0=true then
 (Zd6 b0 e0).bind fun l08State0 =>
 if l08State0=true then
 if ZY.Kind e0=2 then
 if (↑(List.length (ZT.Instances (ZU.Design b0))):Int)=14 then
 some 3
 else
 if (↑(List.length (ZU.Ye b0)):Int)=30 then
 some 3
 else
 some 0
 else
 some 0
 else
 some 5
 else
 some 2
 else
 some 2
 else
 some 1
def c68:Ctr:=D2 (Xg) (QZ) (.int .i64) Za0
def Ju (a0:ZU) (a1:ZY):Option (List Int) :=
 (XB (ZU.Design a0)).bind fun l05Places0 =>
 if ZY.Kind a1=1 then
 (atI l05Places0 (ZY.Place a1)).bind fun x0 =>
 (atI (ZT.Instances (ZU.Design a0)) (Yk.instance x0)).bind fun x1 =>
 some (ZW.Yh x1)
 else
 if ZY.Kind a1=2 then
 (atI l05Places0 (ZY.Place a1)).bind fun x0 =>
 some ([Yk.net x0,(↑(List.length (ZU.Ye a0)):Int)])
 else
 if ZY.Kind a1=3 then
 (atI (ZT.Instances (ZU.Design a0)) (IntKind.i64.wrap ((↑(List.length (ZT.Instances (ZU.Design a0))):Int)-1))).bind fun x0 =>
 (atI (ZW.Yh x0) 0).bind fun x1 =>
 some [x1]
 else
 if ZY.Kind a1=4 then
 (atI l05Places0 (ZY.Place a1)).bind fun x0 =>
 some ([Yk.net x0,ZY.Net a1])
 else
 some ([ZY.Net a1])
def c69:Ctr:=D2 (Xg) (QZ) (.sl (.int .i64)) Ju
def XO (list0:List Int):Option (List Int) :=
 Yf ((List.length (([]:List Int))+List.length list0)*(8:Nat)≤(140737488355328:Nat)) <|
 some (([]:List Int)++list0)
def c70:Ctr:=⟨[.dat (.sl (.int .i64))],[.own (.ol 2 (.flat (.int .i64)))],fun a K=>splitK a fun list0 a=>Xl (XO list0) fun r=>K (r,()) ()⟩
def ZfZ (t0:Yb):Option Yb :=
 (XO (Yb.Ze5 t0)).bind fun l02Ints0 =>
 (XO (Yb.Loads t0)).bind fun l02Ints1 =>
 (XO (Yb.Values t0)).bind fun l02Ints2 =>
 some (l02Ints0,l02Ints1,l02Ints2,())
def c71:Ctr:=⟨[.dat (Xc)],[.own (Zds)],fun a K=>splitK a fun t0 a=>Xl (ZfZ t0) fun r=>K (r,()) ()⟩
def Vb (list0:List Yb) (out0:List Yb) (i0:Int):Option (((List Yb)×Int×Unit) ⊕ List Yb) :=
 if i0<(↑(List.length list0):Int) then
 (atI list0 i0).bind fun x0 =>
 (ZfZ x0).bind fun l02Own0 =>
 Yf ((List.length out0+List.length [l02Own0])*(72:Nat)≤(140737488355328:Nat)) <|
 some (.inl (out0++[l02Own0],IntKind.i64.wrap (i0+(1:Int)),()))
 else
 some (.inr out0)
def Js (list0:List Yb):Option (List Yb) :=
 Yc (fun v=>Vb list0 v.1 v.2.1) (([]:List Yb),(0:Int),())
def c72:Ctr:=⟨[.dat (.sl (Xc))],[.own (.ol 241 (Zds))],fun a K=>splitK a fun list0 a=>Xl (Js list0) fun r=>K (r,()) ()⟩
def Za3 (c0:Z4) (l02Ints0:List Int) (i0:Int) (c1:List Yi):Option ((Int×(List Yi)×Unit) ⊕ Z4) :=
 if i0<(↑(List.length (Z4.JB c0)):Int) then
 (atI (Z4.JB c0) i0).bind fun x0 =>
 (Js (Yi.Delay x0)).bind fun l03OwnTables0 =>
 (Js (Yi.Zhn x0)).bind fun l03OwnTables1 =>
 Yf ((List.length c1+List.length [(Yi.Kind x0,Yi.From x0,Yi.To x0,Yi.Zbn x0,l03OwnTables0,l03OwnTables1,())])*(80:Nat)≤(140737488355328:Nat)) <|
 some (.inl (IntKind.i64.wrap (i0+(1:Int)),c1++[(Yi.Kind x0,Yi.From x0,Yi.To x0,Yi.Zbn x0,l03OwnTables0,l03OwnTables1,())],()))
 else
 some (.inr (Z4.Name c0,Z4.Kind c0,([]:List (List UInt8×Int×Int×Bool×Unit))++Z4.YV c0,c1,l02Ints0,c0.snd.snd.snd.snd.snd))
def Zf1 (c0:Z4):Option Z4 :=
 Yf ((List.length (([]:List (List UInt8×Int×Int×Bool×Unit)))+List.length (Z4.YV c0))*(40:Nat)≤(140737488355328:Nat)) <|
 (XO (Z4.Truth c0)).bind fun l02Ints0 =>
 Yc (fun v=>Za3 c0 l02Ints0 v.1 v.2.1) ((0:Int),([]:List Yi),())
def c73:Ctr:=⟨[.dat (XZ)],[.own (Zkg)],fun a K=>splitK a fun c0 a=>Xl (Zf1 c0) fun r=>K (r,()) ()⟩
def QU (l0:Z7) (i0:Int) (c0:List Z4):Option ((Int×(List Z4)×Unit) ⊕ Z7) :=
 if i0<(↑(List.length (Z7.Cells l0)):Int) then
 (atI (Z7.Cells l0) i0).bind fun x0 =>
 (Zf1 x0).bind fun l03Own0 =>
 Yf ((List.length c0+List.length [l03Own0])*(112:Nat)≤(140737488355328:Nat)) <|
 some (.inl (IntKind.i64.wrap (i0+(1:Int)),c0++[l03Own0],()))
 else
 some (.inr (c0,()))
def Zao (l0:Z7):Option Z7 :=
 Yc (fun v=>QU l0 v.1 v.2.1) ((0:Int),([]:List Z4),())
def c74:Ctr:=⟨[.dat (Y9)],[.own (Zil)],fun a K=>splitK a fun l0 a=>Xl (Zao l0) fun r=>K (r,()) ()⟩
def Za5 (d0:ZT) (i0:Int) (c0:List ZW):Option ((Int×(List ZW)×Unit) ⊕ ZT) :=
 if i0<(↑(List.length (ZT.Instances d0)):Int) then
 (atI (ZT.Instances d0) i0).bind fun x0 =>
 (XO (ZW.Yh x0)).bind fun l02Ints0 =>
 Yf ((List.length c0+List.length [(ZW.Name x0,ZW.Cell x0,l02Ints0,())])*(48:Nat)≤(140737488355328:Nat)) <|
 some (.inl (IntKind.i64.wrap (i0+(1:Int)),c0++[(ZW.Name x0,ZW.Cell x0,l02Ints0,())],()))
 else
 some (.inr (c0,([]:List (List UInt8))++ZT.Yh d0,([]:List (List UInt8×Int×Int×Unit))++ZT.Yo d0,()))
def Zf3 (d0:ZT):Option ZT :=
 Yf ((List.length (([]:List (List UInt8)))+List.length (ZT.Yh d0))*(16:Nat)≤(140737488355328:Nat)) <|
 Yf ((List.length (([]:List (List UInt8×Int×Int×Unit)))+List.length (ZT.Yo d0))*(32:Nat)≤(140737488355328:Nat)) <|
 Yc (fun v=>Za5 d0 v.1 v.2.1) ((0:Int),([]:List ZW),())
def c75:Ctr:=⟨[.dat (YQ)],[.own (Zjc)],fun a K=>splitK a fun d0 a=>Xl (Zf3 d0) fun r=>K (r,()) ()⟩
def ZaK (w0:Z9):Option Z9 :=
 (XO (Z9.Parent w0)).bind fun l02Ints0 =>
 (XO (Z9.Res w0)).bind fun l02Ints1 =>
 (XO (Z9.Cap w0)).bind fun l02Ints2 =>
 (XO (Z9.Ze4 w0)).bind fun l02Ints3 =>
 some (l02Ints0,l02Ints1,l02Ints2,l02Ints3,())
def c76:Ctr:=⟨[.dat (Xr)],[.own (Zg8)],fun a K=>splitK a fun w0 a=>Xl (ZaK w0) fun r=>K (r,()) ()⟩
def Za6 (b0:ZU) (l03OwnLibrary0:Z7) (l05Own0:ZT) (i0:Int) (c0:List Z9):Option ((Int×(List Z9)×Unit) ⊕ ZU) :=
 if i0<(↑(List.length (ZU.Ye b0)):Int) then
 (atI (ZU.Ye b0) i0).bind fun x0 =>
 (ZaK x0).bind fun l07OwnWire0 =>
 Yf ((List.length c0+List.length [l07OwnWire0])*(96:Nat)≤(140737488355328:Nat)) <|
 some (.inl (IntKind.i64.wrap (i0+(1:Int)),c0++[l07OwnWire0],()))
 else
 some (.inr (l03OwnLibrary0,l05Own0,c0,()))
def Zf4 (b0:ZU):Option ZU :=
 (Zao (ZU.Library b0)).bind fun l03OwnLibrary0 =>
 (Zf3 (ZU.Design b0)).bind fun l05Own0 =>
 Yc (fun v=>Za6 b0 l03OwnLibrary0 l05Own0 v.1 v.2.1) ((0:Int),([]:List Z9),())
def c77:Ctr:=⟨[.dat (Xg)],[.own (ZdK)],fun a K=>splitK a fun b0 a=>Xl (Zf4 b0) fun r=>K (r,()) ()⟩
def Zb0 (b0:ZU) (net0:Int) (l05Sinks0:List Int) (i0:Int) (l1:List Int):Option ((Int×(List Int)×Unit) ⊕ ((Int×(List Int)×Unit) ⊕ List Int)) :=
 if i0<(↑(List.length l05Sinks0):Int) then
 (atI l05Sinks0 i0).bind fun x0 =>
 (atI (ZU.Ye b0) net0).bind fun x1 =>
 (atI (Z9.Ze4 x1) i0).bind fun x2 =>
 (atI l1 x0).bind fun x3 =>
 some (.inl (IntKind.i64.wrap (i0+1),List.set l1 (Int.toNat x0) x2,()))
 else
 some (.inr (.inl (IntKind.i64.wrap (net0+1),l1,())))
def Zb1 (b0:ZU) (net0:Int) (l0:List Int):Option ((Int×(List Int)×Unit) ⊕ List Int) :=
 if net0<(↑(List.length (ZU.Ye b0)):Int) then
 (QE (ZU.Design b0) net0).bind fun l05Sinks0 =>
 Yc (fun v=>Zb0 b0 net0 l05Sinks0 v.1 v.2.1) ((0:Int),l0,())
 else
 some (.inr l0)
def Za7 (b0:ZU):Option (List Int) :=
 (XB (ZU.Design b0)).bind fun l05Places0 =>
 Yf ((0:Int)≤(↑(List.length l05Places0):Int)) <|
 Yf ((↑(List.length l05Places0):Int)≤(↑(List.length l05Places0):Int)) <|
 Yf ((↑(List.length l05Places0):Int)≤(4611686018427387904:Int)) <|
 Yf ((↑(8:Nat):Int)*(↑(List.length l05Places0):Int)≤(281474976710656:Int)) <|
 Yc (fun v=>Zb1 b0 v.1 v.2.1) ((0:Int),List.replicate (Int.toNat (↑(List.length l05Places0):Int)) (0:Int),())
def c78:Ctr:=⟨[.dat (Xg)],[.own (.ol 2 (.flat (.int .i64)))],fun a K=>splitK a fun b0 a=>Xl (Za7 b0) fun r=>K (r,()) ()⟩
def Jt (d0:ZT) (p0:Yk) (net0:Int):Option ZT :=
 if Yk.instance p0<0 then
 (atI (ZT.Yo d0) (Yk.pin p0)).bind fun x0 =>
 some (ZT.Instances d0,ZT.Yh d0,List.set (ZT.Yo d0) (Int.toNat (Yk.pin p0)) (Ym.Name x0,Ym.Dir x0,net0,()),())
 else
 (atI (ZT.Instances d0) (Yk.instance p0)).bind fun x0 =>
 (atI x0.snd.snd.fst (Yk.pin p0)).bind fun x1 =>
 some (List.set (ZT.Instances d0) (Int.toNat (Yk.instance p0)) (x0.fst,x0.snd.fst,List.set x0.snd.snd.fst (Int.toNat (Yk.pin p0)) net0,()),d0.snd)
def c79:Ctr:=⟨[.back (Zjc),.dat (Zez),.dat (.int .i64)],[],fun a K=>splitK a fun d0 a=>splitK a fun p0 a=>splitK a fun net0 a=>Xl (Jt d0 p0 net0) fun r=>K () (r,())⟩
def Zbr (sinks0:Int) (load0:Int):Option Z9 :=
 Yf ((0:Int)≤sinks0) <|
 Yf (sinks0≤sinks0) <|
 Yf (sinks0≤(4611686018427387904:Int)) <|
 Yf ((↑(8:Nat):Int)*sinks0≤(281474976710656:Int)) <|
 some ([(-1:Int)],[(0:Int)],[load0],List.replicate (Int.toNat sinks0) (0:Int),())
def c80:Ctr:=⟨[.dat (.int .i64),.dat (.int .i64)],[.own (Zg8)],fun a K=>splitK a fun sinks0 a=>splitK a fun load0 a=>Xl (Zbr sinks0 load0) fun r=>K (r,()) ()⟩
def Zbm (nodes0:List Int) (net0:Int) (l0:List (List Int×List Int×List Int×List Int×Unit)) (l05Sinks0:List Int) (list0:List Int) (i0:Int):Option (((List Int)×Int×Unit) ⊕ ((Int×(List (List Int×List Int×List Int×List Int×Unit))×Unit) ⊕ ZU)) :=
 if i0<(↑(List.length l05Sinks0):Int) then
 (atI l05Sinks0 i0).bind fun x0 =>
 (atI nodes0 x0).bind fun x1 =>
 Yf ((List.length list0+List.length [x1])*(8:Nat)≤(140737488355328:Nat)) <|
 some (.inl (list0++[x1],IntKind.i64.wrap (i0+(1:Int)),()))
 else
 (atI l0 net0).bind fun x0 =>
 some (.inr (.inl (IntKind.i64.wrap (net0+1),List.set l0 (Int.toNat net0) (x0.fst,x0.snd.fst,x0.snd.snd.fst,list0,()),())))
def Ja (b0:ZU) (nodes0:List Int) (net0:Int) (l0:List (List Int×List Int×List Int×List Int×Unit)):Option ((Int×(List (List Int×List Int×List Int×List Int×Unit))×Unit) ⊕ ZU) :=
 if net0<(↑(List.length l0):Int) then
 (QE (ZU.Design b0) net0).bind fun l05Sinks0 =>
 Yc (fun v=>Zbm nodes0 net0 l0 l05Sinks0 v.1 v.2.1) (([]:List Int),(0:Int),())
 else
 some (.inr (ZU.Library b0,ZU.Design b0,l0,()))
def QF (b0:ZU) (nodes0:List Int):Option ZU :=
 Yc (fun v=>Ja b0 nodes0 v.1 v.2.1) ((0:Int),ZU.Ye b0,())
def c81:Ctr:=⟨[.own (ZdK),.dat (.sl (.int .i64))],[.own (ZdK)],fun a K=>splitK a fun b0 a=>splitK a fun nodes0 a=>Xl (QF b0 nodes0) fun r=>K (r,()) ()⟩
def Zaa (a0:ZU) (a1:ZY):Option ZU :=
 (XB (ZU.Design a0)).bind fun l05Places0 =>
 (atI l05Places0 (ZY.Place a1)).bind fun x0 =>
 (Za7 a0).bind fun l08Nodes0 =>
 (atI l08Nodes0 (ZY.Place a1)).bind fun x1 =>
 Yf ((0:Int)≤IntKind.i64.wrap ((↑(List.length l08Nodes0):Int)-(↑(List.length (ZT.Yo (ZU.Design a0))):Int))) <|
 Yf (IntKind.i64.wrap ((↑(List.length l08Nodes0):Int)-(↑(List.length (ZT.Yo (ZU.Design a0))):Int))≤(↑(List.length l08Nodes0):Int)) <|
 (XO (List.take (Int.toNat (IntKind.i64.wrap ((↑(List.length l08Nodes0):Int)-(↑(List.length (ZT.Yo (ZU.Design a0))):Int)))-Int.toNat 0) (List.drop (Int.toNat 0) l08Nodes0))).bind fun l02Ints0 =>
 Yf ((List.length l02Ints0+List.length [x1,(0:Int)])*(8:Nat)≤(140737488355328:Nat)) <|
 Yf ((↑(List.length l08Nodes0):Int)≤(↑(List.length l08Nodes0):Int)) <|
 Yf ((List.length (l02Ints0++[x1,(0:Int)])+List.length (List.take (Int.toNat (↑(List.length l08Nodes0):Int)-Int.toNat (IntKind.i64.wrap ((↑(List.length l08Nodes0):Int)-(↑(List.length (ZT.Yo (ZU.Design a0))):Int)))) (List.drop (Int.toNat (IntKind.i64.wrap ((↑(List.length l08Nodes0):Int)-(↑(List.length (ZT.Yo (ZU.Design a0))):Int)))) l08Nodes0)))*(8:Nat)≤(140737488355328:Nat)) <|
 (Jt (ZU.Design a0) x0 (↑(List.length (ZU.Ye a0)):Int)).bind fun l08Connect0 =>
 if IntKind.i64.wrap ((↑(List.length l08Nodes0):Int)-(↑(List.length (ZT.Yo (ZU.Design a0))):Int))≤ZY.Place a1 then
 (atI (l02Ints0++[x1,(0:Int)]++List.take (Int.toNat (↑(List.length l08Nodes0):Int)-Int.toNat (IntKind.i64.wrap ((↑(List.length l08Nodes0):Int)-(↑(List.length (ZT.Yo (ZU.Design a0))):Int)))) (List.drop (Int.toNat (IntKind.i64.wrap ((↑(List.length l08Nodes0):Int)-(↑(List.length (ZT.Yo (ZU.Design a0))):Int)))) l08Nodes0)) (IntKind.i64.wrap (ZY.Place a1+(2:Int)))).bind fun x2 =>
 Yf ((List.length (ZT.Instances l08Connect0)+List.length [(ZY.Name a1,ZY.Cell a1,[Yk.net x0,(↑(List.length (ZU.Ye a0)):Int)],())])*(48:Nat)≤(140737488355328:Nat)) <|
 Yf ((List.length (ZT.Yh l08Connect0)+List.length [ZY.Name a1])*(16:Nat)≤(140737488355328:Nat)) <|
 (Zbr 1 0).bind fun l07Lumped0 =>
 Yf ((List.length (ZU.Ye a0)+List.length [l07Lumped0])*(96:Nat)≤(140737488355328:Nat)) <|
 (QF (ZU.Library a0,(ZT.Instances l08Connect0++[(ZY.Name a1,ZY.Cell a1,[Yk.net x0,(↑(List.length (ZU.Ye a0)):Int)],())],ZT.Yh l08Connect0++[ZY.Name a1],l08Connect0.snd.snd),ZU.Ye a0++[l07Lumped0],()) (List.set (l02Ints0++[x1,(0:Int)]++List.take (Int.toNat (↑(List.length l08Nodes0):Int)-Int.toNat (IntKind.i64.wrap ((↑(List.length l08Nodes0):Int)-(↑(List.length (ZT.Yo (ZU.Design a0))):Int)))) (List.drop (Int.toNat (IntKind.i64.wrap ((↑(List.length l08Nodes0):Int)-(↑(List.length (ZT.Yo (ZU.Design a0))):Int)))) l08Nodes0)) (Int.toNat (IntKind.i64.wrap (ZY.Place a1+(2:Int)))) (0:Int))).bind fun l08Attach0 =>
 some l08Attach0
 else
 (atI (l02Ints0++[x1,(0:Int)]++List.take (Int.toNat (↑(List.length l08Nodes0):Int)-Int.toNat (IntKind.i64.wrap ((↑(List.length l08Nodes0):Int)-(↑(List.length (ZT.Yo (ZU.Design a0))):Int)))) (List.drop (Int.toNat (IntKind.i64.wrap ((↑(List.length l08Nodes0):Int)-(↑(List.length (ZT.Yo (ZU.Design a0))):Int)))) l08Nodes0)) (ZY.Place a1)).bind fun x2 =>
 Yf ((List.length (ZT.Instances l08Connect0)+List.length [(ZY.Name a1,ZY.Cell a1,[Yk.net x0,(↑(List.length (ZU.Ye a0)):Int)],())])*(48:Nat)≤(140737488355328:Nat)) <|
 Yf ((List.length (ZT.Yh l08Connect0)+List.length [ZY.Name a1])*(16:Nat)≤(140737488355328:Nat)) <|
 (Zbr 1 0).bind fun l07Lumped0 =>
 Yf ((List.length (ZU.Ye a0)+List.length [l07Lumped0])*(96:Nat)≤(140737488355328:Nat)) <|
 (QF (ZU.Library a0,(ZT.Instances l08Connect0++[(ZY.Name a1,ZY.Cell a1,[Yk.net x0,(↑(List.length (ZU.Ye a0)):Int)],())],ZT.Yh l08Connect0++[ZY.Name a1],l08Connect0.snd.snd),ZU.Ye a0++[l07Lumped0],()) (List.set (l02Ints0++[x1,(0:Int)]++List.take (Int.toNat (↑(List.length l08Nodes0):Int)-Int.toNat (IntKind.i64.wrap ((↑(List.length l08Nodes0):Int)-(↑(List.length (ZT.Yo (ZU.Design a0))):Int)))) (List.drop (Int.toNat (IntKind.i64.wrap ((↑(List.length l08Nodes0):Int)-(↑(List.length (ZT.Yo (ZU.Design a0))):Int)))) l08Nodes0)) (Int.toNat (ZY.Place a1)) (0:Int))).bind fun l08Attach0 =>
 some l08Attach0
def c82:Ctr:=⟨[.own (ZdK),.dat (QZ)],[.own (ZdK)],fun a K=>splitK a fun a0 a=>splitK a fun a1 a=>Xl (Zaa a0 a1) fun r=>K (r,()) ()⟩
def Zdo (a0:ZU):Option ZU :=
 (Za7 a0).bind fun l08Nodes0 =>
 (QE (ZU.Design a0) (IntKind.i64.wrap ((↑(List.length (ZU.Ye a0)):Int)-1))).bind fun l05Sinks0 =>
 (atI l05Sinks0 0).bind fun x0 =>
 (atI l08Nodes0 (IntKind.i64.wrap (IntKind.i64.wrap ((↑(List.length l08Nodes0):Int)-(↑(List.length (ZT.Yo (ZU.Design a0))):Int))-2))).bind fun x1 =>
 (atI l08Nodes0 x0).bind fun x2 =>
 (atI (ZT.Instances (ZU.Design a0)) (IntKind.i64.wrap ((↑(List.length (ZT.Instances (ZU.Design a0))):Int)-1))).bind fun x3 =>
 (atI x3.snd.snd.fst 0).bind fun x4 =>
 (XB (List.set (ZT.Instances (ZU.Design a0)) (Int.toNat (IntKind.i64.wrap ((↑(List.length (ZT.Instances (ZU.Design a0))):Int)-1))) x3,(ZU.Design a0).snd)).bind fun l05Places0 =>
 (atI l05Places0 x0).bind fun x5 =>
 (Jt (List.set (ZT.Instances (ZU.Design a0)) (Int.toNat (IntKind.i64.wrap ((↑(List.length (ZT.Instances (ZU.Design a0))):Int)-1))) x3,(ZU.Design a0).snd) x5 x4).bind fun l08Connect0 =>
 Yf ((0:Int)≤IntKind.i64.wrap (IntKind.i64.wrap ((↑(List.length l08Nodes0):Int)-(↑(List.length (ZT.Yo (ZU.Design a0))):Int))-(2:Int))) <|
 Yf (IntKind.i64.wrap (IntKind.i64.wrap ((↑(List.length l08Nodes0):Int)-(↑(List.length (ZT.Yo (ZU.Design a0))):Int))-(2:Int))≤(↑(List.length (List.set l08Nodes0 (Int.toNat x0) x1)):Int)) <|
 (XO (List.take (Int.toNat (IntKind.i64.wrap (IntKind.i64.wrap ((↑(List.length l08Nodes0):Int)-(↑(List.length (ZT.Yo (ZU.Design a0))):Int))-2))-Int.toNat 0) (List.drop (Int.toNat 0) (List.set l08Nodes0 (Int.toNat x0) x1)))).bind fun l02Ints0 =>
 Yf ((0:Int)≤IntKind.i64.wrap ((↑(List.length l08Nodes0):Int)-(↑(List.length (ZT.Yo (ZU.Design a0))):Int))) <|
 Yf (IntKind.i64.wrap ((↑(List.length l08Nodes0):Int)-(↑(List.length (ZT.Yo (ZU.Design a0))):Int))≤(↑(List.length (List.set l08Nodes0 (Int.toNat x0) x1)):Int)) <|
 Yf ((↑(List.length (List.set l08Nodes0 (Int.toNat x0) x1)):Int)≤(↑(List.length (List.set l08Nodes0 (Int.toNat x0) x1)):Int)) <|
 Yf ((List.length l02Ints0+List.length (List.take (Int.toNat (↑(List.length (List.set l08Nodes0 (Int.toNat x0) x1)):Int)-Int.toNat (IntKind.i64.wrap ((↑(List.length l08Nodes0):Int)-(↑(List.length (ZT.Yo (ZU.Design a0))):Int)))) (List.drop (Int.toNat (IntKind.i64.wrap ((↑(List.length l08Nodes0):Int)-(↑(List.length (ZT.Yo (ZU.Design a0))):Int)))) (List.set l08Nodes0 (Int.toNat x0) x1))))*(8:Nat)≤(140737488355328:Nat)) <|
 Yf ((0:Int)≤IntKind.i64.wrap ((↑(List.length (ZT.Instances (ZU.Design a0))):Int)-(1:Int))) <|
 Yf (IntKind.i64.wrap ((↑(List.length (ZT.Instances (ZU.Design a0))):Int)-(1:Int))≤(↑(List.length (ZT.Instances l08Connect0)):Int)) <|
 Yf ((0:Int)≤IntKind.i64.wrap ((↑(List.length (ZU.Ye a0)):Int)-(1:Int))) <|
 Yf (IntKind.i64.wrap ((↑(List.length (ZU.Ye a0)):Int)-(1:Int))≤(↑(List.length (ZT.Yh l08Connect0)):Int)) <|
 Yf (IntKind.i64.wrap ((↑(List.length (ZU.Ye a0)):Int)-(1:Int))≤(↑(List.length (ZU.Ye a0)):Int)) <|
 (QF (ZU.Library a0,(List.take (Int.toNat (IntKind.i64.wrap ((↑(List.length (ZT.Instances (ZU.Design a0))):Int)-1))-Int.toNat 0) (List.drop (Int.toNat 0) (ZT.Instances l08Connect0)),List.take (Int.toNat (IntKind.i64.wrap ((↑(List.length (ZU.Ye a0)):Int)-1))-Int.toNat 0) (List.drop (Int.toNat 0) (ZT.Yh l08Connect0)),l08Connect0.snd.snd),List.take (Int.toNat (IntKind.i64.wrap ((↑(List.length (ZU.Ye a0)):Int)-1))-Int.toNat 0) (List.drop (Int.toNat 0) (ZU.Ye a0)),()) (l02Ints0++List.take (Int.toNat (↑(List.length (List.set l08Nodes0 (Int.toNat x0) x1)):Int)-Int.toNat (IntKind.i64.wrap ((↑(List.length l08Nodes0):Int)-(↑(List.length (ZT.Yo (ZU.Design a0))):Int)))) (List.drop (Int.toNat (IntKind.i64.wrap ((↑(List.length l08Nodes0):Int)-(↑(List.length (ZT.Yo (ZU.Design a0))):Int)))) (List.set l08Nodes0 (Int.toNat x0) x1)))).bind fun l08Attach0 =>
 some l08Attach0
def c83:Ctr:=⟨[.own (ZdK)],[.own (ZdK)],fun a K=>splitK a fun a0 a=>Xl (Zdo a0) fun r=>K (r,()) ()⟩
def ZcE (a0:ZU) (a1:ZY):Option ZU :=
 (Zf4 a0).bind fun l07Own0 =>
 (XB (ZU.Design l07Own0)).bind fun l05Places0 =>
 if ZY.Kind a1=1 then
 (atI l05Places0 (ZY.Place a1)).bind fun x0 =>
 (atI (ZT.Instances (ZU.Design l07Own0)) (Yk.instance x0)).bind fun x1 =>
 some (ZU.Library l07Own0,(List.set (ZT.Instances (ZU.Design l07Own0)) (Int.toNat (Yk.instance x0)) (x1.fst,ZY.Cell a1,x1.snd.snd),(ZU.Design l07Own0).snd),l07Own0.snd.snd)
 else
 if ZY.Kind a1=2 then
 (Zaa l07Own0 a1).bind fun l08Insert0 =>
 some l08Insert0
 else
 if ZY.Kind a1=3 then
 (Zdo l07Own0).bind fun l08Remove0 =>
 some l08Remove0
 else
 if ZY.Kind a1=4 then
 (Za7 l07Own0).bind fun l08Nodes0 =>
 (atI l08Nodes0 (ZY.Place a1)).bind fun x0 =>
 (atI l05Places0 (ZY.Place a1)).bind fun x1 =>
 (Jt (ZU.Design l07Own0) x1 (ZY.Net a1)).bind fun l08Connect0 =>
 (QF (ZU.Library l07Own0,l08Connect0,l07Own0.snd.snd) (List.set l08Nodes0 (Int.toNat (ZY.Place a1)) (ZY.Node a1))).bind fun l08Attach0 =>
 some l08Attach0
 else
 if ZY.Kind a1=5 then
 (ZaK (ZY.Zc9 a1)).bind fun l07OwnWire0 =>
 (atI (ZU.Ye l07Own0) (ZY.Net a1)).bind fun x0 =>
 some (ZU.Library l07Own0,ZU.Design l07Own0,List.set (ZU.Ye l07Own0) (Int.toNat (ZY.Net a1)) l07OwnWire0,())
 else
 some l07Own0
def c84:Ctr:=⟨[.dat (Xg),.dat (QZ)],[.own (ZdK)],fun a K=>splitK a fun a0 a=>splitK a fun a1 a=>Xl (ZcE a0 a1) fun r=>K (r,()) ()⟩
def Vl (list0:List Int) (x0:Int) (i0:Int):Option ((Int×Unit) ⊕ Bool) :=
 if i0<(↑(List.length list0):Int) then
 (atI list0 i0).bind fun x1 =>
 if x1=x0 then
 some (.inr Bool.true)
 else
 some (.inl (IntKind.i64.wrap (i0+1),()))
 else
 some (.inr Bool.false)
def Zc6 (list0:List Int) (x0:Int):Option Bool :=
 Yc (fun v=>Vl list0 x0 v.1) ((0:Int),())
def c85:Ctr:=D2 (.sl (.int .i64)) (.int .i64) (.bool) Zc6
def Vu (l08Touched0:List Int) (l05Places0:List Yk) (out0:List Int) (p0:Int):Option (((List Int)×Int×Unit) ⊕ List Int) :=
 if p0<(↑(List.length l05Places0):Int) then
 (atI l05Places0 p0).bind fun x0 =>
 (Zc6 l08Touched0 (Yk.net x0)).bind fun l08Has0 =>
 if l08Has0=true then
 Yf ((List.length out0+List.length [IntKind.i64.wrap ((2:Int)*p0),IntKind.i64.wrap (IntKind.i64.wrap ((2:Int)*p0)+(1:Int))])*(8:Nat)≤(140737488355328:Nat)) <|
 some (.inl (out0++[IntKind.i64.wrap ((2:Int)*p0),IntKind.i64.wrap (IntKind.i64.wrap ((2:Int)*p0)+(1:Int))],IntKind.i64.wrap (p0+(1:Int)),()))
 else
 some (.inl (out0,IntKind.i64.wrap (p0+1),()))
 else
 some (.inr out0)
def Za8 (b0:ZU) (e0:ZY):Option (List Int) :=
 (Ju b0 e0).bind fun l08Touched0 =>
 (ZcE b0 e0).bind fun l08Apply0 =>
 (XB (ZU.Design l08Apply0)).bind fun l05Places0 =>
 Yc (fun v=>Vu l08Touched0 l05Places0 v.1 v.2.1) (([]:List Int),(0:Int),())
def c86:Ctr:=⟨[.dat (Xg),.dat (QZ)],[.own (.ol 2 (.flat (.int .i64)))],fun a K=>splitK a fun b0 a=>splitK a fun e0 a=>Xl (Za8 b0 e0) fun r=>K (r,()) ()⟩
def Jq (b0:ZU) (e0:ZY):Option ((List Int)×Int) :=
 (Za0 b0 e0).bind fun EditCode0 =>
 if EditCode0=0 then
 (Za8 b0 e0).bind fun l32Dirty0 =>
 some (l32Dirty0,0)
 else
 some (([]:List Int),EditCode0)
def c87:Ctr:=⟨[.dat (Xg),.dat (QZ)],[.own (.ol 2 (.flat (.int .i64))),.dat (.int .i64)],fun a K=>splitK a fun b0 a=>splitK a fun e0 a=>Xl (Jq b0 e0) fun r=>K (r.1,r.2,()) ()⟩
def YT (x0:Int) (low0:Int) (high0:Int):Option Bool :=
 if low0≤x0 then
 some (Decidable.decide (x0≤high0))
 else
 some Bool.false
def c88:Ctr:=D3 (.int .i64) (.int .i64) (.int .i64) (.bool) YT
def ZcR (s0:List UInt8):Option Bool :=
 (YT (↑(List.length s0):Int) 1 8).bind fun within0 =>
 if within0=true then
 Yf (List.length s0≤(1000000:Nat)) <|
 if Go.Lib.trimS s0 [(97:UInt8),(98:UInt8),(99:UInt8),(100:UInt8),(101:UInt8),(102:UInt8),(103:UInt8),(104:UInt8),(105:UInt8),(106:UInt8),(107:UInt8),(108:UInt8),(109:UInt8),(110:UInt8),(111:UInt8),(112:UInt8),(113:UInt8),(114:UInt8),(115:UInt8),(116:UInt8),(117:UInt8),(118:UInt8),(119:UInt8),(120:UInt8),(121:UInt8),(122:UInt8),(48:UInt8),(49:UInt8),(50:UInt8),(51:UInt8),(52:UInt8),(53:UInt8),(54:UInt8),(55:UInt8),(56:UInt8),(57:UInt8)]=([]:List UInt8) then
 (atI s0 0).bind fun x0 =>
 some (Decidable.decide ((0:Int)≤Go.Lib.indexByte [(97:UInt8),(98:UInt8),(99:UInt8),(100:UInt8),(101:UInt8),(102:UInt8),(103:UInt8),(104:UInt8),(105:UInt8),(106:UInt8),(107:UInt8),(108:UInt8),(109:UInt8),(110:UInt8),(111:UInt8),(112:UInt8),(113:UInt8),(114:UInt8),(115:UInt8),(116:UInt8),(117:UInt8),(118:UInt8),(119:UInt8),(120:UInt8),(121:UInt8),(122:UInt8)] (Nat.toUInt8 (Int.toNat (↑(UInt8.toNat x0):Int)))))
 else
 some Bool.false
 else
 some Bool.false
def c89:Ctr:=D1 (.str) (.bool) ZcR
def V8 (list0:List YX):Option Int :=
 some (↑(List.length list0):Int)
def c90:Ctr:=D1 (.sl (Zcb)) (.int .i64) V8
def Xf (s0:List (List UInt8)) (v0:List UInt8) (v1:Int):Option ((Int×Unit) ⊕ Int) :=
 if v1<(↑(List.length s0):Int) then
 (atI s0 v1).bind fun x0 =>
 if v0=x0 then
 some (.inr v1)
 else
 some (.inl (IntKind.i64.wrap (v1+1),()))
 else
 some (.inr (-1))
def Xb (s0:List (List UInt8)) (v0:List UInt8):Option Int :=
 Yc (fun v=>Xf s0 v0 v.1) ((0:Int),())
def c91:Ctr:=D2 (.sl (.str)) (.str) (.int .i64) Xb
def XM (s0:List (List UInt8)) (v0:List UInt8):Option Bool :=
 (Xb s0 v0).bind fun string0 =>
 some (Decidable.decide (0≤string0))
def c92:Ctr:=D2 (.sl (.str)) (.str) (.bool) XM
def ZbK (list0:List (List UInt8)) (v0:Int):Option ((Int×Unit) ⊕ Bool) :=
 if v0<(↑(List.length list0):Int) then
 (atI list0 v0).bind fun x0 =>
 (ZcR x0).bind fun isName0 =>
 if isName0=true then
 Yf ((0:Int)≤v0) <|
 Yf (v0≤(↑(List.length list0):Int)) <|
 (XM (List.take (Int.toNat v0-Int.toNat 0) (List.drop (Int.toNat 0) list0)) x0).bind fun string0 =>
 if string0=true then
 some (.inr Bool.false)
 else
 some (.inl (IntKind.i64.wrap (v0+1),()))
 else
 some (.inr Bool.false)
 else
 some (.inr Bool.true)
def VO (list0:List (List UInt8)):Option Bool :=
 Yc (fun v=>ZbK list0 v.1) ((0:Int),())
def c93:Ctr:=D1 (.sl (.str)) (.bool) VO
def VP (list0:List YX) (names0:List (List UInt8)) (v0:Int):Option (((List (List UInt8))×Int×Unit) ⊕ Bool) :=
 if v0<(↑(List.length list0):Int) then
 (atI list0 v0).bind fun x0 =>
 Yf ((List.length names0+List.length [YX.Name x0])*(16:Nat)≤(140737488355328:Nat)) <|
 if v0=IntKind.i64.wrap ((↑(List.length list0):Int)-1) then
 if YX.Dir x0=2 then
 if YX.Cap x0=0 then
 if (YX.Clock x0)=true then
 some (.inr Bool.false)
 else
 some (.inl (names0++[YX.Name x0],IntKind.i64.wrap (v0+(1:Int)),()))
 else
 some (.inr Bool.false)
 else
 some (.inr Bool.false)
 else
 if YX.Dir x0=1 then
 (YT (YX.Cap x0) 0 500).bind fun within0 =>
 if within0=true then
 some (.inl (names0++[YX.Name x0],IntKind.i64.wrap (v0+(1:Int)),()))
 else
 some (.inr Bool.false)
 else
 some (.inr Bool.false)
 else
 (V8 list0).bind fun Pin0 =>
 (YT Pin0 2 5).bind fun within0 =>
 if within0=true then
 (VO names0).bind fun areNames0 =>
 some (.inr areNames0)
 else
 some (.inr Bool.false)
def ZeI (list0:List YX):Option Bool :=
 Yc (fun v=>VP list0 v.1 v.2.1) (([]:List (List UInt8)),(0:Int),())
def c94:Ctr:=D1 (.sl (Zcb)) (.bool) ZeI
def ZeJ (kind0:Int):Option Bool :=
 if kind0=4 then
 some Bool.true
 else
 some (Decidable.decide (kind0=5))
def c95:Ctr:=D1 (.int .i64) (.bool) ZeJ
def Xm (list0:List Int):Option Int :=
 some (↑(List.length list0):Int)
def c96:Ctr:=D1 (.sl (.int .i64)) (.int .i64) Xm
def ZcP (n0:Int) (a0:Int) (a1:Int):Option Bool :=
 (YT n0 a0 a1).bind fun within0 =>
 some !within0
def c97:Ctr:=D3 (.int .i64) (.ptr (.int .i64)) (.ptr (.int .i64)) (.bool) ZcP
def YW (s0:List Int) (f0:Int×Int×Unit) (v0:Int):Option ((Int×Unit) ⊕ Int) :=
 if v0<(↑(List.length s0):Int) then
 (atI s0 v0).bind fun x0 =>
 (ZcP x0 f0.fst f0.snd.fst).bind fun c1_0 =>
 if c1_0=true then
 some (.inr v0)
 else
 some (.inl (IntKind.i64.wrap (v0+1),()))
 else
 some (.inr (-1))
def YN (s0:List Int) (f0:Int×Int×Unit):Option Int :=
 Yc (fun v=>YW s0 f0 v.1) ((0:Int),())
def c98:Ctr:=D2 (.sl (.int .i64)) (.fn 167 (.pair (.ptr (.int .i64)) (.pair (.ptr (.int .i64)) (.unit)))) (.int .i64) YN
def Y5 (s0:List Int) (f0:Int×Int×Unit):Option Bool :=
 (YN s0 f0).bind fun c1_0 =>
 some (Decidable.decide (0≤c1_0))
def c99:Ctr:=D2 (.sl (.int .i64)) (.fn 167 (.pair (.ptr (.int .i64)) (.pair (.ptr (.int .i64)) (.unit)))) (.bool) Y5
def Qc (list0:List Int) (low0:Int) (high0:Int):Option Bool :=
 (Y5 list0 (low0,high0,())).bind fun c1_0 =>
 some !c1_0
def Zur:Ctr:=D3 (.sl (.int .i64)) (.int .i64) (.int .i64) (.bool) Qc
def Qh (list0:List Int) (i0:Int):Option ((Int×Unit) ⊕ Bool) :=
 if i0<(↑(List.length list0):Int) then
 (atI list0 (IntKind.i64.wrap (i0-1))).bind fun x0 =>
 (atI list0 i0).bind fun x1 =>
 if x1≤x0 then
 some (.inr Bool.false)
 else
 some (.inl (IntKind.i64.wrap (i0+1),()))
 else
 some (.inr Bool.true)
def ZaW (list0:List Int):Option Bool :=
 Yc (fun v=>Qh list0 v.1) ((1:Int),())
def ZvM:Ctr:=D1 (.sl (.int .i64)) (.bool) ZaW
def Zen (list0:List Int):Option Bool :=
 (Xm list0).bind fun int64_0 =>
 (YT int64_0 1 4).bind fun within0 =>
 if within0=true then
 (Qc list0 0 100000).bind fun areWithin0 =>
 if areWithin0=true then
 (ZaW list0).bind fun isIncreasing0 =>
 some isIncreasing0
 else
 some Bool.false
 else
 some Bool.false
def ZvN:Ctr:=D1 (.sl (.int .i64)) (.bool) Zen
def ZeG (t0:Yb):Option Bool :=
 (Zen (Yb.Ze5 t0)).bind fun isAxis0 =>
 if isAxis0=true then
 (Zen (Yb.Loads t0)).bind fun isAxis1 =>
 if isAxis1=true then
 if (↑(List.length (Yb.Values t0)):Int)=IntKind.i64.wrap ((↑(List.length (Yb.Ze5 t0)):Int)*(↑(List.length (Yb.Loads t0)):Int)) then
 (Qc (Yb.Values t0) (-1000000) 1000000).bind fun areWithin0 =>
 some areWithin0
 else
 some Bool.false
 else
 some Bool.false
 else
 some Bool.false
def ZvO:Ctr:=D1 (Xc) (.bool) ZeG
def QY (x0:List Int) (m0:Int) (i0:Int):Option ((Int×Int×Unit) ⊕ Int) :=
 if i0<(↑(List.length x0):Int) then
 (atI x0 i0).bind fun x2 =>
 some (.inl (Min.min m0 x2,IntKind.i64.wrap (i0+1),()))
 else
 some (.inr m0)
def Va (x0:List Int):Option Int :=
 if (↑(List.length x0):Int)<1 then
 none
 else
 (atI x0 0).bind fun x1 =>
 Yc (fun v=>QY x0 v.1 v.2.1) (x1,(1:Int),())
def ZvP:Ctr:=D1 (.sl (.int .i64)) (.int .i64) Va
def Vj (t0:Yb) (a0:Bool):Option Bool :=
 (ZeG t0).bind fun IsTable0 =>
 if IsTable0=true then
 if a0=true then
 (Va (Yb.Values t0)).bind fun int64_0 =>
 some (Decidable.decide (int64_0<0))
 else
 some Bool.false
 else
 some Bool.true
def c105:Ctr:=D2 (Xc) (.ptr (.bool)) (.bool) Vj
def YH (s0:List Yb) (f0:Bool×Unit) (v0:Int):Option ((Int×Unit) ⊕ Int) :=
 if v0<(↑(List.length s0):Int) then
 (atI s0 v0).bind fun x0 =>
 (Vj x0 f0.fst).bind fun c1_0 =>
 if c1_0=true then
 some (.inr v0)
 else
 some (.inl (IntKind.i64.wrap (v0+1),()))
 else
 some (.inr (-1))
def Yx (s0:List Yb) (f0:Bool×Unit):Option Int :=
 Yc (fun v=>YH s0 f0 v.1) ((0:Int),())
def ZvQ:Ctr:=D2 (.sl (Xc)) (.fn 251 (.pair (.ptr (.bool)) (.unit))) (.int .i64) Yx
def Yp (s0:List Yb) (f0:Bool×Unit):Option Bool :=
 (Yx s0 f0).bind fun c1_0 =>
 some (Decidable.decide (0≤c1_0))
def c107:Ctr:=D2 (.sl (Xc)) (.fn 251 (.pair (.ptr (.bool)) (.unit))) (.bool) Yp
def J6 (list0:List Yb) (positive0:Bool):Option Bool :=
 if (↑(List.length list0):Int)=2 then
 (Yp list0 (positive0,())).bind fun c1_0 =>
 some !c1_0
 else
 some Bool.false
def ZvR:Ctr:=D2 (.sl (Xc)) (.bool) (.bool) J6
def Zck (p0:YX):Option Bool :=
 some (YX.Clock p0)
def c109:Ctr:=D1 (Zcb) (.bool) Zck
def YK (s0:List YX) (v0:Int):Option ((Int×Unit) ⊕ Int) :=
 if v0<(↑(List.length s0):Int) then
 (atI s0 v0).bind fun x0 =>
 (Zck x0).bind fun c1_0 =>
 if c1_0=true then
 some (.inr v0)
 else
 some (.inl (IntKind.i64.wrap (v0+1),()))
 else
 some (.inr (-1))
def YD (s0:List YX) (f0:Unit):Option Int :=
 Yc (fun v=>YK s0 v.1) ((0:Int),())
def ZvS:Ctr:=D2 (.sl (Zcb)) (.fn 255 (.unit)) (.int .i64) YD
def Zcj (c0:Z4):Option Int :=
 (YD (Z4.YV c0) ()).bind fun c1_0 =>
 some c1_0
def ZvT:Ctr:=D1 (XZ) (.int .i64) Zcj
def JV (c0:Z4):Option Int :=
 (V8 (Z4.YV c0)).bind fun Pin0 =>
 some (IntKind.i64.wrap (Pin0-1))
def ZuK:Ctr:=D1 (XZ) (.int .i64) JV
def Jd (c0:Z4) (pin0:Int):Option Bool :=
 (JV c0).bind fun output0 =>
 (YT pin0 0 (IntKind.i64.wrap (output0-1))).bind fun within0 =>
 some within0
def ZvU:Ctr:=D2 (XZ) (.int .i64) (.bool) Jd
def Zcl (a0:Z4) (a1:Yi):Option Bool :=
 (ZeJ (Yi.Kind a1)).bind fun isCheck0 =>
 if isCheck0=true then
 if Yi.Zbn a1=0 then
 if (↑(List.length (Yi.Zhn a1)):Int)=0 then
 (J6 (Yi.Delay a1) Bool.false).bind fun areTables0 =>
 if areTables0=true then
 (Zcj a0).bind fun clock0 =>
 if Yi.From a1=clock0 then
 if 0≤Yi.From a1 then
 (Jd a0 (Yi.To a1)).bind fun isInput0 =>
 if isInput0=true then
 some (!Decidable.decide (Yi.To a1=Yi.From a1))
 else
 some Bool.false
 else
 some Bool.false
 else
 some Bool.false
 else
 some Bool.false
 else
 some Bool.false
 else
 some Bool.false
 else
 (J6 (Yi.Delay a1) Bool.true).bind fun areTables0 =>
 if areTables0=true then
 (J6 (Yi.Zhn a1) Bool.true).bind fun areTables1 =>
 if areTables1=true then
 (JV a0).bind fun output0 =>
 if Yi.To a1=output0 then
 (Jd a0 (Yi.From a1)).bind fun isInput0 =>
 if isInput0=true then
 if Yi.Kind a1=1 then
 (atI (Z4.YV a0) (Yi.From a1)).bind fun x0 =>
 if (YX.Clock x0)=true then
 some Bool.false
 else
 (YT (Yi.Zbn a1) 1 3).bind fun within0 =>
 some within0
 else
 if Yi.Kind a1=2 then
 if Yi.Kind a1=2 then
 (atI (Z4.YV a0) (Yi.From a1)).bind fun x0 =>
 if (YX.Clock x0)=true then
 some (Decidable.decide (Yi.Zbn a1=0))
 else
 some Bool.false
 else
 some Bool.false
 else
 if Yi.Kind a1=3 then
 (atI (Z4.YV a0) (Yi.From a1)).bind fun x0 =>
 if (YX.Clock x0)=true then
 some (Decidable.decide (Yi.Zbn a1=0))
 else
 some Bool.false
 else
 some Bool.false
 else
 some Bool.false
 else
 some Bool.false
 else
 some Bool.false
 else
 some Bool.false
def ZvV:Ctr:=D2 (XZ) (Zdz) (.bool) Zcl
def Qm (o0:Yi) (a0:Yi):Option Bool :=
 if Yi.Kind o0=Yi.Kind a0 then
 if Yi.From o0=Yi.From a0 then
 some (Decidable.decide (Yi.To o0=Yi.To a0))
 else
 some Bool.false
 else
 some Bool.false
def ZvW:Ctr:=D2 (Zdz) (.ptr (Zdz)) (.bool) Qm
def YI (s0:List Yi) (f0:Yi×Unit) (v0:Int):Option ((Int×Unit) ⊕ Int) :=
 if v0<(↑(List.length s0):Int) then
 (atI s0 v0).bind fun x0 =>
 (Qm x0 f0.fst).bind fun c1_0 =>
 if c1_0=true then
 some (.inr v0)
 else
 some (.inl (IntKind.i64.wrap (v0+1),()))
 else
 some (.inr (-1))
def Yz (s0:List Yi) (f0:Yi×Unit):Option Int :=
 Yc (fun v=>YI s0 f0 v.1) ((0:Int),())
def c116:Ctr:=D2 (.sl (Zdz)) (.fn 229 (.pair (.ptr (Zdz)) (.unit))) (.int .i64) Yz
def Yq (s0:List Yi) (f0:Yi×Unit):Option Bool :=
 (Yz s0 f0).bind fun c1_0 =>
 some (Decidable.decide (0≤c1_0))
def c117:Ctr:=D2 (.sl (Zdz)) (.fn 229 (.pair (.ptr (Zdz)) (.unit))) (.bool) Yq
def JF (c0:Z4) (v0:Int):Option ((Int×Unit) ⊕ Bool) :=
 if v0<(↑(List.length (Z4.JB c0)):Int) then
 (atI (Z4.JB c0) v0).bind fun x0 =>
 (Zcl c0 x0).bind fun isArc0 =>
 if isArc0=true then
 Yf ((0:Int)≤v0) <|
 Yf (v0≤(↑(List.length (Z4.JB c0)):Int)) <|
 (Yq (List.take (Int.toNat v0-Int.toNat 0) (List.drop (Int.toNat 0) (Z4.JB c0))) (x0,())).bind fun c1_0 =>
 if c1_0=true then
 some (.inr Bool.false)
 else
 some (.inl (IntKind.i64.wrap (v0+1),()))
 else
 some (.inr Bool.false)
 else
 some (.inr (Decidable.decide ((↑(List.length (Z4.JB c0)):Int)≤8)))
def ZaT (c0:Z4):Option Bool :=
 Yc (fun v=>JF c0 v.1) ((0:Int),())
def ZvX:Ctr:=D1 (XZ) (.bool) ZaT
def Zby (a0:Yi) (a1:Int):Option Bool :=
 some (Decidable.decide (Yi.Kind a0=a1))
def c119:Ctr:=D2 (Zdz) (.ptr (.int .i64)) (.bool) Zby
def YP (s0:List Yi) (f0:Int×Unit) (v0:Int):Option ((Int×Unit) ⊕ Int) :=
 if v0<(↑(List.length s0):Int) then
 (atI s0 v0).bind fun x0 =>
 (Zby x0 f0.fst).bind fun c1_0 =>
 if c1_0=true then
 some (.inr v0)
 else
 some (.inl (IntKind.i64.wrap (v0+1),()))
 else
 some (.inr (-1))
def YE (s0:List Yi) (f0:Int×Unit):Option Int :=
 Yc (fun v=>YP s0 f0 v.1) ((0:Int),())
def ZvY:Ctr:=D2 (.sl (Zdz)) (.fn 245 (.pair (.ptr (.int .i64)) (.unit))) (.int .i64) YE
def YA (s0:List Yi) (f0:Int×Unit):Option Bool :=
 (YE s0 f0).bind fun c1_0 =>
 some (Decidable.decide (0≤c1_0))
def ZvZ:Ctr:=D2 (.sl (Zdz)) (.fn 245 (.pair (.ptr (.int .i64)) (.unit))) (.bool) YA
def Q8 (c0:Z4) (kind0:Int):Option Bool :=
 (YA (Z4.JB c0) (kind0,())).bind fun c1_0 =>
 some c1_0
def Zv0:Ctr:=D2 (XZ) (.int .i64) (.bool) Q8
def X5 (a0:Z4) (v0:Int) (v1:Int):Option ((Int×Int×Unit) ⊕ Bool) :=
 if v1<(↑(List.length (Z4.YV a0)):Int) then
 (atI (Z4.YV a0) v1).bind fun x0 =>
 if (YX.Clock x0)=true then
 some (.inl (IntKind.i64.wrap (v0+1),IntKind.i64.wrap (v1+1),()))
 else
 some (.inl (v0,IntKind.i64.wrap (v1+1),()))
 else
 if Z4.Kind a0=1 then
 if v0=0 then
 (JV a0).bind fun output0 =>
 Yf ((0:Int)≤output0) <|
 if (↑(List.length (Z4.Truth a0)):Int)=IntKind.i64.wrap (1*2 ^ Min.min (Int.toNat output0) (IntKind.bits IntKind.i64)) then
 (Qc (Z4.Truth a0) 0 1).bind fun areWithin0 =>
 some (.inr areWithin0)
 else
 some (.inr Bool.false)
 else
 some (.inr Bool.false)
 else
 if Z4.Kind a0=2 then
 if v0=1 then
 if (↑(List.length (Z4.Truth a0)):Int)=0 then
 (Q8 a0 1).bind fun has0 =>
 if has0=true then
 some (.inr Bool.false)
 else
 (Q8 a0 2).bind fun has1 =>
 (Q8 a0 3).bind fun has2 =>
 some (.inr (!has1 == has2))
 else
 some (.inr Bool.false)
 else
 some (.inr Bool.false)
 else
 if Z4.Kind a0=3 then
 if v0=1 then
 if (↑(List.length (Z4.Truth a0)):Int)=0 then
 (Q8 a0 1).bind fun has0 =>
 if has0=true then
 (Q8 a0 2).bind fun has1 =>
 if has1=true then
 (Q8 a0 3).bind fun has2 =>
 some (.inr !has2)
 else
 some (.inr Bool.false)
 else
 some (.inr Bool.false)
 else
 some (.inr Bool.false)
 else
 some (.inr Bool.false)
 else
 some (.inr Bool.false)
def Zai (a0:Z4):Option Bool :=
 Yc (fun v=>X5 a0 v.1 v.2.1) ((0:Int),(0:Int),())
def Zv1:Ctr:=D1 (XZ) (.bool) Zai
def ZfH (c0:Z4):Option Bool :=
 (ZcR (Z4.Name c0)).bind fun isName0 =>
 if isName0=true then
 (ZeI (Z4.YV c0)).bind fun arePins0 =>
 if arePins0=true then
 (ZaT c0).bind fun areArcs0 =>
 if areArcs0=true then
 (YT (Z4.Zr7 c0) 0 100000).bind fun within0 =>
 if within0=true then
 (YT (Z4.Zhh c0) 0 100000).bind fun within1 =>
 if within1=true then
 (Zai c0).bind fun isOfKind0 =>
 some isOfKind0
 else
 some Bool.false
 else
 some Bool.false
 else
 some Bool.false
 else
 some Bool.false
 else
 some Bool.false
def c124:Ctr:=D1 (XZ) (.bool) ZfH
def Q0 (l0:Z7) (names0:List (List UInt8)) (v0:Int):Option (((List (List UInt8))×Int×Unit) ⊕ Bool) :=
 if v0<(↑(List.length (Z7.Cells l0)):Int) then
 (atI (Z7.Cells l0) v0).bind fun x0 =>
 (ZfH x0).bind fun IsCell0 =>
 if IsCell0=true then
 Yf ((List.length names0+List.length [Z4.Name x0])*(16:Nat)≤(140737488355328:Nat)) <|
 some (.inl (names0++[Z4.Name x0],IntKind.i64.wrap (v0+(1:Int)),()))
 else
 some (.inr Bool.false)
 else
 if (↑(List.length (Z7.Cells l0)):Int)≤8 then
 (VO names0).bind fun areNames0 =>
 some (.inr areNames0)
 else
 some (.inr Bool.false)
def Zdd (l0:Z7):Option Bool :=
 Yc (fun v=>Q0 l0 v.1 v.2.1) (([]:List (List UInt8)),(0:Int),())
def Zv2:Ctr:=D1 (Y9) (.bool) Zdd
def VE (d0:ZT) (instances0:List (List UInt8)) (ports0:List (List UInt8)) (v1:Int):Option (((List (List UInt8))×Int×Unit) ⊕ (((List (List UInt8))×Int×Unit) ⊕ Bool)) :=
 if v1<(↑(List.length (ZT.Yo d0)):Int) then
 (atI (ZT.Yo d0) v1).bind fun x0 =>
 Yf ((List.length ports0+List.length [Ym.Name x0])*(16:Nat)≤(140737488355328:Nat)) <|
 some (.inl (ports0++[Ym.Name x0],IntKind.i64.wrap (v1+(1:Int)),()))
 else
 if (↑(List.length instances0):Int)≤14 then
 if (↑(List.length (ZT.Yh d0)):Int)≤30 then
 if (↑(List.length ports0):Int)≤8 then
 (VO instances0).bind fun areNames0 =>
 if areNames0=true then
 (VO (ZT.Yh d0)).bind fun areNames1 =>
 if areNames1=true then
 (VO ports0).bind fun areNames2 =>
 some (.inr (.inr areNames2))
 else
 some (.inr (.inr Bool.false))
 else
 some (.inr (.inr Bool.false))
 else
 some (.inr (.inr Bool.false))
 else
 some (.inr (.inr Bool.false))
 else
 some (.inr (.inr Bool.false))
def VF (d0:ZT) (instances0:List (List UInt8)) (v0:Int):Option (((List (List UInt8))×Int×Unit) ⊕ Bool) :=
 if v0<(↑(List.length (ZT.Instances d0)):Int) then
 (atI (ZT.Instances d0) v0).bind fun x0 =>
 Yf ((List.length instances0+List.length [ZW.Name x0])*(16:Nat)≤(140737488355328:Nat)) <|
 some (.inl (instances0++[ZW.Name x0],IntKind.i64.wrap (v0+(1:Int)),()))
 else
 Yc (fun v=>VE d0 instances0 v.1 v.2.1) (([]:List (List UInt8)),(0:Int),())
def V5 (d0:ZT):Option Bool :=
 Yc (fun v=>VF d0 v.1 v.2.1) (([]:List (List UInt8)),(0:Int),())
def Zv3:Ctr:=D1 (YQ) (.bool) V5
def X6 (list0:List Z4):Option Int :=
 some (↑(List.length list0):Int)
def c127:Ctr:=D1 (.sl (XZ)) (.int .i64) X6
def Xe (list0:List (List UInt8)):Option Int :=
 some (↑(List.length list0):Int)
def Ztq:Ctr:=D1 (.sl (.str)) (.int .i64) Xe
def Xd (d0:ZT) (net0:Int):Option Bool :=
 (Xe (ZT.Yh d0)).bind fun string0 =>
 (YT net0 0 (IntKind.i64.wrap (string0-1))).bind fun within0 =>
 some within0
def ZuL:Ctr:=D2 (YQ) (.int .i64) (.bool) Xd
def XR (net0:Int) (a0:ZT):Option Bool :=
 (Xd a0 net0).bind fun isNet0 =>
 some !isNet0
def c130:Ctr:=D2 (.int .i64) (.ptr (YQ)) (.bool) XR
def YJ (s0:List Int) (f0:ZT×Unit) (v0:Int):Option ((Int×Unit) ⊕ Int) :=
 if v0<(↑(List.length s0):Int) then
 (atI s0 v0).bind fun x0 =>
 (XR x0 f0.fst).bind fun c1_0 =>
 if c1_0=true then
 some (.inr v0)
 else
 some (.inl (IntKind.i64.wrap (v0+1),()))
 else
 some (.inr (-1))
def YB (s0:List Int) (f0:ZT×Unit):Option Int :=
 Yc (fun v=>YJ s0 f0 v.1) ((0:Int),())
def c131:Ctr:=D2 (.sl (.int .i64)) (.fn 165 (.pair (.ptr (YQ)) (.unit))) (.int .i64) YB
def Yu (s0:List Int) (f0:ZT×Unit):Option Bool :=
 (YB s0 f0).bind fun c1_0 =>
 some (Decidable.decide (0≤c1_0))
def Zv4:Ctr:=D2 (.sl (.int .i64)) (.fn 165 (.pair (.ptr (YQ)) (.unit))) (.bool) Yu
def Vx (d0:ZT) (l0:Z7) (x0:ZW):Option Bool :=
 (X6 (Z7.Cells l0)).bind fun Cell0 =>
 (YT (ZW.Cell x0) 0 (IntKind.i64.wrap (Cell0-1))).bind fun within0 =>
 if within0=true then
 (atI (Z7.Cells l0) (ZW.Cell x0)).bind fun x1 =>
 if (↑(List.length (ZW.Yh x0)):Int)=(↑(List.length (Z4.YV x1)):Int) then
 (Yu (ZW.Yh x0) (d0,())).bind fun c1_0 =>
 some !c1_0
 else
 some Bool.false
 else
 some Bool.false
def Zv5:Ctr:=D3 (YQ) (Y9) (Yr) (.bool) Vx
def Zbz (n0:Int):Option Bool :=
 some (!Decidable.decide (n0=1))
def Zv6:Ctr:=D1 (.int .i64) (.bool) Zbz
def Xa (s0:List Int) (v0:Int):Option ((Int×Unit) ⊕ Int) :=
 if v0<(↑(List.length s0):Int) then
 (atI s0 v0).bind fun x0 =>
 (Zbz x0).bind fun c1_0 =>
 if c1_0=true then
 some (.inr v0)
 else
 some (.inl (IntKind.i64.wrap (v0+1),()))
 else
 some (.inr (-1))
def Y1 (s0:List Int) (f0:Unit):Option Int :=
 Yc (fun v=>Xa s0 v.1) ((0:Int),())
def Zv7:Ctr:=D2 (.sl (.int .i64)) (.fn 132 (.unit)) (.int .i64) Y1
def YS (s0:List Int) (f0:Unit):Option Bool :=
 (Y1 s0 ()).bind fun c1_0 =>
 some (Decidable.decide (0≤c1_0))
def Zv8:Ctr:=D2 (.sl (.int .i64)) (.fn 132 (.unit)) (.bool) YS
def Vn (a1:ZT) (v1:Int) (l1:List Int):Option ((Int×(List Int)×Unit) ⊕ ((Int×(List Int)×Unit) ⊕ Bool)) :=
 if v1<(↑(List.length (ZT.Yo a1)):Int) then
 (atI (ZT.Yo a1) v1).bind fun x0 =>
 if Ym.Dir x0=1 then
 (Xd a1 (Ym.Net x0)).bind fun isNet0 =>
 if isNet0=true then
 if Ym.Dir x0=1 then
 (atI l1 (Ym.Net x0)).bind fun x1 =>
 some (.inl (IntKind.i64.wrap (v1+1),List.set l1 (Int.toNat (Ym.Net x0)) (IntKind.i64.wrap (x1+1)),()))
 else
 some (.inl (IntKind.i64.wrap (v1+1),l1,()))
 else
 some (.inr (.inr Bool.false))
 else
 if Ym.Dir x0=2 then
 (Xd a1 (Ym.Net x0)).bind fun isNet0 =>
 if isNet0=true then
 if Ym.Dir x0=1 then
 (atI l1 (Ym.Net x0)).bind fun x1 =>
 some (.inl (IntKind.i64.wrap (v1+1),List.set l1 (Int.toNat (Ym.Net x0)) (IntKind.i64.wrap (x1+1)),()))
 else
 some (.inl (IntKind.i64.wrap (v1+1),l1,()))
 else
 some (.inr (.inr Bool.false))
 else
 some (.inr (.inr Bool.false))
 else
 (YS l1 ()).bind fun c1_0 =>
 some (.inr (.inr !c1_0))
def JI (a0:Z7) (a1:ZT) (v0:Int) (l0:List Int):Option ((Int×(List Int)×Unit) ⊕ Bool) :=
 if v0<(↑(List.length (ZT.Instances a1)):Int) then
 (atI (ZT.Instances a1) v0).bind fun x0 =>
 (Vx a1 a0 x0).bind fun isInstance0 =>
 if isInstance0=true then
 (atI (ZW.Yh x0) (IntKind.i64.wrap ((↑(List.length (ZW.Yh x0)):Int)-1))).bind fun x1 =>
 (atI l0 x1).bind fun x2 =>
 some (.inl (IntKind.i64.wrap (v0+1),List.set l0 (Int.toNat x1) (IntKind.i64.wrap (x2+1)),()))
 else
 some (.inr Bool.false)
 else
 Yc (fun v=>Vn a1 v.1 v.2.1) ((0:Int),l0,())
def ZdR (a0:Z7) (a1:ZT):Option Bool :=
 (Zdd a0).bind fun IsLibrary0 =>
 if IsLibrary0=true then
 (V5 a1).bind fun hasNames0 =>
 if hasNames0=true then
 Yf ((0:Int)≤(↑(List.length (ZT.Yh a1)):Int)) <|
 Yf ((↑(List.length (ZT.Yh a1)):Int)≤(↑(List.length (ZT.Yh a1)):Int)) <|
 Yf ((↑(List.length (ZT.Yh a1)):Int)≤(4611686018427387904:Int)) <|
 Yf ((↑(8:Nat):Int)*(↑(List.length (ZT.Yh a1)):Int)≤(281474976710656:Int)) <|
 Yc (fun v=>JI a0 a1 v.1 v.2.1) ((0:Int),List.replicate (Int.toNat (↑(List.length (ZT.Yh a1)):Int)) (0:Int),())
 else
 some Bool.false
 else
 some Bool.false
def Zv9:Ctr:=D2 (Y9) (YQ) (.bool) ZdR
def Je (v0:Int) (x0:ZW) (list1:List Yw) (v1:Int):Option (((List Yw)×Int×Unit) ⊕ (((List Yw)×Int×Unit) ⊕ List Yw)) :=
 if v1<(↑(List.length (ZW.Yh x0)):Int) then
 (atI (ZW.Yh x0) v1).bind fun x1 =>
 Yf ((List.length list1+List.length [(v0,v1,x1,Decidable.decide (v1=IntKind.i64.wrap ((↑(List.length (ZW.Yh x0)):Int)-(1:Int))),())])*(32:Nat)≤(140737488355328:Nat)) <|
 some (.inl (list1++[(v0,v1,x1,Decidable.decide (v1=IntKind.i64.wrap ((↑(List.length (ZW.Yh x0)):Int)-(1:Int))),())],IntKind.i64.wrap (v1+(1:Int)),()))
 else
 some (.inr (.inl (list1,IntKind.i64.wrap (v0+1),())))
def Jf (d0:ZT) (list1:List Yw) (v1:Int):Option (((List Yw)×Int×Unit) ⊕ (((List Yw)×Int×Unit) ⊕ List Yw)) :=
 if v1<(↑(List.length (ZT.Yo d0)):Int) then
 (atI (ZT.Yo d0) v1).bind fun x0 =>
 Yf ((List.length list1+List.length [((-1:Int),v1,Ym.Net x0,Decidable.decide (Ym.Dir x0=(1:Int)),())])*(32:Nat)≤(140737488355328:Nat)) <|
 some (.inl (list1++[((-1:Int),v1,Ym.Net x0,Decidable.decide (Ym.Dir x0=(1:Int)),())],IntKind.i64.wrap (v1+(1:Int)),()))
 else
 some (.inr (.inr list1))
def Jg (d0:ZT) (list0:List Yw) (v0:Int):Option (((List Yw)×Int×Unit) ⊕ List Yw) :=
 if v0<(↑(List.length (ZT.Instances d0)):Int) then
 (atI (ZT.Instances d0) v0).bind fun x0 =>
 Yc (fun v=>Je v0 x0 v.1 v.2.1) (list0,(0:Int),())
 else
 Yc (fun v=>Jf d0 v.1 v.2.1) (list0,(0:Int),())
def YC (d0:ZT):Option (List Yw) :=
 Yc (fun v=>Jg d0 v.1 v.2.1) (([]:List Yw),(0:Int),())
def c138:Ctr:=⟨[.dat (YQ)],[.own (.ol 106 (.flat (Zl1)))],fun a K=>splitK a fun d0 a=>Xl (YC d0) fun r=>K (r,()) ()⟩
def Zad (w0:Z9) (v0:Int):Option ((Int×Unit) ⊕ Bool) :=
 if v0<(↑(List.length (Z9.Parent w0)):Int) then
 (atI (Z9.Parent w0) v0).bind fun x0 =>
 if v0=0 then
 if x0=(-1) then
 (atI (Z9.Res w0) 0).bind fun x1 =>
 if x1=0 then
 if 0<v0 then
 (YT x0 0 (IntKind.i64.wrap (v0-1))).bind fun within0 =>
 if within0=true then
 some (.inl (IntKind.i64.wrap (v0+1),()))
 else
 some (.inr Bool.false)
 else
 some (.inl (IntKind.i64.wrap (v0+1),()))
 else
 some (.inr Bool.false)
 else
 some (.inr Bool.false)
 else
 if 0<v0 then
 (YT x0 0 (IntKind.i64.wrap (v0-1))).bind fun within0 =>
 if within0=true then
 some (.inl (IntKind.i64.wrap (v0+1),()))
 else
 some (.inr Bool.false)
 else
 some (.inl (IntKind.i64.wrap (v0+1),()))
 else
 some (.inr Bool.true)
def ZbA (w0:Z9):Option Bool :=
 Yc (fun v=>Zad w0 v.1) ((0:Int),())
def c139:Ctr:=D1 (Xr) (.bool) ZbA
def Zek (w0:Z9) (sinks0:Int):Option Bool :=
 (Xm (Z9.Parent w0)).bind fun int64_0 =>
 (YT int64_0 1 8).bind fun within0 =>
 if within0=true then
 (Xm (Z9.Res w0)).bind fun int64_1 =>
 if int64_1=int64_0 then
 (Xm (Z9.Cap w0)).bind fun int64_2 =>
 if int64_2=int64_0 then
 (ZbA w0).bind fun isTree0 =>
 if isTree0=true then
 (Qc (Z9.Res w0) 0 1000).bind fun areWithin0 =>
 if areWithin0=true then
 (Qc (Z9.Cap w0) 0 500).bind fun areWithin1 =>
 if areWithin1=true then
 (Xm (Z9.Ze4 w0)).bind fun int64_3 =>
 if int64_3=sinks0 then
 (Qc (Z9.Ze4 w0) 0 (IntKind.i64.wrap (int64_0-1))).bind fun areWithin2 =>
 some areWithin2
 else
 some Bool.false
 else
 some Bool.false
 else
 some Bool.false
 else
 some Bool.false
 else
 some Bool.false
 else
 some Bool.false
 else
 some Bool.false
def Zvr:Ctr:=D2 (Xr) (.int .i64) (.bool) Zek
def Zcm (b0:ZU) (l0:List Int) (v1:Int):Option ((Int×Unit) ⊕ ((Int×(List Int)×Unit) ⊕ Bool)) :=
 if v1<(↑(List.length (ZU.Ye b0)):Int) then
 (atI (ZU.Ye b0) v1).bind fun x0 =>
 (atI l0 v1).bind fun x1 =>
 (Zek x0 x1).bind fun IsWire0 =>
 if IsWire0=true then
 some (.inl (IntKind.i64.wrap (v1+1),()))
 else
 some (.inr (.inr Bool.false))
 else
 some (.inr (.inr Bool.true))
def Zak (b0:ZU) (places0:List Yw) (v0:Int) (l0:List Int):Option ((Int×(List Int)×Unit) ⊕ Bool) :=
 if v0<(↑(List.length places0):Int) then
 (atI places0 v0).bind fun x0 =>
 if (Yw.drives x0)=true then
 some (.inl (IntKind.i64.wrap (v0+1),l0,()))
 else
 (atI l0 (Yw.net x0)).bind fun x1 =>
 some (.inl (IntKind.i64.wrap (v0+1),List.set l0 (Int.toNat (Yw.net x0)) (IntKind.i64.wrap (x1+1)),()))
 else
 Yc (fun v=>Zcm b0 l0 v.1) ((0:Int),())
def ZeF (b0:ZU):Option Bool :=
 (ZdR (ZU.Library b0) (ZU.Design b0)).bind fun IsDesign0 =>
 if IsDesign0=true then
 if (↑(List.length (ZU.Ye b0)):Int)=(↑(List.length (ZT.Yh (ZU.Design b0))):Int) then
 Yf ((0:Int)≤(↑(List.length (ZU.Ye b0)):Int)) <|
 Yf ((↑(List.length (ZU.Ye b0)):Int)≤(↑(List.length (ZU.Ye b0)):Int)) <|
 Yf ((↑(List.length (ZU.Ye b0)):Int)≤(4611686018427387904:Int)) <|
 Yf ((↑(8:Nat):Int)*(↑(List.length (ZU.Ye b0)):Int)≤(281474976710656:Int)) <|
 (YC (ZU.Design b0)).bind fun places0 =>
 Yc (fun v=>Zak b0 places0 v.1 v.2.1) ((0:Int),List.replicate (Int.toNat (↑(List.length (ZU.Ye b0)):Int)) (0:Int),())
 else
 some Bool.false
 else
 some Bool.false
def c141:Ctr:=D1 (Xg) (.bool) ZeF
def ZdQ (e0:ZY):Option ZY :=
 if ZY.Kind e0=1 then
 some (ZY.Kind e0,ZY.Place e0,ZY.Cell e0,(0:Int),(0:Int),([]:List UInt8),(([]:List Int),([]:List Int),([]:List Int),([]:List Int),()),())
 else
 if ZY.Kind e0=2 then
 some (ZY.Kind e0,ZY.Place e0,ZY.Cell e0,(0:Int),(0:Int),ZY.Name e0,(([]:List Int),([]:List Int),([]:List Int),([]:List Int),()),())
 else
 if ZY.Kind e0=4 then
 some (ZY.Kind e0,ZY.Place e0,(0:Int),ZY.Net e0,ZY.Node e0,([]:List UInt8),(([]:List Int),([]:List Int),([]:List Int),([]:List Int),()),())
 else
 if ZY.Kind e0=5 then
 some (ZY.Kind e0,(0:Int),(0:Int),ZY.Net e0,(0:Int),([]:List UInt8),e0.snd.snd.snd.snd.snd.snd)
 else
 some (ZY.Kind e0,(0:Int),(0:Int),(0:Int),(0:Int),([]:List UInt8),(([]:List Int),([]:List Int),([]:List Int),([]:List Int),()),())
def Zwa:Ctr:=D1 (QZ) (QZ) ZdQ
def Qz (s1_0:List Int) (s2_0:List Int) (v0:Int):Option ((Int×Unit) ⊕ Bool) :=
 if v0<(↑(List.length s1_0):Int) then
 (atI s1_0 v0).bind fun x0 =>
 (atI s2_0 v0).bind fun x1 =>
 if x0=x1 then
 some (.inl (IntKind.i64.wrap (v0+1),()))
 else
 some (.inr Bool.false)
 else
 some (.inr Bool.true)
def Xi (s1_0:List Int) (s2_0:List Int):Option Bool :=
 if (↑(List.length s1_0):Int)=(↑(List.length s2_0):Int) then
 Yc (fun v=>Qz s1_0 s2_0 v.1) ((0:Int),())
 else
 some Bool.false
def c143:Ctr:=D2 (.sl (.int .i64)) (.sl (.int .i64)) (.bool) Xi
def ZdT (a0:Z9) (b0:Z9):Option Bool :=
 (Xi (Z9.Parent a0) (Z9.Parent b0)).bind fun int64_0 =>
 if int64_0=true then
 (Xi (Z9.Res a0) (Z9.Res b0)).bind fun int64_1 =>
 if int64_1=true then
 (Xi (Z9.Cap a0) (Z9.Cap b0)).bind fun int64_2 =>
 if int64_2=true then
 (Xi (Z9.Ze4 a0) (Z9.Ze4 b0)).bind fun int64_3 =>
 some int64_3
 else
 some Bool.false
 else
 some Bool.false
 else
 some Bool.false
def Zwb:Ctr:=D2 (Xr) (Xr) (.bool) ZdT
def Zcn (a0:ZY) (b0:ZY):Option Bool :=
 if ZY.Kind a0=ZY.Kind b0 then
 if ZY.Place a0=ZY.Place b0 then
 if ZY.Cell a0=ZY.Cell b0 then
 if ZY.Net a0=ZY.Net b0 then
 if ZY.Node a0=ZY.Node b0 then
 if ZY.Name a0=ZY.Name b0 then
 (ZdT (ZY.Zc9 a0) (ZY.Zc9 b0)).bind fun sameWire0 =>
 some sameWire0
 else
 some Bool.false
 else
 some Bool.false
 else
 some Bool.false
 else
 some Bool.false
 else
 some Bool.false
 else
 some Bool.false
def c145:Ctr:=D2 (QZ) (QZ) (.bool) Zcn
def Zae (list0:List Yw):Option Int :=
 some (↑(List.length list0):Int)
def c146:Ctr:=D1 (.sl (Zl1)) (.int .i64) Zae
def JH (a0:ZY) (a1:ZU):Option Bool :=
 (YT (ZY.Kind a0) 1 5).bind fun within0 =>
 if within0=true then
 (ZdQ a0).bind fun own0 =>
 (Zcn a0 own0).bind fun sameEdit0 =>
 if sameEdit0=true then
 (YC (ZU.Design a1)).bind fun places0 =>
 (Zae places0).bind fun place0 =>
 (YT (ZY.Place a0) 0 (IntKind.i64.wrap (place0-1))).bind fun within1 =>
 if ZY.Kind a0=1 then
 if ZY.Kind a0=1 then
 if within1=true then
 (X6 (Z7.Cells (ZU.Library a1))).bind fun Cell0 =>
 (YT (ZY.Cell a0) 0 (IntKind.i64.wrap (Cell0-1))).bind fun within2 =>
 some within2
 else
 some Bool.false
 else
 if ZY.Kind a0=4 then
 if within1=true then
 (Xd (ZU.Design a1) (ZY.Net a0)).bind fun isNet0 =>
 if isNet0=true then
 (atI (ZU.Ye a1) (ZY.Net a0)).bind fun x0 =>
 (Xm (Z9.Parent x0)).bind fun int64_0 =>
 (YT (ZY.Node a0) 0 (IntKind.i64.wrap (int64_0-1))).bind fun within2 =>
 some within2
 else
 some Bool.false
 else
 some Bool.false
 else
 if ZY.Kind a0=5 then
 (Xd (ZU.Design a1) (ZY.Net a0)).bind fun isNet0 =>
 some isNet0
 else
 some Bool.true
 else
 if ZY.Kind a0=2 then
 if within1=true then
 (X6 (Z7.Cells (ZU.Library a1))).bind fun Cell0 =>
 (YT (ZY.Cell a0) 0 (IntKind.i64.wrap (Cell0-1))).bind fun within2 =>
 some within2
 else
 some Bool.false
 else
 if ZY.Kind a0=4 then
 if within1=true then
 (Xd (ZU.Design a1) (ZY.Net a0)).bind fun isNet0 =>
 if isNet0=true then
 (atI (ZU.Ye a1) (ZY.Net a0)).bind fun x0 =>
 (Xm (Z9.Parent x0)).bind fun int64_0 =>
 (YT (ZY.Node a0) 0 (IntKind.i64.wrap (int64_0-1))).bind fun within2 =>
 some within2
 else
 some Bool.false
 else
 some Bool.false
 else
 if ZY.Kind a0=5 then
 (Xd (ZU.Design a1) (ZY.Net a0)).bind fun isNet0 =>
 some isNet0
 else
 some Bool.true
 else
 some Bool.false
 else
 some Bool.false
def Zwc:Ctr:=D2 (QZ) (Xg) (.bool) JH
def ZdE (p0:YX) (q0:YX):Option Bool :=
 some (YX.Clock p0 == YX.Clock q0)
def c148:Ctr:=D2 (Zcb) (Zcb) (.bool) ZdE
def Yg (s1_0:List YX) (s2_0:List YX) (v0:Int):Option ((Int×Unit) ⊕ Bool) :=
 if v0<(↑(List.length s1_0):Int) then
 (atI s1_0 v0).bind fun x0 =>
 (atI s2_0 v0).bind fun x1 =>
 (ZdE x0 x1).bind fun c1_0 =>
 if c1_0=true then
 some (.inl (IntKind.i64.wrap (v0+1),()))
 else
 some (.inr Bool.false)
 else
 some (.inr Bool.true)
def Yy (s1_0:List YX) (s2_0:List YX) (eq0:Unit):Option Bool :=
 if (↑(List.length s1_0):Int)=(↑(List.length s2_0):Int) then
 Yc (fun v=>Yg s1_0 s2_0 v.1) ((0:Int),())
 else
 some Bool.false
def Zwd:Ctr:=D3 (.sl (Zcb)) (.sl (Zcb)) (.fn 170 (.unit)) (.bool) Yy
def ZdS (a0:Z4) (b0:Z4):Option Bool :=
 if Z4.Kind a0=Z4.Kind b0 then
 (Yy (Z4.YV a0) (Z4.YV b0) ()).bind fun c1_0 =>
 some c1_0
 else
 some Bool.false
def Zwe:Ctr:=D2 (XZ) (XZ) (.bool) ZdS
def Q9 (c0:Z4):Option Bool :=
 if Z4.Kind c0=1 then
 some (Decidable.decide ((↑(List.length (Z4.YV c0)):Int)=2))
 else
 some Bool.false
def Zvs:Ctr:=D1 (XZ) (.bool) Q9
def Zax (x0:ZW) (a0:List UInt8):Option Bool :=
 some (Decidable.decide (ZW.Name x0=a0))
def c152:Ctr:=D2 (Yr) (.ptr (.str)) (.bool) Zax
def Yt (s0:List ZW) (f0:List UInt8×Unit) (v0:Int):Option ((Int×Unit) ⊕ Int) :=
 if v0<(↑(List.length s0):Int) then
 (atI s0 v0).bind fun x0 =>
 (Zax x0 f0.fst).bind fun c1_0 =>
 if c1_0=true then
 some (.inr v0)
 else
 some (.inl (IntKind.i64.wrap (v0+1),()))
 else
 some (.inr (-1))
def Yl (s0:List ZW) (f0:List UInt8×Unit):Option Int :=
 Yc (fun v=>Yt s0 f0 v.1) ((0:Int),())
def Zwf:Ctr:=D2 (.sl (Yr)) (.fn 174 (.pair (.ptr (.str)) (.unit))) (.int .i64) Yl
def Zaj (d0:ZT) (name0:List UInt8):Option Int :=
 (Yl (ZT.Instances d0) (name0,())).bind fun c1_0 =>
 some c1_0
def c154:Ctr:=D2 (YQ) (.str) (.int .i64) Zaj
def V6 (d0:ZT) (name0:List UInt8):Option Int :=
 (Xb (ZT.Yh d0) name0).bind fun string0 =>
 some string0
def Zwg:Ctr:=D2 (YQ) (.str) (.int .i64) V6
def Vv (a0:ZU):Option Bool :=
 if (↑(List.length (ZT.Instances (ZU.Design a0))):Int)=0 then
 some Bool.false
 else
 (atI (ZT.Instances (ZU.Design a0)) (IntKind.i64.wrap ((↑(List.length (ZT.Instances (ZU.Design a0))):Int)-1))).bind fun x0 =>
 (Xe (ZT.Yh (ZU.Design a0))).bind fun string0 =>
 (atI (Z7.Cells (ZU.Library a0)) (ZW.Cell x0)).bind fun x1 =>
 (Q9 x1).bind fun isBuffer0 =>
 if isBuffer0=true then
 (atI (ZW.Yh x0) 1).bind fun x2 =>
 if x2=IntKind.i64.wrap (string0-1) then
 (atI (ZW.Yh x0) 0).bind fun x3 =>
 if x3=IntKind.i64.wrap (string0-1) then
 some Bool.false
 else
 (atI (ZT.Yh (ZU.Design a0)) (IntKind.i64.wrap (string0-1))).bind fun x4 =>
 if x4=ZW.Name x0 then
 (atI (ZU.Ye a0) (IntKind.i64.wrap (string0-1))).bind fun x5 =>
 if (↑(List.length (Z9.Ze4 x5)):Int)=1 then
 if (↑(List.length (Z9.Parent x5)):Int)=1 then
 (atI (Z9.Cap x5) 0).bind fun x6 =>
 some (Decidable.decide (x6=0))
 else
 some Bool.false
 else
 some Bool.false
 else
 some Bool.false
 else
 some Bool.false
 else
 some Bool.false
def c156:Ctr:=D1 (Xg) (.bool) Vv
def V7 (a0:ZY) (a1:ZU):Option Bool :=
 (YC (ZU.Design a1)).bind fun places0 =>
 if ZY.Kind a0=1 then
 (atI places0 (ZY.Place a0)).bind fun x0 =>
 if 0≤Yw.instance x0 then
 if (Yw.drives x0)=true then
 (atI (ZT.Instances (ZU.Design a1)) (Yw.instance x0)).bind fun x1 =>
 (atI (Z7.Cells (ZU.Library a1)) (ZW.Cell x1)).bind fun x2 =>
 (atI (Z7.Cells (ZU.Library a1)) (ZY.Cell a0)).bind fun x3 =>
 (ZdS x2 x3).bind fun fitsSwap0 =>
 some fitsSwap0
 else
 some Bool.false
 else
 some Bool.false
 else
 if ZY.Kind a0=2 then
 (atI places0 (ZY.Place a0)).bind fun x0 =>
 if (Yw.drives x0)=true then
 some Bool.false
 else
 (atI (Z7.Cells (ZU.Library a1)) (ZY.Cell a0)).bind fun x1 =>
 (Q9 x1).bind fun isBuffer0 =>
 if isBuffer0=true then
 (ZcR (ZY.Name a0)).bind fun isName0 =>
 if isName0=true then
 (Zaj (ZU.Design a1) (ZY.Name a0)).bind fun InstanceNamed0 =>
 if InstanceNamed0<0 then
 (V6 (ZU.Design a1) (ZY.Name a0)).bind fun netNamed0 =>
 some (Decidable.decide (netNamed0<0))
 else
 some Bool.false
 else
 some Bool.false
 else
 some Bool.false
 else
 if ZY.Kind a0=3 then
 (Vv a1).bind fun canUnbuffer0 =>
 some canUnbuffer0
 else
 if ZY.Kind a0=4 then
 (atI places0 (ZY.Place a0)).bind fun x0 =>
 if (Yw.drives x0)=true then
 some Bool.false
 else
 some (!Decidable.decide (Yw.net x0=ZY.Net a0))
 else
 (atI (ZU.Ye a1) (ZY.Net a0)).bind fun x0 =>
 (Xm (Z9.Ze4 x0)).bind fun int64_0 =>
 (Zek (ZY.Zc9 a0) int64_0).bind fun IsWire0 =>
 some IsWire0
def c157:Ctr:=D2 (QZ) (Xg) (.bool) V7
def Zdc (e0:ZY) (b0:ZU):Option Int :=
 (JH e0 b0).bind fun isInRange0 =>
 if isInRange0=true then
 (V7 e0 b0).bind fun isPossible0 =>
 if isPossible0=true then
 if ZY.Kind e0=2 then
 if (↑(List.length (ZT.Instances (ZU.Design b0))):Int)=14 then
 some 3
 else
 if (↑(List.length (ZT.Yh (ZU.Design b0))):Int)=30 then
 some 3
 else
 some 0
 else
 some 0
 else
 some 5
 else
 some 2
def Zwh:Ctr:=D2 (QZ) (Xg) (.int .i64) Zdc
def ZdP (b0:ZU) (e0:ZY):Option Int :=
 (ZeF b0).bind fun IsBlock0 =>
 if IsBlock0=true then
 (Zdc e0 b0).bind fun code0 =>
 some code0
 else
 some 1
def c159:Ctr:=D2 (Xg) (QZ) (.int .i64) ZdP
def Yn (s0:List Int):Option (List Int) :=
 Yf ((List.length (([]:List Int))+List.length s0)*(8:Nat)≤(140737488355328:Nat)) <|
 some (([]:List Int)++s0)
def c160:Ctr:=⟨[.dat (.sl (.int .i64))],[.own (.ol 2 (.flat (.int .i64)))],fun a K=>splitK a fun s0 a=>Xl (Yn s0) fun r=>K (r,()) ()⟩
def Vi (a0:ZY) (a1:ZU):Option (List Int) :=
 if ZY.Kind a0=1 then
 (YC (ZU.Design a1)).bind fun places0 =>
 (atI places0 (ZY.Place a0)).bind fun x0 =>
 (atI (ZT.Instances (ZU.Design a1)) (Yw.instance x0)).bind fun x1 =>
 (Yn (ZW.Yh x1)).bind fun int64_0 =>
 (ZqD int64_0).bind fun srtO0 =>
 (Zf8 srtO0).bind fun cmpctO0 =>
 some cmpctO0
 else
 if ZY.Kind a0=2 then
 (YC (ZU.Design a1)).bind fun places0 =>
 (atI places0 (ZY.Place a0)).bind fun x0 =>
 (Xe (ZT.Yh (ZU.Design a1))).bind fun string0 =>
 (ZqD [Yw.net x0,string0]).bind fun srtO0 =>
 (Zf8 srtO0).bind fun cmpctO0 =>
 some cmpctO0
 else
 if ZY.Kind a0=3 then
 (atI (ZT.Instances (ZU.Design a1)) (IntKind.i64.wrap ((↑(List.length (ZT.Instances (ZU.Design a1))):Int)-1))).bind fun x0 =>
 (atI (ZW.Yh x0) 0).bind fun x1 =>
 (ZqD [x1]).bind fun srtO0 =>
 (Zf8 srtO0).bind fun cmpctO0 =>
 some cmpctO0
 else
 if ZY.Kind a0=4 then
 (YC (ZU.Design a1)).bind fun places0 =>
 (atI places0 (ZY.Place a0)).bind fun x0 =>
 (ZqD [Yw.net x0,ZY.Net a0]).bind fun srtO0 =>
 (Zf8 srtO0).bind fun cmpctO0 =>
 some cmpctO0
 else
 if ZY.Kind a0=5 then
 (ZqD [ZY.Net a0]).bind fun srtO0 =>
 (Zf8 srtO0).bind fun cmpctO0 =>
 some cmpctO0
 else
 (ZqD (([]:List Int))).bind fun srtO0 =>
 (Zf8 (([]:List Int))).bind fun cmpctO0 =>
 some cmpctO0
def Zwi:Ctr:=⟨[.dat (QZ),.dat (Xg)],[.own (.ol 2 (.flat (.int .i64)))],fun a K=>splitK a fun a0 a=>splitK a fun a1 a=>Xl (Vi a0 a1) fun r=>K (r,()) ()⟩
def Qy (s0:List YX):Option (List YX) :=
 Yf ((List.length (([]:List (List UInt8×Int×Int×Bool×Unit)))+List.length s0)*(40:Nat)≤(140737488355328:Nat)) <|
 some (([]:List (List UInt8×Int×Int×Bool×Unit))++s0)
def c162:Ctr:=⟨[.dat (.sl (Zcb))],[.own (.ol 168 (.flat (Zcb)))],fun a K=>splitK a fun s0 a=>Xl (Qy s0) fun r=>K (r,()) ()⟩
def Qx (s0:List Yi):Option (List Yi) :=
 Yf ((List.length (([]:List (Int×Int×Int×Int×List Yb×List Yb×Unit)))+List.length s0)*(80:Nat)≤(140737488355328:Nat)) <|
 some (([]:List (Int×Int×Int×Int×List Yb×List Yb×Unit))++s0)
def Zwj:Ctr:=⟨[.dat (.sl (Zdz))],[.own (.ol 201 (.flat (Zdz)))],fun a K=>splitK a fun s0 a=>Xl (Qx s0) fun r=>K (r,()) ()⟩
def Vy (list0:List Yb) (out0:List Yb) (v0:Int):Option (((List Yb)×Int×Unit) ⊕ List Yb) :=
 if v0<(↑(List.length list0):Int) then
 (atI list0 v0).bind fun x0 =>
 (Yn (Yb.Ze5 x0)).bind fun int64_0 =>
 (Yn (Yb.Loads x0)).bind fun int64_1 =>
 (Yn (Yb.Values x0)).bind fun int64_2 =>
 Yf ((List.length out0+List.length [(int64_0,int64_1,int64_2,())])*(72:Nat)≤(140737488355328:Nat)) <|
 some (.inl (out0++[(int64_0,int64_1,int64_2,())],IntKind.i64.wrap (v0+(1:Int)),()))
 else
 some (.inr out0)
def JX (list0:List Yb):Option (List Yb) :=
 Yc (fun v=>Vy list0 v.1 v.2.1) (([]:List Yb),(0:Int),())
def c164:Ctr:=⟨[.dat (.sl (Xc))],[.own (.ol 241 (Zds))],fun a K=>splitK a fun list0 a=>Xl (JX list0) fun r=>K (r,()) ()⟩
def Qg (v0:Int) (c0:List Z4) (x0:Z4) (Pin0:List YX) (int64_0:List Int) (Arc0:List Yi) (v1:Int) (l1:List Yi×Int):Option ((Int×(List Yi×Int)×Unit) ⊕ ((Int×(List Z4)×Unit) ⊕ Z7)) :=
 if v1<(↑(List.length Arc0):Int) then
 (atI l1.fst v1).bind fun x1 =>
 Yf (l1.snd≤v1) <|
 (JX (Yi.Delay x1)).bind fun cloneTables0 =>
 (JX (Yi.Zhn x1)).bind fun cloneTables1 =>
 Yf (v1=l1.snd) <|
 (atI l1.fst l1.snd).bind fun x2 =>
 some (.inl (IntKind.i64.wrap (v1+1),(List.set l1.fst (Int.toNat l1.snd) (Yi.Kind x2,Yi.From x2,Yi.To x2,Yi.Zbn x2,cloneTables0,cloneTables1,()),l1.snd+1),()))
 else
 Yf (l1.snd=(↑(List.length l1.fst):Int)) <|
 Yf ((List.length c0+List.length [(Z4.Name x0,Z4.Kind x0,Pin0,l1.fst,int64_0,x0.snd.snd.snd.snd.snd)])*(112:Nat)≤(140737488355328:Nat)) <|
 some (.inr (.inl (IntKind.i64.wrap (v0+(1:Int)),c0++[(Z4.Name x0,Z4.Kind x0,Pin0,l1.fst,int64_0,x0.snd.snd.snd.snd.snd)],())))
def XC (l0:Z7) (v0:Int) (c0:List Z4):Option ((Int×(List Z4)×Unit) ⊕ Z7) :=
 if v0<(↑(List.length (Z7.Cells l0)):Int) then
 (atI (Z7.Cells l0) v0).bind fun x0 =>
 (Qy (Z4.YV x0)).bind fun Pin0 =>
 (Yn (Z4.Truth x0)).bind fun int64_0 =>
 (Qx (Z4.JB x0)).bind fun Arc0 =>
 Yc (fun v=>Qg v0 c0 x0 Pin0 int64_0 Arc0 v.1 v.2.1) ((0:Int),(Arc0,(0:Int)),())
 else
 some (.inr (c0,()))
def Vk (l0:Z7):Option Z7 :=
 Yc (fun v=>XC l0 v.1 v.2.1) ((0:Int),([]:List Z4),())
def Zwk:Ctr:=⟨[.dat (Y9)],[.own (Zil)],fun a K=>splitK a fun l0 a=>Xl (Vk l0) fun r=>K (r,()) ()⟩
def Xx (s0:List ZW):Option (List ZW) :=
 Yf ((List.length (([]:List (List UInt8×Int×List Int×Unit)))+List.length s0)*(48:Nat)≤(140737488355328:Nat)) <|
 some (([]:List (List UInt8×Int×List Int×Unit))++s0)
def Zwl:Ctr:=⟨[.dat (.sl (Yr))],[.own (.ol 134 (.flat (Yr)))],fun a K=>splitK a fun s0 a=>Xl (Xx s0) fun r=>K (r,()) ()⟩
def Vq (s0:List (List UInt8)):Option (List (List UInt8)) :=
 Yf ((List.length (([]:List (List UInt8)))+List.length s0)*(16:Nat)≤(140737488355328:Nat)) <|
 some (([]:List (List UInt8))++s0)
def c167:Ctr:=⟨[.dat (.sl (.str))],[.own (.ol 9 (.flat (.str)))],fun a K=>splitK a fun s0 a=>Xl (Vq s0) fun r=>K (r,()) ()⟩
def Qj (s0:List Ym):Option (List Ym) :=
 Yf ((List.length (([]:List (List UInt8×Int×Int×Unit)))+List.length s0)*(32:Nat)≤(140737488355328:Nat)) <|
 some (([]:List (List UInt8×Int×Int×Unit))++s0)
def c168:Ctr:=⟨[.dat (.sl (VX))],[.own (.ol 138 (.flat (VX)))],fun a K=>splitK a fun s0 a=>Xl (Qj s0) fun r=>K (r,()) ()⟩
def Qf (Instance0:List ZW) (string0:List (List UInt8)) (Port0:List Ym) (v0:Int) (l0:List ZW×Int):Option ((Int×(List ZW×Int)×Unit) ⊕ ZT) :=
 if v0<(↑(List.length Instance0):Int) then
 (atI l0.fst v0).bind fun x0 =>
 Yf (l0.snd≤v0) <|
 (Yn (ZW.Yh x0)).bind fun int64_0 =>
 Yf (v0=l0.snd) <|
 (atI l0.fst l0.snd).bind fun x1 =>
 some (.inl (IntKind.i64.wrap (v0+1),(List.set l0.fst (Int.toNat l0.snd) (ZW.Name x1,ZW.Cell x1,int64_0,()),l0.snd+1),()))
 else
 Yf (l0.snd=(↑(List.length l0.fst):Int)) <|
 some (.inr (l0.fst,string0,Port0,()))
def Vh (d0:ZT):Option ZT :=
 (Xx (ZT.Instances d0)).bind fun Instance0 =>
 (Vq (ZT.Yh d0)).bind fun string0 =>
 (Qj (ZT.Yo d0)).bind fun Port0 =>
 Yc (fun v=>Qf Instance0 string0 Port0 v.1 v.2.1) ((0:Int),(Instance0,(0:Int)),())
def Zwm:Ctr:=⟨[.dat (YQ)],[.own (Zjc)],fun a K=>splitK a fun d0 a=>Xl (Vh d0) fun r=>K (r,()) ()⟩
def Zay (w0:Z9):Option Z9 :=
 (Yn (Z9.Parent w0)).bind fun int64_0 =>
 (Yn (Z9.Res w0)).bind fun int64_1 =>
 (Yn (Z9.Cap w0)).bind fun int64_2 =>
 (Yn (Z9.Ze4 w0)).bind fun int64_3 =>
 some (int64_0,int64_1,int64_2,int64_3,())
def Zvt:Ctr:=⟨[.dat (Xr)],[.own (Zg8)],fun a K=>splitK a fun w0 a=>Xl (Zay w0) fun r=>K (r,()) ()⟩
def Vw (b0:ZU) (cloneLibrary0:Z7) (clone0:ZT) (v0:Int) (c0:List Z9):Option ((Int×(List Z9)×Unit) ⊕ ZU) :=
 if v0<(↑(List.length (ZU.Ye b0)):Int) then
 (atI (ZU.Ye b0) v0).bind fun x0 =>
 (Zay x0).bind fun clone1 =>
 Yf ((List.length c0+List.length [clone1])*(96:Nat)≤(140737488355328:Nat)) <|
 some (.inl (IntKind.i64.wrap (v0+(1:Int)),c0++[clone1],()))
 else
 some (.inr (cloneLibrary0,clone0,c0,()))
def Zbx (b0:ZU):Option ZU :=
 (Vk (ZU.Library b0)).bind fun cloneLibrary0 =>
 (Vh (ZU.Design b0)).bind fun clone0 =>
 Yc (fun v=>Vw b0 cloneLibrary0 clone0 v.1 v.2.1) ((0:Int),([]:List Z9),())
def c171:Ctr:=⟨[.dat (Xg)],[.own (ZdK)],fun a K=>splitK a fun b0 a=>Xl (Zbx b0) fun r=>K (r,()) ()⟩
def Jc (b0:ZU) (places0:List Yw) (v0:Int) (m0:List ((Int×Int×Unit)×Int)) (l0:List Int):Option ((Int×(List ((Int×Int×Unit)×Int))×(List Int)×Unit) ⊕ List (VB×Int)) :=
 if v0<(↑(List.length places0):Int) then
 (atI places0 v0).bind fun x0 =>
 if (Yw.drives x0)=true then
 some (.inl (IntKind.i64.wrap (v0+1),m0,l0,()))
 else
 (atI (ZU.Ye b0) (Yw.net x0)).bind fun x1 =>
 (atI l0 (Yw.net x0)).bind fun x2 =>
 (atI (Z9.Ze4 x1) x2).bind fun x3 =>
 some (.inl (IntKind.i64.wrap (v0+1),Zj5 Zpc.ty Zpc.ety m0 (Yw.instance x0,Yw.pin x0,()) x3,List.set l0 (Int.toNat (Yw.net x0)) (IntKind.i64.wrap (x2+1)),()))
 else
 some (.inr m0)
def QO (b0:ZU):Option (List (VB×Int)) :=
 Yf ((0:Int)≤(↑(List.length (ZU.Ye b0)):Int)) <|
 Yf ((↑(List.length (ZU.Ye b0)):Int)≤(↑(List.length (ZU.Ye b0)):Int)) <|
 Yf ((↑(List.length (ZU.Ye b0)):Int)≤(4611686018427387904:Int)) <|
 Yf ((↑(8:Nat):Int)*(↑(List.length (ZU.Ye b0)):Int)≤(281474976710656:Int)) <|
 (YC (ZU.Design b0)).bind fun places0 =>
 Yc (fun v=>Jc b0 places0 v.1 v.2.1 v.2.2.1) ((0:Int),([]:List ((Int×Int×Unit)×Int)),List.replicate (Int.toNat (↑(List.length (ZU.Ye b0)):Int)) (0:Int),())
def ZuM:Ctr:=⟨[.dat (Xg)],[.own (.mp (ZaL) (.int .i64))],fun a K=>splitK a fun b0 a=>Xl (QO b0) fun r=>K (r,()) ()⟩
def V3 (list0:List ZW):Option Int :=
 some (↑(List.length list0):Int)
def c173:Ctr:=D1 (.sl (Yr)) (.int .i64) V3
def Vg (b0:ZU) (key0:VB) (net0:Int):Option ZU :=
 if VB.instance key0<0 then
 (atI (ZT.Yo (ZU.Design b0)) (VB.pin key0)).bind fun x0 =>
 some (ZU.Library b0,(ZT.Instances (ZU.Design b0),ZT.Yh (ZU.Design b0),List.set (ZT.Yo (ZU.Design b0)) (Int.toNat (VB.pin key0)) (Ym.Name x0,Ym.Dir x0,net0,()),()),b0.snd.snd)
 else
 (atI (ZT.Instances (ZU.Design b0)) (VB.instance key0)).bind fun x0 =>
 (atI x0.snd.snd.fst (VB.pin key0)).bind fun x1 =>
 some (ZU.Library b0,(List.set (ZT.Instances (ZU.Design b0)) (Int.toNat (VB.instance key0)) (x0.fst,x0.snd.fst,List.set x0.snd.snd.fst (Int.toNat (VB.pin key0)) net0,()),(ZU.Design b0).snd),b0.snd.snd)
def ZuN:Ctr:=⟨[.io (ZdK),.dat (ZaL),.dat (.int .i64)],[],fun a K=>splitK a fun b0 a=>splitK a fun key0 a=>splitK a fun net0 a=>Xl (Vg b0 key0 net0) fun r=>K () (r,())⟩
def Jb (b0:ZU) (nodes0:List (VB×Int)) (places0:List Yw) (v1:Int) (l1:List (List Int×List Int×List Int×List Int×Unit)):Option ((Int×(List (List Int×List Int×List Int×List Int×Unit))×Unit) ⊕ ((Int×(List (List Int×List Int×List Int×List Int×Unit))×Unit) ⊕ ZU)) :=
 if v1<(↑(List.length places0):Int) then
 (atI places0 v1).bind fun x0 =>
 if (Yw.drives x0)=true then
 some (.inl (IntKind.i64.wrap (v1+1),l1,()))
 else
 (atI l1 (Yw.net x0)).bind fun x1 =>
 Yf ((List.length x1.snd.snd.snd.fst+List.length [Option.getD (ZgY ZaL (Ty.int IntKind.i64) nodes0 (Yw.instance x0,Yw.pin x0,())) (0:Int)])*(8:Nat)≤(140737488355328:Nat)) <|
 some (.inl (IntKind.i64.wrap (v1+(1:Int)),List.set l1 (Int.toNat (Yw.net x0)) (x1.fst,x1.snd.fst,x1.snd.snd.fst,x1.snd.snd.snd.fst++[Option.getD (ZgY ZaL (Ty.int IntKind.i64) nodes0 (Yw.instance x0,Yw.pin x0,())) (0:Int)],()),()))
 else
 some (.inr (.inr (ZU.Library b0,ZU.Design b0,l1,())))
def QN (b0:ZU) (nodes0:List (VB×Int)) (v0:Int) (l0:List (List Int×List Int×List Int×List Int×Unit)):Option ((Int×(List (List Int×List Int×List Int×List Int×Unit))×Unit) ⊕ ZU) :=
 if v0<(↑(List.length (ZU.Ye b0)):Int) then
 (atI l0 v0).bind fun x0 =>
 some (.inl (IntKind.i64.wrap (v0+(1:Int)),List.set l0 (Int.toNat v0) (x0.fst,x0.snd.fst,x0.snd.snd.fst,([]:List Int),()),()))
 else
 (YC (ZU.Design b0)).bind fun places0 =>
 Yc (fun v=>Jb b0 nodes0 places0 v.1 v.2.1) ((0:Int),l0,())
def Qe (b0:ZU) (nodes0:List (VB×Int)):Option ZU :=
 Yc (fun v=>QN b0 nodes0 v.1 v.2.1) ((0:Int),ZU.Ye b0,())
def c175:Ctr:=⟨[.io (ZdK),.dat (.mp (ZaL) (.int .i64))],[],fun a K=>splitK a fun b0 a=>splitK a fun nodes0 a=>Xl (Qe b0 nodes0) fun r=>K () (r,())⟩
def ZaS (a0:ZU) (a1:ZY):Option ZU :=
 (QO a0).bind fun nodesOf0 =>
 (YC (ZU.Design a0)).bind fun places0 =>
 (atI places0 (ZY.Place a1)).bind fun x0 =>
 (Xe (ZT.Yh (ZU.Design a0))).bind fun string0 =>
 (V3 (ZT.Instances (ZU.Design a0))).bind fun Instance0 =>
 Yf ((List.length (ZT.Instances (ZU.Design a0))+List.length [(ZY.Name a1,ZY.Cell a1,[Yw.net x0,string0],())])*(48:Nat)≤(140737488355328:Nat)) <|
 Yf ((List.length (ZT.Yh (ZU.Design a0))+List.length [ZY.Name a1])*(16:Nat)≤(140737488355328:Nat)) <|
 Yf ((List.length (ZU.Ye a0)+List.length [([(-1:Int)],[(0:Int)],[(0:Int)],([]:List Int),())])*(96:Nat)≤(140737488355328:Nat)) <|
 (Vg (ZU.Library a0,(ZT.Instances (ZU.Design a0)++[(ZY.Name a1,ZY.Cell a1,[Yw.net x0,string0],())],ZT.Yh (ZU.Design a0)++[ZY.Name a1],(ZU.Design a0).snd.snd),ZU.Ye a0++[([(-1:Int)],[(0:Int)],[(0:Int)],([]:List Int),())],()) (Yw.instance x0,Yw.pin x0,()) string0).bind fun setNet0 =>
 (Qe setNet0 (Zj5 ZaL (Ty.int IntKind.i64) (Zj5 ZaL (Ty.int IntKind.i64) nodesOf0 (Instance0,0,()) (Option.getD (ZgY ZaL (Ty.int IntKind.i64) nodesOf0 (Yw.instance x0,Yw.pin x0,())) 0)) (Yw.instance x0,Yw.pin x0,()) 0)).bind fun connect0 =>
 some connect0
def Zwn:Ctr:=⟨[.io (ZdK),.dat (QZ)],[],fun a K=>splitK a fun a0 a=>splitK a fun a1 a=>Xl (ZaS a0 a1) fun r=>K () (r,())⟩
def JG (net0:Int) (places0:List Yw) (list0:List Int) (v0:Int):Option (((List Int)×Int×Unit) ⊕ List Int) :=
 if v0<(↑(List.length places0):Int) then
 (atI places0 v0).bind fun x0 =>
 if Yw.net x0=net0 then
 if (Yw.drives x0)=true then
 some (.inl (list0,IntKind.i64.wrap (v0+1),()))
 else
 Yf ((List.length list0+List.length [v0])*(8:Nat)≤(140737488355328:Nat)) <|
 some (.inl (list0++[v0],IntKind.i64.wrap (v0+(1:Int)),()))
 else
 some (.inl (list0,IntKind.i64.wrap (v0+1),()))
 else
 some (.inr list0)
def ZaU (d0:ZT) (net0:Int):Option (List Int) :=
 (YC d0).bind fun places0 =>
 Yc (fun v=>JG net0 places0 v.1 v.2.1) (([]:List Int),(0:Int),())
def Zwo:Ctr:=⟨[.dat (YQ),.dat (.int .i64)],[.own (.ol 2 (.flat (.int .i64)))],fun a K=>splitK a fun d0 a=>splitK a fun net0 a=>Xl (ZaU d0 net0) fun r=>K (r,()) ()⟩
def JE (a0:ZU):Option (VB×ZU) :=
 (QO a0).bind fun nodesOf0 =>
 (YC (ZU.Design a0)).bind fun places0 =>
 (Xe (ZT.Yh (ZU.Design a0))).bind fun string0 =>
 (ZaU (ZU.Design a0) (IntKind.i64.wrap (string0-1))).bind fun sinks0 =>
 (atI sinks0 0).bind fun x0 =>
 (atI places0 x0).bind fun x1 =>
 (atI (ZT.Instances (ZU.Design a0)) (IntKind.i64.wrap ((↑(List.length (ZT.Instances (ZU.Design a0))):Int)-1))).bind fun x2 =>
 (atI x2.snd.snd.fst 0).bind fun x3 =>
 (Vg (ZU.Library a0,(List.set (ZT.Instances (ZU.Design a0)) (Int.toNat (IntKind.i64.wrap ((↑(List.length (ZT.Instances (ZU.Design a0))):Int)-1))) x2,(ZU.Design a0).snd),a0.snd.snd) (Yw.instance x1,Yw.pin x1,()) x3).bind fun setNet0 =>
 Yf ((0:Int)≤IntKind.i64.wrap ((↑(List.length (ZT.Instances (ZU.Design a0))):Int)-(1:Int))) <|
 Yf (IntKind.i64.wrap ((↑(List.length (ZT.Instances (ZU.Design a0))):Int)-(1:Int))≤(↑(List.length (ZT.Instances (ZU.Design setNet0))):Int)) <|
 Yf ((0:Int)≤IntKind.i64.wrap ((↑(List.length (ZT.Yh (ZU.Design setNet0))):Int)-(1:Int))) <|
 Yf (IntKind.i64.wrap ((↑(List.length (ZT.Yh (ZU.Design setNet0))):Int)-(1:Int))≤(↑(List.length (ZT.Yh (ZU.Design setNet0))):Int)) <|
 Yf ((0:Int)≤IntKind.i64.wrap ((↑(List.length (ZU.Ye setNet0)):Int)-(1:Int))) <|
 Yf (IntKind.i64.wrap ((↑(List.length (ZU.Ye setNet0)):Int)-(1:Int))≤(↑(List.length (ZU.Ye setNet0)):Int)) <|
 (Qe (ZU.Library setNet0,(List.take (Int.toNat (IntKind.i64.wrap ((↑(List.length (ZT.Instances (ZU.Design a0))):Int)-1))-Int.toNat 0) (List.drop (Int.toNat 0) (ZT.Instances (ZU.Design setNet0))),List.take (Int.toNat (IntKind.i64.wrap ((↑(List.length (ZT.Yh (ZU.Design setNet0))):Int)-1))-Int.toNat 0) (List.drop (Int.toNat 0) (ZT.Yh (ZU.Design setNet0))),(ZU.Design setNet0).snd.snd),List.take (Int.toNat (IntKind.i64.wrap ((↑(List.length (ZU.Ye setNet0)):Int)-1))-Int.toNat 0) (List.drop (Int.toNat 0) (ZU.Ye setNet0)),()) (Zj5 ZaL (Ty.int IntKind.i64) nodesOf0 (Yw.instance x1,Yw.pin x1,()) (Option.getD (ZgY ZaL (Ty.int IntKind.i64) nodesOf0 (IntKind.i64.wrap ((↑(List.length (ZT.Instances (ZU.Design a0))):Int)-1),0,())) 0))).bind fun connect0 =>
 some ((Yw.instance x1,Yw.pin x1,()),connect0)
def Zwp:Ctr:=⟨[.io (ZdK)],[.dat (ZaL)],fun a K=>splitK a fun a0 a=>Xl (JE a0) fun r=>K (r.1,()) (r.2,())⟩
def Zaw (a0:ZY) (a1:ZU):Option ZU :=
 (Zbx a1).bind fun clone0 =>
 if ZY.Kind a0=1 then
 (YC (ZU.Design a1)).bind fun places0 =>
 (atI places0 (ZY.Place a0)).bind fun x0 =>
 (atI (ZT.Instances (ZU.Design clone0)) (Yw.instance x0)).bind fun x1 =>
 some (ZU.Library clone0,(List.set (ZT.Instances (ZU.Design clone0)) (Int.toNat (Yw.instance x0)) (x1.fst,ZY.Cell a0,x1.snd.snd),(ZU.Design clone0).snd),clone0.snd.snd)
 else
 if ZY.Kind a0=2 then
 (ZaS clone0 a0).bind fun buffer0 =>
 some buffer0
 else
 if ZY.Kind a0=3 then
 (JE clone0).bind fun unbuffer0 =>
 some unbuffer0.snd
 else
 if ZY.Kind a0=4 then
 (QO clone0).bind fun nodesOf0 =>
 (YC (ZU.Design clone0)).bind fun places0 =>
 (atI places0 (ZY.Place a0)).bind fun x0 =>
 (Vg clone0 (Yw.instance x0,Yw.pin x0,()) (ZY.Net a0)).bind fun setNet0 =>
 (Qe setNet0 (Zj5 ZaL (Ty.int IntKind.i64) nodesOf0 (Yw.instance x0,Yw.pin x0,()) (ZY.Node a0))).bind fun connect0 =>
 some connect0
 else
 if ZY.Kind a0=5 then
 (Zay (ZY.Zc9 a0)).bind fun clone1 =>
 (atI (ZU.Ye clone0) (ZY.Net a0)).bind fun x0 =>
 some (ZU.Library clone0,ZU.Design clone0,List.set (ZU.Ye clone0) (Int.toNat (ZY.Net a0)) clone1,())
 else
 some clone0
def Zwq:Ctr:=⟨[.dat (QZ),.dat (Xg)],[.own (ZdK)],fun a K=>splitK a fun a0 a=>splitK a fun a1 a=>Xl (Zaw a0 a1) fun r=>K (r,()) ()⟩
def Y8 (s0:List Int) (v0:Int) (v1:Int):Option ((Int×Unit) ⊕ Int) :=
 if v1<(↑(List.length s0):Int) then
 (atI s0 v1).bind fun x0 =>
 if v0=x0 then
 some (.inr v1)
 else
 some (.inl (IntKind.i64.wrap (v1+1),()))
 else
 some (.inr (-1))
def XU (s0:List Int) (v0:Int):Option Int :=
 Yc (fun v=>Y8 s0 v0 v.1) ((0:Int),())
def Zwr:Ctr:=D2 (.sl (.int .i64)) (.int .i64) (.int .i64) XU
def Xj (s0:List Int) (v0:Int):Option Bool :=
 (XU s0 v0).bind fun int64_0 =>
 some (Decidable.decide (0≤int64_0))
def Zws:Ctr:=D2 (.sl (.int .i64)) (.int .i64) (.bool) Xj
def QI (touched0:List Int) (places0:List Yw) (list0:List Int) (v0:Int):Option (((List Int)×Int×Unit) ⊕ List Int) :=
 if v0<(↑(List.length places0):Int) then
 (atI places0 v0).bind fun x0 =>
 (Xj touched0 (Yw.net x0)).bind fun int64_0 =>
 if int64_0=true then
 Yf ((List.length list0+List.length [IntKind.i64.wrap ((2:Int)*v0),IntKind.i64.wrap (IntKind.i64.wrap ((2:Int)*v0)+(1:Int))])*(8:Nat)≤(140737488355328:Nat)) <|
 some (.inl (list0++[IntKind.i64.wrap ((2:Int)*v0),IntKind.i64.wrap (IntKind.i64.wrap ((2:Int)*v0)+(1:Int))],IntKind.i64.wrap (v0+(1:Int)),()))
 else
 some (.inl (list0,IntKind.i64.wrap (v0+1),()))
 else
 some (.inr list0)
def Ji (e0:ZY) (b0:ZU):Option (List Int) :=
 (Vi e0 b0).bind fun touched0 =>
 (Zaw e0 b0).bind fun apply0 =>
 (YC (ZU.Design apply0)).bind fun places0 =>
 Yc (fun v=>QI touched0 places0 v.1 v.2.1) (([]:List Int),(0:Int),())
def c182:Ctr:=⟨[.dat (QZ),.dat (Xg)],[.own (.ol 2 (.flat (.int .i64)))],fun a K=>splitK a fun e0 a=>splitK a fun b0 a=>Xl (Ji e0 b0) fun r=>K (r,()) ()⟩
def Jh (b0:ZU) (e0:ZY):Option ((List Int)×Int) :=
 (ZdP b0 e0).bind fun EditCode0 =>
 if EditCode0=0 then
 (Ji e0 b0).bind fun dirty0 =>
 some (dirty0,0)
 else
 some (([]:List Int),EditCode0)
def c183:Ctr:=⟨[.dat (Xg),.dat (QZ)],[.own (.ol 2 (.flat (.int .i64))),.dat (.int .i64)],fun a K=>splitK a fun b0 a=>splitK a fun e0 a=>Xl (Jh b0 e0) fun r=>K (r.1,r.2,()) ()⟩
def ZhU (a0:List Int) (b0:List Int) (i0:Int):Option ((Int×Unit) ⊕ Bool) :=
 if i0<(↑(List.length a0):Int) then
 (atI a0 i0).bind fun x0 =>
 (atI b0 i0).bind fun x1 =>
 if x0=x1 then
 some (.inl (IntKind.i64.wrap (i0+1),()))
 else
 some (.inr Bool.false)
 else
 some (.inr Bool.true)
def XD (a0:List Int) (b0:List Int):Option Bool :=
 if (↑(List.length a0):Int)=(↑(List.length b0):Int) then
 Yc (fun v=>ZhU a0 b0 v.1) ((0:Int),())
 else
 some Bool.false
def Ztr:Ctr:=D2 (.sl (.int .i64)) (.sl (.int .i64)) (.bool) XD
def Zfo (a0:YX) (b0:YX):Option Bool :=
 if YX.Name a0=YX.Name b0 then
 if YX.Dir a0=YX.Dir b0 then
 if YX.Cap a0=YX.Cap b0 then
 if (YX.Clock a0 == YX.Clock b0)=true then
 some Bool.true
 else
 some Bool.false
 else
 some Bool.false
 else
 some Bool.false
 else
 some Bool.false
def Zwt:Ctr:=D2 (Zcb) (Zcb) (.bool) Zfo
def Zjr (a0:List YX) (b0:List YX) (i0:Int):Option ((Int×Unit) ⊕ Bool) :=
 if i0<(↑(List.length a0):Int) then
 (atI a0 i0).bind fun x0 =>
 (atI b0 i0).bind fun x1 =>
 (Zfo x0 x1).bind fun eqPin0 =>
 if eqPin0=true then
 some (.inl (IntKind.i64.wrap (i0+1),()))
 else
 some (.inr Bool.false)
 else
 some (.inr Bool.true)
def ZfL (a0:List YX) (b0:List YX):Option Bool :=
 if (↑(List.length a0):Int)=(↑(List.length b0):Int) then
 Yc (fun v=>Zjr a0 b0 v.1) ((0:Int),())
 else
 some Bool.false
def Zwu:Ctr:=D2 (.sl (Zcb)) (.sl (Zcb)) (.bool) ZfL
def Zdt (a0:Yb) (b0:Yb):Option Bool :=
 (XD (Yb.Ze5 a0) (Yb.Ze5 b0)).bind fun eqInt64S0 =>
 if eqInt64S0=true then
 (XD (Yb.Loads a0) (Yb.Loads b0)).bind fun eqInt64S1 =>
 if eqInt64S1=true then
 (XD (Yb.Values a0) (Yb.Values b0)).bind fun eqInt64S2 =>
 if eqInt64S2=true then
 some Bool.true
 else
 some Bool.false
 else
 some Bool.false
 else
 some Bool.false
def Zwv:Ctr:=D2 (Xc) (Xc) (.bool) Zdt
def ZhV (a0:List Yb) (b0:List Yb) (i0:Int):Option ((Int×Unit) ⊕ Bool) :=
 if i0<(↑(List.length a0):Int) then
 (atI a0 i0).bind fun x0 =>
 (atI b0 i0).bind fun x1 =>
 (Zdt x0 x1).bind fun eqTable0 =>
 if eqTable0=true then
 some (.inl (IntKind.i64.wrap (i0+1),()))
 else
 some (.inr Bool.false)
 else
 some (.inr Bool.true)
def Zcp (a0:List Yb) (b0:List Yb):Option Bool :=
 if (↑(List.length a0):Int)=(↑(List.length b0):Int) then
 Yc (fun v=>ZhV a0 b0 v.1) ((0:Int),())
 else
 some Bool.false
def Zww:Ctr:=D2 (.sl (Xc)) (.sl (Xc)) (.bool) Zcp
def Zfn (a0:Yi) (b0:Yi):Option Bool :=
 if Yi.Kind a0=Yi.Kind b0 then
 if Yi.From a0=Yi.From b0 then
 if Yi.To a0=Yi.To b0 then
 if Yi.Zbn a0=Yi.Zbn b0 then
 (Zcp (Yi.Delay a0) (Yi.Delay b0)).bind fun eqTableS0 =>
 if eqTableS0=true then
 (Zcp (Yi.Zhn a0) (Yi.Zhn b0)).bind fun eqTableS1 =>
 if eqTableS1=true then
 some Bool.true
 else
 some Bool.false
 else
 some Bool.false
 else
 some Bool.false
 else
 some Bool.false
 else
 some Bool.false
 else
 some Bool.false
def Zwx:Ctr:=D2 (Zdz) (Zdz) (.bool) Zfn
def Zjp (a0:List Yi) (b0:List Yi) (i0:Int):Option ((Int×Unit) ⊕ Bool) :=
 if i0<(↑(List.length a0):Int) then
 (atI a0 i0).bind fun x0 =>
 (atI b0 i0).bind fun x1 =>
 (Zfn x0 x1).bind fun eqArc0 =>
 if eqArc0=true then
 some (.inl (IntKind.i64.wrap (i0+1),()))
 else
 some (.inr Bool.false)
 else
 some (.inr Bool.true)
def ZfJ (a0:List Yi) (b0:List Yi):Option Bool :=
 if (↑(List.length a0):Int)=(↑(List.length b0):Int) then
 Yc (fun v=>Zjp a0 b0 v.1) ((0:Int),())
 else
 some Bool.false
def Zwy:Ctr:=D2 (.sl (Zdz)) (.sl (Zdz)) (.bool) ZfJ
def Zep (a0:Z4) (b0:Z4):Option Bool :=
 if Z4.Name a0=Z4.Name b0 then
 if Z4.Kind a0=Z4.Kind b0 then
 (ZfL (Z4.YV a0) (Z4.YV b0)).bind fun eqPinS0 =>
 if eqPinS0=true then
 (ZfJ (Z4.JB a0) (Z4.JB b0)).bind fun eqArcS0 =>
 if eqArcS0=true then
 (XD (Z4.Truth a0) (Z4.Truth b0)).bind fun eqInt64S0 =>
 if eqInt64S0=true then
 if Z4.Zr7 a0=Z4.Zr7 b0 then
 if Z4.Zhh a0=Z4.Zhh b0 then
 some Bool.true
 else
 some Bool.false
 else
 some Bool.false
 else
 some Bool.false
 else
 some Bool.false
 else
 some Bool.false
 else
 some Bool.false
 else
 some Bool.false
def Zwz:Ctr:=D2 (XZ) (XZ) (.bool) Zep
def ZiA (a0:List Z4) (b0:List Z4) (i0:Int):Option ((Int×Unit) ⊕ Bool) :=
 if i0<(↑(List.length a0):Int) then
 (atI a0 i0).bind fun x0 =>
 (atI b0 i0).bind fun x1 =>
 (Zep x0 x1).bind fun eqCell0 =>
 if eqCell0=true then
 some (.inl (IntKind.i64.wrap (i0+1),()))
 else
 some (.inr Bool.false)
 else
 some (.inr Bool.true)
def ZeL (a0:List Z4) (b0:List Z4):Option Bool :=
 if (↑(List.length a0):Int)=(↑(List.length b0):Int) then
 Yc (fun v=>ZiA a0 b0 v.1) ((0:Int),())
 else
 some Bool.false
def ZwA:Ctr:=D2 (.sl (XZ)) (.sl (XZ)) (.bool) ZeL
def Zde (a0:Z7) (b0:Z7):Option Bool :=
 (ZeL (Z7.Cells a0) (Z7.Cells b0)).bind fun eqCellS0 =>
 if eqCellS0=true then
 some Bool.true
 else
 some Bool.false
def c193:Ctr:=D2 (Y9) (Y9) (.bool) Zde
def Zaz (a0:ZW) (b0:ZW):Option Bool :=
 if ZW.Name a0=ZW.Name b0 then
 if ZW.Cell a0=ZW.Cell b0 then
 (XD (ZW.Yh a0) (ZW.Yh b0)).bind fun eqInt64S0 =>
 if eqInt64S0=true then
 some Bool.true
 else
 some Bool.false
 else
 some Bool.false
 else
 some Bool.false
def c194:Ctr:=D2 (Yr) (Yr) (.bool) Zaz
def Zgi (a0:List ZW) (b0:List ZW) (i0:Int):Option ((Int×Unit) ⊕ Bool) :=
 if i0<(↑(List.length a0):Int) then
 (atI a0 i0).bind fun x0 =>
 (atI b0 i0).bind fun x1 =>
 (Zaz x0 x1).bind fun eqInstance0 =>
 if eqInstance0=true then
 some (.inl (IntKind.i64.wrap (i0+1),()))
 else
 some (.inr Bool.false)
 else
 some (.inr Bool.true)
def ZbB (a0:List ZW) (b0:List ZW):Option Bool :=
 if (↑(List.length a0):Int)=(↑(List.length b0):Int) then
 Yc (fun v=>Zgi a0 b0 v.1) ((0:Int),())
 else
 some Bool.false
def ZwB:Ctr:=D2 (.sl (Yr)) (.sl (Yr)) (.bool) ZbB
def Zhe (a0:List (List UInt8)) (b0:List (List UInt8)) (i0:Int):Option ((Int×Unit) ⊕ Bool) :=
 if i0<(↑(List.length a0):Int) then
 (atI a0 i0).bind fun x0 =>
 (atI b0 i0).bind fun x1 =>
 if x0=x1 then
 some (.inl (IntKind.i64.wrap (i0+1),()))
 else
 some (.inr Bool.false)
 else
 some (.inr Bool.true)
def Zdf (a0:List (List UInt8)) (b0:List (List UInt8)):Option Bool :=
 if (↑(List.length a0):Int)=(↑(List.length b0):Int) then
 Yc (fun v=>Zhe a0 b0 v.1) ((0:Int),())
 else
 some Bool.false
def c196:Ctr:=D2 (.sl (.str)) (.sl (.str)) (.bool) Zdf
def Zeq (a0:Ym) (b0:Ym):Option Bool :=
 if Ym.Name a0=Ym.Name b0 then
 if Ym.Dir a0=Ym.Dir b0 then
 if Ym.Net a0=Ym.Net b0 then
 some Bool.true
 else
 some Bool.false
 else
 some Bool.false
 else
 some Bool.false
def ZwC:Ctr:=D2 (VX) (VX) (.bool) Zeq
def ZiC (a0:List Ym) (b0:List Ym) (i0:Int):Option ((Int×Unit) ⊕ Bool) :=
 if i0<(↑(List.length a0):Int) then
 (atI a0 i0).bind fun x0 =>
 (atI b0 i0).bind fun x1 =>
 (Zeq x0 x1).bind fun eqPort0 =>
 if eqPort0=true then
 some (.inl (IntKind.i64.wrap (i0+1),()))
 else
 some (.inr Bool.false)
 else
 some (.inr Bool.true)
def ZeM (a0:List Ym) (b0:List Ym):Option Bool :=
 if (↑(List.length a0):Int)=(↑(List.length b0):Int) then
 Yc (fun v=>ZiC a0 b0 v.1) ((0:Int),())
 else
 some Bool.false
def c198:Ctr:=D2 (.sl (VX)) (.sl (VX)) (.bool) ZeM
def ZdU (a0:ZT) (b0:ZT):Option Bool :=
 (ZbB (ZT.Instances a0) (ZT.Instances b0)).bind fun eqInstanceS0 =>
 if eqInstanceS0=true then
 (Zdf (ZT.Yh a0) (ZT.Yh b0)).bind fun eqStringS0 =>
 if eqStringS0=true then
 (ZeM (ZT.Yo a0) (ZT.Yo b0)).bind fun eqPortS0 =>
 if eqPortS0=true then
 some Bool.true
 else
 some Bool.false
 else
 some Bool.false
 else
 some Bool.false
def ZwD:Ctr:=D2 (YQ) (YQ) (.bool) ZdU
def ZcS (a0:Z9) (b0:Z9):Option Bool :=
 (XD (Z9.Parent a0) (Z9.Parent b0)).bind fun eqInt64S0 =>
 if eqInt64S0=true then
 (XD (Z9.Res a0) (Z9.Res b0)).bind fun eqInt64S1 =>
 if eqInt64S1=true then
 (XD (Z9.Cap a0) (Z9.Cap b0)).bind fun eqInt64S2 =>
 if eqInt64S2=true then
 (XD (Z9.Ze4 a0) (Z9.Ze4 b0)).bind fun eqInt64S3 =>
 if eqInt64S3=true then
 some Bool.true
 else
 some Bool.false
 else
 some Bool.false
 else
 some Bool.false
 else
 some Bool.false
def Zvu:Ctr:=D2 (Xr) (Xr) (.bool) ZcS
def ZiD (a0:List Z9) (b0:List Z9) (i0:Int):Option ((Int×Unit) ⊕ Bool) :=
 if i0<(↑(List.length a0):Int) then
 (atI a0 i0).bind fun x0 =>
 (atI b0 i0).bind fun x1 =>
 (ZcS x0 x1).bind fun eqWire0 =>
 if eqWire0=true then
 some (.inl (IntKind.i64.wrap (i0+1),()))
 else
 some (.inr Bool.false)
 else
 some (.inr Bool.true)
def ZeN (a0:List Z9) (b0:List Z9):Option Bool :=
 if (↑(List.length a0):Int)=(↑(List.length b0):Int) then
 Yc (fun v=>ZiD a0 b0 v.1) ((0:Int),())
 else
 some Bool.false
def c201:Ctr:=D2 (.sl (Xr)) (.sl (Xr)) (.bool) ZeN
def ZeK (a0:ZU) (b0:ZU):Option Bool :=
 (Zde (ZU.Library a0) (ZU.Library b0)).bind fun eqLibrary0 =>
 if eqLibrary0=true then
 (ZdU (ZU.Design a0) (ZU.Design b0)).bind fun eqDesign0 =>
 if eqDesign0=true then
 (ZeN (ZU.Ye a0) (ZU.Ye b0)).bind fun eqWireS0 =>
 if eqWireS0=true then
 some Bool.true
 else
 some Bool.false
 else
 some Bool.false
 else
 some Bool.false
def ZwE:Ctr:=D2 (Xg) (Xg) (.bool) ZeK
def ZfK (a0:ZY) (b0:ZY):Option Bool :=
 if ZY.Kind a0=ZY.Kind b0 then
 if ZY.Place a0=ZY.Place b0 then
 if ZY.Cell a0=ZY.Cell b0 then
 if ZY.Net a0=ZY.Net b0 then
 if ZY.Node a0=ZY.Node b0 then
 if ZY.Name a0=ZY.Name b0 then
 (ZcS (ZY.Zc9 a0) (ZY.Zc9 b0)).bind fun eqWire0 =>
 if eqWire0=true then
 some Bool.true
 else
 some Bool.false
 else
 some Bool.false
 else
 some Bool.false
 else
 some Bool.false
 else
 some Bool.false
 else
 some Bool.false
 else
 some Bool.false
def c203:Ctr:=D2 (QZ) (QZ) (.bool) ZfK
def ZbO (k1:Int) (out0:List UInt8):Option ((Int×(List UInt8)×Unit) ⊕ List UInt8) :=
 if 0<k1 then
 Yf ((↑(List.length (bytesOf [IntKind.wrap IntKind.u8 (IntKind.i64.wrap ((48:Int)+Int.tmod k1 (10:Int)))])):Int)+(↑(List.length out0):Int)≤(9223372036854775807:Int)) <|
 some (.inl (IntKind.i64.wrap (Int.tdiv k1 (10:Int)),bytesOf [IntKind.wrap IntKind.u8 (IntKind.i64.wrap ((48:Int)+Int.tmod k1 (10:Int)))]++out0,()))
 else
 Yf ((↑(List.length [(109:UInt8)]):Int)+(↑(List.length out0):Int)≤(9223372036854775807:Int)) <|
 some (.inr ([(109:UInt8)]++out0))
def VQ (k0:Int):Option (List UInt8) :=
 if k0≤0 then
 some ([(109:UInt8),(48:UInt8)])
 else
 Yc (fun v=>ZbO v.1 v.2.1) (k0,([]:List UInt8),())
def Zts:Ctr:=D1 (.int .i64) (.str) VQ
def ZbN (k1:Int) (i0:Int) (l0:List YX):Option ((Int×Int×(List YX)×Unit) ⊕ (Int×(List YX))) :=
 if i0<(↑(List.length l0):Int) then
 (VQ k1).bind fun markText0 =>
 (atI l0 i0).bind fun x0 =>
 (atI (List.set l0 (Int.toNat i0) (markText0,x0.snd)) i0).bind fun x1 =>
 (atI (List.set (List.set l0 (Int.toNat i0) (markText0,x0.snd)) (Int.toNat i0) (YX.Name x1,IntKind.i64.wrap (k1+1),x1.snd.snd)) i0).bind fun x2 =>
 (atI (List.set (List.set (List.set l0 (Int.toNat i0) (markText0,x0.snd)) (Int.toNat i0) (YX.Name x1,IntKind.i64.wrap (k1+1),x1.snd.snd)) (Int.toNat i0) (YX.Name x2,YX.Dir x2,IntKind.i64.wrap (IntKind.i64.wrap (k1+1)+1),x2.snd.snd.snd)) i0).bind fun x3 =>
 some (.inl (IntKind.i64.wrap (IntKind.i64.wrap (IntKind.i64.wrap (IntKind.i64.wrap (k1+1)+1)+1)+1),IntKind.i64.wrap (i0+1),List.set (List.set (List.set (List.set l0 (Int.toNat i0) (markText0,x0.snd)) (Int.toNat i0) (YX.Name x1,IntKind.i64.wrap (k1+1),x1.snd.snd)) (Int.toNat i0) (YX.Name x2,YX.Dir x2,IntKind.i64.wrap (IntKind.i64.wrap (k1+1)+1),x2.snd.snd.snd)) (Int.toNat i0) (YX.Name x3,YX.Dir x3,YX.Cap x3,Decidable.decide (Int.tmod (IntKind.i64.wrap (IntKind.i64.wrap (IntKind.i64.wrap (k1+1)+1)+1)) 3=0),()),()))
 else
 some (.inr (k1,l0))
def ZdX (a0:List YX) (k0:Int):Option (Int×(List YX)) :=
 Yc (fun v=>ZbN v.1 v.2.1 v.2.2.1) (k0,(0:Int),a0,())
def ZwF:Ctr:=⟨[.back (.ol 168 (.flat (Zcb))),.dat (.int .i64)],[.dat (.int .i64)],fun a K=>splitK a fun a0 a=>splitK a fun k0 a=>Xl (ZdX a0 k0) fun r=>K (r.1,()) (r.2,())⟩
def QJ (k1:Int) (i0:Int) (l0:List Int):Option ((Int×Int×(List Int)×Unit) ⊕ (Int×(List Int))) :=
 if i0<(↑(List.length l0):Int) then
 (atI l0 i0).bind fun x0 =>
 some (.inl (IntKind.i64.wrap (k1+1),IntKind.i64.wrap (i0+1),List.set l0 (Int.toNat i0) k1,()))
 else
 some (.inr (k1,l0))
def YG (a0:List Int) (k0:Int):Option (Int×(List Int)) :=
 Yc (fun v=>QJ v.1 v.2.1 v.2.2.1) (k0,(0:Int),a0,())
def c206:Ctr:=⟨[.back (.ol 2 (.flat (.int .i64))),.dat (.int .i64)],[.dat (.int .i64)],fun a K=>splitK a fun a0 a=>splitK a fun k0 a=>Xl (YG a0 k0) fun r=>K (r.1,()) (r.2,())⟩
def ZaC (k1:Int) (i0:Int) (l0:List (List Int×List Int×List Int×Unit)):Option ((Int×Int×(List (List Int×List Int×List Int×Unit))×Unit) ⊕ (Int×(List Yb))) :=
 if i0<(↑(List.length l0):Int) then
 (atI l0 i0).bind fun x0 =>
 (YG x0.fst k1).bind fun markInt64S0 =>
 (YG x0.snd.fst markInt64S0.fst).bind fun markInt64S1 =>
 (YG x0.snd.snd.fst markInt64S1.fst).bind fun markInt64S2 =>
 some (.inl (markInt64S2.fst,IntKind.i64.wrap (i0+1),List.set l0 (Int.toNat i0) (markInt64S0.snd,markInt64S1.snd,markInt64S2.snd,()),()))
 else
 some (.inr (k1,l0))
def ZaB (a0:List Yb) (k0:Int):Option (Int×(List Yb)) :=
 Yc (fun v=>ZaC v.1 v.2.1 v.2.2.1) (k0,(0:Int),a0,())
def ZwG:Ctr:=⟨[.back (.ol 241 (Zds)),.dat (.int .i64)],[.dat (.int .i64)],fun a K=>splitK a fun a0 a=>splitK a fun k0 a=>Xl (ZaB a0 k0) fun r=>K (r.1,()) (r.2,())⟩
def ZbM (k1:Int) (i0:Int) (l0:List (Int×Int×Int×Int×List Yb×List Yb×Unit)):Option ((Int×Int×(List (Int×Int×Int×Int×List Yb×List Yb×Unit))×Unit) ⊕ (Int×(List Yi))) :=
 if i0<(↑(List.length l0):Int) then
 (atI l0 i0).bind fun x0 =>
 (ZaB x0.snd.snd.snd.snd.fst (IntKind.i64.wrap (IntKind.i64.wrap (IntKind.i64.wrap (IntKind.i64.wrap (k1+1)+1)+1)+1))).bind fun markTableS0 =>
 (ZaB x0.snd.snd.snd.snd.snd.fst markTableS0.fst).bind fun markTableS1 =>
 some (.inl (markTableS1.fst,IntKind.i64.wrap (i0+1),List.set l0 (Int.toNat i0) (k1,IntKind.i64.wrap (k1+1),IntKind.i64.wrap (IntKind.i64.wrap (k1+1)+1),IntKind.i64.wrap (IntKind.i64.wrap (IntKind.i64.wrap (k1+1)+1)+1),markTableS0.snd,markTableS1.snd,()),()))
 else
 some (.inr (k1,l0))
def ZdV (a0:List Yi) (k0:Int):Option (Int×(List Yi)) :=
 Yc (fun v=>ZbM v.1 v.2.1 v.2.2.1) (k0,(0:Int),a0,())
def c208:Ctr:=⟨[.back (.ol 201 (Zqz)),.dat (.int .i64)],[.dat (.int .i64)],fun a K=>splitK a fun a0 a=>splitK a fun k0 a=>Xl (ZdV a0 k0) fun r=>K (r.1,()) (r.2,())⟩
def Zbb (k1:Int) (i0:Int) (l0:List (List UInt8×Int×List YX×List Yi×List Int×Int×Int×Unit)):Option ((Int×Int×(List (List UInt8×Int×List YX×List Yi×List Int×Int×Int×Unit))×Unit) ⊕ (Int×(List Z4))) :=
 if i0<(↑(List.length l0):Int) then
 (VQ k1).bind fun markText0 =>
 (atI l0 i0).bind fun x0 =>
 (ZdX x0.snd.snd.fst (IntKind.i64.wrap (IntKind.i64.wrap (k1+1)+1))).bind fun markPinS0 =>
 (ZdV x0.snd.snd.snd.fst markPinS0.fst).bind fun markArcS0 =>
 (YG x0.snd.snd.snd.snd.fst markArcS0.fst).bind fun markInt64S0 =>
 some (.inl (IntKind.i64.wrap (IntKind.i64.wrap (markInt64S0.fst+1)+1),IntKind.i64.wrap (i0+1),List.set l0 (Int.toNat i0) (markText0,IntKind.i64.wrap (k1+1),markPinS0.snd,markArcS0.snd,markInt64S0.snd,markInt64S0.fst,IntKind.i64.wrap (markInt64S0.fst+1),()),()))
 else
 some (.inr (k1,l0))
def Zdh (a0:List Z4) (k0:Int):Option (Int×(List Z4)) :=
 Yc (fun v=>Zbb v.1 v.2.1 v.2.2.1) (k0,(0:Int),a0,())
def ZwH:Ctr:=⟨[.back (.ol 133 (Zkg)),.dat (.int .i64)],[.dat (.int .i64)],fun a K=>splitK a fun a0 a=>splitK a fun k0 a=>Xl (Zdh a0 k0) fun r=>K (r.1,()) (r.2,())⟩
def ZbC (a0:Z7) (k0:Int):Option (Int×Z7) :=
 (Zdh (Z7.Cells a0) k0).bind fun markCellS0 =>
 some (markCellS0.fst,(markCellS0.snd,()))
def c210:Ctr:=⟨[.back (Zil),.dat (.int .i64)],[.dat (.int .i64)],fun a K=>splitK a fun a0 a=>splitK a fun k0 a=>Xl (ZbC a0 k0) fun r=>K (r.1,()) (r.2,())⟩
def Jj (k1:Int) (i0:Int) (l0:List (List UInt8×Int×List Int×Unit)):Option ((Int×Int×(List (List UInt8×Int×List Int×Unit))×Unit) ⊕ (Int×(List ZW))) :=
 if i0<(↑(List.length l0):Int) then
 (VQ k1).bind fun markText0 =>
 (atI l0 i0).bind fun x0 =>
 (YG x0.snd.snd.fst (IntKind.i64.wrap (IntKind.i64.wrap (k1+1)+1))).bind fun markInt64S0 =>
 some (.inl (markInt64S0.fst,IntKind.i64.wrap (i0+1),List.set l0 (Int.toNat i0) (markText0,IntKind.i64.wrap (k1+1),markInt64S0.snd,()),()))
 else
 some (.inr (k1,l0))
def Zal (a0:List ZW) (k0:Int):Option (Int×(List ZW)) :=
 Yc (fun v=>Jj v.1 v.2.1 v.2.2.1) (k0,(0:Int),a0,())
def ZwI:Ctr:=⟨[.back (.ol 134 (Zat)),.dat (.int .i64)],[.dat (.int .i64)],fun a K=>splitK a fun a0 a=>splitK a fun k0 a=>Xl (Zal a0 k0) fun r=>K (r.1,()) (r.2,())⟩
def Zaf (k1:Int) (i0:Int) (l0:List (List UInt8)):Option ((Int×Int×(List (List UInt8))×Unit) ⊕ (Int×(List (List UInt8)))) :=
 if i0<(↑(List.length l0):Int) then
 (VQ k1).bind fun markText0 =>
 (atI l0 i0).bind fun x0 =>
 some (.inl (IntKind.i64.wrap (k1+1),IntKind.i64.wrap (i0+1),List.set l0 (Int.toNat i0) markText0,()))
 else
 some (.inr (k1,l0))
def ZbD (a0:List (List UInt8)) (k0:Int):Option (Int×(List (List UInt8))) :=
 Yc (fun v=>Zaf v.1 v.2.1 v.2.2.1) (k0,(0:Int),a0,())
def c212:Ctr:=⟨[.back (.ol 9 (.flat (.str))),.dat (.int .i64)],[.dat (.int .i64)],fun a K=>splitK a fun a0 a=>splitK a fun k0 a=>Xl (ZbD a0 k0) fun r=>K (r.1,()) (r.2,())⟩
def Zbc (k1:Int) (i0:Int) (l0:List Ym):Option ((Int×Int×(List Ym)×Unit) ⊕ (Int×(List Ym))) :=
 if i0<(↑(List.length l0):Int) then
 (VQ k1).bind fun markText0 =>
 (atI l0 i0).bind fun x0 =>
 (atI (List.set l0 (Int.toNat i0) (markText0,x0.snd)) i0).bind fun x1 =>
 (atI (List.set (List.set l0 (Int.toNat i0) (markText0,x0.snd)) (Int.toNat i0) (Ym.Name x1,IntKind.i64.wrap (k1+1),x1.snd.snd)) i0).bind fun x2 =>
 some (.inl (IntKind.i64.wrap (IntKind.i64.wrap (IntKind.i64.wrap (k1+1)+1)+1),IntKind.i64.wrap (i0+1),List.set (List.set (List.set l0 (Int.toNat i0) (markText0,x0.snd)) (Int.toNat i0) (Ym.Name x1,IntKind.i64.wrap (k1+1),x1.snd.snd)) (Int.toNat i0) (Ym.Name x2,Ym.Dir x2,IntKind.i64.wrap (IntKind.i64.wrap (k1+1)+1),()),()))
 else
 some (.inr (k1,l0))
def Zdi (a0:List Ym) (k0:Int):Option (Int×(List Ym)) :=
 Yc (fun v=>Zbc v.1 v.2.1 v.2.2.1) (k0,(0:Int),a0,())
def c213:Ctr:=⟨[.back (.ol 138 (.flat (VX))),.dat (.int .i64)],[.dat (.int .i64)],fun a K=>splitK a fun a0 a=>splitK a fun k0 a=>Xl (Zdi a0 k0) fun r=>K (r.1,()) (r.2,())⟩
def Zcr (a0:ZT) (k0:Int):Option (Int×ZT) :=
 (Zal (ZT.Instances a0) k0).bind fun markInstanceS0 =>
 (ZbD (ZT.Yh a0) markInstanceS0.fst).bind fun markStringS0 =>
 (Zdi (ZT.Yo a0) markStringS0.fst).bind fun markPortS0 =>
 some (markPortS0.fst,(markInstanceS0.snd,markStringS0.snd,markPortS0.snd,()))
def ZwJ:Ctr:=⟨[.back (Zjc),.dat (.int .i64)],[.dat (.int .i64)],fun a K=>splitK a fun a0 a=>splitK a fun k0 a=>Xl (Zcr a0 k0) fun r=>K (r.1,()) (r.2,())⟩
def Zbd (k1:Int) (i0:Int) (l0:List (List Int×List Int×List Int×List Int×Unit)):Option ((Int×Int×(List (List Int×List Int×List Int×List Int×Unit))×Unit) ⊕ (Int×(List Z9))) :=
 if i0<(↑(List.length l0):Int) then
 (atI l0 i0).bind fun x0 =>
 (YG x0.fst k1).bind fun markInt64S0 =>
 (YG x0.snd.fst markInt64S0.fst).bind fun markInt64S1 =>
 (YG x0.snd.snd.fst markInt64S1.fst).bind fun markInt64S2 =>
 (YG x0.snd.snd.snd.fst markInt64S2.fst).bind fun markInt64S3 =>
 some (.inl (markInt64S3.fst,IntKind.i64.wrap (i0+1),List.set l0 (Int.toNat i0) (markInt64S0.snd,markInt64S1.snd,markInt64S2.snd,markInt64S3.snd,()),()))
 else
 some (.inr (k1,l0))
def Zdj (a0:List Z9) (k0:Int):Option (Int×(List Z9)) :=
 Yc (fun v=>Zbd v.1 v.2.1 v.2.2.1) (k0,(0:Int),a0,())
def ZwK:Ctr:=⟨[.back (.ol 53 (Zg8)),.dat (.int .i64)],[.dat (.int .i64)],fun a K=>splitK a fun a0 a=>splitK a fun k0 a=>Xl (Zdj a0 k0) fun r=>K (r.1,()) (r.2,())⟩
def Zdg (a0:ZU) (k0:Int):Option (Int×ZU) :=
 (ZbC (ZU.Library a0) k0).bind fun markLibrary0 =>
 (Zcr (ZU.Design a0) markLibrary0.fst).bind fun markDesign0 =>
 (Zdj (ZU.Ye a0) markDesign0.fst).bind fun markWireS0 =>
 some (markWireS0.fst,(markLibrary0.snd,markDesign0.snd,markWireS0.snd,()))
def ZwL:Ctr:=⟨[.back (ZdK),.dat (.int .i64)],[.dat (.int .i64)],fun a K=>splitK a fun a0 a=>splitK a fun k0 a=>Xl (Zdg a0 k0) fun r=>K (r.1,()) (r.2,())⟩
def ZdY (a0:Z9) (k0:Int):Option (Int×Z9) :=
 (YG (Z9.Parent a0) k0).bind fun markInt64S0 =>
 (YG (Z9.Res a0) markInt64S0.fst).bind fun markInt64S1 =>
 (YG (Z9.Cap a0) markInt64S1.fst).bind fun markInt64S2 =>
 (YG (Z9.Ze4 a0) markInt64S2.fst).bind fun markInt64S3 =>
 some (markInt64S3.fst,(markInt64S0.snd,markInt64S1.snd,markInt64S2.snd,markInt64S3.snd,()))
def ZwM:Ctr:=⟨[.back (Zg8),.dat (.int .i64)],[.dat (.int .i64)],fun a K=>splitK a fun a0 a=>splitK a fun k0 a=>Xl (ZdY a0 k0) fun r=>K (r.1,()) (r.2,())⟩
def ZdW (a0:ZY) (k0:Int):Option (Int×ZY) :=
 (ZdY (ZY.Zc9 a0) k0).bind fun markWire0 =>
 some (markWire0.fst,(ZY.Kind a0,ZY.Place a0,ZY.Cell a0,ZY.Net a0,ZY.Node a0,ZY.Name a0,markWire0.snd,()))
def c218:Ctr:=⟨[.back (ZuR),.dat (.int .i64)],[.dat (.int .i64)],fun a K=>splitK a fun a0 a=>splitK a fun k0 a=>Xl (ZdW a0 k0) fun r=>K (r.1,()) (r.2,())⟩
def ZaA (a0:List Int) (k1:Int) (i0:Int):Option ((Int×Int×Unit) ⊕ Int) :=
 if i0<(↑(List.length a0):Int) then
 (atI a0 i0).bind fun x0 =>
 if x0=k1 then
 some (.inl (IntKind.i64.wrap (k1+1),IntKind.i64.wrap (i0+1),()))
 else
 some (.inr (-1))
 else
 some (.inr k1)
def Zcq (a0:List Int) (k0:Int):Option Int :=
 Yc (fun v=>ZaA a0 v.1 v.2.1) (k0,(0:Int),())
def ZwN:Ctr:=D2 (.sl (.int .i64)) (.int .i64) (.int .i64) Zcq
def Qs (a0:ZU) (a1:ZY):Option Bool :=
 (Zb4 a0 1048576).bind fun szBlock0 =>
 if szBlock0<0 then
 some Bool.true
 else
 (ZcU a1 szBlock0).bind fun szEdit0 =>
 if szEdit0<0 then
 some Bool.true
 else
 (ZeQ a0).bind fun toBlock0 =>
 (ZfN a1).bind fun toEdit0 =>
 (Jq toBlock0 toEdit0).bind fun DirtyNodes0 =>
 (Jh toBlock0 toEdit0).bind fun DirtyNodes1 =>
 (XD DirtyNodes1.fst DirtyNodes0.fst).bind fun eqInt64S0 =>
 if eqInt64S0=true then
 if DirtyNodes1.snd=DirtyNodes0.snd then
 (ZeK toBlock0 toBlock0).bind fun eqBlock0 =>
 if eqBlock0=true then
 (ZfK toEdit0 toEdit0).bind fun eqEdit0 =>
 if eqEdit0=true then
 (Zdg toBlock0 1).bind fun markBlock0 =>
 (ZdW toEdit0 markBlock0.fst).bind fun markEdit0 =>
 if markEdit0.fst<0 then
 some Bool.false
 else
 if eqInt64S0=true then
 if DirtyNodes1.snd=DirtyNodes0.snd then
 (YG DirtyNodes1.fst 1).bind fun markInt64S0 =>
 (Zcq markInt64S0.snd 1).bind fun heldInt64S0 =>
 if heldInt64S0<0 then
 some Bool.false
 else
 if heldInt64S0=markInt64S0.fst then
 if eqInt64S0=true then
 if DirtyNodes1.snd=DirtyNodes0.snd then
 if heldInt64S0<0 then
 some Bool.false
 else
 if heldInt64S0=markInt64S0.fst then
 some Bool.true
 else
 some Bool.false
 else
 some Bool.false
 else
 some Bool.false
 else
 some Bool.false
 else
 some Bool.false
 else
 some Bool.false
 else
 some Bool.false
 else
 some Bool.false
 else
 some Bool.false
 else
 some Bool.false
def Zb2:Ctr:=⟨[.dat (Xg),.dat (QZ)],[.dat (.bool)],fun a K=>splitK a fun a0 a=>splitK a fun a1 a=>Xl (Qs a0 a1) fun r=>K (r,()) ()⟩
end
end Go.Proofs.YtdabmnfkcnkkbaaGreatDoor
