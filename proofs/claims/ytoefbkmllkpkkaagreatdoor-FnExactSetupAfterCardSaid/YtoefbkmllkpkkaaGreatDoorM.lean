/-
 The models of the functions and their contracts. Printed by program.
-/
import Derived.Test.YtoefbkmllkpkkaaGreatDoorSxTab
import Derived.Test.YtoefbkmllkpkkaaGreatDoorSxS0
import Derived.Test.YtoefbkmllkpkkaaGreatDoorSxLib
namespace Go.Proofs.YtoefbkmllkpkkaaGreatDoor
open Go Go.Sx
set_option maxRecDepth 100000
set_option maxHeartbeats 3200000
set_option linter.unusedVariables false
set_option linter.unusedSimpArgs false
noncomputable section
def ZdN (a0:YE) (left0:Int):Option Int :=
 if IntKind.i64.wrap (left0-(↑(List.length (YE.Name a0)):Int))<0 then
 some (-1)
 else
 some (IntKind.i64.wrap (left0-(↑(List.length (YE.Name a0)):Int)))
def c0:Ctr:=D2 (ZdU) (.int .i64) (.int .i64) ZdN
def ZoO (a0:List YE) (left1:Int) (i0:Int):Option ((Int×Int×Unit) ⊕ Int) :=
 if i0<(↑(List.length a0):Int) then
 (atI a0 i0).bind fun x0 =>
 (ZdN x0 left1).bind fun szPin0 =>
 if szPin0<0 then
 some (.inr (-1))
 else
 some (.inl (szPin0,IntKind.i64.wrap (i0+1),()))
 else
 some (.inr left1)
def ZeY (a0:List YE) (left0:Int):Option Int :=
 if IntKind.i64.wrap (left0-(↑(List.length a0):Int))<0 then
 some (-1)
 else
 Zv (fun v=>ZoO a0 v.1 v.2.1) (IntKind.i64.wrap (left0-(↑(List.length a0):Int)),(0:Int),())
def c1:Ctr:=D2 (.sl (ZdU)) (.int .i64) (.int .i64) ZeY
def Y4 (a0:List Int) (left0:Int):Option Int :=
 if IntKind.i64.wrap (left0-(↑(List.length a0):Int))<0 then
 some (-1)
 else
 some (IntKind.i64.wrap (left0-(↑(List.length a0):Int)))
def c2:Ctr:=D2 (.sl (.int .i64)) (.int .i64) (.int .i64) Y4
def ZaC (a0:ZB) (left0:Int):Option Int :=
 (Y4 (ZB.Zh2 a0) left0).bind fun szInt64S0 =>
 if szInt64S0<0 then
 some (-1)
 else
 (Y4 (ZB.Loads a0) szInt64S0).bind fun szInt64S1 =>
 if szInt64S1<0 then
 some (-1)
 else
 (Y4 (ZB.Values a0) szInt64S1).bind fun szInt64S2 =>
 if szInt64S2<0 then
 some (-1)
 else
 some szInt64S2
def c3:Ctr:=D2 (YZ) (.int .i64) (.int .i64) ZaC
def Zl7 (a0:List ZB) (left1:Int) (i0:Int):Option ((Int×Int×Unit) ⊕ Int) :=
 if i0<(↑(List.length a0):Int) then
 (atI a0 i0).bind fun x0 =>
 (ZaC x0 left1).bind fun szTable0 =>
 if szTable0<0 then
 some (.inr (-1))
 else
 some (.inl (szTable0,IntKind.i64.wrap (i0+1),()))
 else
 some (.inr left1)
def ZaK (a0:List ZB) (left0:Int):Option Int :=
 if IntKind.i64.wrap (left0-(↑(List.length a0):Int))<0 then
 some (-1)
 else
 Zv (fun v=>Zl7 a0 v.1 v.2.1) (IntKind.i64.wrap (left0-(↑(List.length a0):Int)),(0:Int),())
def c4:Ctr:=D2 (.sl (YZ)) (.int .i64) (.int .i64) ZaK
def ZdW (a0:ZH) (left0:Int):Option Int :=
 (ZaK (ZH.Delay a0) left0).bind fun szTableS0 =>
 if szTableS0<0 then
 some (-1)
 else
 (ZaK (ZH.ZdY a0) szTableS0).bind fun szTableS1 =>
 if szTableS1<0 then
 some (-1)
 else
 some szTableS1
def c5:Ctr:=D2 (ZfF) (.int .i64) (.int .i64) ZdW
def Zn6 (a0:List ZH) (left1:Int) (i0:Int):Option ((Int×Int×Unit) ⊕ Int) :=
 if i0<(↑(List.length a0):Int) then
 (atI a0 i0).bind fun x0 =>
 (ZdW x0 left1).bind fun szArc0 =>
 if szArc0<0 then
 some (.inr (-1))
 else
 some (.inl (szArc0,IntKind.i64.wrap (i0+1),()))
 else
 some (.inr left1)
def Ze2 (a0:List ZH) (left0:Int):Option Int :=
 if IntKind.i64.wrap (left0-(↑(List.length a0):Int))<0 then
 some (-1)
 else
 Zv (fun v=>Zn6 a0 v.1 v.2.1) (IntKind.i64.wrap (left0-(↑(List.length a0):Int)),(0:Int),())
def c6:Ctr:=D2 (.sl (ZfF)) (.int .i64) (.int .i64) Ze2
def Zb3 (a0:Zm) (left0:Int):Option Int :=
 if IntKind.i64.wrap (left0-(↑(List.length (Zm.Name a0)):Int))<0 then
 some (-1)
 else
 (ZeY (Zm.YC a0) (IntKind.i64.wrap (left0-(↑(List.length (Zm.Name a0)):Int)))).bind fun szPinS0 =>
 if szPinS0<0 then
 some (-1)
 else
 (Ze2 (Zm.Zak a0) szPinS0).bind fun szArcS0 =>
 if szArcS0<0 then
 some (-1)
 else
 (Y4 (Zm.Truth a0) szArcS0).bind fun szInt64S0 =>
 if szInt64S0<0 then
 some (-1)
 else
 some szInt64S0
def c7:Ctr:=D2 (XY) (.int .i64) (.int .i64) Zb3
def ZnE (a0:List Zm) (left1:Int) (i0:Int):Option ((Int×Int×Unit) ⊕ Int) :=
 if i0<(↑(List.length a0):Int) then
 (atI a0 i0).bind fun x0 =>
 (Zb3 x0 left1).bind fun szCell0 =>
 if szCell0<0 then
 some (.inr (-1))
 else
 some (.inl (szCell0,IntKind.i64.wrap (i0+1),()))
 else
 some (.inr left1)
def ZdO (a0:List Zm) (left0:Int):Option Int :=
 if IntKind.i64.wrap (left0-(↑(List.length a0):Int))<0 then
 some (-1)
 else
 Zv (fun v=>ZnE a0 v.1 v.2.1) (IntKind.i64.wrap (left0-(↑(List.length a0):Int)),(0:Int),())
def c8:Ctr:=D2 (.sl (XY)) (.int .i64) (.int .i64) ZdO
def Zbn (a0:Zp) (left0:Int):Option Int :=
 (ZdO (Zp.Cells a0) left0).bind fun szCellS0 =>
 if szCellS0<0 then
 some (-1)
 else
 some szCellS0
def c9:Ctr:=D2 (YN) (.int .i64) (.int .i64) Zbn
def Q0 (a0:Ze) (left0:Int):Option Int :=
 if IntKind.i64.wrap (left0-(↑(List.length (Ze.Name a0)):Int))<0 then
 some (-1)
 else
 (Y4 (Ze.ZI a0) (IntKind.i64.wrap (left0-(↑(List.length (Ze.Name a0)):Int)))).bind fun szInt64S0 =>
 if szInt64S0<0 then
 some (-1)
 else
 some szInt64S0
def c10:Ctr:=D2 (ZX) (.int .i64) (.int .i64) Q0
def ZjA (a0:List Ze) (left1:Int) (i0:Int):Option ((Int×Int×Unit) ⊕ Int) :=
 if i0<(↑(List.length a0):Int) then
 (atI a0 i0).bind fun x0 =>
 (Q0 x0 left1).bind fun szInstance0 =>
 if szInstance0<0 then
 some (.inr (-1))
 else
 some (.inl (szInstance0,IntKind.i64.wrap (i0+1),()))
 else
 some (.inr left1)
def Jp (a0:List Ze) (left0:Int):Option Int :=
 if IntKind.i64.wrap (left0-(↑(List.length a0):Int))<0 then
 some (-1)
 else
 Zv (fun v=>ZjA a0 v.1 v.2.1) (IntKind.i64.wrap (left0-(↑(List.length a0):Int)),(0:Int),())
def c11:Ctr:=D2 (.sl (ZX)) (.int .i64) (.int .i64) Jp
def Vl (a0:List (List UInt8)) (left1:Int) (i0:Int):Option ((Int×Int×Unit) ⊕ Int) :=
 if i0<(↑(List.length a0):Int) then
 (atI a0 i0).bind fun x0 =>
 if IntKind.i64.wrap (left1-(↑(List.length x0):Int))<0 then
 some (.inr (-1))
 else
 some (.inl (IntKind.i64.wrap (left1-(↑(List.length x0):Int)),IntKind.i64.wrap (i0+1),()))
 else
 some (.inr left1)
def Zbo (a0:List (List UInt8)) (left0:Int):Option Int :=
 if IntKind.i64.wrap (left0-(↑(List.length a0):Int))<0 then
 some (-1)
 else
 Zv (fun v=>Vl a0 v.1 v.2.1) (IntKind.i64.wrap (left0-(↑(List.length a0):Int)),(0:Int),())
def c12:Ctr:=D2 (.sl (.str)) (.int .i64) (.int .i64) Zbo
def Zcc (a0:ZT) (left0:Int):Option Int :=
 if IntKind.i64.wrap (left0-(↑(List.length (ZT.Name a0)):Int))<0 then
 some (-1)
 else
 some (IntKind.i64.wrap (left0-(↑(List.length (ZT.Name a0)):Int)))
def c13:Ctr:=D2 (Jf) (.int .i64) (.int .i64) Zcc
def Znr (a0:List ZT) (left1:Int) (i0:Int):Option ((Int×Int×Unit) ⊕ Int) :=
 if i0<(↑(List.length a0):Int) then
 (atI a0 i0).bind fun x0 =>
 (Zcc x0 left1).bind fun szPort0 =>
 if szPort0<0 then
 some (.inr (-1))
 else
 some (.inl (szPort0,IntKind.i64.wrap (i0+1),()))
 else
 some (.inr left1)
def ZdV (a0:List ZT) (left0:Int):Option Int :=
 if IntKind.i64.wrap (left0-(↑(List.length a0):Int))<0 then
 some (-1)
 else
 Zv (fun v=>Znr a0 v.1 v.2.1) (IntKind.i64.wrap (left0-(↑(List.length a0):Int)),(0:Int),())
def c14:Ctr:=D2 (.sl (Jf)) (.int .i64) (.int .i64) ZdV
def Zcv (a0:Zb) (left0:Int):Option Int :=
 (Jp (Zb.Instances a0) left0).bind fun szInstanceS0 =>
 if szInstanceS0<0 then
 some (-1)
 else
 (Zbo (Zb.ZI a0) szInstanceS0).bind fun szStringS0 =>
 if szStringS0<0 then
 some (-1)
 else
 (ZdV (Zb.ZK a0) szStringS0).bind fun szPortS0 =>
 if szPortS0<0 then
 some (-1)
 else
 some szPortS0
def c15:Ctr:=D2 (Yr) (.int .i64) (.int .i64) Zcv
def Za1 (a0:Zr) (left0:Int):Option Int :=
 (Y4 (Zr.Parent a0) left0).bind fun szInt64S0 =>
 if szInt64S0<0 then
 some (-1)
 else
 (Y4 (Zr.Res a0) szInt64S0).bind fun szInt64S1 =>
 if szInt64S1<0 then
 some (-1)
 else
 (Y4 (Zr.Cap a0) szInt64S1).bind fun szInt64S2 =>
 if szInt64S2<0 then
 some (-1)
 else
 (Y4 (Zr.ZfR a0) szInt64S2).bind fun szInt64S3 =>
 if szInt64S3<0 then
 some (-1)
 else
 some szInt64S3
def c16:Ctr:=D2 (XZ) (.int .i64) (.int .i64) Za1
def ZnK (a0:List Zr) (left1:Int) (i0:Int):Option ((Int×Int×Unit) ⊕ Int) :=
 if i0<(↑(List.length a0):Int) then
 (atI a0 i0).bind fun x0 =>
 (Za1 x0 left1).bind fun szWire0 =>
 if szWire0<0 then
 some (.inr (-1))
 else
 some (.inl (szWire0,IntKind.i64.wrap (i0+1),()))
 else
 some (.inr left1)
def ZdQ (a0:List Zr) (left0:Int):Option Int :=
 if IntKind.i64.wrap (left0-(↑(List.length a0):Int))<0 then
 some (-1)
 else
 Zv (fun v=>ZnK a0 v.1 v.2.1) (IntKind.i64.wrap (left0-(↑(List.length a0):Int)),(0:Int),())
def c17:Ctr:=D2 (.sl (XZ)) (.int .i64) (.int .i64) ZdQ
def ZdS (a0:Za) (left0:Int):Option Int :=
 (Zbn (Za.Library a0) left0).bind fun szLibrary0 =>
 if szLibrary0<0 then
 some (-1)
 else
 (Zcv (Za.Design a0) szLibrary0).bind fun szDesign0 =>
 if szDesign0<0 then
 some (-1)
 else
 (ZdQ (Za.ZC a0) szDesign0).bind fun szWireS0 =>
 if szWireS0<0 then
 some (-1)
 else
 some szWireS0
def c18:Ctr:=D2 (YB) (.int .i64) (.int .i64) ZdS
def ZeM (a0:Zk) (left0:Int):Option Int :=
 if IntKind.i64.wrap (left0-(↑(List.length (Zk.Name a0)):Int))<0 then
 some (-1)
 else
 (Za1 (Zk.Ze1 a0) (IntKind.i64.wrap (left0-(↑(List.length (Zk.Name a0)):Int)))).bind fun szWire0 =>
 if szWire0<0 then
 some (-1)
 else
 some szWire0
def c19:Ctr:=D2 (Qv) (.int .i64) (.int .i64) ZeM
def ZaF (a0:Zf) (left0:Int):Option Int :=
 if IntKind.i64.wrap (left0-(↑(List.length (Zf.Name a0)):Int))<0 then
 some (-1)
 else
 some (IntKind.i64.wrap (left0-(↑(List.length (Zf.Name a0)):Int)))
def c20:Ctr:=D2 (ZU) (.int .i64) (.int .i64) ZaF
def Zl6 (a0:List Zf) (left1:Int) (i0:Int):Option ((Int×Int×Unit) ⊕ Int) :=
 if i0<(↑(List.length a0):Int) then
 (atI a0 i0).bind fun x0 =>
 (ZaF x0 left1).bind fun szClock0 =>
 if szClock0<0 then
 some (.inr (-1))
 else
 some (.inl (szClock0,IntKind.i64.wrap (i0+1),()))
 else
 some (.inr left1)
def Zcp (a0:List Zf) (left0:Int):Option Int :=
 if IntKind.i64.wrap (left0-(↑(List.length a0):Int))<0 then
 some (-1)
 else
 Zv (fun v=>Zl6 a0 v.1 v.2.1) (IntKind.i64.wrap (left0-(↑(List.length a0):Int)),(0:Int),())
def c21:Ctr:=D2 (.sl (ZU)) (.int .i64) (.int .i64) Zcp
def Ve (a0:List Zh) (left0:Int):Option Int :=
 if IntKind.i64.wrap (left0-(↑(List.length a0):Int))<0 then
 some (-1)
 else
 some (IntKind.i64.wrap (left0-(↑(List.length a0):Int)))
def c22:Ctr:=D2 (.sl (Zx)) (.int .i64) (.int .i64) Ve
def Qx (a0:Zg) (left0:Int):Option Int :=
 (Y4 (Zg.From a0) left0).bind fun szInt64S0 =>
 if szInt64S0<0 then
 some (-1)
 else
 (Y4 (Zg.Through a0) szInt64S0).bind fun szInt64S1 =>
 if szInt64S1<0 then
 some (-1)
 else
 (Y4 (Zg.To a0) szInt64S1).bind fun szInt64S2 =>
 if szInt64S2<0 then
 some (-1)
 else
 some szInt64S2
def c23:Ctr:=D2 (ZA) (.int .i64) (.int .i64) Qx
def Zi6 (a0:List Zg) (left1:Int) (i0:Int):Option ((Int×Int×Unit) ⊕ Int) :=
 if i0<(↑(List.length a0):Int) then
 (atI a0 i0).bind fun x0 =>
 (Qx x0 left1).bind fun szException0 =>
 if szException0<0 then
 some (.inr (-1))
 else
 some (.inl (szException0,IntKind.i64.wrap (i0+1),()))
 else
 some (.inr left1)
def VG (a0:List Zg) (left0:Int):Option Int :=
 if IntKind.i64.wrap (left0-(↑(List.length a0):Int))<0 then
 some (-1)
 else
 Zv (fun v=>Zi6 a0 v.1 v.2.1) (IntKind.i64.wrap (left0-(↑(List.length a0):Int)),(0:Int),())
def c24:Ctr:=D2 (.sl (ZA)) (.int .i64) (.int .i64) VG
def JG (a0:Zu) (left0:Int):Option Int :=
 if IntKind.i64.wrap (left0-(↑(List.length (Zu.Name a0)):Int))<0 then
 some (-1)
 else
 some (IntKind.i64.wrap (left0-(↑(List.length (Zu.Name a0)):Int)))
def c25:Ctr:=D2 (ZW) (.int .i64) (.int .i64) JG
def Zli (a0:List Zu) (left1:Int) (i0:Int):Option ((Int×Int×Unit) ⊕ Int) :=
 if i0<(↑(List.length a0):Int) then
 (atI a0 i0).bind fun x0 =>
 (JG x0 left1).bind fun szCorner0 =>
 if szCorner0<0 then
 some (.inr (-1))
 else
 some (.inl (szCorner0,IntKind.i64.wrap (i0+1),()))
 else
 some (.inr left1)
def Zbj (a0:List Zu) (left0:Int):Option Int :=
 if IntKind.i64.wrap (left0-(↑(List.length a0):Int))<0 then
 some (-1)
 else
 Zv (fun v=>Zli a0 v.1 v.2.1) (IntKind.i64.wrap (left0-(↑(List.length a0):Int)),(0:Int),())
def c26:Ctr:=D2 (.sl (ZW)) (.int .i64) (.int .i64) Zbj
def ZdZ (a0:Zn) (left0:Int):Option Int :=
 (Zcp (Zn.YS a0) left0).bind fun szClockS0 =>
 if szClockS0<0 then
 some (-1)
 else
 (Ve (Zn.Qw a0) szClockS0).bind fun szExternalS0 =>
 if szExternalS0<0 then
 some (-1)
 else
 (Ve (Zn.Xu a0) szExternalS0).bind fun szExternalS1 =>
 if szExternalS1<0 then
 some (-1)
 else
 (VG (Zn.Exceptions a0) szExternalS1).bind fun szExceptionS0 =>
 if szExceptionS0<0 then
 some (-1)
 else
 (Zbj (Zn.QJ a0) szExceptionS0).bind fun szCornerS0 =>
 if szCornerS0<0 then
 some (-1)
 else
 some szCornerS0
def c27:Ctr:=D2 (YR) (.int .i64) (.int .i64) ZdZ
def Zh5 (a0:YE):Option YE :=
 some a0
def c28:Ctr:=D1 (ZdU) (ZdU) Zh5
def Zok (a0:List YE) (i0:Int) (l0:List (List UInt8×Int×Int×Bool×Unit)):Option ((Int×(List (List UInt8×Int×Int×Bool×Unit))×Unit) ⊕ List YE) :=
 if i0<(↑(List.length a0):Int) then
 (atI a0 i0).bind fun x0 =>
 (Zh5 x0).bind fun toPin0 =>
 (atI l0 i0).bind fun x1 =>
 some (.inl (IntKind.i64.wrap (i0+1),List.set l0 (Int.toNat i0) toPin0,()))
 else
 some (.inr l0)
def Zjg (a0:List YE):Option (List YE) :=
 Zw ((0:Int)≤(↑(List.length a0):Int)) <|
 Zw ((↑(List.length a0):Int)≤(↑(List.length a0):Int)) <|
 Zw ((↑(List.length a0):Int)≤(4611686018427387904:Int)) <|
 Zw ((↑(40:Nat):Int)*(↑(List.length a0):Int)≤(281474976710656:Int)) <|
 Zv (fun v=>Zok a0 v.1 v.2.1) ((0:Int),List.replicate (Int.toNat (↑(List.length a0):Int)) (([]:List UInt8),(0:Int),(0:Int),Bool.false,()),())
def c29:Ctr:=⟨[.dat (.sl (ZdU))],[.own (.ol 274 (.flat (ZdU)))],fun a K=>splitK a fun a0 a=>YA (Zjg a0) fun r=>K (r,()) ()⟩
def ZmC (a0:List Int) (i0:Int) (l0:List Int):Option ((Int×(List Int)×Unit) ⊕ List Int) :=
 if i0<(↑(List.length a0):Int) then
 (atI a0 i0).bind fun x0 =>
 (atI l0 i0).bind fun x1 =>
 some (.inl (IntKind.i64.wrap (i0+1),List.set l0 (Int.toNat i0) x0,()))
 else
 some (.inr l0)
def Xk (a0:List Int):Option (List Int) :=
 Zw ((0:Int)≤(↑(List.length a0):Int)) <|
 Zw ((↑(List.length a0):Int)≤(↑(List.length a0):Int)) <|
 Zw ((↑(List.length a0):Int)≤(4611686018427387904:Int)) <|
 Zw ((↑(8:Nat):Int)*(↑(List.length a0):Int)≤(281474976710656:Int)) <|
 Zv (fun v=>ZmC a0 v.1 v.2.1) ((0:Int),List.replicate (Int.toNat (↑(List.length a0):Int)) (0:Int),())
def c30:Ctr:=⟨[.dat (.sl (.int .i64))],[.own (.ol 2 (.flat (.int .i64)))],fun a K=>splitK a fun a0 a=>YA (Xk a0) fun r=>K (r,()) ()⟩
def Zfw (a0:ZB):Option ZB :=
 (Xk (ZB.Zh2 a0)).bind fun toInt64S0 =>
 (Xk (ZB.Loads a0)).bind fun toInt64S1 =>
 (Xk (ZB.Values a0)).bind fun toInt64S2 =>
 some (toInt64S0,toInt64S1,toInt64S2,())
def c31:Ctr:=⟨[.dat (YZ)],[.own (ZfI)],fun a K=>splitK a fun a0 a=>YA (Zfw a0) fun r=>K (r,()) ()⟩
def Zmk (a0:List ZB) (i0:Int) (l0:List ZB):Option ((Int×(List ZB)×Unit) ⊕ List ZB) :=
 if i0<(↑(List.length a0):Int) then
 (atI a0 i0).bind fun x0 =>
 (Zfw x0).bind fun toTable0 =>
 (atI l0 i0).bind fun x1 =>
 some (.inl (IntKind.i64.wrap (i0+1),List.set l0 (Int.toNat i0) toTable0,()))
 else
 some (.inr l0)
def Zd1 (a0:List ZB):Option (List ZB) :=
 Zw ((0:Int)≤(↑(List.length a0):Int)) <|
 Zw ((↑(List.length a0):Int)≤(↑(List.length a0):Int)) <|
 Zw ((↑(List.length a0):Int)≤(4611686018427387904:Int)) <|
 Zw ((↑(72:Nat):Int)*(↑(List.length a0):Int)≤(281474976710656:Int)) <|
 Zv (fun v=>Zmk a0 v.1 v.2.1) ((0:Int),List.replicate (Int.toNat (↑(List.length a0):Int)) (([]:List Int),([]:List Int),([]:List Int),()),())
def c32:Ctr:=⟨[.dat (.sl (YZ))],[.own (.ol 337 (ZfI))],fun a K=>splitK a fun a0 a=>YA (Zd1 a0) fun r=>K (r,()) ()⟩
def Zh8 (a0:ZH):Option ZH :=
 (Zd1 (ZH.Delay a0)).bind fun toTableS0 =>
 (Zd1 (ZH.ZdY a0)).bind fun toTableS1 =>
 some (ZH.Kind a0,ZH.From a0,ZH.To a0,ZH.Zcm a0,toTableS0,toTableS1,())
def c33:Ctr:=⟨[.dat (ZfF)],[.own (Zxk)],fun a K=>splitK a fun a0 a=>YA (Zh8 a0) fun r=>K (r,()) ()⟩
def ZoJ (a0:List ZH) (i0:Int) (l0:List ZH):Option ((Int×(List ZH)×Unit) ⊕ List ZH) :=
 if i0<(↑(List.length a0):Int) then
 (atI a0 i0).bind fun x0 =>
 (Zh8 x0).bind fun toArc0 =>
 (atI l0 i0).bind fun x1 =>
 some (.inl (IntKind.i64.wrap (i0+1),List.set l0 (Int.toNat i0) toArc0,()))
 else
 some (.inr l0)
def ZiB (a0:List ZH):Option (List ZH) :=
 Zw ((0:Int)≤(↑(List.length a0):Int)) <|
 Zw ((↑(List.length a0):Int)≤(↑(List.length a0):Int)) <|
 Zw ((↑(List.length a0):Int)≤(4611686018427387904:Int)) <|
 Zw ((↑(80:Nat):Int)*(↑(List.length a0):Int)≤(281474976710656:Int)) <|
 Zv (fun v=>ZoJ a0 v.1 v.2.1) ((0:Int),List.replicate (Int.toNat (↑(List.length a0):Int)) ((0:Int),(0:Int),(0:Int),(0:Int),([]:List ZB),([]:List ZB),()),())
def c34:Ctr:=⟨[.dat (.sl (ZfF))],[.own (.ol 292 (Zxk))],fun a K=>splitK a fun a0 a=>YA (ZiB a0) fun r=>K (r,()) ()⟩
def Zg9 (a0:Zm):Option Zm :=
 (Zjg (Zm.YC a0)).bind fun toPinS0 =>
 (ZiB (Zm.Zak a0)).bind fun toArcS0 =>
 (Xk (Zm.Truth a0)).bind fun toInt64S0 =>
 some (Zm.Name a0,Zm.Kind a0,toPinS0,toArcS0,toInt64S0,a0.snd.snd.snd.snd.snd)
def c35:Ctr:=⟨[.dat (XY)],[.own (Zps)],fun a K=>splitK a fun a0 a=>YA (Zg9 a0) fun r=>K (r,()) ()⟩
def ZnG (a0:List Zm) (i0:Int) (l0:List Zm):Option ((Int×(List Zm)×Unit) ⊕ List Zm) :=
 if i0<(↑(List.length a0):Int) then
 (atI a0 i0).bind fun x0 =>
 (Zg9 x0).bind fun toCell0 =>
 (atI l0 i0).bind fun x1 =>
 some (.inl (IntKind.i64.wrap (i0+1),List.set l0 (Int.toNat i0) toCell0,()))
 else
 some (.inr l0)
def Zhs (a0:List Zm):Option (List Zm) :=
 Zw ((0:Int)≤(↑(List.length a0):Int)) <|
 Zw ((↑(List.length a0):Int)≤(↑(List.length a0):Int)) <|
 Zw ((↑(List.length a0):Int)≤(4611686018427387904:Int)) <|
 Zw ((↑(112:Nat):Int)*(↑(List.length a0):Int)≤(281474976710656:Int)) <|
 Zv (fun v=>ZnG a0 v.1 v.2.1) ((0:Int),List.replicate (Int.toNat (↑(List.length a0):Int)) (([]:List UInt8),(0:Int),([]:List YE),([]:List ZH),([]:List Int),(0:Int),(0:Int),()),())
def c36:Ctr:=⟨[.dat (.sl (XY))],[.own (.ol 208 (Zps))],fun a K=>splitK a fun a0 a=>YA (Zhs a0) fun r=>K (r,()) ()⟩
def Zfs (a0:Zp):Option Zp :=
 (Zhs (Zp.Cells a0)).bind fun toCellS0 =>
 some (toCellS0,())
def c37:Ctr:=⟨[.dat (YN)],[.own (ZnB)],fun a K=>splitK a fun a0 a=>YA (Zfs a0) fun r=>K (r,()) ()⟩
def Zcb (a0:Ze):Option Ze :=
 (Xk (Ze.ZI a0)).bind fun toInt64S0 =>
 some (Ze.Name a0,Ze.Cell a0,toInt64S0,())
def c38:Ctr:=⟨[.dat (ZX)],[.own (Zcf)],fun a K=>splitK a fun a0 a=>YA (Zcb a0) fun r=>K (r,()) ()⟩
def ZjB (a0:List Ze) (i0:Int) (l0:List Ze):Option ((Int×(List Ze)×Unit) ⊕ List Ze) :=
 if i0<(↑(List.length a0):Int) then
 (atI a0 i0).bind fun x0 =>
 (Zcb x0).bind fun toInstance0 =>
 (atI l0 i0).bind fun x1 =>
 some (.inl (IntKind.i64.wrap (i0+1),List.set l0 (Int.toNat i0) toInstance0,()))
 else
 some (.inr l0)
def Zc8 (a0:List Ze):Option (List Ze) :=
 Zw ((0:Int)≤(↑(List.length a0):Int)) <|
 Zw ((↑(List.length a0):Int)≤(↑(List.length a0):Int)) <|
 Zw ((↑(List.length a0):Int)≤(4611686018427387904:Int)) <|
 Zw ((↑(48:Nat):Int)*(↑(List.length a0):Int)≤(281474976710656:Int)) <|
 Zv (fun v=>ZjB a0 v.1 v.2.1) ((0:Int),List.replicate (Int.toNat (↑(List.length a0):Int)) (([]:List UInt8),(0:Int),([]:List Int),()),())
def c39:Ctr:=⟨[.dat (.sl (ZX))],[.own (.ol 147 (Zcf))],fun a K=>splitK a fun a0 a=>YA (Zc8 a0) fun r=>K (r,()) ()⟩
def Zle (a0:List (List UInt8)) (i0:Int) (l0:List (List UInt8)):Option ((Int×(List (List UInt8))×Unit) ⊕ List (List UInt8)) :=
 if i0<(↑(List.length a0):Int) then
 (atI a0 i0).bind fun x0 =>
 (atI l0 i0).bind fun x1 =>
 some (.inl (IntKind.i64.wrap (i0+1),List.set l0 (Int.toNat i0) x0,()))
 else
 some (.inr l0)
def Zfr (a0:List (List UInt8)):Option (List (List UInt8)) :=
 Zw ((0:Int)≤(↑(List.length a0):Int)) <|
 Zw ((↑(List.length a0):Int)≤(↑(List.length a0):Int)) <|
 Zw ((↑(List.length a0):Int)≤(4611686018427387904:Int)) <|
 Zw ((↑(16:Nat):Int)*(↑(List.length a0):Int)≤(281474976710656:Int)) <|
 Zv (fun v=>Zle a0 v.1 v.2.1) ((0:Int),List.replicate (Int.toNat (↑(List.length a0):Int)) (([]:List UInt8)),())
def c40:Ctr:=⟨[.dat (.sl (.str))],[.own (.ol 9 (.flat (.str)))],fun a K=>splitK a fun a0 a=>YA (Zfr a0) fun r=>K (r,()) ()⟩
def Zha (a0:ZT):Option ZT :=
 some a0
def c41:Ctr:=D1 (Jf) (Jf) Zha
def ZmS (a0:List ZT) (i0:Int) (l0:List (List UInt8×Int×Int×Unit)):Option ((Int×(List (List UInt8×Int×Int×Unit))×Unit) ⊕ List ZT) :=
 if i0<(↑(List.length a0):Int) then
 (atI a0 i0).bind fun x0 =>
 (Zha x0).bind fun toPort0 =>
 (atI l0 i0).bind fun x1 =>
 some (.inl (IntKind.i64.wrap (i0+1),List.set l0 (Int.toNat i0) toPort0,()))
 else
 some (.inr l0)
def Zhx (a0:List ZT):Option (List ZT) :=
 Zw ((0:Int)≤(↑(List.length a0):Int)) <|
 Zw ((↑(List.length a0):Int)≤(↑(List.length a0):Int)) <|
 Zw ((↑(List.length a0):Int)≤(4611686018427387904:Int)) <|
 Zw ((↑(32:Nat):Int)*(↑(List.length a0):Int)≤(281474976710656:Int)) <|
 Zv (fun v=>ZmS a0 v.1 v.2.1) ((0:Int),List.replicate (Int.toNat (↑(List.length a0):Int)) (([]:List UInt8),(0:Int),(0:Int),()),())
def c42:Ctr:=⟨[.dat (.sl (Jf))],[.own (.ol 217 (.flat (Jf)))],fun a K=>splitK a fun a0 a=>YA (Zhx a0) fun r=>K (r,()) ()⟩
def Zgj (a0:Zb):Option Zb :=
 (Zc8 (Zb.Instances a0)).bind fun toInstanceS0 =>
 (Zfr (Zb.ZI a0)).bind fun toStringS0 =>
 (Zhx (Zb.ZK a0)).bind fun toPortS0 =>
 some (toInstanceS0,toStringS0,toPortS0,())
def c43:Ctr:=⟨[.dat (Yr)],[.own (ZnR)],fun a K=>splitK a fun a0 a=>YA (Zgj a0) fun r=>K (r,()) ()⟩
def Ze0 (a0:Zr):Option Zr :=
 (Xk (Zr.Parent a0)).bind fun toInt64S0 =>
 (Xk (Zr.Res a0)).bind fun toInt64S1 =>
 (Xk (Zr.Cap a0)).bind fun toInt64S2 =>
 (Xk (Zr.ZfR a0)).bind fun toInt64S3 =>
 some (toInt64S0,toInt64S1,toInt64S2,toInt64S3,())
def c44:Ctr:=⟨[.dat (XZ)],[.own (Zlc)],fun a K=>splitK a fun a0 a=>YA (Ze0 a0) fun r=>K (r,()) ()⟩
def Zne (a0:List Zr) (i0:Int) (l0:List Zr):Option ((Int×(List Zr)×Unit) ⊕ List Zr) :=
 if i0<(↑(List.length a0):Int) then
 (atI a0 i0).bind fun x0 =>
 (Ze0 x0).bind fun toWire0 =>
 (atI l0 i0).bind fun x1 =>
 some (.inl (IntKind.i64.wrap (i0+1),List.set l0 (Int.toNat i0) toWire0,()))
 else
 some (.inr l0)
def ZhC (a0:List Zr):Option (List Zr) :=
 Zw ((0:Int)≤(↑(List.length a0):Int)) <|
 Zw ((↑(List.length a0):Int)≤(↑(List.length a0):Int)) <|
 Zw ((↑(List.length a0):Int)≤(4611686018427387904:Int)) <|
 Zw ((↑(96:Nat):Int)*(↑(List.length a0):Int)≤(281474976710656:Int)) <|
 Zv (fun v=>Zne a0 v.1 v.2.1) ((0:Int),List.replicate (Int.toNat (↑(List.length a0):Int)) (([]:List Int),([]:List Int),([]:List Int),([]:List Int),()),())
def c45:Ctr:=⟨[.dat (.sl (XZ))],[.own (.ol 66 (Zlc))],fun a K=>splitK a fun a0 a=>YA (ZhC a0) fun r=>K (r,()) ()⟩
def Zhq (a0:Za):Option Za :=
 (Zfs (Za.Library a0)).bind fun toLibrary0 =>
 (Zgj (Za.Design a0)).bind fun toDesign0 =>
 (ZhC (Za.ZC a0)).bind fun toWireS0 =>
 some (toLibrary0,toDesign0,toWireS0,())
def c46:Ctr:=⟨[.dat (YB)],[.own (Zfy)],fun a K=>splitK a fun a0 a=>YA (Zhq a0) fun r=>K (r,()) ()⟩
def ZiV (a0:Zk):Option Zk :=
 (Ze0 (Zk.Ze1 a0)).bind fun toWire0 =>
 some (Zk.Kind a0,Zk.Place a0,Zk.Cell a0,Zk.Net a0,Zk.Node a0,Zk.Name a0,toWire0,())
def c47:Ctr:=⟨[.dat (Qv)],[.own (ZCs)],fun a K=>splitK a fun a0 a=>YA (ZiV a0) fun r=>K (r,()) ()⟩
def ZfK (a0:Zf):Option Zf :=
 some a0
def c48:Ctr:=D1 (ZU) (ZU) ZfK
def Zmr (a0:List Zf) (i0:Int) (l0:List (List UInt8×Int×Int×Int×Int×Int×Int×Bool×Int×Int×Int×Unit)):Option ((Int×(List (List UInt8×Int×Int×Int×Int×Int×Int×Bool×Int×Int×Int×Unit))×Unit) ⊕ List Zf) :=
 if i0<(↑(List.length a0):Int) then
 (atI a0 i0).bind fun x0 =>
 (ZfK x0).bind fun toClock0 =>
 (atI l0 i0).bind fun x1 =>
 some (.inl (IntKind.i64.wrap (i0+1),List.set l0 (Int.toNat i0) toClock0,()))
 else
 some (.inr l0)
def Zgb (a0:List Zf):Option (List Zf) :=
 Zw ((0:Int)≤(↑(List.length a0):Int)) <|
 Zw ((↑(List.length a0):Int)≤(↑(List.length a0):Int)) <|
 Zw ((↑(List.length a0):Int)≤(4611686018427387904:Int)) <|
 Zw ((↑(96:Nat):Int)*(↑(List.length a0):Int)≤(281474976710656:Int)) <|
 Zv (fun v=>Zmr a0 v.1 v.2.1) ((0:Int),List.replicate (Int.toNat (↑(List.length a0):Int)) (([]:List UInt8),(0:Int),(0:Int),(0:Int),(0:Int),(0:Int),(0:Int),Bool.false,(0:Int),(0:Int),(0:Int),()),())
def c49:Ctr:=⟨[.dat (.sl (ZU))],[.own (.ol 136 (.flat (ZU)))],fun a K=>splitK a fun a0 a=>YA (Zgb a0) fun r=>K (r,()) ()⟩
def Zg8 (a0:YG):Option YG :=
 some a0
def c50:Ctr:=D1 (ZnX) (ZnX) Zg8
def Zcg (a0:Zh):Option Zh :=
 (Zg8 (Zh.Delay a0)).bind fun toSpan0 =>
 (Zg8 (Zh.ZdY a0)).bind fun toSpan1 =>
 some (Zh.Place a0,Zh.Clock a0,toSpan0,toSpan1,())
def c51:Ctr:=D1 (Zx) (Zx) Zcg
def Zjx (a0:List Zh) (i0:Int) (l0:List (Int×Int×YG×YG×Unit)):Option ((Int×(List (Int×Int×YG×YG×Unit))×Unit) ⊕ List Zh) :=
 if i0<(↑(List.length a0):Int) then
 (atI a0 i0).bind fun x0 =>
 (Zcg x0).bind fun toExternal0 =>
 (atI l0 i0).bind fun x1 =>
 some (.inl (IntKind.i64.wrap (i0+1),List.set l0 (Int.toNat i0) toExternal0,()))
 else
 some (.inr l0)
def Zbd (a0:List Zh):Option (List Zh) :=
 Zw ((0:Int)≤(↑(List.length a0):Int)) <|
 Zw ((↑(List.length a0):Int)≤(↑(List.length a0):Int)) <|
 Zw ((↑(List.length a0):Int)≤(4611686018427387904:Int)) <|
 Zw ((↑(48:Nat):Int)*(↑(List.length a0):Int)≤(281474976710656:Int)) <|
 Zv (fun v=>Zjx a0 v.1 v.2.1) ((0:Int),List.replicate (Int.toNat (↑(List.length a0):Int)) ((0:Int),(0:Int),((0:Int),(0:Int),()),((0:Int),(0:Int),()),()),())
def c52:Ctr:=⟨[.dat (.sl (Zx))],[.own (.ol 163 (.flat (Zx)))],fun a K=>splitK a fun a0 a=>YA (Zbd a0) fun r=>K (r,()) ()⟩
def Zbe (a0:Zg):Option Zg :=
 (Xk (Zg.From a0)).bind fun toInt64S0 =>
 (Xk (Zg.Through a0)).bind fun toInt64S1 =>
 (Xk (Zg.To a0)).bind fun toInt64S2 =>
 some (Zg.Kind a0,Zg.Value a0,toInt64S0,toInt64S1,toInt64S2,())
def c53:Ctr:=⟨[.dat (ZA)],[.own (Zay)],fun a K=>splitK a fun a0 a=>YA (Zbe a0) fun r=>K (r,()) ()⟩
def Zi4 (a0:List Zg) (i0:Int) (l0:List Zg):Option ((Int×(List Zg)×Unit) ⊕ List Zg) :=
 if i0<(↑(List.length a0):Int) then
 (atI a0 i0).bind fun x0 =>
 (Zbe x0).bind fun toException0 =>
 (atI l0 i0).bind fun x1 =>
 some (.inl (IntKind.i64.wrap (i0+1),List.set l0 (Int.toNat i0) toException0,()))
 else
 some (.inr l0)
def Zcn (a0:List Zg):Option (List Zg) :=
 Zw ((0:Int)≤(↑(List.length a0):Int)) <|
 Zw ((↑(List.length a0):Int)≤(↑(List.length a0):Int)) <|
 Zw ((↑(List.length a0):Int)≤(4611686018427387904:Int)) <|
 Zw ((↑(88:Nat):Int)*(↑(List.length a0):Int)≤(281474976710656:Int)) <|
 Zv (fun v=>Zi4 a0 v.1 v.2.1) ((0:Int),List.replicate (Int.toNat (↑(List.length a0):Int)) ((0:Int),(0:Int),([]:List Int),([]:List Int),([]:List Int),()),())
def c54:Ctr:=⟨[.dat (.sl (ZA))],[.own (.ol 140 (Zay))],fun a K=>splitK a fun a0 a=>YA (Zcn a0) fun r=>K (r,()) ()⟩
def Zd3 (a0:Zu):Option Zu :=
 some a0
def c55:Ctr:=D1 (ZW) (ZW) Zd3
def Zk7 (a0:List Zu) (i0:Int) (l0:List (List UInt8×Int×Int×Int×Int×Unit)):Option ((Int×(List (List UInt8×Int×Int×Int×Int×Unit))×Unit) ⊕ List Zu) :=
 if i0<(↑(List.length a0):Int) then
 (atI a0 i0).bind fun x0 =>
 (Zd3 x0).bind fun toCorner0 =>
 (atI l0 i0).bind fun x1 =>
 some (.inl (IntKind.i64.wrap (i0+1),List.set l0 (Int.toNat i0) toCorner0,()))
 else
 some (.inr l0)
def Zfh (a0:List Zu):Option (List Zu) :=
 Zw ((0:Int)≤(↑(List.length a0):Int)) <|
 Zw ((↑(List.length a0):Int)≤(↑(List.length a0):Int)) <|
 Zw ((↑(List.length a0):Int)≤(4611686018427387904:Int)) <|
 Zw ((↑(48:Nat):Int)*(↑(List.length a0):Int)≤(281474976710656:Int)) <|
 Zv (fun v=>Zk7 a0 v.1 v.2.1) ((0:Int),List.replicate (Int.toNat (↑(List.length a0):Int)) (([]:List UInt8),(0:Int),(0:Int),(0:Int),(0:Int),()),())
def c56:Ctr:=⟨[.dat (.sl (ZW))],[.own (.ol 169 (.flat (ZW)))],fun a K=>splitK a fun a0 a=>YA (Zfh a0) fun r=>K (r,()) ()⟩
def ZhW (a0:Zn):Option Zn :=
 (Zgb (Zn.YS a0)).bind fun toClockS0 =>
 (Zbd (Zn.Qw a0)).bind fun toExternalS0 =>
 (Zbd (Zn.Xu a0)).bind fun toExternalS1 =>
 (Zcn (Zn.Exceptions a0)).bind fun toExceptionS0 =>
 (Zfh (Zn.QJ a0)).bind fun toCornerS0 =>
 some (toClockS0,toExternalS0,toExternalS1,toExceptionS0,toCornerS0,())
def c57:Ctr:=⟨[.dat (YR)],[.own (ZoZ)],fun a K=>splitK a fun a0 a=>YA (ZhW a0) fun r=>K (r,()) ()⟩
def Zeq (s0:List UInt8) (i0:Int):Option ((Int×Unit) ⊕ Bool) :=
 if i0<(↑(List.length s0):Int) then
 (atI s0 i0).bind fun x0 =>
 if 97≤(↑(UInt8.toNat x0):Int) then
 if 48≤(↑(UInt8.toNat x0):Int) then
 if (↑(UInt8.toNat x0):Int)≤122 then
 some (.inl (IntKind.i64.wrap (i0+1),()))
 else
 if (↑(UInt8.toNat x0):Int)≤57 then
 if 0<i0 then
 some (.inl (IntKind.i64.wrap (i0+1),()))
 else
 some (.inr Bool.false)
 else
 some (.inr Bool.false)
 else
 if (↑(UInt8.toNat x0):Int)≤122 then
 some (.inl (IntKind.i64.wrap (i0+1),()))
 else
 some (.inr Bool.false)
 else
 if 48≤(↑(UInt8.toNat x0):Int) then
 if (↑(UInt8.toNat x0):Int)≤57 then
 if 0<i0 then
 some (.inl (IntKind.i64.wrap (i0+1),()))
 else
 some (.inr Bool.false)
 else
 some (.inr Bool.false)
 else
 some (.inr Bool.false)
 else
 if 1≤(↑(List.length s0):Int) then
 some (.inr (Decidable.decide ((↑(List.length s0):Int)≤8)))
 else
 some (.inr Bool.false)
def Jr (s0:List UInt8):Option Bool :=
 Zv (fun v=>Zeq s0 v.1) ((0:Int),())
def c58:Ctr:=D1 (.str) (.bool) Jr
def ZE (n0:Int) (low0:Int) (high0:Int):Option Bool :=
 if low0≤n0 then
 some (Decidable.decide (n0≤high0))
 else
 some Bool.false
def c59:Ctr:=D3 (.int .i64) (.int .i64) (.int .i64) (.bool) ZE
def Va (a0:Zm) (v0:Int) (v1:Int) (x0:YE) (v2:Int):Option ((Int×Unit) ⊕ ((Int×Int×Unit) ⊕ (Int×Bool))) :=
 if v2<v1 then
 (atI (Zm.YC a0) v2).bind fun x1 =>
 if YE.Name x1=YE.Name x0 then
 some (.inr (.inr (0,Bool.false)))
 else
 some (.inl (IntKind.i64.wrap (v2+1),()))
 else
 (Jr (YE.Name x0)).bind fun l03Name0 =>
 if l03Name0=true then
 (ZE (YE.Cap x0) 0 500).bind fun l01In0 =>
 if l01In0=true then
 if v1=IntKind.i64.wrap ((↑(List.length (Zm.YC a0)):Int)-1) then
 if YE.Dir x0=2 then
 if YE.Cap x0=0 then
 if (YE.Clock x0)=true then
 some (.inr (.inr (0,Bool.false)))
 else
 if v1<IntKind.i64.wrap ((↑(List.length (Zm.YC a0)):Int)-1) then
 if YE.Dir x0=1 then
 if (YE.Clock x0)=true then
 some (.inr (.inl (IntKind.i64.wrap (v0+1),IntKind.i64.wrap (v1+1),())))
 else
 some (.inr (.inl (v0,IntKind.i64.wrap (v1+1),())))
 else
 some (.inr (.inr (0,Bool.false)))
 else
 if (YE.Clock x0)=true then
 some (.inr (.inl (IntKind.i64.wrap (v0+1),IntKind.i64.wrap (v1+1),())))
 else
 some (.inr (.inl (v0,IntKind.i64.wrap (v1+1),())))
 else
 some (.inr (.inr (0,Bool.false)))
 else
 some (.inr (.inr (0,Bool.false)))
 else
 if v1<IntKind.i64.wrap ((↑(List.length (Zm.YC a0)):Int)-1) then
 if YE.Dir x0=1 then
 if (YE.Clock x0)=true then
 some (.inr (.inl (IntKind.i64.wrap (v0+1),IntKind.i64.wrap (v1+1),())))
 else
 some (.inr (.inl (v0,IntKind.i64.wrap (v1+1),())))
 else
 some (.inr (.inr (0,Bool.false)))
 else
 if (YE.Clock x0)=true then
 some (.inr (.inl (IntKind.i64.wrap (v0+1),IntKind.i64.wrap (v1+1),())))
 else
 some (.inr (.inl (v0,IntKind.i64.wrap (v1+1),())))
 else
 some (.inr (.inr (0,Bool.false)))
 else
 some (.inr (.inr (0,Bool.false)))
def JK (a0:Zm) (v0:Int) (v1:Int):Option ((Int×Int×Unit) ⊕ (Int×Bool)) :=
 if v1<(↑(List.length (Zm.YC a0)):Int) then
 (atI (Zm.YC a0) v1).bind fun x0 =>
 Zv (fun v=>Va a0 v0 v1 x0 v.1) ((0:Int),())
 else
 some (.inr (v0,Bool.true))
def ZhB (a0:Zm):Option (Int×Bool) :=
 if (↑(List.length (Zm.YC a0)):Int)<2 then
 some (0,Bool.false)
 else
 if 5<(↑(List.length (Zm.YC a0)):Int) then
 some (0,Bool.false)
 else
 Zv (fun v=>JK a0 v.1 v.2.1) ((0:Int),(0:Int),())
def c60:Ctr:=⟨[.dat (XY)],[.dat (.int .i64),.dat (.bool)],fun a K=>splitK a fun a0 a=>YA (ZhB a0) fun r=>K (r.1,r.2,()) ()⟩
def Zes (list0:List Int) (i0:Int):Option ((Int×Unit) ⊕ Bool) :=
 if i0<(↑(List.length list0):Int) then
 (atI list0 i0).bind fun x0 =>
 (ZE x0 0 100000).bind fun l01In0 =>
 if l01In0=true then
 if 0<i0 then
 (atI list0 (IntKind.i64.wrap (i0-1))).bind fun x1 =>
 if x0≤x1 then
 some (.inr Bool.false)
 else
 some (.inl (IntKind.i64.wrap (i0+1),()))
 else
 some (.inl (IntKind.i64.wrap (i0+1),()))
 else
 some (.inr Bool.false)
 else
 if 1≤(↑(List.length list0):Int) then
 some (.inr (Decidable.decide ((↑(List.length list0):Int)≤4)))
 else
 some (.inr Bool.false)
def ZfQ (list0:List Int):Option Bool :=
 Zv (fun v=>Zes list0 v.1) ((0:Int),())
def c61:Ctr:=D1 (.sl (.int .i64)) (.bool) ZfQ
def Zeg (t0:ZB) (i0:Int):Option ((Int×Unit) ⊕ Bool) :=
 if i0<(↑(List.length (ZB.Values t0)):Int) then
 (atI (ZB.Values t0) i0).bind fun x0 =>
 (ZE x0 (-1000000) 1000000).bind fun l01In0 =>
 if l01In0=true then
 some (.inl (IntKind.i64.wrap (i0+1),()))
 else
 some (.inr Bool.false)
 else
 some (.inr Bool.true)
def ZhT (t0:ZB):Option Bool :=
 (ZfQ (ZB.Zh2 t0)).bind fun l02Axis0 =>
 if l02Axis0=true then
 (ZfQ (ZB.Loads t0)).bind fun l02Axis1 =>
 if l02Axis1=true then
 if (↑(List.length (ZB.Values t0)):Int)=IntKind.i64.wrap ((↑(List.length (ZB.Zh2 t0)):Int)*(↑(List.length (ZB.Loads t0)):Int)) then
 Zv (fun v=>Zeg t0 v.1) ((0:Int),())
 else
 some Bool.false
 else
 some Bool.false
 else
 some Bool.false
def c62:Ctr:=D1 (YZ) (.bool) ZhT
def V8 (t0:ZB) (i0:Int) (c0:Int) (c1:Int):Option ((Int×Int×Int×Unit) ⊕ (YG×Int)) :=
 if i0<(↑(List.length (ZB.Values t0)):Int) then
 (atI (ZB.Values t0) i0).bind fun x1 =>
 some (.inl (IntKind.i64.wrap (i0+1),Min.min c0 x1,Max.max c1 x1,()))
 else
 some (.inr ((c0,c1,()),0))
def Zdc (t0:ZB):Option (YG×Int) :=
 (ZhT t0).bind fun IsTable0 =>
 if IsTable0=true then
 (atI (ZB.Values t0) 0).bind fun x0 =>
 Zv (fun v=>V8 t0 v.1 v.2.1 v.2.2.1) ((1:Int),x0,x0,())
 else
 some ((0,0,()),1)
def c63:Ctr:=⟨[.dat (YZ)],[.dat (ZnX),.dat (.int .i64)],fun a K=>splitK a fun t0 a=>YA (Zdc t0) fun r=>K (r.1,r.2,()) ()⟩
def ZcV (list0:List ZB) (positive0:Bool) (i0:Int):Option ((Int×Unit) ⊕ Bool) :=
 if i0<2 then
 (atI list0 i0).bind fun x0 =>
 (Zdc x0).bind fun TableBounds0 =>
 if TableBounds0.snd=0 then
 if positive0=true then
 if TableBounds0.fst.fst<0 then
 some (.inr Bool.false)
 else
 some (.inl (IntKind.i64.wrap (i0+1),()))
 else
 some (.inl (IntKind.i64.wrap (i0+1),()))
 else
 some (.inr Bool.false)
 else
 some (.inr Bool.true)
def YQ (list0:List ZB) (positive0:Bool):Option Bool :=
 if (↑(List.length list0):Int)=2 then
 Zv (fun v=>ZcV list0 positive0 v.1) ((0:Int),())
 else
 some Bool.false
def c64:Ctr:=D2 (.sl (YZ)) (.bool) (.bool) YQ
def Zja (a0:Zm) (a1:ZH):Option Bool :=
 (ZE (ZH.From a1) 0 (IntKind.i64.wrap (IntKind.i64.wrap ((↑(List.length (Zm.YC a0)):Int)-1)-1))).bind fun l01In0 =>
 if l01In0=true then
 (ZE (ZH.To a1) 0 (IntKind.i64.wrap ((↑(List.length (Zm.YC a0)):Int)-1))).bind fun l01In1 =>
 if l01In1=true then
 (atI (Zm.YC a0) (ZH.From a1)).bind fun x0 =>
 if ZH.Kind a1=1 then
 if (YE.Clock x0)=true then
 some Bool.false
 else
 if ZH.To a1=IntKind.i64.wrap ((↑(List.length (Zm.YC a0)):Int)-1) then
 (ZE (ZH.Zcm a1) 1 3).bind fun l01In2 =>
 if l01In2=true then
 (YQ (ZH.Delay a1) Bool.true).bind fun l03Tables0 =>
 if l03Tables0=true then
 (YQ (ZH.ZdY a1) Bool.true).bind fun l03Tables1 =>
 some l03Tables1
 else
 some Bool.false
 else
 some Bool.false
 else
 some Bool.false
 else
 if ZH.Kind a1=2 then
 if ZH.Kind a1=2 then
 if (YE.Clock x0)=true then
 if ZH.To a1=IntKind.i64.wrap ((↑(List.length (Zm.YC a0)):Int)-1) then
 if ZH.Zcm a1=0 then
 (YQ (ZH.Delay a1) Bool.true).bind fun l03Tables0 =>
 if l03Tables0=true then
 (YQ (ZH.ZdY a1) Bool.true).bind fun l03Tables1 =>
 some l03Tables1
 else
 some Bool.false
 else
 some Bool.false
 else
 some Bool.false
 else
 some Bool.false
 else
 if ZH.Kind a1=4 then
 if ZH.Kind a1=4 then
 if (YE.Clock x0)=true then
 if ZH.To a1<IntKind.i64.wrap ((↑(List.length (Zm.YC a0)):Int)-1) then
 (atI (Zm.YC a0) (ZH.To a1)).bind fun x1 =>
 if (YE.Clock x1)=true then
 some Bool.false
 else
 if ZH.Zcm a1=0 then
 (YQ (ZH.Delay a1) Bool.false).bind fun l03Tables0 =>
 if l03Tables0=true then
 some (Decidable.decide ((↑(List.length (ZH.ZdY a1)):Int)=0))
 else
 some Bool.false
 else
 some Bool.false
 else
 some Bool.false
 else
 some Bool.false
 else
 some Bool.false
 else
 if ZH.Kind a1=5 then
 if (YE.Clock x0)=true then
 if ZH.To a1<IntKind.i64.wrap ((↑(List.length (Zm.YC a0)):Int)-1) then
 (atI (Zm.YC a0) (ZH.To a1)).bind fun x1 =>
 if (YE.Clock x1)=true then
 some Bool.false
 else
 if ZH.Zcm a1=0 then
 (YQ (ZH.Delay a1) Bool.false).bind fun l03Tables0 =>
 if l03Tables0=true then
 some (Decidable.decide ((↑(List.length (ZH.ZdY a1)):Int)=0))
 else
 some Bool.false
 else
 some Bool.false
 else
 some Bool.false
 else
 some Bool.false
 else
 some Bool.false
 else
 if ZH.Kind a1=3 then
 if (YE.Clock x0)=true then
 if ZH.To a1=IntKind.i64.wrap ((↑(List.length (Zm.YC a0)):Int)-1) then
 if ZH.Zcm a1=0 then
 (YQ (ZH.Delay a1) Bool.true).bind fun l03Tables0 =>
 if l03Tables0=true then
 (YQ (ZH.ZdY a1) Bool.true).bind fun l03Tables1 =>
 some l03Tables1
 else
 some Bool.false
 else
 some Bool.false
 else
 some Bool.false
 else
 some Bool.false
 else
 if ZH.Kind a1=4 then
 if ZH.Kind a1=4 then
 if (YE.Clock x0)=true then
 if ZH.To a1<IntKind.i64.wrap ((↑(List.length (Zm.YC a0)):Int)-1) then
 (atI (Zm.YC a0) (ZH.To a1)).bind fun x1 =>
 if (YE.Clock x1)=true then
 some Bool.false
 else
 if ZH.Zcm a1=0 then
 (YQ (ZH.Delay a1) Bool.false).bind fun l03Tables0 =>
 if l03Tables0=true then
 some (Decidable.decide ((↑(List.length (ZH.ZdY a1)):Int)=0))
 else
 some Bool.false
 else
 some Bool.false
 else
 some Bool.false
 else
 some Bool.false
 else
 some Bool.false
 else
 if ZH.Kind a1=5 then
 if (YE.Clock x0)=true then
 if ZH.To a1<IntKind.i64.wrap ((↑(List.length (Zm.YC a0)):Int)-1) then
 (atI (Zm.YC a0) (ZH.To a1)).bind fun x1 =>
 if (YE.Clock x1)=true then
 some Bool.false
 else
 if ZH.Zcm a1=0 then
 (YQ (ZH.Delay a1) Bool.false).bind fun l03Tables0 =>
 if l03Tables0=true then
 some (Decidable.decide ((↑(List.length (ZH.ZdY a1)):Int)=0))
 else
 some Bool.false
 else
 some Bool.false
 else
 some Bool.false
 else
 some Bool.false
 else
 some Bool.false
 else
 some Bool.false
 else
 some Bool.false
def c65:Ctr:=D2 (XY) (ZfF) (.bool) Zja
def ZaY (c0:Zm) (i0:Int) (l0:List Int):Option ((Int×(List Int)×Unit) ⊕ List Int) :=
 if i0<(↑(List.length (Zm.Zak c0)):Int) then
 (atI (Zm.Zak c0) i0).bind fun x0 =>
 (atI l0 (ZH.Kind x0)).bind fun x1 =>
 some (.inl (IntKind.i64.wrap (i0+1),List.set l0 (Int.toNat (ZH.Kind x0)) (IntKind.i64.wrap (x1+1)),()))
 else
 some (.inr l0)
def Zgf (c0:Zm):Option (List Int) :=
 Zv (fun v=>ZaY c0 v.1 v.2.1) ((0:Int),List.replicate (Int.toNat (6:Int)) (0:Int),())
def c66:Ctr:=⟨[.dat (XY)],[.own (.ol 2 (.flat (.int .i64)))],fun a K=>splitK a fun c0 a=>YA (Zgf c0) fun r=>K (r,()) ()⟩
def Zco (a0:Zm) (v0:Int) (x0:ZH) (v1:Int):Option ((Int×Unit) ⊕ ((Int×Unit) ⊕ Bool)) :=
 if v1<v0 then
 (atI (Zm.Zak a0) v1).bind fun x1 =>
 if ZH.Kind x1=ZH.Kind x0 then
 if ZH.From x1=ZH.From x0 then
 if ZH.To x1=ZH.To x0 then
 some (.inr (.inr Bool.false))
 else
 some (.inl (IntKind.i64.wrap (v1+1),()))
 else
 some (.inl (IntKind.i64.wrap (v1+1),()))
 else
 some (.inl (IntKind.i64.wrap (v1+1),()))
 else
 some (.inr (.inl (IntKind.i64.wrap (v0+1),())))
def Zci (a0:Zm) (l03Pins0:Int×Bool) (v1:Int):Option ((Int×Unit) ⊕ ((Int×Unit) ⊕ Bool)) :=
 if v1<(↑(List.length (Zm.Truth a0)):Int) then
 (atI (Zm.Truth a0) v1).bind fun x0 =>
 (ZE x0 0 1).bind fun l01In2 =>
 if l01In2=true then
 some (.inl (IntKind.i64.wrap (v1+1),()))
 else
 some (.inr (.inr Bool.false))
 else
 if l03Pins0.fst=0 then
 Zw ((0:Int)≤IntKind.wrap IntKind.u64 (IntKind.i64.wrap ((↑(List.length (Zm.YC a0)):Int)-(1:Int)))) <|
 some (.inr (.inr (Decidable.decide ((↑(List.length (Zm.Truth a0)):Int)=IntKind.i64.wrap (1*2 ^ Min.min (Int.toNat (IntKind.wrap IntKind.u64 (IntKind.i64.wrap ((↑(List.length (Zm.YC a0)):Int)-1)))) (IntKind.bits IntKind.i64))))))
 else
 some (.inr (.inr Bool.false))
def Ze7 (a0:Zm) (l03Pins0:Int×Bool) (v0:Int):Option ((Int×Unit) ⊕ Bool) :=
 if v0<(↑(List.length (Zm.Zak a0)):Int) then
 (atI (Zm.Zak a0) v0).bind fun x0 =>
 (Zja a0 x0).bind fun l03Arc0 =>
 if l03Arc0=true then
 Zv (fun v=>Zco a0 v0 x0 v.1) ((0:Int),())
 else
 some (.inr Bool.false)
 else
 (Zgf a0).bind fun l03Kinds0 =>
 if Zm.Kind a0=1 then
 Zv (fun v=>Zci a0 l03Pins0 v.1) ((0:Int),())
 else
 if Zm.Kind a0=2 then
 if l03Pins0.fst=1 then
 (atI l03Kinds0 1).bind fun x0 =>
 if x0=0 then
 (atI l03Kinds0 2).bind fun x1 =>
 (atI l03Kinds0 3).bind fun x2 =>
 if (Decidable.decide (0<x1) == Decidable.decide (0<x2))=true then
 some (.inr Bool.false)
 else
 some (.inr (Decidable.decide ((↑(List.length (Zm.Truth a0)):Int)=0)))
 else
 some (.inr Bool.false)
 else
 some (.inr Bool.false)
 else
 if Zm.Kind a0=3 then
 if l03Pins0.fst=1 then
 (atI l03Kinds0 1).bind fun x0 =>
 if 0<x0 then
 (atI l03Kinds0 2).bind fun x1 =>
 if 0<x1 then
 (atI l03Kinds0 3).bind fun x2 =>
 if x2=0 then
 some (.inr (Decidable.decide ((↑(List.length (Zm.Truth a0)):Int)=0)))
 else
 some (.inr Bool.false)
 else
 some (.inr Bool.false)
 else
 some (.inr Bool.false)
 else
 some (.inr Bool.false)
 else
 some (.inr Bool.false)
def Zjo (a0:Zm):Option Bool :=
 (ZhB a0).bind fun l03Pins0 =>
 if l03Pins0.snd=true then
 (Jr (Zm.Name a0)).bind fun l03Name0 =>
 if l03Name0=true then
 if 8<(↑(List.length (Zm.Zak a0)):Int) then
 some Bool.false
 else
 (ZE (Zm.Zy7 a0) 0 100000).bind fun l01In0 =>
 if l01In0=true then
 (ZE (Zm.Zlx a0) 0 100000).bind fun l01In1 =>
 if l01In1=true then
 Zv (fun v=>Ze7 a0 l03Pins0 v.1) ((0:Int),())
 else
 some Bool.false
 else
 some Bool.false
 else
 some Bool.false
 else
 some Bool.false
def c67:Ctr:=D1 (XY) (.bool) Zjo
def ZcY (l0:Zp) (i0:Int) (x0:Zm) (k0:Int):Option ((Int×Unit) ⊕ ((Int×Unit) ⊕ Bool)) :=
 if k0<i0 then
 (atI (Zp.Cells l0) k0).bind fun x1 =>
 if Zm.Name x1=Zm.Name x0 then
 some (.inr (.inr Bool.false))
 else
 some (.inl (IntKind.i64.wrap (k0+1),()))
 else
 some (.inr (.inl (IntKind.i64.wrap (i0+1),())))
def ZcM (l0:Zp) (i0:Int):Option ((Int×Unit) ⊕ Bool) :=
 if i0<(↑(List.length (Zp.Cells l0)):Int) then
 (atI (Zp.Cells l0) i0).bind fun x0 =>
 (Zjo x0).bind fun IsCell0 =>
 if IsCell0=true then
 Zv (fun v=>ZcY l0 i0 x0 v.1) ((0:Int),())
 else
 some (.inr Bool.false)
 else
 some (.inr (Decidable.decide ((↑(List.length (Zp.Cells l0)):Int)≤8)))
def Zfb (l0:Zp):Option Bool :=
 Zv (fun v=>ZcM l0 v.1) ((0:Int),())
def c68:Ctr:=D1 (YN) (.bool) Zfb
def Zdp (a1:Zb) (v0:Int) (x0:Ze) (v1:Int):Option ((Int×Unit) ⊕ ((Int×Unit) ⊕ Bool)) :=
 if v1<(↑(List.length (Ze.ZI x0)):Int) then
 (atI (Ze.ZI x0) v1).bind fun x2 =>
 (ZE x2 0 (IntKind.i64.wrap ((↑(List.length (Zb.ZI a1)):Int)-1))).bind fun l01In1 =>
 if l01In1=true then
 some (.inl (IntKind.i64.wrap (v1+1),()))
 else
 some (.inr (.inr Bool.false))
 else
 some (.inr (.inl (IntKind.i64.wrap (v0+1),())))
def ZdD (a1:Zb) (v1:Int):Option ((Int×Unit) ⊕ ((Int×Unit) ⊕ Bool)) :=
 if v1<(↑(List.length (Zb.ZK a1)):Int) then
 (atI (Zb.ZK a1) v1).bind fun x0 =>
 (ZE (ZT.Dir x0) 1 2).bind fun l01In0 =>
 if l01In0=true then
 (ZE (ZT.Net x0) 0 (IntKind.i64.wrap ((↑(List.length (Zb.ZI a1)):Int)-1))).bind fun l01In1 =>
 if l01In1=true then
 some (.inl (IntKind.i64.wrap (v1+1),()))
 else
 some (.inr (.inr Bool.false))
 else
 some (.inr (.inr Bool.false))
 else
 some (.inr (.inr Bool.true))
def ZdB (a0:Zp) (a1:Zb) (v0:Int):Option ((Int×Unit) ⊕ Bool) :=
 if v0<(↑(List.length (Zb.Instances a1)):Int) then
 (atI (Zb.Instances a1) v0).bind fun x0 =>
 (ZE (Ze.Cell x0) 0 (IntKind.i64.wrap ((↑(List.length (Zp.Cells a0)):Int)-1))).bind fun l01In0 =>
 if l01In0=true then
 (atI (Zp.Cells a0) (Ze.Cell x0)).bind fun x1 =>
 if (↑(List.length (Ze.ZI x0)):Int)=(↑(List.length (Zm.YC x1)):Int) then
 Zv (fun v=>Zdp a1 v0 x0 v.1) ((0:Int),())
 else
 some (.inr Bool.false)
 else
 some (.inr Bool.false)
 else
 Zv (fun v=>ZdD a1 v.1) ((0:Int),())
def Zgh (a0:Zp) (a1:Zb):Option Bool :=
 Zv (fun v=>ZdB a0 a1 v.1) ((0:Int),())
def c69:Ctr:=D2 (YN) (Yr) (.bool) Zgh
def ZdK (list0:List (List UInt8)) (i0:Int) (x0:List UInt8) (k0:Int):Option ((Int×Unit) ⊕ ((Int×Unit) ⊕ Bool)) :=
 if k0<i0 then
 (atI list0 k0).bind fun x1 =>
 if x1=x0 then
 some (.inr (.inr Bool.false))
 else
 some (.inl (IntKind.i64.wrap (k0+1),()))
 else
 some (.inr (.inl (IntKind.i64.wrap (i0+1),())))
def ZdI (list0:List (List UInt8)) (i0:Int):Option ((Int×Unit) ⊕ Bool) :=
 if i0<(↑(List.length list0):Int) then
 (atI list0 i0).bind fun x0 =>
 (Jr x0).bind fun l03Name0 =>
 if l03Name0=true then
 Zv (fun v=>ZdK list0 i0 x0 v.1) ((0:Int),())
 else
 some (.inr Bool.false)
 else
 some (.inr Bool.true)
def ZcF (list0:List (List UInt8)):Option Bool :=
 Zv (fun v=>ZdI list0 v.1) ((0:Int),())
def c70:Ctr:=D1 (.sl (.str)) (.bool) ZcF
def Zdy (l1:List Int) (v6:Int):Option ((Int×Unit) ⊕ ((Int×(List Int)×Unit) ⊕ ((Int×(List Int)×Unit) ⊕ (((List (List UInt8))×Int×Unit) ⊕ (((List (List UInt8))×Int×Unit) ⊕ Bool))))) :=
 if v6<(↑(List.length l1):Int) then
 (atI l1 v6).bind fun x0 =>
 if x0=1 then
 some (.inl (IntKind.i64.wrap (v6+1),()))
 else
 some (.inr (.inr (.inr (.inr (.inr Bool.false)))))
 else
 some (.inr (.inr (.inr (.inr (.inr Bool.true)))))
def VT (a1:Zb) (v5:Int) (l1:List Int):Option ((Int×(List Int)×Unit) ⊕ ((Int×(List Int)×Unit) ⊕ (((List (List UInt8))×Int×Unit) ⊕ (((List (List UInt8))×Int×Unit) ⊕ Bool)))) :=
 if v5<(↑(List.length (Zb.ZK a1)):Int) then
 (atI (Zb.ZK a1) v5).bind fun x0 =>
 if ZT.Dir x0=1 then
 (atI l1 (ZT.Net x0)).bind fun x1 =>
 some (.inl (IntKind.i64.wrap (v5+1),List.set l1 (Int.toNat (ZT.Net x0)) (IntKind.i64.wrap (x1+1)),()))
 else
 some (.inl (IntKind.i64.wrap (v5+1),l1,()))
 else
 Zv (fun v=>Zdy l1 v.1) ((0:Int),())
def VN (a1:Zb) (v4:Int) (l0:List Int):Option ((Int×(List Int)×Unit) ⊕ (((List (List UInt8))×Int×Unit) ⊕ (((List (List UInt8))×Int×Unit) ⊕ Bool))) :=
 if v4<(↑(List.length (Zb.Instances a1)):Int) then
 (atI (Zb.Instances a1) v4).bind fun x0 =>
 (atI (Ze.ZI x0) (IntKind.i64.wrap ((↑(List.length (Ze.ZI x0)):Int)-1))).bind fun x1 =>
 (atI l0 x1).bind fun x2 =>
 some (.inl (IntKind.i64.wrap (v4+1),List.set l0 (Int.toNat x1) (IntKind.i64.wrap (x2+1)),()))
 else
 Zv (fun v=>VT a1 v.1 v.2.1) ((0:Int),l0,())
def Zdo (a1:Zb) (v0:List (List UInt8)) (v2:List (List UInt8)) (v3:Int):Option (((List (List UInt8))×Int×Unit) ⊕ (((List (List UInt8))×Int×Unit) ⊕ Bool)) :=
 if v3<(↑(List.length (Zb.ZK a1)):Int) then
 (atI (Zb.ZK a1) v3).bind fun x0 =>
 Zw ((List.length v2+List.length [ZT.Name x0])*(16:Nat)≤(140737488355328:Nat)) <|
 some (.inl (v2++[ZT.Name x0],IntKind.i64.wrap (v3+(1:Int)),()))
 else
 (ZcF v0).bind fun l05Names0 =>
 if l05Names0=true then
 (ZcF v2).bind fun l05Names1 =>
 if l05Names1=true then
 (ZcF (Zb.ZI a1)).bind fun l05Names2 =>
 if l05Names2=true then
 Zw ((0:Int)≤(↑(List.length (Zb.ZI a1)):Int)) <|
 Zw ((↑(List.length (Zb.ZI a1)):Int)≤(↑(List.length (Zb.ZI a1)):Int)) <|
 Zw ((↑(List.length (Zb.ZI a1)):Int)≤(4611686018427387904:Int)) <|
 Zw ((↑(8:Nat):Int)*(↑(List.length (Zb.ZI a1)):Int)≤(281474976710656:Int)) <|
 Zv (fun v=>VN a1 v.1 v.2.1) ((0:Int),List.replicate (Int.toNat (↑(List.length (Zb.ZI a1)):Int)) (0:Int),())
 else
 some (.inr (.inr Bool.false))
 else
 some (.inr (.inr Bool.false))
 else
 some (.inr (.inr Bool.false))
def Zdt (a1:Zb) (v0:List (List UInt8)) (v1:Int):Option (((List (List UInt8))×Int×Unit) ⊕ Bool) :=
 if v1<(↑(List.length (Zb.Instances a1)):Int) then
 (atI (Zb.Instances a1) v1).bind fun x0 =>
 Zw ((List.length v0+List.length [Ze.Name x0])*(16:Nat)≤(140737488355328:Nat)) <|
 some (.inl (v0++[Ze.Name x0],IntKind.i64.wrap (v1+(1:Int)),()))
 else
 Zv (fun v=>Zdo a1 v0 v.1 v.2.1) (([]:List (List UInt8)),(0:Int),())
def Zgk (a0:Zp) (a1:Zb):Option Bool :=
 (Zfb a0).bind fun IsLibrary0 =>
 if IsLibrary0=true then
 if 14<(↑(List.length (Zb.Instances a1)):Int) then
 some Bool.false
 else
 if 30<(↑(List.length (Zb.ZI a1)):Int) then
 some Bool.false
 else
 if 8<(↑(List.length (Zb.ZK a1)):Int) then
 some Bool.false
 else
 (Zgh a0 a1).bind fun l05Parts0 =>
 if l05Parts0=true then
 Zv (fun v=>Zdt a1 v.1 v.2.1) (([]:List (List UInt8)),(0:Int),())
 else
 some Bool.false
 else
 some Bool.false
def c71:Ctr:=D2 (YN) (Yr) (.bool) Zgk
def ZcP (v1:Int) (x0:Ze) (v2:List ZN) (v3:Int):Option (((List ZN)×Int×Unit) ⊕ (((List ZN)×Int×Unit) ⊕ List ZN)) :=
 if v3<(↑(List.length (Ze.ZI x0)):Int) then
 (atI (Ze.ZI x0) v3).bind fun x1 =>
 Zw ((List.length v2+List.length [(v1,v3,x1,Decidable.decide (v3=IntKind.i64.wrap ((↑(List.length (Ze.ZI x0)):Int)-(1:Int))),())])*(32:Nat)≤(140737488355328:Nat)) <|
 some (.inl (v2++[(v1,v3,x1,Decidable.decide (v3=IntKind.i64.wrap ((↑(List.length (Ze.ZI x0)):Int)-(1:Int))),())],IntKind.i64.wrap (v3+(1:Int)),()))
 else
 some (.inr (.inl (v2,IntKind.i64.wrap (v1+1),())))
def ZcJ (a0:Zb) (v2:List ZN) (v3:Int):Option (((List ZN)×Int×Unit) ⊕ (((List ZN)×Int×Unit) ⊕ List ZN)) :=
 if v3<(↑(List.length (Zb.ZK a0)):Int) then
 (atI (Zb.ZK a0) v3).bind fun x0 =>
 Zw ((List.length v2+List.length [((-1:Int),v3,ZT.Net x0,Decidable.decide (ZT.Dir x0=(1:Int)),())])*(32:Nat)≤(140737488355328:Nat)) <|
 some (.inl (v2++[((-1:Int),v3,ZT.Net x0,Decidable.decide (ZT.Dir x0=(1:Int)),())],IntKind.i64.wrap (v3+(1:Int)),()))
 else
 some (.inr (.inr v2))
def ZcU (a0:Zb) (v0:List ZN) (v1:Int):Option (((List ZN)×Int×Unit) ⊕ List ZN) :=
 if v1<(↑(List.length (Zb.Instances a0)):Int) then
 (atI (Zb.Instances a0) v1).bind fun x0 =>
 Zv (fun v=>ZcP v1 x0 v.1 v.2.1) (v0,(0:Int),())
 else
 Zv (fun v=>ZcJ a0 v.1 v.2.1) (v0,(0:Int),())
def Xg (a0:Zb):Option (List ZN) :=
 Zv (fun v=>ZcU a0 v.1 v.2.1) (([]:List (Int×Int×Int×Bool×Unit)),(0:Int),())
def c72:Ctr:=⟨[.dat (Yr)],[.own (.ol 149 (.flat (Zg1)))],fun a K=>splitK a fun a0 a=>YA (Xg a0) fun r=>K (r,()) ()⟩
def Zdv (net0:Int) (l05Places0:List ZN) (out0:List Int) (i0:Int):Option (((List Int)×Int×Unit) ⊕ List Int) :=
 if i0<(↑(List.length l05Places0):Int) then
 (atI l05Places0 i0).bind fun x0 =>
 if ZN.net x0=net0 then
 if (ZN.drives x0)=true then
 some (.inl (out0,IntKind.i64.wrap (i0+1),()))
 else
 Zw ((List.length out0+List.length [i0])*(8:Nat)≤(140737488355328:Nat)) <|
 some (.inl (out0++[i0],IntKind.i64.wrap (i0+(1:Int)),()))
 else
 some (.inl (out0,IntKind.i64.wrap (i0+1),()))
 else
 some (.inr out0)
def QU (d0:Zb) (net0:Int):Option (List Int) :=
 (Xg d0).bind fun l05Places0 =>
 Zv (fun v=>Zdv net0 l05Places0 v.1 v.2.1) (([]:List Int),(0:Int),())
def c73:Ctr:=⟨[.dat (Yr),.dat (.int .i64)],[.own (.ol 2 (.flat (.int .i64)))],fun a K=>splitK a fun d0 a=>splitK a fun net0 a=>YA (QU d0 net0) fun r=>K (r,()) ()⟩
def ZeZ (a0:Zr) (v1:Int):Option ((Int×Unit) ⊕ ((Int×Unit) ⊕ Bool)) :=
 if v1<(↑(List.length (Zr.ZfR a0)):Int) then
 (atI (Zr.ZfR a0) v1).bind fun x0 =>
 (ZE x0 0 (IntKind.i64.wrap ((↑(List.length (Zr.Parent a0)):Int)-1))).bind fun l01In0 =>
 if l01In0=true then
 some (.inl (IntKind.i64.wrap (v1+1),()))
 else
 some (.inr (.inr Bool.false))
 else
 some (.inr (.inr Bool.true))
def ZeR (a0:Zr) (v0:Int):Option ((Int×Unit) ⊕ Bool) :=
 if v0<(↑(List.length (Zr.Parent a0)):Int) then
 (atI (Zr.Cap a0) v0).bind fun x0 =>
 (ZE x0 0 500).bind fun l01In0 =>
 if l01In0=true then
 (atI (Zr.Res a0) v0).bind fun x1 =>
 (ZE x1 0 1000).bind fun l01In1 =>
 if l01In1=true then
 if v0=0 then
 (atI (Zr.Parent a0) v0).bind fun x2 =>
 if x2=(-1) then
 if x1=0 then
 if 0<v0 then
 (ZE x2 0 (IntKind.i64.wrap (v0-1))).bind fun l01In2 =>
 if l01In2=true then
 some (.inl (IntKind.i64.wrap (v0+1),()))
 else
 some (.inr Bool.false)
 else
 some (.inl (IntKind.i64.wrap (v0+1),()))
 else
 some (.inr Bool.false)
 else
 some (.inr Bool.false)
 else
 if 0<v0 then
 (atI (Zr.Parent a0) v0).bind fun x2 =>
 (ZE x2 0 (IntKind.i64.wrap (v0-1))).bind fun l01In2 =>
 if l01In2=true then
 some (.inl (IntKind.i64.wrap (v0+1),()))
 else
 some (.inr Bool.false)
 else
 some (.inl (IntKind.i64.wrap (v0+1),()))
 else
 some (.inr Bool.false)
 else
 some (.inr Bool.false)
 else
 Zv (fun v=>ZeZ a0 v.1) ((0:Int),())
def ZgI (a0:Zr) (a1:Int):Option Bool :=
 if (↑(List.length (Zr.Parent a0)):Int)<1 then
 some Bool.false
 else
 if 8<(↑(List.length (Zr.Parent a0)):Int) then
 some Bool.false
 else
 if (↑(List.length (Zr.Res a0)):Int)=(↑(List.length (Zr.Parent a0)):Int) then
 if (↑(List.length (Zr.Cap a0)):Int)=(↑(List.length (Zr.Parent a0)):Int) then
 if (↑(List.length (Zr.ZfR a0)):Int)=a1 then
 Zv (fun v=>ZeR a0 v.1) ((0:Int),())
 else
 some Bool.false
 else
 some Bool.false
 else
 some Bool.false
def c74:Ctr:=D2 (XZ) (.int .i64) (.bool) ZgI
def Zea (b0:Za) (net0:Int):Option ((Int×Unit) ⊕ Bool) :=
 if net0<(↑(List.length (Za.ZC b0)):Int) then
 (atI (Za.ZC b0) net0).bind fun x0 =>
 (QU (Za.Design b0) net0).bind fun l05Sinks0 =>
 (ZgI x0 (↑(List.length l05Sinks0):Int)).bind fun IsWire0 =>
 if IsWire0=true then
 some (.inl (IntKind.i64.wrap (net0+1),()))
 else
 some (.inr Bool.false)
 else
 some (.inr Bool.true)
def ZdX (b0:Za):Option Bool :=
 (Zgk (Za.Library b0) (Za.Design b0)).bind fun IsDesign0 =>
 if IsDesign0=true then
 if (↑(List.length (Za.ZC b0)):Int)=(↑(List.length (Zb.ZI (Za.Design b0))):Int) then
 Zv (fun v=>Zea b0 v.1) ((0:Int),())
 else
 some Bool.false
 else
 some Bool.false
def c75:Ctr:=D1 (YB) (.bool) ZdX
def Zf8 (a0:Zk):Option Bool :=
 if Zk.Kind a0=1 then
 if Zk.Net a0=0 then
 if Zk.Node a0=0 then
 if Zk.Name a0=([]:List UInt8) then
 some (Decidable.decide (IntKind.i64.wrap (IntKind.i64.wrap (IntKind.i64.wrap ((↑(List.length (Zr.Parent (Zk.Ze1 a0))):Int)+(↑(List.length (Zr.Res (Zk.Ze1 a0))):Int))+(↑(List.length (Zr.Cap (Zk.Ze1 a0))):Int))+(↑(List.length (Zr.ZfR (Zk.Ze1 a0))):Int))=0))
 else
 some Bool.false
 else
 some Bool.false
 else
 some Bool.false
 else
 if Zk.Kind a0=2 then
 if Zk.Net a0=0 then
 if Zk.Node a0=0 then
 some (Decidable.decide (IntKind.i64.wrap (IntKind.i64.wrap (IntKind.i64.wrap ((↑(List.length (Zr.Parent (Zk.Ze1 a0))):Int)+(↑(List.length (Zr.Res (Zk.Ze1 a0))):Int))+(↑(List.length (Zr.Cap (Zk.Ze1 a0))):Int))+(↑(List.length (Zr.ZfR (Zk.Ze1 a0))):Int))=0))
 else
 some Bool.false
 else
 some Bool.false
 else
 if Zk.Kind a0=3 then
 if Zk.Place a0=0 then
 if Zk.Cell a0=0 then
 if Zk.Net a0=0 then
 if Zk.Node a0=0 then
 if Zk.Name a0=([]:List UInt8) then
 some (Decidable.decide (IntKind.i64.wrap (IntKind.i64.wrap (IntKind.i64.wrap ((↑(List.length (Zr.Parent (Zk.Ze1 a0))):Int)+(↑(List.length (Zr.Res (Zk.Ze1 a0))):Int))+(↑(List.length (Zr.Cap (Zk.Ze1 a0))):Int))+(↑(List.length (Zr.ZfR (Zk.Ze1 a0))):Int))=0))
 else
 some Bool.false
 else
 some Bool.false
 else
 some Bool.false
 else
 some Bool.false
 else
 some Bool.false
 else
 if Zk.Kind a0=4 then
 if Zk.Cell a0=0 then
 if Zk.Name a0=([]:List UInt8) then
 some (Decidable.decide (IntKind.i64.wrap (IntKind.i64.wrap (IntKind.i64.wrap ((↑(List.length (Zr.Parent (Zk.Ze1 a0))):Int)+(↑(List.length (Zr.Res (Zk.Ze1 a0))):Int))+(↑(List.length (Zr.Cap (Zk.Ze1 a0))):Int))+(↑(List.length (Zr.ZfR (Zk.Ze1 a0))):Int))=0))
 else
 some Bool.false
 else
 some Bool.false
 else
 if Zk.Kind a0=5 then
 if Zk.Place a0=0 then
 if Zk.Cell a0=0 then
 if Zk.Node a0=0 then
 some (Decidable.decide (Zk.Name a0=([]:List UInt8)))
 else
 some Bool.false
 else
 some Bool.false
 else
 some Bool.false
 else
 some Bool.false
def c76:Ctr:=D1 (Qv) (.bool) Zf8
def Zga (a0:Za) (a1:Zk):Option Bool :=
 (Xg (Za.Design a0)).bind fun l05Places0 =>
 if Zk.Kind a1=1 then
 if Zk.Kind a1=1 then
 (ZE (Zk.Place a1) 0 (IntKind.i64.wrap ((↑(List.length l05Places0):Int)-1))).bind fun l01In0 =>
 if l01In0=true then
 (ZE (Zk.Cell a1) 0 (IntKind.i64.wrap ((↑(List.length (Zp.Cells (Za.Library a0))):Int)-1))).bind fun l01In1 =>
 some l01In1
 else
 some Bool.false
 else
 if Zk.Kind a1=4 then
 (ZE (Zk.Place a1) 0 (IntKind.i64.wrap ((↑(List.length l05Places0):Int)-1))).bind fun l01In0 =>
 if l01In0=true then
 (ZE (Zk.Net a1) 0 (IntKind.i64.wrap ((↑(List.length (Za.ZC a0)):Int)-1))).bind fun l01In1 =>
 if l01In1=true then
 (atI (Za.ZC a0) (Zk.Net a1)).bind fun x0 =>
 (ZE (Zk.Node a1) 0 (IntKind.i64.wrap ((↑(List.length (Zr.Parent x0)):Int)-1))).bind fun l01In2 =>
 some l01In2
 else
 some Bool.false
 else
 some Bool.false
 else
 if Zk.Kind a1=5 then
 (ZE (Zk.Net a1) 0 (IntKind.i64.wrap ((↑(List.length (Za.ZC a0)):Int)-1))).bind fun l01In0 =>
 some l01In0
 else
 some Bool.true
 else
 if Zk.Kind a1=2 then
 (ZE (Zk.Place a1) 0 (IntKind.i64.wrap ((↑(List.length l05Places0):Int)-1))).bind fun l01In0 =>
 if l01In0=true then
 (ZE (Zk.Cell a1) 0 (IntKind.i64.wrap ((↑(List.length (Zp.Cells (Za.Library a0))):Int)-1))).bind fun l01In1 =>
 some l01In1
 else
 some Bool.false
 else
 if Zk.Kind a1=4 then
 (ZE (Zk.Place a1) 0 (IntKind.i64.wrap ((↑(List.length l05Places0):Int)-1))).bind fun l01In0 =>
 if l01In0=true then
 (ZE (Zk.Net a1) 0 (IntKind.i64.wrap ((↑(List.length (Za.ZC a0)):Int)-1))).bind fun l01In1 =>
 if l01In1=true then
 (atI (Za.ZC a0) (Zk.Net a1)).bind fun x0 =>
 (ZE (Zk.Node a1) 0 (IntKind.i64.wrap ((↑(List.length (Zr.Parent x0)):Int)-1))).bind fun l01In2 =>
 some l01In2
 else
 some Bool.false
 else
 some Bool.false
 else
 if Zk.Kind a1=5 then
 (ZE (Zk.Net a1) 0 (IntKind.i64.wrap ((↑(List.length (Za.ZC a0)):Int)-1))).bind fun l01In0 =>
 some l01In0
 else
 some Bool.true
def c77:Ctr:=D2 (YB) (Qv) (.bool) Zga
def ZaW (a0:Zm) (b0:Zm) (i0:Int):Option ((Int×Unit) ⊕ Bool) :=
 if i0<(↑(List.length (Zm.YC a0)):Int) then
 (atI (Zm.YC a0) i0).bind fun x0 =>
 (atI (Zm.YC b0) i0).bind fun x1 =>
 if (YE.Clock x0 == YE.Clock x1)=true then
 some (.inl (IntKind.i64.wrap (i0+1),()))
 else
 some (.inr Bool.false)
 else
 some (.inr Bool.true)
def Jz (a0:Zm) (b0:Zm):Option Bool :=
 if Zm.Kind a0=Zm.Kind b0 then
 if (↑(List.length (Zm.YC a0)):Int)=(↑(List.length (Zm.YC b0)):Int) then
 Zv (fun v=>ZaW a0 b0 v.1) ((0:Int),())
 else
 some Bool.false
 else
 some Bool.false
def c78:Ctr:=D2 (XY) (XY) (.bool) Jz
def Zc5 (c0:Zm):Option Bool :=
 if Zm.Kind c0=1 then
 some (Decidable.decide ((↑(List.length (Zm.YC c0)):Int)=2))
 else
 some Bool.false
def c79:Ctr:=D1 (XY) (.bool) Zc5
def Zaj (d0:Zb) (name0:List UInt8) (i0:Int):Option ((Int×Unit) ⊕ Int) :=
 if i0<(↑(List.length (Zb.Instances d0)):Int) then
 (atI (Zb.Instances d0) i0).bind fun x0 =>
 if Ze.Name x0=name0 then
 some (.inr i0)
 else
 some (.inl (IntKind.i64.wrap (i0+1),()))
 else
 some (.inr (-1))
def ZbO (d0:Zb) (name0:List UInt8):Option Int :=
 Zv (fun v=>Zaj d0 name0 v.1) ((0:Int),())
def c80:Ctr:=D2 (Yr) (.str) (.int .i64) ZbO
def Zdu (list0:List (List UInt8)) (word0:List UInt8) (i0:Int):Option ((Int×Unit) ⊕ Int) :=
 if i0<(↑(List.length list0):Int) then
 (atI list0 i0).bind fun x0 =>
 if x0=word0 then
 some (.inr i0)
 else
 some (.inl (IntKind.i64.wrap (i0+1),()))
 else
 some (.inr (-1))
def Zjl (list0:List (List UInt8)) (word0:List UInt8):Option Int :=
 Zv (fun v=>Zdu list0 word0 v.1) ((0:Int),())
def c81:Ctr:=D2 (.sl (.str)) (.str) (.int .i64) Zjl
def Zge (d0:Zb) (name0:List UInt8):Option Int :=
 (Zjl (Zb.ZI d0) name0).bind fun l04Index0 =>
 some l04Index0
def c82:Ctr:=D2 (Yr) (.str) (.int .i64) Zge
def Zj4 (w0:Zr):Option Bool :=
 if (↑(List.length (Zr.Parent w0)):Int)=1 then
 (atI (Zr.Cap w0) 0).bind fun x0 =>
 some (Decidable.decide (x0=0))
 else
 some Bool.false
def c83:Ctr:=D1 (XZ) (.bool) Zj4
def ZhQ (a0:Za):Option Bool :=
 if IntKind.i64.wrap ((↑(List.length (Zb.Instances (Za.Design a0))):Int)-1)<0 then
 some Bool.false
 else
 (atI (Zb.Instances (Za.Design a0)) (IntKind.i64.wrap ((↑(List.length (Zb.Instances (Za.Design a0))):Int)-1))).bind fun x0 =>
 (atI (Zp.Cells (Za.Library a0)) (Ze.Cell x0)).bind fun x1 =>
 (Zc5 x1).bind fun l08Buffer0 =>
 if l08Buffer0=true then
 (atI (Ze.ZI x0) 1).bind fun x2 =>
 if x2=IntKind.i64.wrap ((↑(List.length (Za.ZC a0)):Int)-1) then
 (atI (Zb.ZI (Za.Design a0)) (IntKind.i64.wrap ((↑(List.length (Za.ZC a0)):Int)-1))).bind fun x3 =>
 if x3=Ze.Name x0 then
 (atI (Ze.ZI x0) 0).bind fun x4 =>
 if x4=IntKind.i64.wrap ((↑(List.length (Za.ZC a0)):Int)-1) then
 some Bool.false
 else
 (QU (Za.Design a0) (IntKind.i64.wrap ((↑(List.length (Za.ZC a0)):Int)-1))).bind fun l05Sinks0 =>
 if (↑(List.length l05Sinks0):Int)=1 then
 (atI (Za.ZC a0) (IntKind.i64.wrap ((↑(List.length (Za.ZC a0)):Int)-1))).bind fun x5 =>
 (Zj4 x5).bind fun l08Bare0 =>
 some l08Bare0
 else
 some Bool.false
 else
 some Bool.false
 else
 some Bool.false
 else
 some Bool.false
def c84:Ctr:=D1 (YB) (.bool) ZhQ
def Zgi (a0:Za) (a1:Zk):Option Bool :=
 (Xg (Za.Design a0)).bind fun l05Places0 =>
 if Zk.Kind a1=1 then
 (atI l05Places0 (Zk.Place a1)).bind fun x0 =>
 if 0≤ZN.instance x0 then
 if (ZN.drives x0)=true then
 (atI (Zb.Instances (Za.Design a0)) (ZN.instance x0)).bind fun x1 =>
 (atI (Zp.Cells (Za.Library a0)) (Ze.Cell x1)).bind fun x2 =>
 (atI (Zp.Cells (Za.Library a0)) (Zk.Cell a1)).bind fun x3 =>
 (Jz x2 x3).bind fun l08Alike0 =>
 some l08Alike0
 else
 some Bool.false
 else
 some Bool.false
 else
 if Zk.Kind a1=2 then
 (atI l05Places0 (Zk.Place a1)).bind fun x0 =>
 if (ZN.drives x0)=true then
 some Bool.false
 else
 (atI (Zp.Cells (Za.Library a0)) (Zk.Cell a1)).bind fun x1 =>
 (Zc5 x1).bind fun l08Buffer0 =>
 if l08Buffer0=true then
 (Jr (Zk.Name a1)).bind fun l03Name0 =>
 if l03Name0=true then
 (ZbO (Za.Design a0) (Zk.Name a1)).bind fun InstanceNamed0 =>
 if InstanceNamed0<0 then
 (Zge (Za.Design a0) (Zk.Name a1)).bind fun NetNamed0 =>
 some (Decidable.decide (NetNamed0<0))
 else
 some Bool.false
 else
 some Bool.false
 else
 some Bool.false
 else
 if Zk.Kind a1=3 then
 (ZhQ a0).bind fun l08Last0 =>
 some l08Last0
 else
 if Zk.Kind a1=4 then
 (atI l05Places0 (Zk.Place a1)).bind fun x0 =>
 if (ZN.drives x0)=true then
 some Bool.false
 else
 some (!Decidable.decide (ZN.net x0=Zk.Net a1))
 else
 (QU (Za.Design a0) (Zk.Net a1)).bind fun l05Sinks0 =>
 (ZgI (Zk.Ze1 a1) (↑(List.length l05Sinks0):Int)).bind fun IsWire0 =>
 some IsWire0
def c85:Ctr:=D2 (YB) (Qv) (.bool) Zgi
def ZaQ (b0:Za) (e0:Zk):Option Int :=
 (ZdX b0).bind fun IsBlock0 =>
 if IsBlock0=true then
 (Zf8 e0).bind fun l08Blank0 =>
 if l08Blank0=true then
 (Zga b0 e0).bind fun l08Range0 =>
 if l08Range0=true then
 (Zgi b0 e0).bind fun l08State0 =>
 if l08State0=true then
 if Zk.Kind e0=2 then
 if (↑(List.length (Zb.Instances (Za.Design b0))):Int)=14 then
 some 3
 else
 if (↑(List.length (Za.ZC b0)):Int)=30 then
 some 3
 else
 some 0
 else
 some 0
 else
 some 5
 else
 some 2
 else
 some 2
 else
 some 1
def c86:Ctr:=D2 (YB) (Qv) (.int .i64) ZaQ
def Zgm (c0:Zf):Option Bool :=
 (Jr (Zf.Name c0)).bind fun l03Name0 =>
 if l03Name0=true then
 if 0≤Zf.Place c0 then
 (ZE (Zf.Y9 c0) 0 100000).bind fun l01In0 =>
 if l01In0=true then
 (ZE (Zf.Qj c0) (Zf.Y9 c0) 100000).bind fun l01In1 =>
 if l01In1=true then
 (ZE (Zf.JU c0) 0 100000).bind fun l01In2 =>
 some l01In2
 else
 some Bool.false
 else
 some Bool.false
 else
 some Bool.false
 else
 some Bool.false
def c87:Ctr:=D1 (ZU) (.bool) Zgm
def ZeF (c0:Zf):Option Bool :=
 (ZE (Zf.Y3 c0) 2 100000).bind fun l01In0 =>
 if l01In0=true then
 (ZE (Zf.XB c0) 0 (IntKind.i64.wrap (Zf.Y3 c0-1))).bind fun l01In1 =>
 if l01In1=true then
 (ZE (Zf.X9 c0) 0 (IntKind.i64.wrap (Zf.Y3 c0-1))).bind fun l01In2 =>
 if l01In2=true then
 if Zf.XB c0=Zf.X9 c0 then
 some Bool.false
 else
 if Zf.Divide c0=1 then
 some (!Zf.ZeJ c0)
 else
 some Bool.false
 else
 some Bool.false
 else
 some Bool.false
 else
 some Bool.false
def c88:Ctr:=D1 (ZU) (.bool) ZeF
def Zch (rec0:(List Zf)→Int→Option XC) (list0:List Zf) (k0:Int):Option XC :=
 (atI list0 k0).bind fun x0 =>
 if Zf.Source x0<0 then
 some (Zf.Y3 x0,Zf.XB x0,Zf.X9 x0,())
 else
 (rec0 list0 (Zf.Source x0)).bind fun r0 =>
 if 1<Zf.Divide x0 then
 if (Zf.ZeJ x0)=true then
 some (IntKind.i64.wrap (XC.period r0*Zf.Divide x0),IntKind.i64.wrap (XC.rise r0+IntKind.i64.wrap (IntKind.i64.wrap (Int.tdiv (Zf.Divide x0) 2)*XC.period r0)),XC.rise r0,())
 else
 some (IntKind.i64.wrap (XC.period r0*Zf.Divide x0),XC.rise r0,IntKind.i64.wrap (XC.rise r0+IntKind.i64.wrap (IntKind.i64.wrap (Int.tdiv (Zf.Divide x0) 2)*XC.period r0)),())
 else
 if (Zf.ZeJ x0)=true then
 some (XC.period r0,XC.fall r0,XC.rise r0,())
 else
 some r0
def Zb8:Nat→(List Zf)→Int→Option XC
 | 0=>fun _ _=>none
 | n+1=>Zch (Zb8 n)
def ZkM (list0:List Zf) (k0:Int):Option XC:=ZA8 (fun n=>Zb8 n list0 k0)
def Zgs (rec0:(List Zf)→Int→Option XC):Ctr:=⟨[.dat (.sl (ZU)),.dat (.int .i64)],[.dat (ZvT)],fun a K=>splitK a fun list0 a=>splitK a fun k0 a=>YA (rec0 list0 k0) fun r=>K (r,()) ()⟩
def c89:Ctr:=Zgs ZkM
def ZaT (a0:List Zf) (v0:Int) (x0:Zf) (v1:Int):Option ((Int×Unit) ⊕ ((Int×Unit) ⊕ Bool)) :=
 if v1<v0 then
 (atI a0 v1).bind fun x1 =>
 if Zf.Name x1=Zf.Name x0 then
 some (.inr (.inr Bool.false))
 else
 some (.inl (IntKind.i64.wrap (v1+1),()))
 else
 if Zf.Source x0=(-1) then
 (ZeF x0).bind fun l14Primary0 =>
 if l14Primary0=true then
 some (.inr (.inl (IntKind.i64.wrap (v0+1),())))
 else
 some (.inr (.inr Bool.false))
 else
 (ZE (Zf.Source x0) 0 (IntKind.i64.wrap (v0-1))).bind fun l01In0 =>
 if l01In0=true then
 (ZE (Zf.Divide x0) 1 8).bind fun l01In1 =>
 if l01In1=true then
 if Zf.Y3 x0=0 then
 if Zf.XB x0=0 then
 if Zf.X9 x0=0 then
 (ZkM a0 v0).bind fun l14Of0 =>
 if 100000<XC.period l14Of0 then
 some (.inr (.inr Bool.false))
 else
 some (.inr (.inl (IntKind.i64.wrap (v0+1),())))
 else
 some (.inr (.inr Bool.false))
 else
 some (.inr (.inr Bool.false))
 else
 some (.inr (.inr Bool.false))
 else
 some (.inr (.inr Bool.false))
 else
 some (.inr (.inr Bool.false))
def Zdw (a0:List Zf) (v0:Int):Option ((Int×Unit) ⊕ Bool) :=
 if v0<(↑(List.length a0):Int) then
 if (↑(List.length a0):Int)≤6 then
 (atI a0 v0).bind fun x0 =>
 (Zgm x0).bind fun l14Plain0 =>
 if l14Plain0=true then
 Zv (fun v=>ZaT a0 v0 x0 v.1) ((0:Int),())
 else
 some (.inr Bool.false)
 else
 some (.inr (Decidable.decide ((↑(List.length a0):Int)≤6)))
 else
 some (.inr (Decidable.decide ((↑(List.length a0):Int)≤6)))
def Zgn (a0:List Zf):Option Bool :=
 Zv (fun v=>Zdw a0 v.1) ((0:Int),())
def c90:Ctr:=D1 (.sl (ZU)) (.bool) Zgn
def ZdH (c0:Zu) (i0:Int):Option ((Int×Unit) ⊕ Bool) :=
 if i0<(↑(List.length [Zu.Qh c0,Zu.J2 c0,Zu.Zad c0,Zu.Zdn c0]):Int) then
 (atI ([Zu.Qh c0,Zu.J2 c0,Zu.Zad c0,Zu.Zdn c0]) i0).bind fun x0 =>
 (ZE x0 100 5000).bind fun l01In0 =>
 if l01In0=true then
 some (.inl (IntKind.i64.wrap (i0+1),()))
 else
 some (.inr Bool.false)
 else
 (Jr (Zu.Name c0)).bind fun l03Name0 =>
 if l03Name0=true then
 if Zu.Qh c0≤Zu.J2 c0 then
 some (.inr (Decidable.decide (Zu.Zad c0≤Zu.Zdn c0)))
 else
 some (.inr Bool.false)
 else
 some (.inr Bool.false)
def Zgd (c0:Zu):Option Bool :=
 Zv (fun v=>ZdH c0 v.1) ((0:Int),())
def c91:Ctr:=D1 (ZW) (.bool) Zgd
def ZbX (list0:List Zu) (i0:Int) (x0:Zu) (k0:Int):Option ((Int×Unit) ⊕ ((Int×Unit) ⊕ Bool)) :=
 if k0<i0 then
 (atI list0 k0).bind fun x1 =>
 if Zu.Name x1=Zu.Name x0 then
 some (.inr (.inr Bool.false))
 else
 some (.inl (IntKind.i64.wrap (k0+1),()))
 else
 some (.inr (.inl (IntKind.i64.wrap (i0+1),())))
def Zb7 (list0:List Zu) (i0:Int):Option ((Int×Unit) ⊕ Bool) :=
 if i0<(↑(List.length list0):Int) then
 (atI list0 i0).bind fun x0 =>
 (Zgd x0).bind fun IsCorner0 =>
 if IsCorner0=true then
 Zv (fun v=>ZbX list0 i0 x0 v.1) ((0:Int),())
 else
 some (.inr Bool.false)
 else
 some (.inr (Decidable.decide ((↑(List.length list0):Int)≤4)))
def Zek (list0:List Zu):Option Bool :=
 Zv (fun v=>Zb7 list0 v.1) ((0:Int),())
def c92:Ctr:=D1 (.sl (ZW)) (.bool) Zek
def Zgt (b0:Za):Option Int :=
 (Xg (Za.Design b0)).bind fun l05Places0 =>
 some (↑(List.length l05Places0):Int)
def c93:Ctr:=D1 (YB) (.int .i64) Zgt
def ZcS (b0:Za) (list0:List Int) (sorted0:Bool) (i0:Int):Option ((Int×Unit) ⊕ Bool) :=
 if i0<(↑(List.length list0):Int) then
 (atI list0 i0).bind fun x0 =>
 (Zgt b0).bind fun l22Count0 =>
 (ZE x0 0 (IntKind.i64.wrap (l22Count0-1))).bind fun l01In0 =>
 if l01In0=true then
 if sorted0=true then
 if 0<i0 then
 (atI list0 (IntKind.i64.wrap (i0-1))).bind fun x1 =>
 if x0≤x1 then
 some (.inr Bool.false)
 else
 some (.inl (IntKind.i64.wrap (i0+1),()))
 else
 some (.inl (IntKind.i64.wrap (i0+1),()))
 else
 some (.inl (IntKind.i64.wrap (i0+1),()))
 else
 some (.inr Bool.false)
 else
 some (.inr (Decidable.decide ((↑(List.length list0):Int)≤4)))
def Zbk (b0:Za) (list0:List Int) (sorted0:Bool):Option Bool :=
 Zv (fun v=>ZcS b0 list0 sorted0 v.1) ((0:Int),())
def c94:Ctr:=D3 (YB) (.sl (.int .i64)) (.bool) (.bool) Zbk
def Zdk (b0:Za) (e0:Zg):Option Bool :=
 (ZdX b0).bind fun IsBlock0 =>
 if IsBlock0=true then
 (Zbk b0 (Zg.From e0) Bool.true).bind fun l22Places0 =>
 if l22Places0=true then
 (Zbk b0 (Zg.Through e0) Bool.false).bind fun l22Places1 =>
 if l22Places1=true then
 (Zbk b0 (Zg.To e0) Bool.true).bind fun l22Places2 =>
 if l22Places2=true then
 if Zg.Kind e0=1 then
 some (Decidable.decide (Zg.Value e0=0))
 else
 if Zg.Kind e0=2 then
 (ZE (Zg.Value e0) 1 10).bind fun l01In0 =>
 some l01In0
 else
 if Zg.Kind e0=3 then
 if Zg.Kind e0=3 then
 (ZE (Zg.Value e0) 0 1000000000).bind fun l01In0 =>
 some l01In0
 else
 some Bool.false
 else
 if Zg.Kind e0=4 then
 (ZE (Zg.Value e0) 0 1000000000).bind fun l01In0 =>
 some l01In0
 else
 some Bool.false
 else
 some Bool.false
 else
 some Bool.false
 else
 some Bool.false
 else
 some Bool.false
def c95:Ctr:=D2 (YB) (ZA) (.bool) Zdk
def Zep (s0:YG):Option Bool :=
 if 0≤YG.Early s0 then
 if YG.Early s0≤YG.Late s0 then
 some (Decidable.decide (YG.Late s0≤1000000))
 else
 some Bool.false
 else
 some Bool.false
def c96:Ctr:=D1 (ZnX) (.bool) Zep
def Za2 (a1:Zn) (a2:List Zh) (a3:Bool) (l05Places0:List ZN) (v0:Int):Option ((Int×Unit) ⊕ Bool) :=
 if v0<(↑(List.length a2):Int) then
 (atI a2 v0).bind fun x0 =>
 (ZE (Zh.Place x0) 0 (IntKind.i64.wrap ((↑(List.length l05Places0):Int)-1))).bind fun l01In0 =>
 if l01In0=true then
 if 0<v0 then
 (atI a2 (IntKind.i64.wrap (v0-1))).bind fun x1 =>
 if Zh.Place x0≤Zh.Place x1 then
 some (.inr Bool.false)
 else
 (ZE (Zh.Clock x0) 0 (IntKind.i64.wrap ((↑(List.length (Zn.YS a1)):Int)-1))).bind fun l01In1 =>
 if l01In1=true then
 (atI l05Places0 (Zh.Place x0)).bind fun x2 =>
 if 0≤ZN.instance x2 then
 some (.inr Bool.false)
 else
 if (ZN.drives x2 == a3)=true then
 if YG.Late (Zh.Delay x0)<YG.Early (Zh.Delay x0) then
 some (.inr Bool.false)
 else
 if YG.Early (Zh.Delay x0)<(-100000) then
 some (.inr Bool.false)
 else
 if 100000<YG.Late (Zh.Delay x0) then
 some (.inr Bool.false)
 else
 (Zep (Zh.ZdY x0)).bind fun l12Slews0 =>
 if l12Slews0=true then
 if a3=true then
 some (.inl (IntKind.i64.wrap (v0+1),()))
 else
 if (Decidable.decide (YG.Early (Zh.ZdY x0)=0)&&Decidable.decide (YG.Late (Zh.ZdY x0)=0))=true then
 some (.inl (IntKind.i64.wrap (v0+1),()))
 else
 some (.inr Bool.false)
 else
 some (.inr Bool.false)
 else
 some (.inr Bool.false)
 else
 some (.inr Bool.false)
 else
 (ZE (Zh.Clock x0) 0 (IntKind.i64.wrap ((↑(List.length (Zn.YS a1)):Int)-1))).bind fun l01In1 =>
 if l01In1=true then
 (atI l05Places0 (Zh.Place x0)).bind fun x1 =>
 if 0≤ZN.instance x1 then
 some (.inr Bool.false)
 else
 if (ZN.drives x1 == a3)=true then
 if YG.Late (Zh.Delay x0)<YG.Early (Zh.Delay x0) then
 some (.inr Bool.false)
 else
 if YG.Early (Zh.Delay x0)<(-100000) then
 some (.inr Bool.false)
 else
 if 100000<YG.Late (Zh.Delay x0) then
 some (.inr Bool.false)
 else
 (Zep (Zh.ZdY x0)).bind fun l12Slews0 =>
 if l12Slews0=true then
 if a3=true then
 some (.inl (IntKind.i64.wrap (v0+1),()))
 else
 if (Decidable.decide (YG.Early (Zh.ZdY x0)=0)&&Decidable.decide (YG.Late (Zh.ZdY x0)=0))=true then
 some (.inl (IntKind.i64.wrap (v0+1),()))
 else
 some (.inr Bool.false)
 else
 some (.inr Bool.false)
 else
 some (.inr Bool.false)
 else
 some (.inr Bool.false)
 else
 some (.inr Bool.false)
 else
 some (.inr Bool.true)
def Zat (a0:Za) (a1:Zn) (a2:List Zh) (a3:Bool):Option Bool :=
 (Xg (Za.Design a0)).bind fun l05Places0 =>
 Zv (fun v=>Za2 a1 a2 a3 l05Places0 v.1) ((0:Int),())
def c97:Ctr:=D4 (YB) (YR) (.sl (Zx)) (.bool) (.bool) Zat
def Zef (a0:Za) (a1:Zn) (v1:Int):Option ((Int×Unit) ⊕ ((Int×Unit) ⊕ Bool)) :=
 if v1<(↑(List.length (Zn.Exceptions a1)):Int) then
 (atI (Zn.Exceptions a1) v1).bind fun x0 =>
 (Zdk a0 x0).bind fun IsException0 =>
 if IsException0=true then
 some (.inl (IntKind.i64.wrap (v1+1),()))
 else
 some (.inr (.inr Bool.false))
 else
 (Zat a0 a1 (Zn.Qw a1) Bool.true).bind fun l31Externals0 =>
 if l31Externals0=true then
 (Zat a0 a1 (Zn.Xu a1) Bool.false).bind fun l31Externals1 =>
 some (.inr (.inr l31Externals1))
 else
 some (.inr (.inr Bool.false))
def Zez (a0:Za) (a1:Zn) (v0:Int):Option ((Int×Unit) ⊕ Bool) :=
 if v0<(↑(List.length (Zn.YS a1)):Int) then
 (atI (Zn.YS a1) v0).bind fun x0 =>
 (Xg (Za.Design a0)).bind fun l05Places0 =>
 if (↑(List.length l05Places0):Int)≤Zf.Place x0 then
 some (.inr Bool.false)
 else
 some (.inl (IntKind.i64.wrap (v0+1),()))
 else
 Zv (fun v=>Zef a0 a1 v.1) ((0:Int),())
def ZdT (a0:Za) (a1:Zn):Option Bool :=
 (ZdX a0).bind fun IsBlock0 =>
 if IsBlock0=true then
 (Zgn (Zn.YS a1)).bind fun IsClocks0 =>
 if IsClocks0=true then
 if 6<(↑(List.length (Zn.Exceptions a1)):Int) then
 some Bool.false
 else
 (Zek (Zn.QJ a1)).bind fun l31Corners0 =>
 if l31Corners0=true then
 Zv (fun v=>Zez a0 a1 v.1) ((0:Int),())
 else
 some Bool.false
 else
 some Bool.false
 else
 some Bool.false
def c98:Ctr:=D2 (YB) (YR) (.bool) ZdT
def Zab (b0:Za) (e0:Zk) (l05Places0:List ZN) (out0:List Int) (p0:Int):Option (((List Int)×Int×Unit) ⊕ List Int) :=
 if p0<(↑(List.length l05Places0):Int) then
 if Zk.Kind e0=2 then
 if IntKind.i64.wrap ((↑(List.length l05Places0):Int)-(↑(List.length (Zb.ZK (Za.Design b0))):Int))≤p0 then
 Zw ((List.length out0+List.length [IntKind.i64.wrap (p0+(2:Int))])*(8:Nat)≤(140737488355328:Nat)) <|
 some (.inl (out0++[IntKind.i64.wrap (p0+(2:Int))],IntKind.i64.wrap (p0+(1:Int)),()))
 else
 if Zk.Kind e0=3 then
 if IntKind.i64.wrap ((↑(List.length l05Places0):Int)-(↑(List.length (Zb.ZK (Za.Design b0))):Int))≤p0 then
 Zw ((List.length out0+List.length [IntKind.i64.wrap (p0-(2:Int))])*(8:Nat)≤(140737488355328:Nat)) <|
 some (.inl (out0++[IntKind.i64.wrap (p0-(2:Int))],IntKind.i64.wrap (p0+(1:Int)),()))
 else
 if Zk.Kind e0=3 then
 if IntKind.i64.wrap (IntKind.i64.wrap ((↑(List.length l05Places0):Int)-(↑(List.length (Zb.ZK (Za.Design b0))):Int))-2)≤p0 then
 Zw ((List.length out0+List.length [(-1:Int)])*(8:Nat)≤(140737488355328:Nat)) <|
 some (.inl (out0++[(-1:Int)],IntKind.i64.wrap (p0+(1:Int)),()))
 else
 Zw ((List.length out0+List.length [p0])*(8:Nat)≤(140737488355328:Nat)) <|
 some (.inl (out0++[p0],IntKind.i64.wrap (p0+(1:Int)),()))
 else
 Zw ((List.length out0+List.length [p0])*(8:Nat)≤(140737488355328:Nat)) <|
 some (.inl (out0++[p0],IntKind.i64.wrap (p0+(1:Int)),()))
 else
 if Zk.Kind e0=3 then
 if IntKind.i64.wrap (IntKind.i64.wrap ((↑(List.length l05Places0):Int)-(↑(List.length (Zb.ZK (Za.Design b0))):Int))-2)≤p0 then
 Zw ((List.length out0+List.length [(-1:Int)])*(8:Nat)≤(140737488355328:Nat)) <|
 some (.inl (out0++[(-1:Int)],IntKind.i64.wrap (p0+(1:Int)),()))
 else
 Zw ((List.length out0+List.length [p0])*(8:Nat)≤(140737488355328:Nat)) <|
 some (.inl (out0++[p0],IntKind.i64.wrap (p0+(1:Int)),()))
 else
 Zw ((List.length out0+List.length [p0])*(8:Nat)≤(140737488355328:Nat)) <|
 some (.inl (out0++[p0],IntKind.i64.wrap (p0+(1:Int)),()))
 else
 if Zk.Kind e0=3 then
 if IntKind.i64.wrap ((↑(List.length l05Places0):Int)-(↑(List.length (Zb.ZK (Za.Design b0))):Int))≤p0 then
 Zw ((List.length out0+List.length [IntKind.i64.wrap (p0-(2:Int))])*(8:Nat)≤(140737488355328:Nat)) <|
 some (.inl (out0++[IntKind.i64.wrap (p0-(2:Int))],IntKind.i64.wrap (p0+(1:Int)),()))
 else
 if Zk.Kind e0=3 then
 if IntKind.i64.wrap (IntKind.i64.wrap ((↑(List.length l05Places0):Int)-(↑(List.length (Zb.ZK (Za.Design b0))):Int))-2)≤p0 then
 Zw ((List.length out0+List.length [(-1:Int)])*(8:Nat)≤(140737488355328:Nat)) <|
 some (.inl (out0++[(-1:Int)],IntKind.i64.wrap (p0+(1:Int)),()))
 else
 Zw ((List.length out0+List.length [p0])*(8:Nat)≤(140737488355328:Nat)) <|
 some (.inl (out0++[p0],IntKind.i64.wrap (p0+(1:Int)),()))
 else
 Zw ((List.length out0+List.length [p0])*(8:Nat)≤(140737488355328:Nat)) <|
 some (.inl (out0++[p0],IntKind.i64.wrap (p0+(1:Int)),()))
 else
 if Zk.Kind e0=3 then
 if IntKind.i64.wrap (IntKind.i64.wrap ((↑(List.length l05Places0):Int)-(↑(List.length (Zb.ZK (Za.Design b0))):Int))-2)≤p0 then
 Zw ((List.length out0+List.length [(-1:Int)])*(8:Nat)≤(140737488355328:Nat)) <|
 some (.inl (out0++[(-1:Int)],IntKind.i64.wrap (p0+(1:Int)),()))
 else
 Zw ((List.length out0+List.length [p0])*(8:Nat)≤(140737488355328:Nat)) <|
 some (.inl (out0++[p0],IntKind.i64.wrap (p0+(1:Int)),()))
 else
 Zw ((List.length out0+List.length [p0])*(8:Nat)≤(140737488355328:Nat)) <|
 some (.inl (out0++[p0],IntKind.i64.wrap (p0+(1:Int)),()))
 else
 some (.inr out0)
def Zfp (b0:Za) (e0:Zk):Option (List Int) :=
 (Xg (Za.Design b0)).bind fun l05Places0 =>
 Zv (fun v=>Zab b0 e0 l05Places0 v.1 v.2.1) (([]:List Int),(0:Int),())
def c99:Ctr:=⟨[.dat (YB),.dat (Qv)],[.own (.ol 2 (.flat (.int .i64)))],fun a K=>splitK a fun b0 a=>splitK a fun e0 a=>YA (Zfp b0 e0) fun r=>K (r,()) ()⟩
def J6 (list0:List Int) (after0:List Int) (out0:List Int) (i0:Int):Option (((List Int)×Int×Unit) ⊕ ((List Int)×Bool)) :=
 if i0<(↑(List.length list0):Int) then
 (atI list0 i0).bind fun x0 =>
 (atI after0 x0).bind fun x1 =>
 if x1<0 then
 some (.inr (([]:List Int),Bool.false))
 else
 Zw ((List.length out0+List.length [x1])*(8:Nat)≤(140737488355328:Nat)) <|
 some (.inl (out0++[x1],IntKind.i64.wrap (i0+(1:Int)),()))
 else
 some (.inr (out0,Bool.true))
def Zbr (list0:List Int) (after0:List Int):Option ((List Int)×Bool) :=
 Zv (fun v=>J6 list0 after0 v.1 v.2.1) (([]:List Int),(0:Int),())
def ZEq:Ctr:=⟨[.dat (.sl (.int .i64)),.dat (.sl (.int .i64))],[.own (.ol 2 (.flat (.int .i64))),.dat (.bool)],fun a K=>splitK a fun list0 a=>splitK a fun after0 a=>YA (Zbr list0 after0) fun r=>K (r.1,r.2,()) ()⟩
def Vt (list0:List Zh) (after0:List Int) (out0:List Zh) (i0:Int):Option (((List Zh)×Int×Unit) ⊕ List Zh) :=
 if i0<(↑(List.length list0):Int) then
 (atI list0 i0).bind fun x0 =>
 (atI after0 (Zh.Place x0)).bind fun x1 =>
 Zw ((List.length out0+List.length [(x1,x0.snd)])*(48:Nat)≤(140737488355328:Nat)) <|
 some (.inl (out0++[(x1,x0.snd)],IntKind.i64.wrap (i0+(1:Int)),()))
 else
 some (.inr out0)
def Zav (list0:List Zh) (after0:List Int):Option (List Zh) :=
 Zv (fun v=>Vt list0 after0 v.1 v.2.1) (([]:List (Int×Int×YG×YG×Unit)),(0:Int),())
def ZGj:Ctr:=⟨[.dat (.sl (Zx)),.dat (.sl (.int .i64))],[.own (.ol 163 (.flat (Zx)))],fun a K=>splitK a fun list0 a=>splitK a fun after0 a=>YA (Zav list0 after0) fun r=>K (r,()) ()⟩
def VX (a0:List Int) (a1:Zn) (v0:List Zf) (v2:List Zg) (v3:Bool) (v4:Int):Option (((List Zg)×Bool×Int×Unit) ⊕ (((List Zf)×Int×Unit) ⊕ (Zn×Bool))) :=
 if v4<(↑(List.length (Zn.Exceptions a1)):Int) then
 (atI (Zn.Exceptions a1) v4).bind fun x0 =>
 (Zbr (Zg.From x0) a0).bind fun l33Places0 =>
 (Zbr (Zg.Through x0) a0).bind fun l33Places1 =>
 (Zbr (Zg.To x0) a0).bind fun l33Places2 =>
 if v3=true then
 if l33Places0.snd=true then
 if l33Places1.snd=true then
 Zw ((List.length v2+List.length [(Zg.Kind x0,Zg.Value x0,l33Places0.fst,l33Places1.fst,l33Places2.fst,())])*(88:Nat)≤(140737488355328:Nat)) <|
 some (.inl (v2++[(Zg.Kind x0,Zg.Value x0,l33Places0.fst,l33Places1.fst,l33Places2.fst,())],l33Places2.snd,IntKind.i64.wrap (v4+(1:Int)),()))
 else
 Zw ((List.length v2+List.length [(Zg.Kind x0,Zg.Value x0,l33Places0.fst,l33Places1.fst,l33Places2.fst,())])*(88:Nat)≤(140737488355328:Nat)) <|
 some (.inl (v2++[(Zg.Kind x0,Zg.Value x0,l33Places0.fst,l33Places1.fst,l33Places2.fst,())],Bool.false,IntKind.i64.wrap (v4+(1:Int)),()))
 else
 Zw ((List.length v2+List.length [(Zg.Kind x0,Zg.Value x0,l33Places0.fst,l33Places1.fst,l33Places2.fst,())])*(88:Nat)≤(140737488355328:Nat)) <|
 some (.inl (v2++[(Zg.Kind x0,Zg.Value x0,l33Places0.fst,l33Places1.fst,l33Places2.fst,())],Bool.false,IntKind.i64.wrap (v4+(1:Int)),()))
 else
 Zw ((List.length v2+List.length [(Zg.Kind x0,Zg.Value x0,l33Places0.fst,l33Places1.fst,l33Places2.fst,())])*(88:Nat)≤(140737488355328:Nat)) <|
 some (.inl (v2++[(Zg.Kind x0,Zg.Value x0,l33Places0.fst,l33Places1.fst,l33Places2.fst,())],Bool.false,IntKind.i64.wrap (v4+(1:Int)),()))
 else
 Zw ((List.length (([]:List (List UInt8×Int×Int×Int×Int×Unit)))+List.length (Zn.QJ a1))*(48:Nat)≤(140737488355328:Nat)) <|
 (Zav (Zn.Qw a1) a0).bind fun l33Externals0 =>
 (Zav (Zn.Xu a1) a0).bind fun l33Externals1 =>
 some (.inr (.inr ((v0,l33Externals0,l33Externals1,v2,([]:List (List UInt8×Int×Int×Int×Int×Unit))++Zn.QJ a1,()),v3)))
def ZaG (a0:List Int) (a1:Zn) (v0:List Zf) (v1:Int):Option (((List Zf)×Int×Unit) ⊕ (Zn×Bool)) :=
 if v1<(↑(List.length (Zn.YS a1)):Int) then
 (atI (Zn.YS a1) v1).bind fun x0 =>
 (atI a0 (Zf.Place x0)).bind fun x1 =>
 Zw ((List.length v0+List.length [(Zf.Name x0,x1,x0.snd.snd)])*(96:Nat)≤(140737488355328:Nat)) <|
 some (.inl (v0++[(Zf.Name x0,x1,x0.snd.snd)],IntKind.i64.wrap (v1+(1:Int)),()))
 else
 Zv (fun v=>VX a0 a1 v0 v.1 v.2.1 v.2.2.1) (([]:List Zg),Bool.true,(0:Int),())
def Zgr (a0:List Int) (a1:Zn):Option (Zn×Bool) :=
 Zv (fun v=>ZaG a0 a1 v.1 v.2.1) (([]:List (List UInt8×Int×Int×Int×Int×Int×Int×Bool×Int×Int×Int×Unit)),(0:Int),())
def ZEl:Ctr:=⟨[.dat (.sl (.int .i64)),.dat (YR)],[.own (ZoZ),.dat (.bool)],fun a K=>splitK a fun a0 a=>splitK a fun a1 a=>YA (Zgr a0 a1) fun r=>K (r.1,r.2,()) ()⟩
def XO (list0:List Int):Option (List Int) :=
 Zw ((List.length (([]:List Int))+List.length list0)*(8:Nat)≤(140737488355328:Nat)) <|
 some (([]:List Int)++list0)
def ZBh:Ctr:=⟨[.dat (.sl (.int .i64))],[.own (.ol 2 (.flat (.int .i64)))],fun a K=>splitK a fun list0 a=>YA (XO list0) fun r=>K (r,()) ()⟩
def Zi5 (t0:ZB):Option ZB :=
 (XO (ZB.Zh2 t0)).bind fun l02Ints0 =>
 (XO (ZB.Loads t0)).bind fun l02Ints1 =>
 (XO (ZB.Values t0)).bind fun l02Ints2 =>
 some (l02Ints0,l02Ints1,l02Ints2,())
def ZGU:Ctr:=⟨[.dat (YZ)],[.own (ZfI)],fun a K=>splitK a fun t0 a=>YA (Zi5 t0) fun r=>K (r,()) ()⟩
def Vw (list0:List ZB) (out0:List ZB) (i0:Int):Option (((List ZB)×Int×Unit) ⊕ List ZB) :=
 if i0<(↑(List.length list0):Int) then
 (atI list0 i0).bind fun x0 =>
 (Zi5 x0).bind fun l02Own0 =>
 Zw ((List.length out0+List.length [l02Own0])*(72:Nat)≤(140737488355328:Nat)) <|
 some (.inl (out0++[l02Own0],IntKind.i64.wrap (i0+(1:Int)),()))
 else
 some (.inr out0)
def Zaw (list0:List ZB):Option (List ZB) :=
 Zv (fun v=>Vw list0 v.1 v.2.1) (([]:List ZB),(0:Int),())
def c105:Ctr:=⟨[.dat (.sl (YZ))],[.own (.ol 337 (ZfI))],fun a K=>splitK a fun list0 a=>YA (Zaw list0) fun r=>K (r,()) ()⟩
def Zcy (c0:Zm) (l02Ints0:List Int) (i0:Int) (c1:List ZH):Option ((Int×(List ZH)×Unit) ⊕ Zm) :=
 if i0<(↑(List.length (Zm.Zak c0)):Int) then
 (atI (Zm.Zak c0) i0).bind fun x0 =>
 (Zaw (ZH.Delay x0)).bind fun l03OwnTables0 =>
 (Zaw (ZH.ZdY x0)).bind fun l03OwnTables1 =>
 Zw ((List.length c1+List.length [(ZH.Kind x0,ZH.From x0,ZH.To x0,ZH.Zcm x0,l03OwnTables0,l03OwnTables1,())])*(80:Nat)≤(140737488355328:Nat)) <|
 some (.inl (IntKind.i64.wrap (i0+(1:Int)),c1++[(ZH.Kind x0,ZH.From x0,ZH.To x0,ZH.Zcm x0,l03OwnTables0,l03OwnTables1,())],()))
 else
 some (.inr (Zm.Name c0,Zm.Kind c0,([]:List (List UInt8×Int×Int×Bool×Unit))++Zm.YC c0,c1,l02Ints0,c0.snd.snd.snd.snd.snd))
def Zjf (c0:Zm):Option Zm :=
 Zw ((List.length (([]:List (List UInt8×Int×Int×Bool×Unit)))+List.length (Zm.YC c0))*(40:Nat)≤(140737488355328:Nat)) <|
 (XO (Zm.Truth c0)).bind fun l02Ints0 =>
 Zv (fun v=>Zcy c0 l02Ints0 v.1 v.2.1) ((0:Int),([]:List ZH),())
def ZGG:Ctr:=⟨[.dat (XY)],[.own (Zps)],fun a K=>splitK a fun c0 a=>YA (Zjf c0) fun r=>K (r,()) ()⟩
def Q7 (l0:Zp) (i0:Int) (c0:List Zm):Option ((Int×(List Zm)×Unit) ⊕ Zp) :=
 if i0<(↑(List.length (Zp.Cells l0)):Int) then
 (atI (Zp.Cells l0) i0).bind fun x0 =>
 (Zjf x0).bind fun l03Own0 =>
 Zw ((List.length c0+List.length [l03Own0])*(112:Nat)≤(140737488355328:Nat)) <|
 some (.inl (IntKind.i64.wrap (i0+(1:Int)),c0++[l03Own0],()))
 else
 some (.inr (c0,()))
def ZbJ (l0:Zp):Option Zp :=
 Zv (fun v=>Q7 l0 v.1 v.2.1) ((0:Int),([]:List Zm),())
def c107:Ctr:=⟨[.dat (YN)],[.own (ZnB)],fun a K=>splitK a fun l0 a=>YA (ZbJ l0) fun r=>K (r,()) ()⟩
def ZcB (d0:Zb) (i0:Int) (c0:List Ze):Option ((Int×(List Ze)×Unit) ⊕ Zb) :=
 if i0<(↑(List.length (Zb.Instances d0)):Int) then
 (atI (Zb.Instances d0) i0).bind fun x0 =>
 (XO (Ze.ZI x0)).bind fun l02Ints0 =>
 Zw ((List.length c0+List.length [(Ze.Name x0,Ze.Cell x0,l02Ints0,())])*(48:Nat)≤(140737488355328:Nat)) <|
 some (.inl (IntKind.i64.wrap (i0+(1:Int)),c0++[(Ze.Name x0,Ze.Cell x0,l02Ints0,())],()))
 else
 some (.inr (c0,([]:List (List UInt8))++Zb.ZI d0,([]:List (List UInt8×Int×Int×Unit))++Zb.ZK d0,()))
def Zji (d0:Zb):Option Zb :=
 Zw ((List.length (([]:List (List UInt8)))+List.length (Zb.ZI d0))*(16:Nat)≤(140737488355328:Nat)) <|
 Zw ((List.length (([]:List (List UInt8×Int×Int×Unit)))+List.length (Zb.ZK d0))*(32:Nat)≤(140737488355328:Nat)) <|
 Zv (fun v=>ZcB d0 v.1 v.2.1) ((0:Int),([]:List Ze),())
def ZEU:Ctr:=⟨[.dat (Yr)],[.own (ZnR)],fun a K=>splitK a fun d0 a=>YA (Zji d0) fun r=>K (r,()) ()⟩
def Zb2 (w0:Zr):Option Zr :=
 (XO (Zr.Parent w0)).bind fun l02Ints0 =>
 (XO (Zr.Res w0)).bind fun l02Ints1 =>
 (XO (Zr.Cap w0)).bind fun l02Ints2 =>
 (XO (Zr.ZfR w0)).bind fun l02Ints3 =>
 some (l02Ints0,l02Ints1,l02Ints2,l02Ints3,())
def c109:Ctr:=⟨[.dat (XZ)],[.own (Zlc)],fun a K=>splitK a fun w0 a=>YA (Zb2 w0) fun r=>K (r,()) ()⟩
def Zcl (b0:Za) (l03OwnLibrary0:Zp) (l05Own0:Zb) (i0:Int) (c0:List Zr):Option ((Int×(List Zr)×Unit) ⊕ Za) :=
 if i0<(↑(List.length (Za.ZC b0)):Int) then
 (atI (Za.ZC b0) i0).bind fun x0 =>
 (Zb2 x0).bind fun l07OwnWire0 =>
 Zw ((List.length c0+List.length [l07OwnWire0])*(96:Nat)≤(140737488355328:Nat)) <|
 some (.inl (IntKind.i64.wrap (i0+(1:Int)),c0++[l07OwnWire0],()))
 else
 some (.inr (l03OwnLibrary0,l05Own0,c0,()))
def ZiH (b0:Za):Option Za :=
 (ZbJ (Za.Library b0)).bind fun l03OwnLibrary0 =>
 (Zji (Za.Design b0)).bind fun l05Own0 =>
 Zv (fun v=>Zcl b0 l03OwnLibrary0 l05Own0 v.1 v.2.1) ((0:Int),([]:List Zr),())
def ZEt:Ctr:=⟨[.dat (YB)],[.own (Zfy)],fun a K=>splitK a fun b0 a=>YA (ZiH b0) fun r=>K (r,()) ()⟩
def Zdq (b0:Za) (net0:Int) (l05Sinks0:List Int) (i0:Int) (l1:List Int):Option ((Int×(List Int)×Unit) ⊕ ((Int×(List Int)×Unit) ⊕ List Int)) :=
 if i0<(↑(List.length l05Sinks0):Int) then
 (atI l05Sinks0 i0).bind fun x0 =>
 (atI (Za.ZC b0) net0).bind fun x1 =>
 (atI (Zr.ZfR x1) i0).bind fun x2 =>
 (atI l1 x0).bind fun x3 =>
 some (.inl (IntKind.i64.wrap (i0+1),List.set l1 (Int.toNat x0) x2,()))
 else
 some (.inr (.inl (IntKind.i64.wrap (net0+1),l1,())))
def ZdC (b0:Za) (net0:Int) (l0:List Int):Option ((Int×(List Int)×Unit) ⊕ List Int) :=
 if net0<(↑(List.length (Za.ZC b0)):Int) then
 (QU (Za.Design b0) net0).bind fun l05Sinks0 =>
 Zv (fun v=>Zdq b0 net0 l05Sinks0 v.1 v.2.1) ((0:Int),l0,())
 else
 some (.inr l0)
def Zcz (b0:Za):Option (List Int) :=
 (Xg (Za.Design b0)).bind fun l05Places0 =>
 Zw ((0:Int)≤(↑(List.length l05Places0):Int)) <|
 Zw ((↑(List.length l05Places0):Int)≤(↑(List.length l05Places0):Int)) <|
 Zw ((↑(List.length l05Places0):Int)≤(4611686018427387904:Int)) <|
 Zw ((↑(8:Nat):Int)*(↑(List.length l05Places0):Int)≤(281474976710656:Int)) <|
 Zv (fun v=>ZdC b0 v.1 v.2.1) ((0:Int),List.replicate (Int.toNat (↑(List.length l05Places0):Int)) (0:Int),())
def ZDa:Ctr:=⟨[.dat (YB)],[.own (.ol 2 (.flat (.int .i64)))],fun a K=>splitK a fun b0 a=>YA (Zcz b0) fun r=>K (r,()) ()⟩
def Zar (d0:Zb) (p0:ZN) (net0:Int):Option Zb :=
 if ZN.instance p0<0 then
 (atI (Zb.ZK d0) (ZN.pin p0)).bind fun x0 =>
 some (Zb.Instances d0,Zb.ZI d0,List.set (Zb.ZK d0) (Int.toNat (ZN.pin p0)) (ZT.Name x0,ZT.Dir x0,net0,()),())
 else
 (atI (Zb.Instances d0) (ZN.instance p0)).bind fun x0 =>
 (atI x0.snd.snd.fst (ZN.pin p0)).bind fun x1 =>
 some (List.set (Zb.Instances d0) (Int.toNat (ZN.instance p0)) (x0.fst,x0.snd.fst,List.set x0.snd.snd.fst (Int.toNat (ZN.pin p0)) net0,()),d0.snd)
def ZDc:Ctr:=⟨[.back (ZnR),.dat (Zg1),.dat (.int .i64)],[],fun a K=>splitK a fun d0 a=>splitK a fun p0 a=>splitK a fun net0 a=>YA (Zar d0 p0 net0) fun r=>K () (r,())⟩
def Zc4 (sinks0:Int) (load0:Int):Option Zr :=
 Zw ((0:Int)≤sinks0) <|
 Zw (sinks0≤sinks0) <|
 Zw (sinks0≤(4611686018427387904:Int)) <|
 Zw ((↑(8:Nat):Int)*sinks0≤(281474976710656:Int)) <|
 some ([(-1:Int)],[(0:Int)],[load0],List.replicate (Int.toNat sinks0) (0:Int),())
def ZEv:Ctr:=⟨[.dat (.int .i64),.dat (.int .i64)],[.own (Zlc)],fun a K=>splitK a fun sinks0 a=>splitK a fun load0 a=>YA (Zc4 sinks0 load0) fun r=>K (r,()) ()⟩
def ZcT (nodes0:List Int) (net0:Int) (l0:List (List Int×List Int×List Int×List Int×Unit)) (l05Sinks0:List Int) (list0:List Int) (i0:Int):Option (((List Int)×Int×Unit) ⊕ ((Int×(List (List Int×List Int×List Int×List Int×Unit))×Unit) ⊕ Za)) :=
 if i0<(↑(List.length l05Sinks0):Int) then
 (atI l05Sinks0 i0).bind fun x0 =>
 (atI nodes0 x0).bind fun x1 =>
 Zw ((List.length list0+List.length [x1])*(8:Nat)≤(140737488355328:Nat)) <|
 some (.inl (list0++[x1],IntKind.i64.wrap (i0+(1:Int)),()))
 else
 (atI l0 net0).bind fun x0 =>
 some (.inr (.inl (IntKind.i64.wrap (net0+1),List.set l0 (Int.toNat net0) (x0.fst,x0.snd.fst,x0.snd.snd.fst,list0,()),())))
def J5 (b0:Za) (nodes0:List Int) (net0:Int) (l0:List (List Int×List Int×List Int×List Int×Unit)):Option ((Int×(List (List Int×List Int×List Int×List Int×Unit))×Unit) ⊕ Za) :=
 if net0<(↑(List.length l0):Int) then
 (QU (Za.Design b0) net0).bind fun l05Sinks0 =>
 Zv (fun v=>ZcT nodes0 net0 l0 l05Sinks0 v.1 v.2.1) (([]:List Int),(0:Int),())
 else
 some (.inr (Za.Library b0,Za.Design b0,l0,()))
def QS (b0:Za) (nodes0:List Int):Option Za :=
 Zv (fun v=>J5 b0 nodes0 v.1 v.2.1) ((0:Int),Za.ZC b0,())
def ZCJ:Ctr:=⟨[.own (Zfy),.dat (.sl (.int .i64))],[.own (Zfy)],fun a K=>splitK a fun b0 a=>splitK a fun nodes0 a=>YA (QS b0 nodes0) fun r=>K (r,()) ()⟩
def Zbl (a0:Za) (a1:Zk):Option Za :=
 (Xg (Za.Design a0)).bind fun l05Places0 =>
 (atI l05Places0 (Zk.Place a1)).bind fun x0 =>
 (Zcz a0).bind fun l08Nodes0 =>
 (atI l08Nodes0 (Zk.Place a1)).bind fun x1 =>
 Zw ((0:Int)≤IntKind.i64.wrap ((↑(List.length l08Nodes0):Int)-(↑(List.length (Zb.ZK (Za.Design a0))):Int))) <|
 Zw (IntKind.i64.wrap ((↑(List.length l08Nodes0):Int)-(↑(List.length (Zb.ZK (Za.Design a0))):Int))≤(↑(List.length l08Nodes0):Int)) <|
 (XO (List.take (Int.toNat (IntKind.i64.wrap ((↑(List.length l08Nodes0):Int)-(↑(List.length (Zb.ZK (Za.Design a0))):Int)))-Int.toNat 0) (List.drop (Int.toNat 0) l08Nodes0))).bind fun l02Ints0 =>
 Zw ((List.length l02Ints0+List.length [x1,(0:Int)])*(8:Nat)≤(140737488355328:Nat)) <|
 Zw ((↑(List.length l08Nodes0):Int)≤(↑(List.length l08Nodes0):Int)) <|
 Zw ((List.length (l02Ints0++[x1,(0:Int)])+List.length (List.take (Int.toNat (↑(List.length l08Nodes0):Int)-Int.toNat (IntKind.i64.wrap ((↑(List.length l08Nodes0):Int)-(↑(List.length (Zb.ZK (Za.Design a0))):Int)))) (List.drop (Int.toNat (IntKind.i64.wrap ((↑(List.length l08Nodes0):Int)-(↑(List.length (Zb.ZK (Za.Design a0))):Int)))) l08Nodes0)))*(8:Nat)≤(140737488355328:Nat)) <|
 (Zar (Za.Design a0) x0 (↑(List.length (Za.ZC a0)):Int)).bind fun l08Connect0 =>
 if IntKind.i64.wrap ((↑(List.length l08Nodes0):Int)-(↑(List.length (Zb.ZK (Za.Design a0))):Int))≤Zk.Place a1 then
 (atI (l02Ints0++[x1,(0:Int)]++List.take (Int.toNat (↑(List.length l08Nodes0):Int)-Int.toNat (IntKind.i64.wrap ((↑(List.length l08Nodes0):Int)-(↑(List.length (Zb.ZK (Za.Design a0))):Int)))) (List.drop (Int.toNat (IntKind.i64.wrap ((↑(List.length l08Nodes0):Int)-(↑(List.length (Zb.ZK (Za.Design a0))):Int)))) l08Nodes0)) (IntKind.i64.wrap (Zk.Place a1+(2:Int)))).bind fun x2 =>
 Zw ((List.length (Zb.Instances l08Connect0)+List.length [(Zk.Name a1,Zk.Cell a1,[ZN.net x0,(↑(List.length (Za.ZC a0)):Int)],())])*(48:Nat)≤(140737488355328:Nat)) <|
 Zw ((List.length (Zb.ZI l08Connect0)+List.length [Zk.Name a1])*(16:Nat)≤(140737488355328:Nat)) <|
 (Zc4 1 0).bind fun l07Lumped0 =>
 Zw ((List.length (Za.ZC a0)+List.length [l07Lumped0])*(96:Nat)≤(140737488355328:Nat)) <|
 (QS (Za.Library a0,(Zb.Instances l08Connect0++[(Zk.Name a1,Zk.Cell a1,[ZN.net x0,(↑(List.length (Za.ZC a0)):Int)],())],Zb.ZI l08Connect0++[Zk.Name a1],l08Connect0.snd.snd),Za.ZC a0++[l07Lumped0],()) (List.set (l02Ints0++[x1,(0:Int)]++List.take (Int.toNat (↑(List.length l08Nodes0):Int)-Int.toNat (IntKind.i64.wrap ((↑(List.length l08Nodes0):Int)-(↑(List.length (Zb.ZK (Za.Design a0))):Int)))) (List.drop (Int.toNat (IntKind.i64.wrap ((↑(List.length l08Nodes0):Int)-(↑(List.length (Zb.ZK (Za.Design a0))):Int)))) l08Nodes0)) (Int.toNat (IntKind.i64.wrap (Zk.Place a1+(2:Int)))) (0:Int))).bind fun l08Attach0 =>
 some l08Attach0
 else
 (atI (l02Ints0++[x1,(0:Int)]++List.take (Int.toNat (↑(List.length l08Nodes0):Int)-Int.toNat (IntKind.i64.wrap ((↑(List.length l08Nodes0):Int)-(↑(List.length (Zb.ZK (Za.Design a0))):Int)))) (List.drop (Int.toNat (IntKind.i64.wrap ((↑(List.length l08Nodes0):Int)-(↑(List.length (Zb.ZK (Za.Design a0))):Int)))) l08Nodes0)) (Zk.Place a1)).bind fun x2 =>
 Zw ((List.length (Zb.Instances l08Connect0)+List.length [(Zk.Name a1,Zk.Cell a1,[ZN.net x0,(↑(List.length (Za.ZC a0)):Int)],())])*(48:Nat)≤(140737488355328:Nat)) <|
 Zw ((List.length (Zb.ZI l08Connect0)+List.length [Zk.Name a1])*(16:Nat)≤(140737488355328:Nat)) <|
 (Zc4 1 0).bind fun l07Lumped0 =>
 Zw ((List.length (Za.ZC a0)+List.length [l07Lumped0])*(96:Nat)≤(140737488355328:Nat)) <|
 (QS (Za.Library a0,(Zb.Instances l08Connect0++[(Zk.Name a1,Zk.Cell a1,[ZN.net x0,(↑(List.length (Za.ZC a0)):Int)],())],Zb.ZI l08Connect0++[Zk.Name a1],l08Connect0.snd.snd),Za.ZC a0++[l07Lumped0],()) (List.set (l02Ints0++[x1,(0:Int)]++List.take (Int.toNat (↑(List.length l08Nodes0):Int)-Int.toNat (IntKind.i64.wrap ((↑(List.length l08Nodes0):Int)-(↑(List.length (Zb.ZK (Za.Design a0))):Int)))) (List.drop (Int.toNat (IntKind.i64.wrap ((↑(List.length l08Nodes0):Int)-(↑(List.length (Zb.ZK (Za.Design a0))):Int)))) l08Nodes0)) (Int.toNat (Zk.Place a1)) (0:Int))).bind fun l08Attach0 =>
 some l08Attach0
def ZFJ:Ctr:=⟨[.own (Zfy),.dat (Qv)],[.own (Zfy)],fun a K=>splitK a fun a0 a=>splitK a fun a1 a=>YA (Zbl a0 a1) fun r=>K (r,()) ()⟩
def Zft (a0:Za):Option Za :=
 (Zcz a0).bind fun l08Nodes0 =>
 (QU (Za.Design a0) (IntKind.i64.wrap ((↑(List.length (Za.ZC a0)):Int)-1))).bind fun l05Sinks0 =>
 (atI l05Sinks0 0).bind fun x0 =>
 (atI l08Nodes0 (IntKind.i64.wrap (IntKind.i64.wrap ((↑(List.length l08Nodes0):Int)-(↑(List.length (Zb.ZK (Za.Design a0))):Int))-2))).bind fun x1 =>
 (atI l08Nodes0 x0).bind fun x2 =>
 (atI (Zb.Instances (Za.Design a0)) (IntKind.i64.wrap ((↑(List.length (Zb.Instances (Za.Design a0))):Int)-1))).bind fun x3 =>
 (atI x3.snd.snd.fst 0).bind fun x4 =>
 (Xg (List.set (Zb.Instances (Za.Design a0)) (Int.toNat (IntKind.i64.wrap ((↑(List.length (Zb.Instances (Za.Design a0))):Int)-1))) x3,(Za.Design a0).snd)).bind fun l05Places0 =>
 (atI l05Places0 x0).bind fun x5 =>
 (Zar (List.set (Zb.Instances (Za.Design a0)) (Int.toNat (IntKind.i64.wrap ((↑(List.length (Zb.Instances (Za.Design a0))):Int)-1))) x3,(Za.Design a0).snd) x5 x4).bind fun l08Connect0 =>
 Zw ((0:Int)≤IntKind.i64.wrap (IntKind.i64.wrap ((↑(List.length l08Nodes0):Int)-(↑(List.length (Zb.ZK (Za.Design a0))):Int))-(2:Int))) <|
 Zw (IntKind.i64.wrap (IntKind.i64.wrap ((↑(List.length l08Nodes0):Int)-(↑(List.length (Zb.ZK (Za.Design a0))):Int))-(2:Int))≤(↑(List.length (List.set l08Nodes0 (Int.toNat x0) x1)):Int)) <|
 (XO (List.take (Int.toNat (IntKind.i64.wrap (IntKind.i64.wrap ((↑(List.length l08Nodes0):Int)-(↑(List.length (Zb.ZK (Za.Design a0))):Int))-2))-Int.toNat 0) (List.drop (Int.toNat 0) (List.set l08Nodes0 (Int.toNat x0) x1)))).bind fun l02Ints0 =>
 Zw ((0:Int)≤IntKind.i64.wrap ((↑(List.length l08Nodes0):Int)-(↑(List.length (Zb.ZK (Za.Design a0))):Int))) <|
 Zw (IntKind.i64.wrap ((↑(List.length l08Nodes0):Int)-(↑(List.length (Zb.ZK (Za.Design a0))):Int))≤(↑(List.length (List.set l08Nodes0 (Int.toNat x0) x1)):Int)) <|
 Zw ((↑(List.length (List.set l08Nodes0 (Int.toNat x0) x1)):Int)≤(↑(List.length (List.set l08Nodes0 (Int.toNat x0) x1)):Int)) <|
 Zw ((List.length l02Ints0+List.length (List.take (Int.toNat (↑(List.length (List.set l08Nodes0 (Int.toNat x0) x1)):Int)-Int.toNat (IntKind.i64.wrap ((↑(List.length l08Nodes0):Int)-(↑(List.length (Zb.ZK (Za.Design a0))):Int)))) (List.drop (Int.toNat (IntKind.i64.wrap ((↑(List.length l08Nodes0):Int)-(↑(List.length (Zb.ZK (Za.Design a0))):Int)))) (List.set l08Nodes0 (Int.toNat x0) x1))))*(8:Nat)≤(140737488355328:Nat)) <|
 Zw ((0:Int)≤IntKind.i64.wrap ((↑(List.length (Zb.Instances (Za.Design a0))):Int)-(1:Int))) <|
 Zw (IntKind.i64.wrap ((↑(List.length (Zb.Instances (Za.Design a0))):Int)-(1:Int))≤(↑(List.length (Zb.Instances l08Connect0)):Int)) <|
 Zw ((0:Int)≤IntKind.i64.wrap ((↑(List.length (Za.ZC a0)):Int)-(1:Int))) <|
 Zw (IntKind.i64.wrap ((↑(List.length (Za.ZC a0)):Int)-(1:Int))≤(↑(List.length (Zb.ZI l08Connect0)):Int)) <|
 Zw (IntKind.i64.wrap ((↑(List.length (Za.ZC a0)):Int)-(1:Int))≤(↑(List.length (Za.ZC a0)):Int)) <|
 (QS (Za.Library a0,(List.take (Int.toNat (IntKind.i64.wrap ((↑(List.length (Zb.Instances (Za.Design a0))):Int)-1))-Int.toNat 0) (List.drop (Int.toNat 0) (Zb.Instances l08Connect0)),List.take (Int.toNat (IntKind.i64.wrap ((↑(List.length (Za.ZC a0)):Int)-1))-Int.toNat 0) (List.drop (Int.toNat 0) (Zb.ZI l08Connect0)),l08Connect0.snd.snd),List.take (Int.toNat (IntKind.i64.wrap ((↑(List.length (Za.ZC a0)):Int)-1))-Int.toNat 0) (List.drop (Int.toNat 0) (Za.ZC a0)),()) (l02Ints0++List.take (Int.toNat (↑(List.length (List.set l08Nodes0 (Int.toNat x0) x1)):Int)-Int.toNat (IntKind.i64.wrap ((↑(List.length l08Nodes0):Int)-(↑(List.length (Zb.ZK (Za.Design a0))):Int)))) (List.drop (Int.toNat (IntKind.i64.wrap ((↑(List.length l08Nodes0):Int)-(↑(List.length (Zb.ZK (Za.Design a0))):Int)))) (List.set l08Nodes0 (Int.toNat x0) x1)))).bind fun l08Attach0 =>
 some l08Attach0
def c116:Ctr:=⟨[.own (Zfy)],[.own (Zfy)],fun a K=>splitK a fun a0 a=>YA (Zft a0) fun r=>K (r,()) ()⟩
def Zcr (a0:Za) (a1:Zk):Option Za :=
 (ZiH a0).bind fun l07Own0 =>
 (Xg (Za.Design l07Own0)).bind fun l05Places0 =>
 if Zk.Kind a1=1 then
 (atI l05Places0 (Zk.Place a1)).bind fun x0 =>
 (atI (Zb.Instances (Za.Design l07Own0)) (ZN.instance x0)).bind fun x1 =>
 some (Za.Library l07Own0,(List.set (Zb.Instances (Za.Design l07Own0)) (Int.toNat (ZN.instance x0)) (x1.fst,Zk.Cell a1,x1.snd.snd),(Za.Design l07Own0).snd),l07Own0.snd.snd)
 else
 if Zk.Kind a1=2 then
 (Zbl l07Own0 a1).bind fun l08Insert0 =>
 some l08Insert0
 else
 if Zk.Kind a1=3 then
 (Zft l07Own0).bind fun l08Remove0 =>
 some l08Remove0
 else
 if Zk.Kind a1=4 then
 (Zcz l07Own0).bind fun l08Nodes0 =>
 (atI l08Nodes0 (Zk.Place a1)).bind fun x0 =>
 (atI l05Places0 (Zk.Place a1)).bind fun x1 =>
 (Zar (Za.Design l07Own0) x1 (Zk.Net a1)).bind fun l08Connect0 =>
 (QS (Za.Library l07Own0,l08Connect0,l07Own0.snd.snd) (List.set l08Nodes0 (Int.toNat (Zk.Place a1)) (Zk.Node a1))).bind fun l08Attach0 =>
 some l08Attach0
 else
 if Zk.Kind a1=5 then
 (Zb2 (Zk.Ze1 a1)).bind fun l07OwnWire0 =>
 (atI (Za.ZC l07Own0) (Zk.Net a1)).bind fun x0 =>
 some (Za.Library l07Own0,Za.Design l07Own0,List.set (Za.ZC l07Own0) (Int.toNat (Zk.Net a1)) l07OwnWire0,())
 else
 some l07Own0
def c117:Ctr:=⟨[.dat (YB),.dat (Qv)],[.own (Zfy)],fun a K=>splitK a fun a0 a=>splitK a fun a1 a=>YA (Zcr a0 a1) fun r=>K (r,()) ()⟩
def VQ (b0:Za) (e0:Zk) (setup0:Zn):Option (Zn×Int) :=
 (ZaQ b0 e0).bind fun EditCode0 =>
 if EditCode0=0 then
 (ZdT b0 setup0).bind fun IsSetup0 =>
 if IsSetup0=true then
 (Zfp b0 e0).bind fun l32Places0 =>
 (Zgr l32Places0 setup0).bind fun l33Carry0 =>
 if l33Carry0.snd=true then
 (Zcr b0 e0).bind fun l08Apply0 =>
 (ZdT l08Apply0 l33Carry0.fst).bind fun IsSetup1 =>
 if IsSetup1=true then
 some (l33Carry0.fst,0)
 else
 some ((([]:List Zf),([]:List Zh),([]:List Zh),([]:List Zg),([]:List Zu),()),(5:Int))
 else
 some ((([]:List Zf),([]:List Zh),([]:List Zh),([]:List Zg),([]:List Zu),()),(5:Int))
 else
 some ((([]:List Zf),([]:List Zh),([]:List Zh),([]:List Zg),([]:List Zu),()),(2:Int))
 else
 some ((([]:List Zf),([]:List Zh),([]:List Zh),([]:List Zg),([]:List Zu),()),EditCode0)
def ZFV:Ctr:=⟨[.dat (YB),.dat (Qv),.dat (YR)],[.own (ZoZ),.dat (.int .i64)],fun a K=>splitK a fun b0 a=>splitK a fun e0 a=>splitK a fun setup0 a=>YA (VQ b0 e0 setup0) fun r=>K (r.1,r.2,()) ()⟩
def ZO (x0:Int) (low0:Int) (high0:Int):Option Bool :=
 if low0≤x0 then
 some (Decidable.decide (x0≤high0))
 else
 some Bool.false
def c119:Ctr:=D3 (.int .i64) (.int .i64) (.int .i64) (.bool) ZO
def Zdr (s0:List UInt8):Option Bool :=
 (ZO (↑(List.length s0):Int) 1 8).bind fun within0 =>
 if within0=true then
 Zw (List.length s0≤(1000000:Nat)) <|
 if Go.Lib.trimS s0 [(97:UInt8),(98:UInt8),(99:UInt8),(100:UInt8),(101:UInt8),(102:UInt8),(103:UInt8),(104:UInt8),(105:UInt8),(106:UInt8),(107:UInt8),(108:UInt8),(109:UInt8),(110:UInt8),(111:UInt8),(112:UInt8),(113:UInt8),(114:UInt8),(115:UInt8),(116:UInt8),(117:UInt8),(118:UInt8),(119:UInt8),(120:UInt8),(121:UInt8),(122:UInt8),(48:UInt8),(49:UInt8),(50:UInt8),(51:UInt8),(52:UInt8),(53:UInt8),(54:UInt8),(55:UInt8),(56:UInt8),(57:UInt8)]=([]:List UInt8) then
 (atI s0 0).bind fun x0 =>
 some (Decidable.decide ((0:Int)≤Go.Lib.indexByte [(97:UInt8),(98:UInt8),(99:UInt8),(100:UInt8),(101:UInt8),(102:UInt8),(103:UInt8),(104:UInt8),(105:UInt8),(106:UInt8),(107:UInt8),(108:UInt8),(109:UInt8),(110:UInt8),(111:UInt8),(112:UInt8),(113:UInt8),(114:UInt8),(115:UInt8),(116:UInt8),(117:UInt8),(118:UInt8),(119:UInt8),(120:UInt8),(121:UInt8),(122:UInt8)] (Nat.toUInt8 (Int.toNat (↑(UInt8.toNat x0):Int)))))
 else
 some Bool.false
 else
 some Bool.false
def ZB6:Ctr:=D1 (.str) (.bool) Zdr
def J3 (list0:List YE):Option Int :=
 some (↑(List.length list0):Int)
def ZDE:Ctr:=D1 (.sl (ZdU)) (.int .i64) J3
def Y5 (s0:List (List UInt8)) (v0:List UInt8) (v1:Int):Option ((Int×Unit) ⊕ Int) :=
 if v1<(↑(List.length s0):Int) then
 (atI s0 v1).bind fun x0 =>
 if v0=x0 then
 some (.inr v1)
 else
 some (.inl (IntKind.i64.wrap (v1+1),()))
 else
 some (.inr (-1))
def YU (s0:List (List UInt8)) (v0:List UInt8):Option Int :=
 Zv (fun v=>Y5 s0 v0 v.1) ((0:Int),())
def ZDX:Ctr:=D2 (.sl (.str)) (.str) (.int .i64) YU
def XP (s0:List (List UInt8)) (v0:List UInt8):Option Bool :=
 (YU s0 v0).bind fun string0 =>
 some (Decidable.decide (0≤string0))
def ZF9:Ctr:=D2 (.sl (.str)) (.str) (.bool) XP
def Zdz (list0:List (List UInt8)) (v0:Int):Option ((Int×Unit) ⊕ Bool) :=
 if v0<(↑(List.length list0):Int) then
 (atI list0 v0).bind fun x0 =>
 (Zdr x0).bind fun isName0 =>
 if isName0=true then
 Zw ((0:Int)≤v0) <|
 Zw (v0≤(↑(List.length list0):Int)) <|
 (XP (List.take (Int.toNat v0-Int.toNat 0) (List.drop (Int.toNat 0) list0)) x0).bind fun string0 =>
 if string0=true then
 some (.inr Bool.false)
 else
 some (.inl (IntKind.i64.wrap (v0+1),()))
 else
 some (.inr Bool.false)
 else
 some (.inr Bool.true)
def QO (list0:List (List UInt8)):Option Bool :=
 Zv (fun v=>Zdz list0 v.1) ((0:Int),())
def c124:Ctr:=D1 (.sl (.str)) (.bool) QO
def JF (list0:List YE) (names0:List (List UInt8)) (v0:Int):Option (((List (List UInt8))×Int×Unit) ⊕ Bool) :=
 if v0<(↑(List.length list0):Int) then
 (atI list0 v0).bind fun x0 =>
 Zw ((List.length names0+List.length [YE.Name x0])*(16:Nat)≤(140737488355328:Nat)) <|
 if v0=IntKind.i64.wrap ((↑(List.length list0):Int)-1) then
 if YE.Dir x0=2 then
 if YE.Cap x0=0 then
 if (YE.Clock x0)=true then
 some (.inr Bool.false)
 else
 some (.inl (names0++[YE.Name x0],IntKind.i64.wrap (v0+(1:Int)),()))
 else
 some (.inr Bool.false)
 else
 some (.inr Bool.false)
 else
 if YE.Dir x0=1 then
 (ZO (YE.Cap x0) 0 500).bind fun within0 =>
 if within0=true then
 some (.inl (names0++[YE.Name x0],IntKind.i64.wrap (v0+(1:Int)),()))
 else
 some (.inr Bool.false)
 else
 some (.inr Bool.false)
 else
 (J3 list0).bind fun Pin0 =>
 (ZO Pin0 2 5).bind fun within0 =>
 if within0=true then
 (QO names0).bind fun areNames0 =>
 some (.inr areNames0)
 else
 some (.inr Bool.false)
def Zhu (list0:List YE):Option Bool :=
 Zv (fun v=>JF list0 v.1 v.2.1) (([]:List (List UInt8)),(0:Int),())
def ZFv:Ctr:=D1 (.sl (ZdU)) (.bool) Zhu
def ZhA (kind0:Int):Option Bool :=
 if kind0=4 then
 some Bool.true
 else
 some (Decidable.decide (kind0=5))
def ZEV:Ctr:=D1 (.int .i64) (.bool) ZhA
def Y1 (list0:List Int):Option Int :=
 some (↑(List.length list0):Int)
def c127:Ctr:=D1 (.sl (.int .i64)) (.int .i64) Y1
def ZeT (n0:Int) (a0:Int) (a1:Int):Option Bool :=
 (ZO n0 a0 a1).bind fun within0 =>
 some !within0
def ZE6:Ctr:=D3 (.int .i64) (.ptr (.int .i64)) (.ptr (.int .i64)) (.bool) ZeT
def YH (s0:List Int) (f0:Int×Int×Unit) (v0:Int):Option ((Int×Unit) ⊕ Int) :=
 if v0<(↑(List.length s0):Int) then
 (atI s0 v0).bind fun x0 =>
 (ZeT x0 f0.fst f0.snd.fst).bind fun c1_0 =>
 if c1_0=true then
 some (.inr v0)
 else
 some (.inl (IntKind.i64.wrap (v0+1),()))
 else
 some (.inr (-1))
def Yt (s0:List Int) (f0:Int×Int×Unit):Option Int :=
 Zv (fun v=>YH s0 f0 v.1) ((0:Int),())
def ZGk:Ctr:=D2 (.sl (.int .i64)) (.fn 248 (.pair (.ptr (.int .i64)) (.pair (.ptr (.int .i64)) (.unit)))) (.int .i64) Yt
def YP (s0:List Int) (f0:Int×Int×Unit):Option Bool :=
 (Yt s0 f0).bind fun c1_0 =>
 some (Decidable.decide (0≤c1_0))
def c130:Ctr:=D2 (.sl (.int .i64)) (.fn 248 (.pair (.ptr (.int .i64)) (.pair (.ptr (.int .i64)) (.unit)))) (.bool) YP
def XV (list0:List Int) (low0:Int) (high0:Int):Option Bool :=
 (YP list0 (low0,high0,())).bind fun c1_0 =>
 some !c1_0
def c131:Ctr:=D3 (.sl (.int .i64)) (.int .i64) (.int .i64) (.bool) XV
def Qi (list0:List Int) (i0:Int):Option ((Int×Unit) ⊕ Bool) :=
 if i0<(↑(List.length list0):Int) then
 (atI list0 (IntKind.i64.wrap (i0-1))).bind fun x0 =>
 (atI list0 i0).bind fun x1 =>
 if x1≤x0 then
 some (.inr Bool.false)
 else
 some (.inl (IntKind.i64.wrap (i0+1),()))
 else
 some (.inr Bool.true)
def VE (list0:List Int):Option Bool :=
 Zv (fun v=>Qi list0 v.1) ((1:Int),())
def ZDj:Ctr:=D1 (.sl (.int .i64)) (.bool) VE
def Zhj (list0:List Int):Option Bool :=
 (Y1 list0).bind fun int64_0 =>
 (ZO int64_0 1 4).bind fun within0 =>
 if within0=true then
 (XV list0 0 100000).bind fun areWithin0 =>
 if areWithin0=true then
 (VE list0).bind fun isIncreasing0 =>
 some isIncreasing0
 else
 some Bool.false
 else
 some Bool.false
def ZGP:Ctr:=D1 (.sl (.int .i64)) (.bool) Zhj
def ZhV (t0:ZB):Option Bool :=
 (Zhj (ZB.Zh2 t0)).bind fun isAxis0 =>
 if isAxis0=true then
 (Zhj (ZB.Loads t0)).bind fun isAxis1 =>
 if isAxis1=true then
 if (↑(List.length (ZB.Values t0)):Int)=IntKind.i64.wrap ((↑(List.length (ZB.Zh2 t0)):Int)*(↑(List.length (ZB.Loads t0)):Int)) then
 (XV (ZB.Values t0) (-1000000) 1000000).bind fun areWithin0 =>
 some areWithin0
 else
 some Bool.false
 else
 some Bool.false
 else
 some Bool.false
def ZFK:Ctr:=D1 (YZ) (.bool) ZhV
def Vg (x0:List Int) (m0:Int) (i0:Int):Option ((Int×Int×Unit) ⊕ Int) :=
 if i0<(↑(List.length x0):Int) then
 (atI x0 i0).bind fun x2 =>
 some (.inl (Min.min m0 x2,IntKind.i64.wrap (i0+1),()))
 else
 some (.inr m0)
def Vs (x0:List Int):Option Int :=
 if (↑(List.length x0):Int)<1 then
 none
 else
 (atI x0 0).bind fun x1 =>
 Zv (fun v=>Vg x0 v.1 v.2.1) (x1,(1:Int),())
def ZFy:Ctr:=D1 (.sl (.int .i64)) (.int .i64) Vs
def VI (t0:ZB) (a0:Bool):Option Bool :=
 (ZhV t0).bind fun IsTable0 =>
 if IsTable0=true then
 if a0=true then
 (Vs (ZB.Values t0)).bind fun int64_0 =>
 some (Decidable.decide (int64_0<0))
 else
 some Bool.false
 else
 some Bool.true
def ZGv:Ctr:=D2 (YZ) (.ptr (.bool)) (.bool) VI
def Ym (s0:List ZB) (f0:Bool×Unit) (v0:Int):Option ((Int×Unit) ⊕ Int) :=
 if v0<(↑(List.length s0):Int) then
 (atI s0 v0).bind fun x0 =>
 (VI x0 f0.fst).bind fun c1_0 =>
 if c1_0=true then
 some (.inr v0)
 else
 some (.inl (IntKind.i64.wrap (v0+1),()))
 else
 some (.inr (-1))
def Z9 (s0:List ZB) (f0:Bool×Unit):Option Int :=
 Zv (fun v=>Ym s0 f0 v.1) ((0:Int),())
def ZFW:Ctr:=D2 (.sl (YZ)) (.fn 318 (.pair (.ptr (.bool)) (.unit))) (.int .i64) Z9
def Z0 (s0:List ZB) (f0:Bool×Unit):Option Bool :=
 (Z9 s0 f0).bind fun c1_0 =>
 some (Decidable.decide (0≤c1_0))
def c138:Ctr:=D2 (.sl (YZ)) (.fn 318 (.pair (.ptr (.bool)) (.unit))) (.bool) Z0
def Zbm (list0:List ZB) (positive0:Bool):Option Bool :=
 if (↑(List.length list0):Int)=2 then
 (Z0 list0 (positive0,())).bind fun c1_0 =>
 some !c1_0
 else
 some Bool.false
def c139:Ctr:=D2 (.sl (YZ)) (.bool) (.bool) Zbm
def Zeh (p0:YE):Option Bool :=
 some (YE.Clock p0)
def ZFG:Ctr:=D1 (ZdU) (.bool) Zeh
def Yq (s0:List YE) (v0:Int):Option ((Int×Unit) ⊕ Int) :=
 if v0<(↑(List.length s0):Int) then
 (atI s0 v0).bind fun x0 =>
 (Zeh x0).bind fun c1_0 =>
 if c1_0=true then
 some (.inr v0)
 else
 some (.inl (IntKind.i64.wrap (v0+1),()))
 else
 some (.inr (-1))
def Yf (s0:List YE) (f0:Unit):Option Int :=
 Zv (fun v=>Yq s0 v.1) ((0:Int),())
def c141:Ctr:=D2 (.sl (ZdU)) (.fn 322 (.unit)) (.int .i64) Yf
def Zd7 (c0:Zm):Option Int :=
 (Yf (Zm.YC c0) ()).bind fun c1_0 =>
 some c1_0
def ZEC:Ctr:=D1 (XY) (.int .i64) Zd7
def Za9 (c0:Zm):Option Int :=
 (J3 (Zm.YC c0)).bind fun Pin0 =>
 some (IntKind.i64.wrap (Pin0-1))
def c143:Ctr:=D1 (XY) (.int .i64) Za9
def Zah (c0:Zm) (pin0:Int):Option Bool :=
 (Za9 c0).bind fun output0 =>
 (ZO pin0 0 (IntKind.i64.wrap (output0-1))).bind fun within0 =>
 some within0
def ZGW:Ctr:=D2 (XY) (.int .i64) (.bool) Zah
def Zen (a0:Zm) (a1:ZH):Option Bool :=
 (ZhA (ZH.Kind a1)).bind fun isCheck0 =>
 if isCheck0=true then
 if ZH.Zcm a1=0 then
 if (↑(List.length (ZH.ZdY a1)):Int)=0 then
 (Zbm (ZH.Delay a1) Bool.false).bind fun areTables0 =>
 if areTables0=true then
 (Zd7 a0).bind fun clock0 =>
 if ZH.From a1=clock0 then
 if 0≤ZH.From a1 then
 (Zah a0 (ZH.To a1)).bind fun isInput0 =>
 if isInput0=true then
 some (!Decidable.decide (ZH.To a1=ZH.From a1))
 else
 some Bool.false
 else
 some Bool.false
 else
 some Bool.false
 else
 some Bool.false
 else
 some Bool.false
 else
 some Bool.false
 else
 (Zbm (ZH.Delay a1) Bool.true).bind fun areTables0 =>
 if areTables0=true then
 (Zbm (ZH.ZdY a1) Bool.true).bind fun areTables1 =>
 if areTables1=true then
 (Za9 a0).bind fun output0 =>
 if ZH.To a1=output0 then
 (Zah a0 (ZH.From a1)).bind fun isInput0 =>
 if isInput0=true then
 if ZH.Kind a1=1 then
 (atI (Zm.YC a0) (ZH.From a1)).bind fun x0 =>
 if (YE.Clock x0)=true then
 some Bool.false
 else
 (ZO (ZH.Zcm a1) 1 3).bind fun within0 =>
 some within0
 else
 if ZH.Kind a1=2 then
 if ZH.Kind a1=2 then
 (atI (Zm.YC a0) (ZH.From a1)).bind fun x0 =>
 if (YE.Clock x0)=true then
 some (Decidable.decide (ZH.Zcm a1=0))
 else
 some Bool.false
 else
 some Bool.false
 else
 if ZH.Kind a1=3 then
 (atI (Zm.YC a0) (ZH.From a1)).bind fun x0 =>
 if (YE.Clock x0)=true then
 some (Decidable.decide (ZH.Zcm a1=0))
 else
 some Bool.false
 else
 some Bool.false
 else
 some Bool.false
 else
 some Bool.false
 else
 some Bool.false
 else
 some Bool.false
def c145:Ctr:=D2 (XY) (ZfF) (.bool) Zen
def Qt (o0:ZH) (a0:ZH):Option Bool :=
 if ZH.Kind o0=ZH.Kind a0 then
 if ZH.From o0=ZH.From a0 then
 some (Decidable.decide (ZH.To o0=ZH.To a0))
 else
 some Bool.false
 else
 some Bool.false
def c146:Ctr:=D2 (ZfF) (.ptr (ZfF)) (.bool) Qt
def Yn (s0:List ZH) (f0:ZH×Unit) (v0:Int):Option ((Int×Unit) ⊕ Int) :=
 if v0<(↑(List.length s0):Int) then
 (atI s0 v0).bind fun x0 =>
 (Qt x0 f0.fst).bind fun c1_0 =>
 if c1_0=true then
 some (.inr v0)
 else
 some (.inl (IntKind.i64.wrap (v0+1),()))
 else
 some (.inr (-1))
def Yb (s0:List ZH) (f0:ZH×Unit):Option Int :=
 Zv (fun v=>Yn s0 f0 v.1) ((0:Int),())
def ZFq:Ctr:=D2 (.sl (ZfF)) (.fn 297 (.pair (.ptr (ZfF)) (.unit))) (.int .i64) Yb
def Z5 (s0:List ZH) (f0:ZH×Unit):Option Bool :=
 (Yb s0 f0).bind fun c1_0 =>
 some (Decidable.decide (0≤c1_0))
def c148:Ctr:=D2 (.sl (ZfF)) (.fn 297 (.pair (.ptr (ZfF)) (.unit))) (.bool) Z5
def ZaR (c0:Zm) (v0:Int):Option ((Int×Unit) ⊕ Bool) :=
 if v0<(↑(List.length (Zm.Zak c0)):Int) then
 (atI (Zm.Zak c0) v0).bind fun x0 =>
 (Zen c0 x0).bind fun isArc0 =>
 if isArc0=true then
 Zw ((0:Int)≤v0) <|
 Zw (v0≤(↑(List.length (Zm.Zak c0)):Int)) <|
 (Z5 (List.take (Int.toNat v0-Int.toNat 0) (List.drop (Int.toNat 0) (Zm.Zak c0))) (x0,())).bind fun c1_0 =>
 if c1_0=true then
 some (.inr Bool.false)
 else
 some (.inl (IntKind.i64.wrap (v0+1),()))
 else
 some (.inr Bool.false)
 else
 some (.inr (Decidable.decide ((↑(List.length (Zm.Zak c0)):Int)≤8)))
def Zcx (c0:Zm):Option Bool :=
 Zv (fun v=>ZaR c0 v.1) ((0:Int),())
def ZGD:Ctr:=D1 (XY) (.bool) Zcx
def Zdi (a0:ZH) (a1:Int):Option Bool :=
 some (Decidable.decide (ZH.Kind a0=a1))
def ZGX:Ctr:=D2 (ZfF) (.ptr (.int .i64)) (.bool) Zdi
def Yw (s0:List ZH) (f0:Int×Unit) (v0:Int):Option ((Int×Unit) ⊕ Int) :=
 if v0<(↑(List.length s0):Int) then
 (atI s0 v0).bind fun x0 =>
 (Zdi x0 f0.fst).bind fun c1_0 =>
 if c1_0=true then
 some (.inr v0)
 else
 some (.inl (IntKind.i64.wrap (v0+1),()))
 else
 some (.inr (-1))
def Yi (s0:List ZH) (f0:Int×Unit):Option Int :=
 Zv (fun v=>Yw s0 f0 v.1) ((0:Int),())
def ZFa:Ctr:=D2 (.sl (ZfF)) (.fn 312 (.pair (.ptr (.int .i64)) (.unit))) (.int .i64) Yi
def Yd (s0:List ZH) (f0:Int×Unit):Option Bool :=
 (Yi s0 f0).bind fun c1_0 =>
 some (Decidable.decide (0≤c1_0))
def c152:Ctr:=D2 (.sl (ZfF)) (.fn 312 (.pair (.ptr (.int .i64)) (.unit))) (.bool) Yd
def Vu (c0:Zm) (kind0:Int):Option Bool :=
 (Yd (Zm.Zak c0) (kind0,())).bind fun c1_0 =>
 some c1_0
def ZFQ:Ctr:=D2 (XY) (.int .i64) (.bool) Vu
def X6 (a0:Zm) (v0:Int) (v1:Int):Option ((Int×Int×Unit) ⊕ Bool) :=
 if v1<(↑(List.length (Zm.YC a0)):Int) then
 (atI (Zm.YC a0) v1).bind fun x0 =>
 if (YE.Clock x0)=true then
 some (.inl (IntKind.i64.wrap (v0+1),IntKind.i64.wrap (v1+1),()))
 else
 some (.inl (v0,IntKind.i64.wrap (v1+1),()))
 else
 if Zm.Kind a0=1 then
 if v0=0 then
 (Za9 a0).bind fun output0 =>
 Zw ((0:Int)≤output0) <|
 if (↑(List.length (Zm.Truth a0)):Int)=IntKind.i64.wrap (1*2 ^ Min.min (Int.toNat output0) (IntKind.bits IntKind.i64)) then
 (XV (Zm.Truth a0) 0 1).bind fun areWithin0 =>
 some (.inr areWithin0)
 else
 some (.inr Bool.false)
 else
 some (.inr Bool.false)
 else
 if Zm.Kind a0=2 then
 if v0=1 then
 if (↑(List.length (Zm.Truth a0)):Int)=0 then
 (Vu a0 1).bind fun has0 =>
 if has0=true then
 some (.inr Bool.false)
 else
 (Vu a0 2).bind fun has1 =>
 (Vu a0 3).bind fun has2 =>
 some (.inr (!has1 == has2))
 else
 some (.inr Bool.false)
 else
 some (.inr Bool.false)
 else
 if Zm.Kind a0=3 then
 if v0=1 then
 if (↑(List.length (Zm.Truth a0)):Int)=0 then
 (Vu a0 1).bind fun has0 =>
 if has0=true then
 (Vu a0 2).bind fun has1 =>
 if has1=true then
 (Vu a0 3).bind fun has2 =>
 some (.inr !has2)
 else
 some (.inr Bool.false)
 else
 some (.inr Bool.false)
 else
 some (.inr Bool.false)
 else
 some (.inr Bool.false)
 else
 some (.inr Bool.false)
def ZbM (a0:Zm):Option Bool :=
 Zv (fun v=>X6 a0 v.1 v.2.1) ((0:Int),(0:Int),())
def c154:Ctr:=D1 (XY) (.bool) ZbM
def Zi7 (c0:Zm):Option Bool :=
 (Zdr (Zm.Name c0)).bind fun isName0 =>
 if isName0=true then
 (Zhu (Zm.YC c0)).bind fun arePins0 =>
 if arePins0=true then
 (Zcx c0).bind fun areArcs0 =>
 if areArcs0=true then
 (ZO (Zm.Zy7 c0) 0 100000).bind fun within0 =>
 if within0=true then
 (ZO (Zm.Zlx c0) 0 100000).bind fun within1 =>
 if within1=true then
 (ZbM c0).bind fun isOfKind0 =>
 some isOfKind0
 else
 some Bool.false
 else
 some Bool.false
 else
 some Bool.false
 else
 some Bool.false
 else
 some Bool.false
def ZEg:Ctr:=D1 (XY) (.bool) Zi7
def Vq (l0:Zp) (names0:List (List UInt8)) (v0:Int):Option (((List (List UInt8))×Int×Unit) ⊕ Bool) :=
 if v0<(↑(List.length (Zp.Cells l0)):Int) then
 (atI (Zp.Cells l0) v0).bind fun x0 =>
 (Zi7 x0).bind fun IsCell0 =>
 if IsCell0=true then
 Zw ((List.length names0+List.length [Zm.Name x0])*(16:Nat)≤(140737488355328:Nat)) <|
 some (.inl (names0++[Zm.Name x0],IntKind.i64.wrap (v0+(1:Int)),()))
 else
 some (.inr Bool.false)
 else
 if (↑(List.length (Zp.Cells l0)):Int)≤8 then
 (QO names0).bind fun areNames0 =>
 some (.inr areNames0)
 else
 some (.inr Bool.false)
def Zfo (l0:Zp):Option Bool :=
 Zv (fun v=>Vq l0 v.1 v.2.1) (([]:List (List UInt8)),(0:Int),())
def c156:Ctr:=D1 (YN) (.bool) Zfo
def Ji (d0:Zb) (instances0:List (List UInt8)) (ports0:List (List UInt8)) (v1:Int):Option (((List (List UInt8))×Int×Unit) ⊕ (((List (List UInt8))×Int×Unit) ⊕ Bool)) :=
 if v1<(↑(List.length (Zb.ZK d0)):Int) then
 (atI (Zb.ZK d0) v1).bind fun x0 =>
 Zw ((List.length ports0+List.length [ZT.Name x0])*(16:Nat)≤(140737488355328:Nat)) <|
 some (.inl (ports0++[ZT.Name x0],IntKind.i64.wrap (v1+(1:Int)),()))
 else
 if (↑(List.length instances0):Int)≤14 then
 if (↑(List.length (Zb.ZI d0)):Int)≤30 then
 if (↑(List.length ports0):Int)≤8 then
 (QO instances0).bind fun areNames0 =>
 if areNames0=true then
 (QO (Zb.ZI d0)).bind fun areNames1 =>
 if areNames1=true then
 (QO ports0).bind fun areNames2 =>
 some (.inr (.inr areNames2))
 else
 some (.inr (.inr Bool.false))
 else
 some (.inr (.inr Bool.false))
 else
 some (.inr (.inr Bool.false))
 else
 some (.inr (.inr Bool.false))
 else
 some (.inr (.inr Bool.false))
def Je (d0:Zb) (instances0:List (List UInt8)) (v0:Int):Option (((List (List UInt8))×Int×Unit) ⊕ Bool) :=
 if v0<(↑(List.length (Zb.Instances d0)):Int) then
 (atI (Zb.Instances d0) v0).bind fun x0 =>
 Zw ((List.length instances0+List.length [Ze.Name x0])*(16:Nat)≤(140737488355328:Nat)) <|
 some (.inl (instances0++[Ze.Name x0],IntKind.i64.wrap (v0+(1:Int)),()))
 else
 Zv (fun v=>Ji d0 instances0 v.1 v.2.1) (([]:List (List UInt8)),(0:Int),())
def J8 (d0:Zb):Option Bool :=
 Zv (fun v=>Je d0 v.1 v.2.1) (([]:List (List UInt8)),(0:Int),())
def c157:Ctr:=D1 (Yr) (.bool) J8
def X7 (list0:List Zm):Option Int :=
 some (↑(List.length list0):Int)
def ZDF:Ctr:=D1 (.sl (XY)) (.int .i64) X7
def Xx (list0:List (List UInt8)):Option Int :=
 some (↑(List.length list0):Int)
def c159:Ctr:=D1 (.sl (.str)) (.int .i64) Xx
def Y0 (d0:Zb) (net0:Int):Option Bool :=
 (Xx (Zb.ZI d0)).bind fun string0 =>
 (ZO net0 0 (IntKind.i64.wrap (string0-1))).bind fun within0 =>
 some within0
def c160:Ctr:=D2 (Yr) (.int .i64) (.bool) Y0
def XU (net0:Int) (a0:Zb):Option Bool :=
 (Y0 a0 net0).bind fun isNet0 =>
 some !isNet0
def ZE1:Ctr:=D2 (.int .i64) (.ptr (Yr)) (.bool) XU
def Yp (s0:List Int) (f0:Zb×Unit) (v0:Int):Option ((Int×Unit) ⊕ Int) :=
 if v0<(↑(List.length s0):Int) then
 (atI s0 v0).bind fun x0 =>
 (XU x0 f0.fst).bind fun c1_0 =>
 if c1_0=true then
 some (.inr v0)
 else
 some (.inl (IntKind.i64.wrap (v0+1),()))
 else
 some (.inr (-1))
def Yc (s0:List Int) (f0:Zb×Unit):Option Int :=
 Zv (fun v=>Yp s0 f0 v.1) ((0:Int),())
def c162:Ctr:=D2 (.sl (.int .i64)) (.fn 246 (.pair (.ptr (Yr)) (.unit))) (.int .i64) Yc
def Z8 (s0:List Int) (f0:Zb×Unit):Option Bool :=
 (Yc s0 f0).bind fun c1_0 =>
 some (Decidable.decide (0≤c1_0))
def ZF7:Ctr:=D2 (.sl (.int .i64)) (.fn 246 (.pair (.ptr (Yr)) (.unit))) (.bool) Z8
def V6 (d0:Zb) (l0:Zp) (x0:Ze):Option Bool :=
 (X7 (Zp.Cells l0)).bind fun Cell0 =>
 (ZO (Ze.Cell x0) 0 (IntKind.i64.wrap (Cell0-1))).bind fun within0 =>
 if within0=true then
 (atI (Zp.Cells l0) (Ze.Cell x0)).bind fun x1 =>
 if (↑(List.length (Ze.ZI x0)):Int)=(↑(List.length (Zm.YC x1)):Int) then
 (Z8 (Ze.ZI x0) (d0,())).bind fun c1_0 =>
 some !c1_0
 else
 some Bool.false
 else
 some Bool.false
def c164:Ctr:=D3 (Yr) (YN) (ZX) (.bool) V6
def Zdl (n0:Int):Option Bool :=
 some (!Decidable.decide (n0=1))
def ZET:Ctr:=D1 (.int .i64) (.bool) Zdl
def YV (s0:List Int) (v0:Int):Option ((Int×Unit) ⊕ Int) :=
 if v0<(↑(List.length s0):Int) then
 (atI s0 v0).bind fun x0 =>
 (Zdl x0).bind fun c1_0 =>
 if c1_0=true then
 some (.inr v0)
 else
 some (.inl (IntKind.i64.wrap (v0+1),()))
 else
 some (.inr (-1))
def YK (s0:List Int) (f0:Unit):Option Int :=
 Zv (fun v=>YV s0 v.1) ((0:Int),())
def ZEu:Ctr:=D2 (.sl (.int .i64)) (.fn 204 (.unit)) (.int .i64) YK
def Yx (s0:List Int) (f0:Unit):Option Bool :=
 (YK s0 ()).bind fun c1_0 =>
 some (Decidable.decide (0≤c1_0))
def c167:Ctr:=D2 (.sl (.int .i64)) (.fn 204 (.unit)) (.bool) Yx
def VU (a1:Zb) (v1:Int) (l1:List Int):Option ((Int×(List Int)×Unit) ⊕ ((Int×(List Int)×Unit) ⊕ Bool)) :=
 if v1<(↑(List.length (Zb.ZK a1)):Int) then
 (atI (Zb.ZK a1) v1).bind fun x0 =>
 if ZT.Dir x0=1 then
 (Y0 a1 (ZT.Net x0)).bind fun isNet0 =>
 if isNet0=true then
 if ZT.Dir x0=1 then
 (atI l1 (ZT.Net x0)).bind fun x1 =>
 some (.inl (IntKind.i64.wrap (v1+1),List.set l1 (Int.toNat (ZT.Net x0)) (IntKind.i64.wrap (x1+1)),()))
 else
 some (.inl (IntKind.i64.wrap (v1+1),l1,()))
 else
 some (.inr (.inr Bool.false))
 else
 if ZT.Dir x0=2 then
 (Y0 a1 (ZT.Net x0)).bind fun isNet0 =>
 if isNet0=true then
 if ZT.Dir x0=1 then
 (atI l1 (ZT.Net x0)).bind fun x1 =>
 some (.inl (IntKind.i64.wrap (v1+1),List.set l1 (Int.toNat (ZT.Net x0)) (IntKind.i64.wrap (x1+1)),()))
 else
 some (.inl (IntKind.i64.wrap (v1+1),l1,()))
 else
 some (.inr (.inr Bool.false))
 else
 some (.inr (.inr Bool.false))
 else
 (Yx l1 ()).bind fun c1_0 =>
 some (.inr (.inr !c1_0))
def ZaN (a0:Zp) (a1:Zb) (v0:Int) (l0:List Int):Option ((Int×(List Int)×Unit) ⊕ Bool) :=
 if v0<(↑(List.length (Zb.Instances a1)):Int) then
 (atI (Zb.Instances a1) v0).bind fun x0 =>
 (V6 a1 a0 x0).bind fun isInstance0 =>
 if isInstance0=true then
 (atI (Ze.ZI x0) (IntKind.i64.wrap ((↑(List.length (Ze.ZI x0)):Int)-1))).bind fun x1 =>
 (atI l0 x1).bind fun x2 =>
 some (.inl (IntKind.i64.wrap (v0+1),List.set l0 (Int.toNat x1) (IntKind.i64.wrap (x2+1)),()))
 else
 some (.inr Bool.false)
 else
 Zv (fun v=>VU a1 v.1 v.2.1) ((0:Int),l0,())
def Zgx (a0:Zp) (a1:Zb):Option Bool :=
 (Zfo a0).bind fun IsLibrary0 =>
 if IsLibrary0=true then
 (J8 a1).bind fun hasNames0 =>
 if hasNames0=true then
 Zw ((0:Int)≤(↑(List.length (Zb.ZI a1)):Int)) <|
 Zw ((↑(List.length (Zb.ZI a1)):Int)≤(↑(List.length (Zb.ZI a1)):Int)) <|
 Zw ((↑(List.length (Zb.ZI a1)):Int)≤(4611686018427387904:Int)) <|
 Zw ((↑(8:Nat):Int)*(↑(List.length (Zb.ZI a1)):Int)≤(281474976710656:Int)) <|
 Zv (fun v=>ZaN a0 a1 v.1 v.2.1) ((0:Int),List.replicate (Int.toNat (↑(List.length (Zb.ZI a1)):Int)) (0:Int),())
 else
 some Bool.false
 else
 some Bool.false
def c168:Ctr:=D2 (YN) (Yr) (.bool) Zgx
def Zaq (v0:Int) (x0:Ze) (list1:List ZM) (v1:Int):Option (((List ZM)×Int×Unit) ⊕ (((List ZM)×Int×Unit) ⊕ List ZM)) :=
 if v1<(↑(List.length (Ze.ZI x0)):Int) then
 (atI (Ze.ZI x0) v1).bind fun x1 =>
 Zw ((List.length list1+List.length [(v0,v1,x1,Decidable.decide (v1=IntKind.i64.wrap ((↑(List.length (Ze.ZI x0)):Int)-(1:Int))),())])*(32:Nat)≤(140737488355328:Nat)) <|
 some (.inl (list1++[(v0,v1,x1,Decidable.decide (v1=IntKind.i64.wrap ((↑(List.length (Ze.ZI x0)):Int)-(1:Int))),())],IntKind.i64.wrap (v1+(1:Int)),()))
 else
 some (.inr (.inl (list1,IntKind.i64.wrap (v0+1),())))
def Zau (d0:Zb) (list1:List ZM) (v1:Int):Option (((List ZM)×Int×Unit) ⊕ (((List ZM)×Int×Unit) ⊕ List ZM)) :=
 if v1<(↑(List.length (Zb.ZK d0)):Int) then
 (atI (Zb.ZK d0) v1).bind fun x0 =>
 Zw ((List.length list1+List.length [((-1:Int),v1,ZT.Net x0,Decidable.decide (ZT.Dir x0=(1:Int)),())])*(32:Nat)≤(140737488355328:Nat)) <|
 some (.inl (list1++[((-1:Int),v1,ZT.Net x0,Decidable.decide (ZT.Dir x0=(1:Int)),())],IntKind.i64.wrap (v1+(1:Int)),()))
 else
 some (.inr (.inr list1))
def Zan (d0:Zb) (list0:List ZM) (v0:Int):Option (((List ZM)×Int×Unit) ⊕ List ZM) :=
 if v0<(↑(List.length (Zb.Instances d0)):Int) then
 (atI (Zb.Instances d0) v0).bind fun x0 =>
 Zv (fun v=>Zaq v0 x0 v.1 v.2.1) (list0,(0:Int),())
 else
 Zv (fun v=>Zau d0 v.1 v.2.1) (list0,(0:Int),())
def Yk (d0:Zb):Option (List ZM) :=
 Zv (fun v=>Zan d0 v.1 v.2.1) (([]:List ZM),(0:Int),())
def Zv9:Ctr:=⟨[.dat (Yr)],[.own (.ol 230 (.flat (ZlD)))],fun a K=>splitK a fun d0 a=>YA (Yk d0) fun r=>K (r,()) ()⟩
def Zbu (w0:Zr) (v0:Int):Option ((Int×Unit) ⊕ Bool) :=
 if v0<(↑(List.length (Zr.Parent w0)):Int) then
 (atI (Zr.Parent w0) v0).bind fun x0 =>
 if v0=0 then
 if x0=(-1) then
 (atI (Zr.Res w0) 0).bind fun x1 =>
 if x1=0 then
 if 0<v0 then
 (ZO x0 0 (IntKind.i64.wrap (v0-1))).bind fun within0 =>
 if within0=true then
 some (.inl (IntKind.i64.wrap (v0+1),()))
 else
 some (.inr Bool.false)
 else
 some (.inl (IntKind.i64.wrap (v0+1),()))
 else
 some (.inr Bool.false)
 else
 some (.inr Bool.false)
 else
 if 0<v0 then
 (ZO x0 0 (IntKind.i64.wrap (v0-1))).bind fun within0 =>
 if within0=true then
 some (.inl (IntKind.i64.wrap (v0+1),()))
 else
 some (.inr Bool.false)
 else
 some (.inl (IntKind.i64.wrap (v0+1),()))
 else
 some (.inr Bool.true)
def Zdf (w0:Zr):Option Bool :=
 Zv (fun v=>Zbu w0 v.1) ((0:Int),())
def ZGq:Ctr:=D1 (XZ) (.bool) Zdf
def ZgQ (w0:Zr) (sinks0:Int):Option Bool :=
 (Y1 (Zr.Parent w0)).bind fun int64_0 =>
 (ZO int64_0 1 8).bind fun within0 =>
 if within0=true then
 (Y1 (Zr.Res w0)).bind fun int64_1 =>
 if int64_1=int64_0 then
 (Y1 (Zr.Cap w0)).bind fun int64_2 =>
 if int64_2=int64_0 then
 (Zdf w0).bind fun isTree0 =>
 if isTree0=true then
 (XV (Zr.Res w0) 0 1000).bind fun areWithin0 =>
 if areWithin0=true then
 (XV (Zr.Cap w0) 0 500).bind fun areWithin1 =>
 if areWithin1=true then
 (Y1 (Zr.ZfR w0)).bind fun int64_3 =>
 if int64_3=sinks0 then
 (XV (Zr.ZfR w0) 0 (IntKind.i64.wrap (int64_0-1))).bind fun areWithin2 =>
 some areWithin2
 else
 some Bool.false
 else
 some Bool.false
 else
 some Bool.false
 else
 some Bool.false
 else
 some Bool.false
 else
 some Bool.false
 else
 some Bool.false
def c171:Ctr:=D2 (XZ) (.int .i64) (.bool) ZgQ
def ZeB (b0:Za) (l0:List Int) (v1:Int):Option ((Int×Unit) ⊕ ((Int×(List Int)×Unit) ⊕ Bool)) :=
 if v1<(↑(List.length (Za.ZC b0)):Int) then
 (atI (Za.ZC b0) v1).bind fun x0 =>
 (atI l0 v1).bind fun x1 =>
 (ZgQ x0 x1).bind fun IsWire0 =>
 if IsWire0=true then
 some (.inl (IntKind.i64.wrap (v1+1),()))
 else
 some (.inr (.inr Bool.false))
 else
 some (.inr (.inr Bool.true))
def ZbQ (b0:Za) (places0:List ZM) (v0:Int) (l0:List Int):Option ((Int×(List Int)×Unit) ⊕ Bool) :=
 if v0<(↑(List.length places0):Int) then
 (atI places0 v0).bind fun x0 =>
 if (ZM.drives x0)=true then
 some (.inl (IntKind.i64.wrap (v0+1),l0,()))
 else
 (atI l0 (ZM.net x0)).bind fun x1 =>
 some (.inl (IntKind.i64.wrap (v0+1),List.set l0 (Int.toNat (ZM.net x0)) (IntKind.i64.wrap (x1+1)),()))
 else
 Zv (fun v=>ZeB b0 l0 v.1) ((0:Int),())
def ZfO (b0:Za):Option Bool :=
 (Zgx (Za.Library b0) (Za.Design b0)).bind fun IsDesign0 =>
 if IsDesign0=true then
 if (↑(List.length (Za.ZC b0)):Int)=(↑(List.length (Zb.ZI (Za.Design b0))):Int) then
 Zw ((0:Int)≤(↑(List.length (Za.ZC b0)):Int)) <|
 Zw ((↑(List.length (Za.ZC b0)):Int)≤(↑(List.length (Za.ZC b0)):Int)) <|
 Zw ((↑(List.length (Za.ZC b0)):Int)≤(4611686018427387904:Int)) <|
 Zw ((↑(8:Nat):Int)*(↑(List.length (Za.ZC b0)):Int)≤(281474976710656:Int)) <|
 (Yk (Za.Design b0)).bind fun places0 =>
 Zv (fun v=>ZbQ b0 places0 v.1 v.2.1) ((0:Int),List.replicate (Int.toNat (↑(List.length (Za.ZC b0)):Int)) (0:Int),())
 else
 some Bool.false
 else
 some Bool.false
def ZDS:Ctr:=D1 (YB) (.bool) ZfO
def Zgv (e0:Zk):Option Zk :=
 if Zk.Kind e0=1 then
 some (Zk.Kind e0,Zk.Place e0,Zk.Cell e0,(0:Int),(0:Int),([]:List UInt8),(([]:List Int),([]:List Int),([]:List Int),([]:List Int),()),())
 else
 if Zk.Kind e0=2 then
 some (Zk.Kind e0,Zk.Place e0,Zk.Cell e0,(0:Int),(0:Int),Zk.Name e0,(([]:List Int),([]:List Int),([]:List Int),([]:List Int),()),())
 else
 if Zk.Kind e0=4 then
 some (Zk.Kind e0,Zk.Place e0,(0:Int),Zk.Net e0,Zk.Node e0,([]:List UInt8),(([]:List Int),([]:List Int),([]:List Int),([]:List Int),()),())
 else
 if Zk.Kind e0=5 then
 some (Zk.Kind e0,(0:Int),(0:Int),Zk.Net e0,(0:Int),([]:List UInt8),e0.snd.snd.snd.snd.snd.snd)
 else
 some (Zk.Kind e0,(0:Int),(0:Int),(0:Int),(0:Int),([]:List UInt8),(([]:List Int),([]:List Int),([]:List Int),([]:List Int),()),())
def c173:Ctr:=D1 (Qv) (Qv) Zgv
def QI (s1_0:List Int) (s2_0:List Int) (v0:Int):Option ((Int×Unit) ⊕ Bool) :=
 if v0<(↑(List.length s1_0):Int) then
 (atI s1_0 v0).bind fun x0 =>
 (atI s2_0 v0).bind fun x1 =>
 if x0=x1 then
 some (.inl (IntKind.i64.wrap (v0+1),()))
 else
 some (.inr Bool.false)
 else
 some (.inr Bool.true)
def Y6 (s1_0:List Int) (s2_0:List Int):Option Bool :=
 if (↑(List.length s1_0):Int)=(↑(List.length s2_0):Int) then
 Zv (fun v=>QI s1_0 s2_0 v.1) ((0:Int),())
 else
 some Bool.false
def ZGx:Ctr:=D2 (.sl (.int .i64)) (.sl (.int .i64)) (.bool) Y6
def Zgp (a0:Zr) (b0:Zr):Option Bool :=
 (Y6 (Zr.Parent a0) (Zr.Parent b0)).bind fun int64_0 =>
 if int64_0=true then
 (Y6 (Zr.Res a0) (Zr.Res b0)).bind fun int64_1 =>
 if int64_1=true then
 (Y6 (Zr.Cap a0) (Zr.Cap b0)).bind fun int64_2 =>
 if int64_2=true then
 (Y6 (Zr.ZfR a0) (Zr.ZfR b0)).bind fun int64_3 =>
 some int64_3
 else
 some Bool.false
 else
 some Bool.false
 else
 some Bool.false
def c175:Ctr:=D2 (XZ) (XZ) (.bool) Zgp
def Zeb (a0:Zk) (b0:Zk):Option Bool :=
 if Zk.Kind a0=Zk.Kind b0 then
 if Zk.Place a0=Zk.Place b0 then
 if Zk.Cell a0=Zk.Cell b0 then
 if Zk.Net a0=Zk.Net b0 then
 if Zk.Node a0=Zk.Node b0 then
 if Zk.Name a0=Zk.Name b0 then
 (Zgp (Zk.Ze1 a0) (Zk.Ze1 b0)).bind fun sameWire0 =>
 some sameWire0
 else
 some Bool.false
 else
 some Bool.false
 else
 some Bool.false
 else
 some Bool.false
 else
 some Bool.false
 else
 some Bool.false
def ZGL:Ctr:=D2 (Qv) (Qv) (.bool) Zeb
def Xw (list0:List ZM):Option Int :=
 some (↑(List.length list0):Int)
def ZCy:Ctr:=D1 (.sl (ZlD)) (.int .i64) Xw
def ZaX (a0:Zk) (a1:Za):Option Bool :=
 (ZO (Zk.Kind a0) 1 5).bind fun within0 =>
 if within0=true then
 (Zgv a0).bind fun own0 =>
 (Zeb a0 own0).bind fun sameEdit0 =>
 if sameEdit0=true then
 (Yk (Za.Design a1)).bind fun places0 =>
 (Xw places0).bind fun place0 =>
 (ZO (Zk.Place a0) 0 (IntKind.i64.wrap (place0-1))).bind fun within1 =>
 if Zk.Kind a0=1 then
 if Zk.Kind a0=1 then
 if within1=true then
 (X7 (Zp.Cells (Za.Library a1))).bind fun Cell0 =>
 (ZO (Zk.Cell a0) 0 (IntKind.i64.wrap (Cell0-1))).bind fun within2 =>
 some within2
 else
 some Bool.false
 else
 if Zk.Kind a0=4 then
 if within1=true then
 (Y0 (Za.Design a1) (Zk.Net a0)).bind fun isNet0 =>
 if isNet0=true then
 (atI (Za.ZC a1) (Zk.Net a0)).bind fun x0 =>
 (Y1 (Zr.Parent x0)).bind fun int64_0 =>
 (ZO (Zk.Node a0) 0 (IntKind.i64.wrap (int64_0-1))).bind fun within2 =>
 some within2
 else
 some Bool.false
 else
 some Bool.false
 else
 if Zk.Kind a0=5 then
 (Y0 (Za.Design a1) (Zk.Net a0)).bind fun isNet0 =>
 some isNet0
 else
 some Bool.true
 else
 if Zk.Kind a0=2 then
 if within1=true then
 (X7 (Zp.Cells (Za.Library a1))).bind fun Cell0 =>
 (ZO (Zk.Cell a0) 0 (IntKind.i64.wrap (Cell0-1))).bind fun within2 =>
 some within2
 else
 some Bool.false
 else
 if Zk.Kind a0=4 then
 if within1=true then
 (Y0 (Za.Design a1) (Zk.Net a0)).bind fun isNet0 =>
 if isNet0=true then
 (atI (Za.ZC a1) (Zk.Net a0)).bind fun x0 =>
 (Y1 (Zr.Parent x0)).bind fun int64_0 =>
 (ZO (Zk.Node a0) 0 (IntKind.i64.wrap (int64_0-1))).bind fun within2 =>
 some within2
 else
 some Bool.false
 else
 some Bool.false
 else
 if Zk.Kind a0=5 then
 (Y0 (Za.Design a1) (Zk.Net a0)).bind fun isNet0 =>
 some isNet0
 else
 some Bool.true
 else
 some Bool.false
 else
 some Bool.false
def ZGY:Ctr:=D2 (Qv) (YB) (.bool) ZaX
def ZfY (p0:YE) (q0:YE):Option Bool :=
 some (YE.Clock p0 == YE.Clock q0)
def ZFU:Ctr:=D2 (ZdU) (ZdU) (.bool) ZfY
def ZG (s1_0:List YE) (s2_0:List YE) (v0:Int):Option ((Int×Unit) ⊕ Bool) :=
 if v0<(↑(List.length s1_0):Int) then
 (atI s1_0 v0).bind fun x0 =>
 (atI s2_0 v0).bind fun x1 =>
 (ZfY x0 x1).bind fun c1_0 =>
 if c1_0=true then
 some (.inl (IntKind.i64.wrap (v0+1),()))
 else
 some (.inr Bool.false)
 else
 some (.inr Bool.true)
def Ya (s1_0:List YE) (s2_0:List YE) (eq0:Unit):Option Bool :=
 if (↑(List.length s1_0):Int)=(↑(List.length s2_0):Int) then
 Zv (fun v=>ZG s1_0 s2_0 v.1) ((0:Int),())
 else
 some Bool.false
def ZFY:Ctr:=D3 (.sl (ZdU)) (.sl (ZdU)) (.fn 251 (.unit)) (.bool) Ya
def Zgw (a0:Zm) (b0:Zm):Option Bool :=
 if Zm.Kind a0=Zm.Kind b0 then
 (Ya (Zm.YC a0) (Zm.YC b0) ()).bind fun c1_0 =>
 some c1_0
 else
 some Bool.false
def ZGB:Ctr:=D2 (XY) (XY) (.bool) Zgw
def Vr (c0:Zm):Option Bool :=
 if Zm.Kind c0=1 then
 some (Decidable.decide ((↑(List.length (Zm.YC c0)):Int)=2))
 else
 some Bool.false
def c182:Ctr:=D1 (XY) (.bool) Vr
def Zb5 (x0:Ze) (a0:List UInt8):Option Bool :=
 some (Decidable.decide (Ze.Name x0=a0))
def c183:Ctr:=D2 (ZX) (.ptr (.str)) (.bool) Zb5
def Z7 (s0:List Ze) (f0:List UInt8×Unit) (v0:Int):Option ((Int×Unit) ⊕ Int) :=
 if v0<(↑(List.length s0):Int) then
 (atI s0 v0).bind fun x0 =>
 (Zb5 x0 f0.fst).bind fun c1_0 =>
 if c1_0=true then
 some (.inr v0)
 else
 some (.inl (IntKind.i64.wrap (v0+1),()))
 else
 some (.inr (-1))
def ZQ (s0:List Ze) (f0:List UInt8×Unit):Option Int :=
 Zv (fun v=>Z7 s0 f0 v.1) ((0:Int),())
def ZEZ:Ctr:=D2 (.sl (ZX)) (.fn 255 (.pair (.ptr (.str)) (.unit))) (.int .i64) ZQ
def ZbH (d0:Zb) (name0:List UInt8):Option Int :=
 (ZQ (Zb.Instances d0) (name0,())).bind fun c1_0 =>
 some c1_0
def ZFs:Ctr:=D2 (Yr) (.str) (.int .i64) ZbH
def J9 (d0:Zb) (name0:List UInt8):Option Int :=
 (YU (Zb.ZI d0) name0).bind fun string0 =>
 some string0
def ZEd:Ctr:=D2 (Yr) (.str) (.int .i64) J9
def V5 (a0:Za):Option Bool :=
 if (↑(List.length (Zb.Instances (Za.Design a0))):Int)=0 then
 some Bool.false
 else
 (atI (Zb.Instances (Za.Design a0)) (IntKind.i64.wrap ((↑(List.length (Zb.Instances (Za.Design a0))):Int)-1))).bind fun x0 =>
 (Xx (Zb.ZI (Za.Design a0))).bind fun string0 =>
 (atI (Zp.Cells (Za.Library a0)) (Ze.Cell x0)).bind fun x1 =>
 (Vr x1).bind fun isBuffer0 =>
 if isBuffer0=true then
 (atI (Ze.ZI x0) 1).bind fun x2 =>
 if x2=IntKind.i64.wrap (string0-1) then
 (atI (Ze.ZI x0) 0).bind fun x3 =>
 if x3=IntKind.i64.wrap (string0-1) then
 some Bool.false
 else
 (atI (Zb.ZI (Za.Design a0)) (IntKind.i64.wrap (string0-1))).bind fun x4 =>
 if x4=Ze.Name x0 then
 (atI (Za.ZC a0) (IntKind.i64.wrap (string0-1))).bind fun x5 =>
 if (↑(List.length (Zr.ZfR x5)):Int)=1 then
 if (↑(List.length (Zr.Parent x5)):Int)=1 then
 (atI (Zr.Cap x5) 0).bind fun x6 =>
 some (Decidable.decide (x6=0))
 else
 some Bool.false
 else
 some Bool.false
 else
 some Bool.false
 else
 some Bool.false
 else
 some Bool.false
def ZE0:Ctr:=D1 (YB) (.bool) V5
def J7 (a0:Zk) (a1:Za):Option Bool :=
 (Yk (Za.Design a1)).bind fun places0 =>
 if Zk.Kind a0=1 then
 (atI places0 (Zk.Place a0)).bind fun x0 =>
 if 0≤ZM.instance x0 then
 if (ZM.drives x0)=true then
 (atI (Zb.Instances (Za.Design a1)) (ZM.instance x0)).bind fun x1 =>
 (atI (Zp.Cells (Za.Library a1)) (Ze.Cell x1)).bind fun x2 =>
 (atI (Zp.Cells (Za.Library a1)) (Zk.Cell a0)).bind fun x3 =>
 (Zgw x2 x3).bind fun fitsSwap0 =>
 some fitsSwap0
 else
 some Bool.false
 else
 some Bool.false
 else
 if Zk.Kind a0=2 then
 (atI places0 (Zk.Place a0)).bind fun x0 =>
 if (ZM.drives x0)=true then
 some Bool.false
 else
 (atI (Zp.Cells (Za.Library a1)) (Zk.Cell a0)).bind fun x1 =>
 (Vr x1).bind fun isBuffer0 =>
 if isBuffer0=true then
 (Zdr (Zk.Name a0)).bind fun isName0 =>
 if isName0=true then
 (ZbH (Za.Design a1) (Zk.Name a0)).bind fun InstanceNamed0 =>
 if InstanceNamed0<0 then
 (J9 (Za.Design a1) (Zk.Name a0)).bind fun netNamed0 =>
 some (Decidable.decide (netNamed0<0))
 else
 some Bool.false
 else
 some Bool.false
 else
 some Bool.false
 else
 if Zk.Kind a0=3 then
 (V5 a1).bind fun canUnbuffer0 =>
 some canUnbuffer0
 else
 if Zk.Kind a0=4 then
 (atI places0 (Zk.Place a0)).bind fun x0 =>
 if (ZM.drives x0)=true then
 some Bool.false
 else
 some (!Decidable.decide (ZM.net x0=Zk.Net a0))
 else
 (atI (Za.ZC a1) (Zk.Net a0)).bind fun x0 =>
 (Y1 (Zr.ZfR x0)).bind fun int64_0 =>
 (ZgQ (Zk.Ze1 a0) int64_0).bind fun IsWire0 =>
 some IsWire0
def ZGu:Ctr:=D2 (Qv) (YB) (.bool) J7
def Zfu (e0:Zk) (b0:Za):Option Int :=
 (ZaX e0 b0).bind fun isInRange0 =>
 if isInRange0=true then
 (J7 e0 b0).bind fun isPossible0 =>
 if isPossible0=true then
 if Zk.Kind e0=2 then
 if (↑(List.length (Zb.Instances (Za.Design b0))):Int)=14 then
 some 3
 else
 if (↑(List.length (Zb.ZI (Za.Design b0))):Int)=30 then
 some 3
 else
 some 0
 else
 some 0
 else
 some 5
 else
 some 2
def ZGS:Ctr:=D2 (Qv) (YB) (.int .i64) Zfu
def ZgA (b0:Za) (e0:Zk):Option Int :=
 (ZfO b0).bind fun IsBlock0 =>
 if IsBlock0=true then
 (Zfu e0 b0).bind fun code0 =>
 some code0
 else
 some 1
def ZF8:Ctr:=D2 (YB) (Qv) (.int .i64) ZgA
def Zaa (a0:ZH):Option (List (Int×Int×Unit)) :=
 if ZH.Kind a0=2 then
 some ([((0:Int),(0:Int),()),((0:Int),(1:Int),())])
 else
 if ZH.Kind a0=3 then
 some ([((1:Int),(0:Int),()),((1:Int),(1:Int),())])
 else
 if ZH.Kind a0=1 then
 if ZH.Zcm a0=1 then
 some ([((0:Int),(0:Int),()),((1:Int),(1:Int),())])
 else
 if ZH.Zcm a0=2 then
 some ([((0:Int),(1:Int),()),((1:Int),(0:Int),())])
 else
 some ([((0:Int),(0:Int),()),((0:Int),(1:Int),()),((1:Int),(0:Int),()),((1:Int),(1:Int),())])
 else
 some ([]:List (Int×Int×Unit))
def ZFc:Ctr:=⟨[.dat (ZfF)],[.own (.ol 295 (.flat (.pair (.int .i64) (.pair (.int .i64) (.unit)))))],fun a K=>splitK a fun a0 a=>YA (Zaa a0) fun r=>K (r,()) ()⟩
def QB (first0:Int) (v0:Int) (x2:ZH) (transitions0:List (Int×Int×Unit)) (list1:List Zae) (v1:Int):Option (((List Zae)×Int×Unit) ⊕ (((List Zae)×Int×Unit) ⊕ List Zae)) :=
 if v1<(↑(List.length transitions0):Int) then
 (atI transitions0 v1).bind fun x3 =>
 Zw ((List.length list1+List.length [(IntKind.i64.wrap (IntKind.i64.wrap ((2:Int)*IntKind.i64.wrap (first0+ZH.From x2))+x3.fst),IntKind.i64.wrap (IntKind.i64.wrap ((2:Int)*IntKind.i64.wrap (first0+ZH.To x2))+x3.snd.fst),(1:Int),v0,())])*(32:Nat)≤(140737488355328:Nat)) <|
 some (.inl (list1++[(IntKind.i64.wrap (IntKind.i64.wrap ((2:Int)*IntKind.i64.wrap (first0+ZH.From x2))+x3.fst),IntKind.i64.wrap (IntKind.i64.wrap ((2:Int)*IntKind.i64.wrap (first0+ZH.To x2))+x3.snd.fst),(1:Int),v0,())],IntKind.i64.wrap (v1+(1:Int)),()))
 else
 some (.inr (.inl (list1,IntKind.i64.wrap (v0+1),())))
def Jl (first0:Int) (x1:Zm) (list0:List Zae) (v0:Int):Option (((List Zae)×Int×Unit) ⊕ List Zae) :=
 if v0<(↑(List.length (Zm.Zak x1)):Int) then
 (atI (Zm.Zak x1) v0).bind fun x2 =>
 (Zaa x2).bind fun transitions0 =>
 Zv (fun v=>QB first0 v0 x2 transitions0 v.1 v.2.1) (list0,(0:Int),())
 else
 some (.inr list0)
def JZ (b0:Za) (x0:Ze) (first0:Int):Option (List Zae) :=
 (atI (Zp.Cells (Za.Library b0)) (Ze.Cell x0)).bind fun x1 =>
 Zv (fun v=>Jl first0 x1 v.1 v.2.1) (([]:List Zae),(0:Int),())
def ZEh:Ctr:=⟨[.dat (YB),.dat (ZX),.dat (.int .i64)],[.own (.ol 239 (.flat (Zqf)))],fun a K=>splitK a fun b0 a=>splitK a fun x0 a=>splitK a fun first0 a=>YA (JZ b0 x0 first0) fun r=>K (r,()) ()⟩
def ZF (s0:List Int):Option (List Int) :=
 Zw ((List.length (([]:List Int))+List.length s0)*(8:Nat)≤(140737488355328:Nat)) <|
 some (([]:List Int)++s0)
def c193:Ctr:=⟨[.dat (.sl (.int .i64))],[.own (.ol 2 (.flat (.int .i64)))],fun a K=>splitK a fun s0 a=>YA (ZF s0) fun r=>K (r,()) ()⟩
def Za6 (net0:Int) (places0:List ZM) (list0:List Int) (v0:Int):Option (((List Int)×Int×Unit) ⊕ List Int) :=
 if v0<(↑(List.length places0):Int) then
 (atI places0 v0).bind fun x0 =>
 if ZM.net x0=net0 then
 if (ZM.drives x0)=true then
 some (.inl (list0,IntKind.i64.wrap (v0+1),()))
 else
 Zw ((List.length list0+List.length [v0])*(8:Nat)≤(140737488355328:Nat)) <|
 some (.inl (list0++[v0],IntKind.i64.wrap (v0+(1:Int)),()))
 else
 some (.inl (list0,IntKind.i64.wrap (v0+1),()))
 else
 some (.inr list0)
def Zag (d0:Zb) (net0:Int):Option (List Int) :=
 (Yk d0).bind fun places0 =>
 Zv (fun v=>Za6 net0 places0 v.1 v.2.1) (([]:List Int),(0:Int),())
def c194:Ctr:=⟨[.dat (Yr),.dat (.int .i64)],[.own (.ol 2 (.flat (.int .i64)))],fun a K=>splitK a fun d0 a=>splitK a fun net0 a=>YA (Zag d0 net0) fun r=>K (r,()) ()⟩
def ZcC (d0:Zb) (l0:Zp) (p0:ZM):Option Int :=
 if ZM.instance p0<0 then
 some 0
 else
 (atI (Zb.Instances d0) (ZM.instance p0)).bind fun x0 =>
 (atI (Zp.Cells l0) (Ze.Cell x0)).bind fun x1 =>
 (atI (Zm.YC x1) (ZM.pin p0)).bind fun x2 =>
 some (YE.Cap x2)
def ZFm:Ctr:=D3 (Yr) (YN) (ZlD) (.int .i64) ZcC
def Jj (x0:Zr) (v1:Int) (l1:List Int):Option ((Int×(List Int)×Unit) ⊕ ((Int×(List Int)×Unit) ⊕ List Int)) :=
 if 0<v1 then
 (atI (Zr.Parent x0) v1).bind fun x1 =>
 (atI l1 x1).bind fun x2 =>
 (atI l1 v1).bind fun x3 =>
 some (.inl (IntKind.i64.wrap (v1-1),List.set l1 (Int.toNat x1) (IntKind.i64.wrap (x2+x3)),()))
 else
 some (.inr (.inr l1))
def Jg (a0:Za) (x0:Zr) (places0:List ZM) (sinks0:List Int) (v0:Int) (l0:List Int):Option ((Int×(List Int)×Unit) ⊕ List Int) :=
 if v0<(↑(List.length sinks0):Int) then
 (atI sinks0 v0).bind fun x1 =>
 (atI (Zr.ZfR x0) v0).bind fun x2 =>
 (atI l0 x2).bind fun x3 =>
 (atI places0 x1).bind fun x4 =>
 (ZcC (Za.Design a0) (Za.Library a0) x4).bind fun capOf0 =>
 some (.inl (IntKind.i64.wrap (v0+1),List.set l0 (Int.toNat x2) (IntKind.i64.wrap (x3+capOf0)),()))
 else
 Zv (fun v=>Jj x0 v.1 v.2.1) (IntKind.i64.wrap ((↑(List.length l0):Int)-(1:Int)),l0,())
def Vi (a0:Za) (a1:Int):Option (List Int) :=
 (atI (Za.ZC a0) a1).bind fun x0 =>
 (ZF (Zr.Cap x0)).bind fun int64_0 =>
 (Yk (Za.Design a0)).bind fun places0 =>
 (Zag (Za.Design a0) a1).bind fun sinks0 =>
 Zv (fun v=>Jg a0 x0 places0 sinks0 v.1 v.2.1) ((0:Int),int64_0,())
def c196:Ctr:=⟨[.dat (YB),.dat (.int .i64)],[.own (.ol 2 (.flat (.int .i64)))],fun a K=>splitK a fun a0 a=>splitK a fun a1 a=>YA (Vi a0 a1) fun r=>K (r,()) ()⟩
def VO (x0:Zr) (nodeLoads0:List Int) (i0:Int) (l0:List Int):Option ((Int×(List Int)×Unit) ⊕ List Int) :=
 if i0<(↑(List.length l0):Int) then
 (atI (Zr.Parent x0) i0).bind fun x1 =>
 (atI l0 x1).bind fun x2 =>
 (atI (Zr.Res x0) i0).bind fun x3 =>
 (atI nodeLoads0 i0).bind fun x4 =>
 (atI l0 i0).bind fun x5 =>
 some (.inl (IntKind.i64.wrap (i0+1),List.set l0 (Int.toNat i0) (IntKind.i64.wrap (x2+IntKind.i64.wrap (x3*x4))),()))
 else
 some (.inr l0)
def JA (b0:Za) (net0:Int):Option (List Int) :=
 (atI (Za.ZC b0) net0).bind fun x0 =>
 (Vi b0 net0).bind fun nodeLoads0 =>
 Zw ((0:Int)≤(↑(List.length nodeLoads0):Int)) <|
 Zw ((↑(List.length nodeLoads0):Int)≤(↑(List.length nodeLoads0):Int)) <|
 Zw ((↑(List.length nodeLoads0):Int)≤(4611686018427387904:Int)) <|
 Zw ((↑(8:Nat):Int)*(↑(List.length nodeLoads0):Int)≤(281474976710656:Int)) <|
 Zv (fun v=>VO x0 nodeLoads0 v.1 v.2.1) ((1:Int),List.replicate (Int.toNat (↑(List.length nodeLoads0):Int)) (0:Int),())
def ZFR:Ctr:=⟨[.dat (YB),.dat (.int .i64)],[.own (.ol 2 (.flat (.int .i64)))],fun a K=>splitK a fun b0 a=>splitK a fun net0 a=>YA (JA b0 net0) fun r=>K (r,()) ()⟩
def Vx (nodeDelays0:List Int) (x0:Zr) (out0:List Int) (v0:Int):Option (((List Int)×Int×Unit) ⊕ List Int) :=
 if v0<(↑(List.length (Zr.ZfR x0)):Int) then
 (atI (Zr.ZfR x0) v0).bind fun x1 =>
 (atI nodeDelays0 x1).bind fun x2 =>
 Zw ((List.length out0+List.length [x2])*(8:Nat)≤(140737488355328:Nat)) <|
 some (.inl (out0++[x2],IntKind.i64.wrap (v0+(1:Int)),()))
 else
 some (.inr out0)
def Jb (b0:Za) (net0:Int):Option (List Int) :=
 (JA b0 net0).bind fun nodeDelays0 =>
 (atI (Za.ZC b0) net0).bind fun x0 =>
 Zv (fun v=>Vx nodeDelays0 x0 v.1 v.2.1) (([]:List Int),(0:Int),())
def c198:Ctr:=⟨[.dat (YB),.dat (.int .i64)],[.own (.ol 2 (.flat (.int .i64)))],fun a K=>splitK a fun b0 a=>splitK a fun net0 a=>YA (Jb b0 net0) fun r=>K (r,()) ()⟩
def ZbN (l0:List Int) (v3:Int) (v4:Int) (x2:Int) (v5:Int) (c5:List Zae):Option ((Int×(List Zae)×Unit) ⊕ ((Int×(List Zae)×Unit) ⊕ ((Int×(List Int)×(List (List Int))×(List Zae)×(List (List Int))×Unit) ⊕ ((Int×(List Int)×(List (List Int))×Unit) ⊕ ((Int×Int×(List Zae)×Unit) ⊕ Xo))))) :=
 if v5<2 then
 (atI l0 v3).bind fun x3 =>
 Zw ((List.length c5+List.length [(IntKind.i64.wrap (IntKind.i64.wrap ((2:Int)*x3)+v5),IntKind.i64.wrap (IntKind.i64.wrap ((2:Int)*x2)+v5),(2:Int),v4,())])*(32:Nat)≤(140737488355328:Nat)) <|
 some (.inl (IntKind.i64.wrap (v5+(1:Int)),c5++[(IntKind.i64.wrap (IntKind.i64.wrap ((2:Int)*x3)+v5),IntKind.i64.wrap (IntKind.i64.wrap ((2:Int)*x2)+v5),(2:Int),v4,())],()))
 else
 some (.inr (.inl (IntKind.i64.wrap (v4+1),c5,())))
def ZbL (l0:List Int) (v3:Int) (c1:List Int) (c2:List (List Int)) (l2:List (List Int)) (x0:Int) (exactDelays0:List Int) (x1:List Int) (v4:Int) (c4:List Zae):Option ((Int×(List Zae)×Unit) ⊕ ((Int×(List Int)×(List (List Int))×(List Zae)×(List (List Int))×Unit) ⊕ ((Int×(List Int)×(List (List Int))×Unit) ⊕ ((Int×Int×(List Zae)×Unit) ⊕ Xo)))) :=
 if v4<(↑(List.length x1):Int) then
 (atI x1 v4).bind fun x2 =>
 Zv (fun v=>ZbN l0 v3 v4 x2 v.1 v.2.1) ((0:Int),c4,())
 else
 some (.inr (.inl (IntKind.i64.wrap (v3+(1:Int)),c1++[x0],c2++[exactDelays0],c4,List.set l2 (Int.toNat v3) x1,())))
def ZbG (a0:Za) (places0:List ZM) (l0:List Int) (v3:Int) (c1:List Int) (c2:List (List Int)) (c3:List Zae) (l2:List (List Int)):Option ((Int×(List Int)×(List (List Int))×(List Zae)×(List (List Int))×Unit) ⊕ ((Int×(List Int)×(List (List Int))×Unit) ⊕ ((Int×Int×(List Zae)×Unit) ⊕ Xo))) :=
 if v3<(↑(List.length (Za.ZC a0)):Int) then
 (Vi a0 v3).bind fun nodeLoads0 =>
 (atI nodeLoads0 0).bind fun x0 =>
 Zw ((List.length c1+List.length [x0])*(8:Nat)≤(140737488355328:Nat)) <|
 (Jb a0 v3).bind fun exactDelays0 =>
 Zw ((List.length c2+List.length [exactDelays0])*(24:Nat)≤(140737488355328:Nat)) <|
 (atI l2 v3).bind fun x1 =>
 Zv (fun v=>ZbL l0 v3 c1 c2 l2 x0 exactDelays0 x1 v.1 v.2.1) ((0:Int),c3,())
 else
 some (.inr (.inr (.inr (a0,places0,c3,c1,c2,([]:List Int),()))))
def ZbP (a0:Za) (places0:List ZM) (c0:List Zae) (v2:Int) (l0:List Int) (l1:List (List Int)):Option ((Int×(List Int)×(List (List Int))×Unit) ⊕ ((Int×Int×(List Zae)×Unit) ⊕ Xo)) :=
 if v2<(↑(List.length places0):Int) then
 (atI places0 v2).bind fun x0 =>
 if (ZM.drives x0)=true then
 (atI l0 (ZM.net x0)).bind fun x1 =>
 some (.inl (IntKind.i64.wrap (v2+1),List.set l0 (Int.toNat (ZM.net x0)) v2,l1,()))
 else
 (atI l1 (ZM.net x0)).bind fun x1 =>
 Zw ((List.length x1+List.length [v2])*(8:Nat)≤(140737488355328:Nat)) <|
 some (.inl (IntKind.i64.wrap (v2+(1:Int)),l0,List.set l1 (Int.toNat (ZM.net x0)) (x1++[v2]),()))
 else
 Zv (fun v=>ZbG a0 places0 l0 v.1 v.2.1 v.2.2.1 v.2.2.2.1 v.2.2.2.2.1) ((0:Int),([]:List Int),([]:List (List Int)),c0,l1,())
def ZeE (a0:Za) (places0:List ZM) (v0:Int) (v1:Int) (c0:List Zae):Option ((Int×Int×(List Zae)×Unit) ⊕ Xo) :=
 if v1<(↑(List.length (Zb.Instances (Za.Design a0))):Int) then
 (atI (Zb.Instances (Za.Design a0)) v1).bind fun x0 =>
 (JZ a0 x0 v0).bind fun cellLinks0 =>
 Zw ((List.length c0+List.length cellLinks0)*(32:Nat)≤(140737488355328:Nat)) <|
 (Y1 (Ze.ZI x0)).bind fun int64_0 =>
 some (.inl (IntKind.i64.wrap (v0+int64_0),IntKind.i64.wrap (v1+1),c0++cellLinks0,()))
 else
 Zw ((0:Int)≤(↑(List.length (Za.ZC a0)):Int)) <|
 Zw ((↑(List.length (Za.ZC a0)):Int)≤(↑(List.length (Za.ZC a0)):Int)) <|
 Zw ((↑(List.length (Za.ZC a0)):Int)≤(4611686018427387904:Int)) <|
 Zw ((↑(8:Nat):Int)*(↑(List.length (Za.ZC a0)):Int)≤(281474976710656:Int)) <|
 Zw ((↑(24:Nat):Int)*(↑(List.length (Za.ZC a0)):Int)≤(281474976710656:Int)) <|
 Zv (fun v=>ZbP a0 places0 c0 v.1 v.2.1 v.2.2.1) ((0:Int),List.replicate (Int.toNat (↑(List.length (Za.ZC a0)):Int)) (0:Int),List.replicate (Int.toNat (↑(List.length (Za.ZC a0)):Int)) (([]:List Int)),())
def Zhp (a0:Za):Option Xo :=
 (Yk (Za.Design a0)).bind fun places0 =>
 Zv (fun v=>ZeE a0 places0 v.1 v.2.1 v.2.2.1) ((0:Int),(0:Int),([]:List Zae),())
def ZGl:Ctr:=D1 (YB) (.ptr (ZpH)) Zhp
def Zby (list0:List Zf):Option Int :=
 some (↑(List.length list0):Int)
def ZF3:Ctr:=D1 (.sl (ZU)) (.int .i64) Zby
def J4 (c0:Zf):Option Bool :=
 (ZO (Zf.Y3 c0) 2 100000).bind fun within0 =>
 if within0=true then
 (ZO (Zf.XB c0) 0 (IntKind.i64.wrap (Zf.Y3 c0-1))).bind fun within1 =>
 if within1=true then
 (ZO (Zf.X9 c0) 0 (IntKind.i64.wrap (Zf.Y3 c0-1))).bind fun within2 =>
 if within2=true then
 if Zf.XB c0=Zf.X9 c0 then
 some Bool.false
 else
 if Zf.Divide c0=1 then
 some (!Zf.ZeJ c0)
 else
 some Bool.false
 else
 some Bool.false
 else
 some Bool.false
 else
 some Bool.false
def c201:Ctr:=D1 (ZU) (.bool) J4
def Zbf (rec0:(List Zf)→Int→Option ZfH) (list0:List Zf) (k0:Int):Option ZfH :=
 (atI list0 k0).bind fun x0 =>
 if Zf.Source x0<0 then
 some (Zf.Y3 x0,(Zf.XB x0,Zf.X9 x0,()),())
 else
 (rec0 list0 (Zf.Source x0)).bind fun r0 =>
 if 1<Zf.Divide x0 then
 if (Zf.ZeJ x0)=true then
 some (IntKind.i64.wrap (Zf.Divide x0*ZfH.period r0),(IntKind.i64.wrap ((ZfH.edges r0).fst+IntKind.i64.wrap (IntKind.i64.wrap (Int.tdiv (Zf.Divide x0) 2)*ZfH.period r0)),(ZfH.edges r0).fst,()),())
 else
 some (IntKind.i64.wrap (Zf.Divide x0*ZfH.period r0),((ZfH.edges r0).fst,IntKind.i64.wrap ((ZfH.edges r0).fst+IntKind.i64.wrap (IntKind.i64.wrap (Int.tdiv (Zf.Divide x0) 2)*ZfH.period r0)),()),())
 else
 if (Zf.ZeJ x0)=true then
 some (ZfH.period r0,((ZfH.edges r0).snd.fst,(ZfH.edges r0).fst,()),())
 else
 some r0
def ZaV:Nat→(List Zf)→Int→Option ZfH
 | 0=>fun _ _=>none
 | n+1=>Zbf (ZaV n)
def Zjj (list0:List Zf) (k0:Int):Option ZfH:=ZA8 (fun n=>ZaV n list0 k0)
def Zfg (rec0:(List Zf)→Int→Option ZfH):Ctr:=⟨[.dat (.sl (ZU)),.dat (.int .i64)],[.dat (ZCp)],fun a K=>splitK a fun list0 a=>splitK a fun k0 a=>YA (rec0 list0 k0) fun r=>K (r,()) ()⟩
def ZFe:Ctr:=Zfg Zjj
def ZhJ (a0:List Zf) (a1:Int):Option Bool :=
 (atI a0 a1).bind fun x0 =>
 if Zf.Place x0<0 then
 some Bool.false
 else
 if Zf.Y9 x0<0 then
 some Bool.false
 else
 if Zf.Qj x0<Zf.Y9 x0 then
 some Bool.false
 else
 if 100000<Zf.Qj x0 then
 some Bool.false
 else
 (ZO (Zf.JU x0) 0 100000).bind fun within0 =>
 if within0=true then
 if Zf.Source x0=(-1) then
 (J4 x0).bind fun isPrimary0 =>
 some isPrimary0
 else
 (ZO (Zf.Source x0) 0 (IntKind.i64.wrap (a1-1))).bind fun within1 =>
 if within1=true then
 (ZO (Zf.Divide x0) 1 8).bind fun within2 =>
 if within2=true then
 if Zf.Y3 x0=0 then
 if Zf.XB x0=0 then
 if Zf.X9 x0=0 then
 (Zjj a0 a1).bind fun waveOf0 =>
 some (Decidable.decide (ZfH.period waveOf0≤100000))
 else
 some Bool.false
 else
 some Bool.false
 else
 some Bool.false
 else
 some Bool.false
 else
 some Bool.false
 else
 some Bool.false
def c203:Ctr:=D2 (.sl (ZU)) (.int .i64) (.bool) ZhJ
def ZdE (list0:List Zf) (names0:List (List UInt8)) (v0:Int):Option (((List (List UInt8))×Int×Unit) ⊕ Bool) :=
 if v0<(↑(List.length list0):Int) then
 (atI list0 v0).bind fun x0 =>
 (ZhJ list0 v0).bind fun isClock0 =>
 if isClock0=true then
 Zw ((List.length names0+List.length [Zf.Name x0])*(16:Nat)≤(140737488355328:Nat)) <|
 some (.inl (names0++[Zf.Name x0],IntKind.i64.wrap (v0+(1:Int)),()))
 else
 some (.inr Bool.false)
 else
 (QO names0).bind fun areNames0 =>
 some (.inr areNames0)
def Zgc (list0:List Zf):Option Bool :=
 if 6<(↑(List.length list0):Int) then
 some Bool.false
 else
 Zv (fun v=>ZdE list0 v.1 v.2.1) (([]:List (List UInt8)),(0:Int),())
def ZEa:Ctr:=D1 (.sl (ZU)) (.bool) Zgc
def VF (v0:Xo) (place0:Int):Option Bool :=
 (Xw (Xo.places v0)).bind fun place1 =>
 (ZO place0 0 (IntKind.i64.wrap (place1-1))).bind fun within0 =>
 some within0
def ZDW:Ctr:=D2 (.ptr (ZpH)) (.int .i64) (.bool) VF
def Vk (c0:Zf) (a0:Xo):Option Bool :=
 (VF a0 (Zf.Place c0)).bind fun isPlace0 =>
 some !isPlace0
def c206:Ctr:=D2 (ZU) (.ptr (.ptr (ZpH))) (.bool) Vk
def Yg (s0:List Zf) (f0:Xo×Unit) (v0:Int):Option ((Int×Unit) ⊕ Int) :=
 if v0<(↑(List.length s0):Int) then
 (atI s0 v0).bind fun x0 =>
 (Vk x0 f0.fst).bind fun c1_0 =>
 if c1_0=true then
 some (.inr v0)
 else
 some (.inl (IntKind.i64.wrap (v0+1),()))
 else
 some (.inr (-1))
def ZY (s0:List Zf) (f0:Xo×Unit):Option Int :=
 Zv (fun v=>Yg s0 f0 v.1) ((0:Int),())
def ZEK:Ctr:=D2 (.sl (ZU)) (.fn 161 (.pair (.ptr (.ptr (ZpH))) (.unit))) (.int .i64) ZY
def ZV (s0:List Zf) (f0:Xo×Unit):Option Bool :=
 (ZY s0 f0).bind fun c1_0 =>
 some (Decidable.decide (0≤c1_0))
def c208:Ctr:=D2 (.sl (ZU)) (.fn 161 (.pair (.ptr (.ptr (ZpH))) (.unit))) (.bool) ZV
def ZiT (t0:Int):Option Bool :=
 (ZO t0 (-1000000000) 1000000000).bind fun within0 =>
 some within0
def ZFO:Ctr:=D1 (.int .i64) (.bool) ZiT
def Ze8 (s0:YG):Option Bool :=
 (ZiT (YG.Early s0)).bind fun isTime0 =>
 if isTime0=true then
 (ZiT (YG.Late s0)).bind fun isTime1 =>
 if isTime1=true then
 some (Decidable.decide (YG.Early s0≤YG.Late s0))
 else
 some Bool.false
 else
 some Bool.false
def c210:Ctr:=D1 (ZnX) (.bool) Ze8
def ZiN (n0:Int):Option Bool :=
 (ZO n0 0 1000000).bind fun within0 =>
 some within0
def ZF5:Ctr:=D1 (.int .i64) (.bool) ZiN
def Zev (s0:YG):Option Bool :=
 (Ze8 s0).bind fun IsSpan0 =>
 if IsSpan0=true then
 (ZiN (YG.Early s0)).bind fun isSlew0 =>
 if isSlew0=true then
 (ZiN (YG.Late s0)).bind fun isSlew1 =>
 some isSlew1
 else
 some Bool.false
 else
 some Bool.false
def c212:Ctr:=D1 (ZnX) (.bool) Zev
def Vv (a0:Xo) (a1:List Zh) (a2:Bool) (a3:Int) (v0:Int):Option ((Int×Unit) ⊕ Bool) :=
 if v0<(↑(List.length a1):Int) then
 (atI a1 v0).bind fun x0 =>
 (VF a0 (Zh.Place x0)).bind fun isPlace0 =>
 if isPlace0=true then
 (atI (Xo.places a0) (Zh.Place x0)).bind fun x1 =>
 if 0≤ZM.instance x1 then
 some (.inr Bool.false)
 else
 if (ZM.drives x1 == a2)=true then
 if 0<v0 then
 (atI a1 (IntKind.i64.wrap (v0-1))).bind fun x2 =>
 if Zh.Place x0≤Zh.Place x2 then
 some (.inr Bool.false)
 else
 (ZO (Zh.Clock x0) 0 (IntKind.i64.wrap (a3-1))).bind fun within0 =>
 if within0=true then
 (Ze8 (Zh.Delay x0)).bind fun IsSpan0 =>
 if IsSpan0=true then
 if YG.Early (Zh.Delay x0)<(-100000) then
 some (.inr Bool.false)
 else
 if 100000<YG.Late (Zh.Delay x0) then
 some (.inr Bool.false)
 else
 if a2=true then
 (Zev (Zh.ZdY x0)).bind fun areSlews0 =>
 if areSlews0=true then
 if a2=true then
 some (.inl (IntKind.i64.wrap (v0+1),()))
 else
 if (Decidable.decide (YG.Early (Zh.ZdY x0)=0)&&Decidable.decide (YG.Late (Zh.ZdY x0)=0))=true then
 some (.inl (IntKind.i64.wrap (v0+1),()))
 else
 some (.inr Bool.false)
 else
 some (.inr Bool.false)
 else
 if a2=true then
 some (.inl (IntKind.i64.wrap (v0+1),()))
 else
 if (Decidable.decide (YG.Early (Zh.ZdY x0)=0)&&Decidable.decide (YG.Late (Zh.ZdY x0)=0))=true then
 some (.inl (IntKind.i64.wrap (v0+1),()))
 else
 some (.inr Bool.false)
 else
 some (.inr Bool.false)
 else
 some (.inr Bool.false)
 else
 (ZO (Zh.Clock x0) 0 (IntKind.i64.wrap (a3-1))).bind fun within0 =>
 if within0=true then
 (Ze8 (Zh.Delay x0)).bind fun IsSpan0 =>
 if IsSpan0=true then
 if YG.Early (Zh.Delay x0)<(-100000) then
 some (.inr Bool.false)
 else
 if 100000<YG.Late (Zh.Delay x0) then
 some (.inr Bool.false)
 else
 if a2=true then
 (Zev (Zh.ZdY x0)).bind fun areSlews0 =>
 if areSlews0=true then
 if a2=true then
 some (.inl (IntKind.i64.wrap (v0+1),()))
 else
 if (Decidable.decide (YG.Early (Zh.ZdY x0)=0)&&Decidable.decide (YG.Late (Zh.ZdY x0)=0))=true then
 some (.inl (IntKind.i64.wrap (v0+1),()))
 else
 some (.inr Bool.false)
 else
 some (.inr Bool.false)
 else
 if a2=true then
 some (.inl (IntKind.i64.wrap (v0+1),()))
 else
 if (Decidable.decide (YG.Early (Zh.ZdY x0)=0)&&Decidable.decide (YG.Late (Zh.ZdY x0)=0))=true then
 some (.inl (IntKind.i64.wrap (v0+1),()))
 else
 some (.inr Bool.false)
 else
 some (.inr Bool.false)
 else
 some (.inr Bool.false)
 else
 some (.inr Bool.false)
 else
 some (.inr Bool.false)
 else
 some (.inr Bool.true)
def QG (a0:Xo) (a1:List Zh) (a2:Bool) (a3:Int):Option Bool :=
 Zv (fun v=>Vv a0 a1 a2 a3 v.1) ((0:Int),())
def c213:Ctr:=D4 (.ptr (ZpH)) (.sl (Zx)) (.bool) (.int .i64) (.bool) QG
def Zhv (kind0:Int) (value0:Int):Option Bool :=
 if kind0=1 then
 some (Decidable.decide (value0=0))
 else
 if kind0=2 then
 (ZO value0 1 10).bind fun within0 =>
 some within0
 else
 if kind0=3 then
 if kind0=3 then
 (ZO value0 0 1000000000).bind fun within0 =>
 some within0
 else
 some Bool.false
 else
 if kind0=4 then
 (ZO value0 0 1000000000).bind fun within0 =>
 some within0
 else
 some Bool.false
def ZEI:Ctr:=D2 (.int .i64) (.int .i64) (.bool) Zhv
def VL (v0:Xo) (e0:Zg) (v1:Int):Option ((Int×Unit) ⊕ Bool) :=
 if v1<(↑(List.length [Zg.From e0,Zg.Through e0,Zg.To e0]):Int) then
 (atI ([Zg.From e0,Zg.Through e0,Zg.To e0]) v1).bind fun x0 =>
 if 4<(↑(List.length x0):Int) then
 some (.inr Bool.false)
 else
 (Xw (Xo.places v0)).bind fun place0 =>
 (XV x0 0 (IntKind.i64.wrap (place0-1))).bind fun areWithin0 =>
 if areWithin0=true then
 some (.inl (IntKind.i64.wrap (v1+1),()))
 else
 some (.inr Bool.false)
 else
 (Zhv (Zg.Kind e0) (Zg.Value e0)).bind fun isValue0 =>
 if isValue0=true then
 (VE (Zg.From e0)).bind fun isIncreasing0 =>
 if isIncreasing0=true then
 (VE (Zg.To e0)).bind fun isIncreasing1 =>
 some (.inr isIncreasing1)
 else
 some (.inr Bool.false)
 else
 some (.inr Bool.false)
def QX (v0:Xo) (e0:Zg):Option Bool :=
 Zv (fun v=>VL v0 e0 v.1) ((0:Int),())
def ZGz:Ctr:=D2 (.ptr (ZpH)) (ZA) (.bool) QX
def Vo (e0:Zg) (a0:Xo):Option Bool :=
 (QX a0 e0).bind fun isException0 =>
 some !isException0
def ZES:Ctr:=D2 (ZA) (.ptr (.ptr (ZpH))) (.bool) Vo
def Z4 (s0:List Zg) (f0:Xo×Unit) (v0:Int):Option ((Int×Unit) ⊕ Int) :=
 if v0<(↑(List.length s0):Int) then
 (atI s0 v0).bind fun x0 =>
 (Vo x0 f0.fst).bind fun c2_0 =>
 if c2_0=true then
 some (.inr v0)
 else
 some (.inl (IntKind.i64.wrap (v0+1),()))
 else
 some (.inr (-1))
def ZP (s0:List Zg) (f0:Xo×Unit):Option Int :=
 Zv (fun v=>Z4 s0 f0 v.1) ((0:Int),())
def ZGA:Ctr:=D2 (.sl (ZA)) (.fn 165 (.pair (.ptr (.ptr (ZpH))) (.unit))) (.int .i64) ZP
def ZL (s0:List Zg) (f0:Xo×Unit):Option Bool :=
 (ZP s0 f0).bind fun c2_0 =>
 some (Decidable.decide (0≤c2_0))
def c218:Ctr:=D2 (.sl (ZA)) (.fn 165 (.pair (.ptr (.ptr (ZpH))) (.unit))) (.bool) ZL
def ZbW (early0:Int) (late0:Int):Option Bool :=
 if 100≤early0 then
 if early0≤late0 then
 some (Decidable.decide (late0≤5000))
 else
 some Bool.false
 else
 some Bool.false
def ZFN:Ctr:=D2 (.int .i64) (.int .i64) (.bool) ZbW
def Zgq (c0:Zu):Option Bool :=
 (Zdr (Zu.Name c0)).bind fun isName0 =>
 if isName0=true then
 (ZbW (Zu.Qh c0) (Zu.J2 c0)).bind fun areFactors0 =>
 if areFactors0=true then
 (ZbW (Zu.Zad c0) (Zu.Zdn c0)).bind fun areFactors1 =>
 some areFactors1
 else
 some Bool.false
 else
 some Bool.false
def ZFT:Ctr:=D1 (ZW) (.bool) Zgq
def ZaH (list0:List Zu):Option Int :=
 some (↑(List.length list0):Int)
def ZEY:Ctr:=D1 (.sl (ZW)) (.int .i64) ZaH
def Qg (list0:List Zu) (names0:List (List UInt8)) (v0:Int):Option (((List (List UInt8))×Int×Unit) ⊕ Bool) :=
 if v0<(↑(List.length list0):Int) then
 (atI list0 v0).bind fun x0 =>
 (Zgq x0).bind fun IsCorner0 =>
 if IsCorner0=true then
 Zw ((List.length names0+List.length [Zu.Name x0])*(16:Nat)≤(140737488355328:Nat)) <|
 some (.inl (names0++[Zu.Name x0],IntKind.i64.wrap (v0+(1:Int)),()))
 else
 some (.inr Bool.false)
 else
 (ZaH list0).bind fun Corner0 =>
 (ZO Corner0 1 4).bind fun within0 =>
 if within0=true then
 (QO names0).bind fun areNames0 =>
 some (.inr areNames0)
 else
 some (.inr Bool.false)
def ZcH (list0:List Zu):Option Bool :=
 Zv (fun v=>Qg list0 v.1 v.2.1) (([]:List (List UInt8)),(0:Int),())
def c222:Ctr:=D1 (.sl (ZW)) (.bool) ZcH
def Zcj (v0:Xo) (s0:Zn):Option Bool :=
 (Zby (Zn.YS s0)).bind fun Clock0 =>
 (Zgc (Zn.YS s0)).bind fun IsClocks0 =>
 if IsClocks0=true then
 (ZV (Zn.YS s0) (v0,())).bind fun c1_0 =>
 if c1_0=true then
 some Bool.false
 else
 (QG v0 (Zn.Qw s0) Bool.true Clock0).bind fun areExternals0 =>
 if areExternals0=true then
 (QG v0 (Zn.Xu s0) Bool.false Clock0).bind fun areExternals1 =>
 if areExternals1=true then
 if 6<(↑(List.length (Zn.Exceptions s0)):Int) then
 some Bool.false
 else
 (ZL (Zn.Exceptions s0) (v0,())).bind fun c2_0 =>
 if c2_0=true then
 some Bool.false
 else
 if (↑(List.length (Zn.QJ s0)):Int)=0 then
 some Bool.true
 else
 (ZcH (Zn.QJ s0)).bind fun IsCornerList0 =>
 some IsCornerList0
 else
 some Bool.false
 else
 some Bool.false
 else
 some Bool.false
def ZGr:Ctr:=D2 (.ptr (ZpH)) (YR) (.bool) Zcj
def ZfE (b0:Za) (s0:Zn):Option Bool :=
 (ZfO b0).bind fun IsBlock0 =>
 if IsBlock0=true then
 (Zhp b0).bind fun newView0 =>
 (Zcj newView0 s0).bind fun isSetup0 =>
 some isSetup0
 else
 some Bool.false
def ZDn:Ctr:=D2 (YB) (YR) (.bool) ZfE
def X0 (s0:List Zf):Option (List Zf) :=
 Zw ((List.length (([]:List (List UInt8×Int×Int×Int×Int×Int×Int×Bool×Int×Int×Int×Unit)))+List.length s0)*(96:Nat)≤(140737488355328:Nat)) <|
 some (([]:List (List UInt8×Int×Int×Int×Int×Int×Int×Bool×Int×Int×Int×Unit))++s0)
def ZG0:Ctr:=⟨[.dat (.sl (ZU))],[.own (.ol 136 (.flat (ZU)))],fun a K=>splitK a fun s0 a=>YA (X0 s0) fun r=>K (r,()) ()⟩
def YW (s0:List Zh):Option (List Zh) :=
 Zw ((List.length (([]:List (Int×Int×YG×YG×Unit)))+List.length s0)*(48:Nat)≤(140737488355328:Nat)) <|
 some (([]:List (Int×Int×YG×YG×Unit))++s0)
def c226:Ctr:=⟨[.dat (.sl (Zx))],[.own (.ol 163 (.flat (Zx)))],fun a K=>splitK a fun s0 a=>YA (YW s0) fun r=>K (r,()) ()⟩
def XL (s0:List Zu):Option (List Zu) :=
 Zw ((List.length (([]:List (List UInt8×Int×Int×Int×Int×Unit)))+List.length s0)*(48:Nat)≤(140737488355328:Nat)) <|
 some (([]:List (List UInt8×Int×Int×Int×Int×Unit))++s0)
def c227:Ctr:=⟨[.dat (.sl (ZW))],[.own (.ol 169 (.flat (ZW)))],fun a K=>splitK a fun s0 a=>YA (XL s0) fun r=>K (r,()) ()⟩
def VY (s0:Zn) (Clock0:List Zf) (External0:List Zh) (External1:List Zh) (Corner0:List Zu) (v0:Int) (c0:List Zg):Option ((Int×(List Zg)×Unit) ⊕ Zn) :=
 if v0<(↑(List.length (Zn.Exceptions s0)):Int) then
 (atI (Zn.Exceptions s0) v0).bind fun x0 =>
 (ZF (Zg.From x0)).bind fun int64_0 =>
 (ZF (Zg.Through x0)).bind fun int64_1 =>
 (ZF (Zg.To x0)).bind fun int64_2 =>
 Zw ((List.length c0+List.length [(Zg.Kind x0,Zg.Value x0,int64_0,int64_1,int64_2,())])*(88:Nat)≤(140737488355328:Nat)) <|
 some (.inl (IntKind.i64.wrap (v0+(1:Int)),c0++[(Zg.Kind x0,Zg.Value x0,int64_0,int64_1,int64_2,())],()))
 else
 some (.inr (Clock0,External0,External1,c0,Corner0,()))
def Zc9 (s0:Zn):Option Zn :=
 (X0 (Zn.YS s0)).bind fun Clock0 =>
 (YW (Zn.Qw s0)).bind fun External0 =>
 (YW (Zn.Xu s0)).bind fun External1 =>
 (XL (Zn.QJ s0)).bind fun Corner0 =>
 Zv (fun v=>VY s0 Clock0 External0 External1 Corner0 v.1 v.2.1) ((0:Int),([]:List Zg),())
def c228:Ctr:=⟨[.dat (YR)],[.own (ZoZ)],fun a K=>splitK a fun s0 a=>YA (Zc9 s0) fun r=>K (r,()) ()⟩
def XR (list0:List Ze):Option Int :=
 some (↑(List.length list0):Int)
def c229:Ctr:=D1 (.sl (ZX)) (.int .i64) XR
def Qq (e0:Zk) (Instance0:Int) (places0:List ZM) (out0:List Int) (v0:Int):Option (((List Int)×Int×Unit) ⊕ List Int) :=
 if v0<(↑(List.length places0):Int) then
 (atI places0 v0).bind fun x0 =>
 if Zk.Kind e0=2 then
 if ZM.instance x0<0 then
 Zw ((List.length out0+List.length [IntKind.i64.wrap (v0+(2:Int))])*(8:Nat)≤(140737488355328:Nat)) <|
 some (.inl (out0++[IntKind.i64.wrap (v0+(2:Int))],IntKind.i64.wrap (v0+(1:Int)),()))
 else
 if Zk.Kind e0=3 then
 if ZM.instance x0<0 then
 Zw ((List.length out0+List.length [IntKind.i64.wrap (v0-(2:Int))])*(8:Nat)≤(140737488355328:Nat)) <|
 some (.inl (out0++[IntKind.i64.wrap (v0-(2:Int))],IntKind.i64.wrap (v0+(1:Int)),()))
 else
 if Zk.Kind e0=3 then
 if ZM.instance x0=IntKind.i64.wrap (Instance0-1) then
 Zw ((List.length out0+List.length [(-1:Int)])*(8:Nat)≤(140737488355328:Nat)) <|
 some (.inl (out0++[(-1:Int)],IntKind.i64.wrap (v0+(1:Int)),()))
 else
 Zw ((List.length out0+List.length [v0])*(8:Nat)≤(140737488355328:Nat)) <|
 some (.inl (out0++[v0],IntKind.i64.wrap (v0+(1:Int)),()))
 else
 Zw ((List.length out0+List.length [v0])*(8:Nat)≤(140737488355328:Nat)) <|
 some (.inl (out0++[v0],IntKind.i64.wrap (v0+(1:Int)),()))
 else
 if Zk.Kind e0=3 then
 if ZM.instance x0=IntKind.i64.wrap (Instance0-1) then
 Zw ((List.length out0+List.length [(-1:Int)])*(8:Nat)≤(140737488355328:Nat)) <|
 some (.inl (out0++[(-1:Int)],IntKind.i64.wrap (v0+(1:Int)),()))
 else
 Zw ((List.length out0+List.length [v0])*(8:Nat)≤(140737488355328:Nat)) <|
 some (.inl (out0++[v0],IntKind.i64.wrap (v0+(1:Int)),()))
 else
 Zw ((List.length out0+List.length [v0])*(8:Nat)≤(140737488355328:Nat)) <|
 some (.inl (out0++[v0],IntKind.i64.wrap (v0+(1:Int)),()))
 else
 if Zk.Kind e0=3 then
 if ZM.instance x0<0 then
 Zw ((List.length out0+List.length [IntKind.i64.wrap (v0-(2:Int))])*(8:Nat)≤(140737488355328:Nat)) <|
 some (.inl (out0++[IntKind.i64.wrap (v0-(2:Int))],IntKind.i64.wrap (v0+(1:Int)),()))
 else
 if Zk.Kind e0=3 then
 if ZM.instance x0=IntKind.i64.wrap (Instance0-1) then
 Zw ((List.length out0+List.length [(-1:Int)])*(8:Nat)≤(140737488355328:Nat)) <|
 some (.inl (out0++[(-1:Int)],IntKind.i64.wrap (v0+(1:Int)),()))
 else
 Zw ((List.length out0+List.length [v0])*(8:Nat)≤(140737488355328:Nat)) <|
 some (.inl (out0++[v0],IntKind.i64.wrap (v0+(1:Int)),()))
 else
 Zw ((List.length out0+List.length [v0])*(8:Nat)≤(140737488355328:Nat)) <|
 some (.inl (out0++[v0],IntKind.i64.wrap (v0+(1:Int)),()))
 else
 if Zk.Kind e0=3 then
 if ZM.instance x0=IntKind.i64.wrap (Instance0-1) then
 Zw ((List.length out0+List.length [(-1:Int)])*(8:Nat)≤(140737488355328:Nat)) <|
 some (.inl (out0++[(-1:Int)],IntKind.i64.wrap (v0+(1:Int)),()))
 else
 Zw ((List.length out0+List.length [v0])*(8:Nat)≤(140737488355328:Nat)) <|
 some (.inl (out0++[v0],IntKind.i64.wrap (v0+(1:Int)),()))
 else
 Zw ((List.length out0+List.length [v0])*(8:Nat)≤(140737488355328:Nat)) <|
 some (.inl (out0++[v0],IntKind.i64.wrap (v0+(1:Int)),()))
 else
 some (.inr out0)
def Jv (e0:Zk) (b0:Za):Option (List Int) :=
 (XR (Zb.Instances (Za.Design b0))).bind fun Instance0 =>
 (Yk (Za.Design b0)).bind fun places0 =>
 Zv (fun v=>Qq e0 Instance0 places0 v.1 v.2.1) (([]:List Int),(0:Int),())
def ZE8:Ctr:=⟨[.dat (Qv),.dat (YB)],[.own (.ol 2 (.flat (.int .i64)))],fun a K=>splitK a fun e0 a=>splitK a fun b0 a=>YA (Jv e0 b0) fun r=>K (r,()) ()⟩
def ZaS (after0:List Int) (list0:List Int) (v0:Int) (l0:List Int):Option ((Int×(List Int)×Unit) ⊕ (Bool×(List Int))) :=
 if v0<(↑(List.length list0):Int) then
 (atI l0 v0).bind fun x0 =>
 (atI after0 x0).bind fun x1 =>
 (atI (List.set l0 (Int.toNat v0) x1) v0).bind fun x2 =>
 if x2<0 then
 some (.inr (Bool.false,List.set l0 (Int.toNat v0) x1))
 else
 some (.inl (IntKind.i64.wrap (v0+1),List.set l0 (Int.toNat v0) x1,()))
 else
 some (.inr (Bool.true,l0))
def Jy (after0:List Int) (list0:List Int):Option (Bool×(List Int)) :=
 Zv (fun v=>ZaS after0 list0 v.1 v.2.1) ((0:Int),list0,())
def ZFt:Ctr:=⟨[.dat (.sl (.int .i64)),.back (.ol 2 (.flat (.int .i64)))],[.dat (.bool)],fun a K=>splitK a fun after0 a=>splitK a fun list0 a=>YA (Jy after0 list0) fun r=>K (r.1,()) (r.2,())⟩
def QD (a0:Zn) (a1:List Int) (l0:List Zf) (l1:List Zh) (l2:List Zh) (v3:Int) (c3:Bool) (l3:List (Int×Int×List Int×List Int×List Int×Unit)):Option ((Int×Bool×(List (Int×Int×List Int×List Int×List Int×Unit))×Unit) ⊕ ((Int×(List Zh)×Bool×Unit) ⊕ ((Int×(List Zh)×Bool×Unit) ⊕ ((Int×(List Zf)×Bool×Unit) ⊕ (Bool×Zn))))) :=
 if v3<(↑(List.length (Zn.Exceptions a0)):Int) then
 (atI l3 v3).bind fun x0 =>
 if c3=true then
 (Jy a1 x0.snd.snd.fst).bind fun carryAll0 =>
 if carryAll0.fst=true then
 (Jy a1 x0.snd.snd.snd.fst).bind fun carryAll1 =>
 if carryAll1.fst=true then
 (Jy a1 x0.snd.snd.snd.snd.fst).bind fun carryAll2 =>
 some (.inl (IntKind.i64.wrap (v3+1),carryAll2.fst,List.set l3 (Int.toNat v3) (x0.fst,x0.snd.fst,carryAll0.snd,carryAll1.snd,carryAll2.snd,()),()))
 else
 some (.inl (IntKind.i64.wrap (v3+1),Bool.false,List.set l3 (Int.toNat v3) (x0.fst,x0.snd.fst,carryAll0.snd,carryAll1.snd,x0.snd.snd.snd.snd),()))
 else
 some (.inl (IntKind.i64.wrap (v3+1),Bool.false,List.set l3 (Int.toNat v3) (x0.fst,x0.snd.fst,carryAll0.snd,x0.snd.snd.snd),()))
 else
 some (.inl (IntKind.i64.wrap (v3+1),Bool.false,List.set l3 (Int.toNat v3) x0,()))
 else
 some (.inr (.inr (.inr (.inr (c3,(l0,l1,l2,l3,a0.snd.snd.snd.snd))))))
def ZbD (a0:Zn) (a1:List Int) (l0:List Zf) (l1:List Zh) (v2:Int) (l2:List Zh) (c2:Bool):Option ((Int×(List Zh)×Bool×Unit) ⊕ ((Int×(List Zh)×Bool×Unit) ⊕ ((Int×(List Zf)×Bool×Unit) ⊕ (Bool×Zn)))) :=
 if v2<(↑(List.length (Zn.Xu a0)):Int) then
 (atI l2 v2).bind fun x0 =>
 (atI a1 (Zh.Place x0)).bind fun x1 =>
 if c2=true then
 (atI (List.set l2 (Int.toNat v2) (x1,x0.snd)) v2).bind fun x2 =>
 some (.inl (IntKind.i64.wrap (v2+1),List.set l2 (Int.toNat v2) (x1,x0.snd),Decidable.decide (0≤Zh.Place x2),()))
 else
 some (.inl (IntKind.i64.wrap (v2+1),List.set l2 (Int.toNat v2) (x1,x0.snd),Bool.false,()))
 else
 Zv (fun v=>QD a0 a1 l0 l1 l2 v.1 v.2.1 v.2.2.1) ((0:Int),c2,Zn.Exceptions a0,())
def Zbx (a0:Zn) (a1:List Int) (l0:List Zf) (v1:Int) (l1:List Zh) (c1:Bool):Option ((Int×(List Zh)×Bool×Unit) ⊕ ((Int×(List Zf)×Bool×Unit) ⊕ (Bool×Zn))) :=
 if v1<(↑(List.length (Zn.Qw a0)):Int) then
 (atI l1 v1).bind fun x0 =>
 (atI a1 (Zh.Place x0)).bind fun x1 =>
 if c1=true then
 (atI (List.set l1 (Int.toNat v1) (x1,x0.snd)) v1).bind fun x2 =>
 some (.inl (IntKind.i64.wrap (v1+1),List.set l1 (Int.toNat v1) (x1,x0.snd),Decidable.decide (0≤Zh.Place x2),()))
 else
 some (.inl (IntKind.i64.wrap (v1+1),List.set l1 (Int.toNat v1) (x1,x0.snd),Bool.false,()))
 else
 Zv (fun v=>ZbD a0 a1 l0 l1 v.1 v.2.1 v.2.2.1) ((0:Int),Zn.Xu a0,c1,())
def ZbE (a0:Zn) (a1:List Int) (v0:Int) (l0:List Zf) (c0:Bool):Option ((Int×(List Zf)×Bool×Unit) ⊕ (Bool×Zn)) :=
 if v0<(↑(List.length (Zn.YS a0)):Int) then
 (atI l0 v0).bind fun x0 =>
 (atI a1 (Zf.Place x0)).bind fun x1 =>
 if c0=true then
 (atI (List.set l0 (Int.toNat v0) (Zf.Name x0,x1,x0.snd.snd)) v0).bind fun x2 =>
 some (.inl (IntKind.i64.wrap (v0+1),List.set l0 (Int.toNat v0) (Zf.Name x0,x1,x0.snd.snd),Decidable.decide (0≤Zf.Place x2),()))
 else
 some (.inl (IntKind.i64.wrap (v0+1),List.set l0 (Int.toNat v0) (Zf.Name x0,x1,x0.snd.snd),Bool.false,()))
 else
 Zv (fun v=>Zbx a0 a1 l0 v.1 v.2.1 v.2.2.1) ((0:Int),Zn.Qw a0,c0,())
def Zdd (a0:Zn) (a1:List Int):Option (Bool×Zn) :=
 Zv (fun v=>ZbE a0 a1 v.1 v.2.1 v.2.2.1) ((0:Int),Zn.YS a0,Bool.true,())
def c232:Ctr:=⟨[.io (ZoZ),.dat (.sl (.int .i64))],[.dat (.bool)],fun a K=>splitK a fun a0 a=>splitK a fun a1 a=>YA (Zdd a0 a1) fun r=>K (r.1,()) (r.2,())⟩
def QM (s0:List YE):Option (List YE) :=
 Zw ((List.length (([]:List (List UInt8×Int×Int×Bool×Unit)))+List.length s0)*(40:Nat)≤(140737488355328:Nat)) <|
 some (([]:List (List UInt8×Int×Int×Bool×Unit))++s0)
def c233:Ctr:=⟨[.dat (.sl (ZdU))],[.own (.ol 274 (.flat (ZdU)))],fun a K=>splitK a fun s0 a=>YA (QM s0) fun r=>K (r,()) ()⟩
def QH (s0:List ZH):Option (List ZH) :=
 Zw ((List.length (([]:List (Int×Int×Int×Int×List ZB×List ZB×Unit)))+List.length s0)*(80:Nat)≤(140737488355328:Nat)) <|
 some (([]:List (Int×Int×Int×Int×List ZB×List ZB×Unit))++s0)
def c234:Ctr:=⟨[.dat (.sl (ZfF))],[.own (.ol 292 (.flat (ZfF)))],fun a K=>splitK a fun s0 a=>YA (QH s0) fun r=>K (r,()) ()⟩
def Ja (list0:List ZB) (out0:List ZB) (v0:Int):Option (((List ZB)×Int×Unit) ⊕ List ZB) :=
 if v0<(↑(List.length list0):Int) then
 (atI list0 v0).bind fun x0 =>
 (ZF (ZB.Zh2 x0)).bind fun int64_0 =>
 (ZF (ZB.Loads x0)).bind fun int64_1 =>
 (ZF (ZB.Values x0)).bind fun int64_2 =>
 Zw ((List.length out0+List.length [(int64_0,int64_1,int64_2,())])*(72:Nat)≤(140737488355328:Nat)) <|
 some (.inl (out0++[(int64_0,int64_1,int64_2,())],IntKind.i64.wrap (v0+(1:Int)),()))
 else
 some (.inr out0)
def Zbh (list0:List ZB):Option (List ZB) :=
 Zv (fun v=>Ja list0 v.1 v.2.1) (([]:List ZB),(0:Int),())
def ZEM:Ctr:=⟨[.dat (.sl (YZ))],[.own (.ol 337 (ZfI))],fun a K=>splitK a fun list0 a=>YA (Zbh list0) fun r=>K (r,()) ()⟩
def Qp (v0:Int) (c0:List Zm) (x0:Zm) (Pin0:List YE) (int64_0:List Int) (Arc0:List ZH) (v1:Int) (l1:List ZH×Int):Option ((Int×(List ZH×Int)×Unit) ⊕ ((Int×(List Zm)×Unit) ⊕ Zp)) :=
 if v1<(↑(List.length Arc0):Int) then
 (atI l1.fst v1).bind fun x1 =>
 Zw (l1.snd≤v1) <|
 (Zbh (ZH.Delay x1)).bind fun cloneTables0 =>
 (Zbh (ZH.ZdY x1)).bind fun cloneTables1 =>
 Zw (v1=l1.snd) <|
 (atI l1.fst l1.snd).bind fun x2 =>
 some (.inl (IntKind.i64.wrap (v1+1),(List.set l1.fst (Int.toNat l1.snd) (ZH.Kind x2,ZH.From x2,ZH.To x2,ZH.Zcm x2,cloneTables0,cloneTables1,()),l1.snd+1),()))
 else
 Zw (l1.snd=(↑(List.length l1.fst):Int)) <|
 Zw ((List.length c0+List.length [(Zm.Name x0,Zm.Kind x0,Pin0,l1.fst,int64_0,x0.snd.snd.snd.snd.snd)])*(112:Nat)≤(140737488355328:Nat)) <|
 some (.inr (.inl (IntKind.i64.wrap (v0+(1:Int)),c0++[(Zm.Name x0,Zm.Kind x0,Pin0,l1.fst,int64_0,x0.snd.snd.snd.snd.snd)],())))
def XG (l0:Zp) (v0:Int) (c0:List Zm):Option ((Int×(List Zm)×Unit) ⊕ Zp) :=
 if v0<(↑(List.length (Zp.Cells l0)):Int) then
 (atI (Zp.Cells l0) v0).bind fun x0 =>
 (QM (Zm.YC x0)).bind fun Pin0 =>
 (ZF (Zm.Truth x0)).bind fun int64_0 =>
 (QH (Zm.Zak x0)).bind fun Arc0 =>
 Zv (fun v=>Qp v0 c0 x0 Pin0 int64_0 Arc0 v.1 v.2.1) ((0:Int),(Arc0,(0:Int)),())
 else
 some (.inr (c0,()))
def VD (l0:Zp):Option Zp :=
 Zv (fun v=>XG l0 v.1 v.2.1) ((0:Int),([]:List Zm),())
def c236:Ctr:=⟨[.dat (YN)],[.own (ZnB)],fun a K=>splitK a fun l0 a=>YA (VD l0) fun r=>K (r,()) ()⟩
def Xv (s0:List Ze):Option (List Ze) :=
 Zw ((List.length (([]:List (List UInt8×Int×List Int×Unit)))+List.length s0)*(48:Nat)≤(140737488355328:Nat)) <|
 some (([]:List (List UInt8×Int×List Int×Unit))++s0)
def ZEO:Ctr:=⟨[.dat (.sl (ZX))],[.own (.ol 147 (.flat (ZX)))],fun a K=>splitK a fun s0 a=>YA (Xv s0) fun r=>K (r,()) ()⟩
def VK (s0:List (List UInt8)):Option (List (List UInt8)) :=
 Zw ((List.length (([]:List (List UInt8)))+List.length s0)*(16:Nat)≤(140737488355328:Nat)) <|
 some (([]:List (List UInt8))++s0)
def ZF1:Ctr:=⟨[.dat (.sl (.str))],[.own (.ol 9 (.flat (.str)))],fun a K=>splitK a fun s0 a=>YA (VK s0) fun r=>K (r,()) ()⟩
def Qo (s0:List ZT):Option (List ZT) :=
 Zw ((List.length (([]:List (List UInt8×Int×Int×Unit)))+List.length s0)*(32:Nat)≤(140737488355328:Nat)) <|
 some (([]:List (List UInt8×Int×Int×Unit))++s0)
def ZEb:Ctr:=⟨[.dat (.sl (Jf))],[.own (.ol 217 (.flat (Jf)))],fun a K=>splitK a fun s0 a=>YA (Qo s0) fun r=>K (r,()) ()⟩
def Qn (Instance0:List Ze) (string0:List (List UInt8)) (Port0:List ZT) (v0:Int) (l0:List Ze×Int):Option ((Int×(List Ze×Int)×Unit) ⊕ Zb) :=
 if v0<(↑(List.length Instance0):Int) then
 (atI l0.fst v0).bind fun x0 =>
 Zw (l0.snd≤v0) <|
 (ZF (Ze.ZI x0)).bind fun int64_0 =>
 Zw (v0=l0.snd) <|
 (atI l0.fst l0.snd).bind fun x1 =>
 some (.inl (IntKind.i64.wrap (v0+1),(List.set l0.fst (Int.toNat l0.snd) (Ze.Name x1,Ze.Cell x1,int64_0,()),l0.snd+1),()))
 else
 Zw (l0.snd=(↑(List.length l0.fst):Int)) <|
 some (.inr (l0.fst,string0,Port0,()))
def VB (d0:Zb):Option Zb :=
 (Xv (Zb.Instances d0)).bind fun Instance0 =>
 (VK (Zb.ZI d0)).bind fun string0 =>
 (Qo (Zb.ZK d0)).bind fun Port0 =>
 Zv (fun v=>Qn Instance0 string0 Port0 v.1 v.2.1) ((0:Int),(Instance0,(0:Int)),())
def ZEJ:Ctr:=⟨[.dat (Yr)],[.own (ZnR)],fun a K=>splitK a fun d0 a=>YA (VB d0) fun r=>K (r,()) ()⟩
def ZbU (w0:Zr):Option Zr :=
 (ZF (Zr.Parent w0)).bind fun int64_0 =>
 (ZF (Zr.Res w0)).bind fun int64_1 =>
 (ZF (Zr.Cap w0)).bind fun int64_2 =>
 (ZF (Zr.ZfR w0)).bind fun int64_3 =>
 some (int64_0,int64_1,int64_2,int64_3,())
def ZDw:Ctr:=⟨[.dat (XZ)],[.own (Zlc)],fun a K=>splitK a fun w0 a=>YA (ZbU w0) fun r=>K (r,()) ()⟩
def VZ (b0:Za) (cloneLibrary0:Zp) (clone0:Zb) (v0:Int) (c0:List Zr):Option ((Int×(List Zr)×Unit) ⊕ Za) :=
 if v0<(↑(List.length (Za.ZC b0)):Int) then
 (atI (Za.ZC b0) v0).bind fun x0 =>
 (ZbU x0).bind fun clone1 =>
 Zw ((List.length c0+List.length [clone1])*(96:Nat)≤(140737488355328:Nat)) <|
 some (.inl (IntKind.i64.wrap (v0+(1:Int)),c0++[clone1],()))
 else
 some (.inr (cloneLibrary0,clone0,c0,()))
def Zdj (b0:Za):Option Za :=
 (VD (Za.Library b0)).bind fun cloneLibrary0 =>
 (VB (Za.Design b0)).bind fun clone0 =>
 Zv (fun v=>VZ b0 cloneLibrary0 clone0 v.1 v.2.1) ((0:Int),([]:List Zr),())
def ZEQ:Ctr:=⟨[.dat (YB)],[.own (Zfy)],fun a K=>splitK a fun b0 a=>YA (Zdj b0) fun r=>K (r,()) ()⟩
def Zam (b0:Za) (places0:List ZM) (v0:Int) (m0:List ((Int×Int×Unit)×Int)) (l0:List Int):Option ((Int×(List ((Int×Int×Unit)×Int))×(List Int)×Unit) ⊕ List (Jh×Int)) :=
 if v0<(↑(List.length places0):Int) then
 (atI places0 v0).bind fun x0 =>
 if (ZM.drives x0)=true then
 some (.inl (IntKind.i64.wrap (v0+1),m0,l0,()))
 else
 (atI (Za.ZC b0) (ZM.net x0)).bind fun x1 =>
 (atI l0 (ZM.net x0)).bind fun x2 =>
 (atI (Zr.ZfR x1) x2).bind fun x3 =>
 some (.inl (IntKind.i64.wrap (v0+1),Zo6 Zuf.ty Zuf.ety m0 (ZM.instance x0,ZM.pin x0,()) x3,List.set l0 (Int.toNat (ZM.net x0)) (IntKind.i64.wrap (x2+1)),()))
 else
 some (.inr m0)
def Q6 (b0:Za):Option (List (Jh×Int)) :=
 Zw ((0:Int)≤(↑(List.length (Za.ZC b0)):Int)) <|
 Zw ((↑(List.length (Za.ZC b0)):Int)≤(↑(List.length (Za.ZC b0)):Int)) <|
 Zw ((↑(List.length (Za.ZC b0)):Int)≤(4611686018427387904:Int)) <|
 Zw ((↑(8:Nat):Int)*(↑(List.length (Za.ZC b0)):Int)≤(281474976710656:Int)) <|
 (Yk (Za.Design b0)).bind fun places0 =>
 Zv (fun v=>Zam b0 places0 v.1 v.2.1 v.2.2.1) ((0:Int),([]:List ((Int×Int×Unit)×Int)),List.replicate (Int.toNat (↑(List.length (Za.ZC b0)):Int)) (0:Int),())
def ZCC:Ctr:=⟨[.dat (YB)],[.own (.mp (ZbV) (.int .i64))],fun a K=>splitK a fun b0 a=>YA (Q6 b0) fun r=>K (r,()) ()⟩
def VJ (b0:Za) (key0:Jh) (net0:Int):Option Za :=
 if Jh.instance key0<0 then
 (atI (Zb.ZK (Za.Design b0)) (Jh.pin key0)).bind fun x0 =>
 some (Za.Library b0,(Zb.Instances (Za.Design b0),Zb.ZI (Za.Design b0),List.set (Zb.ZK (Za.Design b0)) (Int.toNat (Jh.pin key0)) (ZT.Name x0,ZT.Dir x0,net0,()),()),b0.snd.snd)
 else
 (atI (Zb.Instances (Za.Design b0)) (Jh.instance key0)).bind fun x0 =>
 (atI x0.snd.snd.fst (Jh.pin key0)).bind fun x1 =>
 some (Za.Library b0,(List.set (Zb.Instances (Za.Design b0)) (Int.toNat (Jh.instance key0)) (x0.fst,x0.snd.fst,List.set x0.snd.snd.fst (Int.toNat (Jh.pin key0)) net0,()),(Za.Design b0).snd),b0.snd.snd)
def ZCo:Ctr:=⟨[.io (Zfy),.dat (ZbV),.dat (.int .i64)],[],fun a K=>splitK a fun b0 a=>splitK a fun key0 a=>splitK a fun net0 a=>YA (VJ b0 key0 net0) fun r=>K () (r,())⟩
def Zao (b0:Za) (nodes0:List (Jh×Int)) (places0:List ZM) (v1:Int) (l1:List (List Int×List Int×List Int×List Int×Unit)):Option ((Int×(List (List Int×List Int×List Int×List Int×Unit))×Unit) ⊕ ((Int×(List (List Int×List Int×List Int×List Int×Unit))×Unit) ⊕ Za)) :=
 if v1<(↑(List.length places0):Int) then
 (atI places0 v1).bind fun x0 =>
 if (ZM.drives x0)=true then
 some (.inl (IntKind.i64.wrap (v1+1),l1,()))
 else
 (atI l1 (ZM.net x0)).bind fun x1 =>
 Zw ((List.length x1.snd.snd.snd.fst+List.length [Option.getD (ZkX ZbV (Ty.int IntKind.i64) nodes0 (ZM.instance x0,ZM.pin x0,())) (0:Int)])*(8:Nat)≤(140737488355328:Nat)) <|
 some (.inl (IntKind.i64.wrap (v1+(1:Int)),List.set l1 (Int.toNat (ZM.net x0)) (x1.fst,x1.snd.fst,x1.snd.snd.fst,x1.snd.snd.snd.fst++[Option.getD (ZkX ZbV (Ty.int IntKind.i64) nodes0 (ZM.instance x0,ZM.pin x0,())) (0:Int)],()),()))
 else
 some (.inr (.inr (Za.Library b0,Za.Design b0,l1,())))
def Q9 (b0:Za) (nodes0:List (Jh×Int)) (v0:Int) (l0:List (List Int×List Int×List Int×List Int×Unit)):Option ((Int×(List (List Int×List Int×List Int×List Int×Unit))×Unit) ⊕ Za) :=
 if v0<(↑(List.length (Za.ZC b0)):Int) then
 (atI l0 v0).bind fun x0 =>
 some (.inl (IntKind.i64.wrap (v0+(1:Int)),List.set l0 (Int.toNat v0) (x0.fst,x0.snd.fst,x0.snd.snd.fst,([]:List Int),()),()))
 else
 (Yk (Za.Design b0)).bind fun places0 =>
 Zv (fun v=>Zao b0 nodes0 places0 v.1 v.2.1) ((0:Int),l0,())
def Qk (b0:Za) (nodes0:List (Jh×Int)):Option Za :=
 Zv (fun v=>Q9 b0 nodes0 v.1 v.2.1) ((0:Int),Za.ZC b0,())
def ZC6:Ctr:=⟨[.io (Zfy),.dat (.mp (ZbV) (.int .i64))],[],fun a K=>splitK a fun b0 a=>splitK a fun nodes0 a=>YA (Qk b0 nodes0) fun r=>K () (r,())⟩
def Zcs (a0:Za) (a1:Zk):Option Za :=
 (Q6 a0).bind fun nodesOf0 =>
 (Yk (Za.Design a0)).bind fun places0 =>
 (atI places0 (Zk.Place a1)).bind fun x0 =>
 (Xx (Zb.ZI (Za.Design a0))).bind fun string0 =>
 (XR (Zb.Instances (Za.Design a0))).bind fun Instance0 =>
 Zw ((List.length (Zb.Instances (Za.Design a0))+List.length [(Zk.Name a1,Zk.Cell a1,[ZM.net x0,string0],())])*(48:Nat)≤(140737488355328:Nat)) <|
 Zw ((List.length (Zb.ZI (Za.Design a0))+List.length [Zk.Name a1])*(16:Nat)≤(140737488355328:Nat)) <|
 Zw ((List.length (Za.ZC a0)+List.length [([(-1:Int)],[(0:Int)],[(0:Int)],([]:List Int),())])*(96:Nat)≤(140737488355328:Nat)) <|
 (VJ (Za.Library a0,(Zb.Instances (Za.Design a0)++[(Zk.Name a1,Zk.Cell a1,[ZM.net x0,string0],())],Zb.ZI (Za.Design a0)++[Zk.Name a1],(Za.Design a0).snd.snd),Za.ZC a0++[([(-1:Int)],[(0:Int)],[(0:Int)],([]:List Int),())],()) (ZM.instance x0,ZM.pin x0,()) string0).bind fun setNet0 =>
 (Qk setNet0 (Zo6 ZbV (Ty.int IntKind.i64) (Zo6 ZbV (Ty.int IntKind.i64) nodesOf0 (Instance0,0,()) (Option.getD (ZkX ZbV (Ty.int IntKind.i64) nodesOf0 (ZM.instance x0,ZM.pin x0,())) 0)) (ZM.instance x0,ZM.pin x0,()) 0)).bind fun connect0 =>
 some connect0
def ZFD:Ctr:=⟨[.io (Zfy),.dat (Qv)],[],fun a K=>splitK a fun a0 a=>splitK a fun a1 a=>YA (Zcs a0 a1) fun r=>K () (r,())⟩
def ZaM (a0:Za):Option (Jh×Za) :=
 (Q6 a0).bind fun nodesOf0 =>
 (Yk (Za.Design a0)).bind fun places0 =>
 (Xx (Zb.ZI (Za.Design a0))).bind fun string0 =>
 (Zag (Za.Design a0) (IntKind.i64.wrap (string0-1))).bind fun sinks0 =>
 (atI sinks0 0).bind fun x0 =>
 (atI places0 x0).bind fun x1 =>
 (atI (Zb.Instances (Za.Design a0)) (IntKind.i64.wrap ((↑(List.length (Zb.Instances (Za.Design a0))):Int)-1))).bind fun x2 =>
 (atI x2.snd.snd.fst 0).bind fun x3 =>
 (VJ (Za.Library a0,(List.set (Zb.Instances (Za.Design a0)) (Int.toNat (IntKind.i64.wrap ((↑(List.length (Zb.Instances (Za.Design a0))):Int)-1))) x2,(Za.Design a0).snd),a0.snd.snd) (ZM.instance x1,ZM.pin x1,()) x3).bind fun setNet0 =>
 Zw ((0:Int)≤IntKind.i64.wrap ((↑(List.length (Zb.Instances (Za.Design a0))):Int)-(1:Int))) <|
 Zw (IntKind.i64.wrap ((↑(List.length (Zb.Instances (Za.Design a0))):Int)-(1:Int))≤(↑(List.length (Zb.Instances (Za.Design setNet0))):Int)) <|
 Zw ((0:Int)≤IntKind.i64.wrap ((↑(List.length (Zb.ZI (Za.Design setNet0))):Int)-(1:Int))) <|
 Zw (IntKind.i64.wrap ((↑(List.length (Zb.ZI (Za.Design setNet0))):Int)-(1:Int))≤(↑(List.length (Zb.ZI (Za.Design setNet0))):Int)) <|
 Zw ((0:Int)≤IntKind.i64.wrap ((↑(List.length (Za.ZC setNet0)):Int)-(1:Int))) <|
 Zw (IntKind.i64.wrap ((↑(List.length (Za.ZC setNet0)):Int)-(1:Int))≤(↑(List.length (Za.ZC setNet0)):Int)) <|
 (Qk (Za.Library setNet0,(List.take (Int.toNat (IntKind.i64.wrap ((↑(List.length (Zb.Instances (Za.Design a0))):Int)-1))-Int.toNat 0) (List.drop (Int.toNat 0) (Zb.Instances (Za.Design setNet0))),List.take (Int.toNat (IntKind.i64.wrap ((↑(List.length (Zb.ZI (Za.Design setNet0))):Int)-1))-Int.toNat 0) (List.drop (Int.toNat 0) (Zb.ZI (Za.Design setNet0))),(Za.Design setNet0).snd.snd),List.take (Int.toNat (IntKind.i64.wrap ((↑(List.length (Za.ZC setNet0)):Int)-1))-Int.toNat 0) (List.drop (Int.toNat 0) (Za.ZC setNet0)),()) (Zo6 ZbV (Ty.int IntKind.i64) nodesOf0 (ZM.instance x1,ZM.pin x1,()) (Option.getD (ZkX ZbV (Ty.int IntKind.i64) nodesOf0 (IntKind.i64.wrap ((↑(List.length (Zb.Instances (Za.Design a0))):Int)-1),0,())) 0))).bind fun connect0 =>
 some ((ZM.instance x1,ZM.pin x1,()),connect0)
def ZGi:Ctr:=⟨[.io (Zfy)],[.dat (ZbV)],fun a K=>splitK a fun a0 a=>YA (ZaM a0) fun r=>K (r.1,()) (r.2,())⟩
def Zap (a0:Zk) (a1:Za):Option Za :=
 (Zdj a1).bind fun clone0 =>
 if Zk.Kind a0=1 then
 (Yk (Za.Design a1)).bind fun places0 =>
 (atI places0 (Zk.Place a0)).bind fun x0 =>
 (atI (Zb.Instances (Za.Design clone0)) (ZM.instance x0)).bind fun x1 =>
 some (Za.Library clone0,(List.set (Zb.Instances (Za.Design clone0)) (Int.toNat (ZM.instance x0)) (x1.fst,Zk.Cell a0,x1.snd.snd),(Za.Design clone0).snd),clone0.snd.snd)
 else
 if Zk.Kind a0=2 then
 (Zcs clone0 a0).bind fun buffer0 =>
 some buffer0
 else
 if Zk.Kind a0=3 then
 (ZaM clone0).bind fun unbuffer0 =>
 some unbuffer0.snd
 else
 if Zk.Kind a0=4 then
 (Q6 clone0).bind fun nodesOf0 =>
 (Yk (Za.Design clone0)).bind fun places0 =>
 (atI places0 (Zk.Place a0)).bind fun x0 =>
 (VJ clone0 (ZM.instance x0,ZM.pin x0,()) (Zk.Net a0)).bind fun setNet0 =>
 (Qk setNet0 (Zo6 ZbV (Ty.int IntKind.i64) nodesOf0 (ZM.instance x0,ZM.pin x0,()) (Zk.Node a0))).bind fun connect0 =>
 some connect0
 else
 if Zk.Kind a0=5 then
 (ZbU (Zk.Ze1 a0)).bind fun clone1 =>
 (atI (Za.ZC clone0) (Zk.Net a0)).bind fun x0 =>
 some (Za.Library clone0,Za.Design clone0,List.set (Za.ZC clone0) (Int.toNat (Zk.Net a0)) clone1,())
 else
 some clone0
def ZGt:Ctr:=⟨[.dat (Qv),.dat (YB)],[.own (Zfy)],fun a K=>splitK a fun a0 a=>splitK a fun a1 a=>YA (Zap a0 a1) fun r=>K (r,()) ()⟩
def JY (e0:Zk) (b0:Za) (s0:Zn):Option (Zn×Bool) :=
 (Zc9 s0).bind fun clone0 =>
 (Jv e0 b0).bind fun placesAfter0 =>
 (Zdd clone0 placesAfter0).bind fun carry0 =>
 if carry0.fst=true then
 (Zap e0 b0).bind fun apply0 =>
 (ZfE apply0 carry0.snd).bind fun IsSetup0 =>
 if IsSetup0=true then
 some (carry0.snd,Bool.true)
 else
 some ((([]:List Zf),([]:List Zh),([]:List Zh),([]:List Zg),([]:List Zu),()),Bool.false)
 else
 some ((([]:List Zf),([]:List Zh),([]:List Zh),([]:List Zg),([]:List Zu),()),Bool.false)
def ZEc:Ctr:=⟨[.dat (Qv),.dat (YB),.dat (YR)],[.own (ZoZ),.dat (.bool)],fun a K=>splitK a fun e0 a=>splitK a fun b0 a=>splitK a fun s0 a=>YA (JY e0 b0 s0) fun r=>K (r.1,r.2,()) ()⟩
def Zai (b0:Za) (e0:Zk) (setup0:Zn):Option (Zn×Int) :=
 (ZgA b0 e0).bind fun EditCode0 =>
 if EditCode0=0 then
 (ZfE b0 setup0).bind fun IsSetup0 =>
 if IsSetup0=true then
 (JY e0 b0 setup0).bind fun setupAfter0 =>
 if setupAfter0.snd=true then
 some (setupAfter0.fst,0)
 else
 some ((([]:List Zf),([]:List Zh),([]:List Zh),([]:List Zg),([]:List Zu),()),(5:Int))
 else
 some ((([]:List Zf),([]:List Zh),([]:List Zh),([]:List Zg),([]:List Zu),()),(2:Int))
 else
 some ((([]:List Zf),([]:List Zh),([]:List Zh),([]:List Zg),([]:List Zu),()),EditCode0)
def ZEE:Ctr:=⟨[.dat (YB),.dat (Qv),.dat (YR)],[.own (ZoZ),.dat (.int .i64)],fun a K=>splitK a fun b0 a=>splitK a fun e0 a=>splitK a fun setup0 a=>YA (Zai b0 e0 setup0) fun r=>K (r.1,r.2,()) ()⟩
def ZfG (a0:Zf) (b0:Zf):Option Bool :=
 if Zf.Name a0=Zf.Name b0 then
 if Zf.Place a0=Zf.Place b0 then
 if Zf.Y3 a0=Zf.Y3 b0 then
 if Zf.XB a0=Zf.XB b0 then
 if Zf.X9 a0=Zf.X9 b0 then
 if Zf.Source a0=Zf.Source b0 then
 if Zf.Divide a0=Zf.Divide b0 then
 if (Zf.ZeJ a0 == Zf.ZeJ b0)=true then
 if Zf.Y9 a0=Zf.Y9 b0 then
 if Zf.Qj a0=Zf.Qj b0 then
 if Zf.JU a0=Zf.JU b0 then
 some Bool.true
 else
 some Bool.false
 else
 some Bool.false
 else
 some Bool.false
 else
 some Bool.false
 else
 some Bool.false
 else
 some Bool.false
 else
 some Bool.false
 else
 some Bool.false
 else
 some Bool.false
 else
 some Bool.false
 else
 some Bool.false
def ZGp:Ctr:=D2 (ZU) (ZU) (.bool) ZfG
def Zmh (a0:List Zf) (b0:List Zf) (i0:Int):Option ((Int×Unit) ⊕ Bool) :=
 if i0<(↑(List.length a0):Int) then
 (atI a0 i0).bind fun x0 =>
 (atI b0 i0).bind fun x1 =>
 (ZfG x0 x1).bind fun eqClock0 =>
 if eqClock0=true then
 some (.inl (IntKind.i64.wrap (i0+1),()))
 else
 some (.inr Bool.false)
 else
 some (.inr Bool.true)
def ZgB (a0:List Zf) (b0:List Zf):Option Bool :=
 if (↑(List.length a0):Int)=(↑(List.length b0):Int) then
 Zv (fun v=>Zmh a0 b0 v.1) ((0:Int),())
 else
 some Bool.false
def ZGT:Ctr:=D2 (.sl (ZU)) (.sl (ZU)) (.bool) ZgB
def ZgV (a0:YG) (b0:YG):Option Bool :=
 if YG.Early a0=YG.Early b0 then
 if YG.Late a0=YG.Late b0 then
 some Bool.true
 else
 some Bool.false
 else
 some Bool.false
def ZGM:Ctr:=D2 (ZnX) (ZnX) (.bool) ZgV
def ZbS (a0:Zh) (b0:Zh):Option Bool :=
 if Zh.Place a0=Zh.Place b0 then
 if Zh.Clock a0=Zh.Clock b0 then
 (ZgV (Zh.Delay a0) (Zh.Delay b0)).bind fun eqSpan0 =>
 if eqSpan0=true then
 (ZgV (Zh.ZdY a0) (Zh.ZdY b0)).bind fun eqSpan1 =>
 if eqSpan1=true then
 some Bool.true
 else
 some Bool.false
 else
 some Bool.false
 else
 some Bool.false
 else
 some Bool.false
def ZEW:Ctr:=D2 (Zx) (Zx) (.bool) ZbS
def ZjG (a0:List Zh) (b0:List Zh) (i0:Int):Option ((Int×Unit) ⊕ Bool) :=
 if i0<(↑(List.length a0):Int) then
 (atI a0 i0).bind fun x0 =>
 (atI b0 i0).bind fun x1 =>
 (ZbS x0 x1).bind fun eqExternal0 =>
 if eqExternal0=true then
 some (.inl (IntKind.i64.wrap (i0+1),()))
 else
 some (.inr Bool.false)
 else
 some (.inr Bool.true)
def Zbc (a0:List Zh) (b0:List Zh):Option Bool :=
 if (↑(List.length a0):Int)=(↑(List.length b0):Int) then
 Zv (fun v=>ZjG a0 b0 v.1) ((0:Int),())
 else
 some Bool.false
def ZEp:Ctr:=D2 (.sl (Zx)) (.sl (Zx)) (.bool) Zbc
def ZmA (a0:List Int) (b0:List Int) (i0:Int):Option ((Int×Unit) ⊕ Bool) :=
 if i0<(↑(List.length a0):Int) then
 (atI a0 i0).bind fun x0 =>
 (atI b0 i0).bind fun x1 =>
 if x0=x1 then
 some (.inl (IntKind.i64.wrap (i0+1),()))
 else
 some (.inr Bool.false)
 else
 some (.inr Bool.true)
def Xj (a0:List Int) (b0:List Int):Option Bool :=
 if (↑(List.length a0):Int)=(↑(List.length b0):Int) then
 Zv (fun v=>ZmA a0 b0 v.1) ((0:Int),())
 else
 some Bool.false
def ZBk:Ctr:=D2 (.sl (.int .i64)) (.sl (.int .i64)) (.bool) Xj
def Zbb (a0:Zg) (b0:Zg):Option Bool :=
 if Zg.Kind a0=Zg.Kind b0 then
 if Zg.Value a0=Zg.Value b0 then
 (Xj (Zg.From a0) (Zg.From b0)).bind fun eqInt64S0 =>
 if eqInt64S0=true then
 (Xj (Zg.Through a0) (Zg.Through b0)).bind fun eqInt64S1 =>
 if eqInt64S1=true then
 (Xj (Zg.To a0) (Zg.To b0)).bind fun eqInt64S2 =>
 if eqInt64S2=true then
 some Bool.true
 else
 some Bool.false
 else
 some Bool.false
 else
 some Bool.false
 else
 some Bool.false
 else
 some Bool.false
def ZF2:Ctr:=D2 (ZA) (ZA) (.bool) Zbb
def ZiI (a0:List Zg) (b0:List Zg) (i0:Int):Option ((Int×Unit) ⊕ Bool) :=
 if i0<(↑(List.length a0):Int) then
 (atI a0 i0).bind fun x0 =>
 (atI b0 i0).bind fun x1 =>
 (Zbb x0 x1).bind fun eqException0 =>
 if eqException0=true then
 some (.inl (IntKind.i64.wrap (i0+1),()))
 else
 some (.inr Bool.false)
 else
 some (.inr Bool.true)
def ZcE (a0:List Zg) (b0:List Zg):Option Bool :=
 if (↑(List.length a0):Int)=(↑(List.length b0):Int) then
 Zv (fun v=>ZiI a0 b0 v.1) ((0:Int),())
 else
 some Bool.false
def ZFk:Ctr:=D2 (.sl (ZA)) (.sl (ZA)) (.bool) ZcE
def Zeo (a0:Zu) (b0:Zu):Option Bool :=
 if Zu.Name a0=Zu.Name b0 then
 if Zu.Qh a0=Zu.Qh b0 then
 if Zu.J2 a0=Zu.J2 b0 then
 if Zu.Zad a0=Zu.Zad b0 then
 if Zu.Zdn a0=Zu.Zdn b0 then
 some Bool.true
 else
 some Bool.false
 else
 some Bool.false
 else
 some Bool.false
 else
 some Bool.false
 else
 some Bool.false
def ZGZ:Ctr:=D2 (ZW) (ZW) (.bool) Zeo
def Zk0 (a0:List Zu) (b0:List Zu) (i0:Int):Option ((Int×Unit) ⊕ Bool) :=
 if i0<(↑(List.length a0):Int) then
 (atI a0 i0).bind fun x0 =>
 (atI b0 i0).bind fun x1 =>
 (Zeo x0 x1).bind fun eqCorner0 =>
 if eqCorner0=true then
 some (.inl (IntKind.i64.wrap (i0+1),()))
 else
 some (.inr Bool.false)
 else
 some (.inr Bool.true)
def Zfi (a0:List Zu) (b0:List Zu):Option Bool :=
 if (↑(List.length a0):Int)=(↑(List.length b0):Int) then
 Zv (fun v=>Zk0 a0 b0 v.1) ((0:Int),())
 else
 some Bool.false
def ZFr:Ctr:=D2 (.sl (ZW)) (.sl (ZW)) (.bool) Zfi
def Zfz (a0:Zn) (b0:Zn):Option Bool :=
 (ZgB (Zn.YS a0) (Zn.YS b0)).bind fun eqClockS0 =>
 if eqClockS0=true then
 (Zbc (Zn.Qw a0) (Zn.Qw b0)).bind fun eqExternalS0 =>
 if eqExternalS0=true then
 (Zbc (Zn.Xu a0) (Zn.Xu b0)).bind fun eqExternalS1 =>
 if eqExternalS1=true then
 (ZcE (Zn.Exceptions a0) (Zn.Exceptions b0)).bind fun eqExceptionS0 =>
 if eqExceptionS0=true then
 (Zfi (Zn.QJ a0) (Zn.QJ b0)).bind fun eqCornerS0 =>
 if eqCornerS0=true then
 some Bool.true
 else
 some Bool.false
 else
 some Bool.false
 else
 some Bool.false
 else
 some Bool.false
 else
 some Bool.false
def ZGf:Ctr:=D2 (YR) (YR) (.bool) Zfz
def Zih (a0:YE) (b0:YE):Option Bool :=
 if YE.Name a0=YE.Name b0 then
 if YE.Dir a0=YE.Dir b0 then
 if YE.Cap a0=YE.Cap b0 then
 if (YE.Clock a0 == YE.Clock b0)=true then
 some Bool.true
 else
 some Bool.false
 else
 some Bool.false
 else
 some Bool.false
 else
 some Bool.false
def ZFM:Ctr:=D2 (ZdU) (ZdU) (.bool) Zih
def ZoD (a0:List YE) (b0:List YE) (i0:Int):Option ((Int×Unit) ⊕ Bool) :=
 if i0<(↑(List.length a0):Int) then
 (atI a0 i0).bind fun x0 =>
 (atI b0 i0).bind fun x1 =>
 (Zih x0 x1).bind fun eqPin0 =>
 if eqPin0=true then
 some (.inl (IntKind.i64.wrap (i0+1),()))
 else
 some (.inr Bool.false)
 else
 some (.inr Bool.true)
def ZiA (a0:List YE) (b0:List YE):Option Bool :=
 if (↑(List.length a0):Int)=(↑(List.length b0):Int) then
 Zv (fun v=>ZoD a0 b0 v.1) ((0:Int),())
 else
 some Bool.false
def ZEr:Ctr:=D2 (.sl (ZdU)) (.sl (ZdU)) (.bool) ZiA
def Zfx (a0:ZB) (b0:ZB):Option Bool :=
 (Xj (ZB.Zh2 a0) (ZB.Zh2 b0)).bind fun eqInt64S0 =>
 if eqInt64S0=true then
 (Xj (ZB.Loads a0) (ZB.Loads b0)).bind fun eqInt64S1 =>
 if eqInt64S1=true then
 (Xj (ZB.Values a0) (ZB.Values b0)).bind fun eqInt64S2 =>
 if eqInt64S2=true then
 some Bool.true
 else
 some Bool.false
 else
 some Bool.false
 else
 some Bool.false
def ZFp:Ctr:=D2 (YZ) (YZ) (.bool) Zfx
def Zmz (a0:List ZB) (b0:List ZB) (i0:Int):Option ((Int×Unit) ⊕ Bool) :=
 if i0<(↑(List.length a0):Int) then
 (atI a0 i0).bind fun x0 =>
 (atI b0 i0).bind fun x1 =>
 (Zfx x0 x1).bind fun eqTable0 =>
 if eqTable0=true then
 some (.inl (IntKind.i64.wrap (i0+1),()))
 else
 some (.inr Bool.false)
 else
 some (.inr Bool.true)
def ZeD (a0:List ZB) (b0:List ZB):Option Bool :=
 if (↑(List.length a0):Int)=(↑(List.length b0):Int) then
 Zv (fun v=>Zmz a0 b0 v.1) ((0:Int),())
 else
 some Bool.false
def ZF0:Ctr:=D2 (.sl (YZ)) (.sl (YZ)) (.bool) ZeD
def Zig (a0:ZH) (b0:ZH):Option Bool :=
 if ZH.Kind a0=ZH.Kind b0 then
 if ZH.From a0=ZH.From b0 then
 if ZH.To a0=ZH.To b0 then
 if ZH.Zcm a0=ZH.Zcm b0 then
 (ZeD (ZH.Delay a0) (ZH.Delay b0)).bind fun eqTableS0 =>
 if eqTableS0=true then
 (ZeD (ZH.ZdY a0) (ZH.ZdY b0)).bind fun eqTableS1 =>
 if eqTableS1=true then
 some Bool.true
 else
 some Bool.false
 else
 some Bool.false
 else
 some Bool.false
 else
 some Bool.false
 else
 some Bool.false
 else
 some Bool.false
def ZGQ:Ctr:=D2 (ZfF) (ZfF) (.bool) Zig
def ZnT (a0:List ZH) (b0:List ZH) (i0:Int):Option ((Int×Unit) ⊕ Bool) :=
 if i0<(↑(List.length a0):Int) then
 (atI a0 i0).bind fun x0 =>
 (atI b0 i0).bind fun x1 =>
 (Zig x0 x1).bind fun eqArc0 =>
 if eqArc0=true then
 some (.inl (IntKind.i64.wrap (i0+1),()))
 else
 some (.inr Bool.false)
 else
 some (.inr Bool.true)
def ZiG (a0:List ZH) (b0:List ZH):Option Bool :=
 if (↑(List.length a0):Int)=(↑(List.length b0):Int) then
 Zv (fun v=>ZnT a0 b0 v.1) ((0:Int),())
 else
 some Bool.false
def ZFE:Ctr:=D2 (.sl (ZfF)) (.sl (ZfF)) (.bool) ZiG
def Zg5 (a0:Zm) (b0:Zm):Option Bool :=
 if Zm.Name a0=Zm.Name b0 then
 if Zm.Kind a0=Zm.Kind b0 then
 (ZiA (Zm.YC a0) (Zm.YC b0)).bind fun eqPinS0 =>
 if eqPinS0=true then
 (ZiG (Zm.Zak a0) (Zm.Zak b0)).bind fun eqArcS0 =>
 if eqArcS0=true then
 (Xj (Zm.Truth a0) (Zm.Truth b0)).bind fun eqInt64S0 =>
 if eqInt64S0=true then
 if Zm.Zy7 a0=Zm.Zy7 b0 then
 if Zm.Zlx a0=Zm.Zlx b0 then
 some Bool.true
 else
 some Bool.false
 else
 some Bool.false
 else
 some Bool.false
 else
 some Bool.false
 else
 some Bool.false
 else
 some Bool.false
 else
 some Bool.false
def ZGH:Ctr:=D2 (XY) (XY) (.bool) Zg5
def ZmI (a0:List Zm) (b0:List Zm) (i0:Int):Option ((Int×Unit) ⊕ Bool) :=
 if i0<(↑(List.length a0):Int) then
 (atI a0 i0).bind fun x0 =>
 (atI b0 i0).bind fun x1 =>
 (Zg5 x0 x1).bind fun eqCell0 =>
 if eqCell0=true then
 some (.inl (IntKind.i64.wrap (i0+1),()))
 else
 some (.inr Bool.false)
 else
 some (.inr Bool.true)
def ZhP (a0:List Zm) (b0:List Zm):Option Bool :=
 if (↑(List.length a0):Int)=(↑(List.length b0):Int) then
 Zv (fun v=>ZmI a0 b0 v.1) ((0:Int),())
 else
 some Bool.false
def ZFI:Ctr:=D2 (.sl (XY)) (.sl (XY)) (.bool) ZhP
def Zfc (a0:Zp) (b0:Zp):Option Bool :=
 (ZhP (Zp.Cells a0) (Zp.Cells b0)).bind fun eqCellS0 =>
 if eqCellS0=true then
 some Bool.true
 else
 some Bool.false
def ZFH:Ctr:=D2 (YN) (YN) (.bool) Zfc
def Zb9 (a0:Ze) (b0:Ze):Option Bool :=
 if Ze.Name a0=Ze.Name b0 then
 if Ze.Cell a0=Ze.Cell b0 then
 (Xj (Ze.ZI a0) (Ze.ZI b0)).bind fun eqInt64S0 =>
 if eqInt64S0=true then
 some Bool.true
 else
 some Bool.false
 else
 some Bool.false
 else
 some Bool.false
def ZFh:Ctr:=D2 (ZX) (ZX) (.bool) Zb9
def ZjH (a0:List Ze) (b0:List Ze) (i0:Int):Option ((Int×Unit) ⊕ Bool) :=
 if i0<(↑(List.length a0):Int) then
 (atI a0 i0).bind fun x0 =>
 (atI b0 i0).bind fun x1 =>
 (Zb9 x0 x1).bind fun eqInstance0 =>
 if eqInstance0=true then
 some (.inl (IntKind.i64.wrap (i0+1),()))
 else
 some (.inr Bool.false)
 else
 some (.inr Bool.true)
def Zda (a0:List Ze) (b0:List Ze):Option Bool :=
 if (↑(List.length a0):Int)=(↑(List.length b0):Int) then
 Zv (fun v=>ZjH a0 b0 v.1) ((0:Int),())
 else
 some Bool.false
def ZGg:Ctr:=D2 (.sl (ZX)) (.sl (ZX)) (.bool) Zda
def Zk6 (a0:List (List UInt8)) (b0:List (List UInt8)) (i0:Int):Option ((Int×Unit) ⊕ Bool) :=
 if i0<(↑(List.length a0):Int) then
 (atI a0 i0).bind fun x0 =>
 (atI b0 i0).bind fun x1 =>
 if x0=x1 then
 some (.inl (IntKind.i64.wrap (i0+1),()))
 else
 some (.inr Bool.false)
 else
 some (.inr Bool.true)
def Zfm (a0:List (List UInt8)) (b0:List (List UInt8)):Option Bool :=
 if (↑(List.length a0):Int)=(↑(List.length b0):Int) then
 Zv (fun v=>Zk6 a0 b0 v.1) ((0:Int),())
 else
 some Bool.false
def ZD8:Ctr:=D2 (.sl (.str)) (.sl (.str)) (.bool) Zfm
def Zhc (a0:ZT) (b0:ZT):Option Bool :=
 if ZT.Name a0=ZT.Name b0 then
 if ZT.Dir a0=ZT.Dir b0 then
 if ZT.Net a0=ZT.Net b0 then
 some Bool.true
 else
 some Bool.false
 else
 some Bool.false
 else
 some Bool.false
def ZFZ:Ctr:=D2 (Jf) (Jf) (.bool) Zhc
def ZnI (a0:List ZT) (b0:List ZT) (i0:Int):Option ((Int×Unit) ⊕ Bool) :=
 if i0<(↑(List.length a0):Int) then
 (atI a0 i0).bind fun x0 =>
 (atI b0 i0).bind fun x1 =>
 (Zhc x0 x1).bind fun eqPort0 =>
 if eqPort0=true then
 some (.inl (IntKind.i64.wrap (i0+1),()))
 else
 some (.inr Bool.false)
 else
 some (.inr Bool.true)
def ZhU (a0:List ZT) (b0:List ZT):Option Bool :=
 if (↑(List.length a0):Int)=(↑(List.length b0):Int) then
 Zv (fun v=>ZnI a0 b0 v.1) ((0:Int),())
 else
 some Bool.false
def ZFB:Ctr:=D2 (.sl (Jf)) (.sl (Jf)) (.bool) ZhU
def ZgC (a0:Zb) (b0:Zb):Option Bool :=
 (Zda (Zb.Instances a0) (Zb.Instances b0)).bind fun eqInstanceS0 =>
 if eqInstanceS0=true then
 (Zfm (Zb.ZI a0) (Zb.ZI b0)).bind fun eqStringS0 =>
 if eqStringS0=true then
 (ZhU (Zb.ZK a0) (Zb.ZK b0)).bind fun eqPortS0 =>
 if eqPortS0=true then
 some Bool.true
 else
 some Bool.false
 else
 some Bool.false
 else
 some Bool.false
def ZGm:Ctr:=D2 (Yr) (Yr) (.bool) ZgC
def Zfa (a0:Zr) (b0:Zr):Option Bool :=
 (Xj (Zr.Parent a0) (Zr.Parent b0)).bind fun eqInt64S0 =>
 if eqInt64S0=true then
 (Xj (Zr.Res a0) (Zr.Res b0)).bind fun eqInt64S1 =>
 if eqInt64S1=true then
 (Xj (Zr.Cap a0) (Zr.Cap b0)).bind fun eqInt64S2 =>
 if eqInt64S2=true then
 (Xj (Zr.ZfR a0) (Zr.ZfR b0)).bind fun eqInt64S3 =>
 if eqInt64S3=true then
 some Bool.true
 else
 some Bool.false
 else
 some Bool.false
 else
 some Bool.false
 else
 some Bool.false
def ZDZ:Ctr:=D2 (XZ) (XZ) (.bool) Zfa
def Zno (a0:List Zr) (b0:List Zr) (i0:Int):Option ((Int×Unit) ⊕ Bool) :=
 if i0<(↑(List.length a0):Int) then
 (atI a0 i0).bind fun x0 =>
 (atI b0 i0).bind fun x1 =>
 (Zfa x0 x1).bind fun eqWire0 =>
 if eqWire0=true then
 some (.inl (IntKind.i64.wrap (i0+1),()))
 else
 some (.inr Bool.false)
 else
 some (.inr Bool.true)
def ZhM (a0:List Zr) (b0:List Zr):Option Bool :=
 if (↑(List.length a0):Int)=(↑(List.length b0):Int) then
 Zv (fun v=>Zno a0 b0 v.1) ((0:Int),())
 else
 some Bool.false
def ZEm:Ctr:=D2 (.sl (XZ)) (.sl (XZ)) (.bool) ZhM
def ZhN (a0:Za) (b0:Za):Option Bool :=
 (Zfc (Za.Library a0) (Za.Library b0)).bind fun eqLibrary0 =>
 if eqLibrary0=true then
 (ZgC (Za.Design a0) (Za.Design b0)).bind fun eqDesign0 =>
 if eqDesign0=true then
 (ZhM (Za.ZC a0) (Za.ZC b0)).bind fun eqWireS0 =>
 if eqWireS0=true then
 some Bool.true
 else
 some Bool.false
 else
 some Bool.false
 else
 some Bool.false
def ZGV:Ctr:=D2 (YB) (YB) (.bool) ZhN
def Zi0 (a0:Zk) (b0:Zk):Option Bool :=
 if Zk.Kind a0=Zk.Kind b0 then
 if Zk.Place a0=Zk.Place b0 then
 if Zk.Cell a0=Zk.Cell b0 then
 if Zk.Net a0=Zk.Net b0 then
 if Zk.Node a0=Zk.Node b0 then
 if Zk.Name a0=Zk.Name b0 then
 (Zfa (Zk.Ze1 a0) (Zk.Ze1 b0)).bind fun eqWire0 =>
 if eqWire0=true then
 some Bool.true
 else
 some Bool.false
 else
 some Bool.false
 else
 some Bool.false
 else
 some Bool.false
 else
 some Bool.false
 else
 some Bool.false
 else
 some Bool.false
def ZEj:Ctr:=D2 (Qv) (Qv) (.bool) Zi0
def Zds (k1:Int) (out0:List UInt8):Option ((Int×(List UInt8)×Unit) ⊕ List UInt8) :=
 if 0<k1 then
 Zw ((↑(List.length (bytesOf [IntKind.wrap IntKind.u8 (IntKind.i64.wrap ((48:Int)+Int.tmod k1 (10:Int)))])):Int)+(↑(List.length out0):Int)≤(9223372036854775807:Int)) <|
 some (.inl (IntKind.i64.wrap (Int.tdiv k1 (10:Int)),bytesOf [IntKind.wrap IntKind.u8 (IntKind.i64.wrap ((48:Int)+Int.tmod k1 (10:Int)))]++out0,()))
 else
 Zw ((↑(List.length [(109:UInt8)]):Int)+(↑(List.length out0):Int)≤(9223372036854775807:Int)) <|
 some (.inr ([(109:UInt8)]++out0))
def Xz (k0:Int):Option (List UInt8) :=
 if k0≤0 then
 some ([(109:UInt8),(48:UInt8)])
 else
 Zv (fun v=>Zds v.1 v.2.1) (k0,([]:List UInt8),())
def Zxw:Ctr:=D1 (.int .i64) (.str) Xz
def ZdA (k1:Int) (i0:Int) (l0:List YE):Option ((Int×Int×(List YE)×Unit) ⊕ (Int×(List YE))) :=
 if i0<(↑(List.length l0):Int) then
 (Xz k1).bind fun markText0 =>
 (atI l0 i0).bind fun x0 =>
 (atI (List.set l0 (Int.toNat i0) (markText0,x0.snd)) i0).bind fun x1 =>
 (atI (List.set (List.set l0 (Int.toNat i0) (markText0,x0.snd)) (Int.toNat i0) (YE.Name x1,IntKind.i64.wrap (k1+1),x1.snd.snd)) i0).bind fun x2 =>
 (atI (List.set (List.set (List.set l0 (Int.toNat i0) (markText0,x0.snd)) (Int.toNat i0) (YE.Name x1,IntKind.i64.wrap (k1+1),x1.snd.snd)) (Int.toNat i0) (YE.Name x2,YE.Dir x2,IntKind.i64.wrap (IntKind.i64.wrap (k1+1)+1),x2.snd.snd.snd)) i0).bind fun x3 =>
 some (.inl (IntKind.i64.wrap (IntKind.i64.wrap (IntKind.i64.wrap (IntKind.i64.wrap (k1+1)+1)+1)+1),IntKind.i64.wrap (i0+1),List.set (List.set (List.set (List.set l0 (Int.toNat i0) (markText0,x0.snd)) (Int.toNat i0) (YE.Name x1,IntKind.i64.wrap (k1+1),x1.snd.snd)) (Int.toNat i0) (YE.Name x2,YE.Dir x2,IntKind.i64.wrap (IntKind.i64.wrap (k1+1)+1),x2.snd.snd.snd)) (Int.toNat i0) (YE.Name x3,YE.Dir x3,YE.Cap x3,Decidable.decide (Int.tmod (IntKind.i64.wrap (IntKind.i64.wrap (IntKind.i64.wrap (k1+1)+1)+1)) 3=0),()),()))
 else
 some (.inr (k1,l0))
def Zgo (a0:List YE) (k0:Int):Option (Int×(List YE)) :=
 Zv (fun v=>ZdA v.1 v.2.1 v.2.2.1) (k0,(0:Int),a0,())
def ZEG:Ctr:=⟨[.back (.ol 274 (.flat (ZdU))),.dat (.int .i64)],[.dat (.int .i64)],fun a K=>splitK a fun a0 a=>splitK a fun k0 a=>YA (Zgo a0 k0) fun r=>K (r.1,()) (r.2,())⟩
def QY (k1:Int) (i0:Int) (l0:List Int):Option ((Int×Int×(List Int)×Unit) ⊕ (Int×(List Int))) :=
 if i0<(↑(List.length l0):Int) then
 (atI l0 i0).bind fun x0 =>
 some (.inl (IntKind.i64.wrap (k1+1),IntKind.i64.wrap (i0+1),List.set l0 (Int.toNat i0) k1,()))
 else
 some (.inr (k1,l0))
def Yh (a0:List Int) (k0:Int):Option (Int×(List Int)) :=
 Zv (fun v=>QY v.1 v.2.1 v.2.2.1) (k0,(0:Int),a0,())
def ZA9:Ctr:=⟨[.back (.ol 2 (.flat (.int .i64))),.dat (.int .i64)],[.dat (.int .i64)],fun a K=>splitK a fun a0 a=>splitK a fun k0 a=>YA (Yh a0 k0) fun r=>K (r.1,()) (r.2,())⟩
def ZbT (k1:Int) (i0:Int) (l0:List (List Int×List Int×List Int×Unit)):Option ((Int×Int×(List (List Int×List Int×List Int×Unit))×Unit) ⊕ (Int×(List ZB))) :=
 if i0<(↑(List.length l0):Int) then
 (atI l0 i0).bind fun x0 =>
 (Yh x0.fst k1).bind fun markInt64S0 =>
 (Yh x0.snd.fst markInt64S0.fst).bind fun markInt64S1 =>
 (Yh x0.snd.snd.fst markInt64S1.fst).bind fun markInt64S2 =>
 some (.inl (markInt64S2.fst,IntKind.i64.wrap (i0+1),List.set l0 (Int.toNat i0) (markInt64S0.snd,markInt64S1.snd,markInt64S2.snd,()),()))
 else
 some (.inr (k1,l0))
def Zb1 (a0:List ZB) (k0:Int):Option (Int×(List ZB)) :=
 Zv (fun v=>ZbT v.1 v.2.1 v.2.2.1) (k0,(0:Int),a0,())
def ZE3:Ctr:=⟨[.back (.ol 337 (ZfI)),.dat (.int .i64)],[.dat (.int .i64)],fun a K=>splitK a fun a0 a=>splitK a fun k0 a=>YA (Zb1 a0 k0) fun r=>K (r.1,()) (r.2,())⟩
def ZdG (k1:Int) (i0:Int) (l0:List (Int×Int×Int×Int×List ZB×List ZB×Unit)):Option ((Int×Int×(List (Int×Int×Int×Int×List ZB×List ZB×Unit))×Unit) ⊕ (Int×(List ZH))) :=
 if i0<(↑(List.length l0):Int) then
 (atI l0 i0).bind fun x0 =>
 (Zb1 x0.snd.snd.snd.snd.fst (IntKind.i64.wrap (IntKind.i64.wrap (IntKind.i64.wrap (IntKind.i64.wrap (k1+1)+1)+1)+1))).bind fun markTableS0 =>
 (Zb1 x0.snd.snd.snd.snd.snd.fst markTableS0.fst).bind fun markTableS1 =>
 some (.inl (markTableS1.fst,IntKind.i64.wrap (i0+1),List.set l0 (Int.toNat i0) (k1,IntKind.i64.wrap (k1+1),IntKind.i64.wrap (IntKind.i64.wrap (k1+1)+1),IntKind.i64.wrap (IntKind.i64.wrap (IntKind.i64.wrap (k1+1)+1)+1),markTableS0.snd,markTableS1.snd,()),()))
 else
 some (.inr (k1,l0))
def Zgg (a0:List ZH) (k0:Int):Option (Int×(List ZH)) :=
 Zv (fun v=>ZdG v.1 v.2.1 v.2.2.1) (k0,(0:Int),a0,())
def ZGK:Ctr:=⟨[.back (.ol 292 (Zxk)),.dat (.int .i64)],[.dat (.int .i64)],fun a K=>splitK a fun a0 a=>splitK a fun k0 a=>YA (Zgg a0 k0) fun r=>K (r.1,()) (r.2,())⟩
def ZcK (k1:Int) (i0:Int) (l0:List (List UInt8×Int×List YE×List ZH×List Int×Int×Int×Unit)):Option ((Int×Int×(List (List UInt8×Int×List YE×List ZH×List Int×Int×Int×Unit))×Unit) ⊕ (Int×(List Zm))) :=
 if i0<(↑(List.length l0):Int) then
 (Xz k1).bind fun markText0 =>
 (atI l0 i0).bind fun x0 =>
 (Zgo x0.snd.snd.fst (IntKind.i64.wrap (IntKind.i64.wrap (k1+1)+1))).bind fun markPinS0 =>
 (Zgg x0.snd.snd.snd.fst markPinS0.fst).bind fun markArcS0 =>
 (Yh x0.snd.snd.snd.snd.fst markArcS0.fst).bind fun markInt64S0 =>
 some (.inl (IntKind.i64.wrap (IntKind.i64.wrap (markInt64S0.fst+1)+1),IntKind.i64.wrap (i0+1),List.set l0 (Int.toNat i0) (markText0,IntKind.i64.wrap (k1+1),markPinS0.snd,markArcS0.snd,markInt64S0.snd,markInt64S0.fst,IntKind.i64.wrap (markInt64S0.fst+1),()),()))
 else
 some (.inr (k1,l0))
def Zfj (a0:List Zm) (k0:Int):Option (Int×(List Zm)) :=
 Zv (fun v=>ZcK v.1 v.2.1 v.2.2.1) (k0,(0:Int),a0,())
def ZEB:Ctr:=⟨[.back (.ol 208 (Zps)),.dat (.int .i64)],[.dat (.int .i64)],fun a K=>splitK a fun a0 a=>splitK a fun k0 a=>YA (Zfj a0 k0) fun r=>K (r.1,()) (r.2,())⟩
def Zdg (a0:Zp) (k0:Int):Option (Int×Zp) :=
 (Zfj (Zp.Cells a0) k0).bind fun markCellS0 =>
 some (markCellS0.fst,(markCellS0.snd,()))
def ZEf:Ctr:=⟨[.back (ZnB),.dat (.int .i64)],[.dat (.int .i64)],fun a K=>splitK a fun a0 a=>splitK a fun k0 a=>YA (Zdg a0 k0) fun r=>K (r.1,()) (r.2,())⟩
def Zas (k1:Int) (i0:Int) (l0:List (List UInt8×Int×List Int×Unit)):Option ((Int×Int×(List (List UInt8×Int×List Int×Unit))×Unit) ⊕ (Int×(List Ze))) :=
 if i0<(↑(List.length l0):Int) then
 (Xz k1).bind fun markText0 =>
 (atI l0 i0).bind fun x0 =>
 (Yh x0.snd.snd.fst (IntKind.i64.wrap (IntKind.i64.wrap (k1+1)+1))).bind fun markInt64S0 =>
 some (.inl (markInt64S0.fst,IntKind.i64.wrap (i0+1),List.set l0 (Int.toNat i0) (markText0,IntKind.i64.wrap (k1+1),markInt64S0.snd,()),()))
 else
 some (.inr (k1,l0))
def ZbI (a0:List Ze) (k0:Int):Option (Int×(List Ze)) :=
 Zv (fun v=>Zas v.1 v.2.1 v.2.2.1) (k0,(0:Int),a0,())
def ZFg:Ctr:=⟨[.back (.ol 147 (Zcf)),.dat (.int .i64)],[.dat (.int .i64)],fun a K=>splitK a fun a0 a=>splitK a fun k0 a=>YA (ZbI a0 k0) fun r=>K (r.1,()) (r.2,())⟩
def Zbz (k1:Int) (i0:Int) (l0:List (List UInt8)):Option ((Int×Int×(List (List UInt8))×Unit) ⊕ (Int×(List (List UInt8)))) :=
 if i0<(↑(List.length l0):Int) then
 (Xz k1).bind fun markText0 =>
 (atI l0 i0).bind fun x0 =>
 some (.inl (IntKind.i64.wrap (k1+1),IntKind.i64.wrap (i0+1),List.set l0 (Int.toNat i0) markText0,()))
 else
 some (.inr (k1,l0))
def Zdh (a0:List (List UInt8)) (k0:Int):Option (Int×(List (List UInt8))) :=
 Zv (fun v=>Zbz v.1 v.2.1 v.2.2.1) (k0,(0:Int),a0,())
def ZFo:Ctr:=⟨[.back (.ol 9 (.flat (.str))),.dat (.int .i64)],[.dat (.int .i64)],fun a K=>splitK a fun a0 a=>splitK a fun k0 a=>YA (Zdh a0 k0) fun r=>K (r.1,()) (r.2,())⟩
def ZcL (k1:Int) (i0:Int) (l0:List ZT):Option ((Int×Int×(List ZT)×Unit) ⊕ (Int×(List ZT))) :=
 if i0<(↑(List.length l0):Int) then
 (Xz k1).bind fun markText0 =>
 (atI l0 i0).bind fun x0 =>
 (atI (List.set l0 (Int.toNat i0) (markText0,x0.snd)) i0).bind fun x1 =>
 (atI (List.set (List.set l0 (Int.toNat i0) (markText0,x0.snd)) (Int.toNat i0) (ZT.Name x1,IntKind.i64.wrap (k1+1),x1.snd.snd)) i0).bind fun x2 =>
 some (.inl (IntKind.i64.wrap (IntKind.i64.wrap (IntKind.i64.wrap (k1+1)+1)+1),IntKind.i64.wrap (i0+1),List.set (List.set (List.set l0 (Int.toNat i0) (markText0,x0.snd)) (Int.toNat i0) (ZT.Name x1,IntKind.i64.wrap (k1+1),x1.snd.snd)) (Int.toNat i0) (ZT.Name x2,ZT.Dir x2,IntKind.i64.wrap (IntKind.i64.wrap (k1+1)+1),()),()))
 else
 some (.inr (k1,l0))
def Zfn (a0:List ZT) (k0:Int):Option (Int×(List ZT)) :=
 Zv (fun v=>ZcL v.1 v.2.1 v.2.2.1) (k0,(0:Int),a0,())
def ZGc:Ctr:=⟨[.back (.ol 217 (.flat (Jf))),.dat (.int .i64)],[.dat (.int .i64)],fun a K=>splitK a fun a0 a=>splitK a fun k0 a=>YA (Zfn a0 k0) fun r=>K (r.1,()) (r.2,())⟩
def Zel (a0:Zb) (k0:Int):Option (Int×Zb) :=
 (ZbI (Zb.Instances a0) k0).bind fun markInstanceS0 =>
 (Zdh (Zb.ZI a0) markInstanceS0.fst).bind fun markStringS0 =>
 (Zfn (Zb.ZK a0) markStringS0.fst).bind fun markPortS0 =>
 some (markPortS0.fst,(markInstanceS0.snd,markStringS0.snd,markPortS0.snd,()))
def ZFL:Ctr:=⟨[.back (ZnR),.dat (.int .i64)],[.dat (.int .i64)],fun a K=>splitK a fun a0 a=>splitK a fun k0 a=>YA (Zel a0 k0) fun r=>K (r.1,()) (r.2,())⟩
def ZcQ (k1:Int) (i0:Int) (l0:List (List Int×List Int×List Int×List Int×Unit)):Option ((Int×Int×(List (List Int×List Int×List Int×List Int×Unit))×Unit) ⊕ (Int×(List Zr))) :=
 if i0<(↑(List.length l0):Int) then
 (atI l0 i0).bind fun x0 =>
 (Yh x0.fst k1).bind fun markInt64S0 =>
 (Yh x0.snd.fst markInt64S0.fst).bind fun markInt64S1 =>
 (Yh x0.snd.snd.fst markInt64S1.fst).bind fun markInt64S2 =>
 (Yh x0.snd.snd.snd.fst markInt64S2.fst).bind fun markInt64S3 =>
 some (.inl (markInt64S3.fst,IntKind.i64.wrap (i0+1),List.set l0 (Int.toNat i0) (markInt64S0.snd,markInt64S1.snd,markInt64S2.snd,markInt64S3.snd,()),()))
 else
 some (.inr (k1,l0))
def Zfv (a0:List Zr) (k0:Int):Option (Int×(List Zr)) :=
 Zv (fun v=>ZcQ v.1 v.2.1 v.2.2.1) (k0,(0:Int),a0,())
def ZGN:Ctr:=⟨[.back (.ol 66 (Zlc)),.dat (.int .i64)],[.dat (.int .i64)],fun a K=>splitK a fun a0 a=>splitK a fun k0 a=>YA (Zfv a0 k0) fun r=>K (r.1,()) (r.2,())⟩
def Zff (a0:Za) (k0:Int):Option (Int×Za) :=
 (Zdg (Za.Library a0) k0).bind fun markLibrary0 =>
 (Zel (Za.Design a0) markLibrary0.fst).bind fun markDesign0 =>
 (Zfv (Za.ZC a0) markDesign0.fst).bind fun markWireS0 =>
 some (markWireS0.fst,(markLibrary0.snd,markDesign0.snd,markWireS0.snd,()))
def ZFl:Ctr:=⟨[.back (Zfy),.dat (.int .i64)],[.dat (.int .i64)],fun a K=>splitK a fun a0 a=>splitK a fun k0 a=>YA (Zff a0 k0) fun r=>K (r.1,()) (r.2,())⟩
def Zf9 (a0:Zr) (k0:Int):Option (Int×Zr) :=
 (Yh (Zr.Parent a0) k0).bind fun markInt64S0 =>
 (Yh (Zr.Res a0) markInt64S0.fst).bind fun markInt64S1 =>
 (Yh (Zr.Cap a0) markInt64S1.fst).bind fun markInt64S2 =>
 (Yh (Zr.ZfR a0) markInt64S2.fst).bind fun markInt64S3 =>
 some (markInt64S3.fst,(markInt64S0.snd,markInt64S1.snd,markInt64S2.snd,markInt64S3.snd,()))
def ZGe:Ctr:=⟨[.back (Zlc),.dat (.int .i64)],[.dat (.int .i64)],fun a K=>splitK a fun a0 a=>splitK a fun k0 a=>YA (Zf9 a0 k0) fun r=>K (r.1,()) (r.2,())⟩
def Zgu (a0:Zk) (k0:Int):Option (Int×Zk) :=
 (Zf9 (Zk.Ze1 a0) k0).bind fun markWire0 =>
 some (markWire0.fst,(Zk.Kind a0,Zk.Place a0,Zk.Cell a0,Zk.Net a0,Zk.Node a0,Zk.Name a0,markWire0.snd,()))
def ZD6:Ctr:=⟨[.back (ZCs),.dat (.int .i64)],[.dat (.int .i64)],fun a K=>splitK a fun a0 a=>splitK a fun k0 a=>YA (Zgu a0 k0) fun r=>K (r.1,()) (r.2,())⟩
def Zca (v0:Int) (v1:Int) (l0:List Zf):Option ((Int×Int×(List Zf)×Unit) ⊕ (Int×(List Zf))) :=
 if v1<(↑(List.length l0):Int) then
 (Xz v0).bind fun markText0 =>
 (atI l0 v1).bind fun x0 =>
 (atI (List.set l0 (Int.toNat v1) (markText0,x0.snd)) v1).bind fun x1 =>
 (atI (List.set (List.set l0 (Int.toNat v1) (markText0,x0.snd)) (Int.toNat v1) (Zf.Name x1,IntKind.i64.wrap (v0+1),x1.snd.snd)) v1).bind fun x2 =>
 (atI (List.set (List.set (List.set l0 (Int.toNat v1) (markText0,x0.snd)) (Int.toNat v1) (Zf.Name x1,IntKind.i64.wrap (v0+1),x1.snd.snd)) (Int.toNat v1) (Zf.Name x2,Zf.Place x2,IntKind.i64.wrap (IntKind.i64.wrap (v0+1)+1),x2.snd.snd.snd)) v1).bind fun x3 =>
 (atI (List.set (List.set (List.set (List.set l0 (Int.toNat v1) (markText0,x0.snd)) (Int.toNat v1) (Zf.Name x1,IntKind.i64.wrap (v0+1),x1.snd.snd)) (Int.toNat v1) (Zf.Name x2,Zf.Place x2,IntKind.i64.wrap (IntKind.i64.wrap (v0+1)+1),x2.snd.snd.snd)) (Int.toNat v1) (Zf.Name x3,Zf.Place x3,Zf.Y3 x3,IntKind.i64.wrap (IntKind.i64.wrap (IntKind.i64.wrap (v0+1)+1)+1),x3.snd.snd.snd.snd)) v1).bind fun x4 =>
 (atI (List.set (List.set (List.set (List.set (List.set l0 (Int.toNat v1) (markText0,x0.snd)) (Int.toNat v1) (Zf.Name x1,IntKind.i64.wrap (v0+1),x1.snd.snd)) (Int.toNat v1) (Zf.Name x2,Zf.Place x2,IntKind.i64.wrap (IntKind.i64.wrap (v0+1)+1),x2.snd.snd.snd)) (Int.toNat v1) (Zf.Name x3,Zf.Place x3,Zf.Y3 x3,IntKind.i64.wrap (IntKind.i64.wrap (IntKind.i64.wrap (v0+1)+1)+1),x3.snd.snd.snd.snd)) (Int.toNat v1) (Zf.Name x4,Zf.Place x4,Zf.Y3 x4,Zf.XB x4,IntKind.i64.wrap (IntKind.i64.wrap (IntKind.i64.wrap (IntKind.i64.wrap (v0+1)+1)+1)+1),x4.snd.snd.snd.snd.snd)) v1).bind fun x5 =>
 (atI (List.set (List.set (List.set (List.set (List.set (List.set l0 (Int.toNat v1) (markText0,x0.snd)) (Int.toNat v1) (Zf.Name x1,IntKind.i64.wrap (v0+1),x1.snd.snd)) (Int.toNat v1) (Zf.Name x2,Zf.Place x2,IntKind.i64.wrap (IntKind.i64.wrap (v0+1)+1),x2.snd.snd.snd)) (Int.toNat v1) (Zf.Name x3,Zf.Place x3,Zf.Y3 x3,IntKind.i64.wrap (IntKind.i64.wrap (IntKind.i64.wrap (v0+1)+1)+1),x3.snd.snd.snd.snd)) (Int.toNat v1) (Zf.Name x4,Zf.Place x4,Zf.Y3 x4,Zf.XB x4,IntKind.i64.wrap (IntKind.i64.wrap (IntKind.i64.wrap (IntKind.i64.wrap (v0+1)+1)+1)+1),x4.snd.snd.snd.snd.snd)) (Int.toNat v1) (Zf.Name x5,Zf.Place x5,Zf.Y3 x5,Zf.XB x5,Zf.X9 x5,IntKind.i64.wrap (IntKind.i64.wrap (IntKind.i64.wrap (IntKind.i64.wrap (IntKind.i64.wrap (v0+1)+1)+1)+1)+1),x5.snd.snd.snd.snd.snd.snd)) v1).bind fun x6 =>
 (atI (List.set (List.set (List.set (List.set (List.set (List.set (List.set l0 (Int.toNat v1) (markText0,x0.snd)) (Int.toNat v1) (Zf.Name x1,IntKind.i64.wrap (v0+1),x1.snd.snd)) (Int.toNat v1) (Zf.Name x2,Zf.Place x2,IntKind.i64.wrap (IntKind.i64.wrap (v0+1)+1),x2.snd.snd.snd)) (Int.toNat v1) (Zf.Name x3,Zf.Place x3,Zf.Y3 x3,IntKind.i64.wrap (IntKind.i64.wrap (IntKind.i64.wrap (v0+1)+1)+1),x3.snd.snd.snd.snd)) (Int.toNat v1) (Zf.Name x4,Zf.Place x4,Zf.Y3 x4,Zf.XB x4,IntKind.i64.wrap (IntKind.i64.wrap (IntKind.i64.wrap (IntKind.i64.wrap (v0+1)+1)+1)+1),x4.snd.snd.snd.snd.snd)) (Int.toNat v1) (Zf.Name x5,Zf.Place x5,Zf.Y3 x5,Zf.XB x5,Zf.X9 x5,IntKind.i64.wrap (IntKind.i64.wrap (IntKind.i64.wrap (IntKind.i64.wrap (IntKind.i64.wrap (v0+1)+1)+1)+1)+1),x5.snd.snd.snd.snd.snd.snd)) (Int.toNat v1) (Zf.Name x6,Zf.Place x6,Zf.Y3 x6,Zf.XB x6,Zf.X9 x6,Zf.Source x6,IntKind.i64.wrap (IntKind.i64.wrap (IntKind.i64.wrap (IntKind.i64.wrap (IntKind.i64.wrap (IntKind.i64.wrap (v0+1)+1)+1)+1)+1)+1),x6.snd.snd.snd.snd.snd.snd.snd)) v1).bind fun x7 =>
 (atI (List.set (List.set (List.set (List.set (List.set (List.set (List.set (List.set l0 (Int.toNat v1) (markText0,x0.snd)) (Int.toNat v1) (Zf.Name x1,IntKind.i64.wrap (v0+1),x1.snd.snd)) (Int.toNat v1) (Zf.Name x2,Zf.Place x2,IntKind.i64.wrap (IntKind.i64.wrap (v0+1)+1),x2.snd.snd.snd)) (Int.toNat v1) (Zf.Name x3,Zf.Place x3,Zf.Y3 x3,IntKind.i64.wrap (IntKind.i64.wrap (IntKind.i64.wrap (v0+1)+1)+1),x3.snd.snd.snd.snd)) (Int.toNat v1) (Zf.Name x4,Zf.Place x4,Zf.Y3 x4,Zf.XB x4,IntKind.i64.wrap (IntKind.i64.wrap (IntKind.i64.wrap (IntKind.i64.wrap (v0+1)+1)+1)+1),x4.snd.snd.snd.snd.snd)) (Int.toNat v1) (Zf.Name x5,Zf.Place x5,Zf.Y3 x5,Zf.XB x5,Zf.X9 x5,IntKind.i64.wrap (IntKind.i64.wrap (IntKind.i64.wrap (IntKind.i64.wrap (IntKind.i64.wrap (v0+1)+1)+1)+1)+1),x5.snd.snd.snd.snd.snd.snd)) (Int.toNat v1) (Zf.Name x6,Zf.Place x6,Zf.Y3 x6,Zf.XB x6,Zf.X9 x6,Zf.Source x6,IntKind.i64.wrap (IntKind.i64.wrap (IntKind.i64.wrap (IntKind.i64.wrap (IntKind.i64.wrap (IntKind.i64.wrap (v0+1)+1)+1)+1)+1)+1),x6.snd.snd.snd.snd.snd.snd.snd)) (Int.toNat v1) (Zf.Name x7,Zf.Place x7,Zf.Y3 x7,Zf.XB x7,Zf.X9 x7,Zf.Source x7,Zf.Divide x7,Decidable.decide (Int.tmod (IntKind.i64.wrap (IntKind.i64.wrap (IntKind.i64.wrap (IntKind.i64.wrap (IntKind.i64.wrap (IntKind.i64.wrap (IntKind.i64.wrap (v0+1)+1)+1)+1)+1)+1)+1)) 3=0),x7.snd.snd.snd.snd.snd.snd.snd.snd)) v1).bind fun x8 =>
 (atI (List.set (List.set (List.set (List.set (List.set (List.set (List.set (List.set (List.set l0 (Int.toNat v1) (markText0,x0.snd)) (Int.toNat v1) (Zf.Name x1,IntKind.i64.wrap (v0+1),x1.snd.snd)) (Int.toNat v1) (Zf.Name x2,Zf.Place x2,IntKind.i64.wrap (IntKind.i64.wrap (v0+1)+1),x2.snd.snd.snd)) (Int.toNat v1) (Zf.Name x3,Zf.Place x3,Zf.Y3 x3,IntKind.i64.wrap (IntKind.i64.wrap (IntKind.i64.wrap (v0+1)+1)+1),x3.snd.snd.snd.snd)) (Int.toNat v1) (Zf.Name x4,Zf.Place x4,Zf.Y3 x4,Zf.XB x4,IntKind.i64.wrap (IntKind.i64.wrap (IntKind.i64.wrap (IntKind.i64.wrap (v0+1)+1)+1)+1),x4.snd.snd.snd.snd.snd)) (Int.toNat v1) (Zf.Name x5,Zf.Place x5,Zf.Y3 x5,Zf.XB x5,Zf.X9 x5,IntKind.i64.wrap (IntKind.i64.wrap (IntKind.i64.wrap (IntKind.i64.wrap (IntKind.i64.wrap (v0+1)+1)+1)+1)+1),x5.snd.snd.snd.snd.snd.snd)) (Int.toNat v1) (Zf.Name x6,Zf.Place x6,Zf.Y3 x6,Zf.XB x6,Zf.X9 x6,Zf.Source x6,IntKind.i64.wrap (IntKind.i64.wrap (IntKind.i64.wrap (IntKind.i64.wrap (IntKind.i64.wrap (IntKind.i64.wrap (v0+1)+1)+1)+1)+1)+1),x6.snd.snd.snd.snd.snd.snd.snd)) (Int.toNat v1) (Zf.Name x7,Zf.Place x7,Zf.Y3 x7,Zf.XB x7,Zf.X9 x7,Zf.Source x7,Zf.Divide x7,Decidable.decide (Int.tmod (IntKind.i64.wrap (IntKind.i64.wrap (IntKind.i64.wrap (IntKind.i64.wrap (IntKind.i64.wrap (IntKind.i64.wrap (IntKind.i64.wrap (v0+1)+1)+1)+1)+1)+1)+1)) 3=0),x7.snd.snd.snd.snd.snd.snd.snd.snd)) (Int.toNat v1) (Zf.Name x8,Zf.Place x8,Zf.Y3 x8,Zf.XB x8,Zf.X9 x8,Zf.Source x8,Zf.Divide x8,Zf.ZeJ x8,IntKind.i64.wrap (IntKind.i64.wrap (IntKind.i64.wrap (IntKind.i64.wrap (IntKind.i64.wrap (IntKind.i64.wrap (IntKind.i64.wrap (IntKind.i64.wrap (v0+1)+1)+1)+1)+1)+1)+1)+1),x8.snd.snd.snd.snd.snd.snd.snd.snd.snd)) v1).bind fun x9 =>
 (atI (List.set (List.set (List.set (List.set (List.set (List.set (List.set (List.set (List.set (List.set l0 (Int.toNat v1) (markText0,x0.snd)) (Int.toNat v1) (Zf.Name x1,IntKind.i64.wrap (v0+1),x1.snd.snd)) (Int.toNat v1) (Zf.Name x2,Zf.Place x2,IntKind.i64.wrap (IntKind.i64.wrap (v0+1)+1),x2.snd.snd.snd)) (Int.toNat v1) (Zf.Name x3,Zf.Place x3,Zf.Y3 x3,IntKind.i64.wrap (IntKind.i64.wrap (IntKind.i64.wrap (v0+1)+1)+1),x3.snd.snd.snd.snd)) (Int.toNat v1) (Zf.Name x4,Zf.Place x4,Zf.Y3 x4,Zf.XB x4,IntKind.i64.wrap (IntKind.i64.wrap (IntKind.i64.wrap (IntKind.i64.wrap (v0+1)+1)+1)+1),x4.snd.snd.snd.snd.snd)) (Int.toNat v1) (Zf.Name x5,Zf.Place x5,Zf.Y3 x5,Zf.XB x5,Zf.X9 x5,IntKind.i64.wrap (IntKind.i64.wrap (IntKind.i64.wrap (IntKind.i64.wrap (IntKind.i64.wrap (v0+1)+1)+1)+1)+1),x5.snd.snd.snd.snd.snd.snd)) (Int.toNat v1) (Zf.Name x6,Zf.Place x6,Zf.Y3 x6,Zf.XB x6,Zf.X9 x6,Zf.Source x6,IntKind.i64.wrap (IntKind.i64.wrap (IntKind.i64.wrap (IntKind.i64.wrap (IntKind.i64.wrap (IntKind.i64.wrap (v0+1)+1)+1)+1)+1)+1),x6.snd.snd.snd.snd.snd.snd.snd)) (Int.toNat v1) (Zf.Name x7,Zf.Place x7,Zf.Y3 x7,Zf.XB x7,Zf.X9 x7,Zf.Source x7,Zf.Divide x7,Decidable.decide (Int.tmod (IntKind.i64.wrap (IntKind.i64.wrap (IntKind.i64.wrap (IntKind.i64.wrap (IntKind.i64.wrap (IntKind.i64.wrap (IntKind.i64.wrap (v0+1)+1)+1)+1)+1)+1)+1)) 3=0),x7.snd.snd.snd.snd.snd.snd.snd.snd)) (Int.toNat v1) (Zf.Name x8,Zf.Place x8,Zf.Y3 x8,Zf.XB x8,Zf.X9 x8,Zf.Source x8,Zf.Divide x8,Zf.ZeJ x8,IntKind.i64.wrap (IntKind.i64.wrap (IntKind.i64.wrap (IntKind.i64.wrap (IntKind.i64.wrap (IntKind.i64.wrap (IntKind.i64.wrap (IntKind.i64.wrap (v0+1)+1)+1)+1)+1)+1)+1)+1),x8.snd.snd.snd.snd.snd.snd.snd.snd.snd)) (Int.toNat v1) (Zf.Name x9,Zf.Place x9,Zf.Y3 x9,Zf.XB x9,Zf.X9 x9,Zf.Source x9,Zf.Divide x9,Zf.ZeJ x9,Zf.Y9 x9,IntKind.i64.wrap (IntKind.i64.wrap (IntKind.i64.wrap (IntKind.i64.wrap (IntKind.i64.wrap (IntKind.i64.wrap (IntKind.i64.wrap (IntKind.i64.wrap (IntKind.i64.wrap (v0+1)+1)+1)+1)+1)+1)+1)+1)+1),x9.snd.snd.snd.snd.snd.snd.snd.snd.snd.snd)) v1).bind fun x10 =>
 some (.inl (IntKind.i64.wrap (IntKind.i64.wrap (IntKind.i64.wrap (IntKind.i64.wrap (IntKind.i64.wrap (IntKind.i64.wrap (IntKind.i64.wrap (IntKind.i64.wrap (IntKind.i64.wrap (IntKind.i64.wrap (IntKind.i64.wrap (v0+1)+1)+1)+1)+1)+1)+1)+1)+1)+1)+1),IntKind.i64.wrap (v1+1),List.set (List.set (List.set (List.set (List.set (List.set (List.set (List.set (List.set (List.set (List.set l0 (Int.toNat v1) (markText0,x0.snd)) (Int.toNat v1) (Zf.Name x1,IntKind.i64.wrap (v0+1),x1.snd.snd)) (Int.toNat v1) (Zf.Name x2,Zf.Place x2,IntKind.i64.wrap (IntKind.i64.wrap (v0+1)+1),x2.snd.snd.snd)) (Int.toNat v1) (Zf.Name x3,Zf.Place x3,Zf.Y3 x3,IntKind.i64.wrap (IntKind.i64.wrap (IntKind.i64.wrap (v0+1)+1)+1),x3.snd.snd.snd.snd)) (Int.toNat v1) (Zf.Name x4,Zf.Place x4,Zf.Y3 x4,Zf.XB x4,IntKind.i64.wrap (IntKind.i64.wrap (IntKind.i64.wrap (IntKind.i64.wrap (v0+1)+1)+1)+1),x4.snd.snd.snd.snd.snd)) (Int.toNat v1) (Zf.Name x5,Zf.Place x5,Zf.Y3 x5,Zf.XB x5,Zf.X9 x5,IntKind.i64.wrap (IntKind.i64.wrap (IntKind.i64.wrap (IntKind.i64.wrap (IntKind.i64.wrap (v0+1)+1)+1)+1)+1),x5.snd.snd.snd.snd.snd.snd)) (Int.toNat v1) (Zf.Name x6,Zf.Place x6,Zf.Y3 x6,Zf.XB x6,Zf.X9 x6,Zf.Source x6,IntKind.i64.wrap (IntKind.i64.wrap (IntKind.i64.wrap (IntKind.i64.wrap (IntKind.i64.wrap (IntKind.i64.wrap (v0+1)+1)+1)+1)+1)+1),x6.snd.snd.snd.snd.snd.snd.snd)) (Int.toNat v1) (Zf.Name x7,Zf.Place x7,Zf.Y3 x7,Zf.XB x7,Zf.X9 x7,Zf.Source x7,Zf.Divide x7,Decidable.decide (Int.tmod (IntKind.i64.wrap (IntKind.i64.wrap (IntKind.i64.wrap (IntKind.i64.wrap (IntKind.i64.wrap (IntKind.i64.wrap (IntKind.i64.wrap (v0+1)+1)+1)+1)+1)+1)+1)) 3=0),x7.snd.snd.snd.snd.snd.snd.snd.snd)) (Int.toNat v1) (Zf.Name x8,Zf.Place x8,Zf.Y3 x8,Zf.XB x8,Zf.X9 x8,Zf.Source x8,Zf.Divide x8,Zf.ZeJ x8,IntKind.i64.wrap (IntKind.i64.wrap (IntKind.i64.wrap (IntKind.i64.wrap (IntKind.i64.wrap (IntKind.i64.wrap (IntKind.i64.wrap (IntKind.i64.wrap (v0+1)+1)+1)+1)+1)+1)+1)+1),x8.snd.snd.snd.snd.snd.snd.snd.snd.snd)) (Int.toNat v1) (Zf.Name x9,Zf.Place x9,Zf.Y3 x9,Zf.XB x9,Zf.X9 x9,Zf.Source x9,Zf.Divide x9,Zf.ZeJ x9,Zf.Y9 x9,IntKind.i64.wrap (IntKind.i64.wrap (IntKind.i64.wrap (IntKind.i64.wrap (IntKind.i64.wrap (IntKind.i64.wrap (IntKind.i64.wrap (IntKind.i64.wrap (IntKind.i64.wrap (v0+1)+1)+1)+1)+1)+1)+1)+1)+1),x9.snd.snd.snd.snd.snd.snd.snd.snd.snd.snd)) (Int.toNat v1) (Zf.Name x10,Zf.Place x10,Zf.Y3 x10,Zf.XB x10,Zf.X9 x10,Zf.Source x10,Zf.Divide x10,Zf.ZeJ x10,Zf.Y9 x10,Zf.Qj x10,IntKind.i64.wrap (IntKind.i64.wrap (IntKind.i64.wrap (IntKind.i64.wrap (IntKind.i64.wrap (IntKind.i64.wrap (IntKind.i64.wrap (IntKind.i64.wrap (IntKind.i64.wrap (IntKind.i64.wrap (v0+1)+1)+1)+1)+1)+1)+1)+1)+1)+1),()),()))
 else
 some (.inr (v0,l0))
def Zd9 (a0:List Zf) (a1:Int):Option (Int×(List Zf)) :=
 Zv (fun v=>Zca v.1 v.2.1 v.2.2.1) (a1,(0:Int),a0,())
def ZEX:Ctr:=⟨[.back (.ol 136 (.flat (ZU))),.dat (.int .i64)],[.dat (.int .i64)],fun a K=>splitK a fun a0 a=>splitK a fun a1 a=>YA (Zd9 a0 a1) fun r=>K (r.1,()) (r.2,())⟩
def Zal (k1:Int) (i0:Int) (l0:List Zh):Option ((Int×Int×(List Zh)×Unit) ⊕ (Int×(List Zh))) :=
 if i0<(↑(List.length l0):Int) then
 (atI l0 i0).bind fun x0 =>
 (atI (List.set l0 (Int.toNat i0) (k1,x0.snd)) i0).bind fun x1 =>
 (atI (List.set (List.set l0 (Int.toNat i0) (k1,x0.snd)) (Int.toNat i0) (Zh.Place x1,IntKind.i64.wrap (k1+1),x1.snd.snd)) i0).bind fun x2 =>
 (atI (List.set (List.set (List.set l0 (Int.toNat i0) (k1,x0.snd)) (Int.toNat i0) (Zh.Place x1,IntKind.i64.wrap (k1+1),x1.snd.snd)) (Int.toNat i0) (Zh.Place x2,Zh.Clock x2,(IntKind.i64.wrap (IntKind.i64.wrap (k1+1)+1),(Zh.Delay x2).snd),x2.snd.snd.snd)) i0).bind fun x3 =>
 (atI (List.set (List.set (List.set (List.set l0 (Int.toNat i0) (k1,x0.snd)) (Int.toNat i0) (Zh.Place x1,IntKind.i64.wrap (k1+1),x1.snd.snd)) (Int.toNat i0) (Zh.Place x2,Zh.Clock x2,(IntKind.i64.wrap (IntKind.i64.wrap (k1+1)+1),(Zh.Delay x2).snd),x2.snd.snd.snd)) (Int.toNat i0) (Zh.Place x3,Zh.Clock x3,(YG.Early (Zh.Delay x3),IntKind.i64.wrap (IntKind.i64.wrap (IntKind.i64.wrap (k1+1)+1)+1),()),x3.snd.snd.snd)) i0).bind fun x4 =>
 (atI (List.set (List.set (List.set (List.set (List.set l0 (Int.toNat i0) (k1,x0.snd)) (Int.toNat i0) (Zh.Place x1,IntKind.i64.wrap (k1+1),x1.snd.snd)) (Int.toNat i0) (Zh.Place x2,Zh.Clock x2,(IntKind.i64.wrap (IntKind.i64.wrap (k1+1)+1),(Zh.Delay x2).snd),x2.snd.snd.snd)) (Int.toNat i0) (Zh.Place x3,Zh.Clock x3,(YG.Early (Zh.Delay x3),IntKind.i64.wrap (IntKind.i64.wrap (IntKind.i64.wrap (k1+1)+1)+1),()),x3.snd.snd.snd)) (Int.toNat i0) (Zh.Place x4,Zh.Clock x4,Zh.Delay x4,(IntKind.i64.wrap (IntKind.i64.wrap (IntKind.i64.wrap (IntKind.i64.wrap (k1+1)+1)+1)+1),(Zh.ZdY x4).snd),())) i0).bind fun x5 =>
 some (.inl (IntKind.i64.wrap (IntKind.i64.wrap (IntKind.i64.wrap (IntKind.i64.wrap (IntKind.i64.wrap (IntKind.i64.wrap (k1+1)+1)+1)+1)+1)+1),IntKind.i64.wrap (i0+1),List.set (List.set (List.set (List.set (List.set (List.set l0 (Int.toNat i0) (k1,x0.snd)) (Int.toNat i0) (Zh.Place x1,IntKind.i64.wrap (k1+1),x1.snd.snd)) (Int.toNat i0) (Zh.Place x2,Zh.Clock x2,(IntKind.i64.wrap (IntKind.i64.wrap (k1+1)+1),(Zh.Delay x2).snd),x2.snd.snd.snd)) (Int.toNat i0) (Zh.Place x3,Zh.Clock x3,(YG.Early (Zh.Delay x3),IntKind.i64.wrap (IntKind.i64.wrap (IntKind.i64.wrap (k1+1)+1)+1),()),x3.snd.snd.snd)) (Int.toNat i0) (Zh.Place x4,Zh.Clock x4,Zh.Delay x4,(IntKind.i64.wrap (IntKind.i64.wrap (IntKind.i64.wrap (IntKind.i64.wrap (k1+1)+1)+1)+1),(Zh.ZdY x4).snd),())) (Int.toNat i0) (Zh.Place x5,Zh.Clock x5,Zh.Delay x5,(YG.Early (Zh.ZdY x5),IntKind.i64.wrap (IntKind.i64.wrap (IntKind.i64.wrap (IntKind.i64.wrap (IntKind.i64.wrap (k1+1)+1)+1)+1)+1),()),()),()))
 else
 some (.inr (k1,l0))
def JE (a0:List Zh) (k0:Int):Option (Int×(List Zh)) :=
 Zv (fun v=>Zal v.1 v.2.1 v.2.2.1) (k0,(0:Int),a0,())
def ZEP:Ctr:=⟨[.back (.ol 163 (.flat (Zx))),.dat (.int .i64)],[.dat (.int .i64)],fun a K=>splitK a fun a0 a=>splitK a fun k0 a=>YA (JE a0 k0) fun r=>K (r.1,()) (r.2,())⟩
def JN (k1:Int) (i0:Int) (l0:List (Int×Int×List Int×List Int×List Int×Unit)):Option ((Int×Int×(List (Int×Int×List Int×List Int×List Int×Unit))×Unit) ⊕ (Int×(List Zg))) :=
 if i0<(↑(List.length l0):Int) then
 (atI l0 i0).bind fun x0 =>
 (Yh x0.snd.snd.fst (IntKind.i64.wrap (IntKind.i64.wrap (k1+1)+1))).bind fun markInt64S0 =>
 (Yh x0.snd.snd.snd.fst markInt64S0.fst).bind fun markInt64S1 =>
 (Yh x0.snd.snd.snd.snd.fst markInt64S1.fst).bind fun markInt64S2 =>
 some (.inl (markInt64S2.fst,IntKind.i64.wrap (i0+1),List.set l0 (Int.toNat i0) (k1,IntKind.i64.wrap (k1+1),markInt64S0.snd,markInt64S1.snd,markInt64S2.snd,()),()))
 else
 some (.inr (k1,l0))
def ZaZ (a0:List Zg) (k0:Int):Option (Int×(List Zg)) :=
 Zv (fun v=>JN v.1 v.2.1 v.2.2.1) (k0,(0:Int),a0,())
def ZGC:Ctr:=⟨[.back (.ol 140 (Zay)),.dat (.int .i64)],[.dat (.int .i64)],fun a K=>splitK a fun a0 a=>splitK a fun k0 a=>YA (ZaZ a0 k0) fun r=>K (r.1,()) (r.2,())⟩
def Zbv (k1:Int) (i0:Int) (l0:List Zu):Option ((Int×Int×(List Zu)×Unit) ⊕ (Int×(List Zu))) :=
 if i0<(↑(List.length l0):Int) then
 (Xz k1).bind fun markText0 =>
 (atI l0 i0).bind fun x0 =>
 (atI (List.set l0 (Int.toNat i0) (markText0,x0.snd)) i0).bind fun x1 =>
 (atI (List.set (List.set l0 (Int.toNat i0) (markText0,x0.snd)) (Int.toNat i0) (Zu.Name x1,IntKind.i64.wrap (k1+1),x1.snd.snd)) i0).bind fun x2 =>
 (atI (List.set (List.set (List.set l0 (Int.toNat i0) (markText0,x0.snd)) (Int.toNat i0) (Zu.Name x1,IntKind.i64.wrap (k1+1),x1.snd.snd)) (Int.toNat i0) (Zu.Name x2,Zu.Qh x2,IntKind.i64.wrap (IntKind.i64.wrap (k1+1)+1),x2.snd.snd.snd)) i0).bind fun x3 =>
 (atI (List.set (List.set (List.set (List.set l0 (Int.toNat i0) (markText0,x0.snd)) (Int.toNat i0) (Zu.Name x1,IntKind.i64.wrap (k1+1),x1.snd.snd)) (Int.toNat i0) (Zu.Name x2,Zu.Qh x2,IntKind.i64.wrap (IntKind.i64.wrap (k1+1)+1),x2.snd.snd.snd)) (Int.toNat i0) (Zu.Name x3,Zu.Qh x3,Zu.J2 x3,IntKind.i64.wrap (IntKind.i64.wrap (IntKind.i64.wrap (k1+1)+1)+1),x3.snd.snd.snd.snd)) i0).bind fun x4 =>
 some (.inl (IntKind.i64.wrap (IntKind.i64.wrap (IntKind.i64.wrap (IntKind.i64.wrap (IntKind.i64.wrap (k1+1)+1)+1)+1)+1),IntKind.i64.wrap (i0+1),List.set (List.set (List.set (List.set (List.set l0 (Int.toNat i0) (markText0,x0.snd)) (Int.toNat i0) (Zu.Name x1,IntKind.i64.wrap (k1+1),x1.snd.snd)) (Int.toNat i0) (Zu.Name x2,Zu.Qh x2,IntKind.i64.wrap (IntKind.i64.wrap (k1+1)+1),x2.snd.snd.snd)) (Int.toNat i0) (Zu.Name x3,Zu.Qh x3,Zu.J2 x3,IntKind.i64.wrap (IntKind.i64.wrap (IntKind.i64.wrap (k1+1)+1)+1),x3.snd.snd.snd.snd)) (Int.toNat i0) (Zu.Name x4,Zu.Qh x4,Zu.J2 x4,Zu.Zad x4,IntKind.i64.wrap (IntKind.i64.wrap (IntKind.i64.wrap (IntKind.i64.wrap (k1+1)+1)+1)+1),()),()))
 else
 some (.inr (k1,l0))
def Zde (a0:List Zu) (k0:Int):Option (Int×(List Zu)) :=
 Zv (fun v=>Zbv v.1 v.2.1 v.2.2.1) (k0,(0:Int),a0,())
def ZE4:Ctr:=⟨[.back (.ol 169 (.flat (ZW))),.dat (.int .i64)],[.dat (.int .i64)],fun a K=>splitK a fun a0 a=>splitK a fun k0 a=>YA (Zde a0 k0) fun r=>K (r.1,()) (r.2,())⟩
def Zc0 (a0:Zn) (k0:Int):Option (Int×Zn) :=
 (Zd9 (Zn.YS a0) k0).bind fun markClockS0 =>
 (JE (Zn.Qw a0) markClockS0.fst).bind fun markExternalS0 =>
 (JE (Zn.Xu a0) markExternalS0.fst).bind fun markExternalS1 =>
 (ZaZ (Zn.Exceptions a0) markExternalS1.fst).bind fun markExceptionS0 =>
 (Zde (Zn.QJ a0) markExceptionS0.fst).bind fun markCornerS0 =>
 some (markCornerS0.fst,(markClockS0.snd,markExternalS0.snd,markExternalS1.snd,markExceptionS0.snd,markCornerS0.snd,()))
def ZFf:Ctr:=⟨[.back (ZoZ),.dat (.int .i64)],[.dat (.int .i64)],fun a K=>splitK a fun a0 a=>splitK a fun k0 a=>YA (Zc0 a0 k0) fun r=>K (r.1,()) (r.2,())⟩
def Jw (a0:List Zf) (v0:Int) (v1:Int):Option ((Int×Int×Unit) ⊕ Int) :=
 if v1<(↑(List.length a0):Int) then
 (atI a0 v1).bind fun x0 =>
 (Xz v0).bind fun markText0 =>
 if Zf.Name x0=markText0 then
 if Zf.Place x0=IntKind.i64.wrap (v0+1) then
 if Zf.Y3 x0=IntKind.i64.wrap (IntKind.i64.wrap (v0+1)+1) then
 if Zf.XB x0=IntKind.i64.wrap (IntKind.i64.wrap (IntKind.i64.wrap (v0+1)+1)+1) then
 if Zf.X9 x0=IntKind.i64.wrap (IntKind.i64.wrap (IntKind.i64.wrap (IntKind.i64.wrap (v0+1)+1)+1)+1) then
 if Zf.Source x0=IntKind.i64.wrap (IntKind.i64.wrap (IntKind.i64.wrap (IntKind.i64.wrap (IntKind.i64.wrap (v0+1)+1)+1)+1)+1) then
 if Zf.Divide x0=IntKind.i64.wrap (IntKind.i64.wrap (IntKind.i64.wrap (IntKind.i64.wrap (IntKind.i64.wrap (IntKind.i64.wrap (v0+1)+1)+1)+1)+1)+1) then
 if (Zf.ZeJ x0 == Decidable.decide (Int.tmod (IntKind.i64.wrap (IntKind.i64.wrap (IntKind.i64.wrap (IntKind.i64.wrap (IntKind.i64.wrap (IntKind.i64.wrap (IntKind.i64.wrap (v0+1)+1)+1)+1)+1)+1)+1)) 3=0))=true then
 if Zf.Y9 x0=IntKind.i64.wrap (IntKind.i64.wrap (IntKind.i64.wrap (IntKind.i64.wrap (IntKind.i64.wrap (IntKind.i64.wrap (IntKind.i64.wrap (IntKind.i64.wrap (v0+1)+1)+1)+1)+1)+1)+1)+1) then
 if Zf.Qj x0=IntKind.i64.wrap (IntKind.i64.wrap (IntKind.i64.wrap (IntKind.i64.wrap (IntKind.i64.wrap (IntKind.i64.wrap (IntKind.i64.wrap (IntKind.i64.wrap (IntKind.i64.wrap (v0+1)+1)+1)+1)+1)+1)+1)+1)+1) then
 if Zf.JU x0=IntKind.i64.wrap (IntKind.i64.wrap (IntKind.i64.wrap (IntKind.i64.wrap (IntKind.i64.wrap (IntKind.i64.wrap (IntKind.i64.wrap (IntKind.i64.wrap (IntKind.i64.wrap (IntKind.i64.wrap (v0+1)+1)+1)+1)+1)+1)+1)+1)+1)+1) then
 some (.inl (IntKind.i64.wrap (IntKind.i64.wrap (IntKind.i64.wrap (IntKind.i64.wrap (IntKind.i64.wrap (IntKind.i64.wrap (IntKind.i64.wrap (IntKind.i64.wrap (IntKind.i64.wrap (IntKind.i64.wrap (IntKind.i64.wrap (v0+1)+1)+1)+1)+1)+1)+1)+1)+1)+1)+1),IntKind.i64.wrap (v1+1),()))
 else
 some (.inr (-1))
 else
 some (.inr (-1))
 else
 some (.inr (-1))
 else
 some (.inr (-1))
 else
 some (.inr (-1))
 else
 some (.inr (-1))
 else
 some (.inr (-1))
 else
 some (.inr (-1))
 else
 some (.inr (-1))
 else
 some (.inr (-1))
 else
 some (.inr (-1))
 else
 some (.inr v0)
def Zey (a0:List Zf) (a1:Int):Option Int :=
 Zv (fun v=>Jw a0 v.1 v.2.1) (a1,(0:Int),())
def ZEA:Ctr:=D2 (.sl (ZU)) (.int .i64) (.int .i64) Zey
def Vb (a0:List Zh) (v0:Int) (v1:Int):Option ((Int×Int×Unit) ⊕ Int) :=
 if v1<(↑(List.length a0):Int) then
 (atI a0 v1).bind fun x0 =>
 if Zh.Place x0=v0 then
 if Zh.Clock x0=IntKind.i64.wrap (v0+1) then
 if YG.Early (Zh.Delay x0)=IntKind.i64.wrap (IntKind.i64.wrap (v0+1)+1) then
 if YG.Late (Zh.Delay x0)=IntKind.i64.wrap (IntKind.i64.wrap (IntKind.i64.wrap (v0+1)+1)+1) then
 if YG.Early (Zh.ZdY x0)=IntKind.i64.wrap (IntKind.i64.wrap (IntKind.i64.wrap (IntKind.i64.wrap (v0+1)+1)+1)+1) then
 if YG.Late (Zh.ZdY x0)=IntKind.i64.wrap (IntKind.i64.wrap (IntKind.i64.wrap (IntKind.i64.wrap (IntKind.i64.wrap (v0+1)+1)+1)+1)+1) then
 some (.inl (IntKind.i64.wrap (IntKind.i64.wrap (IntKind.i64.wrap (IntKind.i64.wrap (IntKind.i64.wrap (IntKind.i64.wrap (v0+1)+1)+1)+1)+1)+1),IntKind.i64.wrap (v1+1),()))
 else
 some (.inr (-1))
 else
 some (.inr (-1))
 else
 some (.inr (-1))
 else
 some (.inr (-1))
 else
 some (.inr (-1))
 else
 some (.inr (-1))
 else
 some (.inr v0)
def Js (a0:List Zh) (a1:Int):Option Int :=
 Zv (fun v=>Vb a0 v.1 v.2.1) (a1,(0:Int),())
def ZEN:Ctr:=D2 (.sl (Zx)) (.int .i64) (.int .i64) Js
def JL (a0:List Int) (k1:Int) (i0:Int):Option ((Int×Int×Unit) ⊕ Int) :=
 if i0<(↑(List.length a0):Int) then
 (atI a0 i0).bind fun x0 =>
 if x0=k1 then
 some (.inl (IntKind.i64.wrap (k1+1),IntKind.i64.wrap (i0+1),()))
 else
 some (.inr (-1))
 else
 some (.inr k1)
def Zax (a0:List Int) (k0:Int):Option Int :=
 Zv (fun v=>JL a0 v.1 v.2.1) (k0,(0:Int),())
def ZEz:Ctr:=D2 (.sl (.int .i64)) (.int .i64) (.int .i64) Zax
def QN (a0:List Zg) (k1:Int) (i0:Int):Option ((Int×Int×Unit) ⊕ Int) :=
 if i0<(↑(List.length a0):Int) then
 (atI a0 i0).bind fun x0 =>
 if Zg.Kind x0=k1 then
 if Zg.Value x0=IntKind.i64.wrap (k1+1) then
 (Zax (Zg.From x0) (IntKind.i64.wrap (IntKind.i64.wrap (k1+1)+1))).bind fun heldInt64S0 =>
 if heldInt64S0<0 then
 some (.inr (-1))
 else
 (Zax (Zg.Through x0) heldInt64S0).bind fun heldInt64S1 =>
 if heldInt64S1<0 then
 some (.inr (-1))
 else
 (Zax (Zg.To x0) heldInt64S1).bind fun heldInt64S2 =>
 if heldInt64S2<0 then
 some (.inr (-1))
 else
 some (.inl (heldInt64S2,IntKind.i64.wrap (i0+1),()))
 else
 some (.inr (-1))
 else
 some (.inr (-1))
 else
 some (.inr k1)
def Za3 (a0:List Zg) (k0:Int):Option Int :=
 Zv (fun v=>QN a0 v.1 v.2.1) (k0,(0:Int),())
def ZG1:Ctr:=D2 (.sl (ZA)) (.int .i64) (.int .i64) Za3
def V7 (a0:List Zu) (k1:Int) (i0:Int):Option ((Int×Int×Unit) ⊕ Int) :=
 if i0<(↑(List.length a0):Int) then
 (atI a0 i0).bind fun x0 =>
 (Xz k1).bind fun markText0 =>
 if Zu.Name x0=markText0 then
 if Zu.Qh x0=IntKind.i64.wrap (k1+1) then
 if Zu.J2 x0=IntKind.i64.wrap (IntKind.i64.wrap (k1+1)+1) then
 if Zu.Zad x0=IntKind.i64.wrap (IntKind.i64.wrap (IntKind.i64.wrap (k1+1)+1)+1) then
 if Zu.Zdn x0=IntKind.i64.wrap (IntKind.i64.wrap (IntKind.i64.wrap (IntKind.i64.wrap (k1+1)+1)+1)+1) then
 some (.inl (IntKind.i64.wrap (IntKind.i64.wrap (IntKind.i64.wrap (IntKind.i64.wrap (IntKind.i64.wrap (k1+1)+1)+1)+1)+1),IntKind.i64.wrap (i0+1),()))
 else
 some (.inr (-1))
 else
 some (.inr (-1))
 else
 some (.inr (-1))
 else
 some (.inr (-1))
 else
 some (.inr (-1))
 else
 some (.inr k1)
def Zdb (a0:List Zu) (k0:Int):Option Int :=
 Zv (fun v=>V7 a0 v.1 v.2.1) (k0,(0:Int),())
def ZEn:Ctr:=D2 (.sl (ZW)) (.int .i64) (.int .i64) Zdb
def Zfk (a0:Zn) (k0:Int):Option Int :=
 (Zey (Zn.YS a0) k0).bind fun heldClockS0 =>
 if heldClockS0<0 then
 some (-1)
 else
 (Js (Zn.Qw a0) heldClockS0).bind fun heldExternalS0 =>
 if heldExternalS0<0 then
 some (-1)
 else
 (Js (Zn.Xu a0) heldExternalS0).bind fun heldExternalS1 =>
 if heldExternalS1<0 then
 some (-1)
 else
 (Za3 (Zn.Exceptions a0) heldExternalS1).bind fun heldExceptionS0 =>
 if heldExceptionS0<0 then
 some (-1)
 else
 (Zdb (Zn.QJ a0) heldExceptionS0).bind fun heldCornerS0 =>
 if heldCornerS0<0 then
 some (-1)
 else
 some heldCornerS0
def ZF4:Ctr:=D2 (YR) (.int .i64) (.int .i64) Zfk
def QF (a0:Za) (a1:Zk) (a2:Zn):Option Bool :=
 (ZdS a0 1048576).bind fun szBlock0 =>
 if szBlock0<0 then
 some Bool.true
 else
 (ZeM a1 szBlock0).bind fun szEdit0 =>
 if szEdit0<0 then
 some Bool.true
 else
 (ZdZ a2 szEdit0).bind fun szSetup0 =>
 if szSetup0<0 then
 some Bool.true
 else
 (Zhq a0).bind fun toBlock0 =>
 (ZiV a1).bind fun toEdit0 =>
 (ZhW a2).bind fun toSetup0 =>
 (VQ toBlock0 toEdit0 toSetup0).bind fun SetupAfter0 =>
 (Zai toBlock0 toEdit0 toSetup0).bind fun SetupAfter1 =>
 (Zfz SetupAfter1.fst SetupAfter0.fst).bind fun eqSetup0 =>
 if eqSetup0=true then
 if SetupAfter1.snd=SetupAfter0.snd then
 (ZhN toBlock0 toBlock0).bind fun eqBlock0 =>
 if eqBlock0=true then
 (Zi0 toEdit0 toEdit0).bind fun eqEdit0 =>
 if eqEdit0=true then
 (Zfz toSetup0 toSetup0).bind fun eqSetup1 =>
 if eqSetup1=true then
 (Zff toBlock0 1).bind fun markBlock0 =>
 (Zgu toEdit0 markBlock0.fst).bind fun markEdit0 =>
 (Zc0 toSetup0 markEdit0.fst).bind fun markSetup0 =>
 if markSetup0.fst<0 then
 some Bool.false
 else
 if eqSetup0=true then
 if SetupAfter1.snd=SetupAfter0.snd then
 (Zc0 SetupAfter1.fst 1).bind fun markSetup1 =>
 (Zfk markSetup1.snd 1).bind fun heldSetup0 =>
 if heldSetup0<0 then
 some Bool.false
 else
 if heldSetup0=markSetup1.fst then
 if eqSetup0=true then
 if SetupAfter1.snd=SetupAfter0.snd then
 if heldSetup0<0 then
 some Bool.false
 else
 if heldSetup0=markSetup1.fst then
 some Bool.true
 else
 some Bool.false
 else
 some Bool.false
 else
 some Bool.false
 else
 some Bool.false
 else
 some Bool.false
 else
 some Bool.false
 else
 some Bool.false
 else
 some Bool.false
 else
 some Bool.false
 else
 some Bool.false
 else
 some Bool.false
def ZdR:Ctr:=⟨[.dat (YB),.dat (Qv),.dat (YR)],[.dat (.bool)],fun a K=>splitK a fun a0 a=>splitK a fun a1 a=>splitK a fun a2 a=>YA (QF a0 a1 a2) fun r=>K (r,()) ()⟩
end
end Go.Proofs.YtoefbkmllkpkkaaGreatDoor
