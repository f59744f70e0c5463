/-
 The models of the functions and their contracts. Printed by program.
-/
import Derived.Test.YthkhedimjmkifaaGreatDoorSxTab
import Derived.Test.YthkhedimjmkifaaGreatDoorSxS0
import Derived.Test.YthkhedimjmkifaaGreatDoorSxLib
namespace Go.Proofs.YthkhedimjmkifaaGreatDoor
open Go Go.Sx
set_option maxRecDepth 100000
set_option maxHeartbeats 3200000
set_option linter.unusedVariables false
set_option linter.unusedSimpArgs false
noncomputable section
abbrev Iq:Ty:=.int .i64
abbrev Wq:=IntKind.wrap IntKind.i64
abbrev Sq:=Zc Tryz.prog
theorem Bq {α β:Type} (x:α) (f:α→Option β):(some x).bind f=f x:=rfl
def Zhz (a0:YP) (left0:Int):Option Int :=
 if Wq (left0-(↑(List.length (YP.Name a0)):Int))<0 then
 some (-1)
 else
 some (Wq (left0-(↑(List.length (YP.Name a0)):Int)))
def c0:Ctr:=D2 (ZgP) Iq Iq Zhz
def ZmL (a0:List YP) (left1:Int) (i0:Int):Option ((Int×Int×Unit) ⊕ Int) :=
 if i0<(↑a0.length:Int) then
 (atI a0 i0).bind fun x0 =>
 (Zhz x0 left1).bind fun szPin0 =>
 if szPin0<0 then
 some (.inr (-1))
 else
 some (.inl (szPin0,Wq (i0+1),()))
 else
 some (.inr left1)
def Zh2 (a0:List YP) (left0:Int):Option Int :=
 if Wq (left0-(↑a0.length:Int))<0 then
 some (-1)
 else
 Zv (fun v=>ZmL a0 v.1 v.2.1) (Wq (left0-(↑a0.length:Int)),(0:Int),())
def c1:Ctr:=D2 (.sl (ZgP)) Iq Iq Zh2
def Xd (a0:List Int) (left0:Int):Option Int :=
 if Wq (left0-(↑a0.length:Int))<0 then
 some (-1)
 else
 some (Wq (left0-(↑a0.length:Int)))
def c2:Ctr:=D2 (.sl Iq) Iq Iq Xd
def ZeJ (a0:ZA) (left0:Int):Option Int :=
 (Xd (ZA.Zg6 a0) left0).bind fun szInt64S0 =>
 if szInt64S0<0 then
 some (-1)
 else
 (Xd (ZA.Loads a0) szInt64S0).bind fun szInt64S1 =>
 if szInt64S1<0 then
 some (-1)
 else
 (Xd (ZA.Values a0) szInt64S1).bind fun szInt64S2 =>
 if szInt64S2<0 then
 some (-1)
 else
 some szInt64S2
def c3:Ctr:=D2 (XE) Iq Iq ZeJ
def Zli (a0:List ZA) (left1:Int) (i0:Int):Option ((Int×Int×Unit) ⊕ Int) :=
 if i0<(↑a0.length:Int) then
 (atI a0 i0).bind fun x0 =>
 (ZeJ x0 left1).bind fun szTable0 =>
 if szTable0<0 then
 some (.inr (-1))
 else
 some (.inl (szTable0,Wq (i0+1),()))
 else
 some (.inr left1)
def ZdC (a0:List ZA) (left0:Int):Option Int :=
 if Wq (left0-(↑a0.length:Int))<0 then
 some (-1)
 else
 Zv (fun v=>Zli a0 v.1 v.2.1) (Wq (left0-(↑a0.length:Int)),(0:Int),())
def c4:Ctr:=D2 (.sl (XE)) Iq Iq ZdC
def Zht (a0:ZJ) (left0:Int):Option Int :=
 (ZdC (ZJ.Delay a0) left0).bind fun szTableS0 =>
 if szTableS0<0 then
 some (-1)
 else
 (ZdC (ZJ.ZdS a0) szTableS0).bind fun szTableS1 =>
 if szTableS1<0 then
 some (-1)
 else
 some szTableS1
def c5:Ctr:=D2 (Zib) Iq Iq Zht
def ZmN (a0:List ZJ) (left1:Int) (i0:Int):Option ((Int×Int×Unit) ⊕ Int) :=
 if i0<(↑a0.length:Int) then
 (atI a0 i0).bind fun x0 =>
 (Zht x0 left1).bind fun szArc0 =>
 if szArc0<0 then
 some (.inr (-1))
 else
 some (.inl (szArc0,Wq (i0+1),()))
 else
 some (.inr left1)
def Zih (a0:List ZJ) (left0:Int):Option Int :=
 if Wq (left0-(↑a0.length:Int))<0 then
 some (-1)
 else
 Zv (fun v=>ZmN a0 v.1 v.2.1) (Wq (left0-(↑a0.length:Int)),(0:Int),())
def c6:Ctr:=D2 (.sl (Zib)) Iq Iq Zih
def ZfG (a0:Zm) (left0:Int):Option Int :=
 if Wq (left0-(↑(List.length (Zm.Name a0)):Int))<0 then
 some (-1)
 else
 (Zh2 (Zm.Yw a0) (Wq (left0-(↑(List.length (Zm.Name a0)):Int)))).bind fun szPinS0 =>
 if szPinS0<0 then
 some (-1)
 else
 (Zih (Zm.JQ a0) szPinS0).bind fun szArcS0 =>
 if szArcS0<0 then
 some (-1)
 else
 (Xd (Zm.Truth a0) szArcS0).bind fun szInt64S0 =>
 if szInt64S0<0 then
 some (-1)
 else
 some szInt64S0
def c7:Ctr:=D2 (QL) Iq Iq ZfG
def ZlJ (a0:List Zm) (left1:Int) (i0:Int):Option ((Int×Int×Unit) ⊕ Int) :=
 if i0<(↑a0.length:Int) then
 (atI a0 i0).bind fun x0 =>
 (ZfG x0 left1).bind fun szCell0 =>
 if szCell0<0 then
 some (.inr (-1))
 else
 some (.inl (szCell0,Wq (i0+1),()))
 else
 some (.inr left1)
def ZgV (a0:List Zm) (left0:Int):Option Int :=
 if Wq (left0-(↑a0.length:Int))<0 then
 some (-1)
 else
 Zv (fun v=>ZlJ a0 v.1 v.2.1) (Wq (left0-(↑a0.length:Int)),(0:Int),())
def c8:Ctr:=D2 (.sl (QL)) Iq Iq ZgV
def Zew (a0:Zo) (left0:Int):Option Int :=
 (ZgV (Zo.Cells a0) left0).bind fun szCellS0 =>
 if szCellS0<0 then
 some (-1)
 else
 some szCellS0
def c9:Ctr:=D2 (Xh) Iq Iq Zew
def Zbm (a0:Ze) (left0:Int):Option Int :=
 if Wq (left0-(↑(List.length (Ze.Name a0)):Int))<0 then
 some (-1)
 else
 (Xd (Ze.ZI a0) (Wq (left0-(↑(List.length (Ze.Name a0)):Int)))).bind fun szInt64S0 =>
 if szInt64S0<0 then
 some (-1)
 else
 some szInt64S0
def c10:Ctr:=D2 (Yq) Iq Iq Zbm
def ZiI (a0:List Ze) (left1:Int) (i0:Int):Option ((Int×Int×Unit) ⊕ Int) :=
 if i0<(↑a0.length:Int) then
 (atI a0 i0).bind fun x0 =>
 (Zbm x0 left1).bind fun szInstance0 =>
 if szInstance0<0 then
 some (.inr (-1))
 else
 some (.inl (szInstance0,Wq (i0+1),()))
 else
 some (.inr left1)
def Zcv (a0:List Ze) (left0:Int):Option Int :=
 if Wq (left0-(↑a0.length:Int))<0 then
 some (-1)
 else
 Zv (fun v=>ZiI a0 v.1 v.2.1) (Wq (left0-(↑a0.length:Int)),(0:Int),())
def c11:Ctr:=D2 (.sl (Yq)) Iq Iq Zcv
def Zb4 (a0:List (List UInt8)) (left1:Int) (i0:Int):Option ((Int×Int×Unit) ⊕ Int) :=
 if i0<(↑a0.length:Int) then
 (atI a0 i0).bind fun x0 =>
 if Wq (left1-(↑x0.length:Int))<0 then
 some (.inr (-1))
 else
 some (.inl (Wq (left1-(↑x0.length:Int)),Wq (i0+1),()))
 else
 some (.inr left1)
def Zev (a0:List (List UInt8)) (left0:Int):Option Int :=
 if Wq (left0-(↑a0.length:Int))<0 then
 some (-1)
 else
 Zv (fun v=>Zb4 a0 v.1 v.2.1) (Wq (left0-(↑a0.length:Int)),(0:Int),())
def c12:Ctr:=D2 (.sl (.str)) Iq Iq Zev
def Zgr (a0:ZR) (left0:Int):Option Int :=
 if Wq (left0-(↑(List.length (ZR.Name a0)):Int))<0 then
 some (-1)
 else
 some (Wq (left0-(↑(List.length (ZR.Name a0)):Int)))
def c13:Ctr:=D2 (Zcd) Iq Iq Zgr
def Zmi (a0:List ZR) (left1:Int) (i0:Int):Option ((Int×Int×Unit) ⊕ Int) :=
 if i0<(↑a0.length:Int) then
 (atI a0 i0).bind fun x0 =>
 (Zgr x0 left1).bind fun szPort0 =>
 if szPort0<0 then
 some (.inr (-1))
 else
 some (.inl (szPort0,Wq (i0+1),()))
 else
 some (.inr left1)
def Zg3 (a0:List ZR) (left0:Int):Option Int :=
 if Wq (left0-(↑a0.length:Int))<0 then
 some (-1)
 else
 Zv (fun v=>Zmi a0 v.1 v.2.1) (Wq (left0-(↑a0.length:Int)),(0:Int),())
def c14:Ctr:=D2 (.sl (Zcd)) Iq Iq Zg3
def Zfx (a0:Zb) (left0:Int):Option Int :=
 (Zcv (Zb.Instances a0) left0).bind fun szInstanceS0 =>
 if szInstanceS0<0 then
 some (-1)
 else
 (Zev (Zb.ZI a0) szInstanceS0).bind fun szStringS0 =>
 if szStringS0<0 then
 some (-1)
 else
 (Zg3 (Zb.ZG a0) szStringS0).bind fun szPortS0 =>
 if szPortS0<0 then
 some (-1)
 else
 some szPortS0
def c15:Ctr:=D2 (YG) Iq Iq Zfx
def Zd6 (a0:Zr) (left0:Int):Option Int :=
 (Xd (Zr.Parent a0) left0).bind fun szInt64S0 =>
 if szInt64S0<0 then
 some (-1)
 else
 (Xd (Zr.Res a0) szInt64S0).bind fun szInt64S1 =>
 if szInt64S1<0 then
 some (-1)
 else
 (Xd (Zr.Cap a0) szInt64S1).bind fun szInt64S2 =>
 if szInt64S2<0 then
 some (-1)
 else
 (Xd (Zr.Ze6 a0) szInt64S2).bind fun szInt64S3 =>
 if szInt64S3<0 then
 some (-1)
 else
 some szInt64S3
def c16:Ctr:=D2 (Vv) Iq Iq Zd6
def ZlL (a0:List Zr) (left1:Int) (i0:Int):Option ((Int×Int×Unit) ⊕ Int) :=
 if i0<(↑a0.length:Int) then
 (atI a0 i0).bind fun x0 =>
 (Zd6 x0 left1).bind fun szWire0 =>
 if szWire0<0 then
 some (.inr (-1))
 else
 some (.inl (szWire0,Wq (i0+1),()))
 else
 some (.inr left1)
def ZgK (a0:List Zr) (left0:Int):Option Int :=
 if Wq (left0-(↑a0.length:Int))<0 then
 some (-1)
 else
 Zv (fun v=>ZlL a0 v.1 v.2.1) (Wq (left0-(↑a0.length:Int)),(0:Int),())
def c17:Ctr:=D2 (.sl (Vv)) Iq Iq ZgK
def ZgR (a0:Za) (left0:Int):Option Int :=
 (Zew (Za.Library a0) left0).bind fun szLibrary0 =>
 if szLibrary0<0 then
 some (-1)
 else
 (Zfx (Za.Design a0) szLibrary0).bind fun szDesign0 =>
 if szDesign0<0 then
 some (-1)
 else
 (ZgK (Za.Zz a0) szDesign0).bind fun szWireS0 =>
 if szWireS0<0 then
 some (-1)
 else
 some szWireS0
def c18:Ctr:=D2 (Y3) Iq Iq ZgR
def ZeB (a0:Zl) (left0:Int):Option Int :=
 if Wq (left0-(↑(List.length (Zl.Name a0)):Int))<0 then
 some (-1)
 else
 some (Wq (left0-(↑(List.length (Zl.Name a0)):Int)))
def c19:Ctr:=D2 (XF) Iq Iq ZeB
def Zlh (a0:List Zl) (left1:Int) (i0:Int):Option ((Int×Int×Unit) ⊕ Int) :=
 if i0<(↑a0.length:Int) then
 (atI a0 i0).bind fun x0 =>
 (ZeB x0 left1).bind fun szClock0 =>
 if szClock0<0 then
 some (.inr (-1))
 else
 some (.inl (szClock0,Wq (i0+1),()))
 else
 some (.inr left1)
def Zfc (a0:List Zl) (left0:Int):Option Int :=
 if Wq (left0-(↑a0.length:Int))<0 then
 some (-1)
 else
 Zv (fun v=>Zlh a0 v.1 v.2.1) (Wq (left0-(↑a0.length:Int)),(0:Int),())
def c20:Ctr:=D2 (.sl (XF)) Iq Iq Zfc
def ZaE (a0:List Zj) (left0:Int):Option Int :=
 if Wq (left0-(↑a0.length:Int))<0 then
 some (-1)
 else
 some (Wq (left0-(↑a0.length:Int)))
def c21:Ctr:=D2 (.sl (Yg)) Iq Iq ZaE
def ZaA (a0:Zg) (left0:Int):Option Int :=
 (Xd (Zg.From a0) left0).bind fun szInt64S0 =>
 if szInt64S0<0 then
 some (-1)
 else
 (Xd (Zg.Through a0) szInt64S0).bind fun szInt64S1 =>
 if szInt64S1<0 then
 some (-1)
 else
 (Xd (Zg.To a0) szInt64S1).bind fun szInt64S2 =>
 if szInt64S2<0 then
 some (-1)
 else
 some szInt64S2
def c22:Ctr:=D2 (Yn) Iq Iq ZaA
def Zh7 (a0:List Zg) (left1:Int) (i0:Int):Option ((Int×Int×Unit) ⊕ Int) :=
 if i0<(↑a0.length:Int) then
 (atI a0 i0).bind fun x0 =>
 (ZaA x0 left1).bind fun szException0 =>
 if szException0<0 then
 some (.inr (-1))
 else
 some (.inl (szException0,Wq (i0+1),()))
 else
 some (.inr left1)
def ZbB (a0:List Zg) (left0:Int):Option Int :=
 if Wq (left0-(↑a0.length:Int))<0 then
 some (-1)
 else
 Zv (fun v=>Zh7 a0 v.1 v.2.1) (Wq (left0-(↑a0.length:Int)),(0:Int),())
def c23:Ctr:=D2 (.sl (Yn)) Iq Iq ZbB
def Zds (a0:Zy) (left0:Int):Option Int :=
 if Wq (left0-(↑(List.length (Zy.Name a0)):Int))<0 then
 some (-1)
 else
 some (Wq (left0-(↑(List.length (Zy.Name a0)):Int)))
def c24:Ctr:=D2 (Xf) Iq Iq Zds
def Zj4 (a0:List Zy) (left1:Int) (i0:Int):Option ((Int×Int×Unit) ⊕ Int) :=
 if i0<(↑a0.length:Int) then
 (atI a0 i0).bind fun x0 =>
 (Zds x0 left1).bind fun szCorner0 =>
 if szCorner0<0 then
 some (.inr (-1))
 else
 some (.inl (szCorner0,Wq (i0+1),()))
 else
 some (.inr left1)
def Zem (a0:List Zy) (left0:Int):Option Int :=
 if Wq (left0-(↑a0.length:Int))<0 then
 some (-1)
 else
 Zv (fun v=>Zj4 a0 v.1 v.2.1) (Wq (left0-(↑a0.length:Int)),(0:Int),())
def c25:Ctr:=D2 (.sl (Xf)) Iq Iq Zem
def ZgA (a0:Zn) (left0:Int):Option Int :=
 (Zfc (Zn.YE a0) left0).bind fun szClockS0 =>
 if szClockS0<0 then
 some (-1)
 else
 (ZaE (Zn.XV a0) szClockS0).bind fun szExternalS0 =>
 if szExternalS0<0 then
 some (-1)
 else
 (ZaE (Zn.Y7 a0) szExternalS0).bind fun szExternalS1 =>
 if szExternalS1<0 then
 some (-1)
 else
 (ZbB (Zn.Exceptions a0) szExternalS1).bind fun szExceptionS0 =>
 if szExceptionS0<0 then
 some (-1)
 else
 (Zem (Zn.XT a0) szExceptionS0).bind fun szCornerS0 =>
 if szCornerS0<0 then
 some (-1)
 else
 some szCornerS0
def c26:Ctr:=D2 (QX) Iq Iq ZgA
def Zgj (a0:Zh) (left0:Int):Option Int :=
 if Wq (left0-(↑(List.length (Zh.Name a0)):Int))<0 then
 some (-1)
 else
 (Zd6 (Zh.Ze7 a0) (Wq (left0-(↑(List.length (Zh.Name a0)):Int)))).bind fun szWire0 =>
 if szWire0<0 then
 some (-1)
 else
 some szWire0
def c27:Ctr:=D2 (XL) Iq Iq Zgj
def ZlA (a0:List Zh) (left1:Int) (i0:Int):Option ((Int×Int×Unit) ⊕ Int) :=
 if i0<(↑a0.length:Int) then
 (atI a0 i0).bind fun x0 =>
 (Zgj x0 left1).bind fun szEdit0 =>
 if szEdit0<0 then
 some (.inr (-1))
 else
 some (.inl (szEdit0,Wq (i0+1),()))
 else
 some (.inr left1)
def ZeA (a0:List Zh) (left0:Int):Option Int :=
 if Wq (left0-(↑a0.length:Int))<0 then
 some (-1)
 else
 Zv (fun v=>ZlA a0 v.1 v.2.1) (Wq (left0-(↑a0.length:Int)),(0:Int),())
def c28:Ctr:=D2 (.sl (XL)) Iq Iq ZeA
def Zel (a0:ZH) (left0:Int):Option Int :=
 (ZgR (ZH.Block a0) left0).bind fun szBlock0 =>
 if szBlock0<0 then
 some (-1)
 else
 (ZgA (ZH.Setup a0) szBlock0).bind fun szSetup0 =>
 if szSetup0<0 then
 some (-1)
 else
 (ZeA (ZH.Zpn a0) szSetup0).bind fun szEditS0 =>
 if szEditS0<0 then
 some (-1)
 else
 (ZeA (ZH.Zpp a0) szEditS0).bind fun szEditS1 =>
 if szEditS1<0 then
 some (-1)
 else
 some szEditS1
def c29:Ctr:=D2 (Jy) Iq Iq Zel
def Zhc (a0:YP):Option YP :=
 some a0
def c30:Ctr:=D1 (ZgP) (ZgP) Zhc
def Zne (a0:List YP) (i0:Int) (l0:List (List UInt8×Int×Int×Bool×Unit)):Option ((Int×(List (List UInt8×Int×Int×Bool×Unit))×Unit) ⊕ List YP) :=
 if i0<(↑a0.length:Int) then
 (atI a0 i0).bind fun x0 =>
 (Zhc x0).bind fun toPin0 =>
 (atI l0 i0).bind fun x1 =>
 some (.inl (Wq (i0+1),List.set l0 (Int.toNat i0) toPin0,()))
 else
 some (.inr l0)
def ZhN (a0:List YP):Option (List YP) :=
 Zt ((0:Int)≤(↑a0.length:Int)) <|
 Zt ((↑a0.length:Int)≤(↑a0.length:Int)) <|
 Zt ((↑a0.length:Int)≤(4611686018427387904:Int)) <|
 Zt ((↑(40:Nat):Int)*(↑a0.length:Int)≤(281474976710656:Int)) <|
 Zv (fun v=>Zne a0 v.1 v.2.1) ((0:Int),List.replicate (Int.toNat (↑a0.length:Int)) (([]:List UInt8),(0:Int),(0:Int),Bool.false,()),())
def c31:Ctr:=⟨[.dat (.sl (ZgP))],[.own (.ol 285 (.flat (ZgP)))],fun a K=>splitK a fun a0 a=>YR (ZhN a0) fun r=>K (r,()) ()⟩
def Zk0 (a0:List Int) (i0:Int) (l0:List Int):Option ((Int×(List Int)×Unit) ⊕ List Int) :=
 if i0<(↑a0.length:Int) then
 (atI a0 i0).bind fun x0 =>
 (atI l0 i0).bind fun x1 =>
 some (.inl (Wq (i0+1),List.set l0 (Int.toNat i0) x0,()))
 else
 some (.inr l0)
def Xc (a0:List Int):Option (List Int) :=
 Zt ((0:Int)≤(↑a0.length:Int)) <|
 Zt ((↑a0.length:Int)≤(↑a0.length:Int)) <|
 Zt ((↑a0.length:Int)≤(4611686018427387904:Int)) <|
 Zt ((↑(8:Nat):Int)*(↑a0.length:Int)≤(281474976710656:Int)) <|
 Zv (fun v=>Zk0 a0 v.1 v.2.1) ((0:Int),List.replicate (Int.toNat (↑a0.length:Int)) (0:Int),())
def c32:Ctr:=⟨[.dat (.sl Iq)],[.own (.ol 2 (.flat Iq))],fun a K=>splitK a fun a0 a=>YR (Xc a0) fun r=>K (r,()) ()⟩
def ZeM (a0:ZA):Option ZA :=
 (Xc (ZA.Zg6 a0)).bind fun toInt64S0 =>
 (Xc (ZA.Loads a0)).bind fun toInt64S1 =>
 (Xc (ZA.Values a0)).bind fun toInt64S2 =>
 some (toInt64S0,toInt64S1,toInt64S2,())
def c33:Ctr:=⟨[.dat (XE)],[.own (Zgw)],fun a K=>splitK a fun a0 a=>YR (ZeM a0) fun r=>K (r,()) ()⟩
def ZkC (a0:List ZA) (i0:Int) (l0:List ZA):Option ((Int×(List ZA)×Unit) ⊕ List ZA) :=
 if i0<(↑a0.length:Int) then
 (atI a0 i0).bind fun x0 =>
 (ZeM x0).bind fun toTable0 =>
 (atI l0 i0).bind fun x1 =>
 some (.inl (Wq (i0+1),List.set l0 (Int.toNat i0) toTable0,()))
 else
 some (.inr l0)
def Zc7 (a0:List ZA):Option (List ZA) :=
 Zt ((0:Int)≤(↑a0.length:Int)) <|
 Zt ((↑a0.length:Int)≤(↑a0.length:Int)) <|
 Zt ((↑a0.length:Int)≤(4611686018427387904:Int)) <|
 Zt ((↑(72:Nat):Int)*(↑a0.length:Int)≤(281474976710656:Int)) <|
 Zv (fun v=>ZkC a0 v.1 v.2.1) ((0:Int),List.replicate (Int.toNat (↑a0.length:Int)) (([]:List Int),([]:List Int),([]:List Int),()),())
def c34:Ctr:=⟨[.dat (.sl (XE))],[.own (.ol 341 (Zgw))],fun a K=>splitK a fun a0 a=>YR (Zc7 a0) fun r=>K (r,()) ()⟩
def Zhy (a0:ZJ):Option ZJ :=
 (Zc7 (ZJ.Delay a0)).bind fun toTableS0 =>
 (Zc7 (ZJ.ZdS a0)).bind fun toTableS1 =>
 some (ZJ.Kind a0,ZJ.From a0,ZJ.To a0,ZJ.ZbJ a0,toTableS0,toTableS1,())
def c35:Ctr:=⟨[.dat (Zib)],[.own (Zxz)],fun a K=>splitK a fun a0 a=>YR (Zhy a0) fun r=>K (r,()) ()⟩
def ZmJ (a0:List ZJ) (i0:Int) (l0:List ZJ):Option ((Int×(List ZJ)×Unit) ⊕ List ZJ) :=
 if i0<(↑a0.length:Int) then
 (atI a0 i0).bind fun x0 =>
 (Zhy x0).bind fun toArc0 =>
 (atI l0 i0).bind fun x1 =>
 some (.inl (Wq (i0+1),List.set l0 (Int.toNat i0) toArc0,()))
 else
 some (.inr l0)
def Zif (a0:List ZJ):Option (List ZJ) :=
 Zt ((0:Int)≤(↑a0.length:Int)) <|
 Zt ((↑a0.length:Int)≤(↑a0.length:Int)) <|
 Zt ((↑a0.length:Int)≤(4611686018427387904:Int)) <|
 Zt ((↑(80:Nat):Int)*(↑a0.length:Int)≤(281474976710656:Int)) <|
 Zv (fun v=>ZmJ a0 v.1 v.2.1) ((0:Int),List.replicate (Int.toNat (↑a0.length:Int)) ((0:Int),(0:Int),(0:Int),(0:Int),([]:List ZA),([]:List ZA),()),())
def c36:Ctr:=⟨[.dat (.sl (Zib))],[.own (.ol 289 (Zxz))],fun a K=>splitK a fun a0 a=>YR (Zif a0) fun r=>K (r,()) ()⟩
def Zgb (a0:Zm):Option Zm :=
 (ZhN (Zm.Yw a0)).bind fun toPinS0 =>
 (Zif (Zm.JQ a0)).bind fun toArcS0 =>
 (Xc (Zm.Truth a0)).bind fun toInt64S0 =>
 some (Zm.Name a0,Zm.Kind a0,toPinS0,toArcS0,toInt64S0,a0.snd.snd.snd.snd.snd)
def c37:Ctr:=⟨[.dat (QL)],[.own (Zoy)],fun a K=>splitK a fun a0 a=>YR (Zgb a0) fun r=>K (r,()) ()⟩
def Zmf (a0:List Zm) (i0:Int) (l0:List Zm):Option ((Int×(List Zm)×Unit) ⊕ List Zm) :=
 if i0<(↑a0.length:Int) then
 (atI a0 i0).bind fun x0 =>
 (Zgb x0).bind fun toCell0 =>
 (atI l0 i0).bind fun x1 =>
 some (.inl (Wq (i0+1),List.set l0 (Int.toNat i0) toCell0,()))
 else
 some (.inr l0)
def ZgM (a0:List Zm):Option (List Zm) :=
 Zt ((0:Int)≤(↑a0.length:Int)) <|
 Zt ((↑a0.length:Int)≤(↑a0.length:Int)) <|
 Zt ((↑a0.length:Int)≤(4611686018427387904:Int)) <|
 Zt ((↑(112:Nat):Int)*(↑a0.length:Int)≤(281474976710656:Int)) <|
 Zv (fun v=>Zmf a0 v.1 v.2.1) ((0:Int),List.replicate (Int.toNat (↑a0.length:Int)) (([]:List UInt8),(0:Int),([]:List YP),([]:List ZJ),([]:List Int),(0:Int),(0:Int),()),())
def c38:Ctr:=⟨[.dat (.sl (QL))],[.own (.ol 277 (Zoy))],fun a K=>splitK a fun a0 a=>YR (ZgM a0) fun r=>K (r,()) ()⟩
def Zeg (a0:Zo):Option Zo :=
 (ZgM (Zo.Cells a0)).bind fun toCellS0 =>
 some (toCellS0,())
def c39:Ctr:=⟨[.dat (Xh)],[.own (Zov)],fun a K=>splitK a fun a0 a=>YR (Zeg a0) fun r=>K (r,()) ()⟩
def Zbu (a0:Ze):Option Ze :=
 (Xc (Ze.ZI a0)).bind fun toInt64S0 =>
 some (Ze.Name a0,Ze.Cell a0,toInt64S0,())
def c40:Ctr:=⟨[.dat (Yq)],[.own (Zb9)],fun a K=>splitK a fun a0 a=>YR (Zbu a0) fun r=>K (r,()) ()⟩
def ZiG (a0:List Ze) (i0:Int) (l0:List Ze):Option ((Int×(List Ze)×Unit) ⊕ List Ze) :=
 if i0<(↑a0.length:Int) then
 (atI a0 i0).bind fun x0 =>
 (Zbu x0).bind fun toInstance0 =>
 (atI l0 i0).bind fun x1 =>
 some (.inl (Wq (i0+1),List.set l0 (Int.toNat i0) toInstance0,()))
 else
 some (.inr l0)
def Zcw (a0:List Ze):Option (List Ze) :=
 Zt ((0:Int)≤(↑a0.length:Int)) <|
 Zt ((↑a0.length:Int)≤(↑a0.length:Int)) <|
 Zt ((↑a0.length:Int)≤(4611686018427387904:Int)) <|
 Zt ((↑(48:Nat):Int)*(↑a0.length:Int)≤(281474976710656:Int)) <|
 Zv (fun v=>ZiG a0 v.1 v.2.1) ((0:Int),List.replicate (Int.toNat (↑a0.length:Int)) (([]:List UInt8),(0:Int),([]:List Int),()),())
def c41:Ctr:=⟨[.dat (.sl (Yq))],[.own (.ol 219 (Zb9))],fun a K=>splitK a fun a0 a=>YR (Zcw a0) fun r=>K (r,()) ()⟩
def ZjN (a0:List (List UInt8)) (i0:Int) (l0:List (List UInt8)):Option ((Int×(List (List UInt8))×Unit) ⊕ List (List UInt8)) :=
 if i0<(↑a0.length:Int) then
 (atI a0 i0).bind fun x0 =>
 (atI l0 i0).bind fun x1 =>
 some (.inl (Wq (i0+1),List.set l0 (Int.toNat i0) x0,()))
 else
 some (.inr l0)
def Zee (a0:List (List UInt8)):Option (List (List UInt8)) :=
 Zt ((0:Int)≤(↑a0.length:Int)) <|
 Zt ((↑a0.length:Int)≤(↑a0.length:Int)) <|
 Zt ((↑a0.length:Int)≤(4611686018427387904:Int)) <|
 Zt ((↑(16:Nat):Int)*(↑a0.length:Int)≤(281474976710656:Int)) <|
 Zv (fun v=>ZjN a0 v.1 v.2.1) ((0:Int),List.replicate (Int.toNat (↑a0.length:Int)) (([]:List UInt8)),())
def c42:Ctr:=⟨[.dat (.sl (.str))],[.own (.ol 9 (.flat (.str)))],fun a K=>splitK a fun a0 a=>YR (Zee a0) fun r=>K (r,()) ()⟩
def ZfI (a0:ZR):Option ZR :=
 some a0
def c43:Ctr:=D1 (Zcd) (Zcd) ZfI
def Zl9 (a0:List ZR) (i0:Int) (l0:List (List UInt8×Int×Int×Unit)):Option ((Int×(List (List UInt8×Int×Int×Unit))×Unit) ⊕ List ZR) :=
 if i0<(↑a0.length:Int) then
 (atI a0 i0).bind fun x0 =>
 (ZfI x0).bind fun toPort0 =>
 (atI l0 i0).bind fun x1 =>
 some (.inl (Wq (i0+1),List.set l0 (Int.toNat i0) toPort0,()))
 else
 some (.inr l0)
def Zg5 (a0:List ZR):Option (List ZR) :=
 Zt ((0:Int)≤(↑a0.length:Int)) <|
 Zt ((↑a0.length:Int)≤(↑a0.length:Int)) <|
 Zt ((↑a0.length:Int)≤(4611686018427387904:Int)) <|
 Zt ((↑(32:Nat):Int)*(↑a0.length:Int)≤(281474976710656:Int)) <|
 Zv (fun v=>Zl9 a0 v.1 v.2.1) ((0:Int),List.replicate (Int.toNat (↑a0.length:Int)) (([]:List UInt8),(0:Int),(0:Int),()),())
def c44:Ctr:=⟨[.dat (.sl (Zcd))],[.own (.ol 246 (.flat (Zcd)))],fun a K=>splitK a fun a0 a=>YR (Zg5 a0) fun r=>K (r,()) ()⟩
def Zfm (a0:Zb):Option Zb :=
 (Zcw (Zb.Instances a0)).bind fun toInstanceS0 =>
 (Zee (Zb.ZI a0)).bind fun toStringS0 =>
 (Zg5 (Zb.ZG a0)).bind fun toPortS0 =>
 some (toInstanceS0,toStringS0,toPortS0,())
def c45:Ctr:=⟨[.dat (YG)],[.own (ZpF)],fun a K=>splitK a fun a0 a=>YR (Zfm a0) fun r=>K (r,()) ()⟩
def ZdP (a0:Zr):Option Zr :=
 (Xc (Zr.Parent a0)).bind fun toInt64S0 =>
 (Xc (Zr.Res a0)).bind fun toInt64S1 =>
 (Xc (Zr.Cap a0)).bind fun toInt64S2 =>
 (Xc (Zr.Ze6 a0)).bind fun toInt64S3 =>
 some (toInt64S0,toInt64S1,toInt64S2,toInt64S3,())
def c46:Ctr:=⟨[.dat (Vv)],[.own (Zl3)],fun a K=>splitK a fun a0 a=>YR (ZdP a0) fun r=>K (r,()) ()⟩
def Zms (a0:List Zr) (i0:Int) (l0:List Zr):Option ((Int×(List Zr)×Unit) ⊕ List Zr) :=
 if i0<(↑a0.length:Int) then
 (atI a0 i0).bind fun x0 =>
 (ZdP x0).bind fun toWire0 =>
 (atI l0 i0).bind fun x1 =>
 some (.inl (Wq (i0+1),List.set l0 (Int.toNat i0) toWire0,()))
 else
 some (.inr l0)
def ZgH (a0:List Zr):Option (List Zr) :=
 Zt ((0:Int)≤(↑a0.length:Int)) <|
 Zt ((↑a0.length:Int)≤(↑a0.length:Int)) <|
 Zt ((↑a0.length:Int)≤(4611686018427387904:Int)) <|
 Zt ((↑(96:Nat):Int)*(↑a0.length:Int)≤(281474976710656:Int)) <|
 Zv (fun v=>Zms a0 v.1 v.2.1) ((0:Int),List.replicate (Int.toNat (↑a0.length:Int)) (([]:List Int),([]:List Int),([]:List Int),([]:List Int),()),())
def c47:Ctr:=⟨[.dat (.sl (Vv))],[.own (.ol 86 (Zl3))],fun a K=>splitK a fun a0 a=>YR (ZgH a0) fun r=>K (r,()) ()⟩
def ZgL (a0:Za):Option Za :=
 (Zeg (Za.Library a0)).bind fun toLibrary0 =>
 (Zfm (Za.Design a0)).bind fun toDesign0 =>
 (ZgH (Za.Zz a0)).bind fun toWireS0 =>
 some (toLibrary0,toDesign0,toWireS0,())
def c48:Ctr:=⟨[.dat (Y3)],[.own (ZdI)],fun a K=>splitK a fun a0 a=>YR (ZgL a0) fun r=>K (r,()) ()⟩
def ZeE (a0:Zl):Option Zl :=
 some a0
def c49:Ctr:=D1 (XF) (XF) ZeE
def Zk1 (a0:List Zl) (i0:Int) (l0:List (List UInt8×Int×Int×Int×Int×Int×Int×Bool×Int×Int×Int×Unit)):Option ((Int×(List (List UInt8×Int×Int×Int×Int×Int×Int×Bool×Int×Int×Int×Unit))×Unit) ⊕ List Zl) :=
 if i0<(↑a0.length:Int) then
 (atI a0 i0).bind fun x0 =>
 (ZeE x0).bind fun toClock0 =>
 (atI l0 i0).bind fun x1 =>
 some (.inl (Wq (i0+1),List.set l0 (Int.toNat i0) toClock0,()))
 else
 some (.inr l0)
def Zfz (a0:List Zl):Option (List Zl) :=
 Zt ((0:Int)≤(↑a0.length:Int)) <|
 Zt ((↑a0.length:Int)≤(↑a0.length:Int)) <|
 Zt ((↑a0.length:Int)≤(4611686018427387904:Int)) <|
 Zt ((↑(96:Nat):Int)*(↑a0.length:Int)≤(281474976710656:Int)) <|
 Zv (fun v=>Zk1 a0 v.1 v.2.1) ((0:Int),List.replicate (Int.toNat (↑a0.length:Int)) (([]:List UInt8),(0:Int),(0:Int),(0:Int),(0:Int),(0:Int),(0:Int),Bool.false,(0:Int),(0:Int),(0:Int),()),())
def c50:Ctr:=⟨[.dat (.sl (XF))],[.own (.ol 150 (.flat (XF)))],fun a K=>splitK a fun a0 a=>YR (Zfz a0) fun r=>K (r,()) ()⟩
def Zgg (a0:YQ):Option YQ :=
 some a0
def c51:Ctr:=D1 (Zmy) (Zmy) Zgg
def Zbk (a0:Zj):Option Zj :=
 (Zgg (Zj.Delay a0)).bind fun toSpan0 =>
 (Zgg (Zj.ZdS a0)).bind fun toSpan1 =>
 some (Zj.Place a0,Zj.Clock a0,toSpan0,toSpan1,())
def c52:Ctr:=D1 (Yg) (Yg) Zbk
def ZiN (a0:List Zj) (i0:Int) (l0:List (Int×Int×YQ×YQ×Unit)):Option ((Int×(List (Int×Int×YQ×YQ×Unit))×Unit) ⊕ List Zj) :=
 if i0<(↑a0.length:Int) then
 (atI a0 i0).bind fun x0 =>
 (Zbk x0).bind fun toExternal0 =>
 (atI l0 i0).bind fun x1 =>
 some (.inl (Wq (i0+1),List.set l0 (Int.toNat i0) toExternal0,()))
 else
 some (.inr l0)
def ZaB (a0:List Zj):Option (List Zj) :=
 Zt ((0:Int)≤(↑a0.length:Int)) <|
 Zt ((↑a0.length:Int)≤(↑a0.length:Int)) <|
 Zt ((↑a0.length:Int)≤(4611686018427387904:Int)) <|
 Zt ((↑(48:Nat):Int)*(↑a0.length:Int)≤(281474976710656:Int)) <|
 Zv (fun v=>ZiN a0 v.1 v.2.1) ((0:Int),List.replicate (Int.toNat (↑a0.length:Int)) ((0:Int),(0:Int),((0:Int),(0:Int),()),((0:Int),(0:Int),()),()),())
def c53:Ctr:=⟨[.dat (.sl (Yg))],[.own (.ol 187 (.flat (Yg)))],fun a K=>splitK a fun a0 a=>YR (ZaB a0) fun r=>K (r,()) ()⟩
def Zaw (a0:Zg):Option Zg :=
 (Xc (Zg.From a0)).bind fun toInt64S0 =>
 (Xc (Zg.Through a0)).bind fun toInt64S1 =>
 (Xc (Zg.To a0)).bind fun toInt64S2 =>
 some (Zg.Kind a0,Zg.Value a0,toInt64S0,toInt64S1,toInt64S2,())
def c54:Ctr:=⟨[.dat (Yn)],[.own (ZaM)],fun a K=>splitK a fun a0 a=>YR (Zaw a0) fun r=>K (r,()) ()⟩
def Zir (a0:List Zg) (i0:Int) (l0:List Zg):Option ((Int×(List Zg)×Unit) ⊕ List Zg) :=
 if i0<(↑a0.length:Int) then
 (atI a0 i0).bind fun x0 =>
 (Zaw x0).bind fun toException0 =>
 (atI l0 i0).bind fun x1 =>
 some (.inl (Wq (i0+1),List.set l0 (Int.toNat i0) toException0,()))
 else
 some (.inr l0)
def ZbE (a0:List Zg):Option (List Zg) :=
 Zt ((0:Int)≤(↑a0.length:Int)) <|
 Zt ((↑a0.length:Int)≤(↑a0.length:Int)) <|
 Zt ((↑a0.length:Int)≤(4611686018427387904:Int)) <|
 Zt ((↑(88:Nat):Int)*(↑a0.length:Int)≤(281474976710656:Int)) <|
 Zv (fun v=>Zir a0 v.1 v.2.1) ((0:Int),List.replicate (Int.toNat (↑a0.length:Int)) ((0:Int),(0:Int),([]:List Int),([]:List Int),([]:List Int),()),())
def c55:Ctr:=⟨[.dat (.sl (Yn))],[.own (.ol 155 (ZaM))],fun a K=>splitK a fun a0 a=>YR (ZbE a0) fun r=>K (r,()) ()⟩
def Zdu (a0:Zy):Option Zy :=
 some a0
def c56:Ctr:=D1 (Xf) (Xf) Zdu
def ZjP (a0:List Zy) (i0:Int) (l0:List (List UInt8×Int×Int×Int×Int×Unit)):Option ((Int×(List (List UInt8×Int×Int×Int×Int×Unit))×Unit) ⊕ List Zy) :=
 if i0<(↑a0.length:Int) then
 (atI a0 i0).bind fun x0 =>
 (Zdu x0).bind fun toCorner0 =>
 (atI l0 i0).bind fun x1 =>
 some (.inl (Wq (i0+1),List.set l0 (Int.toNat i0) toCorner0,()))
 else
 some (.inr l0)
def Zek (a0:List Zy):Option (List Zy) :=
 Zt ((0:Int)≤(↑a0.length:Int)) <|
 Zt ((↑a0.length:Int)≤(↑a0.length:Int)) <|
 Zt ((↑a0.length:Int)≤(4611686018427387904:Int)) <|
 Zt ((↑(48:Nat):Int)*(↑a0.length:Int)≤(281474976710656:Int)) <|
 Zv (fun v=>ZjP a0 v.1 v.2.1) ((0:Int),List.replicate (Int.toNat (↑a0.length:Int)) (([]:List UInt8),(0:Int),(0:Int),(0:Int),(0:Int),()),())
def c57:Ctr:=⟨[.dat (.sl (Xf))],[.own (.ol 193 (.flat (Xf)))],fun a K=>splitK a fun a0 a=>YR (Zek a0) fun r=>K (r,()) ()⟩
def Zg0 (a0:Zn):Option Zn :=
 (Zfz (Zn.YE a0)).bind fun toClockS0 =>
 (ZaB (Zn.XV a0)).bind fun toExternalS0 =>
 (ZaB (Zn.Y7 a0)).bind fun toExternalS1 =>
 (ZbE (Zn.Exceptions a0)).bind fun toExceptionS0 =>
 (Zek (Zn.XT a0)).bind fun toCornerS0 =>
 some (toClockS0,toExternalS0,toExternalS1,toExceptionS0,toCornerS0,())
def c58:Ctr:=⟨[.dat (QX)],[.own (ZnC)],fun a K=>splitK a fun a0 a=>YR (Zg0 a0) fun r=>K (r,()) ()⟩
def ZfX (a0:Zh):Option Zh :=
 (ZdP (Zh.Ze7 a0)).bind fun toWire0 =>
 some (Zh.Kind a0,Zh.Place a0,Zh.Cell a0,Zh.Net a0,Zh.Node a0,Zh.Name a0,toWire0,())
def c59:Ctr:=⟨[.dat (XL)],[.own (Zo8)],fun a K=>splitK a fun a0 a=>YR (ZfX a0) fun r=>K (r,()) ()⟩
def Zmr (a0:List Zh) (i0:Int) (l0:List Zh):Option ((Int×(List Zh)×Unit) ⊕ List Zh) :=
 if i0<(↑a0.length:Int) then
 (atI a0 i0).bind fun x0 =>
 (ZfX x0).bind fun toEdit0 =>
 (atI l0 i0).bind fun x1 =>
 some (.inl (Wq (i0+1),List.set l0 (Int.toNat i0) toEdit0,()))
 else
 some (.inr l0)
def ZeO (a0:List Zh):Option (List Zh) :=
 Zt ((0:Int)≤(↑a0.length:Int)) <|
 Zt ((↑a0.length:Int)≤(↑a0.length:Int)) <|
 Zt ((↑a0.length:Int)≤(4611686018427387904:Int)) <|
 Zt ((↑(152:Nat):Int)*(↑a0.length:Int)≤(281474976710656:Int)) <|
 Zv (fun v=>Zmr a0 v.1 v.2.1) ((0:Int),List.replicate (Int.toNat (↑a0.length:Int)) ((0:Int),(0:Int),(0:Int),(0:Int),(0:Int),([]:List UInt8),(([]:List Int),([]:List Int),([]:List Int),([]:List Int),()),()),())
def c60:Ctr:=⟨[.dat (.sl (XL))],[.own (.ol 88 (Zo8))],fun a K=>splitK a fun a0 a=>YR (ZeO a0) fun r=>K (r,()) ()⟩
def Zeu (a0:ZH):Option ZH :=
 (ZgL (ZH.Block a0)).bind fun toBlock0 =>
 (Zg0 (ZH.Setup a0)).bind fun toSetup0 =>
 (ZeO (ZH.Zpn a0)).bind fun toEditS0 =>
 (ZeO (ZH.Zpp a0)).bind fun toEditS1 =>
 some (toBlock0,toSetup0,toEditS0,toEditS1,())
def c61:Ctr:=⟨[.dat (Jy)],[.own (Zy5)],fun a K=>splitK a fun a0 a=>YR (Zeu a0) fun r=>K (r,()) ()⟩
def Zc1 (s0:List UInt8) (i0:Int):Option ((Int×Unit) ⊕ Bool) :=
 if i0<(↑s0.length:Int) then
 (atI s0 i0).bind fun x0 =>
 if 97≤(↑(UInt8.toNat x0):Int) then
 if 48≤(↑(UInt8.toNat x0):Int) then
 if (↑(UInt8.toNat x0):Int)≤122 then
 some (.inl (Wq (i0+1),()))
 else
 if (↑(UInt8.toNat x0):Int)≤57 then
 if 0<i0 then
 some (.inl (Wq (i0+1),()))
 else
 some (.inr Bool.false)
 else
 some (.inr Bool.false)
 else
 if (↑(UInt8.toNat x0):Int)≤122 then
 some (.inl (Wq (i0+1),()))
 else
 some (.inr Bool.false)
 else
 if 48≤(↑(UInt8.toNat x0):Int) then
 if (↑(UInt8.toNat x0):Int)≤57 then
 if 0<i0 then
 some (.inl (Wq (i0+1),()))
 else
 some (.inr Bool.false)
 else
 some (.inr Bool.false)
 else
 some (.inr Bool.false)
 else
 if 1≤(↑s0.length:Int) then
 some (.inr (Decidable.decide ((↑s0.length:Int)≤8)))
 else
 some (.inr Bool.false)
def Jl (s0:List UInt8):Option Bool :=
 Zv (fun v=>Zc1 s0 v.1) ((0:Int),())
def c62:Ctr:=D1 (.str) (.bool) Jl
def ZB (n0:Int) (low0:Int) (high0:Int):Option Bool :=
 if low0≤n0 then
 some (Decidable.decide (n0≤high0))
 else
 some Bool.false
def c63:Ctr:=D3 Iq Iq Iq (.bool) ZB
def QS (a0:Zm) (v0:Int) (v1:Int) (x0:YP) (v2:Int):Option ((Int×Unit) ⊕ ((Int×Int×Unit) ⊕ (Int×Bool))) :=
 if v2<v1 then
 (atI (Zm.Yw a0) v2).bind fun x1 =>
 if YP.Name x1=YP.Name x0 then
 some (.inr (.inr (0,Bool.false)))
 else
 some (.inl (Wq (v2+1),()))
 else
 (Jl (YP.Name x0)).bind fun l03Name0 =>
 if l03Name0=true then
 (ZB (YP.Cap x0) 0 500).bind fun l01In0 =>
 if l01In0=true then
 if v1=Wq ((↑(List.length (Zm.Yw a0)):Int)-1) then
 if YP.Dir x0=2 then
 if YP.Cap x0=0 then
 if (YP.Clock x0)=true then
 some (.inr (.inr (0,Bool.false)))
 else
 if v1<Wq ((↑(List.length (Zm.Yw a0)):Int)-1) then
 if YP.Dir x0=1 then
 if (YP.Clock x0)=true then
 some (.inr (.inl (Wq (v0+1),Wq (v1+1),())))
 else
 some (.inr (.inl (v0,Wq (v1+1),())))
 else
 some (.inr (.inr (0,Bool.false)))
 else
 if (YP.Clock x0)=true then
 some (.inr (.inl (Wq (v0+1),Wq (v1+1),())))
 else
 some (.inr (.inl (v0,Wq (v1+1),())))
 else
 some (.inr (.inr (0,Bool.false)))
 else
 some (.inr (.inr (0,Bool.false)))
 else
 if v1<Wq ((↑(List.length (Zm.Yw a0)):Int)-1) then
 if YP.Dir x0=1 then
 if (YP.Clock x0)=true then
 some (.inr (.inl (Wq (v0+1),Wq (v1+1),())))
 else
 some (.inr (.inl (v0,Wq (v1+1),())))
 else
 some (.inr (.inr (0,Bool.false)))
 else
 if (YP.Clock x0)=true then
 some (.inr (.inl (Wq (v0+1),Wq (v1+1),())))
 else
 some (.inr (.inl (v0,Wq (v1+1),())))
 else
 some (.inr (.inr (0,Bool.false)))
 else
 some (.inr (.inr (0,Bool.false)))
def Ji (a0:Zm) (v0:Int) (v1:Int):Option ((Int×Int×Unit) ⊕ (Int×Bool)) :=
 if v1<(↑(List.length (Zm.Yw a0)):Int) then
 (atI (Zm.Yw a0) v1).bind fun x0 =>
 Zv (fun v=>QS a0 v0 v1 x0 v.1) ((0:Int),())
 else
 some (.inr (v0,Bool.true))
def Zgy (a0:Zm):Option (Int×Bool) :=
 if (↑(List.length (Zm.Yw a0)):Int)<2 then
 some (0,Bool.false)
 else
 if 5<(↑(List.length (Zm.Yw a0)):Int) then
 some (0,Bool.false)
 else
 Zv (fun v=>Ji a0 v.1 v.2.1) ((0:Int),(0:Int),())
def c64:Ctr:=⟨[.dat (QL)],[.dat Iq,.dat (.bool)],fun a K=>splitK a fun a0 a=>YR (Zgy a0) fun r=>K (r.1,r.2,()) ()⟩
def ZcX (list0:List Int) (i0:Int):Option ((Int×Unit) ⊕ Bool) :=
 if i0<(↑list0.length:Int) then
 (atI list0 i0).bind fun x0 =>
 (ZB x0 0 100000).bind fun l01In0 =>
 if l01In0=true then
 if 0<i0 then
 (atI list0 (Wq (i0-1))).bind fun x1 =>
 if x0≤x1 then
 some (.inr Bool.false)
 else
 some (.inl (Wq (i0+1),()))
 else
 some (.inl (Wq (i0+1),()))
 else
 some (.inr Bool.false)
 else
 if 1≤(↑list0.length:Int) then
 some (.inr (Decidable.decide ((↑list0.length:Int)≤4)))
 else
 some (.inr Bool.false)
def ZeG (list0:List Int):Option Bool :=
 Zv (fun v=>ZcX list0 v.1) ((0:Int),())
def c65:Ctr:=D1 (.sl Iq) (.bool) ZeG
def Zdz (t0:ZA) (i0:Int):Option ((Int×Unit) ⊕ Bool) :=
 if i0<(↑(List.length (ZA.Values t0)):Int) then
 (atI (ZA.Values t0) i0).bind fun x0 =>
 (ZB x0 (-1000000) 1000000).bind fun l01In0 =>
 if l01In0=true then
 some (.inl (Wq (i0+1),()))
 else
 some (.inr Bool.false)
 else
 some (.inr Bool.true)
def Zgs (t0:ZA):Option Bool :=
 (ZeG (ZA.Zg6 t0)).bind fun l02Axis0 =>
 if l02Axis0=true then
 (ZeG (ZA.Loads t0)).bind fun l02Axis1 =>
 if l02Axis1=true then
 if (↑(List.length (ZA.Values t0)):Int)=Wq ((↑(List.length (ZA.Zg6 t0)):Int)*(↑(List.length (ZA.Loads t0)):Int)) then
 Zv (fun v=>Zdz t0 v.1) ((0:Int),())
 else
 some Bool.false
 else
 some Bool.false
 else
 some Bool.false
def c66:Ctr:=D1 (XE) (.bool) Zgs
def VP (t0:ZA) (i0:Int) (c0:Int) (c1:Int):Option ((Int×Int×Int×Unit) ⊕ (YQ×Int)) :=
 if i0<(↑(List.length (ZA.Values t0)):Int) then
 (atI (ZA.Values t0) i0).bind fun x1 =>
 some (.inl (Wq (i0+1),Min.min c0 x1,Max.max c1 x1,()))
 else
 some (.inr ((c0,c1,()),0))
def Zcr (t0:ZA):Option (YQ×Int) :=
 (Zgs t0).bind fun IsTable0 =>
 if IsTable0=true then
 (atI (ZA.Values t0) 0).bind fun x0 =>
 Zv (fun v=>VP t0 v.1 v.2.1 v.2.2.1) ((1:Int),x0,x0,())
 else
 some ((0,0,()),1)
def c67:Ctr:=⟨[.dat (XE)],[.dat (Zmy),.dat Iq],fun a K=>splitK a fun t0 a=>YR (Zcr t0) fun r=>K (r.1,r.2,()) ()⟩
def Zb8 (list0:List ZA) (positive0:Bool) (i0:Int):Option ((Int×Unit) ⊕ Bool) :=
 if i0<2 then
 (atI list0 i0).bind fun x0 =>
 (Zcr x0).bind fun TableBounds0 =>
 if TableBounds0.snd=0 then
 if positive0=true then
 if TableBounds0.fst.fst<0 then
 some (.inr Bool.false)
 else
 some (.inl (Wq (i0+1),()))
 else
 some (.inl (Wq (i0+1),()))
 else
 some (.inr Bool.false)
 else
 some (.inr Bool.true)
def YK (list0:List ZA) (positive0:Bool):Option Bool :=
 if (↑list0.length:Int)=2 then
 Zv (fun v=>Zb8 list0 positive0 v.1) ((0:Int),())
 else
 some Bool.false
def c68:Ctr:=D2 (.sl (XE)) (.bool) (.bool) YK
def ZhY (a0:Zm) (a1:ZJ):Option Bool :=
 (ZB (ZJ.From a1) 0 (Wq (Wq ((↑(List.length (Zm.Yw a0)):Int)-1)-1))).bind fun l01In0 =>
 if l01In0=true then
 (ZB (ZJ.To a1) 0 (Wq ((↑(List.length (Zm.Yw a0)):Int)-1))).bind fun l01In1 =>
 if l01In1=true then
 (atI (Zm.Yw a0) (ZJ.From a1)).bind fun x0 =>
 if ZJ.Kind a1=1 then
 if (YP.Clock x0)=true then
 some Bool.false
 else
 if ZJ.To a1=Wq ((↑(List.length (Zm.Yw a0)):Int)-1) then
 (ZB (ZJ.ZbJ a1) 1 3).bind fun l01In2 =>
 if l01In2=true then
 (YK (ZJ.Delay a1) Bool.true).bind fun l03Tables0 =>
 if l03Tables0=true then
 (YK (ZJ.ZdS a1) Bool.true).bind fun l03Tables1 =>
 some l03Tables1
 else
 some Bool.false
 else
 some Bool.false
 else
 some Bool.false
 else
 if ZJ.Kind a1=2 then
 if ZJ.Kind a1=2 then
 if (YP.Clock x0)=true then
 if ZJ.To a1=Wq ((↑(List.length (Zm.Yw a0)):Int)-1) then
 if ZJ.ZbJ a1=0 then
 (YK (ZJ.Delay a1) Bool.true).bind fun l03Tables0 =>
 if l03Tables0=true then
 (YK (ZJ.ZdS a1) Bool.true).bind fun l03Tables1 =>
 some l03Tables1
 else
 some Bool.false
 else
 some Bool.false
 else
 some Bool.false
 else
 some Bool.false
 else
 if ZJ.Kind a1=4 then
 if ZJ.Kind a1=4 then
 if (YP.Clock x0)=true then
 if ZJ.To a1<Wq ((↑(List.length (Zm.Yw a0)):Int)-1) then
 (atI (Zm.Yw a0) (ZJ.To a1)).bind fun x1 =>
 if (YP.Clock x1)=true then
 some Bool.false
 else
 if ZJ.ZbJ a1=0 then
 (YK (ZJ.Delay a1) Bool.false).bind fun l03Tables0 =>
 if l03Tables0=true then
 some (Decidable.decide ((↑(List.length (ZJ.ZdS a1)):Int)=0))
 else
 some Bool.false
 else
 some Bool.false
 else
 some Bool.false
 else
 some Bool.false
 else
 some Bool.false
 else
 if ZJ.Kind a1=5 then
 if (YP.Clock x0)=true then
 if ZJ.To a1<Wq ((↑(List.length (Zm.Yw a0)):Int)-1) then
 (atI (Zm.Yw a0) (ZJ.To a1)).bind fun x1 =>
 if (YP.Clock x1)=true then
 some Bool.false
 else
 if ZJ.ZbJ a1=0 then
 (YK (ZJ.Delay a1) Bool.false).bind fun l03Tables0 =>
 if l03Tables0=true then
 some (Decidable.decide ((↑(List.length (ZJ.ZdS a1)):Int)=0))
 else
 some Bool.false
 else
 some Bool.false
 else
 some Bool.false
 else
 some Bool.false
 else
 some Bool.false
 else
 if ZJ.Kind a1=3 then
 if (YP.Clock x0)=true then
 if ZJ.To a1=Wq ((↑(List.length (Zm.Yw a0)):Int)-1) then
 if ZJ.ZbJ a1=0 then
 (YK (ZJ.Delay a1) Bool.true).bind fun l03Tables0 =>
 if l03Tables0=true then
 (YK (ZJ.ZdS a1) Bool.true).bind fun l03Tables1 =>
 some l03Tables1
 else
 some Bool.false
 else
 some Bool.false
 else
 some Bool.false
 else
 some Bool.false
 else
 if ZJ.Kind a1=4 then
 if ZJ.Kind a1=4 then
 if (YP.Clock x0)=true then
 if ZJ.To a1<Wq ((↑(List.length (Zm.Yw a0)):Int)-1) then
 (atI (Zm.Yw a0) (ZJ.To a1)).bind fun x1 =>
 if (YP.Clock x1)=true then
 some Bool.false
 else
 if ZJ.ZbJ a1=0 then
 (YK (ZJ.Delay a1) Bool.false).bind fun l03Tables0 =>
 if l03Tables0=true then
 some (Decidable.decide ((↑(List.length (ZJ.ZdS a1)):Int)=0))
 else
 some Bool.false
 else
 some Bool.false
 else
 some Bool.false
 else
 some Bool.false
 else
 some Bool.false
 else
 if ZJ.Kind a1=5 then
 if (YP.Clock x0)=true then
 if ZJ.To a1<Wq ((↑(List.length (Zm.Yw a0)):Int)-1) then
 (atI (Zm.Yw a0) (ZJ.To a1)).bind fun x1 =>
 if (YP.Clock x1)=true then
 some Bool.false
 else
 if ZJ.ZbJ a1=0 then
 (YK (ZJ.Delay a1) Bool.false).bind fun l03Tables0 =>
 if l03Tables0=true then
 some (Decidable.decide ((↑(List.length (ZJ.ZdS a1)):Int)=0))
 else
 some Bool.false
 else
 some Bool.false
 else
 some Bool.false
 else
 some Bool.false
 else
 some Bool.false
 else
 some Bool.false
 else
 some Bool.false
def c69:Ctr:=D2 (QL) (Zib) (.bool) ZhY
def Zad (c0:Zm) (i0:Int) (l0:List Int):Option ((Int×(List Int)×Unit) ⊕ List Int) :=
 if i0<(↑(List.length (Zm.JQ c0)):Int) then
 (atI (Zm.JQ c0) i0).bind fun x0 =>
 (atI l0 (ZJ.Kind x0)).bind fun x1 =>
 some (.inl (Wq (i0+1),List.set l0 (Int.toNat (ZJ.Kind x0)) (Wq (x1+1)),()))
 else
 some (.inr l0)
def Zfi (c0:Zm):Option (List Int) :=
 Zv (fun v=>Zad c0 v.1 v.2.1) ((0:Int),List.replicate (Int.toNat (6:Int)) (0:Int),())
def c70:Ctr:=⟨[.dat (QL)],[.own (.ol 2 (.flat Iq))],fun a K=>splitK a fun c0 a=>YR (Zfi c0) fun r=>K (r,()) ()⟩
def ZbK (a0:Zm) (v0:Int) (x0:ZJ) (v1:Int):Option ((Int×Unit) ⊕ ((Int×Unit) ⊕ Bool)) :=
 if v1<v0 then
 (atI (Zm.JQ a0) v1).bind fun x1 =>
 if ZJ.Kind x1=ZJ.Kind x0 then
 if ZJ.From x1=ZJ.From x0 then
 if ZJ.To x1=ZJ.To x0 then
 some (.inr (.inr Bool.false))
 else
 some (.inl (Wq (v1+1),()))
 else
 some (.inl (Wq (v1+1),()))
 else
 some (.inl (Wq (v1+1),()))
 else
 some (.inr (.inl (Wq (v0+1),())))
def ZbT (a0:Zm) (l03Pins0:Int×Bool) (v1:Int):Option ((Int×Unit) ⊕ ((Int×Unit) ⊕ Bool)) :=
 if v1<(↑(List.length (Zm.Truth a0)):Int) then
 (atI (Zm.Truth a0) v1).bind fun x0 =>
 (ZB x0 0 1).bind fun l01In2 =>
 if l01In2=true then
 some (.inl (Wq (v1+1),()))
 else
 some (.inr (.inr Bool.false))
 else
 if l03Pins0.fst=0 then
 Zt ((0:Int)≤IntKind.wrap IntKind.u64 (Wq ((↑(List.length (Zm.Yw a0)):Int)-(1:Int)))) <|
 some (.inr (.inr (Decidable.decide ((↑(List.length (Zm.Truth a0)):Int)=Wq (1*2 ^ Min.min (Int.toNat (IntKind.wrap IntKind.u64 (Wq ((↑(List.length (Zm.Yw a0)):Int)-1)))) (IntKind.bits IntKind.i64))))))
 else
 some (.inr (.inr Bool.false))
def Zd5 (a0:Zm) (l03Pins0:Int×Bool) (v0:Int):Option ((Int×Unit) ⊕ Bool) :=
 if v0<(↑(List.length (Zm.JQ a0)):Int) then
 (atI (Zm.JQ a0) v0).bind fun x0 =>
 (ZhY a0 x0).bind fun l03Arc0 =>
 if l03Arc0=true then
 Zv (fun v=>ZbK a0 v0 x0 v.1) ((0:Int),())
 else
 some (.inr Bool.false)
 else
 (Zfi a0).bind fun l03Kinds0 =>
 if Zm.Kind a0=1 then
 Zv (fun v=>ZbT a0 l03Pins0 v.1) ((0:Int),())
 else
 if Zm.Kind a0=2 then
 if l03Pins0.fst=1 then
 (atI l03Kinds0 1).bind fun x0 =>
 if x0=0 then
 (atI l03Kinds0 2).bind fun x1 =>
 (atI l03Kinds0 3).bind fun x2 =>
 if (Decidable.decide (0<x1) == Decidable.decide (0<x2))=true then
 some (.inr Bool.false)
 else
 some (.inr (Decidable.decide ((↑(List.length (Zm.Truth a0)):Int)=0)))
 else
 some (.inr Bool.false)
 else
 some (.inr Bool.false)
 else
 if Zm.Kind a0=3 then
 if l03Pins0.fst=1 then
 (atI l03Kinds0 1).bind fun x0 =>
 if 0<x0 then
 (atI l03Kinds0 2).bind fun x1 =>
 if 0<x1 then
 (atI l03Kinds0 3).bind fun x2 =>
 if x2=0 then
 some (.inr (Decidable.decide ((↑(List.length (Zm.Truth a0)):Int)=0)))
 else
 some (.inr Bool.false)
 else
 some (.inr Bool.false)
 else
 some (.inr Bool.false)
 else
 some (.inr Bool.false)
 else
 some (.inr Bool.false)
def ZhJ (a0:Zm):Option Bool :=
 (Zgy a0).bind fun l03Pins0 =>
 if l03Pins0.snd=true then
 (Jl (Zm.Name a0)).bind fun l03Name0 =>
 if l03Name0=true then
 if 8<(↑(List.length (Zm.JQ a0)):Int) then
 some Bool.false
 else
 (ZB (Zm.Zxy a0) 0 100000).bind fun l01In0 =>
 if l01In0=true then
 (ZB (Zm.Zkf a0) 0 100000).bind fun l01In1 =>
 if l01In1=true then
 Zv (fun v=>Zd5 a0 l03Pins0 v.1) ((0:Int),())
 else
 some Bool.false
 else
 some Bool.false
 else
 some Bool.false
 else
 some Bool.false
def c71:Ctr:=D1 (QL) (.bool) ZhJ
def Zb0 (l0:Zo) (i0:Int) (x0:Zm) (k0:Int):Option ((Int×Unit) ⊕ ((Int×Unit) ⊕ Bool)) :=
 if k0<i0 then
 (atI (Zo.Cells l0) k0).bind fun x1 =>
 if Zm.Name x1=Zm.Name x0 then
 some (.inr (.inr Bool.false))
 else
 some (.inl (Wq (k0+1),()))
 else
 some (.inr (.inl (Wq (i0+1),())))
def Zb6 (l0:Zo) (i0:Int):Option ((Int×Unit) ⊕ Bool) :=
 if i0<(↑(List.length (Zo.Cells l0)):Int) then
 (atI (Zo.Cells l0) i0).bind fun x0 =>
 (ZhJ x0).bind fun IsCell0 =>
 if IsCell0=true then
 Zv (fun v=>Zb0 l0 i0 x0 v.1) ((0:Int),())
 else
 some (.inr Bool.false)
 else
 some (.inr (Decidable.decide ((↑(List.length (Zo.Cells l0)):Int)≤8)))
def Zen (l0:Zo):Option Bool :=
 Zv (fun v=>Zb6 l0 v.1) ((0:Int),())
def c72:Ctr:=D1 (Xh) (.bool) Zen
def ZcJ (a1:Zb) (v0:Int) (x0:Ze) (v1:Int):Option ((Int×Unit) ⊕ ((Int×Unit) ⊕ Bool)) :=
 if v1<(↑(List.length (Ze.ZI x0)):Int) then
 (atI (Ze.ZI x0) v1).bind fun x2 =>
 (ZB x2 0 (Wq ((↑(List.length (Zb.ZI a1)):Int)-1))).bind fun l01In1 =>
 if l01In1=true then
 some (.inl (Wq (v1+1),()))
 else
 some (.inr (.inr Bool.false))
 else
 some (.inr (.inl (Wq (v0+1),())))
def ZcR (a1:Zb) (v1:Int):Option ((Int×Unit) ⊕ ((Int×Unit) ⊕ Bool)) :=
 if v1<(↑(List.length (Zb.ZG a1)):Int) then
 (atI (Zb.ZG a1) v1).bind fun x0 =>
 (ZB (ZR.Dir x0) 1 2).bind fun l01In0 =>
 if l01In0=true then
 (ZB (ZR.Net x0) 0 (Wq ((↑(List.length (Zb.ZI a1)):Int)-1))).bind fun l01In1 =>
 if l01In1=true then
 some (.inl (Wq (v1+1),()))
 else
 some (.inr (.inr Bool.false))
 else
 some (.inr (.inr Bool.false))
 else
 some (.inr (.inr Bool.true))
def ZcE (a0:Zo) (a1:Zb) (v0:Int):Option ((Int×Unit) ⊕ Bool) :=
 if v0<(↑(List.length (Zb.Instances a1)):Int) then
 (atI (Zb.Instances a1) v0).bind fun x0 =>
 (ZB (Ze.Cell x0) 0 (Wq ((↑(List.length (Zo.Cells a0)):Int)-1))).bind fun l01In0 =>
 if l01In0=true then
 (atI (Zo.Cells a0) (Ze.Cell x0)).bind fun x1 =>
 if (↑(List.length (Ze.ZI x0)):Int)=(↑(List.length (Zm.Yw x1)):Int) then
 Zv (fun v=>ZcJ a1 v0 x0 v.1) ((0:Int),())
 else
 some (.inr Bool.false)
 else
 some (.inr Bool.false)
 else
 Zv (fun v=>ZcR a1 v.1) ((0:Int),())
def Zfw (a0:Zo) (a1:Zb):Option Bool :=
 Zv (fun v=>ZcE a0 a1 v.1) ((0:Int),())
def c73:Ctr:=D2 (Xh) (YG) (.bool) Zfw
def ZcC (list0:List (List UInt8)) (i0:Int) (x0:List UInt8) (k0:Int):Option ((Int×Unit) ⊕ ((Int×Unit) ⊕ Bool)) :=
 if k0<i0 then
 (atI list0 k0).bind fun x1 =>
 if x1=x0 then
 some (.inr (.inr Bool.false))
 else
 some (.inl (Wq (k0+1),()))
 else
 some (.inr (.inl (Wq (i0+1),())))
def ZcS (list0:List (List UInt8)) (i0:Int):Option ((Int×Unit) ⊕ Bool) :=
 if i0<(↑list0.length:Int) then
 (atI list0 i0).bind fun x0 =>
 (Jl x0).bind fun l03Name0 =>
 if l03Name0=true then
 Zv (fun v=>ZcC list0 i0 x0 v.1) ((0:Int),())
 else
 some (.inr Bool.false)
 else
 some (.inr Bool.true)
def ZbO (list0:List (List UInt8)):Option Bool :=
 Zv (fun v=>ZcS list0 v.1) ((0:Int),())
def c74:Ctr:=D1 (.sl (.str)) (.bool) ZbO
def ZcN (l1:List Int) (v6:Int):Option ((Int×Unit) ⊕ ((Int×(List Int)×Unit) ⊕ ((Int×(List Int)×Unit) ⊕ (((List (List UInt8))×Int×Unit) ⊕ (((List (List UInt8))×Int×Unit) ⊕ Bool))))) :=
 if v6<(↑l1.length:Int) then
 (atI l1 v6).bind fun x0 =>
 if x0=1 then
 some (.inl (Wq (v6+1),()))
 else
 some (.inr (.inr (.inr (.inr (.inr Bool.false)))))
 else
 some (.inr (.inr (.inr (.inr (.inr Bool.true)))))
def VI (a1:Zb) (v5:Int) (l1:List Int):Option ((Int×(List Int)×Unit) ⊕ ((Int×(List Int)×Unit) ⊕ (((List (List UInt8))×Int×Unit) ⊕ (((List (List UInt8))×Int×Unit) ⊕ Bool)))) :=
 if v5<(↑(List.length (Zb.ZG a1)):Int) then
 (atI (Zb.ZG a1) v5).bind fun x0 =>
 if ZR.Dir x0=1 then
 (atI l1 (ZR.Net x0)).bind fun x1 =>
 some (.inl (Wq (v5+1),List.set l1 (Int.toNat (ZR.Net x0)) (Wq (x1+1)),()))
 else
 some (.inl (Wq (v5+1),l1,()))
 else
 Zv (fun v=>ZcN l1 v.1) ((0:Int),())
def Vz (a1:Zb) (v4:Int) (l0:List Int):Option ((Int×(List Int)×Unit) ⊕ (((List (List UInt8))×Int×Unit) ⊕ (((List (List UInt8))×Int×Unit) ⊕ Bool))) :=
 if v4<(↑(List.length (Zb.Instances a1)):Int) then
 (atI (Zb.Instances a1) v4).bind fun x0 =>
 (atI (Ze.ZI x0) (Wq ((↑(List.length (Ze.ZI x0)):Int)-1))).bind fun x1 =>
 (atI l0 x1).bind fun x2 =>
 some (.inl (Wq (v4+1),List.set l0 (Int.toNat x1) (Wq (x2+1)),()))
 else
 Zv (fun v=>VI a1 v.1 v.2.1) ((0:Int),l0,())
def Zcz (a1:Zb) (v0:List (List UInt8)) (v2:List (List UInt8)) (v3:Int):Option (((List (List UInt8))×Int×Unit) ⊕ (((List (List UInt8))×Int×Unit) ⊕ Bool)) :=
 if v3<(↑(List.length (Zb.ZG a1)):Int) then
 (atI (Zb.ZG a1) v3).bind fun x0 =>
 Zt ((List.length v2+List.length [ZR.Name x0])*(16:Nat)≤(140737488355328:Nat)) <|
 some (.inl (v2++[ZR.Name x0],Wq (v3+(1:Int)),()))
 else
 (ZbO v0).bind fun l05Names0 =>
 if l05Names0=true then
 (ZbO v2).bind fun l05Names1 =>
 if l05Names1=true then
 (ZbO (Zb.ZI a1)).bind fun l05Names2 =>
 if l05Names2=true then
 Zt ((0:Int)≤(↑(List.length (Zb.ZI a1)):Int)) <|
 Zt ((↑(List.length (Zb.ZI a1)):Int)≤(↑(List.length (Zb.ZI a1)):Int)) <|
 Zt ((↑(List.length (Zb.ZI a1)):Int)≤(4611686018427387904:Int)) <|
 Zt ((↑(8:Nat):Int)*(↑(List.length (Zb.ZI a1)):Int)≤(281474976710656:Int)) <|
 Zv (fun v=>Vz a1 v.1 v.2.1) ((0:Int),List.replicate (Int.toNat (↑(List.length (Zb.ZI a1)):Int)) (0:Int),())
 else
 some (.inr (.inr Bool.false))
 else
 some (.inr (.inr Bool.false))
 else
 some (.inr (.inr Bool.false))
def ZcG (a1:Zb) (v0:List (List UInt8)) (v1:Int):Option (((List (List UInt8))×Int×Unit) ⊕ Bool) :=
 if v1<(↑(List.length (Zb.Instances a1)):Int) then
 (atI (Zb.Instances a1) v1).bind fun x0 =>
 Zt ((List.length v0+List.length [Ze.Name x0])*(16:Nat)≤(140737488355328:Nat)) <|
 some (.inl (v0++[Ze.Name x0],Wq (v1+(1:Int)),()))
 else
 Zv (fun v=>Zcz a1 v0 v.1 v.2.1) (([]:List (List UInt8)),(0:Int),())
def Zfe (a0:Zo) (a1:Zb):Option Bool :=
 (Zen a0).bind fun IsLibrary0 =>
 if IsLibrary0=true then
 if 14<(↑(List.length (Zb.Instances a1)):Int) then
 some Bool.false
 else
 if 30<(↑(List.length (Zb.ZI a1)):Int) then
 some Bool.false
 else
 if 8<(↑(List.length (Zb.ZG a1)):Int) then
 some Bool.false
 else
 (Zfw a0 a1).bind fun l05Parts0 =>
 if l05Parts0=true then
 Zv (fun v=>ZcG a1 v.1 v.2.1) (([]:List (List UInt8)),(0:Int),())
 else
 some Bool.false
 else
 some Bool.false
def c75:Ctr:=D2 (Xh) (YG) (.bool) Zfe
def Zb2 (v1:Int) (x0:Ze) (v2:List ZF) (v3:Int):Option (((List ZF)×Int×Unit) ⊕ (((List ZF)×Int×Unit) ⊕ List ZF)) :=
 if v3<(↑(List.length (Ze.ZI x0)):Int) then
 (atI (Ze.ZI x0) v3).bind fun x1 =>
 Zt ((List.length v2+List.length [(v1,v3,x1,Decidable.decide (v3=Wq ((↑(List.length (Ze.ZI x0)):Int)-(1:Int))),())])*(32:Nat)≤(140737488355328:Nat)) <|
 some (.inl (v2++[(v1,v3,x1,Decidable.decide (v3=Wq ((↑(List.length (Ze.ZI x0)):Int)-(1:Int))),())],Wq (v3+(1:Int)),()))
 else
 some (.inr (.inl (v2,Wq (v1+1),())))
def ZbW (a0:Zb) (v2:List ZF) (v3:Int):Option (((List ZF)×Int×Unit) ⊕ (((List ZF)×Int×Unit) ⊕ List ZF)) :=
 if v3<(↑(List.length (Zb.ZG a0)):Int) then
 (atI (Zb.ZG a0) v3).bind fun x0 =>
 Zt ((List.length v2+List.length [((-1:Int),v3,ZR.Net x0,Decidable.decide (ZR.Dir x0=(1:Int)),())])*(32:Nat)≤(140737488355328:Nat)) <|
 some (.inl (v2++[((-1:Int),v3,ZR.Net x0,Decidable.decide (ZR.Dir x0=(1:Int)),())],Wq (v3+(1:Int)),()))
 else
 some (.inr (.inr v2))
def Zb7 (a0:Zb) (v0:List ZF) (v1:Int):Option (((List ZF)×Int×Unit) ⊕ List ZF) :=
 if v1<(↑(List.length (Zb.Instances a0)):Int) then
 (atI (Zb.Instances a0) v1).bind fun x0 =>
 Zv (fun v=>Zb2 v1 x0 v.1 v.2.1) (v0,(0:Int),())
 else
 Zv (fun v=>ZbW a0 v.1 v.2.1) (v0,(0:Int),())
def Y0 (a0:Zb):Option (List ZF) :=
 Zv (fun v=>Zb7 a0 v.1 v.2.1) (([]:List (Int×Int×Int×Bool×Unit)),(0:Int),())
def c76:Ctr:=⟨[.dat (YG)],[.own (.ol 244 (.flat (ZfE)))],fun a K=>splitK a fun a0 a=>YR (Y0 a0) fun r=>K (r,()) ()⟩
def ZcO (net0:Int) (l05Places0:List ZF) (out0:List Int) (i0:Int):Option (((List Int)×Int×Unit) ⊕ List Int) :=
 if i0<(↑l05Places0.length:Int) then
 (atI l05Places0 i0).bind fun x0 =>
 if ZF.net x0=net0 then
 if (ZF.drives x0)=true then
 some (.inl (out0,Wq (i0+1),()))
 else
 Zt ((List.length out0+List.length [i0])*(8:Nat)≤(140737488355328:Nat)) <|
 some (.inl (out0++[i0],Wq (i0+(1:Int)),()))
 else
 some (.inl (out0,Wq (i0+1),()))
 else
 some (.inr out0)
def Qc (d0:Zb) (net0:Int):Option (List Int) :=
 (Y0 d0).bind fun l05Places0 =>
 Zv (fun v=>ZcO net0 l05Places0 v.1 v.2.1) (([]:List Int),(0:Int),())
def c77:Ctr:=⟨[.dat (YG),.dat Iq],[.own (.ol 2 (.flat Iq))],fun a K=>splitK a fun d0 a=>splitK a fun net0 a=>YR (Qc d0 net0) fun r=>K (r,()) ()⟩
def Zd9 (a0:Zr) (v1:Int):Option ((Int×Unit) ⊕ ((Int×Unit) ⊕ Bool)) :=
 if v1<(↑(List.length (Zr.Ze6 a0)):Int) then
 (atI (Zr.Ze6 a0) v1).bind fun x0 =>
 (ZB x0 0 (Wq ((↑(List.length (Zr.Parent a0)):Int)-1))).bind fun l01In0 =>
 if l01In0=true then
 some (.inl (Wq (v1+1),()))
 else
 some (.inr (.inr Bool.false))
 else
 some (.inr (.inr Bool.true))
def ZdY (a0:Zr) (v0:Int):Option ((Int×Unit) ⊕ Bool) :=
 if v0<(↑(List.length (Zr.Parent a0)):Int) then
 (atI (Zr.Cap a0) v0).bind fun x0 =>
 (ZB x0 0 500).bind fun l01In0 =>
 if l01In0=true then
 (atI (Zr.Res a0) v0).bind fun x1 =>
 (ZB x1 0 1000).bind fun l01In1 =>
 if l01In1=true then
 if v0=0 then
 (atI (Zr.Parent a0) v0).bind fun x2 =>
 if x2=(-1) then
 if x1=0 then
 if 0<v0 then
 (ZB x2 0 (Wq (v0-1))).bind fun l01In2 =>
 if l01In2=true then
 some (.inl (Wq (v0+1),()))
 else
 some (.inr Bool.false)
 else
 some (.inl (Wq (v0+1),()))
 else
 some (.inr Bool.false)
 else
 some (.inr Bool.false)
 else
 if 0<v0 then
 (atI (Zr.Parent a0) v0).bind fun x2 =>
 (ZB x2 0 (Wq (v0-1))).bind fun l01In2 =>
 if l01In2=true then
 some (.inl (Wq (v0+1),()))
 else
 some (.inr Bool.false)
 else
 some (.inl (Wq (v0+1),()))
 else
 some (.inr Bool.false)
 else
 some (.inr Bool.false)
 else
 Zv (fun v=>Zd9 a0 v.1) ((0:Int),())
def Zf3 (a0:Zr) (a1:Int):Option Bool :=
 if (↑(List.length (Zr.Parent a0)):Int)<1 then
 some Bool.false
 else
 if 8<(↑(List.length (Zr.Parent a0)):Int) then
 some Bool.false
 else
 if (↑(List.length (Zr.Res a0)):Int)=(↑(List.length (Zr.Parent a0)):Int) then
 if (↑(List.length (Zr.Cap a0)):Int)=(↑(List.length (Zr.Parent a0)):Int) then
 if (↑(List.length (Zr.Ze6 a0)):Int)=a1 then
 Zv (fun v=>ZdY a0 v.1) ((0:Int),())
 else
 some Bool.false
 else
 some Bool.false
 else
 some Bool.false
def c78:Ctr:=D2 (Vv) Iq (.bool) Zf3
def ZdF (b0:Za) (net0:Int):Option ((Int×Unit) ⊕ Bool) :=
 if net0<(↑(List.length (Za.Zz b0)):Int) then
 (atI (Za.Zz b0) net0).bind fun x0 =>
 (Qc (Za.Design b0) net0).bind fun l05Sinks0 =>
 (Zf3 x0 (↑l05Sinks0.length:Int)).bind fun IsWire0 =>
 if IsWire0=true then
 some (.inl (Wq (net0+1),()))
 else
 some (.inr Bool.false)
 else
 some (.inr Bool.true)
def ZcV (b0:Za):Option Bool :=
 (Zfe (Za.Library b0) (Za.Design b0)).bind fun IsDesign0 =>
 if IsDesign0=true then
 if (↑(List.length (Za.Zz b0)):Int)=(↑(List.length (Zb.ZI (Za.Design b0))):Int) then
 Zv (fun v=>ZdF b0 v.1) ((0:Int),())
 else
 some Bool.false
 else
 some Bool.false
def c79:Ctr:=D1 (Y3) (.bool) ZcV
def Zfb (c0:Zl):Option Bool :=
 (Jl (Zl.Name c0)).bind fun l03Name0 =>
 if l03Name0=true then
 if 0≤Zl.Place c0 then
 (ZB (Zl.X6 c0) 0 100000).bind fun l01In0 =>
 if l01In0=true then
 (ZB (Zl.VE c0) (Zl.X6 c0) 100000).bind fun l01In1 =>
 if l01In1=true then
 (ZB (Zl.Zbe c0) 0 100000).bind fun l01In2 =>
 some l01In2
 else
 some Bool.false
 else
 some Bool.false
 else
 some Bool.false
 else
 some Bool.false
def c80:Ctr:=D1 (XF) (.bool) Zfb
def ZcY (c0:Zl):Option Bool :=
 (ZB (Zl.Zca c0) 2 100000).bind fun l01In0 =>
 if l01In0=true then
 (ZB (Zl.ZdJ c0) 0 (Wq (Zl.Zca c0-1))).bind fun l01In1 =>
 if l01In1=true then
 (ZB (Zl.ZdM c0) 0 (Wq (Zl.Zca c0-1))).bind fun l01In2 =>
 if l01In2=true then
 if Zl.ZdJ c0=Zl.ZdM c0 then
 some Bool.false
 else
 if Zl.Divide c0=1 then
 some (!Zl.Zkd c0)
 else
 some Bool.false
 else
 some Bool.false
 else
 some Bool.false
 else
 some Bool.false
def c81:Ctr:=D1 (XF) (.bool) ZcY
def Zbp (rec0:(List Zl)→Int→Option Xu) (list0:List Zl) (k0:Int):Option Xu :=
 (atI list0 k0).bind fun x0 =>
 if Zl.Source x0<0 then
 some (Zl.Zca x0,Zl.ZdJ x0,Zl.ZdM x0,())
 else
 (rec0 list0 (Zl.Source x0)).bind fun r0 =>
 if 1<Zl.Divide x0 then
 if (Zl.Zkd x0)=true then
 some (Wq (Xu.period r0*Zl.Divide x0),Wq (Xu.rise r0+Wq (Wq (Int.tdiv (Zl.Divide x0) 2)*Xu.period r0)),Xu.rise r0,())
 else
 some (Wq (Xu.period r0*Zl.Divide x0),Xu.rise r0,Wq (Xu.rise r0+Wq (Wq (Int.tdiv (Zl.Divide x0) 2)*Xu.period r0)),())
 else
 if (Zl.Zkd x0)=true then
 some (Xu.period r0,Xu.fall r0,Xu.rise r0,())
 else
 some r0
def Zbt:Nat→(List Zl)→Int→Option Xu
 | 0=>fun _ _=>none
 | n+1=>Zbp (Zbt n)
def Zju (list0:List Zl) (k0:Int):Option Xu:=ZzE (fun n=>Zbt n list0 k0)
def Ze9 (rec0:(List Zl)→Int→Option Xu):Ctr:=⟨[.dat (.sl (XF)),.dat Iq],[.dat (Zuy)],fun a K=>splitK a fun list0 a=>splitK a fun k0 a=>YR (rec0 list0 k0) fun r=>K (r,()) ()⟩
def c82:Ctr:=Ze9 Zju
def Zaq (a0:List Zl) (v0:Int) (x0:Zl) (v1:Int):Option ((Int×Unit) ⊕ ((Int×Unit) ⊕ Bool)) :=
 if v1<v0 then
 (atI a0 v1).bind fun x1 =>
 if Zl.Name x1=Zl.Name x0 then
 some (.inr (.inr Bool.false))
 else
 some (.inl (Wq (v1+1),()))
 else
 if Zl.Source x0=(-1) then
 (ZcY x0).bind fun l14Primary0 =>
 if l14Primary0=true then
 some (.inr (.inl (Wq (v0+1),())))
 else
 some (.inr (.inr Bool.false))
 else
 (ZB (Zl.Source x0) 0 (Wq (v0-1))).bind fun l01In0 =>
 if l01In0=true then
 (ZB (Zl.Divide x0) 1 8).bind fun l01In1 =>
 if l01In1=true then
 if Zl.Zca x0=0 then
 if Zl.ZdJ x0=0 then
 if Zl.ZdM x0=0 then
 (Zju a0 v0).bind fun l14Of0 =>
 if 100000<Xu.period l14Of0 then
 some (.inr (.inr Bool.false))
 else
 some (.inr (.inl (Wq (v0+1),())))
 else
 some (.inr (.inr Bool.false))
 else
 some (.inr (.inr Bool.false))
 else
 some (.inr (.inr Bool.false))
 else
 some (.inr (.inr Bool.false))
 else
 some (.inr (.inr Bool.false))
def ZcD (a0:List Zl) (v0:Int):Option ((Int×Unit) ⊕ Bool) :=
 if v0<(↑a0.length:Int) then
 if (↑a0.length:Int)≤6 then
 (atI a0 v0).bind fun x0 =>
 (Zfb x0).bind fun l14Plain0 =>
 if l14Plain0=true then
 Zv (fun v=>Zaq a0 v0 x0 v.1) ((0:Int),())
 else
 some (.inr Bool.false)
 else
 some (.inr (Decidable.decide ((↑a0.length:Int)≤6)))
 else
 some (.inr (Decidable.decide ((↑a0.length:Int)≤6)))
def Zfn (a0:List Zl):Option Bool :=
 Zv (fun v=>ZcD a0 v.1) ((0:Int),())
def c83:Ctr:=D1 (.sl (XF)) (.bool) Zfn
def ZcL (c0:Zy) (i0:Int):Option ((Int×Unit) ⊕ Bool) :=
 if i0<(↑(List.length [Zy.Zbc c0,Zy.ZdE c0,Zy.Zcb c0,Zy.Zeo c0]):Int) then
 (atI ([Zy.Zbc c0,Zy.ZdE c0,Zy.Zcb c0,Zy.Zeo c0]) i0).bind fun x0 =>
 (ZB x0 100 5000).bind fun l01In0 =>
 if l01In0=true then
 some (.inl (Wq (i0+1),()))
 else
 some (.inr Bool.false)
 else
 (Jl (Zy.Name c0)).bind fun l03Name0 =>
 if l03Name0=true then
 if Zy.Zbc c0≤Zy.ZdE c0 then
 some (.inr (Decidable.decide (Zy.Zcb c0≤Zy.Zeo c0)))
 else
 some (.inr Bool.false)
 else
 some (.inr Bool.false)
def Zfj (c0:Zy):Option Bool :=
 Zv (fun v=>ZcL c0 v.1) ((0:Int),())
def c84:Ctr:=D1 (Xf) (.bool) Zfj
def Zbo (list0:List Zy) (i0:Int) (x0:Zy) (k0:Int):Option ((Int×Unit) ⊕ ((Int×Unit) ⊕ Bool)) :=
 if k0<i0 then
 (atI list0 k0).bind fun x1 =>
 if Zy.Name x1=Zy.Name x0 then
 some (.inr (.inr Bool.false))
 else
 some (.inl (Wq (k0+1),()))
 else
 some (.inr (.inl (Wq (i0+1),())))
def Zbj (list0:List Zy) (i0:Int):Option ((Int×Unit) ⊕ Bool) :=
 if i0<(↑list0.length:Int) then
 (atI list0 i0).bind fun x0 =>
 (Zfj x0).bind fun IsCorner0 =>
 if IsCorner0=true then
 Zv (fun v=>Zbo list0 i0 x0 v.1) ((0:Int),())
 else
 some (.inr Bool.false)
 else
 some (.inr (Decidable.decide ((↑list0.length:Int)≤4)))
def Zdj (list0:List Zy):Option Bool :=
 Zv (fun v=>Zbj list0 v.1) ((0:Int),())
def c85:Ctr:=D1 (.sl (Xf)) (.bool) Zdj
def Zfo (b0:Za):Option Int :=
 (Y0 (Za.Design b0)).bind fun l05Places0 =>
 some (↑l05Places0.length:Int)
def c86:Ctr:=D1 (Y3) Iq Zfo
def ZbV (b0:Za) (list0:List Int) (sorted0:Bool) (i0:Int):Option ((Int×Unit) ⊕ Bool) :=
 if i0<(↑list0.length:Int) then
 (atI list0 i0).bind fun x0 =>
 (Zfo b0).bind fun l22Count0 =>
 (ZB x0 0 (Wq (l22Count0-1))).bind fun l01In0 =>
 if l01In0=true then
 if sorted0=true then
 if 0<i0 then
 (atI list0 (Wq (i0-1))).bind fun x1 =>
 if x0≤x1 then
 some (.inr Bool.false)
 else
 some (.inl (Wq (i0+1),()))
 else
 some (.inl (Wq (i0+1),()))
 else
 some (.inl (Wq (i0+1),()))
 else
 some (.inr Bool.false)
 else
 some (.inr (Decidable.decide ((↑list0.length:Int)≤4)))
def ZaH (b0:Za) (list0:List Int) (sorted0:Bool):Option Bool :=
 Zv (fun v=>ZbV b0 list0 sorted0 v.1) ((0:Int),())
def c87:Ctr:=D3 (Y3) (.sl Iq) (.bool) (.bool) ZaH
def Zcs (b0:Za) (e0:Zg):Option Bool :=
 (ZcV b0).bind fun IsBlock0 =>
 if IsBlock0=true then
 (ZaH b0 (Zg.From e0) Bool.true).bind fun l22Places0 =>
 if l22Places0=true then
 (ZaH b0 (Zg.Through e0) Bool.false).bind fun l22Places1 =>
 if l22Places1=true then
 (ZaH b0 (Zg.To e0) Bool.true).bind fun l22Places2 =>
 if l22Places2=true then
 if Zg.Kind e0=1 then
 some (Decidable.decide (Zg.Value e0=0))
 else
 if Zg.Kind e0=2 then
 (ZB (Zg.Value e0) 1 10).bind fun l01In0 =>
 some l01In0
 else
 if Zg.Kind e0=3 then
 if Zg.Kind e0=3 then
 (ZB (Zg.Value e0) 0 1000000000).bind fun l01In0 =>
 some l01In0
 else
 some Bool.false
 else
 if Zg.Kind e0=4 then
 (ZB (Zg.Value e0) 0 1000000000).bind fun l01In0 =>
 some l01In0
 else
 some Bool.false
 else
 some Bool.false
 else
 some Bool.false
 else
 some Bool.false
 else
 some Bool.false
def c88:Ctr:=D2 (Y3) (Yn) (.bool) Zcs
def ZcZ (s0:YQ):Option Bool :=
 if 0≤YQ.Early s0 then
 if YQ.Early s0≤YQ.Late s0 then
 some (Decidable.decide (YQ.Late s0≤1000000))
 else
 some Bool.false
 else
 some Bool.false
def c89:Ctr:=D1 (Zmy) (.bool) ZcZ
def Zas (a1:Zn) (a2:List Zj) (a3:Bool) (l05Places0:List ZF) (v0:Int):Option ((Int×Unit) ⊕ Bool) :=
 if v0<(↑a2.length:Int) then
 (atI a2 v0).bind fun x0 =>
 (ZB (Zj.Place x0) 0 (Wq ((↑l05Places0.length:Int)-1))).bind fun l01In0 =>
 if l01In0=true then
 if 0<v0 then
 (atI a2 (Wq (v0-1))).bind fun x1 =>
 if Zj.Place x0≤Zj.Place x1 then
 some (.inr Bool.false)
 else
 (ZB (Zj.Clock x0) 0 (Wq ((↑(List.length (Zn.YE a1)):Int)-1))).bind fun l01In1 =>
 if l01In1=true then
 (atI l05Places0 (Zj.Place x0)).bind fun x2 =>
 if 0≤ZF.instance x2 then
 some (.inr Bool.false)
 else
 if (ZF.drives x2 == a3)=true then
 if YQ.Late (Zj.Delay x0)<YQ.Early (Zj.Delay x0) then
 some (.inr Bool.false)
 else
 if YQ.Early (Zj.Delay x0)<(-100000) then
 some (.inr Bool.false)
 else
 if 100000<YQ.Late (Zj.Delay x0) then
 some (.inr Bool.false)
 else
 (ZcZ (Zj.ZdS x0)).bind fun l12Slews0 =>
 if l12Slews0=true then
 if a3=true then
 some (.inl (Wq (v0+1),()))
 else
 if (Decidable.decide (YQ.Early (Zj.ZdS x0)=0)&&Decidable.decide (YQ.Late (Zj.ZdS x0)=0))=true then
 some (.inl (Wq (v0+1),()))
 else
 some (.inr Bool.false)
 else
 some (.inr Bool.false)
 else
 some (.inr Bool.false)
 else
 some (.inr Bool.false)
 else
 (ZB (Zj.Clock x0) 0 (Wq ((↑(List.length (Zn.YE a1)):Int)-1))).bind fun l01In1 =>
 if l01In1=true then
 (atI l05Places0 (Zj.Place x0)).bind fun x1 =>
 if 0≤ZF.instance x1 then
 some (.inr Bool.false)
 else
 if (ZF.drives x1 == a3)=true then
 if YQ.Late (Zj.Delay x0)<YQ.Early (Zj.Delay x0) then
 some (.inr Bool.false)
 else
 if YQ.Early (Zj.Delay x0)<(-100000) then
 some (.inr Bool.false)
 else
 if 100000<YQ.Late (Zj.Delay x0) then
 some (.inr Bool.false)
 else
 (ZcZ (Zj.ZdS x0)).bind fun l12Slews0 =>
 if l12Slews0=true then
 if a3=true then
 some (.inl (Wq (v0+1),()))
 else
 if (Decidable.decide (YQ.Early (Zj.ZdS x0)=0)&&Decidable.decide (YQ.Late (Zj.ZdS x0)=0))=true then
 some (.inl (Wq (v0+1),()))
 else
 some (.inr Bool.false)
 else
 some (.inr Bool.false)
 else
 some (.inr Bool.false)
 else
 some (.inr Bool.false)
 else
 some (.inr Bool.false)
 else
 some (.inr Bool.true)
def J5 (a0:Za) (a1:Zn) (a2:List Zj) (a3:Bool):Option Bool :=
 (Y0 (Za.Design a0)).bind fun l05Places0 =>
 Zv (fun v=>Zas a1 a2 a3 l05Places0 v.1) ((0:Int),())
def c90:Ctr:=D4 (Y3) (QX) (.sl (Yg)) (.bool) (.bool) J5
def Zdg (a0:Za) (a1:Zn) (v1:Int):Option ((Int×Unit) ⊕ ((Int×Unit) ⊕ Bool)) :=
 if v1<(↑(List.length (Zn.Exceptions a1)):Int) then
 (atI (Zn.Exceptions a1) v1).bind fun x0 =>
 (Zcs a0 x0).bind fun IsException0 =>
 if IsException0=true then
 some (.inl (Wq (v1+1),()))
 else
 some (.inr (.inr Bool.false))
 else
 (J5 a0 a1 (Zn.XV a1) Bool.true).bind fun l31Externals0 =>
 if l31Externals0=true then
 (J5 a0 a1 (Zn.Y7 a1) Bool.false).bind fun l31Externals1 =>
 some (.inr (.inr l31Externals1))
 else
 some (.inr (.inr Bool.false))
def Zdy (a0:Za) (a1:Zn) (v0:Int):Option ((Int×Unit) ⊕ Bool) :=
 if v0<(↑(List.length (Zn.YE a1)):Int) then
 (atI (Zn.YE a1) v0).bind fun x0 =>
 (Y0 (Za.Design a0)).bind fun l05Places0 =>
 if (↑l05Places0.length:Int)≤Zl.Place x0 then
 some (.inr Bool.false)
 else
 some (.inl (Wq (v0+1),()))
 else
 Zv (fun v=>Zdg a0 a1 v.1) ((0:Int),())
def Zbw (a0:Za) (a1:Zn):Option Bool :=
 (ZcV a0).bind fun IsBlock0 =>
 if IsBlock0=true then
 (Zfn (Zn.YE a1)).bind fun IsClocks0 =>
 if IsClocks0=true then
 if 6<(↑(List.length (Zn.Exceptions a1)):Int) then
 some Bool.false
 else
 (Zdj (Zn.XT a1)).bind fun l31Corners0 =>
 if l31Corners0=true then
 Zv (fun v=>Zdy a0 a1 v.1) ((0:Int),())
 else
 some Bool.false
 else
 some Bool.false
 else
 some Bool.false
def c91:Ctr:=D2 (Y3) (QX) (.bool) Zbw
def Zfp (a0:Zh):Option Bool :=
 if Zh.Kind a0=1 then
 if Zh.Net a0=0 then
 if Zh.Node a0=0 then
 if Zh.Name a0=([]:List UInt8) then
 some (Decidable.decide (Wq (Wq (Wq ((↑(List.length (Zr.Parent (Zh.Ze7 a0))):Int)+(↑(List.length (Zr.Res (Zh.Ze7 a0))):Int))+(↑(List.length (Zr.Cap (Zh.Ze7 a0))):Int))+(↑(List.length (Zr.Ze6 (Zh.Ze7 a0))):Int))=0))
 else
 some Bool.false
 else
 some Bool.false
 else
 some Bool.false
 else
 if Zh.Kind a0=2 then
 if Zh.Net a0=0 then
 if Zh.Node a0=0 then
 some (Decidable.decide (Wq (Wq (Wq ((↑(List.length (Zr.Parent (Zh.Ze7 a0))):Int)+(↑(List.length (Zr.Res (Zh.Ze7 a0))):Int))+(↑(List.length (Zr.Cap (Zh.Ze7 a0))):Int))+(↑(List.length (Zr.Ze6 (Zh.Ze7 a0))):Int))=0))
 else
 some Bool.false
 else
 some Bool.false
 else
 if Zh.Kind a0=3 then
 if Zh.Place a0=0 then
 if Zh.Cell a0=0 then
 if Zh.Net a0=0 then
 if Zh.Node a0=0 then
 if Zh.Name a0=([]:List UInt8) then
 some (Decidable.decide (Wq (Wq (Wq ((↑(List.length (Zr.Parent (Zh.Ze7 a0))):Int)+(↑(List.length (Zr.Res (Zh.Ze7 a0))):Int))+(↑(List.length (Zr.Cap (Zh.Ze7 a0))):Int))+(↑(List.length (Zr.Ze6 (Zh.Ze7 a0))):Int))=0))
 else
 some Bool.false
 else
 some Bool.false
 else
 some Bool.false
 else
 some Bool.false
 else
 some Bool.false
 else
 if Zh.Kind a0=4 then
 if Zh.Cell a0=0 then
 if Zh.Name a0=([]:List UInt8) then
 some (Decidable.decide (Wq (Wq (Wq ((↑(List.length (Zr.Parent (Zh.Ze7 a0))):Int)+(↑(List.length (Zr.Res (Zh.Ze7 a0))):Int))+(↑(List.length (Zr.Cap (Zh.Ze7 a0))):Int))+(↑(List.length (Zr.Ze6 (Zh.Ze7 a0))):Int))=0))
 else
 some Bool.false
 else
 some Bool.false
 else
 if Zh.Kind a0=5 then
 if Zh.Place a0=0 then
 if Zh.Cell a0=0 then
 if Zh.Node a0=0 then
 some (Decidable.decide (Zh.Name a0=([]:List UInt8)))
 else
 some Bool.false
 else
 some Bool.false
 else
 some Bool.false
 else
 some Bool.false
def c92:Ctr:=D1 (XL) (.bool) Zfp
def Zfv (a0:Za) (a1:Zh):Option Bool :=
 (Y0 (Za.Design a0)).bind fun l05Places0 =>
 if Zh.Kind a1=1 then
 if Zh.Kind a1=1 then
 (ZB (Zh.Place a1) 0 (Wq ((↑l05Places0.length:Int)-1))).bind fun l01In0 =>
 if l01In0=true then
 (ZB (Zh.Cell a1) 0 (Wq ((↑(List.length (Zo.Cells (Za.Library a0))):Int)-1))).bind fun l01In1 =>
 some l01In1
 else
 some Bool.false
 else
 if Zh.Kind a1=4 then
 (ZB (Zh.Place a1) 0 (Wq ((↑l05Places0.length:Int)-1))).bind fun l01In0 =>
 if l01In0=true then
 (ZB (Zh.Net a1) 0 (Wq ((↑(List.length (Za.Zz a0)):Int)-1))).bind fun l01In1 =>
 if l01In1=true then
 (atI (Za.Zz a0) (Zh.Net a1)).bind fun x0 =>
 (ZB (Zh.Node a1) 0 (Wq ((↑(List.length (Zr.Parent x0)):Int)-1))).bind fun l01In2 =>
 some l01In2
 else
 some Bool.false
 else
 some Bool.false
 else
 if Zh.Kind a1=5 then
 (ZB (Zh.Net a1) 0 (Wq ((↑(List.length (Za.Zz a0)):Int)-1))).bind fun l01In0 =>
 some l01In0
 else
 some Bool.true
 else
 if Zh.Kind a1=2 then
 (ZB (Zh.Place a1) 0 (Wq ((↑l05Places0.length:Int)-1))).bind fun l01In0 =>
 if l01In0=true then
 (ZB (Zh.Cell a1) 0 (Wq ((↑(List.length (Zo.Cells (Za.Library a0))):Int)-1))).bind fun l01In1 =>
 some l01In1
 else
 some Bool.false
 else
 if Zh.Kind a1=4 then
 (ZB (Zh.Place a1) 0 (Wq ((↑l05Places0.length:Int)-1))).bind fun l01In0 =>
 if l01In0=true then
 (ZB (Zh.Net a1) 0 (Wq ((↑(List.length (Za.Zz a0)):Int)-1))).bind fun l01In1 =>
 if l01In1=true then
 (atI (Za.Zz a0) (Zh.Net a1)).bind fun x0 =>
 (ZB (Zh.Node a1) 0 (Wq ((↑(List.length (Zr.Parent x0)):Int)-1))).bind fun l01In2 =>
 some l01In2
 else
 some Bool.false
 else
 some Bool.false
 else
 if Zh.Kind a1=5 then
 (ZB (Zh.Net a1) 0 (Wq ((↑(List.length (Za.Zz a0)):Int)-1))).bind fun l01In0 =>
 some l01In0
 else
 some Bool.true
def c93:Ctr:=D2 (Y3) (XL) (.bool) Zfv
def Zan (a0:Zm) (b0:Zm) (i0:Int):Option ((Int×Unit) ⊕ Bool) :=
 if i0<(↑(List.length (Zm.Yw a0)):Int) then
 (atI (Zm.Yw a0) i0).bind fun x0 =>
 (atI (Zm.Yw b0) i0).bind fun x1 =>
 if (YP.Clock x0 == YP.Clock x1)=true then
 some (.inl (Wq (i0+1),()))
 else
 some (.inr Bool.false)
 else
 some (.inr Bool.true)
def Jp (a0:Zm) (b0:Zm):Option Bool :=
 if Zm.Kind a0=Zm.Kind b0 then
 if (↑(List.length (Zm.Yw a0)):Int)=(↑(List.length (Zm.Yw b0)):Int) then
 Zv (fun v=>Zan a0 b0 v.1) ((0:Int),())
 else
 some Bool.false
 else
 some Bool.false
def c94:Ctr:=D2 (QL) (QL) (.bool) Jp
def Zcg (c0:Zm):Option Bool :=
 if Zm.Kind c0=1 then
 some (Decidable.decide ((↑(List.length (Zm.Yw c0)):Int)=2))
 else
 some Bool.false
def c95:Ctr:=D1 (QL) (.bool) Zcg
def J7 (d0:Zb) (name0:List UInt8) (i0:Int):Option ((Int×Unit) ⊕ Int) :=
 if i0<(↑(List.length (Zb.Instances d0)):Int) then
 (atI (Zb.Instances d0) i0).bind fun x0 =>
 if Ze.Name x0=name0 then
 some (.inr i0)
 else
 some (.inl (Wq (i0+1),()))
 else
 some (.inr (-1))
def Za9 (d0:Zb) (name0:List UInt8):Option Int :=
 Zv (fun v=>J7 d0 name0 v.1) ((0:Int),())
def c96:Ctr:=D2 (YG) (.str) Iq Za9
def ZcQ (list0:List (List UInt8)) (word0:List UInt8) (i0:Int):Option ((Int×Unit) ⊕ Int) :=
 if i0<(↑list0.length:Int) then
 (atI list0 i0).bind fun x0 =>
 if x0=word0 then
 some (.inr i0)
 else
 some (.inl (Wq (i0+1),()))
 else
 some (.inr (-1))
def ZhV (list0:List (List UInt8)) (word0:List UInt8):Option Int :=
 Zv (fun v=>ZcQ list0 word0 v.1) ((0:Int),())
def c97:Ctr:=D2 (.sl (.str)) (.str) Iq ZhV
def Zff (d0:Zb) (name0:List UInt8):Option Int :=
 (ZhV (Zb.ZI d0) name0).bind fun l04Index0 =>
 some l04Index0
def c98:Ctr:=D2 (YG) (.str) Iq Zff
def Zjd (w0:Zr):Option Bool :=
 if (↑(List.length (Zr.Parent w0)):Int)=1 then
 (atI (Zr.Cap w0) 0).bind fun x0 =>
 some (Decidable.decide (x0=0))
 else
 some Bool.false
def c99:Ctr:=D1 (Vv) (.bool) Zjd
def ZgC (a0:Za):Option Bool :=
 if Wq ((↑(List.length (Zb.Instances (Za.Design a0))):Int)-1)<0 then
 some Bool.false
 else
 (atI (Zb.Instances (Za.Design a0)) (Wq ((↑(List.length (Zb.Instances (Za.Design a0))):Int)-1))).bind fun x0 =>
 (atI (Zo.Cells (Za.Library a0)) (Ze.Cell x0)).bind fun x1 =>
 (Zcg x1).bind fun l08Buffer0 =>
 if l08Buffer0=true then
 (atI (Ze.ZI x0) 1).bind fun x2 =>
 if x2=Wq ((↑(List.length (Za.Zz a0)):Int)-1) then
 (atI (Zb.ZI (Za.Design a0)) (Wq ((↑(List.length (Za.Zz a0)):Int)-1))).bind fun x3 =>
 if x3=Ze.Name x0 then
 (atI (Ze.ZI x0) 0).bind fun x4 =>
 if x4=Wq ((↑(List.length (Za.Zz a0)):Int)-1) then
 some Bool.false
 else
 (Qc (Za.Design a0) (Wq ((↑(List.length (Za.Zz a0)):Int)-1))).bind fun l05Sinks0 =>
 if (↑l05Sinks0.length:Int)=1 then
 (atI (Za.Zz a0) (Wq ((↑(List.length (Za.Zz a0)):Int)-1))).bind fun x5 =>
 (Zjd x5).bind fun l08Bare0 =>
 some l08Bare0
 else
 some Bool.false
 else
 some Bool.false
 else
 some Bool.false
 else
 some Bool.false
def ZDO:Ctr:=D1 (Y3) (.bool) ZgC
def Zfg (a0:Za) (a1:Zh):Option Bool :=
 (Y0 (Za.Design a0)).bind fun l05Places0 =>
 if Zh.Kind a1=1 then
 (atI l05Places0 (Zh.Place a1)).bind fun x0 =>
 if 0≤ZF.instance x0 then
 if (ZF.drives x0)=true then
 (atI (Zb.Instances (Za.Design a0)) (ZF.instance x0)).bind fun x1 =>
 (atI (Zo.Cells (Za.Library a0)) (Ze.Cell x1)).bind fun x2 =>
 (atI (Zo.Cells (Za.Library a0)) (Zh.Cell a1)).bind fun x3 =>
 (Jp x2 x3).bind fun l08Alike0 =>
 some l08Alike0
 else
 some Bool.false
 else
 some Bool.false
 else
 if Zh.Kind a1=2 then
 (atI l05Places0 (Zh.Place a1)).bind fun x0 =>
 if (ZF.drives x0)=true then
 some Bool.false
 else
 (atI (Zo.Cells (Za.Library a0)) (Zh.Cell a1)).bind fun x1 =>
 (Zcg x1).bind fun l08Buffer0 =>
 if l08Buffer0=true then
 (Jl (Zh.Name a1)).bind fun l03Name0 =>
 if l03Name0=true then
 (Za9 (Za.Design a0) (Zh.Name a1)).bind fun InstanceNamed0 =>
 if InstanceNamed0<0 then
 (Zff (Za.Design a0) (Zh.Name a1)).bind fun NetNamed0 =>
 some (Decidable.decide (NetNamed0<0))
 else
 some Bool.false
 else
 some Bool.false
 else
 some Bool.false
 else
 if Zh.Kind a1=3 then
 (ZgC a0).bind fun l08Last0 =>
 some l08Last0
 else
 if Zh.Kind a1=4 then
 (atI l05Places0 (Zh.Place a1)).bind fun x0 =>
 if (ZF.drives x0)=true then
 some Bool.false
 else
 some (!Decidable.decide (ZF.net x0=Zh.Net a1))
 else
 (Qc (Za.Design a0) (Zh.Net a1)).bind fun l05Sinks0 =>
 (Zf3 (Zh.Ze7 a1) (↑l05Sinks0.length:Int)).bind fun IsWire0 =>
 some IsWire0
def ZC2:Ctr:=D2 (Y3) (XL) (.bool) Zfg
def ZbP (b0:Za) (e0:Zh):Option Int :=
 (ZcV b0).bind fun IsBlock0 =>
 if IsBlock0=true then
 (Zfp e0).bind fun l08Blank0 =>
 if l08Blank0=true then
 (Zfv b0 e0).bind fun l08Range0 =>
 if l08Range0=true then
 (Zfg b0 e0).bind fun l08State0 =>
 if l08State0=true then
 if Zh.Kind e0=2 then
 if (↑(List.length (Zb.Instances (Za.Design b0))):Int)=14 then
 some 3
 else
 if (↑(List.length (Za.Zz b0)):Int)=30 then
 some 3
 else
 some 0
 else
 some 0
 else
 some 5
 else
 some 2
 else
 some 2
 else
 some 1
def ZFf:Ctr:=D2 (Y3) (XL) Iq ZbP
def JC (b0:Za) (e0:Zh) (l05Places0:List ZF) (out0:List Int) (p0:Int):Option (((List Int)×Int×Unit) ⊕ List Int) :=
 if p0<(↑l05Places0.length:Int) then
 if Zh.Kind e0=2 then
 if Wq ((↑l05Places0.length:Int)-(↑(List.length (Zb.ZG (Za.Design b0))):Int))≤p0 then
 Zt ((List.length out0+List.length [Wq (p0+(2:Int))])*(8:Nat)≤(140737488355328:Nat)) <|
 some (.inl (out0++[Wq (p0+(2:Int))],Wq (p0+(1:Int)),()))
 else
 if Zh.Kind e0=3 then
 if Wq ((↑l05Places0.length:Int)-(↑(List.length (Zb.ZG (Za.Design b0))):Int))≤p0 then
 Zt ((List.length out0+List.length [Wq (p0-(2:Int))])*(8:Nat)≤(140737488355328:Nat)) <|
 some (.inl (out0++[Wq (p0-(2:Int))],Wq (p0+(1:Int)),()))
 else
 if Zh.Kind e0=3 then
 if Wq (Wq ((↑l05Places0.length:Int)-(↑(List.length (Zb.ZG (Za.Design b0))):Int))-2)≤p0 then
 Zt ((List.length out0+List.length [(-1:Int)])*(8:Nat)≤(140737488355328:Nat)) <|
 some (.inl (out0++[(-1:Int)],Wq (p0+(1:Int)),()))
 else
 Zt ((List.length out0+List.length [p0])*(8:Nat)≤(140737488355328:Nat)) <|
 some (.inl (out0++[p0],Wq (p0+(1:Int)),()))
 else
 Zt ((List.length out0+List.length [p0])*(8:Nat)≤(140737488355328:Nat)) <|
 some (.inl (out0++[p0],Wq (p0+(1:Int)),()))
 else
 if Zh.Kind e0=3 then
 if Wq (Wq ((↑l05Places0.length:Int)-(↑(List.length (Zb.ZG (Za.Design b0))):Int))-2)≤p0 then
 Zt ((List.length out0+List.length [(-1:Int)])*(8:Nat)≤(140737488355328:Nat)) <|
 some (.inl (out0++[(-1:Int)],Wq (p0+(1:Int)),()))
 else
 Zt ((List.length out0+List.length [p0])*(8:Nat)≤(140737488355328:Nat)) <|
 some (.inl (out0++[p0],Wq (p0+(1:Int)),()))
 else
 Zt ((List.length out0+List.length [p0])*(8:Nat)≤(140737488355328:Nat)) <|
 some (.inl (out0++[p0],Wq (p0+(1:Int)),()))
 else
 if Zh.Kind e0=3 then
 if Wq ((↑l05Places0.length:Int)-(↑(List.length (Zb.ZG (Za.Design b0))):Int))≤p0 then
 Zt ((List.length out0+List.length [Wq (p0-(2:Int))])*(8:Nat)≤(140737488355328:Nat)) <|
 some (.inl (out0++[Wq (p0-(2:Int))],Wq (p0+(1:Int)),()))
 else
 if Zh.Kind e0=3 then
 if Wq (Wq ((↑l05Places0.length:Int)-(↑(List.length (Zb.ZG (Za.Design b0))):Int))-2)≤p0 then
 Zt ((List.length out0+List.length [(-1:Int)])*(8:Nat)≤(140737488355328:Nat)) <|
 some (.inl (out0++[(-1:Int)],Wq (p0+(1:Int)),()))
 else
 Zt ((List.length out0+List.length [p0])*(8:Nat)≤(140737488355328:Nat)) <|
 some (.inl (out0++[p0],Wq (p0+(1:Int)),()))
 else
 Zt ((List.length out0+List.length [p0])*(8:Nat)≤(140737488355328:Nat)) <|
 some (.inl (out0++[p0],Wq (p0+(1:Int)),()))
 else
 if Zh.Kind e0=3 then
 if Wq (Wq ((↑l05Places0.length:Int)-(↑(List.length (Zb.ZG (Za.Design b0))):Int))-2)≤p0 then
 Zt ((List.length out0+List.length [(-1:Int)])*(8:Nat)≤(140737488355328:Nat)) <|
 some (.inl (out0++[(-1:Int)],Wq (p0+(1:Int)),()))
 else
 Zt ((List.length out0+List.length [p0])*(8:Nat)≤(140737488355328:Nat)) <|
 some (.inl (out0++[p0],Wq (p0+(1:Int)),()))
 else
 Zt ((List.length out0+List.length [p0])*(8:Nat)≤(140737488355328:Nat)) <|
 some (.inl (out0++[p0],Wq (p0+(1:Int)),()))
 else
 some (.inr out0)
def Zea (b0:Za) (e0:Zh):Option (List Int) :=
 (Y0 (Za.Design b0)).bind fun l05Places0 =>
 Zv (fun v=>JC b0 e0 l05Places0 v.1 v.2.1) (([]:List Int),(0:Int),())
def ZE1:Ctr:=⟨[.dat (Y3),.dat (XL)],[.own (.ol 2 (.flat Iq))],fun a K=>splitK a fun b0 a=>splitK a fun e0 a=>YR (Zea b0 e0) fun r=>K (r,()) ()⟩
def JI (list0:List Int) (after0:List Int) (out0:List Int) (i0:Int):Option (((List Int)×Int×Unit) ⊕ ((List Int)×Bool)) :=
 if i0<(↑list0.length:Int) then
 (atI list0 i0).bind fun x0 =>
 (atI after0 x0).bind fun x1 =>
 if x1<0 then
 some (.inr (([]:List Int),Bool.false))
 else
 Zt ((List.length out0+List.length [x1])*(8:Nat)≤(140737488355328:Nat)) <|
 some (.inl (out0++[x1],Wq (i0+(1:Int)),()))
 else
 some (.inr (out0,Bool.true))
def ZaN (list0:List Int) (after0:List Int):Option ((List Int)×Bool) :=
 Zv (fun v=>JI list0 after0 v.1 v.2.1) (([]:List Int),(0:Int),())
def ZDX:Ctr:=⟨[.dat (.sl Iq),.dat (.sl Iq)],[.own (.ol 2 (.flat Iq)),.dat (.bool)],fun a K=>splitK a fun list0 a=>splitK a fun after0 a=>YR (ZaN list0 after0) fun r=>K (r.1,r.2,()) ()⟩
def Vi (list0:List Zj) (after0:List Int) (out0:List Zj) (i0:Int):Option (((List Zj)×Int×Unit) ⊕ List Zj) :=
 if i0<(↑list0.length:Int) then
 (atI list0 i0).bind fun x0 =>
 (atI after0 (Zj.Place x0)).bind fun x1 =>
 Zt ((List.length out0+List.length [(x1,x0.snd)])*(48:Nat)≤(140737488355328:Nat)) <|
 some (.inl (out0++[(x1,x0.snd)],Wq (i0+(1:Int)),()))
 else
 some (.inr out0)
def J6 (list0:List Zj) (after0:List Int):Option (List Zj) :=
 Zv (fun v=>Vi list0 after0 v.1 v.2.1) (([]:List (Int×Int×YQ×YQ×Unit)),(0:Int),())
def c105:Ctr:=⟨[.dat (.sl (Yg)),.dat (.sl Iq)],[.own (.ol 187 (.flat (Yg)))],fun a K=>splitK a fun list0 a=>splitK a fun after0 a=>YR (J6 list0 after0) fun r=>K (r,()) ()⟩
def VK (a0:List Int) (a1:Zn) (v0:List Zl) (v2:List Zg) (v3:Bool) (v4:Int):Option (((List Zg)×Bool×Int×Unit) ⊕ (((List Zl)×Int×Unit) ⊕ (Zn×Bool))) :=
 if v4<(↑(List.length (Zn.Exceptions a1)):Int) then
 (atI (Zn.Exceptions a1) v4).bind fun x0 =>
 (ZaN (Zg.From x0) a0).bind fun l33Places0 =>
 (ZaN (Zg.Through x0) a0).bind fun l33Places1 =>
 (ZaN (Zg.To x0) a0).bind fun l33Places2 =>
 if v3=true then
 if l33Places0.snd=true then
 if l33Places1.snd=true then
 Zt ((List.length v2+List.length [(Zg.Kind x0,Zg.Value x0,l33Places0.fst,l33Places1.fst,l33Places2.fst,())])*(88:Nat)≤(140737488355328:Nat)) <|
 some (.inl (v2++[(Zg.Kind x0,Zg.Value x0,l33Places0.fst,l33Places1.fst,l33Places2.fst,())],l33Places2.snd,Wq (v4+(1:Int)),()))
 else
 Zt ((List.length v2+List.length [(Zg.Kind x0,Zg.Value x0,l33Places0.fst,l33Places1.fst,l33Places2.fst,())])*(88:Nat)≤(140737488355328:Nat)) <|
 some (.inl (v2++[(Zg.Kind x0,Zg.Value x0,l33Places0.fst,l33Places1.fst,l33Places2.fst,())],Bool.false,Wq (v4+(1:Int)),()))
 else
 Zt ((List.length v2+List.length [(Zg.Kind x0,Zg.Value x0,l33Places0.fst,l33Places1.fst,l33Places2.fst,())])*(88:Nat)≤(140737488355328:Nat)) <|
 some (.inl (v2++[(Zg.Kind x0,Zg.Value x0,l33Places0.fst,l33Places1.fst,l33Places2.fst,())],Bool.false,Wq (v4+(1:Int)),()))
 else
 Zt ((List.length v2+List.length [(Zg.Kind x0,Zg.Value x0,l33Places0.fst,l33Places1.fst,l33Places2.fst,())])*(88:Nat)≤(140737488355328:Nat)) <|
 some (.inl (v2++[(Zg.Kind x0,Zg.Value x0,l33Places0.fst,l33Places1.fst,l33Places2.fst,())],Bool.false,Wq (v4+(1:Int)),()))
 else
 Zt ((List.length (([]:List (List UInt8×Int×Int×Int×Int×Unit)))+List.length (Zn.XT a1))*(48:Nat)≤(140737488355328:Nat)) <|
 (J6 (Zn.XV a1) a0).bind fun l33Externals0 =>
 (J6 (Zn.Y7 a1) a0).bind fun l33Externals1 =>
 some (.inr (.inr ((v0,l33Externals0,l33Externals1,v2,([]:List (List UInt8×Int×Int×Int×Int×Unit))++Zn.XT a1,()),v3)))
def Zac (a0:List Int) (a1:Zn) (v0:List Zl) (v1:Int):Option (((List Zl)×Int×Unit) ⊕ (Zn×Bool)) :=
 if v1<(↑(List.length (Zn.YE a1)):Int) then
 (atI (Zn.YE a1) v1).bind fun x0 =>
 (atI a0 (Zl.Place x0)).bind fun x1 =>
 Zt ((List.length v0+List.length [(Zl.Name x0,x1,x0.snd.snd)])*(96:Nat)≤(140737488355328:Nat)) <|
 some (.inl (v0++[(Zl.Name x0,x1,x0.snd.snd)],Wq (v1+(1:Int)),()))
 else
 Zv (fun v=>VK a0 a1 v0 v.1 v.2.1 v.2.2.1) (([]:List Zg),Bool.true,(0:Int),())
def ZfA (a0:List Int) (a1:Zn):Option (Zn×Bool) :=
 Zv (fun v=>Zac a0 a1 v.1 v.2.1) (([]:List (List UInt8×Int×Int×Int×Int×Int×Int×Bool×Int×Int×Int×Unit)),(0:Int),())
def ZC6:Ctr:=⟨[.dat (.sl Iq),.dat (QX)],[.own (ZnC),.dat (.bool)],fun a K=>splitK a fun a0 a=>splitK a fun a1 a=>YR (ZfA a0 a1) fun r=>K (r.1,r.2,()) ()⟩
def XK (list0:List Int):Option (List Int) :=
 Zt ((List.length (([]:List Int))+List.length list0)*(8:Nat)≤(140737488355328:Nat)) <|
 some (([]:List Int)++list0)
def c107:Ctr:=⟨[.dat (.sl Iq)],[.own (.ol 2 (.flat Iq))],fun a K=>splitK a fun list0 a=>YR (XK list0) fun r=>K (r,()) ()⟩
def Ziw (t0:ZA):Option ZA :=
 (XK (ZA.Zg6 t0)).bind fun l02Ints0 =>
 (XK (ZA.Loads t0)).bind fun l02Ints1 =>
 (XK (ZA.Values t0)).bind fun l02Ints2 =>
 some (l02Ints0,l02Ints1,l02Ints2,())
def ZCC:Ctr:=⟨[.dat (XE)],[.own (Zgw)],fun a K=>splitK a fun t0 a=>YR (Ziw t0) fun r=>K (r,()) ()⟩
def Vk (list0:List ZA) (out0:List ZA) (i0:Int):Option (((List ZA)×Int×Unit) ⊕ List ZA) :=
 if i0<(↑list0.length:Int) then
 (atI list0 i0).bind fun x0 =>
 (Ziw x0).bind fun l02Own0 =>
 Zt ((List.length out0+List.length [l02Own0])*(72:Nat)≤(140737488355328:Nat)) <|
 some (.inl (out0++[l02Own0],Wq (i0+(1:Int)),()))
 else
 some (.inr out0)
def JM (list0:List ZA):Option (List ZA) :=
 Zv (fun v=>Vk list0 v.1 v.2.1) (([]:List ZA),(0:Int),())
def c109:Ctr:=⟨[.dat (.sl (XE))],[.own (.ol 341 (Zgw))],fun a K=>splitK a fun list0 a=>YR (JM list0) fun r=>K (r,()) ()⟩
def ZbQ (c0:Zm) (l02Ints0:List Int) (i0:Int) (c1:List ZJ):Option ((Int×(List ZJ)×Unit) ⊕ Zm) :=
 if i0<(↑(List.length (Zm.JQ c0)):Int) then
 (atI (Zm.JQ c0) i0).bind fun x0 =>
 (JM (ZJ.Delay x0)).bind fun l03OwnTables0 =>
 (JM (ZJ.ZdS x0)).bind fun l03OwnTables1 =>
 Zt ((List.length c1+List.length [(ZJ.Kind x0,ZJ.From x0,ZJ.To x0,ZJ.ZbJ x0,l03OwnTables0,l03OwnTables1,())])*(80:Nat)≤(140737488355328:Nat)) <|
 some (.inl (Wq (i0+(1:Int)),c1++[(ZJ.Kind x0,ZJ.From x0,ZJ.To x0,ZJ.ZbJ x0,l03OwnTables0,l03OwnTables1,())],()))
 else
 some (.inr (Zm.Name c0,Zm.Kind c0,([]:List (List UInt8×Int×Int×Bool×Unit))++Zm.Yw c0,c1,l02Ints0,c0.snd.snd.snd.snd.snd))
def Zh6 (c0:Zm):Option Zm :=
 Zt ((List.length (([]:List (List UInt8×Int×Int×Bool×Unit)))+List.length (Zm.Yw c0))*(40:Nat)≤(140737488355328:Nat)) <|
 (XK (Zm.Truth c0)).bind fun l02Ints0 =>
 Zv (fun v=>ZbQ c0 l02Ints0 v.1 v.2.1) ((0:Int),([]:List ZJ),())
def ZEI:Ctr:=⟨[.dat (QL)],[.own (Zoy)],fun a K=>splitK a fun c0 a=>YR (Zh6 c0) fun r=>K (r,()) ()⟩
def QN (l0:Zo) (i0:Int) (c0:List Zm):Option ((Int×(List Zm)×Unit) ⊕ Zo) :=
 if i0<(↑(List.length (Zo.Cells l0)):Int) then
 (atI (Zo.Cells l0) i0).bind fun x0 =>
 (Zh6 x0).bind fun l03Own0 =>
 Zt ((List.length c0+List.length [l03Own0])*(112:Nat)≤(140737488355328:Nat)) <|
 some (.inl (Wq (i0+(1:Int)),c0++[l03Own0],()))
 else
 some (.inr (c0,()))
def Za2 (l0:Zo):Option Zo :=
 Zv (fun v=>QN l0 v.1 v.2.1) ((0:Int),([]:List Zm),())
def ZFb:Ctr:=⟨[.dat (Xh)],[.own (Zov)],fun a K=>splitK a fun l0 a=>YR (Za2 l0) fun r=>K (r,()) ()⟩
def Zbz (d0:Zb) (i0:Int) (c0:List Ze):Option ((Int×(List Ze)×Unit) ⊕ Zb) :=
 if i0<(↑(List.length (Zb.Instances d0)):Int) then
 (atI (Zb.Instances d0) i0).bind fun x0 =>
 (XK (Ze.ZI x0)).bind fun l02Ints0 =>
 Zt ((List.length c0+List.length [(Ze.Name x0,Ze.Cell x0,l02Ints0,())])*(48:Nat)≤(140737488355328:Nat)) <|
 some (.inl (Wq (i0+(1:Int)),c0++[(Ze.Name x0,Ze.Cell x0,l02Ints0,())],()))
 else
 some (.inr (c0,([]:List (List UInt8))++Zb.ZI d0,([]:List (List UInt8×Int×Int×Unit))++Zb.ZG d0,()))
def ZhF (d0:Zb):Option Zb :=
 Zt ((List.length (([]:List (List UInt8)))+List.length (Zb.ZI d0))*(16:Nat)≤(140737488355328:Nat)) <|
 Zt ((List.length (([]:List (List UInt8×Int×Int×Unit)))+List.length (Zb.ZG d0))*(32:Nat)≤(140737488355328:Nat)) <|
 Zv (fun v=>Zbz d0 v.1 v.2.1) ((0:Int),([]:List Ze),())
def ZEQ:Ctr:=⟨[.dat (YG)],[.own (ZpF)],fun a K=>splitK a fun d0 a=>YR (ZhF d0) fun r=>K (r,()) ()⟩
def JN (w0:Zr):Option Zr :=
 (XK (Zr.Parent w0)).bind fun l02Ints0 =>
 (XK (Zr.Res w0)).bind fun l02Ints1 =>
 (XK (Zr.Cap w0)).bind fun l02Ints2 =>
 (XK (Zr.Ze6 w0)).bind fun l02Ints3 =>
 some (l02Ints0,l02Ints1,l02Ints2,l02Ints3,())
def ZA2:Ctr:=⟨[.dat (Vv)],[.own (Zl3)],fun a K=>splitK a fun w0 a=>YR (JN w0) fun r=>K (r,()) ()⟩
def Zbx (b0:Za) (l03OwnLibrary0:Zo) (l05Own0:Zb) (i0:Int) (c0:List Zr):Option ((Int×(List Zr)×Unit) ⊕ Za) :=
 if i0<(↑(List.length (Za.Zz b0)):Int) then
 (atI (Za.Zz b0) i0).bind fun x0 =>
 (JN x0).bind fun l07OwnWire0 =>
 Zt ((List.length c0+List.length [l07OwnWire0])*(96:Nat)≤(140737488355328:Nat)) <|
 some (.inl (Wq (i0+(1:Int)),c0++[l07OwnWire0],()))
 else
 some (.inr (l03OwnLibrary0,l05Own0,c0,()))
def Zh9 (b0:Za):Option Za :=
 (Za2 (Za.Library b0)).bind fun l03OwnLibrary0 =>
 (ZhF (Za.Design b0)).bind fun l05Own0 =>
 Zv (fun v=>Zbx b0 l03OwnLibrary0 l05Own0 v.1 v.2.1) ((0:Int),([]:List Zr),())
def ZEl:Ctr:=⟨[.dat (Y3)],[.own (ZdI)],fun a K=>splitK a fun b0 a=>YR (Zh9 b0) fun r=>K (r,()) ()⟩
def ZcP (b0:Za) (net0:Int) (l05Sinks0:List Int) (i0:Int) (l1:List Int):Option ((Int×(List Int)×Unit) ⊕ ((Int×(List Int)×Unit) ⊕ List Int)) :=
 if i0<(↑l05Sinks0.length:Int) then
 (atI l05Sinks0 i0).bind fun x0 =>
 (atI (Za.Zz b0) net0).bind fun x1 =>
 (atI (Zr.Ze6 x1) i0).bind fun x2 =>
 (atI l1 x0).bind fun x3 =>
 some (.inl (Wq (i0+1),List.set l1 (Int.toNat x0) x2,()))
 else
 some (.inr (.inl (Wq (net0+1),l1,())))
def ZcI (b0:Za) (net0:Int) (l0:List Int):Option ((Int×(List Int)×Unit) ⊕ List Int) :=
 if net0<(↑(List.length (Za.Zz b0)):Int) then
 (Qc (Za.Design b0) net0).bind fun l05Sinks0 =>
 Zv (fun v=>ZcP b0 net0 l05Sinks0 v.1 v.2.1) ((0:Int),l0,())
 else
 some (.inr l0)
def Zaf (b0:Za):Option (List Int) :=
 (Y0 (Za.Design b0)).bind fun l05Places0 =>
 Zt ((0:Int)≤(↑l05Places0.length:Int)) <|
 Zt ((↑l05Places0.length:Int)≤(↑l05Places0.length:Int)) <|
 Zt ((↑l05Places0.length:Int)≤(4611686018427387904:Int)) <|
 Zt ((↑(8:Nat):Int)*(↑l05Places0.length:Int)≤(281474976710656:Int)) <|
 Zv (fun v=>ZcI b0 v.1 v.2.1) ((0:Int),List.replicate (Int.toNat (↑l05Places0.length:Int)) (0:Int),())
def ZAy:Ctr:=⟨[.dat (Y3)],[.own (.ol 2 (.flat Iq))],fun a K=>splitK a fun b0 a=>YR (Zaf b0) fun r=>K (r,()) ()⟩
def JK (d0:Zb) (p0:ZF) (net0:Int):Option Zb :=
 if ZF.instance p0<0 then
 (atI (Zb.ZG d0) (ZF.pin p0)).bind fun x0 =>
 some (Zb.Instances d0,Zb.ZI d0,List.set (Zb.ZG d0) (Int.toNat (ZF.pin p0)) (ZR.Name x0,ZR.Dir x0,net0,()),())
 else
 (atI (Zb.Instances d0) (ZF.instance p0)).bind fun x0 =>
 (atI x0.snd.snd.fst (ZF.pin p0)).bind fun x1 =>
 some (List.set (Zb.Instances d0) (Int.toNat (ZF.instance p0)) (x0.fst,x0.snd.fst,List.set x0.snd.snd.fst (Int.toNat (ZF.pin p0)) net0,()),d0.snd)
def c116:Ctr:=⟨[.back (ZpF),.dat (ZfE),.dat Iq],[],fun a K=>splitK a fun d0 a=>splitK a fun p0 a=>splitK a fun net0 a=>YR (JK d0 p0 net0) fun r=>K () (r,())⟩
def Zcc (sinks0:Int) (load0:Int):Option Zr :=
 Zt ((0:Int)≤sinks0) <|
 Zt (sinks0≤sinks0) <|
 Zt (sinks0≤(4611686018427387904:Int)) <|
 Zt ((↑(8:Nat):Int)*sinks0≤(281474976710656:Int)) <|
 some ([(-1:Int)],[(0:Int)],[load0],List.replicate (Int.toNat sinks0) (0:Int),())
def c117:Ctr:=⟨[.dat Iq,.dat Iq],[.own (Zl3)],fun a K=>splitK a fun sinks0 a=>splitK a fun load0 a=>YR (Zcc sinks0 load0) fun r=>K (r,()) ()⟩
def ZbX (nodes0:List Int) (net0:Int) (l0:List (List Int×List Int×List Int×List Int×Unit)) (l05Sinks0:List Int) (list0:List Int) (i0:Int):Option (((List Int)×Int×Unit) ⊕ ((Int×(List (List Int×List Int×List Int×List Int×Unit))×Unit) ⊕ Za)) :=
 if i0<(↑l05Sinks0.length:Int) then
 (atI l05Sinks0 i0).bind fun x0 =>
 (atI nodes0 x0).bind fun x1 =>
 Zt ((List.length list0+List.length [x1])*(8:Nat)≤(140737488355328:Nat)) <|
 some (.inl (list0++[x1],Wq (i0+(1:Int)),()))
 else
 (atI l0 net0).bind fun x0 =>
 some (.inr (.inl (Wq (net0+1),List.set l0 (Int.toNat net0) (x0.fst,x0.snd.fst,x0.snd.snd.fst,list0,()),())))
def JG (b0:Za) (nodes0:List Int) (net0:Int) (l0:List (List Int×List Int×List Int×List Int×Unit)):Option ((Int×(List (List Int×List Int×List Int×List Int×Unit))×Unit) ⊕ Za) :=
 if net0<(↑l0.length:Int) then
 (Qc (Za.Design b0) net0).bind fun l05Sinks0 =>
 Zv (fun v=>ZbX nodes0 net0 l0 l05Sinks0 v.1 v.2.1) (([]:List Int),(0:Int),())
 else
 some (.inr (Za.Library b0,Za.Design b0,l0,()))
def QD (b0:Za) (nodes0:List Int):Option Za :=
 Zv (fun v=>JG b0 nodes0 v.1 v.2.1) ((0:Int),Za.Zz b0,())
def ZBv:Ctr:=⟨[.own (ZdI),.dat (.sl Iq)],[.own (ZdI)],fun a K=>splitK a fun b0 a=>splitK a fun nodes0 a=>YR (QD b0 nodes0) fun r=>K (r,()) ()⟩
def ZaO (a0:Za) (a1:Zh):Option Za :=
 (Y0 (Za.Design a0)).bind fun l05Places0 =>
 (atI l05Places0 (Zh.Place a1)).bind fun x0 =>
 (Zaf a0).bind fun l08Nodes0 =>
 (atI l08Nodes0 (Zh.Place a1)).bind fun x1 =>
 Zt ((0:Int)≤Wq ((↑l08Nodes0.length:Int)-(↑(List.length (Zb.ZG (Za.Design a0))):Int))) <|
 Zt (Wq ((↑l08Nodes0.length:Int)-(↑(List.length (Zb.ZG (Za.Design a0))):Int))≤(↑l08Nodes0.length:Int)) <|
 (XK (List.take (Int.toNat (Wq ((↑l08Nodes0.length:Int)-(↑(List.length (Zb.ZG (Za.Design a0))):Int)))-Int.toNat 0) (List.drop (Int.toNat 0) l08Nodes0))).bind fun l02Ints0 =>
 Zt ((List.length l02Ints0+List.length [x1,(0:Int)])*(8:Nat)≤(140737488355328:Nat)) <|
 Zt ((↑l08Nodes0.length:Int)≤(↑l08Nodes0.length:Int)) <|
 Zt ((List.length (l02Ints0++[x1,(0:Int)])+List.length (List.take (Int.toNat (↑l08Nodes0.length:Int)-Int.toNat (Wq ((↑l08Nodes0.length:Int)-(↑(List.length (Zb.ZG (Za.Design a0))):Int)))) (List.drop (Int.toNat (Wq ((↑l08Nodes0.length:Int)-(↑(List.length (Zb.ZG (Za.Design a0))):Int)))) l08Nodes0)))*(8:Nat)≤(140737488355328:Nat)) <|
 (JK (Za.Design a0) x0 (↑(List.length (Za.Zz a0)):Int)).bind fun l08Connect0 =>
 if Wq ((↑l08Nodes0.length:Int)-(↑(List.length (Zb.ZG (Za.Design a0))):Int))≤Zh.Place a1 then
 (atI (l02Ints0++[x1,(0:Int)]++List.take (Int.toNat (↑l08Nodes0.length:Int)-Int.toNat (Wq ((↑l08Nodes0.length:Int)-(↑(List.length (Zb.ZG (Za.Design a0))):Int)))) (List.drop (Int.toNat (Wq ((↑l08Nodes0.length:Int)-(↑(List.length (Zb.ZG (Za.Design a0))):Int)))) l08Nodes0)) (Wq (Zh.Place a1+(2:Int)))).bind fun x2 =>
 Zt ((List.length (Zb.Instances l08Connect0)+List.length [(Zh.Name a1,Zh.Cell a1,[ZF.net x0,(↑(List.length (Za.Zz a0)):Int)],())])*(48:Nat)≤(140737488355328:Nat)) <|
 Zt ((List.length (Zb.ZI l08Connect0)+List.length [Zh.Name a1])*(16:Nat)≤(140737488355328:Nat)) <|
 (Zcc 1 0).bind fun l07Lumped0 =>
 Zt ((List.length (Za.Zz a0)+List.length [l07Lumped0])*(96:Nat)≤(140737488355328:Nat)) <|
 (QD (Za.Library a0,(Zb.Instances l08Connect0++[(Zh.Name a1,Zh.Cell a1,[ZF.net x0,(↑(List.length (Za.Zz a0)):Int)],())],Zb.ZI l08Connect0++[Zh.Name a1],l08Connect0.snd.snd),Za.Zz a0++[l07Lumped0],()) (List.set (l02Ints0++[x1,(0:Int)]++List.take (Int.toNat (↑l08Nodes0.length:Int)-Int.toNat (Wq ((↑l08Nodes0.length:Int)-(↑(List.length (Zb.ZG (Za.Design a0))):Int)))) (List.drop (Int.toNat (Wq ((↑l08Nodes0.length:Int)-(↑(List.length (Zb.ZG (Za.Design a0))):Int)))) l08Nodes0)) (Int.toNat (Wq (Zh.Place a1+(2:Int)))) (0:Int))).bind fun l08Attach0 =>
 some l08Attach0
 else
 (atI (l02Ints0++[x1,(0:Int)]++List.take (Int.toNat (↑l08Nodes0.length:Int)-Int.toNat (Wq ((↑l08Nodes0.length:Int)-(↑(List.length (Zb.ZG (Za.Design a0))):Int)))) (List.drop (Int.toNat (Wq ((↑l08Nodes0.length:Int)-(↑(List.length (Zb.ZG (Za.Design a0))):Int)))) l08Nodes0)) (Zh.Place a1)).bind fun x2 =>
 Zt ((List.length (Zb.Instances l08Connect0)+List.length [(Zh.Name a1,Zh.Cell a1,[ZF.net x0,(↑(List.length (Za.Zz a0)):Int)],())])*(48:Nat)≤(140737488355328:Nat)) <|
 Zt ((List.length (Zb.ZI l08Connect0)+List.length [Zh.Name a1])*(16:Nat)≤(140737488355328:Nat)) <|
 (Zcc 1 0).bind fun l07Lumped0 =>
 Zt ((List.length (Za.Zz a0)+List.length [l07Lumped0])*(96:Nat)≤(140737488355328:Nat)) <|
 (QD (Za.Library a0,(Zb.Instances l08Connect0++[(Zh.Name a1,Zh.Cell a1,[ZF.net x0,(↑(List.length (Za.Zz a0)):Int)],())],Zb.ZI l08Connect0++[Zh.Name a1],l08Connect0.snd.snd),Za.Zz a0++[l07Lumped0],()) (List.set (l02Ints0++[x1,(0:Int)]++List.take (Int.toNat (↑l08Nodes0.length:Int)-Int.toNat (Wq ((↑l08Nodes0.length:Int)-(↑(List.length (Zb.ZG (Za.Design a0))):Int)))) (List.drop (Int.toNat (Wq ((↑l08Nodes0.length:Int)-(↑(List.length (Zb.ZG (Za.Design a0))):Int)))) l08Nodes0)) (Int.toNat (Zh.Place a1)) (0:Int))).bind fun l08Attach0 =>
 some l08Attach0
def c119:Ctr:=⟨[.own (ZdI),.dat (XL)],[.own (ZdI)],fun a K=>splitK a fun a0 a=>splitK a fun a1 a=>YR (ZaO a0 a1) fun r=>K (r,()) ()⟩
def Zes (a0:Za):Option Za :=
 (Zaf a0).bind fun l08Nodes0 =>
 (Qc (Za.Design a0) (Wq ((↑(List.length (Za.Zz a0)):Int)-1))).bind fun l05Sinks0 =>
 (atI l05Sinks0 0).bind fun x0 =>
 (atI l08Nodes0 (Wq (Wq ((↑l08Nodes0.length:Int)-(↑(List.length (Zb.ZG (Za.Design a0))):Int))-2))).bind fun x1 =>
 (atI l08Nodes0 x0).bind fun x2 =>
 (atI (Zb.Instances (Za.Design a0)) (Wq ((↑(List.length (Zb.Instances (Za.Design a0))):Int)-1))).bind fun x3 =>
 (atI x3.snd.snd.fst 0).bind fun x4 =>
 (Y0 (List.set (Zb.Instances (Za.Design a0)) (Int.toNat (Wq ((↑(List.length (Zb.Instances (Za.Design a0))):Int)-1))) x3,(Za.Design a0).snd)).bind fun l05Places0 =>
 (atI l05Places0 x0).bind fun x5 =>
 (JK (List.set (Zb.Instances (Za.Design a0)) (Int.toNat (Wq ((↑(List.length (Zb.Instances (Za.Design a0))):Int)-1))) x3,(Za.Design a0).snd) x5 x4).bind fun l08Connect0 =>
 Zt ((0:Int)≤Wq (Wq ((↑l08Nodes0.length:Int)-(↑(List.length (Zb.ZG (Za.Design a0))):Int))-(2:Int))) <|
 Zt (Wq (Wq ((↑l08Nodes0.length:Int)-(↑(List.length (Zb.ZG (Za.Design a0))):Int))-(2:Int))≤(↑(List.length (List.set l08Nodes0 (Int.toNat x0) x1)):Int)) <|
 (XK (List.take (Int.toNat (Wq (Wq ((↑l08Nodes0.length:Int)-(↑(List.length (Zb.ZG (Za.Design a0))):Int))-2))-Int.toNat 0) (List.drop (Int.toNat 0) (List.set l08Nodes0 (Int.toNat x0) x1)))).bind fun l02Ints0 =>
 Zt ((0:Int)≤Wq ((↑l08Nodes0.length:Int)-(↑(List.length (Zb.ZG (Za.Design a0))):Int))) <|
 Zt (Wq ((↑l08Nodes0.length:Int)-(↑(List.length (Zb.ZG (Za.Design a0))):Int))≤(↑(List.length (List.set l08Nodes0 (Int.toNat x0) x1)):Int)) <|
 Zt ((↑(List.length (List.set l08Nodes0 (Int.toNat x0) x1)):Int)≤(↑(List.length (List.set l08Nodes0 (Int.toNat x0) x1)):Int)) <|
 Zt ((List.length l02Ints0+List.length (List.take (Int.toNat (↑(List.length (List.set l08Nodes0 (Int.toNat x0) x1)):Int)-Int.toNat (Wq ((↑l08Nodes0.length:Int)-(↑(List.length (Zb.ZG (Za.Design a0))):Int)))) (List.drop (Int.toNat (Wq ((↑l08Nodes0.length:Int)-(↑(List.length (Zb.ZG (Za.Design a0))):Int)))) (List.set l08Nodes0 (Int.toNat x0) x1))))*(8:Nat)≤(140737488355328:Nat)) <|
 Zt ((0:Int)≤Wq ((↑(List.length (Zb.Instances (Za.Design a0))):Int)-(1:Int))) <|
 Zt (Wq ((↑(List.length (Zb.Instances (Za.Design a0))):Int)-(1:Int))≤(↑(List.length (Zb.Instances l08Connect0)):Int)) <|
 Zt ((0:Int)≤Wq ((↑(List.length (Za.Zz a0)):Int)-(1:Int))) <|
 Zt (Wq ((↑(List.length (Za.Zz a0)):Int)-(1:Int))≤(↑(List.length (Zb.ZI l08Connect0)):Int)) <|
 Zt (Wq ((↑(List.length (Za.Zz a0)):Int)-(1:Int))≤(↑(List.length (Za.Zz a0)):Int)) <|
 (QD (Za.Library a0,(List.take (Int.toNat (Wq ((↑(List.length (Zb.Instances (Za.Design a0))):Int)-1))-Int.toNat 0) (List.drop (Int.toNat 0) (Zb.Instances l08Connect0)),List.take (Int.toNat (Wq ((↑(List.length (Za.Zz a0)):Int)-1))-Int.toNat 0) (List.drop (Int.toNat 0) (Zb.ZI l08Connect0)),l08Connect0.snd.snd),List.take (Int.toNat (Wq ((↑(List.length (Za.Zz a0)):Int)-1))-Int.toNat 0) (List.drop (Int.toNat 0) (Za.Zz a0)),()) (l02Ints0++List.take (Int.toNat (↑(List.length (List.set l08Nodes0 (Int.toNat x0) x1)):Int)-Int.toNat (Wq ((↑l08Nodes0.length:Int)-(↑(List.length (Zb.ZG (Za.Design a0))):Int)))) (List.drop (Int.toNat (Wq ((↑l08Nodes0.length:Int)-(↑(List.length (Zb.ZG (Za.Design a0))):Int)))) (List.set l08Nodes0 (Int.toNat x0) x1)))).bind fun l08Attach0 =>
 some l08Attach0
def ZEO:Ctr:=⟨[.own (ZdI)],[.own (ZdI)],fun a K=>splitK a fun a0 a=>YR (Zes a0) fun r=>K (r,()) ()⟩
def Zah (a0:Za) (a1:Zh):Option Za :=
 (Zh9 a0).bind fun l07Own0 =>
 (Y0 (Za.Design l07Own0)).bind fun l05Places0 =>
 if Zh.Kind a1=1 then
 (atI l05Places0 (Zh.Place a1)).bind fun x0 =>
 (atI (Zb.Instances (Za.Design l07Own0)) (ZF.instance x0)).bind fun x1 =>
 some (Za.Library l07Own0,(List.set (Zb.Instances (Za.Design l07Own0)) (Int.toNat (ZF.instance x0)) (x1.fst,Zh.Cell a1,x1.snd.snd),(Za.Design l07Own0).snd),l07Own0.snd.snd)
 else
 if Zh.Kind a1=2 then
 (ZaO l07Own0 a1).bind fun l08Insert0 =>
 some l08Insert0
 else
 if Zh.Kind a1=3 then
 (Zes l07Own0).bind fun l08Remove0 =>
 some l08Remove0
 else
 if Zh.Kind a1=4 then
 (Zaf l07Own0).bind fun l08Nodes0 =>
 (atI l08Nodes0 (Zh.Place a1)).bind fun x0 =>
 (atI l05Places0 (Zh.Place a1)).bind fun x1 =>
 (JK (Za.Design l07Own0) x1 (Zh.Net a1)).bind fun l08Connect0 =>
 (QD (Za.Library l07Own0,l08Connect0,l07Own0.snd.snd) (List.set l08Nodes0 (Int.toNat (Zh.Place a1)) (Zh.Node a1))).bind fun l08Attach0 =>
 some l08Attach0
 else
 if Zh.Kind a1=5 then
 (JN (Zh.Ze7 a1)).bind fun l07OwnWire0 =>
 (atI (Za.Zz l07Own0) (Zh.Net a1)).bind fun x0 =>
 some (Za.Library l07Own0,Za.Design l07Own0,List.set (Za.Zz l07Own0) (Int.toNat (Zh.Net a1)) l07OwnWire0,())
 else
 some l07Own0
def ZCu:Ctr:=⟨[.dat (Y3),.dat (XL)],[.own (ZdI)],fun a K=>splitK a fun a0 a=>splitK a fun a1 a=>YR (Zah a0 a1) fun r=>K (r,()) ()⟩
def JZ (b0:Za) (e0:Zh) (setup0:Zn):Option (Zn×Int) :=
 (ZbP b0 e0).bind fun EditCode0 =>
 if EditCode0=0 then
 (Zbw b0 setup0).bind fun IsSetup0 =>
 if IsSetup0=true then
 (Zea b0 e0).bind fun l32Places0 =>
 (ZfA l32Places0 setup0).bind fun l33Carry0 =>
 if l33Carry0.snd=true then
 (Zah b0 e0).bind fun l08Apply0 =>
 (Zbw l08Apply0 l33Carry0.fst).bind fun IsSetup1 =>
 if IsSetup1=true then
 some (l33Carry0.fst,0)
 else
 some ((([]:List Zl),([]:List Zj),([]:List Zj),([]:List Zg),([]:List Zy),()),(5:Int))
 else
 some ((([]:List Zl),([]:List Zj),([]:List Zj),([]:List Zg),([]:List Zy),()),(5:Int))
 else
 some ((([]:List Zl),([]:List Zj),([]:List Zj),([]:List Zg),([]:List Zy),()),(2:Int))
 else
 some ((([]:List Zl),([]:List Zj),([]:List Zj),([]:List Zg),([]:List Zy),()),EditCode0)
def ZDb:Ctr:=⟨[.dat (Y3),.dat (XL),.dat (QX)],[.own (ZnC),.dat Iq],fun a K=>splitK a fun b0 a=>splitK a fun e0 a=>splitK a fun setup0 a=>YR (JZ b0 e0 setup0) fun r=>K (r.1,r.2,()) ()⟩
def Zdt (a0:Za) (a1:Zh):Option Zh :=
 (Y0 (Za.Design a0)).bind fun l05Places0 =>
 if Zh.Kind a1=1 then
 (atI l05Places0 (Zh.Place a1)).bind fun x0 =>
 (atI (Zb.Instances (Za.Design a0)) (ZF.instance x0)).bind fun x1 =>
 some ((1:Int),Zh.Place a1,Ze.Cell x1,(0:Int),(0:Int),([]:List UInt8),(([]:List Int),([]:List Int),([]:List Int),([]:List Int),()),())
 else
 if Zh.Kind a1=2 then
 some ((3:Int),(0:Int),(0:Int),(0:Int),(0:Int),([]:List UInt8),(([]:List Int),([]:List Int),([]:List Int),([]:List Int),()),())
 else
 if Zh.Kind a1=3 then
 (atI (Zb.Instances (Za.Design a0)) (Wq ((↑(List.length (Zb.Instances (Za.Design a0))):Int)-1))).bind fun x0 =>
 (Qc (Za.Design a0) (Wq ((↑(List.length (Za.Zz a0)):Int)-1))).bind fun l05Sinks0 =>
 (atI l05Sinks0 0).bind fun x1 =>
 (atI l05Places0 x1).bind fun x2 =>
 if ZF.instance x2<0 then
 some ((2:Int),Wq (x1-(2:Int)),Ze.Cell x0,(0:Int),(0:Int),Ze.Name x0,(([]:List Int),([]:List Int),([]:List Int),([]:List Int),()),())
 else
 some ((2:Int),x1,Ze.Cell x0,(0:Int),(0:Int),Ze.Name x0,(([]:List Int),([]:List Int),([]:List Int),([]:List Int),()),())
 else
 if Zh.Kind a1=4 then
 (atI l05Places0 (Zh.Place a1)).bind fun x0 =>
 (Zaf a0).bind fun l08Nodes0 =>
 (atI l08Nodes0 (Zh.Place a1)).bind fun x1 =>
 some ((4:Int),Zh.Place a1,(0:Int),ZF.net x0,x1,([]:List UInt8),(([]:List Int),([]:List Int),([]:List Int),([]:List Int),()),())
 else
 (atI (Za.Zz a0) (Zh.Net a1)).bind fun x0 =>
 (JN x0).bind fun l07OwnWire0 =>
 some ((5:Int),(0:Int),(0:Int),Zh.Net a1,(0:Int),([]:List UInt8),l07OwnWire0,())
def ZDN:Ctr:=⟨[.dat (Y3),.dat (XL)],[.own (Zo8)],fun a K=>splitK a fun a0 a=>splitK a fun a1 a=>YR (Zdt a0 a1) fun r=>K (r,()) ()⟩
def Xl (b0:Za) (setup0:Zn) (e0:Zh):Option (Za×Zn×Zh×Int) :=
 (JZ b0 e0 setup0).bind fun SetupAfter0 =>
 if SetupAfter0.snd=0 then
 (Zah b0 e0).bind fun l08Apply0 =>
 (Zdt b0 e0).bind fun l08Inverse0 =>
 some (l08Apply0,SetupAfter0.fst,l08Inverse0,0)
 else
 some (((([]:List Zm),()),(([]:List Ze),([]:List (List UInt8)),([]:List ZR),()),([]:List Zr),()),(([]:List Zl),([]:List Zj),([]:List Zj),([]:List Zg),([]:List Zy),()),((0:Int),(0:Int),(0:Int),(0:Int),(0:Int),([]:List UInt8),(([]:List Int),([]:List Int),([]:List Int),([]:List Int),()),()),SetupAfter0.snd)
def c124:Ctr:=⟨[.dat (Y3),.dat (QX),.dat (XL)],[.own (ZdI),.own (ZnC),.own (Zo8),.dat Iq],fun a K=>splitK a fun b0 a=>splitK a fun setup0 a=>splitK a fun e0 a=>YR (Xl b0 setup0 e0) fun r=>K (r.1,r.2.1,r.2.2.1,r.2.2.2,()) ()⟩
def YF (list0:List Zh) (i0:Int) (c0:List Zm) (c1:List Ze) (c2:List (List UInt8)) (c3:List ZR) (c4:List Zr) (c5:List Zl) (c6:List Zj) (c7:List Zj) (c8:List Zg) (c9:List Zy):Option ((Int×(List Zm)×(List Ze)×(List (List UInt8))×(List ZR)×(List Zr)×(List Zl)×(List Zj)×(List Zj)×(List Zg)×(List Zy)×Unit) ⊕ Bool) :=
 if i0<(↑list0.length:Int) then
 (atI list0 i0).bind fun x0 =>
 (Xl ((c0,()),(c1,c2,c3,()),c4,()) (c5,c6,c7,c8,c9,()) x0).bind fun l33Step0 =>
 if l33Step0.snd.snd.snd=0 then
 some (.inl (Wq (i0+1),l33Step0.fst.fst.fst,l33Step0.fst.snd.fst.fst,l33Step0.fst.snd.fst.snd.fst,l33Step0.fst.snd.fst.snd.snd.fst,l33Step0.fst.snd.snd.fst,l33Step0.snd.fst.fst,l33Step0.snd.fst.snd.fst,l33Step0.snd.fst.snd.snd.fst,l33Step0.snd.fst.snd.snd.snd.fst,l33Step0.snd.fst.snd.snd.snd.snd.fst,()))
 else
 some (.inr Bool.false)
 else
 some (.inr (Decidable.decide ((↑list0.length:Int)≤10)))
def Zco (b0:Za) (setup0:Zn) (list0:List Zh):Option Bool :=
 Zv (fun v=>YF list0 v.1 v.2.1 v.2.2.1 v.2.2.2.1 v.2.2.2.2.1 v.2.2.2.2.2.1 v.2.2.2.2.2.2.1 v.2.2.2.2.2.2.2.1 v.2.2.2.2.2.2.2.2.1 v.2.2.2.2.2.2.2.2.2.1 v.2.2.2.2.2.2.2.2.2.2.1) ((0:Int),Zo.Cells (Za.Library b0),Zb.Instances (Za.Design b0),Zb.ZI (Za.Design b0),Zb.ZG (Za.Design b0),Za.Zz b0,Zn.YE setup0,Zn.XV setup0,Zn.Y7 setup0,Zn.Exceptions setup0,Zn.XT setup0,())
def ZEe:Ctr:=D3 (Y3) (QX) (.sl (XL)) (.bool) Zco
def Zer (s0:ZH):Option Bool :=
 (Zbw (ZH.Block s0) (ZH.Setup s0)).bind fun IsSetup0 =>
 if IsSetup0=true then
 (Zco (ZH.Block s0) (ZH.Setup s0) (ZH.Zpn s0)).bind fun l33Possible0 =>
 if l33Possible0=true then
 (Zco (ZH.Block s0) (ZH.Setup s0) (ZH.Zpp s0)).bind fun l33Possible1 =>
 some l33Possible1
 else
 some Bool.false
 else
 some Bool.false
def ZDw:Ctr:=D1 (Jy) (.bool) Zer
def ZKG (e0:Zh):Option Zh :=
 (JN (Zh.Ze7 e0)).bind fun l07OwnWire0 =>
 some (Zh.Kind e0,Zh.Place e0,Zh.Cell e0,Zh.Net e0,Zh.Node e0,Zh.Name e0,l07OwnWire0,())
def c127:Ctr:=⟨[.dat (XL)],[.own (Zo8)],fun a K=>splitK a fun e0 a=>YR (ZKG e0) fun r=>K (r,()) ()⟩
def ZJR (list0:List Zh) (out0:List Zh) (i0:Int):Option (((List Zh)×Int×Unit) ⊕ List Zh) :=
 if i0<(↑list0.length:Int) then
 (atI list0 i0).bind fun x0 =>
 (ZKG x0).bind fun l33Own0 =>
 Zt ((List.length out0+List.length [l33Own0])*(152:Nat)≤(140737488355328:Nat)) <|
 some (.inl (out0++[l33Own0],Wq (i0+(1:Int)),()))
 else
 some (.inr out0)
def ZKz (list0:List Zh):Option (List Zh) :=
 Zv (fun v=>ZJR list0 v.1 v.2.1) (([]:List Zh),(1:Int),())
def ZAv:Ctr:=⟨[.dat (.sl (XL))],[.own (.ol 88 (Zo8))],fun a K=>splitK a fun list0 a=>YR (ZKz list0) fun r=>K (r,()) ()⟩
def ZJK (list0:List Zh) (out0:List Zh) (i0:Int):Option (((List Zh)×Int×Unit) ⊕ List Zh) :=
 if i0<(↑list0.length:Int) then
 if (↑out0.length:Int)<10 then
 (atI list0 i0).bind fun x0 =>
 (ZKG x0).bind fun l33Own0 =>
 Zt ((List.length out0+List.length [l33Own0])*(152:Nat)≤(140737488355328:Nat)) <|
 some (.inl (out0++[l33Own0],Wq (i0+(1:Int)),()))
 else
 some (.inr out0)
 else
 some (.inr out0)
def ZJY (first0:Zh) (list0:List Zh):Option (List Zh) :=
 Zv (fun v=>ZJK list0 v.1 v.2.1) ([first0],(0:Int),())
def ZBK:Ctr:=⟨[.dat (XL),.dat (.sl (XL))],[.own (.ol 88 (.flat (XL)))],fun a K=>splitK a fun first0 a=>splitK a fun list0 a=>YR (ZJY first0 list0) fun r=>K (r,()) ()⟩
def ZKj (s0:ZH):Option (ZH×Int) :=
 (Zer s0).bind fun IsSession0 =>
 if IsSession0=true then
 if (↑(List.length (ZH.Zpn s0)):Int)=0 then
 some ((((([]:List Zm),()),(([]:List Ze),([]:List (List UInt8)),([]:List ZR),()),([]:List Zr),()),(([]:List Zl),([]:List Zj),([]:List Zj),([]:List Zg),([]:List Zy),()),([]:List Zh),([]:List Zh),()),(5:Int))
 else
 (atI (ZH.Zpn s0) 0).bind fun x0 =>
 (Xl (ZH.Block s0) (ZH.Setup s0) x0).bind fun l33Step0 =>
 (ZKz (ZH.Zpn s0)).bind fun l33Rest0 =>
 (ZJY l33Step0.snd.snd.fst (ZH.Zpp s0)).bind fun l33Edits0 =>
 some ((l33Step0.fst,l33Step0.snd.fst,l33Rest0,l33Edits0,()),0)
 else
 some ((((([]:List Zm),()),(([]:List Ze),([]:List (List UInt8)),([]:List ZR),()),([]:List Zr),()),(([]:List Zl),([]:List Zj),([]:List Zj),([]:List Zg),([]:List Zy),()),([]:List Zh),([]:List Zh),()),(1:Int))
def c130:Ctr:=⟨[.dat (Jy)],[.dat (Jy),.dat Iq],fun a K=>splitK a fun s0 a=>YR (ZKj s0) fun r=>K (r.1,r.2,()) ()⟩
def ZN (x0:Int) (low0:Int) (high0:Int):Option Bool :=
 if low0≤x0 then
 some (Decidable.decide (x0≤high0))
 else
 some Bool.false
def c131:Ctr:=D3 Iq Iq Iq (.bool) ZN
def ZcM (s0:List UInt8):Option Bool :=
 (ZN (↑s0.length:Int) 1 8).bind fun within0 =>
 if within0=true then
 Zt (List.length s0≤(1000000:Nat)) <|
 if Go.Lib.trimS s0 [(97:UInt8),(98:UInt8),(99:UInt8),(100:UInt8),(101:UInt8),(102:UInt8),(103:UInt8),(104:UInt8),(105:UInt8),(106:UInt8),(107:UInt8),(108:UInt8),(109:UInt8),(110:UInt8),(111:UInt8),(112:UInt8),(113:UInt8),(114:UInt8),(115:UInt8),(116:UInt8),(117:UInt8),(118:UInt8),(119:UInt8),(120:UInt8),(121:UInt8),(122:UInt8),(48:UInt8),(49:UInt8),(50:UInt8),(51:UInt8),(52:UInt8),(53:UInt8),(54:UInt8),(55:UInt8),(56:UInt8),(57:UInt8)]=([]:List UInt8) then
 (atI s0 0).bind fun x0 =>
 some (Decidable.decide ((0:Int)≤Go.Lib.indexByte [(97:UInt8),(98:UInt8),(99:UInt8),(100:UInt8),(101:UInt8),(102:UInt8),(103:UInt8),(104:UInt8),(105:UInt8),(106:UInt8),(107:UInt8),(108:UInt8),(109:UInt8),(110:UInt8),(111:UInt8),(112:UInt8),(113:UInt8),(114:UInt8),(115:UInt8),(116:UInt8),(117:UInt8),(118:UInt8),(119:UInt8),(120:UInt8),(121:UInt8),(122:UInt8)] (Nat.toUInt8 (Int.toNat (↑(UInt8.toNat x0):Int)))))
 else
 some Bool.false
 else
 some Bool.false
def ZzY:Ctr:=D1 (.str) (.bool) ZcM
def JA (list0:List YP):Option Int :=
 some (↑list0.length:Int)
def ZDv:Ctr:=D1 (.sl (ZgP)) Iq JA
def YX (s0:List (List UInt8)) (v0:List UInt8) (v1:Int):Option ((Int×Unit) ⊕ Int) :=
 if v1<(↑s0.length:Int) then
 (atI s0 v1).bind fun x0 =>
 if v0=x0 then
 some (.inr v1)
 else
 some (.inl (Wq (v1+1),()))
 else
 some (.inr (-1))
def YM (s0:List (List UInt8)) (v0:List UInt8):Option Int :=
 Zv (fun v=>YX s0 v0 v.1) ((0:Int),())
def ZCS:Ctr:=D2 (.sl (.str)) (.str) Iq YM
def XJ (s0:List (List UInt8)) (v0:List UInt8):Option Bool :=
 (YM s0 v0).bind fun string0 =>
 some (Decidable.decide (0≤string0))
def ZzS:Ctr:=D2 (.sl (.str)) (.str) (.bool) XJ
def ZcF (list0:List (List UInt8)) (v0:Int):Option ((Int×Unit) ⊕ Bool) :=
 if v0<(↑list0.length:Int) then
 (atI list0 v0).bind fun x0 =>
 (ZcM x0).bind fun isName0 =>
 if isName0=true then
 Zt ((0:Int)≤v0) <|
 Zt (v0≤(↑list0.length:Int)) <|
 (XJ (List.take (Int.toNat v0-Int.toNat 0) (List.drop (Int.toNat 0) list0)) x0).bind fun string0 =>
 if string0=true then
 some (.inr Bool.false)
 else
 some (.inl (Wq (v0+1),()))
 else
 some (.inr Bool.false)
 else
 some (.inr Bool.true)
def QF (list0:List (List UInt8)):Option Bool :=
 Zv (fun v=>ZcF list0 v.1) ((0:Int),())
def ZEN:Ctr:=D1 (.sl (.str)) (.bool) QF
def Jk (list0:List YP) (names0:List (List UInt8)) (v0:Int):Option (((List (List UInt8))×Int×Unit) ⊕ Bool) :=
 if v0<(↑list0.length:Int) then
 (atI list0 v0).bind fun x0 =>
 Zt ((List.length names0+List.length [YP.Name x0])*(16:Nat)≤(140737488355328:Nat)) <|
 if v0=Wq ((↑list0.length:Int)-1) then
 if YP.Dir x0=2 then
 if YP.Cap x0=0 then
 if (YP.Clock x0)=true then
 some (.inr Bool.false)
 else
 some (.inl (names0++[YP.Name x0],Wq (v0+(1:Int)),()))
 else
 some (.inr Bool.false)
 else
 some (.inr Bool.false)
 else
 if YP.Dir x0=1 then
 (ZN (YP.Cap x0) 0 500).bind fun within0 =>
 if within0=true then
 some (.inl (names0++[YP.Name x0],Wq (v0+(1:Int)),()))
 else
 some (.inr Bool.false)
 else
 some (.inr Bool.false)
 else
 (JA list0).bind fun Pin0 =>
 (ZN Pin0 2 5).bind fun within0 =>
 if within0=true then
 (QF names0).bind fun areNames0 =>
 some (.inr areNames0)
 else
 some (.inr Bool.false)
def ZgY (list0:List YP):Option Bool :=
 Zv (fun v=>Jk list0 v.1 v.2.1) (([]:List (List UInt8)),(0:Int),())
def ZE4:Ctr:=D1 (.sl (ZgP)) (.bool) ZgY
def ZgZ (kind0:Int):Option Bool :=
 if kind0=4 then
 some Bool.true
 else
 some (Decidable.decide (kind0=5))
def c138:Ctr:=D1 Iq (.bool) ZgZ
def YV (list0:List Int):Option Int :=
 some (↑list0.length:Int)
def c139:Ctr:=D1 (.sl Iq) Iq YV
def ZdT (n0:Int) (a0:Int) (a1:Int):Option Bool :=
 (ZN n0 a0 a1).bind fun within0 =>
 some !within0
def ZCx:Ctr:=D3 Iq (.ptr Iq) (.ptr Iq) (.bool) ZdT
def Yy (s0:List Int) (f0:Int×Int×Unit) (v0:Int):Option ((Int×Unit) ⊕ Int) :=
 if v0<(↑s0.length:Int) then
 (atI s0 v0).bind fun x0 =>
 (ZdT x0 f0.fst f0.snd.fst).bind fun c1_0 =>
 if c1_0=true then
 some (.inr v0)
 else
 some (.inl (Wq (v0+1),()))
 else
 some (.inr (-1))
def Yp (s0:List Int) (f0:Int×Int×Unit):Option Int :=
 Zv (fun v=>Yy s0 f0 v.1) ((0:Int),())
def c141:Ctr:=D2 (.sl Iq) (.fn 292 (.pair (.ptr Iq) (.pair (.ptr Iq) (.unit)))) Iq Yp
def YI (s0:List Int) (f0:Int×Int×Unit):Option Bool :=
 (Yp s0 f0).bind fun c1_0 =>
 some (Decidable.decide (0≤c1_0))
def ZEP:Ctr:=D2 (.sl Iq) (.fn 292 (.pair (.ptr Iq) (.pair (.ptr Iq) (.unit)))) (.bool) YI
def XO (list0:List Int) (low0:Int) (high0:Int):Option Bool :=
 (YI list0 (low0,high0,())).bind fun c1_0 =>
 some !c1_0
def c143:Ctr:=D3 (.sl Iq) Iq Iq (.bool) XO
def Qd (list0:List Int) (i0:Int):Option ((Int×Unit) ⊕ Bool) :=
 if i0<(↑list0.length:Int) then
 (atI list0 (Wq (i0-1))).bind fun x0 =>
 (atI list0 i0).bind fun x1 =>
 if x1≤x0 then
 some (.inr Bool.false)
 else
 some (.inl (Wq (i0+1),()))
 else
 some (.inr Bool.true)
def Vs (list0:List Int):Option Bool :=
 Zv (fun v=>Qd list0 v.1) ((1:Int),())
def ZDE:Ctr:=D1 (.sl Iq) (.bool) Vs
def ZfY (list0:List Int):Option Bool :=
 (YV list0).bind fun int64_0 =>
 (ZN int64_0 1 4).bind fun within0 =>
 if within0=true then
 (XO list0 0 100000).bind fun areWithin0 =>
 if areWithin0=true then
 (Vs list0).bind fun isIncreasing0 =>
 some isIncreasing0
 else
 some Bool.false
 else
 some Bool.false
def c145:Ctr:=D1 (.sl Iq) (.bool) ZfY
def ZgD (t0:ZA):Option Bool :=
 (ZfY (ZA.Zg6 t0)).bind fun isAxis0 =>
 if isAxis0=true then
 (ZfY (ZA.Loads t0)).bind fun isAxis1 =>
 if isAxis1=true then
 if (↑(List.length (ZA.Values t0)):Int)=Wq ((↑(List.length (ZA.Zg6 t0)):Int)*(↑(List.length (ZA.Loads t0)):Int)) then
 (XO (ZA.Values t0) (-1000000) 1000000).bind fun areWithin0 =>
 some areWithin0
 else
 some Bool.false
 else
 some Bool.false
 else
 some Bool.false
def c146:Ctr:=D1 (XE) (.bool) ZgD
def QZ (x0:List Int) (m0:Int) (i0:Int):Option ((Int×Int×Unit) ⊕ Int) :=
 if i0<(↑x0.length:Int) then
 (atI x0 i0).bind fun x2 =>
 some (.inl (Min.min m0 x2,Wq (i0+1),()))
 else
 some (.inr m0)
def Vg (x0:List Int):Option Int :=
 if (↑x0.length:Int)<1 then
 none
 else
 (atI x0 0).bind fun x1 =>
 Zv (fun v=>QZ x0 v.1 v.2.1) (x1,(1:Int),())
def ZDx:Ctr:=D1 (.sl Iq) Iq Vg
def Vy (t0:ZA) (a0:Bool):Option Bool :=
 (ZgD t0).bind fun IsTable0 =>
 if IsTable0=true then
 if a0=true then
 (Vg (ZA.Values t0)).bind fun int64_0 =>
 some (Decidable.decide (int64_0<0))
 else
 some Bool.false
 else
 some Bool.true
def c148:Ctr:=D2 (XE) (.ptr (.bool)) (.bool) Vy
def Yi (s0:List ZA) (f0:Bool×Unit) (v0:Int):Option ((Int×Unit) ⊕ Int) :=
 if v0<(↑s0.length:Int) then
 (atI s0 v0).bind fun x0 =>
 (Vy x0 f0.fst).bind fun c1_0 =>
 if c1_0=true then
 some (.inr v0)
 else
 some (.inl (Wq (v0+1),()))
 else
 some (.inr (-1))
def Z5 (s0:List ZA) (f0:Bool×Unit):Option Int :=
 Zv (fun v=>Yi s0 f0 v.1) ((0:Int),())
def ZEb:Ctr:=D2 (.sl (XE)) (.fn 368 (.pair (.ptr (.bool)) (.unit))) Iq Z5
def ZV (s0:List ZA) (f0:Bool×Unit):Option Bool :=
 (Z5 s0 f0).bind fun c1_0 =>
 some (Decidable.decide (0≤c1_0))
def ZCE:Ctr:=D2 (.sl (XE)) (.fn 368 (.pair (.ptr (.bool)) (.unit))) (.bool) ZV
def ZaI (list0:List ZA) (positive0:Bool):Option Bool :=
 if (↑list0.length:Int)=2 then
 (ZV list0 (positive0,())).bind fun c1_0 =>
 some !c1_0
 else
 some Bool.false
def ZAY:Ctr:=D2 (.sl (XE)) (.bool) (.bool) ZaI
def Zdi (p0:YP):Option Bool :=
 some (YP.Clock p0)
def c152:Ctr:=D1 (ZgP) (.bool) Zdi
def Ym (s0:List YP) (v0:Int):Option ((Int×Unit) ⊕ Int) :=
 if v0<(↑s0.length:Int) then
 (atI s0 v0).bind fun x0 =>
 (Zdi x0).bind fun c1_0 =>
 if c1_0=true then
 some (.inr v0)
 else
 some (.inl (Wq (v0+1),()))
 else
 some (.inr (-1))
def Yc (s0:List YP) (f0:Unit):Option Int :=
 Zv (fun v=>Ym s0 v.1) ((0:Int),())
def ZFi:Ctr:=D2 (.sl (ZgP)) (.fn 372 (.unit)) Iq Yc
def Zdf (c0:Zm):Option Int :=
 (Yc (Zm.Yw c0) ()).bind fun c1_0 =>
 some c1_0
def c154:Ctr:=D1 (QL) Iq Zdf
def Zaz (c0:Zm):Option Int :=
 (JA (Zm.Yw c0)).bind fun Pin0 =>
 some (Wq (Pin0-1))
def ZE6:Ctr:=D1 (QL) Iq Zaz
def J3 (c0:Zm) (pin0:Int):Option Bool :=
 (Zaz c0).bind fun output0 =>
 (ZN pin0 0 (Wq (output0-1))).bind fun within0 =>
 some within0
def c156:Ctr:=D2 (QL) Iq (.bool) J3
def Zdn (a0:Zm) (a1:ZJ):Option Bool :=
 (ZgZ (ZJ.Kind a1)).bind fun isCheck0 =>
 if isCheck0=true then
 if ZJ.ZbJ a1=0 then
 if (↑(List.length (ZJ.ZdS a1)):Int)=0 then
 (ZaI (ZJ.Delay a1) Bool.false).bind fun areTables0 =>
 if areTables0=true then
 (Zdf a0).bind fun clock0 =>
 if ZJ.From a1=clock0 then
 if 0≤ZJ.From a1 then
 (J3 a0 (ZJ.To a1)).bind fun isInput0 =>
 if isInput0=true then
 some (!Decidable.decide (ZJ.To a1=ZJ.From a1))
 else
 some Bool.false
 else
 some Bool.false
 else
 some Bool.false
 else
 some Bool.false
 else
 some Bool.false
 else
 some Bool.false
 else
 (ZaI (ZJ.Delay a1) Bool.true).bind fun areTables0 =>
 if areTables0=true then
 (ZaI (ZJ.ZdS a1) Bool.true).bind fun areTables1 =>
 if areTables1=true then
 (Zaz a0).bind fun output0 =>
 if ZJ.To a1=output0 then
 (J3 a0 (ZJ.From a1)).bind fun isInput0 =>
 if isInput0=true then
 if ZJ.Kind a1=1 then
 (atI (Zm.Yw a0) (ZJ.From a1)).bind fun x0 =>
 if (YP.Clock x0)=true then
 some Bool.false
 else
 (ZN (ZJ.ZbJ a1) 1 3).bind fun within0 =>
 some within0
 else
 if ZJ.Kind a1=2 then
 if ZJ.Kind a1=2 then
 (atI (Zm.Yw a0) (ZJ.From a1)).bind fun x0 =>
 if (YP.Clock x0)=true then
 some (Decidable.decide (ZJ.ZbJ a1=0))
 else
 some Bool.false
 else
 some Bool.false
 else
 if ZJ.Kind a1=3 then
 (atI (Zm.Yw a0) (ZJ.From a1)).bind fun x0 =>
 if (YP.Clock x0)=true then
 some (Decidable.decide (ZJ.ZbJ a1=0))
 else
 some Bool.false
 else
 some Bool.false
 else
 some Bool.false
 else
 some Bool.false
 else
 some Bool.false
 else
 some Bool.false
def c157:Ctr:=D2 (QL) (Zib) (.bool) Zdn
def Qo (o0:ZJ) (a0:ZJ):Option Bool :=
 if ZJ.Kind o0=ZJ.Kind a0 then
 if ZJ.From o0=ZJ.From a0 then
 some (Decidable.decide (ZJ.To o0=ZJ.To a0))
 else
 some Bool.false
 else
 some Bool.false
def ZEK:Ctr:=D2 (Zib) (.ptr (Zib)) (.bool) Qo
def Yj (s0:List ZJ) (f0:ZJ×Unit) (v0:Int):Option ((Int×Unit) ⊕ Int) :=
 if v0<(↑s0.length:Int) then
 (atI s0 v0).bind fun x0 =>
 (Qo x0 f0.fst).bind fun c1_0 =>
 if c1_0=true then
 some (.inr v0)
 else
 some (.inl (Wq (v0+1),()))
 else
 some (.inr (-1))
def Z7 (s0:List ZJ) (f0:ZJ×Unit):Option Int :=
 Zv (fun v=>Yj s0 f0 v.1) ((0:Int),())
def c159:Ctr:=D2 (.sl (Zib)) (.fn 345 (.pair (.ptr (Zib)) (.unit))) Iq Z7
def ZX (s0:List ZJ) (f0:ZJ×Unit):Option Bool :=
 (Z7 s0 f0).bind fun c1_0 =>
 some (Decidable.decide (0≤c1_0))
def c160:Ctr:=D2 (.sl (Zib)) (.fn 345 (.pair (.ptr (Zib)) (.unit))) (.bool) ZX
def Zaj (c0:Zm) (v0:Int):Option ((Int×Unit) ⊕ Bool) :=
 if v0<(↑(List.length (Zm.JQ c0)):Int) then
 (atI (Zm.JQ c0) v0).bind fun x0 =>
 (Zdn c0 x0).bind fun isArc0 =>
 if isArc0=true then
 Zt ((0:Int)≤v0) <|
 Zt (v0≤(↑(List.length (Zm.JQ c0)):Int)) <|
 (ZX (List.take (Int.toNat v0-Int.toNat 0) (List.drop (Int.toNat 0) (Zm.JQ c0))) (x0,())).bind fun c1_0 =>
 if c1_0=true then
 some (.inr Bool.false)
 else
 some (.inl (Wq (v0+1),()))
 else
 some (.inr Bool.false)
 else
 some (.inr (Decidable.decide ((↑(List.length (Zm.JQ c0)):Int)≤8)))
def ZbH (c0:Zm):Option Bool :=
 Zv (fun v=>Zaj c0 v.1) ((0:Int),())
def ZCU:Ctr:=D1 (QL) (.bool) ZbH
def Zcu (a0:ZJ) (a1:Int):Option Bool :=
 some (Decidable.decide (ZJ.Kind a0=a1))
def c162:Ctr:=D2 (Zib) (.ptr Iq) (.bool) Zcu
def Yr (s0:List ZJ) (f0:Int×Unit) (v0:Int):Option ((Int×Unit) ⊕ Int) :=
 if v0<(↑s0.length:Int) then
 (atI s0 v0).bind fun x0 =>
 (Zcu x0 f0.fst).bind fun c1_0 =>
 if c1_0=true then
 some (.inr v0)
 else
 some (.inl (Wq (v0+1),()))
 else
 some (.inr (-1))
def Ye (s0:List ZJ) (f0:Int×Unit):Option Int :=
 Zv (fun v=>Yr s0 f0 v.1) ((0:Int),())
def ZEH:Ctr:=D2 (.sl (Zib)) (.fn 362 (.pair (.ptr Iq) (.unit))) Iq Ye
def Ya (s0:List ZJ) (f0:Int×Unit):Option Bool :=
 (Ye s0 f0).bind fun c1_0 =>
 some (Decidable.decide (0≤c1_0))
def c164:Ctr:=D2 (.sl (Zib)) (.fn 362 (.pair (.ptr Iq) (.unit))) (.bool) Ya
def Vf (c0:Zm) (kind0:Int):Option Bool :=
 (Ya (Zm.JQ c0) (kind0,())).bind fun c1_0 =>
 some c1_0
def ZCV:Ctr:=D2 (QL) Iq (.bool) Vf
def X5 (a0:Zm) (v0:Int) (v1:Int):Option ((Int×Int×Unit) ⊕ Bool) :=
 if v1<(↑(List.length (Zm.Yw a0)):Int) then
 (atI (Zm.Yw a0) v1).bind fun x0 =>
 if (YP.Clock x0)=true then
 some (.inl (Wq (v0+1),Wq (v1+1),()))
 else
 some (.inl (v0,Wq (v1+1),()))
 else
 if Zm.Kind a0=1 then
 if v0=0 then
 (Zaz a0).bind fun output0 =>
 Zt ((0:Int)≤output0) <|
 if (↑(List.length (Zm.Truth a0)):Int)=Wq (1*2 ^ Min.min (Int.toNat output0) (IntKind.bits IntKind.i64)) then
 (XO (Zm.Truth a0) 0 1).bind fun areWithin0 =>
 some (.inr areWithin0)
 else
 some (.inr Bool.false)
 else
 some (.inr Bool.false)
 else
 if Zm.Kind a0=2 then
 if v0=1 then
 if (↑(List.length (Zm.Truth a0)):Int)=0 then
 (Vf a0 1).bind fun has0 =>
 if has0=true then
 some (.inr Bool.false)
 else
 (Vf a0 2).bind fun has1 =>
 (Vf a0 3).bind fun has2 =>
 some (.inr (!has1 == has2))
 else
 some (.inr Bool.false)
 else
 some (.inr Bool.false)
 else
 if Zm.Kind a0=3 then
 if v0=1 then
 if (↑(List.length (Zm.Truth a0)):Int)=0 then
 (Vf a0 1).bind fun has0 =>
 if has0=true then
 (Vf a0 2).bind fun has1 =>
 if has1=true then
 (Vf a0 3).bind fun has2 =>
 some (.inr !has2)
 else
 some (.inr Bool.false)
 else
 some (.inr Bool.false)
 else
 some (.inr Bool.false)
 else
 some (.inr Bool.false)
 else
 some (.inr Bool.false)
def Za3 (a0:Zm):Option Bool :=
 Zv (fun v=>X5 a0 v.1 v.2.1) ((0:Int),(0:Int),())
def ZCb:Ctr:=D1 (QL) (.bool) Za3
def Ziu (c0:Zm):Option Bool :=
 (ZcM (Zm.Name c0)).bind fun isName0 =>
 if isName0=true then
 (ZgY (Zm.Yw c0)).bind fun arePins0 =>
 if arePins0=true then
 (ZbH c0).bind fun areArcs0 =>
 if areArcs0=true then
 (ZN (Zm.Zxy c0) 0 100000).bind fun within0 =>
 if within0=true then
 (ZN (Zm.Zkf c0) 0 100000).bind fun within1 =>
 if within1=true then
 (Za3 c0).bind fun isOfKind0 =>
 some isOfKind0
 else
 some Bool.false
 else
 some Bool.false
 else
 some Bool.false
 else
 some Bool.false
 else
 some Bool.false
def c167:Ctr:=D1 (QL) (.bool) Ziu
def Q8 (l0:Zo) (names0:List (List UInt8)) (v0:Int):Option (((List (List UInt8))×Int×Unit) ⊕ Bool) :=
 if v0<(↑(List.length (Zo.Cells l0)):Int) then
 (atI (Zo.Cells l0) v0).bind fun x0 =>
 (Ziu x0).bind fun IsCell0 =>
 if IsCell0=true then
 Zt ((List.length names0+List.length [Zm.Name x0])*(16:Nat)≤(140737488355328:Nat)) <|
 some (.inl (names0++[Zm.Name x0],Wq (v0+(1:Int)),()))
 else
 some (.inr Bool.false)
 else
 if (↑(List.length (Zo.Cells l0)):Int)≤8 then
 (QF names0).bind fun areNames0 =>
 some (.inr areNames0)
 else
 some (.inr Bool.false)
def Zeq (l0:Zo):Option Bool :=
 Zv (fun v=>Q8 l0 v.1 v.2.1) (([]:List (List UInt8)),(0:Int),())
def c168:Ctr:=D1 (Xh) (.bool) Zeq
def V5 (d0:Zb) (instances0:List (List UInt8)) (ports0:List (List UInt8)) (v1:Int):Option (((List (List UInt8))×Int×Unit) ⊕ (((List (List UInt8))×Int×Unit) ⊕ Bool)) :=
 if v1<(↑(List.length (Zb.ZG d0)):Int) then
 (atI (Zb.ZG d0) v1).bind fun x0 =>
 Zt ((List.length ports0+List.length [ZR.Name x0])*(16:Nat)≤(140737488355328:Nat)) <|
 some (.inl (ports0++[ZR.Name x0],Wq (v1+(1:Int)),()))
 else
 if (↑instances0.length:Int)≤14 then
 if (↑(List.length (Zb.ZI d0)):Int)≤30 then
 if (↑ports0.length:Int)≤8 then
 (QF instances0).bind fun areNames0 =>
 if areNames0=true then
 (QF (Zb.ZI d0)).bind fun areNames1 =>
 if areNames1=true then
 (QF ports0).bind fun areNames2 =>
 some (.inr (.inr areNames2))
 else
 some (.inr (.inr Bool.false))
 else
 some (.inr (.inr Bool.false))
 else
 some (.inr (.inr Bool.false))
 else
 some (.inr (.inr Bool.false))
 else
 some (.inr (.inr Bool.false))
def V6 (d0:Zb) (instances0:List (List UInt8)) (v0:Int):Option (((List (List UInt8))×Int×Unit) ⊕ Bool) :=
 if v0<(↑(List.length (Zb.Instances d0)):Int) then
 (atI (Zb.Instances d0) v0).bind fun x0 =>
 Zt ((List.length instances0+List.length [Ze.Name x0])*(16:Nat)≤(140737488355328:Nat)) <|
 some (.inl (instances0++[Ze.Name x0],Wq (v0+(1:Int)),()))
 else
 Zv (fun v=>V5 d0 instances0 v.1 v.2.1) (([]:List (List UInt8)),(0:Int),())
def JB (d0:Zb):Option Bool :=
 Zv (fun v=>V6 d0 v.1 v.2.1) (([]:List (List UInt8)),(0:Int),())
def ZEJ:Ctr:=D1 (YG) (.bool) JB
def X3 (list0:List Zm):Option Int :=
 some (↑list0.length:Int)
def ZEZ:Ctr:=D1 (.sl (QL)) Iq X3
def Xr (list0:List (List UInt8)):Option Int :=
 some (↑list0.length:Int)
def c171:Ctr:=D1 (.sl (.str)) Iq Xr
def YU (d0:Zb) (net0:Int):Option Bool :=
 (Xr (Zb.ZI d0)).bind fun string0 =>
 (ZN net0 0 (Wq (string0-1))).bind fun within0 =>
 some within0
def ZDh:Ctr:=D2 (YG) Iq (.bool) YU
def XR (net0:Int) (a0:Zb):Option Bool :=
 (YU a0 net0).bind fun isNet0 =>
 some !isNet0
def c173:Ctr:=D2 Iq (.ptr (YG)) (.bool) XR
def Yl (s0:List Int) (f0:Zb×Unit) (v0:Int):Option ((Int×Unit) ⊕ Int) :=
 if v0<(↑s0.length:Int) then
 (atI s0 v0).bind fun x0 =>
 (XR x0 f0.fst).bind fun c1_0 =>
 if c1_0=true then
 some (.inr v0)
 else
 some (.inl (Wq (v0+1),()))
 else
 some (.inr (-1))
def Z9 (s0:List Int) (f0:Zb×Unit):Option Int :=
 Zv (fun v=>Yl s0 f0 v.1) ((0:Int),())
def ZDp:Ctr:=D2 (.sl Iq) (.fn 290 (.pair (.ptr (YG)) (.unit))) Iq Z9
def Z0 (s0:List Int) (f0:Zb×Unit):Option Bool :=
 (Z9 s0 f0).bind fun c1_0 =>
 some (Decidable.decide (0≤c1_0))
def c175:Ctr:=D2 (.sl Iq) (.fn 290 (.pair (.ptr (YG)) (.unit))) (.bool) Z0
def VT (d0:Zb) (l0:Zo) (x0:Ze):Option Bool :=
 (X3 (Zo.Cells l0)).bind fun Cell0 =>
 (ZN (Ze.Cell x0) 0 (Wq (Cell0-1))).bind fun within0 =>
 if within0=true then
 (atI (Zo.Cells l0) (Ze.Cell x0)).bind fun x1 =>
 if (↑(List.length (Ze.ZI x0)):Int)=(↑(List.length (Zm.Yw x1)):Int) then
 (Z0 (Ze.ZI x0) (d0,())).bind fun c1_0 =>
 some !c1_0
 else
 some Bool.false
 else
 some Bool.false
def ZEE:Ctr:=D3 (YG) (Xh) (Yq) (.bool) VT
def Zcp (n0:Int):Option Bool :=
 some (!Decidable.decide (n0=1))
def ZuU:Ctr:=D1 Iq (.bool) Zcp
def YN (s0:List Int) (v0:Int):Option ((Int×Unit) ⊕ Int) :=
 if v0<(↑s0.length:Int) then
 (atI s0 v0).bind fun x0 =>
 (Zcp x0).bind fun c1_0 =>
 if c1_0=true then
 some (.inr v0)
 else
 some (.inl (Wq (v0+1),()))
 else
 some (.inr (-1))
def YD (s0:List Int) (f0:Unit):Option Int :=
 Zv (fun v=>YN s0 v.1) ((0:Int),())
def ZEw:Ctr:=D2 (.sl Iq) (.fn 244 (.unit)) Iq YD
def Yt (s0:List Int) (f0:Unit):Option Bool :=
 (YD s0 ()).bind fun c1_0 =>
 some (Decidable.decide (0≤c1_0))
def ZBY:Ctr:=D2 (.sl Iq) (.fn 244 (.unit)) (.bool) Yt
def VF (a1:Zb) (v1:Int) (l1:List Int):Option ((Int×(List Int)×Unit) ⊕ ((Int×(List Int)×Unit) ⊕ Bool)) :=
 if v1<(↑(List.length (Zb.ZG a1)):Int) then
 (atI (Zb.ZG a1) v1).bind fun x0 =>
 if ZR.Dir x0=1 then
 (YU a1 (ZR.Net x0)).bind fun isNet0 =>
 if isNet0=true then
 if ZR.Dir x0=1 then
 (atI l1 (ZR.Net x0)).bind fun x1 =>
 some (.inl (Wq (v1+1),List.set l1 (Int.toNat (ZR.Net x0)) (Wq (x1+1)),()))
 else
 some (.inl (Wq (v1+1),l1,()))
 else
 some (.inr (.inr Bool.false))
 else
 if ZR.Dir x0=2 then
 (YU a1 (ZR.Net x0)).bind fun isNet0 =>
 if isNet0=true then
 if ZR.Dir x0=1 then
 (atI l1 (ZR.Net x0)).bind fun x1 =>
 some (.inl (Wq (v1+1),List.set l1 (Int.toNat (ZR.Net x0)) (Wq (x1+1)),()))
 else
 some (.inl (Wq (v1+1),l1,()))
 else
 some (.inr (.inr Bool.false))
 else
 some (.inr (.inr Bool.false))
 else
 (Yt l1 ()).bind fun c1_0 =>
 some (.inr (.inr !c1_0))
def Zap (a0:Zo) (a1:Zb) (v0:Int) (l0:List Int):Option ((Int×(List Int)×Unit) ⊕ Bool) :=
 if v0<(↑(List.length (Zb.Instances a1)):Int) then
 (atI (Zb.Instances a1) v0).bind fun x0 =>
 (VT a1 a0 x0).bind fun isInstance0 =>
 if isInstance0=true then
 (atI (Ze.ZI x0) (Wq ((↑(List.length (Ze.ZI x0)):Int)-1))).bind fun x1 =>
 (atI l0 x1).bind fun x2 =>
 some (.inl (Wq (v0+1),List.set l0 (Int.toNat x1) (Wq (x2+1)),()))
 else
 some (.inr Bool.false)
 else
 Zv (fun v=>VF a1 v.1 v.2.1) ((0:Int),l0,())
def Zfr (a0:Zo) (a1:Zb):Option Bool :=
 (Zeq a0).bind fun IsLibrary0 =>
 if IsLibrary0=true then
 (JB a1).bind fun hasNames0 =>
 if hasNames0=true then
 Zt ((0:Int)≤(↑(List.length (Zb.ZI a1)):Int)) <|
 Zt ((↑(List.length (Zb.ZI a1)):Int)≤(↑(List.length (Zb.ZI a1)):Int)) <|
 Zt ((↑(List.length (Zb.ZI a1)):Int)≤(4611686018427387904:Int)) <|
 Zt ((↑(8:Nat):Int)*(↑(List.length (Zb.ZI a1)):Int)≤(281474976710656:Int)) <|
 Zv (fun v=>Zap a0 a1 v.1 v.2.1) ((0:Int),List.replicate (Int.toNat (↑(List.length (Zb.ZI a1)):Int)) (0:Int),())
 else
 some Bool.false
 else
 some Bool.false
def ZEf:Ctr:=D2 (Xh) (YG) (.bool) Zfr
def J2 (v0:Int) (x0:Ze) (list1:List ZL) (v1:Int):Option (((List ZL)×Int×Unit) ⊕ (((List ZL)×Int×Unit) ⊕ List ZL)) :=
 if v1<(↑(List.length (Ze.ZI x0)):Int) then
 (atI (Ze.ZI x0) v1).bind fun x1 =>
 Zt ((List.length list1+List.length [(v0,v1,x1,Decidable.decide (v1=Wq ((↑(List.length (Ze.ZI x0)):Int)-(1:Int))),())])*(32:Nat)≤(140737488355328:Nat)) <|
 some (.inl (list1++[(v0,v1,x1,Decidable.decide (v1=Wq ((↑(List.length (Ze.ZI x0)):Int)-(1:Int))),())],Wq (v1+(1:Int)),()))
 else
 some (.inr (.inl (list1,Wq (v0+1),())))
def JV (d0:Zb) (list1:List ZL) (v1:Int):Option (((List ZL)×Int×Unit) ⊕ (((List ZL)×Int×Unit) ⊕ List ZL)) :=
 if v1<(↑(List.length (Zb.ZG d0)):Int) then
 (atI (Zb.ZG d0) v1).bind fun x0 =>
 Zt ((List.length list1+List.length [((-1:Int),v1,ZR.Net x0,Decidable.decide (ZR.Dir x0=(1:Int)),())])*(32:Nat)≤(140737488355328:Nat)) <|
 some (.inl (list1++[((-1:Int),v1,ZR.Net x0,Decidable.decide (ZR.Dir x0=(1:Int)),())],Wq (v1+(1:Int)),()))
 else
 some (.inr (.inr list1))
def JX (d0:Zb) (list0:List ZL) (v0:Int):Option (((List ZL)×Int×Unit) ⊕ List ZL) :=
 if v0<(↑(List.length (Zb.Instances d0)):Int) then
 (atI (Zb.Instances d0) v0).bind fun x0 =>
 Zv (fun v=>J2 v0 x0 v.1 v.2.1) (list0,(0:Int),())
 else
 Zv (fun v=>JV d0 v.1 v.2.1) (list0,(0:Int),())
def Yh (d0:Zb):Option (List ZL) :=
 Zv (fun v=>JX d0 v.1 v.2.1) (([]:List ZL),(0:Int),())
def ZCL:Ctr:=⟨[.dat (YG)],[.own (.ol 221 (.flat (Zkh)))],fun a K=>splitK a fun d0 a=>YR (Yh d0) fun r=>K (r,()) ()⟩
def ZaV (w0:Zr) (v0:Int):Option ((Int×Unit) ⊕ Bool) :=
 if v0<(↑(List.length (Zr.Parent w0)):Int) then
 (atI (Zr.Parent w0) v0).bind fun x0 =>
 if v0=0 then
 if x0=(-1) then
 (atI (Zr.Res w0) 0).bind fun x1 =>
 if x1=0 then
 if 0<v0 then
 (ZN x0 0 (Wq (v0-1))).bind fun within0 =>
 if within0=true then
 some (.inl (Wq (v0+1),()))
 else
 some (.inr Bool.false)
 else
 some (.inl (Wq (v0+1),()))
 else
 some (.inr Bool.false)
 else
 some (.inr Bool.false)
 else
 if 0<v0 then
 (ZN x0 0 (Wq (v0-1))).bind fun within0 =>
 if within0=true then
 some (.inl (Wq (v0+1),()))
 else
 some (.inr Bool.false)
 else
 some (.inl (Wq (v0+1),()))
 else
 some (.inr Bool.true)
def Zcm (w0:Zr):Option Bool :=
 Zv (fun v=>ZaV w0 v.1) ((0:Int),())
def c182:Ctr:=D1 (Vv) (.bool) Zcm
def ZfM (w0:Zr) (sinks0:Int):Option Bool :=
 (YV (Zr.Parent w0)).bind fun int64_0 =>
 (ZN int64_0 1 8).bind fun within0 =>
 if within0=true then
 (YV (Zr.Res w0)).bind fun int64_1 =>
 if int64_1=int64_0 then
 (YV (Zr.Cap w0)).bind fun int64_2 =>
 if int64_2=int64_0 then
 (Zcm w0).bind fun isTree0 =>
 if isTree0=true then
 (XO (Zr.Res w0) 0 1000).bind fun areWithin0 =>
 if areWithin0=true then
 (XO (Zr.Cap w0) 0 500).bind fun areWithin1 =>
 if areWithin1=true then
 (YV (Zr.Ze6 w0)).bind fun int64_3 =>
 if int64_3=sinks0 then
 (XO (Zr.Ze6 w0) 0 (Wq (int64_0-1))).bind fun areWithin2 =>
 some areWithin2
 else
 some Bool.false
 else
 some Bool.false
 else
 some Bool.false
 else
 some Bool.false
 else
 some Bool.false
 else
 some Bool.false
 else
 some Bool.false
def c183:Ctr:=D2 (Vv) Iq (.bool) ZfM
def Zda (b0:Za) (l0:List Int) (v1:Int):Option ((Int×Unit) ⊕ ((Int×(List Int)×Unit) ⊕ Bool)) :=
 if v1<(↑(List.length (Za.Zz b0)):Int) then
 (atI (Za.Zz b0) v1).bind fun x0 =>
 (atI l0 v1).bind fun x1 =>
 (ZfM x0 x1).bind fun IsWire0 =>
 if IsWire0=true then
 some (.inl (Wq (v1+1),()))
 else
 some (.inr (.inr Bool.false))
 else
 some (.inr (.inr Bool.true))
def Za5 (b0:Za) (places0:List ZL) (v0:Int) (l0:List Int):Option ((Int×(List Int)×Unit) ⊕ Bool) :=
 if v0<(↑places0.length:Int) then
 (atI places0 v0).bind fun x0 =>
 if (ZL.drives x0)=true then
 some (.inl (Wq (v0+1),l0,()))
 else
 (atI l0 (ZL.net x0)).bind fun x1 =>
 some (.inl (Wq (v0+1),List.set l0 (Int.toNat (ZL.net x0)) (Wq (x1+1)),()))
 else
 Zv (fun v=>Zda b0 l0 v.1) ((0:Int),())
def ZgE (b0:Za):Option Bool :=
 (Zfr (Za.Library b0) (Za.Design b0)).bind fun IsDesign0 =>
 if IsDesign0=true then
 if (↑(List.length (Za.Zz b0)):Int)=(↑(List.length (Zb.ZI (Za.Design b0))):Int) then
 Zt ((0:Int)≤(↑(List.length (Za.Zz b0)):Int)) <|
 Zt ((↑(List.length (Za.Zz b0)):Int)≤(↑(List.length (Za.Zz b0)):Int)) <|
 Zt ((↑(List.length (Za.Zz b0)):Int)≤(4611686018427387904:Int)) <|
 Zt ((↑(8:Nat):Int)*(↑(List.length (Za.Zz b0)):Int)≤(281474976710656:Int)) <|
 (Yh (Za.Design b0)).bind fun places0 =>
 Zv (fun v=>Za5 b0 places0 v.1 v.2.1) ((0:Int),List.replicate (Int.toNat (↑(List.length (Za.Zz b0)):Int)) (0:Int),())
 else
 some Bool.false
 else
 some Bool.false
def ZB9:Ctr:=D1 (Y3) (.bool) ZgE
def JH (a0:ZJ):Option (List (Int×Int×Unit)) :=
 if ZJ.Kind a0=2 then
 some ([((0:Int),(0:Int),()),((0:Int),(1:Int),())])
 else
 if ZJ.Kind a0=3 then
 some ([((1:Int),(0:Int),()),((1:Int),(1:Int),())])
 else
 if ZJ.Kind a0=1 then
 if ZJ.ZbJ a0=1 then
 some ([((0:Int),(0:Int),()),((1:Int),(1:Int),())])
 else
 if ZJ.ZbJ a0=2 then
 some ([((0:Int),(1:Int),()),((1:Int),(0:Int),())])
 else
 some ([((0:Int),(0:Int),()),((0:Int),(1:Int),()),((1:Int),(0:Int),()),((1:Int),(1:Int),())])
 else
 some ([]:List (Int×Int×Unit))
def ZDD:Ctr:=⟨[.dat (Zib)],[.own (.ol 320 (.flat (.pair Iq (.pair Iq (.unit)))))],fun a K=>splitK a fun a0 a=>YR (JH a0) fun r=>K (r,()) ()⟩
def Qt (first0:Int) (v0:Int) (x2:ZJ) (transitions0:List (Int×Int×Unit)) (list1:List JO) (v1:Int):Option (((List JO)×Int×Unit) ⊕ (((List JO)×Int×Unit) ⊕ List JO)) :=
 if v1<(↑transitions0.length:Int) then
 (atI transitions0 v1).bind fun x3 =>
 Zt ((List.length list1+List.length [(Wq (Wq ((2:Int)*Wq (first0+ZJ.From x2))+x3.fst),Wq (Wq ((2:Int)*Wq (first0+ZJ.To x2))+x3.snd.fst),(1:Int),v0,())])*(32:Nat)≤(140737488355328:Nat)) <|
 some (.inl (list1++[(Wq (Wq ((2:Int)*Wq (first0+ZJ.From x2))+x3.fst),Wq (Wq ((2:Int)*Wq (first0+ZJ.To x2))+x3.snd.fst),(1:Int),v0,())],Wq (v1+(1:Int)),()))
 else
 some (.inr (.inl (list1,Wq (v0+1),())))
def V3 (first0:Int) (x1:Zm) (list0:List JO) (v0:Int):Option (((List JO)×Int×Unit) ⊕ List JO) :=
 if v0<(↑(List.length (Zm.JQ x1)):Int) then
 (atI (Zm.JQ x1) v0).bind fun x2 =>
 (JH x2).bind fun transitions0 =>
 Zv (fun v=>Qt first0 v0 x2 transitions0 v.1 v.2.1) (list0,(0:Int),())
 else
 some (.inr list0)
def JF (b0:Za) (x0:Ze) (first0:Int):Option (List JO) :=
 (atI (Zo.Cells (Za.Library b0)) (Ze.Cell x0)).bind fun x1 =>
 Zv (fun v=>V3 first0 x1 v.1 v.2.1) (([]:List JO),(0:Int),())
def ZBT:Ctr:=⟨[.dat (Y3),.dat (Yq),.dat Iq],[.own (.ol 257 (.flat (Zpw)))],fun a K=>splitK a fun b0 a=>splitK a fun x0 a=>splitK a fun first0 a=>YR (JF b0 x0 first0) fun r=>K (r,()) ()⟩
def ZC (s0:List Int):Option (List Int) :=
 Zt ((List.length (([]:List Int))+List.length s0)*(8:Nat)≤(140737488355328:Nat)) <|
 some (([]:List Int)++s0)
def ZC4:Ctr:=⟨[.dat (.sl Iq)],[.own (.ol 2 (.flat Iq))],fun a K=>splitK a fun s0 a=>YR (ZC s0) fun r=>K (r,()) ()⟩
def Zai (net0:Int) (places0:List ZL) (list0:List Int) (v0:Int):Option (((List Int)×Int×Unit) ⊕ List Int) :=
 if v0<(↑places0.length:Int) then
 (atI places0 v0).bind fun x0 =>
 if ZL.net x0=net0 then
 if (ZL.drives x0)=true then
 some (.inl (list0,Wq (v0+1),()))
 else
 Zt ((List.length list0+List.length [v0])*(8:Nat)≤(140737488355328:Nat)) <|
 some (.inl (list0++[v0],Wq (v0+(1:Int)),()))
 else
 some (.inl (list0,Wq (v0+1),()))
 else
 some (.inr list0)
def JY (d0:Zb) (net0:Int):Option (List Int) :=
 (Yh d0).bind fun places0 =>
 Zv (fun v=>Zai net0 places0 v.1 v.2.1) (([]:List Int),(0:Int),())
def ZDG:Ctr:=⟨[.dat (YG),.dat Iq],[.own (.ol 2 (.flat Iq))],fun a K=>splitK a fun d0 a=>splitK a fun net0 a=>YR (JY d0 net0) fun r=>K (r,()) ()⟩
def ZbN (d0:Zb) (l0:Zo) (p0:ZL):Option Int :=
 if ZL.instance p0<0 then
 some 0
 else
 (atI (Zb.Instances d0) (ZL.instance p0)).bind fun x0 =>
 (atI (Zo.Cells l0) (Ze.Cell x0)).bind fun x1 =>
 (atI (Zm.Yw x1) (ZL.pin p0)).bind fun x2 =>
 some (YP.Cap x2)
def ZEx:Ctr:=D3 (YG) (Xh) (Zkh) Iq ZbN
def VZ (x0:Zr) (v1:Int) (l1:List Int):Option ((Int×(List Int)×Unit) ⊕ ((Int×(List Int)×Unit) ⊕ List Int)) :=
 if 0<v1 then
 (atI (Zr.Parent x0) v1).bind fun x1 =>
 (atI l1 x1).bind fun x2 =>
 (atI l1 v1).bind fun x3 =>
 some (.inl (Wq (v1-1),List.set l1 (Int.toNat x1) (Wq (x2+x3)),()))
 else
 some (.inr (.inr l1))
def VY (a0:Za) (x0:Zr) (places0:List ZL) (sinks0:List Int) (v0:Int) (l0:List Int):Option ((Int×(List Int)×Unit) ⊕ List Int) :=
 if v0<(↑sinks0.length:Int) then
 (atI sinks0 v0).bind fun x1 =>
 (atI (Zr.Ze6 x0) v0).bind fun x2 =>
 (atI l0 x2).bind fun x3 =>
 (atI places0 x1).bind fun x4 =>
 (ZbN (Za.Design a0) (Za.Library a0) x4).bind fun capOf0 =>
 some (.inl (Wq (v0+1),List.set l0 (Int.toNat x2) (Wq (x3+capOf0)),()))
 else
 Zv (fun v=>VZ x0 v.1 v.2.1) (Wq ((↑l0.length:Int)-(1:Int)),l0,())
def Vd (a0:Za) (a1:Int):Option (List Int) :=
 (atI (Za.Zz a0) a1).bind fun x0 =>
 (ZC (Zr.Cap x0)).bind fun int64_0 =>
 (Yh (Za.Design a0)).bind fun places0 =>
 (JY (Za.Design a0) a1).bind fun sinks0 =>
 Zv (fun v=>VY a0 x0 places0 sinks0 v.1 v.2.1) ((0:Int),int64_0,())
def ZDW:Ctr:=⟨[.dat (Y3),.dat Iq],[.own (.ol 2 (.flat Iq))],fun a K=>splitK a fun a0 a=>splitK a fun a1 a=>YR (Vd a0 a1) fun r=>K (r,()) ()⟩
def VH (x0:Zr) (nodeLoads0:List Int) (i0:Int) (l0:List Int):Option ((Int×(List Int)×Unit) ⊕ List Int) :=
 if i0<(↑l0.length:Int) then
 (atI (Zr.Parent x0) i0).bind fun x1 =>
 (atI l0 x1).bind fun x2 =>
 (atI (Zr.Res x0) i0).bind fun x3 =>
 (atI nodeLoads0 i0).bind fun x4 =>
 (atI l0 i0).bind fun x5 =>
 some (.inl (Wq (i0+1),List.set l0 (Int.toNat i0) (Wq (x2+Wq (x3*x4))),()))
 else
 some (.inr l0)
def Jg (b0:Za) (net0:Int):Option (List Int) :=
 (atI (Za.Zz b0) net0).bind fun x0 =>
 (Vd b0 net0).bind fun nodeLoads0 =>
 Zt ((0:Int)≤(↑nodeLoads0.length:Int)) <|
 Zt ((↑nodeLoads0.length:Int)≤(↑nodeLoads0.length:Int)) <|
 Zt ((↑nodeLoads0.length:Int)≤(4611686018427387904:Int)) <|
 Zt ((↑(8:Nat):Int)*(↑nodeLoads0.length:Int)≤(281474976710656:Int)) <|
 Zv (fun v=>VH x0 nodeLoads0 v.1 v.2.1) ((1:Int),List.replicate (Int.toNat (↑nodeLoads0.length:Int)) (0:Int),())
def ZDu:Ctr:=⟨[.dat (Y3),.dat Iq],[.own (.ol 2 (.flat Iq))],fun a K=>splitK a fun b0 a=>splitK a fun net0 a=>YR (Jg b0 net0) fun r=>K (r,()) ()⟩
def Vh (nodeDelays0:List Int) (x0:Zr) (out0:List Int) (v0:Int):Option (((List Int)×Int×Unit) ⊕ List Int) :=
 if v0<(↑(List.length (Zr.Ze6 x0)):Int) then
 (atI (Zr.Ze6 x0) v0).bind fun x1 =>
 (atI nodeDelays0 x1).bind fun x2 =>
 Zt ((List.length out0+List.length [x2])*(8:Nat)≤(140737488355328:Nat)) <|
 some (.inl (out0++[x2],Wq (v0+(1:Int)),()))
 else
 some (.inr out0)
def VR (b0:Za) (net0:Int):Option (List Int) :=
 (Jg b0 net0).bind fun nodeDelays0 =>
 (atI (Za.Zz b0) net0).bind fun x0 =>
 Zv (fun v=>Vh nodeDelays0 x0 v.1 v.2.1) (([]:List Int),(0:Int),())
def ZEp:Ctr:=⟨[.dat (Y3),.dat Iq],[.own (.ol 2 (.flat Iq))],fun a K=>splitK a fun b0 a=>splitK a fun net0 a=>YR (VR b0 net0) fun r=>K (r,()) ()⟩
def ZaZ (l0:List Int) (v3:Int) (v4:Int) (x2:Int) (v5:Int) (c5:List JO):Option ((Int×(List JO)×Unit) ⊕ ((Int×(List JO)×Unit) ⊕ ((Int×(List Int)×(List (List Int))×(List JO)×(List (List Int))×Unit) ⊕ ((Int×(List Int)×(List (List Int))×Unit) ⊕ ((Int×Int×(List JO)×Unit) ⊕ Xj))))) :=
 if v5<2 then
 (atI l0 v3).bind fun x3 =>
 Zt ((List.length c5+List.length [(Wq (Wq ((2:Int)*x3)+v5),Wq (Wq ((2:Int)*x2)+v5),(2:Int),v4,())])*(32:Nat)≤(140737488355328:Nat)) <|
 some (.inl (Wq (v5+(1:Int)),c5++[(Wq (Wq ((2:Int)*x3)+v5),Wq (Wq ((2:Int)*x2)+v5),(2:Int),v4,())],()))
 else
 some (.inr (.inl (Wq (v4+1),c5,())))
def Za7 (l0:List Int) (v3:Int) (c1:List Int) (c2:List (List Int)) (l2:List (List Int)) (x0:Int) (exactDelays0:List Int) (x1:List Int) (v4:Int) (c4:List JO):Option ((Int×(List JO)×Unit) ⊕ ((Int×(List Int)×(List (List Int))×(List JO)×(List (List Int))×Unit) ⊕ ((Int×(List Int)×(List (List Int))×Unit) ⊕ ((Int×Int×(List JO)×Unit) ⊕ Xj)))) :=
 if v4<(↑x1.length:Int) then
 (atI x1 v4).bind fun x2 =>
 Zv (fun v=>ZaZ l0 v3 v4 x2 v.1 v.2.1) ((0:Int),c4,())
 else
 some (.inr (.inl (Wq (v3+(1:Int)),c1++[x0],c2++[exactDelays0],c4,List.set l2 (Int.toNat v3) x1,())))
def Za0 (a0:Za) (places0:List ZL) (l0:List Int) (v3:Int) (c1:List Int) (c2:List (List Int)) (c3:List JO) (l2:List (List Int)):Option ((Int×(List Int)×(List (List Int))×(List JO)×(List (List Int))×Unit) ⊕ ((Int×(List Int)×(List (List Int))×Unit) ⊕ ((Int×Int×(List JO)×Unit) ⊕ Xj))) :=
 if v3<(↑(List.length (Za.Zz a0)):Int) then
 (Vd a0 v3).bind fun nodeLoads0 =>
 (atI nodeLoads0 0).bind fun x0 =>
 Zt ((List.length c1+List.length [x0])*(8:Nat)≤(140737488355328:Nat)) <|
 (VR a0 v3).bind fun exactDelays0 =>
 Zt ((List.length c2+List.length [exactDelays0])*(24:Nat)≤(140737488355328:Nat)) <|
 (atI l2 v3).bind fun x1 =>
 Zv (fun v=>Za7 l0 v3 c1 c2 l2 x0 exactDelays0 x1 v.1 v.2.1) ((0:Int),c3,())
 else
 some (.inr (.inr (.inr (a0,places0,c3,c1,c2,([]:List Int),()))))
def Za1 (a0:Za) (places0:List ZL) (c0:List JO) (v2:Int) (l0:List Int) (l1:List (List Int)):Option ((Int×(List Int)×(List (List Int))×Unit) ⊕ ((Int×Int×(List JO)×Unit) ⊕ Xj)) :=
 if v2<(↑places0.length:Int) then
 (atI places0 v2).bind fun x0 =>
 if (ZL.drives x0)=true then
 (atI l0 (ZL.net x0)).bind fun x1 =>
 some (.inl (Wq (v2+1),List.set l0 (Int.toNat (ZL.net x0)) v2,l1,()))
 else
 (atI l1 (ZL.net x0)).bind fun x1 =>
 Zt ((List.length x1+List.length [v2])*(8:Nat)≤(140737488355328:Nat)) <|
 some (.inl (Wq (v2+(1:Int)),l0,List.set l1 (Int.toNat (ZL.net x0)) (x1++[v2]),()))
 else
 Zv (fun v=>Za0 a0 places0 l0 v.1 v.2.1 v.2.2.1 v.2.2.2.1 v.2.2.2.2.1) ((0:Int),([]:List Int),([]:List (List Int)),c0,l1,())
def Zc2 (a0:Za) (places0:List ZL) (v0:Int) (v1:Int) (c0:List JO):Option ((Int×Int×(List JO)×Unit) ⊕ Xj) :=
 if v1<(↑(List.length (Zb.Instances (Za.Design a0))):Int) then
 (atI (Zb.Instances (Za.Design a0)) v1).bind fun x0 =>
 (JF a0 x0 v0).bind fun cellLinks0 =>
 Zt ((List.length c0+List.length cellLinks0)*(32:Nat)≤(140737488355328:Nat)) <|
 (YV (Ze.ZI x0)).bind fun int64_0 =>
 some (.inl (Wq (v0+int64_0),Wq (v1+1),c0++cellLinks0,()))
 else
 Zt ((0:Int)≤(↑(List.length (Za.Zz a0)):Int)) <|
 Zt ((↑(List.length (Za.Zz a0)):Int)≤(↑(List.length (Za.Zz a0)):Int)) <|
 Zt ((↑(List.length (Za.Zz a0)):Int)≤(4611686018427387904:Int)) <|
 Zt ((↑(8:Nat):Int)*(↑(List.length (Za.Zz a0)):Int)≤(281474976710656:Int)) <|
 Zt ((↑(24:Nat):Int)*(↑(List.length (Za.Zz a0)):Int)≤(281474976710656:Int)) <|
 Zv (fun v=>Za1 a0 places0 c0 v.1 v.2.1 v.2.2.1) ((0:Int),List.replicate (Int.toNat (↑(List.length (Za.Zz a0)):Int)) (0:Int),List.replicate (Int.toNat (↑(List.length (Za.Zz a0)):Int)) (([]:List Int)),())
def ZgG (a0:Za):Option Xj :=
 (Yh (Za.Design a0)).bind fun places0 =>
 Zv (fun v=>Zc2 a0 places0 v.1 v.2.1 v.2.2.1) ((0:Int),(0:Int),([]:List JO),())
def c193:Ctr:=D1 (Y3) (.ptr (Zn5)) ZgG
def ZaT (list0:List Zl):Option Int :=
 some (↑list0.length:Int)
def c194:Ctr:=D1 (.sl (XF)) Iq ZaT
def JD (c0:Zl):Option Bool :=
 (ZN (Zl.Zca c0) 2 100000).bind fun within0 =>
 if within0=true then
 (ZN (Zl.ZdJ c0) 0 (Wq (Zl.Zca c0-1))).bind fun within1 =>
 if within1=true then
 (ZN (Zl.ZdM c0) 0 (Wq (Zl.Zca c0-1))).bind fun within2 =>
 if within2=true then
 if Zl.ZdJ c0=Zl.ZdM c0 then
 some Bool.false
 else
 if Zl.Divide c0=1 then
 some (!Zl.Zkd c0)
 else
 some Bool.false
 else
 some Bool.false
 else
 some Bool.false
 else
 some Bool.false
def ZA5:Ctr:=D1 (XF) (.bool) JD
def ZaG (rec0:(List Zl)→Int→Option ZeK) (list0:List Zl) (k0:Int):Option ZeK :=
 (atI list0 k0).bind fun x0 =>
 if Zl.Source x0<0 then
 some (Zl.Zca x0,(Zl.ZdJ x0,Zl.ZdM x0,()),())
 else
 (rec0 list0 (Zl.Source x0)).bind fun r0 =>
 if 1<Zl.Divide x0 then
 if (Zl.Zkd x0)=true then
 some (Wq (Zl.Divide x0*ZeK.period r0),(Wq ((ZeK.edges r0).fst+Wq (Wq (Int.tdiv (Zl.Divide x0) 2)*ZeK.period r0)),(ZeK.edges r0).fst,()),())
 else
 some (Wq (Zl.Divide x0*ZeK.period r0),((ZeK.edges r0).fst,Wq ((ZeK.edges r0).fst+Wq (Wq (Int.tdiv (Zl.Divide x0) 2)*ZeK.period r0)),()),())
 else
 if (Zl.Zkd x0)=true then
 some (ZeK.period r0,((ZeK.edges r0).snd.fst,(ZeK.edges r0).fst,()),())
 else
 some r0
def Zao:Nat→(List Zl)→Int→Option ZeK
 | 0=>fun _ _=>none
 | n+1=>ZaG (Zao n)
def ZhX (list0:List Zl) (k0:Int):Option ZeK:=ZzE (fun n=>Zao n list0 k0)
def Zei (rec0:(List Zl)→Int→Option ZeK):Ctr:=⟨[.dat (.sl (XF)),.dat Iq],[.dat (ZBr)],fun a K=>splitK a fun list0 a=>splitK a fun k0 a=>YR (rec0 list0 k0) fun r=>K (r,()) ()⟩
def c196:Ctr:=Zei ZhX
def ZgT (a0:List Zl) (a1:Int):Option Bool :=
 (atI a0 a1).bind fun x0 =>
 if Zl.Place x0<0 then
 some Bool.false
 else
 if Zl.X6 x0<0 then
 some Bool.false
 else
 if Zl.VE x0<Zl.X6 x0 then
 some Bool.false
 else
 if 100000<Zl.VE x0 then
 some Bool.false
 else
 (ZN (Zl.Zbe x0) 0 100000).bind fun within0 =>
 if within0=true then
 if Zl.Source x0=(-1) then
 (JD x0).bind fun isPrimary0 =>
 some isPrimary0
 else
 (ZN (Zl.Source x0) 0 (Wq (a1-1))).bind fun within1 =>
 if within1=true then
 (ZN (Zl.Divide x0) 1 8).bind fun within2 =>
 if within2=true then
 if Zl.Zca x0=0 then
 if Zl.ZdJ x0=0 then
 if Zl.ZdM x0=0 then
 (ZhX a0 a1).bind fun waveOf0 =>
 some (Decidable.decide (ZeK.period waveOf0≤100000))
 else
 some Bool.false
 else
 some Bool.false
 else
 some Bool.false
 else
 some Bool.false
 else
 some Bool.false
 else
 some Bool.false
def ZFh:Ctr:=D2 (.sl (XF)) Iq (.bool) ZgT
def ZcH (list0:List Zl) (names0:List (List UInt8)) (v0:Int):Option (((List (List UInt8))×Int×Unit) ⊕ Bool) :=
 if v0<(↑list0.length:Int) then
 (atI list0 v0).bind fun x0 =>
 (ZgT list0 v0).bind fun isClock0 =>
 if isClock0=true then
 Zt ((List.length names0+List.length [Zl.Name x0])*(16:Nat)≤(140737488355328:Nat)) <|
 some (.inl (names0++[Zl.Name x0],Wq (v0+(1:Int)),()))
 else
 some (.inr Bool.false)
 else
 (QF names0).bind fun areNames0 =>
 some (.inr areNames0)
def Zfy (list0:List Zl):Option Bool :=
 if 6<(↑list0.length:Int) then
 some Bool.false
 else
 Zv (fun v=>ZcH list0 v.1 v.2.1) (([]:List (List UInt8)),(0:Int),())
def c198:Ctr:=D1 (.sl (XF)) (.bool) Zfy
def Xp (list0:List ZL):Option Int :=
 some (↑list0.length:Int)
def ZDF:Ctr:=D1 (.sl (Zkh)) Iq Xp
def Vx (v0:Xj) (place0:Int):Option Bool :=
 (Xp (Xj.places v0)).bind fun place1 =>
 (ZN place0 0 (Wq (place1-1))).bind fun within0 =>
 some within0
def ZCJ:Ctr:=D2 (.ptr (Zn5)) Iq (.bool) Vx
def Ve (c0:Zl) (a0:Xj):Option Bool :=
 (Vx a0 (Zl.Place c0)).bind fun isPlace0 =>
 some !isPlace0
def c201:Ctr:=D2 (XF) (.ptr (.ptr (Zn5))) (.bool) Ve
def Yd (s0:List Zl) (f0:Xj×Unit) (v0:Int):Option ((Int×Unit) ⊕ Int) :=
 if v0<(↑s0.length:Int) then
 (atI s0 v0).bind fun x0 =>
 (Ve x0 f0.fst).bind fun c1_0 =>
 if c1_0=true then
 some (.inr v0)
 else
 some (.inl (Wq (v0+1),()))
 else
 some (.inr (-1))
def ZU (s0:List Zl) (f0:Xj×Unit):Option Int :=
 Zv (fun v=>Yd s0 f0 v.1) ((0:Int),())
def ZE2:Ctr:=D2 (.sl (XF)) (.fn 186 (.pair (.ptr (.ptr (Zn5))) (.unit))) Iq ZU
def ZT (s0:List Zl) (f0:Xj×Unit):Option Bool :=
 (ZU s0 f0).bind fun c1_0 =>
 some (Decidable.decide (0≤c1_0))
def c203:Ctr:=D2 (.sl (XF)) (.fn 186 (.pair (.ptr (.ptr (Zn5))) (.unit))) (.bool) ZT
def Zh5 (t0:Int):Option Bool :=
 (ZN t0 (-1000000000) 1000000000).bind fun within0 =>
 some within0
def ZEi:Ctr:=D1 Iq (.bool) Zh5
def ZdW (s0:YQ):Option Bool :=
 (Zh5 (YQ.Early s0)).bind fun isTime0 =>
 if isTime0=true then
 (Zh5 (YQ.Late s0)).bind fun isTime1 =>
 if isTime1=true then
 some (Decidable.decide (YQ.Early s0≤YQ.Late s0))
 else
 some Bool.false
 else
 some Bool.false
def ZEC:Ctr:=D1 (Zmy) (.bool) ZdW
def ZhP (n0:Int):Option Bool :=
 (ZN n0 0 1000000).bind fun within0 =>
 some within0
def c206:Ctr:=D1 Iq (.bool) ZhP
def Zdd (s0:YQ):Option Bool :=
 (ZdW s0).bind fun IsSpan0 =>
 if IsSpan0=true then
 (ZhP (YQ.Early s0)).bind fun isSlew0 =>
 if isSlew0=true then
 (ZhP (YQ.Late s0)).bind fun isSlew1 =>
 some isSlew1
 else
 some Bool.false
 else
 some Bool.false
def ZE8:Ctr:=D1 (Zmy) (.bool) Zdd
def Vj (a0:Xj) (a1:List Zj) (a2:Bool) (a3:Int) (v0:Int):Option ((Int×Unit) ⊕ Bool) :=
 if v0<(↑a1.length:Int) then
 (atI a1 v0).bind fun x0 =>
 (Vx a0 (Zj.Place x0)).bind fun isPlace0 =>
 if isPlace0=true then
 (atI (Xj.places a0) (Zj.Place x0)).bind fun x1 =>
 if 0≤ZL.instance x1 then
 some (.inr Bool.false)
 else
 if (ZL.drives x1 == a2)=true then
 if 0<v0 then
 (atI a1 (Wq (v0-1))).bind fun x2 =>
 if Zj.Place x0≤Zj.Place x2 then
 some (.inr Bool.false)
 else
 (ZN (Zj.Clock x0) 0 (Wq (a3-1))).bind fun within0 =>
 if within0=true then
 (ZdW (Zj.Delay x0)).bind fun IsSpan0 =>
 if IsSpan0=true then
 if YQ.Early (Zj.Delay x0)<(-100000) then
 some (.inr Bool.false)
 else
 if 100000<YQ.Late (Zj.Delay x0) then
 some (.inr Bool.false)
 else
 if a2=true then
 (Zdd (Zj.ZdS x0)).bind fun areSlews0 =>
 if areSlews0=true then
 if a2=true then
 some (.inl (Wq (v0+1),()))
 else
 if (Decidable.decide (YQ.Early (Zj.ZdS x0)=0)&&Decidable.decide (YQ.Late (Zj.ZdS x0)=0))=true then
 some (.inl (Wq (v0+1),()))
 else
 some (.inr Bool.false)
 else
 some (.inr Bool.false)
 else
 if a2=true then
 some (.inl (Wq (v0+1),()))
 else
 if (Decidable.decide (YQ.Early (Zj.ZdS x0)=0)&&Decidable.decide (YQ.Late (Zj.ZdS x0)=0))=true then
 some (.inl (Wq (v0+1),()))
 else
 some (.inr Bool.false)
 else
 some (.inr Bool.false)
 else
 some (.inr Bool.false)
 else
 (ZN (Zj.Clock x0) 0 (Wq (a3-1))).bind fun within0 =>
 if within0=true then
 (ZdW (Zj.Delay x0)).bind fun IsSpan0 =>
 if IsSpan0=true then
 if YQ.Early (Zj.Delay x0)<(-100000) then
 some (.inr Bool.false)
 else
 if 100000<YQ.Late (Zj.Delay x0) then
 some (.inr Bool.false)
 else
 if a2=true then
 (Zdd (Zj.ZdS x0)).bind fun areSlews0 =>
 if areSlews0=true then
 if a2=true then
 some (.inl (Wq (v0+1),()))
 else
 if (Decidable.decide (YQ.Early (Zj.ZdS x0)=0)&&Decidable.decide (YQ.Late (Zj.ZdS x0)=0))=true then
 some (.inl (Wq (v0+1),()))
 else
 some (.inr Bool.false)
 else
 some (.inr Bool.false)
 else
 if a2=true then
 some (.inl (Wq (v0+1),()))
 else
 if (Decidable.decide (YQ.Early (Zj.ZdS x0)=0)&&Decidable.decide (YQ.Late (Zj.ZdS x0)=0))=true then
 some (.inl (Wq (v0+1),()))
 else
 some (.inr Bool.false)
 else
 some (.inr Bool.false)
 else
 some (.inr Bool.false)
 else
 some (.inr Bool.false)
 else
 some (.inr Bool.false)
 else
 some (.inr Bool.true)
def Qx (a0:Xj) (a1:List Zj) (a2:Bool) (a3:Int):Option Bool :=
 Zv (fun v=>Vj a0 a1 a2 a3 v.1) ((0:Int),())
def c208:Ctr:=D4 (.ptr (Zn5)) (.sl (Yg)) (.bool) Iq (.bool) Qx
def Zgv (kind0:Int) (value0:Int):Option Bool :=
 if kind0=1 then
 some (Decidable.decide (value0=0))
 else
 if kind0=2 then
 (ZN value0 1 10).bind fun within0 =>
 some within0
 else
 if kind0=3 then
 if kind0=3 then
 (ZN value0 0 1000000000).bind fun within0 =>
 some within0
 else
 some Bool.false
 else
 if kind0=4 then
 (ZN value0 0 1000000000).bind fun within0 =>
 some within0
 else
 some Bool.false
def ZC8:Ctr:=D2 Iq Iq (.bool) Zgv
def VB (v0:Xj) (e0:Zg) (v1:Int):Option ((Int×Unit) ⊕ Bool) :=
 if v1<(↑(List.length [Zg.From e0,Zg.Through e0,Zg.To e0]):Int) then
 (atI ([Zg.From e0,Zg.Through e0,Zg.To e0]) v1).bind fun x0 =>
 if 4<(↑x0.length:Int) then
 some (.inr Bool.false)
 else
 (Xp (Xj.places v0)).bind fun place0 =>
 (XO x0 0 (Wq (place0-1))).bind fun areWithin0 =>
 if areWithin0=true then
 some (.inl (Wq (v1+1),()))
 else
 some (.inr Bool.false)
 else
 (Zgv (Zg.Kind e0) (Zg.Value e0)).bind fun isValue0 =>
 if isValue0=true then
 (Vs (Zg.From e0)).bind fun isIncreasing0 =>
 if isIncreasing0=true then
 (Vs (Zg.To e0)).bind fun isIncreasing1 =>
 some (.inr isIncreasing1)
 else
 some (.inr Bool.false)
 else
 some (.inr Bool.false)
def QI (v0:Xj) (e0:Zg):Option Bool :=
 Zv (fun v=>VB v0 e0 v.1) ((0:Int),())
def c210:Ctr:=D2 (.ptr (Zn5)) (Yn) (.bool) QI
def Va (e0:Zg) (a0:Xj):Option Bool :=
 (QI a0 e0).bind fun isException0 =>
 some !isException0
def ZER:Ctr:=D2 (Yn) (.ptr (.ptr (Zn5))) (.bool) Va
def ZW (s0:List Zg) (f0:Xj×Unit) (v0:Int):Option ((Int×Unit) ⊕ Int) :=
 if v0<(↑s0.length:Int) then
 (atI s0 v0).bind fun x0 =>
 (Va x0 f0.fst).bind fun c2_0 =>
 if c2_0=true then
 some (.inr v0)
 else
 some (.inl (Wq (v0+1),()))
 else
 some (.inr (-1))
def ZO (s0:List Zg) (f0:Xj×Unit):Option Int :=
 Zv (fun v=>ZW s0 f0 v.1) ((0:Int),())
def c212:Ctr:=D2 (.sl (Yn)) (.fn 190 (.pair (.ptr (.ptr (Zn5))) (.unit))) Iq ZO
def ZM (s0:List Zg) (f0:Xj×Unit):Option Bool :=
 (ZO s0 f0).bind fun c2_0 =>
 some (Decidable.decide (0≤c2_0))
def c213:Ctr:=D2 (.sl (Yn)) (.fn 190 (.pair (.ptr (.ptr (Zn5))) (.unit))) (.bool) ZM
def Zbv (early0:Int) (late0:Int):Option Bool :=
 if 100≤early0 then
 if early0≤late0 then
 some (Decidable.decide (late0≤5000))
 else
 some Bool.false
 else
 some Bool.false
def ZCR:Ctr:=D2 Iq Iq (.bool) Zbv
def Zfu (c0:Zy):Option Bool :=
 (ZcM (Zy.Name c0)).bind fun isName0 =>
 if isName0=true then
 (Zbv (Zy.Zbc c0) (Zy.ZdE c0)).bind fun areFactors0 =>
 if areFactors0=true then
 (Zbv (Zy.Zcb c0) (Zy.Zeo c0)).bind fun areFactors1 =>
 some areFactors1
 else
 some Bool.false
 else
 some Bool.false
def ZCc:Ctr:=D1 (Xf) (.bool) Zfu
def Zam (list0:List Zy):Option Int :=
 some (↑list0.length:Int)
def ZCG:Ctr:=D1 (.sl (Xf)) Iq Zam
def Qb (list0:List Zy) (names0:List (List UInt8)) (v0:Int):Option (((List (List UInt8))×Int×Unit) ⊕ Bool) :=
 if v0<(↑list0.length:Int) then
 (atI list0 v0).bind fun x0 =>
 (Zfu x0).bind fun IsCorner0 =>
 if IsCorner0=true then
 Zt ((List.length names0+List.length [Zy.Name x0])*(16:Nat)≤(140737488355328:Nat)) <|
 some (.inl (names0++[Zy.Name x0],Wq (v0+(1:Int)),()))
 else
 some (.inr Bool.false)
 else
 (Zam list0).bind fun Corner0 =>
 (ZN Corner0 1 4).bind fun within0 =>
 if within0=true then
 (QF names0).bind fun areNames0 =>
 some (.inr areNames0)
 else
 some (.inr Bool.false)
def ZbC (list0:List Zy):Option Bool :=
 Zv (fun v=>Qb list0 v.1 v.2.1) (([]:List (List UInt8)),(0:Int),())
def ZEF:Ctr:=D1 (.sl (Xf)) (.bool) ZbC
def ZbF (v0:Xj) (s0:Zn):Option Bool :=
 (ZaT (Zn.YE s0)).bind fun Clock0 =>
 (Zfy (Zn.YE s0)).bind fun IsClocks0 =>
 if IsClocks0=true then
 (ZT (Zn.YE s0) (v0,())).bind fun c1_0 =>
 if c1_0=true then
 some Bool.false
 else
 (Qx v0 (Zn.XV s0) Bool.true Clock0).bind fun areExternals0 =>
 if areExternals0=true then
 (Qx v0 (Zn.Y7 s0) Bool.false Clock0).bind fun areExternals1 =>
 if areExternals1=true then
 if 6<(↑(List.length (Zn.Exceptions s0)):Int) then
 some Bool.false
 else
 (ZM (Zn.Exceptions s0) (v0,())).bind fun c2_0 =>
 if c2_0=true then
 some Bool.false
 else
 if (↑(List.length (Zn.XT s0)):Int)=0 then
 some Bool.true
 else
 (ZbC (Zn.XT s0)).bind fun IsCornerList0 =>
 some IsCornerList0
 else
 some Bool.false
 else
 some Bool.false
 else
 some Bool.false
def c218:Ctr:=D2 (.ptr (Zn5)) (QX) (.bool) ZbF
def ZeI (b0:Za) (s0:Zn):Option Bool :=
 (ZgE b0).bind fun IsBlock0 =>
 if IsBlock0=true then
 (ZgG b0).bind fun newView0 =>
 (ZbF newView0 s0).bind fun isSetup0 =>
 some isSetup0
 else
 some Bool.false
def ZE3:Ctr:=D2 (Y3) (QX) (.bool) ZeI
def Zfs (e0:Zh):Option Zh :=
 if Zh.Kind e0=1 then
 some (Zh.Kind e0,Zh.Place e0,Zh.Cell e0,(0:Int),(0:Int),([]:List UInt8),(([]:List Int),([]:List Int),([]:List Int),([]:List Int),()),())
 else
 if Zh.Kind e0=2 then
 some (Zh.Kind e0,Zh.Place e0,Zh.Cell e0,(0:Int),(0:Int),Zh.Name e0,(([]:List Int),([]:List Int),([]:List Int),([]:List Int),()),())
 else
 if Zh.Kind e0=4 then
 some (Zh.Kind e0,Zh.Place e0,(0:Int),Zh.Net e0,Zh.Node e0,([]:List UInt8),(([]:List Int),([]:List Int),([]:List Int),([]:List Int),()),())
 else
 if Zh.Kind e0=5 then
 some (Zh.Kind e0,(0:Int),(0:Int),Zh.Net e0,(0:Int),([]:List UInt8),e0.snd.snd.snd.snd.snd.snd)
 else
 some (Zh.Kind e0,(0:Int),(0:Int),(0:Int),(0:Int),([]:List UInt8),(([]:List Int),([]:List Int),([]:List Int),([]:List Int),()),())
def ZDf:Ctr:=D1 (XL) (XL) Zfs
def Qy (s1_0:List Int) (s2_0:List Int) (v0:Int):Option ((Int×Unit) ⊕ Bool) :=
 if v0<(↑s1_0.length:Int) then
 (atI s1_0 v0).bind fun x0 =>
 (atI s2_0 v0).bind fun x1 =>
 if x0=x1 then
 some (.inl (Wq (v0+1),()))
 else
 some (.inr Bool.false)
 else
 some (.inr Bool.true)
def YZ (s1_0:List Int) (s2_0:List Int):Option Bool :=
 if (↑s1_0.length:Int)=(↑s2_0.length:Int) then
 Zv (fun v=>Qy s1_0 s2_0 v.1) ((0:Int),())
 else
 some Bool.false
def ZEA:Ctr:=D2 (.sl Iq) (.sl Iq) (.bool) YZ
def Zfa (a0:Zr) (b0:Zr):Option Bool :=
 (YZ (Zr.Parent a0) (Zr.Parent b0)).bind fun int64_0 =>
 if int64_0=true then
 (YZ (Zr.Res a0) (Zr.Res b0)).bind fun int64_1 =>
 if int64_1=true then
 (YZ (Zr.Cap a0) (Zr.Cap b0)).bind fun int64_2 =>
 if int64_2=true then
 (YZ (Zr.Ze6 a0) (Zr.Ze6 b0)).bind fun int64_3 =>
 some int64_3
 else
 some Bool.false
 else
 some Bool.false
 else
 some Bool.false
def c222:Ctr:=D2 (Vv) (Vv) (.bool) Zfa
def Zdl (a0:Zh) (b0:Zh):Option Bool :=
 if Zh.Kind a0=Zh.Kind b0 then
 if Zh.Place a0=Zh.Place b0 then
 if Zh.Cell a0=Zh.Cell b0 then
 if Zh.Net a0=Zh.Net b0 then
 if Zh.Node a0=Zh.Node b0 then
 if Zh.Name a0=Zh.Name b0 then
 (Zfa (Zh.Ze7 a0) (Zh.Ze7 b0)).bind fun sameWire0 =>
 some sameWire0
 else
 some Bool.false
 else
 some Bool.false
 else
 some Bool.false
 else
 some Bool.false
 else
 some Bool.false
 else
 some Bool.false
def ZD3:Ctr:=D2 (XL) (XL) (.bool) Zdl
def Zal (a0:Zh) (a1:Za):Option Bool :=
 (ZN (Zh.Kind a0) 1 5).bind fun within0 =>
 if within0=true then
 (Zfs a0).bind fun own0 =>
 (Zdl a0 own0).bind fun sameEdit0 =>
 if sameEdit0=true then
 (Yh (Za.Design a1)).bind fun places0 =>
 (Xp places0).bind fun place0 =>
 (ZN (Zh.Place a0) 0 (Wq (place0-1))).bind fun within1 =>
 if Zh.Kind a0=1 then
 if Zh.Kind a0=1 then
 if within1=true then
 (X3 (Zo.Cells (Za.Library a1))).bind fun Cell0 =>
 (ZN (Zh.Cell a0) 0 (Wq (Cell0-1))).bind fun within2 =>
 some within2
 else
 some Bool.false
 else
 if Zh.Kind a0=4 then
 if within1=true then
 (YU (Za.Design a1) (Zh.Net a0)).bind fun isNet0 =>
 if isNet0=true then
 (atI (Za.Zz a1) (Zh.Net a0)).bind fun x0 =>
 (YV (Zr.Parent x0)).bind fun int64_0 =>
 (ZN (Zh.Node a0) 0 (Wq (int64_0-1))).bind fun within2 =>
 some within2
 else
 some Bool.false
 else
 some Bool.false
 else
 if Zh.Kind a0=5 then
 (YU (Za.Design a1) (Zh.Net a0)).bind fun isNet0 =>
 some isNet0
 else
 some Bool.true
 else
 if Zh.Kind a0=2 then
 if within1=true then
 (X3 (Zo.Cells (Za.Library a1))).bind fun Cell0 =>
 (ZN (Zh.Cell a0) 0 (Wq (Cell0-1))).bind fun within2 =>
 some within2
 else
 some Bool.false
 else
 if Zh.Kind a0=4 then
 if within1=true then
 (YU (Za.Design a1) (Zh.Net a0)).bind fun isNet0 =>
 if isNet0=true then
 (atI (Za.Zz a1) (Zh.Net a0)).bind fun x0 =>
 (YV (Zr.Parent x0)).bind fun int64_0 =>
 (ZN (Zh.Node a0) 0 (Wq (int64_0-1))).bind fun within2 =>
 some within2
 else
 some Bool.false
 else
 some Bool.false
 else
 if Zh.Kind a0=5 then
 (YU (Za.Design a1) (Zh.Net a0)).bind fun isNet0 =>
 some isNet0
 else
 some Bool.true
 else
 some Bool.false
 else
 some Bool.false
def ZCw:Ctr:=D2 (XL) (Y3) (.bool) Zal
def ZeR (p0:YP) (q0:YP):Option Bool :=
 some (YP.Clock p0 == YP.Clock q0)
def ZDj:Ctr:=D2 (ZgP) (ZgP) (.bool) ZeR
def ZE (s1_0:List YP) (s2_0:List YP) (v0:Int):Option ((Int×Unit) ⊕ Bool) :=
 if v0<(↑s1_0.length:Int) then
 (atI s1_0 v0).bind fun x0 =>
 (atI s2_0 v0).bind fun x1 =>
 (ZeR x0 x1).bind fun c1_0 =>
 if c1_0=true then
 some (.inl (Wq (v0+1),()))
 else
 some (.inr Bool.false)
 else
 some (.inr Bool.true)
def Z6 (s1_0:List YP) (s2_0:List YP) (eq0:Unit):Option Bool :=
 if (↑s1_0.length:Int)=(↑s2_0.length:Int) then
 Zv (fun v=>ZE s1_0 s2_0 v.1) ((0:Int),())
 else
 some Bool.false
def c226:Ctr:=D3 (.sl (ZgP)) (.sl (ZgP)) (.fn 301 (.unit)) (.bool) Z6
def Ze8 (a0:Zm) (b0:Zm):Option Bool :=
 if Zm.Kind a0=Zm.Kind b0 then
 (Z6 (Zm.Yw a0) (Zm.Yw b0) ()).bind fun c1_0 =>
 some c1_0
 else
 some Bool.false
def c227:Ctr:=D2 (QL) (QL) (.bool) Ze8
def Vl (c0:Zm):Option Bool :=
 if Zm.Kind c0=1 then
 some (Decidable.decide ((↑(List.length (Zm.Yw c0)):Int)=2))
 else
 some Bool.false
def c228:Ctr:=D1 (QL) (.bool) Vl
def Zbd (x0:Ze) (a0:List UInt8):Option Bool :=
 some (Decidable.decide (Ze.Name x0=a0))
def c229:Ctr:=D2 (Yq) (.ptr (.str)) (.bool) Zbd
def ZY (s0:List Ze) (f0:List UInt8×Unit) (v0:Int):Option ((Int×Unit) ⊕ Int) :=
 if v0<(↑s0.length:Int) then
 (atI s0 v0).bind fun x0 =>
 (Zbd x0 f0.fst).bind fun c1_0 =>
 if c1_0=true then
 some (.inr v0)
 else
 some (.inl (Wq (v0+1),()))
 else
 some (.inr (-1))
def ZP (s0:List Ze) (f0:List UInt8×Unit):Option Int :=
 Zv (fun v=>ZY s0 f0 v.1) ((0:Int),())
def ZDo:Ctr:=D2 (.sl (Yq)) (.fn 305 (.pair (.ptr (.str)) (.unit))) Iq ZP
def Za8 (d0:Zb) (name0:List UInt8):Option Int :=
 (ZP (Zb.Instances d0) (name0,())).bind fun c1_0 =>
 some c1_0
def ZEq:Ctr:=D2 (YG) (.str) Iq Za8
def Jz (d0:Zb) (name0:List UInt8):Option Int :=
 (YM (Zb.ZI d0) name0).bind fun string0 =>
 some string0
def c232:Ctr:=D2 (YG) (.str) Iq Jz
def VO (a0:Za):Option Bool :=
 if (↑(List.length (Zb.Instances (Za.Design a0))):Int)=0 then
 some Bool.false
 else
 (atI (Zb.Instances (Za.Design a0)) (Wq ((↑(List.length (Zb.Instances (Za.Design a0))):Int)-1))).bind fun x0 =>
 (Xr (Zb.ZI (Za.Design a0))).bind fun string0 =>
 (atI (Zo.Cells (Za.Library a0)) (Ze.Cell x0)).bind fun x1 =>
 (Vl x1).bind fun isBuffer0 =>
 if isBuffer0=true then
 (atI (Ze.ZI x0) 1).bind fun x2 =>
 if x2=Wq (string0-1) then
 (atI (Ze.ZI x0) 0).bind fun x3 =>
 if x3=Wq (string0-1) then
 some Bool.false
 else
 (atI (Zb.ZI (Za.Design a0)) (Wq (string0-1))).bind fun x4 =>
 if x4=Ze.Name x0 then
 (atI (Za.Zz a0) (Wq (string0-1))).bind fun x5 =>
 if (↑(List.length (Zr.Ze6 x5)):Int)=1 then
 if (↑(List.length (Zr.Parent x5)):Int)=1 then
 (atI (Zr.Cap x5) 0).bind fun x6 =>
 some (Decidable.decide (x6=0))
 else
 some Bool.false
 else
 some Bool.false
 else
 some Bool.false
 else
 some Bool.false
 else
 some Bool.false
def c233:Ctr:=D1 (Y3) (.bool) VO
def JE (a0:Zh) (a1:Za):Option Bool :=
 (Yh (Za.Design a1)).bind fun places0 =>
 if Zh.Kind a0=1 then
 (atI places0 (Zh.Place a0)).bind fun x0 =>
 if 0≤ZL.instance x0 then
 if (ZL.drives x0)=true then
 (atI (Zb.Instances (Za.Design a1)) (ZL.instance x0)).bind fun x1 =>
 (atI (Zo.Cells (Za.Library a1)) (Ze.Cell x1)).bind fun x2 =>
 (atI (Zo.Cells (Za.Library a1)) (Zh.Cell a0)).bind fun x3 =>
 (Ze8 x2 x3).bind fun fitsSwap0 =>
 some fitsSwap0
 else
 some Bool.false
 else
 some Bool.false
 else
 if Zh.Kind a0=2 then
 (atI places0 (Zh.Place a0)).bind fun x0 =>
 if (ZL.drives x0)=true then
 some Bool.false
 else
 (atI (Zo.Cells (Za.Library a1)) (Zh.Cell a0)).bind fun x1 =>
 (Vl x1).bind fun isBuffer0 =>
 if isBuffer0=true then
 (ZcM (Zh.Name a0)).bind fun isName0 =>
 if isName0=true then
 (Za8 (Za.Design a1) (Zh.Name a0)).bind fun InstanceNamed0 =>
 if InstanceNamed0<0 then
 (Jz (Za.Design a1) (Zh.Name a0)).bind fun netNamed0 =>
 some (Decidable.decide (netNamed0<0))
 else
 some Bool.false
 else
 some Bool.false
 else
 some Bool.false
 else
 if Zh.Kind a0=3 then
 (VO a1).bind fun canUnbuffer0 =>
 some canUnbuffer0
 else
 if Zh.Kind a0=4 then
 (atI places0 (Zh.Place a0)).bind fun x0 =>
 if (ZL.drives x0)=true then
 some Bool.false
 else
 some (!Decidable.decide (ZL.net x0=Zh.Net a0))
 else
 (atI (Za.Zz a1) (Zh.Net a0)).bind fun x0 =>
 (YV (Zr.Ze6 x0)).bind fun int64_0 =>
 (ZfM (Zh.Ze7 a0) int64_0).bind fun IsWire0 =>
 some IsWire0
def c234:Ctr:=D2 (XL) (Y3) (.bool) JE
def Zce (e0:Zh) (b0:Za):Option Int :=
 (Zal e0 b0).bind fun isInRange0 =>
 if isInRange0=true then
 (JE e0 b0).bind fun isPossible0 =>
 if isPossible0=true then
 if Zh.Kind e0=2 then
 if (↑(List.length (Zb.Instances (Za.Design b0))):Int)=14 then
 some 3
 else
 if (↑(List.length (Zb.ZI (Za.Design b0))):Int)=30 then
 some 3
 else
 some 0
 else
 some 0
 else
 some 5
 else
 some 2
def ZCD:Ctr:=D2 (XL) (Y3) Iq Zce
def XY (s0:List Zl):Option (List Zl) :=
 Zt ((List.length (([]:List (List UInt8×Int×Int×Int×Int×Int×Int×Bool×Int×Int×Int×Unit)))+List.length s0)*(96:Nat)≤(140737488355328:Nat)) <|
 some (([]:List (List UInt8×Int×Int×Int×Int×Int×Int×Bool×Int×Int×Int×Unit))++s0)
def c236:Ctr:=⟨[.dat (.sl (XF))],[.own (.ol 150 (.flat (XF)))],fun a K=>splitK a fun s0 a=>YR (XY s0) fun r=>K (r,()) ()⟩
def YO (s0:List Zj):Option (List Zj) :=
 Zt ((List.length (([]:List (Int×Int×YQ×YQ×Unit)))+List.length s0)*(48:Nat)≤(140737488355328:Nat)) <|
 some (([]:List (Int×Int×YQ×YQ×Unit))++s0)
def ZCF:Ctr:=⟨[.dat (.sl (Yg))],[.own (.ol 187 (.flat (Yg)))],fun a K=>splitK a fun s0 a=>YR (YO s0) fun r=>K (r,()) ()⟩
def XG (s0:List Zy):Option (List Zy) :=
 Zt ((List.length (([]:List (List UInt8×Int×Int×Int×Int×Unit)))+List.length s0)*(48:Nat)≤(140737488355328:Nat)) <|
 some (([]:List (List UInt8×Int×Int×Int×Int×Unit))++s0)
def ZD7:Ctr:=⟨[.dat (.sl (Xf))],[.own (.ol 193 (.flat (Xf)))],fun a K=>splitK a fun s0 a=>YR (XG s0) fun r=>K (r,()) ()⟩
def VN (s0:Zn) (Clock0:List Zl) (External0:List Zj) (External1:List Zj) (Corner0:List Zy) (v0:Int) (c0:List Zg):Option ((Int×(List Zg)×Unit) ⊕ Zn) :=
 if v0<(↑(List.length (Zn.Exceptions s0)):Int) then
 (atI (Zn.Exceptions s0) v0).bind fun x0 =>
 (ZC (Zg.From x0)).bind fun int64_0 =>
 (ZC (Zg.Through x0)).bind fun int64_1 =>
 (ZC (Zg.To x0)).bind fun int64_2 =>
 Zt ((List.length c0+List.length [(Zg.Kind x0,Zg.Value x0,int64_0,int64_1,int64_2,())])*(88:Nat)≤(140737488355328:Nat)) <|
 some (.inl (Wq (v0+(1:Int)),c0++[(Zg.Kind x0,Zg.Value x0,int64_0,int64_1,int64_2,())],()))
 else
 some (.inr (Clock0,External0,External1,c0,Corner0,()))
def Zcy (s0:Zn):Option Zn :=
 (XY (Zn.YE s0)).bind fun Clock0 =>
 (YO (Zn.XV s0)).bind fun External0 =>
 (YO (Zn.Y7 s0)).bind fun External1 =>
 (XG (Zn.XT s0)).bind fun Corner0 =>
 Zv (fun v=>VN s0 Clock0 External0 External1 Corner0 v.1 v.2.1) ((0:Int),([]:List Zg),())
def ZEg:Ctr:=⟨[.dat (QX)],[.own (ZnC)],fun a K=>splitK a fun s0 a=>YR (Zcy s0) fun r=>K (r,()) ()⟩
def XQ (list0:List Ze):Option Int :=
 some (↑list0.length:Int)
def ZDz:Ctr:=D1 (.sl (Yq)) Iq XQ
def Qm (e0:Zh) (Instance0:Int) (places0:List ZL) (out0:List Int) (v0:Int):Option (((List Int)×Int×Unit) ⊕ List Int) :=
 if v0<(↑places0.length:Int) then
 (atI places0 v0).bind fun x0 =>
 if Zh.Kind e0=2 then
 if ZL.instance x0<0 then
 Zt ((List.length out0+List.length [Wq (v0+(2:Int))])*(8:Nat)≤(140737488355328:Nat)) <|
 some (.inl (out0++[Wq (v0+(2:Int))],Wq (v0+(1:Int)),()))
 else
 if Zh.Kind e0=3 then
 if ZL.instance x0<0 then
 Zt ((List.length out0+List.length [Wq (v0-(2:Int))])*(8:Nat)≤(140737488355328:Nat)) <|
 some (.inl (out0++[Wq (v0-(2:Int))],Wq (v0+(1:Int)),()))
 else
 if Zh.Kind e0=3 then
 if ZL.instance x0=Wq (Instance0-1) then
 Zt ((List.length out0+List.length [(-1:Int)])*(8:Nat)≤(140737488355328:Nat)) <|
 some (.inl (out0++[(-1:Int)],Wq (v0+(1:Int)),()))
 else
 Zt ((List.length out0+List.length [v0])*(8:Nat)≤(140737488355328:Nat)) <|
 some (.inl (out0++[v0],Wq (v0+(1:Int)),()))
 else
 Zt ((List.length out0+List.length [v0])*(8:Nat)≤(140737488355328:Nat)) <|
 some (.inl (out0++[v0],Wq (v0+(1:Int)),()))
 else
 if Zh.Kind e0=3 then
 if ZL.instance x0=Wq (Instance0-1) then
 Zt ((List.length out0+List.length [(-1:Int)])*(8:Nat)≤(140737488355328:Nat)) <|
 some (.inl (out0++[(-1:Int)],Wq (v0+(1:Int)),()))
 else
 Zt ((List.length out0+List.length [v0])*(8:Nat)≤(140737488355328:Nat)) <|
 some (.inl (out0++[v0],Wq (v0+(1:Int)),()))
 else
 Zt ((List.length out0+List.length [v0])*(8:Nat)≤(140737488355328:Nat)) <|
 some (.inl (out0++[v0],Wq (v0+(1:Int)),()))
 else
 if Zh.Kind e0=3 then
 if ZL.instance x0<0 then
 Zt ((List.length out0+List.length [Wq (v0-(2:Int))])*(8:Nat)≤(140737488355328:Nat)) <|
 some (.inl (out0++[Wq (v0-(2:Int))],Wq (v0+(1:Int)),()))
 else
 if Zh.Kind e0=3 then
 if ZL.instance x0=Wq (Instance0-1) then
 Zt ((List.length out0+List.length [(-1:Int)])*(8:Nat)≤(140737488355328:Nat)) <|
 some (.inl (out0++[(-1:Int)],Wq (v0+(1:Int)),()))
 else
 Zt ((List.length out0+List.length [v0])*(8:Nat)≤(140737488355328:Nat)) <|
 some (.inl (out0++[v0],Wq (v0+(1:Int)),()))
 else
 Zt ((List.length out0+List.length [v0])*(8:Nat)≤(140737488355328:Nat)) <|
 some (.inl (out0++[v0],Wq (v0+(1:Int)),()))
 else
 if Zh.Kind e0=3 then
 if ZL.instance x0=Wq (Instance0-1) then
 Zt ((List.length out0+List.length [(-1:Int)])*(8:Nat)≤(140737488355328:Nat)) <|
 some (.inl (out0++[(-1:Int)],Wq (v0+(1:Int)),()))
 else
 Zt ((List.length out0+List.length [v0])*(8:Nat)≤(140737488355328:Nat)) <|
 some (.inl (out0++[v0],Wq (v0+(1:Int)),()))
 else
 Zt ((List.length out0+List.length [v0])*(8:Nat)≤(140737488355328:Nat)) <|
 some (.inl (out0++[v0],Wq (v0+(1:Int)),()))
 else
 some (.inr out0)
def Jf (e0:Zh) (b0:Za):Option (List Int) :=
 (XQ (Zb.Instances (Za.Design b0))).bind fun Instance0 =>
 (Yh (Za.Design b0)).bind fun places0 =>
 Zv (fun v=>Qm e0 Instance0 places0 v.1 v.2.1) (([]:List Int),(0:Int),())
def ZEr:Ctr:=⟨[.dat (XL),.dat (Y3)],[.own (.ol 2 (.flat Iq))],fun a K=>splitK a fun e0 a=>splitK a fun b0 a=>YR (Jf e0 b0) fun r=>K (r,()) ()⟩
def Zar (after0:List Int) (list0:List Int) (v0:Int) (l0:List Int):Option ((Int×(List Int)×Unit) ⊕ (Bool×(List Int))) :=
 if v0<(↑list0.length:Int) then
 (atI l0 v0).bind fun x0 =>
 (atI after0 x0).bind fun x1 =>
 (atI (List.set l0 (Int.toNat v0) x1) v0).bind fun x2 =>
 if x2<0 then
 some (.inr (Bool.false,List.set l0 (Int.toNat v0) x1))
 else
 some (.inl (Wq (v0+1),List.set l0 (Int.toNat v0) x1,()))
 else
 some (.inr (Bool.true,l0))
def Jc (after0:List Int) (list0:List Int):Option (Bool×(List Int)) :=
 Zv (fun v=>Zar after0 list0 v.1 v.2.1) ((0:Int),list0,())
def ZDR:Ctr:=⟨[.dat (.sl Iq),.back (.ol 2 (.flat Iq))],[.dat (.bool)],fun a K=>splitK a fun after0 a=>splitK a fun list0 a=>YR (Jc after0 list0) fun r=>K (r.1,()) (r.2,())⟩
def Qu (a0:Zn) (a1:List Int) (l0:List Zl) (l1:List Zj) (l2:List Zj) (v3:Int) (c3:Bool) (l3:List (Int×Int×List Int×List Int×List Int×Unit)):Option ((Int×Bool×(List (Int×Int×List Int×List Int×List Int×Unit))×Unit) ⊕ ((Int×(List Zj)×Bool×Unit) ⊕ ((Int×(List Zj)×Bool×Unit) ⊕ ((Int×(List Zl)×Bool×Unit) ⊕ (Bool×Zn))))) :=
 if v3<(↑(List.length (Zn.Exceptions a0)):Int) then
 (atI l3 v3).bind fun x0 =>
 if c3=true then
 (Jc a1 x0.snd.snd.fst).bind fun carryAll0 =>
 if carryAll0.fst=true then
 (Jc a1 x0.snd.snd.snd.fst).bind fun carryAll1 =>
 if carryAll1.fst=true then
 (Jc a1 x0.snd.snd.snd.snd.fst).bind fun carryAll2 =>
 some (.inl (Wq (v3+1),carryAll2.fst,List.set l3 (Int.toNat v3) (x0.fst,x0.snd.fst,carryAll0.snd,carryAll1.snd,carryAll2.snd,()),()))
 else
 some (.inl (Wq (v3+1),Bool.false,List.set l3 (Int.toNat v3) (x0.fst,x0.snd.fst,carryAll0.snd,carryAll1.snd,x0.snd.snd.snd.snd),()))
 else
 some (.inl (Wq (v3+1),Bool.false,List.set l3 (Int.toNat v3) (x0.fst,x0.snd.fst,carryAll0.snd,x0.snd.snd.snd),()))
 else
 some (.inl (Wq (v3+1),Bool.false,List.set l3 (Int.toNat v3) x0,()))
 else
 some (.inr (.inr (.inr (.inr (c3,(l0,l1,l2,l3,a0.snd.snd.snd.snd))))))
def ZaR (a0:Zn) (a1:List Int) (l0:List Zl) (l1:List Zj) (v2:Int) (l2:List Zj) (c2:Bool):Option ((Int×(List Zj)×Bool×Unit) ⊕ ((Int×(List Zj)×Bool×Unit) ⊕ ((Int×(List Zl)×Bool×Unit) ⊕ (Bool×Zn)))) :=
 if v2<(↑(List.length (Zn.Y7 a0)):Int) then
 (atI l2 v2).bind fun x0 =>
 (atI a1 (Zj.Place x0)).bind fun x1 =>
 if c2=true then
 (atI (List.set l2 (Int.toNat v2) (x1,x0.snd)) v2).bind fun x2 =>
 some (.inl (Wq (v2+1),List.set l2 (Int.toNat v2) (x1,x0.snd),Decidable.decide (0≤Zj.Place x2),()))
 else
 some (.inl (Wq (v2+1),List.set l2 (Int.toNat v2) (x1,x0.snd),Bool.false,()))
 else
 Zv (fun v=>Qu a0 a1 l0 l1 l2 v.1 v.2.1 v.2.2.1) ((0:Int),c2,Zn.Exceptions a0,())
def ZaU (a0:Zn) (a1:List Int) (l0:List Zl) (v1:Int) (l1:List Zj) (c1:Bool):Option ((Int×(List Zj)×Bool×Unit) ⊕ ((Int×(List Zl)×Bool×Unit) ⊕ (Bool×Zn))) :=
 if v1<(↑(List.length (Zn.XV a0)):Int) then
 (atI l1 v1).bind fun x0 =>
 (atI a1 (Zj.Place x0)).bind fun x1 =>
 if c1=true then
 (atI (List.set l1 (Int.toNat v1) (x1,x0.snd)) v1).bind fun x2 =>
 some (.inl (Wq (v1+1),List.set l1 (Int.toNat v1) (x1,x0.snd),Decidable.decide (0≤Zj.Place x2),()))
 else
 some (.inl (Wq (v1+1),List.set l1 (Int.toNat v1) (x1,x0.snd),Bool.false,()))
 else
 Zv (fun v=>ZaR a0 a1 l0 l1 v.1 v.2.1 v.2.2.1) ((0:Int),Zn.Y7 a0,c1,())
def ZaS (a0:Zn) (a1:List Int) (v0:Int) (l0:List Zl) (c0:Bool):Option ((Int×(List Zl)×Bool×Unit) ⊕ (Bool×Zn)) :=
 if v0<(↑(List.length (Zn.YE a0)):Int) then
 (atI l0 v0).bind fun x0 =>
 (atI a1 (Zl.Place x0)).bind fun x1 =>
 if c0=true then
 (atI (List.set l0 (Int.toNat v0) (Zl.Name x0,x1,x0.snd.snd)) v0).bind fun x2 =>
 some (.inl (Wq (v0+1),List.set l0 (Int.toNat v0) (Zl.Name x0,x1,x0.snd.snd),Decidable.decide (0≤Zl.Place x2),()))
 else
 some (.inl (Wq (v0+1),List.set l0 (Int.toNat v0) (Zl.Name x0,x1,x0.snd.snd),Bool.false,()))
 else
 Zv (fun v=>ZaU a0 a1 l0 v.1 v.2.1 v.2.2.1) ((0:Int),Zn.XV a0,c0,())
def Zcq (a0:Zn) (a1:List Int):Option (Bool×Zn) :=
 Zv (fun v=>ZaS a0 a1 v.1 v.2.1 v.2.2.1) ((0:Int),Zn.YE a0,Bool.true,())
def ZEs:Ctr:=⟨[.io (ZnC),.dat (.sl Iq)],[.dat (.bool)],fun a K=>splitK a fun a0 a=>splitK a fun a1 a=>YR (Zcq a0 a1) fun r=>K (r.1,()) (r.2,())⟩
def QB (s0:List YP):Option (List YP) :=
 Zt ((List.length (([]:List (List UInt8×Int×Int×Bool×Unit)))+List.length s0)*(40:Nat)≤(140737488355328:Nat)) <|
 some (([]:List (List UInt8×Int×Int×Bool×Unit))++s0)
def ZCX:Ctr:=⟨[.dat (.sl (ZgP))],[.own (.ol 285 (.flat (ZgP)))],fun a K=>splitK a fun s0 a=>YR (QB s0) fun r=>K (r,()) ()⟩
def QA (s0:List ZJ):Option (List ZJ) :=
 Zt ((List.length (([]:List (Int×Int×Int×Int×List ZA×List ZA×Unit)))+List.length s0)*(80:Nat)≤(140737488355328:Nat)) <|
 some (([]:List (Int×Int×Int×Int×List ZA×List ZA×Unit))++s0)
def ZDZ:Ctr:=⟨[.dat (.sl (Zib))],[.own (.ol 289 (.flat (Zib)))],fun a K=>splitK a fun s0 a=>YR (QA s0) fun r=>K (r,()) ()⟩
def VU (list0:List ZA) (out0:List ZA) (v0:Int):Option (((List ZA)×Int×Unit) ⊕ List ZA) :=
 if v0<(↑list0.length:Int) then
 (atI list0 v0).bind fun x0 =>
 (ZC (ZA.Zg6 x0)).bind fun int64_0 =>
 (ZC (ZA.Loads x0)).bind fun int64_1 =>
 (ZC (ZA.Values x0)).bind fun int64_2 =>
 Zt ((List.length out0+List.length [(int64_0,int64_1,int64_2,())])*(72:Nat)≤(140737488355328:Nat)) <|
 some (.inl (out0++[(int64_0,int64_1,int64_2,())],Wq (v0+(1:Int)),()))
 else
 some (.inr out0)
def Zax (list0:List ZA):Option (List ZA) :=
 Zv (fun v=>VU list0 v.1 v.2.1) (([]:List ZA),(0:Int),())
def ZDq:Ctr:=⟨[.dat (.sl (XE))],[.own (.ol 341 (Zgw))],fun a K=>splitK a fun list0 a=>YR (Zax list0) fun r=>K (r,()) ()⟩
def Qi (v0:Int) (c0:List Zm) (x0:Zm) (Pin0:List YP) (int64_0:List Int) (Arc0:List ZJ) (v1:Int) (l1:List ZJ×Int):Option ((Int×(List ZJ×Int)×Unit) ⊕ ((Int×(List Zm)×Unit) ⊕ Zo)) :=
 if v1<(↑Arc0.length:Int) then
 (atI l1.fst v1).bind fun x1 =>
 Zt (l1.snd≤v1) <|
 (Zax (ZJ.Delay x1)).bind fun cloneTables0 =>
 (Zax (ZJ.ZdS x1)).bind fun cloneTables1 =>
 Zt (v1=l1.snd) <|
 (atI l1.fst l1.snd).bind fun x2 =>
 some (.inl (Wq (v1+1),(List.set l1.fst (Int.toNat l1.snd) (ZJ.Kind x2,ZJ.From x2,ZJ.To x2,ZJ.ZbJ x2,cloneTables0,cloneTables1,()),l1.snd+1),()))
 else
 Zt (l1.snd=(↑(List.length l1.fst):Int)) <|
 Zt ((List.length c0+List.length [(Zm.Name x0,Zm.Kind x0,Pin0,l1.fst,int64_0,x0.snd.snd.snd.snd.snd)])*(112:Nat)≤(140737488355328:Nat)) <|
 some (.inr (.inl (Wq (v0+(1:Int)),c0++[(Zm.Name x0,Zm.Kind x0,Pin0,l1.fst,int64_0,x0.snd.snd.snd.snd.snd)],())))
def XC (l0:Zo) (v0:Int) (c0:List Zm):Option ((Int×(List Zm)×Unit) ⊕ Zo) :=
 if v0<(↑(List.length (Zo.Cells l0)):Int) then
 (atI (Zo.Cells l0) v0).bind fun x0 =>
 (QB (Zm.Yw x0)).bind fun Pin0 =>
 (ZC (Zm.Truth x0)).bind fun int64_0 =>
 (QA (Zm.JQ x0)).bind fun Arc0 =>
 Zv (fun v=>Qi v0 c0 x0 Pin0 int64_0 Arc0 v.1 v.2.1) ((0:Int),(Arc0,(0:Int)),())
 else
 some (.inr (c0,()))
def Vq (l0:Zo):Option Zo :=
 Zv (fun v=>XC l0 v.1 v.2.1) ((0:Int),([]:List Zm),())
def ZEj:Ctr:=⟨[.dat (Xh)],[.own (Zov)],fun a K=>splitK a fun l0 a=>YR (Vq l0) fun r=>K (r,()) ()⟩
def Xq (s0:List Ze):Option (List Ze) :=
 Zt ((List.length (([]:List (List UInt8×Int×List Int×Unit)))+List.length s0)*(48:Nat)≤(140737488355328:Nat)) <|
 some (([]:List (List UInt8×Int×List Int×Unit))++s0)
def ZBV:Ctr:=⟨[.dat (.sl (Yq))],[.own (.ol 219 (.flat (Yq)))],fun a K=>splitK a fun s0 a=>YR (Xq s0) fun r=>K (r,()) ()⟩
def VD (s0:List (List UInt8)):Option (List (List UInt8)) :=
 Zt ((List.length (([]:List (List UInt8)))+List.length s0)*(16:Nat)≤(140737488355328:Nat)) <|
 some (([]:List (List UInt8))++s0)
def ZDC:Ctr:=⟨[.dat (.sl (.str))],[.own (.ol 9 (.flat (.str)))],fun a K=>splitK a fun s0 a=>YR (VD s0) fun r=>K (r,()) ()⟩
def Ql (s0:List ZR):Option (List ZR) :=
 Zt ((List.length (([]:List (List UInt8×Int×Int×Unit)))+List.length s0)*(32:Nat)≤(140737488355328:Nat)) <|
 some (([]:List (List UInt8×Int×Int×Unit))++s0)
def ZAL:Ctr:=⟨[.dat (.sl (Zcd))],[.own (.ol 246 (.flat (Zcd)))],fun a K=>splitK a fun s0 a=>YR (Ql s0) fun r=>K (r,()) ()⟩
def Qg (Instance0:List Ze) (string0:List (List UInt8)) (Port0:List ZR) (v0:Int) (l0:List Ze×Int):Option ((Int×(List Ze×Int)×Unit) ⊕ Zb) :=
 if v0<(↑Instance0.length:Int) then
 (atI l0.fst v0).bind fun x0 =>
 Zt (l0.snd≤v0) <|
 (ZC (Ze.ZI x0)).bind fun int64_0 =>
 Zt (v0=l0.snd) <|
 (atI l0.fst l0.snd).bind fun x1 =>
 some (.inl (Wq (v0+1),(List.set l0.fst (Int.toNat l0.snd) (Ze.Name x1,Ze.Cell x1,int64_0,()),l0.snd+1),()))
 else
 Zt (l0.snd=(↑(List.length l0.fst):Int)) <|
 some (.inr (l0.fst,string0,Port0,()))
def Vp (d0:Zb):Option Zb :=
 (Xq (Zb.Instances d0)).bind fun Instance0 =>
 (VD (Zb.ZI d0)).bind fun string0 =>
 (Ql (Zb.ZG d0)).bind fun Port0 =>
 Zv (fun v=>Qg Instance0 string0 Port0 v.1 v.2.1) ((0:Int),(Instance0,(0:Int)),())
def ZBF:Ctr:=⟨[.dat (YG)],[.own (ZpF)],fun a K=>splitK a fun d0 a=>YR (Vp d0) fun r=>K (r,()) ()⟩
def Zbl (w0:Zr):Option Zr :=
 (ZC (Zr.Parent w0)).bind fun int64_0 =>
 (ZC (Zr.Res w0)).bind fun int64_1 =>
 (ZC (Zr.Cap w0)).bind fun int64_2 =>
 (ZC (Zr.Ze6 w0)).bind fun int64_3 =>
 some (int64_0,int64_1,int64_2,int64_3,())
def ZBb:Ctr:=⟨[.dat (Vv)],[.own (Zl3)],fun a K=>splitK a fun w0 a=>YR (Zbl w0) fun r=>K (r,()) ()⟩
def VQ (b0:Za) (cloneLibrary0:Zo) (clone0:Zb) (v0:Int) (c0:List Zr):Option ((Int×(List Zr)×Unit) ⊕ Za) :=
 if v0<(↑(List.length (Za.Zz b0)):Int) then
 (atI (Za.Zz b0) v0).bind fun x0 =>
 (Zbl x0).bind fun clone1 =>
 Zt ((List.length c0+List.length [clone1])*(96:Nat)≤(140737488355328:Nat)) <|
 some (.inl (Wq (v0+(1:Int)),c0++[clone1],()))
 else
 some (.inr (cloneLibrary0,clone0,c0,()))
def Zcl (b0:Za):Option Za :=
 (Vq (Za.Library b0)).bind fun cloneLibrary0 =>
 (Vp (Za.Design b0)).bind fun clone0 =>
 Zv (fun v=>VQ b0 cloneLibrary0 clone0 v.1 v.2.1) ((0:Int),([]:List Zr),())
def ZCQ:Ctr:=⟨[.dat (Y3)],[.own (ZdI)],fun a K=>splitK a fun b0 a=>YR (Zcl b0) fun r=>K (r,()) ()⟩
def JJ (b0:Za) (places0:List ZL) (v0:Int) (m0:List ((Int×Int×Unit)×Int)) (l0:List Int):Option ((Int×(List ((Int×Int×Unit)×Int))×(List Int)×Unit) ⊕ List (V4×Int)) :=
 if v0<(↑places0.length:Int) then
 (atI places0 v0).bind fun x0 =>
 if (ZL.drives x0)=true then
 some (.inl (Wq (v0+1),m0,l0,()))
 else
 (atI (Za.Zz b0) (ZL.net x0)).bind fun x1 =>
 (atI l0 (ZL.net x0)).bind fun x2 =>
 (atI (Zr.Ze6 x1) x2).bind fun x3 =>
 some (.inl (Wq (v0+1),ZnA ZsE.ty ZsE.ety m0 (ZL.instance x0,ZL.pin x0,()) x3,List.set l0 (Int.toNat (ZL.net x0)) (Wq (x2+1)),()))
 else
 some (.inr m0)
def QT (b0:Za):Option (List (V4×Int)) :=
 Zt ((0:Int)≤(↑(List.length (Za.Zz b0)):Int)) <|
 Zt ((↑(List.length (Za.Zz b0)):Int)≤(↑(List.length (Za.Zz b0)):Int)) <|
 Zt ((↑(List.length (Za.Zz b0)):Int)≤(4611686018427387904:Int)) <|
 Zt ((↑(8:Nat):Int)*(↑(List.length (Za.Zz b0)):Int)≤(281474976710656:Int)) <|
 (Yh (Za.Design b0)).bind fun places0 =>
 Zv (fun v=>JJ b0 places0 v.1 v.2.1 v.2.2.1) ((0:Int),([]:List ((Int×Int×Unit)×Int)),List.replicate (Int.toNat (↑(List.length (Za.Zz b0)):Int)) (0:Int),())
def ZDT:Ctr:=⟨[.dat (Y3)],[.own (.mp (ZaW) Iq)],fun a K=>splitK a fun b0 a=>YR (QT b0) fun r=>K (r,()) ()⟩
def Vw (b0:Za) (key0:V4) (net0:Int):Option Za :=
 if V4.instance key0<0 then
 (atI (Zb.ZG (Za.Design b0)) (V4.pin key0)).bind fun x0 =>
 some (Za.Library b0,(Zb.Instances (Za.Design b0),Zb.ZI (Za.Design b0),List.set (Zb.ZG (Za.Design b0)) (Int.toNat (V4.pin key0)) (ZR.Name x0,ZR.Dir x0,net0,()),()),b0.snd.snd)
 else
 (atI (Zb.Instances (Za.Design b0)) (V4.instance key0)).bind fun x0 =>
 (atI x0.snd.snd.fst (V4.pin key0)).bind fun x1 =>
 some (Za.Library b0,(List.set (Zb.Instances (Za.Design b0)) (Int.toNat (V4.instance key0)) (x0.fst,x0.snd.fst,List.set x0.snd.snd.fst (Int.toNat (V4.pin key0)) net0,()),(Za.Design b0).snd),b0.snd.snd)
def ZCA:Ctr:=⟨[.io (ZdI),.dat (ZaW),.dat Iq],[],fun a K=>splitK a fun b0 a=>splitK a fun key0 a=>splitK a fun net0 a=>YR (Vw b0 key0 net0) fun r=>K () (r,())⟩
def JU (b0:Za) (nodes0:List (V4×Int)) (places0:List ZL) (v1:Int) (l1:List (List Int×List Int×List Int×List Int×Unit)):Option ((Int×(List (List Int×List Int×List Int×List Int×Unit))×Unit) ⊕ ((Int×(List (List Int×List Int×List Int×List Int×Unit))×Unit) ⊕ Za)) :=
 if v1<(↑places0.length:Int) then
 (atI places0 v1).bind fun x0 =>
 if (ZL.drives x0)=true then
 some (.inl (Wq (v1+1),l1,()))
 else
 (atI l1 (ZL.net x0)).bind fun x1 =>
 Zt ((List.length x1.snd.snd.snd.fst+List.length [Option.getD (Zi2 ZaW (Ty.int IntKind.i64) nodes0 (ZL.instance x0,ZL.pin x0,())) (0:Int)])*(8:Nat)≤(140737488355328:Nat)) <|
 some (.inl (Wq (v1+(1:Int)),List.set l1 (Int.toNat (ZL.net x0)) (x1.fst,x1.snd.fst,x1.snd.snd.fst,x1.snd.snd.snd.fst++[Option.getD (Zi2 ZaW (Ty.int IntKind.i64) nodes0 (ZL.instance x0,ZL.pin x0,())) (0:Int)],()),()))
 else
 some (.inr (.inr (Za.Library b0,Za.Design b0,l1,())))
def QM (b0:Za) (nodes0:List (V4×Int)) (v0:Int) (l0:List (List Int×List Int×List Int×List Int×Unit)):Option ((Int×(List (List Int×List Int×List Int×List Int×Unit))×Unit) ⊕ Za) :=
 if v0<(↑(List.length (Za.Zz b0)):Int) then
 (atI l0 v0).bind fun x0 =>
 some (.inl (Wq (v0+(1:Int)),List.set l0 (Int.toNat v0) (x0.fst,x0.snd.fst,x0.snd.snd.fst,([]:List Int),()),()))
 else
 (Yh (Za.Design b0)).bind fun places0 =>
 Zv (fun v=>JU b0 nodes0 places0 v.1 v.2.1) ((0:Int),l0,())
def Qj (b0:Za) (nodes0:List (V4×Int)):Option Za :=
 Zv (fun v=>QM b0 nodes0 v.1 v.2.1) ((0:Int),Za.Zz b0,())
def ZCT:Ctr:=⟨[.io (ZdI),.dat (.mp (ZaW) Iq)],[],fun a K=>splitK a fun b0 a=>splitK a fun nodes0 a=>YR (Qj b0 nodes0) fun r=>K () (r,())⟩
def ZbL (a0:Za) (a1:Zh):Option Za :=
 (QT a0).bind fun nodesOf0 =>
 (Yh (Za.Design a0)).bind fun places0 =>
 (atI places0 (Zh.Place a1)).bind fun x0 =>
 (Xr (Zb.ZI (Za.Design a0))).bind fun string0 =>
 (XQ (Zb.Instances (Za.Design a0))).bind fun Instance0 =>
 Zt ((List.length (Zb.Instances (Za.Design a0))+List.length [(Zh.Name a1,Zh.Cell a1,[ZL.net x0,string0],())])*(48:Nat)≤(140737488355328:Nat)) <|
 Zt ((List.length (Zb.ZI (Za.Design a0))+List.length [Zh.Name a1])*(16:Nat)≤(140737488355328:Nat)) <|
 Zt ((List.length (Za.Zz a0)+List.length [([(-1:Int)],[(0:Int)],[(0:Int)],([]:List Int),())])*(96:Nat)≤(140737488355328:Nat)) <|
 (Vw (Za.Library a0,(Zb.Instances (Za.Design a0)++[(Zh.Name a1,Zh.Cell a1,[ZL.net x0,string0],())],Zb.ZI (Za.Design a0)++[Zh.Name a1],(Za.Design a0).snd.snd),Za.Zz a0++[([(-1:Int)],[(0:Int)],[(0:Int)],([]:List Int),())],()) (ZL.instance x0,ZL.pin x0,()) string0).bind fun setNet0 =>
 (Qj setNet0 (ZnA ZaW (Ty.int IntKind.i64) (ZnA ZaW (Ty.int IntKind.i64) nodesOf0 (Instance0,0,()) (Option.getD (Zi2 ZaW (Ty.int IntKind.i64) nodesOf0 (ZL.instance x0,ZL.pin x0,())) 0)) (ZL.instance x0,ZL.pin x0,()) 0)).bind fun connect0 =>
 some connect0
def ZEB:Ctr:=⟨[.io (ZdI),.dat (XL)],[],fun a K=>splitK a fun a0 a=>splitK a fun a1 a=>YR (ZbL a0 a1) fun r=>K () (r,())⟩
def Zae (a0:Za):Option (V4×Za) :=
 (QT a0).bind fun nodesOf0 =>
 (Yh (Za.Design a0)).bind fun places0 =>
 (Xr (Zb.ZI (Za.Design a0))).bind fun string0 =>
 (JY (Za.Design a0) (Wq (string0-1))).bind fun sinks0 =>
 (atI sinks0 0).bind fun x0 =>
 (atI places0 x0).bind fun x1 =>
 (atI (Zb.Instances (Za.Design a0)) (Wq ((↑(List.length (Zb.Instances (Za.Design a0))):Int)-1))).bind fun x2 =>
 (atI x2.snd.snd.fst 0).bind fun x3 =>
 (Vw (Za.Library a0,(List.set (Zb.Instances (Za.Design a0)) (Int.toNat (Wq ((↑(List.length (Zb.Instances (Za.Design a0))):Int)-1))) x2,(Za.Design a0).snd),a0.snd.snd) (ZL.instance x1,ZL.pin x1,()) x3).bind fun setNet0 =>
 Zt ((0:Int)≤Wq ((↑(List.length (Zb.Instances (Za.Design a0))):Int)-(1:Int))) <|
 Zt (Wq ((↑(List.length (Zb.Instances (Za.Design a0))):Int)-(1:Int))≤(↑(List.length (Zb.Instances (Za.Design setNet0))):Int)) <|
 Zt ((0:Int)≤Wq ((↑(List.length (Zb.ZI (Za.Design setNet0))):Int)-(1:Int))) <|
 Zt (Wq ((↑(List.length (Zb.ZI (Za.Design setNet0))):Int)-(1:Int))≤(↑(List.length (Zb.ZI (Za.Design setNet0))):Int)) <|
 Zt ((0:Int)≤Wq ((↑(List.length (Za.Zz setNet0)):Int)-(1:Int))) <|
 Zt (Wq ((↑(List.length (Za.Zz setNet0)):Int)-(1:Int))≤(↑(List.length (Za.Zz setNet0)):Int)) <|
 (Qj (Za.Library setNet0,(List.take (Int.toNat (Wq ((↑(List.length (Zb.Instances (Za.Design a0))):Int)-1))-Int.toNat 0) (List.drop (Int.toNat 0) (Zb.Instances (Za.Design setNet0))),List.take (Int.toNat (Wq ((↑(List.length (Zb.ZI (Za.Design setNet0))):Int)-1))-Int.toNat 0) (List.drop (Int.toNat 0) (Zb.ZI (Za.Design setNet0))),(Za.Design setNet0).snd.snd),List.take (Int.toNat (Wq ((↑(List.length (Za.Zz setNet0)):Int)-1))-Int.toNat 0) (List.drop (Int.toNat 0) (Za.Zz setNet0)),()) (ZnA ZaW (Ty.int IntKind.i64) nodesOf0 (ZL.instance x1,ZL.pin x1,()) (Option.getD (Zi2 ZaW (Ty.int IntKind.i64) nodesOf0 (Wq ((↑(List.length (Zb.Instances (Za.Design a0))):Int)-1),0,())) 0))).bind fun connect0 =>
 some ((ZL.instance x1,ZL.pin x1,()),connect0)
def ZET:Ctr:=⟨[.io (ZdI)],[.dat (ZaW)],fun a K=>splitK a fun a0 a=>YR (Zae a0) fun r=>K (r.1,()) (r.2,())⟩
def Qe (a0:Zh) (a1:Za):Option Za :=
 (Zcl a1).bind fun clone0 =>
 if Zh.Kind a0=1 then
 (Yh (Za.Design a1)).bind fun places0 =>
 (atI places0 (Zh.Place a0)).bind fun x0 =>
 (atI (Zb.Instances (Za.Design clone0)) (ZL.instance x0)).bind fun x1 =>
 some (Za.Library clone0,(List.set (Zb.Instances (Za.Design clone0)) (Int.toNat (ZL.instance x0)) (x1.fst,Zh.Cell a0,x1.snd.snd),(Za.Design clone0).snd),clone0.snd.snd)
 else
 if Zh.Kind a0=2 then
 (ZbL clone0 a0).bind fun buffer0 =>
 some buffer0
 else
 if Zh.Kind a0=3 then
 (Zae clone0).bind fun unbuffer0 =>
 some unbuffer0.snd
 else
 if Zh.Kind a0=4 then
 (QT clone0).bind fun nodesOf0 =>
 (Yh (Za.Design clone0)).bind fun places0 =>
 (atI places0 (Zh.Place a0)).bind fun x0 =>
 (Vw clone0 (ZL.instance x0,ZL.pin x0,()) (Zh.Net a0)).bind fun setNet0 =>
 (Qj setNet0 (ZnA ZaW (Ty.int IntKind.i64) nodesOf0 (ZL.instance x0,ZL.pin x0,()) (Zh.Node a0))).bind fun connect0 =>
 some connect0
 else
 if Zh.Kind a0=5 then
 (Zbl (Zh.Ze7 a0)).bind fun clone1 =>
 (atI (Za.Zz clone0) (Zh.Net a0)).bind fun x0 =>
 some (Za.Library clone0,Za.Design clone0,List.set (Za.Zz clone0) (Int.toNat (Zh.Net a0)) clone1,())
 else
 some clone0
def ZEa:Ctr:=⟨[.dat (XL),.dat (Y3)],[.own (ZdI)],fun a K=>splitK a fun a0 a=>splitK a fun a1 a=>YR (Qe a0 a1) fun r=>K (r,()) ()⟩
def Qn (e0:Zh) (b0:Za) (s0:Zn):Option (Zn×Bool) :=
 (Zcy s0).bind fun clone0 =>
 (Jf e0 b0).bind fun placesAfter0 =>
 (Zcq clone0 placesAfter0).bind fun carry0 =>
 if carry0.fst=true then
 (Qe e0 b0).bind fun apply0 =>
 (ZeI apply0 carry0.snd).bind fun IsSetup0 =>
 if IsSetup0=true then
 some (carry0.snd,Bool.true)
 else
 some ((([]:List Zl),([]:List Zj),([]:List Zj),([]:List Zg),([]:List Zy),()),Bool.false)
 else
 some ((([]:List Zl),([]:List Zj),([]:List Zj),([]:List Zg),([]:List Zy),()),Bool.false)
def ZE9:Ctr:=⟨[.dat (XL),.dat (Y3),.dat (QX)],[.own (ZnC),.dat (.bool)],fun a K=>splitK a fun e0 a=>splitK a fun b0 a=>splitK a fun s0 a=>YR (Qn e0 b0 s0) fun r=>K (r.1,r.2,()) ()⟩
def Vu (list0:List Zh) (v0:Int) (c0:List Zm) (c1:List Ze) (c2:List (List UInt8)) (c3:List ZR) (c4:List Zr) (c5:List Zl) (c6:List Zj) (c7:List Zj) (c8:List Zg) (c9:List Zy):Option ((Int×(List Zm)×(List Ze)×(List (List UInt8))×(List ZR)×(List Zr)×(List Zl)×(List Zj)×(List Zj)×(List Zg)×(List Zy)×Unit) ⊕ Bool) :=
 if v0<(↑list0.length:Int) then
 (atI list0 v0).bind fun x0 =>
 (Zce x0 ((c0,()),(c1,c2,c3,()),c4,())).bind fun code0 =>
 if code0=0 then
 (Qn x0 ((c0,()),(c1,c2,c3,()),c4,()) (c5,c6,c7,c8,c9,())).bind fun setupAfter0 =>
 if setupAfter0.snd=true then
 (Qe x0 ((c0,()),(c1,c2,c3,()),c4,())).bind fun apply0 =>
 some (.inl (Wq (v0+1),Zo.Cells (Za.Library apply0),Zb.Instances (Za.Design apply0),Zb.ZI (Za.Design apply0),Zb.ZG (Za.Design apply0),Za.Zz apply0,setupAfter0.fst.fst,setupAfter0.fst.snd.fst,setupAfter0.fst.snd.snd.fst,setupAfter0.fst.snd.snd.snd.fst,setupAfter0.fst.snd.snd.snd.snd.fst,()))
 else
 some (.inr Bool.false)
 else
 some (.inr Bool.false)
 else
 some (.inr (Decidable.decide ((↑list0.length:Int)≤10)))
def Zd7 (b0:Za) (s0:Zn) (list0:List Zh):Option Bool :=
 Zv (fun v=>Vu list0 v.1 v.2.1 v.2.2.1 v.2.2.2.1 v.2.2.2.2.1 v.2.2.2.2.2.1 v.2.2.2.2.2.2.1 v.2.2.2.2.2.2.2.1 v.2.2.2.2.2.2.2.2.1 v.2.2.2.2.2.2.2.2.2.1 v.2.2.2.2.2.2.2.2.2.2.1) ((0:Int),Zo.Cells (Za.Library b0),Zb.Instances (Za.Design b0),Zb.ZI (Za.Design b0),Zb.ZG (Za.Design b0),Za.Zz b0,Zn.YE s0,Zn.XV s0,Zn.Y7 s0,Zn.Exceptions s0,Zn.XT s0,())
def ZzO:Ctr:=D3 (Y3) (QX) (.sl (XL)) (.bool) Zd7
def Zed (s0:ZH):Option Bool :=
 (ZeI (ZH.Block s0) (ZH.Setup s0)).bind fun IsSetup0 =>
 if IsSetup0=true then
 if (↑(List.length (ZH.Zpn s0)):Int)≤10 then
 if (↑(List.length (ZH.Zpp s0)):Int)≤10 then
 (Zd7 (ZH.Block s0) (ZH.Setup s0) (ZH.Zpn s0)).bind fun canRun0 =>
 if canRun0=true then
 (Zd7 (ZH.Block s0) (ZH.Setup s0) (ZH.Zpp s0)).bind fun canRun1 =>
 some canRun1
 else
 some Bool.false
 else
 some Bool.false
 else
 some Bool.false
 else
 some Bool.false
def ZEk:Ctr:=D1 (Jy) (.bool) Zed
def ZJm (list0:List Zh) (out0:List Zh) (v0:Int):Option (((List Zh)×Int×Unit) ⊕ List Zh) :=
 if v0<(↑list0.length:Int) then
 (atI list0 v0).bind fun x0 =>
 (Zbl (Zh.Ze7 x0)).bind fun clone0 =>
 Zt ((List.length out0+List.length [(Zh.Kind x0,Zh.Place x0,Zh.Cell x0,Zh.Net x0,Zh.Node x0,Zh.Name x0,clone0,())])*(152:Nat)≤(140737488355328:Nat)) <|
 some (.inl (out0++[(Zh.Kind x0,Zh.Place x0,Zh.Cell x0,Zh.Net x0,Zh.Node x0,Zh.Name x0,clone0,())],Wq (v0+(1:Int)),()))
 else
 some (.inr out0)
def ZJT (list0:List Zh):Option (List Zh) :=
 Zv (fun v=>ZJm list0 v.1 v.2.1) (([]:List Zh),(0:Int),())
def ZEV:Ctr:=⟨[.dat (.sl (XL))],[.own (.ol 88 (Zo8))],fun a K=>splitK a fun list0 a=>YR (ZJT list0) fun r=>K (r,()) ()⟩
def ZJg (p0:ZL) (a0:Int) (a1:Int):Option Bool :=
 if ZL.instance p0=a0 then
 some (Decidable.decide (ZL.pin p0=a1))
 else
 some Bool.false
def ZEU:Ctr:=D3 (Zkh) (.ptr Iq) (.ptr Iq) (.bool) ZJg
def ZIE (s0:List ZL) (f0:Int×Int×Unit) (v0:Int):Option ((Int×Unit) ⊕ Int) :=
 if v0<(↑s0.length:Int) then
 (atI s0 v0).bind fun x0 =>
 (ZJg x0 f0.fst f0.snd.fst).bind fun c1_0 =>
 if c1_0=true then
 some (.inr v0)
 else
 some (.inl (Wq (v0+1),()))
 else
 some (.inr (-1))
def ZID (s0:List ZL) (f0:Int×Int×Unit):Option Int :=
 Zv (fun v=>ZIE s0 f0 v.1) ((0:Int),())
def ZDt:Ctr:=D2 (.sl (Zkh)) (.fn 233 (.pair (.ptr Iq) (.pair (.ptr Iq) (.unit)))) Iq ZID
def ZJc (d0:Zb) (instance0:Int) (pin0:Int):Option Int :=
 (Yh d0).bind fun places0 =>
 (ZID places0 (instance0,pin0,())).bind fun c1_0 =>
 some c1_0
def ZFa:Ctr:=D3 (YG) Iq Iq Iq ZJc
def ZJb (a0:Zh) (a1:Za):Option Zh :=
 if Zh.Kind a0=1 then
 (Yh (Za.Design a1)).bind fun places0 =>
 (atI places0 (Zh.Place a0)).bind fun x0 =>
 (atI (Zb.Instances (Za.Design a1)) (ZL.instance x0)).bind fun x1 =>
 some ((1:Int),Zh.Place a0,Ze.Cell x1,(0:Int),(0:Int),([]:List UInt8),(([]:List Int),([]:List Int),([]:List Int),([]:List Int),()),())
 else
 if Zh.Kind a0=2 then
 some ((3:Int),(0:Int),(0:Int),(0:Int),(0:Int),([]:List UInt8),(([]:List Int),([]:List Int),([]:List Int),([]:List Int),()),())
 else
 if Zh.Kind a0=3 then
 (Zcl a1).bind fun clone0 =>
 (Zae clone0).bind fun unbuffer0 =>
 (atI (Zb.Instances (Za.Design a1)) (Wq ((↑(List.length (Zb.Instances (Za.Design a1))):Int)-1))).bind fun x0 =>
 (ZJc unbuffer0.snd.snd.fst unbuffer0.fst.fst unbuffer0.fst.snd.fst).bind fun placeOf0 =>
 some ((2:Int),placeOf0,Ze.Cell x0,(0:Int),(0:Int),Ze.Name x0,(([]:List Int),([]:List Int),([]:List Int),([]:List Int),()),())
 else
 if Zh.Kind a0=4 then
 (Yh (Za.Design a1)).bind fun places0 =>
 (atI places0 (Zh.Place a0)).bind fun x0 =>
 (QT a1).bind fun nodesOf0 =>
 some ((4:Int),Zh.Place a0,(0:Int),ZL.net x0,Option.getD (Zi2 ZaW (Ty.int IntKind.i64) nodesOf0 (ZL.instance x0,ZL.pin x0,())) (0:Int),([]:List UInt8),(([]:List Int),([]:List Int),([]:List Int),([]:List Int),()),())
 else
 (atI (Za.Zz a1) (Zh.Net a0)).bind fun x0 =>
 (Zbl x0).bind fun clone0 =>
 some ((5:Int),(0:Int),(0:Int),Zh.Net a0,(0:Int),([]:List UInt8),clone0,())
def ZDQ:Ctr:=⟨[.dat (XL),.dat (Y3)],[.own (Zo8)],fun a K=>splitK a fun a0 a=>splitK a fun a1 a=>YR (ZJb a0 a1) fun r=>K (r,()) ()⟩
def ZKw (e0:Zh) (list0:List Zh):Option (List Zh) :=
 Zt ((List.length [e0]+List.length list0)*(152:Nat)≤(140737488355328:Nat)) <|
 (ZJT ([e0]++list0)).bind fun cloneEdits0 =>
 Zt ((0:Int)≤Min.min (↑cloneEdits0.length:Int) (10:Int)) <|
 Zt (Min.min (↑cloneEdits0.length:Int) (10:Int)≤(↑cloneEdits0.length:Int)) <|
 some (List.take (Int.toNat (Min.min (↑cloneEdits0.length:Int) 10)-Int.toNat 0) (List.drop (Int.toNat 0) cloneEdits0))
def ZDy:Ctr:=⟨[.dat (XL),.dat (.sl (XL))],[.own (.ol 88 (Zo8))],fun a K=>splitK a fun e0 a=>splitK a fun list0 a=>YR (ZKw e0 list0) fun r=>K (r,()) ()⟩
def ZLg (s0:ZH) (from0:List Zh) (to0:List Zh):Option (Za×Zn×(List Zh)×(List Zh)) :=
 (atI from0 0).bind fun x0 =>
 (Qn x0 (ZH.Block s0) (ZH.Setup s0)).bind fun setupAfter0 =>
 (Qe x0 (ZH.Block s0)).bind fun apply0 =>
 Zt ((1:Int)≤(↑from0.length:Int)) <|
 Zt ((↑from0.length:Int)≤(↑from0.length:Int)) <|
 (ZJT (List.take (Int.toNat (↑from0.length:Int)-Int.toNat 1) (List.drop (Int.toNat 1) from0))).bind fun cloneEdits0 =>
 (ZJb x0 (ZH.Block s0)).bind fun inverse0 =>
 (ZKw inverse0 to0).bind fun inFront0 =>
 some (apply0,setupAfter0.fst,cloneEdits0,inFront0)
def ZEt:Ctr:=⟨[.dat (Jy),.dat (.sl (XL)),.dat (.sl (XL))],[.own (ZdI),.own (ZnC),.own (.ol 88 (Zo8)),.own (.ol 88 (Zo8))],fun a K=>splitK a fun s0 a=>splitK a fun from0 a=>splitK a fun to0 a=>YR (ZLg s0 from0 to0) fun r=>K (r.1,r.2.1,r.2.2.1,r.2.2.2,()) ()⟩
def ZKb (s0:ZH):Option (ZH×Int) :=
 (Zed s0).bind fun IsSession0 =>
 if IsSession0=true then
 if (↑(List.length (ZH.Zpn s0)):Int)=0 then
 some ((((([]:List Zm),()),(([]:List Ze),([]:List (List UInt8)),([]:List ZR),()),([]:List Zr),()),(([]:List Zl),([]:List Zj),([]:List Zj),([]:List Zg),([]:List Zy),()),([]:List Zh),([]:List Zh),()),(5:Int))
 else
 (ZLg s0 (ZH.Zpn s0) (ZH.Zpp s0)).bind fun shift0 =>
 some ((shift0.fst,shift0.snd.fst,shift0.snd.snd.fst,shift0.snd.snd.snd,()),0)
 else
 some ((((([]:List Zm),()),(([]:List Ze),([]:List (List UInt8)),([]:List ZR),()),([]:List Zr),()),(([]:List Zl),([]:List Zj),([]:List Zj),([]:List Zg),([]:List Zy),()),([]:List Zh),([]:List Zh),()),(1:Int))
def ZEu:Ctr:=⟨[.dat (Jy)],[.own (Zy5),.dat Iq],fun a K=>splitK a fun s0 a=>YR (ZKb s0) fun r=>K (r.1,r.2,()) ()⟩
def Zhm (a0:YP) (b0:YP):Option Bool :=
 if YP.Name a0=YP.Name b0 then
 if YP.Dir a0=YP.Dir b0 then
 if YP.Cap a0=YP.Cap b0 then
 if (YP.Clock a0 == YP.Clock b0)=true then
 some Bool.true
 else
 some Bool.false
 else
 some Bool.false
 else
 some Bool.false
 else
 some Bool.false
def ZE0:Ctr:=D2 (ZgP) (ZgP) (.bool) Zhm
def ZmI (a0:List YP) (b0:List YP) (i0:Int):Option ((Int×Unit) ⊕ Bool) :=
 if i0<(↑a0.length:Int) then
 (atI a0 i0).bind fun x0 =>
 (atI b0 i0).bind fun x1 =>
 (Zhm x0 x1).bind fun eqPin0 =>
 if eqPin0=true then
 some (.inl (Wq (i0+1),()))
 else
 some (.inr Bool.false)
 else
 some (.inr Bool.true)
def Zii (a0:List YP) (b0:List YP):Option Bool :=
 if (↑a0.length:Int)=(↑b0.length:Int) then
 Zv (fun v=>ZmI a0 b0 v.1) ((0:Int),())
 else
 some Bool.false
def ZD0:Ctr:=D2 (.sl (ZgP)) (.sl (ZgP)) (.bool) Zii
def ZkF (a0:List Int) (b0:List Int) (i0:Int):Option ((Int×Unit) ⊕ Bool) :=
 if i0<(↑a0.length:Int) then
 (atI a0 i0).bind fun x0 =>
 (atI b0 i0).bind fun x1 =>
 if x0=x1 then
 some (.inl (Wq (i0+1),()))
 else
 some (.inr Bool.false)
 else
 some (.inr Bool.true)
def Xb (a0:List Int) (b0:List Int):Option Bool :=
 if (↑a0.length:Int)=(↑b0.length:Int) then
 Zv (fun v=>ZkF a0 b0 v.1) ((0:Int),())
 else
 some Bool.false
def ZEG:Ctr:=D2 (.sl Iq) (.sl Iq) (.bool) Xb
def Zez (a0:ZA) (b0:ZA):Option Bool :=
 (Xb (ZA.Zg6 a0) (ZA.Zg6 b0)).bind fun eqInt64S0 =>
 if eqInt64S0=true then
 (Xb (ZA.Loads a0) (ZA.Loads b0)).bind fun eqInt64S1 =>
 if eqInt64S1=true then
 (Xb (ZA.Values a0) (ZA.Values b0)).bind fun eqInt64S2 =>
 if eqInt64S2=true then
 some Bool.true
 else
 some Bool.false
 else
 some Bool.false
 else
 some Bool.false
def ZEd:Ctr:=D2 (XE) (XE) (.bool) Zez
def Zlf (a0:List ZA) (b0:List ZA) (i0:Int):Option ((Int×Unit) ⊕ Bool) :=
 if i0<(↑a0.length:Int) then
 (atI a0 i0).bind fun x0 =>
 (atI b0 i0).bind fun x1 =>
 (Zez x0 x1).bind fun eqTable0 =>
 if eqTable0=true then
 some (.inl (Wq (i0+1),()))
 else
 some (.inr Bool.false)
 else
 some (.inr Bool.true)
def ZdA (a0:List ZA) (b0:List ZA):Option Bool :=
 if (↑a0.length:Int)=(↑b0.length:Int) then
 Zv (fun v=>Zlf a0 b0 v.1) ((0:Int),())
 else
 some Bool.false
def ZB1:Ctr:=D2 (.sl (XE)) (.sl (XE)) (.bool) ZdA
def Zhb (a0:ZJ) (b0:ZJ):Option Bool :=
 if ZJ.Kind a0=ZJ.Kind b0 then
 if ZJ.From a0=ZJ.From b0 then
 if ZJ.To a0=ZJ.To b0 then
 if ZJ.ZbJ a0=ZJ.ZbJ b0 then
 (ZdA (ZJ.Delay a0) (ZJ.Delay b0)).bind fun eqTableS0 =>
 if eqTableS0=true then
 (ZdA (ZJ.ZdS a0) (ZJ.ZdS b0)).bind fun eqTableS1 =>
 if eqTableS1=true then
 some Bool.true
 else
 some Bool.false
 else
 some Bool.false
 else
 some Bool.false
 else
 some Bool.false
 else
 some Bool.false
 else
 some Bool.false
def ZDs:Ctr:=D2 (Zib) (Zib) (.bool) Zhb
def ZmD (a0:List ZJ) (b0:List ZJ) (i0:Int):Option ((Int×Unit) ⊕ Bool) :=
 if i0<(↑a0.length:Int) then
 (atI a0 i0).bind fun x0 =>
 (atI b0 i0).bind fun x1 =>
 (Zhb x0 x1).bind fun eqArc0 =>
 if eqArc0=true then
 some (.inl (Wq (i0+1),()))
 else
 some (.inr Bool.false)
 else
 some (.inr Bool.true)
def ZhO (a0:List ZJ) (b0:List ZJ):Option Bool :=
 if (↑a0.length:Int)=(↑b0.length:Int) then
 Zv (fun v=>ZmD a0 b0 v.1) ((0:Int),())
 else
 some Bool.false
def ZDM:Ctr:=D2 (.sl (Zib)) (.sl (Zib)) (.bool) ZhO
def ZfH (a0:Zm) (b0:Zm):Option Bool :=
 if Zm.Name a0=Zm.Name b0 then
 if Zm.Kind a0=Zm.Kind b0 then
 (Zii (Zm.Yw a0) (Zm.Yw b0)).bind fun eqPinS0 =>
 if eqPinS0=true then
 (ZhO (Zm.JQ a0) (Zm.JQ b0)).bind fun eqArcS0 =>
 if eqArcS0=true then
 (Xb (Zm.Truth a0) (Zm.Truth b0)).bind fun eqInt64S0 =>
 if eqInt64S0=true then
 if Zm.Zxy a0=Zm.Zxy b0 then
 if Zm.Zkf a0=Zm.Zkf b0 then
 some Bool.true
 else
 some Bool.false
 else
 some Bool.false
 else
 some Bool.false
 else
 some Bool.false
 else
 some Bool.false
 else
 some Bool.false
 else
 some Bool.false
def ZFd:Ctr:=D2 (QL) (QL) (.bool) ZfH
def Zmq (a0:List Zm) (b0:List Zm) (i0:Int):Option ((Int×Unit) ⊕ Bool) :=
 if i0<(↑a0.length:Int) then
 (atI a0 i0).bind fun x0 =>
 (atI b0 i0).bind fun x1 =>
 (ZfH x0 x1).bind fun eqCell0 =>
 if eqCell0=true then
 some (.inl (Wq (i0+1),()))
 else
 some (.inr Bool.false)
 else
 some (.inr Bool.true)
def Zgt (a0:List Zm) (b0:List Zm):Option Bool :=
 if (↑a0.length:Int)=(↑b0.length:Int) then
 Zv (fun v=>Zmq a0 b0 v.1) ((0:Int),())
 else
 some Bool.false
def ZCH:Ctr:=D2 (.sl (QL)) (.sl (QL)) (.bool) Zgt
def Zef (a0:Zo) (b0:Zo):Option Bool :=
 (Zgt (Zo.Cells a0) (Zo.Cells b0)).bind fun eqCellS0 =>
 if eqCellS0=true then
 some Bool.true
 else
 some Bool.false
def ZEY:Ctr:=D2 (Xh) (Xh) (.bool) Zef
def Zbn (a0:Ze) (b0:Ze):Option Bool :=
 if Ze.Name a0=Ze.Name b0 then
 if Ze.Cell a0=Ze.Cell b0 then
 (Xb (Ze.ZI a0) (Ze.ZI b0)).bind fun eqInt64S0 =>
 if eqInt64S0=true then
 some Bool.true
 else
 some Bool.false
 else
 some Bool.false
 else
 some Bool.false
def ZCK:Ctr:=D2 (Yq) (Yq) (.bool) Zbn
def ZiM (a0:List Ze) (b0:List Ze) (i0:Int):Option ((Int×Unit) ⊕ Bool) :=
 if i0<(↑a0.length:Int) then
 (atI a0 i0).bind fun x0 =>
 (atI b0 i0).bind fun x1 =>
 (Zbn x0 x1).bind fun eqInstance0 =>
 if eqInstance0=true then
 some (.inl (Wq (i0+1),()))
 else
 some (.inr Bool.false)
 else
 some (.inr Bool.true)
def Zcn (a0:List Ze) (b0:List Ze):Option Bool :=
 if (↑a0.length:Int)=(↑b0.length:Int) then
 Zv (fun v=>ZiM a0 b0 v.1) ((0:Int),())
 else
 some Bool.false
def ZDB:Ctr:=D2 (.sl (Yq)) (.sl (Yq)) (.bool) Zcn
def ZjC (a0:List (List UInt8)) (b0:List (List UInt8)) (i0:Int):Option ((Int×Unit) ⊕ Bool) :=
 if i0<(↑a0.length:Int) then
 (atI a0 i0).bind fun x0 =>
 (atI b0 i0).bind fun x1 =>
 if x0=x1 then
 some (.inl (Wq (i0+1),()))
 else
 some (.inr Bool.false)
 else
 some (.inr Bool.true)
def Zex (a0:List (List UInt8)) (b0:List (List UInt8)):Option Bool :=
 if (↑a0.length:Int)=(↑b0.length:Int) then
 Zv (fun v=>ZjC a0 b0 v.1) ((0:Int),())
 else
 some Bool.false
def ZDd:Ctr:=D2 (.sl (.str)) (.sl (.str)) (.bool) Zex
def Zgp (a0:ZR) (b0:ZR):Option Bool :=
 if ZR.Name a0=ZR.Name b0 then
 if ZR.Dir a0=ZR.Dir b0 then
 if ZR.Net a0=ZR.Net b0 then
 some Bool.true
 else
 some Bool.false
 else
 some Bool.false
 else
 some Bool.false
def ZDk:Ctr:=D2 (Zcd) (Zcd) (.bool) Zgp
def Zmg (a0:List ZR) (b0:List ZR) (i0:Int):Option ((Int×Unit) ⊕ Bool) :=
 if i0<(↑a0.length:Int) then
 (atI a0 i0).bind fun x0 =>
 (atI b0 i0).bind fun x1 =>
 (Zgp x0 x1).bind fun eqPort0 =>
 if eqPort0=true then
 some (.inl (Wq (i0+1),()))
 else
 some (.inr Bool.false)
 else
 some (.inr Bool.true)
def ZgN (a0:List ZR) (b0:List ZR):Option Bool :=
 if (↑a0.length:Int)=(↑b0.length:Int) then
 Zv (fun v=>Zmg a0 b0 v.1) ((0:Int),())
 else
 some Bool.false
def ZDH:Ctr:=D2 (.sl (Zcd)) (.sl (Zcd)) (.bool) ZgN
def Zfl (a0:Zb) (b0:Zb):Option Bool :=
 (Zcn (Zb.Instances a0) (Zb.Instances b0)).bind fun eqInstanceS0 =>
 if eqInstanceS0=true then
 (Zex (Zb.ZI a0) (Zb.ZI b0)).bind fun eqStringS0 =>
 if eqStringS0=true then
 (ZgN (Zb.ZG a0) (Zb.ZG b0)).bind fun eqPortS0 =>
 if eqPortS0=true then
 some Bool.true
 else
 some Bool.false
 else
 some Bool.false
 else
 some Bool.false
def ZDY:Ctr:=D2 (YG) (YG) (.bool) Zfl
def Zd3 (a0:Zr) (b0:Zr):Option Bool :=
 (Xb (Zr.Parent a0) (Zr.Parent b0)).bind fun eqInt64S0 =>
 if eqInt64S0=true then
 (Xb (Zr.Res a0) (Zr.Res b0)).bind fun eqInt64S1 =>
 if eqInt64S1=true then
 (Xb (Zr.Cap a0) (Zr.Cap b0)).bind fun eqInt64S2 =>
 if eqInt64S2=true then
 (Xb (Zr.Ze6 a0) (Zr.Ze6 b0)).bind fun eqInt64S3 =>
 if eqInt64S3=true then
 some Bool.true
 else
 some Bool.false
 else
 some Bool.false
 else
 some Bool.false
 else
 some Bool.false
def ZES:Ctr:=D2 (Vv) (Vv) (.bool) Zd3
def Zly (a0:List Zr) (b0:List Zr) (i0:Int):Option ((Int×Unit) ⊕ Bool) :=
 if i0<(↑a0.length:Int) then
 (atI a0 i0).bind fun x0 =>
 (atI b0 i0).bind fun x1 =>
 (Zd3 x0 x1).bind fun eqWire0 =>
 if eqWire0=true then
 some (.inl (Wq (i0+1),()))
 else
 some (.inr Bool.false)
 else
 some (.inr Bool.true)
def ZgX (a0:List Zr) (b0:List Zr):Option Bool :=
 if (↑a0.length:Int)=(↑b0.length:Int) then
 Zv (fun v=>Zly a0 b0 v.1) ((0:Int),())
 else
 some Bool.false
def ZFc:Ctr:=D2 (.sl (Vv)) (.sl (Vv)) (.bool) ZgX
def Zg4 (a0:Za) (b0:Za):Option Bool :=
 (Zef (Za.Library a0) (Za.Library b0)).bind fun eqLibrary0 =>
 if eqLibrary0=true then
 (Zfl (Za.Design a0) (Za.Design b0)).bind fun eqDesign0 =>
 if eqDesign0=true then
 (ZgX (Za.Zz a0) (Za.Zz b0)).bind fun eqWireS0 =>
 if eqWireS0=true then
 some Bool.true
 else
 some Bool.false
 else
 some Bool.false
 else
 some Bool.false
def ZEh:Ctr:=D2 (Y3) (Y3) (.bool) Zg4
def ZeC (a0:Zl) (b0:Zl):Option Bool :=
 if Zl.Name a0=Zl.Name b0 then
 if Zl.Place a0=Zl.Place b0 then
 if Zl.Zca a0=Zl.Zca b0 then
 if Zl.ZdJ a0=Zl.ZdJ b0 then
 if Zl.ZdM a0=Zl.ZdM b0 then
 if Zl.Source a0=Zl.Source b0 then
 if Zl.Divide a0=Zl.Divide b0 then
 if (Zl.Zkd a0 == Zl.Zkd b0)=true then
 if Zl.X6 a0=Zl.X6 b0 then
 if Zl.VE a0=Zl.VE b0 then
 if Zl.Zbe a0=Zl.Zbe b0 then
 some Bool.true
 else
 some Bool.false
 else
 some Bool.false
 else
 some Bool.false
 else
 some Bool.false
 else
 some Bool.false
 else
 some Bool.false
 else
 some Bool.false
 else
 some Bool.false
 else
 some Bool.false
 else
 some Bool.false
 else
 some Bool.false
def ZCM:Ctr:=D2 (XF) (XF) (.bool) ZeC
def ZkH (a0:List Zl) (b0:List Zl) (i0:Int):Option ((Int×Unit) ⊕ Bool) :=
 if i0<(↑a0.length:Int) then
 (atI a0 i0).bind fun x0 =>
 (atI b0 i0).bind fun x1 =>
 (ZeC x0 x1).bind fun eqClock0 =>
 if eqClock0=true then
 some (.inl (Wq (i0+1),()))
 else
 some (.inr Bool.false)
 else
 some (.inr Bool.true)
def Zfh (a0:List Zl) (b0:List Zl):Option Bool :=
 if (↑a0.length:Int)=(↑b0.length:Int) then
 Zv (fun v=>ZkH a0 b0 v.1) ((0:Int),())
 else
 some Bool.false
def ZPW:Ctr:=D2 (.sl (XF)) (.sl (XF)) (.bool) Zfh
def Zf0 (a0:YQ) (b0:YQ):Option Bool :=
 if YQ.Early a0=YQ.Early b0 then
 if YQ.Late a0=YQ.Late b0 then
 some Bool.true
 else
 some Bool.false
 else
 some Bool.false
def ZPX:Ctr:=D2 (Zmy) (Zmy) (.bool) Zf0
def Zbq (a0:Zj) (b0:Zj):Option Bool :=
 if Zj.Place a0=Zj.Place b0 then
 if Zj.Clock a0=Zj.Clock b0 then
 (Zf0 (Zj.Delay a0) (Zj.Delay b0)).bind fun eqSpan0 =>
 if eqSpan0=true then
 (Zf0 (Zj.ZdS a0) (Zj.ZdS b0)).bind fun eqSpan1 =>
 if eqSpan1=true then
 some Bool.true
 else
 some Bool.false
 else
 some Bool.false
 else
 some Bool.false
 else
 some Bool.false
def ZPv:Ctr:=D2 (Yg) (Yg) (.bool) Zbq
def ZiO (a0:List Zj) (b0:List Zj) (i0:Int):Option ((Int×Unit) ⊕ Bool) :=
 if i0<(↑a0.length:Int) then
 (atI a0 i0).bind fun x0 =>
 (atI b0 i0).bind fun x1 =>
 (Zbq x0 x1).bind fun eqExternal0 =>
 if eqExternal0=true then
 some (.inl (Wq (i0+1),()))
 else
 some (.inr Bool.false)
 else
 some (.inr Bool.true)
def ZaF (a0:List Zj) (b0:List Zj):Option Bool :=
 if (↑a0.length:Int)=(↑b0.length:Int) then
 Zv (fun v=>ZiO a0 b0 v.1) ((0:Int),())
 else
 some Bool.false
def ZPz:Ctr:=D2 (.sl (Yg)) (.sl (Yg)) (.bool) ZaF
def ZaD (a0:Zg) (b0:Zg):Option Bool :=
 if Zg.Kind a0=Zg.Kind b0 then
 if Zg.Value a0=Zg.Value b0 then
 (Xb (Zg.From a0) (Zg.From b0)).bind fun eqInt64S0 =>
 if eqInt64S0=true then
 (Xb (Zg.Through a0) (Zg.Through b0)).bind fun eqInt64S1 =>
 if eqInt64S1=true then
 (Xb (Zg.To a0) (Zg.To b0)).bind fun eqInt64S2 =>
 if eqInt64S2=true then
 some Bool.true
 else
 some Bool.false
 else
 some Bool.false
 else
 some Bool.false
 else
 some Bool.false
 else
 some Bool.false
def ZPY:Ctr:=D2 (Yn) (Yn) (.bool) ZaD
def Zid (a0:List Zg) (b0:List Zg) (i0:Int):Option ((Int×Unit) ⊕ Bool) :=
 if i0<(↑a0.length:Int) then
 (atI a0 i0).bind fun x0 =>
 (atI b0 i0).bind fun x1 =>
 (ZaD x0 x1).bind fun eqException0 =>
 if eqException0=true then
 some (.inl (Wq (i0+1),()))
 else
 some (.inr Bool.false)
 else
 some (.inr Bool.true)
def ZbA (a0:List Zg) (b0:List Zg):Option Bool :=
 if (↑a0.length:Int)=(↑b0.length:Int) then
 Zv (fun v=>Zid a0 b0 v.1) ((0:Int),())
 else
 some Bool.false
def ZPA:Ctr:=D2 (.sl (Yn)) (.sl (Yn)) (.bool) ZbA
def Zdr (a0:Zy) (b0:Zy):Option Bool :=
 if Zy.Name a0=Zy.Name b0 then
 if Zy.Zbc a0=Zy.Zbc b0 then
 if Zy.ZdE a0=Zy.ZdE b0 then
 if Zy.Zcb a0=Zy.Zcb b0 then
 if Zy.Zeo a0=Zy.Zeo b0 then
 some Bool.true
 else
 some Bool.false
 else
 some Bool.false
 else
 some Bool.false
 else
 some Bool.false
 else
 some Bool.false
def ZPZ:Ctr:=D2 (Xf) (Xf) (.bool) Zdr
def Zj5 (a0:List Zy) (b0:List Zy) (i0:Int):Option ((Int×Unit) ⊕ Bool) :=
 if i0<(↑a0.length:Int) then
 (atI a0 i0).bind fun x0 =>
 (atI b0 i0).bind fun x1 =>
 (Zdr x0 x1).bind fun eqCorner0 =>
 if eqCorner0=true then
 some (.inl (Wq (i0+1),()))
 else
 some (.inr Bool.false)
 else
 some (.inr Bool.true)
def Zeb (a0:List Zy) (b0:List Zy):Option Bool :=
 if (↑a0.length:Int)=(↑b0.length:Int) then
 Zv (fun v=>Zj5 a0 b0 v.1) ((0:Int),())
 else
 some Bool.false
def ZP0:Ctr:=D2 (.sl (Xf)) (.sl (Xf)) (.bool) Zeb
def ZgO (a0:Zn) (b0:Zn):Option Bool :=
 (Zfh (Zn.YE a0) (Zn.YE b0)).bind fun eqClockS0 =>
 if eqClockS0=true then
 (ZaF (Zn.XV a0) (Zn.XV b0)).bind fun eqExternalS0 =>
 if eqExternalS0=true then
 (ZaF (Zn.Y7 a0) (Zn.Y7 b0)).bind fun eqExternalS1 =>
 if eqExternalS1=true then
 (ZbA (Zn.Exceptions a0) (Zn.Exceptions b0)).bind fun eqExceptionS0 =>
 if eqExceptionS0=true then
 (Zeb (Zn.XT a0) (Zn.XT b0)).bind fun eqCornerS0 =>
 if eqCornerS0=true then
 some Bool.true
 else
 some Bool.false
 else
 some Bool.false
 else
 some Bool.false
 else
 some Bool.false
 else
 some Bool.false
def ZPH:Ctr:=D2 (QX) (QX) (.bool) ZgO
def Zgo (a0:Zh) (b0:Zh):Option Bool :=
 if Zh.Kind a0=Zh.Kind b0 then
 if Zh.Place a0=Zh.Place b0 then
 if Zh.Cell a0=Zh.Cell b0 then
 if Zh.Net a0=Zh.Net b0 then
 if Zh.Node a0=Zh.Node b0 then
 if Zh.Name a0=Zh.Name b0 then
 (Zd3 (Zh.Ze7 a0) (Zh.Ze7 b0)).bind fun eqWire0 =>
 if eqWire0=true then
 some Bool.true
 else
 some Bool.false
 else
 some Bool.false
 else
 some Bool.false
 else
 some Bool.false
 else
 some Bool.false
 else
 some Bool.false
 else
 some Bool.false
def ZP1:Ctr:=D2 (XL) (XL) (.bool) Zgo
def Zmm (a0:List Zh) (b0:List Zh) (i0:Int):Option ((Int×Unit) ⊕ Bool) :=
 if i0<(↑a0.length:Int) then
 (atI a0 i0).bind fun x0 =>
 (atI b0 i0).bind fun x1 =>
 (Zgo x0 x1).bind fun eqEdit0 =>
 if eqEdit0=true then
 some (.inl (Wq (i0+1),()))
 else
 some (.inr Bool.false)
 else
 some (.inr Bool.true)
def ZeQ (a0:List Zh) (b0:List Zh):Option Bool :=
 if (↑a0.length:Int)=(↑b0.length:Int) then
 Zv (fun v=>Zmm a0 b0 v.1) ((0:Int),())
 else
 some Bool.false
def ZP2:Ctr:=D2 (.sl (XL)) (.sl (XL)) (.bool) ZeQ
def Zep (a0:ZH) (b0:ZH):Option Bool :=
 (Zg4 (ZH.Block a0) (ZH.Block b0)).bind fun eqBlock0 =>
 if eqBlock0=true then
 (ZgO (ZH.Setup a0) (ZH.Setup b0)).bind fun eqSetup0 =>
 if eqSetup0=true then
 (ZeQ (ZH.Zpn a0) (ZH.Zpn b0)).bind fun eqEditS0 =>
 if eqEditS0=true then
 (ZeQ (ZH.Zpp a0) (ZH.Zpp b0)).bind fun eqEditS1 =>
 if eqEditS1=true then
 some Bool.true
 else
 some Bool.false
 else
 some Bool.false
 else
 some Bool.false
 else
 some Bool.false
def ZPw:Ctr:=D2 (Jy) (Jy) (.bool) Zep
def ZKk (k1:Int) (out0:List UInt8):Option ((Int×(List UInt8)×Unit) ⊕ List UInt8) :=
 if 0<k1 then
 Zt ((↑(List.length (bytesOf [IntKind.wrap IntKind.u8 (Wq ((48:Int)+Int.tmod k1 (10:Int)))])):Int)+(↑out0.length:Int)≤(9223372036854775807:Int)) <|
 some (.inl (Wq (Int.tdiv k1 (10:Int)),bytesOf [IntKind.wrap IntKind.u8 (Wq ((48:Int)+Int.tmod k1 (10:Int)))]++out0,()))
 else
 Zt ((↑(List.length [(109:UInt8)]):Int)+(↑out0.length:Int)≤(9223372036854775807:Int)) <|
 some (.inr ([(109:UInt8)]++out0))
def ZII (k0:Int):Option (List UInt8) :=
 if k0≤0 then
 some ([(109:UInt8),(48:UInt8)])
 else
 Zv (fun v=>ZKk v.1 v.2.1) (k0,([]:List UInt8),())
def ZP3:Ctr:=D1 Iq (.str) ZII
def ZJe (k1:Int) (i0:Int) (l0:List YP):Option ((Int×Int×(List YP)×Unit) ⊕ (Int×(List YP))) :=
 if i0<(↑l0.length:Int) then
 (ZII k1).bind fun markText0 =>
 (atI l0 i0).bind fun x0 =>
 (atI (List.set l0 (Int.toNat i0) (markText0,x0.snd)) i0).bind fun x1 =>
 (atI (List.set (List.set l0 (Int.toNat i0) (markText0,x0.snd)) (Int.toNat i0) (YP.Name x1,Wq (k1+1),x1.snd.snd)) i0).bind fun x2 =>
 (atI (List.set (List.set (List.set l0 (Int.toNat i0) (markText0,x0.snd)) (Int.toNat i0) (YP.Name x1,Wq (k1+1),x1.snd.snd)) (Int.toNat i0) (YP.Name x2,YP.Dir x2,Wq (Wq (k1+1)+1),x2.snd.snd.snd)) i0).bind fun x3 =>
 some (.inl (Wq (Wq (Wq (Wq (k1+1)+1)+1)+1),Wq (i0+1),List.set (List.set (List.set (List.set l0 (Int.toNat i0) (markText0,x0.snd)) (Int.toNat i0) (YP.Name x1,Wq (k1+1),x1.snd.snd)) (Int.toNat i0) (YP.Name x2,YP.Dir x2,Wq (Wq (k1+1)+1),x2.snd.snd.snd)) (Int.toNat i0) (YP.Name x3,YP.Dir x3,YP.Cap x3,Decidable.decide (Int.tmod (Wq (Wq (Wq (k1+1)+1)+1)) 3=0),()),()))
 else
 some (.inr (k1,l0))
def ZJX (a0:List YP) (k0:Int):Option (Int×(List YP)) :=
 Zv (fun v=>ZJe v.1 v.2.1 v.2.2.1) (k0,(0:Int),a0,())
def ZPB:Ctr:=⟨[.back (.ol 285 (.flat (ZgP))),.dat Iq],[.dat Iq],fun a K=>splitK a fun a0 a=>splitK a fun k0 a=>YR (ZJX a0 k0) fun r=>K (r.1,()) (r.2,())⟩
def ZI2 (k1:Int) (i0:Int) (l0:List Int):Option ((Int×Int×(List Int)×Unit) ⊕ (Int×(List Int))) :=
 if i0<(↑l0.length:Int) then
 (atI l0 i0).bind fun x0 =>
 some (.inl (Wq (k1+1),Wq (i0+1),List.set l0 (Int.toNat i0) k1,()))
 else
 some (.inr (k1,l0))
def ZIC (a0:List Int) (k0:Int):Option (Int×(List Int)) :=
 Zv (fun v=>ZI2 v.1 v.2.1 v.2.2.1) (k0,(0:Int),a0,())
def ZPI:Ctr:=⟨[.back (.ol 2 (.flat Iq)),.dat Iq],[.dat Iq],fun a K=>splitK a fun a0 a=>splitK a fun k0 a=>YR (ZIC a0 k0) fun r=>K (r.1,()) (r.2,())⟩
def ZI3 (k1:Int) (i0:Int) (l0:List (List Int×List Int×List Int×Unit)):Option ((Int×Int×(List (List Int×List Int×List Int×Unit))×Unit) ⊕ (Int×(List ZA))) :=
 if i0<(↑l0.length:Int) then
 (atI l0 i0).bind fun x0 =>
 (ZIC x0.fst k1).bind fun markInt64S0 =>
 (ZIC x0.snd.fst markInt64S0.fst).bind fun markInt64S1 =>
 (ZIC x0.snd.snd.fst markInt64S1.fst).bind fun markInt64S2 =>
 some (.inl (markInt64S2.fst,Wq (i0+1),List.set l0 (Int.toNat i0) (markInt64S0.snd,markInt64S1.snd,markInt64S2.snd,()),()))
 else
 some (.inr (k1,l0))
def ZJf (a0:List ZA) (k0:Int):Option (Int×(List ZA)) :=
 Zv (fun v=>ZI3 v.1 v.2.1 v.2.2.1) (k0,(0:Int),a0,())
def ZPJ:Ctr:=⟨[.back (.ol 341 (Zgw)),.dat Iq],[.dat Iq],fun a K=>splitK a fun a0 a=>splitK a fun k0 a=>YR (ZJf a0 k0) fun r=>K (r.1,()) (r.2,())⟩
def ZJd (k1:Int) (i0:Int) (l0:List (Int×Int×Int×Int×List ZA×List ZA×Unit)):Option ((Int×Int×(List (Int×Int×Int×Int×List ZA×List ZA×Unit))×Unit) ⊕ (Int×(List ZJ))) :=
 if i0<(↑l0.length:Int) then
 (atI l0 i0).bind fun x0 =>
 (ZJf x0.snd.snd.snd.snd.fst (Wq (Wq (Wq (Wq (k1+1)+1)+1)+1))).bind fun markTableS0 =>
 (ZJf x0.snd.snd.snd.snd.snd.fst markTableS0.fst).bind fun markTableS1 =>
 some (.inl (markTableS1.fst,Wq (i0+1),List.set l0 (Int.toNat i0) (k1,Wq (k1+1),Wq (Wq (k1+1)+1),Wq (Wq (Wq (k1+1)+1)+1),markTableS0.snd,markTableS1.snd,()),()))
 else
 some (.inr (k1,l0))
def ZJW (a0:List ZJ) (k0:Int):Option (Int×(List ZJ)) :=
 Zv (fun v=>ZJd v.1 v.2.1 v.2.2.1) (k0,(0:Int),a0,())
def ZPC:Ctr:=⟨[.back (.ol 289 (Zxz)),.dat Iq],[.dat Iq],fun a K=>splitK a fun a0 a=>splitK a fun k0 a=>YR (ZJW a0 k0) fun r=>K (r.1,()) (r.2,())⟩
def ZI8 (k1:Int) (i0:Int) (l0:List (List UInt8×Int×List YP×List ZJ×List Int×Int×Int×Unit)):Option ((Int×Int×(List (List UInt8×Int×List YP×List ZJ×List Int×Int×Int×Unit))×Unit) ⊕ (Int×(List Zm))) :=
 if i0<(↑l0.length:Int) then
 (ZII k1).bind fun markText0 =>
 (atI l0 i0).bind fun x0 =>
 (ZJX x0.snd.snd.fst (Wq (Wq (k1+1)+1))).bind fun markPinS0 =>
 (ZJW x0.snd.snd.snd.fst markPinS0.fst).bind fun markArcS0 =>
 (ZIC x0.snd.snd.snd.snd.fst markArcS0.fst).bind fun markInt64S0 =>
 some (.inl (Wq (Wq (markInt64S0.fst+1)+1),Wq (i0+1),List.set l0 (Int.toNat i0) (markText0,Wq (k1+1),markPinS0.snd,markArcS0.snd,markInt64S0.snd,markInt64S0.fst,Wq (markInt64S0.fst+1),()),()))
 else
 some (.inr (k1,l0))
def ZJL (a0:List Zm) (k0:Int):Option (Int×(List Zm)) :=
 Zv (fun v=>ZI8 v.1 v.2.1 v.2.2.1) (k0,(0:Int),a0,())
def ZP4:Ctr:=⟨[.back (.ol 277 (Zoy)),.dat Iq],[.dat Iq],fun a K=>splitK a fun a0 a=>splitK a fun k0 a=>YR (ZJL a0 k0) fun r=>K (r.1,()) (r.2,())⟩
def ZJj (a0:Zo) (k0:Int):Option (Int×Zo) :=
 (ZJL (Zo.Cells a0) k0).bind fun markCellS0 =>
 some (markCellS0.fst,(markCellS0.snd,()))
def ZP5:Ctr:=⟨[.back (Zov),.dat Iq],[.dat Iq],fun a K=>splitK a fun a0 a=>splitK a fun k0 a=>YR (ZJj a0 k0) fun r=>K (r.1,()) (r.2,())⟩
def ZIT (k1:Int) (i0:Int) (l0:List (List UInt8×Int×List Int×Unit)):Option ((Int×Int×(List (List UInt8×Int×List Int×Unit))×Unit) ⊕ (Int×(List Ze))) :=
 if i0<(↑l0.length:Int) then
 (ZII k1).bind fun markText0 =>
 (atI l0 i0).bind fun x0 =>
 (ZIC x0.snd.snd.fst (Wq (Wq (k1+1)+1))).bind fun markInt64S0 =>
 some (.inl (markInt64S0.fst,Wq (i0+1),List.set l0 (Int.toNat i0) (markText0,Wq (k1+1),markInt64S0.snd,()),()))
 else
 some (.inr (k1,l0))
def ZI6 (a0:List Ze) (k0:Int):Option (Int×(List Ze)) :=
 Zv (fun v=>ZIT v.1 v.2.1 v.2.2.1) (k0,(0:Int),a0,())
def ZP6:Ctr:=⟨[.back (.ol 219 (Zb9)),.dat Iq],[.dat Iq],fun a K=>splitK a fun a0 a=>splitK a fun k0 a=>YR (ZI6 a0 k0) fun r=>K (r.1,()) (r.2,())⟩
def ZIY (k1:Int) (i0:Int) (l0:List (List UInt8)):Option ((Int×Int×(List (List UInt8))×Unit) ⊕ (Int×(List (List UInt8)))) :=
 if i0<(↑l0.length:Int) then
 (ZII k1).bind fun markText0 =>
 (atI l0 i0).bind fun x0 =>
 some (.inl (Wq (k1+1),Wq (i0+1),List.set l0 (Int.toNat i0) markText0,()))
 else
 some (.inr (k1,l0))
def ZJk (a0:List (List UInt8)) (k0:Int):Option (Int×(List (List UInt8))) :=
 Zv (fun v=>ZIY v.1 v.2.1 v.2.2.1) (k0,(0:Int),a0,())
def ZP7:Ctr:=⟨[.back (.ol 9 (.flat (.str))),.dat Iq],[.dat Iq],fun a K=>splitK a fun a0 a=>splitK a fun k0 a=>YR (ZJk a0 k0) fun r=>K (r.1,()) (r.2,())⟩
def ZI9 (k1:Int) (i0:Int) (l0:List ZR):Option ((Int×Int×(List ZR)×Unit) ⊕ (Int×(List ZR))) :=
 if i0<(↑l0.length:Int) then
 (ZII k1).bind fun markText0 =>
 (atI l0 i0).bind fun x0 =>
 (atI (List.set l0 (Int.toNat i0) (markText0,x0.snd)) i0).bind fun x1 =>
 (atI (List.set (List.set l0 (Int.toNat i0) (markText0,x0.snd)) (Int.toNat i0) (ZR.Name x1,Wq (k1+1),x1.snd.snd)) i0).bind fun x2 =>
 some (.inl (Wq (Wq (Wq (k1+1)+1)+1),Wq (i0+1),List.set (List.set (List.set l0 (Int.toNat i0) (markText0,x0.snd)) (Int.toNat i0) (ZR.Name x1,Wq (k1+1),x1.snd.snd)) (Int.toNat i0) (ZR.Name x2,ZR.Dir x2,Wq (Wq (k1+1)+1),()),()))
 else
 some (.inr (k1,l0))
def ZJM (a0:List ZR) (k0:Int):Option (Int×(List ZR)) :=
 Zv (fun v=>ZI9 v.1 v.2.1 v.2.2.1) (k0,(0:Int),a0,())
def ZP8:Ctr:=⟨[.back (.ol 246 (.flat (Zcd))),.dat Iq],[.dat Iq],fun a K=>splitK a fun a0 a=>splitK a fun k0 a=>YR (ZJM a0 k0) fun r=>K (r.1,()) (r.2,())⟩
def ZJC (a0:Zb) (k0:Int):Option (Int×Zb) :=
 (ZI6 (Zb.Instances a0) k0).bind fun markInstanceS0 =>
 (ZJk (Zb.ZI a0) markInstanceS0.fst).bind fun markStringS0 =>
 (ZJM (Zb.ZG a0) markStringS0.fst).bind fun markPortS0 =>
 some (markPortS0.fst,(markInstanceS0.snd,markStringS0.snd,markPortS0.snd,()))
def ZP9:Ctr:=⟨[.back (ZpF),.dat Iq],[.dat Iq],fun a K=>splitK a fun a0 a=>splitK a fun k0 a=>YR (ZJC a0 k0) fun r=>K (r.1,()) (r.2,())⟩
def ZJa (k1:Int) (i0:Int) (l0:List (List Int×List Int×List Int×List Int×Unit)):Option ((Int×Int×(List (List Int×List Int×List Int×List Int×Unit))×Unit) ⊕ (Int×(List Zr))) :=
 if i0<(↑l0.length:Int) then
 (atI l0 i0).bind fun x0 =>
 (ZIC x0.fst k1).bind fun markInt64S0 =>
 (ZIC x0.snd.fst markInt64S0.fst).bind fun markInt64S1 =>
 (ZIC x0.snd.snd.fst markInt64S1.fst).bind fun markInt64S2 =>
 (ZIC x0.snd.snd.snd.fst markInt64S2.fst).bind fun markInt64S3 =>
 some (.inl (markInt64S3.fst,Wq (i0+1),List.set l0 (Int.toNat i0) (markInt64S0.snd,markInt64S1.snd,markInt64S2.snd,markInt64S3.snd,()),()))
 else
 some (.inr (k1,l0))
def ZJN (a0:List Zr) (k0:Int):Option (Int×(List Zr)) :=
 Zv (fun v=>ZJa v.1 v.2.1 v.2.2.1) (k0,(0:Int),a0,())
def ZQa:Ctr:=⟨[.back (.ol 86 (Zl3)),.dat Iq],[.dat Iq],fun a K=>splitK a fun a0 a=>splitK a fun k0 a=>YR (ZJN a0 k0) fun r=>K (r.1,()) (r.2,())⟩
def ZJt (a0:Za) (k0:Int):Option (Int×Za) :=
 (ZJj (Za.Library a0) k0).bind fun markLibrary0 =>
 (ZJC (Za.Design a0) markLibrary0.fst).bind fun markDesign0 =>
 (ZJN (Za.Zz a0) markDesign0.fst).bind fun markWireS0 =>
 some (markWireS0.fst,(markLibrary0.snd,markDesign0.snd,markWireS0.snd,()))
def ZQb:Ctr:=⟨[.back (ZdI),.dat Iq],[.dat Iq],fun a K=>splitK a fun a0 a=>splitK a fun k0 a=>YR (ZJt a0 k0) fun r=>K (r.1,()) (r.2,())⟩
def ZJV (v0:Int) (v1:Int) (l0:List Zl):Option ((Int×Int×(List Zl)×Unit) ⊕ (Int×(List Zl))) :=
 if v1<(↑l0.length:Int) then
 (ZII v0).bind fun markText0 =>
 (atI l0 v1).bind fun x0 =>
 (atI (List.set l0 (Int.toNat v1) (markText0,x0.snd)) v1).bind fun x1 =>
 (atI (List.set (List.set l0 (Int.toNat v1) (markText0,x0.snd)) (Int.toNat v1) (Zl.Name x1,Wq (v0+1),x1.snd.snd)) v1).bind fun x2 =>
 (atI (List.set (List.set (List.set l0 (Int.toNat v1) (markText0,x0.snd)) (Int.toNat v1) (Zl.Name x1,Wq (v0+1),x1.snd.snd)) (Int.toNat v1) (Zl.Name x2,Zl.Place x2,Wq (Wq (v0+1)+1),x2.snd.snd.snd)) v1).bind fun x3 =>
 (atI (List.set (List.set (List.set (List.set l0 (Int.toNat v1) (markText0,x0.snd)) (Int.toNat v1) (Zl.Name x1,Wq (v0+1),x1.snd.snd)) (Int.toNat v1) (Zl.Name x2,Zl.Place x2,Wq (Wq (v0+1)+1),x2.snd.snd.snd)) (Int.toNat v1) (Zl.Name x3,Zl.Place x3,Zl.Zca x3,Wq (Wq (Wq (v0+1)+1)+1),x3.snd.snd.snd.snd)) v1).bind fun x4 =>
 (atI (List.set (List.set (List.set (List.set (List.set l0 (Int.toNat v1) (markText0,x0.snd)) (Int.toNat v1) (Zl.Name x1,Wq (v0+1),x1.snd.snd)) (Int.toNat v1) (Zl.Name x2,Zl.Place x2,Wq (Wq (v0+1)+1),x2.snd.snd.snd)) (Int.toNat v1) (Zl.Name x3,Zl.Place x3,Zl.Zca x3,Wq (Wq (Wq (v0+1)+1)+1),x3.snd.snd.snd.snd)) (Int.toNat v1) (Zl.Name x4,Zl.Place x4,Zl.Zca x4,Zl.ZdJ x4,Wq (Wq (Wq (Wq (v0+1)+1)+1)+1),x4.snd.snd.snd.snd.snd)) v1).bind fun x5 =>
 (atI (List.set (List.set (List.set (List.set (List.set (List.set l0 (Int.toNat v1) (markText0,x0.snd)) (Int.toNat v1) (Zl.Name x1,Wq (v0+1),x1.snd.snd)) (Int.toNat v1) (Zl.Name x2,Zl.Place x2,Wq (Wq (v0+1)+1),x2.snd.snd.snd)) (Int.toNat v1) (Zl.Name x3,Zl.Place x3,Zl.Zca x3,Wq (Wq (Wq (v0+1)+1)+1),x3.snd.snd.snd.snd)) (Int.toNat v1) (Zl.Name x4,Zl.Place x4,Zl.Zca x4,Zl.ZdJ x4,Wq (Wq (Wq (Wq (v0+1)+1)+1)+1),x4.snd.snd.snd.snd.snd)) (Int.toNat v1) (Zl.Name x5,Zl.Place x5,Zl.Zca x5,Zl.ZdJ x5,Zl.ZdM x5,Wq (Wq (Wq (Wq (Wq (v0+1)+1)+1)+1)+1),x5.snd.snd.snd.snd.snd.snd)) v1).bind fun x6 =>
 (atI (List.set (List.set (List.set (List.set (List.set (List.set (List.set l0 (Int.toNat v1) (markText0,x0.snd)) (Int.toNat v1) (Zl.Name x1,Wq (v0+1),x1.snd.snd)) (Int.toNat v1) (Zl.Name x2,Zl.Place x2,Wq (Wq (v0+1)+1),x2.snd.snd.snd)) (Int.toNat v1) (Zl.Name x3,Zl.Place x3,Zl.Zca x3,Wq (Wq (Wq (v0+1)+1)+1),x3.snd.snd.snd.snd)) (Int.toNat v1) (Zl.Name x4,Zl.Place x4,Zl.Zca x4,Zl.ZdJ x4,Wq (Wq (Wq (Wq (v0+1)+1)+1)+1),x4.snd.snd.snd.snd.snd)) (Int.toNat v1) (Zl.Name x5,Zl.Place x5,Zl.Zca x5,Zl.ZdJ x5,Zl.ZdM x5,Wq (Wq (Wq (Wq (Wq (v0+1)+1)+1)+1)+1),x5.snd.snd.snd.snd.snd.snd)) (Int.toNat v1) (Zl.Name x6,Zl.Place x6,Zl.Zca x6,Zl.ZdJ x6,Zl.ZdM x6,Zl.Source x6,Wq (Wq (Wq (Wq (Wq (Wq (v0+1)+1)+1)+1)+1)+1),x6.snd.snd.snd.snd.snd.snd.snd)) v1).bind fun x7 =>
 (atI (List.set (List.set (List.set (List.set (List.set (List.set (List.set (List.set l0 (Int.toNat v1) (markText0,x0.snd)) (Int.toNat v1) (Zl.Name x1,Wq (v0+1),x1.snd.snd)) (Int.toNat v1) (Zl.Name x2,Zl.Place x2,Wq (Wq (v0+1)+1),x2.snd.snd.snd)) (Int.toNat v1) (Zl.Name x3,Zl.Place x3,Zl.Zca x3,Wq (Wq (Wq (v0+1)+1)+1),x3.snd.snd.snd.snd)) (Int.toNat v1) (Zl.Name x4,Zl.Place x4,Zl.Zca x4,Zl.ZdJ x4,Wq (Wq (Wq (Wq (v0+1)+1)+1)+1),x4.snd.snd.snd.snd.snd)) (Int.toNat v1) (Zl.Name x5,Zl.Place x5,Zl.Zca x5,Zl.ZdJ x5,Zl.ZdM x5,Wq (Wq (Wq (Wq (Wq (v0+1)+1)+1)+1)+1),x5.snd.snd.snd.snd.snd.snd)) (Int.toNat v1) (Zl.Name x6,Zl.Place x6,Zl.Zca x6,Zl.ZdJ x6,Zl.ZdM x6,Zl.Source x6,Wq (Wq (Wq (Wq (Wq (Wq (v0+1)+1)+1)+1)+1)+1),x6.snd.snd.snd.snd.snd.snd.snd)) (Int.toNat v1) (Zl.Name x7,Zl.Place x7,Zl.Zca x7,Zl.ZdJ x7,Zl.ZdM x7,Zl.Source x7,Zl.Divide x7,Decidable.decide (Int.tmod (Wq (Wq (Wq (Wq (Wq (Wq (Wq (v0+1)+1)+1)+1)+1)+1)+1)) 3=0),x7.snd.snd.snd.snd.snd.snd.snd.snd)) v1).bind fun x8 =>
 (atI (List.set (List.set (List.set (List.set (List.set (List.set (List.set (List.set (List.set l0 (Int.toNat v1) (markText0,x0.snd)) (Int.toNat v1) (Zl.Name x1,Wq (v0+1),x1.snd.snd)) (Int.toNat v1) (Zl.Name x2,Zl.Place x2,Wq (Wq (v0+1)+1),x2.snd.snd.snd)) (Int.toNat v1) (Zl.Name x3,Zl.Place x3,Zl.Zca x3,Wq (Wq (Wq (v0+1)+1)+1),x3.snd.snd.snd.snd)) (Int.toNat v1) (Zl.Name x4,Zl.Place x4,Zl.Zca x4,Zl.ZdJ x4,Wq (Wq (Wq (Wq (v0+1)+1)+1)+1),x4.snd.snd.snd.snd.snd)) (Int.toNat v1) (Zl.Name x5,Zl.Place x5,Zl.Zca x5,Zl.ZdJ x5,Zl.ZdM x5,Wq (Wq (Wq (Wq (Wq (v0+1)+1)+1)+1)+1),x5.snd.snd.snd.snd.snd.snd)) (Int.toNat v1) (Zl.Name x6,Zl.Place x6,Zl.Zca x6,Zl.ZdJ x6,Zl.ZdM x6,Zl.Source x6,Wq (Wq (Wq (Wq (Wq (Wq (v0+1)+1)+1)+1)+1)+1),x6.snd.snd.snd.snd.snd.snd.snd)) (Int.toNat v1) (Zl.Name x7,Zl.Place x7,Zl.Zca x7,Zl.ZdJ x7,Zl.ZdM x7,Zl.Source x7,Zl.Divide x7,Decidable.decide (Int.tmod (Wq (Wq (Wq (Wq (Wq (Wq (Wq (v0+1)+1)+1)+1)+1)+1)+1)) 3=0),x7.snd.snd.snd.snd.snd.snd.snd.snd)) (Int.toNat v1) (Zl.Name x8,Zl.Place x8,Zl.Zca x8,Zl.ZdJ x8,Zl.ZdM x8,Zl.Source x8,Zl.Divide x8,Zl.Zkd x8,Wq (Wq (Wq (Wq (Wq (Wq (Wq (Wq (v0+1)+1)+1)+1)+1)+1)+1)+1),x8.snd.snd.snd.snd.snd.snd.snd.snd.snd)) v1).bind fun x9 =>
 (atI (List.set (List.set (List.set (List.set (List.set (List.set (List.set (List.set (List.set (List.set l0 (Int.toNat v1) (markText0,x0.snd)) (Int.toNat v1) (Zl.Name x1,Wq (v0+1),x1.snd.snd)) (Int.toNat v1) (Zl.Name x2,Zl.Place x2,Wq (Wq (v0+1)+1),x2.snd.snd.snd)) (Int.toNat v1) (Zl.Name x3,Zl.Place x3,Zl.Zca x3,Wq (Wq (Wq (v0+1)+1)+1),x3.snd.snd.snd.snd)) (Int.toNat v1) (Zl.Name x4,Zl.Place x4,Zl.Zca x4,Zl.ZdJ x4,Wq (Wq (Wq (Wq (v0+1)+1)+1)+1),x4.snd.snd.snd.snd.snd)) (Int.toNat v1) (Zl.Name x5,Zl.Place x5,Zl.Zca x5,Zl.ZdJ x5,Zl.ZdM x5,Wq (Wq (Wq (Wq (Wq (v0+1)+1)+1)+1)+1),x5.snd.snd.snd.snd.snd.snd)) (Int.toNat v1) (Zl.Name x6,Zl.Place x6,Zl.Zca x6,Zl.ZdJ x6,Zl.ZdM x6,Zl.Source x6,Wq (Wq (Wq (Wq (Wq (Wq (v0+1)+1)+1)+1)+1)+1),x6.snd.snd.snd.snd.snd.snd.snd)) (Int.toNat v1) (Zl.Name x7,Zl.Place x7,Zl.Zca x7,Zl.ZdJ x7,Zl.ZdM x7,Zl.Source x7,Zl.Divide x7,Decidable.decide (Int.tmod (Wq (Wq (Wq (Wq (Wq (Wq (Wq (v0+1)+1)+1)+1)+1)+1)+1)) 3=0),x7.snd.snd.snd.snd.snd.snd.snd.snd)) (Int.toNat v1) (Zl.Name x8,Zl.Place x8,Zl.Zca x8,Zl.ZdJ x8,Zl.ZdM x8,Zl.Source x8,Zl.Divide x8,Zl.Zkd x8,Wq (Wq (Wq (Wq (Wq (Wq (Wq (Wq (v0+1)+1)+1)+1)+1)+1)+1)+1),x8.snd.snd.snd.snd.snd.snd.snd.snd.snd)) (Int.toNat v1) (Zl.Name x9,Zl.Place x9,Zl.Zca x9,Zl.ZdJ x9,Zl.ZdM x9,Zl.Source x9,Zl.Divide x9,Zl.Zkd x9,Zl.X6 x9,Wq (Wq (Wq (Wq (Wq (Wq (Wq (Wq (Wq (v0+1)+1)+1)+1)+1)+1)+1)+1)+1),x9.snd.snd.snd.snd.snd.snd.snd.snd.snd.snd)) v1).bind fun x10 =>
 some (.inl (Wq (Wq (Wq (Wq (Wq (Wq (Wq (Wq (Wq (Wq (Wq (v0+1)+1)+1)+1)+1)+1)+1)+1)+1)+1)+1),Wq (v1+1),List.set (List.set (List.set (List.set (List.set (List.set (List.set (List.set (List.set (List.set (List.set l0 (Int.toNat v1) (markText0,x0.snd)) (Int.toNat v1) (Zl.Name x1,Wq (v0+1),x1.snd.snd)) (Int.toNat v1) (Zl.Name x2,Zl.Place x2,Wq (Wq (v0+1)+1),x2.snd.snd.snd)) (Int.toNat v1) (Zl.Name x3,Zl.Place x3,Zl.Zca x3,Wq (Wq (Wq (v0+1)+1)+1),x3.snd.snd.snd.snd)) (Int.toNat v1) (Zl.Name x4,Zl.Place x4,Zl.Zca x4,Zl.ZdJ x4,Wq (Wq (Wq (Wq (v0+1)+1)+1)+1),x4.snd.snd.snd.snd.snd)) (Int.toNat v1) (Zl.Name x5,Zl.Place x5,Zl.Zca x5,Zl.ZdJ x5,Zl.ZdM x5,Wq (Wq (Wq (Wq (Wq (v0+1)+1)+1)+1)+1),x5.snd.snd.snd.snd.snd.snd)) (Int.toNat v1) (Zl.Name x6,Zl.Place x6,Zl.Zca x6,Zl.ZdJ x6,Zl.ZdM x6,Zl.Source x6,Wq (Wq (Wq (Wq (Wq (Wq (v0+1)+1)+1)+1)+1)+1),x6.snd.snd.snd.snd.snd.snd.snd)) (Int.toNat v1) (Zl.Name x7,Zl.Place x7,Zl.Zca x7,Zl.ZdJ x7,Zl.ZdM x7,Zl.Source x7,Zl.Divide x7,Decidable.decide (Int.tmod (Wq (Wq (Wq (Wq (Wq (Wq (Wq (v0+1)+1)+1)+1)+1)+1)+1)) 3=0),x7.snd.snd.snd.snd.snd.snd.snd.snd)) (Int.toNat v1) (Zl.Name x8,Zl.Place x8,Zl.Zca x8,Zl.ZdJ x8,Zl.ZdM x8,Zl.Source x8,Zl.Divide x8,Zl.Zkd x8,Wq (Wq (Wq (Wq (Wq (Wq (Wq (Wq (v0+1)+1)+1)+1)+1)+1)+1)+1),x8.snd.snd.snd.snd.snd.snd.snd.snd.snd)) (Int.toNat v1) (Zl.Name x9,Zl.Place x9,Zl.Zca x9,Zl.ZdJ x9,Zl.ZdM x9,Zl.Source x9,Zl.Divide x9,Zl.Zkd x9,Zl.X6 x9,Wq (Wq (Wq (Wq (Wq (Wq (Wq (Wq (Wq (v0+1)+1)+1)+1)+1)+1)+1)+1)+1),x9.snd.snd.snd.snd.snd.snd.snd.snd.snd.snd)) (Int.toNat v1) (Zl.Name x10,Zl.Place x10,Zl.Zca x10,Zl.ZdJ x10,Zl.ZdM x10,Zl.Source x10,Zl.Divide x10,Zl.Zkd x10,Zl.X6 x10,Zl.VE x10,Wq (Wq (Wq (Wq (Wq (Wq (Wq (Wq (Wq (Wq (v0+1)+1)+1)+1)+1)+1)+1)+1)+1)+1),()),()))
 else
 some (.inr (v0,l0))
def ZKn (a0:List Zl) (a1:Int):Option (Int×(List Zl)) :=
 Zv (fun v=>ZJV v.1 v.2.1 v.2.2.1) (a1,(0:Int),a0,())
def ZQc:Ctr:=⟨[.back (.ol 150 (.flat (XF))),.dat Iq],[.dat Iq],fun a K=>splitK a fun a0 a=>splitK a fun a1 a=>YR (ZKn a0 a1) fun r=>K (r.1,()) (r.2,())⟩
def ZJD (k1:Int) (i0:Int) (l0:List Zj):Option ((Int×Int×(List Zj)×Unit) ⊕ (Int×(List Zj))) :=
 if i0<(↑l0.length:Int) then
 (atI l0 i0).bind fun x0 =>
 (atI (List.set l0 (Int.toNat i0) (k1,x0.snd)) i0).bind fun x1 =>
 (atI (List.set (List.set l0 (Int.toNat i0) (k1,x0.snd)) (Int.toNat i0) (Zj.Place x1,Wq (k1+1),x1.snd.snd)) i0).bind fun x2 =>
 (atI (List.set (List.set (List.set l0 (Int.toNat i0) (k1,x0.snd)) (Int.toNat i0) (Zj.Place x1,Wq (k1+1),x1.snd.snd)) (Int.toNat i0) (Zj.Place x2,Zj.Clock x2,(Wq (Wq (k1+1)+1),(Zj.Delay x2).snd),x2.snd.snd.snd)) i0).bind fun x3 =>
 (atI (List.set (List.set (List.set (List.set l0 (Int.toNat i0) (k1,x0.snd)) (Int.toNat i0) (Zj.Place x1,Wq (k1+1),x1.snd.snd)) (Int.toNat i0) (Zj.Place x2,Zj.Clock x2,(Wq (Wq (k1+1)+1),(Zj.Delay x2).snd),x2.snd.snd.snd)) (Int.toNat i0) (Zj.Place x3,Zj.Clock x3,(YQ.Early (Zj.Delay x3),Wq (Wq (Wq (k1+1)+1)+1),()),x3.snd.snd.snd)) i0).bind fun x4 =>
 (atI (List.set (List.set (List.set (List.set (List.set l0 (Int.toNat i0) (k1,x0.snd)) (Int.toNat i0) (Zj.Place x1,Wq (k1+1),x1.snd.snd)) (Int.toNat i0) (Zj.Place x2,Zj.Clock x2,(Wq (Wq (k1+1)+1),(Zj.Delay x2).snd),x2.snd.snd.snd)) (Int.toNat i0) (Zj.Place x3,Zj.Clock x3,(YQ.Early (Zj.Delay x3),Wq (Wq (Wq (k1+1)+1)+1),()),x3.snd.snd.snd)) (Int.toNat i0) (Zj.Place x4,Zj.Clock x4,Zj.Delay x4,(Wq (Wq (Wq (Wq (k1+1)+1)+1)+1),(Zj.ZdS x4).snd),())) i0).bind fun x5 =>
 some (.inl (Wq (Wq (Wq (Wq (Wq (Wq (k1+1)+1)+1)+1)+1)+1),Wq (i0+1),List.set (List.set (List.set (List.set (List.set (List.set l0 (Int.toNat i0) (k1,x0.snd)) (Int.toNat i0) (Zj.Place x1,Wq (k1+1),x1.snd.snd)) (Int.toNat i0) (Zj.Place x2,Zj.Clock x2,(Wq (Wq (k1+1)+1),(Zj.Delay x2).snd),x2.snd.snd.snd)) (Int.toNat i0) (Zj.Place x3,Zj.Clock x3,(YQ.Early (Zj.Delay x3),Wq (Wq (Wq (k1+1)+1)+1),()),x3.snd.snd.snd)) (Int.toNat i0) (Zj.Place x4,Zj.Clock x4,Zj.Delay x4,(Wq (Wq (Wq (Wq (k1+1)+1)+1)+1),(Zj.ZdS x4).snd),())) (Int.toNat i0) (Zj.Place x5,Zj.Clock x5,Zj.Delay x5,(YQ.Early (Zj.ZdS x5),Wq (Wq (Wq (Wq (Wq (k1+1)+1)+1)+1)+1),()),()),()))
 else
 some (.inr (k1,l0))
def ZJr (a0:List Zj) (k0:Int):Option (Int×(List Zj)) :=
 Zv (fun v=>ZJD v.1 v.2.1 v.2.2.1) (k0,(0:Int),a0,())
def ZPK:Ctr:=⟨[.back (.ol 187 (.flat (Yg))),.dat Iq],[.dat Iq],fun a K=>splitK a fun a0 a=>splitK a fun k0 a=>YR (ZJr a0 k0) fun r=>K (r.1,()) (r.2,())⟩
def ZJu (k1:Int) (i0:Int) (l0:List (Int×Int×List Int×List Int×List Int×Unit)):Option ((Int×Int×(List (Int×Int×List Int×List Int×List Int×Unit))×Unit) ⊕ (Int×(List Zg))) :=
 if i0<(↑l0.length:Int) then
 (atI l0 i0).bind fun x0 =>
 (ZIC x0.snd.snd.fst (Wq (Wq (k1+1)+1))).bind fun markInt64S0 =>
 (ZIC x0.snd.snd.snd.fst markInt64S0.fst).bind fun markInt64S1 =>
 (ZIC x0.snd.snd.snd.snd.fst markInt64S1.fst).bind fun markInt64S2 =>
 some (.inl (markInt64S2.fst,Wq (i0+1),List.set l0 (Int.toNat i0) (k1,Wq (k1+1),markInt64S0.snd,markInt64S1.snd,markInt64S2.snd,()),()))
 else
 some (.inr (k1,l0))
def ZJJ (a0:List Zg) (k0:Int):Option (Int×(List Zg)) :=
 Zv (fun v=>ZJu v.1 v.2.1 v.2.2.1) (k0,(0:Int),a0,())
def ZQd:Ctr:=⟨[.back (.ol 155 (ZaM)),.dat Iq],[.dat Iq],fun a K=>splitK a fun a0 a=>splitK a fun k0 a=>YR (ZJJ a0 k0) fun r=>K (r.1,()) (r.2,())⟩
def ZJO (k1:Int) (i0:Int) (l0:List Zy):Option ((Int×Int×(List Zy)×Unit) ⊕ (Int×(List Zy))) :=
 if i0<(↑l0.length:Int) then
 (ZII k1).bind fun markText0 =>
 (atI l0 i0).bind fun x0 =>
 (atI (List.set l0 (Int.toNat i0) (markText0,x0.snd)) i0).bind fun x1 =>
 (atI (List.set (List.set l0 (Int.toNat i0) (markText0,x0.snd)) (Int.toNat i0) (Zy.Name x1,Wq (k1+1),x1.snd.snd)) i0).bind fun x2 =>
 (atI (List.set (List.set (List.set l0 (Int.toNat i0) (markText0,x0.snd)) (Int.toNat i0) (Zy.Name x1,Wq (k1+1),x1.snd.snd)) (Int.toNat i0) (Zy.Name x2,Zy.Zbc x2,Wq (Wq (k1+1)+1),x2.snd.snd.snd)) i0).bind fun x3 =>
 (atI (List.set (List.set (List.set (List.set l0 (Int.toNat i0) (markText0,x0.snd)) (Int.toNat i0) (Zy.Name x1,Wq (k1+1),x1.snd.snd)) (Int.toNat i0) (Zy.Name x2,Zy.Zbc x2,Wq (Wq (k1+1)+1),x2.snd.snd.snd)) (Int.toNat i0) (Zy.Name x3,Zy.Zbc x3,Zy.ZdE x3,Wq (Wq (Wq (k1+1)+1)+1),x3.snd.snd.snd.snd)) i0).bind fun x4 =>
 some (.inl (Wq (Wq (Wq (Wq (Wq (k1+1)+1)+1)+1)+1),Wq (i0+1),List.set (List.set (List.set (List.set (List.set l0 (Int.toNat i0) (markText0,x0.snd)) (Int.toNat i0) (Zy.Name x1,Wq (k1+1),x1.snd.snd)) (Int.toNat i0) (Zy.Name x2,Zy.Zbc x2,Wq (Wq (k1+1)+1),x2.snd.snd.snd)) (Int.toNat i0) (Zy.Name x3,Zy.Zbc x3,Zy.ZdE x3,Wq (Wq (Wq (k1+1)+1)+1),x3.snd.snd.snd.snd)) (Int.toNat i0) (Zy.Name x4,Zy.Zbc x4,Zy.ZdE x4,Zy.Zcb x4,Wq (Wq (Wq (Wq (k1+1)+1)+1)+1),()),()))
 else
 some (.inr (k1,l0))
def ZKf (a0:List Zy) (k0:Int):Option (Int×(List Zy)) :=
 Zv (fun v=>ZJO v.1 v.2.1 v.2.2.1) (k0,(0:Int),a0,())
def ZQe:Ctr:=⟨[.back (.ol 193 (.flat (Xf))),.dat Iq],[.dat Iq],fun a K=>splitK a fun a0 a=>splitK a fun k0 a=>YR (ZKf a0 k0) fun r=>K (r.1,()) (r.2,())⟩
def ZJ7 (a0:Zn) (k0:Int):Option (Int×Zn) :=
 (ZKn (Zn.YE a0) k0).bind fun markClockS0 =>
 (ZJr (Zn.XV a0) markClockS0.fst).bind fun markExternalS0 =>
 (ZJr (Zn.Y7 a0) markExternalS0.fst).bind fun markExternalS1 =>
 (ZJJ (Zn.Exceptions a0) markExternalS1.fst).bind fun markExceptionS0 =>
 (ZKf (Zn.XT a0) markExceptionS0.fst).bind fun markCornerS0 =>
 some (markCornerS0.fst,(markClockS0.snd,markExternalS0.snd,markExternalS1.snd,markExceptionS0.snd,markCornerS0.snd,()))
def ZQf:Ctr:=⟨[.back (ZnC),.dat Iq],[.dat Iq],fun a K=>splitK a fun a0 a=>splitK a fun k0 a=>YR (ZJ7 a0 k0) fun r=>K (r.1,()) (r.2,())⟩
def ZJZ (v0:Int) (v1:Int) (l0:List (Int×Int×Int×Int×Int×List UInt8×Zr×Unit)):Option ((Int×Int×(List (Int×Int×Int×Int×Int×List UInt8×Zr×Unit))×Unit) ⊕ (Int×(List Zh))) :=
 if v1<(↑l0.length:Int) then
 (atI l0 v1).bind fun x0 =>
 (ZII (Wq (Wq (Wq (Wq (Wq (v0+1)+1)+1)+1)+1))).bind fun markText0 =>
 (ZIC x0.snd.snd.snd.snd.snd.snd.fst.fst (Wq (Wq (Wq (Wq (Wq (Wq (v0+1)+1)+1)+1)+1)+1))).bind fun markInt64S0 =>
 (ZIC x0.snd.snd.snd.snd.snd.snd.fst.snd.fst markInt64S0.fst).bind fun markInt64S1 =>
 (ZIC x0.snd.snd.snd.snd.snd.snd.fst.snd.snd.fst markInt64S1.fst).bind fun markInt64S2 =>
 (ZIC x0.snd.snd.snd.snd.snd.snd.fst.snd.snd.snd.fst markInt64S2.fst).bind fun markInt64S3 =>
 some (.inl (markInt64S3.fst,Wq (v1+1),List.set l0 (Int.toNat v1) (v0,Wq (v0+1),Wq (Wq (v0+1)+1),Wq (Wq (Wq (v0+1)+1)+1),Wq (Wq (Wq (Wq (v0+1)+1)+1)+1),markText0,(markInt64S0.snd,markInt64S1.snd,markInt64S2.snd,markInt64S3.snd,()),()),()))
 else
 some (.inr (v0,l0))
def ZJ6 (a0:List Zh) (a1:Int):Option (Int×(List Zh)) :=
 Zv (fun v=>ZJZ v.1 v.2.1 v.2.2.1) (a1,(0:Int),a0,())
def ZQg:Ctr:=⟨[.back (.ol 88 (Zo8)),.dat Iq],[.dat Iq],fun a K=>splitK a fun a0 a=>splitK a fun a1 a=>YR (ZJ6 a0 a1) fun r=>K (r.1,()) (r.2,())⟩
def ZIP (a0:ZH) (k0:Int):Option (Int×ZH) :=
 (ZJt (ZH.Block a0) k0).bind fun markBlock0 =>
 (ZJ7 (ZH.Setup a0) markBlock0.fst).bind fun markSetup0 =>
 (ZJ6 (ZH.Zpn a0) markSetup0.fst).bind fun markEditS0 =>
 (ZJ6 (ZH.Zpp a0) markEditS0.fst).bind fun markEditS1 =>
 some (markEditS1.fst,(markBlock0.snd,markSetup0.snd,markEditS0.snd,markEditS1.snd,()))
def ZQh:Ctr:=⟨[.back (Zy5),.dat Iq],[.dat Iq],fun a K=>splitK a fun a0 a=>splitK a fun k0 a=>YR (ZIP a0 k0) fun r=>K (r.1,()) (r.2,())⟩
def ZJH (a0:List YP) (k1:Int) (i0:Int):Option ((Int×Int×Unit) ⊕ Int) :=
 if i0<(↑a0.length:Int) then
 (atI a0 i0).bind fun x0 =>
 (ZII k1).bind fun markText0 =>
 if YP.Name x0=markText0 then
 if YP.Dir x0=Wq (k1+1) then
 if YP.Cap x0=Wq (Wq (k1+1)+1) then
 if (YP.Clock x0 == Decidable.decide (Int.tmod (Wq (Wq (Wq (k1+1)+1)+1)) 3=0))=true then
 some (.inl (Wq (Wq (Wq (Wq (k1+1)+1)+1)+1),Wq (i0+1),()))
 else
 some (.inr (-1))
 else
 some (.inr (-1))
 else
 some (.inr (-1))
 else
 some (.inr (-1))
 else
 some (.inr k1)
def ZKD (a0:List YP) (k0:Int):Option Int :=
 Zv (fun v=>ZJH a0 v.1 v.2.1) (k0,(0:Int),())
def ZQi:Ctr:=D2 (.sl (ZgP)) Iq Iq ZKD
def ZJp (a0:List Int) (k1:Int) (i0:Int):Option ((Int×Int×Unit) ⊕ Int) :=
 if i0<(↑a0.length:Int) then
 (atI a0 i0).bind fun x0 =>
 if x0=k1 then
 some (.inl (Wq (k1+1),Wq (i0+1),()))
 else
 some (.inr (-1))
 else
 some (.inr k1)
def ZIH (a0:List Int) (k0:Int):Option Int :=
 Zv (fun v=>ZJp a0 v.1 v.2.1) (k0,(0:Int),())
def ZPL:Ctr:=D2 (.sl Iq) Iq Iq ZIH
def ZJq (a0:List ZA) (k1:Int) (i0:Int):Option ((Int×Int×Unit) ⊕ Int) :=
 if i0<(↑a0.length:Int) then
 (atI a0 i0).bind fun x0 =>
 (ZIH (ZA.Zg6 x0) k1).bind fun heldInt64S0 =>
 if heldInt64S0<0 then
 some (.inr (-1))
 else
 (ZIH (ZA.Loads x0) heldInt64S0).bind fun heldInt64S1 =>
 if heldInt64S1<0 then
 some (.inr (-1))
 else
 (ZIH (ZA.Values x0) heldInt64S1).bind fun heldInt64S2 =>
 if heldInt64S2<0 then
 some (.inr (-1))
 else
 some (.inl (heldInt64S2,Wq (i0+1),()))
 else
 some (.inr k1)
def ZJU (a0:List ZA) (k0:Int):Option Int :=
 Zv (fun v=>ZJq a0 v.1 v.2.1) (k0,(0:Int),())
def ZPM:Ctr:=D2 (.sl (XE)) Iq Iq ZJU
def ZJF (a0:List ZJ) (v0:Int) (v1:Int):Option ((Int×Int×Unit) ⊕ Int) :=
 if v1<(↑a0.length:Int) then
 (atI a0 v1).bind fun x0 =>
 if ZJ.Kind x0=v0 then
 if ZJ.From x0=Wq (v0+1) then
 if ZJ.To x0=Wq (Wq (v0+1)+1) then
 if ZJ.ZbJ x0=Wq (Wq (Wq (v0+1)+1)+1) then
 (ZJU (ZJ.Delay x0) (Wq (Wq (Wq (Wq (v0+1)+1)+1)+1))).bind fun heldTableS0 =>
 if heldTableS0<0 then
 some (.inr (-1))
 else
 (ZJU (ZJ.ZdS x0) heldTableS0).bind fun heldTableS1 =>
 if heldTableS1<0 then
 some (.inr (-1))
 else
 some (.inl (heldTableS1,Wq (v1+1),()))
 else
 some (.inr (-1))
 else
 some (.inr (-1))
 else
 some (.inr (-1))
 else
 some (.inr (-1))
 else
 some (.inr v0)
def ZKC (a0:List ZJ) (a1:Int):Option Int :=
 Zv (fun v=>ZJF a0 v.1 v.2.1) (a1,(0:Int),())
def ZQj:Ctr:=D2 (.sl (Zib)) Iq Iq ZKC
def ZJv (a0:List Zm) (v0:Int) (v1:Int):Option ((Int×Int×Unit) ⊕ Int) :=
 if v1<(↑a0.length:Int) then
 (atI a0 v1).bind fun x0 =>
 (ZII v0).bind fun markText0 =>
 if Zm.Name x0=markText0 then
 if Zm.Kind x0=Wq (v0+1) then
 (ZKD (Zm.Yw x0) (Wq (Wq (v0+1)+1))).bind fun heldPinS0 =>
 if heldPinS0<0 then
 some (.inr (-1))
 else
 (ZKC (Zm.JQ x0) heldPinS0).bind fun heldArcS0 =>
 if heldArcS0<0 then
 some (.inr (-1))
 else
 (ZIH (Zm.Truth x0) heldArcS0).bind fun heldInt64S0 =>
 if heldInt64S0<0 then
 some (.inr (-1))
 else
 if Zm.Zxy x0=heldInt64S0 then
 if Zm.Zkf x0=Wq (heldInt64S0+1) then
 some (.inl (Wq (Wq (heldInt64S0+1)+1),Wq (v1+1),()))
 else
 some (.inr (-1))
 else
 some (.inr (-1))
 else
 some (.inr (-1))
 else
 some (.inr (-1))
 else
 some (.inr v0)
def ZKs (a0:List Zm) (a1:Int):Option Int :=
 Zv (fun v=>ZJv a0 v.1 v.2.1) (a1,(0:Int),())
def ZQk:Ctr:=D2 (.sl (QL)) Iq Iq ZKs
def ZKd (a0:Zo) (k0:Int):Option Int :=
 (ZKs (Zo.Cells a0) k0).bind fun heldCellS0 =>
 if heldCellS0<0 then
 some (-1)
 else
 some heldCellS0
def ZQl:Ctr:=D2 (Xh) Iq Iq ZKd
def ZI5 (a0:List Ze) (k1:Int) (i0:Int):Option ((Int×Int×Unit) ⊕ Int) :=
 if i0<(↑a0.length:Int) then
 (atI a0 i0).bind fun x0 =>
 (ZII k1).bind fun markText0 =>
 if Ze.Name x0=markText0 then
 if Ze.Cell x0=Wq (k1+1) then
 (ZIH (Ze.ZI x0) (Wq (Wq (k1+1)+1))).bind fun heldInt64S0 =>
 if heldInt64S0<0 then
 some (.inr (-1))
 else
 some (.inl (heldInt64S0,Wq (i0+1),()))
 else
 some (.inr (-1))
 else
 some (.inr (-1))
 else
 some (.inr k1)
def ZJQ (a0:List Ze) (k0:Int):Option Int :=
 Zv (fun v=>ZI5 a0 v.1 v.2.1) (k0,(0:Int),())
def ZPx:Ctr:=D2 (.sl (Yq)) Iq Iq ZJQ
def ZJi (a0:List (List UInt8)) (k1:Int) (i0:Int):Option ((Int×Int×Unit) ⊕ Int) :=
 if i0<(↑a0.length:Int) then
 (atI a0 i0).bind fun x0 =>
 (ZII k1).bind fun markText0 =>
 if x0=markText0 then
 some (.inl (Wq (k1+1),Wq (i0+1),()))
 else
 some (.inr (-1))
 else
 some (.inr k1)
def ZKe (a0:List (List UInt8)) (k0:Int):Option Int :=
 Zv (fun v=>ZJi a0 v.1 v.2.1) (k0,(0:Int),())
def ZPD:Ctr:=D2 (.sl (.str)) Iq Iq ZKe
def ZJx (a0:List ZR) (k1:Int) (i0:Int):Option ((Int×Int×Unit) ⊕ Int) :=
 if i0<(↑a0.length:Int) then
 (atI a0 i0).bind fun x0 =>
 (ZII k1).bind fun markText0 =>
 if ZR.Name x0=markText0 then
 if ZR.Dir x0=Wq (k1+1) then
 if ZR.Net x0=Wq (Wq (k1+1)+1) then
 some (.inl (Wq (Wq (Wq (k1+1)+1)+1),Wq (i0+1),()))
 else
 some (.inr (-1))
 else
 some (.inr (-1))
 else
 some (.inr (-1))
 else
 some (.inr k1)
def ZKt (a0:List ZR) (k0:Int):Option Int :=
 Zv (fun v=>ZJx a0 v.1 v.2.1) (k0,(0:Int),())
def ZPE:Ctr:=D2 (.sl (Zcd)) Iq Iq ZKt
def ZKm (a0:Zb) (k0:Int):Option Int :=
 (ZJQ (Zb.Instances a0) k0).bind fun heldInstanceS0 =>
 if heldInstanceS0<0 then
 some (-1)
 else
 (ZKe (Zb.ZI a0) heldInstanceS0).bind fun heldStringS0 =>
 if heldStringS0<0 then
 some (-1)
 else
 (ZKt (Zb.ZG a0) heldStringS0).bind fun heldPortS0 =>
 if heldPortS0<0 then
 some (-1)
 else
 some heldPortS0
def ZQm:Ctr:=D2 (YG) Iq Iq ZKm
def ZJy (a0:List Zr) (k1:Int) (i0:Int):Option ((Int×Int×Unit) ⊕ Int) :=
 if i0<(↑a0.length:Int) then
 (atI a0 i0).bind fun x0 =>
 (ZIH (Zr.Parent x0) k1).bind fun heldInt64S0 =>
 if heldInt64S0<0 then
 some (.inr (-1))
 else
 (ZIH (Zr.Res x0) heldInt64S0).bind fun heldInt64S1 =>
 if heldInt64S1<0 then
 some (.inr (-1))
 else
 (ZIH (Zr.Cap x0) heldInt64S1).bind fun heldInt64S2 =>
 if heldInt64S2<0 then
 some (.inr (-1))
 else
 (ZIH (Zr.Ze6 x0) heldInt64S2).bind fun heldInt64S3 =>
 if heldInt64S3<0 then
 some (.inr (-1))
 else
 some (.inl (heldInt64S3,Wq (i0+1),()))
 else
 some (.inr k1)
def ZKv (a0:List Zr) (k0:Int):Option Int :=
 Zv (fun v=>ZJy a0 v.1 v.2.1) (k0,(0:Int),())
def ZPN:Ctr:=D2 (.sl (Vv)) Iq Iq ZKv
def ZKr (a0:Za) (k0:Int):Option Int :=
 (ZKd (Za.Library a0) k0).bind fun heldLibrary0 =>
 if heldLibrary0<0 then
 some (-1)
 else
 (ZKm (Za.Design a0) heldLibrary0).bind fun heldDesign0 =>
 if heldDesign0<0 then
 some (-1)
 else
 (ZKv (Za.Zz a0) heldDesign0).bind fun heldWireS0 =>
 if heldWireS0<0 then
 some (-1)
 else
 some heldWireS0
def ZPy:Ctr:=D2 (Y3) Iq Iq ZKr
def ZJn (a0:List Zl) (v0:Int) (v1:Int):Option ((Int×Int×Unit) ⊕ Int) :=
 if v1<(↑a0.length:Int) then
 (atI a0 v1).bind fun x0 =>
 (ZII v0).bind fun markText0 =>
 if Zl.Name x0=markText0 then
 if Zl.Place x0=Wq (v0+1) then
 if Zl.Zca x0=Wq (Wq (v0+1)+1) then
 if Zl.ZdJ x0=Wq (Wq (Wq (v0+1)+1)+1) then
 if Zl.ZdM x0=Wq (Wq (Wq (Wq (v0+1)+1)+1)+1) then
 if Zl.Source x0=Wq (Wq (Wq (Wq (Wq (v0+1)+1)+1)+1)+1) then
 if Zl.Divide x0=Wq (Wq (Wq (Wq (Wq (Wq (v0+1)+1)+1)+1)+1)+1) then
 if (Zl.Zkd x0 == Decidable.decide (Int.tmod (Wq (Wq (Wq (Wq (Wq (Wq (Wq (v0+1)+1)+1)+1)+1)+1)+1)) 3=0))=true then
 if Zl.X6 x0=Wq (Wq (Wq (Wq (Wq (Wq (Wq (Wq (v0+1)+1)+1)+1)+1)+1)+1)+1) then
 if Zl.VE x0=Wq (Wq (Wq (Wq (Wq (Wq (Wq (Wq (Wq (v0+1)+1)+1)+1)+1)+1)+1)+1)+1) then
 if Zl.Zbe x0=Wq (Wq (Wq (Wq (Wq (Wq (Wq (Wq (Wq (Wq (v0+1)+1)+1)+1)+1)+1)+1)+1)+1)+1) then
 some (.inl (Wq (Wq (Wq (Wq (Wq (Wq (Wq (Wq (Wq (Wq (Wq (v0+1)+1)+1)+1)+1)+1)+1)+1)+1)+1)+1),Wq (v1+1),()))
 else
 some (.inr (-1))
 else
 some (.inr (-1))
 else
 some (.inr (-1))
 else
 some (.inr (-1))
 else
 some (.inr (-1))
 else
 some (.inr (-1))
 else
 some (.inr (-1))
 else
 some (.inr (-1))
 else
 some (.inr (-1))
 else
 some (.inr (-1))
 else
 some (.inr (-1))
 else
 some (.inr v0)
def ZKl (a0:List Zl) (a1:Int):Option Int :=
 Zv (fun v=>ZJn a0 v.1 v.2.1) (a1,(0:Int),())
def ZPF:Ctr:=D2 (.sl (XF)) Iq Iq ZKl
def ZI4 (a0:List Zj) (v0:Int) (v1:Int):Option ((Int×Int×Unit) ⊕ Int) :=
 if v1<(↑a0.length:Int) then
 (atI a0 v1).bind fun x0 =>
 if Zj.Place x0=v0 then
 if Zj.Clock x0=Wq (v0+1) then
 if YQ.Early (Zj.Delay x0)=Wq (Wq (v0+1)+1) then
 if YQ.Late (Zj.Delay x0)=Wq (Wq (Wq (v0+1)+1)+1) then
 if YQ.Early (Zj.ZdS x0)=Wq (Wq (Wq (Wq (v0+1)+1)+1)+1) then
 if YQ.Late (Zj.ZdS x0)=Wq (Wq (Wq (Wq (Wq (v0+1)+1)+1)+1)+1) then
 some (.inl (Wq (Wq (Wq (Wq (Wq (Wq (v0+1)+1)+1)+1)+1)+1),Wq (v1+1),()))
 else
 some (.inr (-1))
 else
 some (.inr (-1))
 else
 some (.inr (-1))
 else
 some (.inr (-1))
 else
 some (.inr (-1))
 else
 some (.inr (-1))
 else
 some (.inr v0)
def ZJo (a0:List Zj) (a1:Int):Option Int :=
 Zv (fun v=>ZI4 a0 v.1 v.2.1) (a1,(0:Int),())
def ZQn:Ctr:=D2 (.sl (Yg)) Iq Iq ZJo
def ZI0 (a0:List Zg) (k1:Int) (i0:Int):Option ((Int×Int×Unit) ⊕ Int) :=
 if i0<(↑a0.length:Int) then
 (atI a0 i0).bind fun x0 =>
 if Zg.Kind x0=k1 then
 if Zg.Value x0=Wq (k1+1) then
 (ZIH (Zg.From x0) (Wq (Wq (k1+1)+1))).bind fun heldInt64S0 =>
 if heldInt64S0<0 then
 some (.inr (-1))
 else
 (ZIH (Zg.Through x0) heldInt64S0).bind fun heldInt64S1 =>
 if heldInt64S1<0 then
 some (.inr (-1))
 else
 (ZIH (Zg.To x0) heldInt64S1).bind fun heldInt64S2 =>
 if heldInt64S2<0 then
 some (.inr (-1))
 else
 some (.inl (heldInt64S2,Wq (i0+1),()))
 else
 some (.inr (-1))
 else
 some (.inr (-1))
 else
 some (.inr k1)
def ZJG (a0:List Zg) (k0:Int):Option Int :=
 Zv (fun v=>ZI0 a0 v.1 v.2.1) (k0,(0:Int),())
def ZPG:Ctr:=D2 (.sl (Yn)) Iq Iq ZJG
def ZJh (a0:List Zy) (k1:Int) (i0:Int):Option ((Int×Int×Unit) ⊕ Int) :=
 if i0<(↑a0.length:Int) then
 (atI a0 i0).bind fun x0 =>
 (ZII k1).bind fun markText0 =>
 if Zy.Name x0=markText0 then
 if Zy.Zbc x0=Wq (k1+1) then
 if Zy.ZdE x0=Wq (Wq (k1+1)+1) then
 if Zy.Zcb x0=Wq (Wq (Wq (k1+1)+1)+1) then
 if Zy.Zeo x0=Wq (Wq (Wq (Wq (k1+1)+1)+1)+1) then
 some (.inl (Wq (Wq (Wq (Wq (Wq (k1+1)+1)+1)+1)+1),Wq (i0+1),()))
 else
 some (.inr (-1))
 else
 some (.inr (-1))
 else
 some (.inr (-1))
 else
 some (.inr (-1))
 else
 some (.inr (-1))
 else
 some (.inr k1)
def ZKc (a0:List Zy) (k0:Int):Option Int :=
 Zv (fun v=>ZJh a0 v.1 v.2.1) (k0,(0:Int),())
def ZPO:Ctr:=D2 (.sl (Xf)) Iq Iq ZKc
def ZKu (a0:Zn) (k0:Int):Option Int :=
 (ZKl (Zn.YE a0) k0).bind fun heldClockS0 =>
 if heldClockS0<0 then
 some (-1)
 else
 (ZJo (Zn.XV a0) heldClockS0).bind fun heldExternalS0 =>
 if heldExternalS0<0 then
 some (-1)
 else
 (ZJo (Zn.Y7 a0) heldExternalS0).bind fun heldExternalS1 =>
 if heldExternalS1<0 then
 some (-1)
 else
 (ZJG (Zn.Exceptions a0) heldExternalS1).bind fun heldExceptionS0 =>
 if heldExceptionS0<0 then
 some (-1)
 else
 (ZKc (Zn.XT a0) heldExceptionS0).bind fun heldCornerS0 =>
 if heldCornerS0<0 then
 some (-1)
 else
 some heldCornerS0
def ZQo:Ctr:=D2 (QX) Iq Iq ZKu
def ZJw (a0:List Zh) (v0:Int) (v1:Int):Option ((Int×Int×Unit) ⊕ Int) :=
 if v1<(↑a0.length:Int) then
 (atI a0 v1).bind fun x0 =>
 if Zh.Kind x0=v0 then
 if Zh.Place x0=Wq (v0+1) then
 if Zh.Cell x0=Wq (Wq (v0+1)+1) then
 if Zh.Net x0=Wq (Wq (Wq (v0+1)+1)+1) then
 if Zh.Node x0=Wq (Wq (Wq (Wq (v0+1)+1)+1)+1) then
 (ZII (Wq (Wq (Wq (Wq (Wq (v0+1)+1)+1)+1)+1))).bind fun markText0 =>
 if Zh.Name x0=markText0 then
 (ZIH (Zr.Parent (Zh.Ze7 x0)) (Wq (Wq (Wq (Wq (Wq (Wq (v0+1)+1)+1)+1)+1)+1))).bind fun heldInt64S0 =>
 if heldInt64S0<0 then
 some (.inr (-1))
 else
 (ZIH (Zr.Res (Zh.Ze7 x0)) heldInt64S0).bind fun heldInt64S1 =>
 if heldInt64S1<0 then
 some (.inr (-1))
 else
 (ZIH (Zr.Cap (Zh.Ze7 x0)) heldInt64S1).bind fun heldInt64S2 =>
 if heldInt64S2<0 then
 some (.inr (-1))
 else
 (ZIH (Zr.Ze6 (Zh.Ze7 x0)) heldInt64S2).bind fun heldInt64S3 =>
 if heldInt64S3<0 then
 some (.inr (-1))
 else
 some (.inl (heldInt64S3,Wq (v1+1),()))
 else
 some (.inr (-1))
 else
 some (.inr (-1))
 else
 some (.inr (-1))
 else
 some (.inr (-1))
 else
 some (.inr (-1))
 else
 some (.inr (-1))
 else
 some (.inr v0)
def ZJ5 (a0:List Zh) (a1:Int):Option Int :=
 Zv (fun v=>ZJw a0 v.1 v.2.1) (a1,(0:Int),())
def ZQp:Ctr:=D2 (.sl (XL)) Iq Iq ZJ5
def ZI7 (a0:ZH) (k0:Int):Option Int :=
 (ZKr (ZH.Block a0) k0).bind fun heldBlock0 =>
 if heldBlock0<0 then
 some (-1)
 else
 (ZKu (ZH.Setup a0) heldBlock0).bind fun heldSetup0 =>
 if heldSetup0<0 then
 some (-1)
 else
 (ZJ5 (ZH.Zpn a0) heldSetup0).bind fun heldEditS0 =>
 if heldEditS0<0 then
 some (-1)
 else
 (ZJ5 (ZH.Zpp a0) heldEditS0).bind fun heldEditS1 =>
 if heldEditS1<0 then
 some (-1)
 else
 some heldEditS1
def ZQq:Ctr:=D2 (Jy) Iq Iq ZI7
def ZIX (a0:ZH):Option Bool :=
 (Zel a0 1048576).bind fun szSession0 =>
 if szSession0<0 then
 some Bool.true
 else
 (Zeu a0).bind fun toSession0 =>
 (ZKj toSession0).bind fun UndoSession0 =>
 (ZKb toSession0).bind fun UndoSession1 =>
 (Zep UndoSession1.fst UndoSession0.fst).bind fun eqSession0 =>
 if eqSession0=true then
 if UndoSession1.snd=UndoSession0.snd then
 (Zep toSession0 toSession0).bind fun eqSession1 =>
 if eqSession1=true then
 (ZIP toSession0 1).bind fun markSession0 =>
 if markSession0.fst<0 then
 some Bool.false
 else
 if eqSession0=true then
 if UndoSession1.snd=UndoSession0.snd then
 (ZIP UndoSession1.fst 1).bind fun markSession1 =>
 (ZI7 markSession1.snd 1).bind fun heldSession0 =>
 if heldSession0<0 then
 some Bool.false
 else
 if heldSession0=markSession1.fst then
 if eqSession0=true then
 if UndoSession1.snd=UndoSession0.snd then
 if heldSession0<0 then
 some Bool.false
 else
 if heldSession0=markSession1.fst then
 some Bool.true
 else
 some Bool.false
 else
 some Bool.false
 else
 some Bool.false
 else
 some Bool.false
 else
 some Bool.false
 else
 some Bool.false
 else
 some Bool.false
 else
 some Bool.false
 else
 some Bool.false
def ZJ4:Ctr:=⟨[.dat (Jy)],[.dat (.bool)],fun a K=>splitK a fun a0 a=>YR (ZIX a0) fun r=>K (r,()) ()⟩
def ZKi (s0:ZH):Option (ZH×Int) :=
 (Zer s0).bind fun IsSession0 =>
 if IsSession0=true then
 if (↑(List.length (ZH.Zpp s0)):Int)=0 then
 some ((((([]:List Zm),()),(([]:List Ze),([]:List (List UInt8)),([]:List ZR),()),([]:List Zr),()),(([]:List Zl),([]:List Zj),([]:List Zj),([]:List Zg),([]:List Zy),()),([]:List Zh),([]:List Zh),()),(5:Int))
 else
 (atI (ZH.Zpp s0) 0).bind fun x0 =>
 (Xl (ZH.Block s0) (ZH.Setup s0) x0).bind fun l33Step0 =>
 (ZJY l33Step0.snd.snd.fst (ZH.Zpn s0)).bind fun l33Edits0 =>
 (ZKz (ZH.Zpp s0)).bind fun l33Rest0 =>
 some ((l33Step0.fst,l33Step0.snd.fst,l33Edits0,l33Rest0,()),0)
 else
 some ((((([]:List Zm),()),(([]:List Ze),([]:List (List UInt8)),([]:List ZR),()),([]:List Zr),()),(([]:List Zl),([]:List Zj),([]:List Zj),([]:List Zg),([]:List Zy),()),([]:List Zh),([]:List Zh),()),(1:Int))
def ZPQ:Ctr:=⟨[.dat (Jy)],[.dat (Jy),.dat Iq],fun a K=>splitK a fun s0 a=>YR (ZKi s0) fun r=>K (r.1,r.2,()) ()⟩
def ZKa (s0:ZH):Option (ZH×Int) :=
 (Zed s0).bind fun IsSession0 =>
 if IsSession0=true then
 if (↑(List.length (ZH.Zpp s0)):Int)=0 then
 some ((((([]:List Zm),()),(([]:List Ze),([]:List (List UInt8)),([]:List ZR),()),([]:List Zr),()),(([]:List Zl),([]:List Zj),([]:List Zj),([]:List Zg),([]:List Zy),()),([]:List Zh),([]:List Zh),()),(5:Int))
 else
 (ZLg s0 (ZH.Zpp s0) (ZH.Zpn s0)).bind fun shift0 =>
 some ((shift0.fst,shift0.snd.fst,shift0.snd.snd.snd,shift0.snd.snd.fst,()),0)
 else
 some ((((([]:List Zm),()),(([]:List Ze),([]:List (List UInt8)),([]:List ZR),()),([]:List Zr),()),(([]:List Zl),([]:List Zj),([]:List Zj),([]:List Zg),([]:List Zy),()),([]:List Zh),([]:List Zh),()),(1:Int))
def ZPR:Ctr:=⟨[.dat (Jy)],[.own (Zy5),.dat Iq],fun a K=>splitK a fun s0 a=>YR (ZKa s0) fun r=>K (r.1,r.2,()) ()⟩
def ZIW (a0:ZH):Option Bool :=
 (Zel a0 1048576).bind fun szSession0 =>
 if szSession0<0 then
 some Bool.true
 else
 (Zeu a0).bind fun toSession0 =>
 (ZKi toSession0).bind fun RedoSession0 =>
 (ZKa toSession0).bind fun RedoSession1 =>
 (Zep RedoSession1.fst RedoSession0.fst).bind fun eqSession0 =>
 if eqSession0=true then
 if RedoSession1.snd=RedoSession0.snd then
 (Zep toSession0 toSession0).bind fun eqSession1 =>
 if eqSession1=true then
 (ZIP toSession0 1).bind fun markSession0 =>
 if markSession0.fst<0 then
 some Bool.false
 else
 if eqSession0=true then
 if RedoSession1.snd=RedoSession0.snd then
 (ZIP RedoSession1.fst 1).bind fun markSession1 =>
 (ZI7 markSession1.snd 1).bind fun heldSession0 =>
 if heldSession0<0 then
 some Bool.false
 else
 if heldSession0=markSession1.fst then
 if eqSession0=true then
 if RedoSession1.snd=RedoSession0.snd then
 if heldSession0<0 then
 some Bool.false
 else
 if heldSession0=markSession1.fst then
 some Bool.true
 else
 some Bool.false
 else
 some Bool.false
 else
 some Bool.false
 else
 some Bool.false
 else
 some Bool.false
 else
 some Bool.false
 else
 some Bool.false
 else
 some Bool.false
 else
 some Bool.false
def ZJ3:Ctr:=⟨[.dat (Jy)],[.dat (.bool)],fun a K=>splitK a fun a0 a=>YR (ZIW a0) fun r=>K (r,()) ()⟩
end
end Go.Proofs.YthkhedimjmkifaaGreatDoor
