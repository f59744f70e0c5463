/-
 The models of the functions and their contracts. Printed by program.
-/
import Derived.Test.YtpkjjgdhmafonaaGreatDoorSxTab
import Derived.Test.YtpkjjgdhmafonaaGreatDoorSxS0
import Derived.Test.YtpkjjgdhmafonaaGreatDoorSxLib
namespace Go.Proofs.YtpkjjgdhmafonaaGreatDoor
open Go Go.Sx
set_option maxRecDepth 100000
set_option maxHeartbeats 3200000
set_option linter.unusedVariables false
set_option linter.unusedSimpArgs false
noncomputable def laws_szPin (a0:TPin) (left0:Int):Option Int :=
 if IntKind.i64.wrap (left0-(↑(List.length (TPin.Name a0)):Int))<0 then
 some (-1)
 else
 some (IntKind.i64.wrap (left0-(↑(List.length (TPin.Name a0)):Int)))
noncomputable def c0:Ctr:=⟨[.dat (tPin),.dat (.int .i64)],[.dat (.int .i64)],fun a K=>splitK a fun a0 a=>splitK a fun left0 a=>BindP (laws_szPin a0 left0) fun r=>K (r,()) ()⟩
noncomputable def laws_szPinS_loop0 (a0:List TPin) (left1:Int) (i0:Int):Option ((Int×Int×Unit) ⊕ Int) :=
 if i0<(↑(List.length a0):Int) then
 (atI a0 i0).bind fun x0 =>
 (laws_szPin x0 left1).bind fun szPin0 =>
 if szPin0<0 then
 some (.inr (-1))
 else
 some (.inl (szPin0,IntKind.i64.wrap (i0+1),()))
 else
 some (.inr left1)
noncomputable def laws_szPinS (a0:List TPin) (left0:Int):Option Int :=
 if IntKind.i64.wrap (left0-(↑(List.length a0):Int))<0 then
 some (-1)
 else
 whileM (fun v=>laws_szPinS_loop0 a0 v.1 v.2.1) (IntKind.i64.wrap (left0-(↑(List.length a0):Int)),(0:Int),())
noncomputable def c1:Ctr:=⟨[.dat (.sl (tPin)),.dat (.int .i64)],[.dat (.int .i64)],fun a K=>splitK a fun a0 a=>splitK a fun left0 a=>BindP (laws_szPinS a0 left0) fun r=>K (r,()) ()⟩
noncomputable def laws_szInt64S (a0:List Int) (left0:Int):Option Int :=
 if IntKind.i64.wrap (left0-(↑(List.length a0):Int))<0 then
 some (-1)
 else
 some (IntKind.i64.wrap (left0-(↑(List.length a0):Int)))
noncomputable def c2:Ctr:=⟨[.dat (.sl (.int .i64)),.dat (.int .i64)],[.dat (.int .i64)],fun a K=>splitK a fun a0 a=>splitK a fun left0 a=>BindP (laws_szInt64S a0 left0) fun r=>K (r,()) ()⟩
noncomputable def laws_szTable (a0:TTable) (left0:Int):Option Int :=
 (laws_szInt64S (TTable.Slews a0) left0).bind fun szInt64S0 =>
 if szInt64S0<0 then
 some (-1)
 else
 (laws_szInt64S (TTable.Loads a0) szInt64S0).bind fun szInt64S1 =>
 if szInt64S1<0 then
 some (-1)
 else
 (laws_szInt64S (TTable.Values a0) szInt64S1).bind fun szInt64S2 =>
 if szInt64S2<0 then
 some (-1)
 else
 some szInt64S2
noncomputable def c3:Ctr:=⟨[.dat (tTable),.dat (.int .i64)],[.dat (.int .i64)],fun a K=>splitK a fun a0 a=>splitK a fun left0 a=>BindP (laws_szTable a0 left0) fun r=>K (r,()) ()⟩
noncomputable def laws_szTableS_loop0 (a0:List TTable) (left1:Int) (i0:Int):Option ((Int×Int×Unit) ⊕ Int) :=
 if i0<(↑(List.length a0):Int) then
 (atI a0 i0).bind fun x0 =>
 (laws_szTable x0 left1).bind fun szTable0 =>
 if szTable0<0 then
 some (.inr (-1))
 else
 some (.inl (szTable0,IntKind.i64.wrap (i0+1),()))
 else
 some (.inr left1)
noncomputable def laws_szTableS (a0:List TTable) (left0:Int):Option Int :=
 if IntKind.i64.wrap (left0-(↑(List.length a0):Int))<0 then
 some (-1)
 else
 whileM (fun v=>laws_szTableS_loop0 a0 v.1 v.2.1) (IntKind.i64.wrap (left0-(↑(List.length a0):Int)),(0:Int),())
noncomputable def c4:Ctr:=⟨[.dat (.sl (tTable)),.dat (.int .i64)],[.dat (.int .i64)],fun a K=>splitK a fun a0 a=>splitK a fun left0 a=>BindP (laws_szTableS a0 left0) fun r=>K (r,()) ()⟩
noncomputable def laws_szArc (a0:TArc) (left0:Int):Option Int :=
 (laws_szTableS (TArc.Delay a0) left0).bind fun szTableS0 =>
 if szTableS0<0 then
 some (-1)
 else
 (laws_szTableS (TArc.Slew a0) szTableS0).bind fun szTableS1 =>
 if szTableS1<0 then
 some (-1)
 else
 some szTableS1
noncomputable def c5:Ctr:=⟨[.dat (tArc),.dat (.int .i64)],[.dat (.int .i64)],fun a K=>splitK a fun a0 a=>splitK a fun left0 a=>BindP (laws_szArc a0 left0) fun r=>K (r,()) ()⟩
noncomputable def laws_szArcS_loop0 (a0:List TArc) (left1:Int) (i0:Int):Option ((Int×Int×Unit) ⊕ Int) :=
 if i0<(↑(List.length a0):Int) then
 (atI a0 i0).bind fun x0 =>
 (laws_szArc x0 left1).bind fun szArc0 =>
 if szArc0<0 then
 some (.inr (-1))
 else
 some (.inl (szArc0,IntKind.i64.wrap (i0+1),()))
 else
 some (.inr left1)
noncomputable def laws_szArcS (a0:List TArc) (left0:Int):Option Int :=
 if IntKind.i64.wrap (left0-(↑(List.length a0):Int))<0 then
 some (-1)
 else
 whileM (fun v=>laws_szArcS_loop0 a0 v.1 v.2.1) (IntKind.i64.wrap (left0-(↑(List.length a0):Int)),(0:Int),())
noncomputable def c6:Ctr:=⟨[.dat (.sl (tArc)),.dat (.int .i64)],[.dat (.int .i64)],fun a K=>splitK a fun a0 a=>splitK a fun left0 a=>BindP (laws_szArcS a0 left0) fun r=>K (r,()) ()⟩
noncomputable def laws_szCell (a0:TCell) (left0:Int):Option Int :=
 if IntKind.i64.wrap (left0-(↑(List.length (TCell.Name a0)):Int))<0 then
 some (-1)
 else
 (laws_szPinS (TCell.Pins a0) (IntKind.i64.wrap (left0-(↑(List.length (TCell.Name a0)):Int)))).bind fun szPinS0 =>
 if szPinS0<0 then
 some (-1)
 else
 (laws_szArcS (TCell.Arcs a0) szPinS0).bind fun szArcS0 =>
 if szArcS0<0 then
 some (-1)
 else
 (laws_szInt64S (TCell.Truth a0) szArcS0).bind fun szInt64S0 =>
 if szInt64S0<0 then
 some (-1)
 else
 some szInt64S0
noncomputable def c7:Ctr:=⟨[.dat (tCell),.dat (.int .i64)],[.dat (.int .i64)],fun a K=>splitK a fun a0 a=>splitK a fun left0 a=>BindP (laws_szCell a0 left0) fun r=>K (r,()) ()⟩
noncomputable def laws_szCellS_loop0 (a0:List TCell) (left1:Int) (i0:Int):Option ((Int×Int×Unit) ⊕ Int) :=
 if i0<(↑(List.length a0):Int) then
 (atI a0 i0).bind fun x0 =>
 (laws_szCell x0 left1).bind fun szCell0 =>
 if szCell0<0 then
 some (.inr (-1))
 else
 some (.inl (szCell0,IntKind.i64.wrap (i0+1),()))
 else
 some (.inr left1)
noncomputable def laws_szCellS (a0:List TCell) (left0:Int):Option Int :=
 if IntKind.i64.wrap (left0-(↑(List.length a0):Int))<0 then
 some (-1)
 else
 whileM (fun v=>laws_szCellS_loop0 a0 v.1 v.2.1) (IntKind.i64.wrap (left0-(↑(List.length a0):Int)),(0:Int),())
noncomputable def c8:Ctr:=⟨[.dat (.sl (tCell)),.dat (.int .i64)],[.dat (.int .i64)],fun a K=>splitK a fun a0 a=>splitK a fun left0 a=>BindP (laws_szCellS a0 left0) fun r=>K (r,()) ()⟩
noncomputable def laws_szLibrary (a0:TLibrary) (left0:Int):Option Int :=
 (laws_szCellS (TLibrary.Cells a0) left0).bind fun szCellS0 =>
 if szCellS0<0 then
 some (-1)
 else
 some szCellS0
noncomputable def c9:Ctr:=⟨[.dat (tLibrary),.dat (.int .i64)],[.dat (.int .i64)],fun a K=>splitK a fun a0 a=>splitK a fun left0 a=>BindP (laws_szLibrary a0 left0) fun r=>K (r,()) ()⟩
noncomputable def laws_szInstance (a0:TInstance) (left0:Int):Option Int :=
 if IntKind.i64.wrap (left0-(↑(List.length (TInstance.Name a0)):Int))<0 then
 some (-1)
 else
 (laws_szInt64S (TInstance.Nets a0) (IntKind.i64.wrap (left0-(↑(List.length (TInstance.Name a0)):Int)))).bind fun szInt64S0 =>
 if szInt64S0<0 then
 some (-1)
 else
 some szInt64S0
noncomputable def c10:Ctr:=⟨[.dat (tInstance),.dat (.int .i64)],[.dat (.int .i64)],fun a K=>splitK a fun a0 a=>splitK a fun left0 a=>BindP (laws_szInstance a0 left0) fun r=>K (r,()) ()⟩
noncomputable def laws_szInstanceS_loop0 (a0:List TInstance) (left1:Int) (i0:Int):Option ((Int×Int×Unit) ⊕ Int) :=
 if i0<(↑(List.length a0):Int) then
 (atI a0 i0).bind fun x0 =>
 (laws_szInstance x0 left1).bind fun szInstance0 =>
 if szInstance0<0 then
 some (.inr (-1))
 else
 some (.inl (szInstance0,IntKind.i64.wrap (i0+1),()))
 else
 some (.inr left1)
noncomputable def laws_szInstanceS (a0:List TInstance) (left0:Int):Option Int :=
 if IntKind.i64.wrap (left0-(↑(List.length a0):Int))<0 then
 some (-1)
 else
 whileM (fun v=>laws_szInstanceS_loop0 a0 v.1 v.2.1) (IntKind.i64.wrap (left0-(↑(List.length a0):Int)),(0:Int),())
noncomputable def c11:Ctr:=⟨[.dat (.sl (tInstance)),.dat (.int .i64)],[.dat (.int .i64)],fun a K=>splitK a fun a0 a=>splitK a fun left0 a=>BindP (laws_szInstanceS a0 left0) fun r=>K (r,()) ()⟩
noncomputable def laws_szStringS_loop0 (a0:List (List UInt8)) (left1:Int) (i0:Int):Option ((Int×Int×Unit) ⊕ Int) :=
 if i0<(↑(List.length a0):Int) then
 (atI a0 i0).bind fun x0 =>
 if IntKind.i64.wrap (left1-(↑(List.length x0):Int))<0 then
 some (.inr (-1))
 else
 some (.inl (IntKind.i64.wrap (left1-(↑(List.length x0):Int)),IntKind.i64.wrap (i0+1),()))
 else
 some (.inr left1)
noncomputable def laws_szStringS (a0:List (List UInt8)) (left0:Int):Option Int :=
 if IntKind.i64.wrap (left0-(↑(List.length a0):Int))<0 then
 some (-1)
 else
 whileM (fun v=>laws_szStringS_loop0 a0 v.1 v.2.1) (IntKind.i64.wrap (left0-(↑(List.length a0):Int)),(0:Int),())
noncomputable def c12:Ctr:=⟨[.dat (.sl (.str)),.dat (.int .i64)],[.dat (.int .i64)],fun a K=>splitK a fun a0 a=>splitK a fun left0 a=>BindP (laws_szStringS a0 left0) fun r=>K (r,()) ()⟩
noncomputable def laws_szPort (a0:TPort) (left0:Int):Option Int :=
 if IntKind.i64.wrap (left0-(↑(List.length (TPort.Name a0)):Int))<0 then
 some (-1)
 else
 some (IntKind.i64.wrap (left0-(↑(List.length (TPort.Name a0)):Int)))
noncomputable def c13:Ctr:=⟨[.dat (tPort),.dat (.int .i64)],[.dat (.int .i64)],fun a K=>splitK a fun a0 a=>splitK a fun left0 a=>BindP (laws_szPort a0 left0) fun r=>K (r,()) ()⟩
noncomputable def laws_szPortS_loop0 (a0:List TPort) (left1:Int) (i0:Int):Option ((Int×Int×Unit) ⊕ Int) :=
 if i0<(↑(List.length a0):Int) then
 (atI a0 i0).bind fun x0 =>
 (laws_szPort x0 left1).bind fun szPort0 =>
 if szPort0<0 then
 some (.inr (-1))
 else
 some (.inl (szPort0,IntKind.i64.wrap (i0+1),()))
 else
 some (.inr left1)
noncomputable def laws_szPortS (a0:List TPort) (left0:Int):Option Int :=
 if IntKind.i64.wrap (left0-(↑(List.length a0):Int))<0 then
 some (-1)
 else
 whileM (fun v=>laws_szPortS_loop0 a0 v.1 v.2.1) (IntKind.i64.wrap (left0-(↑(List.length a0):Int)),(0:Int),())
noncomputable def c14:Ctr:=⟨[.dat (.sl (tPort)),.dat (.int .i64)],[.dat (.int .i64)],fun a K=>splitK a fun a0 a=>splitK a fun left0 a=>BindP (laws_szPortS a0 left0) fun r=>K (r,()) ()⟩
noncomputable def laws_szDesign (a0:TDesign) (left0:Int):Option Int :=
 (laws_szInstanceS (TDesign.Instances a0) left0).bind fun szInstanceS0 =>
 if szInstanceS0<0 then
 some (-1)
 else
 (laws_szStringS (TDesign.Nets a0) szInstanceS0).bind fun szStringS0 =>
 if szStringS0<0 then
 some (-1)
 else
 (laws_szPortS (TDesign.Ports a0) szStringS0).bind fun szPortS0 =>
 if szPortS0<0 then
 some (-1)
 else
 some szPortS0
noncomputable def c15:Ctr:=⟨[.dat (tDesign),.dat (.int .i64)],[.dat (.int .i64)],fun a K=>splitK a fun a0 a=>splitK a fun left0 a=>BindP (laws_szDesign a0 left0) fun r=>K (r,()) ()⟩
noncomputable def laws_szWire (a0:TWire) (left0:Int):Option Int :=
 (laws_szInt64S (TWire.Parent a0) left0).bind fun szInt64S0 =>
 if szInt64S0<0 then
 some (-1)
 else
 (laws_szInt64S (TWire.Res a0) szInt64S0).bind fun szInt64S1 =>
 if szInt64S1<0 then
 some (-1)
 else
 (laws_szInt64S (TWire.Cap a0) szInt64S1).bind fun szInt64S2 =>
 if szInt64S2<0 then
 some (-1)
 else
 (laws_szInt64S (TWire.Sink a0) szInt64S2).bind fun szInt64S3 =>
 if szInt64S3<0 then
 some (-1)
 else
 some szInt64S3
noncomputable def c16:Ctr:=⟨[.dat (tWire),.dat (.int .i64)],[.dat (.int .i64)],fun a K=>splitK a fun a0 a=>splitK a fun left0 a=>BindP (laws_szWire a0 left0) fun r=>K (r,()) ()⟩
noncomputable def laws_szWireS_loop0 (a0:List TWire) (left1:Int) (i0:Int):Option ((Int×Int×Unit) ⊕ Int) :=
 if i0<(↑(List.length a0):Int) then
 (atI a0 i0).bind fun x0 =>
 (laws_szWire x0 left1).bind fun szWire0 =>
 if szWire0<0 then
 some (.inr (-1))
 else
 some (.inl (szWire0,IntKind.i64.wrap (i0+1),()))
 else
 some (.inr left1)
noncomputable def laws_szWireS (a0:List TWire) (left0:Int):Option Int :=
 if IntKind.i64.wrap (left0-(↑(List.length a0):Int))<0 then
 some (-1)
 else
 whileM (fun v=>laws_szWireS_loop0 a0 v.1 v.2.1) (IntKind.i64.wrap (left0-(↑(List.length a0):Int)),(0:Int),())
noncomputable def c17:Ctr:=⟨[.dat (.sl (tWire)),.dat (.int .i64)],[.dat (.int .i64)],fun a K=>splitK a fun a0 a=>splitK a fun left0 a=>BindP (laws_szWireS a0 left0) fun r=>K (r,()) ()⟩
noncomputable def laws_szBlock (a0:TBlock) (left0:Int):Option Int :=
 (laws_szLibrary (TBlock.Library a0) left0).bind fun szLibrary0 =>
 if szLibrary0<0 then
 some (-1)
 else
 (laws_szDesign (TBlock.Design a0) szLibrary0).bind fun szDesign0 =>
 if szDesign0<0 then
 some (-1)
 else
 (laws_szWireS (TBlock.Wires a0) szDesign0).bind fun szWireS0 =>
 if szWireS0<0 then
 some (-1)
 else
 some szWireS0
noncomputable def c18:Ctr:=⟨[.dat (tBlock),.dat (.int .i64)],[.dat (.int .i64)],fun a K=>splitK a fun a0 a=>splitK a fun left0 a=>BindP (laws_szBlock a0 left0) fun r=>K (r,()) ()⟩
noncomputable def laws_szEdit (a0:TEdit) (left0:Int):Option Int :=
 if IntKind.i64.wrap (left0-(↑(List.length (TEdit.Name a0)):Int))<0 then
 some (-1)
 else
 (laws_szWire (TEdit.Wire a0) (IntKind.i64.wrap (left0-(↑(List.length (TEdit.Name a0)):Int)))).bind fun szWire0 =>
 if szWire0<0 then
 some (-1)
 else
 some szWire0
noncomputable def c19:Ctr:=⟨[.dat (tEdit),.dat (.int .i64)],[.dat (.int .i64)],fun a K=>splitK a fun a0 a=>splitK a fun left0 a=>BindP (laws_szEdit a0 left0) fun r=>K (r,()) ()⟩
noncomputable def laws_toPin (a0:TPin):Option TPin :=
 some a0
noncomputable def c20:Ctr:=⟨[.dat (tPin)],[.dat (tPin)],fun a K=>splitK a fun a0 a=>BindP (laws_toPin a0) fun r=>K (r,()) ()⟩
noncomputable def laws_toPinS_loop0 (a0:List TPin) (i0:Int) (l0:List (List UInt8×Int×Int×Bool×Unit)):Option ((Int×(List (List UInt8×Int×Int×Bool×Unit))×Unit) ⊕ List TPin) :=
 if i0<(↑(List.length a0):Int) then
 (atI a0 i0).bind fun x0 =>
 (laws_toPin x0).bind fun toPin0 =>
 (atI l0 i0).bind fun x1 =>
 some (.inl (IntKind.i64.wrap (i0+1),List.set l0 (Int.toNat i0) toPin0,()))
 else
 some (.inr l0)
noncomputable def laws_toPinS (a0:List TPin):Option (List TPin) :=
 guardO ((0:Int)≤(↑(List.length a0):Int)) <|
 guardO ((↑(List.length a0):Int)≤(↑(List.length a0):Int)) <|
 guardO ((↑(List.length a0):Int)≤(4611686018427387904:Int)) <|
 guardO ((↑(40:Nat):Int)*(↑(List.length a0):Int)≤(281474976710656:Int)) <|
 whileM (fun v=>laws_toPinS_loop0 a0 v.1 v.2.1) ((0:Int),List.replicate (Int.toNat (↑(List.length a0):Int)) (([]:List UInt8),(0:Int),(0:Int),Bool.false,()),())
noncomputable def c21:Ctr:=⟨[.dat (.sl (tPin))],[.own (.ol 180 (.flat (tPin)))],fun a K=>splitK a fun a0 a=>BindP (laws_toPinS a0) fun r=>K (r,()) ()⟩
noncomputable def laws_toInt64S_loop0 (a0:List Int) (i0:Int) (l0:List Int):Option ((Int×(List Int)×Unit) ⊕ List Int) :=
 if i0<(↑(List.length a0):Int) then
 (atI a0 i0).bind fun x0 =>
 (atI l0 i0).bind fun x1 =>
 some (.inl (IntKind.i64.wrap (i0+1),List.set l0 (Int.toNat i0) x0,()))
 else
 some (.inr l0)
noncomputable def laws_toInt64S (a0:List Int):Option (List Int) :=
 guardO ((0:Int)≤(↑(List.length a0):Int)) <|
 guardO ((↑(List.length a0):Int)≤(↑(List.length a0):Int)) <|
 guardO ((↑(List.length a0):Int)≤(4611686018427387904:Int)) <|
 guardO ((↑(8:Nat):Int)*(↑(List.length a0):Int)≤(281474976710656:Int)) <|
 whileM (fun v=>laws_toInt64S_loop0 a0 v.1 v.2.1) ((0:Int),List.replicate (Int.toNat (↑(List.length a0):Int)) (0:Int),())
noncomputable def c22:Ctr:=⟨[.dat (.sl (.int .i64))],[.own (.ol 2 (.flat (.int .i64)))],fun a K=>splitK a fun a0 a=>BindP (laws_toInt64S a0) fun r=>K (r,()) ()⟩
noncomputable def laws_toTable (a0:TTable):Option TTable :=
 (laws_toInt64S (TTable.Slews a0)).bind fun toInt64S0 =>
 (laws_toInt64S (TTable.Loads a0)).bind fun toInt64S1 =>
 (laws_toInt64S (TTable.Values a0)).bind fun toInt64S2 =>
 some (toInt64S0,toInt64S1,toInt64S2,())
noncomputable def c23:Ctr:=⟨[.dat (tTable)],[.own (dTable)],fun a K=>splitK a fun a0 a=>BindP (laws_toTable a0) fun r=>K (r,()) ()⟩
noncomputable def laws_toTableS_loop0 (a0:List TTable) (i0:Int) (l0:List TTable):Option ((Int×(List TTable)×Unit) ⊕ List TTable) :=
 if i0<(↑(List.length a0):Int) then
 (atI a0 i0).bind fun x0 =>
 (laws_toTable x0).bind fun toTable0 =>
 (atI l0 i0).bind fun x1 =>
 some (.inl (IntKind.i64.wrap (i0+1),List.set l0 (Int.toNat i0) toTable0,()))
 else
 some (.inr l0)
noncomputable def laws_toTableS (a0:List TTable):Option (List TTable) :=
 guardO ((0:Int)≤(↑(List.length a0):Int)) <|
 guardO ((↑(List.length a0):Int)≤(↑(List.length a0):Int)) <|
 guardO ((↑(List.length a0):Int)≤(4611686018427387904:Int)) <|
 guardO ((↑(72:Nat):Int)*(↑(List.length a0):Int)≤(281474976710656:Int)) <|
 whileM (fun v=>laws_toTableS_loop0 a0 v.1 v.2.1) ((0:Int),List.replicate (Int.toNat (↑(List.length a0):Int)) (([]:List Int),([]:List Int),([]:List Int),()),())
noncomputable def c24:Ctr:=⟨[.dat (.sl (tTable))],[.own (.ol 227 (dTable))],fun a K=>splitK a fun a0 a=>BindP (laws_toTableS a0) fun r=>K (r,()) ()⟩
noncomputable def laws_toArc (a0:TArc):Option TArc :=
 (laws_toTableS (TArc.Delay a0)).bind fun toTableS0 =>
 (laws_toTableS (TArc.Slew a0)).bind fun toTableS1 =>
 some (TArc.Kind a0,TArc.From a0,TArc.To a0,TArc.Sense a0,toTableS0,toTableS1,())
noncomputable def c25:Ctr:=⟨[.dat (tArc)],[.own (dArc)],fun a K=>splitK a fun a0 a=>BindP (laws_toArc a0) fun r=>K (r,()) ()⟩
noncomputable def laws_toArcS_loop0 (a0:List TArc) (i0:Int) (l0:List TArc):Option ((Int×(List TArc)×Unit) ⊕ List TArc) :=
 if i0<(↑(List.length a0):Int) then
 (atI a0 i0).bind fun x0 =>
 (laws_toArc x0).bind fun toArc0 =>
 (atI l0 i0).bind fun x1 =>
 some (.inl (IntKind.i64.wrap (i0+1),List.set l0 (Int.toNat i0) toArc0,()))
 else
 some (.inr l0)
noncomputable def laws_toArcS (a0:List TArc):Option (List TArc) :=
 guardO ((0:Int)≤(↑(List.length a0):Int)) <|
 guardO ((↑(List.length a0):Int)≤(↑(List.length a0):Int)) <|
 guardO ((↑(List.length a0):Int)≤(4611686018427387904:Int)) <|
 guardO ((↑(80:Nat):Int)*(↑(List.length a0):Int)≤(281474976710656:Int)) <|
 whileM (fun v=>laws_toArcS_loop0 a0 v.1 v.2.1) ((0:Int),List.replicate (Int.toNat (↑(List.length a0):Int)) ((0:Int),(0:Int),(0:Int),(0:Int),([]:List TTable),([]:List TTable),()),())
noncomputable def c26:Ctr:=⟨[.dat (.sl (tArc))],[.own (.ol 200 (dArc))],fun a K=>splitK a fun a0 a=>BindP (laws_toArcS a0) fun r=>K (r,()) ()⟩
noncomputable def laws_toCell (a0:TCell):Option TCell :=
 (laws_toPinS (TCell.Pins a0)).bind fun toPinS0 =>
 (laws_toArcS (TCell.Arcs a0)).bind fun toArcS0 =>
 (laws_toInt64S (TCell.Truth a0)).bind fun toInt64S0 =>
 some (TCell.Name a0,TCell.Kind a0,toPinS0,toArcS0,toInt64S0,a0.snd.snd.snd.snd.snd)
noncomputable def c27:Ctr:=⟨[.dat (tCell)],[.own (dCell)],fun a K=>splitK a fun a0 a=>BindP (laws_toCell a0) fun r=>K (r,()) ()⟩
noncomputable def laws_toCellS_loop0 (a0:List TCell) (i0:Int) (l0:List TCell):Option ((Int×(List TCell)×Unit) ⊕ List TCell) :=
 if i0<(↑(List.length a0):Int) then
 (atI a0 i0).bind fun x0 =>
 (laws_toCell x0).bind fun toCell0 =>
 (atI l0 i0).bind fun x1 =>
 some (.inl (IntKind.i64.wrap (i0+1),List.set l0 (Int.toNat i0) toCell0,()))
 else
 some (.inr l0)
noncomputable def laws_toCellS (a0:List TCell):Option (List TCell) :=
 guardO ((0:Int)≤(↑(List.length a0):Int)) <|
 guardO ((↑(List.length a0):Int)≤(↑(List.length a0):Int)) <|
 guardO ((↑(List.length a0):Int)≤(4611686018427387904:Int)) <|
 guardO ((↑(112:Nat):Int)*(↑(List.length a0):Int)≤(281474976710656:Int)) <|
 whileM (fun v=>laws_toCellS_loop0 a0 v.1 v.2.1) ((0:Int),List.replicate (Int.toNat (↑(List.length a0):Int)) (([]:List UInt8),(0:Int),([]:List TPin),([]:List TArc),([]:List Int),(0:Int),(0:Int),()),())
noncomputable def c28:Ctr:=⟨[.dat (.sl (tCell))],[.own (.ol 150 (dCell))],fun a K=>splitK a fun a0 a=>BindP (laws_toCellS a0) fun r=>K (r,()) ()⟩
noncomputable def laws_toLibrary (a0:TLibrary):Option TLibrary :=
 (laws_toCellS (TLibrary.Cells a0)).bind fun toCellS0 =>
 some (toCellS0,())
noncomputable def c29:Ctr:=⟨[.dat (tLibrary)],[.own (dLibrary)],fun a K=>splitK a fun a0 a=>BindP (laws_toLibrary a0) fun r=>K (r,()) ()⟩
noncomputable def laws_toInstance (a0:TInstance):Option TInstance :=
 (laws_toInt64S (TInstance.Nets a0)).bind fun toInt64S0 =>
 some (TInstance.Name a0,TInstance.Cell a0,toInt64S0,())
noncomputable def c30:Ctr:=⟨[.dat (tInstance)],[.own (dInstance)],fun a K=>splitK a fun a0 a=>BindP (laws_toInstance a0) fun r=>K (r,()) ()⟩
noncomputable def laws_toInstanceS_loop0 (a0:List TInstance) (i0:Int) (l0:List TInstance):Option ((Int×(List TInstance)×Unit) ⊕ List TInstance) :=
 if i0<(↑(List.length a0):Int) then
 (atI a0 i0).bind fun x0 =>
 (laws_toInstance x0).bind fun toInstance0 =>
 (atI l0 i0).bind fun x1 =>
 some (.inl (IntKind.i64.wrap (i0+1),List.set l0 (Int.toNat i0) toInstance0,()))
 else
 some (.inr l0)
noncomputable def laws_toInstanceS (a0:List TInstance):Option (List TInstance) :=
 guardO ((0:Int)≤(↑(List.length a0):Int)) <|
 guardO ((↑(List.length a0):Int)≤(↑(List.length a0):Int)) <|
 guardO ((↑(List.length a0):Int)≤(4611686018427387904:Int)) <|
 guardO ((↑(48:Nat):Int)*(↑(List.length a0):Int)≤(281474976710656:Int)) <|
 whileM (fun v=>laws_toInstanceS_loop0 a0 v.1 v.2.1) ((0:Int),List.replicate (Int.toNat (↑(List.length a0):Int)) (([]:List UInt8),(0:Int),([]:List Int),()),())
noncomputable def c31:Ctr:=⟨[.dat (.sl (tInstance))],[.own (.ol 96 (dInstance))],fun a K=>splitK a fun a0 a=>BindP (laws_toInstanceS a0) fun r=>K (r,()) ()⟩
noncomputable def laws_toStringS_loop0 (a0:List (List UInt8)) (i0:Int) (l0:List (List UInt8)):Option ((Int×(List (List UInt8))×Unit) ⊕ List (List UInt8)) :=
 if i0<(↑(List.length a0):Int) then
 (atI a0 i0).bind fun x0 =>
 (atI l0 i0).bind fun x1 =>
 some (.inl (IntKind.i64.wrap (i0+1),List.set l0 (Int.toNat i0) x0,()))
 else
 some (.inr l0)
noncomputable def laws_toStringS (a0:List (List UInt8)):Option (List (List UInt8)) :=
 guardO ((0:Int)≤(↑(List.length a0):Int)) <|
 guardO ((↑(List.length a0):Int)≤(↑(List.length a0):Int)) <|
 guardO ((↑(List.length a0):Int)≤(4611686018427387904:Int)) <|
 guardO ((↑(16:Nat):Int)*(↑(List.length a0):Int)≤(281474976710656:Int)) <|
 whileM (fun v=>laws_toStringS_loop0 a0 v.1 v.2.1) ((0:Int),List.replicate (Int.toNat (↑(List.length a0):Int)) (([]:List UInt8)),())
noncomputable def c32:Ctr:=⟨[.dat (.sl (.str))],[.own (.ol 9 (.flat (.str)))],fun a K=>splitK a fun a0 a=>BindP (laws_toStringS a0) fun r=>K (r,()) ()⟩
noncomputable def laws_toPort (a0:TPort):Option TPort :=
 some a0
noncomputable def c33:Ctr:=⟨[.dat (tPort)],[.dat (tPort)],fun a K=>splitK a fun a0 a=>BindP (laws_toPort a0) fun r=>K (r,()) ()⟩
noncomputable def laws_toPortS_loop0 (a0:List TPort) (i0:Int) (l0:List (List UInt8×Int×Int×Unit)):Option ((Int×(List (List UInt8×Int×Int×Unit))×Unit) ⊕ List TPort) :=
 if i0<(↑(List.length a0):Int) then
 (atI a0 i0).bind fun x0 =>
 (laws_toPort x0).bind fun toPort0 =>
 (atI l0 i0).bind fun x1 =>
 some (.inl (IntKind.i64.wrap (i0+1),List.set l0 (Int.toNat i0) toPort0,()))
 else
 some (.inr l0)
noncomputable def laws_toPortS (a0:List TPort):Option (List TPort) :=
 guardO ((0:Int)≤(↑(List.length a0):Int)) <|
 guardO ((↑(List.length a0):Int)≤(↑(List.length a0):Int)) <|
 guardO ((↑(List.length a0):Int)≤(4611686018427387904:Int)) <|
 guardO ((↑(32:Nat):Int)*(↑(List.length a0):Int)≤(281474976710656:Int)) <|
 whileM (fun v=>laws_toPortS_loop0 a0 v.1 v.2.1) ((0:Int),List.replicate (Int.toNat (↑(List.length a0):Int)) (([]:List UInt8),(0:Int),(0:Int),()),())
noncomputable def c34:Ctr:=⟨[.dat (.sl (tPort))],[.own (.ol 154 (.flat (tPort)))],fun a K=>splitK a fun a0 a=>BindP (laws_toPortS a0) fun r=>K (r,()) ()⟩
noncomputable def laws_toDesign (a0:TDesign):Option TDesign :=
 (laws_toInstanceS (TDesign.Instances a0)).bind fun toInstanceS0 =>
 (laws_toStringS (TDesign.Nets a0)).bind fun toStringS0 =>
 (laws_toPortS (TDesign.Ports a0)).bind fun toPortS0 =>
 some (toInstanceS0,toStringS0,toPortS0,())
noncomputable def c35:Ctr:=⟨[.dat (tDesign)],[.own (dDesign)],fun a K=>splitK a fun a0 a=>BindP (laws_toDesign a0) fun r=>K (r,()) ()⟩
noncomputable def laws_toWire (a0:TWire):Option TWire :=
 (laws_toInt64S (TWire.Parent a0)).bind fun toInt64S0 =>
 (laws_toInt64S (TWire.Res a0)).bind fun toInt64S1 =>
 (laws_toInt64S (TWire.Cap a0)).bind fun toInt64S2 =>
 (laws_toInt64S (TWire.Sink a0)).bind fun toInt64S3 =>
 some (toInt64S0,toInt64S1,toInt64S2,toInt64S3,())
noncomputable def c36:Ctr:=⟨[.dat (tWire)],[.own (dWire)],fun a K=>splitK a fun a0 a=>BindP (laws_toWire a0) fun r=>K (r,()) ()⟩
noncomputable def laws_toWireS_loop0 (a0:List TWire) (i0:Int) (l0:List TWire):Option ((Int×(List TWire)×Unit) ⊕ List TWire) :=
 if i0<(↑(List.length a0):Int) then
 (atI a0 i0).bind fun x0 =>
 (laws_toWire x0).bind fun toWire0 =>
 (atI l0 i0).bind fun x1 =>
 some (.inl (IntKind.i64.wrap (i0+1),List.set l0 (Int.toNat i0) toWire0,()))
 else
 some (.inr l0)
noncomputable def laws_toWireS (a0:List TWire):Option (List TWire) :=
 guardO ((0:Int)≤(↑(List.length a0):Int)) <|
 guardO ((↑(List.length a0):Int)≤(↑(List.length a0):Int)) <|
 guardO ((↑(List.length a0):Int)≤(4611686018427387904:Int)) <|
 guardO ((↑(96:Nat):Int)*(↑(List.length a0):Int)≤(281474976710656:Int)) <|
 whileM (fun v=>laws_toWireS_loop0 a0 v.1 v.2.1) ((0:Int),List.replicate (Int.toNat (↑(List.length a0):Int)) (([]:List Int),([]:List Int),([]:List Int),([]:List Int),()),())
noncomputable def c37:Ctr:=⟨[.dat (.sl (tWire))],[.own (.ol 40 (dWire))],fun a K=>splitK a fun a0 a=>BindP (laws_toWireS a0) fun r=>K (r,()) ()⟩
noncomputable def laws_toBlock (a0:TBlock):Option TBlock :=
 (laws_toLibrary (TBlock.Library a0)).bind fun toLibrary0 =>
 (laws_toDesign (TBlock.Design a0)).bind fun toDesign0 =>
 (laws_toWireS (TBlock.Wires a0)).bind fun toWireS0 =>
 some (toLibrary0,toDesign0,toWireS0,())
noncomputable def c38:Ctr:=⟨[.dat (tBlock)],[.own (dBlock)],fun a K=>splitK a fun a0 a=>BindP (laws_toBlock a0) fun r=>K (r,()) ()⟩
noncomputable def laws_toEdit (a0:TEdit):Option TEdit :=
 (laws_toWire (TEdit.Wire a0)).bind fun toWire0 =>
 some (TEdit.Kind a0,TEdit.Place a0,TEdit.Cell a0,TEdit.Net a0,TEdit.Node a0,TEdit.Name a0,toWire0,())
noncomputable def c39:Ctr:=⟨[.dat (tEdit)],[.own (dEdit)],fun a K=>splitK a fun a0 a=>BindP (laws_toEdit a0) fun r=>K (r,()) ()⟩
noncomputable def spec_l03Name_loop0 (s0:List UInt8) (i0:Int):Option ((Int×Unit) ⊕ Bool) :=
 if i0<(↑(List.length s0):Int) then
 (atI s0 i0).bind fun x0 =>
 if 97≤(↑(UInt8.toNat x0):Int) then
 if 48≤(↑(UInt8.toNat x0):Int) then
 if (↑(UInt8.toNat x0):Int)≤122 then
 some (.inl (IntKind.i64.wrap (i0+1),()))
 else
 if (↑(UInt8.toNat x0):Int)≤57 then
 if 0<i0 then
 some (.inl (IntKind.i64.wrap (i0+1),()))
 else
 some (.inr Bool.false)
 else
 some (.inr Bool.false)
 else
 if (↑(UInt8.toNat x0):Int)≤122 then
 some (.inl (IntKind.i64.wrap (i0+1),()))
 else
 some (.inr Bool.false)
 else
 if 48≤(↑(UInt8.toNat x0):Int) then
 if (↑(UInt8.toNat x0):Int)≤57 then
 if 0<i0 then
 some (.inl (IntKind.i64.wrap (i0+1),()))
 else
 some (.inr Bool.false)
 else
 some (.inr Bool.false)
 else
 some (.inr Bool.false)
 else
 if 1≤(↑(List.length s0):Int) then
 some (.inr (Decidable.decide ((↑(List.length s0):Int)≤8)))
 else
 some (.inr Bool.false)
noncomputable def spec_l03Name (s0:List UInt8):Option Bool :=
 whileM (fun v=>spec_l03Name_loop0 s0 v.1) ((0:Int),())
noncomputable def c40:Ctr:=⟨[.dat (.str)],[.dat (.bool)],fun a K=>splitK a fun s0 a=>BindP (spec_l03Name s0) fun r=>K (r,()) ()⟩
noncomputable def spec_l01In (n0:Int) (low0:Int) (high0:Int):Option Bool :=
 if low0≤n0 then
 some (Decidable.decide (n0≤high0))
 else
 some Bool.false
noncomputable def c41:Ctr:=⟨[.dat (.int .i64),.dat (.int .i64),.dat (.int .i64)],[.dat (.bool)],fun a K=>splitK a fun n0 a=>splitK a fun low0 a=>splitK a fun high0 a=>BindP (spec_l01In n0 low0 high0) fun r=>K (r,()) ()⟩
noncomputable def spec_l03Pins_loop0 (a0:TCell) (v0:Int) (v1:Int) (x0:TPin) (v2:Int):Option ((Int×Unit) ⊕ ((Int×Int×Unit) ⊕ (Int×Bool))) :=
 if v2<v1 then
 (atI (TCell.Pins a0) v2).bind fun x1 =>
 if TPin.Name x1=TPin.Name x0 then
 some (.inr (.inr (0,Bool.false)))
 else
 some (.inl (IntKind.i64.wrap (v2+1),()))
 else
 (spec_l03Name (TPin.Name x0)).bind fun l03Name0 =>
 if l03Name0=true then
 (spec_l01In (TPin.Cap x0) 0 500).bind fun l01In0 =>
 if l01In0=true then
 if v1=IntKind.i64.wrap ((↑(List.length (TCell.Pins a0)):Int)-1) then
 if TPin.Dir x0=2 then
 if TPin.Cap x0=0 then
 if (TPin.Clock x0)=true then
 some (.inr (.inr (0,Bool.false)))
 else
 if v1<IntKind.i64.wrap ((↑(List.length (TCell.Pins a0)):Int)-1) then
 if TPin.Dir x0=1 then
 if (TPin.Clock x0)=true then
 some (.inr (.inl (IntKind.i64.wrap (v0+1),IntKind.i64.wrap (v1+1),())))
 else
 some (.inr (.inl (v0,IntKind.i64.wrap (v1+1),())))
 else
 some (.inr (.inr (0,Bool.false)))
 else
 if (TPin.Clock x0)=true then
 some (.inr (.inl (IntKind.i64.wrap (v0+1),IntKind.i64.wrap (v1+1),())))
 else
 some (.inr (.inl (v0,IntKind.i64.wrap (v1+1),())))
 else
 some (.inr (.inr (0,Bool.false)))
 else
 some (.inr (.inr (0,Bool.false)))
 else
 if v1<IntKind.i64.wrap ((↑(List.length (TCell.Pins a0)):Int)-1) then
 if TPin.Dir x0=1 then
 if (TPin.Clock x0)=true then
 some (.inr (.inl (IntKind.i64.wrap (v0+1),IntKind.i64.wrap (v1+1),())))
 else
 some (.inr (.inl (v0,IntKind.i64.wrap (v1+1),())))
 else
 some (.inr (.inr (0,Bool.false)))
 else
 if (TPin.Clock x0)=true then
 some (.inr (.inl (IntKind.i64.wrap (v0+1),IntKind.i64.wrap (v1+1),())))
 else
 some (.inr (.inl (v0,IntKind.i64.wrap (v1+1),())))
 else
 some (.inr (.inr (0,Bool.false)))
 else
 some (.inr (.inr (0,Bool.false)))
noncomputable def spec_l03Pins_loop1 (a0:TCell) (v0:Int) (v1:Int):Option ((Int×Int×Unit) ⊕ (Int×Bool)) :=
 if v1<(↑(List.length (TCell.Pins a0)):Int) then
 (atI (TCell.Pins a0) v1).bind fun x0 =>
 whileM (fun v=>spec_l03Pins_loop0 a0 v0 v1 x0 v.1) ((0:Int),())
 else
 some (.inr (v0,Bool.true))
noncomputable def spec_l03Pins (a0:TCell):Option (Int×Bool) :=
 if (↑(List.length (TCell.Pins a0)):Int)<2 then
 some (0,Bool.false)
 else
 if 5<(↑(List.length (TCell.Pins a0)):Int) then
 some (0,Bool.false)
 else
 whileM (fun v=>spec_l03Pins_loop1 a0 v.1 v.2.1) ((0:Int),(0:Int),())
noncomputable def c42:Ctr:=⟨[.dat (tCell)],[.dat (.int .i64),.dat (.bool)],fun a K=>splitK a fun a0 a=>BindP (spec_l03Pins a0) fun r=>K (r.1,r.2,()) ()⟩
noncomputable def spec_l02Axis_loop0 (list0:List Int) (i0:Int):Option ((Int×Unit) ⊕ Bool) :=
 if i0<(↑(List.length list0):Int) then
 (atI list0 i0).bind fun x0 =>
 (spec_l01In x0 0 100000).bind fun l01In0 =>
 if l01In0=true then
 if 0<i0 then
 (atI list0 (IntKind.i64.wrap (i0-1))).bind fun x1 =>
 if x0≤x1 then
 some (.inr Bool.false)
 else
 some (.inl (IntKind.i64.wrap (i0+1),()))
 else
 some (.inl (IntKind.i64.wrap (i0+1),()))
 else
 some (.inr Bool.false)
 else
 if 1≤(↑(List.length list0):Int) then
 some (.inr (Decidable.decide ((↑(List.length list0):Int)≤4)))
 else
 some (.inr Bool.false)
noncomputable def spec_l02Axis (list0:List Int):Option Bool :=
 whileM (fun v=>spec_l02Axis_loop0 list0 v.1) ((0:Int),())
noncomputable def c43:Ctr:=⟨[.dat (.sl (.int .i64))],[.dat (.bool)],fun a K=>splitK a fun list0 a=>BindP (spec_l02Axis list0) fun r=>K (r,()) ()⟩
noncomputable def spec_IsTable_loop0 (t0:TTable) (i0:Int):Option ((Int×Unit) ⊕ Bool) :=
 if i0<(↑(List.length (TTable.Values t0)):Int) then
 (atI (TTable.Values t0) i0).bind fun x0 =>
 (spec_l01In x0 (-1000000) 1000000).bind fun l01In0 =>
 if l01In0=true then
 some (.inl (IntKind.i64.wrap (i0+1),()))
 else
 some (.inr Bool.false)
 else
 some (.inr Bool.true)
noncomputable def spec_IsTable (t0:TTable):Option Bool :=
 (spec_l02Axis (TTable.Slews t0)).bind fun l02Axis0 =>
 if l02Axis0=true then
 (spec_l02Axis (TTable.Loads t0)).bind fun l02Axis1 =>
 if l02Axis1=true then
 if (↑(List.length (TTable.Values t0)):Int)=IntKind.i64.wrap ((↑(List.length (TTable.Slews t0)):Int)*(↑(List.length (TTable.Loads t0)):Int)) then
 whileM (fun v=>spec_IsTable_loop0 t0 v.1) ((0:Int),())
 else
 some Bool.false
 else
 some Bool.false
 else
 some Bool.false
noncomputable def c44:Ctr:=⟨[.dat (tTable)],[.dat (.bool)],fun a K=>splitK a fun t0 a=>BindP (spec_IsTable t0) fun r=>K (r,()) ()⟩
noncomputable def spec_TableBounds_loop0 (t0:TTable) (i0:Int) (c0:Int) (c1:Int):Option ((Int×Int×Int×Unit) ⊕ (TSpan×Int)) :=
 if i0<(↑(List.length (TTable.Values t0)):Int) then
 (atI (TTable.Values t0) i0).bind fun x1 =>
 some (.inl (IntKind.i64.wrap (i0+1),Min.min c0 x1,Max.max c1 x1,()))
 else
 some (.inr ((c0,c1,()),0))
noncomputable def spec_TableBounds (t0:TTable):Option (TSpan×Int) :=
 (spec_IsTable t0).bind fun IsTable0 =>
 if IsTable0=true then
 (atI (TTable.Values t0) 0).bind fun x0 =>
 whileM (fun v=>spec_TableBounds_loop0 t0 v.1 v.2.1 v.2.2.1) ((1:Int),x0,x0,())
 else
 some ((0,0,()),1)
noncomputable def c45:Ctr:=⟨[.dat (tTable)],[.dat (tSpan),.dat (.int .i64)],fun a K=>splitK a fun t0 a=>BindP (spec_TableBounds t0) fun r=>K (r.1,r.2,()) ()⟩
noncomputable def spec_l03Tables_loop0 (list0:List TTable) (positive0:Bool) (i0:Int):Option ((Int×Unit) ⊕ Bool) :=
 if i0<2 then
 (atI list0 i0).bind fun x0 =>
 (spec_TableBounds x0).bind fun TableBounds0 =>
 if TableBounds0.snd=0 then
 if positive0=true then
 if TableBounds0.fst.fst<0 then
 some (.inr Bool.false)
 else
 some (.inl (IntKind.i64.wrap (i0+1),()))
 else
 some (.inl (IntKind.i64.wrap (i0+1),()))
 else
 some (.inr Bool.false)
 else
 some (.inr Bool.true)
noncomputable def spec_l03Tables (list0:List TTable) (positive0:Bool):Option Bool :=
 if (↑(List.length list0):Int)=2 then
 whileM (fun v=>spec_l03Tables_loop0 list0 positive0 v.1) ((0:Int),())
 else
 some Bool.false
noncomputable def c46:Ctr:=⟨[.dat (.sl (tTable)),.dat (.bool)],[.dat (.bool)],fun a K=>splitK a fun list0 a=>splitK a fun positive0 a=>BindP (spec_l03Tables list0 positive0) fun r=>K (r,()) ()⟩
noncomputable def spec_l03Arc (a0:TCell) (a1:TArc):Option Bool :=
 (spec_l01In (TArc.From a1) 0 (IntKind.i64.wrap (IntKind.i64.wrap ((↑(List.length (TCell.Pins a0)):Int)-1)-1))).bind fun l01In0 =>
 if l01In0=true then
 (spec_l01In (TArc.To a1) 0 (IntKind.i64.wrap ((↑(List.length (TCell.Pins a0)):Int)-1))).bind fun l01In1 =>
 if l01In1=true then
 (atI (TCell.Pins a0) (TArc.From a1)).bind fun x0 =>
 if TArc.Kind a1=1 then
 if (TPin.Clock x0)=true then
 some Bool.false
 else
 if TArc.To a1=IntKind.i64.wrap ((↑(List.length (TCell.Pins a0)):Int)-1) then
 (spec_l01In (TArc.Sense a1) 1 3).bind fun l01In2 =>
 if l01In2=true then
 (spec_l03Tables (TArc.Delay a1) Bool.true).bind fun l03Tables0 =>
 if l03Tables0=true then
 (spec_l03Tables (TArc.Slew a1) Bool.true).bind fun l03Tables1 =>
 some l03Tables1
 else
 some Bool.false
 else
 some Bool.false
 else
 some Bool.false
 else
 if TArc.Kind a1=2 then
 if TArc.Kind a1=2 then
 if (TPin.Clock x0)=true then
 if TArc.To a1=IntKind.i64.wrap ((↑(List.length (TCell.Pins a0)):Int)-1) then
 if TArc.Sense a1=0 then
 (spec_l03Tables (TArc.Delay a1) Bool.true).bind fun l03Tables0 =>
 if l03Tables0=true then
 (spec_l03Tables (TArc.Slew a1) Bool.true).bind fun l03Tables1 =>
 some l03Tables1
 else
 some Bool.false
 else
 some Bool.false
 else
 some Bool.false
 else
 some Bool.false
 else
 if TArc.Kind a1=4 then
 if TArc.Kind a1=4 then
 if (TPin.Clock x0)=true then
 if TArc.To a1<IntKind.i64.wrap ((↑(List.length (TCell.Pins a0)):Int)-1) then
 (atI (TCell.Pins a0) (TArc.To a1)).bind fun x1 =>
 if (TPin.Clock x1)=true then
 some Bool.false
 else
 if TArc.Sense a1=0 then
 (spec_l03Tables (TArc.Delay a1) Bool.false).bind fun l03Tables0 =>
 if l03Tables0=true then
 some (Decidable.decide ((↑(List.length (TArc.Slew a1)):Int)=0))
 else
 some Bool.false
 else
 some Bool.false
 else
 some Bool.false
 else
 some Bool.false
 else
 some Bool.false
 else
 if TArc.Kind a1=5 then
 if (TPin.Clock x0)=true then
 if TArc.To a1<IntKind.i64.wrap ((↑(List.length (TCell.Pins a0)):Int)-1) then
 (atI (TCell.Pins a0) (TArc.To a1)).bind fun x1 =>
 if (TPin.Clock x1)=true then
 some Bool.false
 else
 if TArc.Sense a1=0 then
 (spec_l03Tables (TArc.Delay a1) Bool.false).bind fun l03Tables0 =>
 if l03Tables0=true then
 some (Decidable.decide ((↑(List.length (TArc.Slew a1)):Int)=0))
 else
 some Bool.false
 else
 some Bool.false
 else
 some Bool.false
 else
 some Bool.false
 else
 some Bool.false
 else
 if TArc.Kind a1=3 then
 if (TPin.Clock x0)=true then
 if TArc.To a1=IntKind.i64.wrap ((↑(List.length (TCell.Pins a0)):Int)-1) then
 if TArc.Sense a1=0 then
 (spec_l03Tables (TArc.Delay a1) Bool.true).bind fun l03Tables0 =>
 if l03Tables0=true then
 (spec_l03Tables (TArc.Slew a1) Bool.true).bind fun l03Tables1 =>
 some l03Tables1
 else
 some Bool.false
 else
 some Bool.false
 else
 some Bool.false
 else
 some Bool.false
 else
 if TArc.Kind a1=4 then
 if TArc.Kind a1=4 then
 if (TPin.Clock x0)=true then
 if TArc.To a1<IntKind.i64.wrap ((↑(List.length (TCell.Pins a0)):Int)-1) then
 (atI (TCell.Pins a0) (TArc.To a1)).bind fun x1 =>
 if (TPin.Clock x1)=true then
 some Bool.false
 else
 if TArc.Sense a1=0 then
 (spec_l03Tables (TArc.Delay a1) Bool.false).bind fun l03Tables0 =>
 if l03Tables0=true then
 some (Decidable.decide ((↑(List.length (TArc.Slew a1)):Int)=0))
 else
 some Bool.false
 else
 some Bool.false
 else
 some Bool.false
 else
 some Bool.false
 else
 some Bool.false
 else
 if TArc.Kind a1=5 then
 if (TPin.Clock x0)=true then
 if TArc.To a1<IntKind.i64.wrap ((↑(List.length (TCell.Pins a0)):Int)-1) then
 (atI (TCell.Pins a0) (TArc.To a1)).bind fun x1 =>
 if (TPin.Clock x1)=true then
 some Bool.false
 else
 if TArc.Sense a1=0 then
 (spec_l03Tables (TArc.Delay a1) Bool.false).bind fun l03Tables0 =>
 if l03Tables0=true then
 some (Decidable.decide ((↑(List.length (TArc.Slew a1)):Int)=0))
 else
 some Bool.false
 else
 some Bool.false
 else
 some Bool.false
 else
 some Bool.false
 else
 some Bool.false
 else
 some Bool.false
 else
 some Bool.false
noncomputable def c47:Ctr:=⟨[.dat (tCell),.dat (tArc)],[.dat (.bool)],fun a K=>splitK a fun a0 a=>splitK a fun a1 a=>BindP (spec_l03Arc a0 a1) fun r=>K (r,()) ()⟩
noncomputable def spec_l03Kinds_loop0 (c0:TCell) (i0:Int) (l0:List Int):Option ((Int×(List Int)×Unit) ⊕ List Int) :=
 if i0<(↑(List.length (TCell.Arcs c0)):Int) then
 (atI (TCell.Arcs c0) i0).bind fun x0 =>
 (atI l0 (TArc.Kind x0)).bind fun x1 =>
 some (.inl (IntKind.i64.wrap (i0+1),List.set l0 (Int.toNat (TArc.Kind x0)) (IntKind.i64.wrap (x1+1)),()))
 else
 some (.inr l0)
noncomputable def spec_l03Kinds (c0:TCell):Option (List Int) :=
 whileM (fun v=>spec_l03Kinds_loop0 c0 v.1 v.2.1) ((0:Int),List.replicate (Int.toNat (6:Int)) (0:Int),())
noncomputable def c48:Ctr:=⟨[.dat (tCell)],[.own (.ol 2 (.flat (.int .i64)))],fun a K=>splitK a fun c0 a=>BindP (spec_l03Kinds c0) fun r=>K (r,()) ()⟩
noncomputable def spec_IsCell_loop0 (a0:TCell) (v0:Int) (x0:TArc) (v1:Int):Option ((Int×Unit) ⊕ ((Int×Unit) ⊕ Bool)) :=
 if v1<v0 then
 (atI (TCell.Arcs a0) v1).bind fun x1 =>
 if TArc.Kind x1=TArc.Kind x0 then
 if TArc.From x1=TArc.From x0 then
 if TArc.To x1=TArc.To x0 then
 some (.inr (.inr Bool.false))
 else
 some (.inl (IntKind.i64.wrap (v1+1),()))
 else
 some (.inl (IntKind.i64.wrap (v1+1),()))
 else
 some (.inl (IntKind.i64.wrap (v1+1),()))
 else
 some (.inr (.inl (IntKind.i64.wrap (v0+1),())))
noncomputable def spec_IsCell_loop1 (a0:TCell) (l03Pins0:Int×Bool) (v1:Int):Option ((Int×Unit) ⊕ ((Int×Unit) ⊕ Bool)) :=
 if v1<(↑(List.length (TCell.Truth a0)):Int) then
 (atI (TCell.Truth a0) v1).bind fun x0 =>
 (spec_l01In x0 0 1).bind fun l01In2 =>
 if l01In2=true then
 some (.inl (IntKind.i64.wrap (v1+1),()))
 else
 some (.inr (.inr Bool.false))
 else
 if l03Pins0.fst=0 then
 guardO ((0:Int)≤IntKind.wrap IntKind.u64 (IntKind.i64.wrap ((↑(List.length (TCell.Pins a0)):Int)-(1:Int)))) <|
 some (.inr (.inr (Decidable.decide ((↑(List.length (TCell.Truth a0)):Int)=IntKind.i64.wrap (1*2 ^ Min.min (Int.toNat (IntKind.wrap IntKind.u64 (IntKind.i64.wrap ((↑(List.length (TCell.Pins a0)):Int)-1)))) (IntKind.bits IntKind.i64))))))
 else
 some (.inr (.inr Bool.false))
noncomputable def spec_IsCell_loop2 (a0:TCell) (l03Pins0:Int×Bool) (v0:Int):Option ((Int×Unit) ⊕ Bool) :=
 if v0<(↑(List.length (TCell.Arcs a0)):Int) then
 (atI (TCell.Arcs a0) v0).bind fun x0 =>
 (spec_l03Arc a0 x0).bind fun l03Arc0 =>
 if l03Arc0=true then
 whileM (fun v=>spec_IsCell_loop0 a0 v0 x0 v.1) ((0:Int),())
 else
 some (.inr Bool.false)
 else
 (spec_l03Kinds a0).bind fun l03Kinds0 =>
 if TCell.Kind a0=1 then
 whileM (fun v=>spec_IsCell_loop1 a0 l03Pins0 v.1) ((0:Int),())
 else
 if TCell.Kind a0=2 then
 if l03Pins0.fst=1 then
 (atI l03Kinds0 1).bind fun x0 =>
 if x0=0 then
 (atI l03Kinds0 2).bind fun x1 =>
 (atI l03Kinds0 3).bind fun x2 =>
 if (Decidable.decide (0<x1) == Decidable.decide (0<x2))=true then
 some (.inr Bool.false)
 else
 some (.inr (Decidable.decide ((↑(List.length (TCell.Truth a0)):Int)=0)))
 else
 some (.inr Bool.false)
 else
 some (.inr Bool.false)
 else
 if TCell.Kind a0=3 then
 if l03Pins0.fst=1 then
 (atI l03Kinds0 1).bind fun x0 =>
 if 0<x0 then
 (atI l03Kinds0 2).bind fun x1 =>
 if 0<x1 then
 (atI l03Kinds0 3).bind fun x2 =>
 if x2=0 then
 some (.inr (Decidable.decide ((↑(List.length (TCell.Truth a0)):Int)=0)))
 else
 some (.inr Bool.false)
 else
 some (.inr Bool.false)
 else
 some (.inr Bool.false)
 else
 some (.inr Bool.false)
 else
 some (.inr Bool.false)
noncomputable def spec_IsCell (a0:TCell):Option Bool :=
 (spec_l03Pins a0).bind fun l03Pins0 =>
 if l03Pins0.snd=true then
 (spec_l03Name (TCell.Name a0)).bind fun l03Name0 =>
 if l03Name0=true then
 if 8<(↑(List.length (TCell.Arcs a0)):Int) then
 some Bool.false
 else
 (spec_l01In (TCell.Leak a0) 0 100000).bind fun l01In0 =>
 if l01In0=true then
 (spec_l01In (TCell.Energy a0) 0 100000).bind fun l01In1 =>
 if l01In1=true then
 whileM (fun v=>spec_IsCell_loop2 a0 l03Pins0 v.1) ((0:Int),())
 else
 some Bool.false
 else
 some Bool.false
 else
 some Bool.false
 else
 some Bool.false
noncomputable def c49:Ctr:=⟨[.dat (tCell)],[.dat (.bool)],fun a K=>splitK a fun a0 a=>BindP (spec_IsCell a0) fun r=>K (r,()) ()⟩
noncomputable def spec_IsLibrary_loop0 (l0:TLibrary) (i0:Int) (x0:TCell) (k0:Int):Option ((Int×Unit) ⊕ ((Int×Unit) ⊕ Bool)) :=
 if k0<i0 then
 (atI (TLibrary.Cells l0) k0).bind fun x1 =>
 if TCell.Name x1=TCell.Name x0 then
 some (.inr (.inr Bool.false))
 else
 some (.inl (IntKind.i64.wrap (k0+1),()))
 else
 some (.inr (.inl (IntKind.i64.wrap (i0+1),())))
noncomputable def spec_IsLibrary_loop1 (l0:TLibrary) (i0:Int):Option ((Int×Unit) ⊕ Bool) :=
 if i0<(↑(List.length (TLibrary.Cells l0)):Int) then
 (atI (TLibrary.Cells l0) i0).bind fun x0 =>
 (spec_IsCell x0).bind fun IsCell0 =>
 if IsCell0=true then
 whileM (fun v=>spec_IsLibrary_loop0 l0 i0 x0 v.1) ((0:Int),())
 else
 some (.inr Bool.false)
 else
 some (.inr (Decidable.decide ((↑(List.length (TLibrary.Cells l0)):Int)≤8)))
noncomputable def spec_IsLibrary (l0:TLibrary):Option Bool :=
 whileM (fun v=>spec_IsLibrary_loop1 l0 v.1) ((0:Int),())
noncomputable def c50:Ctr:=⟨[.dat (tLibrary)],[.dat (.bool)],fun a K=>splitK a fun l0 a=>BindP (spec_IsLibrary l0) fun r=>K (r,()) ()⟩
noncomputable def spec_l05Parts_loop0 (a1:TDesign) (v0:Int) (x0:TInstance) (v1:Int):Option ((Int×Unit) ⊕ ((Int×Unit) ⊕ Bool)) :=
 if v1<(↑(List.length (TInstance.Nets x0)):Int) then
 (atI (TInstance.Nets x0) v1).bind fun x2 =>
 (spec_l01In x2 0 (IntKind.i64.wrap ((↑(List.length (TDesign.Nets a1)):Int)-1))).bind fun l01In1 =>
 if l01In1=true then
 some (.inl (IntKind.i64.wrap (v1+1),()))
 else
 some (.inr (.inr Bool.false))
 else
 some (.inr (.inl (IntKind.i64.wrap (v0+1),())))
noncomputable def spec_l05Parts_loop1 (a1:TDesign) (v1:Int):Option ((Int×Unit) ⊕ ((Int×Unit) ⊕ Bool)) :=
 if v1<(↑(List.length (TDesign.Ports a1)):Int) then
 (atI (TDesign.Ports a1) v1).bind fun x0 =>
 (spec_l01In (TPort.Dir x0) 1 2).bind fun l01In0 =>
 if l01In0=true then
 (spec_l01In (TPort.Net x0) 0 (IntKind.i64.wrap ((↑(List.length (TDesign.Nets a1)):Int)-1))).bind fun l01In1 =>
 if l01In1=true then
 some (.inl (IntKind.i64.wrap (v1+1),()))
 else
 some (.inr (.inr Bool.false))
 else
 some (.inr (.inr Bool.false))
 else
 some (.inr (.inr Bool.true))
noncomputable def spec_l05Parts_loop2 (a0:TLibrary) (a1:TDesign) (v0:Int):Option ((Int×Unit) ⊕ Bool) :=
 if v0<(↑(List.length (TDesign.Instances a1)):Int) then
 (atI (TDesign.Instances a1) v0).bind fun x0 =>
 (spec_l01In (TInstance.Cell x0) 0 (IntKind.i64.wrap ((↑(List.length (TLibrary.Cells a0)):Int)-1))).bind fun l01In0 =>
 if l01In0=true then
 (atI (TLibrary.Cells a0) (TInstance.Cell x0)).bind fun x1 =>
 if (↑(List.length (TInstance.Nets x0)):Int)=(↑(List.length (TCell.Pins x1)):Int) then
 whileM (fun v=>spec_l05Parts_loop0 a1 v0 x0 v.1) ((0:Int),())
 else
 some (.inr Bool.false)
 else
 some (.inr Bool.false)
 else
 whileM (fun v=>spec_l05Parts_loop1 a1 v.1) ((0:Int),())
noncomputable def spec_l05Parts (a0:TLibrary) (a1:TDesign):Option Bool :=
 whileM (fun v=>spec_l05Parts_loop2 a0 a1 v.1) ((0:Int),())
noncomputable def c51:Ctr:=⟨[.dat (tLibrary),.dat (tDesign)],[.dat (.bool)],fun a K=>splitK a fun a0 a=>splitK a fun a1 a=>BindP (spec_l05Parts a0 a1) fun r=>K (r,()) ()⟩
noncomputable def spec_l05Names_loop0 (list0:List (List UInt8)) (i0:Int) (x0:List UInt8) (k0:Int):Option ((Int×Unit) ⊕ ((Int×Unit) ⊕ Bool)) :=
 if k0<i0 then
 (atI list0 k0).bind fun x1 =>
 if x1=x0 then
 some (.inr (.inr Bool.false))
 else
 some (.inl (IntKind.i64.wrap (k0+1),()))
 else
 some (.inr (.inl (IntKind.i64.wrap (i0+1),())))
noncomputable def spec_l05Names_loop1 (list0:List (List UInt8)) (i0:Int):Option ((Int×Unit) ⊕ Bool) :=
 if i0<(↑(List.length list0):Int) then
 (atI list0 i0).bind fun x0 =>
 (spec_l03Name x0).bind fun l03Name0 =>
 if l03Name0=true then
 whileM (fun v=>spec_l05Names_loop0 list0 i0 x0 v.1) ((0:Int),())
 else
 some (.inr Bool.false)
 else
 some (.inr Bool.true)
noncomputable def spec_l05Names (list0:List (List UInt8)):Option Bool :=
 whileM (fun v=>spec_l05Names_loop1 list0 v.1) ((0:Int),())
noncomputable def c52:Ctr:=⟨[.dat (.sl (.str))],[.dat (.bool)],fun a K=>splitK a fun list0 a=>BindP (spec_l05Names list0) fun r=>K (r,()) ()⟩
noncomputable def spec_IsDesign_loop0 (l1:List Int) (v6:Int):Option ((Int×Unit) ⊕ ((Int×(List Int)×Unit) ⊕ ((Int×(List Int)×Unit) ⊕ (((List (List UInt8))×Int×Unit) ⊕ (((List (List UInt8))×Int×Unit) ⊕ Bool))))) :=
 if v6<(↑(List.length l1):Int) then
 (atI l1 v6).bind fun x0 =>
 if x0=1 then
 some (.inl (IntKind.i64.wrap (v6+1),()))
 else
 some (.inr (.inr (.inr (.inr (.inr Bool.false)))))
 else
 some (.inr (.inr (.inr (.inr (.inr Bool.true)))))
noncomputable def spec_IsDesign_loop1 (a1:TDesign) (v5:Int) (l1:List Int):Option ((Int×(List Int)×Unit) ⊕ ((Int×(List Int)×Unit) ⊕ (((List (List UInt8))×Int×Unit) ⊕ (((List (List UInt8))×Int×Unit) ⊕ Bool)))) :=
 if v5<(↑(List.length (TDesign.Ports a1)):Int) then
 (atI (TDesign.Ports a1) v5).bind fun x0 =>
 if TPort.Dir x0=1 then
 (atI l1 (TPort.Net x0)).bind fun x1 =>
 some (.inl (IntKind.i64.wrap (v5+1),List.set l1 (Int.toNat (TPort.Net x0)) (IntKind.i64.wrap (x1+1)),()))
 else
 some (.inl (IntKind.i64.wrap (v5+1),l1,()))
 else
 whileM (fun v=>spec_IsDesign_loop0 l1 v.1) ((0:Int),())
noncomputable def spec_IsDesign_loop2 (a1:TDesign) (v4:Int) (l0:List Int):Option ((Int×(List Int)×Unit) ⊕ (((List (List UInt8))×Int×Unit) ⊕ (((List (List UInt8))×Int×Unit) ⊕ Bool))) :=
 if v4<(↑(List.length (TDesign.Instances a1)):Int) then
 (atI (TDesign.Instances a1) v4).bind fun x0 =>
 (atI (TInstance.Nets x0) (IntKind.i64.wrap ((↑(List.length (TInstance.Nets x0)):Int)-1))).bind fun x1 =>
 (atI l0 x1).bind fun x2 =>
 some (.inl (IntKind.i64.wrap (v4+1),List.set l0 (Int.toNat x1) (IntKind.i64.wrap (x2+1)),()))
 else
 whileM (fun v=>spec_IsDesign_loop1 a1 v.1 v.2.1) ((0:Int),l0,())
noncomputable def spec_IsDesign_loop3 (a1:TDesign) (v0:List (List UInt8)) (v2:List (List UInt8)) (v3:Int):Option (((List (List UInt8))×Int×Unit) ⊕ (((List (List UInt8))×Int×Unit) ⊕ Bool)) :=
 if v3<(↑(List.length (TDesign.Ports a1)):Int) then
 (atI (TDesign.Ports a1) v3).bind fun x0 =>
 guardO ((List.length v2+List.length [TPort.Name x0])*(16:Nat)≤(140737488355328:Nat)) <|
 some (.inl (v2++[TPort.Name x0],IntKind.i64.wrap (v3+(1:Int)),()))
 else
 (spec_l05Names v0).bind fun l05Names0 =>
 if l05Names0=true then
 (spec_l05Names v2).bind fun l05Names1 =>
 if l05Names1=true then
 (spec_l05Names (TDesign.Nets a1)).bind fun l05Names2 =>
 if l05Names2=true then
 guardO ((0:Int)≤(↑(List.length (TDesign.Nets a1)):Int)) <|
 guardO ((↑(List.length (TDesign.Nets a1)):Int)≤(↑(List.length (TDesign.Nets a1)):Int)) <|
 guardO ((↑(List.length (TDesign.Nets a1)):Int)≤(4611686018427387904:Int)) <|
 guardO ((↑(8:Nat):Int)*(↑(List.length (TDesign.Nets a1)):Int)≤(281474976710656:Int)) <|
 whileM (fun v=>spec_IsDesign_loop2 a1 v.1 v.2.1) ((0:Int),List.replicate (Int.toNat (↑(List.length (TDesign.Nets a1)):Int)) (0:Int),())
 else
 some (.inr (.inr Bool.false))
 else
 some (.inr (.inr Bool.false))
 else
 some (.inr (.inr Bool.false))
noncomputable def spec_IsDesign_loop4 (a1:TDesign) (v0:List (List UInt8)) (v1:Int):Option (((List (List UInt8))×Int×Unit) ⊕ Bool) :=
 if v1<(↑(List.length (TDesign.Instances a1)):Int) then
 (atI (TDesign.Instances a1) v1).bind fun x0 =>
 guardO ((List.length v0+List.length [TInstance.Name x0])*(16:Nat)≤(140737488355328:Nat)) <|
 some (.inl (v0++[TInstance.Name x0],IntKind.i64.wrap (v1+(1:Int)),()))
 else
 whileM (fun v=>spec_IsDesign_loop3 a1 v0 v.1 v.2.1) (([]:List (List UInt8)),(0:Int),())
noncomputable def spec_IsDesign (a0:TLibrary) (a1:TDesign):Option Bool :=
 (spec_IsLibrary a0).bind fun IsLibrary0 =>
 if IsLibrary0=true then
 if 14<(↑(List.length (TDesign.Instances a1)):Int) then
 some Bool.false
 else
 if 30<(↑(List.length (TDesign.Nets a1)):Int) then
 some Bool.false
 else
 if 8<(↑(List.length (TDesign.Ports a1)):Int) then
 some Bool.false
 else
 (spec_l05Parts a0 a1).bind fun l05Parts0 =>
 if l05Parts0=true then
 whileM (fun v=>spec_IsDesign_loop4 a1 v.1 v.2.1) (([]:List (List UInt8)),(0:Int),())
 else
 some Bool.false
 else
 some Bool.false
noncomputable def c53:Ctr:=⟨[.dat (tLibrary),.dat (tDesign)],[.dat (.bool)],fun a K=>splitK a fun a0 a=>splitK a fun a1 a=>BindP (spec_IsDesign a0 a1) fun r=>K (r,()) ()⟩
noncomputable def spec_l05Places_loop0 (v1:Int) (x0:TInstance) (v2:List Tl05Place) (v3:Int):Option (((List Tl05Place)×Int×Unit) ⊕ (((List Tl05Place)×Int×Unit) ⊕ List Tl05Place)) :=
 if v3<(↑(List.length (TInstance.Nets x0)):Int) then
 (atI (TInstance.Nets x0) v3).bind fun x1 =>
 guardO ((List.length v2+List.length [(v1,v3,x1,Decidable.decide (v3=IntKind.i64.wrap ((↑(List.length (TInstance.Nets x0)):Int)-(1:Int))),())])*(32:Nat)≤(140737488355328:Nat)) <|
 some (.inl (v2++[(v1,v3,x1,Decidable.decide (v3=IntKind.i64.wrap ((↑(List.length (TInstance.Nets x0)):Int)-(1:Int))),())],IntKind.i64.wrap (v3+(1:Int)),()))
 else
 some (.inr (.inl (v2,IntKind.i64.wrap (v1+1),())))
noncomputable def spec_l05Places_loop1 (a0:TDesign) (v2:List Tl05Place) (v3:Int):Option (((List Tl05Place)×Int×Unit) ⊕ (((List Tl05Place)×Int×Unit) ⊕ List Tl05Place)) :=
 if v3<(↑(List.length (TDesign.Ports a0)):Int) then
 (atI (TDesign.Ports a0) v3).bind fun x0 =>
 guardO ((List.length v2+List.length [((-1:Int),v3,TPort.Net x0,Decidable.decide (TPort.Dir x0=(1:Int)),())])*(32:Nat)≤(140737488355328:Nat)) <|
 some (.inl (v2++[((-1:Int),v3,TPort.Net x0,Decidable.decide (TPort.Dir x0=(1:Int)),())],IntKind.i64.wrap (v3+(1:Int)),()))
 else
 some (.inr (.inr v2))
noncomputable def spec_l05Places_loop2 (a0:TDesign) (v0:List Tl05Place) (v1:Int):Option (((List Tl05Place)×Int×Unit) ⊕ List Tl05Place) :=
 if v1<(↑(List.length (TDesign.Instances a0)):Int) then
 (atI (TDesign.Instances a0) v1).bind fun x0 =>
 whileM (fun v=>spec_l05Places_loop0 v1 x0 v.1 v.2.1) (v0,(0:Int),())
 else
 whileM (fun v=>spec_l05Places_loop1 a0 v.1 v.2.1) (v0,(0:Int),())
noncomputable def spec_l05Places (a0:TDesign):Option (List Tl05Place) :=
 whileM (fun v=>spec_l05Places_loop2 a0 v.1 v.2.1) (([]:List (Int×Int×Int×Bool×Unit)),(0:Int),())
noncomputable def c54:Ctr:=⟨[.dat (tDesign)],[.own (.ol 98 (.flat (tl05Place)))],fun a K=>splitK a fun a0 a=>BindP (spec_l05Places a0) fun r=>K (r,()) ()⟩
noncomputable def spec_l05Sinks_loop0 (net0:Int) (l05Places0:List Tl05Place) (out0:List Int) (i0:Int):Option (((List Int)×Int×Unit) ⊕ List Int) :=
 if i0<(↑(List.length l05Places0):Int) then
 (atI l05Places0 i0).bind fun x0 =>
 if Tl05Place.net x0=net0 then
 if (Tl05Place.drives x0)=true then
 some (.inl (out0,IntKind.i64.wrap (i0+1),()))
 else
 guardO ((List.length out0+List.length [i0])*(8:Nat)≤(140737488355328:Nat)) <|
 some (.inl (out0++[i0],IntKind.i64.wrap (i0+(1:Int)),()))
 else
 some (.inl (out0,IntKind.i64.wrap (i0+1),()))
 else
 some (.inr out0)
noncomputable def spec_l05Sinks (d0:TDesign) (net0:Int):Option (List Int) :=
 (spec_l05Places d0).bind fun l05Places0 =>
 whileM (fun v=>spec_l05Sinks_loop0 net0 l05Places0 v.1 v.2.1) (([]:List Int),(0:Int),())
noncomputable def c55:Ctr:=⟨[.dat (tDesign),.dat (.int .i64)],[.own (.ol 2 (.flat (.int .i64)))],fun a K=>splitK a fun d0 a=>splitK a fun net0 a=>BindP (spec_l05Sinks d0 net0) fun r=>K (r,()) ()⟩
noncomputable def spec_IsWire_loop0 (a0:TWire) (v1:Int):Option ((Int×Unit) ⊕ ((Int×Unit) ⊕ Bool)) :=
 if v1<(↑(List.length (TWire.Sink a0)):Int) then
 (atI (TWire.Sink a0) v1).bind fun x0 =>
 (spec_l01In x0 0 (IntKind.i64.wrap ((↑(List.length (TWire.Parent a0)):Int)-1))).bind fun l01In0 =>
 if l01In0=true then
 some (.inl (IntKind.i64.wrap (v1+1),()))
 else
 some (.inr (.inr Bool.false))
 else
 some (.inr (.inr Bool.true))
noncomputable def spec_IsWire_loop1 (a0:TWire) (v0:Int):Option ((Int×Unit) ⊕ Bool) :=
 if v0<(↑(List.length (TWire.Parent a0)):Int) then
 (atI (TWire.Cap a0) v0).bind fun x0 =>
 (spec_l01In x0 0 500).bind fun l01In0 =>
 if l01In0=true then
 (atI (TWire.Res a0) v0).bind fun x1 =>
 (spec_l01In x1 0 1000).bind fun l01In1 =>
 if l01In1=true then
 if v0=0 then
 (atI (TWire.Parent a0) v0).bind fun x2 =>
 if x2=(-1) then
 if x1=0 then
 if 0<v0 then
 (spec_l01In x2 0 (IntKind.i64.wrap (v0-1))).bind fun l01In2 =>
 if l01In2=true then
 some (.inl (IntKind.i64.wrap (v0+1),()))
 else
 some (.inr Bool.false)
 else
 some (.inl (IntKind.i64.wrap (v0+1),()))
 else
 some (.inr Bool.false)
 else
 some (.inr Bool.false)
 else
 if 0<v0 then
 (atI (TWire.Parent a0) v0).bind fun x2 =>
 (spec_l01In x2 0 (IntKind.i64.wrap (v0-1))).bind fun l01In2 =>
 if l01In2=true then
 some (.inl (IntKind.i64.wrap (v0+1),()))
 else
 some (.inr Bool.false)
 else
 some (.inl (IntKind.i64.wrap (v0+1),()))
 else
 some (.inr Bool.false)
 else
 some (.inr Bool.false)
 else
 whileM (fun v=>spec_IsWire_loop0 a0 v.1) ((0:Int),())
noncomputable def spec_IsWire (a0:TWire) (a1:Int):Option Bool :=
 if (↑(List.length (TWire.Parent a0)):Int)<1 then
 some Bool.false
 else
 if 8<(↑(List.length (TWire.Parent a0)):Int) then
 some Bool.false
 else
 if (↑(List.length (TWire.Res a0)):Int)=(↑(List.length (TWire.Parent a0)):Int) then
 if (↑(List.length (TWire.Cap a0)):Int)=(↑(List.length (TWire.Parent a0)):Int) then
 if (↑(List.length (TWire.Sink a0)):Int)=a1 then
 whileM (fun v=>spec_IsWire_loop1 a0 v.1) ((0:Int),())
 else
 some Bool.false
 else
 some Bool.false
 else
 some Bool.false
noncomputable def c56:Ctr:=⟨[.dat (tWire),.dat (.int .i64)],[.dat (.bool)],fun a K=>splitK a fun a0 a=>splitK a fun a1 a=>BindP (spec_IsWire a0 a1) fun r=>K (r,()) ()⟩
noncomputable def spec_IsBlock_loop0 (b0:TBlock) (net0:Int):Option ((Int×Unit) ⊕ Bool) :=
 if net0<(↑(List.length (TBlock.Wires b0)):Int) then
 (atI (TBlock.Wires b0) net0).bind fun x0 =>
 (spec_l05Sinks (TBlock.Design b0) net0).bind fun l05Sinks0 =>
 (spec_IsWire x0 (↑(List.length l05Sinks0):Int)).bind fun IsWire0 =>
 if IsWire0=true then
 some (.inl (IntKind.i64.wrap (net0+1),()))
 else
 some (.inr Bool.false)
 else
 some (.inr Bool.true)
noncomputable def spec_IsBlock (b0:TBlock):Option Bool :=
 (spec_IsDesign (TBlock.Library b0) (TBlock.Design b0)).bind fun IsDesign0 =>
 if IsDesign0=true then
 if (↑(List.length (TBlock.Wires b0)):Int)=(↑(List.length (TDesign.Nets (TBlock.Design b0))):Int) then
 whileM (fun v=>spec_IsBlock_loop0 b0 v.1) ((0:Int),())
 else
 some Bool.false
 else
 some Bool.false
noncomputable def c57:Ctr:=⟨[.dat (tBlock)],[.dat (.bool)],fun a K=>splitK a fun b0 a=>BindP (spec_IsBlock b0) fun r=>K (r,()) ()⟩
noncomputable def spec_l08Blank (a0:TEdit):Option Bool :=
 if TEdit.Kind a0=1 then
 if TEdit.Net a0=0 then
 if TEdit.Node a0=0 then
 if TEdit.Name a0=([]:List UInt8) then
 some (Decidable.decide (IntKind.i64.wrap (IntKind.i64.wrap (IntKind.i64.wrap ((↑(List.length (TWire.Parent (TEdit.Wire a0))):Int)+(↑(List.length (TWire.Res (TEdit.Wire a0))):Int))+(↑(List.length (TWire.Cap (TEdit.Wire a0))):Int))+(↑(List.length (TWire.Sink (TEdit.Wire a0))):Int))=0))
 else
 some Bool.false
 else
 some Bool.false
 else
 some Bool.false
 else
 if TEdit.Kind a0=2 then
 if TEdit.Net a0=0 then
 if TEdit.Node a0=0 then
 some (Decidable.decide (IntKind.i64.wrap (IntKind.i64.wrap (IntKind.i64.wrap ((↑(List.length (TWire.Parent (TEdit.Wire a0))):Int)+(↑(List.length (TWire.Res (TEdit.Wire a0))):Int))+(↑(List.length (TWire.Cap (TEdit.Wire a0))):Int))+(↑(List.length (TWire.Sink (TEdit.Wire a0))):Int))=0))
 else
 some Bool.false
 else
 some Bool.false
 else
 if TEdit.Kind a0=3 then
 if TEdit.Place a0=0 then
 if TEdit.Cell a0=0 then
 if TEdit.Net a0=0 then
 if TEdit.Node a0=0 then
 if TEdit.Name a0=([]:List UInt8) then
 some (Decidable.decide (IntKind.i64.wrap (IntKind.i64.wrap (IntKind.i64.wrap ((↑(List.length (TWire.Parent (TEdit.Wire a0))):Int)+(↑(List.length (TWire.Res (TEdit.Wire a0))):Int))+(↑(List.length (TWire.Cap (TEdit.Wire a0))):Int))+(↑(List.length (TWire.Sink (TEdit.Wire a0))):Int))=0))
 else
 some Bool.false
 else
 some Bool.false
 else
 some Bool.false
 else
 some Bool.false
 else
 some Bool.false
 else
 if TEdit.Kind a0=4 then
 if TEdit.Cell a0=0 then
 if TEdit.Name a0=([]:List UInt8) then
 some (Decidable.decide (IntKind.i64.wrap (IntKind.i64.wrap (IntKind.i64.wrap ((↑(List.length (TWire.Parent (TEdit.Wire a0))):Int)+(↑(List.length (TWire.Res (TEdit.Wire a0))):Int))+(↑(List.length (TWire.Cap (TEdit.Wire a0))):Int))+(↑(List.length (TWire.Sink (TEdit.Wire a0))):Int))=0))
 else
 some Bool.false
 else
 some Bool.false
 else
 if TEdit.Kind a0=5 then
 if TEdit.Place a0=0 then
 if TEdit.Cell a0=0 then
 if TEdit.Node a0=0 then
 some (Decidable.decide (TEdit.Name a0=([]:List UInt8)))
 else
 some Bool.false
 else
 some Bool.false
 else
 some Bool.false
 else
 some Bool.false
noncomputable def c58:Ctr:=⟨[.dat (tEdit)],[.dat (.bool)],fun a K=>splitK a fun a0 a=>BindP (spec_l08Blank a0) fun r=>K (r,()) ()⟩
noncomputable def spec_l08Range (a0:TBlock) (a1:TEdit):Option Bool :=
 (spec_l05Places (TBlock.Design a0)).bind fun l05Places0 =>
 if TEdit.Kind a1=1 then
 if TEdit.Kind a1=1 then
 (spec_l01In (TEdit.Place a1) 0 (IntKind.i64.wrap ((↑(List.length l05Places0):Int)-1))).bind fun l01In0 =>
 if l01In0=true then
 (spec_l01In (TEdit.Cell a1) 0 (IntKind.i64.wrap ((↑(List.length (TLibrary.Cells (TBlock.Library a0))):Int)-1))).bind fun l01In1 =>
 some l01In1
 else
 some Bool.false
 else
 if TEdit.Kind a1=4 then
 (spec_l01In (TEdit.Place a1) 0 (IntKind.i64.wrap ((↑(List.length l05Places0):Int)-1))).bind fun l01In0 =>
 if l01In0=true then
 (spec_l01In (TEdit.Net a1) 0 (IntKind.i64.wrap ((↑(List.length (TBlock.Wires a0)):Int)-1))).bind fun l01In1 =>
 if l01In1=true then
 (atI (TBlock.Wires a0) (TEdit.Net a1)).bind fun x0 =>
 (spec_l01In (TEdit.Node a1) 0 (IntKind.i64.wrap ((↑(List.length (TWire.Parent x0)):Int)-1))).bind fun l01In2 =>
 some l01In2
 else
 some Bool.false
 else
 some Bool.false
 else
 if TEdit.Kind a1=5 then
 (spec_l01In (TEdit.Net a1) 0 (IntKind.i64.wrap ((↑(List.length (TBlock.Wires a0)):Int)-1))).bind fun l01In0 =>
 some l01In0
 else
 some Bool.true
 else
 if TEdit.Kind a1=2 then
 (spec_l01In (TEdit.Place a1) 0 (IntKind.i64.wrap ((↑(List.length l05Places0):Int)-1))).bind fun l01In0 =>
 if l01In0=true then
 (spec_l01In (TEdit.Cell a1) 0 (IntKind.i64.wrap ((↑(List.length (TLibrary.Cells (TBlock.Library a0))):Int)-1))).bind fun l01In1 =>
 some l01In1
 else
 some Bool.false
 else
 if TEdit.Kind a1=4 then
 (spec_l01In (TEdit.Place a1) 0 (IntKind.i64.wrap ((↑(List.length l05Places0):Int)-1))).bind fun l01In0 =>
 if l01In0=true then
 (spec_l01In (TEdit.Net a1) 0 (IntKind.i64.wrap ((↑(List.length (TBlock.Wires a0)):Int)-1))).bind fun l01In1 =>
 if l01In1=true then
 (atI (TBlock.Wires a0) (TEdit.Net a1)).bind fun x0 =>
 (spec_l01In (TEdit.Node a1) 0 (IntKind.i64.wrap ((↑(List.length (TWire.Parent x0)):Int)-1))).bind fun l01In2 =>
 some l01In2
 else
 some Bool.false
 else
 some Bool.false
 else
 if TEdit.Kind a1=5 then
 (spec_l01In (TEdit.Net a1) 0 (IntKind.i64.wrap ((↑(List.length (TBlock.Wires a0)):Int)-1))).bind fun l01In0 =>
 some l01In0
 else
 some Bool.true
noncomputable def c59:Ctr:=⟨[.dat (tBlock),.dat (tEdit)],[.dat (.bool)],fun a K=>splitK a fun a0 a=>splitK a fun a1 a=>BindP (spec_l08Range a0 a1) fun r=>K (r,()) ()⟩
noncomputable def spec_l08Alike_loop0 (a0:TCell) (b0:TCell) (i0:Int):Option ((Int×Unit) ⊕ Bool) :=
 if i0<(↑(List.length (TCell.Pins a0)):Int) then
 (atI (TCell.Pins a0) i0).bind fun x0 =>
 (atI (TCell.Pins b0) i0).bind fun x1 =>
 if (TPin.Clock x0 == TPin.Clock x1)=true then
 some (.inl (IntKind.i64.wrap (i0+1),()))
 else
 some (.inr Bool.false)
 else
 some (.inr Bool.true)
noncomputable def spec_l08Alike (a0:TCell) (b0:TCell):Option Bool :=
 if TCell.Kind a0=TCell.Kind b0 then
 if (↑(List.length (TCell.Pins a0)):Int)=(↑(List.length (TCell.Pins b0)):Int) then
 whileM (fun v=>spec_l08Alike_loop0 a0 b0 v.1) ((0:Int),())
 else
 some Bool.false
 else
 some Bool.false
noncomputable def c60:Ctr:=⟨[.dat (tCell),.dat (tCell)],[.dat (.bool)],fun a K=>splitK a fun a0 a=>splitK a fun b0 a=>BindP (spec_l08Alike a0 b0) fun r=>K (r,()) ()⟩
noncomputable def spec_l08Buffer (c0:TCell):Option Bool :=
 if TCell.Kind c0=1 then
 some (Decidable.decide ((↑(List.length (TCell.Pins c0)):Int)=2))
 else
 some Bool.false
noncomputable def c61:Ctr:=⟨[.dat (tCell)],[.dat (.bool)],fun a K=>splitK a fun c0 a=>BindP (spec_l08Buffer c0) fun r=>K (r,()) ()⟩
noncomputable def spec_InstanceNamed_loop0 (d0:TDesign) (name0:List UInt8) (i0:Int):Option ((Int×Unit) ⊕ Int) :=
 if i0<(↑(List.length (TDesign.Instances d0)):Int) then
 (atI (TDesign.Instances d0) i0).bind fun x0 =>
 if TInstance.Name x0=name0 then
 some (.inr i0)
 else
 some (.inl (IntKind.i64.wrap (i0+1),()))
 else
 some (.inr (-1))
noncomputable def spec_InstanceNamed (d0:TDesign) (name0:List UInt8):Option Int :=
 whileM (fun v=>spec_InstanceNamed_loop0 d0 name0 v.1) ((0:Int),())
noncomputable def c62:Ctr:=⟨[.dat (tDesign),.dat (.str)],[.dat (.int .i64)],fun a K=>splitK a fun d0 a=>splitK a fun name0 a=>BindP (spec_InstanceNamed d0 name0) fun r=>K (r,()) ()⟩
noncomputable def spec_l04Index_loop0 (list0:List (List UInt8)) (word0:List UInt8) (i0:Int):Option ((Int×Unit) ⊕ Int) :=
 if i0<(↑(List.length list0):Int) then
 (atI list0 i0).bind fun x0 =>
 if x0=word0 then
 some (.inr i0)
 else
 some (.inl (IntKind.i64.wrap (i0+1),()))
 else
 some (.inr (-1))
noncomputable def spec_l04Index (list0:List (List UInt8)) (word0:List UInt8):Option Int :=
 whileM (fun v=>spec_l04Index_loop0 list0 word0 v.1) ((0:Int),())
noncomputable def c63:Ctr:=⟨[.dat (.sl (.str)),.dat (.str)],[.dat (.int .i64)],fun a K=>splitK a fun list0 a=>splitK a fun word0 a=>BindP (spec_l04Index list0 word0) fun r=>K (r,()) ()⟩
noncomputable def spec_NetNamed (d0:TDesign) (name0:List UInt8):Option Int :=
 (spec_l04Index (TDesign.Nets d0) name0).bind fun l04Index0 =>
 some l04Index0
noncomputable def c64:Ctr:=⟨[.dat (tDesign),.dat (.str)],[.dat (.int .i64)],fun a K=>splitK a fun d0 a=>splitK a fun name0 a=>BindP (spec_NetNamed d0 name0) fun r=>K (r,()) ()⟩
noncomputable def spec_l08Bare (w0:TWire):Option Bool :=
 if (↑(List.length (TWire.Parent w0)):Int)=1 then
 (atI (TWire.Cap w0) 0).bind fun x0 =>
 some (Decidable.decide (x0=0))
 else
 some Bool.false
noncomputable def c65:Ctr:=⟨[.dat (tWire)],[.dat (.bool)],fun a K=>splitK a fun w0 a=>BindP (spec_l08Bare w0) fun r=>K (r,()) ()⟩
noncomputable def spec_l08Last (a0:TBlock):Option Bool :=
 if IntKind.i64.wrap ((↑(List.length (TDesign.Instances (TBlock.Design a0))):Int)-1)<0 then
 some Bool.false
 else
 (atI (TDesign.Instances (TBlock.Design a0)) (IntKind.i64.wrap ((↑(List.length (TDesign.Instances (TBlock.Design a0))):Int)-1))).bind fun x0 =>
 (atI (TLibrary.Cells (TBlock.Library a0)) (TInstance.Cell x0)).bind fun x1 =>
 (spec_l08Buffer x1).bind fun l08Buffer0 =>
 if l08Buffer0=true then
 (atI (TInstance.Nets x0) 1).bind fun x2 =>
 if x2=IntKind.i64.wrap ((↑(List.length (TBlock.Wires a0)):Int)-1) then
 (atI (TDesign.Nets (TBlock.Design a0)) (IntKind.i64.wrap ((↑(List.length (TBlock.Wires a0)):Int)-1))).bind fun x3 =>
 if x3=TInstance.Name x0 then
 (atI (TInstance.Nets x0) 0).bind fun x4 =>
 if x4=IntKind.i64.wrap ((↑(List.length (TBlock.Wires a0)):Int)-1) then
 some Bool.false
 else
 (spec_l05Sinks (TBlock.Design a0) (IntKind.i64.wrap ((↑(List.length (TBlock.Wires a0)):Int)-1))).bind fun l05Sinks0 =>
 if (↑(List.length l05Sinks0):Int)=1 then
 (atI (TBlock.Wires a0) (IntKind.i64.wrap ((↑(List.length (TBlock.Wires a0)):Int)-1))).bind fun x5 =>
 (spec_l08Bare x5).bind fun l08Bare0 =>
 some l08Bare0
 else
 some Bool.false
 else
 some Bool.false
 else
 some Bool.false
 else
 some Bool.false
noncomputable def c66:Ctr:=⟨[.dat (tBlock)],[.dat (.bool)],fun a K=>splitK a fun a0 a=>BindP (spec_l08Last a0) fun r=>K (r,()) ()⟩
noncomputable def spec_l08State (a0:TBlock) (a1:TEdit):Option Bool :=
 (spec_l05Places (TBlock.Design a0)).bind fun l05Places0 =>
 if TEdit.Kind a1=1 then
 (atI l05Places0 (TEdit.Place a1)).bind fun x0 =>
 if 0≤Tl05Place.instance x0 then
 if (Tl05Place.drives x0)=true then
 (atI (TDesign.Instances (TBlock.Design a0)) (Tl05Place.instance x0)).bind fun x1 =>
 (atI (TLibrary.Cells (TBlock.Library a0)) (TInstance.Cell x1)).bind fun x2 =>
 (atI (TLibrary.Cells (TBlock.Library a0)) (TEdit.Cell a1)).bind fun x3 =>
 (spec_l08Alike x2 x3).bind fun l08Alike0 =>
 some l08Alike0
 else
 some Bool.false
 else
 some Bool.false
 else
 if TEdit.Kind a1=2 then
 (atI l05Places0 (TEdit.Place a1)).bind fun x0 =>
 if (Tl05Place.drives x0)=true then
 some Bool.false
 else
 (atI (TLibrary.Cells (TBlock.Library a0)) (TEdit.Cell a1)).bind fun x1 =>
 (spec_l08Buffer x1).bind fun l08Buffer0 =>
 if l08Buffer0=true then
 (spec_l03Name (TEdit.Name a1)).bind fun l03Name0 =>
 if l03Name0=true then
 (spec_InstanceNamed (TBlock.Design a0) (TEdit.Name a1)).bind fun InstanceNamed0 =>
 if InstanceNamed0<0 then
 (spec_NetNamed (TBlock.Design a0) (TEdit.Name a1)).bind fun NetNamed0 =>
 some (Decidable.decide (NetNamed0<0))
 else
 some Bool.false
 else
 some Bool.false
 else
 some Bool.false
 else
 if TEdit.Kind a1=3 then
 (spec_l08Last a0).bind fun l08Last0 =>
 some l08Last0
 else
 if TEdit.Kind a1=4 then
 (atI l05Places0 (TEdit.Place a1)).bind fun x0 =>
 if (Tl05Place.drives x0)=true then
 some Bool.false
 else
 some (!Decidable.decide (Tl05Place.net x0=TEdit.Net a1))
 else
 (spec_l05Sinks (TBlock.Design a0) (TEdit.Net a1)).bind fun l05Sinks0 =>
 (spec_IsWire (TEdit.Wire a1) (↑(List.length l05Sinks0):Int)).bind fun IsWire0 =>
 some IsWire0
noncomputable def c67:Ctr:=⟨[.dat (tBlock),.dat (tEdit)],[.dat (.bool)],fun a K=>splitK a fun a0 a=>splitK a fun a1 a=>BindP (spec_l08State a0 a1) fun r=>K (r,()) ()⟩
noncomputable def spec_EditCode (b0:TBlock) (e0:TEdit):Option Int :=
 (spec_IsBlock b0).bind fun IsBlock0 =>
 if IsBlock0=true then
 (spec_l08Blank e0).bind fun l08Blank0 =>
 if l08Blank0=true then
 (spec_l08Range b0 e0).bind fun l08Range0 =>
 if l08Range0=true then
 (spec_l08State b0 e0).bind fun l08State0 =>
 if l08State0=true then
 if TEdit.Kind e0=2 then
 if (↑(List.length (TDesign.Instances (TBlock.Design b0))):Int)=14 then
 some 3
 else
 if (↑(List.length (TBlock.Wires b0)):Int)=30 then
 some 3
 else
 some 0
 else
 some 0
 else
 some 5
 else
 some 2
 else
 some 2
 else
 some 1
noncomputable def c68:Ctr:=⟨[.dat (tBlock),.dat (tEdit)],[.dat (.int .i64)],fun a K=>splitK a fun b0 a=>splitK a fun e0 a=>BindP (spec_EditCode b0 e0) fun r=>K (r,()) ()⟩
noncomputable def spec_l08Nodes_loop0 (b0:TBlock) (net0:Int) (l05Sinks0:List Int) (i0:Int) (l1:List Int):Option ((Int×(List Int)×Unit) ⊕ ((Int×(List Int)×Unit) ⊕ List Int)) :=
 if i0<(↑(List.length l05Sinks0):Int) then
 (atI l05Sinks0 i0).bind fun x0 =>
 (atI (TBlock.Wires b0) net0).bind fun x1 =>
 (atI (TWire.Sink x1) i0).bind fun x2 =>
 (atI l1 x0).bind fun x3 =>
 some (.inl (IntKind.i64.wrap (i0+1),List.set l1 (Int.toNat x0) x2,()))
 else
 some (.inr (.inl (IntKind.i64.wrap (net0+1),l1,())))
noncomputable def spec_l08Nodes_loop1 (b0:TBlock) (net0:Int) (l0:List Int):Option ((Int×(List Int)×Unit) ⊕ List Int) :=
 if net0<(↑(List.length (TBlock.Wires b0)):Int) then
 (spec_l05Sinks (TBlock.Design b0) net0).bind fun l05Sinks0 =>
 whileM (fun v=>spec_l08Nodes_loop0 b0 net0 l05Sinks0 v.1 v.2.1) ((0:Int),l0,())
 else
 some (.inr l0)
noncomputable def spec_l08Nodes (b0:TBlock):Option (List Int) :=
 (spec_l05Places (TBlock.Design b0)).bind fun l05Places0 =>
 guardO ((0:Int)≤(↑(List.length l05Places0):Int)) <|
 guardO ((↑(List.length l05Places0):Int)≤(↑(List.length l05Places0):Int)) <|
 guardO ((↑(List.length l05Places0):Int)≤(4611686018427387904:Int)) <|
 guardO ((↑(8:Nat):Int)*(↑(List.length l05Places0):Int)≤(281474976710656:Int)) <|
 whileM (fun v=>spec_l08Nodes_loop1 b0 v.1 v.2.1) ((0:Int),List.replicate (Int.toNat (↑(List.length l05Places0):Int)) (0:Int),())
noncomputable def c69:Ctr:=⟨[.dat (tBlock)],[.own (.ol 2 (.flat (.int .i64)))],fun a K=>splitK a fun b0 a=>BindP (spec_l08Nodes b0) fun r=>K (r,()) ()⟩
noncomputable def spec_l02Ints (list0:List Int):Option (List Int) :=
 guardO ((List.length (([]:List Int))+List.length list0)*(8:Nat)≤(140737488355328:Nat)) <|
 some (([]:List Int)++list0)
noncomputable def c70:Ctr:=⟨[.dat (.sl (.int .i64))],[.own (.ol 2 (.flat (.int .i64)))],fun a K=>splitK a fun list0 a=>BindP (spec_l02Ints list0) fun r=>K (r,()) ()⟩
noncomputable def spec_l07OwnWire (w0:TWire):Option TWire :=
 (spec_l02Ints (TWire.Parent w0)).bind fun l02Ints0 =>
 (spec_l02Ints (TWire.Res w0)).bind fun l02Ints1 =>
 (spec_l02Ints (TWire.Cap w0)).bind fun l02Ints2 =>
 (spec_l02Ints (TWire.Sink w0)).bind fun l02Ints3 =>
 some (l02Ints0,l02Ints1,l02Ints2,l02Ints3,())
noncomputable def c71:Ctr:=⟨[.dat (tWire)],[.own (dWire)],fun a K=>splitK a fun w0 a=>BindP (spec_l07OwnWire w0) fun r=>K (r,()) ()⟩
noncomputable def spec_l08Inverse (a0:TBlock) (a1:TEdit):Option TEdit :=
 (spec_l05Places (TBlock.Design a0)).bind fun l05Places0 =>
 if TEdit.Kind a1=1 then
 (atI l05Places0 (TEdit.Place a1)).bind fun x0 =>
 (atI (TDesign.Instances (TBlock.Design a0)) (Tl05Place.instance x0)).bind fun x1 =>
 some ((1:Int),TEdit.Place a1,TInstance.Cell x1,(0:Int),(0:Int),([]:List UInt8),(([]:List Int),([]:List Int),([]:List Int),([]:List Int),()),())
 else
 if TEdit.Kind a1=2 then
 some ((3:Int),(0:Int),(0:Int),(0:Int),(0:Int),([]:List UInt8),(([]:List Int),([]:List Int),([]:List Int),([]:List Int),()),())
 else
 if TEdit.Kind a1=3 then
 (atI (TDesign.Instances (TBlock.Design a0)) (IntKind.i64.wrap ((↑(List.length (TDesign.Instances (TBlock.Design a0))):Int)-1))).bind fun x0 =>
 (spec_l05Sinks (TBlock.Design a0) (IntKind.i64.wrap ((↑(List.length (TBlock.Wires a0)):Int)-1))).bind fun l05Sinks0 =>
 (atI l05Sinks0 0).bind fun x1 =>
 (atI l05Places0 x1).bind fun x2 =>
 if Tl05Place.instance x2<0 then
 some ((2:Int),IntKind.i64.wrap (x1-(2:Int)),TInstance.Cell x0,(0:Int),(0:Int),TInstance.Name x0,(([]:List Int),([]:List Int),([]:List Int),([]:List Int),()),())
 else
 some ((2:Int),x1,TInstance.Cell x0,(0:Int),(0:Int),TInstance.Name x0,(([]:List Int),([]:List Int),([]:List Int),([]:List Int),()),())
 else
 if TEdit.Kind a1=4 then
 (atI l05Places0 (TEdit.Place a1)).bind fun x0 =>
 (spec_l08Nodes a0).bind fun l08Nodes0 =>
 (atI l08Nodes0 (TEdit.Place a1)).bind fun x1 =>
 some ((4:Int),TEdit.Place a1,(0:Int),Tl05Place.net x0,x1,([]:List UInt8),(([]:List Int),([]:List Int),([]:List Int),([]:List Int),()),())
 else
 (atI (TBlock.Wires a0) (TEdit.Net a1)).bind fun x0 =>
 (spec_l07OwnWire x0).bind fun l07OwnWire0 =>
 some ((5:Int),(0:Int),(0:Int),TEdit.Net a1,(0:Int),([]:List UInt8),l07OwnWire0,())
noncomputable def c72:Ctr:=⟨[.dat (tBlock),.dat (tEdit)],[.own (dEdit)],fun a K=>splitK a fun a0 a=>splitK a fun a1 a=>BindP (spec_l08Inverse a0 a1) fun r=>K (r,()) ()⟩
noncomputable def spec_InverseEdit (b0:TBlock) (e0:TEdit):Option (TEdit×Int) :=
 (spec_EditCode b0 e0).bind fun EditCode0 =>
 if EditCode0=0 then
 (spec_l08Inverse b0 e0).bind fun l08Inverse0 =>
 some (l08Inverse0,0)
 else
 some (((0:Int),(0:Int),(0:Int),(0:Int),(0:Int),([]:List UInt8),(([]:List Int),([]:List Int),([]:List Int),([]:List Int),()),()),EditCode0)
noncomputable def c73:Ctr:=⟨[.dat (tBlock),.dat (tEdit)],[.own (dEdit),.dat (.int .i64)],fun a K=>splitK a fun b0 a=>splitK a fun e0 a=>BindP (spec_InverseEdit b0 e0) fun r=>K (r.1,r.2,()) ()⟩
noncomputable def impl_within (x0:Int) (low0:Int) (high0:Int):Option Bool :=
 if low0≤x0 then
 some (Decidable.decide (x0≤high0))
 else
 some Bool.false
noncomputable def c74:Ctr:=⟨[.dat (.int .i64),.dat (.int .i64),.dat (.int .i64)],[.dat (.bool)],fun a K=>splitK a fun x0 a=>splitK a fun low0 a=>splitK a fun high0 a=>BindP (impl_within x0 low0 high0) fun r=>K (r,()) ()⟩
noncomputable def impl_isName (s0:List UInt8):Option Bool :=
 (impl_within (↑(List.length s0):Int) 1 8).bind fun within0 =>
 if within0=true then
 guardO (List.length s0≤(1000000:Nat)) <|
 if Go.Lib.trimS s0 [(97:UInt8),(98:UInt8),(99:UInt8),(100:UInt8),(101:UInt8),(102:UInt8),(103:UInt8),(104:UInt8),(105:UInt8),(106:UInt8),(107:UInt8),(108:UInt8),(109:UInt8),(110:UInt8),(111:UInt8),(112:UInt8),(113:UInt8),(114:UInt8),(115:UInt8),(116:UInt8),(117:UInt8),(118:UInt8),(119:UInt8),(120:UInt8),(121:UInt8),(122:UInt8),(48:UInt8),(49:UInt8),(50:UInt8),(51:UInt8),(52:UInt8),(53:UInt8),(54:UInt8),(55:UInt8),(56:UInt8),(57:UInt8)]=([]:List UInt8) then
 (atI s0 0).bind fun x0 =>
 some (Decidable.decide ((0:Int)≤Go.Lib.indexByte [(97:UInt8),(98:UInt8),(99:UInt8),(100:UInt8),(101:UInt8),(102:UInt8),(103:UInt8),(104:UInt8),(105:UInt8),(106:UInt8),(107:UInt8),(108:UInt8),(109:UInt8),(110:UInt8),(111:UInt8),(112:UInt8),(113:UInt8),(114:UInt8),(115:UInt8),(116:UInt8),(117:UInt8),(118:UInt8),(119:UInt8),(120:UInt8),(121:UInt8),(122:UInt8)] (Nat.toUInt8 (Int.toNat (↑(UInt8.toNat x0):Int)))))
 else
 some Bool.false
 else
 some Bool.false
noncomputable def c75:Ctr:=⟨[.dat (.str)],[.dat (.bool)],fun a K=>splitK a fun s0 a=>BindP (impl_isName s0) fun r=>K (r,()) ()⟩
noncomputable def impl_length_impl_Pin (list0:List TPin):Option Int :=
 some (↑(List.length list0):Int)
noncomputable def c76:Ctr:=⟨[.dat (.sl (tPin))],[.dat (.int .i64)],fun a K=>splitK a fun list0 a=>BindP (impl_length_impl_Pin list0) fun r=>K (r,()) ()⟩
noncomputable def slices_Index_Sstring_string_loop0 (s0:List (List UInt8)) (v0:List UInt8) (v1:Int):Option ((Int×Unit) ⊕ Int) :=
 if v1<(↑(List.length s0):Int) then
 (atI s0 v1).bind fun x0 =>
 if v0=x0 then
 some (.inr v1)
 else
 some (.inl (IntKind.i64.wrap (v1+1),()))
 else
 some (.inr (-1))
noncomputable def slices_Index_Sstring_string (s0:List (List UInt8)) (v0:List UInt8):Option Int :=
 whileM (fun v=>slices_Index_Sstring_string_loop0 s0 v0 v.1) ((0:Int),())
noncomputable def c77:Ctr:=⟨[.dat (.sl (.str)),.dat (.str)],[.dat (.int .i64)],fun a K=>splitK a fun s0 a=>splitK a fun v0 a=>BindP (slices_Index_Sstring_string s0 v0) fun r=>K (r,()) ()⟩
noncomputable def slices_Contains_Sstring_string (s0:List (List UInt8)) (v0:List UInt8):Option Bool :=
 (slices_Index_Sstring_string s0 v0).bind fun string0 =>
 some (Decidable.decide (0≤string0))
noncomputable def c78:Ctr:=⟨[.dat (.sl (.str)),.dat (.str)],[.dat (.bool)],fun a K=>splitK a fun s0 a=>splitK a fun v0 a=>BindP (slices_Contains_Sstring_string s0 v0) fun r=>K (r,()) ()⟩
noncomputable def impl_areNames_loop0 (list0:List (List UInt8)) (v0:Int):Option ((Int×Unit) ⊕ Bool) :=
 if v0<(↑(List.length list0):Int) then
 (atI list0 v0).bind fun x0 =>
 (impl_isName x0).bind fun isName0 =>
 if isName0=true then
 guardO ((0:Int)≤v0) <|
 guardO (v0≤(↑(List.length list0):Int)) <|
 (slices_Contains_Sstring_string (List.take (Int.toNat v0-Int.toNat 0) (List.drop (Int.toNat 0) list0)) x0).bind fun string0 =>
 if string0=true then
 some (.inr Bool.false)
 else
 some (.inl (IntKind.i64.wrap (v0+1),()))
 else
 some (.inr Bool.false)
 else
 some (.inr Bool.true)
noncomputable def impl_areNames (list0:List (List UInt8)):Option Bool :=
 whileM (fun v=>impl_areNames_loop0 list0 v.1) ((0:Int),())
noncomputable def c79:Ctr:=⟨[.dat (.sl (.str))],[.dat (.bool)],fun a K=>splitK a fun list0 a=>BindP (impl_areNames list0) fun r=>K (r,()) ()⟩
noncomputable def impl_arePins_loop0 (list0:List TPin) (names0:List (List UInt8)) (v0:Int):Option (((List (List UInt8))×Int×Unit) ⊕ Bool) :=
 if v0<(↑(List.length list0):Int) then
 (atI list0 v0).bind fun x0 =>
 guardO ((List.length names0+List.length [TPin.Name x0])*(16:Nat)≤(140737488355328:Nat)) <|
 if v0=IntKind.i64.wrap ((↑(List.length list0):Int)-1) then
 if TPin.Dir x0=2 then
 if TPin.Cap x0=0 then
 if (TPin.Clock x0)=true then
 some (.inr Bool.false)
 else
 some (.inl (names0++[TPin.Name x0],IntKind.i64.wrap (v0+(1:Int)),()))
 else
 some (.inr Bool.false)
 else
 some (.inr Bool.false)
 else
 if TPin.Dir x0=1 then
 (impl_within (TPin.Cap x0) 0 500).bind fun within0 =>
 if within0=true then
 some (.inl (names0++[TPin.Name x0],IntKind.i64.wrap (v0+(1:Int)),()))
 else
 some (.inr Bool.false)
 else
 some (.inr Bool.false)
 else
 (impl_length_impl_Pin list0).bind fun Pin0 =>
 (impl_within Pin0 2 5).bind fun within0 =>
 if within0=true then
 (impl_areNames names0).bind fun areNames0 =>
 some (.inr areNames0)
 else
 some (.inr Bool.false)
noncomputable def impl_arePins (list0:List TPin):Option Bool :=
 whileM (fun v=>impl_arePins_loop0 list0 v.1 v.2.1) (([]:List (List UInt8)),(0:Int),())
noncomputable def c80:Ctr:=⟨[.dat (.sl (tPin))],[.dat (.bool)],fun a K=>splitK a fun list0 a=>BindP (impl_arePins list0) fun r=>K (r,()) ()⟩
noncomputable def impl_isCheck (kind0:Int):Option Bool :=
 if kind0=4 then
 some Bool.true
 else
 some (Decidable.decide (kind0=5))
noncomputable def c81:Ctr:=⟨[.dat (.int .i64)],[.dat (.bool)],fun a K=>splitK a fun kind0 a=>BindP (impl_isCheck kind0) fun r=>K (r,()) ()⟩
noncomputable def impl_length_int64 (list0:List Int):Option Int :=
 some (↑(List.length list0):Int)
noncomputable def c82:Ctr:=⟨[.dat (.sl (.int .i64))],[.dat (.int .i64)],fun a K=>splitK a fun list0 a=>BindP (impl_length_int64 list0) fun r=>K (r,()) ()⟩
noncomputable def impl_areWithin_c1 (n0:Int) (a0:Int) (a1:Int):Option Bool :=
 (impl_within n0 a0 a1).bind fun within0 =>
 some !within0
noncomputable def c83:Ctr:=⟨[.dat (.int .i64),.dat (.ptr (.int .i64)),.dat (.ptr (.int .i64))],[.dat (.bool)],fun a K=>splitK a fun n0 a=>splitK a fun a0 a=>splitK a fun a1 a=>BindP (impl_areWithin_c1 n0 a0 a1) fun r=>K (r,()) ()⟩
noncomputable def slices_IndexFunc_Sint64_int64_at_impl_areWithin_c1_loop0 (s0:List Int) (f0:Int×Int×Unit) (v0:Int):Option ((Int×Unit) ⊕ Int) :=
 if v0<(↑(List.length s0):Int) then
 (atI s0 v0).bind fun x0 =>
 (impl_areWithin_c1 x0 f0.fst f0.snd.fst).bind fun c1_0 =>
 if c1_0=true then
 some (.inr v0)
 else
 some (.inl (IntKind.i64.wrap (v0+1),()))
 else
 some (.inr (-1))
noncomputable def slices_IndexFunc_Sint64_int64_at_impl_areWithin_c1 (s0:List Int) (f0:Int×Int×Unit):Option Int :=
 whileM (fun v=>slices_IndexFunc_Sint64_int64_at_impl_areWithin_c1_loop0 s0 f0 v.1) ((0:Int),())
noncomputable def c84:Ctr:=⟨[.dat (.sl (.int .i64)),.dat (.fn 183 (.pair (.ptr (.int .i64)) (.pair (.ptr (.int .i64)) (.unit))))],[.dat (.int .i64)],fun a K=>splitK a fun s0 a=>splitK a fun f0 a=>BindP (slices_IndexFunc_Sint64_int64_at_impl_areWithin_c1 s0 f0) fun r=>K (r,()) ()⟩
noncomputable def slices_ContainsFunc_Sint64_int64_at_impl_areWithin_c1 (s0:List Int) (f0:Int×Int×Unit):Option Bool :=
 (slices_IndexFunc_Sint64_int64_at_impl_areWithin_c1 s0 f0).bind fun c1_0 =>
 some (Decidable.decide (0≤c1_0))
noncomputable def c85:Ctr:=⟨[.dat (.sl (.int .i64)),.dat (.fn 183 (.pair (.ptr (.int .i64)) (.pair (.ptr (.int .i64)) (.unit))))],[.dat (.bool)],fun a K=>splitK a fun s0 a=>splitK a fun f0 a=>BindP (slices_ContainsFunc_Sint64_int64_at_impl_areWithin_c1 s0 f0) fun r=>K (r,()) ()⟩
noncomputable def impl_areWithin (list0:List Int) (low0:Int) (high0:Int):Option Bool :=
 (slices_ContainsFunc_Sint64_int64_at_impl_areWithin_c1 list0 (low0,high0,())).bind fun c1_0 =>
 some !c1_0
noncomputable def c86:Ctr:=⟨[.dat (.sl (.int .i64)),.dat (.int .i64),.dat (.int .i64)],[.dat (.bool)],fun a K=>splitK a fun list0 a=>splitK a fun low0 a=>splitK a fun high0 a=>BindP (impl_areWithin list0 low0 high0) fun r=>K (r,()) ()⟩
noncomputable def impl_isIncreasing_loop0 (list0:List Int) (i0:Int):Option ((Int×Unit) ⊕ Bool) :=
 if i0<(↑(List.length list0):Int) then
 (atI list0 (IntKind.i64.wrap (i0-1))).bind fun x0 =>
 (atI list0 i0).bind fun x1 =>
 if x1≤x0 then
 some (.inr Bool.false)
 else
 some (.inl (IntKind.i64.wrap (i0+1),()))
 else
 some (.inr Bool.true)
noncomputable def impl_isIncreasing (list0:List Int):Option Bool :=
 whileM (fun v=>impl_isIncreasing_loop0 list0 v.1) ((1:Int),())
noncomputable def c87:Ctr:=⟨[.dat (.sl (.int .i64))],[.dat (.bool)],fun a K=>splitK a fun list0 a=>BindP (impl_isIncreasing list0) fun r=>K (r,()) ()⟩
noncomputable def impl_isAxis (list0:List Int):Option Bool :=
 (impl_length_int64 list0).bind fun int64_0 =>
 (impl_within int64_0 1 4).bind fun within0 =>
 if within0=true then
 (impl_areWithin list0 0 100000).bind fun areWithin0 =>
 if areWithin0=true then
 (impl_isIncreasing list0).bind fun isIncreasing0 =>
 some isIncreasing0
 else
 some Bool.false
 else
 some Bool.false
noncomputable def c88:Ctr:=⟨[.dat (.sl (.int .i64))],[.dat (.bool)],fun a K=>splitK a fun list0 a=>BindP (impl_isAxis list0) fun r=>K (r,()) ()⟩
noncomputable def impl_IsTable (t0:TTable):Option Bool :=
 (impl_isAxis (TTable.Slews t0)).bind fun isAxis0 =>
 if isAxis0=true then
 (impl_isAxis (TTable.Loads t0)).bind fun isAxis1 =>
 if isAxis1=true then
 if (↑(List.length (TTable.Values t0)):Int)=IntKind.i64.wrap ((↑(List.length (TTable.Slews t0)):Int)*(↑(List.length (TTable.Loads t0)):Int)) then
 (impl_areWithin (TTable.Values t0) (-1000000) 1000000).bind fun areWithin0 =>
 some areWithin0
 else
 some Bool.false
 else
 some Bool.false
 else
 some Bool.false
noncomputable def c89:Ctr:=⟨[.dat (tTable)],[.dat (.bool)],fun a K=>splitK a fun t0 a=>BindP (impl_IsTable t0) fun r=>K (r,()) ()⟩
noncomputable def slices_Min_Sint64_int64_loop0 (x0:List Int) (m0:Int) (i0:Int):Option ((Int×Int×Unit) ⊕ Int) :=
 if i0<(↑(List.length x0):Int) then
 (atI x0 i0).bind fun x2 =>
 some (.inl (Min.min m0 x2,IntKind.i64.wrap (i0+1),()))
 else
 some (.inr m0)
noncomputable def slices_Min_Sint64_int64 (x0:List Int):Option Int :=
 if (↑(List.length x0):Int)<1 then
 none
 else
 (atI x0 0).bind fun x1 =>
 whileM (fun v=>slices_Min_Sint64_int64_loop0 x0 v.1 v.2.1) (x1,(1:Int),())
noncomputable def c90:Ctr:=⟨[.dat (.sl (.int .i64))],[.dat (.int .i64)],fun a K=>splitK a fun x0 a=>BindP (slices_Min_Sint64_int64 x0) fun r=>K (r,()) ()⟩
noncomputable def impl_areTables_c1 (t0:TTable) (a0:Bool):Option Bool :=
 (impl_IsTable t0).bind fun IsTable0 =>
 if IsTable0=true then
 if a0=true then
 (slices_Min_Sint64_int64 (TTable.Values t0)).bind fun int64_0 =>
 some (Decidable.decide (int64_0<0))
 else
 some Bool.false
 else
 some Bool.true
noncomputable def c91:Ctr:=⟨[.dat (tTable),.dat (.ptr (.bool))],[.dat (.bool)],fun a K=>splitK a fun t0 a=>splitK a fun a0 a=>BindP (impl_areTables_c1 t0 a0) fun r=>K (r,()) ()⟩
noncomputable def slices_IndexFunc_Simpl_Table_impl_Table_at_impl_areTables_c1_loop0 (s0:List TTable) (f0:Bool×Unit) (v0:Int):Option ((Int×Unit) ⊕ Int) :=
 if v0<(↑(List.length s0):Int) then
 (atI s0 v0).bind fun x0 =>
 (impl_areTables_c1 x0 f0.fst).bind fun c1_0 =>
 if c1_0=true then
 some (.inr v0)
 else
 some (.inl (IntKind.i64.wrap (v0+1),()))
 else
 some (.inr (-1))
noncomputable def slices_IndexFunc_Simpl_Table_impl_Table_at_impl_areTables_c1 (s0:List TTable) (f0:Bool×Unit):Option Int :=
 whileM (fun v=>slices_IndexFunc_Simpl_Table_impl_Table_at_impl_areTables_c1_loop0 s0 f0 v.1) ((0:Int),())
noncomputable def c92:Ctr:=⟨[.dat (.sl (tTable)),.dat (.fn 243 (.pair (.ptr (.bool)) (.unit)))],[.dat (.int .i64)],fun a K=>splitK a fun s0 a=>splitK a fun f0 a=>BindP (slices_IndexFunc_Simpl_Table_impl_Table_at_impl_areTables_c1 s0 f0) fun r=>K (r,()) ()⟩
noncomputable def slices_ContainsFunc_Simpl_Table_impl_Table_at_impl_areTables_c1 (s0:List TTable) (f0:Bool×Unit):Option Bool :=
 (slices_IndexFunc_Simpl_Table_impl_Table_at_impl_areTables_c1 s0 f0).bind fun c1_0 =>
 some (Decidable.decide (0≤c1_0))
noncomputable def c93:Ctr:=⟨[.dat (.sl (tTable)),.dat (.fn 243 (.pair (.ptr (.bool)) (.unit)))],[.dat (.bool)],fun a K=>splitK a fun s0 a=>splitK a fun f0 a=>BindP (slices_ContainsFunc_Simpl_Table_impl_Table_at_impl_areTables_c1 s0 f0) fun r=>K (r,()) ()⟩
noncomputable def impl_areTables (list0:List TTable) (positive0:Bool):Option Bool :=
 if (↑(List.length list0):Int)=2 then
 (slices_ContainsFunc_Simpl_Table_impl_Table_at_impl_areTables_c1 list0 (positive0,())).bind fun c1_0 =>
 some !c1_0
 else
 some Bool.false
noncomputable def c94:Ctr:=⟨[.dat (.sl (tTable)),.dat (.bool)],[.dat (.bool)],fun a K=>splitK a fun list0 a=>splitK a fun positive0 a=>BindP (impl_areTables list0 positive0) fun r=>K (r,()) ()⟩
noncomputable def impl_Cell_clock_c1 (p0:TPin):Option Bool :=
 some (TPin.Clock p0)
noncomputable def c95:Ctr:=⟨[.dat (tPin)],[.dat (.bool)],fun a K=>splitK a fun p0 a=>BindP (impl_Cell_clock_c1 p0) fun r=>K (r,()) ()⟩
noncomputable def slices_IndexFunc_Simpl_Pin_impl_Pin_at_impl_Cell_clock_c1_loop0 (s0:List TPin) (v0:Int):Option ((Int×Unit) ⊕ Int) :=
 if v0<(↑(List.length s0):Int) then
 (atI s0 v0).bind fun x0 =>
 (impl_Cell_clock_c1 x0).bind fun c1_0 =>
 if c1_0=true then
 some (.inr v0)
 else
 some (.inl (IntKind.i64.wrap (v0+1),()))
 else
 some (.inr (-1))
noncomputable def slices_IndexFunc_Simpl_Pin_impl_Pin_at_impl_Cell_clock_c1 (s0:List TPin) (f0:Unit):Option Int :=
 whileM (fun v=>slices_IndexFunc_Simpl_Pin_impl_Pin_at_impl_Cell_clock_c1_loop0 s0 v.1) ((0:Int),())
noncomputable def c96:Ctr:=⟨[.dat (.sl (tPin)),.dat (.fn 247 (.unit))],[.dat (.int .i64)],fun a K=>splitK a fun s0 a=>splitK a fun f0 a=>BindP (slices_IndexFunc_Simpl_Pin_impl_Pin_at_impl_Cell_clock_c1 s0 f0) fun r=>K (r,()) ()⟩
noncomputable def impl_Cell_clock (c0:TCell):Option Int :=
 (slices_IndexFunc_Simpl_Pin_impl_Pin_at_impl_Cell_clock_c1 (TCell.Pins c0) ()).bind fun c1_0 =>
 some c1_0
noncomputable def c97:Ctr:=⟨[.dat (tCell)],[.dat (.int .i64)],fun a K=>splitK a fun c0 a=>BindP (impl_Cell_clock c0) fun r=>K (r,()) ()⟩
noncomputable def impl_Cell_output (c0:TCell):Option Int :=
 (impl_length_impl_Pin (TCell.Pins c0)).bind fun Pin0 =>
 some (IntKind.i64.wrap (Pin0-1))
noncomputable def c98:Ctr:=⟨[.dat (tCell)],[.dat (.int .i64)],fun a K=>splitK a fun c0 a=>BindP (impl_Cell_output c0) fun r=>K (r,()) ()⟩
noncomputable def impl_Cell_isInput (c0:TCell) (pin0:Int):Option Bool :=
 (impl_Cell_output c0).bind fun output0 =>
 (impl_within pin0 0 (IntKind.i64.wrap (output0-1))).bind fun within0 =>
 some within0
noncomputable def c99:Ctr:=⟨[.dat (tCell),.dat (.int .i64)],[.dat (.bool)],fun a K=>splitK a fun c0 a=>splitK a fun pin0 a=>BindP (impl_Cell_isInput c0 pin0) fun r=>K (r,()) ()⟩
noncomputable def impl_Cell_isArc (a0:TCell) (a1:TArc):Option Bool :=
 (impl_isCheck (TArc.Kind a1)).bind fun isCheck0 =>
 if isCheck0=true then
 if TArc.Sense a1=0 then
 if (↑(List.length (TArc.Slew a1)):Int)=0 then
 (impl_areTables (TArc.Delay a1) Bool.false).bind fun areTables0 =>
 if areTables0=true then
 (impl_Cell_clock a0).bind fun clock0 =>
 if TArc.From a1=clock0 then
 if 0≤TArc.From a1 then
 (impl_Cell_isInput a0 (TArc.To a1)).bind fun isInput0 =>
 if isInput0=true then
 some (!Decidable.decide (TArc.To a1=TArc.From a1))
 else
 some Bool.false
 else
 some Bool.false
 else
 some Bool.false
 else
 some Bool.false
 else
 some Bool.false
 else
 some Bool.false
 else
 (impl_areTables (TArc.Delay a1) Bool.true).bind fun areTables0 =>
 if areTables0=true then
 (impl_areTables (TArc.Slew a1) Bool.true).bind fun areTables1 =>
 if areTables1=true then
 (impl_Cell_output a0).bind fun output0 =>
 if TArc.To a1=output0 then
 (impl_Cell_isInput a0 (TArc.From a1)).bind fun isInput0 =>
 if isInput0=true then
 if TArc.Kind a1=1 then
 (atI (TCell.Pins a0) (TArc.From a1)).bind fun x0 =>
 if (TPin.Clock x0)=true then
 some Bool.false
 else
 (impl_within (TArc.Sense a1) 1 3).bind fun within0 =>
 some within0
 else
 if TArc.Kind a1=2 then
 if TArc.Kind a1=2 then
 (atI (TCell.Pins a0) (TArc.From a1)).bind fun x0 =>
 if (TPin.Clock x0)=true then
 some (Decidable.decide (TArc.Sense a1=0))
 else
 some Bool.false
 else
 some Bool.false
 else
 if TArc.Kind a1=3 then
 (atI (TCell.Pins a0) (TArc.From a1)).bind fun x0 =>
 if (TPin.Clock x0)=true then
 some (Decidable.decide (TArc.Sense a1=0))
 else
 some Bool.false
 else
 some Bool.false
 else
 some Bool.false
 else
 some Bool.false
 else
 some Bool.false
 else
 some Bool.false
noncomputable def c100:Ctr:=⟨[.dat (tCell),.dat (tArc)],[.dat (.bool)],fun a K=>splitK a fun a0 a=>splitK a fun a1 a=>BindP (impl_Cell_isArc a0 a1) fun r=>K (r,()) ()⟩
noncomputable def impl_Cell_areArcs_c1 (o0:TArc) (a0:TArc):Option Bool :=
 if TArc.Kind o0=TArc.Kind a0 then
 if TArc.From o0=TArc.From a0 then
 some (Decidable.decide (TArc.To o0=TArc.To a0))
 else
 some Bool.false
 else
 some Bool.false
noncomputable def c101:Ctr:=⟨[.dat (tArc),.dat (.ptr (tArc))],[.dat (.bool)],fun a K=>splitK a fun o0 a=>splitK a fun a0 a=>BindP (impl_Cell_areArcs_c1 o0 a0) fun r=>K (r,()) ()⟩
noncomputable def slices_IndexFunc_Simpl_Arc_impl_Arc_at_impl_Cell_areArcs_c1_loop0 (s0:List TArc) (f0:TArc×Unit) (v0:Int):Option ((Int×Unit) ⊕ Int) :=
 if v0<(↑(List.length s0):Int) then
 (atI s0 v0).bind fun x0 =>
 (impl_Cell_areArcs_c1 x0 f0.fst).bind fun c1_0 =>
 if c1_0=true then
 some (.inr v0)
 else
 some (.inl (IntKind.i64.wrap (v0+1),()))
 else
 some (.inr (-1))
noncomputable def slices_IndexFunc_Simpl_Arc_impl_Arc_at_impl_Cell_areArcs_c1 (s0:List TArc) (f0:TArc×Unit):Option Int :=
 whileM (fun v=>slices_IndexFunc_Simpl_Arc_impl_Arc_at_impl_Cell_areArcs_c1_loop0 s0 f0 v.1) ((0:Int),())
noncomputable def c102:Ctr:=⟨[.dat (.sl (tArc)),.dat (.fn 222 (.pair (.ptr (tArc)) (.unit)))],[.dat (.int .i64)],fun a K=>splitK a fun s0 a=>splitK a fun f0 a=>BindP (slices_IndexFunc_Simpl_Arc_impl_Arc_at_impl_Cell_areArcs_c1 s0 f0) fun r=>K (r,()) ()⟩
noncomputable def slices_ContainsFunc_Simpl_Arc_impl_Arc_at_impl_Cell_areArcs_c1 (s0:List TArc) (f0:TArc×Unit):Option Bool :=
 (slices_IndexFunc_Simpl_Arc_impl_Arc_at_impl_Cell_areArcs_c1 s0 f0).bind fun c1_0 =>
 some (Decidable.decide (0≤c1_0))
noncomputable def c103:Ctr:=⟨[.dat (.sl (tArc)),.dat (.fn 222 (.pair (.ptr (tArc)) (.unit)))],[.dat (.bool)],fun a K=>splitK a fun s0 a=>splitK a fun f0 a=>BindP (slices_ContainsFunc_Simpl_Arc_impl_Arc_at_impl_Cell_areArcs_c1 s0 f0) fun r=>K (r,()) ()⟩
noncomputable def impl_Cell_areArcs_loop0 (c0:TCell) (v0:Int):Option ((Int×Unit) ⊕ Bool) :=
 if v0<(↑(List.length (TCell.Arcs c0)):Int) then
 (atI (TCell.Arcs c0) v0).bind fun x0 =>
 (impl_Cell_isArc c0 x0).bind fun isArc0 =>
 if isArc0=true then
 guardO ((0:Int)≤v0) <|
 guardO (v0≤(↑(List.length (TCell.Arcs c0)):Int)) <|
 (slices_ContainsFunc_Simpl_Arc_impl_Arc_at_impl_Cell_areArcs_c1 (List.take (Int.toNat v0-Int.toNat 0) (List.drop (Int.toNat 0) (TCell.Arcs c0))) (x0,())).bind fun c1_0 =>
 if c1_0=true then
 some (.inr Bool.false)
 else
 some (.inl (IntKind.i64.wrap (v0+1),()))
 else
 some (.inr Bool.false)
 else
 some (.inr (Decidable.decide ((↑(List.length (TCell.Arcs c0)):Int)≤8)))
noncomputable def impl_Cell_areArcs (c0:TCell):Option Bool :=
 whileM (fun v=>impl_Cell_areArcs_loop0 c0 v.1) ((0:Int),())
noncomputable def c104:Ctr:=⟨[.dat (tCell)],[.dat (.bool)],fun a K=>splitK a fun c0 a=>BindP (impl_Cell_areArcs c0) fun r=>K (r,()) ()⟩
noncomputable def impl_Cell_has_c1 (a0:TArc) (a1:Int):Option Bool :=
 some (Decidable.decide (TArc.Kind a0=a1))
noncomputable def c105:Ctr:=⟨[.dat (tArc),.dat (.ptr (.int .i64))],[.dat (.bool)],fun a K=>splitK a fun a0 a=>splitK a fun a1 a=>BindP (impl_Cell_has_c1 a0 a1) fun r=>K (r,()) ()⟩
noncomputable def slices_IndexFunc_Simpl_Arc_impl_Arc_at_impl_Cell_has_c1_loop0 (s0:List TArc) (f0:Int×Unit) (v0:Int):Option ((Int×Unit) ⊕ Int) :=
 if v0<(↑(List.length s0):Int) then
 (atI s0 v0).bind fun x0 =>
 (impl_Cell_has_c1 x0 f0.fst).bind fun c1_0 =>
 if c1_0=true then
 some (.inr v0)
 else
 some (.inl (IntKind.i64.wrap (v0+1),()))
 else
 some (.inr (-1))
noncomputable def slices_IndexFunc_Simpl_Arc_impl_Arc_at_impl_Cell_has_c1 (s0:List TArc) (f0:Int×Unit):Option Int :=
 whileM (fun v=>slices_IndexFunc_Simpl_Arc_impl_Arc_at_impl_Cell_has_c1_loop0 s0 f0 v.1) ((0:Int),())
noncomputable def c106:Ctr:=⟨[.dat (.sl (tArc)),.dat (.fn 237 (.pair (.ptr (.int .i64)) (.unit)))],[.dat (.int .i64)],fun a K=>splitK a fun s0 a=>splitK a fun f0 a=>BindP (slices_IndexFunc_Simpl_Arc_impl_Arc_at_impl_Cell_has_c1 s0 f0) fun r=>K (r,()) ()⟩
noncomputable def slices_ContainsFunc_Simpl_Arc_impl_Arc_at_impl_Cell_has_c1 (s0:List TArc) (f0:Int×Unit):Option Bool :=
 (slices_IndexFunc_Simpl_Arc_impl_Arc_at_impl_Cell_has_c1 s0 f0).bind fun c1_0 =>
 some (Decidable.decide (0≤c1_0))
noncomputable def c107:Ctr:=⟨[.dat (.sl (tArc)),.dat (.fn 237 (.pair (.ptr (.int .i64)) (.unit)))],[.dat (.bool)],fun a K=>splitK a fun s0 a=>splitK a fun f0 a=>BindP (slices_ContainsFunc_Simpl_Arc_impl_Arc_at_impl_Cell_has_c1 s0 f0) fun r=>K (r,()) ()⟩
noncomputable def impl_Cell_has (c0:TCell) (kind0:Int):Option Bool :=
 (slices_ContainsFunc_Simpl_Arc_impl_Arc_at_impl_Cell_has_c1 (TCell.Arcs c0) (kind0,())).bind fun c1_0 =>
 some c1_0
noncomputable def c108:Ctr:=⟨[.dat (tCell),.dat (.int .i64)],[.dat (.bool)],fun a K=>splitK a fun c0 a=>splitK a fun kind0 a=>BindP (impl_Cell_has c0 kind0) fun r=>K (r,()) ()⟩
noncomputable def impl_Cell_isOfKind_loop0 (a0:TCell) (v0:Int) (v1:Int):Option ((Int×Int×Unit) ⊕ Bool) :=
 if v1<(↑(List.length (TCell.Pins a0)):Int) then
 (atI (TCell.Pins a0) v1).bind fun x0 =>
 if (TPin.Clock x0)=true then
 some (.inl (IntKind.i64.wrap (v0+1),IntKind.i64.wrap (v1+1),()))
 else
 some (.inl (v0,IntKind.i64.wrap (v1+1),()))
 else
 if TCell.Kind a0=1 then
 if v0=0 then
 (impl_Cell_output a0).bind fun output0 =>
 guardO ((0:Int)≤output0) <|
 if (↑(List.length (TCell.Truth a0)):Int)=IntKind.i64.wrap (1*2 ^ Min.min (Int.toNat output0) (IntKind.bits IntKind.i64)) then
 (impl_areWithin (TCell.Truth a0) 0 1).bind fun areWithin0 =>
 some (.inr areWithin0)
 else
 some (.inr Bool.false)
 else
 some (.inr Bool.false)
 else
 if TCell.Kind a0=2 then
 if v0=1 then
 if (↑(List.length (TCell.Truth a0)):Int)=0 then
 (impl_Cell_has a0 1).bind fun has0 =>
 if has0=true then
 some (.inr Bool.false)
 else
 (impl_Cell_has a0 2).bind fun has1 =>
 (impl_Cell_has a0 3).bind fun has2 =>
 some (.inr (!has1 == has2))
 else
 some (.inr Bool.false)
 else
 some (.inr Bool.false)
 else
 if TCell.Kind a0=3 then
 if v0=1 then
 if (↑(List.length (TCell.Truth a0)):Int)=0 then
 (impl_Cell_has a0 1).bind fun has0 =>
 if has0=true then
 (impl_Cell_has a0 2).bind fun has1 =>
 if has1=true then
 (impl_Cell_has a0 3).bind fun has2 =>
 some (.inr !has2)
 else
 some (.inr Bool.false)
 else
 some (.inr Bool.false)
 else
 some (.inr Bool.false)
 else
 some (.inr Bool.false)
 else
 some (.inr Bool.false)
noncomputable def impl_Cell_isOfKind (a0:TCell):Option Bool :=
 whileM (fun v=>impl_Cell_isOfKind_loop0 a0 v.1 v.2.1) ((0:Int),(0:Int),())
noncomputable def c109:Ctr:=⟨[.dat (tCell)],[.dat (.bool)],fun a K=>splitK a fun a0 a=>BindP (impl_Cell_isOfKind a0) fun r=>K (r,()) ()⟩
noncomputable def impl_IsCell (c0:TCell):Option Bool :=
 (impl_isName (TCell.Name c0)).bind fun isName0 =>
 if isName0=true then
 (impl_arePins (TCell.Pins c0)).bind fun arePins0 =>
 if arePins0=true then
 (impl_Cell_areArcs c0).bind fun areArcs0 =>
 if areArcs0=true then
 (impl_within (TCell.Leak c0) 0 100000).bind fun within0 =>
 if within0=true then
 (impl_within (TCell.Energy c0) 0 100000).bind fun within1 =>
 if within1=true then
 (impl_Cell_isOfKind c0).bind fun isOfKind0 =>
 some isOfKind0
 else
 some Bool.false
 else
 some Bool.false
 else
 some Bool.false
 else
 some Bool.false
 else
 some Bool.false
noncomputable def c110:Ctr:=⟨[.dat (tCell)],[.dat (.bool)],fun a K=>splitK a fun c0 a=>BindP (impl_IsCell c0) fun r=>K (r,()) ()⟩
noncomputable def impl_IsLibrary_loop0 (l0:TLibrary) (names0:List (List UInt8)) (v0:Int):Option (((List (List UInt8))×Int×Unit) ⊕ Bool) :=
 if v0<(↑(List.length (TLibrary.Cells l0)):Int) then
 (atI (TLibrary.Cells l0) v0).bind fun x0 =>
 (impl_IsCell x0).bind fun IsCell0 =>
 if IsCell0=true then
 guardO ((List.length names0+List.length [TCell.Name x0])*(16:Nat)≤(140737488355328:Nat)) <|
 some (.inl (names0++[TCell.Name x0],IntKind.i64.wrap (v0+(1:Int)),()))
 else
 some (.inr Bool.false)
 else
 if (↑(List.length (TLibrary.Cells l0)):Int)≤8 then
 (impl_areNames names0).bind fun areNames0 =>
 some (.inr areNames0)
 else
 some (.inr Bool.false)
noncomputable def impl_IsLibrary (l0:TLibrary):Option Bool :=
 whileM (fun v=>impl_IsLibrary_loop0 l0 v.1 v.2.1) (([]:List (List UInt8)),(0:Int),())
noncomputable def c111:Ctr:=⟨[.dat (tLibrary)],[.dat (.bool)],fun a K=>splitK a fun l0 a=>BindP (impl_IsLibrary l0) fun r=>K (r,()) ()⟩
noncomputable def impl_Design_hasNames_loop0 (d0:TDesign) (instances0:List (List UInt8)) (ports0:List (List UInt8)) (v1:Int):Option (((List (List UInt8))×Int×Unit) ⊕ (((List (List UInt8))×Int×Unit) ⊕ Bool)) :=
 if v1<(↑(List.length (TDesign.Ports d0)):Int) then
 (atI (TDesign.Ports d0) v1).bind fun x0 =>
 guardO ((List.length ports0+List.length [TPort.Name x0])*(16:Nat)≤(140737488355328:Nat)) <|
 some (.inl (ports0++[TPort.Name x0],IntKind.i64.wrap (v1+(1:Int)),()))
 else
 if (↑(List.length instances0):Int)≤14 then
 if (↑(List.length (TDesign.Nets d0)):Int)≤30 then
 if (↑(List.length ports0):Int)≤8 then
 (impl_areNames instances0).bind fun areNames0 =>
 if areNames0=true then
 (impl_areNames (TDesign.Nets d0)).bind fun areNames1 =>
 if areNames1=true then
 (impl_areNames ports0).bind fun areNames2 =>
 some (.inr (.inr areNames2))
 else
 some (.inr (.inr Bool.false))
 else
 some (.inr (.inr Bool.false))
 else
 some (.inr (.inr Bool.false))
 else
 some (.inr (.inr Bool.false))
 else
 some (.inr (.inr Bool.false))
noncomputable def impl_Design_hasNames_loop1 (d0:TDesign) (instances0:List (List UInt8)) (v0:Int):Option (((List (List UInt8))×Int×Unit) ⊕ Bool) :=
 if v0<(↑(List.length (TDesign.Instances d0)):Int) then
 (atI (TDesign.Instances d0) v0).bind fun x0 =>
 guardO ((List.length instances0+List.length [TInstance.Name x0])*(16:Nat)≤(140737488355328:Nat)) <|
 some (.inl (instances0++[TInstance.Name x0],IntKind.i64.wrap (v0+(1:Int)),()))
 else
 whileM (fun v=>impl_Design_hasNames_loop0 d0 instances0 v.1 v.2.1) (([]:List (List UInt8)),(0:Int),())
noncomputable def impl_Design_hasNames (d0:TDesign):Option Bool :=
 whileM (fun v=>impl_Design_hasNames_loop1 d0 v.1 v.2.1) (([]:List (List UInt8)),(0:Int),())
noncomputable def c112:Ctr:=⟨[.dat (tDesign)],[.dat (.bool)],fun a K=>splitK a fun d0 a=>BindP (impl_Design_hasNames d0) fun r=>K (r,()) ()⟩
noncomputable def impl_length_impl_Cell (list0:List TCell):Option Int :=
 some (↑(List.length list0):Int)
noncomputable def c113:Ctr:=⟨[.dat (.sl (tCell))],[.dat (.int .i64)],fun a K=>splitK a fun list0 a=>BindP (impl_length_impl_Cell list0) fun r=>K (r,()) ()⟩
noncomputable def impl_length_string (list0:List (List UInt8)):Option Int :=
 some (↑(List.length list0):Int)
noncomputable def c114:Ctr:=⟨[.dat (.sl (.str))],[.dat (.int .i64)],fun a K=>splitK a fun list0 a=>BindP (impl_length_string list0) fun r=>K (r,()) ()⟩
noncomputable def impl_Design_isNet (d0:TDesign) (net0:Int):Option Bool :=
 (impl_length_string (TDesign.Nets d0)).bind fun string0 =>
 (impl_within net0 0 (IntKind.i64.wrap (string0-1))).bind fun within0 =>
 some within0
noncomputable def c115:Ctr:=⟨[.dat (tDesign),.dat (.int .i64)],[.dat (.bool)],fun a K=>splitK a fun d0 a=>splitK a fun net0 a=>BindP (impl_Design_isNet d0 net0) fun r=>K (r,()) ()⟩
noncomputable def impl_Design_isInstance_c1 (net0:Int) (a0:TDesign):Option Bool :=
 (impl_Design_isNet a0 net0).bind fun isNet0 =>
 some !isNet0
noncomputable def c116:Ctr:=⟨[.dat (.int .i64),.dat (.ptr (tDesign))],[.dat (.bool)],fun a K=>splitK a fun net0 a=>splitK a fun a0 a=>BindP (impl_Design_isInstance_c1 net0 a0) fun r=>K (r,()) ()⟩
noncomputable def slices_IndexFunc_Sint64_int64_at_impl_Design_isInstance_c1_loop0 (s0:List Int) (f0:TDesign×Unit) (v0:Int):Option ((Int×Unit) ⊕ Int) :=
 if v0<(↑(List.length s0):Int) then
 (atI s0 v0).bind fun x0 =>
 (impl_Design_isInstance_c1 x0 f0.fst).bind fun c1_0 =>
 if c1_0=true then
 some (.inr v0)
 else
 some (.inl (IntKind.i64.wrap (v0+1),()))
 else
 some (.inr (-1))
noncomputable def slices_IndexFunc_Sint64_int64_at_impl_Design_isInstance_c1 (s0:List Int) (f0:TDesign×Unit):Option Int :=
 whileM (fun v=>slices_IndexFunc_Sint64_int64_at_impl_Design_isInstance_c1_loop0 s0 f0 v.1) ((0:Int),())
noncomputable def c117:Ctr:=⟨[.dat (.sl (.int .i64)),.dat (.fn 181 (.pair (.ptr (tDesign)) (.unit)))],[.dat (.int .i64)],fun a K=>splitK a fun s0 a=>splitK a fun f0 a=>BindP (slices_IndexFunc_Sint64_int64_at_impl_Design_isInstance_c1 s0 f0) fun r=>K (r,()) ()⟩
noncomputable def slices_ContainsFunc_Sint64_int64_at_impl_Design_isInstance_c1 (s0:List Int) (f0:TDesign×Unit):Option Bool :=
 (slices_IndexFunc_Sint64_int64_at_impl_Design_isInstance_c1 s0 f0).bind fun c1_0 =>
 some (Decidable.decide (0≤c1_0))
noncomputable def c118:Ctr:=⟨[.dat (.sl (.int .i64)),.dat (.fn 181 (.pair (.ptr (tDesign)) (.unit)))],[.dat (.bool)],fun a K=>splitK a fun s0 a=>splitK a fun f0 a=>BindP (slices_ContainsFunc_Sint64_int64_at_impl_Design_isInstance_c1 s0 f0) fun r=>K (r,()) ()⟩
noncomputable def impl_Design_isInstance (d0:TDesign) (l0:TLibrary) (x0:TInstance):Option Bool :=
 (impl_length_impl_Cell (TLibrary.Cells l0)).bind fun Cell0 =>
 (impl_within (TInstance.Cell x0) 0 (IntKind.i64.wrap (Cell0-1))).bind fun within0 =>
 if within0=true then
 (atI (TLibrary.Cells l0) (TInstance.Cell x0)).bind fun x1 =>
 if (↑(List.length (TInstance.Nets x0)):Int)=(↑(List.length (TCell.Pins x1)):Int) then
 (slices_ContainsFunc_Sint64_int64_at_impl_Design_isInstance_c1 (TInstance.Nets x0) (d0,())).bind fun c1_0 =>
 some !c1_0
 else
 some Bool.false
 else
 some Bool.false
noncomputable def c119:Ctr:=⟨[.dat (tDesign),.dat (tLibrary),.dat (tInstance)],[.dat (.bool)],fun a K=>splitK a fun d0 a=>splitK a fun l0 a=>splitK a fun x0 a=>BindP (impl_Design_isInstance d0 l0 x0) fun r=>K (r,()) ()⟩
noncomputable def impl_IsDesign_c1 (n0:Int):Option Bool :=
 some (!Decidable.decide (n0=1))
noncomputable def c120:Ctr:=⟨[.dat (.int .i64)],[.dat (.bool)],fun a K=>splitK a fun n0 a=>BindP (impl_IsDesign_c1 n0) fun r=>K (r,()) ()⟩
noncomputable def slices_IndexFunc_Sint_int_at_impl_IsDesign_c1_loop0 (s0:List Int) (v0:Int):Option ((Int×Unit) ⊕ Int) :=
 if v0<(↑(List.length s0):Int) then
 (atI s0 v0).bind fun x0 =>
 (impl_IsDesign_c1 x0).bind fun c1_0 =>
 if c1_0=true then
 some (.inr v0)
 else
 some (.inl (IntKind.i64.wrap (v0+1),()))
 else
 some (.inr (-1))
noncomputable def slices_IndexFunc_Sint_int_at_impl_IsDesign_c1 (s0:List Int) (f0:Unit):Option Int :=
 whileM (fun v=>slices_IndexFunc_Sint_int_at_impl_IsDesign_c1_loop0 s0 v.1) ((0:Int),())
noncomputable def c121:Ctr:=⟨[.dat (.sl (.int .i64)),.dat (.fn 147 (.unit))],[.dat (.int .i64)],fun a K=>splitK a fun s0 a=>splitK a fun f0 a=>BindP (slices_IndexFunc_Sint_int_at_impl_IsDesign_c1 s0 f0) fun r=>K (r,()) ()⟩
noncomputable def slices_ContainsFunc_Sint_int_at_impl_IsDesign_c1 (s0:List Int) (f0:Unit):Option Bool :=
 (slices_IndexFunc_Sint_int_at_impl_IsDesign_c1 s0 ()).bind fun c1_0 =>
 some (Decidable.decide (0≤c1_0))
noncomputable def c122:Ctr:=⟨[.dat (.sl (.int .i64)),.dat (.fn 147 (.unit))],[.dat (.bool)],fun a K=>splitK a fun s0 a=>splitK a fun f0 a=>BindP (slices_ContainsFunc_Sint_int_at_impl_IsDesign_c1 s0 f0) fun r=>K (r,()) ()⟩
noncomputable def impl_IsDesign_loop0 (a1:TDesign) (v1:Int) (l1:List Int):Option ((Int×(List Int)×Unit) ⊕ ((Int×(List Int)×Unit) ⊕ Bool)) :=
 if v1<(↑(List.length (TDesign.Ports a1)):Int) then
 (atI (TDesign.Ports a1) v1).bind fun x0 =>
 if TPort.Dir x0=1 then
 (impl_Design_isNet a1 (TPort.Net x0)).bind fun isNet0 =>
 if isNet0=true then
 if TPort.Dir x0=1 then
 (atI l1 (TPort.Net x0)).bind fun x1 =>
 some (.inl (IntKind.i64.wrap (v1+1),List.set l1 (Int.toNat (TPort.Net x0)) (IntKind.i64.wrap (x1+1)),()))
 else
 some (.inl (IntKind.i64.wrap (v1+1),l1,()))
 else
 some (.inr (.inr Bool.false))
 else
 if TPort.Dir x0=2 then
 (impl_Design_isNet a1 (TPort.Net x0)).bind fun isNet0 =>
 if isNet0=true then
 if TPort.Dir x0=1 then
 (atI l1 (TPort.Net x0)).bind fun x1 =>
 some (.inl (IntKind.i64.wrap (v1+1),List.set l1 (Int.toNat (TPort.Net x0)) (IntKind.i64.wrap (x1+1)),()))
 else
 some (.inl (IntKind.i64.wrap (v1+1),l1,()))
 else
 some (.inr (.inr Bool.false))
 else
 some (.inr (.inr Bool.false))
 else
 (slices_ContainsFunc_Sint_int_at_impl_IsDesign_c1 l1 ()).bind fun c1_0 =>
 some (.inr (.inr !c1_0))
noncomputable def impl_IsDesign_loop1 (a0:TLibrary) (a1:TDesign) (v0:Int) (l0:List Int):Option ((Int×(List Int)×Unit) ⊕ Bool) :=
 if v0<(↑(List.length (TDesign.Instances a1)):Int) then
 (atI (TDesign.Instances a1) v0).bind fun x0 =>
 (impl_Design_isInstance a1 a0 x0).bind fun isInstance0 =>
 if isInstance0=true then
 (atI (TInstance.Nets x0) (IntKind.i64.wrap ((↑(List.length (TInstance.Nets x0)):Int)-1))).bind fun x1 =>
 (atI l0 x1).bind fun x2 =>
 some (.inl (IntKind.i64.wrap (v0+1),List.set l0 (Int.toNat x1) (IntKind.i64.wrap (x2+1)),()))
 else
 some (.inr Bool.false)
 else
 whileM (fun v=>impl_IsDesign_loop0 a1 v.1 v.2.1) ((0:Int),l0,())
noncomputable def impl_IsDesign (a0:TLibrary) (a1:TDesign):Option Bool :=
 (impl_IsLibrary a0).bind fun IsLibrary0 =>
 if IsLibrary0=true then
 (impl_Design_hasNames a1).bind fun hasNames0 =>
 if hasNames0=true then
 guardO ((0:Int)≤(↑(List.length (TDesign.Nets a1)):Int)) <|
 guardO ((↑(List.length (TDesign.Nets a1)):Int)≤(↑(List.length (TDesign.Nets a1)):Int)) <|
 guardO ((↑(List.length (TDesign.Nets a1)):Int)≤(4611686018427387904:Int)) <|
 guardO ((↑(8:Nat):Int)*(↑(List.length (TDesign.Nets a1)):Int)≤(281474976710656:Int)) <|
 whileM (fun v=>impl_IsDesign_loop1 a0 a1 v.1 v.2.1) ((0:Int),List.replicate (Int.toNat (↑(List.length (TDesign.Nets a1)):Int)) (0:Int),())
 else
 some Bool.false
 else
 some Bool.false
noncomputable def c123:Ctr:=⟨[.dat (tLibrary),.dat (tDesign)],[.dat (.bool)],fun a K=>splitK a fun a0 a=>splitK a fun a1 a=>BindP (impl_IsDesign a0 a1) fun r=>K (r,()) ()⟩
noncomputable def impl_Design_places_loop0 (v0:Int) (x0:TInstance) (list1:List Tplace) (v1:Int):Option (((List Tplace)×Int×Unit) ⊕ (((List Tplace)×Int×Unit) ⊕ List Tplace)) :=
 if v1<(↑(List.length (TInstance.Nets x0)):Int) then
 (atI (TInstance.Nets x0) v1).bind fun x1 =>
 guardO ((List.length list1+List.length [(v0,v1,x1,Decidable.decide (v1=IntKind.i64.wrap ((↑(List.length (TInstance.Nets x0)):Int)-(1:Int))),())])*(32:Nat)≤(140737488355328:Nat)) <|
 some (.inl (list1++[(v0,v1,x1,Decidable.decide (v1=IntKind.i64.wrap ((↑(List.length (TInstance.Nets x0)):Int)-(1:Int))),())],IntKind.i64.wrap (v1+(1:Int)),()))
 else
 some (.inr (.inl (list1,IntKind.i64.wrap (v0+1),())))
noncomputable def impl_Design_places_loop1 (d0:TDesign) (list1:List Tplace) (v1:Int):Option (((List Tplace)×Int×Unit) ⊕ (((List Tplace)×Int×Unit) ⊕ List Tplace)) :=
 if v1<(↑(List.length (TDesign.Ports d0)):Int) then
 (atI (TDesign.Ports d0) v1).bind fun x0 =>
 guardO ((List.length list1+List.length [((-1:Int),v1,TPort.Net x0,Decidable.decide (TPort.Dir x0=(1:Int)),())])*(32:Nat)≤(140737488355328:Nat)) <|
 some (.inl (list1++[((-1:Int),v1,TPort.Net x0,Decidable.decide (TPort.Dir x0=(1:Int)),())],IntKind.i64.wrap (v1+(1:Int)),()))
 else
 some (.inr (.inr list1))
noncomputable def impl_Design_places_loop2 (d0:TDesign) (list0:List Tplace) (v0:Int):Option (((List Tplace)×Int×Unit) ⊕ List Tplace) :=
 if v0<(↑(List.length (TDesign.Instances d0)):Int) then
 (atI (TDesign.Instances d0) v0).bind fun x0 =>
 whileM (fun v=>impl_Design_places_loop0 v0 x0 v.1 v.2.1) (list0,(0:Int),())
 else
 whileM (fun v=>impl_Design_places_loop1 d0 v.1 v.2.1) (list0,(0:Int),())
noncomputable def impl_Design_places (d0:TDesign):Option (List Tplace) :=
 whileM (fun v=>impl_Design_places_loop2 d0 v.1 v.2.1) (([]:List Tplace),(0:Int),())
noncomputable def c124:Ctr:=⟨[.dat (tDesign)],[.own (.ol 109 (.flat (tplace)))],fun a K=>splitK a fun d0 a=>BindP (impl_Design_places d0) fun r=>K (r,()) ()⟩
noncomputable def impl_Wire_isTree_loop0 (w0:TWire) (v0:Int):Option ((Int×Unit) ⊕ Bool) :=
 if v0<(↑(List.length (TWire.Parent w0)):Int) then
 (atI (TWire.Parent w0) v0).bind fun x0 =>
 if v0=0 then
 if x0=(-1) then
 (atI (TWire.Res w0) 0).bind fun x1 =>
 if x1=0 then
 if 0<v0 then
 (impl_within x0 0 (IntKind.i64.wrap (v0-1))).bind fun within0 =>
 if within0=true then
 some (.inl (IntKind.i64.wrap (v0+1),()))
 else
 some (.inr Bool.false)
 else
 some (.inl (IntKind.i64.wrap (v0+1),()))
 else
 some (.inr Bool.false)
 else
 some (.inr Bool.false)
 else
 if 0<v0 then
 (impl_within x0 0 (IntKind.i64.wrap (v0-1))).bind fun within0 =>
 if within0=true then
 some (.inl (IntKind.i64.wrap (v0+1),()))
 else
 some (.inr Bool.false)
 else
 some (.inl (IntKind.i64.wrap (v0+1),()))
 else
 some (.inr Bool.true)
noncomputable def impl_Wire_isTree (w0:TWire):Option Bool :=
 whileM (fun v=>impl_Wire_isTree_loop0 w0 v.1) ((0:Int),())
noncomputable def c125:Ctr:=⟨[.dat (tWire)],[.dat (.bool)],fun a K=>splitK a fun w0 a=>BindP (impl_Wire_isTree w0) fun r=>K (r,()) ()⟩
noncomputable def impl_IsWire (w0:TWire) (sinks0:Int):Option Bool :=
 (impl_length_int64 (TWire.Parent w0)).bind fun int64_0 =>
 (impl_within int64_0 1 8).bind fun within0 =>
 if within0=true then
 (impl_length_int64 (TWire.Res w0)).bind fun int64_1 =>
 if int64_1=int64_0 then
 (impl_length_int64 (TWire.Cap w0)).bind fun int64_2 =>
 if int64_2=int64_0 then
 (impl_Wire_isTree w0).bind fun isTree0 =>
 if isTree0=true then
 (impl_areWithin (TWire.Res w0) 0 1000).bind fun areWithin0 =>
 if areWithin0=true then
 (impl_areWithin (TWire.Cap w0) 0 500).bind fun areWithin1 =>
 if areWithin1=true then
 (impl_length_int64 (TWire.Sink w0)).bind fun int64_3 =>
 if int64_3=sinks0 then
 (impl_areWithin (TWire.Sink w0) 0 (IntKind.i64.wrap (int64_0-1))).bind fun areWithin2 =>
 some areWithin2
 else
 some Bool.false
 else
 some Bool.false
 else
 some Bool.false
 else
 some Bool.false
 else
 some Bool.false
 else
 some Bool.false
 else
 some Bool.false
noncomputable def c126:Ctr:=⟨[.dat (tWire),.dat (.int .i64)],[.dat (.bool)],fun a K=>splitK a fun w0 a=>splitK a fun sinks0 a=>BindP (impl_IsWire w0 sinks0) fun r=>K (r,()) ()⟩
noncomputable def impl_IsBlock_loop0 (b0:TBlock) (l0:List Int) (v1:Int):Option ((Int×Unit) ⊕ ((Int×(List Int)×Unit) ⊕ Bool)) :=
 if v1<(↑(List.length (TBlock.Wires b0)):Int) then
 (atI (TBlock.Wires b0) v1).bind fun x0 =>
 (atI l0 v1).bind fun x1 =>
 (impl_IsWire x0 x1).bind fun IsWire0 =>
 if IsWire0=true then
 some (.inl (IntKind.i64.wrap (v1+1),()))
 else
 some (.inr (.inr Bool.false))
 else
 some (.inr (.inr Bool.true))
noncomputable def impl_IsBlock_loop1 (b0:TBlock) (places0:List Tplace) (v0:Int) (l0:List Int):Option ((Int×(List Int)×Unit) ⊕ Bool) :=
 if v0<(↑(List.length places0):Int) then
 (atI places0 v0).bind fun x0 =>
 if (Tplace.drives x0)=true then
 some (.inl (IntKind.i64.wrap (v0+1),l0,()))
 else
 (atI l0 (Tplace.net x0)).bind fun x1 =>
 some (.inl (IntKind.i64.wrap (v0+1),List.set l0 (Int.toNat (Tplace.net x0)) (IntKind.i64.wrap (x1+1)),()))
 else
 whileM (fun v=>impl_IsBlock_loop0 b0 l0 v.1) ((0:Int),())
noncomputable def impl_IsBlock (b0:TBlock):Option Bool :=
 (impl_IsDesign (TBlock.Library b0) (TBlock.Design b0)).bind fun IsDesign0 =>
 if IsDesign0=true then
 if (↑(List.length (TBlock.Wires b0)):Int)=(↑(List.length (TDesign.Nets (TBlock.Design b0))):Int) then
 guardO ((0:Int)≤(↑(List.length (TBlock.Wires b0)):Int)) <|
 guardO ((↑(List.length (TBlock.Wires b0)):Int)≤(↑(List.length (TBlock.Wires b0)):Int)) <|
 guardO ((↑(List.length (TBlock.Wires b0)):Int)≤(4611686018427387904:Int)) <|
 guardO ((↑(8:Nat):Int)*(↑(List.length (TBlock.Wires b0)):Int)≤(281474976710656:Int)) <|
 (impl_Design_places (TBlock.Design b0)).bind fun places0 =>
 whileM (fun v=>impl_IsBlock_loop1 b0 places0 v.1 v.2.1) ((0:Int),List.replicate (Int.toNat (↑(List.length (TBlock.Wires b0)):Int)) (0:Int),())
 else
 some Bool.false
 else
 some Bool.false
noncomputable def c127:Ctr:=⟨[.dat (tBlock)],[.dat (.bool)],fun a K=>splitK a fun b0 a=>BindP (impl_IsBlock b0) fun r=>K (r,()) ()⟩
noncomputable def impl_Edit_own (e0:TEdit):Option TEdit :=
 if TEdit.Kind e0=1 then
 some (TEdit.Kind e0,TEdit.Place e0,TEdit.Cell e0,(0:Int),(0:Int),([]:List UInt8),(([]:List Int),([]:List Int),([]:List Int),([]:List Int),()),())
 else
 if TEdit.Kind e0=2 then
 some (TEdit.Kind e0,TEdit.Place e0,TEdit.Cell e0,(0:Int),(0:Int),TEdit.Name e0,(([]:List Int),([]:List Int),([]:List Int),([]:List Int),()),())
 else
 if TEdit.Kind e0=4 then
 some (TEdit.Kind e0,TEdit.Place e0,(0:Int),TEdit.Net e0,TEdit.Node e0,([]:List UInt8),(([]:List Int),([]:List Int),([]:List Int),([]:List Int),()),())
 else
 if TEdit.Kind e0=5 then
 some (TEdit.Kind e0,(0:Int),(0:Int),TEdit.Net e0,(0:Int),([]:List UInt8),e0.snd.snd.snd.snd.snd.snd)
 else
 some (TEdit.Kind e0,(0:Int),(0:Int),(0:Int),(0:Int),([]:List UInt8),(([]:List Int),([]:List Int),([]:List Int),([]:List Int),()),())
noncomputable def c128:Ctr:=⟨[.dat (tEdit)],[.dat (tEdit)],fun a K=>splitK a fun e0 a=>BindP (impl_Edit_own e0) fun r=>K (r,()) ()⟩
noncomputable def slices_Equal_Sint64_int64_loop0 (s1_0:List Int) (s2_0:List Int) (v0:Int):Option ((Int×Unit) ⊕ Bool) :=
 if v0<(↑(List.length s1_0):Int) then
 (atI s1_0 v0).bind fun x0 =>
 (atI s2_0 v0).bind fun x1 =>
 if x0=x1 then
 some (.inl (IntKind.i64.wrap (v0+1),()))
 else
 some (.inr Bool.false)
 else
 some (.inr Bool.true)
noncomputable def slices_Equal_Sint64_int64 (s1_0:List Int) (s2_0:List Int):Option Bool :=
 if (↑(List.length s1_0):Int)=(↑(List.length s2_0):Int) then
 whileM (fun v=>slices_Equal_Sint64_int64_loop0 s1_0 s2_0 v.1) ((0:Int),())
 else
 some Bool.false
noncomputable def c129:Ctr:=⟨[.dat (.sl (.int .i64)),.dat (.sl (.int .i64))],[.dat (.bool)],fun a K=>splitK a fun s1_0 a=>splitK a fun s2_0 a=>BindP (slices_Equal_Sint64_int64 s1_0 s2_0) fun r=>K (r,()) ()⟩
noncomputable def impl_sameWire (a0:TWire) (b0:TWire):Option Bool :=
 (slices_Equal_Sint64_int64 (TWire.Parent a0) (TWire.Parent b0)).bind fun int64_0 =>
 if int64_0=true then
 (slices_Equal_Sint64_int64 (TWire.Res a0) (TWire.Res b0)).bind fun int64_1 =>
 if int64_1=true then
 (slices_Equal_Sint64_int64 (TWire.Cap a0) (TWire.Cap b0)).bind fun int64_2 =>
 if int64_2=true then
 (slices_Equal_Sint64_int64 (TWire.Sink a0) (TWire.Sink b0)).bind fun int64_3 =>
 some int64_3
 else
 some Bool.false
 else
 some Bool.false
 else
 some Bool.false
noncomputable def c130:Ctr:=⟨[.dat (tWire),.dat (tWire)],[.dat (.bool)],fun a K=>splitK a fun a0 a=>splitK a fun b0 a=>BindP (impl_sameWire a0 b0) fun r=>K (r,()) ()⟩
noncomputable def impl_sameEdit (a0:TEdit) (b0:TEdit):Option Bool :=
 if TEdit.Kind a0=TEdit.Kind b0 then
 if TEdit.Place a0=TEdit.Place b0 then
 if TEdit.Cell a0=TEdit.Cell b0 then
 if TEdit.Net a0=TEdit.Net b0 then
 if TEdit.Node a0=TEdit.Node b0 then
 if TEdit.Name a0=TEdit.Name b0 then
 (impl_sameWire (TEdit.Wire a0) (TEdit.Wire b0)).bind fun sameWire0 =>
 some sameWire0
 else
 some Bool.false
 else
 some Bool.false
 else
 some Bool.false
 else
 some Bool.false
 else
 some Bool.false
 else
 some Bool.false
noncomputable def c131:Ctr:=⟨[.dat (tEdit),.dat (tEdit)],[.dat (.bool)],fun a K=>splitK a fun a0 a=>splitK a fun b0 a=>BindP (impl_sameEdit a0 b0) fun r=>K (r,()) ()⟩
noncomputable def impl_length_impl_place (list0:List Tplace):Option Int :=
 some (↑(List.length list0):Int)
noncomputable def c132:Ctr:=⟨[.dat (.sl (tplace))],[.dat (.int .i64)],fun a K=>splitK a fun list0 a=>BindP (impl_length_impl_place list0) fun r=>K (r,()) ()⟩
noncomputable def impl_Edit_isInRange (a0:TEdit) (a1:TBlock):Option Bool :=
 (impl_within (TEdit.Kind a0) 1 5).bind fun within0 =>
 if within0=true then
 (impl_Edit_own a0).bind fun own0 =>
 (impl_sameEdit a0 own0).bind fun sameEdit0 =>
 if sameEdit0=true then
 (impl_Design_places (TBlock.Design a1)).bind fun places0 =>
 (impl_length_impl_place places0).bind fun place0 =>
 (impl_within (TEdit.Place a0) 0 (IntKind.i64.wrap (place0-1))).bind fun within1 =>
 if TEdit.Kind a0=1 then
 if TEdit.Kind a0=1 then
 if within1=true then
 (impl_length_impl_Cell (TLibrary.Cells (TBlock.Library a1))).bind fun Cell0 =>
 (impl_within (TEdit.Cell a0) 0 (IntKind.i64.wrap (Cell0-1))).bind fun within2 =>
 some within2
 else
 some Bool.false
 else
 if TEdit.Kind a0=4 then
 if within1=true then
 (impl_Design_isNet (TBlock.Design a1) (TEdit.Net a0)).bind fun isNet0 =>
 if isNet0=true then
 (atI (TBlock.Wires a1) (TEdit.Net a0)).bind fun x0 =>
 (impl_length_int64 (TWire.Parent x0)).bind fun int64_0 =>
 (impl_within (TEdit.Node a0) 0 (IntKind.i64.wrap (int64_0-1))).bind fun within2 =>
 some within2
 else
 some Bool.false
 else
 some Bool.false
 else
 if TEdit.Kind a0=5 then
 (impl_Design_isNet (TBlock.Design a1) (TEdit.Net a0)).bind fun isNet0 =>
 some isNet0
 else
 some Bool.true
 else
 if TEdit.Kind a0=2 then
 if within1=true then
 (impl_length_impl_Cell (TLibrary.Cells (TBlock.Library a1))).bind fun Cell0 =>
 (impl_within (TEdit.Cell a0) 0 (IntKind.i64.wrap (Cell0-1))).bind fun within2 =>
 some within2
 else
 some Bool.false
 else
 if TEdit.Kind a0=4 then
 if within1=true then
 (impl_Design_isNet (TBlock.Design a1) (TEdit.Net a0)).bind fun isNet0 =>
 if isNet0=true then
 (atI (TBlock.Wires a1) (TEdit.Net a0)).bind fun x0 =>
 (impl_length_int64 (TWire.Parent x0)).bind fun int64_0 =>
 (impl_within (TEdit.Node a0) 0 (IntKind.i64.wrap (int64_0-1))).bind fun within2 =>
 some within2
 else
 some Bool.false
 else
 some Bool.false
 else
 if TEdit.Kind a0=5 then
 (impl_Design_isNet (TBlock.Design a1) (TEdit.Net a0)).bind fun isNet0 =>
 some isNet0
 else
 some Bool.true
 else
 some Bool.false
 else
 some Bool.false
noncomputable def c133:Ctr:=⟨[.dat (tEdit),.dat (tBlock)],[.dat (.bool)],fun a K=>splitK a fun a0 a=>splitK a fun a1 a=>BindP (impl_Edit_isInRange a0 a1) fun r=>K (r,()) ()⟩
noncomputable def impl_fitsSwap_c1 (p0:TPin) (q0:TPin):Option Bool :=
 some (TPin.Clock p0 == TPin.Clock q0)
noncomputable def c134:Ctr:=⟨[.dat (tPin),.dat (tPin)],[.dat (.bool)],fun a K=>splitK a fun p0 a=>splitK a fun q0 a=>BindP (impl_fitsSwap_c1 p0 q0) fun r=>K (r,()) ()⟩
noncomputable def slices_EqualFunc_Simpl_Pin_Simpl_Pin_impl_Pin_impl_Pin_at_impl_fitsSwap_c1_loop0 (s1_0:List TPin) (s2_0:List TPin) (v0:Int):Option ((Int×Unit) ⊕ Bool) :=
 if v0<(↑(List.length s1_0):Int) then
 (atI s1_0 v0).bind fun x0 =>
 (atI s2_0 v0).bind fun x1 =>
 (impl_fitsSwap_c1 x0 x1).bind fun c1_0 =>
 if c1_0=true then
 some (.inl (IntKind.i64.wrap (v0+1),()))
 else
 some (.inr Bool.false)
 else
 some (.inr Bool.true)
noncomputable def slices_EqualFunc_Simpl_Pin_Simpl_Pin_impl_Pin_impl_Pin_at_impl_fitsSwap_c1 (s1_0:List TPin) (s2_0:List TPin) (eq0:Unit):Option Bool :=
 if (↑(List.length s1_0):Int)=(↑(List.length s2_0):Int) then
 whileM (fun v=>slices_EqualFunc_Simpl_Pin_Simpl_Pin_impl_Pin_impl_Pin_at_impl_fitsSwap_c1_loop0 s1_0 s2_0 v.1) ((0:Int),())
 else
 some Bool.false
noncomputable def c135:Ctr:=⟨[.dat (.sl (tPin)),.dat (.sl (tPin)),.dat (.fn 186 (.unit))],[.dat (.bool)],fun a K=>splitK a fun s1_0 a=>splitK a fun s2_0 a=>splitK a fun eq0 a=>BindP (slices_EqualFunc_Simpl_Pin_Simpl_Pin_impl_Pin_impl_Pin_at_impl_fitsSwap_c1 s1_0 s2_0 eq0) fun r=>K (r,()) ()⟩
noncomputable def impl_fitsSwap (a0:TCell) (b0:TCell):Option Bool :=
 if TCell.Kind a0=TCell.Kind b0 then
 (slices_EqualFunc_Simpl_Pin_Simpl_Pin_impl_Pin_impl_Pin_at_impl_fitsSwap_c1 (TCell.Pins a0) (TCell.Pins b0) ()).bind fun c1_0 =>
 some c1_0
 else
 some Bool.false
noncomputable def c136:Ctr:=⟨[.dat (tCell),.dat (tCell)],[.dat (.bool)],fun a K=>splitK a fun a0 a=>splitK a fun b0 a=>BindP (impl_fitsSwap a0 b0) fun r=>K (r,()) ()⟩
noncomputable def impl_isBuffer (c0:TCell):Option Bool :=
 if TCell.Kind c0=1 then
 some (Decidable.decide ((↑(List.length (TCell.Pins c0)):Int)=2))
 else
 some Bool.false
noncomputable def c137:Ctr:=⟨[.dat (tCell)],[.dat (.bool)],fun a K=>splitK a fun c0 a=>BindP (impl_isBuffer c0) fun r=>K (r,()) ()⟩
noncomputable def impl_InstanceNamed_c1 (x0:TInstance) (a0:List UInt8):Option Bool :=
 some (Decidable.decide (TInstance.Name x0=a0))
noncomputable def c138:Ctr:=⟨[.dat (tInstance),.dat (.ptr (.str))],[.dat (.bool)],fun a K=>splitK a fun x0 a=>splitK a fun a0 a=>BindP (impl_InstanceNamed_c1 x0 a0) fun r=>K (r,()) ()⟩
noncomputable def slices_IndexFunc_Simpl_Instance_impl_Instance_at_impl_InstanceNamed_c1_loop0 (s0:List TInstance) (f0:List UInt8×Unit) (v0:Int):Option ((Int×Unit) ⊕ Int) :=
 if v0<(↑(List.length s0):Int) then
 (atI s0 v0).bind fun x0 =>
 (impl_InstanceNamed_c1 x0 f0.fst).bind fun c1_0 =>
 if c1_0=true then
 some (.inr v0)
 else
 some (.inl (IntKind.i64.wrap (v0+1),()))
 else
 some (.inr (-1))
noncomputable def slices_IndexFunc_Simpl_Instance_impl_Instance_at_impl_InstanceNamed_c1 (s0:List TInstance) (f0:List UInt8×Unit):Option Int :=
 whileM (fun v=>slices_IndexFunc_Simpl_Instance_impl_Instance_at_impl_InstanceNamed_c1_loop0 s0 f0 v.1) ((0:Int),())
noncomputable def c139:Ctr:=⟨[.dat (.sl (tInstance)),.dat (.fn 190 (.pair (.ptr (.str)) (.unit)))],[.dat (.int .i64)],fun a K=>splitK a fun s0 a=>splitK a fun f0 a=>BindP (slices_IndexFunc_Simpl_Instance_impl_Instance_at_impl_InstanceNamed_c1 s0 f0) fun r=>K (r,()) ()⟩
noncomputable def impl_InstanceNamed (d0:TDesign) (name0:List UInt8):Option Int :=
 (slices_IndexFunc_Simpl_Instance_impl_Instance_at_impl_InstanceNamed_c1 (TDesign.Instances d0) (name0,())).bind fun c1_0 =>
 some c1_0
noncomputable def c140:Ctr:=⟨[.dat (tDesign),.dat (.str)],[.dat (.int .i64)],fun a K=>splitK a fun d0 a=>splitK a fun name0 a=>BindP (impl_InstanceNamed d0 name0) fun r=>K (r,()) ()⟩
noncomputable def impl_Design_netNamed (d0:TDesign) (name0:List UInt8):Option Int :=
 (slices_Index_Sstring_string (TDesign.Nets d0) name0).bind fun string0 =>
 some string0
noncomputable def c141:Ctr:=⟨[.dat (tDesign),.dat (.str)],[.dat (.int .i64)],fun a K=>splitK a fun d0 a=>splitK a fun name0 a=>BindP (impl_Design_netNamed d0 name0) fun r=>K (r,()) ()⟩
noncomputable def impl_Block_canUnbuffer (a0:TBlock):Option Bool :=
 if (↑(List.length (TDesign.Instances (TBlock.Design a0))):Int)=0 then
 some Bool.false
 else
 (atI (TDesign.Instances (TBlock.Design a0)) (IntKind.i64.wrap ((↑(List.length (TDesign.Instances (TBlock.Design a0))):Int)-1))).bind fun x0 =>
 (impl_length_string (TDesign.Nets (TBlock.Design a0))).bind fun string0 =>
 (atI (TLibrary.Cells (TBlock.Library a0)) (TInstance.Cell x0)).bind fun x1 =>
 (impl_isBuffer x1).bind fun isBuffer0 =>
 if isBuffer0=true then
 (atI (TInstance.Nets x0) 1).bind fun x2 =>
 if x2=IntKind.i64.wrap (string0-1) then
 (atI (TInstance.Nets x0) 0).bind fun x3 =>
 if x3=IntKind.i64.wrap (string0-1) then
 some Bool.false
 else
 (atI (TDesign.Nets (TBlock.Design a0)) (IntKind.i64.wrap (string0-1))).bind fun x4 =>
 if x4=TInstance.Name x0 then
 (atI (TBlock.Wires a0) (IntKind.i64.wrap (string0-1))).bind fun x5 =>
 if (↑(List.length (TWire.Sink x5)):Int)=1 then
 if (↑(List.length (TWire.Parent x5)):Int)=1 then
 (atI (TWire.Cap x5) 0).bind fun x6 =>
 some (Decidable.decide (x6=0))
 else
 some Bool.false
 else
 some Bool.false
 else
 some Bool.false
 else
 some Bool.false
 else
 some Bool.false
noncomputable def c142:Ctr:=⟨[.dat (tBlock)],[.dat (.bool)],fun a K=>splitK a fun a0 a=>BindP (impl_Block_canUnbuffer a0) fun r=>K (r,()) ()⟩
noncomputable def impl_Edit_isPossible (a0:TEdit) (a1:TBlock):Option Bool :=
 (impl_Design_places (TBlock.Design a1)).bind fun places0 =>
 if TEdit.Kind a0=1 then
 (atI places0 (TEdit.Place a0)).bind fun x0 =>
 if 0≤Tplace.instance x0 then
 if (Tplace.drives x0)=true then
 (atI (TDesign.Instances (TBlock.Design a1)) (Tplace.instance x0)).bind fun x1 =>
 (atI (TLibrary.Cells (TBlock.Library a1)) (TInstance.Cell x1)).bind fun x2 =>
 (atI (TLibrary.Cells (TBlock.Library a1)) (TEdit.Cell a0)).bind fun x3 =>
 (impl_fitsSwap x2 x3).bind fun fitsSwap0 =>
 some fitsSwap0
 else
 some Bool.false
 else
 some Bool.false
 else
 if TEdit.Kind a0=2 then
 (atI places0 (TEdit.Place a0)).bind fun x0 =>
 if (Tplace.drives x0)=true then
 some Bool.false
 else
 (atI (TLibrary.Cells (TBlock.Library a1)) (TEdit.Cell a0)).bind fun x1 =>
 (impl_isBuffer x1).bind fun isBuffer0 =>
 if isBuffer0=true then
 (impl_isName (TEdit.Name a0)).bind fun isName0 =>
 if isName0=true then
 (impl_InstanceNamed (TBlock.Design a1) (TEdit.Name a0)).bind fun InstanceNamed0 =>
 if InstanceNamed0<0 then
 (impl_Design_netNamed (TBlock.Design a1) (TEdit.Name a0)).bind fun netNamed0 =>
 some (Decidable.decide (netNamed0<0))
 else
 some Bool.false
 else
 some Bool.false
 else
 some Bool.false
 else
 if TEdit.Kind a0=3 then
 (impl_Block_canUnbuffer a1).bind fun canUnbuffer0 =>
 some canUnbuffer0
 else
 if TEdit.Kind a0=4 then
 (atI places0 (TEdit.Place a0)).bind fun x0 =>
 if (Tplace.drives x0)=true then
 some Bool.false
 else
 some (!Decidable.decide (Tplace.net x0=TEdit.Net a0))
 else
 (atI (TBlock.Wires a1) (TEdit.Net a0)).bind fun x0 =>
 (impl_length_int64 (TWire.Sink x0)).bind fun int64_0 =>
 (impl_IsWire (TEdit.Wire a0) int64_0).bind fun IsWire0 =>
 some IsWire0
noncomputable def c143:Ctr:=⟨[.dat (tEdit),.dat (tBlock)],[.dat (.bool)],fun a K=>splitK a fun a0 a=>splitK a fun a1 a=>BindP (impl_Edit_isPossible a0 a1) fun r=>K (r,()) ()⟩
noncomputable def impl_Edit_code (e0:TEdit) (b0:TBlock):Option Int :=
 (impl_Edit_isInRange e0 b0).bind fun isInRange0 =>
 if isInRange0=true then
 (impl_Edit_isPossible e0 b0).bind fun isPossible0 =>
 if isPossible0=true then
 if TEdit.Kind e0=2 then
 if (↑(List.length (TDesign.Instances (TBlock.Design b0))):Int)=14 then
 some 3
 else
 if (↑(List.length (TDesign.Nets (TBlock.Design b0))):Int)=30 then
 some 3
 else
 some 0
 else
 some 0
 else
 some 5
 else
 some 2
noncomputable def c144:Ctr:=⟨[.dat (tEdit),.dat (tBlock)],[.dat (.int .i64)],fun a K=>splitK a fun e0 a=>splitK a fun b0 a=>BindP (impl_Edit_code e0 b0) fun r=>K (r,()) ()⟩
noncomputable def impl_EditCode (b0:TBlock) (e0:TEdit):Option Int :=
 (impl_IsBlock b0).bind fun IsBlock0 =>
 if IsBlock0=true then
 (impl_Edit_code e0 b0).bind fun code0 =>
 some code0
 else
 some 1
noncomputable def c145:Ctr:=⟨[.dat (tBlock),.dat (tEdit)],[.dat (.int .i64)],fun a K=>splitK a fun b0 a=>splitK a fun e0 a=>BindP (impl_EditCode b0 e0) fun r=>K (r,()) ()⟩
noncomputable def slices_Clone_Simpl_Pin_impl_Pin (s0:List TPin):Option (List TPin) :=
 guardO ((List.length (([]:List (List UInt8×Int×Int×Bool×Unit)))+List.length s0)*(40:Nat)≤(140737488355328:Nat)) <|
 some (([]:List (List UInt8×Int×Int×Bool×Unit))++s0)
noncomputable def c146:Ctr:=⟨[.dat (.sl (tPin))],[.own (.ol 180 (.flat (tPin)))],fun a K=>splitK a fun s0 a=>BindP (slices_Clone_Simpl_Pin_impl_Pin s0) fun r=>K (r,()) ()⟩
noncomputable def slices_Clone_Sint64_int64 (s0:List Int):Option (List Int) :=
 guardO ((List.length (([]:List Int))+List.length s0)*(8:Nat)≤(140737488355328:Nat)) <|
 some (([]:List Int)++s0)
noncomputable def c147:Ctr:=⟨[.dat (.sl (.int .i64))],[.own (.ol 2 (.flat (.int .i64)))],fun a K=>splitK a fun s0 a=>BindP (slices_Clone_Sint64_int64 s0) fun r=>K (r,()) ()⟩
noncomputable def slices_Clone_Simpl_Arc_impl_Arc (s0:List TArc):Option (List TArc) :=
 guardO ((List.length (([]:List (Int×Int×Int×Int×List TTable×List TTable×Unit)))+List.length s0)*(80:Nat)≤(140737488355328:Nat)) <|
 some (([]:List (Int×Int×Int×Int×List TTable×List TTable×Unit))++s0)
noncomputable def c148:Ctr:=⟨[.dat (.sl (tArc))],[.own (.ol 200 (.flat (tArc)))],fun a K=>splitK a fun s0 a=>BindP (slices_Clone_Simpl_Arc_impl_Arc s0) fun r=>K (r,()) ()⟩
noncomputable def impl_cloneTables_loop0 (list0:List TTable) (out0:List TTable) (v0:Int):Option (((List TTable)×Int×Unit) ⊕ List TTable) :=
 if v0<(↑(List.length list0):Int) then
 (atI list0 v0).bind fun x0 =>
 (slices_Clone_Sint64_int64 (TTable.Slews x0)).bind fun int64_0 =>
 (slices_Clone_Sint64_int64 (TTable.Loads x0)).bind fun int64_1 =>
 (slices_Clone_Sint64_int64 (TTable.Values x0)).bind fun int64_2 =>
 guardO ((List.length out0+List.length [(int64_0,int64_1,int64_2,())])*(72:Nat)≤(140737488355328:Nat)) <|
 some (.inl (out0++[(int64_0,int64_1,int64_2,())],IntKind.i64.wrap (v0+(1:Int)),()))
 else
 some (.inr out0)
noncomputable def impl_cloneTables (list0:List TTable):Option (List TTable) :=
 whileM (fun v=>impl_cloneTables_loop0 list0 v.1 v.2.1) (([]:List TTable),(0:Int),())
noncomputable def c149:Ctr:=⟨[.dat (.sl (tTable))],[.own (.ol 227 (dTable))],fun a K=>splitK a fun list0 a=>BindP (impl_cloneTables list0) fun r=>K (r,()) ()⟩
noncomputable def impl_cloneLibrary_loop0 (v0:Int) (c0:List TCell) (x0:TCell) (Pin0:List TPin) (int64_0:List Int) (Arc0:List TArc) (v1:Int) (l1:List TArc×Int):Option ((Int×(List TArc×Int)×Unit) ⊕ ((Int×(List TCell)×Unit) ⊕ TLibrary)) :=
 if v1<(↑(List.length Arc0):Int) then
 (atI l1.fst v1).bind fun x1 =>
 guardO (l1.snd≤v1) <|
 (impl_cloneTables (TArc.Delay x1)).bind fun cloneTables0 =>
 (impl_cloneTables (TArc.Slew x1)).bind fun cloneTables1 =>
 guardO (v1=l1.snd) <|
 (atI l1.fst l1.snd).bind fun x2 =>
 some (.inl (IntKind.i64.wrap (v1+1),(List.set l1.fst (Int.toNat l1.snd) (TArc.Kind x2,TArc.From x2,TArc.To x2,TArc.Sense x2,cloneTables0,cloneTables1,()),l1.snd+1),()))
 else
 guardO (l1.snd=(↑(List.length l1.fst):Int)) <|
 guardO ((List.length c0+List.length [(TCell.Name x0,TCell.Kind x0,Pin0,l1.fst,int64_0,x0.snd.snd.snd.snd.snd)])*(112:Nat)≤(140737488355328:Nat)) <|
 some (.inr (.inl (IntKind.i64.wrap (v0+(1:Int)),c0++[(TCell.Name x0,TCell.Kind x0,Pin0,l1.fst,int64_0,x0.snd.snd.snd.snd.snd)],())))
noncomputable def impl_cloneLibrary_loop1 (l0:TLibrary) (v0:Int) (c0:List TCell):Option ((Int×(List TCell)×Unit) ⊕ TLibrary) :=
 if v0<(↑(List.length (TLibrary.Cells l0)):Int) then
 (atI (TLibrary.Cells l0) v0).bind fun x0 =>
 (slices_Clone_Simpl_Pin_impl_Pin (TCell.Pins x0)).bind fun Pin0 =>
 (slices_Clone_Sint64_int64 (TCell.Truth x0)).bind fun int64_0 =>
 (slices_Clone_Simpl_Arc_impl_Arc (TCell.Arcs x0)).bind fun Arc0 =>
 whileM (fun v=>impl_cloneLibrary_loop0 v0 c0 x0 Pin0 int64_0 Arc0 v.1 v.2.1) ((0:Int),(Arc0,(0:Int)),())
 else
 some (.inr (c0,()))
noncomputable def impl_cloneLibrary (l0:TLibrary):Option TLibrary :=
 whileM (fun v=>impl_cloneLibrary_loop1 l0 v.1 v.2.1) ((0:Int),([]:List TCell),())
noncomputable def c150:Ctr:=⟨[.dat (tLibrary)],[.own (dLibrary)],fun a K=>splitK a fun l0 a=>BindP (impl_cloneLibrary l0) fun r=>K (r,()) ()⟩
noncomputable def slices_Clone_Simpl_Instance_impl_Instance (s0:List TInstance):Option (List TInstance) :=
 guardO ((List.length (([]:List (List UInt8×Int×List Int×Unit)))+List.length s0)*(48:Nat)≤(140737488355328:Nat)) <|
 some (([]:List (List UInt8×Int×List Int×Unit))++s0)
noncomputable def c151:Ctr:=⟨[.dat (.sl (tInstance))],[.own (.ol 96 (.flat (tInstance)))],fun a K=>splitK a fun s0 a=>BindP (slices_Clone_Simpl_Instance_impl_Instance s0) fun r=>K (r,()) ()⟩
noncomputable def slices_Clone_Sstring_string (s0:List (List UInt8)):Option (List (List UInt8)) :=
 guardO ((List.length (([]:List (List UInt8)))+List.length s0)*(16:Nat)≤(140737488355328:Nat)) <|
 some (([]:List (List UInt8))++s0)
noncomputable def c152:Ctr:=⟨[.dat (.sl (.str))],[.own (.ol 9 (.flat (.str)))],fun a K=>splitK a fun s0 a=>BindP (slices_Clone_Sstring_string s0) fun r=>K (r,()) ()⟩
noncomputable def slices_Clone_Simpl_Port_impl_Port (s0:List TPort):Option (List TPort) :=
 guardO ((List.length (([]:List (List UInt8×Int×Int×Unit)))+List.length s0)*(32:Nat)≤(140737488355328:Nat)) <|
 some (([]:List (List UInt8×Int×Int×Unit))++s0)
noncomputable def c153:Ctr:=⟨[.dat (.sl (tPort))],[.own (.ol 154 (.flat (tPort)))],fun a K=>splitK a fun s0 a=>BindP (slices_Clone_Simpl_Port_impl_Port s0) fun r=>K (r,()) ()⟩
noncomputable def impl_Design_clone_loop0 (Instance0:List TInstance) (string0:List (List UInt8)) (Port0:List TPort) (v0:Int) (l0:List TInstance×Int):Option ((Int×(List TInstance×Int)×Unit) ⊕ TDesign) :=
 if v0<(↑(List.length Instance0):Int) then
 (atI l0.fst v0).bind fun x0 =>
 guardO (l0.snd≤v0) <|
 (slices_Clone_Sint64_int64 (TInstance.Nets x0)).bind fun int64_0 =>
 guardO (v0=l0.snd) <|
 (atI l0.fst l0.snd).bind fun x1 =>
 some (.inl (IntKind.i64.wrap (v0+1),(List.set l0.fst (Int.toNat l0.snd) (TInstance.Name x1,TInstance.Cell x1,int64_0,()),l0.snd+1),()))
 else
 guardO (l0.snd=(↑(List.length l0.fst):Int)) <|
 some (.inr (l0.fst,string0,Port0,()))
noncomputable def impl_Design_clone (d0:TDesign):Option TDesign :=
 (slices_Clone_Simpl_Instance_impl_Instance (TDesign.Instances d0)).bind fun Instance0 =>
 (slices_Clone_Sstring_string (TDesign.Nets d0)).bind fun string0 =>
 (slices_Clone_Simpl_Port_impl_Port (TDesign.Ports d0)).bind fun Port0 =>
 whileM (fun v=>impl_Design_clone_loop0 Instance0 string0 Port0 v.1 v.2.1) ((0:Int),(Instance0,(0:Int)),())
noncomputable def c154:Ctr:=⟨[.dat (tDesign)],[.own (dDesign)],fun a K=>splitK a fun d0 a=>BindP (impl_Design_clone d0) fun r=>K (r,()) ()⟩
noncomputable def impl_Wire_clone (w0:TWire):Option TWire :=
 (slices_Clone_Sint64_int64 (TWire.Parent w0)).bind fun int64_0 =>
 (slices_Clone_Sint64_int64 (TWire.Res w0)).bind fun int64_1 =>
 (slices_Clone_Sint64_int64 (TWire.Cap w0)).bind fun int64_2 =>
 (slices_Clone_Sint64_int64 (TWire.Sink w0)).bind fun int64_3 =>
 some (int64_0,int64_1,int64_2,int64_3,())
noncomputable def c155:Ctr:=⟨[.dat (tWire)],[.own (dWire)],fun a K=>splitK a fun w0 a=>BindP (impl_Wire_clone w0) fun r=>K (r,()) ()⟩
noncomputable def impl_Block_clone_loop0 (b0:TBlock) (cloneLibrary0:TLibrary) (clone0:TDesign) (v0:Int) (c0:List TWire):Option ((Int×(List TWire)×Unit) ⊕ TBlock) :=
 if v0<(↑(List.length (TBlock.Wires b0)):Int) then
 (atI (TBlock.Wires b0) v0).bind fun x0 =>
 (impl_Wire_clone x0).bind fun clone1 =>
 guardO ((List.length c0+List.length [clone1])*(96:Nat)≤(140737488355328:Nat)) <|
 some (.inl (IntKind.i64.wrap (v0+(1:Int)),c0++[clone1],()))
 else
 some (.inr (cloneLibrary0,clone0,c0,()))
noncomputable def impl_Block_clone (b0:TBlock):Option TBlock :=
 (impl_cloneLibrary (TBlock.Library b0)).bind fun cloneLibrary0 =>
 (impl_Design_clone (TBlock.Design b0)).bind fun clone0 =>
 whileM (fun v=>impl_Block_clone_loop0 b0 cloneLibrary0 clone0 v.1 v.2.1) ((0:Int),([]:List TWire),())
noncomputable def c156:Ctr:=⟨[.dat (tBlock)],[.own (dBlock)],fun a K=>splitK a fun b0 a=>BindP (impl_Block_clone b0) fun r=>K (r,()) ()⟩
noncomputable def impl_Block_nodesOf_loop0 (b0:TBlock) (places0:List Tplace) (v0:Int) (m0:List ((Int×Int×Unit)×Int)) (l0:List Int):Option ((Int×(List ((Int×Int×Unit)×Int))×(List Int)×Unit) ⊕ List (TpinKey×Int)) :=
 if v0<(↑(List.length places0):Int) then
 (atI places0 v0).bind fun x0 =>
 if (Tplace.drives x0)=true then
 some (.inl (IntKind.i64.wrap (v0+1),m0,l0,()))
 else
 (atI (TBlock.Wires b0) (Tplace.net x0)).bind fun x1 =>
 (atI l0 (Tplace.net x0)).bind fun x2 =>
 (atI (TWire.Sink x1) x2).bind fun x3 =>
 some (.inl (IntKind.i64.wrap (v0+1),mput ti117.ty ti117.ety m0 (Tplace.instance x0,Tplace.pin x0,()) x3,List.set l0 (Int.toNat (Tplace.net x0)) (IntKind.i64.wrap (x2+1)),()))
 else
 some (.inr m0)
noncomputable def impl_Block_nodesOf (b0:TBlock):Option (List (TpinKey×Int)) :=
 guardO ((0:Int)≤(↑(List.length (TBlock.Wires b0)):Int)) <|
 guardO ((↑(List.length (TBlock.Wires b0)):Int)≤(↑(List.length (TBlock.Wires b0)):Int)) <|
 guardO ((↑(List.length (TBlock.Wires b0)):Int)≤(4611686018427387904:Int)) <|
 guardO ((↑(8:Nat):Int)*(↑(List.length (TBlock.Wires b0)):Int)≤(281474976710656:Int)) <|
 (impl_Design_places (TBlock.Design b0)).bind fun places0 =>
 whileM (fun v=>impl_Block_nodesOf_loop0 b0 places0 v.1 v.2.1 v.2.2.1) ((0:Int),([]:List ((Int×Int×Unit)×Int)),List.replicate (Int.toNat (↑(List.length (TBlock.Wires b0)):Int)) (0:Int),())
noncomputable def c157:Ctr:=⟨[.dat (tBlock)],[.own (.mp (tpinKey) (.int .i64))],fun a K=>splitK a fun b0 a=>BindP (impl_Block_nodesOf b0) fun r=>K (r,()) ()⟩
noncomputable def impl_Design_sinks_loop0 (net0:Int) (places0:List Tplace) (list0:List Int) (v0:Int):Option (((List Int)×Int×Unit) ⊕ List Int) :=
 if v0<(↑(List.length places0):Int) then
 (atI places0 v0).bind fun x0 =>
 if Tplace.net x0=net0 then
 if (Tplace.drives x0)=true then
 some (.inl (list0,IntKind.i64.wrap (v0+1),()))
 else
 guardO ((List.length list0+List.length [v0])*(8:Nat)≤(140737488355328:Nat)) <|
 some (.inl (list0++[v0],IntKind.i64.wrap (v0+(1:Int)),()))
 else
 some (.inl (list0,IntKind.i64.wrap (v0+1),()))
 else
 some (.inr list0)
noncomputable def impl_Design_sinks (d0:TDesign) (net0:Int):Option (List Int) :=
 (impl_Design_places d0).bind fun places0 =>
 whileM (fun v=>impl_Design_sinks_loop0 net0 places0 v.1 v.2.1) (([]:List Int),(0:Int),())
noncomputable def c158:Ctr:=⟨[.dat (tDesign),.dat (.int .i64)],[.own (.ol 2 (.flat (.int .i64)))],fun a K=>splitK a fun d0 a=>splitK a fun net0 a=>BindP (impl_Design_sinks d0 net0) fun r=>K (r,()) ()⟩
noncomputable def impl_Block_setNet (b0:TBlock) (key0:TpinKey) (net0:Int):Option TBlock :=
 if TpinKey.instance key0<0 then
 (atI (TDesign.Ports (TBlock.Design b0)) (TpinKey.pin key0)).bind fun x0 =>
 some (TBlock.Library b0,(TDesign.Instances (TBlock.Design b0),TDesign.Nets (TBlock.Design b0),List.set (TDesign.Ports (TBlock.Design b0)) (Int.toNat (TpinKey.pin key0)) (TPort.Name x0,TPort.Dir x0,net0,()),()),b0.snd.snd)
 else
 (atI (TDesign.Instances (TBlock.Design b0)) (TpinKey.instance key0)).bind fun x0 =>
 (atI x0.snd.snd.fst (TpinKey.pin key0)).bind fun x1 =>
 some (TBlock.Library b0,(List.set (TDesign.Instances (TBlock.Design b0)) (Int.toNat (TpinKey.instance key0)) (x0.fst,x0.snd.fst,List.set x0.snd.snd.fst (Int.toNat (TpinKey.pin key0)) net0,()),(TBlock.Design b0).snd),b0.snd.snd)
noncomputable def c159:Ctr:=⟨[.io (dBlock),.dat (tpinKey),.dat (.int .i64)],[],fun a K=>splitK a fun b0 a=>splitK a fun key0 a=>splitK a fun net0 a=>BindP (impl_Block_setNet b0 key0 net0) fun r=>K () (r,())⟩
noncomputable def impl_Block_connect_loop0 (b0:TBlock) (nodes0:List (TpinKey×Int)) (places0:List Tplace) (v1:Int) (l1:List (List Int×List Int×List Int×List Int×Unit)):Option ((Int×(List (List Int×List Int×List Int×List Int×Unit))×Unit) ⊕ ((Int×(List (List Int×List Int×List Int×List Int×Unit))×Unit) ⊕ TBlock)) :=
 if v1<(↑(List.length places0):Int) then
 (atI places0 v1).bind fun x0 =>
 if (Tplace.drives x0)=true then
 some (.inl (IntKind.i64.wrap (v1+1),l1,()))
 else
 (atI l1 (Tplace.net x0)).bind fun x1 =>
 guardO ((List.length x1.snd.snd.snd.fst+List.length [Option.getD (mget tpinKey (Ty.int IntKind.i64) nodes0 (Tplace.instance x0,Tplace.pin x0,())) (0:Int)])*(8:Nat)≤(140737488355328:Nat)) <|
 some (.inl (IntKind.i64.wrap (v1+(1:Int)),List.set l1 (Int.toNat (Tplace.net x0)) (x1.fst,x1.snd.fst,x1.snd.snd.fst,x1.snd.snd.snd.fst++[Option.getD (mget tpinKey (Ty.int IntKind.i64) nodes0 (Tplace.instance x0,Tplace.pin x0,())) (0:Int)],()),()))
 else
 some (.inr (.inr (TBlock.Library b0,TBlock.Design b0,l1,())))
noncomputable def impl_Block_connect_loop1 (b0:TBlock) (nodes0:List (TpinKey×Int)) (v0:Int) (l0:List (List Int×List Int×List Int×List Int×Unit)):Option ((Int×(List (List Int×List Int×List Int×List Int×Unit))×Unit) ⊕ TBlock) :=
 if v0<(↑(List.length (TBlock.Wires b0)):Int) then
 (atI l0 v0).bind fun x0 =>
 some (.inl (IntKind.i64.wrap (v0+(1:Int)),List.set l0 (Int.toNat v0) (x0.fst,x0.snd.fst,x0.snd.snd.fst,([]:List Int),()),()))
 else
 (impl_Design_places (TBlock.Design b0)).bind fun places0 =>
 whileM (fun v=>impl_Block_connect_loop0 b0 nodes0 places0 v.1 v.2.1) ((0:Int),l0,())
noncomputable def impl_Block_connect (b0:TBlock) (nodes0:List (TpinKey×Int)):Option TBlock :=
 whileM (fun v=>impl_Block_connect_loop1 b0 nodes0 v.1 v.2.1) ((0:Int),TBlock.Wires b0,())
noncomputable def c160:Ctr:=⟨[.io (dBlock),.dat (.mp (tpinKey) (.int .i64))],[],fun a K=>splitK a fun b0 a=>splitK a fun nodes0 a=>BindP (impl_Block_connect b0 nodes0) fun r=>K () (r,())⟩
noncomputable def impl_Block_unbuffer (a0:TBlock):Option (TpinKey×TBlock) :=
 (impl_Block_nodesOf a0).bind fun nodesOf0 =>
 (impl_Design_places (TBlock.Design a0)).bind fun places0 =>
 (impl_length_string (TDesign.Nets (TBlock.Design a0))).bind fun string0 =>
 (impl_Design_sinks (TBlock.Design a0) (IntKind.i64.wrap (string0-1))).bind fun sinks0 =>
 (atI sinks0 0).bind fun x0 =>
 (atI places0 x0).bind fun x1 =>
 (atI (TDesign.Instances (TBlock.Design a0)) (IntKind.i64.wrap ((↑(List.length (TDesign.Instances (TBlock.Design a0))):Int)-1))).bind fun x2 =>
 (atI x2.snd.snd.fst 0).bind fun x3 =>
 (impl_Block_setNet (TBlock.Library a0,(List.set (TDesign.Instances (TBlock.Design a0)) (Int.toNat (IntKind.i64.wrap ((↑(List.length (TDesign.Instances (TBlock.Design a0))):Int)-1))) x2,(TBlock.Design a0).snd),a0.snd.snd) (Tplace.instance x1,Tplace.pin x1,()) x3).bind fun setNet0 =>
 guardO ((0:Int)≤IntKind.i64.wrap ((↑(List.length (TDesign.Instances (TBlock.Design a0))):Int)-(1:Int))) <|
 guardO (IntKind.i64.wrap ((↑(List.length (TDesign.Instances (TBlock.Design a0))):Int)-(1:Int))≤(↑(List.length (TDesign.Instances (TBlock.Design setNet0))):Int)) <|
 guardO ((0:Int)≤IntKind.i64.wrap ((↑(List.length (TDesign.Nets (TBlock.Design setNet0))):Int)-(1:Int))) <|
 guardO (IntKind.i64.wrap ((↑(List.length (TDesign.Nets (TBlock.Design setNet0))):Int)-(1:Int))≤(↑(List.length (TDesign.Nets (TBlock.Design setNet0))):Int)) <|
 guardO ((0:Int)≤IntKind.i64.wrap ((↑(List.length (TBlock.Wires setNet0)):Int)-(1:Int))) <|
 guardO (IntKind.i64.wrap ((↑(List.length (TBlock.Wires setNet0)):Int)-(1:Int))≤(↑(List.length (TBlock.Wires setNet0)):Int)) <|
 (impl_Block_connect (TBlock.Library setNet0,(List.take (Int.toNat (IntKind.i64.wrap ((↑(List.length (TDesign.Instances (TBlock.Design a0))):Int)-1))-Int.toNat 0) (List.drop (Int.toNat 0) (TDesign.Instances (TBlock.Design setNet0))),List.take (Int.toNat (IntKind.i64.wrap ((↑(List.length (TDesign.Nets (TBlock.Design setNet0))):Int)-1))-Int.toNat 0) (List.drop (Int.toNat 0) (TDesign.Nets (TBlock.Design setNet0))),(TBlock.Design setNet0).snd.snd),List.take (Int.toNat (IntKind.i64.wrap ((↑(List.length (TBlock.Wires setNet0)):Int)-1))-Int.toNat 0) (List.drop (Int.toNat 0) (TBlock.Wires setNet0)),()) (mput tpinKey (Ty.int IntKind.i64) nodesOf0 (Tplace.instance x1,Tplace.pin x1,()) (Option.getD (mget tpinKey (Ty.int IntKind.i64) nodesOf0 (IntKind.i64.wrap ((↑(List.length (TDesign.Instances (TBlock.Design a0))):Int)-1),0,())) 0))).bind fun connect0 =>
 some ((Tplace.instance x1,Tplace.pin x1,()),connect0)
noncomputable def c161:Ctr:=⟨[.io (dBlock)],[.dat (tpinKey)],fun a K=>splitK a fun a0 a=>BindP (impl_Block_unbuffer a0) fun r=>K (r.1,()) (r.2,())⟩
noncomputable def impl_Design_placeOf_c1 (p0:Tplace) (a0:Int) (a1:Int):Option Bool :=
 if Tplace.instance p0=a0 then
 some (Decidable.decide (Tplace.pin p0=a1))
 else
 some Bool.false
noncomputable def c162:Ctr:=⟨[.dat (tplace),.dat (.ptr (.int .i64)),.dat (.ptr (.int .i64))],[.dat (.bool)],fun a K=>splitK a fun p0 a=>splitK a fun a0 a=>splitK a fun a1 a=>BindP (impl_Design_placeOf_c1 p0 a0 a1) fun r=>K (r,()) ()⟩
noncomputable def slices_IndexFunc_Simpl_place_impl_place_at_impl_Design_placeOf_c1_loop0 (s0:List Tplace) (f0:Int×Int×Unit) (v0:Int):Option ((Int×Unit) ⊕ Int) :=
 if v0<(↑(List.length s0):Int) then
 (atI s0 v0).bind fun x0 =>
 (impl_Design_placeOf_c1 x0 f0.fst f0.snd.fst).bind fun c1_0 =>
 if c1_0=true then
 some (.inr v0)
 else
 some (.inl (IntKind.i64.wrap (v0+1),()))
 else
 some (.inr (-1))
noncomputable def slices_IndexFunc_Simpl_place_impl_place_at_impl_Design_placeOf_c1 (s0:List Tplace) (f0:Int×Int×Unit):Option Int :=
 whileM (fun v=>slices_IndexFunc_Simpl_place_impl_place_at_impl_Design_placeOf_c1_loop0 s0 f0 v.1) ((0:Int),())
noncomputable def c163:Ctr:=⟨[.dat (.sl (tplace)),.dat (.fn 119 (.pair (.ptr (.int .i64)) (.pair (.ptr (.int .i64)) (.unit))))],[.dat (.int .i64)],fun a K=>splitK a fun s0 a=>splitK a fun f0 a=>BindP (slices_IndexFunc_Simpl_place_impl_place_at_impl_Design_placeOf_c1 s0 f0) fun r=>K (r,()) ()⟩
noncomputable def impl_Design_placeOf (d0:TDesign) (instance0:Int) (pin0:Int):Option Int :=
 (impl_Design_places d0).bind fun places0 =>
 (slices_IndexFunc_Simpl_place_impl_place_at_impl_Design_placeOf_c1 places0 (instance0,pin0,())).bind fun c1_0 =>
 some c1_0
noncomputable def c164:Ctr:=⟨[.dat (tDesign),.dat (.int .i64),.dat (.int .i64)],[.dat (.int .i64)],fun a K=>splitK a fun d0 a=>splitK a fun instance0 a=>splitK a fun pin0 a=>BindP (impl_Design_placeOf d0 instance0 pin0) fun r=>K (r,()) ()⟩
noncomputable def impl_Edit_inverse (a0:TEdit) (a1:TBlock):Option TEdit :=
 if TEdit.Kind a0=1 then
 (impl_Design_places (TBlock.Design a1)).bind fun places0 =>
 (atI places0 (TEdit.Place a0)).bind fun x0 =>
 (atI (TDesign.Instances (TBlock.Design a1)) (Tplace.instance x0)).bind fun x1 =>
 some ((1:Int),TEdit.Place a0,TInstance.Cell x1,(0:Int),(0:Int),([]:List UInt8),(([]:List Int),([]:List Int),([]:List Int),([]:List Int),()),())
 else
 if TEdit.Kind a0=2 then
 some ((3:Int),(0:Int),(0:Int),(0:Int),(0:Int),([]:List UInt8),(([]:List Int),([]:List Int),([]:List Int),([]:List Int),()),())
 else
 if TEdit.Kind a0=3 then
 (impl_Block_clone a1).bind fun clone0 =>
 (impl_Block_unbuffer clone0).bind fun unbuffer0 =>
 (atI (TDesign.Instances (TBlock.Design a1)) (IntKind.i64.wrap ((↑(List.length (TDesign.Instances (TBlock.Design a1))):Int)-1))).bind fun x0 =>
 (impl_Design_placeOf unbuffer0.snd.snd.fst unbuffer0.fst.fst unbuffer0.fst.snd.fst).bind fun placeOf0 =>
 some ((2:Int),placeOf0,TInstance.Cell x0,(0:Int),(0:Int),TInstance.Name x0,(([]:List Int),([]:List Int),([]:List Int),([]:List Int),()),())
 else
 if TEdit.Kind a0=4 then
 (impl_Design_places (TBlock.Design a1)).bind fun places0 =>
 (atI places0 (TEdit.Place a0)).bind fun x0 =>
 (impl_Block_nodesOf a1).bind fun nodesOf0 =>
 some ((4:Int),TEdit.Place a0,(0:Int),Tplace.net x0,Option.getD (mget tpinKey (Ty.int IntKind.i64) nodesOf0 (Tplace.instance x0,Tplace.pin x0,())) (0:Int),([]:List UInt8),(([]:List Int),([]:List Int),([]:List Int),([]:List Int),()),())
 else
 (atI (TBlock.Wires a1) (TEdit.Net a0)).bind fun x0 =>
 (impl_Wire_clone x0).bind fun clone0 =>
 some ((5:Int),(0:Int),(0:Int),TEdit.Net a0,(0:Int),([]:List UInt8),clone0,())
noncomputable def c165:Ctr:=⟨[.dat (tEdit),.dat (tBlock)],[.own (dEdit)],fun a K=>splitK a fun a0 a=>splitK a fun a1 a=>BindP (impl_Edit_inverse a0 a1) fun r=>K (r,()) ()⟩
noncomputable def impl_InverseEdit (b0:TBlock) (e0:TEdit):Option (TEdit×Int) :=
 (impl_EditCode b0 e0).bind fun EditCode0 =>
 if EditCode0=0 then
 (impl_Edit_inverse e0 b0).bind fun inverse0 =>
 some (inverse0,0)
 else
 some (((0:Int),(0:Int),(0:Int),(0:Int),(0:Int),([]:List UInt8),(([]:List Int),([]:List Int),([]:List Int),([]:List Int),()),()),EditCode0)
noncomputable def c166:Ctr:=⟨[.dat (tBlock),.dat (tEdit)],[.own (dEdit),.dat (.int .i64)],fun a K=>splitK a fun b0 a=>splitK a fun e0 a=>BindP (impl_InverseEdit b0 e0) fun r=>K (r.1,r.2,()) ()⟩
noncomputable def laws_eqInt64S_loop0 (a0:List Int) (b0:List Int) (i0:Int):Option ((Int×Unit) ⊕ Bool) :=
 if i0<(↑(List.length a0):Int) then
 (atI a0 i0).bind fun x0 =>
 (atI b0 i0).bind fun x1 =>
 if x0=x1 then
 some (.inl (IntKind.i64.wrap (i0+1),()))
 else
 some (.inr Bool.false)
 else
 some (.inr Bool.true)
noncomputable def laws_eqInt64S (a0:List Int) (b0:List Int):Option Bool :=
 if (↑(List.length a0):Int)=(↑(List.length b0):Int) then
 whileM (fun v=>laws_eqInt64S_loop0 a0 b0 v.1) ((0:Int),())
 else
 some Bool.false
noncomputable def c167:Ctr:=⟨[.dat (.sl (.int .i64)),.dat (.sl (.int .i64))],[.dat (.bool)],fun a K=>splitK a fun a0 a=>splitK a fun b0 a=>BindP (laws_eqInt64S a0 b0) fun r=>K (r,()) ()⟩
noncomputable def laws_eqWire (a0:TWire) (b0:TWire):Option Bool :=
 (laws_eqInt64S (TWire.Parent a0) (TWire.Parent b0)).bind fun eqInt64S0 =>
 if eqInt64S0=true then
 (laws_eqInt64S (TWire.Res a0) (TWire.Res b0)).bind fun eqInt64S1 =>
 if eqInt64S1=true then
 (laws_eqInt64S (TWire.Cap a0) (TWire.Cap b0)).bind fun eqInt64S2 =>
 if eqInt64S2=true then
 (laws_eqInt64S (TWire.Sink a0) (TWire.Sink b0)).bind fun eqInt64S3 =>
 if eqInt64S3=true then
 some Bool.true
 else
 some Bool.false
 else
 some Bool.false
 else
 some Bool.false
 else
 some Bool.false
noncomputable def c168:Ctr:=⟨[.dat (tWire),.dat (tWire)],[.dat (.bool)],fun a K=>splitK a fun a0 a=>splitK a fun b0 a=>BindP (laws_eqWire a0 b0) fun r=>K (r,()) ()⟩
noncomputable def laws_eqEdit (a0:TEdit) (b0:TEdit):Option Bool :=
 if TEdit.Kind a0=TEdit.Kind b0 then
 if TEdit.Place a0=TEdit.Place b0 then
 if TEdit.Cell a0=TEdit.Cell b0 then
 if TEdit.Net a0=TEdit.Net b0 then
 if TEdit.Node a0=TEdit.Node b0 then
 if TEdit.Name a0=TEdit.Name b0 then
 (laws_eqWire (TEdit.Wire a0) (TEdit.Wire b0)).bind fun eqWire0 =>
 if eqWire0=true then
 some Bool.true
 else
 some Bool.false
 else
 some Bool.false
 else
 some Bool.false
 else
 some Bool.false
 else
 some Bool.false
 else
 some Bool.false
 else
 some Bool.false
noncomputable def c169:Ctr:=⟨[.dat (tEdit),.dat (tEdit)],[.dat (.bool)],fun a K=>splitK a fun a0 a=>splitK a fun b0 a=>BindP (laws_eqEdit a0 b0) fun r=>K (r,()) ()⟩
noncomputable def laws_eqPin (a0:TPin) (b0:TPin):Option Bool :=
 if TPin.Name a0=TPin.Name b0 then
 if TPin.Dir a0=TPin.Dir b0 then
 if TPin.Cap a0=TPin.Cap b0 then
 if (TPin.Clock a0 == TPin.Clock b0)=true then
 some Bool.true
 else
 some Bool.false
 else
 some Bool.false
 else
 some Bool.false
 else
 some Bool.false
noncomputable def c170:Ctr:=⟨[.dat (tPin),.dat (tPin)],[.dat (.bool)],fun a K=>splitK a fun a0 a=>splitK a fun b0 a=>BindP (laws_eqPin a0 b0) fun r=>K (r,()) ()⟩
noncomputable def laws_eqPinS_loop0 (a0:List TPin) (b0:List TPin) (i0:Int):Option ((Int×Unit) ⊕ Bool) :=
 if i0<(↑(List.length a0):Int) then
 (atI a0 i0).bind fun x0 =>
 (atI b0 i0).bind fun x1 =>
 (laws_eqPin x0 x1).bind fun eqPin0 =>
 if eqPin0=true then
 some (.inl (IntKind.i64.wrap (i0+1),()))
 else
 some (.inr Bool.false)
 else
 some (.inr Bool.true)
noncomputable def laws_eqPinS (a0:List TPin) (b0:List TPin):Option Bool :=
 if (↑(List.length a0):Int)=(↑(List.length b0):Int) then
 whileM (fun v=>laws_eqPinS_loop0 a0 b0 v.1) ((0:Int),())
 else
 some Bool.false
noncomputable def c171:Ctr:=⟨[.dat (.sl (tPin)),.dat (.sl (tPin))],[.dat (.bool)],fun a K=>splitK a fun a0 a=>splitK a fun b0 a=>BindP (laws_eqPinS a0 b0) fun r=>K (r,()) ()⟩
noncomputable def laws_eqTable (a0:TTable) (b0:TTable):Option Bool :=
 (laws_eqInt64S (TTable.Slews a0) (TTable.Slews b0)).bind fun eqInt64S0 =>
 if eqInt64S0=true then
 (laws_eqInt64S (TTable.Loads a0) (TTable.Loads b0)).bind fun eqInt64S1 =>
 if eqInt64S1=true then
 (laws_eqInt64S (TTable.Values a0) (TTable.Values b0)).bind fun eqInt64S2 =>
 if eqInt64S2=true then
 some Bool.true
 else
 some Bool.false
 else
 some Bool.false
 else
 some Bool.false
noncomputable def c172:Ctr:=⟨[.dat (tTable),.dat (tTable)],[.dat (.bool)],fun a K=>splitK a fun a0 a=>splitK a fun b0 a=>BindP (laws_eqTable a0 b0) fun r=>K (r,()) ()⟩
noncomputable def laws_eqTableS_loop0 (a0:List TTable) (b0:List TTable) (i0:Int):Option ((Int×Unit) ⊕ Bool) :=
 if i0<(↑(List.length a0):Int) then
 (atI a0 i0).bind fun x0 =>
 (atI b0 i0).bind fun x1 =>
 (laws_eqTable x0 x1).bind fun eqTable0 =>
 if eqTable0=true then
 some (.inl (IntKind.i64.wrap (i0+1),()))
 else
 some (.inr Bool.false)
 else
 some (.inr Bool.true)
noncomputable def laws_eqTableS (a0:List TTable) (b0:List TTable):Option Bool :=
 if (↑(List.length a0):Int)=(↑(List.length b0):Int) then
 whileM (fun v=>laws_eqTableS_loop0 a0 b0 v.1) ((0:Int),())
 else
 some Bool.false
noncomputable def c173:Ctr:=⟨[.dat (.sl (tTable)),.dat (.sl (tTable))],[.dat (.bool)],fun a K=>splitK a fun a0 a=>splitK a fun b0 a=>BindP (laws_eqTableS a0 b0) fun r=>K (r,()) ()⟩
noncomputable def laws_eqArc (a0:TArc) (b0:TArc):Option Bool :=
 if TArc.Kind a0=TArc.Kind b0 then
 if TArc.From a0=TArc.From b0 then
 if TArc.To a0=TArc.To b0 then
 if TArc.Sense a0=TArc.Sense b0 then
 (laws_eqTableS (TArc.Delay a0) (TArc.Delay b0)).bind fun eqTableS0 =>
 if eqTableS0=true then
 (laws_eqTableS (TArc.Slew a0) (TArc.Slew b0)).bind fun eqTableS1 =>
 if eqTableS1=true then
 some Bool.true
 else
 some Bool.false
 else
 some Bool.false
 else
 some Bool.false
 else
 some Bool.false
 else
 some Bool.false
 else
 some Bool.false
noncomputable def c174:Ctr:=⟨[.dat (tArc),.dat (tArc)],[.dat (.bool)],fun a K=>splitK a fun a0 a=>splitK a fun b0 a=>BindP (laws_eqArc a0 b0) fun r=>K (r,()) ()⟩
noncomputable def laws_eqArcS_loop0 (a0:List TArc) (b0:List TArc) (i0:Int):Option ((Int×Unit) ⊕ Bool) :=
 if i0<(↑(List.length a0):Int) then
 (atI a0 i0).bind fun x0 =>
 (atI b0 i0).bind fun x1 =>
 (laws_eqArc x0 x1).bind fun eqArc0 =>
 if eqArc0=true then
 some (.inl (IntKind.i64.wrap (i0+1),()))
 else
 some (.inr Bool.false)
 else
 some (.inr Bool.true)
noncomputable def laws_eqArcS (a0:List TArc) (b0:List TArc):Option Bool :=
 if (↑(List.length a0):Int)=(↑(List.length b0):Int) then
 whileM (fun v=>laws_eqArcS_loop0 a0 b0 v.1) ((0:Int),())
 else
 some Bool.false
noncomputable def c175:Ctr:=⟨[.dat (.sl (tArc)),.dat (.sl (tArc))],[.dat (.bool)],fun a K=>splitK a fun a0 a=>splitK a fun b0 a=>BindP (laws_eqArcS a0 b0) fun r=>K (r,()) ()⟩
noncomputable def laws_eqCell (a0:TCell) (b0:TCell):Option Bool :=
 if TCell.Name a0=TCell.Name b0 then
 if TCell.Kind a0=TCell.Kind b0 then
 (laws_eqPinS (TCell.Pins a0) (TCell.Pins b0)).bind fun eqPinS0 =>
 if eqPinS0=true then
 (laws_eqArcS (TCell.Arcs a0) (TCell.Arcs b0)).bind fun eqArcS0 =>
 if eqArcS0=true then
 (laws_eqInt64S (TCell.Truth a0) (TCell.Truth b0)).bind fun eqInt64S0 =>
 if eqInt64S0=true then
 if TCell.Leak a0=TCell.Leak b0 then
 if TCell.Energy a0=TCell.Energy b0 then
 some Bool.true
 else
 some Bool.false
 else
 some Bool.false
 else
 some Bool.false
 else
 some Bool.false
 else
 some Bool.false
 else
 some Bool.false
 else
 some Bool.false
noncomputable def c176:Ctr:=⟨[.dat (tCell),.dat (tCell)],[.dat (.bool)],fun a K=>splitK a fun a0 a=>splitK a fun b0 a=>BindP (laws_eqCell a0 b0) fun r=>K (r,()) ()⟩
noncomputable def laws_eqCellS_loop0 (a0:List TCell) (b0:List TCell) (i0:Int):Option ((Int×Unit) ⊕ Bool) :=
 if i0<(↑(List.length a0):Int) then
 (atI a0 i0).bind fun x0 =>
 (atI b0 i0).bind fun x1 =>
 (laws_eqCell x0 x1).bind fun eqCell0 =>
 if eqCell0=true then
 some (.inl (IntKind.i64.wrap (i0+1),()))
 else
 some (.inr Bool.false)
 else
 some (.inr Bool.true)
noncomputable def laws_eqCellS (a0:List TCell) (b0:List TCell):Option Bool :=
 if (↑(List.length a0):Int)=(↑(List.length b0):Int) then
 whileM (fun v=>laws_eqCellS_loop0 a0 b0 v.1) ((0:Int),())
 else
 some Bool.false
noncomputable def c177:Ctr:=⟨[.dat (.sl (tCell)),.dat (.sl (tCell))],[.dat (.bool)],fun a K=>splitK a fun a0 a=>splitK a fun b0 a=>BindP (laws_eqCellS a0 b0) fun r=>K (r,()) ()⟩
noncomputable def laws_eqLibrary (a0:TLibrary) (b0:TLibrary):Option Bool :=
 (laws_eqCellS (TLibrary.Cells a0) (TLibrary.Cells b0)).bind fun eqCellS0 =>
 if eqCellS0=true then
 some Bool.true
 else
 some Bool.false
noncomputable def c178:Ctr:=⟨[.dat (tLibrary),.dat (tLibrary)],[.dat (.bool)],fun a K=>splitK a fun a0 a=>splitK a fun b0 a=>BindP (laws_eqLibrary a0 b0) fun r=>K (r,()) ()⟩
noncomputable def laws_eqInstance (a0:TInstance) (b0:TInstance):Option Bool :=
 if TInstance.Name a0=TInstance.Name b0 then
 if TInstance.Cell a0=TInstance.Cell b0 then
 (laws_eqInt64S (TInstance.Nets a0) (TInstance.Nets b0)).bind fun eqInt64S0 =>
 if eqInt64S0=true then
 some Bool.true
 else
 some Bool.false
 else
 some Bool.false
 else
 some Bool.false
noncomputable def c179:Ctr:=⟨[.dat (tInstance),.dat (tInstance)],[.dat (.bool)],fun a K=>splitK a fun a0 a=>splitK a fun b0 a=>BindP (laws_eqInstance a0 b0) fun r=>K (r,()) ()⟩
noncomputable def laws_eqInstanceS_loop0 (a0:List TInstance) (b0:List TInstance) (i0:Int):Option ((Int×Unit) ⊕ Bool) :=
 if i0<(↑(List.length a0):Int) then
 (atI a0 i0).bind fun x0 =>
 (atI b0 i0).bind fun x1 =>
 (laws_eqInstance x0 x1).bind fun eqInstance0 =>
 if eqInstance0=true then
 some (.inl (IntKind.i64.wrap (i0+1),()))
 else
 some (.inr Bool.false)
 else
 some (.inr Bool.true)
noncomputable def laws_eqInstanceS (a0:List TInstance) (b0:List TInstance):Option Bool :=
 if (↑(List.length a0):Int)=(↑(List.length b0):Int) then
 whileM (fun v=>laws_eqInstanceS_loop0 a0 b0 v.1) ((0:Int),())
 else
 some Bool.false
noncomputable def c180:Ctr:=⟨[.dat (.sl (tInstance)),.dat (.sl (tInstance))],[.dat (.bool)],fun a K=>splitK a fun a0 a=>splitK a fun b0 a=>BindP (laws_eqInstanceS a0 b0) fun r=>K (r,()) ()⟩
noncomputable def laws_eqStringS_loop0 (a0:List (List UInt8)) (b0:List (List UInt8)) (i0:Int):Option ((Int×Unit) ⊕ Bool) :=
 if i0<(↑(List.length a0):Int) then
 (atI a0 i0).bind fun x0 =>
 (atI b0 i0).bind fun x1 =>
 if x0=x1 then
 some (.inl (IntKind.i64.wrap (i0+1),()))
 else
 some (.inr Bool.false)
 else
 some (.inr Bool.true)
noncomputable def laws_eqStringS (a0:List (List UInt8)) (b0:List (List UInt8)):Option Bool :=
 if (↑(List.length a0):Int)=(↑(List.length b0):Int) then
 whileM (fun v=>laws_eqStringS_loop0 a0 b0 v.1) ((0:Int),())
 else
 some Bool.false
noncomputable def c181:Ctr:=⟨[.dat (.sl (.str)),.dat (.sl (.str))],[.dat (.bool)],fun a K=>splitK a fun a0 a=>splitK a fun b0 a=>BindP (laws_eqStringS a0 b0) fun r=>K (r,()) ()⟩
noncomputable def laws_eqPort (a0:TPort) (b0:TPort):Option Bool :=
 if TPort.Name a0=TPort.Name b0 then
 if TPort.Dir a0=TPort.Dir b0 then
 if TPort.Net a0=TPort.Net b0 then
 some Bool.true
 else
 some Bool.false
 else
 some Bool.false
 else
 some Bool.false
noncomputable def c182:Ctr:=⟨[.dat (tPort),.dat (tPort)],[.dat (.bool)],fun a K=>splitK a fun a0 a=>splitK a fun b0 a=>BindP (laws_eqPort a0 b0) fun r=>K (r,()) ()⟩
noncomputable def laws_eqPortS_loop0 (a0:List TPort) (b0:List TPort) (i0:Int):Option ((Int×Unit) ⊕ Bool) :=
 if i0<(↑(List.length a0):Int) then
 (atI a0 i0).bind fun x0 =>
 (atI b0 i0).bind fun x1 =>
 (laws_eqPort x0 x1).bind fun eqPort0 =>
 if eqPort0=true then
 some (.inl (IntKind.i64.wrap (i0+1),()))
 else
 some (.inr Bool.false)
 else
 some (.inr Bool.true)
noncomputable def laws_eqPortS (a0:List TPort) (b0:List TPort):Option Bool :=
 if (↑(List.length a0):Int)=(↑(List.length b0):Int) then
 whileM (fun v=>laws_eqPortS_loop0 a0 b0 v.1) ((0:Int),())
 else
 some Bool.false
noncomputable def c183:Ctr:=⟨[.dat (.sl (tPort)),.dat (.sl (tPort))],[.dat (.bool)],fun a K=>splitK a fun a0 a=>splitK a fun b0 a=>BindP (laws_eqPortS a0 b0) fun r=>K (r,()) ()⟩
noncomputable def laws_eqDesign (a0:TDesign) (b0:TDesign):Option Bool :=
 (laws_eqInstanceS (TDesign.Instances a0) (TDesign.Instances b0)).bind fun eqInstanceS0 =>
 if eqInstanceS0=true then
 (laws_eqStringS (TDesign.Nets a0) (TDesign.Nets b0)).bind fun eqStringS0 =>
 if eqStringS0=true then
 (laws_eqPortS (TDesign.Ports a0) (TDesign.Ports b0)).bind fun eqPortS0 =>
 if eqPortS0=true then
 some Bool.true
 else
 some Bool.false
 else
 some Bool.false
 else
 some Bool.false
noncomputable def c184:Ctr:=⟨[.dat (tDesign),.dat (tDesign)],[.dat (.bool)],fun a K=>splitK a fun a0 a=>splitK a fun b0 a=>BindP (laws_eqDesign a0 b0) fun r=>K (r,()) ()⟩
noncomputable def laws_eqWireS_loop0 (a0:List TWire) (b0:List TWire) (i0:Int):Option ((Int×Unit) ⊕ Bool) :=
 if i0<(↑(List.length a0):Int) then
 (atI a0 i0).bind fun x0 =>
 (atI b0 i0).bind fun x1 =>
 (laws_eqWire x0 x1).bind fun eqWire0 =>
 if eqWire0=true then
 some (.inl (IntKind.i64.wrap (i0+1),()))
 else
 some (.inr Bool.false)
 else
 some (.inr Bool.true)
noncomputable def laws_eqWireS (a0:List TWire) (b0:List TWire):Option Bool :=
 if (↑(List.length a0):Int)=(↑(List.length b0):Int) then
 whileM (fun v=>laws_eqWireS_loop0 a0 b0 v.1) ((0:Int),())
 else
 some Bool.false
noncomputable def c185:Ctr:=⟨[.dat (.sl (tWire)),.dat (.sl (tWire))],[.dat (.bool)],fun a K=>splitK a fun a0 a=>splitK a fun b0 a=>BindP (laws_eqWireS a0 b0) fun r=>K (r,()) ()⟩
noncomputable def laws_eqBlock (a0:TBlock) (b0:TBlock):Option Bool :=
 (laws_eqLibrary (TBlock.Library a0) (TBlock.Library b0)).bind fun eqLibrary0 =>
 if eqLibrary0=true then
 (laws_eqDesign (TBlock.Design a0) (TBlock.Design b0)).bind fun eqDesign0 =>
 if eqDesign0=true then
 (laws_eqWireS (TBlock.Wires a0) (TBlock.Wires b0)).bind fun eqWireS0 =>
 if eqWireS0=true then
 some Bool.true
 else
 some Bool.false
 else
 some Bool.false
 else
 some Bool.false
noncomputable def c186:Ctr:=⟨[.dat (tBlock),.dat (tBlock)],[.dat (.bool)],fun a K=>splitK a fun a0 a=>splitK a fun b0 a=>BindP (laws_eqBlock a0 b0) fun r=>K (r,()) ()⟩
noncomputable def laws_markText_loop0 (k1:Int) (out0:List UInt8):Option ((Int×(List UInt8)×Unit) ⊕ List UInt8) :=
 if 0<k1 then
 guardO ((↑(List.length (bytesOf [IntKind.wrap IntKind.u8 (IntKind.i64.wrap ((48:Int)+Int.tmod k1 (10:Int)))])):Int)+(↑(List.length out0):Int)≤(9223372036854775807:Int)) <|
 some (.inl (IntKind.i64.wrap (Int.tdiv k1 (10:Int)),bytesOf [IntKind.wrap IntKind.u8 (IntKind.i64.wrap ((48:Int)+Int.tmod k1 (10:Int)))]++out0,()))
 else
 guardO ((↑(List.length [(109:UInt8)]):Int)+(↑(List.length out0):Int)≤(9223372036854775807:Int)) <|
 some (.inr ([(109:UInt8)]++out0))
noncomputable def laws_markText (k0:Int):Option (List UInt8) :=
 if k0≤0 then
 some ([(109:UInt8),(48:UInt8)])
 else
 whileM (fun v=>laws_markText_loop0 v.1 v.2.1) (k0,([]:List UInt8),())
noncomputable def c187:Ctr:=⟨[.dat (.int .i64)],[.dat (.str)],fun a K=>splitK a fun k0 a=>BindP (laws_markText k0) fun r=>K (r,()) ()⟩
noncomputable def laws_markPinS_loop0 (k1:Int) (i0:Int) (l0:List TPin):Option ((Int×Int×(List TPin)×Unit) ⊕ (Int×(List TPin))) :=
 if i0<(↑(List.length l0):Int) then
 (laws_markText k1).bind fun markText0 =>
 (atI l0 i0).bind fun x0 =>
 (atI (List.set l0 (Int.toNat i0) (markText0,x0.snd)) i0).bind fun x1 =>
 (atI (List.set (List.set l0 (Int.toNat i0) (markText0,x0.snd)) (Int.toNat i0) (TPin.Name x1,IntKind.i64.wrap (k1+1),x1.snd.snd)) i0).bind fun x2 =>
 (atI (List.set (List.set (List.set l0 (Int.toNat i0) (markText0,x0.snd)) (Int.toNat i0) (TPin.Name x1,IntKind.i64.wrap (k1+1),x1.snd.snd)) (Int.toNat i0) (TPin.Name x2,TPin.Dir x2,IntKind.i64.wrap (IntKind.i64.wrap (k1+1)+1),x2.snd.snd.snd)) i0).bind fun x3 =>
 some (.inl (IntKind.i64.wrap (IntKind.i64.wrap (IntKind.i64.wrap (IntKind.i64.wrap (k1+1)+1)+1)+1),IntKind.i64.wrap (i0+1),List.set (List.set (List.set (List.set l0 (Int.toNat i0) (markText0,x0.snd)) (Int.toNat i0) (TPin.Name x1,IntKind.i64.wrap (k1+1),x1.snd.snd)) (Int.toNat i0) (TPin.Name x2,TPin.Dir x2,IntKind.i64.wrap (IntKind.i64.wrap (k1+1)+1),x2.snd.snd.snd)) (Int.toNat i0) (TPin.Name x3,TPin.Dir x3,TPin.Cap x3,Decidable.decide (Int.tmod (IntKind.i64.wrap (IntKind.i64.wrap (IntKind.i64.wrap (k1+1)+1)+1)) 3=0),()),()))
 else
 some (.inr (k1,l0))
noncomputable def laws_markPinS (a0:List TPin) (k0:Int):Option (Int×(List TPin)) :=
 whileM (fun v=>laws_markPinS_loop0 v.1 v.2.1 v.2.2.1) (k0,(0:Int),a0,())
noncomputable def c188:Ctr:=⟨[.back (.ol 180 (.flat (tPin))),.dat (.int .i64)],[.dat (.int .i64)],fun a K=>splitK a fun a0 a=>splitK a fun k0 a=>BindP (laws_markPinS a0 k0) fun r=>K (r.1,()) (r.2,())⟩
noncomputable def laws_markInt64S_loop0 (k1:Int) (i0:Int) (l0:List Int):Option ((Int×Int×(List Int)×Unit) ⊕ (Int×(List Int))) :=
 if i0<(↑(List.length l0):Int) then
 (atI l0 i0).bind fun x0 =>
 some (.inl (IntKind.i64.wrap (k1+1),IntKind.i64.wrap (i0+1),List.set l0 (Int.toNat i0) k1,()))
 else
 some (.inr (k1,l0))
noncomputable def laws_markInt64S (a0:List Int) (k0:Int):Option (Int×(List Int)) :=
 whileM (fun v=>laws_markInt64S_loop0 v.1 v.2.1 v.2.2.1) (k0,(0:Int),a0,())
noncomputable def c189:Ctr:=⟨[.back (.ol 2 (.flat (.int .i64))),.dat (.int .i64)],[.dat (.int .i64)],fun a K=>splitK a fun a0 a=>splitK a fun k0 a=>BindP (laws_markInt64S a0 k0) fun r=>K (r.1,()) (r.2,())⟩
noncomputable def laws_markTableS_loop0 (k1:Int) (i0:Int) (l0:List (List Int×List Int×List Int×Unit)):Option ((Int×Int×(List (List Int×List Int×List Int×Unit))×Unit) ⊕ (Int×(List TTable))) :=
 if i0<(↑(List.length l0):Int) then
 (atI l0 i0).bind fun x0 =>
 (laws_markInt64S x0.fst k1).bind fun markInt64S0 =>
 (laws_markInt64S x0.snd.fst markInt64S0.fst).bind fun markInt64S1 =>
 (laws_markInt64S x0.snd.snd.fst markInt64S1.fst).bind fun markInt64S2 =>
 some (.inl (markInt64S2.fst,IntKind.i64.wrap (i0+1),List.set l0 (Int.toNat i0) (markInt64S0.snd,markInt64S1.snd,markInt64S2.snd,()),()))
 else
 some (.inr (k1,l0))
noncomputable def laws_markTableS (a0:List TTable) (k0:Int):Option (Int×(List TTable)) :=
 whileM (fun v=>laws_markTableS_loop0 v.1 v.2.1 v.2.2.1) (k0,(0:Int),a0,())
noncomputable def c190:Ctr:=⟨[.back (.ol 227 (dTable)),.dat (.int .i64)],[.dat (.int .i64)],fun a K=>splitK a fun a0 a=>splitK a fun k0 a=>BindP (laws_markTableS a0 k0) fun r=>K (r.1,()) (r.2,())⟩
noncomputable def laws_markArcS_loop0 (k1:Int) (i0:Int) (l0:List (Int×Int×Int×Int×List TTable×List TTable×Unit)):Option ((Int×Int×(List (Int×Int×Int×Int×List TTable×List TTable×Unit))×Unit) ⊕ (Int×(List TArc))) :=
 if i0<(↑(List.length l0):Int) then
 (atI l0 i0).bind fun x0 =>
 (laws_markTableS x0.snd.snd.snd.snd.fst (IntKind.i64.wrap (IntKind.i64.wrap (IntKind.i64.wrap (IntKind.i64.wrap (k1+1)+1)+1)+1))).bind fun markTableS0 =>
 (laws_markTableS x0.snd.snd.snd.snd.snd.fst markTableS0.fst).bind fun markTableS1 =>
 some (.inl (markTableS1.fst,IntKind.i64.wrap (i0+1),List.set l0 (Int.toNat i0) (k1,IntKind.i64.wrap (k1+1),IntKind.i64.wrap (IntKind.i64.wrap (k1+1)+1),IntKind.i64.wrap (IntKind.i64.wrap (IntKind.i64.wrap (k1+1)+1)+1),markTableS0.snd,markTableS1.snd,()),()))
 else
 some (.inr (k1,l0))
noncomputable def laws_markArcS (a0:List TArc) (k0:Int):Option (Int×(List TArc)) :=
 whileM (fun v=>laws_markArcS_loop0 v.1 v.2.1 v.2.2.1) (k0,(0:Int),a0,())
noncomputable def c191:Ctr:=⟨[.back (.ol 200 (dArc)),.dat (.int .i64)],[.dat (.int .i64)],fun a K=>splitK a fun a0 a=>splitK a fun k0 a=>BindP (laws_markArcS a0 k0) fun r=>K (r.1,()) (r.2,())⟩
noncomputable def laws_markCellS_loop0 (k1:Int) (i0:Int) (l0:List (List UInt8×Int×List TPin×List TArc×List Int×Int×Int×Unit)):Option ((Int×Int×(List (List UInt8×Int×List TPin×List TArc×List Int×Int×Int×Unit))×Unit) ⊕ (Int×(List TCell))) :=
 if i0<(↑(List.length l0):Int) then
 (laws_markText k1).bind fun markText0 =>
 (atI l0 i0).bind fun x0 =>
 (laws_markPinS x0.snd.snd.fst (IntKind.i64.wrap (IntKind.i64.wrap (k1+1)+1))).bind fun markPinS0 =>
 (laws_markArcS x0.snd.snd.snd.fst markPinS0.fst).bind fun markArcS0 =>
 (laws_markInt64S x0.snd.snd.snd.snd.fst markArcS0.fst).bind fun markInt64S0 =>
 some (.inl (IntKind.i64.wrap (IntKind.i64.wrap (markInt64S0.fst+1)+1),IntKind.i64.wrap (i0+1),List.set l0 (Int.toNat i0) (markText0,IntKind.i64.wrap (k1+1),markPinS0.snd,markArcS0.snd,markInt64S0.snd,markInt64S0.fst,IntKind.i64.wrap (markInt64S0.fst+1),()),()))
 else
 some (.inr (k1,l0))
noncomputable def laws_markCellS (a0:List TCell) (k0:Int):Option (Int×(List TCell)) :=
 whileM (fun v=>laws_markCellS_loop0 v.1 v.2.1 v.2.2.1) (k0,(0:Int),a0,())
noncomputable def c192:Ctr:=⟨[.back (.ol 150 (dCell)),.dat (.int .i64)],[.dat (.int .i64)],fun a K=>splitK a fun a0 a=>splitK a fun k0 a=>BindP (laws_markCellS a0 k0) fun r=>K (r.1,()) (r.2,())⟩
noncomputable def laws_markLibrary (a0:TLibrary) (k0:Int):Option (Int×TLibrary) :=
 (laws_markCellS (TLibrary.Cells a0) k0).bind fun markCellS0 =>
 some (markCellS0.fst,(markCellS0.snd,()))
noncomputable def c193:Ctr:=⟨[.back (dLibrary),.dat (.int .i64)],[.dat (.int .i64)],fun a K=>splitK a fun a0 a=>splitK a fun k0 a=>BindP (laws_markLibrary a0 k0) fun r=>K (r.1,()) (r.2,())⟩
noncomputable def laws_markInstanceS_loop0 (k1:Int) (i0:Int) (l0:List (List UInt8×Int×List Int×Unit)):Option ((Int×Int×(List (List UInt8×Int×List Int×Unit))×Unit) ⊕ (Int×(List TInstance))) :=
 if i0<(↑(List.length l0):Int) then
 (laws_markText k1).bind fun markText0 =>
 (atI l0 i0).bind fun x0 =>
 (laws_markInt64S x0.snd.snd.fst (IntKind.i64.wrap (IntKind.i64.wrap (k1+1)+1))).bind fun markInt64S0 =>
 some (.inl (markInt64S0.fst,IntKind.i64.wrap (i0+1),List.set l0 (Int.toNat i0) (markText0,IntKind.i64.wrap (k1+1),markInt64S0.snd,()),()))
 else
 some (.inr (k1,l0))
noncomputable def laws_markInstanceS (a0:List TInstance) (k0:Int):Option (Int×(List TInstance)) :=
 whileM (fun v=>laws_markInstanceS_loop0 v.1 v.2.1 v.2.2.1) (k0,(0:Int),a0,())
noncomputable def c194:Ctr:=⟨[.back (.ol 96 (dInstance)),.dat (.int .i64)],[.dat (.int .i64)],fun a K=>splitK a fun a0 a=>splitK a fun k0 a=>BindP (laws_markInstanceS a0 k0) fun r=>K (r.1,()) (r.2,())⟩
noncomputable def laws_markStringS_loop0 (k1:Int) (i0:Int) (l0:List (List UInt8)):Option ((Int×Int×(List (List UInt8))×Unit) ⊕ (Int×(List (List UInt8)))) :=
 if i0<(↑(List.length l0):Int) then
 (laws_markText k1).bind fun markText0 =>
 (atI l0 i0).bind fun x0 =>
 some (.inl (IntKind.i64.wrap (k1+1),IntKind.i64.wrap (i0+1),List.set l0 (Int.toNat i0) markText0,()))
 else
 some (.inr (k1,l0))
noncomputable def laws_markStringS (a0:List (List UInt8)) (k0:Int):Option (Int×(List (List UInt8))) :=
 whileM (fun v=>laws_markStringS_loop0 v.1 v.2.1 v.2.2.1) (k0,(0:Int),a0,())
noncomputable def c195:Ctr:=⟨[.back (.ol 9 (.flat (.str))),.dat (.int .i64)],[.dat (.int .i64)],fun a K=>splitK a fun a0 a=>splitK a fun k0 a=>BindP (laws_markStringS a0 k0) fun r=>K (r.1,()) (r.2,())⟩
noncomputable def laws_markPortS_loop0 (k1:Int) (i0:Int) (l0:List TPort):Option ((Int×Int×(List TPort)×Unit) ⊕ (Int×(List TPort))) :=
 if i0<(↑(List.length l0):Int) then
 (laws_markText k1).bind fun markText0 =>
 (atI l0 i0).bind fun x0 =>
 (atI (List.set l0 (Int.toNat i0) (markText0,x0.snd)) i0).bind fun x1 =>
 (atI (List.set (List.set l0 (Int.toNat i0) (markText0,x0.snd)) (Int.toNat i0) (TPort.Name x1,IntKind.i64.wrap (k1+1),x1.snd.snd)) i0).bind fun x2 =>
 some (.inl (IntKind.i64.wrap (IntKind.i64.wrap (IntKind.i64.wrap (k1+1)+1)+1),IntKind.i64.wrap (i0+1),List.set (List.set (List.set l0 (Int.toNat i0) (markText0,x0.snd)) (Int.toNat i0) (TPort.Name x1,IntKind.i64.wrap (k1+1),x1.snd.snd)) (Int.toNat i0) (TPort.Name x2,TPort.Dir x2,IntKind.i64.wrap (IntKind.i64.wrap (k1+1)+1),()),()))
 else
 some (.inr (k1,l0))
noncomputable def laws_markPortS (a0:List TPort) (k0:Int):Option (Int×(List TPort)) :=
 whileM (fun v=>laws_markPortS_loop0 v.1 v.2.1 v.2.2.1) (k0,(0:Int),a0,())
noncomputable def c196:Ctr:=⟨[.back (.ol 154 (.flat (tPort))),.dat (.int .i64)],[.dat (.int .i64)],fun a K=>splitK a fun a0 a=>splitK a fun k0 a=>BindP (laws_markPortS a0 k0) fun r=>K (r.1,()) (r.2,())⟩
noncomputable def laws_markDesign (a0:TDesign) (k0:Int):Option (Int×TDesign) :=
 (laws_markInstanceS (TDesign.Instances a0) k0).bind fun markInstanceS0 =>
 (laws_markStringS (TDesign.Nets a0) markInstanceS0.fst).bind fun markStringS0 =>
 (laws_markPortS (TDesign.Ports a0) markStringS0.fst).bind fun markPortS0 =>
 some (markPortS0.fst,(markInstanceS0.snd,markStringS0.snd,markPortS0.snd,()))
noncomputable def c197:Ctr:=⟨[.back (dDesign),.dat (.int .i64)],[.dat (.int .i64)],fun a K=>splitK a fun a0 a=>splitK a fun k0 a=>BindP (laws_markDesign a0 k0) fun r=>K (r.1,()) (r.2,())⟩
noncomputable def laws_markWireS_loop0 (k1:Int) (i0:Int) (l0:List (List Int×List Int×List Int×List Int×Unit)):Option ((Int×Int×(List (List Int×List Int×List Int×List Int×Unit))×Unit) ⊕ (Int×(List TWire))) :=
 if i0<(↑(List.length l0):Int) then
 (atI l0 i0).bind fun x0 =>
 (laws_markInt64S x0.fst k1).bind fun markInt64S0 =>
 (laws_markInt64S x0.snd.fst markInt64S0.fst).bind fun markInt64S1 =>
 (laws_markInt64S x0.snd.snd.fst markInt64S1.fst).bind fun markInt64S2 =>
 (laws_markInt64S x0.snd.snd.snd.fst markInt64S2.fst).bind fun markInt64S3 =>
 some (.inl (markInt64S3.fst,IntKind.i64.wrap (i0+1),List.set l0 (Int.toNat i0) (markInt64S0.snd,markInt64S1.snd,markInt64S2.snd,markInt64S3.snd,()),()))
 else
 some (.inr (k1,l0))
noncomputable def laws_markWireS (a0:List TWire) (k0:Int):Option (Int×(List TWire)) :=
 whileM (fun v=>laws_markWireS_loop0 v.1 v.2.1 v.2.2.1) (k0,(0:Int),a0,())
noncomputable def c198:Ctr:=⟨[.back (.ol 40 (dWire)),.dat (.int .i64)],[.dat (.int .i64)],fun a K=>splitK a fun a0 a=>splitK a fun k0 a=>BindP (laws_markWireS a0 k0) fun r=>K (r.1,()) (r.2,())⟩
noncomputable def laws_markBlock (a0:TBlock) (k0:Int):Option (Int×TBlock) :=
 (laws_markLibrary (TBlock.Library a0) k0).bind fun markLibrary0 =>
 (laws_markDesign (TBlock.Design a0) markLibrary0.fst).bind fun markDesign0 =>
 (laws_markWireS (TBlock.Wires a0) markDesign0.fst).bind fun markWireS0 =>
 some (markWireS0.fst,(markLibrary0.snd,markDesign0.snd,markWireS0.snd,()))
noncomputable def c199:Ctr:=⟨[.back (dBlock),.dat (.int .i64)],[.dat (.int .i64)],fun a K=>splitK a fun a0 a=>splitK a fun k0 a=>BindP (laws_markBlock a0 k0) fun r=>K (r.1,()) (r.2,())⟩
noncomputable def laws_markWire (a0:TWire) (k0:Int):Option (Int×TWire) :=
 (laws_markInt64S (TWire.Parent a0) k0).bind fun markInt64S0 =>
 (laws_markInt64S (TWire.Res a0) markInt64S0.fst).bind fun markInt64S1 =>
 (laws_markInt64S (TWire.Cap a0) markInt64S1.fst).bind fun markInt64S2 =>
 (laws_markInt64S (TWire.Sink a0) markInt64S2.fst).bind fun markInt64S3 =>
 some (markInt64S3.fst,(markInt64S0.snd,markInt64S1.snd,markInt64S2.snd,markInt64S3.snd,()))
noncomputable def c200:Ctr:=⟨[.back (dWire),.dat (.int .i64)],[.dat (.int .i64)],fun a K=>splitK a fun a0 a=>splitK a fun k0 a=>BindP (laws_markWire a0 k0) fun r=>K (r.1,()) (r.2,())⟩
noncomputable def laws_markEdit (a0:TEdit) (k0:Int):Option (Int×TEdit) :=
 (laws_markWire (TEdit.Wire a0) k0).bind fun markWire0 =>
 some (markWire0.fst,(TEdit.Kind a0,TEdit.Place a0,TEdit.Cell a0,TEdit.Net a0,TEdit.Node a0,TEdit.Name a0,markWire0.snd,()))
noncomputable def c201:Ctr:=⟨[.back (dEdit),.dat (.int .i64)],[.dat (.int .i64)],fun a K=>splitK a fun a0 a=>splitK a fun k0 a=>BindP (laws_markEdit a0 k0) fun r=>K (r.1,()) (r.2,())⟩
noncomputable def laws_heldInt64S_loop0 (a0:List Int) (k1:Int) (i0:Int):Option ((Int×Int×Unit) ⊕ Int) :=
 if i0<(↑(List.length a0):Int) then
 (atI a0 i0).bind fun x0 =>
 if x0=k1 then
 some (.inl (IntKind.i64.wrap (k1+1),IntKind.i64.wrap (i0+1),()))
 else
 some (.inr (-1))
 else
 some (.inr k1)
noncomputable def laws_heldInt64S (a0:List Int) (k0:Int):Option Int :=
 whileM (fun v=>laws_heldInt64S_loop0 a0 v.1 v.2.1) (k0,(0:Int),())
noncomputable def c202:Ctr:=⟨[.dat (.sl (.int .i64)),.dat (.int .i64)],[.dat (.int .i64)],fun a K=>splitK a fun a0 a=>splitK a fun k0 a=>BindP (laws_heldInt64S a0 k0) fun r=>K (r,()) ()⟩
noncomputable def laws_heldWire (a0:TWire) (k0:Int):Option Int :=
 (laws_heldInt64S (TWire.Parent a0) k0).bind fun heldInt64S0 =>
 if heldInt64S0<0 then
 some (-1)
 else
 (laws_heldInt64S (TWire.Res a0) heldInt64S0).bind fun heldInt64S1 =>
 if heldInt64S1<0 then
 some (-1)
 else
 (laws_heldInt64S (TWire.Cap a0) heldInt64S1).bind fun heldInt64S2 =>
 if heldInt64S2<0 then
 some (-1)
 else
 (laws_heldInt64S (TWire.Sink a0) heldInt64S2).bind fun heldInt64S3 =>
 if heldInt64S3<0 then
 some (-1)
 else
 some heldInt64S3
noncomputable def c203:Ctr:=⟨[.dat (tWire),.dat (.int .i64)],[.dat (.int .i64)],fun a K=>splitK a fun a0 a=>splitK a fun k0 a=>BindP (laws_heldWire a0 k0) fun r=>K (r,()) ()⟩
noncomputable def laws_heldEdit (a0:TEdit) (k0:Int):Option Int :=
 (laws_heldWire (TEdit.Wire a0) k0).bind fun heldWire0 =>
 if heldWire0<0 then
 some (-1)
 else
 some heldWire0
noncomputable def c204:Ctr:=⟨[.dat (tEdit),.dat (.int .i64)],[.dat (.int .i64)],fun a K=>splitK a fun a0 a=>splitK a fun k0 a=>BindP (laws_heldEdit a0 k0) fun r=>K (r,()) ()⟩
noncomputable def laws_FnExactInverseEdit (a0:TBlock) (a1:TEdit):Option Bool :=
 (laws_szBlock a0 1048576).bind fun szBlock0 =>
 if szBlock0<0 then
 some Bool.true
 else
 (laws_szEdit a1 szBlock0).bind fun szEdit0 =>
 if szEdit0<0 then
 some Bool.true
 else
 (laws_toBlock a0).bind fun toBlock0 =>
 (laws_toEdit a1).bind fun toEdit0 =>
 (spec_InverseEdit toBlock0 toEdit0).bind fun InverseEdit0 =>
 (impl_InverseEdit toBlock0 toEdit0).bind fun InverseEdit1 =>
 (laws_eqEdit InverseEdit1.fst InverseEdit0.fst).bind fun eqEdit0 =>
 if eqEdit0=true then
 if InverseEdit1.snd=InverseEdit0.snd then
 (laws_eqBlock toBlock0 toBlock0).bind fun eqBlock0 =>
 if eqBlock0=true then
 (laws_eqEdit toEdit0 toEdit0).bind fun eqEdit1 =>
 if eqEdit1=true then
 (laws_markBlock toBlock0 1).bind fun markBlock0 =>
 (laws_markEdit toEdit0 markBlock0.fst).bind fun markEdit0 =>
 if markEdit0.fst<0 then
 some Bool.false
 else
 if eqEdit0=true then
 if InverseEdit1.snd=InverseEdit0.snd then
 (laws_markEdit InverseEdit1.fst 1).bind fun markEdit1 =>
 (laws_heldEdit (InverseEdit1.fst.fst,InverseEdit1.fst.snd.fst,InverseEdit1.fst.snd.snd.fst,InverseEdit1.fst.snd.snd.snd.fst,InverseEdit1.fst.snd.snd.snd.snd.fst,InverseEdit1.fst.snd.snd.snd.snd.snd.fst,markEdit1.snd.snd.snd.snd.snd.snd.snd) 1).bind fun heldEdit0 =>
 if heldEdit0<0 then
 some Bool.false
 else
 if heldEdit0=markEdit1.fst then
 if eqEdit0=true then
 if InverseEdit1.snd=InverseEdit0.snd then
 if heldEdit0<0 then
 some Bool.false
 else
 if heldEdit0=markEdit1.fst then
 some Bool.true
 else
 some Bool.false
 else
 some Bool.false
 else
 some Bool.false
 else
 some Bool.false
 else
 some Bool.false
 else
 some Bool.false
 else
 some Bool.false
 else
 some Bool.false
 else
 some Bool.false
 else
 some Bool.false
noncomputable def c_laws_FnExactInverseEdit:Ctr:=⟨[.dat (tBlock),.dat (tEdit)],[.dat (.bool)],fun a K=>splitK a fun a0 a=>splitK a fun a1 a=>BindP (laws_FnExactInverseEdit a0 a1) fun r=>K (r,()) ()⟩
end Go.Proofs.YtpkjjgdhmafonaaGreatDoor
