/-
 The models of the functions and their contracts. Printed by program.
-/
import Derived.Test.YtioiomifapgimaaGreatDoorSxTab
import Derived.Test.YtioiomifapgimaaGreatDoorSxS0
import Derived.Test.YtioiomifapgimaaGreatDoorSxLib
import Derived.Test.YtioiomifapgimaaGreatDoorSxLibS
namespace Go.Proofs.YtioiomifapgimaaGreatDoor
open Go Go.Sx
set_option maxRecDepth 100000
set_option maxHeartbeats 100000000
set_option linter.unusedVariables false
set_option linter.unusedSimpArgs false
noncomputable section
abbrev Iq:Ty:=.int .i64
abbrev Wq:=IntKind.wrap IntKind.i64
abbrev Sq:=Za Tryz.prog
theorem Bq {α β:Type} (x:α) (f:α->Option β):(some x).bind f=f x:=rfl
def ZbB (b:YG) (a:Int):Option Int:=
if Wq (a-((YG.Name b).length:Int))<0 then
some (-1)
else
some (Wq (a-((YG.Name b).length:Int)))
def c0:Ctr:=D2 (Zdh) Iq Iq ZbB
def Zkf (c:List YG) (a b:Int):Option ((Int×Int×Unit) ⊕ Int):=
if b<(c.length:Int) then
(atI c b).bind λe=>
(ZbB e a).bind λd=>
if d<0 then
some (.inr (-1))
else
some (.inl (d,Wq (b+1),()))
else
some (.inr a)
def ZcE (b:List YG) (a:Int):Option Int:=
if Wq (a-(b.length:Int))<0 then
some (-1)
else
Zn (λv=>Zkf b v.1 v.2.1) (Wq (a-(b.length:Int)),(0:Int),())
def c1:Ctr:=D2 (.sl (Zdh)) Iq Iq ZcE
def Y6 (b:List Int) (a:Int):Option Int:=
if Wq (a-(b.length:Int))<0 then
some (-1)
else
some (Wq (a-(b.length:Int)))
def c2:Ctr:=D2 (.sl Iq) Iq Iq Y6
def VX (b:ZE) (a:Int):Option Int:=
(Y6 (ZE.ZhJ b) a).bind λc=>
if c<0 then
some (-1)
else
(Y6 (ZE.Loads b) c).bind λd=>
if d<0 then
some (-1)
else
(Y6 (ZE.Values b) d).bind λe=>
if e<0 then
some (-1)
else
some e
def c3:Ctr:=D2 (YV) Iq Iq VX
def ZiB (c:List ZE) (a b:Int):Option ((Int×Int×Unit) ⊕ Int):=
if b<(c.length:Int) then
(atI c b).bind λe=>
(VX e a).bind λd=>
if d<0 then
some (.inr (-1))
else
some (.inl (d,Wq (b+1),()))
else
some (.inr a)
def Jc (b:List ZE) (a:Int):Option Int:=
if Wq (a-(b.length:Int))<0 then
some (-1)
else
Zn (λv=>ZiB b v.1 v.2.1) (Wq (a-(b.length:Int)),(0:Int),())
def c4:Ctr:=D2 (.sl (YV)) Iq Iq Jc
def Zby (b:ZQ) (a:Int):Option Int:=
(Jc (ZQ.Delay b) a).bind λd=>
if d<0 then
some (-1)
else
(Jc (ZQ.ZiV b) d).bind λc=>
if c<0 then
some (-1)
else
some c
def c5:Ctr:=D2 (ZdW) Iq Iq Zby
def Zkc (c:List ZQ) (a b:Int):Option ((Int×Int×Unit) ⊕ Int):=
if b<(c.length:Int) then
(atI c b).bind λe=>
(Zby e a).bind λd=>
if d<0 then
some (.inr (-1))
else
some (.inl (d,Wq (b+1),()))
else
some (.inr a)
def ZcD (b:List ZQ) (a:Int):Option Int:=
if Wq (a-(b.length:Int))<0 then
some (-1)
else
Zn (λv=>Zkc b v.1 v.2.1) (Wq (a-(b.length:Int)),(0:Int),())
def c6:Ctr:=D2 (.sl (ZdW)) Iq Iq ZcD
def JU (b:Zm) (a:Int):Option Int:=
if Wq (a-((Zm.Name b).length:Int))<0 then
some (-1)
else
(ZcE (Zm.YR b) (Wq (a-((Zm.Name b).length:Int)))).bind λc=>
if c<0 then
some (-1)
else
(ZcD (Zm.ZaN b) c).bind λd=>
if d<0 then
some (-1)
else
(Y6 (Zm.Truth b) d).bind λe=>
if e<0 then
some (-1)
else
some e
def c7:Ctr:=D2 (Qk) Iq Iq JU
def Zjl (c:List Zm) (a b:Int):Option ((Int×Int×Unit) ⊕ Int):=
if b<(c.length:Int) then
(atI c b).bind λe=>
(JU e a).bind λd=>
if d<0 then
some (.inr (-1))
else
some (.inl (d,Wq (b+1),()))
else
some (.inr a)
def ZbA (b:List Zm) (a:Int):Option Int:=
if Wq (a-(b.length:Int))<0 then
some (-1)
else
Zn (λv=>Zjl b v.1 v.2.1) (Wq (a-(b.length:Int)),(0:Int),())
def c8:Ctr:=D2 (.sl (Qk)) Iq Iq ZbA
def Jt (c:Zt) (a:Int):Option Int:=
(ZbA (Zt.Cells c) a).bind λb=>
if b<0 then
some (-1)
else
some b
def c9:Ctr:=D2 (YL) Iq Iq Jt
def Qj (b:Zd) (a:Int):Option Int:=
if Wq (a-((Zd.Name b).length:Int))<0 then
some (-1)
else
(Y6 (Zd.YK b) (Wq (a-((Zd.Name b).length:Int)))).bind λc=>
if c<0 then
some (-1)
else
some c
def c10:Ctr:=D2 (Yg) Iq Iq Qj
def ZgH (c:List Zd) (a b:Int):Option ((Int×Int×Unit) ⊕ Int):=
if b<(c.length:Int) then
(atI c b).bind λe=>
(Qj e a).bind λd=>
if d<0 then
some (.inr (-1))
else
some (.inl (d,Wq (b+1),()))
else
some (.inr a)
def Q9 (b:List Zd) (a:Int):Option Int:=
if Wq (a-(b.length:Int))<0 then
some (-1)
else
Zn (λv=>ZgH b v.1 v.2.1) (Wq (a-(b.length:Int)),(0:Int),())
def c11:Ctr:=D2 (.sl (Yg)) Iq Iq Q9
def Qz (c:List (List UInt8)) (a b:Int):Option ((Int×Int×Unit) ⊕ Int):=
if b<(c.length:Int) then
(atI c b).bind λd=>
if Wq (a-(d.length:Int))<0 then
some (.inr (-1))
else
some (.inl (Wq (a-(d.length:Int)),Wq (b+1),()))
else
some (.inr a)
def Ju (b:List (List UInt8)) (a:Int):Option Int:=
if Wq (a-(b.length:Int))<0 then
some (-1)
else
Zn (λv=>Qz b v.1 v.2.1) (Wq (a-(b.length:Int)),(0:Int),())
def c12:Ctr:=D2 (.sl (.str)) Iq Iq Ju
def JV (b:Z8) (a:Int):Option Int:=
if Wq (a-((Z8.Name b).length:Int))<0 then
some (-1)
else
some (Wq (a-((Z8.Name b).length:Int)))
def c13:Ctr:=D2 (VQ) Iq Iq JV
def Zjo (c:List Z8) (a b:Int):Option ((Int×Int×Unit) ⊕ Int):=
if b<(c.length:Int) then
(atI c b).bind λe=>
(JV e a).bind λd=>
if d<0 then
some (.inr (-1))
else
some (.inl (d,Wq (b+1),()))
else
some (.inr a)
def ZbC (b:List Z8) (a:Int):Option Int:=
if Wq (a-(b.length:Int))<0 then
some (-1)
else
Zn (λv=>Zjo b v.1 v.2.1) (Wq (a-(b.length:Int)),(0:Int),())
def c14:Ctr:=D2 (.sl (VQ)) Iq Iq ZbC
def Zao (b:Zc) (a:Int):Option Int:=
(Q9 (Zc.Instances b) a).bind λc=>
if c<0 then
some (-1)
else
(Ju (Zc.YK b) c).bind λd=>
if d<0 then
some (-1)
else
(ZbC (Zc.Xi b) d).bind λe=>
if e<0 then
some (-1)
else
some e
def c15:Ctr:=D2 (YJ) Iq Iq Zao
def JW (a:ZJ) (b:Int):Option Int:=
(Y6 (ZJ.Parent a) b).bind λd=>
if d<0 then
some (-1)
else
(Y6 (ZJ.Res a) d).bind λe=>
if e<0 then
some (-1)
else
(Y6 (ZJ.Cap a) e).bind λf=>
if f<0 then
some (-1)
else
(Y6 (ZJ.Zkx a) f).bind λc=>
if c<0 then
some (-1)
else
some c
def c16:Ctr:=D2 (Vu) Iq Iq JW
def Zjq (c:List ZJ) (a b:Int):Option ((Int×Int×Unit) ⊕ Int):=
if b<(c.length:Int) then
(atI c b).bind λe=>
(JW e a).bind λd=>
if d<0 then
some (.inr (-1))
else
some (.inl (d,Wq (b+1),()))
else
some (.inr a)
def ZbD (b:List ZJ) (a:Int):Option Int:=
if Wq (a-(b.length:Int))<0 then
some (-1)
else
Zn (λv=>Zjq b v.1 v.2.1) (Wq (a-(b.length:Int)),(0:Int),())
def c17:Ctr:=D2 (.sl (Vu)) Iq Iq ZbD
def Zbz (b:Ze) (a:Int):Option Int:=
(Jt (Ze.Library b) a).bind λc=>
if c<0 then
some (-1)
else
(Zao (Ze.Design b) c).bind λd=>
if d<0 then
some (-1)
else
(ZbD (Ze.QZ b) d).bind λe=>
if e<0 then
some (-1)
else
some e
def c18:Ctr:=D2 (Yz) Iq Iq Zbz
def Za6 (b:List Zg) (a:Int):Option Int:=
if Wq (a-(b.length:Int))<0 then
some (-1)
else
some (Wq (a-(b.length:Int)))
def c19:Ctr:=D2 (.sl (Zy)) Iq Iq Za6
def Zfi (a:YG):Option YG:=
some a
def c20:Ctr:=D1 (Zdh) (Zdh) Zfi
def Zkj (c:List YG) (a:Int) (b:List (List UInt8×Int×Int×Bool×Unit)):Option ((Int×(List (List UInt8×Int×Int×Bool×Unit))×Unit) ⊕ List YG):=
if a<(c.length:Int) then
(atI c a).bind λd=>
(Zfi d).bind λe=>
(atI b a).bind λf=>
some (.inl (Wq (a+1),List.set b (Int.toNat a) e,()))
else
some (.inr b)
def ZfG (a:List YG):Option (List YG):=
Zu ((0:Int)<=(a.length:Int))<|
Zu ((a.length:Int)<=(a.length:Int))<|
Zu ((a.length:Int)<=4611686018427387904)<|
Zu (((40:Nat):Int)*(a.length:Int)<=281474976710656)<|
Zn (λv=>Zkj a v.1 v.2.1) ((0:Int),List.replicate (Int.toNat (a.length:Int)) (([]:List UInt8),(0:Int),(0:Int),false,()),())
def c21:Ctr:=⟨[.dat (.sl (Zdh))],[.own (.ol 241 (.flat (Zdh)))],λa K=>Zv a λb a=>YX (ZfG b) λr=>K (r,()) ()⟩
def ZiE (c:List Int) (a:Int) (b:List Int):Option ((Int×(List Int)×Unit) ⊕ List Int):=
if a<(c.length:Int) then
(atI c a).bind λd=>
(atI b a).bind λe=>
some (.inl (Wq (a+1),List.set b (Int.toNat a) d,()))
else
some (.inr b)
def Xv (a:List Int):Option (List Int):=
Zu ((0:Int)<=(a.length:Int))<|
Zu ((a.length:Int)<=(a.length:Int))<|
Zu ((a.length:Int)<=4611686018427387904)<|
Zu (((8:Nat):Int)*(a.length:Int)<=281474976710656)<|
Zn (λv=>ZiE a v.1 v.2.1) ((0:Int),List.replicate (Int.toNat (a.length:Int)) (0:Int),())
def c22:Ctr:=⟨[.dat (.sl Iq)],[.own (.ol 2 (.flat Iq))],λa K=>Zv a λb a=>YX (Xv b) λr=>K (r,()) ()⟩
def Zdq (a:ZE):Option ZE:=
(Xv (ZE.ZhJ a)).bind λc=>
(Xv (ZE.Loads a)).bind λb=>
(Xv (ZE.Values a)).bind λd=>
some (c,b,d,())
def c23:Ctr:=⟨[.dat (YV)],[.own (Zf1)],λa K=>Zv a λb a=>YX (Zdq b) λr=>K (r,()) ()⟩
def ZiF (c:List ZE) (a:Int) (b:List ZE):Option ((Int×(List ZE)×Unit) ⊕ List ZE):=
if a<(c.length:Int) then
(atI c a).bind λd=>
(Zdq d).bind λe=>
(atI b a).bind λf=>
some (.inl (Wq (a+1),List.set b (Int.toNat a) e,()))
else
some (.inr b)
def Zca (a:List ZE):Option (List ZE):=
Zu ((0:Int)<=(a.length:Int))<|
Zu ((a.length:Int)<=(a.length:Int))<|
Zu ((a.length:Int)<=4611686018427387904)<|
Zu (((72:Nat):Int)*(a.length:Int)<=281474976710656)<|
Zn (λv=>ZiF a v.1 v.2.1) ((0:Int),List.replicate (Int.toNat (a.length:Int)) (([]:List Int),([]:List Int),([]:List Int),()),())
def c24:Ctr:=⟨[.dat (.sl (YV))],[.own (.ol 317 (Zf1))],λa K=>Zv a λb a=>YX (Zca b) λr=>K (r,()) ()⟩
def Zfh (a:ZQ):Option ZQ:=
(Zca (ZQ.Delay a)).bind λc=>
(Zca (ZQ.ZiV a)).bind λb=>
some (ZQ.Kind a,ZQ.From a,ZQ.To a,ZQ.Zcu a,c,b,())
def c25:Ctr:=⟨[.dat (ZdW)],[.own (ZuV)],λa K=>Zv a λb a=>YX (Zfh b) λr=>K (r,()) ()⟩
def Zkh (c:List ZQ) (a:Int) (b:List ZQ):Option ((Int×(List ZQ)×Unit) ⊕ List ZQ):=
if a<(c.length:Int) then
(atI c a).bind λd=>
(Zfh d).bind λe=>
(atI b a).bind λf=>
some (.inl (Wq (a+1),List.set b (Int.toNat a) e,()))
else
some (.inr b)
def ZfF (a:List ZQ):Option (List ZQ):=
Zu ((0:Int)<=(a.length:Int))<|
Zu ((a.length:Int)<=(a.length:Int))<|
Zu ((a.length:Int)<=4611686018427387904)<|
Zu (((80:Nat):Int)*(a.length:Int)<=281474976710656)<|
Zn (λv=>Zkh a v.1 v.2.1) ((0:Int),List.replicate (Int.toNat (a.length:Int)) ((0:Int),(0:Int),(0:Int),(0:Int),([]:List ZE),([]:List ZE),()),())
def c26:Ctr:=⟨[.dat (.sl (ZdW))],[.own (.ol 274 (ZuV))],λa K=>Zv a λb a=>YX (ZfF b) λr=>K (r,()) ()⟩
def Zed (a:Zm):Option Zm:=
(ZfG (Zm.YR a)).bind λc=>
(ZfF (Zm.ZaN a)).bind λb=>
(Xv (Zm.Truth a)).bind λd=>
some (Zm.Name a,Zm.Kind a,c,b,d,a.2.2.2.2.2)
def c27:Ctr:=⟨[.dat (Qk)],[.own (Zod)],λa K=>Zv a λb a=>YX (Zed b) λr=>K (r,()) ()⟩
def Zjs (c:List Zm) (a:Int) (b:List Zm):Option ((Int×(List Zm)×Unit) ⊕ List Zm):=
if a<(c.length:Int) then
(atI c a).bind λd=>
(Zed d).bind λe=>
(atI b a).bind λf=>
some (.inl (Wq (a+1),List.set b (Int.toNat a) e,()))
else
some (.inr b)
def ZeH (a:List Zm):Option (List Zm):=
Zu ((0:Int)<=(a.length:Int))<|
Zu ((a.length:Int)<=(a.length:Int))<|
Zu ((a.length:Int)<=4611686018427387904)<|
Zu (((112:Nat):Int)*(a.length:Int)<=281474976710656)<|
Zn (λv=>Zjs a v.1 v.2.1) ((0:Int),List.replicate (Int.toNat (a.length:Int)) (([]:List UInt8),(0:Int),([]:List YG),([]:List ZQ),([]:List Int),(0:Int),(0:Int),()),())
def c28:Ctr:=⟨[.dat (.sl (Qk))],[.own (.ol 139 (Zod))],λa K=>Zv a λb a=>YX (ZeH b) λr=>K (r,()) ()⟩
def Zc6 (a:Zt):Option Zt:=
(ZeH (Zt.Cells a)).bind λb=>
some (b,())
def c29:Ctr:=⟨[.dat (YL)],[.own (Zoe)],λa K=>Zv a λb a=>YX (Zc6 b) λr=>K (r,()) ()⟩
def JY (a:Zd):Option Zd:=
(Xv (Zd.YK a)).bind λb=>
some (Zd.Name a,Zd.Cell a,b,())
def c30:Ctr:=⟨[.dat (Yg)],[.own (ZbQ)],λa K=>Zv a λb a=>YX (JY b) λr=>K (r,()) ()⟩
def ZgJ (c:List Zd) (a:Int) (b:List Zd):Option ((Int×(List Zd)×Unit) ⊕ List Zd):=
if a<(c.length:Int) then
(atI c a).bind λd=>
(JY d).bind λe=>
(atI b a).bind λf=>
some (.inl (Wq (a+1),List.set b (Int.toNat a) e,()))
else
some (.inr b)
def Za8 (a:List Zd):Option (List Zd):=
Zu ((0:Int)<=(a.length:Int))<|
Zu ((a.length:Int)<=(a.length:Int))<|
Zu ((a.length:Int)<=4611686018427387904)<|
Zu (((48:Nat):Int)*(a.length:Int)<=281474976710656)<|
Zn (λv=>ZgJ a v.1 v.2.1) ((0:Int),List.replicate (Int.toNat (a.length:Int)) (([]:List UInt8),(0:Int),([]:List Int),()),())
def c31:Ctr:=⟨[.dat (.sl (Yg))],[.own (.ol 82 (ZbQ))],λa K=>Zv a λb a=>YX (Za8 b) λr=>K (r,()) ()⟩
def ZhP (c:List (List UInt8)) (a:Int) (b:List (List UInt8)):Option ((Int×(List (List UInt8))×Unit) ⊕ List (List UInt8)):=
if a<(c.length:Int) then
(atI c a).bind λd=>
(atI b a).bind λe=>
some (.inl (Wq (a+1),List.set b (Int.toNat a) d,()))
else
some (.inr b)
def Zc7 (a:List (List UInt8)):Option (List (List UInt8)):=
Zu ((0:Int)<=(a.length:Int))<|
Zu ((a.length:Int)<=(a.length:Int))<|
Zu ((a.length:Int)<=4611686018427387904)<|
Zu (((16:Nat):Int)*(a.length:Int)<=281474976710656)<|
Zn (λv=>ZhP a v.1 v.2.1) ((0:Int),List.replicate (Int.toNat (a.length:Int)) (([]:List UInt8)),())
def c32:Ctr:=⟨[.dat (.sl (.str))],[.own (.ol 9 (.flat (.str)))],λa K=>Zv a λb a=>YX (Zc7 b) λr=>K (r,()) ()⟩
def Zee (a:Z8):Option Z8:=
some a
def c33:Ctr:=D1 (VQ) (VQ) Zee
def Zjv (c:List Z8) (a:Int) (b:List (List UInt8×Int×Int×Unit)):Option ((Int×(List (List UInt8×Int×Int×Unit))×Unit) ⊕ List Z8):=
if a<(c.length:Int) then
(atI c a).bind λd=>
(Zee d).bind λe=>
(atI b a).bind λf=>
some (.inl (Wq (a+1),List.set b (Int.toNat a) e,()))
else
some (.inr b)
def ZeI (a:List Z8):Option (List Z8):=
Zu ((0:Int)<=(a.length:Int))<|
Zu ((a.length:Int)<=(a.length:Int))<|
Zu ((a.length:Int)<=4611686018427387904)<|
Zu (((32:Nat):Int)*(a.length:Int)<=281474976710656)<|
Zn (λv=>Zjv a v.1 v.2.1) ((0:Int),List.replicate (Int.toNat (a.length:Int)) (([]:List UInt8),(0:Int),(0:Int),()),())
def c34:Ctr:=⟨[.dat (.sl (VQ))],[.own (.ol 221 (.flat (VQ)))],λa K=>Zv a λb a=>YX (ZeI b) λr=>K (r,()) ()⟩
def ZdK (a:Zc):Option Zc:=
(Za8 (Zc.Instances a)).bind λc=>
(Zc7 (Zc.YK a)).bind λb=>
(ZeI (Zc.Xi a)).bind λd=>
some (c,b,d,())
def c35:Ctr:=⟨[.dat (YJ)],[.own (Zqd)],λa K=>Zv a λb a=>YX (ZdK b) λr=>K (r,()) ()⟩
def Zef (a:ZJ):Option ZJ:=
(Xv (ZJ.Parent a)).bind λc=>
(Xv (ZJ.Res a)).bind λd=>
(Xv (ZJ.Cap a)).bind λe=>
(Xv (ZJ.Zkx a)).bind λb=>
some (c,d,e,b,())
def c36:Ctr:=⟨[.dat (Vu)],[.own (Zof)],λa K=>Zv a λb a=>YX (Zef b) λr=>K (r,()) ()⟩
def Zjw (c:List ZJ) (a:Int) (b:List ZJ):Option ((Int×(List ZJ)×Unit) ⊕ List ZJ):=
if a<(c.length:Int) then
(atI c a).bind λd=>
(Zef d).bind λe=>
(atI b a).bind λf=>
some (.inl (Wq (a+1),List.set b (Int.toNat a) e,()))
else
some (.inr b)
def ZeJ (a:List ZJ):Option (List ZJ):=
Zu ((0:Int)<=(a.length:Int))<|
Zu ((a.length:Int)<=(a.length:Int))<|
Zu ((a.length:Int)<=4611686018427387904)<|
Zu (((96:Nat):Int)*(a.length:Int)<=281474976710656)<|
Zn (λv=>Zjw a v.1 v.2.1) ((0:Int),List.replicate (Int.toNat (a.length:Int)) (([]:List Int),([]:List Int),([]:List Int),([]:List Int),()),())
def c37:Ctr:=⟨[.dat (.sl (Vu))],[.own (.ol 162 (Zof))],λa K=>Zv a λb a=>YX (ZeJ b) λr=>K (r,()) ()⟩
def ZeG (a:Ze):Option Ze:=
(Zc6 (Ze.Library a)).bind λc=>
(ZdK (Ze.Design a)).bind λb=>
(ZeJ (Ze.QZ a)).bind λd=>
some (c,b,d,())
def c38:Ctr:=⟨[.dat (Yz)],[.own (Zwk)],λa K=>Zv a λb a=>YX (ZeG b) λr=>K (r,()) ()⟩
def Zb9 (a:ZH):Option ZH:=
some a
def c39:Ctr:=D1 (ZaU) (ZaU) Zb9
def JX (a:Zg):Option Zg:=
(Zb9 (Zg.High a)).bind λb=>
some (b,a.2)
def c40:Ctr:=D1 (Zy) (Zy) JX
def ZgI (c:List Zg) (a:Int) (b:List (ZH×Int×Unit)):Option ((Int×(List (ZH×Int×Unit))×Unit) ⊕ List Zg):=
if a<(c.length:Int) then
(atI c a).bind λd=>
(JX d).bind λe=>
(atI b a).bind λf=>
some (.inl (Wq (a+1),List.set b (Int.toNat a) e,()))
else
some (.inr b)
def Za7 (a:List Zg):Option (List Zg):=
Zu ((0:Int)<=(a.length:Int))<|
Zu ((a.length:Int)<=(a.length:Int))<|
Zu ((a.length:Int)<=4611686018427387904)<|
Zu (((24:Nat):Int)*(a.length:Int)<=281474976710656)<|
Zn (λv=>ZgI a v.1 v.2.1) ((0:Int),List.replicate (Int.toNat (a.length:Int)) (((0:Int),(0:Int),()),(0:Int),()),())
def c41:Ctr:=⟨[.dat (.sl (Zy))],[.own (.ol 106 (.flat (Zy)))],λa K=>Zv a λb a=>YX (Za7 b) λr=>K (r,()) ()⟩
def Zcm (c:List UInt8) (a:Int):Option ((Int×Unit) ⊕ Bool):=
if a<(c.length:Int) then
(atI c a).bind λb=>
if 97<=((UInt8.toNat b):Int) then
if 48<=((UInt8.toNat b):Int) then
if ((UInt8.toNat b):Int)<=122 then
some (.inl (Wq (a+1),()))
else
if ((UInt8.toNat b):Int)<=57 then
if 0<a then
some (.inl (Wq (a+1),()))
else
some (.inr false)
else
some (.inr false)
else
if ((UInt8.toNat b):Int)<=122 then
some (.inl (Wq (a+1),()))
else
some (.inr false)
else
if 48<=((UInt8.toNat b):Int) then
if ((UInt8.toNat b):Int)<=57 then
if 0<a then
some (.inl (Wq (a+1),()))
else
some (.inr false)
else
some (.inr false)
else
some (.inr false)
else
if 1<=(c.length:Int) then
some (.inr (decide ((c.length:Int)<=8)))
else
some (.inr false)
def ZbH (a:List UInt8):Option Bool:=
Zn (λv=>Zcm a v.1) ((0:Int),())
def c42:Ctr:=D1 (.str) (.bool) ZbH
def YB (c b a:Int):Option Bool:=
if b<=c then
some (decide (c<=a))
else
some false
def c43:Ctr:=D3 Iq Iq Iq (.bool) YB
def Qs (d:Zm) (c b:Int) (a:YG) (e:Int):Option ((Int×Unit) ⊕ ((Int×Int×Unit) ⊕ (Int×Bool))):=
if e<b then
(atI (Zm.YR d) e).bind λg=>
if YG.Name g=YG.Name a then
some (.inr (.inr (0,false)))
else
some (.inl (Wq (e+1),()))
else
(ZbH (YG.Name a)).bind λf=>
if f then
(YB (YG.Cap a) 0 500).bind λh=>
if h then
if b=Wq (((Zm.YR d).length:Int)-1) then
if YG.Dir a=2 then
if YG.Cap a=0 then
if (YG.Clock a)=true then
some (.inr (.inr (0,false)))
else
if b<Wq (((Zm.YR d).length:Int)-1) then
if YG.Dir a=1 then
if (YG.Clock a)=true then
some (.inr (.inl (Wq (c+1),Wq (b+1),())))
else
some (.inr (.inl (c,Wq (b+1),())))
else
some (.inr (.inr (0,false)))
else
if (YG.Clock a)=true then
some (.inr (.inl (Wq (c+1),Wq (b+1),())))
else
some (.inr (.inl (c,Wq (b+1),())))
else
some (.inr (.inr (0,false)))
else
some (.inr (.inr (0,false)))
else
if b<Wq (((Zm.YR d).length:Int)-1) then
if YG.Dir a=1 then
if (YG.Clock a)=true then
some (.inr (.inl (Wq (c+1),Wq (b+1),())))
else
some (.inr (.inl (c,Wq (b+1),())))
else
some (.inr (.inr (0,false)))
else
if (YG.Clock a)=true then
some (.inr (.inl (Wq (c+1),Wq (b+1),())))
else
some (.inr (.inl (c,Wq (b+1),())))
else
some (.inr (.inr (0,false)))
else
some (.inr (.inr (0,false)))
def Vm (a:Zm) (c b:Int):Option ((Int×Int×Unit) ⊕ (Int×Bool)):=
if b<((Zm.YR a).length:Int) then
(atI (Zm.YR a) b).bind λd=>
Zn (λv=>Qs a c b d v.1) ((0:Int),())
else
some (.inr (c,true))
def ZeR (a:Zm):Option (Int×Bool):=
if ((Zm.YR a).length:Int)<2 then
some (0,false)
else
if 5<((Zm.YR a).length:Int) then
some (0,false)
else
Zn (λv=>Vm a v.1 v.2.1) ((0:Int),(0:Int),())
def c44:Ctr:=⟨[.dat (Qk)],[.dat Iq,.dat (.bool)],λa K=>Zv a λb a=>YX (ZeR b) λr=>K (r.1,r.2,()) ()⟩
def Zcl (a:List Int) (b:Int):Option ((Int×Unit) ⊕ Bool):=
if b<(a.length:Int) then
(atI a b).bind λc=>
(YB c 0 100000).bind λe=>
if e then
if 0<b then
(atI a (Wq (b-1))).bind λd=>
if c<=d then
some (.inr false)
else
some (.inl (Wq (b+1),()))
else
some (.inl (Wq (b+1),()))
else
some (.inr false)
else
if 1<=(a.length:Int) then
some (.inr (decide ((a.length:Int)<=4)))
else
some (.inr false)
def Zdr (a:List Int):Option Bool:=
Zn (λv=>Zcl a v.1) ((0:Int),())
def c45:Ctr:=D1 (.sl Iq) (.bool) Zdr
def Zcj (b:ZE) (a:Int):Option ((Int×Unit) ⊕ Bool):=
if a<((ZE.Values b).length:Int) then
(atI (ZE.Values b) a).bind λc=>
(YB c (-1000000) 1000000).bind λd=>
if d then
some (.inl (Wq (a+1),()))
else
some (.inr false)
else
some (.inr true)
def ZeP (a:ZE):Option Bool:=
(Zdr (ZE.ZhJ a)).bind λc=>
if c then
(Zdr (ZE.Loads a)).bind λb=>
if b then
if ((ZE.Values a).length:Int)=Wq (((ZE.ZhJ a).length:Int)*((ZE.Loads a).length:Int)) then
Zn (λv=>Zcj a v.1) ((0:Int),())
else
some false
else
some false
else
some false
def c46:Ctr:=D1 (YV) (.bool) ZeP
def QY (d:ZE) (a e c:Int):Option ((Int×Int×Int×Unit) ⊕ (Zp7×Int)):=
if a<((ZE.Values d).length:Int) then
(atI (ZE.Values d) a).bind λb=>
some (.inl (Wq (a+1),Min.min e b,Max.max c b,()))
else
some (.inr ((e,c,()),0))
def Zba (a:ZE):Option (Zp7×Int):=
(ZeP a).bind λc=>
if c then
(atI (ZE.Values a) 0).bind λb=>
Zn (λv=>QY a v.1 v.2.1 v.2.2.1) ((1:Int),b,b,())
else
some ((0,0,()),1)
def c47:Ctr:=⟨[.dat (YV)],[.dat (ZyV),.dat Iq],λa K=>Zv a λb a=>YX (Zba b) λr=>K (r.1,r.2,()) ()⟩
def ZaG (c:List ZE) (a:Bool) (b:Int):Option ((Int×Unit) ⊕ Bool):=
if b<2 then
(atI c b).bind λe=>
(Zba e).bind λd=>
if d.2=0 then
if a then
if d.1.1<0 then
some (.inr false)
else
some (.inl (Wq (b+1),()))
else
some (.inl (Wq (b+1),()))
else
some (.inr false)
else
some (.inr true)
def YF (b:List ZE) (a:Bool):Option Bool:=
if (b.length:Int)=2 then
Zn (λv=>ZaG b a v.1) ((0:Int),())
else
some false
def c48:Ctr:=D2 (.sl (YV)) (.bool) (.bool) YF
def ZfT (b:Zm) (a:ZQ):Option Bool:=
(YB (ZQ.From a) 0 (Wq (Wq (((Zm.YR b).length:Int)-1)-1))).bind λi=>
if i then
(YB (ZQ.To a) 0 (Wq (((Zm.YR b).length:Int)-1))).bind λg=>
if g then
(atI (Zm.YR b) (ZQ.From a)).bind λd=>
if ZQ.Kind a=1 then
if (YG.Clock d)=true then
some false
else
if ZQ.To a=Wq (((Zm.YR b).length:Int)-1) then
(YB (ZQ.Zcu a) 1 3).bind λh=>
if h then
(YF (ZQ.Delay a) true).bind λc=>
if c then
(YF (ZQ.ZiV a) true).bind λf=>
some f
else
some false
else
some false
else
some false
else
if ZQ.Kind a=2 then
if ZQ.Kind a=2 then
if (YG.Clock d)=true then
if ZQ.To a=Wq (((Zm.YR b).length:Int)-1) then
if ZQ.Zcu a=0 then
(YF (ZQ.Delay a) true).bind λc=>
if c then
(YF (ZQ.ZiV a) true).bind λf=>
some f
else
some false
else
some false
else
some false
else
some false
else
if ZQ.Kind a=4 then
if ZQ.Kind a=4 then
if (YG.Clock d)=true then
if ZQ.To a<Wq (((Zm.YR b).length:Int)-1) then
(atI (Zm.YR b) (ZQ.To a)).bind λe=>
if (YG.Clock e)=true then
some false
else
if ZQ.Zcu a=0 then
(YF (ZQ.Delay a) false).bind λc=>
if c then
some (decide (((ZQ.ZiV a).length:Int)=0))
else
some false
else
some false
else
some false
else
some false
else
some false
else
if ZQ.Kind a=5 then
if (YG.Clock d)=true then
if ZQ.To a<Wq (((Zm.YR b).length:Int)-1) then
(atI (Zm.YR b) (ZQ.To a)).bind λe=>
if (YG.Clock e)=true then
some false
else
if ZQ.Zcu a=0 then
(YF (ZQ.Delay a) false).bind λc=>
if c then
some (decide (((ZQ.ZiV a).length:Int)=0))
else
some false
else
some false
else
some false
else
some false
else
some false
else
if ZQ.Kind a=3 then
if (YG.Clock d)=true then
if ZQ.To a=Wq (((Zm.YR b).length:Int)-1) then
if ZQ.Zcu a=0 then
(YF (ZQ.Delay a) true).bind λc=>
if c then
(YF (ZQ.ZiV a) true).bind λf=>
some f
else
some false
else
some false
else
some false
else
some false
else
if ZQ.Kind a=4 then
if ZQ.Kind a=4 then
if (YG.Clock d)=true then
if ZQ.To a<Wq (((Zm.YR b).length:Int)-1) then
(atI (Zm.YR b) (ZQ.To a)).bind λe=>
if (YG.Clock e)=true then
some false
else
if ZQ.Zcu a=0 then
(YF (ZQ.Delay a) false).bind λc=>
if c then
some (decide (((ZQ.ZiV a).length:Int)=0))
else
some false
else
some false
else
some false
else
some false
else
some false
else
if ZQ.Kind a=5 then
if (YG.Clock d)=true then
if ZQ.To a<Wq (((Zm.YR b).length:Int)-1) then
(atI (Zm.YR b) (ZQ.To a)).bind λe=>
if (YG.Clock e)=true then
some false
else
if ZQ.Zcu a=0 then
(YF (ZQ.Delay a) false).bind λc=>
if c then
some (decide (((ZQ.ZiV a).length:Int)=0))
else
some false
else
some false
else
some false
else
some false
else
some false
else
some false
else
some false
def c49:Ctr:=D2 (Qk) (ZdW) (.bool) ZfT
def Ji (d:Zm) (b:Int) (a:List Int):Option ((Int×(List Int)×Unit) ⊕ List Int):=
if b<((Zm.ZaN d).length:Int) then
(atI (Zm.ZaN d) b).bind λc=>
(atI a (ZQ.Kind c)).bind λe=>
some (.inl (Wq (b+1),List.set a (Int.toNat (ZQ.Kind c)) (Wq (e+1)),()))
else
some (.inr a)
def ZdL (a:Zm):Option (List Int):=
Zn (λv=>Ji a v.1 v.2.1) ((0:Int),List.replicate (Int.toNat (6:Int)) (0:Int),())
def c50:Ctr:=⟨[.dat (Qk)],[.own (.ol 2 (.flat Iq))],λa K=>Zv a λb a=>YX (ZdL b) λr=>K (r,()) ()⟩
def Zaq (e:Zm) (d:Int) (c:ZQ) (a:Int):Option ((Int×Unit) ⊕ ((Int×Unit) ⊕ Bool)):=
if a<d then
(atI (Zm.ZaN e) a).bind λb=>
if ZQ.Kind b=ZQ.Kind c then
if ZQ.From b=ZQ.From c then
if ZQ.To b=ZQ.To c then
some (.inr (.inr false))
else
some (.inl (Wq (a+1),()))
else
some (.inl (Wq (a+1),()))
else
some (.inl (Wq (a+1),()))
else
some (.inr (.inl (Wq (d+1),())))
def Zar (b:Zm) (a:Int×Bool) (c:Int):Option ((Int×Unit) ⊕ ((Int×Unit) ⊕ Bool)):=
if c<((Zm.Truth b).length:Int) then
(atI (Zm.Truth b) c).bind λd=>
(YB d 0 1).bind λe=>
if e then
some (.inl (Wq (c+1),()))
else
some (.inr (.inr false))
else
if a.1=0 then
Zu ((0:Int)<=IntKind.wrap IntKind.u64 (Wq (((Zm.YR b).length:Int)-1)))<|
some (.inr (.inr (decide (((Zm.Truth b).length:Int)=Wq (1*2 ^ Min.min (Int.toNat (IntKind.wrap IntKind.u64 (Wq (((Zm.YR b).length:Int)-1)))) (IntKind.bits IntKind.i64))))))
else
some (.inr (.inr false))
def ZcM (b:Zm) (a:Int×Bool) (f:Int):Option ((Int×Unit) ⊕ Bool):=
if f<((Zm.ZaN b).length:Int) then
(atI (Zm.ZaN b) f).bind λc=>
(ZfT b c).bind λh=>
if h then
Zn (λv=>Zaq b f c v.1) ((0:Int),())
else
some (.inr false)
else
(ZdL b).bind λd=>
if Zm.Kind b=1 then
Zn (λv=>Zar b a v.1) ((0:Int),())
else
if Zm.Kind b=2 then
if a.1=1 then
(atI d 1).bind λc=>
if c=0 then
(atI d 2).bind λg=>
(atI d 3).bind λe=>
if (decide (0<g) == decide (0<e))=true then
some (.inr false)
else
some (.inr (decide (((Zm.Truth b).length:Int)=0)))
else
some (.inr false)
else
some (.inr false)
else
if Zm.Kind b=3 then
if a.1=1 then
(atI d 1).bind λc=>
if 0<c then
(atI d 2).bind λg=>
if 0<g then
(atI d 3).bind λe=>
if e=0 then
some (.inr (decide (((Zm.Truth b).length:Int)=0)))
else
some (.inr false)
else
some (.inr false)
else
some (.inr false)
else
some (.inr false)
else
some (.inr false)
def ZfR (a:Zm):Option Bool:=
(ZeR a).bind λb=>
if b.2 then
(ZbH (Zm.Name a)).bind λd=>
if d then
if 8<((Zm.ZaN a).length:Int) then
some false
else
(YB (Zm.ZuT a) 0 100000).bind λe=>
if e then
(YB (Zm.ZhS a) 0 100000).bind λc=>
if c then
Zn (λv=>ZcM a b v.1) ((0:Int),())
else
some false
else
some false
else
some false
else
some false
def c51:Ctr:=D1 (Qk) (.bool) ZfR
def ZaE (e:Zt) (b:Int) (d:Zm) (a:Int):Option ((Int×Unit) ⊕ ((Int×Unit) ⊕ Bool)):=
if a<b then
(atI (Zt.Cells e) a).bind λc=>
if Zm.Name c=Zm.Name d then
some (.inr (.inr false))
else
some (.inl (Wq (a+1),()))
else
some (.inr (.inl (Wq (b+1),())))
def ZaF (a:Zt) (b:Int):Option ((Int×Unit) ⊕ Bool):=
if b<((Zt.Cells a).length:Int) then
(atI (Zt.Cells a) b).bind λc=>
(ZfR c).bind λd=>
if d then
Zn (λv=>ZaE a b c v.1) ((0:Int),())
else
some (.inr false)
else
some (.inr (decide (((Zt.Cells a).length:Int)<=8)))
def Zc9 (a:Zt):Option Bool:=
Zn (λv=>ZaF a v.1) ((0:Int),())
def c52:Ctr:=D1 (YL) (.bool) Zc9
def Zbs (e:Zc) (f:Int) (b:Zd) (a:Int):Option ((Int×Unit) ⊕ ((Int×Unit) ⊕ Bool)):=
if a<((Zd.YK b).length:Int) then
(atI (Zd.YK b) a).bind λd=>
(YB d 0 (Wq (((Zc.YK e).length:Int)-1))).bind λc=>
if c then
some (.inl (Wq (a+1),()))
else
some (.inr (.inr false))
else
some (.inr (.inl (Wq (f+1),())))
def Zbt (b:Zc) (a:Int):Option ((Int×Unit) ⊕ ((Int×Unit) ⊕ Bool)):=
if a<((Zc.Xi b).length:Int) then
(atI (Zc.Xi b) a).bind λc=>
(YB (Z8.Dir c) 1 2).bind λd=>
if d then
(YB (Z8.Net c) 0 (Wq (((Zc.YK b).length:Int)-1))).bind λe=>
if e then
some (.inl (Wq (a+1),()))
else
some (.inr (.inr false))
else
some (.inr (.inr false))
else
some (.inr (.inr true))
def Zbu (d:Zt) (b:Zc) (c:Int):Option ((Int×Unit) ⊕ Bool):=
if c<((Zc.Instances b).length:Int) then
(atI (Zc.Instances b) c).bind λa=>
(YB (Zd.Cell a) 0 (Wq (((Zt.Cells d).length:Int)-1))).bind λf=>
if f then
(atI (Zt.Cells d) (Zd.Cell a)).bind λe=>
if ((Zd.YK a).length:Int)=((Zm.YR e).length:Int) then
Zn (λv=>Zbs b c a v.1) ((0:Int),())
else
some (.inr false)
else
some (.inr false)
else
Zn (λv=>Zbt b v.1) ((0:Int),())
def ZdM (a:Zt) (b:Zc):Option Bool:=
Zn (λv=>Zbu a b v.1) ((0:Int),())
def c53:Ctr:=D2 (YL) (YJ) (.bool) ZdM
def Zbq (a:List (List UInt8)) (c:Int) (e:List UInt8) (b:Int):Option ((Int×Unit) ⊕ ((Int×Unit) ⊕ Bool)):=
if b<c then
(atI a b).bind λd=>
if d=e then
some (.inr (.inr false))
else
some (.inl (Wq (b+1),()))
else
some (.inr (.inl (Wq (c+1),())))
def Zbr (a:List (List UInt8)) (b:Int):Option ((Int×Unit) ⊕ Bool):=
if b<(a.length:Int) then
(atI a b).bind λc=>
(ZbH c).bind λd=>
if d then
Zn (λv=>Zbq a b c v.1) ((0:Int),())
else
some (.inr false)
else
some (.inr true)
def Zas (a:List (List UInt8)):Option Bool:=
Zn (λv=>Zbr a v.1) ((0:Int),())
def c54:Ctr:=D1 (.sl (.str)) (.bool) Zas
def Zbn (b:List Int) (a:Int):Option ((Int×Unit) ⊕ ((Int×(List Int)×Unit) ⊕ ((Int×(List Int)×Unit) ⊕ (((List (List UInt8))×Int×Unit) ⊕ (((List (List UInt8))×Int×Unit) ⊕ Bool))))):=
if a<(b.length:Int) then
(atI b a).bind λc=>
if c=1 then
some (.inl (Wq (a+1),()))
else
some (.inr (.inr (.inr (.inr (.inr false)))))
else
some (.inr (.inr (.inr (.inr (.inr true)))))
def Jg (d:Zc) (b:Int) (a:List Int):Option ((Int×(List Int)×Unit) ⊕ ((Int×(List Int)×Unit) ⊕ (((List (List UInt8))×Int×Unit) ⊕ (((List (List UInt8))×Int×Unit) ⊕ Bool)))):=
if b<((Zc.Xi d).length:Int) then
(atI (Zc.Xi d) b).bind λc=>
if Z8.Dir c=1 then
(atI a (Z8.Net c)).bind λe=>
some (.inl (Wq (b+1),List.set a (Int.toNat (Z8.Net c)) (Wq (e+1)),()))
else
some (.inl (Wq (b+1),a,()))
else
Zn (λv=>Zbn a v.1) ((0:Int),())
def Jh (b:Zc) (a:Int) (c:List Int):Option ((Int×(List Int)×Unit) ⊕ (((List (List UInt8))×Int×Unit) ⊕ (((List (List UInt8))×Int×Unit) ⊕ Bool))):=
if a<((Zc.Instances b).length:Int) then
(atI (Zc.Instances b) a).bind λe=>
(atI (Zd.YK e) (Wq (((Zd.YK e).length:Int)-1))).bind λd=>
(atI c d).bind λf=>
some (.inl (Wq (a+1),List.set c (Int.toNat d) (Wq (f+1)),()))
else
Zn (λv=>Jg b v.1 v.2.1) ((0:Int),c,())
def Zbo (a:Zc) (g c:List (List UInt8)) (b:Int):Option (((List (List UInt8))×Int×Unit) ⊕ (((List (List UInt8))×Int×Unit) ⊕ Bool)):=
if b<((Zc.Xi a).length:Int) then
(atI (Zc.Xi a) b).bind λd=>
Zu ((c.length+[Z8.Name d].length)*16<=140737488355328)<|
some (.inl (c++[Z8.Name d],Wq (b+1),()))
else
(Zas g).bind λh=>
if h then
(Zas c).bind λe=>
if e then
(Zas (Zc.YK a)).bind λf=>
if f then
Zu ((0:Int)<=((Zc.YK a).length:Int))<|
Zu (((Zc.YK a).length:Int)<=((Zc.YK a).length:Int))<|
Zu (((Zc.YK a).length:Int)<=4611686018427387904)<|
Zu (((8:Nat):Int)*((Zc.YK a).length:Int)<=281474976710656)<|
Zn (λv=>Jh a v.1 v.2.1) ((0:Int),List.replicate (Int.toNat ((Zc.YK a).length:Int)) (0:Int),())
else
some (.inr (.inr false))
else
some (.inr (.inr false))
else
some (.inr (.inr false))
def Zbp (b:Zc) (c:List (List UInt8)) (a:Int):Option (((List (List UInt8))×Int×Unit) ⊕ Bool):=
if a<((Zc.Instances b).length:Int) then
(atI (Zc.Instances b) a).bind λd=>
Zu ((c.length+[Zd.Name d].length)*16<=140737488355328)<|
some (.inl (c++[Zd.Name d],Wq (a+1),()))
else
Zn (λv=>Zbo b c v.1 v.2.1) (([]:List (List UInt8)),(0:Int),())
def Zch (b:Zt) (a:Zc):Option Bool:=
(Zc9 b).bind λc=>
if c then
if 14<((Zc.Instances a).length:Int) then
some false
else
if 30<((Zc.YK a).length:Int) then
some false
else
if 8<((Zc.Xi a).length:Int) then
some false
else
(ZdM b a).bind λd=>
if d then
Zn (λv=>Zbp a v.1 v.2.1) (([]:List (List UInt8)),(0:Int),())
else
some false
else
some false
def c55:Ctr:=D2 (YL) (YJ) (.bool) Zch
def ZaI (c:Int) (b:Zd) (d:List YE) (a:Int):Option (((List YE)×Int×Unit) ⊕ (((List YE)×Int×Unit) ⊕ List YE)):=
if a<((Zd.YK b).length:Int) then
(atI (Zd.YK b) a).bind λe=>
Zu ((d.length+[(c,a,e,decide (a=Wq (((Zd.YK b).length:Int)-1)),())].length)*32<=140737488355328)<|
some (.inl (d++[(c,a,e,decide (a=Wq (((Zd.YK b).length:Int)-1)),())],Wq (a+1),()))
else
some (.inr (.inl (d,Wq (c+1),())))
def ZaJ (d:Zc) (c:List YE) (a:Int):Option (((List YE)×Int×Unit) ⊕ (((List YE)×Int×Unit) ⊕ List YE)):=
if a<((Zc.Xi d).length:Int) then
(atI (Zc.Xi d) a).bind λb=>
Zu ((c.length+[((-1:Int),a,Z8.Net b,decide (Z8.Dir b=1),())].length)*32<=140737488355328)<|
some (.inl (c++[((-1:Int),a,Z8.Net b,decide (Z8.Dir b=1),())],Wq (a+1),()))
else
some (.inr (.inr c))
def ZaK (a:Zc) (c:List YE) (b:Int):Option (((List YE)×Int×Unit) ⊕ List YE):=
if b<((Zc.Instances a).length:Int) then
(atI (Zc.Instances a) b).bind λd=>
Zn (λv=>ZaI b d v.1 v.2.1) (c,(0:Int),())
else
Zn (λv=>ZaJ a v.1 v.2.1) (c,(0:Int),())
def Vt (a:Zc):Option (List YE):=
Zn (λv=>ZaK a v.1 v.2.1) (([]:List (Int×Int×Int×Bool×Unit)),(0:Int),())
def c56:Ctr:=⟨[.dat (YJ)],[.own (.ol 255 (.flat (Zdu)))],λa K=>Zv a λb a=>YX (Vt b) λr=>K (r,()) ()⟩
def Zbv (d:Int) (a:List YE) (b:List Int) (c:Int):Option (((List Int)×Int×Unit) ⊕ List Int):=
if c<(a.length:Int) then
(atI a c).bind λe=>
if YE.net e=d then
if (YE.drives e)=true then
some (.inl (b,Wq (c+1),()))
else
Zu ((b.length+[c].length)*8<=140737488355328)<|
some (.inl (b++[c],Wq (c+1),()))
else
some (.inl (b,Wq (c+1),()))
else
some (.inr b)
def Zcn (c:Zc) (a:Int):Option (List Int):=
(Vt c).bind λb=>
Zn (λv=>Zbv a b v.1 v.2.1) (([]:List Int),(0:Int),())
def c57:Ctr:=⟨[.dat (YJ),.dat Iq],[.own (.ol 2 (.flat Iq))],λa K=>Zv a λc a=>Zv a λb a=>YX (Zcn c b) λr=>K (r,()) ()⟩
def ZcN (a:ZJ) (b:Int):Option ((Int×Unit) ⊕ ((Int×Unit) ⊕ Bool)):=
if b<((ZJ.Zkx a).length:Int) then
(atI (ZJ.Zkx a) b).bind λc=>
(YB c 0 (Wq (((ZJ.Parent a).length:Int)-1))).bind λd=>
if d then
some (.inl (Wq (b+1),()))
else
some (.inr (.inr false))
else
some (.inr (.inr true))
def ZcO (b:ZJ) (a:Int):Option ((Int×Unit) ⊕ Bool):=
if a<((ZJ.Parent b).length:Int) then
(atI (ZJ.Cap b) a).bind λf=>
(YB f 0 500).bind λh=>
if h then
(atI (ZJ.Res b) a).bind λe=>
(YB e 0 1000).bind λg=>
if g then
if a=0 then
(atI (ZJ.Parent b) a).bind λc=>
if c=(-1) then
if e=0 then
if 0<a then
(YB c 0 (Wq (a-1))).bind λd=>
if d then
some (.inl (Wq (a+1),()))
else
some (.inr false)
else
some (.inl (Wq (a+1),()))
else
some (.inr false)
else
some (.inr false)
else
if 0<a then
(atI (ZJ.Parent b) a).bind λc=>
(YB c 0 (Wq (a-1))).bind λd=>
if d then
some (.inl (Wq (a+1),()))
else
some (.inr false)
else
some (.inl (Wq (a+1),()))
else
some (.inr false)
else
some (.inr false)
else
Zn (λv=>ZcN b v.1) ((0:Int),())
def ZfS (a:ZJ) (b:Int):Option Bool:=
if ((ZJ.Parent a).length:Int)<1 then
some false
else
if 8<((ZJ.Parent a).length:Int) then
some false
else
if ((ZJ.Res a).length:Int)=((ZJ.Parent a).length:Int) then
if ((ZJ.Cap a).length:Int)=((ZJ.Parent a).length:Int) then
if ((ZJ.Zkx a).length:Int)=b then
Zn (λv=>ZcO a v.1) ((0:Int),())
else
some false
else
some false
else
some false
def c58:Ctr:=D2 (Vu) Iq (.bool) ZfS
def Zcg (b:Ze) (a:Int):Option ((Int×Unit) ⊕ Bool):=
if a<((Ze.QZ b).length:Int) then
(atI (Ze.QZ b) a).bind λd=>
(Zcn (Ze.Design b) a).bind λc=>
(ZfS d (c.length:Int)).bind λe=>
if e then
some (.inl (Wq (a+1),()))
else
some (.inr false)
else
some (.inr true)
def ZbG (a:Ze):Option Bool:=
(Zch (Ze.Library a) (Ze.Design a)).bind λb=>
if b then
if ((Ze.QZ a).length:Int)=((Zc.YK (Ze.Design a)).length:Int) then
Zn (λv=>Zcg a v.1) ((0:Int),())
else
some false
else
some false
def c59:Ctr:=D1 (Yz) (.bool) ZbG
def ZaH (c:Int) (a:List YE) (b:Int):Option ((Int×Unit) ⊕ Int):=
if b<(a.length:Int) then
(atI a b).bind λd=>
if YE.net d=c then
if (YE.drives d)=true then
some (.inr b)
else
some (.inl (Wq (b+1),()))
else
some (.inl (Wq (b+1),()))
else
some (.inr (-1))
def Zdb (c:Zc) (a:Int):Option Int:=
(Vt c).bind λb=>
Zn (λv=>ZaH a b v.1) ((0:Int),())
def c60:Ctr:=D2 (YJ) Iq Iq Zdb
def ZhH (f:Zt) (b:Zc) (a:Int):Option (YE×Bool):=
(Zch f b).bind λd=>
if d then
(Vt b).bind λc=>
(YB a 0 (Wq ((c.length:Int)-1))).bind λg=>
if g then
(atI c a).bind λe=>
some (e,true)
else
some ((0,0,0,false,()),false)
else
some ((0,0,0,false,()),false)
def c61:Ctr:=⟨[.dat (YL),.dat (YJ),.dat Iq],[.dat (Zdu),.dat (.bool)],λa K=>Zv a λd a=>Zv a λc a=>Zv a λb a=>YX (ZhH d c b) λr=>K (r.1,r.2,()) ()⟩
def J5 (a:Ze) (b:Int):Option Int:=
(Zdb (Ze.Design a) b).bind λd=>
(ZhH (Ze.Library a) (Ze.Design a) d).bind λc=>
if c.1.1<0 then
some (-1)
else
(atI (Zc.Instances (Ze.Design a)) c.1.1).bind λf=>
(atI (Zt.Cells (Ze.Library a)) (Zd.Cell f)).bind λe=>
if Zm.Kind e=1 then
some c.1.1
else
some (-1)
def c62:Ctr:=D2 (Yz) Iq Iq J5
def Jv (c:Ze) (a:Int):Option (List Int):=
(atI (Zc.Instances (Ze.Design c)) a).bind λb=>
Zu ((0:Int)<=Wq (((Zd.YK b).length:Int)-1))<|
Zu (Wq (((Zd.YK b).length:Int)-1)<=((Zd.YK b).length:Int))<|
some (List.take (Int.toNat (Wq (((Zd.YK b).length:Int)-1))-Int.toNat 0) (List.drop (Int.toNat 0) (Zd.YK b)))
def c63:Ctr:=D2 (Yz) Iq (.sl Iq) Jv
def QB (h:Bool) (c:Int) (b a:List Int) (f d:Int):Option ((Int×Int×Unit) ⊕ ((Bool×Int×(List Int)×Unit) ⊕ ((Int×(List Int)×Unit) ⊕ ((List Int)×Bool)))):=
if d<(a.length:Int) then
(atI a d).bind λe=>
(atI b e).bind λg=>
some (.inl (Max.max f g,Wq (d+1),()))
else
(atI b c).bind λe=>
if e=Wq (f+1) then
some (.inr (.inl (h,Wq (c+1),b,())))
else
some (.inr (.inl (true,Wq (c+1),List.set b (Int.toNat c) (Wq (f+1)),())))
def Vy (c:Ze) (f:Int) (d:Bool) (b:Int) (a:List Int):Option ((Bool×Int×(List Int)×Unit) ⊕ ((Int×(List Int)×Unit) ⊕ ((List Int)×Bool))):=
if b<((Zc.YK (Ze.Design c)).length:Int) then
(J5 c b).bind λe=>
if e<0 then
some (.inl (d,Wq (b+1),a,()))
else
(Jv c e).bind λg=>
Zn (λv=>QB d b a g v.1 v.2.1) ((0:Int),(0:Int),())
else
if d then
some (.inr (.inl (Wq (f+1),a,())))
else
some (.inr (.inr (a,true)))
def Vz (a:Ze) (b:Int) (c:List Int):Option ((Int×(List Int)×Unit) ⊕ ((List Int)×Bool)):=
if b<=((Zc.YK (Ze.Design a)).length:Int) then
Zn (λv=>Vy a b v.1 v.2.1 v.2.2.1) (false,(0:Int),c,())
else
some (.inr (([]:List Int),false))
def Zdc (a:Ze):Option ((List Int)×Bool):=
Zu ((0:Int)<=((Zc.YK (Ze.Design a)).length:Int))<|
Zu (((Zc.YK (Ze.Design a)).length:Int)<=((Zc.YK (Ze.Design a)).length:Int))<|
Zu (((Zc.YK (Ze.Design a)).length:Int)<=4611686018427387904)<|
Zu (((8:Nat):Int)*((Zc.YK (Ze.Design a)).length:Int)<=281474976710656)<|
Zn (λv=>Vz a v.1 v.2.1) ((0:Int),List.replicate (Int.toNat ((Zc.YK (Ze.Design a)).length:Int)) (0:Int),())
def c64:Ctr:=⟨[.dat (Yz)],[.own (.ol 2 (.flat Iq)),.dat (.bool)],λa K=>Zv a λb a=>YX (Zdc b) λr=>K (r.1,r.2,()) ()⟩
def Zda (a:Ze):Option Bool:=
(ZbG a).bind λc=>
if c then
(Zdc a).bind λb=>
some b.2
else
some false
def c65:Ctr:=D1 (Yz) (.bool) Zda
def Zds (a:Ze):Option Int:=
(ZbG a).bind λc=>
if c then
(Zda a).bind λb=>
if b then
some 0
else
some 7
else
some 1
def c66:Ctr:=D1 (Yz) Iq Zds
def J7 (c:Ze) (b:List Int) (a:Int):Option (((List Int)×Int×Unit) ⊕ List Int):=
if a<((Zc.YK (Ze.Design c)).length:Int) then
(J5 c a).bind λd=>
if d<0 then
Zu ((b.length+[a].length)*8<=140737488355328)<|
some (.inl (b++[a],Wq (a+1),()))
else
some (.inl (b,Wq (a+1),()))
else
some (.inr b)
def J6 (a:Ze):Option (List Int):=
Zn (λv=>J7 a v.1 v.2.1) (([]:List Int),(0:Int),())
def c67:Ctr:=⟨[.dat (Yz)],[.own (.ol 2 (.flat Iq))],λa K=>Zv a λb a=>YX (J6 b) λr=>K (r,()) ()⟩
def Zkw (b a:Int):Option ((Int×Int×Unit) ⊕ Int):=
if a=0 then
some (.inr b)
else
Zu (a≠0)<|
some (.inl (a,Int.tmod b a,()))
def ZiO (a b:Int):Option Int:=
Zn (λv=>Zkw v.1 v.2.1) (a,b,())
def c68:Ctr:=D2 Iq Iq Iq ZiO
def Zci (a:ZH):Option Bool:=
(YB (ZH.Den a) 1 1000000).bind λc=>
if c then
(YB (ZH.Num a) 0 (ZH.Den a)).bind λb=>
if b then
(ZiO (ZH.Den a) (ZH.Num a)).bind λd=>
some (decide (d=1))
else
some false
else
some false
def c69:Ctr:=D1 (ZaU) (.bool) Zci
def Jf (a:List Zg) (c:Int):Option ((Int×Unit) ⊕ Bool):=
if c<(a.length:Int) then
(atI a c).bind λb=>
(Zci (Zg.High b)).bind λd=>
if d then
if 10<ZH.Den (Zg.High b) then
some (.inr false)
else
(YB (Zg.Zaw b) 0 1000).bind λe=>
if e then
some (.inl (Wq (c+1),()))
else
some (.inr false)
else
some (.inr false)
else
some (.inr true)
def Zap (b:Ze) (a:List Zg):Option Bool:=
(Zds b).bind λc=>
if c=0 then
(J6 b).bind λd=>
if (a.length:Int)=(d.length:Int) then
Zn (λv=>Jf a v.1) ((0:Int),())
else
some false
else
some false
def c70:Ctr:=D2 (Yz) (.sl (Zy)) (.bool) Zap
def Zhp (b:Ze) (a:Int):Option Int:=
(ZbG b).bind λd=>
if d then
(YB a 0 (Wq (((Ze.QZ b).length:Int)-1))).bind λc=>
if c then
some 0
else
some 2
else
some 1
def c71:Ctr:=D2 (Yz) Iq Iq Zhp
def Zho (a:List Int):Option (List Int):=
Zu ((([]:List Int).length+a.length)*8<=140737488355328)<|
some (([]:List Int)++a)
def c72:Ctr:=⟨[.dat (.sl Iq)],[.own (.ol 2 (.flat Iq))],λa K=>Zv a λb a=>YX (Zho b) λr=>K (r,()) ()⟩
def ZmJ (f:Zt) (d:Zc) (a:YE):Option Int:=
if YE.instance a<0 then
some 0
else
(atI (Zc.Instances d) (YE.instance a)).bind λc=>
(atI (Zt.Cells f) (Zd.Cell c)).bind λb=>
(atI (Zm.YR b) (YE.pin a)).bind λe=>
some (YG.Cap e)
def c73:Ctr:=D3 (YL) (YJ) (Zdu) Iq ZmJ
def ZiN (d:ZJ) (a:Int) (b:List Int):Option ((Int×(List Int)×Unit) ⊕ ((Int×(List Int)×Unit) ⊕ List Int)):=
if 0<a then
(atI (ZJ.Parent d) a).bind λc=>
(atI b c).bind λf=>
(atI b a).bind λe=>
some (.inl (Wq (a-1),List.set b (Int.toNat c) (Wq (f+e)),()))
else
some (.inr (.inr b))
def Zel (e:Ze) (f:ZJ) (b:List YE) (a:List Int) (d:Int) (c:List Int):Option ((Int×(List Int)×Unit) ⊕ List Int):=
if d<(a.length:Int) then
(atI (ZJ.Zkx f) d).bind λg=>
(atI c g).bind λh=>
(atI a d).bind λi=>
(atI b i).bind λj=>
(ZmJ (Ze.Library e) (Ze.Design e) j).bind λk=>
some (.inl (Wq (d+1),List.set c (Int.toNat g) (Wq (h+k)),()))
else
Zn (λv=>ZiN f v.1 v.2.1) (Wq ((c.length:Int)-1),c,())
def Zco (a:Ze) (c:Int):Option (List Int):=
(atI (Ze.QZ a) c).bind λb=>
(Zho (ZJ.Cap b)).bind λf=>
(Vt (Ze.Design a)).bind λd=>
(Zcn (Ze.Design a) c).bind λe=>
Zn (λv=>Zel a b d e v.1 v.2.1) ((0:Int),f,())
def c74:Ctr:=⟨[.dat (Yz),.dat Iq],[.own (.ol 2 (.flat Iq))],λa K=>Zv a λb a=>Zv a λc a=>YX (Zco b c) λr=>K (r,()) ()⟩
def ZeQ (c:Ze) (a:Int):Option (Int×Int):=
(Zhp c a).bind λb=>
if b=0 then
(Zco c a).bind λe=>
(atI e 0).bind λd=>
some (d,0)
else
some (0,b)
def c75:Ctr:=⟨[.dat (Yz),.dat Iq],[.dat Iq,.dat Iq],λa K=>Zv a λc a=>Zv a λb a=>YX (ZeQ c b) λr=>K (r.1,r.2,()) ()⟩
def Xm (h:Ze) (b:Ze->Int->List Bool->List Bool->Option (List Bool×List Bool)) (a:List Int) (c:Int) (f d:List Bool):Option ((Int×(List Bool)×(List Bool)×Unit) ⊕ ((List Bool)×(List Bool))):=
if c<(a.length:Int) then
(atI a c).bind λg=>
(b h g f d).bind λe=>
some (.inl (Wq (c+1),e.1,e.2,()))
else
some (.inr (f,d))
def Xh (d:Ze->Int->(List Bool)->(List Bool)->Option ((List Bool)×(List Bool))) (e:Ze) (b:Int) (a c:List Bool):Option ((List Bool)×(List Bool)):=
(atI c b).bind λg=>
if g then
some (a,c)
else
(J5 e b).bind λf=>
if f<0 then
(atI a b).bind λi=>
some (List.set a (Int.toNat b) true,List.set c (Int.toNat b) true)
else
(Jv e f).bind λh=>
Zn (λv=>Xm e d h v.1 v.2.1 v.2.2.1) ((0:Int),a,List.set c (Int.toNat b) true,())
def Xc:Nat->Ze->Int->(List Bool)->(List Bool)->Option ((List Bool)×(List Bool))
| 0=>λ_ _ _ _=>none
| n+1=>Xh (Xc n)
def ZeT (d:Ze) (c:Int) (a b:List Bool):Option ((List Bool)×(List Bool)):=Zxi (λn=>Xc n d c a b)
def ZbL (d:Ze->Int->(List Bool)->(List Bool)->Option ((List Bool)×(List Bool))):Ctr:=⟨[.dat (Yz),.dat Iq,.back (.ol 4 (.flat (.bool))),.back (.ol 4 (.flat (.bool)))],[],λa K=>Zv a λf a=>Zv a λe a=>Zv a λb a=>Zv a λc a=>YX (d f e b c) λr=>K () (r.1,r.2,())⟩
def c76:Ctr:=ZbL ZeT
def ZaL (b:List Bool) (a:List Int) (c:Int):Option (((List Int)×Int×Unit) ⊕ List Int):=
if c<(b.length:Int) then
(atI b c).bind λd=>
if d then
Zu ((a.length+[c].length)*8<=140737488355328)<|
some (.inl (a++[c],Wq (c+1),()))
else
some (.inl (a,Wq (c+1),()))
else
some (.inr a)
def Zdd (a:List Bool):Option (List Int):=
Zn (λv=>ZaL a v.1 v.2.1) (([]:List Int),(0:Int),())
def c77:Ctr:=⟨[.dat (.sl (.bool))],[.own (.ol 2 (.flat Iq))],λa K=>Zv a λb a=>YX (Zdd b) λr=>K (r,()) ()⟩
def VP (a:Ze) (b:Int):Option (List Int):=
Zu ((0:Int)<=((Zc.YK (Ze.Design a)).length:Int))<|
Zu (((Zc.YK (Ze.Design a)).length:Int)<=((Zc.YK (Ze.Design a)).length:Int))<|
Zu (((Zc.YK (Ze.Design a)).length:Int)<=4611686018427387904)<|
Zu (((1:Nat):Int)*((Zc.YK (Ze.Design a)).length:Int)<=281474976710656)<|
(ZeT a b (List.replicate (Int.toNat ((Zc.YK (Ze.Design a)).length:Int)) false) (List.replicate (Int.toNat ((Zc.YK (Ze.Design a)).length:Int)) false)).bind λd=>
(Zdd d.1).bind λc=>
some c
def c78:Ctr:=⟨[.dat (Yz),.dat Iq],[.own (.ol 2 (.flat Iq))],λa K=>Zv a λc a=>Zv a λb a=>YX (VP c b) λr=>K (r,()) ()⟩
def ZcR (a:List Int) (d b:Int):Option ((Int×Unit) ⊕ Int):=
if b<(a.length:Int) then
(atI a b).bind λc=>
if c=d then
some (.inr b)
else
some (.inl (Wq (b+1),()))
else
some (.inr (-1))
def ZfV (a:List Int) (b:Int):Option Int:=
Zn (λv=>ZcR a b v.1) ((0:Int),())
def c79:Ctr:=D2 (.sl Iq) Iq Iq ZfV
def ZcS (e:Ze) (b:List Zg) (a:Int):Option Zg:=
(J6 e).bind λc=>
(ZfV c a).bind λf=>
(atI b f).bind λd=>
some d
def c80:Ctr:=D3 (Yz) (.sl (Zy)) Iq (Zy) ZcS
def Zbx (f:Ze) (c:List Zg) (a:List Int) (b d:Int):Option ((Int×Int×Unit) ⊕ Int):=
if d<(a.length:Int) then
(atI a d).bind λe=>
(ZcS f c e).bind λg=>
some (.inl (Wq (b+Zg.Zaw g),Wq (d+1),()))
else
some (.inr b)
def ZdO (c:Ze) (a:List Zg) (b:Int):Option Int:=
(VP c b).bind λd=>
Zn (λv=>Zbx c a d v.1 v.2.1) ((0:Int),(0:Int),())
def c81:Ctr:=D3 (Yz) (.sl (Zy)) Iq Iq ZdO
def Zcq (c a b:Int):Option ((Int×Int×Unit) ⊕ Int):=
if b<c then
some (.inl (Wq (2*a),Wq (b+1),()))
else
some (.inr a)
def Zdt (a:Int):Option Int:=
Zn (λv=>Zcq a v.1 v.2.1) ((1:Int),(0:Int),())
def c82:Ctr:=D1 Iq Iq Zdt
def Zcp (d b:Int) (a:List Int) (c:Int):Option ((Int×(List Int)×Int×Unit) ⊕ List Int):=
if c<d then
Zu ((a.length+[Int.tmod b (2:Int)].length)*8<=140737488355328)<|
some (.inl (Wq (Int.tdiv b (2:Int)),a++[Int.tmod b (2:Int)],Wq (c+1),()))
else
some (.inr a)
def ZeS (a b:Int):Option (List Int):=
Zn (λv=>Zcp b v.1 v.2.1 v.2.2.1) (a,([]:List Int),(0:Int),())
def c83:Ctr:=⟨[.dat Iq,.dat Iq],[.own (.ol 2 (.flat Iq))],λa K=>Zv a λb a=>Zv a λc a=>YX (ZeS b c) λr=>K (r,()) ()⟩
def Jj (a b:List Int) (c:Int) (d:List Int):Option ((Int×(List Int)×Unit) ⊕ ((Int×(List Int)×Unit) ⊕ List Int)):=
if c<(a.length:Int) then
(atI a c).bind λe=>
(atI b c).bind λf=>
(atI d e).bind λg=>
some (.inl (Wq (c+1),List.set d (Int.toNat e) f,()))
else
some (.inr (.inr d))
def Zbw (b c:List Int) (a:Int) (d:List Int):Option ((Int×(List Int)×Unit) ⊕ List Int):=
if a<(d.length:Int) then
(atI d a).bind λe=>
some (.inl (Wq (a+1),List.set d (Int.toNat a) (-1),()))
else
Zn (λv=>Jj b c v.1 v.2.1) ((0:Int),d,())
def ZdN (b:Ze) (a c:List Int):Option (List Int):=
Zu ((0:Int)<=((Zc.YK (Ze.Design b)).length:Int))<|
Zu (((Zc.YK (Ze.Design b)).length:Int)<=((Zc.YK (Ze.Design b)).length:Int))<|
Zu (((Zc.YK (Ze.Design b)).length:Int)<=4611686018427387904)<|
Zu (((8:Nat):Int)*((Zc.YK (Ze.Design b)).length:Int)<=281474976710656)<|
Zn (λv=>Zbw a c v.1 v.2.1) ((0:Int),List.replicate (Int.toNat ((Zc.YK (Ze.Design b)).length:Int)) (0:Int),())
def c84:Ctr:=⟨[.dat (Yz),.dat (.sl Iq),.dat (.sl Iq)],[.own (.ol 2 (.flat Iq))],λa K=>Zv a λd a=>Zv a λb a=>Zv a λc a=>YX (ZdN d b c) λr=>K (r,()) ()⟩
def XP (e:Ze) (c:Int) (f:Ze->Int->List Int->Option (Int×List Int)) (b:Int) (a:List Int) (j k h:Int) (d:List Int):Option ((Int×Int×Int×(List Int)×Unit) ⊕ (Int×(List Int))):=
if h<(a.length:Int) then
(atI a h).bind λg=>
(f e g d).bind λl=>
some (.inl (Wq (j+Wq (k*l.1)),Wq (2*k),Wq (h+1),l.2,()))
else
(atI (Zc.Instances (Ze.Design e)) b).bind λg=>
(atI (Zt.Cells (Ze.Library e)) (Zd.Cell g)).bind λn=>
(atI (Zm.Truth n) j).bind λi=>
(atI d c).bind λo=>
(atI (List.set d (Int.toNat c) i) c).bind λm=>
some (.inr (m,List.set d (Int.toNat c) i))
def Xg (b:Ze->Int->(List Int)->Option (Int×(List Int))) (a:Ze) (d:Int) (c:List Int):Option (Int×(List Int)):=
(atI c d).bind λf=>
if 0<=f then
some (f,c)
else
(J5 a d).bind λe=>
(Jv a e).bind λg=>
Zn (λv=>XP a d b e g v.1 v.2.1 v.2.2.1 v.2.2.2.1) ((0:Int),(1:Int),(0:Int),c,())
def Xb:Nat->Ze->Int->(List Int)->Option (Int×(List Int))
| 0=>λ_ _ _=>none
| n+1=>Xg (Xb n)
def Zhq (a:Ze) (c:Int) (b:List Int):Option (Int×(List Int)):=Zxi (λn=>Xb n a c b)
def ZbK (b:Ze->Int->(List Int)->Option (Int×(List Int))):Ctr:=⟨[.dat (Yz),.dat Iq,.back (.ol 2 (.flat Iq))],[.dat Iq],λa K=>Zv a λc a=>Zv a λe a=>Zv a λd a=>YX (b c e d) λr=>K (r.1,()) (r.2,())⟩
def c85:Ctr:=ZbK Zhq
def Jz (f:Ze) (d:Int) (a b:List Int) (c:Int):Option (((List Int)×Int×Unit) ⊕ List Int):=
(Zdt (a.length:Int)).bind λi=>
if c<i then
(ZeS c (a.length:Int)).bind λg=>
(ZdN f a g).bind λh=>
(Zhq f d h).bind λe=>
Zu ((b.length+[e.1].length)*8<=140737488355328)<|
some (.inl (b++[e.1],Wq (c+1),()))
else
some (.inr b)
def Zbb (c:Ze) (b:Int) (a:List Int):Option (List Int):=
Zn (λv=>Jz c b a v.1 v.2.1) (([]:List Int),(0:Int),())
def c86:Ctr:=⟨[.dat (Yz),.dat Iq,.dat (.sl Iq)],[.own (.ol 2 (.flat Iq))],λa K=>Zv a λd a=>Zv a λc a=>Zv a λb a=>YX (Zbb d c b) λr=>K (r,()) ()⟩
def ZfU (a:Int):Option Int:=
(Zdt a).bind λb=>
some b
def c87:Ctr:=D1 Iq Iq ZfU
def ZaM (d:List Int) (c:Int) (a:List Int) (b:Int):Option (((List Int)×Int×Unit) ⊕ List Int):=
if b<(d.length:Int) then
Zu (c≠0)<|
if Int.tmod (Wq (Int.tdiv b c)) 2=1 then
(atI d b).bind λf=>
(atI d (Wq (b-c))).bind λe=>
if f=e then
Zu ((a.length+[(0:Int)].length)*8<=140737488355328)<|
some (.inl (a++[(0:Int)],Wq (b+1),()))
else
Zu ((a.length+[(1:Int)].length)*8<=140737488355328)<|
some (.inl (a++[(1:Int)],Wq (b+1),()))
else
(atI d b).bind λf=>
(atI d (Wq (b+c))).bind λe=>
if f=e then
Zu ((a.length+[(0:Int)].length)*8<=140737488355328)<|
some (.inl (a++[(0:Int)],Wq (b+1),()))
else
Zu ((a.length+[(1:Int)].length)*8<=140737488355328)<|
some (.inl (a++[(1:Int)],Wq (b+1),()))
else
some (.inr a)
def Zde (b:List Int) (a:Int):Option (List Int):=
Zn (λv=>ZaM b a v.1 v.2.1) (([]:List Int),(0:Int),())
def c88:Ctr:=⟨[.dat (.sl Iq),.dat Iq],[.own (.ol 2 (.flat Iq))],λa K=>Zv a λc a=>Zv a λb a=>YX (Zde c b) λr=>K (r,()) ()⟩
def VA (h:Ze) (c:List Zg) (a:List Int) (e d b:Int):Option ((Int×Int×Int×Unit) ⊕ Int):=
if b<(a.length:Int) then
(atI a b).bind λg=>
(ZcS h c g).bind λf=>
if Int.tmod e 2=1 then
some (.inl (Wq (Int.tdiv e 2),Wq (d*ZH.Num (Zg.High f)),Wq (b+1),()))
else
some (.inl (Wq (Int.tdiv e 2),Wq (d*Wq (ZH.Den (Zg.High f)-ZH.Num (Zg.High f))),Wq (b+1),()))
else
some (.inr d)
def Zdf (c:Ze) (b:List Zg) (a:List Int) (d:Int):Option Int:=
Zn (λv=>VA c b a v.1 v.2.1 v.2.2.1) (d,(1:Int),(0:Int),())
def c89:Ctr:=D4 (Yz) (.sl (Zy)) (.sl Iq) Iq Iq Zdf
def ZcT (g:Ze) (d:List Zg) (b e:List Int) (a c:Int):Option ((Int×Int×Unit) ⊕ Int):=
if c<(e.length:Int) then
(atI e c).bind λf=>
if f=1 then
(Zdf g d b c).bind λh=>
some (.inl (Wq (a+h),Wq (c+1),()))
else
some (.inl (a,Wq (c+1),()))
else
some (.inr a)
def ZfW (c:Ze) (b:List Zg) (a d:List Int):Option Int:=
Zn (λv=>ZcT c b a d v.1 v.2.1) ((0:Int),(0:Int),())
def c90:Ctr:=D4 (Yz) (.sl (Zy)) (.sl Iq) (.sl Iq) Iq ZfW
def J9 (f:Ze) (b:List Zg) (a:List Int) (d c:Int):Option ((Int×Int×Unit) ⊕ Int):=
if c<(a.length:Int) then
(atI a c).bind λe=>
(ZcS f b e).bind λg=>
some (.inl (Wq (d*ZH.Den (Zg.High g)),Wq (c+1),()))
else
some (.inr d)
def Zcs (c:Ze) (b:List Zg) (a:List Int):Option Int:=
Zn (λv=>J9 c b a v.1 v.2.1) ((1:Int),(0:Int),())
def c91:Ctr:=D3 (Yz) (.sl (Zy)) (.sl Iq) Iq Zcs
def ZcP (b a c:Int):Option Int:=
Zu (a≠0)<|
if Int.tmod b a<0 then
if c=0 then
some (Wq (Wq (Int.tdiv b a)-1))
else
if 0<Int.tmod b a then
if c=1 then
some (Wq (Wq (Int.tdiv b a)+1))
else
some (Wq (Int.tdiv b a))
else
some (Wq (Int.tdiv b a))
else
if 0<Int.tmod b a then
if c=1 then
some (Wq (Wq (Int.tdiv b a)+1))
else
some (Wq (Int.tdiv b a))
else
some (Wq (Int.tdiv b a))
def c92:Ctr:=D3 Iq Iq Iq Iq ZcP
def J8 (f:Ze) (c:List Zg) (a b:List Int) (d e:Int):Option ((Int×Int×Unit) ⊕ Int):=
if e<(a.length:Int) then
(ZfU e).bind λm=>
(Zde b m).bind λi=>
(atI a e).bind λh=>
(ZfW f c a i).bind λj=>
(ZcS f c h).bind λg=>
some (.inl (Wq (d+Wq (j*Zg.Zaw g)),Wq (e+1),()))
else
(Zcs f c a).bind λl=>
(ZcP d l 1).bind λk=>
some (.inr k)
def Zcr (c:Ze) (b:List Zg) (a:Int):Option Int:=
(VP c a).bind λd=>
(Zbb c a d).bind λe=>
Zn (λv=>J8 c b d e v.1 v.2.1) ((0:Int),(0:Int),())
def c93:Ctr:=D3 (Yz) (.sl (Zy)) Iq Iq Zcr
def ZeU (c:Ze) (b:List Zg) (a:Int):Option Int:=
(VP c a).bind λd=>
if 8<(d.length:Int) then
(ZdO c b a).bind λe=>
some e
else
(Zcr c b a).bind λf=>
some f
def c94:Ctr:=D3 (Yz) (.sl (Zy)) Iq Iq ZeU
def ZfX (c:Ze) (b:List Zg) (a:Int):Option Int:=
(ZeQ c a).bind λd=>
(ZeU c b a).bind λe=>
some (Wq (e*d.1))
def c95:Ctr:=D3 (Yz) (.sl (Zy)) Iq Iq ZfX
def QX (c:List Zj) (d a b:Int):Option ((Int×Unit) ⊕ (((List Zj)×Int×Unit) ⊕ ((List Zj)×Int))):=
if 0<b then
(atI c (Wq (b-1))).bind λe=>
if Zj.Power e<a then
some (.inl (Wq (b-1),()))
else
Zu ((0:Int)<=b)<|
Zu (b<=(c.length:Int))<|
Zu ((([]:List (Int×Int×Unit)).length+(List.take (Int.toNat b-Int.toNat (0:Int)) (List.drop (Int.toNat (0:Int)) c)).length)*16<=140737488355328)<|
Zu (((([]:List (Int×Int×Unit))++List.take (Int.toNat b-Int.toNat (0:Int)) (List.drop (Int.toNat (0:Int)) c)).length+[(d,a,())].length)*16<=140737488355328)<|
Zu ((c.length:Int)<=(c.length:Int))<|
Zu (((([]:List (Int×Int×Unit))++List.take (Int.toNat b-Int.toNat (0:Int)) (List.drop (Int.toNat (0:Int)) c)++[(d,a,())]).length+(List.take (Int.toNat (c.length:Int)-Int.toNat b) (List.drop (Int.toNat b) c)).length)*16<=140737488355328)<|
some (.inr (.inl (([]:List (Int×Int×Unit))++List.take (Int.toNat b-Int.toNat (0:Int)) (List.drop (Int.toNat (0:Int)) c)++[(d,a,())]++List.take (Int.toNat (c.length:Int)-Int.toNat b) (List.drop (Int.toNat b) c),Wq (d+1),())))
else
Zu ((0:Int)<=b)<|
Zu (b<=(c.length:Int))<|
Zu ((([]:List (Int×Int×Unit)).length+(List.take (Int.toNat b-Int.toNat (0:Int)) (List.drop (Int.toNat (0:Int)) c)).length)*16<=140737488355328)<|
Zu (((([]:List (Int×Int×Unit))++List.take (Int.toNat b-Int.toNat (0:Int)) (List.drop (Int.toNat (0:Int)) c)).length+[(d,a,())].length)*16<=140737488355328)<|
Zu ((c.length:Int)<=(c.length:Int))<|
Zu (((([]:List (Int×Int×Unit))++List.take (Int.toNat b-Int.toNat (0:Int)) (List.drop (Int.toNat (0:Int)) c)++[(d,a,())]).length+(List.take (Int.toNat (c.length:Int)-Int.toNat b) (List.drop (Int.toNat b) c)).length)*16<=140737488355328)<|
some (.inr (.inl (([]:List (Int×Int×Unit))++List.take (Int.toNat b-Int.toNat (0:Int)) (List.drop (Int.toNat (0:Int)) c)++[(d,a,())]++List.take (Int.toNat (c.length:Int)-Int.toNat b) (List.drop (Int.toNat b) c),Wq (d+1),())))
def X5 (d:Ze) (e:List Zg) (b:Int) (a:List Zj) (c:Int):Option (((List Zj)×Int×Unit) ⊕ ((List Zj)×Int)):=
if c<((Zc.YK (Ze.Design d)).length:Int) then
(ZfX d e c).bind λf=>
Zn (λv=>QX a c f v.1) ((a.length:Int),())
else
if b<(a.length:Int) then
Zu ((0:Int)<=b)<|
Zu (b<=(a.length:Int))<|
some (.inr (List.take (Int.toNat b-Int.toNat 0) (List.drop (Int.toNat 0) a),0))
else
some (.inr (a,0))
def Za9 (a:Ze) (d:List Zg) (c:Int):Option ((List Zj)×Int):=
(Zds a).bind λb=>
if b=0 then
(YB c 0 30).bind λe=>
if e then
(Zap a d).bind λf=>
if f then
Zn (λv=>X5 a d c v.1 v.2.1) (([]:List (Int×Int×Unit)),(0:Int),())
else
some ([],5)
else
some ([],2)
else
some ([],b)
def c96:Ctr:=⟨[.dat (Yz),.dat (.sl (Zy)),.dat Iq],[.dat (.sl (Yr)),.dat Iq],λa K=>Zv a λb a=>Zv a λd a=>Zv a λc a=>YX (Za9 b d c) λr=>K (r.1,r.2,()) ()⟩
def YN (c b a:Int):Option Bool:=
if b<=c then
some (decide (c<=a))
else
some false
def c97:Ctr:=D3 Iq Iq Iq (.bool) YN
def Zd8 (a:List UInt8):Option Bool:=
(YN (a.length:Int) 1 8).bind λc=>
if c then
Zu (a.length<=1000000)<|
if Go.Lib.trimS a [(97:UInt8),98,99,100,101,102,103,104,105,106,107,108,109,110,111,112,113,114,115,116,117,118,119,120,121,122,48,49,50,51,52,53,54,55,56,57]=([]:List UInt8) then
(atI a 0).bind λb=>
some (decide ((0:Int)<=Go.Lib.indexByte [(97:UInt8),98,99,100,101,102,103,104,105,106,107,108,109,110,111,112,113,114,115,116,117,118,119,120,121,122] (Nat.toUInt8 (Int.toNat ((UInt8.toNat b):Int)))))
else
some false
else
some false
def c98:Ctr:=D1 (.str) (.bool) Zd8
def Vw (a:List YG):Option Int:=
some (a.length:Int)
def c99:Ctr:=D1 (.sl (Zdh)) Iq Vw
def XO (b:List (List UInt8)) (d:List UInt8) (a:Int):Option ((Int×Unit) ⊕ Int):=
if a<(b.length:Int) then
(atI b a).bind λc=>
if d=c then
some (.inr a)
else
some (.inl (Wq (a+1),()))
else
some (.inr (-1))
def XM (b:List (List UInt8)) (a:List UInt8):Option Int:=
Zn (λv=>XO b a v.1) ((0:Int),())
def ZzN:Ctr:=D2 (.sl (.str)) (.str) Iq XM
def Xl (b:List (List UInt8)) (a:List UInt8):Option Bool:=
(XM b a).bind λc=>
some (decide (0<=c))
def ZzO:Ctr:=D2 (.sl (.str)) (.str) (.bool) Xl
def Zbe (a:List (List UInt8)) (b:Int):Option ((Int×Unit) ⊕ Bool):=
if b<(a.length:Int) then
(atI a b).bind λc=>
(Zd8 c).bind λd=>
if d then
Zu ((0:Int)<=b)<|
Zu (b<=(a.length:Int))<|
(Xl (List.take (Int.toNat b-Int.toNat 0) (List.drop (Int.toNat 0) a)) c).bind λe=>
if e then
some (.inr false)
else
some (.inl (Wq (b+1),()))
else
some (.inr false)
else
some (.inr true)
def Vg (a:List (List UInt8)):Option Bool:=
Zn (λv=>Zbe a v.1) ((0:Int),())
def Zyp:Ctr:=D1 (.sl (.str)) (.bool) Vg
def Vh (b:List YG) (a:List (List UInt8)) (d:Int):Option (((List (List UInt8))×Int×Unit) ⊕ Bool):=
if d<(b.length:Int) then
(atI b d).bind λc=>
Zu ((a.length+[YG.Name c].length)*16<=140737488355328)<|
if d=Wq ((b.length:Int)-1) then
if YG.Dir c=2 then
if YG.Cap c=0 then
if (YG.Clock c)=true then
some (.inr false)
else
some (.inl (a++[YG.Name c],Wq (d+1),()))
else
some (.inr false)
else
some (.inr false)
else
if YG.Dir c=1 then
(YN (YG.Cap c) 0 500).bind λe=>
if e then
some (.inl (a++[YG.Name c],Wq (d+1),()))
else
some (.inr false)
else
some (.inr false)
else
(Vw b).bind λf=>
(YN f 2 5).bind λe=>
if e then
(Vg a).bind λg=>
some (.inr g)
else
some (.inr false)
def Zey (a:List YG):Option Bool:=
Zn (λv=>Vh a v.1 v.2.1) (([]:List (List UInt8)),(0:Int),())
def ZzP:Ctr:=D1 (.sl (Zdh)) (.bool) Zey
def Zez (a:Int):Option Bool:=
if a=4 then
some true
else
some (decide (a=5))
def ZzQ:Ctr:=D1 Iq (.bool) Zez
def Y3 (a:List Int):Option Int:=
some (a.length:Int)
def c105:Ctr:=D1 (.sl Iq) Iq Y3
def ZcB (b a c:Int):Option Bool:=
(YN b a c).bind λd=>
some !d
def ZzR:Ctr:=D3 Iq (.ptr Iq) (.ptr Iq) (.bool) ZcB
def Yw (c:List Int) (b:Int×Int×Unit) (a:Int):Option ((Int×Unit) ⊕ Int):=
if a<(c.length:Int) then
(atI c a).bind λd=>
(ZcB d b.1 b.2.1).bind λe=>
if e then
some (.inr a)
else
some (.inl (Wq (a+1),()))
else
some (.inr (-1))
def Yn (b:List Int) (a:Int×Int×Unit):Option Int:=
Zn (λv=>Yw b a v.1) ((0:Int),())
def c107:Ctr:=D2 (.sl Iq) (.fn 125 (.pair (.ptr Iq) (.pair (.ptr Iq) (.unit)))) Iq Yn
def YD (b:List Int) (a:Int×Int×Unit):Option Bool:=
(Yn b a).bind λc=>
some (decide (0<=c))
def ZzS:Ctr:=D2 (.sl Iq) (.fn 125 (.pair (.ptr Iq) (.pair (.ptr Iq) (.unit)))) (.bool) YD
def Xp (b:List Int) (c a:Int):Option Bool:=
(YD b (c,a,())).bind λd=>
some !d
def c109:Ctr:=D3 (.sl Iq) Iq Iq (.bool) Xp
def XJ (a:List Int) (b:Int):Option ((Int×Unit) ⊕ Bool):=
if b<(a.length:Int) then
(atI a (Wq (b-1))).bind λd=>
(atI a b).bind λc=>
if c<=d then
some (.inr false)
else
some (.inl (Wq (b+1),()))
else
some (.inr true)
def Zak (a:List Int):Option Bool:=
Zn (λv=>XJ a v.1) ((1:Int),())
def ZzT:Ctr:=D1 (.sl Iq) (.bool) Zak
def Zd7 (a:List Int):Option Bool:=
(Y3 a).bind λc=>
(YN c 1 4).bind λd=>
if d then
(Xp a 0 100000).bind λe=>
if e then
(Zak a).bind λb=>
some b
else
some false
else
some false
def ZzU:Ctr:=D1 (.sl Iq) (.bool) Zd7
def Zex (a:ZE):Option Bool:=
(Zd7 (ZE.ZhJ a)).bind λc=>
if c then
(Zd7 (ZE.Loads a)).bind λb=>
if b then
if ((ZE.Values a).length:Int)=Wq (((ZE.ZhJ a).length:Int)*((ZE.Loads a).length:Int)) then
(Xp (ZE.Values a) (-1000000) 1000000).bind λd=>
some d
else
some false
else
some false
else
some false
def ZzV:Ctr:=D1 (YV) (.bool) Zex
def Qu (b:List Int) (c a:Int):Option ((Int×Int×Unit) ⊕ Int):=
if a<(b.length:Int) then
(atI b a).bind λd=>
some (.inl (Min.min c d,Wq (a+1),()))
else
some (.inr c)
def QH (a:List Int):Option Int:=
if (a.length:Int)<1 then
none
else
(atI a 0).bind λb=>
Zn (λv=>Qu a v.1 v.2.1) (b,(1:Int),())
def ZzW:Ctr:=D1 (.sl Iq) Iq QH
def QK (a:ZE) (b:Bool):Option Bool:=
(Zex a).bind λd=>
if d then
if b then
(QH (ZE.Values a)).bind λc=>
some (decide (c<0))
else
some false
else
some true
def ZzX:Ctr:=D2 (YV) (.ptr (.bool)) (.bool) QK
def Yd (b:List ZE) (d:Bool×Unit) (a:Int):Option ((Int×Unit) ⊕ Int):=
if a<(b.length:Int) then
(atI b a).bind λc=>
(QK c d.1).bind λe=>
if e then
some (.inr a)
else
some (.inl (Wq (a+1),()))
else
some (.inr (-1))
def Z0 (b:List ZE) (a:Bool×Unit):Option Int:=
Zn (λv=>Yd b a v.1) ((0:Int),())
def ZzY:Ctr:=D2 (.sl (YV)) (.fn 291 (.pair (.ptr (.bool)) (.unit))) Iq Z0
def ZT (b:List ZE) (a:Bool×Unit):Option Bool:=
(Z0 b a).bind λc=>
some (decide (0<=c))
def c116:Ctr:=D2 (.sl (YV)) (.fn 291 (.pair (.ptr (.bool)) (.unit))) (.bool) ZT
def Jr (b:List ZE) (a:Bool):Option Bool:=
if (b.length:Int)=2 then
(ZT b (a,())).bind λc=>
some !c
else
some false
def c117:Ctr:=D2 (.sl (YV)) (.bool) (.bool) Jr
def ZbX (a:YG):Option Bool:=
some (YG.Clock a)
def ZzZ:Ctr:=D1 (Zdh) (.bool) ZbX
def Yj (b:List YG) (a:Int):Option ((Int×Unit) ⊕ Int):=
if a<(b.length:Int) then
(atI b a).bind λc=>
(ZbX c).bind λd=>
if d then
some (.inr a)
else
some (.inl (Wq (a+1),()))
else
some (.inr (-1))
def Z9 (a:List YG) (b:Unit):Option Int:=
Zn (λv=>Yj a v.1) ((0:Int),())
def c119:Ctr:=D2 (.sl (Zdh)) (.fn 295 (.unit)) Iq Z9
def ZbW (a:Zm):Option Int:=
(Z9 (Zm.YR a) ()).bind λb=>
some b
def Zz0:Ctr:=D1 (Qk) Iq ZbW
def Jl (a:Zm):Option Int:=
(Vw (Zm.YR a)).bind λb=>
some (Wq (b-1))
def Zyq:Ctr:=D1 (Qk) Iq Jl
def VF (b:Zm) (a:Int):Option Bool:=
(Jl b).bind λd=>
(YN a 0 (Wq (d-1))).bind λc=>
some c
def Zz1:Ctr:=D2 (Qk) Iq (.bool) VF
def ZbY (b:Zm) (a:ZQ):Option Bool:=
(Zez (ZQ.Kind a)).bind λj=>
if j then
if ZQ.Zcu a=0 then
if ((ZQ.ZiV a).length:Int)=0 then
(Jr (ZQ.Delay a) false).bind λe=>
if e then
(ZbW b).bind λf=>
if ZQ.From a=f then
if 0<=ZQ.From a then
(VF b (ZQ.To a)).bind λd=>
if d then
some (!decide (ZQ.To a=ZQ.From a))
else
some false
else
some false
else
some false
else
some false
else
some false
else
some false
else
(Jr (ZQ.Delay a) true).bind λe=>
if e then
(Jr (ZQ.ZiV a) true).bind λh=>
if h then
(Jl b).bind λg=>
if ZQ.To a=g then
(VF b (ZQ.From a)).bind λd=>
if d then
if ZQ.Kind a=1 then
(atI (Zm.YR b) (ZQ.From a)).bind λc=>
if (YG.Clock c)=true then
some false
else
(YN (ZQ.Zcu a) 1 3).bind λi=>
some i
else
if ZQ.Kind a=2 then
if ZQ.Kind a=2 then
(atI (Zm.YR b) (ZQ.From a)).bind λc=>
if (YG.Clock c)=true then
some (decide (ZQ.Zcu a=0))
else
some false
else
some false
else
if ZQ.Kind a=3 then
(atI (Zm.YR b) (ZQ.From a)).bind λc=>
if (YG.Clock c)=true then
some (decide (ZQ.Zcu a=0))
else
some false
else
some false
else
some false
else
some false
else
some false
else
some false
def Zz2:Ctr:=D2 (Qk) (ZdW) (.bool) ZbY
def XR (a b:ZQ):Option Bool:=
if ZQ.Kind a=ZQ.Kind b then
if ZQ.From a=ZQ.From b then
some (decide (ZQ.To a=ZQ.To b))
else
some false
else
some false
def c124:Ctr:=D2 (ZdW) (.ptr (ZdW)) (.bool) XR
def Yf (b:List ZQ) (d:ZQ×Unit) (a:Int):Option ((Int×Unit) ⊕ Int):=
if a<(b.length:Int) then
(atI b a).bind λc=>
(XR c d.1).bind λe=>
if e then
some (.inr a)
else
some (.inl (Wq (a+1),()))
else
some (.inr (-1))
def Z4 (b:List ZQ) (a:ZQ×Unit):Option Int:=
Zn (λv=>Yf b a v.1) ((0:Int),())
def Zz3:Ctr:=D2 (.sl (ZdW)) (.fn 260 (.pair (.ptr (ZdW)) (.unit))) Iq Z4
def ZX (b:List ZQ) (a:ZQ×Unit):Option Bool:=
(Z4 b a).bind λc=>
some (decide (0<=c))
def Zz4:Ctr:=D2 (.sl (ZdW)) (.fn 260 (.pair (.ptr (ZdW)) (.unit))) (.bool) ZX
def V5 (a:Zm) (b:Int):Option ((Int×Unit) ⊕ Bool):=
if b<((Zm.ZaN a).length:Int) then
(atI (Zm.ZaN a) b).bind λc=>
(ZbY a c).bind λd=>
if d then
Zu ((0:Int)<=b)<|
Zu (b<=((Zm.ZaN a).length:Int))<|
(ZX (List.take (Int.toNat b-Int.toNat 0) (List.drop (Int.toNat 0) (Zm.ZaN a))) (c,())).bind λe=>
if e then
some (.inr false)
else
some (.inl (Wq (b+1),()))
else
some (.inr false)
else
some (.inr (decide (((Zm.ZaN a).length:Int)<=8)))
def Zag (a:Zm):Option Bool:=
Zn (λv=>V5 a v.1) ((0:Int),())
def c127:Ctr:=D1 (Qk) (.bool) Zag
def ZaX (a:ZQ) (b:Int):Option Bool:=
some (decide (ZQ.Kind a=b))
def Zz5:Ctr:=D2 (ZdW) (.ptr Iq) (.bool) ZaX
def Yo (b:List ZQ) (d:Int×Unit) (a:Int):Option ((Int×Unit) ⊕ Int):=
if a<(b.length:Int) then
(atI b a).bind λc=>
(ZaX c d.1).bind λe=>
if e then
some (.inr a)
else
some (.inl (Wq (a+1),()))
else
some (.inr (-1))
def Yb (b:List ZQ) (a:Int×Unit):Option Int:=
Zn (λv=>Yo b a v.1) ((0:Int),())
def Zz6:Ctr:=D2 (.sl (ZdW)) (.fn 282 (.pair (.ptr Iq) (.unit))) Iq Yb
def Z5 (b:List ZQ) (a:Int×Unit):Option Bool:=
(Yb b a).bind λc=>
some (decide (0<=c))
def c130:Ctr:=D2 (.sl (ZdW)) (.fn 282 (.pair (.ptr Iq) (.unit))) (.bool) Z5
def QD (b:Zm) (a:Int):Option Bool:=
(Z5 (Zm.ZaN b) (a,())).bind λc=>
some c
def c131:Ctr:=D2 (Qk) Iq (.bool) QD
def XA (a:Zm) (b c:Int):Option ((Int×Int×Unit) ⊕ Bool):=
if c<((Zm.YR a).length:Int) then
(atI (Zm.YR a) c).bind λh=>
if (YG.Clock h)=true then
some (.inl (Wq (b+1),Wq (c+1),()))
else
some (.inl (b,Wq (c+1),()))
else
if Zm.Kind a=1 then
if b=0 then
(Jl a).bind λg=>
Zu ((0:Int)<=g)<|
if ((Zm.Truth a).length:Int)=Wq (1*2 ^ Min.min (Int.toNat g) (IntKind.bits IntKind.i64)) then
(Xp (Zm.Truth a) 0 1).bind λi=>
some (.inr i)
else
some (.inr false)
else
some (.inr false)
else
if Zm.Kind a=2 then
if b=1 then
if ((Zm.Truth a).length:Int)=0 then
(QD a 1).bind λe=>
if e then
some (.inr false)
else
(QD a 2).bind λd=>
(QD a 3).bind λf=>
some (.inr (!d == f))
else
some (.inr false)
else
some (.inr false)
else
if Zm.Kind a=3 then
if b=1 then
if ((Zm.Truth a).length:Int)=0 then
(QD a 1).bind λe=>
if e then
(QD a 2).bind λd=>
if d then
(QD a 3).bind λf=>
some (.inr !f)
else
some (.inr false)
else
some (.inr false)
else
some (.inr false)
else
some (.inr false)
else
some (.inr false)
def JA (a:Zm):Option Bool:=
Zn (λv=>XA a v.1 v.2.1) ((0:Int),(0:Int),())
def Zz7:Ctr:=D1 (Qk) (.bool) JA
def Zfw (a:Zm):Option Bool:=
(Zd8 (Zm.Name a)).bind λg=>
if g then
(Zey (Zm.YR a)).bind λc=>
if c then
(Zag a).bind λd=>
if d then
(YN (Zm.ZuT a) 0 100000).bind λb=>
if b then
(YN (Zm.ZhS a) 0 100000).bind λf=>
if f then
(JA a).bind λe=>
some e
else
some false
else
some false
else
some false
else
some false
else
some false
def Zz8:Ctr:=D1 (Qk) (.bool) Zfw
def Qw (d:Zt) (a:List (List UInt8)) (c:Int):Option (((List (List UInt8))×Int×Unit) ⊕ Bool):=
if c<((Zt.Cells d).length:Int) then
(atI (Zt.Cells d) c).bind λb=>
(Zfw b).bind λe=>
if e then
Zu ((a.length+[Zm.Name b].length)*16<=140737488355328)<|
some (.inl (a++[Zm.Name b],Wq (c+1),()))
else
some (.inr false)
else
if ((Zt.Cells d).length:Int)<=8 then
(Vg a).bind λf=>
some (.inr f)
else
some (.inr false)
def ZcY (a:Zt):Option Bool:=
Zn (λv=>Qw a v.1 v.2.1) (([]:List (List UInt8)),(0:Int),())
def Zz9:Ctr:=D1 (YL) (.bool) ZcY
def Q6 (c:Zc) (a b:List (List UInt8)) (d:Int):Option (((List (List UInt8))×Int×Unit) ⊕ (((List (List UInt8))×Int×Unit) ⊕ Bool)):=
if d<((Zc.Xi c).length:Int) then
(atI (Zc.Xi c) d).bind λe=>
Zu ((b.length+[Z8.Name e].length)*16<=140737488355328)<|
some (.inl (b++[Z8.Name e],Wq (d+1),()))
else
if (a.length:Int)<=14 then
if ((Zc.YK c).length:Int)<=30 then
if (b.length:Int)<=8 then
(Vg a).bind λf=>
if f then
(Vg (Zc.YK c)).bind λg=>
if g then
(Vg b).bind λh=>
some (.inr (.inr h))
else
some (.inr (.inr false))
else
some (.inr (.inr false))
else
some (.inr (.inr false))
else
some (.inr (.inr false))
else
some (.inr (.inr false))
def Q7 (b:Zc) (a:List (List UInt8)) (c:Int):Option (((List (List UInt8))×Int×Unit) ⊕ Bool):=
if c<((Zc.Instances b).length:Int) then
(atI (Zc.Instances b) c).bind λd=>
Zu ((a.length+[Zd.Name d].length)*16<=140737488355328)<|
some (.inl (a++[Zd.Name d],Wq (c+1),()))
else
Zn (λv=>Q6 b a v.1 v.2.1) (([]:List (List UInt8)),(0:Int),())
def Vv (a:Zc):Option Bool:=
Zn (λv=>Q7 a v.1 v.2.1) (([]:List (List UInt8)),(0:Int),())
def ZAa:Ctr:=D1 (YJ) (.bool) Vv
def JK (a:List Zm):Option Int:=
some (a.length:Int)
def ZAb:Ctr:=D1 (.sl (Qk)) Iq JK
def Zb1 (a:List (List UInt8)):Option Int:=
some (a.length:Int)
def ZAc:Ctr:=D1 (.sl (.str)) Iq Zb1
def X7 (d:Zc) (a:Int):Option Bool:=
(Zb1 (Zc.YK d)).bind λc=>
(YN a 0 (Wq (c-1))).bind λb=>
some b
def c138:Ctr:=D2 (YJ) Iq (.bool) X7
def Xo (a:Int) (b:Zc):Option Bool:=
(X7 b a).bind λc=>
some !c
def c139:Ctr:=D2 Iq (.ptr (YJ)) (.bool) Xo
def Yh (b:List Int) (d:Zc×Unit) (a:Int):Option ((Int×Unit) ⊕ Int):=
if a<(b.length:Int) then
(atI b a).bind λc=>
(Xo c d.1).bind λe=>
if e then
some (.inr a)
else
some (.inl (Wq (a+1),()))
else
some (.inr (-1))
def Z6 (b:List Int) (a:Zc×Unit):Option Int:=
Zn (λv=>Yh b a v.1) ((0:Int),())
def ZAd:Ctr:=D2 (.sl Iq) (.fn 217 (.pair (.ptr (YJ)) (.unit))) Iq Z6
def ZY (b:List Int) (a:Zc×Unit):Option Bool:=
(Z6 b a).bind λc=>
some (decide (0<=c))
def c141:Ctr:=D2 (.sl Iq) (.fn 217 (.pair (.ptr (YJ)) (.unit))) (.bool) ZY
def QU (e:Zc) (b:Zt) (a:Zd):Option Bool:=
(JK (Zt.Cells b)).bind λc=>
(YN (Zd.Cell a) 0 (Wq (c-1))).bind λf=>
if f then
(atI (Zt.Cells b) (Zd.Cell a)).bind λd=>
if ((Zd.YK a).length:Int)=((Zm.YR d).length:Int) then
(ZY (Zd.YK a) (e,())).bind λg=>
some !g
else
some false
else
some false
def ZAe:Ctr:=D3 (YJ) (YL) (Yg) (.bool) QU
def ZaZ (a:Int):Option Bool:=
some (!decide (a=1))
def c143:Ctr:=D1 Iq (.bool) ZaZ
def YH (b:List Int) (a:Int):Option ((Int×Unit) ⊕ Int):=
if a<(b.length:Int) then
(atI b a).bind λc=>
(ZaZ c).bind λd=>
if d then
some (.inr a)
else
some (.inl (Wq (a+1),()))
else
some (.inr (-1))
def Yy (a:List Int) (b:Unit):Option Int:=
Zn (λv=>YH a v.1) ((0:Int),())
def ZAf:Ctr:=D2 (.sl Iq) (.fn 170 (.unit)) Iq Yy
def Yq (a:List Int) (c:Unit):Option Bool:=
(Yy a ()).bind λb=>
some (decide (0<=b))
def c145:Ctr:=D2 (.sl Iq) (.fn 170 (.unit)) (.bool) Yq
def QL (d:Zc) (c:Int) (b:List Int):Option ((Int×(List Int)×Unit) ⊕ ((Int×(List Int)×Unit) ⊕ Bool)):=
if c<((Zc.Xi d).length:Int) then
(atI (Zc.Xi d) c).bind λa=>
if Z8.Dir a=1 then
(X7 d (Z8.Net a)).bind λe=>
if e then
if Z8.Dir a=1 then
(atI b (Z8.Net a)).bind λf=>
some (.inl (Wq (c+1),List.set b (Int.toNat (Z8.Net a)) (Wq (f+1)),()))
else
some (.inl (Wq (c+1),b,()))
else
some (.inr (.inr false))
else
if Z8.Dir a=2 then
(X7 d (Z8.Net a)).bind λe=>
if e then
if Z8.Dir a=1 then
(atI b (Z8.Net a)).bind λf=>
some (.inl (Wq (c+1),List.set b (Int.toNat (Z8.Net a)) (Wq (f+1)),()))
else
some (.inl (Wq (c+1),b,()))
else
some (.inr (.inr false))
else
some (.inr (.inr false))
else
(Yq b ()).bind λg=>
some (.inr (.inr !g))
def V7 (f:Zt) (a:Zc) (d:Int) (c:List Int):Option ((Int×(List Int)×Unit) ⊕ Bool):=
if d<((Zc.Instances a).length:Int) then
(atI (Zc.Instances a) d).bind λb=>
(QU a f b).bind λh=>
if h then
(atI (Zd.YK b) (Wq (((Zd.YK b).length:Int)-1))).bind λe=>
(atI c e).bind λg=>
some (.inl (Wq (d+1),List.set c (Int.toNat e) (Wq (g+1)),()))
else
some (.inr false)
else
Zn (λv=>QL a v.1 v.2.1) ((0:Int),c,())
def ZdE (b:Zt) (a:Zc):Option Bool:=
(ZcY b).bind λc=>
if c then
(Vv a).bind λd=>
if d then
Zu ((0:Int)<=((Zc.YK a).length:Int))<|
Zu (((Zc.YK a).length:Int)<=((Zc.YK a).length:Int))<|
Zu (((Zc.YK a).length:Int)<=4611686018427387904)<|
Zu (((8:Nat):Int)*((Zc.YK a).length:Int)<=281474976710656)<|
Zn (λv=>V7 b a v.1 v.2.1) ((0:Int),List.replicate (Int.toNat ((Zc.YK a).length:Int)) (0:Int),())
else
some false
else
some false
def c146:Ctr:=D2 (YL) (YJ) (.bool) ZdE
def VG (d:Int) (c:Zd) (a:List Qg) (b:Int):Option (((List Qg)×Int×Unit) ⊕ (((List Qg)×Int×Unit) ⊕ List Qg)):=
if b<((Zd.YK c).length:Int) then
(atI (Zd.YK c) b).bind λe=>
Zu ((a.length+[(d,b,e,decide (b=Wq (((Zd.YK c).length:Int)-1)),())].length)*32<=140737488355328)<|
some (.inl (a++[(d,b,e,decide (b=Wq (((Zd.YK c).length:Int)-1)),())],Wq (b+1),()))
else
some (.inr (.inl (a,Wq (d+1),())))
def VH (d:Zc) (a:List Qg) (b:Int):Option (((List Qg)×Int×Unit) ⊕ (((List Qg)×Int×Unit) ⊕ List Qg)):=
if b<((Zc.Xi d).length:Int) then
(atI (Zc.Xi d) b).bind λc=>
Zu ((a.length+[((-1:Int),b,Z8.Net c,decide (Z8.Dir c=1),())].length)*32<=140737488355328)<|
some (.inl (a++[((-1:Int),b,Z8.Net c,decide (Z8.Dir c=1),())],Wq (b+1),()))
else
some (.inr (.inr a))
def VI (b:Zc) (a:List Qg) (c:Int):Option (((List Qg)×Int×Unit) ⊕ List Qg):=
if c<((Zc.Instances b).length:Int) then
(atI (Zc.Instances b) c).bind λd=>
Zn (λv=>VG c d v.1 v.2.1) (a,(0:Int),())
else
Zn (λv=>VH b v.1 v.2.1) (a,(0:Int),())
def Qm (a:Zc):Option (List Qg):=
Zn (λv=>VI a v.1 v.2.1) (([]:List Qg),(0:Int),())
def Zyr:Ctr:=⟨[.dat (YJ)],[.own (.ol 196 (.flat (ZmR)))],λa K=>Zv a λb a=>YX (Qm b) λr=>K (r,()) ()⟩
def Jw (d:ZJ) (a:Int):Option ((Int×Unit) ⊕ Bool):=
if a<((ZJ.Parent d).length:Int) then
(atI (ZJ.Parent d) a).bind λb=>
if a=0 then
if b=(-1) then
(atI (ZJ.Res d) 0).bind λe=>
if e=0 then
if 0<a then
(YN b 0 (Wq (a-1))).bind λc=>
if c then
some (.inl (Wq (a+1),()))
else
some (.inr false)
else
some (.inl (Wq (a+1),()))
else
some (.inr false)
else
some (.inr false)
else
if 0<a then
(YN b 0 (Wq (a-1))).bind λc=>
if c then
some (.inl (Wq (a+1),()))
else
some (.inr false)
else
some (.inl (Wq (a+1),()))
else
some (.inr true)
def Za0 (a:ZJ):Option Bool:=
Zn (λv=>Jw a v.1) ((0:Int),())
def c148:Ctr:=D1 (Vu) (.bool) Za0
def Zfx (a:ZJ) (b:Int):Option Bool:=
(Y3 (ZJ.Parent a)).bind λc=>
(YN c 1 8).bind λf=>
if f then
(Y3 (ZJ.Res a)).bind λg=>
if g=c then
(Y3 (ZJ.Cap a)).bind λd=>
if d=c then
(Za0 a).bind λj=>
if j then
(Xp (ZJ.Res a) 0 1000).bind λh=>
if h then
(Xp (ZJ.Cap a) 0 500).bind λk=>
if k then
(Y3 (ZJ.Zkx a)).bind λi=>
if i=b then
(Xp (ZJ.Zkx a) 0 (Wq (c-1))).bind λe=>
some e
else
some false
else
some false
else
some false
else
some false
else
some false
else
some false
else
some false
def ZAg:Ctr:=D2 (Vu) Iq (.bool) Zfx
def ZbZ (b:Ze) (e:List Int) (a:Int):Option ((Int×Unit) ⊕ ((Int×(List Int)×Unit) ⊕ Bool)):=
if a<((Ze.QZ b).length:Int) then
(atI (Ze.QZ b) a).bind λd=>
(atI e a).bind λc=>
(Zfx d c).bind λf=>
if f then
some (.inl (Wq (a+1),()))
else
some (.inr (.inr false))
else
some (.inr (.inr true))
def JB (f:Ze) (a:List Qg) (c:Int) (b:List Int):Option ((Int×(List Int)×Unit) ⊕ Bool):=
if c<(a.length:Int) then
(atI a c).bind λd=>
if (Qg.drives d)=true then
some (.inl (Wq (c+1),b,()))
else
(atI b (Qg.net d)).bind λe=>
some (.inl (Wq (c+1),List.set b (Int.toNat (Qg.net d)) (Wq (e+1)),()))
else
Zn (λv=>ZbZ f b v.1) ((0:Int),())
def Zew (a:Ze):Option Bool:=
(ZdE (Ze.Library a) (Ze.Design a)).bind λc=>
if c then
if ((Ze.QZ a).length:Int)=((Zc.YK (Ze.Design a)).length:Int) then
Zu ((0:Int)<=((Ze.QZ a).length:Int))<|
Zu (((Ze.QZ a).length:Int)<=((Ze.QZ a).length:Int))<|
Zu (((Ze.QZ a).length:Int)<=4611686018427387904)<|
Zu (((8:Nat):Int)*((Ze.QZ a).length:Int)<=281474976710656)<|
(Qm (Ze.Design a)).bind λb=>
Zn (λv=>JB a b v.1 v.2.1) ((0:Int),List.replicate (Int.toNat ((Ze.QZ a).length:Int)) (0:Int),())
else
some false
else
some false
def ZAh:Ctr:=D1 (Yz) (.bool) Zew
def VE (b:Ze) (a:Int):Option Zm:=
(atI (Zc.Instances (Ze.Design b)) a).bind λd=>
(atI (Zt.Cells (Ze.Library b)) (Zd.Cell d)).bind λc=>
some c
def Zzh:Ctr:=D2 (Yz) Iq (Qk) VE
def QN (a:Int) (b:List Int) (c:List Bool) (d:Zd) (e:Int):Option ((Int×Unit) ⊕ ((Int×(List Int)×(List Bool)×Unit) ⊕ (((List Int)×(List Bool)×Unit) ⊕ ((Int×(List Int)×Unit) ⊕ ((Int×(List Int)×Unit) ⊕ ((Option YA)×Bool)))))):=
if e<(((List.take (Int.toNat (Wq (((Zd.YK d).length:Int)-1))-Int.toNat 0) (List.drop (Int.toNat 0) (Zd.YK d))).length):Int) then
(atI (List.take (Int.toNat (Wq (((Zd.YK d).length:Int)-1))-Int.toNat 0) (List.drop (Int.toNat 0) (Zd.YK d))) e).bind λg=>
(atI c g).bind λf=>
if f then
some (.inl (Wq (e+1),()))
else
if 0<=e then
some (.inr (.inl (Wq (a+1),b,c,())))
else
Zu ((b.length+[a].length)*8<=140737488355328)<|
some (.inr (.inl (Wq (a+1),b++[a],List.set c (Int.toNat a) true,())))
else
if 0<=(-1) then
some (.inr (.inl (Wq (a+1),b,c,())))
else
Zu ((b.length+[a].length)*8<=140737488355328)<|
some (.inr (.inl (Wq (a+1),b++[a],List.set c (Int.toNat a) true,())))
def Jb (g:Ze) (h j:List Int) (c a:Int) (b:List Int) (d:List Bool):Option ((Int×(List Int)×(List Bool)×Unit) ⊕ (((List Int)×(List Bool)×Unit) ⊕ ((Int×(List Int)×Unit) ⊕ ((Int×(List Int)×Unit) ⊕ ((Option YA)×Bool))))):=
if a<c then
(atI d a).bind λi=>
if i then
some (.inl (Wq (a+1),b,d,()))
else
(atI h a).bind λf=>
if f<0 then
Zu ((b.length+[a].length)*8<=140737488355328)<|
some (.inl (Wq (a+1),b++[a],List.set d (Int.toNat a) true,()))
else
(atI (Zc.Instances (Ze.Design g)) f).bind λe=>
Zu ((0:Int)<=Wq (((Zd.YK e).length:Int)-1))<|
Zu (Wq (((Zd.YK e).length:Int)-1)<=((Zd.YK e).length:Int))<|
Zn (λv=>QN a b d e v.1) ((0:Int),())
else
if (b.length:Int)=(j.length:Int) then
some (.inr (.inr (.inr (.inr (Option.none,false)))))
else
some (.inr (.inl (b,d,())))
def Zbf (c:Ze) (a b:List Int) (d:List Bool):Option (((List Int)×(List Bool)×Unit) ⊕ ((Int×(List Int)×Unit) ⊕ ((Int×(List Int)×Unit) ⊕ ((Option YA)×Bool)))):=
if (b.length:Int)<(a.length:Int) then
(Y3 a).bind λe=>
Zn (λv=>Jb c a b e v.1 v.2.1 v.2.2.1) ((0:Int),b,d,())
else
some (.inr (.inr (.inr (Option.some (c,a,b,()),true))))
def QO (c:Ze) (b:Int) (a:List Int):Option ((Int×(List Int)×Unit) ⊕ ((Int×(List Int)×Unit) ⊕ ((Option YA)×Bool))):=
if b<((Zc.Instances (Ze.Design c)).length:Int) then
(atI (Zc.Instances (Ze.Design c)) b).bind λd=>
(VE c b).bind λf=>
if Zm.Kind f=1 then
(atI (Zd.YK d) (Wq (((Zd.YK d).length:Int)-1))).bind λe=>
(atI a e).bind λg=>
some (.inl (Wq (b+1),List.set a (Int.toNat e) b,()))
else
some (.inl (Wq (b+1),a,()))
else
Zu ((0:Int)<=(a.length:Int))<|
Zu ((a.length:Int)<=(a.length:Int))<|
Zu ((a.length:Int)<=4611686018427387904)<|
Zu (((1:Nat):Int)*(a.length:Int)<=281474976710656)<|
Zn (λv=>Zbf c a v.1 v.2.1) (([]:List Int),List.replicate (Int.toNat (a.length:Int)) false,())
def Zbg (c:Ze) (a:Int) (b:List Int):Option ((Int×(List Int)×Unit) ⊕ ((Option YA)×Bool)):=
if a<(((List.replicate (Int.toNat ((Ze.QZ c).length:Int)) (0:Int)).length):Int) then
(atI b a).bind λd=>
some (.inl (Wq (a+1),List.set b (Int.toNat a) (-1),()))
else
Zn (λv=>QO c v.1 v.2.1) ((0:Int),b,())
def ZdF (a:Ze):Option ((Option YA)×Bool):=
Zu ((0:Int)<=((Ze.QZ a).length:Int))<|
Zu (((Ze.QZ a).length:Int)<=((Ze.QZ a).length:Int))<|
Zu (((Ze.QZ a).length:Int)<=4611686018427387904)<|
Zu (((8:Nat):Int)*((Ze.QZ a).length:Int)<=281474976710656)<|
Zn (λv=>Zbg a v.1 v.2.1) ((0:Int),List.replicate (Int.toNat ((Ze.QZ a).length:Int)) (0:Int),())
def c152:Ctr:=⟨[.dat (Yz)],[.dat (.nptr (Zif)),.dat (.bool)],λa K=>Zv a λb a=>YX (ZdF b) λr=>K (r.1,r.2,()) ()⟩
def VW (c:Ze) (a:List Int):Option ((Option YA)×Int):=
(Zew c).bind λg=>
if g then
(ZdF c).bind λb=>
if b.2 then
(b.1).bind λe=>
(Y3 (YA.gate e)).bind λd=>
(Xp a 0 (Wq (d-1))).bind λf=>
if f then
some (b.1,0)
else
some (Option.none,2)
else
some (Option.none,7)
else
some (Option.none,1)
def Zzi:Ctr:=⟨[.dat (Yz),.dat (.sl Iq)],[.dat (.nptr (Zif)),.dat Iq],λa K=>Zv a λc a=>Zv a λb a=>YX (VW c b) λr=>K (r.1,r.2,()) ()⟩
def VL (c:YA) (a:List Int) (b:Int):Option (((List Int)×Int×Unit) ⊕ List Int):=
if b<((YA.gate c).length:Int) then
(atI (YA.gate c) b).bind λd=>
if d<0 then
Zu ((a.length+[b].length)*8<=140737488355328)<|
some (.inl (a++[b],Wq (b+1),()))
else
some (.inl (a,Wq (b+1),()))
else
some (.inr a)
def Vi (a:YA):Option (List Int):=
Zn (λv=>VL a v.1 v.2.1) (([]:List Int),(0:Int),())
def c154:Ctr:=⟨[.dat (.ptr (Zif))],[.own (.ol 2 (.flat Iq))],λa K=>Zv a λb a=>YX (Vi b) λr=>K (r,()) ()⟩
def Zm7 (b a:Int):Option ((Int×Int×Unit) ⊕ Int):=
if a=0 then
some (.inr b)
else
Zu (a≠0)<|
some (.inl (a,Int.tmod b a,()))
def Zop (a b:Int):Option Int:=
Zn (λv=>Zm7 v.1 v.2.1) (a,b,())
def ZAi:Ctr:=D2 Iq Iq Iq Zop
def Zb0 (a:ZH):Option Bool:=
(YN (ZH.Den a) 1 1000000).bind λc=>
if c then
(YN (ZH.Num a) 0 (ZH.Den a)).bind λb=>
if b then
(Zop (ZH.Num a) (ZH.Den a)).bind λd=>
some (decide (d=1))
else
some false
else
some false
def c156:Ctr:=D1 (ZaU) (.bool) Zb0
def YW (a:Zg):Option Bool:=
(Zb0 (Zg.High a)).bind λc=>
if c then
if 10<ZH.Den (Zg.High a) then
some true
else
(YN (Zg.Zaw a) 0 1000).bind λb=>
some !b
else
some true
def c157:Ctr:=D1 (Zy) (.bool) YW
def ZR (b:List Zg) (a:Int):Option ((Int×Unit) ⊕ Int):=
if a<(b.length:Int) then
(atI b a).bind λc=>
(YW c).bind λd=>
if d then
some (.inr a)
else
some (.inl (Wq (a+1),()))
else
some (.inr (-1))
def ZK (a:List Zg) (b:Unit):Option Int:=
Zn (λv=>ZR a v.1) ((0:Int),())
def ZAj:Ctr:=D2 (.sl (Zy)) (.fn 108 (.unit)) Iq ZK
def ZG (a:List Zg) (c:Unit):Option Bool:=
(ZK a ()).bind λb=>
some (decide (0<=b))
def c159:Ctr:=D2 (.sl (Zy)) (.fn 108 (.unit)) (.bool) ZG
def QE (c:YA) (a:List Zg):Option Bool:=
(Vi c).bind λd=>
if (a.length:Int)=(d.length:Int) then
(ZG a ()).bind λb=>
some !b
else
some false
def c160:Ctr:=D2 (.ptr (Zif)) (.sl (Zy)) (.bool) QE
def Zay (b:List Zg) (d:YA) (a:List Int) (c:Int) (e:List (Int×ZH×Int×Unit)):Option ((Int×(List (Int×ZH×Int×Unit))×Unit) ⊕ ((Option YI)×Int)):=
if c<(a.length:Int) then
(atI a c).bind λg=>
(atI b c).bind λf=>
some (.inl (Wq (c+1),ZnR ZqS.ty ZqS.ety e g f,()))
else
some (.inr (Option.some (d,e,()),0))
def ZcZ (g:Ze) (a:List Zg) (b:List Int):Option ((Option YI)×Int):=
(VW g b).bind λd=>
if d.2=0 then
(d.1).bind λc=>
(QE c a).bind λf=>
if f then
(Vi c).bind λe=>
Zn (λv=>Zay a c e v.1 v.2.1) ((0:Int),([]:List (Int×ZH×Int×Unit)),())
else
some (Option.none,5)
else
some (Option.none,d.2)
def ZAk:Ctr:=⟨[.dat (Yz),.dat (.sl (Zy)),.dat (.sl Iq)],[.dat (.nptr (ZeV)),.dat Iq],λa K=>Zv a λd a=>Zv a λc a=>Zv a λb a=>YX (ZcZ d c b) λr=>K (r.1,r.2,()) ()⟩
def VK (c:YA) (b:Int):Option (List Int):=
(atI (YA.gate c) b).bind λd=>
(atI (Zc.Instances (Ze.Design (YA.Block c))) d).bind λa=>
Zu ((0:Int)<=Wq (((Zd.YK a).length:Int)-1))<|
Zu (Wq (((Zd.YK a).length:Int)-1)<=((Zd.YK a).length:Int))<|
some (List.take (Int.toNat (Wq (((Zd.YK a).length:Int)-1))-Int.toNat 0) (List.drop (Int.toNat 0) (Zd.YK a)))
def c162:Ctr:=D2 (.ptr (Zif)) Iq (.sl Iq) VK
def Qc (h g:Int) (a b:List Int) (f:Int) (c:List (List Int)):Option (((List Int)×Int×(List (List Int))×Unit) ⊕ ((Int×(List (List Int))×Unit) ⊕ List (List Int))):=
if f<(a.length:Int) then
(atI a f).bind λd=>
(atI c d).bind λe=>
Zu ((b.length+e.length)*8<=140737488355328)<|
some (.inl (b++e,Wq (f+1),List.set c (Int.toNat d) e,()))
else
(Zxq b).bind λj=>
(Zly j).bind λi=>
(atI c g).bind λd=>
some (.inr (.inl (Wq (h+1),List.set c (Int.toNat g) i,())))
def Qd (b:YA) (d:Int) (c:List (List Int)):Option ((Int×(List (List Int))×Unit) ⊕ List (List Int)):=
if d<((YA.order b).length:Int) then
(atI (YA.order b) d).bind λa=>
(atI (YA.gate b) a).bind λe=>
if e<0 then
(atI c a).bind λg=>
some (.inl (Wq (d+1),List.set c (Int.toNat a) [a],()))
else
(VK b a).bind λf=>
Zn (λv=>Qc d a f v.1 v.2.1 v.2.2.1) (([]:List Int),(0:Int),c,())
else
some (.inr c)
def QM (a:YA):Option (List (List Int)):=
Zu ((0:Int)<=((YA.gate a).length:Int))<|
Zu (((YA.gate a).length:Int)<=((YA.gate a).length:Int))<|
Zu (((YA.gate a).length:Int)<=4611686018427387904)<|
Zu (((24:Nat):Int)*((YA.gate a).length:Int)<=281474976710656)<|
Zn (λv=>Qd a v.1 v.2.1) ((0:Int),List.replicate (Int.toNat ((YA.gate a).length:Int)) (([]:List Int)),())
def Zzj:Ctr:=⟨[.dat (.ptr (Zif))],[.own (.ol 77 (.ol 2 (.flat Iq)))],λa K=>Zv a λb a=>YX (QM b) λr=>K (r,()) ()⟩
def QF (h:YA) (i:Int) (d:List Int) (e j:Int) (a:List Int) (g b:Int):Option ((Int×Int×Unit) ⊕ ((Int×(List Int)×Unit) ⊕ List Int)):=
if b<(a.length:Int) then
(atI a b).bind λc=>
(atI d c).bind λf=>
Zu ((0:Int)<=b)<|
some (.inl (Go.bits Go.BinOp.or IntKind.i64 g (Wq (f*2 ^ Min.min (Int.toNat b) (IntKind.bits IntKind.i64))),Wq (b+1),()))
else
(VE (YA.Block h) j).bind λk=>
(atI (Zm.Truth k) g).bind λc=>
(atI d e).bind λf=>
some (.inr (.inl (Wq (i+1),List.set d (Int.toNat e) c,())))
def QG (b:YA) (f:List (Int×Int)) (d:Int) (c:List Int):Option ((Int×(List Int)×Unit) ⊕ List Int):=
if d<((YA.order b).length:Int) then
(atI (YA.order b) d).bind λa=>
(atI (YA.gate b) a).bind λe=>
if e<0 then
(atI c a).bind λh=>
some (.inl (Wq (d+1),List.set c (Int.toNat a) (Option.getD (ZgK (Ty.int IntKind.i64) (Ty.int IntKind.i64) f a) 0),()))
else
(VK b a).bind λg=>
Zn (λv=>QF b d c a e g v.1 v.2.1) ((0:Int),(0:Int),())
else
some (.inr c)
def Zal (a:YA) (b:List (Int×Int)):Option (List Int):=
Zu ((0:Int)<=((YA.gate a).length:Int))<|
Zu (((YA.gate a).length:Int)<=((YA.gate a).length:Int))<|
Zu (((YA.gate a).length:Int)<=4611686018427387904)<|
Zu (((8:Nat):Int)*((YA.gate a).length:Int)<=281474976710656)<|
Zn (λv=>QG a b v.1 v.2.1) ((0:Int),List.replicate (Int.toNat ((YA.gate a).length:Int)) (0:Int),())
def c164:Ctr:=⟨[.dat (.ptr (Zif)),.dat (.mp Iq Iq)],[.own (.ol 2 (.flat Iq))],λa K=>Zv a λb a=>Zv a λc a=>YX (Zal b c) λr=>K (r,()) ()⟩
def Vr (h:YA) (c:Int) (g:List Int) (f:Int) (d:List Int) (a:Int) (e:List (Int×Int)):Option ((Int×(List (Int×Int))×Unit) ⊕ ((Int×(List Int)×Unit) ⊕ ((List Int)×(List Int)×Bool))):=
if a<(g.length:Int) then
(atI g a).bind λb=>
Zu ((0:Int)<=a)<|
some (.inl (Wq (a+1),ZnR ZqT.ty ZqT.ety e b (Go.bits Go.BinOp.and IntKind.i64 (Int.fdiv f (2 ^ Min.min (Int.toNat a) (IntKind.bits IntKind.i64))) 1),()))
else
(Zal h e).bind λi=>
(atI i c).bind λb=>
Zu ((d.length+[b].length)*8<=140737488355328)<|
some (.inr (.inl (Wq (f+1),d++[b],())))
def Vs (e:YA) (b:Int) (a:List Int) (d:Int) (c:List Int):Option ((Int×(List Int)×Unit) ⊕ ((List Int)×(List Int)×Bool)):=
if d<Wq (1*2 ^ Min.min (Int.toNat (a.length:Int)) (IntKind.bits IntKind.i64)) then
Zn (λv=>Vr e b a d c v.1 v.2.1) ((0:Int),([]:List (Int×Int)),())
else
some (.inr (c,a,true))
def Ja (c:YA) (a:Int):Option ((List Int)×(List Int)×Bool):=
(QM c).bind λd=>
(atI d a).bind λb=>
if 8<(b.length:Int) then
some ([],[],false)
else
Zu ((0:Int)<=(b.length:Int))<|
Zn (λv=>Vs c a b v.1 v.2.1) ((0:Int),([]:List Int),())
def ZAl:Ctr:=⟨[.dat (.ptr (Zif)),.dat Iq],[.own (.ol 2 (.flat Iq)),.own (.ol 2 (.flat Iq)),.dat (.bool)],λa K=>Zv a λc a=>Zv a λb a=>YX (Ja c b) λr=>K (r.1,r.2.1,r.2.2,()) ()⟩
def Vp (f:YI) (a:List Int) (g c d b:Int):Option ((Int×Int×Unit) ⊕ Int):=
if b<(a.length:Int) then
(atI a b).bind λe=>
if b=c then
some (.inl (d,Wq (b+1),()))
else
Zu ((0:Int)<=b)<|
if Go.bits Go.BinOp.and IntKind.i64 (Int.fdiv g (2 ^ Min.min (Int.toNat b) (IntKind.bits IntKind.i64))) 1=1 then
some (.inl (Wq (d*ZH.Num (Zg.High (Option.getD (ZgK (Ty.int IntKind.i64) Zy (YI.of f) e) ((0,0,()),0,())))),Wq (b+1),()))
else
some (.inl (Wq (d*Wq (ZH.Den (Zg.High (Option.getD (ZgK (Ty.int IntKind.i64) Zy (YI.of f) e) ((0,0,()),0,())))-ZH.Num (Zg.High (Option.getD (ZgK (Ty.int IntKind.i64) Zy (YI.of f) e) ((0,0,()),0,()))))),Wq (b+1),()))
else
some (.inr d)
def V9 (d:YI) (a:List Int) (c b:Int):Option Int:=
Zn (λv=>Vp d a c b v.1 v.2.1) ((1:Int),(0:Int),())
def ZAm:Ctr:=D4 (.ptr (ZeV)) (.sl Iq) Iq Iq Iq V9
def Qi (g:YI) (a d:List Int) (e b c:Int):Option ((Int×Int×Unit) ⊕ Int):=
if c<(a.length:Int) then
(atI a c).bind λf=>
Zu ((0:Int)<=e)<|
if Go.bits Go.BinOp.and IntKind.i64 (Int.fdiv c (2 ^ Min.min (Int.toNat e) (IntKind.bits IntKind.i64))) 1=0 then
(atI a (Go.bits Go.BinOp.or IntKind.i64 c (Wq (1*2 ^ Min.min (Int.toNat e) (IntKind.bits IntKind.i64))))).bind λh=>
if f=h then
some (.inl (b,Wq (c+1),()))
else
(V9 g d c e).bind λi=>
some (.inl (Wq (b+i),Wq (c+1),()))
else
some (.inl (b,Wq (c+1),()))
else
some (.inr b)
def Qo (d:YI) (a b:List Int) (c:Int):Option Int:=
Zn (λv=>Qi d a b c v.1 v.2.1) ((0:Int),(0:Int),())
def c167:Ctr:=D4 (.ptr (ZeV)) (.sl Iq) (.sl Iq) Iq Iq Qo
def Qh (f:YI) (b:List Int) (c a d:Int):Option ((Int×Int×Unit) ⊕ Int):=
if d<(b.length:Int) then
(atI b d).bind λe=>
if d=c then
some (.inl (a,Wq (d+1),()))
else
some (.inl (Wq (a*ZH.Den (Zg.High (Option.getD (ZgK (Ty.int IntKind.i64) Zy (YI.of f) e) ((0,0,()),0,())))),Wq (d+1),()))
else
some (.inr a)
def Qn (c:YI) (b:List Int) (a:Int):Option Int:=
Zn (λv=>Qh c b a v.1 v.2.1) ((1:Int),(0:Int),())
def c168:Ctr:=D3 (.ptr (ZeV)) (.sl Iq) Iq Iq Qn
def Zfy (b a c:Int):Option Int:=
Zu (a≠0)<|
if c=0 then
if Int.tmod b a<0 then
some (Wq (Wq (Int.tdiv b a)-1))
else
if c=1 then
if 0<Int.tmod b a then
some (Wq (Wq (Int.tdiv b a)+1))
else
some (Wq (Int.tdiv b a))
else
some (Wq (Int.tdiv b a))
else
if c=1 then
if 0<Int.tmod b a then
some (Wq (Wq (Int.tdiv b a)+1))
else
some (Wq (Int.tdiv b a))
else
some (Wq (Int.tdiv b a))
def ZAn:Ctr:=D3 Iq Iq Iq Iq Zfy
def Q8 (d:YI) (a:List Int×List Int×Bool) (b c:Int):Option ((Int×Int×Unit) ⊕ (Int×Bool)):=
if c<(a.2.1.length:Int) then
(atI a.2.1 c).bind λe=>
(Qo d a.1 a.2.1 c).bind λf=>
some (.inl (Wq (b+Wq (Wq (f*ZH.Den (Zg.High (Option.getD (ZgK (Ty.int IntKind.i64) Zy (YI.of d) e) ((0,0,()),0,()))))*Zg.Zaw (Option.getD (ZgK (Ty.int IntKind.i64) Zy (YI.of d) e) ((0,0,()),0,())))),Wq (c+1),()))
else
(Qn d a.2.1 (-1)).bind λg=>
(Zfy b g 1).bind λh=>
some (.inr (h,true))
def Qx (b:YI) (a:Int):Option (Int×Bool):=
(Ja (YI.logic b) a).bind λc=>
if c.2.2 then
Zn (λv=>Q8 b c v.1 v.2.1) ((0:Int),(0:Int),())
else
some (0,false)
def ZAo:Ctr:=⟨[.dat (.ptr (ZeV)),.dat Iq],[.dat Iq,.dat (.bool)],λa K=>Zv a λc a=>Zv a λb a=>YX (Qx c b) λr=>K (r.1,r.2,()) ()⟩
def VJ (e:YI) (a:List Int) (b c:Int):Option ((Int×Int×Unit) ⊕ Int):=
if c<(a.length:Int) then
(atI a c).bind λd=>
some (.inl (Wq (b+Zg.Zaw (Option.getD (ZgK (Ty.int IntKind.i64) Zy (YI.of e) d) ((0,0,()),0,()))),Wq (c+1),()))
else
some (.inr b)
def JC (b:YI) (a:List Int):Option Int:=
Zn (λv=>VJ b a v.1 v.2.1) ((0:Int),(0:Int),())
def c171:Ctr:=D2 (.ptr (ZeV)) (.sl Iq) Iq JC
def Qe (a:List Int):Option (List Int):=
Zu ((([]:List Int).length+a.length)*8<=140737488355328)<|
some (([]:List Int)++a)
def ZAp:Ctr:=⟨[.dat (.sl Iq)],[.own (.ol 2 (.flat Iq))],λa K=>Zv a λb a=>YX (Qe b) λr=>K (r,()) ()⟩
def V6 (d:Int) (b:List Qg) (a:List Int) (c:Int):Option (((List Int)×Int×Unit) ⊕ List Int):=
if c<(b.length:Int) then
(atI b c).bind λe=>
if Qg.net e=d then
if (Qg.drives e)=true then
some (.inl (a,Wq (c+1),()))
else
Zu ((a.length+[c].length)*8<=140737488355328)<|
some (.inl (a++[c],Wq (c+1),()))
else
some (.inl (a,Wq (c+1),()))
else
some (.inr a)
def Zai (c:Zc) (a:Int):Option (List Int):=
(Qm c).bind λb=>
Zn (λv=>V6 a b v.1 v.2.1) (([]:List Int),(0:Int),())
def c173:Ctr:=⟨[.dat (YJ),.dat Iq],[.own (.ol 2 (.flat Iq))],λa K=>Zv a λc a=>Zv a λb a=>YX (Zai c b) λr=>K (r,()) ()⟩
def Zah (d:Zc) (f:Zt) (a:Qg):Option Int:=
if Qg.instance a<0 then
some 0
else
(atI (Zc.Instances d) (Qg.instance a)).bind λc=>
(atI (Zt.Cells f) (Zd.Cell c)).bind λb=>
(atI (Zm.YR b) (Qg.pin a)).bind λe=>
some (YG.Cap e)
def ZAq:Ctr:=D3 (YJ) (YL) (ZmR) Iq Zah
def Q5 (d:ZJ) (a:Int) (b:List Int):Option ((Int×(List Int)×Unit) ⊕ ((Int×(List Int)×Unit) ⊕ List Int)):=
if 0<a then
(atI (ZJ.Parent d) a).bind λc=>
(atI b c).bind λf=>
(atI b a).bind λe=>
some (.inl (Wq (a-1),List.set b (Int.toNat c) (Wq (f+e)),()))
else
some (.inr (.inr b))
def X0 (e:Ze) (f:ZJ) (b:List Qg) (a:List Int) (d:Int) (c:List Int):Option ((Int×(List Int)×Unit) ⊕ List Int):=
if d<(a.length:Int) then
(atI a d).bind λj=>
(atI (ZJ.Zkx f) d).bind λg=>
(atI c g).bind λh=>
(atI b j).bind λi=>
(Zah (Ze.Design e) (Ze.Library e) i).bind λk=>
some (.inl (Wq (d+1),List.set c (Int.toNat g) (Wq (h+k)),()))
else
Zn (λv=>Q5 f v.1 v.2.1) (Wq ((c.length:Int)-1),c,())
def YT (a:Ze) (c:Int):Option (List Int):=
(atI (Ze.QZ a) c).bind λb=>
(Qe (ZJ.Cap b)).bind λf=>
(Qm (Ze.Design a)).bind λd=>
(Zai (Ze.Design a) c).bind λe=>
Zn (λv=>X0 a b d e v.1 v.2.1) ((0:Int),f,())
def c175:Ctr:=⟨[.dat (Yz),.dat Iq],[.own (.ol 2 (.flat Iq))],λa K=>Zv a λb a=>Zv a λc a=>YX (YT b c) λr=>K (r,()) ()⟩
def Vo (g:YI) (d:List (List Int)) (b a:List Int) (c:Int) (k:List (List Int)):Option (((List Int)×(List Int)×Int×(List (List Int))×Unit) ⊕ ((List Int)×(List Int))):=
if c<(d.length:Int) then
(atI k c).bind λi=>
(Qx g c).bind λf=>
if f.2 then
Zu ((b.length+[f.1].length)*8<=140737488355328)<|
(YT (YA.Block (YI.logic g)) c).bind λj=>
(atI j 0).bind λe=>
Zu ((a.length+[Wq (f.1*e)].length)*8<=140737488355328)<|
some (.inl (b++[f.1],a++[Wq (f.1*e)],Wq (c+1),List.set k (Int.toNat c) i,()))
else
(JC g i).bind λh=>
Zu ((b.length+[h].length)*8<=140737488355328)<|
(YT (YA.Block (YI.logic g)) c).bind λj=>
(atI j 0).bind λe=>
Zu ((a.length+[Wq (h*e)].length)*8<=140737488355328)<|
some (.inl (b++[h],a++[Wq (h*e)],Wq (c+1),List.set k (Int.toNat c) i,()))
else
some (.inr (b,a))
def V8 (a:YI):Option ((List Int)×(List Int)):=
(QM (YI.logic a)).bind λb=>
Zn (λv=>Vo a b v.1 v.2.1 v.2.2.1 v.2.2.2.1) (([]:List Int),([]:List Int),(0:Int),b,())
def ZAr:Ctr:=⟨[.dat (.ptr (ZeV))],[.own (.ol 2 (.flat Iq)),.own (.ol 2 (.flat Iq))],λa K=>Zv a λb a=>YX (V8 b) λr=>K (r.1,r.2,()) ()⟩
def ZbM (a:Int):Option Bool:=
some (!decide (a=a))
def ZAs:Ctr:=D1 Iq (.bool) ZbM
def Zcz (b a:Int):Option Int:=
(ZbM b).bind λd=>
(ZbM a).bind λc=>
if d then
if c then
some 0
else
some (-1)
else
if c then
some 1
else
if b<a then
some (-1)
else
if a<b then
some 1
else
some 0
def ZAt:Ctr:=D2 Iq Iq Iq Zcz
def Xx (b a:Zj):Option Int:=
(Zcz (Zj.Power a) (Zj.Power b)).bind λc=>
some c
def Zys:Ctr:=D2 (Yr) (Yr) Iq Xx
def ZO (f d a:Int) (b:List Zj):Option ((Int×(List Zj)×Unit) ⊕ ((Int×(List Zj)×Unit) ⊕ List Zj)):=
if f<a then
(atI b a).bind λe=>
(atI b (Wq (a-1))).bind λc=>
(Xx e c).bind λg=>
if g<0 then
(atI (List.set b (Int.toNat a) c) (Wq (a-1))).bind λh=>
some (.inl (Wq (a-1),List.set (List.set b (Int.toNat a) c) (Int.toNat (Wq (a-1))) e,()))
else
some (.inr (.inl (Wq (d+1),b,())))
else
some (.inr (.inl (Wq (d+1),b,())))
def ZP (c d a:Int) (b:List Zj):Option ((Int×(List Zj)×Unit) ⊕ List Zj):=
if a<d then
Zn (λv=>ZO c a v.1 v.2.1) (a,b,())
else
some (.inr b)
def ZI (a:List Zj) (b d:Int) (c:Unit):Option (List Zj):=
Zn (λv=>ZP b d v.1 v.2.1) (Wq (b+1),a,())
def ZAu:Ctr:=⟨[.back (.ol 49 (.flat (Yr))),.dat Iq,.dat Iq,.dat (.fn 35 (.unit))],[],λa K=>Zv a λb a=>Zv a λd a=>Zv a λe a=>Zv a λc a=>YX (ZI b d e c) λr=>K () (r,())⟩
def Ye (c d f a:Int) (b:List Zj):Option ((Int×(List Zj)×Unit) ⊕ List Zj):=
if a<f then
(atI b (Wq (d+a))).bind λe=>
(atI b (Wq (c+a))).bind λg=>
(atI (List.set b (Int.toNat (Wq (c+a))) e) (Wq (d+a))).bind λh=>
some (.inl (Wq (a+1),List.set (List.set b (Int.toNat (Wq (c+a))) e) (Int.toNat (Wq (d+a))) g,()))
else
some (.inr b)
def ZC (a:List Zj) (b e c:Int) (d:Unit):Option (List Zj):=
Zn (λv=>Ye b e c v.1 v.2.1) ((0:Int),a,())
def ZAv:Ctr:=⟨[.back (.ol 49 (.flat (Yr))),.dat Iq,.dat Iq,.dat Iq,.dat (.fn 35 (.unit))],[],λa K=>Zv a λb a=>Zv a λd a=>Zv a λf a=>Zv a λe a=>Zv a λc a=>YX (ZC b d f e c) λr=>K () (r,())⟩
def YP (c a b:Int) (e:List Zj):Option ((Int×Int×(List Zj)×Unit) ⊕ List Zj):=
if a=b then
(ZC e (Wq (c-a)) c a ()).bind λd=>
some (.inr d)
else
if b<a then
(ZC e (Wq (c-a)) c b ()).bind λd=>
some (.inl (Wq (a-b),b,d,()))
else
(ZC e (Wq (c-a)) (Wq (Wq (c+b)-a)) a ()).bind λd=>
some (.inl (a,Wq (b-a),d,()))
def ZB (a:List Zj) (c b e:Int) (d:Unit):Option (List Zj):=
Zn (λv=>YP b v.1 v.2.1 v.2.2.1) (Wq (b-c),Wq (e-b),a,())
def c182:Ctr:=⟨[.back (.ol 49 (.flat (Yr))),.dat Iq,.dat Iq,.dat Iq,.dat (.fn 35 (.unit))],[],λa K=>Zv a λb a=>Zv a λd a=>Zv a λe a=>Zv a λf a=>Zv a λc a=>YX (ZB b d e f c) λr=>K () (r,())⟩
def Zz (e a:Int) (b:List Zj):Option ((Int×(List Zj)×Unit) ⊕ ((Int×Int×Unit) ⊕ List Zj)):=
if a<Wq (e-1) then
(atI b (Wq (a+1))).bind λc=>
(atI b a).bind λd=>
(atI (List.set b (Int.toNat a) c) (Wq (a+1))).bind λf=>
some (.inl (Wq (a+1),List.set (List.set b (Int.toNat a) c) (Int.toNat (Wq (a+1))) d,()))
else
some (.inr (.inr b))
def Zw (c:List Zj) (d a b:Int):Option ((Int×Int×Unit) ⊕ List Zj):=
if a<b then
(atI c (Wq (Int.fdiv (IntKind.wrap IntKind.u64 (Wq (a+b))) (2 ^ Min.min (Int.toNat 1) (IntKind.bits IntKind.u64))))).bind λf=>
(atI c d).bind λe=>
(Xx f e).bind λg=>
if g<0 then
some (.inl (Wq (Wq (Int.fdiv (IntKind.wrap IntKind.u64 (Wq (a+b))) (2 ^ Min.min (Int.toNat 1) (IntKind.bits IntKind.u64)))+1),b,()))
else
some (.inl (a,Wq (Int.fdiv (IntKind.wrap IntKind.u64 (Wq (a+b))) (2 ^ Min.min (Int.toNat 1) (IntKind.bits IntKind.u64))),()))
else
Zn (λv=>Zz a v.1 v.2.1) (d,c,())
def ZA (e a:Int) (b:List Zj):Option ((Int×(List Zj)×Unit) ⊕ ((Int×Int×Unit) ⊕ List Zj)):=
if e<a then
(atI b (Wq (a-1))).bind λc=>
(atI b a).bind λd=>
(atI (List.set b (Int.toNat a) c) (Wq (a-1))).bind λf=>
some (.inl (Wq (a-1),List.set (List.set b (Int.toNat a) c) (Int.toNat (Wq (a-1))) d,()))
else
some (.inr (.inr b))
def Zx (c:List Zj) (d a b:Int):Option ((Int×Int×Unit) ⊕ List Zj):=
if a<b then
(atI c d).bind λf=>
(atI c (Wq (Int.fdiv (IntKind.wrap IntKind.u64 (Wq (a+b))) (2 ^ Min.min (Int.toNat 1) (IntKind.bits IntKind.u64))))).bind λe=>
(Xx f e).bind λg=>
if g<0 then
some (.inl (a,Wq (Int.fdiv (IntKind.wrap IntKind.u64 (Wq (a+b))) (2 ^ Min.min (Int.toNat 1) (IntKind.bits IntKind.u64))),()))
else
some (.inl (Wq (Wq (Int.fdiv (IntKind.wrap IntKind.u64 (Wq (a+b))) (2 ^ Min.min (Int.toNat 1) (IntKind.bits IntKind.u64)))+1),b,()))
else
Zn (λv=>ZA a v.1 v.2.1) (d,c,())
def Zk (g:List Zj) (b d a:Int) (e:List Zj->Int->Int->Int->Unit->Option (List Zj)) (c i:Int):Option ((Int×Int×Unit) ⊕ List Zj):=
if c<i then
(atI g (Wq (Wq (Wq (Wq (Int.fdiv (IntKind.wrap IntKind.u64 (Wq (b+a))) (2 ^ Min.min (Int.toNat 1) (IntKind.bits IntKind.u64)))+d)-1)-Wq (Int.fdiv (IntKind.wrap IntKind.u64 (Wq (c+i))) (2 ^ Min.min (Int.toNat 1) (IntKind.bits IntKind.u64)))))).bind λk=>
(atI g (Wq (Int.fdiv (IntKind.wrap IntKind.u64 (Wq (c+i))) (2 ^ Min.min (Int.toNat 1) (IntKind.bits IntKind.u64))))).bind λl=>
(Xx k l).bind λh=>
if h<0 then
some (.inl (c,Wq (Int.fdiv (IntKind.wrap IntKind.u64 (Wq (c+i))) (2 ^ Min.min (Int.toNat 1) (IntKind.bits IntKind.u64))),()))
else
some (.inl (Wq (Wq (Int.fdiv (IntKind.wrap IntKind.u64 (Wq (c+i))) (2 ^ Min.min (Int.toNat 1) (IntKind.bits IntKind.u64)))+1),i,()))
else
if c<d then
if d<Wq (Wq (Wq (Int.fdiv (IntKind.wrap IntKind.u64 (Wq (b+a))) (2 ^ Min.min (Int.toNat 1) (IntKind.bits IntKind.u64)))+d)-c) then
(ZB g c d (Wq (Wq (Wq (Int.fdiv (IntKind.wrap IntKind.u64 (Wq (b+a))) (2 ^ Min.min (Int.toNat 1) (IntKind.bits IntKind.u64)))+d)-c)) ()).bind λh=>
if b<c then
if c<Wq (Int.fdiv (IntKind.wrap IntKind.u64 (Wq (b+a))) (2 ^ Min.min (Int.toNat 1) (IntKind.bits IntKind.u64))) then
(e h b c (Wq (Int.fdiv (IntKind.wrap IntKind.u64 (Wq (b+a))) (2 ^ Min.min (Int.toNat 1) (IntKind.bits IntKind.u64)))) ()).bind λf=>
if Wq (Int.fdiv (IntKind.wrap IntKind.u64 (Wq (b+a))) (2 ^ Min.min (Int.toNat 1) (IntKind.bits IntKind.u64)))<Wq (Wq (Wq (Int.fdiv (IntKind.wrap IntKind.u64 (Wq (b+a))) (2 ^ Min.min (Int.toNat 1) (IntKind.bits IntKind.u64)))+d)-c) then
if Wq (Wq (Wq (Int.fdiv (IntKind.wrap IntKind.u64 (Wq (b+a))) (2 ^ Min.min (Int.toNat 1) (IntKind.bits IntKind.u64)))+d)-c)<a then
(e f (Wq (Int.fdiv (IntKind.wrap IntKind.u64 (Wq (b+a))) (2 ^ Min.min (Int.toNat 1) (IntKind.bits IntKind.u64)))) (Wq (Wq (Wq (Int.fdiv (IntKind.wrap IntKind.u64 (Wq (b+a))) (2 ^ Min.min (Int.toNat 1) (IntKind.bits IntKind.u64)))+d)-c)) a ()).bind λj=>
some (.inr j)
else
some (.inr f)
else
some (.inr f)
else
if Wq (Int.fdiv (IntKind.wrap IntKind.u64 (Wq (b+a))) (2 ^ Min.min (Int.toNat 1) (IntKind.bits IntKind.u64)))<Wq (Wq (Wq (Int.fdiv (IntKind.wrap IntKind.u64 (Wq (b+a))) (2 ^ Min.min (Int.toNat 1) (IntKind.bits IntKind.u64)))+d)-c) then
if Wq (Wq (Wq (Int.fdiv (IntKind.wrap IntKind.u64 (Wq (b+a))) (2 ^ Min.min (Int.toNat 1) (IntKind.bits IntKind.u64)))+d)-c)<a then
(e h (Wq (Int.fdiv (IntKind.wrap IntKind.u64 (Wq (b+a))) (2 ^ Min.min (Int.toNat 1) (IntKind.bits IntKind.u64)))) (Wq (Wq (Wq (Int.fdiv (IntKind.wrap IntKind.u64 (Wq (b+a))) (2 ^ Min.min (Int.toNat 1) (IntKind.bits IntKind.u64)))+d)-c)) a ()).bind λf=>
some (.inr f)
else
some (.inr h)
else
some (.inr h)
else
if Wq (Int.fdiv (IntKind.wrap IntKind.u64 (Wq (b+a))) (2 ^ Min.min (Int.toNat 1) (IntKind.bits IntKind.u64)))<Wq (Wq (Wq (Int.fdiv (IntKind.wrap IntKind.u64 (Wq (b+a))) (2 ^ Min.min (Int.toNat 1) (IntKind.bits IntKind.u64)))+d)-c) then
if Wq (Wq (Wq (Int.fdiv (IntKind.wrap IntKind.u64 (Wq (b+a))) (2 ^ Min.min (Int.toNat 1) (IntKind.bits IntKind.u64)))+d)-c)<a then
(e h (Wq (Int.fdiv (IntKind.wrap IntKind.u64 (Wq (b+a))) (2 ^ Min.min (Int.toNat 1) (IntKind.bits IntKind.u64)))) (Wq (Wq (Wq (Int.fdiv (IntKind.wrap IntKind.u64 (Wq (b+a))) (2 ^ Min.min (Int.toNat 1) (IntKind.bits IntKind.u64)))+d)-c)) a ()).bind λf=>
some (.inr f)
else
some (.inr h)
else
some (.inr h)
else
if b<c then
if c<Wq (Int.fdiv (IntKind.wrap IntKind.u64 (Wq (b+a))) (2 ^ Min.min (Int.toNat 1) (IntKind.bits IntKind.u64))) then
(e g b c (Wq (Int.fdiv (IntKind.wrap IntKind.u64 (Wq (b+a))) (2 ^ Min.min (Int.toNat 1) (IntKind.bits IntKind.u64)))) ()).bind λf=>
if Wq (Int.fdiv (IntKind.wrap IntKind.u64 (Wq (b+a))) (2 ^ Min.min (Int.toNat 1) (IntKind.bits IntKind.u64)))<Wq (Wq (Wq (Int.fdiv (IntKind.wrap IntKind.u64 (Wq (b+a))) (2 ^ Min.min (Int.toNat 1) (IntKind.bits IntKind.u64)))+d)-c) then
if Wq (Wq (Wq (Int.fdiv (IntKind.wrap IntKind.u64 (Wq (b+a))) (2 ^ Min.min (Int.toNat 1) (IntKind.bits IntKind.u64)))+d)-c)<a then
(e f (Wq (Int.fdiv (IntKind.wrap IntKind.u64 (Wq (b+a))) (2 ^ Min.min (Int.toNat 1) (IntKind.bits IntKind.u64)))) (Wq (Wq (Wq (Int.fdiv (IntKind.wrap IntKind.u64 (Wq (b+a))) (2 ^ Min.min (Int.toNat 1) (IntKind.bits IntKind.u64)))+d)-c)) a ()).bind λj=>
some (.inr j)
else
some (.inr f)
else
some (.inr f)
else
if Wq (Int.fdiv (IntKind.wrap IntKind.u64 (Wq (b+a))) (2 ^ Min.min (Int.toNat 1) (IntKind.bits IntKind.u64)))<Wq (Wq (Wq (Int.fdiv (IntKind.wrap IntKind.u64 (Wq (b+a))) (2 ^ Min.min (Int.toNat 1) (IntKind.bits IntKind.u64)))+d)-c) then
if Wq (Wq (Wq (Int.fdiv (IntKind.wrap IntKind.u64 (Wq (b+a))) (2 ^ Min.min (Int.toNat 1) (IntKind.bits IntKind.u64)))+d)-c)<a then
(e g (Wq (Int.fdiv (IntKind.wrap IntKind.u64 (Wq (b+a))) (2 ^ Min.min (Int.toNat 1) (IntKind.bits IntKind.u64)))) (Wq (Wq (Wq (Int.fdiv (IntKind.wrap IntKind.u64 (Wq (b+a))) (2 ^ Min.min (Int.toNat 1) (IntKind.bits IntKind.u64)))+d)-c)) a ()).bind λf=>
some (.inr f)
else
some (.inr g)
else
some (.inr g)
else
if Wq (Int.fdiv (IntKind.wrap IntKind.u64 (Wq (b+a))) (2 ^ Min.min (Int.toNat 1) (IntKind.bits IntKind.u64)))<Wq (Wq (Wq (Int.fdiv (IntKind.wrap IntKind.u64 (Wq (b+a))) (2 ^ Min.min (Int.toNat 1) (IntKind.bits IntKind.u64)))+d)-c) then
if Wq (Wq (Wq (Int.fdiv (IntKind.wrap IntKind.u64 (Wq (b+a))) (2 ^ Min.min (Int.toNat 1) (IntKind.bits IntKind.u64)))+d)-c)<a then
(e g (Wq (Int.fdiv (IntKind.wrap IntKind.u64 (Wq (b+a))) (2 ^ Min.min (Int.toNat 1) (IntKind.bits IntKind.u64)))) (Wq (Wq (Wq (Int.fdiv (IntKind.wrap IntKind.u64 (Wq (b+a))) (2 ^ Min.min (Int.toNat 1) (IntKind.bits IntKind.u64)))+d)-c)) a ()).bind λf=>
some (.inr f)
else
some (.inr g)
else
some (.inr g)
else
if b<c then
if c<Wq (Int.fdiv (IntKind.wrap IntKind.u64 (Wq (b+a))) (2 ^ Min.min (Int.toNat 1) (IntKind.bits IntKind.u64))) then
(e g b c (Wq (Int.fdiv (IntKind.wrap IntKind.u64 (Wq (b+a))) (2 ^ Min.min (Int.toNat 1) (IntKind.bits IntKind.u64)))) ()).bind λf=>
if Wq (Int.fdiv (IntKind.wrap IntKind.u64 (Wq (b+a))) (2 ^ Min.min (Int.toNat 1) (IntKind.bits IntKind.u64)))<Wq (Wq (Wq (Int.fdiv (IntKind.wrap IntKind.u64 (Wq (b+a))) (2 ^ Min.min (Int.toNat 1) (IntKind.bits IntKind.u64)))+d)-c) then
if Wq (Wq (Wq (Int.fdiv (IntKind.wrap IntKind.u64 (Wq (b+a))) (2 ^ Min.min (Int.toNat 1) (IntKind.bits IntKind.u64)))+d)-c)<a then
(e f (Wq (Int.fdiv (IntKind.wrap IntKind.u64 (Wq (b+a))) (2 ^ Min.min (Int.toNat 1) (IntKind.bits IntKind.u64)))) (Wq (Wq (Wq (Int.fdiv (IntKind.wrap IntKind.u64 (Wq (b+a))) (2 ^ Min.min (Int.toNat 1) (IntKind.bits IntKind.u64)))+d)-c)) a ()).bind λj=>
some (.inr j)
else
some (.inr f)
else
some (.inr f)
else
if Wq (Int.fdiv (IntKind.wrap IntKind.u64 (Wq (b+a))) (2 ^ Min.min (Int.toNat 1) (IntKind.bits IntKind.u64)))<Wq (Wq (Wq (Int.fdiv (IntKind.wrap IntKind.u64 (Wq (b+a))) (2 ^ Min.min (Int.toNat 1) (IntKind.bits IntKind.u64)))+d)-c) then
if Wq (Wq (Wq (Int.fdiv (IntKind.wrap IntKind.u64 (Wq (b+a))) (2 ^ Min.min (Int.toNat 1) (IntKind.bits IntKind.u64)))+d)-c)<a then
(e g (Wq (Int.fdiv (IntKind.wrap IntKind.u64 (Wq (b+a))) (2 ^ Min.min (Int.toNat 1) (IntKind.bits IntKind.u64)))) (Wq (Wq (Wq (Int.fdiv (IntKind.wrap IntKind.u64 (Wq (b+a))) (2 ^ Min.min (Int.toNat 1) (IntKind.bits IntKind.u64)))+d)-c)) a ()).bind λf=>
some (.inr f)
else
some (.inr g)
else
some (.inr g)
else
if Wq (Int.fdiv (IntKind.wrap IntKind.u64 (Wq (b+a))) (2 ^ Min.min (Int.toNat 1) (IntKind.bits IntKind.u64)))<Wq (Wq (Wq (Int.fdiv (IntKind.wrap IntKind.u64 (Wq (b+a))) (2 ^ Min.min (Int.toNat 1) (IntKind.bits IntKind.u64)))+d)-c) then
if Wq (Wq (Wq (Int.fdiv (IntKind.wrap IntKind.u64 (Wq (b+a))) (2 ^ Min.min (Int.toNat 1) (IntKind.bits IntKind.u64)))+d)-c)<a then
(e g (Wq (Int.fdiv (IntKind.wrap IntKind.u64 (Wq (b+a))) (2 ^ Min.min (Int.toNat 1) (IntKind.bits IntKind.u64)))) (Wq (Wq (Wq (Int.fdiv (IntKind.wrap IntKind.u64 (Wq (b+a))) (2 ^ Min.min (Int.toNat 1) (IntKind.bits IntKind.u64)))+d)-c)) a ()).bind λf=>
some (.inr f)
else
some (.inr g)
else
some (.inr g)
def Zp (d:(List Zj)->Int->Int->Int->Unit->Option (List Zj)) (e:List Zj) (b a c:Int) (f:Unit):Option (List Zj):=
if Wq (a-b)=1 then
Zn (λv=>Zw e b v.1 v.2.1) (a,c,())
else
if Wq (c-a)=1 then
Zn (λv=>Zx e a v.1 v.2.1) (b,a,())
else
if Wq (Int.fdiv (IntKind.wrap IntKind.u64 (Wq (b+c))) (2 ^ Min.min (Int.toNat 1) (IntKind.bits IntKind.u64)))<a then
Zn (λv=>Zk e b a c d v.1 v.2.1) (Wq (Wq (Wq (Int.fdiv (IntKind.wrap IntKind.u64 (Wq (b+c))) ((2:Int) ^ Min.min (Int.toNat (1:Int)) (IntKind.bits IntKind.u64)))+a)-c),Wq (Int.fdiv (IntKind.wrap IntKind.u64 (Wq (b+c))) ((2:Int) ^ Min.min (Int.toNat (1:Int)) (IntKind.bits IntKind.u64))),())
else
Zn (λv=>Zk e b a c d v.1 v.2.1) (b,a,())
def Zl:Nat->(List Zj)->Int->Int->Int->Unit->Option (List Zj)
| 0=>λ_ _ _ _ _=>none
| n+1=>Zp (Zl n)
def ZF (a:List Zj) (e d b:Int) (c:Unit):Option (List Zj):=Zxi (λn=>Zl n a e d b c)
def ZW (b:(List Zj)->Int->Int->Int->Unit->Option (List Zj)):Ctr:=⟨[.back (.ol 49 (.flat (Yr))),.dat Iq,.dat Iq,.dat Iq,.dat (.fn 35 (.unit))],[],λa K=>Zv a λc a=>Zv a λf a=>Zv a λe a=>Zv a λd a=>Zv a λg a=>YX (b c f e d g) λr=>K () (r,())⟩
def c183:Ctr:=ZW ZF
def ZU (d a b c:Int) (e:List Zj):Option ((Int×Int×(List Zj)×Unit) ⊕ ((Int×(List Zj)×Unit) ⊕ ((Int×Int×(List Zj)×Unit) ⊕ List Zj))):=
if c<=d then
(ZF e b (Wq (b+a)) c ()).bind λf=>
some (.inl (c,Wq (c+Wq (2*a)),f,()))
else
if Wq (b+a)<d then
(ZF e b (Wq (b+a)) d ()).bind λf=>
some (.inr (.inl (Wq (a*2),f,())))
else
some (.inr (.inl (Wq (a*2),e,())))
def ZV (c a:Int) (b:List Zj):Option ((Int×(List Zj)×Unit) ⊕ ((Int×Int×(List Zj)×Unit) ⊕ List Zj)):=
if a<c then
Zn (λv=>ZU c a v.1 v.2.1 v.2.2.1) ((0:Int),Wq ((2:Int)*a),b,())
else
some (.inr (.inr b))
def Yk (b d a:Int) (e:List Zj):Option ((Int×Int×(List Zj)×Unit) ⊕ List Zj):=
if a<=b then
(ZI e d a ()).bind λc=>
some (.inl (a,Wq (a+20),c,()))
else
(ZI e d b ()).bind λc=>
Zn (λv=>ZV b v.1 v.2.1) ((20:Int),c,())
def Yv (a:List Zj) (b:Int) (c:Unit):Option (List Zj):=
Zn (λv=>Yk b v.1 v.2.1 v.2.2.1) ((0:Int),(20:Int),a,())
def ZAw:Ctr:=⟨[.back (.ol 49 (.flat (Yr))),.dat Iq,.dat (.fn 35 (.unit))],[],λa K=>Zv a λb a=>Zv a λd a=>Zv a λc a=>YX (Yv b d c) λr=>K () (r,())⟩
def ZM (a:List Zj) (b:Unit):Option (List Zj):=
(Yv a (a.length:Int) ()).bind λc=>
some c
def ZAx:Ctr:=⟨[.back (.ol 49 (.flat (Yr))),.dat (.fn 35 (.unit))],[],λa K=>Zv a λc a=>Zv a λb a=>YX (ZM c b) λr=>K () (r,())⟩
def Vq (a:List Zj):Option Int:=
some (a.length:Int)
def ZAy:Ctr:=D1 (.sl (Yr)) Iq Vq
def QV (a:Int) (b:List Int×List Int) (c:List Zj) (d:Int):Option (((List Zj)×Int×Unit) ⊕ ((List Zj)×Int)):=
if d<(b.2.length:Int) then
(atI b.2 d).bind λg=>
Zu ((c.length+[(d,g,())].length)*16<=140737488355328)<|
some (.inl (c++[(d,g,())],Wq (d+1),()))
else
(ZM c ()).bind λe=>
(Vq e).bind λf=>
Zu ((0:Int)<=Min.min a f)<|
Zu (Min.min a f<=(e.length:Int))<|
some (.inr (List.take (Int.toNat (Min.min a f)-Int.toNat 0) (List.drop (Int.toNat 0) e),0))
def ZaY (d:Ze) (b:List Zg) (a:Int):Option ((List Zj)×Int):=
(VW d (([]:List Int))).bind λe=>
if e.2=0 then
(YN a 0 30).bind λg=>
if g then
(ZcZ d b (([]:List Int))).bind λc=>
if c.2=0 then
(c.1).bind λf=>
(V8 f).bind λh=>
Zn (λv=>QV a h v.1 v.2.1) (([]:List Zj),(0:Int),())
else
some ([],c.2)
else
some ([],2)
else
some ([],e.2)
def ZAz:Ctr:=⟨[.dat (Yz),.dat (.sl (Zy)),.dat Iq],[.own (.ol 49 (.flat (Yr))),.dat Iq],λa K=>Zv a λd a=>Zv a λc a=>Zv a λb a=>YX (ZaY d c b) λr=>K (r.1,r.2,()) ()⟩
def JN (a b:Zj):Option Bool:=
if Zj.Net a=Zj.Net b then
if Zj.Power a=Zj.Power b then
some true
else
some false
else
some false
def ZAA:Ctr:=D2 (Yr) (Yr) (.bool) JN
def ZgG (b e:List Zj) (a:Int):Option ((Int×Unit) ⊕ Bool):=
if a<(b.length:Int) then
(atI b a).bind λd=>
(atI e a).bind λc=>
(JN d c).bind λf=>
if f then
some (.inl (Wq (a+1),()))
else
some (.inr false)
else
some (.inr true)
def Za3 (a b:List Zj):Option Bool:=
if (a.length:Int)=(b.length:Int) then
Zn (λv=>ZgG a b v.1) ((0:Int),())
else
some false
def ZAB:Ctr:=D2 (.sl (Yr)) (.sl (Yr)) (.bool) Za3
def Zff (a b:YG):Option Bool:=
if YG.Name a=YG.Name b then
if YG.Dir a=YG.Dir b then
if YG.Cap a=YG.Cap b then
if (YG.Clock a == YG.Clock b)=true then
some true
else
some false
else
some false
else
some false
else
some false
def ZAC:Ctr:=D2 (Zdh) (Zdh) (.bool) Zff
def Zj6 (b e:List YG) (a:Int):Option ((Int×Unit) ⊕ Bool):=
if a<(b.length:Int) then
(atI b a).bind λd=>
(atI e a).bind λc=>
(Zff d c).bind λf=>
if f then
some (.inl (Wq (a+1),()))
else
some (.inr false)
else
some (.inr true)
def ZfE (a b:List YG):Option Bool:=
if (a.length:Int)=(b.length:Int) then
Zn (λv=>Zj6 a b v.1) ((0:Int),())
else
some false
def ZAD:Ctr:=D2 (.sl (Zdh)) (.sl (Zdh)) (.bool) ZfE
def Zit (b e:List Int) (a:Int):Option ((Int×Unit) ⊕ Bool):=
if a<(b.length:Int) then
(atI b a).bind λd=>
(atI e a).bind λc=>
if d=c then
some (.inl (Wq (a+1),()))
else
some (.inr false)
else
some (.inr true)
def Xr (a b:List Int):Option Bool:=
if (a.length:Int)=(b.length:Int) then
Zn (λv=>Zit a b v.1) ((0:Int),())
else
some false
def Zx9:Ctr:=D2 (.sl Iq) (.sl Iq) (.bool) Xr
def Zdp (a b:ZE):Option Bool:=
(Xr (ZE.ZhJ a) (ZE.ZhJ b)).bind λc=>
if c then
(Xr (ZE.Loads a) (ZE.Loads b)).bind λd=>
if d then
(Xr (ZE.Values a) (ZE.Values b)).bind λe=>
if e then
some true
else
some false
else
some false
else
some false
def c193:Ctr:=D2 (YV) (YV) (.bool) Zdp
def Ziv (b e:List ZE) (a:Int):Option ((Int×Unit) ⊕ Bool):=
if a<(b.length:Int) then
(atI b a).bind λd=>
(atI e a).bind λc=>
(Zdp d c).bind λf=>
if f then
some (.inl (Wq (a+1),()))
else
some (.inr false)
else
some (.inr true)
def Zb5 (a b:List ZE):Option Bool:=
if (a.length:Int)=(b.length:Int) then
Zn (λv=>Ziv a b v.1) ((0:Int),())
else
some false
def c194:Ctr:=D2 (.sl (YV)) (.sl (YV)) (.bool) Zb5
def Zfe (a b:ZQ):Option Bool:=
if ZQ.Kind a=ZQ.Kind b then
if ZQ.From a=ZQ.From b then
if ZQ.To a=ZQ.To b then
if ZQ.Zcu a=ZQ.Zcu b then
(Zb5 (ZQ.Delay a) (ZQ.Delay b)).bind λd=>
if d then
(Zb5 (ZQ.ZiV a) (ZQ.ZiV b)).bind λc=>
if c then
some true
else
some false
else
some false
else
some false
else
some false
else
some false
else
some false
def ZAE:Ctr:=D2 (ZdW) (ZdW) (.bool) Zfe
def Zj4 (b e:List ZQ) (a:Int):Option ((Int×Unit) ⊕ Bool):=
if a<(b.length:Int) then
(atI b a).bind λd=>
(atI e a).bind λc=>
(Zfe d c).bind λf=>
if f then
some (.inl (Wq (a+1),()))
else
some (.inr false)
else
some (.inr true)
def ZfD (a b:List ZQ):Option Bool:=
if (a.length:Int)=(b.length:Int) then
Zn (λv=>Zj4 a b v.1) ((0:Int),())
else
some false
def c196:Ctr:=D2 (.sl (ZdW)) (.sl (ZdW)) (.bool) ZfD
def Zea (a b:Zm):Option Bool:=
if Zm.Name a=Zm.Name b then
if Zm.Kind a=Zm.Kind b then
(ZfE (Zm.YR a) (Zm.YR b)).bind λc=>
if c then
(ZfD (Zm.ZaN a) (Zm.ZaN b)).bind λd=>
if d then
(Xr (Zm.Truth a) (Zm.Truth b)).bind λe=>
if e then
if Zm.ZuT a=Zm.ZuT b then
if Zm.ZhS a=Zm.ZhS b then
some true
else
some false
else
some false
else
some false
else
some false
else
some false
else
some false
else
some false
def ZAF:Ctr:=D2 (Qk) (Qk) (.bool) Zea
def Zjd (b e:List Zm) (a:Int):Option ((Int×Unit) ⊕ Bool):=
if a<(b.length:Int) then
(atI b a).bind λd=>
(atI e a).bind λc=>
(Zea d c).bind λf=>
if f then
some (.inl (Wq (a+1),()))
else
some (.inr false)
else
some (.inr true)
def ZeB (a b:List Zm):Option Bool:=
if (a.length:Int)=(b.length:Int) then
Zn (λv=>Zjd a b v.1) ((0:Int),())
else
some false
def c198:Ctr:=D2 (.sl (Qk)) (.sl (Qk)) (.bool) ZeB
def Zc0 (a b:Zt):Option Bool:=
(ZeB (Zt.Cells a) (Zt.Cells b)).bind λc=>
if c then
some true
else
some false
def ZAH:Ctr:=D2 (YL) (YL) (.bool) Zc0
def JM (a b:Zd):Option Bool:=
if Zd.Name a=Zd.Name b then
if Zd.Cell a=Zd.Cell b then
(Xr (Zd.YK a) (Zd.YK b)).bind λc=>
if c then
some true
else
some false
else
some false
else
some false
def ZAI:Ctr:=D2 (Yg) (Yg) (.bool) JM
def ZgF (b e:List Zd) (a:Int):Option ((Int×Unit) ⊕ Bool):=
if a<(b.length:Int) then
(atI b a).bind λd=>
(atI e a).bind λc=>
(JM d c).bind λf=>
if f then
some (.inl (Wq (a+1),()))
else
some (.inr false)
else
some (.inr true)
def Za2 (a b:List Zd):Option Bool:=
if (a.length:Int)=(b.length:Int) then
Zn (λv=>ZgF a b v.1) ((0:Int),())
else
some false
def c201:Ctr:=D2 (.sl (Yg)) (.sl (Yg)) (.bool) Za2
def ZhN (b e:List (List UInt8)) (a:Int):Option ((Int×Unit) ⊕ Bool):=
if a<(b.length:Int) then
(atI b a).bind λd=>
(atI e a).bind λc=>
if d=c then
some (.inl (Wq (a+1),()))
else
some (.inr false)
else
some (.inr true)
def Zc1 (a b:List (List UInt8)):Option Bool:=
if (a.length:Int)=(b.length:Int) then
Zn (λv=>ZhN a b v.1) ((0:Int),())
else
some false
def ZAJ:Ctr:=D2 (.sl (.str)) (.sl (.str)) (.bool) Zc1
def Zeb (a b:Z8):Option Bool:=
if Z8.Name a=Z8.Name b then
if Z8.Dir a=Z8.Dir b then
if Z8.Net a=Z8.Net b then
some true
else
some false
else
some false
else
some false
def c203:Ctr:=D2 (VQ) (VQ) (.bool) Zeb
def Zjh (b e:List Z8) (a:Int):Option ((Int×Unit) ⊕ Bool):=
if a<(b.length:Int) then
(atI b a).bind λd=>
(atI e a).bind λc=>
(Zeb d c).bind λf=>
if f then
some (.inl (Wq (a+1),()))
else
some (.inr false)
else
some (.inr true)
def ZeC (a b:List Z8):Option Bool:=
if (a.length:Int)=(b.length:Int) then
Zn (λv=>Zjh a b v.1) ((0:Int),())
else
some false
def ZAK:Ctr:=D2 (.sl (VQ)) (.sl (VQ)) (.bool) ZeC
def ZdH (a b:Zc):Option Bool:=
(Za2 (Zc.Instances a) (Zc.Instances b)).bind λc=>
if c then
(Zc1 (Zc.YK a) (Zc.YK b)).bind λd=>
if d then
(ZeC (Zc.Xi a) (Zc.Xi b)).bind λe=>
if e then
some true
else
some false
else
some false
else
some false
def ZAL:Ctr:=D2 (YJ) (YJ) (.bool) ZdH
def Zec (a b:ZJ):Option Bool:=
(Xr (ZJ.Parent a) (ZJ.Parent b)).bind λd=>
if d then
(Xr (ZJ.Res a) (ZJ.Res b)).bind λe=>
if e then
(Xr (ZJ.Cap a) (ZJ.Cap b)).bind λf=>
if f then
(Xr (ZJ.Zkx a) (ZJ.Zkx b)).bind λc=>
if c then
some true
else
some false
else
some false
else
some false
else
some false
def c206:Ctr:=D2 (Vu) (Vu) (.bool) Zec
def Zji (b e:List ZJ) (a:Int):Option ((Int×Unit) ⊕ Bool):=
if a<(b.length:Int) then
(atI b a).bind λd=>
(atI e a).bind λc=>
(Zec d c).bind λf=>
if f then
some (.inl (Wq (a+1),()))
else
some (.inr false)
else
some (.inr true)
def ZeD (a b:List ZJ):Option Bool:=
if (a.length:Int)=(b.length:Int) then
Zn (λv=>Zji a b v.1) ((0:Int),())
else
some false
def ZAM:Ctr:=D2 (.sl (Vu)) (.sl (Vu)) (.bool) ZeD
def ZeA (a b:Ze):Option Bool:=
(Zc0 (Ze.Library a) (Ze.Library b)).bind λc=>
if c then
(ZdH (Ze.Design a) (Ze.Design b)).bind λd=>
if d then
(ZeD (Ze.QZ a) (Ze.QZ b)).bind λe=>
if e then
some true
else
some false
else
some false
else
some false
def c208:Ctr:=D2 (Yz) (Yz) (.bool) ZeA
def Zb4 (a b:ZH):Option Bool:=
if ZH.Num a=ZH.Num b then
if ZH.Den a=ZH.Den b then
some true
else
some false
else
some false
def ZAN:Ctr:=D2 (ZaU) (ZaU) (.bool) Zb4
def JL (a b:Zg):Option Bool:=
(Zb4 (Zg.High a) (Zg.High b)).bind λc=>
if c then
if Zg.Zaw a=Zg.Zaw b then
some true
else
some false
else
some false
def c210:Ctr:=D2 (Zy) (Zy) (.bool) JL
def ZgE (b e:List Zg) (a:Int):Option ((Int×Unit) ⊕ Bool):=
if a<(b.length:Int) then
(atI b a).bind λd=>
(atI e a).bind λc=>
(JL d c).bind λf=>
if f then
some (.inl (Wq (a+1),()))
else
some (.inr false)
else
some (.inr true)
def Za1 (a b:List Zg):Option Bool:=
if (a.length:Int)=(b.length:Int) then
Zn (λv=>ZgE a b v.1) ((0:Int),())
else
some false
def ZAO:Ctr:=D2 (.sl (Zy)) (.sl (Zy)) (.bool) Za1
def Zbk (b:Int) (a:List UInt8):Option ((Int×(List UInt8)×Unit) ⊕ List UInt8):=
if 0<b then
Zu ((((bytesOf [IntKind.wrap IntKind.u8 (Wq ((48:Int)+Int.tmod b (10:Int)))]).length):Int)+(a.length:Int)<=9223372036854775807)<|
some (.inl (Wq (Int.tdiv b (10:Int)),bytesOf [IntKind.wrap IntKind.u8 (Wq ((48:Int)+Int.tmod b (10:Int)))]++a,()))
else
Zu ((([(109:UInt8)].length):Int)+(a.length:Int)<=9223372036854775807)<|
some (.inr ([(109:UInt8)]++a))
def Vj (a:Int):Option (List UInt8):=
if a<=0 then
some ([(109:UInt8),48])
else
Zn (λv=>Zbk v.1 v.2.1) (a,([]:List UInt8),())
def c212:Ctr:=D1 Iq (.str) Vj
def Zbj (b a:Int) (c:List YG):Option ((Int×Int×(List YG)×Unit) ⊕ (Int×(List YG))):=
if a<(c.length:Int) then
(Vj b).bind λg=>
(atI c a).bind λf=>
(atI (List.set c (Int.toNat a) (g,f.2)) a).bind λe=>
(atI (List.set (List.set c (Int.toNat a) (g,f.2)) (Int.toNat a) (YG.Name e,Wq (b+1),e.2.2)) a).bind λd=>
(atI (List.set (List.set (List.set c (Int.toNat a) (g,f.2)) (Int.toNat a) (YG.Name e,Wq (b+1),e.2.2)) (Int.toNat a) (YG.Name d,YG.Dir d,Wq (Wq (b+1)+1),d.2.2.2)) a).bind λh=>
some (.inl (Wq (Wq (Wq (Wq (b+1)+1)+1)+1),Wq (a+1),List.set (List.set (List.set (List.set c (Int.toNat a) (g,f.2)) (Int.toNat a) (YG.Name e,Wq (b+1),e.2.2)) (Int.toNat a) (YG.Name d,YG.Dir d,Wq (Wq (b+1)+1),d.2.2.2)) (Int.toNat a) (YG.Name h,YG.Dir h,YG.Cap h,decide (Int.tmod (Wq (Wq (Wq (b+1)+1)+1)) 3=0),()),()))
else
some (.inr (b,c))
def ZdJ (a:List YG) (b:Int):Option (Int×(List YG)):=
Zn (λv=>Zbj v.1 v.2.1 v.2.2.1) (b,(0:Int),a,())
def c213:Ctr:=⟨[.back (.ol 241 (.flat (Zdh))),.dat Iq],[.dat Iq],λa K=>Zv a λb a=>Zv a λc a=>YX (ZdJ b c) λr=>K (r.1,()) (r.2,())⟩
def JO (c b:Int) (a:List Int):Option ((Int×Int×(List Int)×Unit) ⊕ (Int×(List Int))):=
if b<(a.length:Int) then
(atI a b).bind λd=>
some (.inl (Wq (c+1),Wq (b+1),List.set a (Int.toNat b) c,()))
else
some (.inr (c,a))
def YZ (a:List Int) (b:Int):Option (Int×(List Int)):=
Zn (λv=>JO v.1 v.2.1 v.2.2.1) (b,(0:Int),a,())
def Zya:Ctr:=⟨[.back (.ol 2 (.flat Iq)),.dat Iq],[.dat Iq],λa K=>Zv a λb a=>Zv a λc a=>YX (YZ b c) λr=>K (r.1,()) (r.2,())⟩
def JR (d a:Int) (b:List (List Int×List Int×List Int×Unit)):Option ((Int×Int×(List (List Int×List Int×List Int×Unit))×Unit) ⊕ (Int×(List ZE))):=
if a<(b.length:Int) then
(atI b a).bind λc=>
(YZ c.1 d).bind λe=>
(YZ c.2.1 e.1).bind λf=>
(YZ c.2.2.1 f.1).bind λg=>
some (.inl (g.1,Wq (a+1),List.set b (Int.toNat a) (e.2,f.2,g.2,()),()))
else
some (.inr (d,b))
def JQ (a:List ZE) (b:Int):Option (Int×(List ZE)):=
Zn (λv=>JR v.1 v.2.1 v.2.2.1) (b,(0:Int),a,())
def ZAP:Ctr:=⟨[.back (.ol 317 (Zf1)),.dat Iq],[.dat Iq],λa K=>Zv a λb a=>Zv a λc a=>YX (JQ b c) λr=>K (r.1,()) (r.2,())⟩
def Zbi (a b:Int) (c:List (Int×Int×Int×Int×List ZE×List ZE×Unit)):Option ((Int×Int×(List (Int×Int×Int×Int×List ZE×List ZE×Unit))×Unit) ⊕ (Int×(List ZQ))):=
if b<(c.length:Int) then
(atI c b).bind λe=>
(JQ e.2.2.2.2.1 (Wq (Wq (Wq (Wq (a+1)+1)+1)+1))).bind λd=>
(JQ e.2.2.2.2.2.1 d.1).bind λf=>
some (.inl (f.1,Wq (b+1),List.set c (Int.toNat b) (a,Wq (a+1),Wq (Wq (a+1)+1),Wq (Wq (Wq (a+1)+1)+1),d.2,f.2,()),()))
else
some (.inr (a,c))
def ZdI (a:List ZQ) (b:Int):Option (Int×(List ZQ)):=
Zn (λv=>Zbi v.1 v.2.1 v.2.2.1) (b,(0:Int),a,())
def ZAQ:Ctr:=⟨[.back (.ol 274 (ZuV)),.dat Iq],[.dat Iq],λa K=>Zv a λb a=>Zv a λc a=>YX (ZdI b c) λr=>K (r.1,()) (r.2,())⟩
def ZaA (b d:Int) (c:List (List UInt8×Int×List YG×List ZQ×List Int×Int×Int×Unit)):Option ((Int×Int×(List (List UInt8×Int×List YG×List ZQ×List Int×Int×Int×Unit))×Unit) ⊕ (Int×(List Zm))):=
if d<(c.length:Int) then
(Vj b).bind λh=>
(atI c d).bind λe=>
(ZdJ e.2.2.1 (Wq (Wq (b+1)+1))).bind λf=>
(ZdI e.2.2.2.1 f.1).bind λg=>
(YZ e.2.2.2.2.1 g.1).bind λa=>
some (.inl (Wq (Wq (a.1+1)+1),Wq (d+1),List.set c (Int.toNat d) (h,Wq (b+1),f.2,g.2,a.2,a.1,Wq (a.1+1),()),()))
else
some (.inr (b,c))
def Zc3 (a:List Zm) (b:Int):Option (Int×(List Zm)):=
Zn (λv=>ZaA v.1 v.2.1 v.2.2.1) (b,(0:Int),a,())
def ZAR:Ctr:=⟨[.back (.ol 139 (Zod)),.dat Iq],[.dat Iq],λa K=>Zv a λb a=>Zv a λc a=>YX (Zc3 b c) λr=>K (r.1,()) (r.2,())⟩
def Za4 (b:Zt) (c:Int):Option (Int×Zt):=
(Zc3 (Zt.Cells b) c).bind λa=>
some (a.1,(a.2,()))
def c218:Ctr:=⟨[.back (Zoe),.dat Iq],[.dat Iq],λa K=>Zv a λb a=>Zv a λc a=>YX (Za4 b c) λr=>K (r.1,()) (r.2,())⟩
def VO (a b:Int) (c:List (List UInt8×Int×List Int×Unit)):Option ((Int×Int×(List (List UInt8×Int×List Int×Unit))×Unit) ⊕ (Int×(List Zd))):=
if b<(c.length:Int) then
(Vj a).bind λe=>
(atI c b).bind λf=>
(YZ f.2.2.1 (Wq (Wq (a+1)+1))).bind λd=>
some (.inl (d.1,Wq (b+1),List.set c (Int.toNat b) (e,Wq (a+1),d.2,()),()))
else
some (.inr (a,c))
def JE (a:List Zd) (b:Int):Option (Int×(List Zd)):=
Zn (λv=>VO v.1 v.2.1 v.2.2.1) (b,(0:Int),a,())
def ZAS:Ctr:=⟨[.back (.ol 82 (ZbQ)),.dat Iq],[.dat Iq],λa K=>Zv a λb a=>Zv a λc a=>YX (JE b c) λr=>K (r.1,()) (r.2,())⟩
def Jy (c b:Int) (a:List (List UInt8)):Option ((Int×Int×(List (List UInt8))×Unit) ⊕ (Int×(List (List UInt8)))):=
if b<(a.length:Int) then
(Vj c).bind λd=>
(atI a b).bind λe=>
some (.inl (Wq (c+1),Wq (b+1),List.set a (Int.toNat b) d,()))
else
some (.inr (c,a))
def Za5 (a:List (List UInt8)) (b:Int):Option (Int×(List (List UInt8))):=
Zn (λv=>Jy v.1 v.2.1 v.2.2.1) (b,(0:Int),a,())
def ZAT:Ctr:=⟨[.back (.ol 9 (.flat (.str))),.dat Iq],[.dat Iq],λa K=>Zv a λb a=>Zv a λc a=>YX (Za5 b c) λr=>K (r.1,()) (r.2,())⟩
def ZaB (b a:Int) (c:List Z8):Option ((Int×Int×(List Z8)×Unit) ⊕ (Int×(List Z8))):=
if a<(c.length:Int) then
(Vj b).bind λf=>
(atI c a).bind λe=>
(atI (List.set c (Int.toNat a) (f,e.2)) a).bind λd=>
(atI (List.set (List.set c (Int.toNat a) (f,e.2)) (Int.toNat a) (Z8.Name d,Wq (b+1),d.2.2)) a).bind λg=>
some (.inl (Wq (Wq (Wq (b+1)+1)+1),Wq (a+1),List.set (List.set (List.set c (Int.toNat a) (f,e.2)) (Int.toNat a) (Z8.Name d,Wq (b+1),d.2.2)) (Int.toNat a) (Z8.Name g,Z8.Dir g,Wq (Wq (b+1)+1),()),()))
else
some (.inr (b,c))
def Zc4 (a:List Z8) (b:Int):Option (Int×(List Z8)):=
Zn (λv=>ZaB v.1 v.2.1 v.2.2.1) (b,(0:Int),a,())
def ZAU:Ctr:=⟨[.back (.ol 221 (.flat (VQ))),.dat Iq],[.dat Iq],λa K=>Zv a λb a=>Zv a λc a=>YX (Zc4 b c) λr=>K (r.1,()) (r.2,())⟩
def Zb7 (a:Zc) (e:Int):Option (Int×Zc):=
(JE (Zc.Instances a) e).bind λb=>
(Za5 (Zc.YK a) b.1).bind λc=>
(Zc4 (Zc.Xi a) c.1).bind λd=>
some (d.1,(b.2,c.2,d.2,()))
def c222:Ctr:=⟨[.back (Zqd),.dat Iq],[.dat Iq],λa K=>Zv a λb a=>Zv a λc a=>YX (Zb7 b c) λr=>K (r.1,()) (r.2,())⟩
def ZaC (e c:Int) (b:List (List Int×List Int×List Int×List Int×Unit)):Option ((Int×Int×(List (List Int×List Int×List Int×List Int×Unit))×Unit) ⊕ (Int×(List ZJ))):=
if c<(b.length:Int) then
(atI b c).bind λa=>
(YZ a.1 e).bind λh=>
(YZ a.2.1 h.1).bind λf=>
(YZ a.2.2.1 f.1).bind λg=>
(YZ a.2.2.2.1 g.1).bind λd=>
some (.inl (d.1,Wq (c+1),List.set b (Int.toNat c) (h.2,f.2,g.2,d.2,()),()))
else
some (.inr (e,b))
def Zc5 (a:List ZJ) (b:Int):Option (Int×(List ZJ)):=
Zn (λv=>ZaC v.1 v.2.1 v.2.2.1) (b,(0:Int),a,())
def ZAV:Ctr:=⟨[.back (.ol 162 (Zof)),.dat Iq],[.dat Iq],λa K=>Zv a λb a=>Zv a λc a=>YX (Zc5 b c) λr=>K (r.1,()) (r.2,())⟩
def Zc2 (a:Ze) (e:Int):Option (Int×Ze):=
(Za4 (Ze.Library a) e).bind λb=>
(Zb7 (Ze.Design a) b.1).bind λc=>
(Zc5 (Ze.QZ a) c.1).bind λd=>
some (d.1,(b.2,c.2,d.2,()))
def ZAW:Ctr:=⟨[.back (Zwk),.dat Iq],[.dat Iq],λa K=>Zv a λb a=>Zv a λc a=>YX (Zc2 b c) λr=>K (r.1,()) (r.2,())⟩
def VN (b a:Int) (d:List Zg):Option ((Int×Int×(List Zg)×Unit) ⊕ (Int×(List Zg))):=
if a<(d.length:Int) then
(atI d a).bind λc=>
(atI (List.set d (Int.toNat a) ((b,(Zg.High c).2),c.2)) a).bind λe=>
(atI (List.set (List.set d (Int.toNat a) ((b,(Zg.High c).2),c.2)) (Int.toNat a) ((ZH.Num (Zg.High e),Wq (b+1),()),e.2)) a).bind λf=>
some (.inl (Wq (Wq (Wq (b+1)+1)+1),Wq (a+1),List.set (List.set (List.set d (Int.toNat a) ((b,(Zg.High c).2),c.2)) (Int.toNat a) ((ZH.Num (Zg.High e),Wq (b+1),()),e.2)) (Int.toNat a) (Zg.High f,Wq (Wq (b+1)+1),()),()))
else
some (.inr (b,d))
def JD (a:List Zg) (b:Int):Option (Int×(List Zg)):=
Zn (λv=>VN v.1 v.2.1 v.2.2.1) (b,(0:Int),a,())
def ZAX:Ctr:=⟨[.back (.ol 106 (.flat (Zy))),.dat Iq],[.dat Iq],λa K=>Zv a λb a=>Zv a λc a=>YX (JD b c) λr=>K (r.1,()) (r.2,())⟩
def Qq (b a:Int) (c:List Zj):Option ((Int×Int×(List Zj)×Unit) ⊕ (Int×(List Zj))):=
if a<(c.length:Int) then
(atI c a).bind λd=>
(atI (List.set c (Int.toNat a) (b,d.2)) a).bind λe=>
some (.inl (Wq (Wq (b+1)+1),Wq (a+1),List.set (List.set c (Int.toNat a) (b,d.2)) (Int.toNat a) (Zj.Net e,Wq (b+1),()),()))
else
some (.inr (b,c))
def Zb8 (a:List Zj) (b:Int):Option (Int×(List Zj)):=
Zn (λv=>Qq v.1 v.2.1 v.2.2.1) (b,(0:Int),a,())
def c226:Ctr:=⟨[.back (.ol 49 (.flat (Yr))),.dat Iq],[.dat Iq],λa K=>Zv a λb a=>Zv a λc a=>YX (Zb8 b c) λr=>K (r.1,()) (r.2,())⟩
def Qp (c:List Zj) (a b:Int):Option ((Int×Int×Unit) ⊕ Int):=
if b<(c.length:Int) then
(atI c b).bind λd=>
if Zj.Net d=a then
if Zj.Power d=Wq (a+1) then
some (.inl (Wq (Wq (a+1)+1),Wq (b+1),()))
else
some (.inr (-1))
else
some (.inr (-1))
else
some (.inr a)
def Zb6 (a:List Zj) (b:Int):Option Int:=
Zn (λv=>Qp a v.1 v.2.1) (b,(0:Int),())
def c227:Ctr:=D2 (.sl (Yr)) Iq Iq Zb6
def XK (h:Ze) (k:List Zg) (i:Int):Option Bool:=
(Zbz h 1048576).bind λl=>
if l<0 then
some true
else
(Za6 k l).bind λn=>
if n<0 then
some true
else
(ZeG h).bind λd=>
(Za7 k).bind λb=>
(Za9 d b i).bind λf=>
(ZaY d b i).bind λe=>
(Za3 e.1 f.1).bind λg=>
if g then
if e.2=f.2 then
(ZeA d d).bind λo=>
if o then
(Za1 b b).bind λm=>
if m then
(Zc2 d 1).bind λp=>
(JD b p.1).bind λj=>
if j.1<0 then
some false
else
if g then
if e.2=f.2 then
(Zb8 e.1 1).bind λc=>
(Zb6 c.2 1).bind λa=>
if a<0 then
some false
else
if a=c.1 then
if g then
if e.2=f.2 then
if a<0 then
some false
else
if a=c.1 then
some true
else
some false
else
some false
else
some false
else
some false
else
some false
else
some false
else
some false
else
some false
else
some false
else
some false
def ZaP:Ctr:=⟨[.dat (Yz),.dat (.sl (Zy)),.dat Iq],[.dat (.bool)],λa K=>Zv a λb a=>Zv a λd a=>Zv a λc a=>YX (XK b d c) λr=>K (r,()) ()⟩
end
end Go.Proofs.YtioiomifapgimaaGreatDoor
