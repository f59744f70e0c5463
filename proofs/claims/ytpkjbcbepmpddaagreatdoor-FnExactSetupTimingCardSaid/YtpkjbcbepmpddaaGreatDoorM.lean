/-
 The models of the functions and their contracts. Printed by program.
-/
import Derived.Test.YtpkjbcbepmpddaaGreatDoorSxTab
import Derived.Test.YtpkjbcbepmpddaaGreatDoorSxS0
import Derived.Test.YtpkjbcbepmpddaaGreatDoorSxLib
import Derived.Test.YtpkjbcbepmpddaaGreatDoorSxLibS
import Derived.Test.YtpkjbcbepmpddaaGreatDoorSxLibF
namespace Go.Proofs.YtpkjbcbepmpddaaGreatDoor
open Go Go.Sx
set_option maxRecDepth 100000
set_option maxHeartbeats 100000000
set_option linter.unusedVariables false
set_option linter.unusedSimpArgs false
noncomputable section
abbrev Iq:Ty:=.int .i64
abbrev Wq:=IntKind.wrap IntKind.i64
abbrev Sq:=Za Tryz.prog
theorem Bq {α β:Type} (x:α) (f:α->Option β):(some x).bind f=f x:=rfl
def Zet (b:YQ) (a:Int):Option Int:=
if Wq (a-((YQ.Name b).length:Int))<0 then
some (-1)
else
some (Wq (a-((YQ.Name b).length:Int)))
def c0:Ctr:=D2 (Zge) Iq Iq Zet
def Zo9 (c:List YQ) (a b:Int):Option ((Int×Int×Unit) ⊕ Int):=
if b<(c.length:Int) then
(atI c b).bind λe=>
(Zet e a).bind λd=>
if d<0 then
some (.inr (-1))
else
some (.inl (d,Wq (b+1),()))
else
some (.inr a)
def ZfC (b:List YQ) (a:Int):Option Int:=
if Wq (a-(b.length:Int))<0 then
some (-1)
else
Zo (λv=>Zo9 b v.1 v.2.1) (Wq (a-(b.length:Int)),(0:Int),())
def c1:Ctr:=D2 (.sl (Zge)) Iq Iq ZfC
def Xd (b:List Int) (a:Int):Option Int:=
if Wq (a-(b.length:Int))<0 then
some (-1)
else
some (Wq (a-(b.length:Int)))
def c2:Ctr:=D2 (.sl Iq) Iq Iq Xd
def Za8 (b:Zz) (a:Int):Option Int:=
(Xd (Zz.Zgg b) a).bind λe=>
if e<0 then
some (-1)
else
(Xd (Zz.Loads b) e).bind λc=>
if c<0 then
some (-1)
else
(Xd (Zz.Values b) c).bind λd=>
if d<0 then
some (-1)
else
some d
def c3:Ctr:=D2 (Xw) Iq Iq Za8
def Zm0 (c:List Zz) (a b:Int):Option ((Int×Int×Unit) ⊕ Int):=
if b<(c.length:Int) then
(atI c b).bind λe=>
(Za8 e a).bind λd=>
if d<0 then
some (.inr (-1))
else
some (.inl (d,Wq (b+1),()))
else
some (.inr a)
def Zbm (b:List Zz) (a:Int):Option Int:=
if Wq (a-(b.length:Int))<0 then
some (-1)
else
Zo (λv=>Zm0 b v.1 v.2.1) (Wq (a-(b.length:Int)),(0:Int),())
def c4:Ctr:=D2 (.sl (Xw)) Iq Iq Zbm
def Zeq (c:ZG) (a:Int):Option Int:=
(Zbm (ZG.Delay c) a).bind λd=>
if d<0 then
some (-1)
else
(Zbm (ZG.QU c) d).bind λb=>
if b<0 then
some (-1)
else
some b
def c5:Ctr:=D2 (ZgE) Iq Iq Zeq
def Zo3 (c:List ZG) (a b:Int):Option ((Int×Int×Unit) ⊕ Int):=
if b<(c.length:Int) then
(atI c b).bind λe=>
(Zeq e a).bind λd=>
if d<0 then
some (.inr (-1))
else
some (.inl (d,Wq (b+1),()))
else
some (.inr a)
def ZfB (b:List ZG) (a:Int):Option Int:=
if Wq (a-(b.length:Int))<0 then
some (-1)
else
Zo (λv=>Zo3 b v.1 v.2.1) (Wq (a-(b.length:Int)),(0:Int),())
def c6:Ctr:=D2 (.sl (ZgE)) Iq Iq ZfB
def Zcr (b:Zn) (a:Int):Option Int:=
if Wq (a-((Zn.Name b).length:Int))<0 then
some (-1)
else
(ZfC (Zn.Xi b) (Wq (a-((Zn.Name b).length:Int)))).bind λe=>
if e<0 then
some (-1)
else
(ZfB (Zn.Zay b) e).bind λc=>
if c<0 then
some (-1)
else
(Xd (Zn.Truth b) c).bind λd=>
if d<0 then
some (-1)
else
some d
def c7:Ctr:=D2 (V8) Iq Iq Zcr
def ZnZ (c:List Zn) (a b:Int):Option ((Int×Int×Unit) ⊕ Int):=
if b<(c.length:Int) then
(atI c b).bind λe=>
(Zcr e a).bind λd=>
if d<0 then
some (.inr (-1))
else
some (.inl (d,Wq (b+1),()))
else
some (.inr a)
def Zes (b:List Zn) (a:Int):Option Int:=
if Wq (a-(b.length:Int))<0 then
some (-1)
else
Zo (λv=>ZnZ b v.1 v.2.1) (Wq (a-(b.length:Int)),(0:Int),())
def c8:Ctr:=D2 (.sl (V8)) Iq Iq Zes
def ZbL (c:ZE) (a:Int):Option Int:=
(Zes (ZE.Cells c) a).bind λb=>
if b<0 then
some (-1)
else
some b
def c9:Ctr:=D2 (Xf) Iq Iq ZbL
def VT (b:Zk) (a:Int):Option Int:=
if Wq (a-((Zk.Name b).length:Int))<0 then
some (-1)
else
(Xd (Zk.Qw b) (Wq (a-((Zk.Name b).length:Int)))).bind λc=>
if c<0 then
some (-1)
else
some c
def c10:Ctr:=D2 (Yl) Iq Iq VT
def ZkR (c:List Zk) (a b:Int):Option ((Int×Int×Unit) ⊕ Int):=
if b<(c.length:Int) then
(atI c b).bind λe=>
(VT e a).bind λd=>
if d<0 then
some (.inr (-1))
else
some (.inl (d,Wq (b+1),()))
else
some (.inr a)
def JW (b:List Zk) (a:Int):Option Int:=
if Wq (a-(b.length:Int))<0 then
some (-1)
else
Zo (λv=>ZkR b v.1 v.2.1) (Wq (a-(b.length:Int)),(0:Int),())
def c11:Ctr:=D2 (.sl (Yl)) Iq Iq JW
def Jg (d:List (List UInt8)) (a b:Int):Option ((Int×Int×Unit) ⊕ Int):=
if b<(d.length:Int) then
(atI d b).bind λc=>
if Wq (a-(c.length:Int))<0 then
some (.inr (-1))
else
some (.inl (Wq (a-(c.length:Int)),Wq (b+1),()))
else
some (.inr a)
def ZbM (b:List (List UInt8)) (a:Int):Option Int:=
if Wq (a-(b.length:Int))<0 then
some (-1)
else
Zo (λv=>Jg b v.1 v.2.1) (Wq (a-(b.length:Int)),(0:Int),())
def c12:Ctr:=D2 (.sl (.str)) Iq Iq ZbM
def Zcs (b:Yj) (a:Int):Option Int:=
if Wq (a-((Yj.Name b).length:Int))<0 then
some (-1)
else
some (Wq (a-((Yj.Name b).length:Int)))
def c13:Ctr:=D2 (Za3) Iq Iq Zcs
def Zn3 (c:List Yj) (a b:Int):Option ((Int×Int×Unit) ⊕ Int):=
if b<(c.length:Int) then
(atI c b).bind λe=>
(Zcs e a).bind λd=>
if d<0 then
some (.inr (-1))
else
some (.inl (d,Wq (b+1),()))
else
some (.inr a)
def Zeu (b:List Yj) (a:Int):Option Int:=
if Wq (a-(b.length:Int))<0 then
some (-1)
else
Zo (λv=>Zn3 b v.1 v.2.1) (Wq (a-(b.length:Int)),(0:Int),())
def c14:Ctr:=D2 (.sl (Za3)) Iq Iq Zeu
def ZcY (b:Zf) (a:Int):Option Int:=
(JW (Zf.Instances b) a).bind λe=>
if e<0 then
some (-1)
else
(ZbM (Zf.Qw b) e).bind λc=>
if c<0 then
some (-1)
else
(Zeu (Zf.Qx b) c).bind λd=>
if d<0 then
some (-1)
else
some d
def c15:Ctr:=D2 (YZ) Iq Iq ZcY
def Zct (a:ZB) (b:Int):Option Int:=
(Xd (ZB.Parent a) b).bind λf=>
if f<0 then
some (-1)
else
(Xd (ZB.Res a) f).bind λc=>
if c<0 then
some (-1)
else
(Xd (ZB.Cap a) c).bind λe=>
if e<0 then
some (-1)
else
(Xd (ZB.ZgD a) e).bind λd=>
if d<0 then
some (-1)
else
some d
def c16:Ctr:=D2 (ZaB) Iq Iq Zct
def Zn5 (c:List ZB) (a b:Int):Option ((Int×Int×Unit) ⊕ Int):=
if b<(c.length:Int) then
(atI c b).bind λe=>
(Zct e a).bind λd=>
if d<0 then
some (.inr (-1))
else
some (.inl (d,Wq (b+1),()))
else
some (.inr a)
def Zew (b:List ZB) (a:Int):Option Int:=
if Wq (a-(b.length:Int))<0 then
some (-1)
else
Zo (λv=>Zn5 b v.1 v.2.1) (Wq (a-(b.length:Int)),(0:Int),())
def c17:Ctr:=D2 (.sl (ZaB)) Iq Iq Zew
def Zer (b:Zd) (a:Int):Option Int:=
(ZbL (Zd.Library b) a).bind λe=>
if e<0 then
some (-1)
else
(ZcY (Zd.Design b) e).bind λc=>
if c<0 then
some (-1)
else
(Zew (Zd.Xo b) c).bind λd=>
if d<0 then
some (-1)
else
some d
def c18:Ctr:=D2 (YA) Iq Iq Zer
def Za7 (b:Zc) (a:Int):Option Int:=
if Wq (a-((Zc.Name b).length:Int))<0 then
some (-1)
else
some (Wq (a-((Zc.Name b).length:Int)))
def c19:Ctr:=D2 (Xh) Iq Iq Za7
def ZmX (c:List Zc) (a b:Int):Option ((Int×Int×Unit) ⊕ Int):=
if b<(c.length:Int) then
(atI c b).bind λe=>
(Za7 e a).bind λd=>
if d<0 then
some (.inr (-1))
else
some (.inl (d,Wq (b+1),()))
else
some (.inr a)
def ZcX (b:List Zc) (a:Int):Option Int:=
if Wq (a-(b.length:Int))<0 then
some (-1)
else
Zo (λv=>ZmX b v.1 v.2.1) (Wq (a-(b.length:Int)),(0:Int),())
def c20:Ctr:=D2 (.sl (Xh)) Iq Iq ZcX
def V6 (b:List Zg) (a:Int):Option Int:=
if Wq (a-(b.length:Int))<0 then
some (-1)
else
some (Wq (a-(b.length:Int)))
def c21:Ctr:=D2 (.sl (Z5)) Iq Iq V6
def Vs (b:Zr) (a:Int):Option Int:=
(Xd (Zr.From b) a).bind λe=>
if e<0 then
some (-1)
else
(Xd (Zr.Through b) e).bind λc=>
if c<0 then
some (-1)
else
(Xd (Zr.To b) c).bind λd=>
if d<0 then
some (-1)
else
some d
def c22:Ctr:=D2 (ZO) Iq Iq Vs
def ZjH (c:List Zr) (a b:Int):Option ((Int×Int×Unit) ⊕ Int):=
if b<(c.length:Int) then
(atI c b).bind λe=>
(Vs e a).bind λd=>
if d<0 then
some (.inr (-1))
else
some (.inl (d,Wq (b+1),()))
else
some (.inr a)
def Jw (b:List Zr) (a:Int):Option Int:=
if Wq (a-(b.length:Int))<0 then
some (-1)
else
Zo (λv=>ZjH b v.1 v.2.1) (Wq (a-(b.length:Int)),(0:Int),())
def c23:Ctr:=D2 (.sl (ZO)) Iq Iq Jw
def Zad (b:Zt) (a:Int):Option Int:=
if Wq (a-((Zt.Name b).length:Int))<0 then
some (-1)
else
some (Wq (a-((Zt.Name b).length:Int)))
def c24:Ctr:=D2 (Yd) Iq Iq Zad
def Zl1 (c:List Zt) (a b:Int):Option ((Int×Int×Unit) ⊕ Int):=
if b<(c.length:Int) then
(atI c b).bind λe=>
(Zad e a).bind λd=>
if d<0 then
some (.inr (-1))
else
some (.inl (d,Wq (b+1),()))
else
some (.inr a)
def ZbK (b:List Zt) (a:Int):Option Int:=
if Wq (a-(b.length:Int))<0 then
some (-1)
else
Zo (λv=>Zl1 b v.1 v.2.1) (Wq (a-(b.length:Int)),(0:Int),())
def c25:Ctr:=D2 (.sl (Yd)) Iq Iq ZbK
def Zev (a:Zu) (b:Int):Option Int:=
(ZcX (Zu.ZM a) b).bind λg=>
if g<0 then
some (-1)
else
(V6 (Zu.Jz a) g).bind λc=>
if c<0 then
some (-1)
else
(V6 (Zu.ZgF a) c).bind λf=>
if f<0 then
some (-1)
else
(Jw (Zu.Exceptions a) f).bind λd=>
if d<0 then
some (-1)
else
(ZbK (Zu.VE a) d).bind λe=>
if e<0 then
some (-1)
else
some e
def c26:Ctr:=D2 (Vi) Iq Iq Zev
def Zjg (a:YQ):Option YQ:=
some a
def c27:Ctr:=D1 (Zge) (Zge) Zjg
def Zpe (c:List YQ) (a:Int) (b:List (List UInt8×Int×Int×Bool×Unit)):Option ((Int×(List (List UInt8×Int×Int×Bool×Unit))×Unit) ⊕ List YQ):=
if a<(c.length:Int) then
(atI c a).bind λd=>
(Zjg d).bind λe=>
(atI b a).bind λf=>
some (.inl (Wq (a+1),List.set b (Int.toNat a) e,()))
else
some (.inr b)
def ZjK (a:List YQ):Option (List YQ):=
Zy ((0:Int)<=(a.length:Int))<|
Zy ((a.length:Int)<=(a.length:Int))<|
Zy ((a.length:Int)<=4611686018427387904)<|
Zy (((40:Nat):Int)*(a.length:Int)<=281474976710656)<|
Zo (λv=>Zpe a v.1 v.2.1) ((0:Int),List.replicate (Int.toNat (a.length:Int)) (([]:List UInt8),(0:Int),(0:Int),false,()),())
def c28:Ctr:=⟨[.dat (.sl (Zge))],[.own (.ol 326 (.flat (Zge)))],λa K=>Zv a λb a=>Yw (ZjK b) λr=>K (r,()) ()⟩
def Zm4 (c:List Int) (a:Int) (b:List Int):Option ((Int×(List Int)×Unit) ⊕ List Int):=
if a<(c.length:Int) then
(atI c a).bind λd=>
(atI b a).bind λe=>
some (.inl (Wq (a+1),List.set b (Int.toNat a) d,()))
else
some (.inr b)
def XH (a:List Int):Option (List Int):=
Zy ((0:Int)<=(a.length:Int))<|
Zy ((a.length:Int)<=(a.length:Int))<|
Zy ((a.length:Int)<=4611686018427387904)<|
Zy (((8:Nat):Int)*(a.length:Int)<=281474976710656)<|
Zo (λv=>Zm4 a v.1 v.2.1) ((0:Int),List.replicate (Int.toNat (a.length:Int)) (0:Int),())
def c29:Ctr:=⟨[.dat (.sl Iq)],[.own (.ol 2 (.flat Iq))],λa K=>Zv a λb a=>Yw (XH b) λr=>K (r,()) ()⟩
def Zgt (a:Zz):Option Zz:=
(XH (Zz.Zgg a)).bind λd=>
(XH (Zz.Loads a)).bind λb=>
(XH (Zz.Values a)).bind λc=>
some (d,b,c,())
def c30:Ctr:=⟨[.dat (Xw)],[.own (Zka)],λa K=>Zv a λb a=>Yw (Zgt b) λr=>K (r,()) ()⟩
def Zm5 (c:List Zz) (a:Int) (b:List Zz):Option ((Int×(List Zz)×Unit) ⊕ List Zz):=
if a<(c.length:Int) then
(atI c a).bind λd=>
(Zgt d).bind λe=>
(atI b a).bind λf=>
some (.inl (Wq (a+1),List.set b (Int.toNat a) e,()))
else
some (.inr b)
def Ze4 (a:List Zz):Option (List Zz):=
Zy ((0:Int)<=(a.length:Int))<|
Zy ((a.length:Int)<=(a.length:Int))<|
Zy ((a.length:Int)<=4611686018427387904)<|
Zy (((72:Nat):Int)*(a.length:Int)<=281474976710656)<|
Zo (λv=>Zm5 a v.1 v.2.1) ((0:Int),List.replicate (Int.toNat (a.length:Int)) (([]:List Int),([]:List Int),([]:List Int),()),())
def c31:Ctr:=⟨[.dat (.sl (Xw))],[.own (.ol 373 (Zka))],λa K=>Zv a λb a=>Yw (Ze4 b) λr=>K (r,()) ()⟩
def Zjf (a:ZG):Option ZG:=
(Ze4 (ZG.Delay a)).bind λc=>
(Ze4 (ZG.QU a)).bind λb=>
some (ZG.Kind a,ZG.From a,ZG.To a,ZG.JZ a,c,b,())
def c32:Ctr:=⟨[.dat (ZgE)],[.own (ZBB)],λa K=>Zv a λb a=>Yw (Zjf b) λr=>K (r,()) ()⟩
def Zpb (c:List ZG) (a:Int) (b:List ZG):Option ((Int×(List ZG)×Unit) ⊕ List ZG):=
if a<(c.length:Int) then
(atI c a).bind λd=>
(Zjf d).bind λe=>
(atI b a).bind λf=>
some (.inl (Wq (a+1),List.set b (Int.toNat a) e,()))
else
some (.inr b)
def ZjI (a:List ZG):Option (List ZG):=
Zy ((0:Int)<=(a.length:Int))<|
Zy ((a.length:Int)<=(a.length:Int))<|
Zy ((a.length:Int)<=4611686018427387904)<|
Zy (((80:Nat):Int)*(a.length:Int)<=281474976710656)<|
Zo (λv=>Zpb a v.1 v.2.1) ((0:Int),List.replicate (Int.toNat (a.length:Int)) ((0:Int),(0:Int),(0:Int),(0:Int),([]:List Zz),([]:List Zz),()),())
def c33:Ctr:=⟨[.dat (.sl (ZgE))],[.own (.ol 233 (ZBB))],λa K=>Zv a λb a=>Yw (ZjI b) λr=>K (r,()) ()⟩
def ZhM (a:Zn):Option Zn:=
(ZjK (Zn.Xi a)).bind λd=>
(ZjI (Zn.Zay a)).bind λb=>
(XH (Zn.Truth a)).bind λc=>
some (Zn.Name a,Zn.Kind a,d,b,c,a.2.2.2.2.2)
def c34:Ctr:=⟨[.dat (V8)],[.own (ZtX)],λa K=>Zv a λb a=>Yw (ZhM b) λr=>K (r,()) ()⟩
def Zn6 (c:List Zn) (a:Int) (b:List Zn):Option ((Int×(List Zn)×Unit) ⊕ List Zn):=
if a<(c.length:Int) then
(atI c a).bind λd=>
(ZhM d).bind λe=>
(atI b a).bind λf=>
some (.inl (Wq (a+1),List.set b (Int.toNat a) e,()))
else
some (.inr b)
def Ziv (a:List Zn):Option (List Zn):=
Zy ((0:Int)<=(a.length:Int))<|
Zy ((a.length:Int)<=(a.length:Int))<|
Zy ((a.length:Int)<=4611686018427387904)<|
Zy (((112:Nat):Int)*(a.length:Int)<=281474976710656)<|
Zo (λv=>Zn6 a v.1 v.2.1) ((0:Int),List.replicate (Int.toNat (a.length:Int)) (([]:List UInt8),(0:Int),([]:List YQ),([]:List ZG),([]:List Int),(0:Int),(0:Int),()),())
def c35:Ctr:=⟨[.dat (.sl (V8))],[.own (.ol 230 (ZtX))],λa K=>Zv a λb a=>Yw (Ziv b) λr=>K (r,()) ()⟩
def Zf6 (a:ZE):Option ZE:=
(Ziv (ZE.Cells a)).bind λb=>
some (b,())
def c36:Ctr:=⟨[.dat (Xf)],[.own (ZtY)],λa K=>Zv a λb a=>Yw (Zf6 b) λr=>K (r,()) ()⟩
def Zcv (a:Zk):Option Zk:=
(XH (Zk.Qw a)).bind λb=>
some (Zk.Name a,Zk.Cell a,b,())
def c37:Ctr:=⟨[.dat (Yl)],[.own (ZeH)],λa K=>Zv a λb a=>Yw (Zcv b) λr=>K (r,()) ()⟩
def ZkT (c:List Zk) (a:Int) (b:List Zk):Option ((Int×(List Zk)×Unit) ⊕ List Zk):=
if a<(c.length:Int) then
(atI c a).bind λd=>
(Zcv d).bind λe=>
(atI b a).bind λf=>
some (.inl (Wq (a+1),List.set b (Int.toNat a) e,()))
else
some (.inr b)
def ZdM (a:List Zk):Option (List Zk):=
Zy ((0:Int)<=(a.length:Int))<|
Zy ((a.length:Int)<=(a.length:Int))<|
Zy ((a.length:Int)<=4611686018427387904)<|
Zy (((48:Nat):Int)*(a.length:Int)<=281474976710656)<|
Zo (λv=>ZkT a v.1 v.2.1) ((0:Int),List.replicate (Int.toNat (a.length:Int)) (([]:List UInt8),(0:Int),([]:List Int),()),())
def c38:Ctr:=⟨[.dat (.sl (Yl))],[.own (.ol 218 (ZeH))],λa K=>Zv a λb a=>Yw (ZdM b) λr=>K (r,()) ()⟩
def Zl7 (c:List (List UInt8)) (a:Int) (b:List (List UInt8)):Option ((Int×(List (List UInt8))×Unit) ⊕ List (List UInt8)):=
if a<(c.length:Int) then
(atI c a).bind λd=>
(atI b a).bind λe=>
some (.inl (Wq (a+1),List.set b (Int.toNat a) d,()))
else
some (.inr b)
def Zf7 (a:List (List UInt8)):Option (List (List UInt8)):=
Zy ((0:Int)<=(a.length:Int))<|
Zy ((a.length:Int)<=(a.length:Int))<|
Zy ((a.length:Int)<=4611686018427387904)<|
Zy (((16:Nat):Int)*(a.length:Int)<=281474976710656)<|
Zo (λv=>Zl7 a v.1 v.2.1) ((0:Int),List.replicate (Int.toNat (a.length:Int)) (([]:List UInt8)),())
def c39:Ctr:=⟨[.dat (.sl (.str))],[.own (.ol 9 (.flat (.str)))],λa K=>Zv a λb a=>Yw (Zf7 b) λr=>K (r,()) ()⟩
def ZhO (a:Yj):Option Yj:=
some a
def c40:Ctr:=D1 (Za3) (Za3) ZhO
def Zn9 (c:List Yj) (a:Int) (b:List (List UInt8×Int×Int×Unit)):Option ((Int×(List (List UInt8×Int×Int×Unit))×Unit) ⊕ List Yj):=
if a<(c.length:Int) then
(atI c a).bind λd=>
(ZhO d).bind λe=>
(atI b a).bind λf=>
some (.inl (Wq (a+1),List.set b (Int.toNat a) e,()))
else
some (.inr b)
def Ziw (a:List Yj):Option (List Yj):=
Zy ((0:Int)<=(a.length:Int))<|
Zy ((a.length:Int)<=(a.length:Int))<|
Zy ((a.length:Int)<=4611686018427387904)<|
Zy (((32:Nat):Int)*(a.length:Int)<=281474976710656)<|
Zo (λv=>Zn9 a v.1 v.2.1) ((0:Int),List.replicate (Int.toNat (a.length:Int)) (([]:List UInt8),(0:Int),(0:Int),()),())
def c41:Ctr:=⟨[.dat (.sl (Za3))],[.own (.ol 221 (.flat (Za3)))],λa K=>Zv a λb a=>Yw (Ziw b) λr=>K (r,()) ()⟩
def Zhd (a:Zf):Option Zf:=
(ZdM (Zf.Instances a)).bind λd=>
(Zf7 (Zf.Qw a)).bind λb=>
(Ziw (Zf.Qx a)).bind λc=>
some (d,b,c,())
def c42:Ctr:=⟨[.dat (YZ)],[.own (Zwu)],λa K=>Zv a λb a=>Yw (Zhd b) λr=>K (r,()) ()⟩
def ZhQ (a:ZB):Option ZB:=
(XH (ZB.Parent a)).bind λe=>
(XH (ZB.Res a)).bind λb=>
(XH (ZB.Cap a)).bind λd=>
(XH (ZB.ZgD a)).bind λc=>
some (e,b,d,c,())
def c43:Ctr:=⟨[.dat (ZaB)],[.own (ZtZ)],λa K=>Zv a λb a=>Yw (ZhQ b) λr=>K (r,()) ()⟩
def Zoa (c:List ZB) (a:Int) (b:List ZB):Option ((Int×(List ZB)×Unit) ⊕ List ZB):=
if a<(c.length:Int) then
(atI c a).bind λd=>
(ZhQ d).bind λe=>
(atI b a).bind λf=>
some (.inl (Wq (a+1),List.set b (Int.toNat a) e,()))
else
some (.inr b)
def Ziy (a:List ZB):Option (List ZB):=
Zy ((0:Int)<=(a.length:Int))<|
Zy ((a.length:Int)<=(a.length:Int))<|
Zy ((a.length:Int)<=4611686018427387904)<|
Zy (((96:Nat):Int)*(a.length:Int)<=281474976710656)<|
Zo (λv=>Zoa a v.1 v.2.1) ((0:Int),List.replicate (Int.toNat (a.length:Int)) (([]:List Int),([]:List Int),([]:List Int),([]:List Int),()),())
def c44:Ctr:=⟨[.dat (.sl (ZaB))],[.own (.ol 170 (ZtZ))],λa K=>Zv a λb a=>Yw (Ziy b) λr=>K (r,()) ()⟩
def Ziu (a:Zd):Option Zd:=
(Zf6 (Zd.Library a)).bind λd=>
(Zhd (Zd.Design a)).bind λb=>
(Ziy (Zd.Xo a)).bind λc=>
some (d,b,c,())
def c45:Ctr:=⟨[.dat (YA)],[.own (ZC9)],λa K=>Zv a λb a=>Yw (Ziu b) λr=>K (r,()) ()⟩
def Zgs (a:Zc):Option Zc:=
some a
def c46:Ctr:=D1 (Xh) (Xh) Zgs
def Zm1 (c:List Zc) (a:Int) (b:List (List UInt8×Int×Int×Int×Int×Int×Int×Bool×Int×Int×Int×Unit)):Option ((Int×(List (List UInt8×Int×Int×Int×Int×Int×Int×Bool×Int×Int×Int×Unit))×Unit) ⊕ List Zc):=
if a<(c.length:Int) then
(atI c a).bind λd=>
(Zgs d).bind λe=>
(atI b a).bind λf=>
some (.inl (Wq (a+1),List.set b (Int.toNat a) e,()))
else
some (.inr b)
def Zhc (a:List Zc):Option (List Zc):=
Zy ((0:Int)<=(a.length:Int))<|
Zy ((a.length:Int)<=(a.length:Int))<|
Zy ((a.length:Int)<=4611686018427387904)<|
Zy (((96:Nat):Int)*(a.length:Int)<=281474976710656)<|
Zo (λv=>Zm1 a v.1 v.2.1) ((0:Int),List.replicate (Int.toNat (a.length:Int)) (([]:List UInt8),(0:Int),(0:Int),(0:Int),(0:Int),(0:Int),(0:Int),false,(0:Int),(0:Int),(0:Int),()),())
def c47:Ctr:=⟨[.dat (.sl (Xh))],[.own (.ol 137 (.flat (Xh)))],λa K=>Zv a λb a=>Yw (Zhc b) λr=>K (r,()) ()⟩
def ZhP (a:Zx):Option Zx:=
some a
def c48:Ctr:=D1 (Xg) (Xg) ZhP
def Zcu (a:Zg):Option Zg:=
(ZhP (Zg.Delay a)).bind λc=>
(ZhP (Zg.QU a)).bind λb=>
some (Zg.Place a,Zg.Clock a,c,b,())
def c49:Ctr:=D1 (Z5) (Z5) Zcu
def ZkS (c:List Zg) (a:Int) (b:List (Int×Int×Zx×Zx×Unit)):Option ((Int×(List (Int×Int×Zx×Zx×Unit))×Unit) ⊕ List Zg):=
if a<(c.length:Int) then
(atI c a).bind λd=>
(Zcu d).bind λe=>
(atI b a).bind λf=>
some (.inl (Wq (a+1),List.set b (Int.toNat a) e,()))
else
some (.inr b)
def ZbF (a:List Zg):Option (List Zg):=
Zy ((0:Int)<=(a.length:Int))<|
Zy ((a.length:Int)<=(a.length:Int))<|
Zy ((a.length:Int)<=4611686018427387904)<|
Zy (((48:Nat):Int)*(a.length:Int)<=281474976710656)<|
Zo (λv=>ZkS a v.1 v.2.1) ((0:Int),List.replicate (Int.toNat (a.length:Int)) ((0:Int),(0:Int),((0:Int),(0:Int),()),((0:Int),(0:Int),()),()),())
def c50:Ctr:=⟨[.dat (.sl (Z5))],[.own (.ol 165 (.flat (Z5)))],λa K=>Zv a λb a=>Yw (ZbF b) λr=>K (r,()) ()⟩
def ZbE (a:Zr):Option Zr:=
(XH (Zr.From a)).bind λd=>
(XH (Zr.Through a)).bind λb=>
(XH (Zr.To a)).bind λc=>
some (Zr.Kind a,Zr.Value a,d,b,c,())
def c51:Ctr:=⟨[.dat (ZO)],[.own (ZcL)],λa K=>Zv a λb a=>Yw (ZbE b) λr=>K (r,()) ()⟩
def ZjJ (c:List Zr) (a:Int) (b:List Zr):Option ((Int×(List Zr)×Unit) ⊕ List Zr):=
if a<(c.length:Int) then
(atI c a).bind λd=>
(ZbE d).bind λe=>
(atI b a).bind λf=>
some (.inl (Wq (a+1),List.set b (Int.toNat a) e,()))
else
some (.inr b)
def ZcZ (a:List Zr):Option (List Zr):=
Zy ((0:Int)<=(a.length:Int))<|
Zy ((a.length:Int)<=(a.length:Int))<|
Zy ((a.length:Int)<=4611686018427387904)<|
Zy (((88:Nat):Int)*(a.length:Int)<=281474976710656)<|
Zo (λv=>ZjJ a v.1 v.2.1) ((0:Int),List.replicate (Int.toNat (a.length:Int)) ((0:Int),(0:Int),([]:List Int),([]:List Int),([]:List Int),()),())
def c52:Ctr:=⟨[.dat (.sl (ZO))],[.own (.ol 141 (ZcL))],λa K=>Zv a λb a=>Yw (ZcZ b) λr=>K (r,()) ()⟩
def Ze3 (a:Zt):Option Zt:=
some a
def c53:Ctr:=D1 (Yd) (Yd) Ze3
def Zl5 (c:List Zt) (a:Int) (b:List (List UInt8×Int×Int×Int×Int×Unit)):Option ((Int×(List (List UInt8×Int×Int×Int×Int×Unit))×Unit) ⊕ List Zt):=
if a<(c.length:Int) then
(atI c a).bind λd=>
(Ze3 d).bind λe=>
(atI b a).bind λf=>
some (.inl (Wq (a+1),List.set b (Int.toNat a) e,()))
else
some (.inr b)
def Zf5 (a:List Zt):Option (List Zt):=
Zy ((0:Int)<=(a.length:Int))<|
Zy ((a.length:Int)<=(a.length:Int))<|
Zy ((a.length:Int)<=4611686018427387904)<|
Zy (((48:Nat):Int)*(a.length:Int)<=281474976710656)<|
Zo (λv=>Zl5 a v.1 v.2.1) ((0:Int),List.replicate (Int.toNat (a.length:Int)) (([]:List UInt8),(0:Int),(0:Int),(0:Int),(0:Int),()),())
def c54:Ctr:=⟨[.dat (.sl (Yd))],[.own (.ol 83 (.flat (Yd)))],λa K=>Zv a λb a=>Yw (Zf5 b) λr=>K (r,()) ()⟩
def Zix (a:Zu):Option Zu:=
(Zhc (Zu.ZM a)).bind λf=>
(ZbF (Zu.Jz a)).bind λb=>
(ZbF (Zu.ZgF a)).bind λe=>
(ZcZ (Zu.Exceptions a)).bind λc=>
(Zf5 (Zu.VE a)).bind λd=>
some (f,b,e,c,d,())
def c55:Ctr:=⟨[.dat (Vi)],[.own (ZDa)],λa K=>Zv a λb a=>Yw (Zix b) λr=>K (r,()) ()⟩
def Zfh (c:List UInt8) (a:Int):Option ((Int×Unit) ⊕ Bool):=
if a<(c.length:Int) then
(atI c a).bind λb=>
if 97<=((UInt8.toNat b):Int) then
if 48<=((UInt8.toNat b):Int) then
if ((UInt8.toNat b):Int)<=122 then
some (.inl (Wq (a+1),()))
else
if ((UInt8.toNat b):Int)<=57 then
if 0<a then
some (.inl (Wq (a+1),()))
else
some (.inr false)
else
some (.inr false)
else
if ((UInt8.toNat b):Int)<=122 then
some (.inl (Wq (a+1),()))
else
some (.inr false)
else
if 48<=((UInt8.toNat b):Int) then
if ((UInt8.toNat b):Int)<=57 then
if 0<a then
some (.inl (Wq (a+1),()))
else
some (.inr false)
else
some (.inr false)
else
some (.inr false)
else
if 1<=(c.length:Int) then
some (.inr (decide ((c.length:Int)<=8)))
else
some (.inr false)
def Zba (a:List UInt8):Option Bool:=
Zo (λv=>Zfh a v.1) ((0:Int),())
def c56:Ctr:=D1 (.str) (.bool) Zba
def ZQ (c b a:Int):Option Bool:=
if b<=c then
some (decide (c<=a))
else
some false
def c57:Ctr:=D3 Iq Iq Iq (.bool) ZQ
def V3 (d:Zn) (c b:Int) (a:YQ) (e:Int):Option ((Int×Unit) ⊕ ((Int×Int×Unit) ⊕ (Int×Bool))):=
if e<b then
(atI (Zn.Xi d) e).bind λg=>
if YQ.Name g=YQ.Name a then
some (.inr (.inr (0,false)))
else
some (.inl (Wq (e+1),()))
else
(Zba (YQ.Name a)).bind λh=>
if h then
(ZQ (YQ.Cap a) 0 500).bind λf=>
if f then
if b=Wq (((Zn.Xi d).length:Int)-1) then
if YQ.Dir a=2 then
if YQ.Cap a=0 then
if (YQ.Clock a)=true then
some (.inr (.inr (0,false)))
else
if b<Wq (((Zn.Xi d).length:Int)-1) then
if YQ.Dir a=1 then
if (YQ.Clock a)=true then
some (.inr (.inl (Wq (c+1),Wq (b+1),())))
else
some (.inr (.inl (c,Wq (b+1),())))
else
some (.inr (.inr (0,false)))
else
if (YQ.Clock a)=true then
some (.inr (.inl (Wq (c+1),Wq (b+1),())))
else
some (.inr (.inl (c,Wq (b+1),())))
else
some (.inr (.inr (0,false)))
else
some (.inr (.inr (0,false)))
else
if b<Wq (((Zn.Xi d).length:Int)-1) then
if YQ.Dir a=1 then
if (YQ.Clock a)=true then
some (.inr (.inl (Wq (c+1),Wq (b+1),())))
else
some (.inr (.inl (c,Wq (b+1),())))
else
some (.inr (.inr (0,false)))
else
if (YQ.Clock a)=true then
some (.inr (.inl (Wq (c+1),Wq (b+1),())))
else
some (.inr (.inl (c,Wq (b+1),())))
else
some (.inr (.inr (0,false)))
else
some (.inr (.inr (0,false)))
def Zal (a:Zn) (c b:Int):Option ((Int×Int×Unit) ⊕ (Int×Bool)):=
if b<((Zn.Xi a).length:Int) then
(atI (Zn.Xi a) b).bind λd=>
Zo (λv=>V3 a c b d v.1) ((0:Int),())
else
some (.inr (c,true))
def ZiI (a:Zn):Option (Int×Bool):=
if ((Zn.Xi a).length:Int)<2 then
some (0,false)
else
if 5<((Zn.Xi a).length:Int) then
some (0,false)
else
Zo (λv=>Zal a v.1 v.2.1) ((0:Int),(0:Int),())
def c58:Ctr:=⟨[.dat (V8)],[.dat Iq,.dat (.bool)],λa K=>Zv a λb a=>Yw (ZiI b) λr=>K (r.1,r.2,()) ()⟩
def Zfg (a:List Int) (b:Int):Option ((Int×Unit) ⊕ Bool):=
if b<(a.length:Int) then
(atI a b).bind λc=>
(ZQ c 0 100000).bind λe=>
if e then
if 0<b then
(atI a (Wq (b-1))).bind λd=>
if c<=d then
some (.inr false)
else
some (.inl (Wq (b+1),()))
else
some (.inl (Wq (b+1),()))
else
some (.inr false)
else
if 1<=(a.length:Int) then
some (.inr (decide ((a.length:Int)<=4)))
else
some (.inr false)
def Zgx (a:List Int):Option Bool:=
Zo (λv=>Zfg a v.1) ((0:Int),())
def c59:Ctr:=D1 (.sl Iq) (.bool) Zgx
def Zff (b:Zz) (a:Int):Option ((Int×Unit) ⊕ Bool):=
if a<((Zz.Values b).length:Int) then
(atI (Zz.Values b) a).bind λc=>
(ZQ c (-1000000) 1000000).bind λd=>
if d then
some (.inl (Wq (a+1),()))
else
some (.inr false)
else
some (.inr true)
def ZiH (a:Zz):Option Bool:=
(Zgx (Zz.Zgg a)).bind λc=>
if c then
(Zgx (Zz.Loads a)).bind λb=>
if b then
if ((Zz.Values a).length:Int)=Wq (((Zz.Zgg a).length:Int)*((Zz.Loads a).length:Int)) then
Zo (λv=>Zff a v.1) ((0:Int),())
else
some false
else
some false
else
some false
def c60:Ctr:=D1 (Xw) (.bool) ZiH
def JN (b:Zz) (a e c:Int):Option ((Int×Int×Int×Unit) ⊕ (Zx×Int)):=
if a<((Zz.Values b).length:Int) then
(atI (Zz.Values b) a).bind λd=>
some (.inl (Wq (a+1),Min.min e d,Max.max c d,()))
else
some (.inr ((e,c,()),0))
def ZdO (a:Zz):Option (Zx×Int):=
(ZiH a).bind λc=>
if c then
(atI (Zz.Values a) 0).bind λb=>
Zo (λv=>JN a v.1 v.2.1 v.2.2.1) ((1:Int),b,b,())
else
some ((0,0,()),1)
def c61:Ctr:=⟨[.dat (Xw)],[.dat (Xg),.dat Iq],λa K=>Zv a λb a=>Yw (ZdO b) λr=>K (r.1,r.2,()) ()⟩
def Zdh (b:List Zz) (a:Bool) (c:Int):Option ((Int×Unit) ⊕ Bool):=
if c<2 then
(atI b c).bind λe=>
(ZdO e).bind λd=>
if d.2=0 then
if a then
if d.1.1<0 then
some (.inr false)
else
some (.inl (Wq (c+1),()))
else
some (.inl (Wq (c+1),()))
else
some (.inr false)
else
some (.inr true)
def YO (b:List Zz) (a:Bool):Option Bool:=
if (b.length:Int)=2 then
Zo (λv=>Zdh b a v.1) ((0:Int),())
else
some false
def c62:Ctr:=D2 (.sl (Xw)) (.bool) (.bool) YO
def ZjY (b:Zn) (a:ZG):Option Bool:=
(ZQ (ZG.From a) 0 (Wq (Wq (((Zn.Xi b).length:Int)-1)-1))).bind λi=>
if i then
(ZQ (ZG.To a) 0 (Wq (((Zn.Xi b).length:Int)-1))).bind λg=>
if g then
(atI (Zn.Xi b) (ZG.From a)).bind λd=>
if ZG.Kind a=1 then
if (YQ.Clock d)=true then
some false
else
if ZG.To a=Wq (((Zn.Xi b).length:Int)-1) then
(ZQ (ZG.JZ a) 1 3).bind λh=>
if h then
(YO (ZG.Delay a) true).bind λc=>
if c then
(YO (ZG.QU a) true).bind λf=>
some f
else
some false
else
some false
else
some false
else
if ZG.Kind a=2 then
if ZG.Kind a=2 then
if (YQ.Clock d)=true then
if ZG.To a=Wq (((Zn.Xi b).length:Int)-1) then
if ZG.JZ a=0 then
(YO (ZG.Delay a) true).bind λc=>
if c then
(YO (ZG.QU a) true).bind λf=>
some f
else
some false
else
some false
else
some false
else
some false
else
if ZG.Kind a=4 then
if ZG.Kind a=4 then
if (YQ.Clock d)=true then
if ZG.To a<Wq (((Zn.Xi b).length:Int)-1) then
(atI (Zn.Xi b) (ZG.To a)).bind λe=>
if (YQ.Clock e)=true then
some false
else
if ZG.JZ a=0 then
(YO (ZG.Delay a) false).bind λc=>
if c then
some (decide (((ZG.QU a).length:Int)=0))
else
some false
else
some false
else
some false
else
some false
else
some false
else
if ZG.Kind a=5 then
if (YQ.Clock d)=true then
if ZG.To a<Wq (((Zn.Xi b).length:Int)-1) then
(atI (Zn.Xi b) (ZG.To a)).bind λe=>
if (YQ.Clock e)=true then
some false
else
if ZG.JZ a=0 then
(YO (ZG.Delay a) false).bind λc=>
if c then
some (decide (((ZG.QU a).length:Int)=0))
else
some false
else
some false
else
some false
else
some false
else
some false
else
if ZG.Kind a=3 then
if (YQ.Clock d)=true then
if ZG.To a=Wq (((Zn.Xi b).length:Int)-1) then
if ZG.JZ a=0 then
(YO (ZG.Delay a) true).bind λc=>
if c then
(YO (ZG.QU a) true).bind λf=>
some f
else
some false
else
some false
else
some false
else
some false
else
if ZG.Kind a=4 then
if ZG.Kind a=4 then
if (YQ.Clock d)=true then
if ZG.To a<Wq (((Zn.Xi b).length:Int)-1) then
(atI (Zn.Xi b) (ZG.To a)).bind λe=>
if (YQ.Clock e)=true then
some false
else
if ZG.JZ a=0 then
(YO (ZG.Delay a) false).bind λc=>
if c then
some (decide (((ZG.QU a).length:Int)=0))
else
some false
else
some false
else
some false
else
some false
else
some false
else
if ZG.Kind a=5 then
if (YQ.Clock d)=true then
if ZG.To a<Wq (((Zn.Xi b).length:Int)-1) then
(atI (Zn.Xi b) (ZG.To a)).bind λe=>
if (YQ.Clock e)=true then
some false
else
if ZG.JZ a=0 then
(YO (ZG.Delay a) false).bind λc=>
if c then
some (decide (((ZG.QU a).length:Int)=0))
else
some false
else
some false
else
some false
else
some false
else
some false
else
some false
else
some false
def c63:Ctr:=D2 (V8) (ZgE) (.bool) ZjY
def Zbs (d:Zn) (b:Int) (a:List Int):Option ((Int×(List Int)×Unit) ⊕ List Int):=
if b<((Zn.Zay d).length:Int) then
(atI (Zn.Zay d) b).bind λc=>
(atI a (ZG.Kind c)).bind λe=>
some (.inl (Wq (b+1),List.set a (Int.toNat (ZG.Kind c)) (Wq (e+1)),()))
else
some (.inr a)
def Zhi (a:Zn):Option (List Int):=
Zo (λv=>Zbs a v.1 v.2.1) ((0:Int),List.replicate (Int.toNat (6:Int)) (0:Int),())
def c64:Ctr:=⟨[.dat (V8)],[.own (.ol 2 (.flat Iq))],λa K=>Zv a λb a=>Yw (Zhi b) λr=>K (r,()) ()⟩
def Zc0 (e:Zn) (d:Int) (b:ZG) (a:Int):Option ((Int×Unit) ⊕ ((Int×Unit) ⊕ Bool)):=
if a<d then
(atI (Zn.Zay e) a).bind λc=>
if ZG.Kind c=ZG.Kind b then
if ZG.From c=ZG.From b then
if ZG.To c=ZG.To b then
some (.inr (.inr false))
else
some (.inl (Wq (a+1),()))
else
some (.inl (Wq (a+1),()))
else
some (.inl (Wq (a+1),()))
else
some (.inr (.inl (Wq (d+1),())))
def Zc1 (b:Zn) (a:Int×Bool) (c:Int):Option ((Int×Unit) ⊕ ((Int×Unit) ⊕ Bool)):=
if c<((Zn.Truth b).length:Int) then
(atI (Zn.Truth b) c).bind λd=>
(ZQ d 0 1).bind λe=>
if e then
some (.inl (Wq (c+1),()))
else
some (.inr (.inr false))
else
if a.1=0 then
Zy ((0:Int)<=IntKind.wrap IntKind.u64 (Wq (((Zn.Xi b).length:Int)-1)))<|
some (.inr (.inr (decide (((Zn.Truth b).length:Int)=Wq (1*2 ^ Min.min (Int.toNat (IntKind.wrap IntKind.u64 (Wq (((Zn.Xi b).length:Int)-1)))) (IntKind.bits IntKind.i64))))))
else
some (.inr (.inr false))
def ZfI (b:Zn) (a:Int×Bool) (g:Int):Option ((Int×Unit) ⊕ Bool):=
if g<((Zn.Zay b).length:Int) then
(atI (Zn.Zay b) g).bind λc=>
(ZjY b c).bind λh=>
if h then
Zo (λv=>Zc0 b g c v.1) ((0:Int),())
else
some (.inr false)
else
(Zhi b).bind λd=>
if Zn.Kind b=1 then
Zo (λv=>Zc1 b a v.1) ((0:Int),())
else
if Zn.Kind b=2 then
if a.1=1 then
(atI d 1).bind λc=>
if c=0 then
(atI d 2).bind λe=>
(atI d 3).bind λf=>
if (decide (0<e) == decide (0<f))=true then
some (.inr false)
else
some (.inr (decide (((Zn.Truth b).length:Int)=0)))
else
some (.inr false)
else
some (.inr false)
else
if Zn.Kind b=3 then
if a.1=1 then
(atI d 1).bind λc=>
if 0<c then
(atI d 2).bind λe=>
if 0<e then
(atI d 3).bind λf=>
if f=0 then
some (.inr (decide (((Zn.Truth b).length:Int)=0)))
else
some (.inr false)
else
some (.inr false)
else
some (.inr false)
else
some (.inr false)
else
some (.inr false)
def ZjW (a:Zn):Option Bool:=
(ZiI a).bind λb=>
if b.2 then
(Zba (Zn.Name a)).bind λc=>
if c then
if 8<((Zn.Zay a).length:Int) then
some false
else
(ZQ (Zn.ZBy a) 0 100000).bind λe=>
if e then
(ZQ (Zn.Zl9 a) 0 100000).bind λd=>
if d then
Zo (λv=>ZfI a b v.1) ((0:Int),())
else
some false
else
some false
else
some false
else
some false
def c65:Ctr:=D1 (V8) (.bool) ZjW
def Zdf (d:ZE) (b:Int) (c:Zn) (a:Int):Option ((Int×Unit) ⊕ ((Int×Unit) ⊕ Bool)):=
if a<b then
(atI (ZE.Cells d) a).bind λe=>
if Zn.Name e=Zn.Name c then
some (.inr (.inr false))
else
some (.inl (Wq (a+1),()))
else
some (.inr (.inl (Wq (b+1),())))
def Zdg (a:ZE) (b:Int):Option ((Int×Unit) ⊕ Bool):=
if b<((ZE.Cells a).length:Int) then
(atI (ZE.Cells a) b).bind λc=>
(ZjW c).bind λd=>
if d then
Zo (λv=>Zdf a b c v.1) ((0:Int),())
else
some (.inr false)
else
some (.inr (decide (((ZE.Cells a).length:Int)<=8)))
def Zgc (a:ZE):Option Bool:=
Zo (λv=>Zdg a v.1) ((0:Int),())
def c66:Ctr:=D1 (Xf) (.bool) Zgc
def Zee (c:Zf) (e:Int) (b:Zk) (a:Int):Option ((Int×Unit) ⊕ ((Int×Unit) ⊕ Bool)):=
if a<((Zk.Qw b).length:Int) then
(atI (Zk.Qw b) a).bind λd=>
(ZQ d 0 (Wq (((Zf.Qw c).length:Int)-1))).bind λf=>
if f then
some (.inl (Wq (a+1),()))
else
some (.inr (.inr false))
else
some (.inr (.inl (Wq (e+1),())))
def Zef (a:Zf) (b:Int):Option ((Int×Unit) ⊕ ((Int×Unit) ⊕ Bool)):=
if b<((Zf.Qx a).length:Int) then
(atI (Zf.Qx a) b).bind λc=>
(ZQ (Yj.Dir c) 1 2).bind λe=>
if e then
(ZQ (Yj.Net c) 0 (Wq (((Zf.Qw a).length:Int)-1))).bind λd=>
if d then
some (.inl (Wq (b+1),()))
else
some (.inr (.inr false))
else
some (.inr (.inr false))
else
some (.inr (.inr true))
def Zeg (d:ZE) (b:Zf) (c:Int):Option ((Int×Unit) ⊕ Bool):=
if c<((Zf.Instances b).length:Int) then
(atI (Zf.Instances b) c).bind λa=>
(ZQ (Zk.Cell a) 0 (Wq (((ZE.Cells d).length:Int)-1))).bind λf=>
if f then
(atI (ZE.Cells d) (Zk.Cell a)).bind λe=>
if ((Zk.Qw a).length:Int)=((Zn.Xi e).length:Int) then
Zo (λv=>Zee b c a v.1) ((0:Int),())
else
some (.inr false)
else
some (.inr false)
else
Zo (λv=>Zef b v.1) ((0:Int),())
def Zhj (a:ZE) (b:Zf):Option Bool:=
Zo (λv=>Zeg a b v.1) ((0:Int),())
def c67:Ctr:=D2 (Xf) (YZ) (.bool) Zhj
def Zec (a:List (List UInt8)) (c:Int) (d:List UInt8) (b:Int):Option ((Int×Unit) ⊕ ((Int×Unit) ⊕ Bool)):=
if b<c then
(atI a b).bind λe=>
if e=d then
some (.inr (.inr false))
else
some (.inl (Wq (b+1),()))
else
some (.inr (.inl (Wq (c+1),())))
def Zed (a:List (List UInt8)) (b:Int):Option ((Int×Unit) ⊕ Bool):=
if b<(a.length:Int) then
(atI a b).bind λc=>
(Zba c).bind λd=>
if d then
Zo (λv=>Zec a b c v.1) ((0:Int),())
else
some (.inr false)
else
some (.inr true)
def Zc2 (a:List (List UInt8)):Option Bool:=
Zo (λv=>Zed a v.1) ((0:Int),())
def c68:Ctr:=D1 (.sl (.str)) (.bool) Zc2
def Zd9 (b:List Int) (a:Int):Option ((Int×Unit) ⊕ ((Int×(List Int)×Unit) ⊕ ((Int×(List Int)×Unit) ⊕ (((List (List UInt8))×Int×Unit) ⊕ (((List (List UInt8))×Int×Unit) ⊕ Bool))))):=
if a<(b.length:Int) then
(atI b a).bind λc=>
if c=1 then
some (.inl (Wq (a+1),()))
else
some (.inr (.inr (.inr (.inr (.inr false)))))
else
some (.inr (.inr (.inr (.inr (.inr true)))))
def Zbq (d:Zf) (a:Int) (b:List Int):Option ((Int×(List Int)×Unit) ⊕ ((Int×(List Int)×Unit) ⊕ (((List (List UInt8))×Int×Unit) ⊕ (((List (List UInt8))×Int×Unit) ⊕ Bool)))):=
if a<((Zf.Qx d).length:Int) then
(atI (Zf.Qx d) a).bind λc=>
if Yj.Dir c=1 then
(atI b (Yj.Net c)).bind λe=>
some (.inl (Wq (a+1),List.set b (Int.toNat (Yj.Net c)) (Wq (e+1)),()))
else
some (.inl (Wq (a+1),b,()))
else
Zo (λv=>Zd9 b v.1) ((0:Int),())
def Zbr (a:Zf) (b:Int) (c:List Int):Option ((Int×(List Int)×Unit) ⊕ (((List (List UInt8))×Int×Unit) ⊕ (((List (List UInt8))×Int×Unit) ⊕ Bool))):=
if b<((Zf.Instances a).length:Int) then
(atI (Zf.Instances a) b).bind λd=>
(atI (Zk.Qw d) (Wq (((Zk.Qw d).length:Int)-1))).bind λe=>
(atI c e).bind λf=>
some (.inl (Wq (b+1),List.set c (Int.toNat e) (Wq (f+1)),()))
else
Zo (λv=>Zbq a v.1 v.2.1) ((0:Int),c,())
def Zea (a:Zf) (f c:List (List UInt8)) (b:Int):Option (((List (List UInt8))×Int×Unit) ⊕ (((List (List UInt8))×Int×Unit) ⊕ Bool)):=
if b<((Zf.Qx a).length:Int) then
(atI (Zf.Qx a) b).bind λd=>
Zy ((c.length+[Yj.Name d].length)*16<=140737488355328)<|
some (.inl (c++[Yj.Name d],Wq (b+1),()))
else
(Zc2 f).bind λh=>
if h then
(Zc2 c).bind λe=>
if e then
(Zc2 (Zf.Qw a)).bind λg=>
if g then
Zy ((0:Int)<=((Zf.Qw a).length:Int))<|
Zy (((Zf.Qw a).length:Int)<=((Zf.Qw a).length:Int))<|
Zy (((Zf.Qw a).length:Int)<=4611686018427387904)<|
Zy (((8:Nat):Int)*((Zf.Qw a).length:Int)<=281474976710656)<|
Zo (λv=>Zbr a v.1 v.2.1) ((0:Int),List.replicate (Int.toNat ((Zf.Qw a).length:Int)) (0:Int),())
else
some (.inr (.inr false))
else
some (.inr (.inr false))
else
some (.inr (.inr false))
def Zeb (a:Zf) (c:List (List UInt8)) (b:Int):Option (((List (List UInt8))×Int×Unit) ⊕ Bool):=
if b<((Zf.Instances a).length:Int) then
(atI (Zf.Instances a) b).bind λd=>
Zy ((c.length+[Zk.Name d].length)*16<=140737488355328)<|
some (.inl (c++[Zk.Name d],Wq (b+1),()))
else
Zo (λv=>Zea a c v.1 v.2.1) (([]:List (List UInt8)),(0:Int),())
def Zhh (b:ZE) (a:Zf):Option Bool:=
(Zgc b).bind λd=>
if d then
if 14<((Zf.Instances a).length:Int) then
some false
else
if 30<((Zf.Qw a).length:Int) then
some false
else
if 8<((Zf.Qx a).length:Int) then
some false
else
(Zhj b a).bind λc=>
if c then
Zo (λv=>Zeb a v.1 v.2.1) (([]:List (List UInt8)),(0:Int),())
else
some false
else
some false
def c69:Ctr:=D2 (Xf) (YZ) (.bool) Zhh
def Zdj (c:Int) (b:Zk) (d:List Z9) (a:Int):Option (((List Z9)×Int×Unit) ⊕ (((List Z9)×Int×Unit) ⊕ List Z9)):=
if a<((Zk.Qw b).length:Int) then
(atI (Zk.Qw b) a).bind λe=>
Zy ((d.length+[(c,a,e,decide (a=Wq (((Zk.Qw b).length:Int)-1)),())].length)*32<=140737488355328)<|
some (.inl (d++[(c,a,e,decide (a=Wq (((Zk.Qw b).length:Int)-1)),())],Wq (a+1),()))
else
some (.inr (.inl (d,Wq (c+1),())))
def Zdk (d:Zf) (c:List Z9) (a:Int):Option (((List Z9)×Int×Unit) ⊕ (((List Z9)×Int×Unit) ⊕ List Z9)):=
if a<((Zf.Qx d).length:Int) then
(atI (Zf.Qx d) a).bind λb=>
Zy ((c.length+[((-1:Int),a,Yj.Net b,decide (Yj.Dir b=1),())].length)*32<=140737488355328)<|
some (.inl (c++[((-1:Int),a,Yj.Net b,decide (Yj.Dir b=1),())],Wq (a+1),()))
else
some (.inr (.inr c))
def Zdl (a:Zf) (c:List Z9) (b:Int):Option (((List Z9)×Int×Unit) ⊕ List Z9):=
if b<((Zf.Instances a).length:Int) then
(atI (Zf.Instances a) b).bind λd=>
Zo (λv=>Zdj b d v.1 v.2.1) (c,(0:Int),())
else
Zo (λv=>Zdk a v.1 v.2.1) (c,(0:Int),())
def XQ (a:Zf):Option (List Z9):=
Zo (λv=>Zdl a v.1 v.2.1) (([]:List (Int×Int×Int×Bool×Unit)),(0:Int),())
def c70:Ctr:=⟨[.dat (YZ)],[.own (.ol 220 (.flat (Zh0)))],λa K=>Zv a λb a=>Yw (XQ b) λr=>K (r,()) ()⟩
def Zeh (d:Int) (a:List Z9) (b:List Int) (c:Int):Option (((List Int)×Int×Unit) ⊕ List Int):=
if c<(a.length:Int) then
(atI a c).bind λe=>
if Z9.net e=d then
if (Z9.drives e)=true then
some (.inl (b,Wq (c+1),()))
else
Zy ((b.length+[c].length)*8<=140737488355328)<|
some (.inl (b++[c],Wq (c+1),()))
else
some (.inl (b,Wq (c+1),()))
else
some (.inr b)
def Zc3 (b:Zf) (a:Int):Option (List Int):=
(XQ b).bind λc=>
Zo (λv=>Zeh a c v.1 v.2.1) (([]:List Int),(0:Int),())
def c71:Ctr:=⟨[.dat (YZ),.dat Iq],[.own (.ol 2 (.flat Iq))],λa K=>Zv a λc a=>Zv a λb a=>Yw (Zc3 c b) λr=>K (r,()) ()⟩
def ZfJ (a:ZB) (b:Int):Option ((Int×Unit) ⊕ ((Int×Unit) ⊕ Bool)):=
if b<((ZB.ZgD a).length:Int) then
(atI (ZB.ZgD a) b).bind λc=>
(ZQ c 0 (Wq (((ZB.Parent a).length:Int)-1))).bind λd=>
if d then
some (.inl (Wq (b+1),()))
else
some (.inr (.inr false))
else
some (.inr (.inr true))
def ZfK (b:ZB) (a:Int):Option ((Int×Unit) ⊕ Bool):=
if a<((ZB.Parent b).length:Int) then
(atI (ZB.Cap b) a).bind λf=>
(ZQ f 0 500).bind λh=>
if h then
(atI (ZB.Res b) a).bind λe=>
(ZQ e 0 1000).bind λg=>
if g then
if a=0 then
(atI (ZB.Parent b) a).bind λc=>
if c=(-1) then
if e=0 then
if 0<a then
(ZQ c 0 (Wq (a-1))).bind λd=>
if d then
some (.inl (Wq (a+1),()))
else
some (.inr false)
else
some (.inl (Wq (a+1),()))
else
some (.inr false)
else
some (.inr false)
else
if 0<a then
(atI (ZB.Parent b) a).bind λc=>
(ZQ c 0 (Wq (a-1))).bind λd=>
if d then
some (.inl (Wq (a+1),()))
else
some (.inr false)
else
some (.inl (Wq (a+1),()))
else
some (.inr false)
else
some (.inr false)
else
Zo (λv=>ZfJ b v.1) ((0:Int),())
def ZjX (a:ZB) (b:Int):Option Bool:=
if ((ZB.Parent a).length:Int)<1 then
some false
else
if 8<((ZB.Parent a).length:Int) then
some false
else
if ((ZB.Res a).length:Int)=((ZB.Parent a).length:Int) then
if ((ZB.Cap a).length:Int)=((ZB.Parent a).length:Int) then
if ((ZB.ZgD a).length:Int)=b then
Zo (λv=>ZfK a v.1) ((0:Int),())
else
some false
else
some false
else
some false
def c72:Ctr:=D2 (ZaB) Iq (.bool) ZjX
def Zfb (b:Zd) (a:Int):Option ((Int×Unit) ⊕ Bool):=
if a<((Zd.Xo b).length:Int) then
(atI (Zd.Xo b) a).bind λc=>
(Zc3 (Zd.Design b) a).bind λe=>
(ZjX c (e.length:Int)).bind λd=>
if d then
some (.inl (Wq (a+1),()))
else
some (.inr false)
else
some (.inr true)
def ZcA (a:Zd):Option Bool:=
(Zhh (Zd.Library a) (Zd.Design a)).bind λb=>
if b then
if ((Zd.Xo a).length:Int)=((Zf.Qw (Zd.Design a)).length:Int) then
Zo (λv=>Zfb a v.1) ((0:Int),())
else
some false
else
some false
def c73:Ctr:=D1 (YA) (.bool) ZcA
def Zhm (a:Zc):Option Bool:=
(Zba (Zc.Name a)).bind λe=>
if e then
if 0<=Zc.Place a then
(ZQ (Zc.Yx a) 0 100000).bind λb=>
if b then
(ZQ (Zc.Xt a) (Zc.Yx a) 100000).bind λd=>
if d then
(ZQ (Zc.Zas a) 0 100000).bind λc=>
some c
else
some false
else
some false
else
some false
else
some false
def c74:Ctr:=D1 (Xh) (.bool) Zhm
def Zfo (a:Zc):Option Bool:=
(ZQ (Zc.Xl a) 2 100000).bind λd=>
if d then
(ZQ (Zc.Qd a) 0 (Wq (Zc.Xl a-1))).bind λb=>
if b then
(ZQ (Zc.QX a) 0 (Wq (Zc.Xl a-1))).bind λc=>
if c then
if Zc.Qd a=Zc.QX a then
some false
else
if Zc.Divide a=1 then
some (!Zc.Zgf a)
else
some false
else
some false
else
some false
else
some false
def c75:Ctr:=D1 (Xh) (.bool) Zfo
def ZcF (d:(List Zc)->Int->Option Y2) (c:List Zc) (e:Int):Option Y2:=
(atI c e).bind λa=>
if Zc.Source a<0 then
some (Zc.Xl a,Zc.Qd a,Zc.QX a,())
else
(d c (Zc.Source a)).bind λb=>
if 1<Zc.Divide a then
if (Zc.Zgf a)=true then
some (Wq (Y2.period b*Zc.Divide a),Wq (Y2.rise b+Wq (Wq (Int.tdiv (Zc.Divide a) 2)*Y2.period b)),Y2.rise b,())
else
some (Wq (Y2.period b*Zc.Divide a),Y2.rise b,Wq (Y2.rise b+Wq (Wq (Int.tdiv (Zc.Divide a) 2)*Y2.period b)),())
else
if (Zc.Zgf a)=true then
some (Y2.period b,Y2.fall b,Y2.rise b,())
else
some b
def ZcG:Nat->(List Zc)->Int->Option Y2
| 0=>λ_ _=>none
| n+1=>ZcF (ZcG n)
def Zhu (a:List Zc) (b:Int):Option Y2:=ZFM (λn=>ZcG n a b)
def Zg1 (c:(List Zc)->Int->Option Y2):Ctr:=⟨[.dat (.sl (Xh)),.dat Iq],[.dat (Zyr)],λa K=>Zv a λb a=>Zv a λd a=>Yw (c b d) λr=>K (r,()) ()⟩
def c76:Ctr:=Zg1 Zhu
def Zbp (d:List Zc) (b:Int) (a:Zc) (c:Int):Option ((Int×Unit) ⊕ ((Int×Unit) ⊕ Bool)):=
if c<b then
(atI d c).bind λg=>
if Zc.Name g=Zc.Name a then
some (.inr (.inr false))
else
some (.inl (Wq (c+1),()))
else
if Zc.Source a=(-1) then
(Zfo a).bind λi=>
if i then
some (.inr (.inl (Wq (b+1),())))
else
some (.inr (.inr false))
else
(ZQ (Zc.Source a) 0 (Wq (b-1))).bind λe=>
if e then
(ZQ (Zc.Divide a) 1 8).bind λh=>
if h then
if Zc.Xl a=0 then
if Zc.Qd a=0 then
if Zc.QX a=0 then
(Zhu d b).bind λf=>
if 100000<Y2.period f then
some (.inr (.inr false))
else
some (.inr (.inl (Wq (b+1),())))
else
some (.inr (.inr false))
else
some (.inr (.inr false))
else
some (.inr (.inr false))
else
some (.inr (.inr false))
else
some (.inr (.inr false))
def Zd7 (a:List Zc) (b:Int):Option ((Int×Unit) ⊕ Bool):=
if b<(a.length:Int) then
if (a.length:Int)<=6 then
(atI a b).bind λc=>
(Zhm c).bind λd=>
if d then
Zo (λv=>Zbp a b c v.1) ((0:Int),())
else
some (.inr false)
else
some (.inr (decide ((a.length:Int)<=6)))
else
some (.inr (decide ((a.length:Int)<=6)))
def Zhg (a:List Zc):Option Bool:=
Zo (λv=>Zd7 a v.1) ((0:Int),())
def c77:Ctr:=D1 (.sl (Xh)) (.bool) Zhg
def Zd8 (a:Zt) (b:Int):Option ((Int×Unit) ⊕ Bool):=
if b<(([Zt.QW a,Zt.JY a,Zt.J2 a,Zt.ZcJ a].length):Int) then
(atI ([Zt.QW a,Zt.JY a,Zt.J2 a,Zt.ZcJ a]) b).bind λc=>
(ZQ c 100 5000).bind λe=>
if e then
some (.inl (Wq (b+1),()))
else
some (.inr false)
else
(Zba (Zt.Name a)).bind λd=>
if d then
if Zt.QW a<=Zt.JY a then
some (.inr (decide (Zt.J2 a<=Zt.ZcJ a)))
else
some (.inr false)
else
some (.inr false)
def Zfc (a:Zt):Option Bool:=
Zo (λv=>Zd8 a v.1) ((0:Int),())
def c78:Ctr:=D1 (Yd) (.bool) Zfc
def ZcH (a:List Zt) (c:Int) (d:Zt) (b:Int):Option ((Int×Unit) ⊕ ((Int×Unit) ⊕ Bool)):=
if b<c then
(atI a b).bind λe=>
if Zt.Name e=Zt.Name d then
some (.inr (.inr false))
else
some (.inl (Wq (b+1),()))
else
some (.inr (.inl (Wq (c+1),())))
def ZcI (a:List Zt) (b:Int):Option ((Int×Unit) ⊕ Bool):=
if b<(a.length:Int) then
(atI a b).bind λc=>
(Zfc c).bind λd=>
if d then
Zo (λv=>ZcH a b c v.1) ((0:Int),())
else
some (.inr false)
else
some (.inr (decide ((a.length:Int)<=4)))
def Zfp (a:List Zt):Option Bool:=
Zo (λv=>ZcI a v.1) ((0:Int),())
def c79:Ctr:=D1 (.sl (Yd)) (.bool) Zfp
def Zhn (a:Zd):Option Int:=
(XQ (Zd.Design a)).bind λb=>
some (b.length:Int)
def c80:Ctr:=D1 (YA) Iq Zhn
def Zdo (f:Zd) (a:List Int) (c:Bool) (b:Int):Option ((Int×Unit) ⊕ Bool):=
if b<(a.length:Int) then
(atI a b).bind λd=>
(Zhn f).bind λh=>
(ZQ d 0 (Wq (h-1))).bind λe=>
if e then
if c then
if 0<b then
(atI a (Wq (b-1))).bind λg=>
if d<=g then
some (.inr false)
else
some (.inl (Wq (b+1),()))
else
some (.inl (Wq (b+1),()))
else
some (.inl (Wq (b+1),()))
else
some (.inr false)
else
some (.inr (decide ((a.length:Int)<=4)))
def ZbN (c:Zd) (b:List Int) (a:Bool):Option Bool:=
Zo (λv=>Zdo c b a v.1) ((0:Int),())
def c81:Ctr:=D3 (YA) (.sl Iq) (.bool) (.bool) ZbN
def ZdN (c:Zd) (a:Zr):Option Bool:=
(ZcA c).bind λg=>
if g then
(ZbN c (Zr.From a) true).bind λd=>
if d then
(ZbN c (Zr.Through a) false).bind λf=>
if f then
(ZbN c (Zr.To a) true).bind λe=>
if e then
if Zr.Kind a=1 then
some (decide (Zr.Value a=0))
else
if Zr.Kind a=2 then
(ZQ (Zr.Value a) 1 10).bind λb=>
some b
else
if Zr.Kind a=3 then
if Zr.Kind a=3 then
(ZQ (Zr.Value a) 0 1000000000).bind λb=>
some b
else
some false
else
if Zr.Kind a=4 then
(ZQ (Zr.Value a) 0 1000000000).bind λb=>
some b
else
some false
else
some false
else
some false
else
some false
else
some false
def c82:Ctr:=D2 (YA) (ZO) (.bool) ZdN
def Zbw (a:Zx):Option Bool:=
if 0<=Zx.Early a then
if Zx.Early a<=Zx.Late a then
some (decide (Zx.Late a<=1000000))
else
some false
else
some false
def c83:Ctr:=D1 (Xg) (.bool) Zbw
def Zbx (j:Zu) (g:List Zg) (d:Bool) (b:List Z9) (c:Int):Option ((Int×Unit) ⊕ Bool):=
if c<(g.length:Int) then
(atI g c).bind λa=>
(ZQ (Zg.Place a) 0 (Wq ((b.length:Int)-1))).bind λk=>
if k then
if 0<c then
(atI g (Wq (c-1))).bind λe=>
if Zg.Place a<=Zg.Place e then
some (.inr false)
else
(ZQ (Zg.Clock a) 0 (Wq (((Zu.ZM j).length:Int)-1))).bind λf=>
if f then
(atI b (Zg.Place a)).bind λi=>
if 0<=Z9.instance i then
some (.inr false)
else
if (Z9.drives i == d)=true then
if Zx.Late (Zg.Delay a)<Zx.Early (Zg.Delay a) then
some (.inr false)
else
if Zx.Early (Zg.Delay a)<(-100000) then
some (.inr false)
else
if 100000<Zx.Late (Zg.Delay a) then
some (.inr false)
else
(Zbw (Zg.QU a)).bind λh=>
if h then
if d then
some (.inl (Wq (c+1),()))
else
if (decide (Zx.Early (Zg.QU a)=0)&&decide (Zx.Late (Zg.QU a)=0))=true then
some (.inl (Wq (c+1),()))
else
some (.inr false)
else
some (.inr false)
else
some (.inr false)
else
some (.inr false)
else
(ZQ (Zg.Clock a) 0 (Wq (((Zu.ZM j).length:Int)-1))).bind λf=>
if f then
(atI b (Zg.Place a)).bind λe=>
if 0<=Z9.instance e then
some (.inr false)
else
if (Z9.drives e == d)=true then
if Zx.Late (Zg.Delay a)<Zx.Early (Zg.Delay a) then
some (.inr false)
else
if Zx.Early (Zg.Delay a)<(-100000) then
some (.inr false)
else
if 100000<Zx.Late (Zg.Delay a) then
some (.inr false)
else
(Zbw (Zg.QU a)).bind λh=>
if h then
if d then
some (.inl (Wq (c+1),()))
else
if (decide (Zx.Early (Zg.QU a)=0)&&decide (Zx.Late (Zg.QU a)=0))=true then
some (.inl (Wq (c+1),()))
else
some (.inr false)
else
some (.inr false)
else
some (.inr false)
else
some (.inr false)
else
some (.inr false)
else
some (.inr true)
def Za1 (a:Zd) (b:Zu) (d:List Zg) (c:Bool):Option Bool:=
(XQ (Zd.Design a)).bind λe=>
Zo (λv=>Zbx b d c e v.1) ((0:Int),())
def c84:Ctr:=D4 (YA) (Vi) (.sl (Z5)) (.bool) (.bool) Za1
def Zfd (b:Zd) (a:Zu) (c:Int):Option ((Int×Unit) ⊕ ((Int×Unit) ⊕ Bool)):=
if c<((Zu.Exceptions a).length:Int) then
(atI (Zu.Exceptions a) c).bind λd=>
(ZdN b d).bind λg=>
if g then
some (.inl (Wq (c+1),()))
else
some (.inr (.inr false))
else
(Za1 b a (Zu.Jz a) true).bind λe=>
if e then
(Za1 b a (Zu.ZgF a) false).bind λf=>
some (.inr (.inr f))
else
some (.inr (.inr false))
def Zfe (c:Zd) (a:Zu) (b:Int):Option ((Int×Unit) ⊕ Bool):=
if b<((Zu.ZM a).length:Int) then
(atI (Zu.ZM a) b).bind λd=>
(XQ (Zd.Design c)).bind λe=>
if (e.length:Int)<=Zc.Place d then
some (.inr false)
else
some (.inl (Wq (b+1),()))
else
Zo (λv=>Zfd c a v.1) ((0:Int),())
def ZiG (b:Zd) (a:Zu):Option Bool:=
(ZcA b).bind λe=>
if e then
(Zhg (Zu.ZM a)).bind λc=>
if c then
if 6<((Zu.Exceptions a).length:Int) then
some false
else
(Zfp (Zu.VE a)).bind λd=>
if d then
Zo (λv=>Zfe b a v.1) ((0:Int),())
else
some false
else
some false
else
some false
def c85:Ctr:=D2 (YA) (Vi) (.bool) ZiG
def Zfi (b d:Int) (a:List Z9) (c:Int):Option ((Int×Unit) ⊕ Int):=
if c<(a.length:Int) then
(atI a c).bind λe=>
if Z9.instance e=b then
if Z9.pin e=d then
some (.inr c)
else
some (.inl (Wq (c+1),()))
else
some (.inl (Wq (c+1),()))
else
some (.inr (-1))
def ZeB (c:Zf) (a b:Int):Option Int:=
(XQ c).bind λd=>
Zo (λv=>Zfi a b d v.1) ((0:Int),())
def c86:Ctr:=D3 (YZ) Iq Iq Iq ZeB
def Zan (b:List Zm) (d e f g c a:Int):Option (List Zm):=
Zy ((b.length+[(Wq (Wq ((2:Int)*d)+f),Wq (Wq ((2:Int)*e)+g),c,a,())].length)*32<=140737488355328)<|
some (b++[(Wq (Wq ((2:Int)*d)+f),Wq (Wq ((2:Int)*e)+g),c,a,())])
def c87:Ctr:=⟨[.own (.ol 154 (.flat (Za2))),.dat Iq,.dat Iq,.dat Iq,.dat Iq,.dat Iq,.dat Iq],[.own (.ol 154 (.flat (Za2)))],λa K=>Zv a λd a=>Zv a λc a=>Zv a λf a=>Zv a λh a=>Zv a λg a=>Zv a λe a=>Zv a λb a=>Yw (Zan d c f h g e b) λr=>K (r,()) ()⟩
def Za0 (e:ZG) (d h b f:Int) (a:List Zm) (c:Int):Option (((List Zm)×Int×Unit) ⊕ (((List Zm)×Int×Unit) ⊕ List Zm)):=
if c<=1 then
if ZG.Kind e=1 then
if ZG.JZ e=3 then
(Zan a d h f c 1 b).bind λg=>
some (.inl (g,Wq (c+1),()))
else
if (decide (ZG.JZ e=1) == decide (f=c))=true then
(Zan a d h f c 1 b).bind λg=>
some (.inl (g,Wq (c+1),()))
else
some (.inl (a,Wq (c+1),()))
else
if ZG.Kind e=2 then
if f=0 then
(Zan a d h f c 1 b).bind λg=>
some (.inl (g,Wq (c+1),()))
else
some (.inl (a,Wq (c+1),()))
else
if ZG.Kind e=3 then
if f=1 then
(Zan a d h f c 1 b).bind λg=>
some (.inl (g,Wq (c+1),()))
else
some (.inl (a,Wq (c+1),()))
else
some (.inl (a,Wq (c+1),()))
else
some (.inr (.inl (a,Wq (f+1),())))
def Jy (d:ZG) (c f b:Int) (a:List Zm) (e:Int):Option (((List Zm)×Int×Unit) ⊕ List Zm):=
if e<=1 then
Zo (λv=>Za0 d c f b e v.1 v.2.1) (a,(0:Int),())
else
some (.inr a)
def ZjZ (b:List Zm) (d:ZG) (c e a:Int):Option (List Zm):=
Zo (λv=>Jy d c e a v.1 v.2.1) (b,(0:Int),())
def c88:Ctr:=⟨[.own (.ol 154 (.flat (Za2))),.dat (ZgE),.dat Iq,.dat Iq,.dat Iq],[.own (.ol 154 (.flat (Za2)))],λa K=>Zv a λd a=>Zv a λe a=>Zv a λc a=>Zv a λf a=>Zv a λb a=>Yw (ZjZ d e c f b) λr=>K (r,()) ()⟩
def Zdi (c:Int) (a:List Z9) (b:Int):Option ((Int×Unit) ⊕ Int):=
if b<(a.length:Int) then
(atI a b).bind λd=>
if Z9.net d=c then
if (Z9.drives d)=true then
some (.inr b)
else
some (.inl (Wq (b+1),()))
else
some (.inl (Wq (b+1),()))
else
some (.inr (-1))
def Zdz (b:Zf) (a:Int):Option Int:=
(XQ b).bind λc=>
Zo (λv=>Zdi a c v.1) ((0:Int),())
def c89:Ctr:=D2 (YZ) Iq Iq Zdz
def Zbu (f:Zd) (c:Int) (e:Zn) (d:List Zm) (a:Int):Option (((List Zm)×Int×Unit) ⊕ (((List Zm)×Int×Unit) ⊕ List Zm)):=
if a<((Zn.Zay e).length:Int) then
(atI (Zn.Zay e) a).bind λb=>
if ZG.Kind b<=3 then
(ZeB (Zd.Design f) c (ZG.From b)).bind λi=>
(ZeB (Zd.Design f) c (ZG.To b)).bind λg=>
(ZjZ d b i g a).bind λh=>
some (.inl (h,Wq (a+1),()))
else
some (.inl (d,Wq (a+1),()))
else
some (.inr (.inl (d,Wq (c+1),())))
def Zei (g a:Int) (b:List Int) (e:List Zm) (c:Int):Option (((List Zm)×Int×Unit) ⊕ (((List Zm)×Int×Unit) ⊕ (((List Zm)×Int×Unit) ⊕ List Zm))):=
if c<(b.length:Int) then
(atI b c).bind λd=>
(Zan e a d 0 0 2 c).bind λh=>
(Zan h a d 1 1 2 c).bind λf=>
some (.inl (f,Wq (c+1),()))
else
some (.inr (.inl (e,Wq (g+1),())))
def Zej (b:Zd) (c:List Zm) (a:Int):Option (((List Zm)×Int×Unit) ⊕ (((List Zm)×Int×Unit) ⊕ List Zm)):=
if a<((Zf.Qw (Zd.Design b)).length:Int) then
(Zdz (Zd.Design b) a).bind λe=>
(Zc3 (Zd.Design b) a).bind λd=>
Zo (λv=>Zei a e d v.1 v.2.1) (c,(0:Int),())
else
some (.inr (.inr c))
def Zek (a:Zd) (c:List Zm) (b:Int):Option (((List Zm)×Int×Unit) ⊕ List Zm):=
if b<((Zf.Instances (Zd.Design a)).length:Int) then
(atI (Zf.Instances (Zd.Design a)) b).bind λd=>
(atI (ZE.Cells (Zd.Library a)) (Zk.Cell d)).bind λe=>
Zo (λv=>Zbu a b e v.1 v.2.1) (c,(0:Int),())
else
Zo (λv=>Zej a v.1 v.2.1) (c,(0:Int),())
def Zbt (a:Zd):Option (List Zm):=
Zo (λv=>Zek a v.1 v.2.1) (([]:List (Int×Int×Int×Int×Unit)),(0:Int),())
def c90:Ctr:=⟨[.dat (YA)],[.own (.ol 154 (.flat (Za2)))],λa K=>Zv a λb a=>Yw (Zbt b) λr=>K (r,()) ()⟩
def ZfN (a:List Int) (d b:Int):Option ((Int×Unit) ⊕ Bool):=
if b<(a.length:Int) then
(atI a b).bind λc=>
if c=d then
some (.inr true)
else
some (.inl (Wq (b+1),()))
else
some (.inr false)
def ZfM (a:List Int) (b:Int):Option Bool:=
Zo (λv=>ZfN a b v.1) ((0:Int),())
def c91:Ctr:=D2 (.sl Iq) Iq (.bool) ZfM
def Zfj (c:List Zm) (b:List Int) (a:List Bool) (d:Int):Option (((List Bool)×Int×Unit) ⊕ List Bool):=
if d<(c.length:Int) then
(ZfM b d).bind λe=>
Zy ((a.length+[!e].length)*1<=140737488355328)<|
some (.inl (a++[!e],Wq (d+1),()))
else
some (.inr a)
def ZeC (b:List Zm) (a:List Int):Option (List Bool):=
Zo (λv=>Zfj b a v.1 v.2.1) (([]:List Bool),(0:Int),())
def c92:Ctr:=⟨[.dat (.sl (Za2)),.dat (.sl Iq)],[.own (.ol 4 (.flat (.bool)))],λa K=>Zv a λc a=>Zv a λb a=>Yw (ZeC c b) λr=>K (r,()) ()⟩
def Jm (a:Zd):Option Int:=
(XQ (Zd.Design a)).bind λb=>
some (Wq (2*(b.length:Int)))
def c93:Ctr:=D1 (YA) Iq Jm
def X9 (d:List Zm) (f:List Bool) (e a:Bool) (c:Int) (b:List Bool):Option ((Bool×Int×(List Bool)×Unit) ⊕ ((Bool×(List Bool)×Unit) ⊕ List Bool)):=
if c<(d.length:Int) then
(atI d c).bind λg=>
if e then
(atI f c).bind λi=>
if i then
(atI b (Zm.From g)).bind λh=>
if h then
(atI b (Zm.To g)).bind λj=>
if j then
some (.inl (a,Wq (c+1),b,()))
else
some (.inl (true,Wq (c+1),List.set b (Int.toNat (Zm.To g)) true,()))
else
some (.inl (a,Wq (c+1),b,()))
else
some (.inl (a,Wq (c+1),b,()))
else
(atI f c).bind λi=>
if i then
(atI b (Zm.To g)).bind λh=>
if h then
(atI b (Zm.From g)).bind λj=>
if j then
some (.inl (a,Wq (c+1),b,()))
else
some (.inl (true,Wq (c+1),List.set b (Int.toNat (Zm.From g)) true,()))
else
some (.inl (a,Wq (c+1),b,()))
else
some (.inl (a,Wq (c+1),b,()))
else
some (.inr (.inl (a,b,())))
def VK (c:List Zm) (d:List Bool) (a b:Bool) (e:List Bool):Option ((Bool×(List Bool)×Unit) ⊕ List Bool):=
if b then
Zo (λv=>X9 c d a v.1 v.2.1 v.2.2.1) (false,(0:Int),e,())
else
some (.inr e)
def Zao (a:Int) (d:List Zm) (e:List Bool) (c:Int) (b:Bool):Option (List Bool):=
Zy ((0:Int)<=a)<|
Zy (a<=a)<|
Zy (a<=4611686018427387904)<|
Zy (((1:Nat):Int)*a<=281474976710656)<|
(atI (List.replicate (Int.toNat a) false) c).bind λf=>
Zo (λv=>VK d e b v.1 v.2.1) (true,List.set (List.replicate (Int.toNat a) false) (Int.toNat c) true,())
def c94:Ctr:=⟨[.dat Iq,.dat (.sl (Za2)),.dat (.sl (.bool)),.dat Iq,.dat (.bool)],[.own (.ol 4 (.flat (.bool)))],λa K=>Zv a λf a=>Zv a λc a=>Zv a λd a=>Zv a λe a=>Zv a λb a=>Yw (Zao f c d e b) λr=>K (r,()) ()⟩
def Zfl (a:List Zm) (c:List Bool) (e b:Int):Option ((Int×Unit) ⊕ Bool):=
if b<(a.length:Int) then
(atI c b).bind λf=>
if f then
(atI a b).bind λd=>
if Zm.From d=e then
if Zm.To d=e then
some (.inr true)
else
some (.inl (Wq (b+1),()))
else
some (.inl (Wq (b+1),()))
else
some (.inl (Wq (b+1),()))
else
some (.inr false)
def ZiJ (a:List Zm) (b:List Bool) (c:Int):Option Bool:=
Zo (λv=>Zfl a b c v.1) ((0:Int),())
def c95:Ctr:=D3 (.sl (Za2)) (.sl (.bool)) Iq (.bool) ZiJ
def Zel (k:Int) (l:List Zm) (j:List Bool) (f:List (List Int)) (g:Int) (d c:List Bool) (b:List Int) (a:Int) (e:List Bool):Option (((List Int)×Int×(List Bool)×Unit) ⊕ (((List (List Int))×Int×(List Bool)×Unit) ⊕ List (List Int))):=
if a<k then
(atI d a).bind λh=>
if h then
(atI c a).bind λi=>
if i then
Zy ((b.length+[a].length)*8<=140737488355328)<|
(atI e a).bind λn=>
some (.inl (b++[a],Wq (a+1),List.set e (Int.toNat a) true,()))
else
some (.inl (b,Wq (a+1),e,()))
else
some (.inl (b,Wq (a+1),e,()))
else
if 1<(b.length:Int) then
Zy ((f.length+[b].length)*24<=140737488355328)<|
some (.inr (.inl (f++[b],Wq (g+1),e,())))
else
(ZiJ l j g).bind λm=>
if m then
Zy ((f.length+[b].length)*24<=140737488355328)<|
some (.inr (.inl (f++[b],Wq (g+1),e,())))
else
some (.inr (.inl (f,Wq (g+1),e,())))
def Zem (b:Int) (f:List Zm) (d:List Bool) (e:List (List Int)) (a:Int) (c:List Bool):Option (((List (List Int))×Int×(List Bool)×Unit) ⊕ List (List Int)):=
if a<b then
(atI c a).bind λg=>
if g then
some (.inl (e,Wq (a+1),c,()))
else
(Zao b f d a true).bind λi=>
(Zao b f d a false).bind λh=>
Zo (λv=>Zel b f d e a i h v.1 v.2.1 v.2.2.1) (([]:List Int),(0:Int),c,())
else
some (.inr e)
def Zhl (a:Int) (b:List Zm) (c:List Bool):Option (List (List Int)):=
Zy ((0:Int)<=a)<|
Zy (a<=a)<|
Zy (a<=4611686018427387904)<|
Zy (((1:Nat):Int)*a<=281474976710656)<|
Zo (λv=>Zem a b c v.1 v.2.1 v.2.2.1) (([]:List (List Int)),(0:Int),List.replicate (Int.toNat a) false,())
def c96:Ctr:=⟨[.dat Iq,.dat (.sl (Za2)),.dat (.sl (.bool))],[.own (.ol 84 (.ol 2 (.flat Iq)))],λa K=>Zv a λc a=>Zv a λd a=>Zv a λb a=>Yw (Zhl c d b) λr=>K (r,()) ()⟩
def JI (c:List Bool) (b:List Int) (a:Int):Option (((List Int)×Int×Unit) ⊕ (((List Bool)×Unit) ⊕ List Int)):=
if a<(c.length:Int) then
(atI c a).bind λd=>
if d then
some (.inl (b,Wq (a+1),()))
else
Zy ((b.length+[a].length)*8<=140737488355328)<|
some (.inl (b++[a],Wq (a+1),()))
else
some (.inr (.inr b))
def JJ (a:List Zm) (f:List Bool) (c b:Int) (d:List (List Int)):Option ((Int×Int×(List (List Int))×Unit) ⊕ (((List Bool)×Unit) ⊕ List Int)):=
if b<(a.length:Int) then
(atI f b).bind λh=>
if h then
(atI a b).bind λg=>
if Zm.Kind g=1 then
(atI d 0).bind λe=>
(ZfM e (Zm.From g)).bind λj=>
if j then
(ZfM e (Zm.To g)).bind λi=>
if i then
some (.inl (b,Wq (b+1),List.set d (Int.toNat 0) e,()))
else
some (.inl (c,Wq (b+1),List.set d (Int.toNat 0) e,()))
else
some (.inl (c,Wq (b+1),List.set d (Int.toNat 0) e,()))
else
some (.inl (c,Wq (b+1),d,()))
else
some (.inl (c,Wq (b+1),d,()))
else
(atI f c).bind λh=>
some (.inr (.inl (List.set f (Int.toNat c) false,())))
def Qa (a:List Zm) (b:Int) (c:List Bool):Option (((List Bool)×Unit) ⊕ List Int):=
(Zhl b a c).bind λd=>
if (d.length:Int)=0 then
Zo (λv=>JI c v.1 v.2.1) (([]:List Int),(0:Int),())
else
Zo (λv=>JJ a c v.1 v.2.1 v.2.2.1) ((-1:Int),(0:Int),d,())
def Zfk (a:Zd):Option (List Int):=
(Zbt a).bind λb=>
(ZeC b (([]:List Int))).bind λc=>
(Jm a).bind λd=>
Zo (λv=>Qa b d v.1) (c,())
def c97:Ctr:=⟨[.dat (YA)],[.own (.ol 2 (.flat Iq))],λa K=>Zv a λb a=>Yw (Zfk b) λr=>K (r,()) ()⟩
def Zc5 (a:List Zj) (c d:Zj) (b:Int):Option ((Int×Unit) ⊕ List Zj):=
if b<(a.length:Int) then
(atI a b).bind λe=>
if Zj.Node e<Zj.Node c then
some (.inl (Wq (b+1),()))
else
if b<(a.length:Int) then
if Zj.Node e=Zj.Node c then
some (.inr a)
else
Zy ((0:Int)<=b)<|
Zy (b<=(a.length:Int))<|
Zy ((a.length:Int)<=(a.length:Int))<|
Zy (([c,d].length+(List.take (Int.toNat (a.length:Int)-Int.toNat b) (List.drop (Int.toNat b) a)).length)*40<=140737488355328)<|
Zy ((([]:List (Int×Zx×Zx×Unit)).length+(List.take (Int.toNat b-Int.toNat (0:Int)) (List.drop (Int.toNat (0:Int)) a)).length)*40<=140737488355328)<|
Zy (((([]:List (Int×Zx×Zx×Unit))++List.take (Int.toNat b-Int.toNat (0:Int)) (List.drop (Int.toNat (0:Int)) a)).length+([c,d]++List.take (Int.toNat (a.length:Int)-Int.toNat b) (List.drop (Int.toNat b) a)).length)*40<=140737488355328)<|
some (.inr (([]:List (Int×Zx×Zx×Unit))++List.take (Int.toNat b-Int.toNat (0:Int)) (List.drop (Int.toNat (0:Int)) a)++([c,d]++List.take (Int.toNat (a.length:Int)-Int.toNat b) (List.drop (Int.toNat b) a))))
else
Zy ((0:Int)<=b)<|
Zy (b<=(a.length:Int))<|
Zy ((a.length:Int)<=(a.length:Int))<|
Zy (([c,d].length+(List.take (Int.toNat (a.length:Int)-Int.toNat b) (List.drop (Int.toNat b) a)).length)*40<=140737488355328)<|
Zy ((([]:List (Int×Zx×Zx×Unit)).length+(List.take (Int.toNat b-Int.toNat (0:Int)) (List.drop (Int.toNat (0:Int)) a)).length)*40<=140737488355328)<|
Zy (((([]:List (Int×Zx×Zx×Unit))++List.take (Int.toNat b-Int.toNat (0:Int)) (List.drop (Int.toNat (0:Int)) a)).length+([c,d]++List.take (Int.toNat (a.length:Int)-Int.toNat b) (List.drop (Int.toNat b) a)).length)*40<=140737488355328)<|
some (.inr (([]:List (Int×Zx×Zx×Unit))++List.take (Int.toNat b-Int.toNat (0:Int)) (List.drop (Int.toNat (0:Int)) a)++([c,d]++List.take (Int.toNat (a.length:Int)-Int.toNat b) (List.drop (Int.toNat b) a))))
else
if b<(a.length:Int) then
(atI a b).bind λe=>
if Zj.Node e=Zj.Node c then
some (.inr a)
else
Zy ((0:Int)<=b)<|
Zy (b<=(a.length:Int))<|
Zy ((a.length:Int)<=(a.length:Int))<|
Zy (([c,d].length+(List.take (Int.toNat (a.length:Int)-Int.toNat b) (List.drop (Int.toNat b) a)).length)*40<=140737488355328)<|
Zy ((([]:List (Int×Zx×Zx×Unit)).length+(List.take (Int.toNat b-Int.toNat (0:Int)) (List.drop (Int.toNat (0:Int)) a)).length)*40<=140737488355328)<|
Zy (((([]:List (Int×Zx×Zx×Unit))++List.take (Int.toNat b-Int.toNat (0:Int)) (List.drop (Int.toNat (0:Int)) a)).length+([c,d]++List.take (Int.toNat (a.length:Int)-Int.toNat b) (List.drop (Int.toNat b) a)).length)*40<=140737488355328)<|
some (.inr (([]:List (Int×Zx×Zx×Unit))++List.take (Int.toNat b-Int.toNat (0:Int)) (List.drop (Int.toNat (0:Int)) a)++([c,d]++List.take (Int.toNat (a.length:Int)-Int.toNat b) (List.drop (Int.toNat b) a))))
else
Zy ((0:Int)<=b)<|
Zy (b<=(a.length:Int))<|
Zy ((a.length:Int)<=(a.length:Int))<|
Zy (([c,d].length+(List.take (Int.toNat (a.length:Int)-Int.toNat b) (List.drop (Int.toNat b) a)).length)*40<=140737488355328)<|
Zy ((([]:List (Int×Zx×Zx×Unit)).length+(List.take (Int.toNat b-Int.toNat (0:Int)) (List.drop (Int.toNat (0:Int)) a)).length)*40<=140737488355328)<|
Zy (((([]:List (Int×Zx×Zx×Unit))++List.take (Int.toNat b-Int.toNat (0:Int)) (List.drop (Int.toNat (0:Int)) a)).length+([c,d]++List.take (Int.toNat (a.length:Int)-Int.toNat b) (List.drop (Int.toNat b) a)).length)*40<=140737488355328)<|
some (.inr (([]:List (Int×Zx×Zx×Unit))++List.take (Int.toNat b-Int.toNat (0:Int)) (List.drop (Int.toNat (0:Int)) a)++([c,d]++List.take (Int.toNat (a.length:Int)-Int.toNat b) (List.drop (Int.toNat b) a))))
def Zen (a:List Zj) (b c:Zj):Option (List Zj):=
Zo (λv=>Zc5 a b c v.1) ((0:Int),())
def c98:Ctr:=D3 (.sl (Qn)) (Qn) (Qn) (.sl (Qn)) Zen
def VU (c:Zu) (e:List Zj) (d:Int):Option (((List Zj)×Int×Unit) ⊕ (((List Zj)×Int×Unit) ⊕ List Zj)):=
if d<((Zu.Jz c).length:Int) then
(atI (Zu.Jz c) d).bind λa=>
(Zhu (Zu.ZM c) (Zg.Clock a)).bind λb=>
(Zen e (Wq (2*Zg.Place a),(Wq (Y2.rise b+Zx.Early (Zg.Delay a)),Wq (Y2.rise b+Zx.Late (Zg.Delay a)),()),a.2.2.2) (Wq (Wq (2*Zg.Place a)+1),(Wq (Y2.rise b+Zx.Early (Zg.Delay a)),Wq (Y2.rise b+Zx.Late (Zg.Delay a)),()),a.2.2.2)).bind λf=>
some (.inl (f,Wq (d+1),()))
else
some (.inr (.inr e))
def VW (b:Zu) (e:List Zj) (c:Int):Option (((List Zj)×Int×Unit) ⊕ List Zj):=
if c<((Zu.ZM b).length:Int) then
(atI (Zu.ZM b) c).bind λa=>
(Zhu (Zu.ZM b) c).bind λd=>
(Zen e (Wq (2*Zc.Place a),(Wq (Y2.rise d+Zc.Yx a),Wq (Y2.rise d+Zc.Xt a),()),(0,0,()),()) (Wq (Wq (2*Zc.Place a)+1),(Wq (Y2.fall d+Zc.Yx a),Wq (Y2.fall d+Zc.Xt a),()),(0,0,()),())).bind λf=>
some (.inl (f,Wq (c+1),()))
else
Zo (λv=>VU b v.1 v.2.1) (e,(0:Int),())
def Zfq (a:Zu):Option (List Zj):=
Zo (λv=>VW a v.1 v.2.1) (([]:List (Int×Zx×Zx×Unit)),(0:Int),())
def c99:Ctr:=D1 (Vi) (.sl (Qn)) Zfq
def Zdn (a:List Int) (d b:Int):Option ((Int×Unit) ⊕ Bool):=
if b<(a.length:Int) then
(atI a b).bind λc=>
(ZQ c 0 (Wq (d-1))).bind λf=>
if f then
if 0<b then
(atI a (Wq (b-1))).bind λe=>
if c<=e then
some (.inr false)
else
some (.inl (Wq (b+1),()))
else
some (.inl (Wq (b+1),()))
else
some (.inr false)
else
some (.inr true)
def Zgd (a:List Int) (b:Int):Option Bool:=
Zo (λv=>Zdn a b v.1) ((0:Int),())
def ZHW:Ctr:=D2 (.sl Iq) Iq (.bool) Zgd
def ZgA (b:Zd) (a:List Int):Option Int:=
(ZcA b).bind λe=>
if e then
(Zbt b).bind λc=>
(Zgd a (c.length:Int)).bind λd=>
if d then
some 0
else
some 2
else
some 1
def ZHe:Ctr:=D2 (YA) (.sl Iq) Iq ZgA
def ZcB (a:Zx):Option Bool:=
(ZQ (Zx.Early a) (-1000000000) 1000000000).bind λc=>
if c then
(ZQ (Zx.Late a) (-1000000000) 1000000000).bind λb=>
if b then
some (decide (Zx.Early a<=Zx.Late a))
else
some false
else
some false
def ZHf:Ctr:=D1 (Xg) (.bool) ZcB
def Zaq (a:List Zj) (b d:Int):Option ((Int×Unit) ⊕ Bool):=
if d<(a.length:Int) then
(atI a d).bind λc=>
(ZQ (Zj.Node c) 0 (Wq (b-1))).bind λh=>
if h then
if 0<d then
(atI a (Wq (d-1))).bind λg=>
if Zj.Node c<=Zj.Node g then
some (.inr false)
else
(ZcB (Zj.Ye c)).bind λe=>
if e then
(Zbw (Zj.QU c)).bind λf=>
if f then
some (.inl (Wq (d+1),()))
else
some (.inr false)
else
some (.inr false)
else
(ZcB (Zj.Ye c)).bind λe=>
if e then
(Zbw (Zj.QU c)).bind λf=>
if f then
some (.inl (Wq (d+1),()))
else
some (.inr false)
else
some (.inr false)
else
some (.inr false)
else
some (.inr true)
def Zfm (b:Zd) (a:List Zj):Option Bool:=
(Jm b).bind λc=>
Zo (λv=>Zaq a c v.1) ((0:Int),())
def ZHX:Ctr:=D2 (YA) (.sl (Qn)) (.bool) Zfm
def XJ (d:Int) (c:List Int) (b f:List Bool) (a:Int):Option ((Int×Unit) ⊕ ((Int×(List Bool)×Unit) ⊕ (((List Int)×(List Bool)×Unit) ⊕ ((List Int)×Bool)))):=
if a<d then
(atI b a).bind λe=>
if e then
some (.inl (Wq (a+1),()))
else
(atI f a).bind λg=>
if g then
some (.inl (Wq (a+1),()))
else
if a=d then
some (.inr (.inr (.inr (([]:List Int),false))))
else
Zy ((c.length+[a].length)*8<=140737488355328)<|
some (.inr (.inr (.inl (c++[a],List.set b (Int.toNat a) true,()))))
else
if a=d then
some (.inr (.inr (.inr (([]:List Int),false))))
else
(atI b a).bind λe=>
Zy ((c.length+[a].length)*8<=140737488355328)<|
some (.inr (.inr (.inl (c++[a],List.set b (Int.toNat a) true,()))))
def JH (j:Int) (e:List Zm) (h:List Bool) (i:List Int) (d:List Bool) (a:Int) (b:List Bool):Option ((Int×(List Bool)×Unit) ⊕ (((List Int)×(List Bool)×Unit) ⊕ ((List Int)×Bool))):=
if a<(e.length:Int) then
(atI h a).bind λf=>
if f then
(atI e a).bind λc=>
(atI d (Zm.From c)).bind λg=>
if g then
some (.inl (Wq (a+1),b,()))
else
(atI b (Zm.To c)).bind λk=>
some (.inl (Wq (a+1),List.set b (Int.toNat (Zm.To c)) true,()))
else
some (.inl (Wq (a+1),b,()))
else
Zo (λv=>XJ j i d b v.1) ((0:Int),())
def VJ (a:Int) (c:List Zm) (e:List Bool) (b:List Int) (d:List Bool):Option (((List Int)×(List Bool)×Unit) ⊕ ((List Int)×Bool)):=
if (b.length:Int)<a then
Zo (λv=>JH a c e b d v.1 v.2.1) ((0:Int),List.replicate (Int.toNat a) false,())
else
some (.inr (b,true))
def Zhk (a:Int) (b:List Zm) (c:List Bool):Option ((List Int)×Bool):=
Zy ((0:Int)<=a)<|
Zy (a<=a)<|
Zy (a<=4611686018427387904)<|
Zy (((1:Nat):Int)*a<=281474976710656)<|
Zo (λv=>VJ a b c v.1 v.2.1) (([]:List Int),List.replicate (Int.toNat a) false,())
def ZHY:Ctr:=⟨[.dat Iq,.dat (.sl (Za2)),.dat (.sl (.bool))],[.own (.ol 2 (.flat Iq)),.dat (.bool)],λa K=>Zv a λc a=>Zv a λd a=>Zv a λb a=>Yw (Zhk c d b) λr=>K (r.1,r.2,()) ()⟩
def Zai (b:Zd) (a:List Int):Option ((List Int)×Int):=
(ZgA b a).bind λe=>
if e=0 then
(Zbt b).bind λc=>
(Jm b).bind λg=>
(ZeC c a).bind λf=>
(Zhk g c f).bind λd=>
if d.2 then
some (d.1,0)
else
some ([],7)
else
some ([],e)
def c105:Ctr:=⟨[.dat (YA),.dat (.sl Iq)],[.own (.ol 2 (.flat Iq)),.dat Iq],λa K=>Zv a λc a=>Zv a λb a=>Yw (Zai c b) λr=>K (r.1,r.2,()) ()⟩
def ZgB (c:Zd) (h:Zt) (a:List Int) (b:List Zj):Option ((List Int)×Int):=
(ZcA c).bind λi=>
if i then
(Zfc h).bind λe=>
if e then
(ZgA c a).bind λg=>
if g=0 then
(Zfm c b).bind λf=>
if f then
(Zai c a).bind λd=>
some (d.1,d.2)
else
some ([],2)
else
some ([],2)
else
some ([],1)
else
some ([],1)
def ZHZ:Ctr:=⟨[.dat (YA),.dat (Yd),.dat (.sl Iq),.dat (.sl (Qn))],[.own (.ol 2 (.flat Iq)),.dat Iq],λa K=>Zv a λd a=>Zv a λe a=>Zv a λc a=>Zv a λb a=>Yw (ZgB d e c b) λr=>K (r.1,r.2,()) ()⟩
def Zj0 (a:Int):Option Zw:=
Zy ((0:Int)<=a)<|
Zy (a<=a)<|
Zy (a<=4611686018427387904)<|
Zy (((1:Nat):Int)*a<=281474976710656)<|
Zy (((16:Nat):Int)*a<=281474976710656)<|
some (List.replicate (Int.toNat a) false,List.replicate (Int.toNat a) ((0:Int),(0:Int),()),List.replicate (Int.toNat a) ((0:Int),(0:Int),()),())
def c107:Ctr:=⟨[.dat Iq],[.own (Zk2)],λa K=>Zv a λb a=>Yw (Zj0 b) λr=>K (r,()) ()⟩
def ZlE (a:List Int):Option (List Int):=
Zy ((([]:List Int).length+a.length)*8<=140737488355328)<|
some (([]:List Int)++a)
def ZH0:Ctr:=⟨[.dat (.sl Iq)],[.own (.ol 2 (.flat Iq))],λa K=>Zv a λb a=>Yw (ZlE b) λr=>K (r,()) ()⟩
def Zsa (c:ZE) (d:Zf) (a:Z9):Option Int:=
if Z9.instance a<0 then
some 0
else
(atI (Zf.Instances d) (Z9.instance a)).bind λb=>
(atI (ZE.Cells c) (Zk.Cell b)).bind λe=>
(atI (Zn.Xi e) (Z9.pin a)).bind λf=>
some (YQ.Cap f)
def c109:Ctr:=D3 (Xf) (YZ) (Zh0) Iq Zsa
def Zni (d:ZB) (a:Int) (b:List Int):Option ((Int×(List Int)×Unit) ⊕ ((Int×(List Int)×Unit) ⊕ List Int)):=
if 0<a then
(atI (ZB.Parent d) a).bind λc=>
(atI b c).bind λf=>
(atI b a).bind λe=>
some (.inl (Wq (a-1),List.set b (Int.toNat c) (Wq (f+e)),()))
else
some (.inr (.inr b))
def ZhT (g:Zd) (e:ZB) (b:List Z9) (a:List Int) (d:Int) (c:List Int):Option ((Int×(List Int)×Unit) ⊕ List Int):=
if d<(a.length:Int) then
(atI (ZB.ZgD e) d).bind λf=>
(atI c f).bind λi=>
(atI a d).bind λh=>
(atI b h).bind λj=>
(Zsa (Zd.Library g) (Zd.Design g) j).bind λk=>
some (.inl (Wq (d+1),List.set c (Int.toNat f) (Wq (i+k)),()))
else
Zo (λv=>Zni e v.1 v.2.1) (Wq ((c.length:Int)-1),c,())
def Zc4 (a:Zd) (c:Int):Option (List Int):=
(atI (Zd.Xo a) c).bind λb=>
(ZlE (ZB.Cap b)).bind λf=>
(XQ (Zd.Design a)).bind λd=>
(Zc3 (Zd.Design a) c).bind λe=>
Zo (λv=>ZhT a b d e v.1 v.2.1) ((0:Int),f,())
def ZHg:Ctr:=⟨[.dat (YA),.dat Iq],[.own (.ol 2 (.flat Iq))],λa K=>Zv a λb a=>Zv a λc a=>Yw (Zc4 b c) λr=>K (r,()) ()⟩
def ZhV (a:Zd) (b:Zm):Option (ZG×Int):=
(XQ (Zd.Design a)).bind λi=>
(atI i (Wq (Int.tdiv (Zm.To b) 2))).bind λc=>
(atI (Zf.Instances (Zd.Design a)) (Z9.instance c)).bind λf=>
(atI (ZE.Cells (Zd.Library a)) (Zk.Cell f)).bind λe=>
(atI (Zn.Zay e) (Zm.Index b)).bind λg=>
(Zc4 a (Z9.net c)).bind λd=>
(atI d 0).bind λh=>
some (g,h)
def ZHh:Ctr:=⟨[.dat (YA),.dat (Za2)],[.dat (ZgE),.dat Iq],λa K=>Zv a λc a=>Zv a λb a=>Yw (ZhV c b) λr=>K (r.1,r.2,()) ()⟩
def Zak (a:List Int) (c d e b:Int):Option ((Int×Unit) ⊕ (Int×Int×Int)):=
if 0<=b then
(atI a b).bind λf=>
if Min.min (Max.max c d) e=f then
some (.inr (b,1,0))
else
if f<Min.min (Max.max c d) e then
(atI a (Wq (b+1))).bind λg=>
some (.inr (b,Wq (g-Min.min (Max.max c d) e),Wq (Min.min (Max.max c d) e-f)))
else
some (.inl (Wq (b-1),()))
else
some (.inr (0,1,0))
def ZcC (a:List Int) (b:Int):Option (Int×Int×Int):=
(atI a 0).bind λc=>
(atI a (Wq ((a.length:Int)-1))).bind λd=>
Zo (λv=>Zak a b c d v.1) (Wq ((a.length:Int)-1),())
def ZH1:Ctr:=⟨[.dat (.sl Iq),.dat Iq],[.dat Iq,.dat Iq,.dat Iq],λa K=>Zv a λb a=>Zv a λc a=>Yw (ZcC b c) λr=>K (r.1,r.2.1,r.2.2,()) ()⟩
def Y8 (b a c:Int):Option Int:=
Zy (a≠0)<|
if Int.tmod b a<0 then
if c=0 then
some (Wq (Wq (Int.tdiv b a)-1))
else
if 0<Int.tmod b a then
if c=1 then
some (Wq (Wq (Int.tdiv b a)+1))
else
some (Wq (Int.tdiv b a))
else
some (Wq (Int.tdiv b a))
else
if 0<Int.tmod b a then
if c=1 then
some (Wq (Wq (Int.tdiv b a)+1))
else
some (Wq (Int.tdiv b a))
else
some (Wq (Int.tdiv b a))
def ZFG:Ctr:=D3 Iq Iq Iq Iq Y8
def Qv (e:Zz) (b a:Int×Int×Int) (g d c:Int):Option ((Int×Int×Unit) ⊕ ((Int×Int×Unit) ⊕ Int)):=
if c<2 then
if g=1 then
if c=0 then
if 0<Wq (b.2.2*a.2.1) then
(atI (Zz.Values e) (Wq (Wq (Wq (Wq (b.1+g)*((Zz.Loads e).length:Int))+a.1)+c))).bind λf=>
some (.inl (Wq (d+Wq (Wq (b.2.2*a.2.1)*f)),Wq (c+1),()))
else
some (.inl (d,Wq (c+1),()))
else
if 0<Wq (b.2.2*a.2.2) then
(atI (Zz.Values e) (Wq (Wq (Wq (Wq (b.1+g)*((Zz.Loads e).length:Int))+a.1)+c))).bind λf=>
some (.inl (Wq (d+Wq (Wq (b.2.2*a.2.2)*f)),Wq (c+1),()))
else
some (.inl (d,Wq (c+1),()))
else
if c=0 then
if 0<Wq (b.2.1*a.2.1) then
(atI (Zz.Values e) (Wq (Wq (Wq (Wq (b.1+g)*((Zz.Loads e).length:Int))+a.1)+c))).bind λf=>
some (.inl (Wq (d+Wq (Wq (b.2.1*a.2.1)*f)),Wq (c+1),()))
else
some (.inl (d,Wq (c+1),()))
else
if 0<Wq (b.2.1*a.2.2) then
(atI (Zz.Values e) (Wq (Wq (Wq (Wq (b.1+g)*((Zz.Loads e).length:Int))+a.1)+c))).bind λf=>
some (.inl (Wq (d+Wq (Wq (b.2.1*a.2.2)*f)),Wq (c+1),()))
else
some (.inl (d,Wq (c+1),()))
else
some (.inr (.inl (d,Wq (g+1),())))
def Vg (e:Zz) (f:Int) (a b:Int×Int×Int) (d c:Int):Option ((Int×Int×Unit) ⊕ Int):=
if c<2 then
Zo (λv=>Qv e a b c v.1 v.2.1) (d,(0:Int),())
else
(Y8 d (Wq (Wq (a.2.1+a.2.2)*Wq (b.2.1+b.2.2))) f).bind λg=>
some (.inr g)
def Zgy (a:Zz) (c e d:Int):Option Int:=
(ZcC (Zz.Zgg a) c).bind λf=>
(ZcC (Zz.Loads a) e).bind λb=>
Zo (λv=>Vg a d f b v.1 v.2.1) ((0:Int),(0:Int),())
def ZHi:Ctr:=D4 (Xw) Iq Iq Iq Iq Zgy
def ZhW (a:Zd) (c:Zm):Option Int:=
(XQ (Zd.Design a)).bind λd=>
(atI d (Wq (Int.tdiv (Zm.To c) 2))).bind λb=>
some (Z9.net b)
def ZHj:Ctr:=D2 (YA) (Za2) Iq ZhW
def Zdm (d:ZB) (a b:List Int) (c:Int):Option (((List Int)×Int×Unit) ⊕ List Int):=
if c<(a.length:Int) then
(atI (ZB.Parent d) c).bind λh=>
(atI b h).bind λf=>
(atI (ZB.Res d) c).bind λe=>
(atI a c).bind λg=>
Zy ((b.length+[Wq (f+Wq (e*g))].length)*8<=140737488355328)<|
some (.inl (b++[Wq (f+Wq (e*g))],Wq (c+1),()))
else
some (.inr b)
def ZdA (b:Zd) (a:Int):Option (List Int):=
(atI (Zd.Xo b) a).bind λc=>
(Zc4 b a).bind λd=>
Zo (λv=>Zdm c d v.1 v.2.1) ([(0:Int)],(1:Int),())
def c116:Ctr:=⟨[.dat (YA),.dat Iq],[.own (.ol 2 (.flat Iq))],λa K=>Zv a λc a=>Zv a λb a=>Yw (ZdA c b) λr=>K (r,()) ()⟩
def ZaZ (j:Zd) (d c:Int) (a b:List Int) (e:Int):Option (((List Int)×Int×Unit) ⊕ List Int):=
(atI (Zd.Xo j) d).bind λf=>
if e<((ZB.ZgD f).length:Int) then
(atI (ZB.ZgD f) e).bind λh=>
(atI a h).bind λi=>
(Y8 i 1000 c).bind λg=>
Zy ((b.length+[g].length)*8<=140737488355328)<|
some (.inl (b++[g],Wq (e+1),()))
else
some (.inr b)
def Zb3 (c:Zd) (a b:Int):Option (List Int):=
(ZdA c a).bind λd=>
Zo (λv=>ZaZ c a b d v.1 v.2.1) (([]:List Int),(0:Int),())
def c117:Ctr:=⟨[.dat (YA),.dat Iq,.dat Iq],[.own (.ol 2 (.flat Iq))],λa K=>Zv a λd a=>Zv a λc a=>Zv a λb a=>Yw (Zb3 d c b) λr=>K (r,()) ()⟩
def ZdB (b:Zt) (c a:Int):Option Int:=
if c=1 then
if a=0 then
some (Zt.QW b)
else
some (Zt.JY b)
else
if a=0 then
some (Zt.J2 b)
else
some (Zt.ZcJ b)
def ZH2:Ctr:=D3 (Yd) Iq Iq Iq ZdB
def Zbv (g:Zd) (h:Zt) (b:Zm) (c a:Int):Option Int:=
if Zm.Kind b=1 then
(ZhV g b).bind λi=>
(atI i.1.2.2.2.2.1 (Int.tmod (Zm.To b) 2)).bind λe=>
(Zgy e c i.2 a).bind λj=>
(ZdB h (Zm.Kind b) a).bind λf=>
(Y8 (Wq (j*f)) 1000 a).bind λd=>
some d
else
(ZhW g b).bind λk=>
(Zb3 g k a).bind λl=>
(atI l (Zm.Index b)).bind λe=>
(ZdB h (Zm.Kind b) a).bind λf=>
(Y8 (Wq (e*f)) 1000 a).bind λd=>
some d
def c119:Ctr:=⟨[.dat (YA),.dat (Yd),.dat (Za2),.dat Iq,.dat Iq],[.dat Iq],λa K=>Zv a λe a=>Zv a λf a=>Zv a λd a=>Zv a λb a=>Zv a λc a=>Yw (Zbv e f d b c) λr=>K (r,()) ()⟩
def Zam (d c a b:Int):Option ((Int×Int×Unit) ⊕ Int):=
if a<b then
if Wq (Wq (Int.tdiv (Wq (Wq (a+b)+1)) 2)*Wq (Int.tdiv (Wq (Wq (a+b)+1)) 2))<=d then
some (.inl (Wq (Int.tdiv (Wq (Wq (a+b)+1)) 2),b,()))
else
some (.inl (a,Wq (Wq (Int.tdiv (Wq (Wq (a+b)+1)) 2)-1),()))
else
if c=1 then
if Wq (a*a)<d then
some (.inr (Wq (a+1)))
else
some (.inr a)
else
some (.inr a)
def Zgz (b a:Int):Option Int:=
Zo (λv=>Zam b a v.1 v.2.1) ((0:Int),(2000000000:Int),())
def ZH3:Ctr:=D2 Iq Iq Iq Zgz
def ZlF (f:Zd) (c d a b:Int):Option Int:=
(atI (Zd.Xo f) c).bind λg=>
(atI (ZB.ZgD g) d).bind λi=>
(ZdA f c).bind λk=>
(atI k i).bind λe=>
(Zgz (Wq (Wq (Wq (1000000*a)*a)+Wq (Wq (4*e)*e))) b).bind λh=>
(Y8 h 1000 b).bind λj=>
some j
def ZH4:Ctr:=⟨[.dat (YA),.dat Iq,.dat Iq,.dat Iq,.dat Iq],[.dat Iq],λa K=>Zv a λf a=>Zv a λe a=>Zv a λd a=>Zv a λb a=>Zv a λc a=>Yw (ZlF f e d b c) λr=>K (r,()) ()⟩
def ZcE (d:Zd) (c:Zm) (a b:Int):Option Int:=
if Zm.Kind c=1 then
(ZhV d c).bind λe=>
(atI e.1.2.2.2.2.2.1 (Int.tmod (Zm.To c) 2)).bind λh=>
(Zgy h a e.2 b).bind λf=>
some f
else
(ZhW d c).bind λi=>
(ZlF d i (Zm.Index c) a b).bind λg=>
some (Min.min 1000000 g)
def ZH5:Ctr:=D4 (YA) (Za2) Iq Iq Iq ZcE
def Zfn (c:Zd) (d:Zt) (b:Zm) (a:Zx):Option (Zx×Zx):=
(Zbv c d b (Zx.Early a) 0).bind λl=>
(Zbv c d b (Zx.Early a) 1).bind λe=>
(ZcE c b (Zx.Early a) 0).bind λk=>
(ZcE c b (Zx.Early a) 1).bind λg=>
(Zbv c d b (Zx.Late a) 0).bind λh=>
(Zbv c d b (Zx.Late a) 1).bind λj=>
(ZcE c b (Zx.Late a) 0).bind λi=>
(ZcE c b (Zx.Late a) 1).bind λf=>
some ((Min.min l h,Max.max e j,()),(Min.min k i,Max.max g f,()))
def ZH6:Ctr:=⟨[.dat (YA),.dat (Yd),.dat (Za2),.dat (Xg)],[.dat (Xg),.dat (Xg)],λa K=>Zv a λd a=>Zv a λe a=>Zv a λc a=>Zv a λb a=>Yw (Zfn d e c b) λr=>K (r.1,r.2,()) ()⟩
def ZlG (a b:Zx):Option Zx:=
some (Min.min (Zx.Early a) (Zx.Early b),Max.max (Zx.Late a) (Zx.Late b),())
def c124:Ctr:=D2 (Xg) (Xg) (Xg) ZlG
def Vh (t:Zd) (u:Zt) (m:List Zm) (q:List Bool) (k:Zw) (l:Int) (d:Bool) (a i h g e f:Int):Option ((Bool×Int×Int×Int×Int×Int×Int×Unit) ⊕ ((Bool×Int×Int×Int×Int×Int×Int×Unit) ⊕ (Bool×Zj))):=
if a<(m.length:Int) then
(atI m a).bind λc=>
(atI q a).bind λs=>
if s then
if Zm.To c=l then
(atI (Zw.Reached k) (Zm.From c)).bind λr=>
if r then
(atI (Zw.QU k) (Zm.From c)).bind λp=>
(Zfn t u c p).bind λb=>
(atI (Zw.Ye k) (Zm.From c)).bind λj=>
if d then
(ZlG (Wq (Zx.Early j+b.1.1),Wq (Zx.Late j+b.1.2.1),()) (h,g,())).bind λn=>
(ZlG b.2 (e,f,())).bind λo=>
some (.inl (true,Wq (a+1),l,Zx.Early n,Zx.Late n,Zx.Early o,Zx.Late o,()))
else
some (.inl (true,Wq (a+1),l,Wq (Zx.Early j+b.1.1),Wq (Zx.Late j+b.1.2.1),b.2.1,b.2.2.1,()))
else
some (.inl (d,Wq (a+1),i,h,g,e,f,()))
else
some (.inl (d,Wq (a+1),i,h,g,e,f,()))
else
some (.inl (d,Wq (a+1),i,h,g,e,f,()))
else
some (.inr (.inr (d,(i,(h,g,()),(e,f,()),()))))
def Zap (m:Zd) (o:Zt) (l:List Zm) (k:List Bool) (i:List Zj) (n:Zw) (g:Int) (d:Bool) (b h c j f e:Int):Option ((Bool×Int×Int×Int×Int×Int×Int×Unit) ⊕ (Bool×Zj)):=
if b<(i.length:Int) then
(atI i b).bind λa=>
if Zj.Node a=g then
some (.inl (true,Wq (b+1),Zj.Node a,Zx.Early (Zj.Ye a),Zx.Late (Zj.Ye a),Zx.Early (Zj.QU a),Zx.Late (Zj.QU a),()))
else
some (.inl (d,Wq (b+1),h,c,j,f,e,()))
else
Zo (λv=>Vh m o l k n g v.1 v.2.1 v.2.2.1 v.2.2.2.1 v.2.2.2.2.1 v.2.2.2.2.2.1 v.2.2.2.2.2.2.1) (d,(0:Int),h,c,j,f,e,())
def Zbb (a:Zd) (c:Zt) (g:List Zm) (e:List Bool) (f:List Zj) (b:Zw) (d:Int):Option (Bool×Zj):=
Zo (λv=>Zap a c g e f b d v.1 v.2.1 v.2.2.1 v.2.2.2.1 v.2.2.2.2.1 v.2.2.2.2.2.1 v.2.2.2.2.2.2.1) (false,(0:Int),(0:Int),(0:Int),(0:Int),(0:Int),(0:Int),())
def ZH7:Ctr:=⟨[.dat (YA),.dat (Yd),.dat (.sl (Za2)),.dat (.sl (.bool)),.dat (.sl (Qn)),.dat (QT),.dat Iq],[.dat (.bool),.dat (Qn)],λa K=>Zv a λe a=>Zv a λg a=>Zv a λd a=>Zv a λb a=>Zv a λh a=>Zv a λf a=>Zv a λc a=>Yw (Zbb e g d b h f c) λr=>K (r.1,r.2,()) ()⟩
def XR (o:Zd) (p:Zt) (l:List Zm) (k:List Bool) (m:List Zj) (h:List Int) (e:Int) (i:List Bool) (g j:List Zx) (d:List Bool) (c b:List Zx):Option ((Int×(List Bool)×(List Zx)×(List Zx)×(List Bool)×(List Zx)×(List Zx)×Unit) ⊕ (Zw×Bool)):=
if e<(h.length:Int) then
(atI h e).bind λa=>
(Zbb o p l k m (d,c,b,()) a).bind λf=>
if f.1 then
(ZcB f.2.2.1).bind λn=>
if n then
(atI d a).bind λs=>
(atI c a).bind λr=>
(atI b a).bind λq=>
some (.inl (Wq (e+1),i,g,j,List.set d (Int.toNat a) true,List.set c (Int.toNat a) f.2.2.1,List.set b (Int.toNat a) f.2.2.2.1,()))
else
some (.inr ((([]:List Bool),([]:List Zx),([]:List Zx),()),false))
else
some (.inl (Wq (e+1),i,g,j,d,c,b,()))
else
some (.inr ((d,c,b,()),true))
def ZhX (b:Zd) (f:Zt) (d:List Zm) (c:List Bool) (g:List Zj) (e:List Int):Option (Zw×Bool):=
(Jm b).bind λh=>
(Zj0 h).bind λa=>
Zo (λv=>XR b f d c g e v.1 v.2.1 v.2.2.1 v.2.2.2.1 v.2.2.2.2.1 v.2.2.2.2.2.1 v.2.2.2.2.2.2.1) ((0:Int),([]:List Bool),([]:List Zx),([]:List Zx),Zw.Reached a,Zw.Ye a,Zw.QU a,())
def ZH8:Ctr:=⟨[.dat (YA),.dat (Yd),.dat (.sl (Za2)),.dat (.sl (.bool)),.dat (.sl (Qn)),.dat (.sl Iq)],[.own (Zk2),.dat (.bool)],λa K=>Zv a λd a=>Zv a λf a=>Zv a λc a=>Zv a λb a=>Zv a λg a=>Zv a λe a=>Yw (ZhX d f c b g e) λr=>K (r.1,r.2,()) ()⟩
def ZaK (c:Zd) (g:Zt) (b:List Int) (a:List Zj):Option (Zw×Int):=
(ZgB c g b a).bind λd=>
if d.2=0 then
(Zbt c).bind λe=>
(ZeC e b).bind λh=>
(ZhX c g e h a d.1).bind λf=>
if f.2 then
some (f.1,0)
else
some (([],[],[],()),3)
else
some (([],[],[],()),d.2)
def c127:Ctr:=⟨[.dat (YA),.dat (Yd),.dat (.sl Iq),.dat (.sl (Qn))],[.own (Zk2),.dat Iq],λa K=>Zv a λd a=>Zv a λe a=>Zv a λc a=>Zv a λb a=>Yw (ZaK d e c b) λr=>K (r.1,r.2,()) ()⟩
def JX (c:Zd) (b:Zu) (a:Int):Option (Zw×Int):=
(ZiG c b).bind λi=>
if i then
(ZQ a 0 (Wq (((Zu.VE b).length:Int)-1))).bind λe=>
if e then
(atI (Zu.VE b) a).bind λf=>
(Zfk c).bind λh=>
(Zfq b).bind λg=>
(ZaK c f h g).bind λd=>
some (d.1,d.2)
else
some (([],[],[],()),4)
else
some (([],[],[],()),1)
def ZH9:Ctr:=⟨[.dat (YA),.dat (Vi),.dat Iq],[.own (Zk2),.dat Iq],λa K=>Zv a λd a=>Zv a λc a=>Zv a λb a=>Yw (JX d c b) λr=>K (r.1,r.2,()) ()⟩
def ZV (c b a:Int):Option Bool:=
if b<=c then
some (decide (c<=a))
else
some false
def Zsp:Ctr:=D3 Iq Iq Iq (.bool) ZV
def Zfz (a:List UInt8):Option Bool:=
(ZV (a.length:Int) 1 8).bind λc=>
if c then
Zy (a.length<=1000000)<|
if Go.Lib.trimS a [(97:UInt8),98,99,100,101,102,103,104,105,106,107,108,109,110,111,112,113,114,115,116,117,118,119,120,121,122,48,49,50,51,52,53,54,55,56,57]=([]:List UInt8) then
(atI a 0).bind λb=>
some (decide ((0:Int)<=Go.Lib.indexByte [(97:UInt8),98,99,100,101,102,103,104,105,106,107,108,109,110,111,112,113,114,115,116,117,118,119,120,121,122] (Nat.toUInt8 (Int.toNat ((UInt8.toNat b):Int)))))
else
some false
else
some false
def c130:Ctr:=D1 (.str) (.bool) Zfz
def ZaG (a:List YQ):Option Int:=
some (a.length:Int)
def c131:Ctr:=D1 (.sl (Zge)) Iq ZaG
def Vf (b:List (List UInt8)) (d:List UInt8) (a:Int):Option ((Int×Unit) ⊕ Int):=
if a<(b.length:Int) then
(atI b a).bind λc=>
if d=c then
some (.inr a)
else
some (.inl (Wq (a+1),()))
else
some (.inr (-1))
def Ve (a:List (List UInt8)) (b:List UInt8):Option Int:=
Zo (λv=>Vf a b v.1) ((0:Int),())
def ZIa:Ctr:=D2 (.sl (.str)) (.str) Iq Ve
def Qu (a:List (List UInt8)) (b:List UInt8):Option Bool:=
(Ve a b).bind λc=>
some (decide (0<=c))
def ZIb:Ctr:=D2 (.sl (.str)) (.str) (.bool) Qu
def ZdW (a:List (List UInt8)) (b:Int):Option ((Int×Unit) ⊕ Bool):=
if b<(a.length:Int) then
(atI a b).bind λc=>
(Zfz c).bind λe=>
if e then
Zy ((0:Int)<=b)<|
Zy (b<=(a.length:Int))<|
(Qu (List.take (Int.toNat b-Int.toNat 0) (List.drop (Int.toNat 0) a)) c).bind λd=>
if d then
some (.inr false)
else
some (.inl (Wq (b+1),()))
else
some (.inr false)
else
some (.inr true)
def VN (a:List (List UInt8)):Option Bool:=
Zo (λv=>ZdW a v.1) ((0:Int),())
def ZDF:Ctr:=D1 (.sl (.str)) (.bool) VN
def Zaa (b:List YQ) (a:List (List UInt8)) (d:Int):Option (((List (List UInt8))×Int×Unit) ⊕ Bool):=
if d<(b.length:Int) then
(atI b d).bind λc=>
Zy ((a.length+[YQ.Name c].length)*16<=140737488355328)<|
if d=Wq ((b.length:Int)-1) then
if YQ.Dir c=2 then
if YQ.Cap c=0 then
if (YQ.Clock c)=true then
some (.inr false)
else
some (.inl (a++[YQ.Name c],Wq (d+1),()))
else
some (.inr false)
else
some (.inr false)
else
if YQ.Dir c=1 then
(ZV (YQ.Cap c) 0 500).bind λe=>
if e then
some (.inl (a++[YQ.Name c],Wq (d+1),()))
else
some (.inr false)
else
some (.inr false)
else
(ZaG b).bind λf=>
(ZV f 2 5).bind λe=>
if e then
(VN a).bind λg=>
some (.inr g)
else
some (.inr false)
def Zif (a:List YQ):Option Bool:=
Zo (λv=>Zaa a v.1 v.2.1) (([]:List (List UInt8)),(0:Int),())
def ZIc:Ctr:=D1 (.sl (Zge)) (.bool) Zif
def Zih (a:Int):Option Bool:=
if a=4 then
some true
else
some (decide (a=5))
def ZId:Ctr:=D1 Iq (.bool) Zih
def QK (a:List Int):Option Int:=
some (a.length:Int)
def ZFZ:Ctr:=D1 (.sl Iq) Iq QK
def Zfx (c a b:Int):Option Bool:=
(ZV c a b).bind λd=>
some !d
def c138:Ctr:=D3 Iq (.ptr Iq) (.ptr Iq) (.bool) Zfx
def YD (b:List Int) (c:Int×Int×Unit) (a:Int):Option ((Int×Unit) ⊕ Int):=
if a<(b.length:Int) then
(atI b a).bind λd=>
(Zfx d c.1 c.2.1).bind λe=>
if e then
some (.inr a)
else
some (.inl (Wq (a+1),()))
else
some (.inr (-1))
def Yu (a:List Int) (b:Int×Int×Unit):Option Int:=
Zo (λv=>YD a b v.1) ((0:Int),())
def c139:Ctr:=D2 (.sl Iq) (.fn 294 (.pair (.ptr Iq) (.pair (.ptr Iq) (.unit)))) Iq Yu
def YM (a:List Int) (b:Int×Int×Unit):Option Bool:=
(Yu a b).bind λc=>
some (decide (0<=c))
def ZIe:Ctr:=D2 (.sl Iq) (.fn 294 (.pair (.ptr Iq) (.pair (.ptr Iq) (.unit)))) (.bool) YM
def XO (a:List Int) (c b:Int):Option Bool:=
(YM a (c,b,())).bind λd=>
some !d
def c141:Ctr:=D3 (.sl Iq) Iq Iq (.bool) XO
def Q0 (a:List Int) (b:Int):Option ((Int×Unit) ⊕ Bool):=
if b<(a.length:Int) then
(atI a (Wq (b-1))).bind λc=>
(atI a b).bind λd=>
if d<=c then
some (.inr false)
else
some (.inl (Wq (b+1),()))
else
some (.inr true)
def QJ (a:List Int):Option Bool:=
Zo (λv=>Q0 a v.1) ((1:Int),())
def ZHk:Ctr:=D1 (.sl Iq) (.bool) QJ
def ZhE (a:List Int):Option Bool:=
(QK a).bind λe=>
(ZV e 1 4).bind λb=>
if b then
(XO a 0 100000).bind λd=>
if d then
(QJ a).bind λc=>
some c
else
some false
else
some false
def c143:Ctr:=D1 (.sl Iq) (.bool) ZhE
def Zie (a:Zz):Option Bool:=
(ZhE (Zz.Zgg a)).bind λd=>
if d then
(ZhE (Zz.Loads a)).bind λb=>
if b then
if ((Zz.Values a).length:Int)=Wq (((Zz.Zgg a).length:Int)*((Zz.Loads a).length:Int)) then
(XO (Zz.Values a) (-1000000) 1000000).bind λc=>
some c
else
some false
else
some false
else
some false
def ZIf:Ctr:=D1 (Xw) (.bool) Zie
def V7 (b:List Int) (c a:Int):Option ((Int×Int×Unit) ⊕ Int):=
if a<(b.length:Int) then
(atI b a).bind λd=>
some (.inl (Min.min c d,Wq (a+1),()))
else
some (.inr c)
def Jl (a:List Int):Option Int:=
if (a.length:Int)<1 then
none
else
(atI a 0).bind λb=>
Zo (λv=>V7 a v.1 v.2.1) (b,(1:Int),())
def c145:Ctr:=D1 (.sl Iq) Iq Jl
def Jt (a:Zz) (c:Bool):Option Bool:=
(Zie a).bind λd=>
if d then
if c then
(Jl (Zz.Values a)).bind λb=>
some (decide (b<0))
else
some false
else
some true
def c146:Ctr:=D2 (Xw) (.ptr (.bool)) (.bool) Jt
def Yk (b:List Zz) (d:Bool×Unit) (a:Int):Option ((Int×Unit) ⊕ Int):=
if a<(b.length:Int) then
(atI b a).bind λc=>
(Jt c d.1).bind λe=>
if e then
some (.inr a)
else
some (.inl (Wq (a+1),()))
else
some (.inr (-1))
def Z4 (a:List Zz) (b:Bool×Unit):Option Int:=
Zo (λv=>Yk a b v.1) ((0:Int),())
def ZIg:Ctr:=D2 (.sl (Xw)) (.fn 367 (.pair (.ptr (.bool)) (.unit))) Iq Z4
def ZT (a:List Zz) (b:Bool×Unit):Option Bool:=
(Z4 a b).bind λc=>
some (decide (0<=c))
def c148:Ctr:=D2 (.sl (Xw)) (.fn 367 (.pair (.ptr (.bool)) (.unit))) (.bool) ZT
def ZbJ (b:List Zz) (a:Bool):Option Bool:=
if (b.length:Int)=2 then
(ZT b (a,())).bind λc=>
some !c
else
some false
def ZIh:Ctr:=D2 (.sl (Xw)) (.bool) (.bool) ZbJ
def ZeN (a:YQ):Option Bool:=
some (YQ.Clock a)
def ZIi:Ctr:=D1 (Zge) (.bool) ZeN
def Yq (b:List YQ) (a:Int):Option ((Int×Unit) ⊕ Int):=
if a<(b.length:Int) then
(atI b a).bind λc=>
(ZeN c).bind λd=>
if d then
some (.inr a)
else
some (.inl (Wq (a+1),()))
else
some (.inr (-1))
def Ya (a:List YQ) (b:Unit):Option Int:=
Zo (λv=>Yq a v.1) ((0:Int),())
def ZIj:Ctr:=D2 (.sl (Zge)) (.fn 371 (.unit)) Iq Ya
def ZeM (a:Zn):Option Int:=
(Ya (Zn.Xi a) ()).bind λb=>
some b
def c152:Ctr:=D1 (V8) Iq ZeM
def Zbz (a:Zn):Option Int:=
(ZaG (Zn.Xi a)).bind λb=>
some (Wq (b-1))
def ZF0:Ctr:=D1 (V8) Iq Zbz
def ZaN (c:Zn) (a:Int):Option Bool:=
(Zbz c).bind λd=>
(ZV a 0 (Wq (d-1))).bind λb=>
some b
def c154:Ctr:=D2 (V8) Iq (.bool) ZaN
def ZeO (b:Zn) (a:ZG):Option Bool:=
(Zih (ZG.Kind a)).bind λj=>
if j then
if ZG.JZ a=0 then
if ((ZG.QU a).length:Int)=0 then
(ZbJ (ZG.Delay a) false).bind λd=>
if d then
(ZeM b).bind λi=>
if ZG.From a=i then
if 0<=ZG.From a then
(ZaN b (ZG.To a)).bind λe=>
if e then
some (!decide (ZG.To a=ZG.From a))
else
some false
else
some false
else
some false
else
some false
else
some false
else
some false
else
(ZbJ (ZG.Delay a) true).bind λd=>
if d then
(ZbJ (ZG.QU a) true).bind λf=>
if f then
(Zbz b).bind λh=>
if ZG.To a=h then
(ZaN b (ZG.From a)).bind λe=>
if e then
if ZG.Kind a=1 then
(atI (Zn.Xi b) (ZG.From a)).bind λc=>
if (YQ.Clock c)=true then
some false
else
(ZV (ZG.JZ a) 1 3).bind λg=>
some g
else
if ZG.Kind a=2 then
if ZG.Kind a=2 then
(atI (Zn.Xi b) (ZG.From a)).bind λc=>
if (YQ.Clock c)=true then
some (decide (ZG.JZ a=0))
else
some false
else
some false
else
if ZG.Kind a=3 then
(atI (Zn.Xi b) (ZG.From a)).bind λc=>
if (YQ.Clock c)=true then
some (decide (ZG.JZ a=0))
else
some false
else
some false
else
some false
else
some false
else
some false
else
some false
def ZIk:Ctr:=D2 (V8) (ZgE) (.bool) ZeO
def Vn (a b:ZG):Option Bool:=
if ZG.Kind a=ZG.Kind b then
if ZG.From a=ZG.From b then
some (decide (ZG.To a=ZG.To b))
else
some false
else
some false
def c156:Ctr:=D2 (ZgE) (.ptr (ZgE)) (.bool) Vn
def Ym (b:List ZG) (d:ZG×Unit) (a:Int):Option ((Int×Unit) ⊕ Int):=
if a<(b.length:Int) then
(atI b a).bind λc=>
(Vn c d.1).bind λe=>
if e then
some (.inr a)
else
some (.inl (Wq (a+1),()))
else
some (.inr (-1))
def Z6 (a:List ZG) (b:ZG×Unit):Option Int:=
Zo (λv=>Ym a b v.1) ((0:Int),())
def c157:Ctr:=D2 (.sl (ZgE)) (.fn 340 (.pair (.ptr (ZgE)) (.unit))) Iq Z6
def ZX (a:List ZG) (b:ZG×Unit):Option Bool:=
(Z6 a b).bind λc=>
some (decide (0<=c))
def ZIl:Ctr:=D2 (.sl (ZgE)) (.fn 340 (.pair (.ptr (ZgE)) (.unit))) (.bool) ZX
def Zbf (a:Zn) (b:Int):Option ((Int×Unit) ⊕ Bool):=
if b<((Zn.Zay a).length:Int) then
(atI (Zn.Zay a) b).bind λc=>
(ZeO a c).bind λe=>
if e then
Zy ((0:Int)<=b)<|
Zy (b<=((Zn.Zay a).length:Int))<|
(ZX (List.take (Int.toNat b-Int.toNat 0) (List.drop (Int.toNat 0) (Zn.Zay a))) (c,())).bind λd=>
if d then
some (.inr false)
else
some (.inl (Wq (b+1),()))
else
some (.inr false)
else
some (.inr (decide (((Zn.Zay a).length:Int)<=8)))
def ZcP (a:Zn):Option Bool:=
Zo (λv=>Zbf a v.1) ((0:Int),())
def c159:Ctr:=D1 (V8) (.bool) ZcP
def ZdE (a:ZG) (b:Int):Option Bool:=
some (decide (ZG.Kind a=b))
def c160:Ctr:=D2 (ZgE) (.ptr Iq) (.bool) ZdE
def Yv (b:List ZG) (d:Int×Unit) (a:Int):Option ((Int×Unit) ⊕ Int):=
if a<(b.length:Int) then
(atI b a).bind λc=>
(ZdE c d.1).bind λe=>
if e then
some (.inr a)
else
some (.inl (Wq (a+1),()))
else
some (.inr (-1))
def Yf (a:List ZG) (b:Int×Unit):Option Int:=
Zo (λv=>Yv a b v.1) ((0:Int),())
def ZIm:Ctr:=D2 (.sl (ZgE)) (.fn 358 (.pair (.ptr Iq) (.unit))) Iq Yf
def Z7 (a:List ZG) (b:Int×Unit):Option Bool:=
(Yf a b).bind λc=>
some (decide (0<=c))
def c162:Ctr:=D2 (.sl (ZgE)) (.fn 358 (.pair (.ptr Iq) (.unit))) (.bool) Z7
def Jj (b:Zn) (a:Int):Option Bool:=
(Z7 (Zn.Zay b) (a,())).bind λc=>
some c
def ZIn:Ctr:=D2 (V8) Iq (.bool) Jj
def QI (a:Zn) (b c:Int):Option ((Int×Int×Unit) ⊕ Bool):=
if c<((Zn.Xi a).length:Int) then
(atI (Zn.Xi a) c).bind λh=>
if (YQ.Clock h)=true then
some (.inl (Wq (b+1),Wq (c+1),()))
else
some (.inl (b,Wq (c+1),()))
else
if Zn.Kind a=1 then
if b=0 then
(Zbz a).bind λg=>
Zy ((0:Int)<=g)<|
if ((Zn.Truth a).length:Int)=Wq (1*2 ^ Min.min (Int.toNat g) (IntKind.bits IntKind.i64)) then
(XO (Zn.Truth a) 0 1).bind λi=>
some (.inr i)
else
some (.inr false)
else
some (.inr false)
else
if Zn.Kind a=2 then
if b=1 then
if ((Zn.Truth a).length:Int)=0 then
(Jj a 1).bind λf=>
if f then
some (.inr false)
else
(Jj a 2).bind λd=>
(Jj a 3).bind λe=>
some (.inr (!d == e))
else
some (.inr false)
else
some (.inr false)
else
if Zn.Kind a=3 then
if b=1 then
if ((Zn.Truth a).length:Int)=0 then
(Jj a 1).bind λf=>
if f then
(Jj a 2).bind λd=>
if d then
(Jj a 3).bind λe=>
some (.inr !e)
else
some (.inr false)
else
some (.inr false)
else
some (.inr false)
else
some (.inr false)
else
some (.inr false)
def ZbY (a:Zn):Option Bool:=
Zo (λv=>QI a v.1 v.2.1) ((0:Int),(0:Int),())
def c164:Ctr:=D1 (V8) (.bool) ZbY
def Zjz (a:Zn):Option Bool:=
(Zfz (Zn.Name a)).bind λg=>
if g then
(Zif (Zn.Xi a)).bind λb=>
if b then
(ZcP a).bind λf=>
if f then
(ZV (Zn.ZBy a) 0 100000).bind λc=>
if c then
(ZV (Zn.Zl9 a) 0 100000).bind λd=>
if d then
(ZbY a).bind λe=>
some e
else
some false
else
some false
else
some false
else
some false
else
some false
def ZIo:Ctr:=D1 (V8) (.bool) Zjz
def V9 (c:ZE) (a:List (List UInt8)) (d:Int):Option (((List (List UInt8))×Int×Unit) ⊕ Bool):=
if d<((ZE.Cells c).length:Int) then
(atI (ZE.Cells c) d).bind λb=>
(Zjz b).bind λf=>
if f then
Zy ((a.length+[Zn.Name b].length)*16<=140737488355328)<|
some (.inl (a++[Zn.Name b],Wq (d+1),()))
else
some (.inr false)
else
if ((ZE.Cells c).length:Int)<=8 then
(VN a).bind λe=>
some (.inr e)
else
some (.inr false)
def ZfU (a:ZE):Option Bool:=
Zo (λv=>V9 a v.1 v.2.1) (([]:List (List UInt8)),(0:Int),())
def ZIp:Ctr:=D1 (Xf) (.bool) ZfU
def JQ (c:Zf) (b a:List (List UInt8)) (d:Int):Option (((List (List UInt8))×Int×Unit) ⊕ (((List (List UInt8))×Int×Unit) ⊕ Bool)):=
if d<((Zf.Qx c).length:Int) then
(atI (Zf.Qx c) d).bind λe=>
Zy ((a.length+[Yj.Name e].length)*16<=140737488355328)<|
some (.inl (a++[Yj.Name e],Wq (d+1),()))
else
if (b.length:Int)<=14 then
if ((Zf.Qw c).length:Int)<=30 then
if (a.length:Int)<=8 then
(VN b).bind λh=>
if h then
(VN (Zf.Qw c)).bind λf=>
if f then
(VN a).bind λg=>
some (.inr (.inr g))
else
some (.inr (.inr false))
else
some (.inr (.inr false))
else
some (.inr (.inr false))
else
some (.inr (.inr false))
else
some (.inr (.inr false))
def JR (b:Zf) (a:List (List UInt8)) (c:Int):Option (((List (List UInt8))×Int×Unit) ⊕ Bool):=
if c<((Zf.Instances b).length:Int) then
(atI (Zf.Instances b) c).bind λd=>
Zy ((a.length+[Zk.Name d].length)*16<=140737488355328)<|
some (.inl (a++[Zk.Name d],Wq (c+1),()))
else
Zo (λv=>JQ b a v.1 v.2.1) (([]:List (List UInt8)),(0:Int),())
def ZaD (a:Zf):Option Bool:=
Zo (λv=>JR a v.1 v.2.1) (([]:List (List UInt8)),(0:Int),())
def c167:Ctr:=D1 (YZ) (.bool) ZaD
def Zch (a:List Zn):Option Int:=
some (a.length:Int)
def c168:Ctr:=D1 (.sl (V8)) Iq Zch
def ZeU (a:List (List UInt8)):Option Int:=
some (a.length:Int)
def ZIq:Ctr:=D1 (.sl (.str)) Iq ZeU
def VG (c:Zf) (a:Int):Option Bool:=
(ZeU (Zf.Qw c)).bind λd=>
(ZV a 0 (Wq (d-1))).bind λb=>
some b
def ZHl:Ctr:=D2 (YZ) Iq (.bool) VG
def QC (a:Int) (b:Zf):Option Bool:=
(VG b a).bind λc=>
some !c
def c171:Ctr:=D2 Iq (.ptr (YZ)) (.bool) QC
def Yo (b:List Int) (d:Zf×Unit) (a:Int):Option ((Int×Unit) ⊕ Int):=
if a<(b.length:Int) then
(atI b a).bind λc=>
(QC c d.1).bind λe=>
if e then
some (.inr a)
else
some (.inl (Wq (a+1),()))
else
some (.inr (-1))
def Z8 (a:List Int) (b:Zf×Unit):Option Int:=
Zo (λv=>Yo a b v.1) ((0:Int),())
def ZIr:Ctr:=D2 (.sl Iq) (.fn 291 (.pair (.ptr (YZ)) (.unit))) Iq Z8
def ZY (a:List Int) (b:Zf×Unit):Option Bool:=
(Z8 a b).bind λc=>
some (decide (0<=c))
def c173:Ctr:=D2 (.sl Iq) (.fn 291 (.pair (.ptr (YZ)) (.unit))) (.bool) ZY
def JL (e:Zf) (b:ZE) (a:Zk):Option Bool:=
(Zch (ZE.Cells b)).bind λg=>
(ZV (Zk.Cell a) 0 (Wq (g-1))).bind λc=>
if c then
(atI (ZE.Cells b) (Zk.Cell a)).bind λf=>
if ((Zk.Qw a).length:Int)=((Zn.Xi f).length:Int) then
(ZY (Zk.Qw a) (e,())).bind λd=>
some !d
else
some false
else
some false
def ZIs:Ctr:=D3 (YZ) (Xf) (Yl) (.bool) JL
def ZdF (a:Int):Option Bool:=
some (!decide (a=1))
def c175:Ctr:=D1 Iq (.bool) ZdF
def YV (b:List Int) (a:Int):Option ((Int×Unit) ⊕ Int):=
if a<(b.length:Int) then
(atI b a).bind λc=>
(ZdF c).bind λd=>
if d then
some (.inr a)
else
some (.inl (Wq (a+1),()))
else
some (.inr (-1))
def YF (a:List Int) (b:Unit):Option Int:=
Zo (λv=>YV a v.1) ((0:Int),())
def ZIt:Ctr:=D2 (.sl Iq) (.fn 238 (.unit)) Iq YF
def Yy (a:List Int) (c:Unit):Option Bool:=
(YF a ()).bind λb=>
some (decide (0<=b))
def ZIu:Ctr:=D2 (.sl Iq) (.fn 238 (.unit)) (.bool) Yy
def JB (d:Zf) (c:Int) (b:List Int):Option ((Int×(List Int)×Unit) ⊕ ((Int×(List Int)×Unit) ⊕ Bool)):=
if c<((Zf.Qx d).length:Int) then
(atI (Zf.Qx d) c).bind λa=>
if Yj.Dir a=1 then
(VG d (Yj.Net a)).bind λf=>
if f then
if Yj.Dir a=1 then
(atI b (Yj.Net a)).bind λe=>
some (.inl (Wq (c+1),List.set b (Int.toNat (Yj.Net a)) (Wq (e+1)),()))
else
some (.inl (Wq (c+1),b,()))
else
some (.inr (.inr false))
else
if Yj.Dir a=2 then
(VG d (Yj.Net a)).bind λf=>
if f then
if Yj.Dir a=1 then
(atI b (Yj.Net a)).bind λe=>
some (.inl (Wq (c+1),List.set b (Int.toNat (Yj.Net a)) (Wq (e+1)),()))
else
some (.inl (Wq (c+1),b,()))
else
some (.inr (.inr false))
else
some (.inr (.inr false))
else
(Yy b ()).bind λg=>
some (.inr (.inr !g))
def Zbh (g:ZE) (a:Zf) (d:Int) (c:List Int):Option ((Int×(List Int)×Unit) ⊕ Bool):=
if d<((Zf.Instances a).length:Int) then
(atI (Zf.Instances a) d).bind λb=>
(JL a g b).bind λh=>
if h then
(atI (Zk.Qw b) (Wq (((Zk.Qw b).length:Int)-1))).bind λe=>
(atI c e).bind λf=>
some (.inl (Wq (d+1),List.set c (Int.toNat e) (Wq (f+1)),()))
else
some (.inr false)
else
Zo (λv=>JB a v.1 v.2.1) ((0:Int),c,())
def Zg3 (b:ZE) (a:Zf):Option Bool:=
(ZfU b).bind λd=>
if d then
(ZaD a).bind λc=>
if c then
Zy ((0:Int)<=((Zf.Qw a).length:Int))<|
Zy (((Zf.Qw a).length:Int)<=((Zf.Qw a).length:Int))<|
Zy (((Zf.Qw a).length:Int)<=4611686018427387904)<|
Zy (((8:Nat):Int)*((Zf.Qw a).length:Int)<=281474976710656)<|
Zo (λv=>Zbh b a v.1 v.2.1) ((0:Int),List.replicate (Int.toNat ((Zf.Qw a).length:Int)) (0:Int),())
else
some false
else
some false
def ZIv:Ctr:=D2 (Xf) (YZ) (.bool) Zg3
def ZaO (d:Int) (c:Zk) (a:List Xb) (b:Int):Option (((List Xb)×Int×Unit) ⊕ (((List Xb)×Int×Unit) ⊕ List Xb)):=
if b<((Zk.Qw c).length:Int) then
(atI (Zk.Qw c) b).bind λe=>
Zy ((a.length+[(d,b,e,decide (b=Wq (((Zk.Qw c).length:Int)-1)),())].length)*32<=140737488355328)<|
some (.inl (a++[(d,b,e,decide (b=Wq (((Zk.Qw c).length:Int)-1)),())],Wq (b+1),()))
else
some (.inr (.inl (a,Wq (d+1),())))
def ZaP (d:Zf) (a:List Xb) (b:Int):Option (((List Xb)×Int×Unit) ⊕ (((List Xb)×Int×Unit) ⊕ List Xb)):=
if b<((Zf.Qx d).length:Int) then
(atI (Zf.Qx d) b).bind λc=>
Zy ((a.length+[((-1:Int),b,Yj.Net c,decide (Yj.Dir c=1),())].length)*32<=140737488355328)<|
some (.inl (a++[((-1:Int),b,Yj.Net c,decide (Yj.Dir c=1),())],Wq (b+1),()))
else
some (.inr (.inr a))
def ZaQ (b:Zf) (a:List Xb) (c:Int):Option (((List Xb)×Int×Unit) ⊕ List Xb):=
if c<((Zf.Instances b).length:Int) then
(atI (Zf.Instances b) c).bind λd=>
Zo (λv=>ZaO c d v.1 v.2.1) (a,(0:Int),())
else
Zo (λv=>ZaP b v.1 v.2.1) (a,(0:Int),())
def QY (a:Zf):Option (List Xb):=
Zo (λv=>ZaQ a v.1 v.2.1) (([]:List Xb),(0:Int),())
def ZFH:Ctr:=⟨[.dat (YZ)],[.own (.ol 256 (.flat (Zor)))],λa K=>Zv a λb a=>Yw (QY b) λr=>K (r,()) ()⟩
def ZbQ (c:ZB) (a:Int):Option ((Int×Unit) ⊕ Bool):=
if a<((ZB.Parent c).length:Int) then
(atI (ZB.Parent c) a).bind λb=>
if a=0 then
if b=(-1) then
(atI (ZB.Res c) 0).bind λe=>
if e=0 then
if 0<a then
(ZV b 0 (Wq (a-1))).bind λd=>
if d then
some (.inl (Wq (a+1),()))
else
some (.inr false)
else
some (.inl (Wq (a+1),()))
else
some (.inr false)
else
some (.inr false)
else
if 0<a then
(ZV b 0 (Wq (a-1))).bind λd=>
if d then
some (.inl (Wq (a+1),()))
else
some (.inr false)
else
some (.inl (Wq (a+1),()))
else
some (.inr true)
def ZdG (a:ZB):Option Bool:=
Zo (λv=>ZbQ a v.1) ((0:Int),())
def ZIw:Ctr:=D1 (ZaB) (.bool) ZdG
def ZjA (a:ZB) (b:Int):Option Bool:=
(QK (ZB.Parent a)).bind λc=>
(ZV c 1 8).bind λd=>
if d then
(QK (ZB.Res a)).bind λk=>
if k=c then
(QK (ZB.Cap a)).bind λf=>
if f=c then
(ZdG a).bind λg=>
if g then
(XO (ZB.Res a) 0 1000).bind λj=>
if j then
(XO (ZB.Cap a) 0 500).bind λh=>
if h then
(QK (ZB.ZgD a)).bind λe=>
if e=b then
(XO (ZB.ZgD a) 0 (Wq (c-1))).bind λi=>
some i
else
some false
else
some false
else
some false
else
some false
else
some false
else
some false
else
some false
def ZIx:Ctr:=D2 (ZaB) Iq (.bool) ZjA
def ZeP (b:Zd) (d:List Int) (a:Int):Option ((Int×Unit) ⊕ ((Int×(List Int)×Unit) ⊕ Bool)):=
if a<((Zd.Xo b).length:Int) then
(atI (Zd.Xo b) a).bind λc=>
(atI d a).bind λe=>
(ZjA c e).bind λf=>
if f then
some (.inl (Wq (a+1),()))
else
some (.inr (.inr false))
else
some (.inr (.inr true))
def ZbZ (e:Zd) (a:List Xb) (c:Int) (b:List Int):Option ((Int×(List Int)×Unit) ⊕ Bool):=
if c<(a.length:Int) then
(atI a c).bind λd=>
if (Xb.drives d)=true then
some (.inl (Wq (c+1),b,()))
else
(atI b (Xb.net d)).bind λf=>
some (.inl (Wq (c+1),List.set b (Int.toNat (Xb.net d)) (Wq (f+1)),()))
else
Zo (λv=>ZeP e b v.1) ((0:Int),())
def Zgk (a:Zd):Option Bool:=
(Zg3 (Zd.Library a) (Zd.Design a)).bind λc=>
if c then
if ((Zd.Xo a).length:Int)=((Zf.Qw (Zd.Design a)).length:Int) then
Zy ((0:Int)<=((Zd.Xo a).length:Int))<|
Zy (((Zd.Xo a).length:Int)<=((Zd.Xo a).length:Int))<|
Zy (((Zd.Xo a).length:Int)<=4611686018427387904)<|
Zy (((8:Nat):Int)*((Zd.Xo a).length:Int)<=281474976710656)<|
(QY (Zd.Design a)).bind λb=>
Zo (λv=>ZbZ a b v.1 v.2.1) ((0:Int),List.replicate (Int.toNat ((Zd.Xo a).length:Int)) (0:Int),())
else
some false
else
some false
def c182:Ctr:=D1 (YA) (.bool) Zgk
def Vl (a:ZG):Option (List (Int×Int×Unit)):=
if ZG.Kind a=2 then
some ([((0:Int),(0:Int),()),((0:Int),(1:Int),())])
else
if ZG.Kind a=3 then
some ([((1:Int),(0:Int),()),((1:Int),(1:Int),())])
else
if ZG.Kind a=1 then
if ZG.JZ a=1 then
some ([((0:Int),(0:Int),()),((1:Int),(1:Int),())])
else
if ZG.JZ a=2 then
some ([((0:Int),(1:Int),()),((1:Int),(0:Int),())])
else
some ([((0:Int),(0:Int),()),((0:Int),(1:Int),()),((1:Int),(0:Int),()),((1:Int),(1:Int),())])
else
some []
def c183:Ctr:=⟨[.dat (ZgE)],[.own (.ol 269 (.flat (.pair Iq (.pair Iq (.unit)))))],λa K=>Zv a λb a=>Yw (Vl b) λr=>K (r,()) ()⟩
def XB (b g:Int) (e:ZG) (a:List (Int×Int×Unit)) (c:List Zm) (f:Int):Option (((List Zm)×Int×Unit) ⊕ (((List Zm)×Int×Unit) ⊕ List Zm)):=
if f<(a.length:Int) then
(atI a f).bind λd=>
Zy ((c.length+[(Wq (Wq ((2:Int)*Wq (b+ZG.From e))+d.1),Wq (Wq ((2:Int)*Wq (b+ZG.To e))+d.2.1),(1:Int),g,())].length)*32<=140737488355328)<|
some (.inl (c++[(Wq (Wq ((2:Int)*Wq (b+ZG.From e))+d.1),Wq (Wq ((2:Int)*Wq (b+ZG.To e))+d.2.1),(1:Int),g,())],Wq (f+1),()))
else
some (.inr (.inl (c,Wq (g+1),())))
def Qo (b:Int) (d:Zn) (a:List Zm) (c:Int):Option (((List Zm)×Int×Unit) ⊕ List Zm):=
if c<((Zn.Zay d).length:Int) then
(atI (Zn.Zay d) c).bind λe=>
(Vl e).bind λf=>
Zo (λv=>XB b c e f v.1 v.2.1) (a,(0:Int),())
else
some (.inr a)
def Vm (d:Zd) (b:Zk) (a:Int):Option (List Zm):=
(atI (ZE.Cells (Zd.Library d)) (Zk.Cell b)).bind λc=>
Zo (λv=>Qo a c v.1 v.2.1) (([]:List Zm),(0:Int),())
def ZIy:Ctr:=⟨[.dat (YA),.dat (Yl),.dat Iq],[.own (.ol 154 (.flat (Za2)))],λa K=>Zv a λd a=>Zv a λc a=>Zv a λb a=>Yw (Vm d c b) λr=>K (r,()) ()⟩
def Xk (a:List Int):Option (List Int):=
Zy ((([]:List Int).length+a.length)*8<=140737488355328)<|
some (([]:List Int)++a)
def ZHm:Ctr:=⟨[.dat (.sl Iq)],[.own (.ol 2 (.flat Iq))],λa K=>Zv a λb a=>Yw (Xk b) λr=>K (r,()) ()⟩
def Zbg (d:Int) (b:List Xb) (a:List Int) (c:Int):Option (((List Int)×Int×Unit) ⊕ List Int):=
if c<(b.length:Int) then
(atI b c).bind λe=>
if Xb.net e=d then
if (Xb.drives e)=true then
some (.inl (a,Wq (c+1),()))
else
Zy ((a.length+[c].length)*8<=140737488355328)<|
some (.inl (a++[c],Wq (c+1),()))
else
some (.inl (a,Wq (c+1),()))
else
some (.inr a)
def ZcQ (b:Zf) (a:Int):Option (List Int):=
(QY b).bind λc=>
Zo (λv=>Zbg a c v.1 v.2.1) (([]:List Int),(0:Int),())
def ZIz:Ctr:=⟨[.dat (YZ),.dat Iq],[.own (.ol 2 (.flat Iq))],λa K=>Zv a λc a=>Zv a λb a=>Yw (ZcQ c b) λr=>K (r,()) ()⟩
def Js (d:Zf) (c:ZE) (a:Xb):Option Int:=
if Xb.instance a<0 then
some 0
else
(atI (Zf.Instances d) (Xb.instance a)).bind λb=>
(atI (ZE.Cells c) (Zk.Cell b)).bind λe=>
(atI (Zn.Xi e) (Xb.pin a)).bind λf=>
some (YQ.Cap f)
def ZIA:Ctr:=D3 (YZ) (Xf) (Zor) Iq Js
def Qp (d:ZB) (a:Int) (b:List Int):Option ((Int×(List Int)×Unit) ⊕ ((Int×(List Int)×Unit) ⊕ List Int)):=
if 0<a then
(atI (ZB.Parent d) a).bind λc=>
(atI b c).bind λf=>
(atI b a).bind λe=>
some (.inl (Wq (a-1),List.set b (Int.toNat c) (Wq (f+e)),()))
else
some (.inr (.inr b))
def XC (g:Zd) (e:ZB) (b:List Xb) (a:List Int) (d:Int) (c:List Int):Option ((Int×(List Int)×Unit) ⊕ List Int):=
if d<(a.length:Int) then
(atI a d).bind λi=>
(atI (ZB.ZgD e) d).bind λf=>
(atI c f).bind λh=>
(atI b i).bind λj=>
(Js (Zd.Design g) (Zd.Library g) j).bind λk=>
some (.inl (Wq (d+1),List.set c (Int.toNat f) (Wq (h+k)),()))
else
Zo (λv=>Qp e v.1 v.2.1) (Wq ((c.length:Int)-1),c,())
def YH (a:Zd) (c:Int):Option (List Int):=
(atI (Zd.Xo a) c).bind λb=>
(Xk (ZB.Cap b)).bind λf=>
(QY (Zd.Design a)).bind λd=>
(ZcQ (Zd.Design a) c).bind λe=>
Zo (λv=>XC a b d e v.1 v.2.1) ((0:Int),f,())
def ZHn:Ctr:=⟨[.dat (YA),.dat Iq],[.own (.ol 2 (.flat Iq))],λa K=>Zv a λb a=>Zv a λc a=>Yw (YH b c) λr=>K (r,()) ()⟩
def X5 (d:ZB) (a:List Int) (b:Int) (c:List Int):Option ((Int×(List Int)×Unit) ⊕ List Int):=
if b<(c.length:Int) then
(atI (ZB.Parent d) b).bind λf=>
(atI c f).bind λg=>
(atI (ZB.Res d) b).bind λe=>
(atI a b).bind λh=>
(atI c b).bind λi=>
some (.inl (Wq (b+1),List.set c (Int.toNat b) (Wq (g+Wq (e*h))),()))
else
some (.inr c)
def QH (c:Zd) (b:Int):Option (List Int):=
(atI (Zd.Xo c) b).bind λd=>
(YH c b).bind λa=>
Zy ((0:Int)<=(a.length:Int))<|
Zy ((a.length:Int)<=(a.length:Int))<|
Zy ((a.length:Int)<=4611686018427387904)<|
Zy (((8:Nat):Int)*(a.length:Int)<=281474976710656)<|
Zo (λv=>X5 d a v.1 v.2.1) ((1:Int),List.replicate (Int.toNat (a.length:Int)) (0:Int),())
def ZIB:Ctr:=⟨[.dat (YA),.dat Iq],[.own (.ol 2 (.flat Iq))],λa K=>Zv a λc a=>Zv a λb a=>Yw (QH c b) λr=>K (r,()) ()⟩
def XW (a:List Int) (d:ZB) (b:List Int) (c:Int):Option (((List Int)×Int×Unit) ⊕ List Int):=
if c<((ZB.ZgD d).length:Int) then
(atI (ZB.ZgD d) c).bind λf=>
(atI a f).bind λe=>
Zy ((b.length+[e].length)*8<=140737488355328)<|
some (.inl (b++[e],Wq (c+1),()))
else
some (.inr b)
def XU (b:Zd) (a:Int):Option (List Int):=
(QH b a).bind λd=>
(atI (Zd.Xo b) a).bind λc=>
Zo (λv=>XW d c v.1 v.2.1) (([]:List Int),(0:Int),())
def ZIC:Ctr:=⟨[.dat (YA),.dat Iq],[.own (.ol 2 (.flat Iq))],λa K=>Zv a λc a=>Zv a λb a=>Yw (XU c b) λr=>K (r,()) ()⟩
def Qt (f:List Int) (g c e a:Int) (b:List Zm):Option ((Int×(List Zm)×Unit) ⊕ ((Int×(List Zm)×Unit) ⊕ ((Int×(List Int)×(List (List Int))×(List Zm)×(List (List Int))×Unit) ⊕ ((Int×(List Int)×(List (List Int))×Unit) ⊕ ((Int×Int×(List Zm)×Unit) ⊕ ZF))))):=
if a<2 then
(atI f g).bind λd=>
Zy ((b.length+[(Wq (Wq ((2:Int)*d)+a),Wq (Wq ((2:Int)*e)+a),(2:Int),c,())].length)*32<=140737488355328)<|
some (.inl (Wq (a+1),b++[(Wq (Wq ((2:Int)*d)+a),Wq (Wq ((2:Int)*e)+a),(2:Int),c,())],()))
else
some (.inr (.inl (Wq (c+1),b,())))
def Q5 (h:List Int) (b:Int) (g:List Int) (k i:List (List Int)) (f:Int) (a c:List Int) (d:Int) (e:List Zm):Option ((Int×(List Zm)×Unit) ⊕ ((Int×(List Int)×(List (List Int))×(List Zm)×(List (List Int))×Unit) ⊕ ((Int×(List Int)×(List (List Int))×Unit) ⊕ ((Int×Int×(List Zm)×Unit) ⊕ ZF)))):=
if d<(c.length:Int) then
(atI c d).bind λj=>
Zo (λv=>Qt h b d j v.1 v.2.1) ((0:Int),e,())
else
some (.inr (.inl (Wq (b+1),g++[f],k++[a],e,List.set i (Int.toNat b) c,())))
def Q6 (c:Zd) (a:List Xb) (j:List Int) (b:Int) (d:List Int) (e:List (List Int)) (i:List Zm) (h:List (List Int)):Option ((Int×(List Int)×(List (List Int))×(List Zm)×(List (List Int))×Unit) ⊕ ((Int×(List Int)×(List (List Int))×Unit) ⊕ ((Int×Int×(List Zm)×Unit) ⊕ ZF))):=
if b<((Zd.Xo c).length:Int) then
(YH c b).bind λl=>
(atI l 0).bind λf=>
Zy ((d.length+[f].length)*8<=140737488355328)<|
(XU c b).bind λg=>
Zy ((e.length+[g].length)*24<=140737488355328)<|
(atI h b).bind λk=>
Zo (λv=>Q5 j b d e h f g k v.1 v.2.1) ((0:Int),i,())
else
some (.inr (.inr (.inr (c,a,i,d,e,([]:List Int),()))))
def Q7 (g:Zd) (a:List Xb) (h:List Zm) (b:Int) (d:List Int) (e:List (List Int)):Option ((Int×(List Int)×(List (List Int))×Unit) ⊕ ((Int×Int×(List Zm)×Unit) ⊕ ZF)):=
if b<(a.length:Int) then
(atI a b).bind λc=>
if (Xb.drives c)=true then
(atI d (Xb.net c)).bind λf=>
some (.inl (Wq (b+1),List.set d (Int.toNat (Xb.net c)) b,e,()))
else
(atI e (Xb.net c)).bind λf=>
Zy ((f.length+[b].length)*8<=140737488355328)<|
some (.inl (Wq (b+1),d,List.set e (Int.toNat (Xb.net c)) (f++[b]),()))
else
Zo (λv=>Q6 g a d v.1 v.2.1 v.2.2.1 v.2.2.2.1 v.2.2.2.2.1) ((0:Int),([]:List Int),([]:List (List Int)),h,e,())
def Zab (a:Zd) (b:List Xb) (f c:Int) (d:List Zm):Option ((Int×Int×(List Zm)×Unit) ⊕ ZF):=
if c<((Zf.Instances (Zd.Design a)).length:Int) then
(atI (Zf.Instances (Zd.Design a)) c).bind λe=>
(Vm a e f).bind λg=>
Zy ((d.length+g.length)*32<=140737488355328)<|
(QK (Zk.Qw e)).bind λh=>
some (.inl (Wq (f+h),Wq (c+1),d++g,()))
else
Zy ((0:Int)<=((Zd.Xo a).length:Int))<|
Zy (((Zd.Xo a).length:Int)<=((Zd.Xo a).length:Int))<|
Zy (((Zd.Xo a).length:Int)<=4611686018427387904)<|
Zy (((8:Nat):Int)*((Zd.Xo a).length:Int)<=281474976710656)<|
Zy (((24:Nat):Int)*((Zd.Xo a).length:Int)<=281474976710656)<|
Zo (λv=>Q7 a b d v.1 v.2.1 v.2.2.1) ((0:Int),List.replicate (Int.toNat ((Zd.Xo a).length:Int)) (0:Int),List.replicate (Int.toNat ((Zd.Xo a).length:Int)) (([]:List Int)),())
def VQ (a:Zd):Option ZF:=
(QY (Zd.Design a)).bind λb=>
Zo (λv=>Zab a b v.1 v.2.1 v.2.2.1) ((0:Int),(0:Int),([]:List Zm),())
def ZHo:Ctr:=D1 (YA) (.ptr (Zh6)) VQ
def ZbU (a:List Zc):Option Int:=
some (a.length:Int)
def ZID:Ctr:=D1 (.sl (Xh)) Iq ZbU
def ZaC (a:Zc):Option Bool:=
(ZV (Zc.Xl a) 2 100000).bind λd=>
if d then
(ZV (Zc.Qd a) 0 (Wq (Zc.Xl a-1))).bind λb=>
if b then
(ZV (Zc.QX a) 0 (Wq (Zc.Xl a-1))).bind λc=>
if c then
if Zc.Qd a=Zc.QX a then
some false
else
if Zc.Divide a=1 then
some (!Zc.Zgf a)
else
some false
else
some false
else
some false
else
some false
def c193:Ctr:=D1 (Xh) (.bool) ZaC
def ZbB (d:(List Zc)->Int->Option ZdR) (c:List Zc) (e:Int):Option ZdR:=
(atI c e).bind λa=>
if Zc.Source a<0 then
some (Zc.Xl a,(Zc.Qd a,Zc.QX a,()),())
else
(d c (Zc.Source a)).bind λb=>
if 1<Zc.Divide a then
if (Zc.Zgf a)=true then
some (Wq (Zc.Divide a*ZdR.period b),(Wq ((ZdR.edges b).1+Wq (Wq (Int.tdiv (Zc.Divide a) 2)*ZdR.period b)),(ZdR.edges b).1,()),())
else
some (Wq (Zc.Divide a*ZdR.period b),((ZdR.edges b).1,Wq ((ZdR.edges b).1+Wq (Wq (Int.tdiv (Zc.Divide a) 2)*ZdR.period b)),()),())
else
if (Zc.Zgf a)=true then
some (ZdR.period b,((ZdR.edges b).2.1,(ZdR.edges b).1,()),())
else
some b
def Zbk:Nat->(List Zc)->Int->Option ZdR
| 0=>λ_ _=>none
| n+1=>ZbB (Zbk n)
def ZfA (a:List Zc) (b:Int):Option ZdR:=ZFM (λn=>Zbk n a b)
def ZfP (c:(List Zc)->Int->Option ZdR):Ctr:=⟨[.dat (.sl (Xh)),.dat Iq],[.dat (ZG4)],λa K=>Zv a λb a=>Zv a λd a=>Yw (c b d) λr=>K (r,()) ()⟩
def c194:Ctr:=ZfP ZfA
def Zii (c:List Zc) (b:Int):Option Bool:=
(atI c b).bind λa=>
if Zc.Place a<0 then
some false
else
if Zc.Yx a<0 then
some false
else
if Zc.Xt a<Zc.Yx a then
some false
else
if 100000<Zc.Xt a then
some false
else
(ZV (Zc.Zas a) 0 100000).bind λh=>
if h then
if Zc.Source a=(-1) then
(ZaC a).bind λd=>
some d
else
(ZV (Zc.Source a) 0 (Wq (b-1))).bind λg=>
if g then
(ZV (Zc.Divide a) 1 8).bind λe=>
if e then
if Zc.Xl a=0 then
if Zc.Qd a=0 then
if Zc.QX a=0 then
(ZfA c b).bind λf=>
some (decide (ZdR.period f<=100000))
else
some false
else
some false
else
some false
else
some false
else
some false
else
some false
def ZIE:Ctr:=D2 (.sl (Xh)) Iq (.bool) Zii
def ZdV (b:List Zc) (a:List (List UInt8)) (c:Int):Option (((List (List UInt8))×Int×Unit) ⊕ Bool):=
if c<(b.length:Int) then
(atI b c).bind λd=>
(Zii b c).bind λf=>
if f then
Zy ((a.length+[Zc.Name d].length)*16<=140737488355328)<|
some (.inl (a++[Zc.Name d],Wq (c+1),()))
else
some (.inr false)
else
(VN a).bind λe=>
some (.inr e)
def Zg2 (a:List Zc):Option Bool:=
if 6<(a.length:Int) then
some false
else
Zo (λv=>ZdV a v.1 v.2.1) (([]:List (List UInt8)),(0:Int),())
def c196:Ctr:=D1 (.sl (Xh)) (.bool) Zg2
def YX (a:List Xb):Option Int:=
some (a.length:Int)
def ZF1:Ctr:=D1 (.sl (Zor)) Iq YX
def Ju (c:ZF) (a:Int):Option Bool:=
(YX (ZF.ZC c)).bind λd=>
(ZV a 0 (Wq (d-1))).bind λb=>
some b
def c198:Ctr:=D2 (.ptr (Zh6)) Iq (.bool) Ju
def Jd (b:Zc) (a:ZF):Option Bool:=
(Ju a (Zc.Place b)).bind λc=>
some !c
def ZIF:Ctr:=D2 (Xh) (.ptr (.ptr (Zh6))) (.bool) Jd
def Yc (b:List Zc) (d:ZF×Unit) (a:Int):Option ((Int×Unit) ⊕ Int):=
if a<(b.length:Int) then
(atI b a).bind λc=>
(Jd c d.1).bind λe=>
if e then
some (.inr a)
else
some (.inl (Wq (a+1),()))
else
some (.inr (-1))
def ZU (a:List Zc) (b:ZF×Unit):Option Int:=
Zo (λv=>Yc a b v.1) ((0:Int),())
def ZIH:Ctr:=D2 (.sl (Xh)) (.fn 194 (.pair (.ptr (.ptr (Zh6))) (.unit))) Iq ZU
def ZN (a:List Zc) (b:ZF×Unit):Option Bool:=
(ZU a b).bind λc=>
some (decide (0<=c))
def c201:Ctr:=D2 (.sl (Xh)) (.fn 194 (.pair (.ptr (.ptr (Zh6))) (.unit))) (.bool) ZN
def ZjC (a:Int):Option Bool:=
(ZV a (-1000000000) 1000000000).bind λb=>
some b
def ZII:Ctr:=D1 Iq (.bool) ZjC
def Zau (a:Zx):Option Bool:=
(ZjC (Zx.Early a)).bind λc=>
if c then
(ZjC (Zx.Late a)).bind λb=>
if b then
some (decide (Zx.Early a<=Zx.Late a))
else
some false
else
some false
def c203:Ctr:=D1 (Xg) (.bool) Zau
def ZjB (a:Int):Option Bool:=
(ZV a 0 1000000).bind λb=>
some b
def ZIJ:Ctr:=D1 Iq (.bool) ZjB
def ZcS (a:Zx):Option Bool:=
(Zau a).bind λd=>
if d then
(ZjB (Zx.Early a)).bind λb=>
if b then
(ZjB (Zx.Late a)).bind λc=>
some c
else
some false
else
some false
def ZIK:Ctr:=D1 (Xg) (.bool) ZcS
def Jk (j:ZF) (f:List Zg) (c:Bool) (h b:Int):Option ((Int×Unit) ⊕ Bool):=
if b<(f.length:Int) then
(atI f b).bind λa=>
(Ju j (Zg.Place a)).bind λl=>
if l then
(atI (ZF.ZC j) (Zg.Place a)).bind λi=>
if 0<=Xb.instance i then
some (.inr false)
else
if (Xb.drives i == c)=true then
if 0<b then
(atI f (Wq (b-1))).bind λk=>
if Zg.Place a<=Zg.Place k then
some (.inr false)
else
(ZV (Zg.Clock a) 0 (Wq (h-1))).bind λd=>
if d then
(Zau (Zg.Delay a)).bind λg=>
if g then
if Zx.Early (Zg.Delay a)<(-100000) then
some (.inr false)
else
if 100000<Zx.Late (Zg.Delay a) then
some (.inr false)
else
if c then
(ZcS (Zg.QU a)).bind λe=>
if e then
if c then
some (.inl (Wq (b+1),()))
else
if (decide (Zx.Early (Zg.QU a)=0)&&decide (Zx.Late (Zg.QU a)=0))=true then
some (.inl (Wq (b+1),()))
else
some (.inr false)
else
some (.inr false)
else
if c then
some (.inl (Wq (b+1),()))
else
if (decide (Zx.Early (Zg.QU a)=0)&&decide (Zx.Late (Zg.QU a)=0))=true then
some (.inl (Wq (b+1),()))
else
some (.inr false)
else
some (.inr false)
else
some (.inr false)
else
(ZV (Zg.Clock a) 0 (Wq (h-1))).bind λd=>
if d then
(Zau (Zg.Delay a)).bind λg=>
if g then
if Zx.Early (Zg.Delay a)<(-100000) then
some (.inr false)
else
if 100000<Zx.Late (Zg.Delay a) then
some (.inr false)
else
if c then
(ZcS (Zg.QU a)).bind λe=>
if e then
if c then
some (.inl (Wq (b+1),()))
else
if (decide (Zx.Early (Zg.QU a)=0)&&decide (Zx.Late (Zg.QU a)=0))=true then
some (.inl (Wq (b+1),()))
else
some (.inr false)
else
some (.inr false)
else
if c then
some (.inl (Wq (b+1),()))
else
if (decide (Zx.Early (Zg.QU a)=0)&&decide (Zx.Late (Zg.QU a)=0))=true then
some (.inl (Wq (b+1),()))
else
some (.inr false)
else
some (.inr false)
else
some (.inr false)
else
some (.inr false)
else
some (.inr false)
else
some (.inr true)
def VA (a:ZF) (b:List Zg) (d:Bool) (c:Int):Option Bool:=
Zo (λv=>Jk a b d c v.1) ((0:Int),())
def c206:Ctr:=D4 (.ptr (Zh6)) (.sl (Z5)) (.bool) Iq (.bool) VA
def Zij (b a:Int):Option Bool:=
if b=1 then
some (decide (a=0))
else
if b=2 then
(ZV a 1 10).bind λc=>
some c
else
if b=3 then
if b=3 then
(ZV a 0 1000000000).bind λc=>
some c
else
some false
else
if b=4 then
(ZV a 0 1000000000).bind λc=>
some c
else
some false
def ZIL:Ctr:=D2 Iq Iq (.bool) Zij
def JD (g:ZF) (a:Zr) (b:Int):Option ((Int×Unit) ⊕ Bool):=
if b<(([Zr.From a,Zr.Through a,Zr.To a].length):Int) then
(atI ([Zr.From a,Zr.Through a,Zr.To a]) b).bind λc=>
if 4<(c.length:Int) then
some (.inr false)
else
(YX (ZF.ZC g)).bind λi=>
(XO c 0 (Wq (i-1))).bind λd=>
if d then
some (.inl (Wq (b+1),()))
else
some (.inr false)
else
(Zij (Zr.Kind a) (Zr.Value a)).bind λh=>
if h then
(QJ (Zr.From a)).bind λe=>
if e then
(QJ (Zr.To a)).bind λf=>
some (.inr f)
else
some (.inr false)
else
some (.inr false)
def VR (b:ZF) (a:Zr):Option Bool:=
Zo (λv=>JD b a v.1) ((0:Int),())
def c208:Ctr:=D2 (.ptr (Zh6)) (ZO) (.bool) VR
def Je (b:Zr) (a:ZF):Option Bool:=
(VR a b).bind λc=>
some !c
def ZIM:Ctr:=D2 (ZO) (.ptr (.ptr (Zh6))) (.bool) Je
def ZW (b:List Zr) (d:ZF×Unit) (a:Int):Option ((Int×Unit) ⊕ Int):=
if a<(b.length:Int) then
(atI b a).bind λc=>
(Je c d.1).bind λe=>
if e then
some (.inr a)
else
some (.inl (Wq (a+1),()))
else
some (.inr (-1))
def ZL (a:List Zr) (b:ZF×Unit):Option Int:=
Zo (λv=>ZW a b v.1) ((0:Int),())
def c210:Ctr:=D2 (.sl (ZO)) (.fn 198 (.pair (.ptr (.ptr (Zh6))) (.unit))) Iq ZL
def ZJ (a:List Zr) (b:ZF×Unit):Option Bool:=
(ZL a b).bind λc=>
some (decide (0<=c))
def ZIN:Ctr:=D2 (.sl (ZO)) (.fn 198 (.pair (.ptr (.ptr (Zh6))) (.unit))) (.bool) ZJ
def Zcf (a b:Int):Option Bool:=
if 100<=a then
if a<=b then
some (decide (b<=5000))
else
some false
else
some false
def c212:Ctr:=D2 Iq Iq (.bool) Zcf
def ZeQ (a:Zt):Option Bool:=
(Zfz (Zt.Name a)).bind λd=>
if d then
(Zcf (Zt.QW a) (Zt.JY a)).bind λb=>
if b then
(Zcf (Zt.J2 a) (Zt.ZcJ a)).bind λc=>
some c
else
some false
else
some false
def c213:Ctr:=D1 (Yd) (.bool) ZeQ
def Qi (a:List Zt):Option Int:=
some (a.length:Int)
def ZHp:Ctr:=D1 (.sl (Yd)) Iq Qi
def QZ (b:List Zt) (a:List (List UInt8)) (d:Int):Option (((List (List UInt8))×Int×Unit) ⊕ Bool):=
if d<(b.length:Int) then
(atI b d).bind λc=>
(ZeQ c).bind λh=>
if h then
Zy ((a.length+[Zt.Name c].length)*16<=140737488355328)<|
some (.inl (a++[Zt.Name c],Wq (d+1),()))
else
some (.inr false)
else
(Qi b).bind λe=>
(ZV e 1 4).bind λg=>
if g then
(VN a).bind λf=>
some (.inr f)
else
some (.inr false)
def ZcR (a:List Zt):Option Bool:=
Zo (λv=>QZ a v.1 v.2.1) (([]:List (List UInt8)),(0:Int),())
def ZIO:Ctr:=D1 (.sl (Yd)) (.bool) ZcR
def ZcV (b:ZF) (a:Zu):Option Bool:=
(ZbU (Zu.ZM a)).bind λc=>
(Zg2 (Zu.ZM a)).bind λd=>
if d then
(ZN (Zu.ZM a) (b,())).bind λi=>
if i then
some false
else
(VA b (Zu.Jz a) true c).bind λe=>
if e then
(VA b (Zu.ZgF a) false c).bind λf=>
if f then
if 6<((Zu.Exceptions a).length:Int) then
some false
else
(ZJ (Zu.Exceptions a) (b,())).bind λh=>
if h then
some false
else
if ((Zu.VE a).length:Int)=0 then
some true
else
(ZcR (Zu.VE a)).bind λg=>
some g
else
some false
else
some false
else
some false
def ZIP:Ctr:=D2 (.ptr (Zh6)) (Vi) (.bool) ZcV
def Zgl (a:Zd) (d:Zu):Option Bool:=
(Zgk a).bind λe=>
if e then
(VQ a).bind λb=>
(ZcV b d).bind λc=>
some c
else
some false
def ZIQ:Ctr:=D2 (YA) (Vi) (.bool) Zgl
def Q8 (e:ZF) (a:List Int) (c:Int) (b:List Bool):Option ((Int×(List Bool)×Unit) ⊕ ((Int×(List Bool)×Unit) ⊕ ZI)):=
if c<(a.length:Int) then
(atI a c).bind λd=>
(atI b d).bind λf=>
some (.inl (Wq (c+1),List.set b (Int.toNat d) false,()))
else
some (.inr (.inr (e,b,())))
def Zbj (d:ZF) (a:List Int) (b:Int) (c:List Bool):Option ((Int×(List Bool)×Unit) ⊕ ZI):=
if b<(((List.replicate (Int.toNat ((ZF.links d).length:Int)) false).length):Int) then
(atI c b).bind λe=>
some (.inl (Wq (b+1),List.set c (Int.toNat b) true,()))
else
Zo (λv=>Q8 d a v.1 v.2.1) ((0:Int),c,())
def VH (a:ZF) (b:List Int):Option ZI:=
Zy ((0:Int)<=((ZF.links a).length:Int))<|
Zy (((ZF.links a).length:Int)<=((ZF.links a).length:Int))<|
Zy (((ZF.links a).length:Int)<=4611686018427387904)<|
Zy (((1:Nat):Int)*((ZF.links a).length:Int)<=281474976710656)<|
Zo (λv=>Zbj a b v.1 v.2.1) ((0:Int),List.replicate (Int.toNat ((ZF.links a).length:Int)) false,())
def c218:Ctr:=D2 (.ptr (Zh6)) (.sl Iq) (.ptr (ZgC)) VH
def Xc (a:ZF):Option Int:=
(YX (ZF.ZC a)).bind λb=>
some (Wq (2*b))
def ZFI:Ctr:=D1 (.ptr (Zh6)) Iq Xc
def ZdX (a:Zm):Option Bool:=
some true
def ZIR:Ctr:=D1 (Za2) (.bool) ZdX
def YB (c:ZI) (a:List Int) (b:Int):Option (((List Int)×Int×Unit) ⊕ List Int):=
if b<((ZF.links (ZI.view c)).length:Int) then
(atI (ZF.links (ZI.view c)) b).bind λd=>
(atI (ZI.live c) b).bind λf=>
if f then
(ZdX d).bind λe=>
if e then
Zy ((a.length+[b].length)*8<=140737488355328)<|
some (.inl (a++[b],Wq (b+1),()))
else
some (.inl (a,Wq (b+1),()))
else
some (.inl (a,Wq (b+1),()))
else
some (.inr a)
def Y3 (a:ZI) (b:Unit):Option (List Int):=
Zo (λv=>YB a v.1 v.2.1) (([]:List Int),(0:Int),())
def ZIS:Ctr:=⟨[.dat (.ptr (ZgC)),.dat (.fn 164 (.unit))],[.own (.ol 2 (.flat Iq))],λa K=>Zv a λc a=>Zv a λb a=>Yw (Y3 c b) λr=>K (r,()) ()⟩
def X8 (b:List Int) (d a:Int):Option ((Int×Unit) ⊕ Int):=
if a<(b.length:Int) then
(atI b a).bind λc=>
if d=c then
some (.inr a)
else
some (.inl (Wq (a+1),()))
else
some (.inr (-1))
def Zag (a:List Int) (b:Int):Option Int:=
Zo (λv=>X8 a b v.1) ((0:Int),())
def c222:Ctr:=D2 (.sl Iq) Iq Iq Zag
def ZeS (b:Zm) (a:Int):Option Bool:=
some (decide (Zm.From b=a))
def ZIT:Ctr:=D2 (Za2) (.ptr Iq) (.bool) ZeS
def YE (c:ZI) (d:Int×Unit) (a:List Int) (b:Int):Option (((List Int)×Int×Unit) ⊕ List Int):=
if b<((ZF.links (ZI.view c)).length:Int) then
(atI (ZF.links (ZI.view c)) b).bind λe=>
(atI (ZI.live c) b).bind λg=>
if g then
(ZeS e d.1).bind λf=>
if f then
Zy ((a.length+[b].length)*8<=140737488355328)<|
some (.inl (a++[b],Wq (b+1),()))
else
some (.inl (a,Wq (b+1),()))
else
some (.inl (a,Wq (b+1),()))
else
some (.inr a)
def X7 (b:ZI) (a:Int×Unit):Option (List Int):=
Zo (λv=>YE b a v.1 v.2.1) (([]:List Int),(0:Int),())
def ZIU:Ctr:=⟨[.dat (.ptr (ZgC)),.dat (.fn 217 (.pair (.ptr Iq) (.unit)))],[.own (.ol 2 (.flat Iq))],λa K=>Zv a λc a=>Zv a λb a=>Yw (X7 c b) λr=>K (r,()) ()⟩
def ZeR (b:ZI) (a:Int):Option (List Int):=
(X7 b (a,())).bind λc=>
some c
def ZIV:Ctr:=⟨[.dat (.ptr (ZgC)),.dat Iq],[.own (.ol 2 (.flat Iq))],λa K=>Zv a λc a=>Zv a λb a=>Yw (ZeR c b) λr=>K (r,()) ()⟩
def Qy (h:ZI) (i:List Int) (j d:Int) (a:List Int) (b:Int) (c:List Int):Option ((Int×(List Int)×Unit) ⊕ (((List Int)×Int×(List Int)×Unit) ⊕ ((Int×(List Int)×Unit) ⊕ ((List Int)×Bool)))):=
if b<(a.length:Int) then
(atI a b).bind λg=>
(atI (ZF.links (ZI.view h)) g).bind λe=>
(atI c (Zm.To e)).bind λf=>
some (.inl (Wq (b+1),List.set c (Int.toNat (Zm.To e)) (Wq (f-1)),()))
else
some (.inr (.inl (i++[d],Wq (j+1),c,())))
def YW (d:ZI) (g b:List Int) (e:Int) (c:List Int):Option (((List Int)×Int×(List Int)×Unit) ⊕ ((Int×(List Int)×Unit) ⊕ ((List Int)×Bool))):=
if e<(g.length:Int) then
(Zag c 0).bind λa=>
if a<0 then
some (.inr (.inr (([]:List Int),false)))
else
(atI c a).bind λh=>
Zy ((b.length+[a].length)*8<=140737488355328)<|
(ZeR d a).bind λf=>
Zo (λv=>Qy d b e a f v.1 v.2.1) ((0:Int),List.set c (Int.toNat a) (-1:Int),())
else
some (.inr (.inr (b,true)))
def Qz (d:ZI) (a:List Int) (c:Int) (b:List Int):Option ((Int×(List Int)×Unit) ⊕ ((List Int)×Bool)):=
if c<(a.length:Int) then
(atI a c).bind λf=>
(atI (ZF.links (ZI.view d)) f).bind λe=>
(atI b (Zm.To e)).bind λg=>
some (.inl (Wq (c+1),List.set b (Int.toNat (Zm.To e)) (Wq (g+1)),()))
else
Zo (λv=>YW d b v.1 v.2.1 v.2.2.1) (([]:List Int),(0:Int),b,())
def Vr (b:ZI):Option ((List Int)×Bool):=
(Xc (ZI.view b)).bind λa=>
Zy ((0:Int)<=a)<|
Zy (a<=a)<|
Zy (a<=4611686018427387904)<|
Zy (((8:Nat):Int)*a<=281474976710656)<|
(Y3 b ()).bind λc=>
Zo (λv=>Qz b c v.1 v.2.1) ((0:Int),List.replicate (Int.toNat a) (0:Int),())
def c226:Ctr:=⟨[.dat (.ptr (ZgC))],[.own (.ol 2 (.flat Iq)),.dat (.bool)],λa K=>Zv a λb a=>Yw (Vr b) λr=>K (r.1,r.2,()) ()⟩
def Zb0 (a:ZI):Option Bool:=
(Vr a).bind λb=>
some !b.2
def c227:Ctr:=D1 (.ptr (ZgC)) (.bool) Zb0
def Zlg (a:Zm):Option (Int×Int):=
some (Zm.From a,Zm.To a)
def c228:Ctr:=⟨[.dat (Za2)],[.dat Iq,.dat Iq],λa K=>Zv a λb a=>Yw (Zlg b) λr=>K (r.1,r.2,()) ()⟩
def Qg (a:List Int) (d:List (List Int)) (c:List Bool):Option (((List Int)×(List (List Int))×(List Bool)×Unit) ⊕ ((Int×(List (List Int))×Unit) ⊕ List Bool)):=
if 0<(a.length:Int) then
(atI a 0).bind λb=>
Zy ((1:Int)<=(a.length:Int))<|
Zy ((a.length:Int)<=(a.length:Int))<|
(atI c b).bind λf=>
if f then
some (.inl (List.take (Int.toNat (a.length:Int)-Int.toNat 1) (List.drop (Int.toNat 1) a),d,c,()))
else
(atI d b).bind λe=>
Zy (((List.take (Int.toNat (a.length:Int)-Int.toNat (1:Int)) (List.drop (Int.toNat (1:Int)) a)).length+e.length)*8<=140737488355328)<|
some (.inl (List.take (Int.toNat (a.length:Int)-Int.toNat 1) (List.drop (Int.toNat 1) a)++e,List.set d (Int.toNat b) e,List.set c (Int.toNat b) true,()))
else
some (.inr (.inr c))
def Qh (e:ZI) (j:List Int) (a b:Int) (c:List (List Int)):Option ((Int×(List (List Int))×Unit) ⊕ List Bool):=
if b<((ZF.links (ZI.view e)).length:Int) then
(atI (ZF.links (ZI.view e)) b).bind λg=>
(Zlg g).bind λd=>
(atI (ZI.live e) b).bind λi=>
if i then
(atI c d.1).bind λf=>
Zy ((f.length+[d.2].length)*8<=140737488355328)<|
some (.inl (Wq (b+1),List.set c (Int.toNat d.1) (f++[d.2]),()))
else
some (.inl (Wq (b+1),c,()))
else
Zy (((1:Nat):Int)*a<=281474976710656)<|
(Xk j).bind λh=>
Zo (λv=>Qg v.1 v.2.1 v.2.2.1) (h,c,List.replicate (Int.toNat a) false,())
def X3 (b:ZI) (c:List Int) (d:Unit):Option (List Bool):=
(Xc (ZI.view b)).bind λa=>
Zy ((0:Int)<=a)<|
Zy (a<=a)<|
Zy (a<=4611686018427387904)<|
Zy (((24:Nat):Int)*a<=281474976710656)<|
Zo (λv=>Qh b c a v.1 v.2.1) ((0:Int),List.replicate (Int.toNat a) (([]:List Int)),())
def c229:Ctr:=⟨[.dat (.ptr (ZgC)),.dat (.sl Iq),.dat (.fn 207 (.unit))],[.own (.ol 4 (.flat (.bool)))],λa K=>Zv a λc a=>Zv a λd a=>Zv a λb a=>Yw (X3 c d b) λr=>K (r,()) ()⟩
def Zav (b:Zm) (a:Int):Option Bool:=
if Zm.From b=a then
some (decide (Zm.To b=a))
else
some false
def ZIW:Ctr:=D2 (Za2) (.ptr Iq) (.bool) Zav
def Yn (c:ZI) (d:Int×Unit) (a:List Int) (b:Int):Option (((List Int)×Int×Unit) ⊕ List Int):=
if b<((ZF.links (ZI.view c)).length:Int) then
(atI (ZF.links (ZI.view c)) b).bind λe=>
(atI (ZI.live c) b).bind λg=>
if g then
(Zav e d.1).bind λf=>
if f then
Zy ((a.length+[b].length)*8<=140737488355328)<|
some (.inl (a++[b],Wq (b+1),()))
else
some (.inl (a,Wq (b+1),()))
else
some (.inl (a,Wq (b+1),()))
else
some (.inr a)
def Xn (b:ZI) (a:Int×Unit):Option (List Int):=
Zo (λv=>Yn b a v.1 v.2.1) (([]:List Int),(0:Int),())
def ZIX:Ctr:=⟨[.dat (.ptr (ZgC)),.dat (.fn 249 (.pair (.ptr Iq) (.unit)))],[.own (.ol 2 (.flat Iq))],λa K=>Zv a λc a=>Zv a λb a=>Yw (Xn c b) λr=>K (r,()) ()⟩
def JM (b:ZI) (a:Int):Option Bool:=
(Xn b (a,())).bind λc=>
some (decide (0<(c.length:Int)))
def c232:Ctr:=D2 (.ptr (ZgC)) Iq (.bool) JM
def Vz (e:List (List Int)) (g:Int) (a:List Int) (f:List (List Bool)) (c:Int) (b:List Bool):Option ((Int×(List Bool)×Unit) ⊕ (((List Int)×Int×(List (List Bool))×Unit) ⊕ (((List (List Int))×Int×(List (List Bool))×(List Bool)×Unit) ⊕ (((List (List Bool))×Int×Unit) ⊕ List (List Int))))):=
if c<(a.length:Int) then
(atI a c).bind λd=>
(atI b d).bind λh=>
some (.inl (Wq (c+1),List.set b (Int.toNat d) true,()))
else
Zy ((e.length+[a].length)*24<=140737488355328)<|
some (.inr (.inr (.inl (e++[a],Wq (g+1),f,b,()))))
def ZbR (k:ZI) (e:Int) (i:List (List Int)) (b:Int) (h:List Bool) (d:List Int) (a:Int) (c:List (List Bool)):Option (((List Int)×Int×(List (List Bool))×Unit) ⊕ (((List (List Int))×Int×(List (List Bool))×(List Bool)×Unit) ⊕ (((List (List Bool))×Int×Unit) ⊕ List (List Int)))):=
if a<e then
(atI c b).bind λf=>
(atI f a).bind λj=>
if j then
(atI c a).bind λn=>
(atI (List.set c (Int.toNat b) f) a).bind λg=>
(atI g b).bind λl=>
if l then
Zy ((d.length+[a].length)*8<=140737488355328)<|
some (.inl (d++[a],Wq (a+1),List.set (List.set c (Int.toNat b) f) (Int.toNat a) g,()))
else
some (.inl (d,Wq (a+1),List.set (List.set c (Int.toNat b) f) (Int.toNat a) g,()))
else
some (.inl (d,Wq (a+1),List.set c (Int.toNat b) f,()))
else
if (d.length:Int)<2 then
(JM k b).bind λm=>
if m then
Zo (λv=>Vz i b d c v.1 v.2.1) ((0:Int),h,())
else
some (.inr (.inl (i,Wq (b+1),c,h,())))
else
Zo (λv=>Vz i b d c v.1 v.2.1) ((0:Int),h,())
def ZbS (g:ZI) (a:Int) (d:List (List Int)) (b:Int) (e:List (List Bool)) (c:List Bool):Option (((List (List Int))×Int×(List (List Bool))×(List Bool)×Unit) ⊕ (((List (List Bool))×Int×Unit) ⊕ List (List Int))):=
if b<a then
(atI c b).bind λf=>
if f then
some (.inl (d,Wq (b+1),e,c,()))
else
Zo (λv=>ZbR g a d b c v.1 v.2.1 v.2.2.1) (([]:List Int),(0:Int),e,())
else
some (.inr (.inr d))
def ZbT (d:ZI) (a:Int) (c:List (List Bool)) (b:Int):Option (((List (List Bool))×Int×Unit) ⊕ List (List Int)):=
if b<a then
(X3 d [b] ()).bind λe=>
Zy ((c.length+[e].length)*24<=140737488355328)<|
some (.inl (c++[e],Wq (b+1),()))
else
Zy ((0:Int)<=a)<|
Zy (a<=a)<|
Zy (a<=4611686018427387904)<|
Zy (((1:Nat):Int)*a<=281474976710656)<|
Zo (λv=>ZbS d a v.1 v.2.1 v.2.2.1 v.2.2.2.1) (([]:List (List Int)),(0:Int),c,List.replicate (Int.toNat a) false,())
def ZdH (a:ZI):Option (List (List Int)):=
(Xc (ZI.view a)).bind λb=>
Zo (λv=>ZbT a b v.1 v.2.1) (([]:List (List Bool)),(0:Int),())
def c233:Ctr:=⟨[.dat (.ptr (ZgC))],[.own (.ol 84 (.ol 2 (.flat Iq)))],λa K=>Zv a λb a=>Yw (ZdH b) λr=>K (r,()) ()⟩
def Xu (b:List Int) (d a:Int):Option ((Int×Unit) ⊕ Int):=
if a<(b.length:Int) then
(atI b a).bind λc=>
if d=c then
some (.inr a)
else
some (.inl (Wq (a+1),()))
else
some (.inr (-1))
def XP (a:List Int) (b:Int):Option Int:=
Zo (λv=>Xu a b v.1) ((0:Int),())
def c234:Ctr:=D2 (.sl Iq) Iq Iq XP
def YN (a:List Int) (b:Int):Option Bool:=
(XP a b).bind λc=>
some (decide (0<=c))
def ZIY:Ctr:=D2 (.sl Iq) Iq (.bool) YN
def Zbi (a:Zm) (b:List Int):Option Bool:=
if Zm.Kind a=1 then
(YN b (Zm.From a)).bind λd=>
if d then
(YN b (Zm.To a)).bind λc=>
some c
else
some false
else
some false
def c236:Ctr:=D2 (Za2) (.ptr (.sl Iq)) (.bool) Zbi
def Yt (c:ZI) (d:List Int×Unit) (a:List Int) (b:Int):Option (((List Int)×Int×Unit) ⊕ List Int):=
if b<((ZF.links (ZI.view c)).length:Int) then
(atI (ZF.links (ZI.view c)) b).bind λe=>
(atI (ZI.live c) b).bind λg=>
if g then
(Zbi e d.1).bind λf=>
if f then
Zy ((a.length+[b].length)*8<=140737488355328)<|
some (.inl (a++[b],Wq (b+1),()))
else
some (.inl (a,Wq (b+1),()))
else
some (.inl (a,Wq (b+1),()))
else
some (.inr a)
def YG (b:ZI) (a:List Int×Unit):Option (List Int):=
Zo (λv=>Yt b a v.1 v.2.1) (([]:List Int),(0:Int),())
def ZIZ:Ctr:=⟨[.dat (.ptr (ZgC)),.dat (.fn 153 (.pair (.ptr (.sl Iq)) (.unit)))],[.own (.ol 2 (.flat Iq))],λa K=>Zv a λc a=>Zv a λb a=>Yw (YG c b) λr=>K (r,()) ()⟩
def Y6 (d:ZF) (a:List Int) (b:List Bool):Option (((List Int)×(List Bool)×Unit) ⊕ ((Int×Unit) ⊕ ((Int×(List Bool)×Unit) ⊕ List Int))):=
(Zb0 (d,b,())).bind λi=>
if i then
(ZdH (d,b,())).bind λf=>
(atI f 0).bind λg=>
(YG (d,b,()) (g,())).bind λe=>
(atI e (Wq ((e.length:Int)-1))).bind λc=>
(atI b c).bind λj=>
Zy ((a.length+[c].length)*8<=140737488355328)<|
some (.inl (a++[c],List.set b (Int.toNat c) false,()))
else
(ZEC a).bind λh=>
some (.inr (.inr (.inr h)))
def Qq (c:ZF) (b:List Bool) (a:Int):Option ((Int×Unit) ⊕ ((Int×(List Bool)×Unit) ⊕ List Int)):=
if a<0 then
none
else
Zo (λv=>Y6 c v.1 v.2.1) (([]:List Int),b,())
def Vy (c:ZF) (a:Int) (b:List Bool):Option ((Int×(List Bool)×Unit) ⊕ List Int):=
if a<(((List.replicate (Int.toNat ((ZF.links c).length:Int)) false).length):Int) then
(atI b a).bind λd=>
some (.inl (Wq (a+1),List.set b (Int.toNat a) true,()))
else
Zo (λv=>Qq c b v.1) ((0:Int),())
def Jc (a:ZF):Option (List Int):=
Zy ((0:Int)<=((ZF.links a).length:Int))<|
Zy (((ZF.links a).length:Int)<=((ZF.links a).length:Int))<|
Zy (((ZF.links a).length:Int)<=4611686018427387904)<|
Zy (((1:Nat):Int)*((ZF.links a).length:Int)<=281474976710656)<|
Zo (λv=>Vy a v.1 v.2.1) ((0:Int),List.replicate (Int.toNat ((ZF.links a).length:Int)) false,())
def ZI0:Ctr:=⟨[.dat (.ptr (Zh6))],[.own (.ol 2 (.flat Iq))],λa K=>Zv a λb a=>Yw (Jc b) λr=>K (r,()) ()⟩
def XF (c:Zc) (a:ZdR) (b:List Zj) (d:Int):Option (((List Zj)×Int×Unit) ⊕ List Zj):=
if d<2 then
(atI ([(ZdR.edges a).1,(ZdR.edges a).2.1]) d).bind λe=>
Zy ((b.length+[(Wq (Wq ((2:Int)*Zc.Place c)+d),(Wq (e+Zc.Yx c),Wq (e+Zc.Xt c),()),((0:Int),(0:Int),()),())].length)*40<=140737488355328)<|
some (.inl (b++[(Wq (Wq ((2:Int)*Zc.Place c)+d),(Wq (e+Zc.Yx c),Wq (e+Zc.Xt c),()),((0:Int),(0:Int),()),())],Wq (d+1),()))
else
some (.inr b)
def ZcU (a:List Zc) (b:Int):Option (List Zj):=
(atI a b).bind λc=>
(ZfA a b).bind λd=>
Zo (λv=>XF c d v.1 v.2.1) (([]:List Zj),(0:Int),())
def ZI1:Ctr:=⟨[.dat (.sl (Xh)),.dat Iq],[.own (.ol 162 (.flat (Qn)))],λa K=>Zv a λb a=>Zv a λc a=>Yw (ZcU b c) λr=>K (r,()) ()⟩
def ZgL (b:Zj) (a:Int):Option Bool:=
some (decide (Zj.Node b=a))
def ZI2:Ctr:=D2 (Qn) (.ptr Iq) (.bool) ZgL
def Yh (b:List Zj) (d:Int×Unit) (a:Int):Option ((Int×Unit) ⊕ Int):=
if a<(b.length:Int) then
(atI b a).bind λc=>
(ZgL c d.1).bind λe=>
if e then
some (.inr a)
else
some (.inl (Wq (a+1),()))
else
some (.inr (-1))
def Z0 (a:List Zj) (b:Int×Unit):Option Int:=
Zo (λv=>Yh a b v.1) ((0:Int),())
def ZI3:Ctr:=D2 (.sl (Qn)) (.fn 213 (.pair (.ptr Iq) (.unit))) Iq Z0
def VO (a:List Zj) (b:Int):Option (Zj×Bool):=
(Z0 a (b,())).bind λc=>
if 0<=c then
(atI a c).bind λd=>
some (d,true)
else
some ((0,(0,0,()),(0,0,()),()),false)
def ZHq:Ctr:=⟨[.dat (.sl (Qn)),.dat Iq],[.dat (Qn),.dat (.bool)],λa K=>Zv a λb a=>Zv a λc a=>Yw (VO b c) λr=>K (r.1,r.2,()) ()⟩
def Ja (e:Zu) (d:Int) (c:List Zj):Option ((Int×(List Zj)×Unit) ⊕ ((Int×(List Zj)×Unit) ⊕ List Zj)):=
if d<((Zu.Jz e).length:Int) then
(atI (Zu.Jz e) d).bind λa=>
(ZfA (Zu.ZM e) (Zg.Clock a)).bind λf=>
(atI ([(ZdR.edges f).1,(ZdR.edges f).2.1]) (0:Int)).bind λb=>
(atI ([(Wq ((2:Int)*Zg.Place a),(Wq (Zx.Early (Zg.Delay a)+b),Wq (Zx.Late (Zg.Delay a)+b),()),a.2.2.2),(Wq (Wq ((2:Int)*Zg.Place a)+1),(Wq (Zx.Early (Zg.Delay a)+b),Wq (Zx.Late (Zg.Delay a)+b),()),a.2.2.2)]) (0:Int)).bind λh=>
(VO c h.1).bind λg=>
if g.2 then
some (.inl (Wq (d+1),c,()))
else
Zy ((c.length+[(Wq ((2:Int)*Zg.Place a),(Wq (Zx.Early (Zg.Delay a)+b),Wq (Zx.Late (Zg.Delay a)+b),()),a.2.2.2),(Wq (Wq ((2:Int)*Zg.Place a)+1),(Wq (Zx.Early (Zg.Delay a)+b),Wq (Zx.Late (Zg.Delay a)+b),()),a.2.2.2)].length)*40<=140737488355328)<|
some (.inl (Wq (d+1),c++[(Wq ((2:Int)*Zg.Place a),(Wq (Zx.Early (Zg.Delay a)+b),Wq (Zx.Late (Zg.Delay a)+b),()),a.2.2.2),(Wq (Wq ((2:Int)*Zg.Place a)+1),(Wq (Zx.Early (Zg.Delay a)+b),Wq (Zx.Late (Zg.Delay a)+b),()),a.2.2.2)],()))
else
(ZAq (λx=>Zj.Node x) c).bind λi=>
some (.inr (.inr i))
def Jb (c:Zu) (b:Int) (a:List Zj):Option ((Int×(List Zj)×Unit) ⊕ List Zj):=
if b<((Zu.ZM c).length:Int) then
(ZcU (Zu.ZM c) b).bind λd=>
(atI d 0).bind λe=>
(VO a (Zj.Node e)).bind λf=>
if f.2 then
some (.inl (Wq (b+1),a,()))
else
Zy ((a.length+d.length)*40<=140737488355328)<|
some (.inl (Wq (b+1),a++d,()))
else
Zo (λv=>Ja c v.1 v.2.1) ((0:Int),a,())
def Zdv (a:Zu):Option (List Zj):=
Zo (λv=>Jb a v.1 v.2.1) ((0:Int),([]:List Zj),())
def ZI4:Ctr:=⟨[.dat (Vi)],[.own (.ol 162 (.flat (Qn)))],λa K=>Zv a λb a=>Yw (Zdv b) λr=>K (r,()) ()⟩
def ZdY (b:ZF):Option Zw:=
(Xc b).bind λa=>
Zy ((0:Int)<=a)<|
Zy (a<=a)<|
Zy (a<=4611686018427387904)<|
Zy (((1:Nat):Int)*a<=281474976710656)<|
Zy (((16:Nat):Int)*a<=281474976710656)<|
some (List.replicate (Int.toNat a) false,List.replicate (Int.toNat a) ((0:Int),(0:Int),()),List.replicate (Int.toNat a) ((0:Int),(0:Int),()),())
def ZI5:Ctr:=⟨[.dat (.ptr (Zh6))],[.own (Zk2)],λa K=>Zv a λb a=>Yw (ZdY b) λr=>K (r,()) ()⟩
def ZiO (b a:Zx):Option Zx:=
some (Min.min (Zx.Early b) (Zx.Early a),Max.max (Zx.Late b) (Zx.Late a),())
def ZI6:Ctr:=D2 (Xg) (Xg) (Xg) ZiO
def JU (d:Zj) (b:Bool) (a c:Zx):Option (Zj×Bool):=
if b then
(ZiO (Zj.Ye d) a).bind λf=>
(ZiO (Zj.QU d) c).bind λe=>
some ((Zj.Node d,f,e,()),b)
else
some ((Zj.Node d,a,c,()),true)
def ZI7:Ctr:=⟨[.io (.flat (Qn)),.io (.flat (.bool)),.dat (Xg),.dat (Xg)],[],λa K=>Zv a λe a=>Zv a λc a=>Zv a λb a=>Zv a λd a=>Yw (JU e c b d) λr=>K () (r.1,r.2,())⟩
def ZgK (b:Zm) (a:Int):Option Bool:=
some (decide (Zm.To b=a))
def ZI8:Ctr:=D2 (Za2) (.ptr Iq) (.bool) ZgK
def YL (c:ZI) (d:Int×Unit) (a:List Int) (b:Int):Option (((List Int)×Int×Unit) ⊕ List Int):=
if b<((ZF.links (ZI.view c)).length:Int) then
(atI (ZF.links (ZI.view c)) b).bind λe=>
(atI (ZI.live c) b).bind λg=>
if g then
(ZgK e d.1).bind λf=>
if f then
Zy ((a.length+[b].length)*8<=140737488355328)<|
some (.inl (a++[b],Wq (b+1),()))
else
some (.inl (a,Wq (b+1),()))
else
some (.inl (a,Wq (b+1),()))
else
some (.inr a)
def Qs (b:ZI) (a:Int×Unit):Option (List Int):=
Zo (λv=>YL b a v.1 v.2.1) (([]:List Int),(0:Int),())
def ZI9:Ctr:=⟨[.dat (.ptr (ZgC)),.dat (.fn 270 (.pair (.ptr Iq) (.unit)))],[.own (.ol 2 (.flat Iq))],λa K=>Zv a λc a=>Zv a λb a=>Yw (Qs c b) λr=>K (r,()) ()⟩
def ZeT (b:ZI) (a:Int):Option (List Int):=
(Qs b (a,())).bind λc=>
some c
def ZJa:Ctr:=⟨[.dat (.ptr (ZgC)),.dat Iq],[.own (.ol 2 (.flat Iq))],λa K=>Zv a λc a=>Zv a λb a=>Yw (ZeT c b) λr=>K (r,()) ()⟩
def ZaS (c:ZF) (b:Zm):Option Int:=
(atI (ZF.ZC c) (Wq (Int.tdiv (Zm.To b) 2))).bind λa=>
some (Xb.net a)
def ZF2:Ctr:=D2 (.ptr (Zh6)) (Za2) Iq ZaS
def Zck (a:ZF) (b:Zm):Option ZG:=
(atI (ZF.ZC a) (Wq (Int.tdiv (Zm.To b) 2))).bind λc=>
(atI (Zf.Instances (Zd.Design (ZF.Block a))) (Xb.instance c)).bind λe=>
(atI (ZE.Cells (Zd.Library (ZF.Block a))) (Zk.Cell e)).bind λf=>
(atI (Zn.Zay f) (Zm.Index b)).bind λd=>
some d
def ZHr:Ctr:=D2 (.ptr (Zh6)) (Za2) (ZgE) Zck
def ZeG (a:Int):Option Bool:=
some (!decide (a=a))
def ZJb:Ctr:=D1 Iq (.bool) ZeG
def ZfQ (b a:Int):Option Bool:=
(ZeG b).bind λc=>
if c then
(ZeG a).bind λd=>
if d then
some (decide (b<a))
else
some true
else
some (decide (b<a))
def ZJc:Ctr:=D2 Iq Iq (.bool) ZfQ
def Zah (a:Int):Option Bool:=
some (!decide (a=a))
def ZJd:Ctr:=D1 Iq (.bool) Zah
def Qm (e:List Int) (a b c:Int):Option ((Int×Int×Unit) ⊕ (Int×Bool)):=
if b<c then
(atI e (Wq (Int.fdiv (IntKind.wrap IntKind.u64 (Wq (b+c))) (2 ^ Min.min (Int.toNat 1) (IntKind.bits IntKind.u64))))).bind λd=>
(ZfQ d a).bind λf=>
if f then
some (.inl (Wq (Wq (Int.fdiv (IntKind.wrap IntKind.u64 (Wq (b+c))) (2 ^ Min.min (Int.toNat 1) (IntKind.bits IntKind.u64)))+1),c,()))
else
some (.inl (b,Wq (Int.fdiv (IntKind.wrap IntKind.u64 (Wq (b+c))) (2 ^ Min.min (Int.toNat 1) (IntKind.bits IntKind.u64))),()))
else
if b<(e.length:Int) then
(atI e b).bind λd=>
if d=a then
some (.inr (b,true))
else
(Zah d).bind λf=>
if f then
(Zah a).bind λg=>
some (.inr (b,g))
else
some (.inr (b,false))
else
some (.inr (b,false))
def X4 (b:List Int) (a:Int):Option (Int×Bool):=
Zo (λv=>Qm b a v.1 v.2.1) ((0:Int),(b.length:Int),())
def ZJe:Ctr:=⟨[.dat (.sl Iq),.dat Iq],[.dat Iq,.dat (.bool)],λa K=>Zv a λc a=>Zv a λb a=>Yw (X4 c b) λr=>K (r.1,r.2,()) ()⟩
def Zgn (a:List Int) (c:Int):Option ((List ZbP)×Int):=
(atI a 0).bind λd=>
(atI a (Wq ((a.length:Int)-1))).bind λe=>
(X4 a (Min.min (Max.max c d) e)).bind λb=>
if b.2 then
some ([(b.1,(1:Int),())],1)
else
(atI a b.1).bind λf=>
(atI a (Wq (b.1-1))).bind λg=>
some ([(Wq (b.1-1),Wq (f-Min.min (Max.max c d) e),()),(b.1,Wq (Min.min (Max.max c d) e-g),())],Wq (f-g))
def ZJf:Ctr:=⟨[.dat (.sl Iq),.dat Iq],[.own (.ol 422 (.flat (Zxb))),.dat Iq],λa K=>Zv a λb a=>Zv a λc a=>Yw (Zgn b c) λr=>K (r.1,r.2,()) ()⟩
def Zcg (b a c:Int):Option Int:=
Zy (a≠0)<|
if c=0 then
if Int.tmod b a<0 then
some (Wq (Wq (Int.tdiv b a)-1))
else
if c=1 then
if 0<Int.tmod b a then
some (Wq (Wq (Int.tdiv b a)+1))
else
some (Wq (Int.tdiv b a))
else
some (Wq (Int.tdiv b a))
else
if c=1 then
if 0<Int.tmod b a then
some (Wq (Wq (Int.tdiv b a)+1))
else
some (Wq (Int.tdiv b a))
else
some (Wq (Int.tdiv b a))
def ZFJ:Ctr:=D3 Iq Iq Iq Iq Zcg
def Qf (c:Zz) (a:List ZbP×Int) (g:Int) (d:ZbP) (f b:Int):Option ((Int×Int×Unit) ⊕ ((Int×Int×Unit) ⊕ Int)):=
if b<(a.1.length:Int) then
(atI a.1 b).bind λe=>
(atI (Zz.Values c) (Wq (Wq (ZbP.index d*((Zz.Loads c).length:Int))+ZbP.index e))).bind λh=>
some (.inl (Wq (f+Wq (Wq (h*ZbP.part d)*ZbP.part e)),Wq (b+1),()))
else
some (.inr (.inl (f,Wq (g+1),())))
def YK (g:Zz) (f:Int) (a b:List ZbP×Int) (d c:Int):Option ((Int×Int×Unit) ⊕ Int):=
if c<(a.1.length:Int) then
(atI a.1 c).bind λe=>
Zo (λv=>Qf g b c e v.1 v.2.1) (d,(0:Int),())
else
(Zcg d (Wq (a.2*b.2)) f).bind λh=>
some (.inr h)
def ZaR (a:Zz) (c e d:Int):Option Int:=
(Zgn (Zz.Zgg a) c).bind λf=>
(Zgn (Zz.Loads a) e).bind λb=>
Zo (λv=>YK a d f b v.1 v.2.1) ((0:Int),(0:Int),())
def ZHs:Ctr:=D4 (Xw) Iq Iq Iq Iq ZaR
def J9 (c:Zt) (a b:Int):Option Int:=
if a=1 then
if b=0 then
some (Zt.QW c)
else
if a=1 then
some (Zt.JY c)
else
if b=0 then
some (Zt.J2 c)
else
some (Zt.ZcJ c)
else
if a=1 then
some (Zt.JY c)
else
if b=0 then
some (Zt.J2 c)
else
some (Zt.ZcJ c)
def ZJg:Ctr:=D3 (Yd) Iq Iq Iq J9
def Zi7 (c a b:Int):Option Int:=
(Zcg (Wq (c*a)) 1000 b).bind λd=>
some d
def ZJh:Ctr:=D3 Iq Iq Iq Iq Zi7
def JC (c:ZF) (h:Zt) (m k b:Int):Option Int:=
(atI (ZF.links c) m).bind λa=>
(ZaS c a).bind λi=>
if Zm.Kind a=1 then
(atI (ZF.loads c) i).bind λf=>
(Zck c a).bind λj=>
(atI (ZG.Delay j) (Int.tmod (Zm.To a) 2)).bind λg=>
(ZaR g k f b).bind λn=>
(J9 h (Zm.Kind a) b).bind λd=>
(Zi7 n d b).bind λe=>
some e
else
(atI (ZF.Zkb c) i).bind λf=>
(atI f (Zm.Index a)).bind λg=>
(Zcg g 1000 b).bind λl=>
(J9 h (Zm.Kind a) b).bind λd=>
(Zi7 l d b).bind λe=>
some e
def ZJi:Ctr:=⟨[.dat (.ptr (Zh6)),.dat (Yd),.dat Iq,.dat Iq,.dat Iq],[.dat Iq],λa K=>Zv a λd a=>Zv a λe a=>Zv a λc a=>Zv a λb a=>Zv a λf a=>Yw (JC d e c b f) λr=>K (r,()) ()⟩
def Zci (c b a:Int):Option ((Int×Int×Unit) ⊕ Int):=
if b<a then
if Wq (Wq (Int.tdiv (Wq (Wq (b+a)+1)) 2)*Wq (Int.tdiv (Wq (Wq (b+a)+1)) 2))<=c then
some (.inl (Wq (Int.tdiv (Wq (Wq (b+a)+1)) 2),a,()))
else
some (.inl (b,Wq (Wq (Int.tdiv (Wq (Wq (b+a)+1)) 2)-1),()))
else
some (.inr b)
def ZnK (a:Int):Option Int:=
Zo (λv=>Zci a v.1 v.2.1) ((0:Int),(3000000000:Int),())
def ZJj:Ctr:=D1 Iq Iq ZnK
def Zg4 (b a c:Int):Option Int:=
(ZnK (Wq (Wq (Wq (Wq (500*b)*500)*b)+Wq (a*a)))).bind λd=>
if c=1 then
if Wq (d*d)<Wq (Wq (Wq (Wq (500*b)*500)*b)+Wq (a*a)) then
some (Wq (Wq (Int.tdiv d 500)+1))
else
(Zcg d 500 c).bind λe=>
some e
else
(Zcg d 500 c).bind λe=>
some e
def ZJk:Ctr:=D3 Iq Iq Iq Iq Zg4
def Xj (d:ZF) (e a b:Int):Option Int:=
(atI (ZF.links d) e).bind λc=>
(ZaS d c).bind λh=>
if Zm.Kind c=1 then
(atI (ZF.loads d) h).bind λf=>
(Zck d c).bind λi=>
(atI (ZG.QU i) (Int.tmod (Zm.To c) 2)).bind λg=>
(ZaR g a f b).bind λk=>
some (Min.min k 1000000)
else
(atI (ZF.Zkb d) h).bind λf=>
(atI f (Zm.Index c)).bind λg=>
(Zg4 a g b).bind λj=>
some (Min.min j 1000000)
def ZJl:Ctr:=D4 (.ptr (Zh6)) Iq Iq Iq Iq Xj
def ZaT (a:ZF) (h:Zt) (b:Int) (c:Zx):Option (Zx×Zx):=
(JC a h b (Zx.Early c) 0).bind λl=>
(JC a h b (Zx.Late c) 0).bind λi=>
(JC a h b (Zx.Early c) 1).bind λk=>
(JC a h b (Zx.Late c) 1).bind λj=>
(atI (ZF.links a) b).bind λm=>
if 0<((ZF.extras a).length:Int) then
if Zm.Kind m=2 then
(ZaS a m).bind λo=>
(atI (ZF.extras a) o).bind λn=>
(Xj a b (Zx.Early c) 0).bind λg=>
(Xj a b (Zx.Late c) 0).bind λd=>
(Xj a b (Zx.Early c) 1).bind λe=>
(Xj a b (Zx.Late c) 1).bind λf=>
some ((Wq (Min.min l i-n),Wq (Max.max k j+n),()),(Min.min g d,Max.max e f,()))
else
(Xj a b (Zx.Early c) 0).bind λg=>
(Xj a b (Zx.Late c) 0).bind λd=>
(Xj a b (Zx.Early c) 1).bind λe=>
(Xj a b (Zx.Late c) 1).bind λf=>
some ((Min.min l i,Max.max k j,()),(Min.min g d,Max.max e f,()))
else
(Xj a b (Zx.Early c) 0).bind λg=>
(Xj a b (Zx.Late c) 0).bind λd=>
(Xj a b (Zx.Early c) 1).bind λe=>
(Xj a b (Zx.Late c) 1).bind λf=>
some ((Min.min l i,Max.max k j,()),(Min.min g d,Max.max e f,()))
def ZJm:Ctr:=⟨[.dat (.ptr (Zh6)),.dat (Yd),.dat Iq,.dat (Xg)],[.dat (Xg),.dat (Xg)],λa K=>Zv a λd a=>Zv a λe a=>Zv a λc a=>Zv a λb a=>Yw (ZaT d e c b) λr=>K (r.1,r.2,()) ()⟩
def ZiP (b a:Zx):Option Zx:=
some (Wq (Zx.Early b+Zx.Early a),Wq (Zx.Late b+Zx.Late a),())
def ZJn:Ctr:=D2 (Xg) (Xg) (Xg) ZiP
def Zh3 (n:ZI) (s:Zt) (f:Zw) (c:List Int) (b j d k i g:Int) (e:Bool):Option ((Int×Int×Int×Int×Int×Int×Bool×Unit) ⊕ (Bool×Zj)):=
if b<(c.length:Int) then
(atI c b).bind λl=>
(atI (ZF.links (ZI.view n)) l).bind λh=>
(atI (Zw.Reached f) (Zm.From h)).bind λp=>
if p then
(atI (Zw.QU f) (Zm.From h)).bind λo=>
(ZaT (ZI.view n) s l o).bind λm=>
(atI (Zw.Ye f) (Zm.From h)).bind λr=>
(ZiP r m.1).bind λq=>
(JU (j,(d,k,()),(i,g,()),()) e q m.2).bind λa=>
some (.inl (Wq (b+1),a.1.1,a.1.2.1.1,a.1.2.1.2.1,a.1.2.2.1.1,a.1.2.2.1.2.1,a.2,()))
else
some (.inl (Wq (b+1),j,d,k,i,g,e,()))
else
if e then
some (.inr (true,(j,(d,k,()),(i,g,()),())))
else
some (.inr (false,(0,(0,0,()),(0,0,()),())))
def XD (n:ZI) (s:Zt) (f:Zw) (c:List Int) (b j d k i g:Int) (e:Bool):Option ((Int×Int×Int×Int×Int×Int×Bool×Unit) ⊕ (Bool×Zj)):=
if b<(c.length:Int) then
(atI c b).bind λl=>
(atI (ZF.links (ZI.view n)) l).bind λh=>
(atI (Zw.Reached f) (Zm.From h)).bind λp=>
if p then
(atI (Zw.QU f) (Zm.From h)).bind λo=>
(ZaT (ZI.view n) s l o).bind λm=>
(atI (Zw.Ye f) (Zm.From h)).bind λr=>
(ZiP r m.1).bind λq=>
(JU (j,(d,k,()),(i,g,()),()) e q m.2).bind λa=>
some (.inl (Wq (b+1),a.1.1,a.1.2.1.1,a.1.2.1.2.1,a.1.2.2.1.1,a.1.2.2.1.2.1,a.2,()))
else
some (.inl (Wq (b+1),j,d,k,i,g,e,()))
else
if e then
some (.inr (true,(j,(d,k,()),(i,g,()),())))
else
some (.inr (false,(0,(0,0,()),(0,0,()),())))
def Qr (c:ZI) (g:Zt) (h:List Zj) (f:Zw) (b:Int):Option (Bool×Zj):=
(VO h b).bind λe=>
if e.2 then
(JU (b,(0,0,()),(0,0,()),()) false e.1.2.1 e.1.2.2.1).bind λa=>
(ZeT c b).bind λd=>
Zo (λv=>Zh3 c g f d v.1 v.2.1 v.2.2.1 v.2.2.2.1 v.2.2.2.2.1 v.2.2.2.2.2.1 v.2.2.2.2.2.2.1) ((0:Int),a.1.1,a.1.2.1.1,a.1.2.1.2.1,a.1.2.2.1.1,a.1.2.2.1.2.1,a.2,())
else
(ZeT c b).bind λd=>
Zo (λv=>XD c g f d v.1 v.2.1 v.2.2.1 v.2.2.2.1 v.2.2.2.2.1 v.2.2.2.2.2.1 v.2.2.2.2.2.2.1) ((0:Int),b,(0:Int),(0:Int),(0:Int),(0:Int),false,())
def ZJo:Ctr:=⟨[.dat (.ptr (ZgC)),.dat (Yd),.dat (.sl (Qn)),.dat (QT),.dat Iq],[.dat (.bool),.dat (Qn)],λa K=>Zv a λd a=>Zv a λe a=>Zv a λc a=>Zv a λb a=>Zv a λf a=>Yw (Qr d e c b f) λr=>K (r.1,r.2,()) ()⟩
def Yi (p:ZI) (q:Zt) (d:List Zj) (b:List Int) (h:Int) (i:List Bool) (j k:List Zx) (e:List Bool) (g f:List Zx):Option ((Int×(List Bool)×(List Zx)×(List Zx)×(List Bool)×(List Zx)×(List Zx)×Unit) ⊕ (Zw×Bool)):=
if h<(b.length:Int) then
(atI b h).bind λa=>
(Qr p q d (e,g,f,()) a).bind λc=>
if c.1 then
(Zau c.2.2.1).bind λl=>
if l then
(atI e a).bind λn=>
(atI g a).bind λo=>
(atI f a).bind λm=>
some (.inl (Wq (h+1),i,j,k,List.set e (Int.toNat a) c.1,List.set g (Int.toNat a) c.2.2.1,List.set f (Int.toNat a) c.2.2.2.1,()))
else
some (.inr ((([]:List Bool),([]:List Zx),([]:List Zx),()),false))
else
(atI e a).bind λn=>
(atI g a).bind λo=>
(atI f a).bind λm=>
some (.inl (Wq (h+1),i,j,k,List.set e (Int.toNat a) c.1,List.set g (Int.toNat a) c.2.2.1,List.set f (Int.toNat a) c.2.2.2.1,()))
else
some (.inr ((e,g,f,()),true))
def XT (d:ZI) (e:Zt) (a:List Zj) (b:List Int):Option (Zw×Bool):=
(ZdY (ZI.view d)).bind λc=>
Zo (λv=>Yi d e a b v.1 v.2.1 v.2.2.1 v.2.2.2.1 v.2.2.2.2.1 v.2.2.2.2.2.1 v.2.2.2.2.2.2.1) ((0:Int),([]:List Bool),([]:List Zx),([]:List Zx),Zw.Reached c,Zw.Ye c,Zw.QU c,())
def ZJp:Ctr:=⟨[.dat (.ptr (ZgC)),.dat (Yd),.dat (.sl (Qn)),.dat (.sl Iq)],[.own (Zk2),.dat (.bool)],λa K=>Zv a λe a=>Zv a λd a=>Zv a λb a=>Zv a λc a=>Yw (XT e d b c) λr=>K (r.1,r.2,()) ()⟩
def ZbA (g:Zd) (b:Zu) (a:Int):Option (Zw×Int):=
(Zgl g b).bind λm=>
if m then
(Qi (Zu.VE b)).bind λh=>
(ZV a 0 (Wq (h-1))).bind λl=>
if l then
(VQ g).bind λc=>
(atI (Zu.VE b) a).bind λi=>
(Jc c).bind λj=>
(VH c j).bind λf=>
(Zdv b).bind λk=>
(Vr f).bind λd=>
if d.2 then
(XT f i k d.1).bind λe=>
if e.2 then
if (0:Int)=0 then
some (e.1,0)
else
some (([],[],[],()),0)
else
if (3:Int)=0 then
none
else
some (([],[],[],()),3)
else
if (7:Int)=0 then
none
else
some (([],[],[],()),7)
else
if (4:Int)=0 then
none
else
some (([],[],[],()),4)
else
if (1:Int)=0 then
none
else
some (([],[],[],()),1)
def ZJq:Ctr:=⟨[.dat (YA),.dat (Vi),.dat Iq],[.own (Zk2),.dat Iq],λa K=>Zv a λd a=>Zv a λc a=>Zv a λb a=>Yw (ZbA d c b) λr=>K (r.1,r.2,()) ()⟩
def ZnN (b d:List Bool) (a:Int):Option ((Int×Unit) ⊕ Bool):=
if a<(b.length:Int) then
(atI b a).bind λc=>
(atI d a).bind λe=>
if (c == e)=true then
some (.inl (Wq (a+1),()))
else
some (.inr false)
else
some (.inr true)
def Zim (a b:List Bool):Option Bool:=
if (a.length:Int)=(b.length:Int) then
Zo (λv=>ZnN a b v.1) ((0:Int),())
else
some false
def ZJr:Ctr:=D2 (.sl (.bool)) (.sl (.bool)) (.bool) Zim
def Zd0 (a b:Zx):Option Bool:=
if Zx.Early a=Zx.Early b then
if Zx.Late a=Zx.Late b then
some true
else
some false
else
some false
def ZHt:Ctr:=D2 (Xg) (Xg) (.bool) Zd0
def ZnS (b d:List Zx) (a:Int):Option ((Int×Unit) ⊕ Bool):=
if a<(b.length:Int) then
(atI b a).bind λc=>
(atI d a).bind λe=>
(Zd0 c e).bind λf=>
if f then
some (.inl (Wq (a+1),()))
else
some (.inr false)
else
some (.inr true)
def Zgp (a b:List Zx):Option Bool:=
if (a.length:Int)=(b.length:Int) then
Zo (λv=>ZnS a b v.1) ((0:Int),())
else
some false
def ZJs:Ctr:=D2 (.sl (Xg)) (.sl (Xg)) (.bool) Zgp
def Zg9 (a b:Zw):Option Bool:=
(Zim (Zw.Reached a) (Zw.Reached b)).bind λe=>
if e then
(Zgp (Zw.Ye a) (Zw.Ye b)).bind λc=>
if c then
(Zgp (Zw.QU a) (Zw.QU b)).bind λd=>
if d then
some true
else
some false
else
some false
else
some false
def ZJt:Ctr:=D2 (QT) (QT) (.bool) Zg9
def Zjb (a b:YQ):Option Bool:=
if YQ.Name a=YQ.Name b then
if YQ.Dir a=YQ.Dir b then
if YQ.Cap a=YQ.Cap b then
if (YQ.Clock a == YQ.Clock b)=true then
some true
else
some false
else
some false
else
some false
else
some false
def ZJu:Ctr:=D2 (Zge) (Zge) (.bool) Zjb
def ZoU (b d:List YQ) (a:Int):Option ((Int×Unit) ⊕ Bool):=
if a<(b.length:Int) then
(atI b a).bind λc=>
(atI d a).bind λe=>
(Zjb c e).bind λf=>
if f then
some (.inl (Wq (a+1),()))
else
some (.inr false)
else
some (.inr true)
def ZjG (a b:List YQ):Option Bool:=
if (a.length:Int)=(b.length:Int) then
Zo (λv=>ZoU a b v.1) ((0:Int),())
else
some false
def ZJv:Ctr:=D2 (.sl (Zge)) (.sl (Zge)) (.bool) ZjG
def ZmS (b d:List Int) (a:Int):Option ((Int×Unit) ⊕ Bool):=
if a<(b.length:Int) then
(atI b a).bind λc=>
(atI d a).bind λe=>
if c=e then
some (.inl (Wq (a+1),()))
else
some (.inr false)
else
some (.inr true)
def XG (a b:List Int):Option Bool:=
if (a.length:Int)=(b.length:Int) then
Zo (λv=>ZmS a b v.1) ((0:Int),())
else
some false
def ZDG:Ctr:=D2 (.sl Iq) (.sl Iq) (.bool) XG
def Zgq (a b:Zz):Option Bool:=
(XG (Zz.Zgg a) (Zz.Zgg b)).bind λe=>
if e then
(XG (Zz.Loads a) (Zz.Loads b)).bind λc=>
if c then
(XG (Zz.Values a) (Zz.Values b)).bind λd=>
if d then
some true
else
some false
else
some false
else
some false
def ZJw:Ctr:=D2 (Xw) (Xw) (.bool) Zgq
def ZmT (b d:List Zz) (a:Int):Option ((Int×Unit) ⊕ Bool):=
if a<(b.length:Int) then
(atI b a).bind λc=>
(atI d a).bind λe=>
(Zgq c e).bind λf=>
if f then
some (.inl (Wq (a+1),()))
else
some (.inr false)
else
some (.inr true)
def ZeY (a b:List Zz):Option Bool:=
if (a.length:Int)=(b.length:Int) then
Zo (λv=>ZmT a b v.1) ((0:Int),())
else
some false
def ZJx:Ctr:=D2 (.sl (Xw)) (.sl (Xw)) (.bool) ZeY
def Zja (b a:ZG):Option Bool:=
if ZG.Kind b=ZG.Kind a then
if ZG.From b=ZG.From a then
if ZG.To b=ZG.To a then
if ZG.JZ b=ZG.JZ a then
(ZeY (ZG.Delay b) (ZG.Delay a)).bind λd=>
if d then
(ZeY (ZG.QU b) (ZG.QU a)).bind λc=>
if c then
some true
else
some false
else
some false
else
some false
else
some false
else
some false
else
some false
def ZJy:Ctr:=D2 (ZgE) (ZgE) (.bool) Zja
def ZoR (b d:List ZG) (a:Int):Option ((Int×Unit) ⊕ Bool):=
if a<(b.length:Int) then
(atI b a).bind λc=>
(atI d a).bind λe=>
(Zja c e).bind λf=>
if f then
some (.inl (Wq (a+1),()))
else
some (.inr false)
else
some (.inr true)
def ZjE (a b:List ZG):Option Bool:=
if (a.length:Int)=(b.length:Int) then
Zo (λv=>ZoR a b v.1) ((0:Int),())
else
some false
def ZJz:Ctr:=D2 (.sl (ZgE)) (.sl (ZgE)) (.bool) ZjE
def ZhG (a b:Zn):Option Bool:=
if Zn.Name a=Zn.Name b then
if Zn.Kind a=Zn.Kind b then
(ZjG (Zn.Xi a) (Zn.Xi b)).bind λe=>
if e then
(ZjE (Zn.Zay a) (Zn.Zay b)).bind λc=>
if c then
(XG (Zn.Truth a) (Zn.Truth b)).bind λd=>
if d then
if Zn.ZBy a=Zn.ZBy b then
if Zn.Zl9 a=Zn.Zl9 b then
some true
else
some false
else
some false
else
some false
else
some false
else
some false
else
some false
else
some false
def ZJA:Ctr:=D2 (V8) (V8) (.bool) ZhG
def ZnO (b d:List Zn) (a:Int):Option ((Int×Unit) ⊕ Bool):=
if a<(b.length:Int) then
(atI b a).bind λc=>
(atI d a).bind λe=>
(ZhG c e).bind λf=>
if f then
some (.inl (Wq (a+1),()))
else
some (.inr false)
else
some (.inr true)
def Zin (a b:List Zn):Option Bool:=
if (a.length:Int)=(b.length:Int) then
Zo (λv=>ZnO a b v.1) ((0:Int),())
else
some false
def ZJB:Ctr:=D2 (.sl (V8)) (.sl (V8)) (.bool) Zin
def ZfW (a b:ZE):Option Bool:=
(Zin (ZE.Cells a) (ZE.Cells b)).bind λc=>
if c then
some true
else
some false
def ZJC:Ctr:=D2 (Xf) (Xf) (.bool) ZfW
def Zcm (a b:Zk):Option Bool:=
if Zk.Name a=Zk.Name b then
if Zk.Cell a=Zk.Cell b then
(XG (Zk.Qw a) (Zk.Qw b)).bind λc=>
if c then
some true
else
some false
else
some false
else
some false
def ZJD:Ctr:=D2 (Yl) (Yl) (.bool) Zcm
def ZkP (b d:List Zk) (a:Int):Option ((Int×Unit) ⊕ Bool):=
if a<(b.length:Int) then
(atI b a).bind λc=>
(atI d a).bind λe=>
(Zcm c e).bind λf=>
if f then
some (.inl (Wq (a+1),()))
else
some (.inr false)
else
some (.inr true)
def ZdI (a b:List Zk):Option Bool:=
if (a.length:Int)=(b.length:Int) then
Zo (λv=>ZkP a b v.1) ((0:Int),())
else
some false
def ZJE:Ctr:=D2 (.sl (Yl)) (.sl (Yl)) (.bool) ZdI
def Zl0 (b d:List (List UInt8)) (a:Int):Option ((Int×Unit) ⊕ Bool):=
if a<(b.length:Int) then
(atI b a).bind λc=>
(atI d a).bind λe=>
if c=e then
some (.inl (Wq (a+1),()))
else
some (.inr false)
else
some (.inr true)
def ZfX (a b:List (List UInt8)):Option Bool:=
if (a.length:Int)=(b.length:Int) then
Zo (λv=>Zl0 a b v.1) ((0:Int),())
else
some false
def ZJF:Ctr:=D2 (.sl (.str)) (.sl (.str)) (.bool) ZfX
def ZhI (a b:Yj):Option Bool:=
if Yj.Name a=Yj.Name b then
if Yj.Dir a=Yj.Dir b then
if Yj.Net a=Yj.Net b then
some true
else
some false
else
some false
else
some false
def ZJG:Ctr:=D2 (Za3) (Za3) (.bool) ZhI
def ZnR (b d:List Yj) (a:Int):Option ((Int×Unit) ⊕ Bool):=
if a<(b.length:Int) then
(atI b a).bind λc=>
(atI d a).bind λe=>
(ZhI c e).bind λf=>
if f then
some (.inl (Wq (a+1),()))
else
some (.inr false)
else
some (.inr true)
def Zio (a b:List Yj):Option Bool:=
if (a.length:Int)=(b.length:Int) then
Zo (λv=>ZnR a b v.1) ((0:Int),())
else
some false
def ZJH:Ctr:=D2 (.sl (Za3)) (.sl (Za3)) (.bool) Zio
def Zg8 (a b:Zf):Option Bool:=
(ZdI (Zf.Instances a) (Zf.Instances b)).bind λe=>
if e then
(ZfX (Zf.Qw a) (Zf.Qw b)).bind λc=>
if c then
(Zio (Zf.Qx a) (Zf.Qx b)).bind λd=>
if d then
some true
else
some false
else
some false
else
some false
def ZJI:Ctr:=D2 (YZ) (YZ) (.bool) Zg8
def ZhJ (a b:ZB):Option Bool:=
(XG (ZB.Parent a) (ZB.Parent b)).bind λf=>
if f then
(XG (ZB.Res a) (ZB.Res b)).bind λc=>
if c then
(XG (ZB.Cap a) (ZB.Cap b)).bind λe=>
if e then
(XG (ZB.ZgD a) (ZB.ZgD b)).bind λd=>
if d then
some true
else
some false
else
some false
else
some false
else
some false
def ZJJ:Ctr:=D2 (ZaB) (ZaB) (.bool) ZhJ
def ZnT (b d:List ZB) (a:Int):Option ((Int×Unit) ⊕ Bool):=
if a<(b.length:Int) then
(atI b a).bind λc=>
(atI d a).bind λe=>
(ZhJ c e).bind λf=>
if f then
some (.inl (Wq (a+1),()))
else
some (.inr false)
else
some (.inr true)
def Zir (a b:List ZB):Option Bool:=
if (a.length:Int)=(b.length:Int) then
Zo (λv=>ZnT a b v.1) ((0:Int),())
else
some false
def ZJK:Ctr:=D2 (.sl (ZaB)) (.sl (ZaB)) (.bool) Zir
def Zil (a b:Zd):Option Bool:=
(ZfW (Zd.Library a) (Zd.Library b)).bind λe=>
if e then
(Zg8 (Zd.Design a) (Zd.Design b)).bind λc=>
if c then
(Zir (Zd.Xo a) (Zd.Xo b)).bind λd=>
if d then
some true
else
some false
else
some false
else
some false
def ZJL:Ctr:=D2 (YA) (YA) (.bool) Zil
def Zgo (a b:Zc):Option Bool:=
if Zc.Name a=Zc.Name b then
if Zc.Place a=Zc.Place b then
if Zc.Xl a=Zc.Xl b then
if Zc.Qd a=Zc.Qd b then
if Zc.QX a=Zc.QX b then
if Zc.Source a=Zc.Source b then
if Zc.Divide a=Zc.Divide b then
if (Zc.Zgf a == Zc.Zgf b)=true then
if Zc.Yx a=Zc.Yx b then
if Zc.Xt a=Zc.Xt b then
if Zc.Zas a=Zc.Zas b then
some true
else
some false
else
some false
else
some false
else
some false
else
some false
else
some false
else
some false
else
some false
else
some false
else
some false
else
some false
def ZJM:Ctr:=D2 (Xh) (Xh) (.bool) Zgo
def ZmP (b d:List Zc) (a:Int):Option ((Int×Unit) ⊕ Bool):=
if a<(b.length:Int) then
(atI b a).bind λc=>
(atI d a).bind λe=>
(Zgo c e).bind λf=>
if f then
some (.inl (Wq (a+1),()))
else
some (.inr false)
else
some (.inr true)
def Zg7 (a b:List Zc):Option Bool:=
if (a.length:Int)=(b.length:Int) then
Zo (λv=>ZmP a b v.1) ((0:Int),())
else
some false
def ZJN:Ctr:=D2 (.sl (Xh)) (.sl (Xh)) (.bool) Zg7
def Zcl (b a:Zg):Option Bool:=
if Zg.Place b=Zg.Place a then
if Zg.Clock b=Zg.Clock a then
(Zd0 (Zg.Delay b) (Zg.Delay a)).bind λd=>
if d then
(Zd0 (Zg.QU b) (Zg.QU a)).bind λc=>
if c then
some true
else
some false
else
some false
else
some false
else
some false
def ZJO:Ctr:=D2 (Z5) (Z5) (.bool) Zcl
def ZkO (b d:List Zg) (a:Int):Option ((Int×Unit) ⊕ Bool):=
if a<(b.length:Int) then
(atI b a).bind λc=>
(atI d a).bind λe=>
(Zcl c e).bind λf=>
if f then
some (.inl (Wq (a+1),()))
else
some (.inr false)
else
some (.inr true)
def ZbD (a b:List Zg):Option Bool:=
if (a.length:Int)=(b.length:Int) then
Zo (λv=>ZkO a b v.1) ((0:Int),())
else
some false
def ZJP:Ctr:=D2 (.sl (Z5)) (.sl (Z5)) (.bool) ZbD
def ZbC (a b:Zr):Option Bool:=
if Zr.Kind a=Zr.Kind b then
if Zr.Value a=Zr.Value b then
(XG (Zr.From a) (Zr.From b)).bind λe=>
if e then
(XG (Zr.Through a) (Zr.Through b)).bind λc=>
if c then
(XG (Zr.To a) (Zr.To b)).bind λd=>
if d then
some true
else
some false
else
some false
else
some false
else
some false
else
some false
def ZJQ:Ctr:=D2 (ZO) (ZO) (.bool) ZbC
def ZjF (b d:List Zr) (a:Int):Option ((Int×Unit) ⊕ Bool):=
if a<(b.length:Int) then
(atI b a).bind λc=>
(atI d a).bind λe=>
(ZbC c e).bind λf=>
if f then
some (.inl (Wq (a+1),()))
else
some (.inr false)
else
some (.inr true)
def ZcW (a b:List Zr):Option Bool:=
if (a.length:Int)=(b.length:Int) then
Zo (λv=>ZjF a b v.1) ((0:Int),())
else
some false
def ZJR:Ctr:=D2 (.sl (ZO)) (.sl (ZO)) (.bool) ZcW
def ZeX (a b:Zt):Option Bool:=
if Zt.Name a=Zt.Name b then
if Zt.QW a=Zt.QW b then
if Zt.JY a=Zt.JY b then
if Zt.J2 a=Zt.J2 b then
if Zt.ZcJ a=Zt.ZcJ b then
some true
else
some false
else
some false
else
some false
else
some false
else
some false
def ZJS:Ctr:=D2 (Yd) (Yd) (.bool) ZeX
def ZlY (b d:List Zt) (a:Int):Option ((Int×Unit) ⊕ Bool):=
if a<(b.length:Int) then
(atI b a).bind λc=>
(atI d a).bind λe=>
(ZeX c e).bind λf=>
if f then
some (.inl (Wq (a+1),()))
else
some (.inr false)
else
some (.inr true)
def ZfV (a b:List Zt):Option Bool:=
if (a.length:Int)=(b.length:Int) then
Zo (λv=>ZlY a b v.1) ((0:Int),())
else
some false
def ZJT:Ctr:=D2 (.sl (Yd)) (.sl (Yd)) (.bool) ZfV
def Ziq (a b:Zu):Option Bool:=
(Zg7 (Zu.ZM a) (Zu.ZM b)).bind λg=>
if g then
(ZbD (Zu.Jz a) (Zu.Jz b)).bind λc=>
if c then
(ZbD (Zu.ZgF a) (Zu.ZgF b)).bind λf=>
if f then
(ZcW (Zu.Exceptions a) (Zu.Exceptions b)).bind λd=>
if d then
(ZfV (Zu.VE a) (Zu.VE b)).bind λe=>
if e then
some true
else
some false
else
some false
else
some false
else
some false
else
some false
def ZJU:Ctr:=D2 (Vi) (Vi) (.bool) Ziq
def Zd3 (b:Int) (a:List UInt8):Option ((Int×(List UInt8)×Unit) ⊕ List UInt8):=
if 0<b then
Zy ((((bytesOf [IntKind.wrap IntKind.u8 (Wq ((48:Int)+Int.tmod b (10:Int)))]).length):Int)+(a.length:Int)<=9223372036854775807)<|
some (.inl (Wq (Int.tdiv b (10:Int)),bytesOf [IntKind.wrap IntKind.u8 (Wq ((48:Int)+Int.tmod b (10:Int)))]++a,()))
else
Zy ((([(109:UInt8)].length):Int)+(a.length:Int)<=9223372036854775807)<|
some (.inr ([(109:UInt8)]++a))
def Vb (a:Int):Option (List UInt8):=
if a<=0 then
some ([(109:UInt8),48])
else
Zo (λv=>Zd3 v.1 v.2.1) (a,([]:List UInt8),())
def ZBK:Ctr:=D1 Iq (.str) Vb
def Zd2 (b a:Int) (c:List YQ):Option ((Int×Int×(List YQ)×Unit) ⊕ (Int×(List YQ))):=
if a<(c.length:Int) then
(Vb b).bind λg=>
(atI c a).bind λf=>
(atI (List.set c (Int.toNat a) (g,f.2)) a).bind λd=>
(atI (List.set (List.set c (Int.toNat a) (g,f.2)) (Int.toNat a) (YQ.Name d,Wq (b+1),d.2.2)) a).bind λe=>
(atI (List.set (List.set (List.set c (Int.toNat a) (g,f.2)) (Int.toNat a) (YQ.Name d,Wq (b+1),d.2.2)) (Int.toNat a) (YQ.Name e,YQ.Dir e,Wq (Wq (b+1)+1),e.2.2.2)) a).bind λh=>
some (.inl (Wq (Wq (Wq (Wq (b+1)+1)+1)+1),Wq (a+1),List.set (List.set (List.set (List.set c (Int.toNat a) (g,f.2)) (Int.toNat a) (YQ.Name d,Wq (b+1),d.2.2)) (Int.toNat a) (YQ.Name e,YQ.Dir e,Wq (Wq (b+1)+1),e.2.2.2)) (Int.toNat a) (YQ.Name h,YQ.Dir h,YQ.Cap h,decide (Int.tmod (Wq (Wq (Wq (b+1)+1)+1)) 3=0),()),()))
else
some (.inr (b,c))
def Zhb (a:List YQ) (b:Int):Option (Int×(List YQ)):=
Zo (λv=>Zd2 v.1 v.2.1 v.2.2.1) (b,(0:Int),a,())
def ZJV:Ctr:=⟨[.back (.ol 326 (.flat (Zge))),.dat Iq],[.dat Iq],λa K=>Zv a λb a=>Zv a λc a=>Yw (Zhb b c) λr=>K (r.1,()) (r.2,())⟩
def Zco (c b:Int) (a:List Int):Option ((Int×Int×(List Int)×Unit) ⊕ (Int×(List Int))):=
if b<(a.length:Int) then
(atI a b).bind λd=>
some (.inl (Wq (c+1),Wq (b+1),List.set a (Int.toNat b) c,()))
else
some (.inr (c,a))
def YU (a:List Int) (b:Int):Option (Int×(List Int)):=
Zo (λv=>Zco v.1 v.2.1 v.2.2.1) (b,(0:Int),a,())
def ZDH:Ctr:=⟨[.back (.ol 2 (.flat Iq)),.dat Iq],[.dat Iq],λa K=>Zv a λb a=>Zv a λc a=>Yw (YU b c) λr=>K (r.1,()) (r.2,())⟩
def Zcq (f a:Int) (b:List (List Int×List Int×List Int×Unit)):Option ((Int×Int×(List (List Int×List Int×List Int×Unit))×Unit) ⊕ (Int×(List Zz))):=
if a<(b.length:Int) then
(atI b a).bind λc=>
(YU c.1 f).bind λg=>
(YU c.2.1 g.1).bind λd=>
(YU c.2.2.1 d.1).bind λe=>
some (.inl (e.1,Wq (a+1),List.set b (Int.toNat a) (g.2,d.2,e.2,()),()))
else
some (.inr (f,b))
def Zcp (a:List Zz) (b:Int):Option (Int×(List Zz)):=
Zo (λv=>Zcq v.1 v.2.1 v.2.2.1) (b,(0:Int),a,())
def ZJW:Ctr:=⟨[.back (.ol 373 (Zka)),.dat Iq],[.dat Iq],λa K=>Zv a λb a=>Zv a λc a=>Yw (Zcp b c) λr=>K (r.1,()) (r.2,())⟩
def Zd1 (a b:Int) (c:List (Int×Int×Int×Int×List Zz×List Zz×Unit)):Option ((Int×Int×(List (Int×Int×Int×Int×List Zz×List Zz×Unit))×Unit) ⊕ (Int×(List ZG))):=
if b<(c.length:Int) then
(atI c b).bind λd=>
(Zcp d.2.2.2.2.1 (Wq (Wq (Wq (Wq (a+1)+1)+1)+1))).bind λf=>
(Zcp d.2.2.2.2.2.1 f.1).bind λe=>
some (.inl (e.1,Wq (b+1),List.set c (Int.toNat b) (a,Wq (a+1),Wq (Wq (a+1)+1),Wq (Wq (Wq (a+1)+1)+1),f.2,e.2,()),()))
else
some (.inr (a,c))
def Zha (a:List ZG) (b:Int):Option (Int×(List ZG)):=
Zo (λv=>Zd1 v.1 v.2.1 v.2.2.1) (b,(0:Int),a,())
def ZJX:Ctr:=⟨[.back (.ol 233 (ZBB)),.dat Iq],[.dat Iq],λa K=>Zv a λb a=>Zv a λc a=>Yw (Zha b c) λr=>K (r.1,()) (r.2,())⟩
def Zdb (d c:Int) (b:List (List UInt8×Int×List YQ×List ZG×List Int×Int×Int×Unit)):Option ((Int×Int×(List (List UInt8×Int×List YQ×List ZG×List Int×Int×Int×Unit))×Unit) ⊕ (Int×(List Zn))):=
if c<(b.length:Int) then
(Vb d).bind λh=>
(atI b c).bind λe=>
(Zhb e.2.2.1 (Wq (Wq (d+1)+1))).bind λf=>
(Zha e.2.2.2.1 f.1).bind λg=>
(YU e.2.2.2.2.1 g.1).bind λa=>
some (.inl (Wq (Wq (a.1+1)+1),Wq (c+1),List.set b (Int.toNat c) (h,Wq (d+1),f.2,g.2,a.2,a.1,Wq (a.1+1),()),()))
else
some (.inr (d,b))
def Zf1 (a:List Zn) (b:Int):Option (Int×(List Zn)):=
Zo (λv=>Zdb v.1 v.2.1 v.2.2.1) (b,(0:Int),a,())
def ZJY:Ctr:=⟨[.back (.ol 230 (ZtX)),.dat Iq],[.dat Iq],λa K=>Zv a λb a=>Zv a λc a=>Yw (Zf1 b c) λr=>K (r.1,()) (r.2,())⟩
def ZdK (b:ZE) (c:Int):Option (Int×ZE):=
(Zf1 (ZE.Cells b) c).bind λa=>
some (a.1,(a.2,()))
def ZJZ:Ctr:=⟨[.back (ZtY),.dat Iq],[.dat Iq],λa K=>Zv a λb a=>Zv a λc a=>Yw (ZdK b c) λr=>K (r.1,()) (r.2,())⟩
def ZaV (c a:Int) (b:List (List UInt8×Int×List Int×Unit)):Option ((Int×Int×(List (List UInt8×Int×List Int×Unit))×Unit) ⊕ (Int×(List Zk))):=
if a<(b.length:Int) then
(Vb c).bind λf=>
(atI b a).bind λe=>
(YU e.2.2.1 (Wq (Wq (c+1)+1))).bind λd=>
some (.inl (d.1,Wq (a+1),List.set b (Int.toNat a) (f,Wq (c+1),d.2,()),()))
else
some (.inr (c,b))
def Zb1 (a:List Zk) (b:Int):Option (Int×(List Zk)):=
Zo (λv=>ZaV v.1 v.2.1 v.2.2.1) (b,(0:Int),a,())
def ZJ0:Ctr:=⟨[.back (.ol 218 (ZeH)),.dat Iq],[.dat Iq],λa K=>Zv a λb a=>Zv a λc a=>Yw (Zb1 b c) λr=>K (r.1,()) (r.2,())⟩
def ZbW (c b:Int) (a:List (List UInt8)):Option ((Int×Int×(List (List UInt8))×Unit) ⊕ (Int×(List (List UInt8)))):=
if b<(a.length:Int) then
(Vb c).bind λd=>
(atI a b).bind λe=>
some (.inl (Wq (c+1),Wq (b+1),List.set a (Int.toNat b) d,()))
else
some (.inr (c,a))
def ZdL (a:List (List UInt8)) (b:Int):Option (Int×(List (List UInt8))):=
Zo (λv=>ZbW v.1 v.2.1 v.2.2.1) (b,(0:Int),a,())
def ZJ1:Ctr:=⟨[.back (.ol 9 (.flat (.str))),.dat Iq],[.dat Iq],λa K=>Zv a λb a=>Zv a λc a=>Yw (ZdL b c) λr=>K (r.1,()) (r.2,())⟩
def Zdc (b a:Int) (c:List Yj):Option ((Int×Int×(List Yj)×Unit) ⊕ (Int×(List Yj))):=
if a<(c.length:Int) then
(Vb b).bind λf=>
(atI c a).bind λe=>
(atI (List.set c (Int.toNat a) (f,e.2)) a).bind λd=>
(atI (List.set (List.set c (Int.toNat a) (f,e.2)) (Int.toNat a) (Yj.Name d,Wq (b+1),d.2.2)) a).bind λg=>
some (.inl (Wq (Wq (Wq (b+1)+1)+1),Wq (a+1),List.set (List.set (List.set c (Int.toNat a) (f,e.2)) (Int.toNat a) (Yj.Name d,Wq (b+1),d.2.2)) (Int.toNat a) (Yj.Name g,Yj.Dir g,Wq (Wq (b+1)+1),()),()))
else
some (.inr (b,c))
def Zf2 (a:List Yj) (b:Int):Option (Int×(List Yj)):=
Zo (λv=>Zdc v.1 v.2.1 v.2.2.1) (b,(0:Int),a,())
def ZJ2:Ctr:=⟨[.back (.ol 221 (.flat (Za3))),.dat Iq],[.dat Iq],λa K=>Zv a λb a=>Zv a λc a=>Yw (Zf2 b c) λr=>K (r.1,()) (r.2,())⟩
def Ze1 (a:Zf) (e:Int):Option (Int×Zf):=
(Zb1 (Zf.Instances a) e).bind λd=>
(ZdL (Zf.Qw a) d.1).bind λb=>
(Zf2 (Zf.Qx a) b.1).bind λc=>
some (c.1,(d.2,b.2,c.2,()))
def ZJ3:Ctr:=⟨[.back (Zwu),.dat Iq],[.dat Iq],λa K=>Zv a λb a=>Zv a λc a=>Yw (Ze1 b c) λr=>K (r.1,()) (r.2,())⟩
def Zde (g c:Int) (b:List (List Int×List Int×List Int×List Int×Unit)):Option ((Int×Int×(List (List Int×List Int×List Int×List Int×Unit))×Unit) ⊕ (Int×(List ZB))):=
if c<(b.length:Int) then
(atI b c).bind λa=>
(YU a.1 g).bind λh=>
(YU a.2.1 h.1).bind λd=>
(YU a.2.2.1 d.1).bind λf=>
(YU a.2.2.2.1 f.1).bind λe=>
some (.inl (e.1,Wq (c+1),List.set b (Int.toNat c) (h.2,d.2,f.2,e.2,()),()))
else
some (.inr (g,b))
def Zf4 (a:List ZB) (b:Int):Option (Int×(List ZB)):=
Zo (λv=>Zde v.1 v.2.1 v.2.2.1) (b,(0:Int),a,())
def ZJ4:Ctr:=⟨[.back (.ol 170 (ZtZ)),.dat Iq],[.dat Iq],λa K=>Zv a λb a=>Zv a λc a=>Yw (Zf4 b c) λr=>K (r.1,()) (r.2,())⟩
def ZfZ (a:Zd) (e:Int):Option (Int×Zd):=
(ZdK (Zd.Library a) e).bind λd=>
(Ze1 (Zd.Design a) d.1).bind λb=>
(Zf4 (Zd.Xo a) b.1).bind λc=>
some (c.1,(d.2,b.2,c.2,()))
def ZJ5:Ctr:=⟨[.back (ZC9),.dat Iq],[.dat Iq],λa K=>Zv a λb a=>Zv a λc a=>Yw (ZfZ b c) λr=>K (r.1,()) (r.2,())⟩
def Zcn (b a:Int) (l:List Zc):Option ((Int×Int×(List Zc)×Unit) ⊕ (Int×(List Zc))):=
if a<(l.length:Int) then
(Vb b).bind λn=>
(atI l a).bind λm=>
(atI (List.set l (Int.toNat a) (n,m.2)) a).bind λj=>
(atI (List.set (List.set l (Int.toNat a) (n,m.2)) (Int.toNat a) (Zc.Name j,Wq (b+1),j.2.2)) a).bind λi=>
(atI (List.set (List.set (List.set l (Int.toNat a) (n,m.2)) (Int.toNat a) (Zc.Name j,Wq (b+1),j.2.2)) (Int.toNat a) (Zc.Name i,Zc.Place i,Wq (Wq (b+1)+1),i.2.2.2)) a).bind λf=>
(atI (List.set (List.set (List.set (List.set l (Int.toNat a) (n,m.2)) (Int.toNat a) (Zc.Name j,Wq (b+1),j.2.2)) (Int.toNat a) (Zc.Name i,Zc.Place i,Wq (Wq (b+1)+1),i.2.2.2)) (Int.toNat a) (Zc.Name f,Zc.Place f,Zc.Xl f,Wq (Wq (Wq (b+1)+1)+1),f.2.2.2.2)) a).bind λd=>
(atI (List.set (List.set (List.set (List.set (List.set l (Int.toNat a) (n,m.2)) (Int.toNat a) (Zc.Name j,Wq (b+1),j.2.2)) (Int.toNat a) (Zc.Name i,Zc.Place i,Wq (Wq (b+1)+1),i.2.2.2)) (Int.toNat a) (Zc.Name f,Zc.Place f,Zc.Xl f,Wq (Wq (Wq (b+1)+1)+1),f.2.2.2.2)) (Int.toNat a) (Zc.Name d,Zc.Place d,Zc.Xl d,Zc.Qd d,Wq (Wq (Wq (Wq (b+1)+1)+1)+1),d.2.2.2.2.2)) a).bind λc=>
(atI (List.set (List.set (List.set (List.set (List.set (List.set l (Int.toNat a) (n,m.2)) (Int.toNat a) (Zc.Name j,Wq (b+1),j.2.2)) (Int.toNat a) (Zc.Name i,Zc.Place i,Wq (Wq (b+1)+1),i.2.2.2)) (Int.toNat a) (Zc.Name f,Zc.Place f,Zc.Xl f,Wq (Wq (Wq (b+1)+1)+1),f.2.2.2.2)) (Int.toNat a) (Zc.Name d,Zc.Place d,Zc.Xl d,Zc.Qd d,Wq (Wq (Wq (Wq (b+1)+1)+1)+1),d.2.2.2.2.2)) (Int.toNat a) (Zc.Name c,Zc.Place c,Zc.Xl c,Zc.Qd c,Zc.QX c,Wq (Wq (Wq (Wq (Wq (b+1)+1)+1)+1)+1),c.2.2.2.2.2.2)) a).bind λe=>
(atI (List.set (List.set (List.set (List.set (List.set (List.set (List.set l (Int.toNat a) (n,m.2)) (Int.toNat a) (Zc.Name j,Wq (b+1),j.2.2)) (Int.toNat a) (Zc.Name i,Zc.Place i,Wq (Wq (b+1)+1),i.2.2.2)) (Int.toNat a) (Zc.Name f,Zc.Place f,Zc.Xl f,Wq (Wq (Wq (b+1)+1)+1),f.2.2.2.2)) (Int.toNat a) (Zc.Name d,Zc.Place d,Zc.Xl d,Zc.Qd d,Wq (Wq (Wq (Wq (b+1)+1)+1)+1),d.2.2.2.2.2)) (Int.toNat a) (Zc.Name c,Zc.Place c,Zc.Xl c,Zc.Qd c,Zc.QX c,Wq (Wq (Wq (Wq (Wq (b+1)+1)+1)+1)+1),c.2.2.2.2.2.2)) (Int.toNat a) (Zc.Name e,Zc.Place e,Zc.Xl e,Zc.Qd e,Zc.QX e,Zc.Source e,Wq (Wq (Wq (Wq (Wq (Wq (b+1)+1)+1)+1)+1)+1),e.2.2.2.2.2.2.2)) a).bind λg=>
(atI (List.set (List.set (List.set (List.set (List.set (List.set (List.set (List.set l (Int.toNat a) (n,m.2)) (Int.toNat a) (Zc.Name j,Wq (b+1),j.2.2)) (Int.toNat a) (Zc.Name i,Zc.Place i,Wq (Wq (b+1)+1),i.2.2.2)) (Int.toNat a) (Zc.Name f,Zc.Place f,Zc.Xl f,Wq (Wq (Wq (b+1)+1)+1),f.2.2.2.2)) (Int.toNat a) (Zc.Name d,Zc.Place d,Zc.Xl d,Zc.Qd d,Wq (Wq (Wq (Wq (b+1)+1)+1)+1),d.2.2.2.2.2)) (Int.toNat a) (Zc.Name c,Zc.Place c,Zc.Xl c,Zc.Qd c,Zc.QX c,Wq (Wq (Wq (Wq (Wq (b+1)+1)+1)+1)+1),c.2.2.2.2.2.2)) (Int.toNat a) (Zc.Name e,Zc.Place e,Zc.Xl e,Zc.Qd e,Zc.QX e,Zc.Source e,Wq (Wq (Wq (Wq (Wq (Wq (b+1)+1)+1)+1)+1)+1),e.2.2.2.2.2.2.2)) (Int.toNat a) (Zc.Name g,Zc.Place g,Zc.Xl g,Zc.Qd g,Zc.QX g,Zc.Source g,Zc.Divide g,decide (Int.tmod (Wq (Wq (Wq (Wq (Wq (Wq (Wq (b+1)+1)+1)+1)+1)+1)+1)) 3=0),g.2.2.2.2.2.2.2.2)) a).bind λh=>
(atI (List.set (List.set (List.set (List.set (List.set (List.set (List.set (List.set (List.set l (Int.toNat a) (n,m.2)) (Int.toNat a) (Zc.Name j,Wq (b+1),j.2.2)) (Int.toNat a) (Zc.Name i,Zc.Place i,Wq (Wq (b+1)+1),i.2.2.2)) (Int.toNat a) (Zc.Name f,Zc.Place f,Zc.Xl f,Wq (Wq (Wq (b+1)+1)+1),f.2.2.2.2)) (Int.toNat a) (Zc.Name d,Zc.Place d,Zc.Xl d,Zc.Qd d,Wq (Wq (Wq (Wq (b+1)+1)+1)+1),d.2.2.2.2.2)) (Int.toNat a) (Zc.Name c,Zc.Place c,Zc.Xl c,Zc.Qd c,Zc.QX c,Wq (Wq (Wq (Wq (Wq (b+1)+1)+1)+1)+1),c.2.2.2.2.2.2)) (Int.toNat a) (Zc.Name e,Zc.Place e,Zc.Xl e,Zc.Qd e,Zc.QX e,Zc.Source e,Wq (Wq (Wq (Wq (Wq (Wq (b+1)+1)+1)+1)+1)+1),e.2.2.2.2.2.2.2)) (Int.toNat a) (Zc.Name g,Zc.Place g,Zc.Xl g,Zc.Qd g,Zc.QX g,Zc.Source g,Zc.Divide g,decide (Int.tmod (Wq (Wq (Wq (Wq (Wq (Wq (Wq (b+1)+1)+1)+1)+1)+1)+1)) 3=0),g.2.2.2.2.2.2.2.2)) (Int.toNat a) (Zc.Name h,Zc.Place h,Zc.Xl h,Zc.Qd h,Zc.QX h,Zc.Source h,Zc.Divide h,Zc.Zgf h,Wq (Wq (Wq (Wq (Wq (Wq (Wq (Wq (b+1)+1)+1)+1)+1)+1)+1)+1),h.2.2.2.2.2.2.2.2.2)) a).bind λk=>
(atI (List.set (List.set (List.set (List.set (List.set (List.set (List.set (List.set (List.set (List.set l (Int.toNat a) (n,m.2)) (Int.toNat a) (Zc.Name j,Wq (b+1),j.2.2)) (Int.toNat a) (Zc.Name i,Zc.Place i,Wq (Wq (b+1)+1),i.2.2.2)) (Int.toNat a) (Zc.Name f,Zc.Place f,Zc.Xl f,Wq (Wq (Wq (b+1)+1)+1),f.2.2.2.2)) (Int.toNat a) (Zc.Name d,Zc.Place d,Zc.Xl d,Zc.Qd d,Wq (Wq (Wq (Wq (b+1)+1)+1)+1),d.2.2.2.2.2)) (Int.toNat a) (Zc.Name c,Zc.Place c,Zc.Xl c,Zc.Qd c,Zc.QX c,Wq (Wq (Wq (Wq (Wq (b+1)+1)+1)+1)+1),c.2.2.2.2.2.2)) (Int.toNat a) (Zc.Name e,Zc.Place e,Zc.Xl e,Zc.Qd e,Zc.QX e,Zc.Source e,Wq (Wq (Wq (Wq (Wq (Wq (b+1)+1)+1)+1)+1)+1),e.2.2.2.2.2.2.2)) (Int.toNat a) (Zc.Name g,Zc.Place g,Zc.Xl g,Zc.Qd g,Zc.QX g,Zc.Source g,Zc.Divide g,decide (Int.tmod (Wq (Wq (Wq (Wq (Wq (Wq (Wq (b+1)+1)+1)+1)+1)+1)+1)) 3=0),g.2.2.2.2.2.2.2.2)) (Int.toNat a) (Zc.Name h,Zc.Place h,Zc.Xl h,Zc.Qd h,Zc.QX h,Zc.Source h,Zc.Divide h,Zc.Zgf h,Wq (Wq (Wq (Wq (Wq (Wq (Wq (Wq (b+1)+1)+1)+1)+1)+1)+1)+1),h.2.2.2.2.2.2.2.2.2)) (Int.toNat a) (Zc.Name k,Zc.Place k,Zc.Xl k,Zc.Qd k,Zc.QX k,Zc.Source k,Zc.Divide k,Zc.Zgf k,Zc.Yx k,Wq (Wq (Wq (Wq (Wq (Wq (Wq (Wq (Wq (b+1)+1)+1)+1)+1)+1)+1)+1)+1),k.2.2.2.2.2.2.2.2.2.2)) a).bind λo=>
some (.inl (Wq (Wq (Wq (Wq (Wq (Wq (Wq (Wq (Wq (Wq (Wq (b+1)+1)+1)+1)+1)+1)+1)+1)+1)+1)+1),Wq (a+1),List.set (List.set (List.set (List.set (List.set (List.set (List.set (List.set (List.set (List.set (List.set l (Int.toNat a) (n,m.2)) (Int.toNat a) (Zc.Name j,Wq (b+1),j.2.2)) (Int.toNat a) (Zc.Name i,Zc.Place i,Wq (Wq (b+1)+1),i.2.2.2)) (Int.toNat a) (Zc.Name f,Zc.Place f,Zc.Xl f,Wq (Wq (Wq (b+1)+1)+1),f.2.2.2.2)) (Int.toNat a) (Zc.Name d,Zc.Place d,Zc.Xl d,Zc.Qd d,Wq (Wq (Wq (Wq (b+1)+1)+1)+1),d.2.2.2.2.2)) (Int.toNat a) (Zc.Name c,Zc.Place c,Zc.Xl c,Zc.Qd c,Zc.QX c,Wq (Wq (Wq (Wq (Wq (b+1)+1)+1)+1)+1),c.2.2.2.2.2.2)) (Int.toNat a) (Zc.Name e,Zc.Place e,Zc.Xl e,Zc.Qd e,Zc.QX e,Zc.Source e,Wq (Wq (Wq (Wq (Wq (Wq (b+1)+1)+1)+1)+1)+1),e.2.2.2.2.2.2.2)) (Int.toNat a) (Zc.Name g,Zc.Place g,Zc.Xl g,Zc.Qd g,Zc.QX g,Zc.Source g,Zc.Divide g,decide (Int.tmod (Wq (Wq (Wq (Wq (Wq (Wq (Wq (b+1)+1)+1)+1)+1)+1)+1)) 3=0),g.2.2.2.2.2.2.2.2)) (Int.toNat a) (Zc.Name h,Zc.Place h,Zc.Xl h,Zc.Qd h,Zc.QX h,Zc.Source h,Zc.Divide h,Zc.Zgf h,Wq (Wq (Wq (Wq (Wq (Wq (Wq (Wq (b+1)+1)+1)+1)+1)+1)+1)+1),h.2.2.2.2.2.2.2.2.2)) (Int.toNat a) (Zc.Name k,Zc.Place k,Zc.Xl k,Zc.Qd k,Zc.QX k,Zc.Source k,Zc.Divide k,Zc.Zgf k,Zc.Yx k,Wq (Wq (Wq (Wq (Wq (Wq (Wq (Wq (Wq (b+1)+1)+1)+1)+1)+1)+1)+1)+1),k.2.2.2.2.2.2.2.2.2.2)) (Int.toNat a) (Zc.Name o,Zc.Place o,Zc.Xl o,Zc.Qd o,Zc.QX o,Zc.Source o,Zc.Divide o,Zc.Zgf o,Zc.Yx o,Zc.Xt o,Wq (Wq (Wq (Wq (Wq (Wq (Wq (Wq (Wq (Wq (b+1)+1)+1)+1)+1)+1)+1)+1)+1)+1),()),()))
else
some (.inr (b,l))
def Ze0 (a:List Zc) (b:Int):Option (Int×(List Zc)):=
Zo (λv=>Zcn v.1 v.2.1 v.2.2.1) (b,(0:Int),a,())
def ZJ6:Ctr:=⟨[.back (.ol 137 (.flat (Xh))),.dat Iq],[.dat Iq],λa K=>Zv a λb a=>Zv a λc a=>Yw (Ze0 b c) λr=>K (r.1,()) (r.2,())⟩
def ZaU (b a:Int) (f:List Zg):Option ((Int×Int×(List Zg)×Unit) ⊕ (Int×(List Zg))):=
if a<(f.length:Int) then
(atI f a).bind λh=>
(atI (List.set f (Int.toNat a) (b,h.2)) a).bind λe=>
(atI (List.set (List.set f (Int.toNat a) (b,h.2)) (Int.toNat a) (Zg.Place e,Wq (b+1),e.2.2)) a).bind λc=>
(atI (List.set (List.set (List.set f (Int.toNat a) (b,h.2)) (Int.toNat a) (Zg.Place e,Wq (b+1),e.2.2)) (Int.toNat a) (Zg.Place c,Zg.Clock c,(Wq (Wq (b+1)+1),(Zg.Delay c).2),c.2.2.2)) a).bind λd=>
(atI (List.set (List.set (List.set (List.set f (Int.toNat a) (b,h.2)) (Int.toNat a) (Zg.Place e,Wq (b+1),e.2.2)) (Int.toNat a) (Zg.Place c,Zg.Clock c,(Wq (Wq (b+1)+1),(Zg.Delay c).2),c.2.2.2)) (Int.toNat a) (Zg.Place d,Zg.Clock d,(Zx.Early (Zg.Delay d),Wq (Wq (Wq (b+1)+1)+1),()),d.2.2.2)) a).bind λg=>
(atI (List.set (List.set (List.set (List.set (List.set f (Int.toNat a) (b,h.2)) (Int.toNat a) (Zg.Place e,Wq (b+1),e.2.2)) (Int.toNat a) (Zg.Place c,Zg.Clock c,(Wq (Wq (b+1)+1),(Zg.Delay c).2),c.2.2.2)) (Int.toNat a) (Zg.Place d,Zg.Clock d,(Zx.Early (Zg.Delay d),Wq (Wq (Wq (b+1)+1)+1),()),d.2.2.2)) (Int.toNat a) (Zg.Place g,Zg.Clock g,Zg.Delay g,(Wq (Wq (Wq (Wq (b+1)+1)+1)+1),(Zg.QU g).2),())) a).bind λi=>
some (.inl (Wq (Wq (Wq (Wq (Wq (Wq (b+1)+1)+1)+1)+1)+1),Wq (a+1),List.set (List.set (List.set (List.set (List.set (List.set f (Int.toNat a) (b,h.2)) (Int.toNat a) (Zg.Place e,Wq (b+1),e.2.2)) (Int.toNat a) (Zg.Place c,Zg.Clock c,(Wq (Wq (b+1)+1),(Zg.Delay c).2),c.2.2.2)) (Int.toNat a) (Zg.Place d,Zg.Clock d,(Zx.Early (Zg.Delay d),Wq (Wq (Wq (b+1)+1)+1),()),d.2.2.2)) (Int.toNat a) (Zg.Place g,Zg.Clock g,Zg.Delay g,(Wq (Wq (Wq (Wq (b+1)+1)+1)+1),(Zg.QU g).2),())) (Int.toNat a) (Zg.Place i,Zg.Clock i,Zg.Delay i,(Zx.Early (Zg.QU i),Wq (Wq (Wq (Wq (Wq (b+1)+1)+1)+1)+1),()),()),()))
else
some (.inr (b,f))
def Zac (a:List Zg) (b:Int):Option (Int×(List Zg)):=
Zo (λv=>ZaU v.1 v.2.1 v.2.2.1) (b,(0:Int),a,())
def ZJ7:Ctr:=⟨[.back (.ol 165 (.flat (Z5))),.dat Iq],[.dat Iq],λa K=>Zv a λb a=>Zv a λc a=>Yw (Zac b c) λr=>K (r.1,()) (r.2,())⟩
def Zaw (c a:Int) (b:List (Int×Int×List Int×List Int×List Int×Unit)):Option ((Int×Int×(List (Int×Int×List Int×List Int×List Int×Unit))×Unit) ⊕ (Int×(List Zr))):=
if a<(b.length:Int) then
(atI b a).bind λd=>
(YU d.2.2.1 (Wq (Wq (c+1)+1))).bind λg=>
(YU d.2.2.2.1 g.1).bind λe=>
(YU d.2.2.2.2.1 e.1).bind λf=>
some (.inl (f.1,Wq (a+1),List.set b (Int.toNat a) (c,Wq (c+1),g.2,e.2,f.2,()),()))
else
some (.inr (c,b))
def Zbl (a:List Zr) (b:Int):Option (Int×(List Zr)):=
Zo (λv=>Zaw v.1 v.2.1 v.2.2.1) (b,(0:Int),a,())
def ZJ8:Ctr:=⟨[.back (.ol 141 (ZcL)),.dat Iq],[.dat Iq],λa K=>Zv a λb a=>Zv a λc a=>Yw (Zbl b c) λr=>K (r.1,()) (r.2,())⟩
def ZbV (b a:Int) (e:List Zt):Option ((Int×Int×(List Zt)×Unit) ⊕ (Int×(List Zt))):=
if a<(e.length:Int) then
(Vb b).bind λh=>
(atI e a).bind λg=>
(atI (List.set e (Int.toNat a) (h,g.2)) a).bind λf=>
(atI (List.set (List.set e (Int.toNat a) (h,g.2)) (Int.toNat a) (Zt.Name f,Wq (b+1),f.2.2)) a).bind λc=>
(atI (List.set (List.set (List.set e (Int.toNat a) (h,g.2)) (Int.toNat a) (Zt.Name f,Wq (b+1),f.2.2)) (Int.toNat a) (Zt.Name c,Zt.QW c,Wq (Wq (b+1)+1),c.2.2.2)) a).bind λd=>
(atI (List.set (List.set (List.set (List.set e (Int.toNat a) (h,g.2)) (Int.toNat a) (Zt.Name f,Wq (b+1),f.2.2)) (Int.toNat a) (Zt.Name c,Zt.QW c,Wq (Wq (b+1)+1),c.2.2.2)) (Int.toNat a) (Zt.Name d,Zt.QW d,Zt.JY d,Wq (Wq (Wq (b+1)+1)+1),d.2.2.2.2)) a).bind λi=>
some (.inl (Wq (Wq (Wq (Wq (Wq (b+1)+1)+1)+1)+1),Wq (a+1),List.set (List.set (List.set (List.set (List.set e (Int.toNat a) (h,g.2)) (Int.toNat a) (Zt.Name f,Wq (b+1),f.2.2)) (Int.toNat a) (Zt.Name c,Zt.QW c,Wq (Wq (b+1)+1),c.2.2.2)) (Int.toNat a) (Zt.Name d,Zt.QW d,Zt.JY d,Wq (Wq (Wq (b+1)+1)+1),d.2.2.2.2)) (Int.toNat a) (Zt.Name i,Zt.QW i,Zt.JY i,Zt.J2 i,Wq (Wq (Wq (Wq (b+1)+1)+1)+1),()),()))
else
some (.inr (b,e))
def ZdJ (a:List Zt) (b:Int):Option (Int×(List Zt)):=
Zo (λv=>ZbV v.1 v.2.1 v.2.2.1) (b,(0:Int),a,())
def ZJ9:Ctr:=⟨[.back (.ol 83 (.flat (Yd))),.dat Iq],[.dat Iq],λa K=>Zv a λb a=>Zv a λc a=>Yw (ZdJ b c) λr=>K (r.1,()) (r.2,())⟩
def Zf3 (a:Zu) (g:Int):Option (Int×Zu):=
(Ze0 (Zu.ZM a) g).bind λf=>
(Zac (Zu.Jz a) f.1).bind λb=>
(Zac (Zu.ZgF a) b.1).bind λe=>
(Zbl (Zu.Exceptions a) e.1).bind λc=>
(ZdJ (Zu.VE a) c.1).bind λd=>
some (d.1,(f.2,b.2,e.2,c.2,d.2,()))
def ZKa:Ctr:=⟨[.back (ZDa),.dat Iq],[.dat Iq],λa K=>Zv a λb a=>Zv a λc a=>Yw (Zf3 b c) λr=>K (r.1,()) (r.2,())⟩
def Zda (c b:Int) (a:List Bool):Option ((Int×Int×(List Bool)×Unit) ⊕ (Int×(List Bool))):=
if b<(a.length:Int) then
(atI a b).bind λd=>
some (.inl (Wq (c+1),Wq (b+1),List.set a (Int.toNat b) (decide (Int.tmod c 3=0)),()))
else
some (.inr (c,a))
def Zf0 (a:List Bool) (b:Int):Option (Int×(List Bool)):=
Zo (λv=>Zda v.1 v.2.1 v.2.2.1) (b,(0:Int),a,())
def ZKb:Ctr:=⟨[.back (.ol 4 (.flat (.bool))),.dat Iq],[.dat Iq],λa K=>Zv a λb a=>Zv a λc a=>Yw (Zf0 b c) λr=>K (r.1,()) (r.2,())⟩
def Zdd (c a:Int) (b:List Zx):Option ((Int×Int×(List Zx)×Unit) ⊕ (Int×(List Zx))):=
if a<(b.length:Int) then
(atI b a).bind λd=>
(atI (List.set b (Int.toNat a) (c,d.2)) a).bind λe=>
some (.inl (Wq (Wq (c+1)+1),Wq (a+1),List.set (List.set b (Int.toNat a) (c,d.2)) (Int.toNat a) (Zx.Early e,Wq (c+1),()),()))
else
some (.inr (c,b))
def Zdx (a:List Zx) (b:Int):Option (Int×(List Zx)):=
Zo (λv=>Zdd v.1 v.2.1 v.2.2.1) (b,(0:Int),a,())
def ZKc:Ctr:=⟨[.back (.ol 160 (.flat (Xg))),.dat Iq],[.dat Iq],λa K=>Zv a λb a=>Zv a λc a=>Yw (Zdx b c) λr=>K (r.1,()) (r.2,())⟩
def Ze2 (a:Zw) (e:Int):Option (Int×Zw):=
(Zf0 (Zw.Reached a) e).bind λd=>
(Zdx (Zw.Ye a) d.1).bind λb=>
(Zdx (Zw.QU a) b.1).bind λc=>
some (c.1,(d.2,b.2,c.2,()))
def ZKd:Ctr:=⟨[.back (Zk2),.dat Iq],[.dat Iq],λa K=>Zv a λb a=>Zv a λc a=>Yw (Ze2 b c) λr=>K (r.1,()) (r.2,())⟩
def ZaI (c:List Bool) (a b:Int):Option ((Int×Int×Unit) ⊕ Int):=
if b<(c.length:Int) then
(atI c b).bind λd=>
if (d == decide (Int.tmod a 3=0))=true then
some (.inl (Wq (a+1),Wq (b+1),()))
else
some (.inr (-1))
else
some (.inr a)
def ZfY (a:List Bool) (b:Int):Option Int:=
Zo (λv=>ZaI a v.1 v.2.1) (b,(0:Int),())
def ZKe:Ctr:=D2 (.sl (.bool)) Iq Iq ZfY
def ZaJ (d:List Zx) (a b:Int):Option ((Int×Int×Unit) ⊕ Int):=
if b<(d.length:Int) then
(atI d b).bind λc=>
if Zx.Early c=a then
if Zx.Late c=Wq (a+1) then
some (.inl (Wq (Wq (a+1)+1),Wq (b+1),()))
else
some (.inr (-1))
else
some (.inr (-1))
else
some (.inr a)
def Zdw (a:List Zx) (b:Int):Option Int:=
Zo (λv=>ZaJ a v.1 v.2.1) (b,(0:Int),())
def ZKf:Ctr:=D2 (.sl (Xg)) Iq Iq Zdw
def ZeZ (a:Zw) (e:Int):Option Int:=
(ZfY (Zw.Reached a) e).bind λd=>
if d<0 then
some (-1)
else
(Zdw (Zw.Ye a) d).bind λb=>
if b<0 then
some (-1)
else
(Zdw (Zw.QU a) b).bind λc=>
if c<0 then
some (-1)
else
some c
def ZKg:Ctr:=D2 (QT) Iq Iq ZeZ
def Va (j:Zd) (k:Zu) (h:Int):Option Bool:=
(Zer j 1048576).bind λl=>
if l<0 then
some true
else
(Zev k l).bind λm=>
if m<0 then
some true
else
(Ziu j).bind λe=>
(Zix k).bind λb=>
(JX e b h).bind λf=>
(ZbA e b h).bind λc=>
(Zg9 c.1 f.1).bind λg=>
if g then
if c.2=f.2 then
(Zil e e).bind λn=>
if n then
(Ziq b b).bind λo=>
if o then
(ZfZ e 1).bind λp=>
(Zf3 b p.1).bind λi=>
if i.1<0 then
some false
else
if g then
if c.2=f.2 then
(Ze2 c.1 1).bind λd=>
(ZeZ d.2 1).bind λa=>
if a<0 then
some false
else
if a=d.1 then
if g then
if c.2=f.2 then
if a<0 then
some false
else
if a=d.1 then
some true
else
some false
else
some false
else
some false
else
some false
else
some false
else
some false
else
some false
else
some false
else
some false
else
some false
def Zdt:Ctr:=⟨[.dat (YA),.dat (Vi),.dat Iq],[.dat (.bool)],λa K=>Zv a λc a=>Zv a λd a=>Zv a λb a=>Yw (Va c d b) λr=>K (r,()) ()⟩
def Zgm (a:List Zm):Option Int:=
some (a.length:Int)
def ZgM (c:ZF) (a:Int):Option Bool:=
(Xc c).bind λd=>
(ZV a 0 (Wq (d-1))).bind λb=>
some b
def Vx (f:ZF) (a:List Zj) (b:Int):Option ((Int×Unit) ⊕ Bool):=
if b<(a.length:Int) then
(atI a b).bind λc=>
(ZgM f (Zj.Node c)).bind λh=>
if h then
(Zau (Zj.Ye c)).bind λd=>
if d then
(ZcS (Zj.QU c)).bind λg=>
if g then
if 0<b then
(atI a (Wq (b-1))).bind λe=>
if Zj.Node c<=Zj.Node e then
some (.inr false)
else
some (.inl (Wq (b+1),()))
else
some (.inl (Wq (b+1),()))
else
some (.inr false)
else
some (.inr false)
else
some (.inr false)
else
some (.inr true)
def Zc8 (b:ZF) (a:List Zj):Option Bool:=
Zo (λv=>Vx b a v.1) ((0:Int),())
def ZeV (d:ZF) (a:List Int):Option Bool:=
(Zgm (ZF.links d)).bind λe=>
(XO a 0 (Wq (e-1))).bind λb=>
if b then
(QJ a).bind λc=>
some c
else
some false
def JV (e:Zd) (j:Zt) (d:List Int) (i:List Zj) (k:Option Zw):Option ((Option ZI)×(List Int)×Int):=
(Zgk e).bind λl=>
if l then
(ZeQ j).bind λf=>
if f then
(VQ e).bind λa=>
if k=Option.none then
(ZeV a d).bind λg=>
if g then
(Zc8 a i).bind λh=>
if h then
(VH a d).bind λc=>
(Vr c).bind λb=>
if b.2 then
some (Option.some c,b.1,0)
else
some (Option.none,[],7)
else
some (Option.none,[],2)
else
some (Option.none,[],2)
else
none
else
some (Option.none,[],1)
else
some (Option.none,[],1)
def ZaE (g:Zd) (e:Zt) (b:List Int) (a:List Zj):Option (Zw×Int):=
(JV g e b a Option.none).bind λc=>
if c.2.2=0 then
(c.1).bind λf=>
(XT f e a c.2.1).bind λd=>
if d.2 then
some (d.1,0)
else
some (([],[],[],()),3)
else
some (([],[],[],()),c.2.2)
def Zcj (i:Zd) (a:Zu) (h:Int):Option ((Option Zdr)×Int):=
(Zgl i a).bind λm=>
if m then
(Qi (Zu.VE a)).bind λj=>
(ZV h 0 (Wq (j-1))).bind λl=>
if l then
(VQ i).bind λd=>
(atI (Zu.VE a) h).bind λc=>
(Jc d).bind λk=>
(VH d k).bind λb=>
(Zdv a).bind λe=>
(Vr b).bind λf=>
if f.2 then
(XT b c e f.1).bind λg=>
if g.2 then
some (Option.some (b,c,e,g.1,()),0)
else
some (Option.none,3)
else
some (Option.none,7)
else
some (Option.none,4)
else
some (Option.none,1)
end
end Go.Proofs.YtpkjbcbepmpddaaGreatDoor
