/-
 The models of the functions and their contracts. Printed by program.
-/
import Derived.Test.YtepbknolmhmipaaGreatDoorSxTab
import Derived.Test.YtepbknolmhmipaaGreatDoorSxS0
import Derived.Test.YtepbknolmhmipaaGreatDoorSxLib
import Derived.Test.YtepbknolmhmipaaGreatDoorSxLibT
namespace Go.Proofs.YtepbknolmhmipaaGreatDoor
open Go Go.Sx
set_option maxRecDepth 100000
set_option maxHeartbeats 100000000
set_option linter.unusedVariables false
set_option linter.unusedSimpArgs false
noncomputable section
abbrev Iq:Ty:=.int .i64
abbrev Wq:=IntKind.wrap IntKind.i64
abbrev Sq:=Za Tryz.prog
theorem Bq {α β:Type} (x:α) (f:α->Option β):(some x).bind f=f x:=rfl
def ZeH (b:Yv) (a:Int):Option Int:=
if Wq (a-((Yv.Name b).length:Int))<0 then
some (-1)
else
some (Wq (a-((Yv.Name b).length:Int)))
def c0:Ctr:=D2 (ZfZ) Iq Iq ZeH
def ZjI (d:List Yv) (a b:Int):Option ((Int×Int×Unit) ⊕ Int):=
if b<(d.length:Int) then
(atI d b).bind λe=>
(ZeH e a).bind λc=>
if c<0 then
some (.inr (-1))
else
some (.inl (c,Wq (b+1),()))
else
some (.inr a)
def Zfb (b:List Yv) (a:Int):Option Int:=
if Wq (a-(b.length:Int))<0 then
some (-1)
else
Zq (λv=>ZjI b v.1 v.2.1) (Wq (a-(b.length:Int)),(0:Int),())
def c1:Ctr:=D2 (.sl (ZfZ)) Iq Iq Zfb
def YM (b:List Int) (a:Int):Option Int:=
if Wq (a-(b.length:Int))<0 then
some (-1)
else
some (Wq (a-(b.length:Int)))
def c2:Ctr:=D2 (.sl Iq) Iq Iq YM
def Zcz (b:Zy) (a:Int):Option Int:=
(YM (Zy.ZgK b) a).bind λc=>
if c<0 then
some (-1)
else
(YM (Zy.Loads b) c).bind λd=>
if d<0 then
some (-1)
else
(YM (Zy.Values b) d).bind λe=>
if e<0 then
some (-1)
else
some e
def c3:Ctr:=D2 (XF) Iq Iq Zcz
def Zic (d:List Zy) (a b:Int):Option ((Int×Int×Unit) ⊕ Int):=
if b<(d.length:Int) then
(atI d b).bind λe=>
(Zcz e a).bind λc=>
if c<0 then
some (.inr (-1))
else
some (.inl (c,Wq (b+1),()))
else
some (.inr a)
def Zbu (b:List Zy) (a:Int):Option Int:=
if Wq (a-(b.length:Int))<0 then
some (-1)
else
Zq (λv=>Zic b v.1 v.2.1) (Wq (a-(b.length:Int)),(0:Int),())
def c4:Ctr:=D2 (.sl (XF)) Iq Iq Zbu
def ZeG (c:ZC) (a:Int):Option Int:=
(Zbu (ZC.Delay c) a).bind λd=>
if d<0 then
some (-1)
else
(Zbu (ZC.Za2 c) d).bind λb=>
if b<0 then
some (-1)
else
some b
def c5:Ctr:=D2 (Zgv) Iq Iq ZeG
def ZjF (d:List ZC) (a b:Int):Option ((Int×Int×Unit) ⊕ Int):=
if b<(d.length:Int) then
(atI d b).bind λe=>
(ZeG e a).bind λc=>
if c<0 then
some (.inr (-1))
else
some (.inl (c,Wq (b+1),()))
else
some (.inr a)
def Ze9 (b:List ZC) (a:Int):Option Int:=
if Wq (a-(b.length:Int))<0 then
some (-1)
else
Zq (λv=>ZjF b v.1 v.2.1) (Wq (a-(b.length:Int)),(0:Int),())
def c6:Ctr:=D2 (.sl (Zgv)) Iq Iq Ze9
def Zdy (b:Zk) (a:Int):Option Int:=
if Wq (a-((Zk.Name b).length:Int))<0 then
some (-1)
else
(Zfb (Zk.Yz b) (Wq (a-((Zk.Name b).length:Int)))).bind λc=>
if c<0 then
some (-1)
else
(Ze9 (Zk.JR b) c).bind λd=>
if d<0 then
some (-1)
else
(YM (Zk.Truth b) d).bind λe=>
if e<0 then
some (-1)
else
some e
def c7:Ctr:=D2 (V6) Iq Iq Zdy
def ZiV (d:List Zk) (a b:Int):Option ((Int×Int×Unit) ⊕ Int):=
if b<(d.length:Int) then
(atI d b).bind λe=>
(Zdy e a).bind λc=>
if c<0 then
some (.inr (-1))
else
some (.inl (c,Wq (b+1),()))
else
some (.inr a)
def Zea (b:List Zk) (a:Int):Option Int:=
if Wq (a-(b.length:Int))<0 then
some (-1)
else
Zq (λv=>ZiV b v.1 v.2.1) (Wq (a-(b.length:Int)),(0:Int),())
def c8:Ctr:=D2 (.sl (V6)) Iq Iq Zea
def Zci (c:Zt) (a:Int):Option Int:=
(Zea (Zt.Cells c) a).bind λb=>
if b<0 then
some (-1)
else
some b
def c9:Ctr:=D2 (YR) Iq Iq Zci
def JC (b:Zl) (a:Int):Option Int:=
if Wq (a-((Zl.Name b).length:Int))<0 then
some (-1)
else
(YM (Zl.X7 b) (Wq (a-((Zl.Name b).length:Int)))).bind λc=>
if c<0 then
some (-1)
else
some c
def c10:Ctr:=D2 (YJ) Iq Iq JC
def ZfW (d:List Zl) (a b:Int):Option ((Int×Int×Unit) ⊕ Int):=
if b<(d.length:Int) then
(atI d b).bind λe=>
(JC e a).bind λc=>
if c<0 then
some (.inr (-1))
else
some (.inl (c,Wq (b+1),()))
else
some (.inr a)
def ZaC (b:List Zl) (a:Int):Option Int:=
if Wq (a-(b.length:Int))<0 then
some (-1)
else
Zq (λv=>ZfW b v.1 v.2.1) (Wq (a-(b.length:Int)),(0:Int),())
def c11:Ctr:=D2 (.sl (YJ)) Iq Iq ZaC
def Zai (d:List (List UInt8)) (a b:Int):Option ((Int×Int×Unit) ⊕ Int):=
if b<(d.length:Int) then
(atI d b).bind λc=>
if Wq (a-(c.length:Int))<0 then
some (.inr (-1))
else
some (.inl (Wq (a-(c.length:Int)),Wq (b+1),()))
else
some (.inr a)
def Zcj (b:List (List UInt8)) (a:Int):Option Int:=
if Wq (a-(b.length:Int))<0 then
some (-1)
else
Zq (λv=>Zai b v.1 v.2.1) (Wq (a-(b.length:Int)),(0:Int),())
def c12:Ctr:=D2 (.sl (.str)) Iq Iq Zcj
def ZdA (b:Ye) (a:Int):Option Int:=
if Wq (a-((Ye.Name b).length:Int))<0 then
some (-1)
else
some (Wq (a-((Ye.Name b).length:Int)))
def c13:Ctr:=D2 (ZcF) Iq Iq ZdA
def ZiX (d:List Ye) (a b:Int):Option ((Int×Int×Unit) ⊕ Int):=
if b<(d.length:Int) then
(atI d b).bind λe=>
(ZdA e a).bind λc=>
if c<0 then
some (.inr (-1))
else
some (.inl (c,Wq (b+1),()))
else
some (.inr a)
def Zeb (b:List Ye) (a:Int):Option Int:=
if Wq (a-(b.length:Int))<0 then
some (-1)
else
Zq (λv=>ZiX b v.1 v.2.1) (Wq (a-(b.length:Int)),(0:Int),())
def c14:Ctr:=D2 (.sl (ZcF)) Iq Iq Zeb
def Zc1 (b:Zg) (a:Int):Option Int:=
(ZaC (Zg.Instances b) a).bind λc=>
if c<0 then
some (-1)
else
(Zcj (Zg.X7 b) c).bind λd=>
if d<0 then
some (-1)
else
(Zeb (Zg.Xb b) d).bind λe=>
if e<0 then
some (-1)
else
some e
def c15:Ctr:=D2 (YU) Iq Iq Zc1
def ZdB (b:Zx) (a:Int):Option Int:=
(YM (Zx.Parent b) a).bind λd=>
if d<0 then
some (-1)
else
(YM (Zx.Res b) d).bind λe=>
if e<0 then
some (-1)
else
(YM (Zx.Cap b) e).bind λf=>
if f<0 then
some (-1)
else
(YM (Zx.Zjo b) f).bind λc=>
if c<0 then
some (-1)
else
some c
def c16:Ctr:=D2 (Za9) Iq Iq ZdB
def ZiY (d:List Zx) (a b:Int):Option ((Int×Int×Unit) ⊕ Int):=
if b<(d.length:Int) then
(atI d b).bind λe=>
(ZdB e a).bind λc=>
if c<0 then
some (.inr (-1))
else
some (.inl (c,Wq (b+1),()))
else
some (.inr a)
def Zed (b:List Zx) (a:Int):Option Int:=
if Wq (a-(b.length:Int))<0 then
some (-1)
else
Zq (λv=>ZiY b v.1 v.2.1) (Wq (a-(b.length:Int)),(0:Int),())
def c17:Ctr:=D2 (.sl (Za9)) Iq Iq Zed
def Zd9 (b:Zj) (a:Int):Option Int:=
(Zci (Zj.Library b) a).bind λc=>
if c<0 then
some (-1)
else
(Zc1 (Zj.Design b) c).bind λd=>
if d<0 then
some (-1)
else
(Zed (Zj.Qg b) d).bind λe=>
if e<0 then
some (-1)
else
some e
def c18:Ctr:=D2 (Xz) Iq Iq Zd9
def Zcy (b:Zc) (a:Int):Option Int:=
if Wq (a-((Zc.Name b).length:Int))<0 then
some (-1)
else
some (Wq (a-((Zc.Name b).length:Int)))
def c19:Ctr:=D2 (Xh) Iq Iq Zcy
def Zh9 (d:List Zc) (a b:Int):Option ((Int×Int×Unit) ⊕ Int):=
if b<(d.length:Int) then
(atI d b).bind λe=>
(Zcy e a).bind λc=>
if c<0 then
some (.inr (-1))
else
some (.inl (c,Wq (b+1),()))
else
some (.inr a)
def Zc0 (b:List Zc) (a:Int):Option Int:=
if Wq (a-(b.length:Int))<0 then
some (-1)
else
Zq (λv=>Zh9 b v.1 v.2.1) (Wq (a-(b.length:Int)),(0:Int),())
def c20:Ctr:=D2 (.sl (Xh)) Iq Iq Zc0
def VZ (b:List Zh) (a:Int):Option Int:=
if Wq (a-(b.length:Int))<0 then
some (-1)
else
some (Wq (a-(b.length:Int)))
def c21:Ctr:=D2 (.sl (Yx)) Iq Iq VZ
def VY (b:Ze) (a:Int):Option Int:=
(YM (Ze.From b) a).bind λc=>
if c<0 then
some (-1)
else
(YM (Ze.Through b) c).bind λd=>
if d<0 then
some (-1)
else
(YM (Ze.To b) d).bind λe=>
if e<0 then
some (-1)
else
some e
def c22:Ctr:=D2 (Z4) Iq Iq VY
def Zfa (d:List Ze) (a b:Int):Option ((Int×Int×Unit) ⊕ Int):=
if b<(d.length:Int) then
(atI d b).bind λe=>
(VY e a).bind λc=>
if c<0 then
some (.inr (-1))
else
some (.inl (c,Wq (b+1),()))
else
some (.inr a)
def J7 (b:List Ze) (a:Int):Option Int:=
if Wq (a-(b.length:Int))<0 then
some (-1)
else
Zq (λv=>Zfa b v.1 v.2.1) (Wq (a-(b.length:Int)),(0:Int),())
def c23:Ctr:=D2 (.sl (Z4)) Iq Iq J7
def Zbt (b:Zm) (a:Int):Option Int:=
if Wq (a-((Zm.Name b).length:Int))<0 then
some (-1)
else
some (Wq (a-((Zm.Name b).length:Int)))
def c24:Ctr:=D2 (Y6) Iq Iq Zbt
def Zhg (d:List Zm) (a b:Int):Option ((Int×Int×Unit) ⊕ Int):=
if b<(d.length:Int) then
(atI d b).bind λe=>
(Zbt e a).bind λc=>
if c<0 then
some (.inr (-1))
else
some (.inl (c,Wq (b+1),()))
else
some (.inr a)
def Zch (b:List Zm) (a:Int):Option Int:=
if Wq (a-(b.length:Int))<0 then
some (-1)
else
Zq (λv=>Zhg b v.1 v.2.1) (Wq (a-(b.length:Int)),(0:Int),())
def c25:Ctr:=D2 (.sl (Y6)) Iq Iq Zch
def Zec (a:Zo) (b:Int):Option Int:=
(Zc0 (Zo.Yk a) b).bind λd=>
if d<0 then
some (-1)
else
(VZ (Zo.Zbb a) d).bind λg=>
if g<0 then
some (-1)
else
(VZ (Zo.Vp a) g).bind λe=>
if e<0 then
some (-1)
else
(J7 (Zo.Exceptions a) e).bind λf=>
if f<0 then
some (-1)
else
(Zch (Zo.X5 a) f).bind λc=>
if c<0 then
some (-1)
else
some c
def c26:Ctr:=D2 (Vh) Iq Iq Zec
def ZeJ (a:Yv):Option Yv:=
some a
def c27:Ctr:=D1 (ZfZ) (ZfZ) ZeJ
def ZjN (c:List Yv) (a:Int) (b:List (List UInt8×Int×Int×Bool×Unit)):Option ((Int×(List (List UInt8×Int×Int×Bool×Unit))×Unit) ⊕ List Yv):=
if a<(c.length:Int) then
(atI c a).bind λe=>
(ZeJ e).bind λd=>
(atI b a).bind λf=>
some (.inl (Wq (a+1),List.set b (Int.toNat a) d,()))
else
some (.inr b)
def Zfe (a:List Yv):Option (List Yv):=
Zp ((0:Int)<=(a.length:Int))<|
Zp ((a.length:Int)<=(a.length:Int))<|
Zp ((a.length:Int)<=(4611686018427387904:Int))<|
Zp (((40:Nat):Int)*(a.length:Int)<=(281474976710656:Int))<|
Zq (λv=>ZjN a v.1 v.2.1) ((0:Int),List.replicate (Int.toNat (a.length:Int)) (([]:List UInt8),(0:Int),(0:Int),false,()),())
def c28:Ctr:=⟨[.dat (.sl (ZfZ))],[.own (.ol 342 (.flat (ZfZ)))],λa K=>ZT a λb a=>QN (Zfe b) λr=>K (r,()) ()⟩
def Zig (c:List Int) (a:Int) (b:List Int):Option ((Int×(List Int)×Unit) ⊕ List Int):=
if a<(c.length:Int) then
(atI c a).bind λd=>
(atI b a).bind λe=>
some (.inl (Wq (a+1),List.set b (Int.toNat a) d,()))
else
some (.inr b)
def YN (a:List Int):Option (List Int):=
Zp ((0:Int)<=(a.length:Int))<|
Zp ((a.length:Int)<=(a.length:Int))<|
Zp ((a.length:Int)<=(4611686018427387904:Int))<|
Zp (((8:Nat):Int)*(a.length:Int)<=(281474976710656:Int))<|
Zq (λv=>Zig a v.1 v.2.1) ((0:Int),List.replicate (Int.toNat (a.length:Int)) (0:Int),())
def c29:Ctr:=⟨[.dat (.sl Iq)],[.own (.ol 2 (.flat Iq))],λa K=>ZT a λb a=>QN (YN b) λr=>K (r,()) ()⟩
def ZcB (a:Zy):Option Zy:=
(YN (Zy.ZgK a)).bind λd=>
(YN (Zy.Loads a)).bind λb=>
(YN (Zy.Values a)).bind λc=>
some (d,b,c,())
def c30:Ctr:=⟨[.dat (XF)],[.own (Zk3)],λa K=>ZT a λb a=>QN (ZcB b) λr=>K (r,()) ()⟩
def Zih (c:List Zy) (a:Int) (b:List Zy):Option ((Int×(List Zy)×Unit) ⊕ List Zy):=
if a<(c.length:Int) then
(atI c a).bind λe=>
(ZcB e).bind λd=>
(atI b a).bind λf=>
some (.inl (Wq (a+1),List.set b (Int.toNat a) d,()))
else
some (.inr b)
def Zbw (a:List Zy):Option (List Zy):=
Zp ((0:Int)<=(a.length:Int))<|
Zp ((a.length:Int)<=(a.length:Int))<|
Zp ((a.length:Int)<=(4611686018427387904:Int))<|
Zp (((72:Nat):Int)*(a.length:Int)<=(281474976710656:Int))<|
Zq (λv=>Zih a v.1 v.2.1) ((0:Int),List.replicate (Int.toNat (a.length:Int)) (([]:List Int),([]:List Int),([]:List Int),()),())
def c31:Ctr:=⟨[.dat (.sl (XF))],[.own (.ol 402 (Zk3))],λa K=>ZT a λb a=>QN (Zbw b) λr=>K (r,()) ()⟩
def ZeI (a:ZC):Option ZC:=
(Zbw (ZC.Delay a)).bind λc=>
(Zbw (ZC.Za2 a)).bind λb=>
some (ZC.Kind a,ZC.From a,ZC.To a,ZC.Za7 a,c,b,())
def c32:Ctr:=⟨[.dat (Zgv)],[.own (Zup)],λa K=>ZT a λb a=>QN (ZeI b) λr=>K (r,()) ()⟩
def ZjK (c:List ZC) (a:Int) (b:List ZC):Option ((Int×(List ZC)×Unit) ⊕ List ZC):=
if a<(c.length:Int) then
(atI c a).bind λe=>
(ZeI e).bind λd=>
(atI b a).bind λf=>
some (.inl (Wq (a+1),List.set b (Int.toNat a) d,()))
else
some (.inr b)
def Zfc (a:List ZC):Option (List ZC):=
Zp ((0:Int)<=(a.length:Int))<|
Zp ((a.length:Int)<=(a.length:Int))<|
Zp ((a.length:Int)<=(4611686018427387904:Int))<|
Zp (((80:Nat):Int)*(a.length:Int)<=(281474976710656:Int))<|
Zq (λv=>ZjK a v.1 v.2.1) ((0:Int),List.replicate (Int.toNat (a.length:Int)) ((0:Int),(0:Int),(0:Int),(0:Int),([]:List Zy),([]:List Zy),()),())
def c33:Ctr:=⟨[.dat (.sl (Zgv))],[.own (.ol 296 (Zup))],λa K=>ZT a λb a=>QN (Zfc b) λr=>K (r,()) ()⟩
def ZdC (a:Zk):Option Zk:=
(Zfe (Zk.Yz a)).bind λd=>
(Zfc (Zk.JR a)).bind λb=>
(YN (Zk.Truth a)).bind λc=>
some (Zk.Name a,Zk.Kind a,d,b,c,a.2.2.2.2.2)
def c34:Ctr:=⟨[.dat (V6)],[.own (Zqk)],λa K=>ZT a λb a=>QN (ZdC b) λr=>K (r,()) ()⟩
def ZiZ (c:List Zk) (a:Int) (b:List Zk):Option ((Int×(List Zk)×Unit) ⊕ List Zk):=
if a<(c.length:Int) then
(atI c a).bind λe=>
(ZdC e).bind λd=>
(atI b a).bind λf=>
some (.inl (Wq (a+1),List.set b (Int.toNat a) d,()))
else
some (.inr b)
def Zef (a:List Zk):Option (List Zk):=
Zp ((0:Int)<=(a.length:Int))<|
Zp ((a.length:Int)<=(a.length:Int))<|
Zp ((a.length:Int)<=(4611686018427387904:Int))<|
Zp (((112:Nat):Int)*(a.length:Int)<=(281474976710656:Int))<|
Zq (λv=>ZiZ a v.1 v.2.1) ((0:Int),List.replicate (Int.toNat (a.length:Int)) (([]:List UInt8),(0:Int),([]:List Yv),([]:List ZC),([]:List Int),(0:Int),(0:Int),()),())
def c35:Ctr:=⟨[.dat (.sl (V6))],[.own (.ol 281 (Zqk))],λa K=>ZT a λb a=>QN (Zef b) λr=>K (r,()) ()⟩
def Zcl (a:Zt):Option Zt:=
(Zef (Zt.Cells a)).bind λb=>
some (b,())
def c36:Ctr:=⟨[.dat (YR)],[.own (Zpq)],λa K=>ZT a λb a=>QN (Zcl b) λr=>K (r,()) ()⟩
def JE (a:Zl):Option Zl:=
(YN (Zl.X7 a)).bind λb=>
some (Zl.Name a,Zl.Cell a,b,())
def c37:Ctr:=⟨[.dat (YJ)],[.own (ZeA)],λa K=>ZT a λb a=>QN (JE b) λr=>K (r,()) ()⟩
def ZfY (c:List Zl) (a:Int) (b:List Zl):Option ((Int×(List Zl)×Unit) ⊕ List Zl):=
if a<(c.length:Int) then
(atI c a).bind λe=>
(JE e).bind λd=>
(atI b a).bind λf=>
some (.inl (Wq (a+1),List.set b (Int.toNat a) d,()))
else
some (.inr b)
def ZaD (a:List Zl):Option (List Zl):=
Zp ((0:Int)<=(a.length:Int))<|
Zp ((a.length:Int)<=(a.length:Int))<|
Zp ((a.length:Int)<=(4611686018427387904:Int))<|
Zp (((48:Nat):Int)*(a.length:Int)<=(281474976710656:Int))<|
Zq (λv=>ZfY a v.1 v.2.1) ((0:Int),List.replicate (Int.toNat (a.length:Int)) (([]:List UInt8),(0:Int),([]:List Int),()),())
def c38:Ctr:=⟨[.dat (.sl (YJ))],[.own (.ol 192 (ZeA))],λa K=>ZT a λb a=>QN (ZaD b) λr=>K (r,()) ()⟩
def Zhk (c:List (List UInt8)) (a:Int) (b:List (List UInt8)):Option ((Int×(List (List UInt8))×Unit) ⊕ List (List UInt8)):=
if a<(c.length:Int) then
(atI c a).bind λd=>
(atI b a).bind λe=>
some (.inl (Wq (a+1),List.set b (Int.toNat a) d,()))
else
some (.inr b)
def Zcm (a:List (List UInt8)):Option (List (List UInt8)):=
Zp ((0:Int)<=(a.length:Int))<|
Zp ((a.length:Int)<=(a.length:Int))<|
Zp ((a.length:Int)<=(4611686018427387904:Int))<|
Zp (((16:Nat):Int)*(a.length:Int)<=(281474976710656:Int))<|
Zq (λv=>Zhk a v.1 v.2.1) ((0:Int),List.replicate (Int.toNat (a.length:Int)) (([]:List UInt8)),())
def c39:Ctr:=⟨[.dat (.sl (.str))],[.own (.ol 9 (.flat (.str)))],λa K=>ZT a λb a=>QN (Zcm b) λr=>K (r,()) ()⟩
def ZdE (a:Ye):Option Ye:=
some a
def c40:Ctr:=D1 (ZcF) (ZcF) ZdE
def Zi2 (c:List Ye) (a:Int) (b:List (List UInt8×Int×Int×Unit)):Option ((Int×(List (List UInt8×Int×Int×Unit))×Unit) ⊕ List Ye):=
if a<(c.length:Int) then
(atI c a).bind λe=>
(ZdE e).bind λd=>
(atI b a).bind λf=>
some (.inl (Wq (a+1),List.set b (Int.toNat a) d,()))
else
some (.inr b)
def Zeg (a:List Ye):Option (List Ye):=
Zp ((0:Int)<=(a.length:Int))<|
Zp ((a.length:Int)<=(a.length:Int))<|
Zp ((a.length:Int)<=(4611686018427387904:Int))<|
Zp (((32:Nat):Int)*(a.length:Int)<=(281474976710656:Int))<|
Zq (λv=>Zi2 a v.1 v.2.1) ((0:Int),List.replicate (Int.toNat (a.length:Int)) (([]:List UInt8),(0:Int),(0:Int),()),())
def c41:Ctr:=⟨[.dat (.sl (ZcF))],[.own (.ol 258 (.flat (ZcF)))],λa K=>ZT a λb a=>QN (Zeg b) λr=>K (r,()) ()⟩
def Zc3 (a:Zg):Option Zg:=
(ZaD (Zg.Instances a)).bind λd=>
(Zcm (Zg.X7 a)).bind λb=>
(Zeg (Zg.Xb a)).bind λc=>
some (d,b,c,())
def c42:Ctr:=⟨[.dat (YU)],[.own (Zrc)],λa K=>ZT a λb a=>QN (Zc3 b) λr=>K (r,()) ()⟩
def ZdG (a:Zx):Option Zx:=
(YN (Zx.Parent a)).bind λc=>
(YN (Zx.Res a)).bind λd=>
(YN (Zx.Cap a)).bind λe=>
(YN (Zx.Zjo a)).bind λb=>
some (c,d,e,b,())
def c43:Ctr:=⟨[.dat (Za9)],[.own (Zql)],λa K=>ZT a λb a=>QN (ZdG b) λr=>K (r,()) ()⟩
def Zi3 (c:List Zx) (a:Int) (b:List Zx):Option ((Int×(List Zx)×Unit) ⊕ List Zx):=
if a<(c.length:Int) then
(atI c a).bind λe=>
(ZdG e).bind λd=>
(atI b a).bind λf=>
some (.inl (Wq (a+1),List.set b (Int.toNat a) d,()))
else
some (.inr b)
def Zei (a:List Zx):Option (List Zx):=
Zp ((0:Int)<=(a.length:Int))<|
Zp ((a.length:Int)<=(a.length:Int))<|
Zp ((a.length:Int)<=(4611686018427387904:Int))<|
Zp (((96:Nat):Int)*(a.length:Int)<=(281474976710656:Int))<|
Zq (λv=>Zi3 a v.1 v.2.1) ((0:Int),List.replicate (Int.toNat (a.length:Int)) (([]:List Int),([]:List Int),([]:List Int),([]:List Int),()),())
def c44:Ctr:=⟨[.dat (.sl (Za9))],[.own (.ol 67 (Zql))],λa K=>ZT a λb a=>QN (Zei b) λr=>K (r,()) ()⟩
def Zee (a:Zj):Option Zj:=
(Zcl (Zj.Library a)).bind λd=>
(Zc3 (Zj.Design a)).bind λb=>
(Zei (Zj.Qg a)).bind λc=>
some (d,b,c,())
def c45:Ctr:=⟨[.dat (Xz)],[.own (ZuH)],λa K=>ZT a λb a=>QN (Zee b) λr=>K (r,()) ()⟩
def ZcA (a:Zc):Option Zc:=
some a
def c46:Ctr:=D1 (Xh) (Xh) ZcA
def Zid (c:List Zc) (a:Int) (b:List (List UInt8×Int×Int×Int×Int×Int×Int×Bool×Int×Int×Int×Unit)):Option ((Int×(List (List UInt8×Int×Int×Int×Int×Int×Int×Bool×Int×Int×Int×Unit))×Unit) ⊕ List Zc):=
if a<(c.length:Int) then
(atI c a).bind λe=>
(ZcA e).bind λd=>
(atI b a).bind λf=>
some (.inl (Wq (a+1),List.set b (Int.toNat a) d,()))
else
some (.inr b)
def Zc2 (a:List Zc):Option (List Zc):=
Zp ((0:Int)<=(a.length:Int))<|
Zp ((a.length:Int)<=(a.length:Int))<|
Zp ((a.length:Int)<=(4611686018427387904:Int))<|
Zp (((96:Nat):Int)*(a.length:Int)<=(281474976710656:Int))<|
Zq (λv=>Zid a v.1 v.2.1) ((0:Int),List.replicate (Int.toNat (a.length:Int)) (([]:List UInt8),(0:Int),(0:Int),(0:Int),(0:Int),(0:Int),(0:Int),false,(0:Int),(0:Int),(0:Int),()),())
def c47:Ctr:=⟨[.dat (.sl (Xh))],[.own (.ol 154 (.flat (Xh)))],λa K=>ZT a λb a=>QN (Zc2 b) λr=>K (r,()) ()⟩
def ZdF (a:Yb):Option Yb:=
some a
def c48:Ctr:=D1 (Zj1) (Zj1) ZdF
def JD (a:Zh):Option Zh:=
(ZdF (Zh.Delay a)).bind λc=>
(ZdF (Zh.Za2 a)).bind λb=>
some (Zh.Place a,Zh.Clock a,c,b,())
def c49:Ctr:=D1 (Yx) (Yx) JD
def ZfX (c:List Zh) (a:Int) (b:List (Int×Int×Yb×Yb×Unit)):Option ((Int×(List (Int×Int×Yb×Yb×Unit))×Unit) ⊕ List Zh):=
if a<(c.length:Int) then
(atI c a).bind λe=>
(JD e).bind λd=>
(atI b a).bind λf=>
some (.inl (Wq (a+1),List.set b (Int.toNat a) d,()))
else
some (.inr b)
def V4 (a:List Zh):Option (List Zh):=
Zp ((0:Int)<=(a.length:Int))<|
Zp ((a.length:Int)<=(a.length:Int))<|
Zp ((a.length:Int)<=(4611686018427387904:Int))<|
Zp (((48:Nat):Int)*(a.length:Int)<=(281474976710656:Int))<|
Zq (λv=>ZfX a v.1 v.2.1) ((0:Int),List.replicate (Int.toNat (a.length:Int)) ((0:Int),(0:Int),((0:Int),(0:Int),()),((0:Int),(0:Int),()),()),())
def c50:Ctr:=⟨[.dat (.sl (Yx))],[.own (.ol 164 (.flat (Yx)))],λa K=>ZT a λb a=>QN (V4 b) λr=>K (r,()) ()⟩
def V3 (a:Ze):Option Ze:=
(YN (Ze.From a)).bind λd=>
(YN (Ze.Through a)).bind λb=>
(YN (Ze.To a)).bind λc=>
some (Ze.Kind a,Ze.Value a,d,b,c,())
def c51:Ctr:=⟨[.dat (Z4)],[.own (Zdf)],λa K=>ZT a λb a=>QN (V3 b) λr=>K (r,()) ()⟩
def Zfd (c:List Ze) (a:Int) (b:List Ze):Option ((Int×(List Ze)×Unit) ⊕ List Ze):=
if a<(c.length:Int) then
(atI c a).bind λe=>
(V3 e).bind λd=>
(atI b a).bind λf=>
some (.inl (Wq (a+1),List.set b (Int.toNat a) d,()))
else
some (.inr b)
def J8 (a:List Ze):Option (List Ze):=
Zp ((0:Int)<=(a.length:Int))<|
Zp ((a.length:Int)<=(a.length:Int))<|
Zp ((a.length:Int)<=(4611686018427387904:Int))<|
Zp (((88:Nat):Int)*(a.length:Int)<=(281474976710656:Int))<|
Zq (λv=>Zfd a v.1 v.2.1) ((0:Int),List.replicate (Int.toNat (a.length:Int)) ((0:Int),(0:Int),([]:List Int),([]:List Int),([]:List Int),()),())
def c52:Ctr:=⟨[.dat (.sl (Z4))],[.own (.ol 158 (Zdf))],λa K=>ZT a λb a=>QN (J8 b) λr=>K (r,()) ()⟩
def Zbv (a:Zm):Option Zm:=
some a
def c53:Ctr:=D1 (Y6) (Y6) Zbv
def Zhi (c:List Zm) (a:Int) (b:List (List UInt8×Int×Int×Int×Int×Unit)):Option ((Int×(List (List UInt8×Int×Int×Int×Int×Unit))×Unit) ⊕ List Zm):=
if a<(c.length:Int) then
(atI c a).bind λe=>
(Zbv e).bind λd=>
(atI b a).bind λf=>
some (.inl (Wq (a+1),List.set b (Int.toNat a) d,()))
else
some (.inr b)
def Zck (a:List Zm):Option (List Zm):=
Zp ((0:Int)<=(a.length:Int))<|
Zp ((a.length:Int)<=(a.length:Int))<|
Zp ((a.length:Int)<=(4611686018427387904:Int))<|
Zp (((48:Nat):Int)*(a.length:Int)<=(281474976710656:Int))<|
Zq (λv=>Zhi a v.1 v.2.1) ((0:Int),List.replicate (Int.toNat (a.length:Int)) (([]:List UInt8),(0:Int),(0:Int),(0:Int),(0:Int),()),())
def c54:Ctr:=⟨[.dat (.sl (Y6))],[.own (.ol 168 (.flat (Y6)))],λa K=>ZT a λb a=>QN (Zck b) λr=>K (r,()) ()⟩
def Zeh (a:Zo):Option Zo:=
(Zc2 (Zo.Yk a)).bind λc=>
(V4 (Zo.Zbb a)).bind λf=>
(V4 (Zo.Vp a)).bind λd=>
(J8 (Zo.Exceptions a)).bind λe=>
(Zck (Zo.X5 a)).bind λb=>
some (c,f,d,e,b,())
def c55:Ctr:=⟨[.dat (Vh)],[.own (ZuI)],λa K=>ZT a λb a=>QN (Zeh b) λr=>K (r,()) ()⟩
def ZbH (c:List UInt8) (a:Int):Option ((Int×Unit) ⊕ Bool):=
if a<(c.length:Int) then
(atI c a).bind λb=>
if 97<=((UInt8.toNat b):Int) then
if 48<=((UInt8.toNat b):Int) then
if ((UInt8.toNat b):Int)<=122 then
some (.inl (Wq (a+1),()))
else
if ((UInt8.toNat b):Int)<=57 then
if 0<a then
some (.inl (Wq (a+1),()))
else
some (.inr false)
else
some (.inr false)
else
if ((UInt8.toNat b):Int)<=122 then
some (.inl (Wq (a+1),()))
else
some (.inr false)
else
if 48<=((UInt8.toNat b):Int) then
if ((UInt8.toNat b):Int)<=57 then
if 0<a then
some (.inl (Wq (a+1),()))
else
some (.inr false)
else
some (.inr false)
else
some (.inr false)
else
if 1<=(c.length:Int) then
some (.inr (decide ((c.length:Int)<=8)))
else
some (.inr false)
def VA (a:List UInt8):Option Bool:=
Zq (λv=>ZbH a v.1) ((0:Int),())
def c56:Ctr:=D1 (.str) (.bool) VA
def ZN (c b a:Int):Option Bool:=
if b<=c then
some (decide (c<=a))
else
some false
def c57:Ctr:=D3 Iq Iq Iq (.bool) ZN
def Qc (d:Zk) (c a:Int) (b:Yv) (e:Int):Option ((Int×Unit) ⊕ ((Int×Int×Unit) ⊕ (Int×Bool))):=
if e<a then
(atI (Zk.Yz d) e).bind λf=>
if Yv.Name f=Yv.Name b then
some (.inr (.inr (0,false)))
else
some (.inl (Wq (e+1),()))
else
(VA (Yv.Name b)).bind λg=>
if g then
(ZN (Yv.Cap b) 0 500).bind λh=>
if h then
if a=Wq (((Zk.Yz d).length:Int)-1) then
if Yv.Dir b=2 then
if Yv.Cap b=0 then
if (Yv.Clock b)=true then
some (.inr (.inr (0,false)))
else
if a<Wq (((Zk.Yz d).length:Int)-1) then
if Yv.Dir b=1 then
if (Yv.Clock b)=true then
some (.inr (.inl (Wq (c+1),Wq (a+1),())))
else
some (.inr (.inl (c,Wq (a+1),())))
else
some (.inr (.inr (0,false)))
else
if (Yv.Clock b)=true then
some (.inr (.inl (Wq (c+1),Wq (a+1),())))
else
some (.inr (.inl (c,Wq (a+1),())))
else
some (.inr (.inr (0,false)))
else
some (.inr (.inr (0,false)))
else
if a<Wq (((Zk.Yz d).length:Int)-1) then
if Yv.Dir b=1 then
if (Yv.Clock b)=true then
some (.inr (.inl (Wq (c+1),Wq (a+1),())))
else
some (.inr (.inl (c,Wq (a+1),())))
else
some (.inr (.inr (0,false)))
else
if (Yv.Clock b)=true then
some (.inr (.inl (Wq (c+1),Wq (a+1),())))
else
some (.inr (.inl (c,Wq (a+1),())))
else
some (.inr (.inr (0,false)))
else
some (.inr (.inr (0,false)))
def Va (b:Zk) (c a:Int):Option ((Int×Int×Unit) ⊕ (Int×Bool)):=
if a<((Zk.Yz b).length:Int) then
(atI (Zk.Yz b) a).bind λd=>
Zq (λv=>Qc b c a d v.1) ((0:Int),())
else
some (.inr (c,true))
def Zeq (a:Zk):Option (Int×Bool):=
if ((Zk.Yz a).length:Int)<2 then
some (0,false)
else
if 5<((Zk.Yz a).length:Int) then
some (0,false)
else
Zq (λv=>Va a v.1 v.2.1) ((0:Int),(0:Int),())
def c58:Ctr:=⟨[.dat (V6)],[.dat Iq,.dat (.bool)],λa K=>ZT a λb a=>QN (Zeq b) λr=>K (r.1,r.2,()) ()⟩
def ZbG (a:List Int) (b:Int):Option ((Int×Unit) ⊕ Bool):=
if b<(a.length:Int) then
(atI a b).bind λc=>
(ZN c 0 100000).bind λd=>
if d then
if 0<b then
(atI a (Wq (b-1))).bind λe=>
if c<=e then
some (.inr false)
else
some (.inl (Wq (b+1),()))
else
some (.inl (Wq (b+1),()))
else
some (.inr false)
else
if 1<=(a.length:Int) then
some (.inr (decide ((a.length:Int)<=4)))
else
some (.inr false)
def ZcE (a:List Int):Option Bool:=
Zq (λv=>ZbG a v.1) ((0:Int),())
def c59:Ctr:=D1 (.sl Iq) (.bool) ZcE
def ZbF (b:Zy) (a:Int):Option ((Int×Unit) ⊕ Bool):=
if a<((Zy.Values b).length:Int) then
(atI (Zy.Values b) a).bind λc=>
(ZN c (-1000000) 1000000).bind λd=>
if d then
some (.inl (Wq (a+1),()))
else
some (.inr false)
else
some (.inr true)
def Zep (a:Zy):Option Bool:=
(ZcE (Zy.ZgK a)).bind λc=>
if c then
(ZcE (Zy.Loads a)).bind λb=>
if b then
if ((Zy.Values a).length:Int)=Wq (((Zy.ZgK a).length:Int)*((Zy.Loads a).length:Int)) then
Zq (λv=>ZbF a v.1) ((0:Int),())
else
some false
else
some false
else
some false
def c60:Ctr:=D1 (XF) (.bool) Zep
def QJ (e:Zy) (a d c:Int):Option ((Int×Int×Int×Unit) ⊕ (Yb×Int)):=
if a<((Zy.Values e).length:Int) then
(atI (Zy.Values e) a).bind λb=>
some (.inl (Wq (a+1),Min.min d b,Max.max c b,()))
else
some (.inr ((d,c,()),0))
def ZaE (a:Zy):Option (Yb×Int):=
(Zep a).bind λc=>
if c then
(atI (Zy.Values a) 0).bind λb=>
Zq (λv=>QJ a v.1 v.2.1 v.2.2.1) ((1:Int),b,b,())
else
some ((0,0,()),1)
def c61:Ctr:=⟨[.dat (XF)],[.dat (Zj1),.dat Iq],λa K=>ZT a λb a=>QN (ZaE b) λr=>K (r.1,r.2,()) ()⟩
def Zam (c:List Zy) (a:Bool) (b:Int):Option ((Int×Unit) ⊕ Bool):=
if b<2 then
(atI c b).bind λe=>
(ZaE e).bind λd=>
if d.2=0 then
if a then
if d.1.1<0 then
some (.inr false)
else
some (.inl (Wq (b+1),()))
else
some (.inl (Wq (b+1),()))
else
some (.inr false)
else
some (.inr true)
def Yo (b:List Zy) (a:Bool):Option Bool:=
if (b.length:Int)=2 then
Zq (λv=>Zam b a v.1) ((0:Int),())
else
some false
def c62:Ctr:=D2 (.sl (XF)) (.bool) (.bool) Yo
def Zfu (b:Zk) (a:ZC):Option Bool:=
(ZN (ZC.From a) 0 (Wq (Wq (((Zk.Yz b).length:Int)-1)-1))).bind λg=>
if g then
(ZN (ZC.To a) 0 (Wq (((Zk.Yz b).length:Int)-1))).bind λi=>
if i then
(atI (Zk.Yz b) (ZC.From a)).bind λd=>
if ZC.Kind a=1 then
if (Yv.Clock d)=true then
some false
else
if ZC.To a=Wq (((Zk.Yz b).length:Int)-1) then
(ZN (ZC.Za7 a) 1 3).bind λh=>
if h then
(Yo (ZC.Delay a) true).bind λc=>
if c then
(Yo (ZC.Za2 a) true).bind λf=>
some f
else
some false
else
some false
else
some false
else
if ZC.Kind a=2 then
if ZC.Kind a=2 then
if (Yv.Clock d)=true then
if ZC.To a=Wq (((Zk.Yz b).length:Int)-1) then
if ZC.Za7 a=0 then
(Yo (ZC.Delay a) true).bind λc=>
if c then
(Yo (ZC.Za2 a) true).bind λf=>
some f
else
some false
else
some false
else
some false
else
some false
else
if ZC.Kind a=4 then
if ZC.Kind a=4 then
if (Yv.Clock d)=true then
if ZC.To a<Wq (((Zk.Yz b).length:Int)-1) then
(atI (Zk.Yz b) (ZC.To a)).bind λe=>
if (Yv.Clock e)=true then
some false
else
if ZC.Za7 a=0 then
(Yo (ZC.Delay a) false).bind λc=>
if c then
some (decide (((ZC.Za2 a).length:Int)=0))
else
some false
else
some false
else
some false
else
some false
else
some false
else
if ZC.Kind a=5 then
if (Yv.Clock d)=true then
if ZC.To a<Wq (((Zk.Yz b).length:Int)-1) then
(atI (Zk.Yz b) (ZC.To a)).bind λe=>
if (Yv.Clock e)=true then
some false
else
if ZC.Za7 a=0 then
(Yo (ZC.Delay a) false).bind λc=>
if c then
some (decide (((ZC.Za2 a).length:Int)=0))
else
some false
else
some false
else
some false
else
some false
else
some false
else
if ZC.Kind a=3 then
if (Yv.Clock d)=true then
if ZC.To a=Wq (((Zk.Yz b).length:Int)-1) then
if ZC.Za7 a=0 then
(Yo (ZC.Delay a) true).bind λc=>
if c then
(Yo (ZC.Za2 a) true).bind λf=>
some f
else
some false
else
some false
else
some false
else
some false
else
if ZC.Kind a=4 then
if ZC.Kind a=4 then
if (Yv.Clock d)=true then
if ZC.To a<Wq (((Zk.Yz b).length:Int)-1) then
(atI (Zk.Yz b) (ZC.To a)).bind λe=>
if (Yv.Clock e)=true then
some false
else
if ZC.Za7 a=0 then
(Yo (ZC.Delay a) false).bind λc=>
if c then
some (decide (((ZC.Za2 a).length:Int)=0))
else
some false
else
some false
else
some false
else
some false
else
some false
else
if ZC.Kind a=5 then
if (Yv.Clock d)=true then
if ZC.To a<Wq (((Zk.Yz b).length:Int)-1) then
(atI (Zk.Yz b) (ZC.To a)).bind λe=>
if (Yv.Clock e)=true then
some false
else
if ZC.Za7 a=0 then
(Yo (ZC.Delay a) false).bind λc=>
if c then
some (decide (((ZC.Za2 a).length:Int)=0))
else
some false
else
some false
else
some false
else
some false
else
some false
else
some false
else
some false
def c63:Ctr:=D2 (V6) (Zgv) (.bool) Zfu
def VO (d:Zk) (a:Int) (b:List Int):Option ((Int×(List Int)×Unit) ⊕ List Int):=
if a<((Zk.JR d).length:Int) then
(atI (Zk.JR d) a).bind λc=>
(atI b (ZC.Kind c)).bind λe=>
some (.inl (Wq (a+1),List.set b (Int.toNat (ZC.Kind c)) (Wq (e+1)),()))
else
some (.inr b)
def Zc6 (a:Zk):Option (List Int):=
Zq (λv=>VO a v.1 v.2.1) ((0:Int),List.replicate (Int.toNat (6:Int)) (0:Int),())
def c64:Ctr:=⟨[.dat (V6)],[.own (.ol 2 (.flat Iq))],λa K=>ZT a λb a=>QN (Zc6 b) λr=>K (r,()) ()⟩
def J9 (e:Zk) (d:Int) (c:ZC) (a:Int):Option ((Int×Unit) ⊕ ((Int×Unit) ⊕ Bool)):=
if a<d then
(atI (Zk.JR e) a).bind λb=>
if ZC.Kind b=ZC.Kind c then
if ZC.From b=ZC.From c then
if ZC.To b=ZC.To c then
some (.inr (.inr false))
else
some (.inl (Wq (a+1),()))
else
some (.inl (Wq (a+1),()))
else
some (.inl (Wq (a+1),()))
else
some (.inr (.inl (Wq (d+1),())))
def Zaa (b:Zk) (a:Int×Bool) (c:Int):Option ((Int×Unit) ⊕ ((Int×Unit) ⊕ Bool)):=
if c<((Zk.Truth b).length:Int) then
(atI (Zk.Truth b) c).bind λe=>
(ZN e 0 1).bind λd=>
if d then
some (.inl (Wq (c+1),()))
else
some (.inr (.inr false))
else
if a.1=0 then
Zp ((0:Int)<=IntKind.wrap IntKind.u64 (Wq (((Zk.Yz b).length:Int)-(1:Int))))<|
some (.inr (.inr (decide (((Zk.Truth b).length:Int)=Wq (1*2 ^ Min.min (Int.toNat (IntKind.wrap IntKind.u64 (Wq (((Zk.Yz b).length:Int)-1)))) (IntKind.bits IntKind.i64))))))
else
some (.inr (.inr false))
def Zb2 (b:Zk) (a:Int×Bool) (g:Int):Option ((Int×Unit) ⊕ Bool):=
if g<((Zk.JR b).length:Int) then
(atI (Zk.JR b) g).bind λc=>
(Zfu b c).bind λh=>
if h then
Zq (λv=>J9 b g c v.1) ((0:Int),())
else
some (.inr false)
else
(Zc6 b).bind λd=>
if Zk.Kind b=1 then
Zq (λv=>Zaa b a v.1) ((0:Int),())
else
if Zk.Kind b=2 then
if a.1=1 then
(atI d 1).bind λc=>
if c=0 then
(atI d 2).bind λf=>
(atI d 3).bind λe=>
if (decide (0<f) == decide (0<e))=true then
some (.inr false)
else
some (.inr (decide (((Zk.Truth b).length:Int)=0)))
else
some (.inr false)
else
some (.inr false)
else
if Zk.Kind b=3 then
if a.1=1 then
(atI d 1).bind λc=>
if 0<c then
(atI d 2).bind λf=>
if 0<f then
(atI d 3).bind λe=>
if e=0 then
some (.inr (decide (((Zk.Truth b).length:Int)=0)))
else
some (.inr false)
else
some (.inr false)
else
some (.inr false)
else
some (.inr false)
else
some (.inr false)
def Zfs (a:Zk):Option Bool:=
(Zeq a).bind λb=>
if b.2 then
(VA (Zk.Name a)).bind λe=>
if e then
if 8<((Zk.JR a).length:Int) then
some false
else
(ZN (Zk.Zsl a) 0 100000).bind λc=>
if c then
(ZN (Zk.Zhn a) 0 100000).bind λd=>
if d then
Zq (λv=>Zb2 a b v.1) ((0:Int),())
else
some false
else
some false
else
some false
else
some false
def c65:Ctr:=D1 (V6) (.bool) Zfs
def Zak (c:Zt) (b:Int) (d:Zk) (a:Int):Option ((Int×Unit) ⊕ ((Int×Unit) ⊕ Bool)):=
if a<b then
(atI (Zt.Cells c) a).bind λe=>
if Zk.Name e=Zk.Name d then
some (.inr (.inr false))
else
some (.inl (Wq (a+1),()))
else
some (.inr (.inl (Wq (b+1),())))
def Zal (a:Zt) (b:Int):Option ((Int×Unit) ⊕ Bool):=
if b<((Zt.Cells a).length:Int) then
(atI (Zt.Cells a) b).bind λc=>
(Zfs c).bind λd=>
if d then
Zq (λv=>Zak a b c v.1) ((0:Int),())
else
some (.inr false)
else
some (.inr (decide (((Zt.Cells a).length:Int)<=8)))
def Zco (a:Zt):Option Bool:=
Zq (λv=>Zal a v.1) ((0:Int),())
def c66:Ctr:=D1 (YR) (.bool) Zco
def ZaX (c:Zg) (f:Int) (b:Zl) (a:Int):Option ((Int×Unit) ⊕ ((Int×Unit) ⊕ Bool)):=
if a<((Zl.X7 b).length:Int) then
(atI (Zl.X7 b) a).bind λe=>
(ZN e 0 (Wq (((Zg.X7 c).length:Int)-1))).bind λd=>
if d then
some (.inl (Wq (a+1),()))
else
some (.inr (.inr false))
else
some (.inr (.inl (Wq (f+1),())))
def ZaY (a:Zg) (b:Int):Option ((Int×Unit) ⊕ ((Int×Unit) ⊕ Bool)):=
if b<((Zg.Xb a).length:Int) then
(atI (Zg.Xb a) b).bind λc=>
(ZN (Ye.Dir c) 1 2).bind λd=>
if d then
(ZN (Ye.Net c) 0 (Wq (((Zg.X7 a).length:Int)-1))).bind λe=>
if e then
some (.inl (Wq (b+1),()))
else
some (.inr (.inr false))
else
some (.inr (.inr false))
else
some (.inr (.inr true))
def ZaZ (d:Zt) (a:Zg) (c:Int):Option ((Int×Unit) ⊕ Bool):=
if c<((Zg.Instances a).length:Int) then
(atI (Zg.Instances a) c).bind λb=>
(ZN (Zl.Cell b) 0 (Wq (((Zt.Cells d).length:Int)-1))).bind λe=>
if e then
(atI (Zt.Cells d) (Zl.Cell b)).bind λf=>
if ((Zl.X7 b).length:Int)=((Zk.Yz f).length:Int) then
Zq (λv=>ZaX a c b v.1) ((0:Int),())
else
some (.inr false)
else
some (.inr false)
else
Zq (λv=>ZaY a v.1) ((0:Int),())
def Zc7 (b:Zt) (a:Zg):Option Bool:=
Zq (λv=>ZaZ b a v.1) ((0:Int),())
def c67:Ctr:=D2 (YR) (YU) (.bool) Zc7
def ZaV (a:List (List UInt8)) (c:Int) (d:List UInt8) (b:Int):Option ((Int×Unit) ⊕ ((Int×Unit) ⊕ Bool)):=
if b<c then
(atI a b).bind λe=>
if e=d then
some (.inr (.inr false))
else
some (.inl (Wq (b+1),()))
else
some (.inr (.inl (Wq (c+1),())))
def ZaW (a:List (List UInt8)) (b:Int):Option ((Int×Unit) ⊕ Bool):=
if b<(a.length:Int) then
(atI a b).bind λc=>
(VA c).bind λd=>
if d then
Zq (λv=>ZaV a b c v.1) ((0:Int),())
else
some (.inr false)
else
some (.inr true)
def Zab (a:List (List UInt8)):Option Bool:=
Zq (λv=>ZaW a v.1) ((0:Int),())
def c68:Ctr:=D1 (.sl (.str)) (.bool) Zab
def ZaR (b:List Int) (a:Int):Option ((Int×Unit) ⊕ ((Int×(List Int)×Unit) ⊕ ((Int×(List Int)×Unit) ⊕ (((List (List UInt8))×Int×Unit) ⊕ (((List (List UInt8))×Int×Unit) ⊕ Bool))))):=
if a<(b.length:Int) then
(atI b a).bind λc=>
if c=1 then
some (.inl (Wq (a+1),()))
else
some (.inr (.inr (.inr (.inr (.inr false)))))
else
some (.inr (.inr (.inr (.inr (.inr true)))))
def VL (d:Zg) (a:Int) (b:List Int):Option ((Int×(List Int)×Unit) ⊕ ((Int×(List Int)×Unit) ⊕ (((List (List UInt8))×Int×Unit) ⊕ (((List (List UInt8))×Int×Unit) ⊕ Bool)))):=
if a<((Zg.Xb d).length:Int) then
(atI (Zg.Xb d) a).bind λc=>
if Ye.Dir c=1 then
(atI b (Ye.Net c)).bind λe=>
some (.inl (Wq (a+1),List.set b (Int.toNat (Ye.Net c)) (Wq (e+1)),()))
else
some (.inl (Wq (a+1),b,()))
else
Zq (λv=>ZaR b v.1) ((0:Int),())
def VN (a:Zg) (c:Int) (b:List Int):Option ((Int×(List Int)×Unit) ⊕ (((List (List UInt8))×Int×Unit) ⊕ (((List (List UInt8))×Int×Unit) ⊕ Bool))):=
if c<((Zg.Instances a).length:Int) then
(atI (Zg.Instances a) c).bind λd=>
(atI (Zl.X7 d) (Wq (((Zl.X7 d).length:Int)-1))).bind λe=>
(atI b e).bind λf=>
some (.inl (Wq (c+1),List.set b (Int.toNat e) (Wq (f+1)),()))
else
Zq (λv=>VL a v.1 v.2.1) ((0:Int),b,())
def ZaS (a:Zg) (h c:List (List UInt8)) (b:Int):Option (((List (List UInt8))×Int×Unit) ⊕ (((List (List UInt8))×Int×Unit) ⊕ Bool)):=
if b<((Zg.Xb a).length:Int) then
(atI (Zg.Xb a) b).bind λd=>
Zp ((c.length+[Ye.Name d].length)*(16:Nat)<=(140737488355328:Nat))<|
some (.inl (c++[Ye.Name d],Wq (b+1),()))
else
(Zab h).bind λe=>
if e then
(Zab c).bind λg=>
if g then
(Zab (Zg.X7 a)).bind λf=>
if f then
Zp ((0:Int)<=((Zg.X7 a).length:Int))<|
Zp (((Zg.X7 a).length:Int)<=((Zg.X7 a).length:Int))<|
Zp (((Zg.X7 a).length:Int)<=(4611686018427387904:Int))<|
Zp (((8:Nat):Int)*((Zg.X7 a).length:Int)<=(281474976710656:Int))<|
Zq (λv=>VN a v.1 v.2.1) ((0:Int),List.replicate (Int.toNat ((Zg.X7 a).length:Int)) (0:Int),())
else
some (.inr (.inr false))
else
some (.inr (.inr false))
else
some (.inr (.inr false))
def ZaT (a:Zg) (c:List (List UInt8)) (b:Int):Option (((List (List UInt8))×Int×Unit) ⊕ Bool):=
if b<((Zg.Instances a).length:Int) then
(atI (Zg.Instances a) b).bind λd=>
Zp ((c.length+[Zl.Name d].length)*(16:Nat)<=(140737488355328:Nat))<|
some (.inl (c++[Zl.Name d],Wq (b+1),()))
else
Zq (λv=>ZaS a c v.1 v.2.1) (([]:List (List UInt8)),(0:Int),())
def ZbC (b:Zt) (a:Zg):Option Bool:=
(Zco b).bind λc=>
if c then
if 14<((Zg.Instances a).length:Int) then
some false
else
if 30<((Zg.X7 a).length:Int) then
some false
else
if 8<((Zg.Xb a).length:Int) then
some false
else
(Zc7 b a).bind λd=>
if d then
Zq (λv=>ZaT a v.1 v.2.1) (([]:List (List UInt8)),(0:Int),())
else
some false
else
some false
def c69:Ctr:=D2 (YR) (YU) (.bool) ZbC
def Zan (d:Int) (b:Zl) (c:List Ya) (a:Int):Option (((List Ya)×Int×Unit) ⊕ (((List Ya)×Int×Unit) ⊕ List Ya)):=
if a<((Zl.X7 b).length:Int) then
(atI (Zl.X7 b) a).bind λe=>
Zp ((c.length+[(d,a,e,decide (a=Wq (((Zl.X7 b).length:Int)-(1:Int))),())].length)*(32:Nat)<=(140737488355328:Nat))<|
some (.inl (c++[(d,a,e,decide (a=Wq (((Zl.X7 b).length:Int)-1)),())],Wq (a+1),()))
else
some (.inr (.inl (c,Wq (d+1),())))
def Zao (d:Zg) (c:List Ya) (a:Int):Option (((List Ya)×Int×Unit) ⊕ (((List Ya)×Int×Unit) ⊕ List Ya)):=
if a<((Zg.Xb d).length:Int) then
(atI (Zg.Xb d) a).bind λb=>
Zp ((c.length+[((-1:Int),a,Ye.Net b,decide (Ye.Dir b=(1:Int)),())].length)*(32:Nat)<=(140737488355328:Nat))<|
some (.inl (c++[((-1:Int),a,Ye.Net b,decide (Ye.Dir b=1),())],Wq (a+1),()))
else
some (.inr (.inr c))
def Zap (b:Zg) (c:List Ya) (a:Int):Option (((List Ya)×Int×Unit) ⊕ List Ya):=
if a<((Zg.Instances b).length:Int) then
(atI (Zg.Instances b) a).bind λd=>
Zq (λv=>Zan a d v.1 v.2.1) (c,(0:Int),())
else
Zq (λv=>Zao b v.1 v.2.1) (c,(0:Int),())
def X3 (a:Zg):Option (List Ya):=
Zq (λv=>Zap a v.1 v.2.1) (([]:List (Int×Int×Int×Bool×Unit)),(0:Int),())
def c70:Ctr:=⟨[.dat (YU)],[.own (.ol 234 (.flat (ZcG)))],λa K=>ZT a λb a=>QN (X3 b) λr=>K (r,()) ()⟩
def Za0 (d:Int) (a:List Ya) (b:List Int) (c:Int):Option (((List Int)×Int×Unit) ⊕ List Int):=
if c<(a.length:Int) then
(atI a c).bind λe=>
if Ya.net e=d then
if (Ya.drives e)=true then
some (.inl (b,Wq (c+1),()))
else
Zp ((b.length+[c].length)*(8:Nat)<=(140737488355328:Nat))<|
some (.inl (b++[c],Wq (c+1),()))
else
some (.inl (b,Wq (c+1),()))
else
some (.inr b)
def Zc8 (b:Zg) (a:Int):Option (List Int):=
(X3 b).bind λc=>
Zq (λv=>Za0 a c v.1 v.2.1) (([]:List Int),(0:Int),())
def c71:Ctr:=⟨[.dat (YU),.dat Iq],[.own (.ol 2 (.flat Iq))],λa K=>ZT a λc a=>ZT a λb a=>QN (Zc8 c b) λr=>K (r,()) ()⟩
def Zb3 (b:Zx) (a:Int):Option ((Int×Unit) ⊕ ((Int×Unit) ⊕ Bool)):=
if a<((Zx.Zjo b).length:Int) then
(atI (Zx.Zjo b) a).bind λc=>
(ZN c 0 (Wq (((Zx.Parent b).length:Int)-1))).bind λd=>
if d then
some (.inl (Wq (a+1),()))
else
some (.inr (.inr false))
else
some (.inr (.inr true))
def Zb4 (b:Zx) (a:Int):Option ((Int×Unit) ⊕ Bool):=
if a<((Zx.Parent b).length:Int) then
(atI (Zx.Cap b) a).bind λg=>
(ZN g 0 500).bind λf=>
if f then
(atI (Zx.Res b) a).bind λe=>
(ZN e 0 1000).bind λh=>
if h then
if a=0 then
(atI (Zx.Parent b) a).bind λc=>
if c=(-1) then
if e=0 then
if 0<a then
(ZN c 0 (Wq (a-1))).bind λd=>
if d then
some (.inl (Wq (a+1),()))
else
some (.inr false)
else
some (.inl (Wq (a+1),()))
else
some (.inr false)
else
some (.inr false)
else
if 0<a then
(atI (Zx.Parent b) a).bind λc=>
(ZN c 0 (Wq (a-1))).bind λd=>
if d then
some (.inl (Wq (a+1),()))
else
some (.inr false)
else
some (.inl (Wq (a+1),()))
else
some (.inr false)
else
some (.inr false)
else
Zq (λv=>Zb3 b v.1) ((0:Int),())
def Zft (a:Zx) (b:Int):Option Bool:=
if ((Zx.Parent a).length:Int)<1 then
some false
else
if 8<((Zx.Parent a).length:Int) then
some false
else
if ((Zx.Res a).length:Int)=((Zx.Parent a).length:Int) then
if ((Zx.Cap a).length:Int)=((Zx.Parent a).length:Int) then
if ((Zx.Zjo a).length:Int)=b then
Zq (λv=>Zb4 a v.1) ((0:Int),())
else
some false
else
some false
else
some false
def c72:Ctr:=D2 (Za9) Iq (.bool) Zft
def ZbB (b:Zj) (a:Int):Option ((Int×Unit) ⊕ Bool):=
if a<((Zj.Qg b).length:Int) then
(atI (Zj.Qg b) a).bind λd=>
(Zc8 (Zj.Design b) a).bind λc=>
(Zft d (c.length:Int)).bind λe=>
if e then
some (.inl (Wq (a+1),()))
else
some (.inr false)
else
some (.inr true)
def ZcD (a:Zj):Option Bool:=
(ZbC (Zj.Library a) (Zj.Design a)).bind λb=>
if b then
if ((Zj.Qg a).length:Int)=((Zg.X7 (Zj.Design a)).length:Int) then
Zq (λv=>ZbB a v.1) ((0:Int),())
else
some false
else
some false
def c73:Ctr:=D1 (Xz) (.bool) ZcD
def Zc9 (a:Zc):Option Bool:=
(VA (Zc.Name a)).bind λc=>
if c then
if 0<=Zc.Place a then
(ZN (Zc.Yn a) 0 100000).bind λd=>
if d then
(ZN (Zc.YK a) (Zc.Yn a) 100000).bind λe=>
if e then
(ZN (Zc.Y8 a) 0 100000).bind λb=>
some b
else
some false
else
some false
else
some false
else
some false
def c74:Ctr:=D1 (Xh) (.bool) Zc9
def ZbJ (a:Zc):Option Bool:=
(ZN (Zc.VQ a) 2 100000).bind λd=>
if d then
(ZN (Zc.Zae a) 0 (Wq (Zc.VQ a-1))).bind λb=>
if b then
(ZN (Zc.Zad a) 0 (Wq (Zc.VQ a-1))).bind λc=>
if c then
if Zc.Zae a=Zc.Zad a then
some false
else
if Zc.Divide a=1 then
some (!Zc.Zex a)
else
some false
else
some false
else
some false
else
some false
def c75:Ctr:=D1 (Xh) (.bool) ZbJ
def JK (d:(List Zc)->Int->Option YW) (c:List Zc) (e:Int):Option YW:=
(atI c e).bind λb=>
if Zc.Source b<0 then
some (Zc.VQ b,Zc.Zae b,Zc.Zad b,())
else
(d c (Zc.Source b)).bind λa=>
if 1<Zc.Divide b then
if (Zc.Zex b)=true then
some (Wq (YW.period a*Zc.Divide b),Wq (YW.rise a+Wq (Wq (Int.tdiv (Zc.Divide b) 2)*YW.period a)),YW.rise a,())
else
some (Wq (YW.period a*Zc.Divide b),YW.rise a,Wq (YW.rise a+Wq (Wq (Int.tdiv (Zc.Divide b) 2)*YW.period a)),())
else
if (Zc.Zex b)=true then
some (YW.period a,YW.fall a,YW.rise a,())
else
some a
def JL:Nat->(List Zc)->Int->Option YW
| 0=>λ_ _=>none
| n+1=>JK (JL n)
def ZgJ (a:List Zc) (b:Int):Option YW:=Zuc (λn=>JL n a b)
def ZcT (c:(List Zc)->Int->Option YW):Ctr:=⟨[.dat (.sl (Xh)),.dat Iq],[.dat (Zqb)],λa K=>ZT a λb a=>ZT a λd a=>QN (c b d) λr=>K (r,()) ()⟩
def c76:Ctr:=ZcT ZgJ
def VK (d:List Zc) (b:Int) (a:Zc) (c:Int):Option ((Int×Unit) ⊕ ((Int×Unit) ⊕ Bool)):=
if c<b then
(atI d c).bind λi=>
if Zc.Name i=Zc.Name a then
some (.inr (.inr false))
else
some (.inl (Wq (c+1),()))
else
if Zc.Source a=(-1) then
(ZbJ a).bind λe=>
if e then
some (.inr (.inl (Wq (b+1),())))
else
some (.inr (.inr false))
else
(ZN (Zc.Source a) 0 (Wq (b-1))).bind λh=>
if h then
(ZN (Zc.Divide a) 1 8).bind λf=>
if f then
if Zc.VQ a=0 then
if Zc.Zae a=0 then
if Zc.Zad a=0 then
(ZgJ d b).bind λg=>
if 100000<YW.period g then
some (.inr (.inr false))
else
some (.inr (.inl (Wq (b+1),())))
else
some (.inr (.inr false))
else
some (.inr (.inr false))
else
some (.inr (.inr false))
else
some (.inr (.inr false))
else
some (.inr (.inr false))
def ZaP (a:List Zc) (b:Int):Option ((Int×Unit) ⊕ Bool):=
if b<(a.length:Int) then
if (a.length:Int)<=6 then
(atI a b).bind λc=>
(Zc9 c).bind λd=>
if d then
Zq (λv=>VK a b c v.1) ((0:Int),())
else
some (.inr false)
else
some (.inr (decide ((a.length:Int)<=6)))
else
some (.inr (decide ((a.length:Int)<=6)))
def Zc4 (a:List Zc):Option Bool:=
Zq (λv=>ZaP a v.1) ((0:Int),())
def c77:Ctr:=D1 (.sl (Xh)) (.bool) Zc4
def ZaQ (a:Zm) (b:Int):Option ((Int×Unit) ⊕ Bool):=
if b<(([Zm.Xq a,Zm.Qn a,Zm.XK a,Zm.QG a].length):Int) then
(atI ([Zm.Xq a,Zm.Qn a,Zm.XK a,Zm.QG a]) b).bind λd=>
(ZN d 100 5000).bind λc=>
if c then
some (.inl (Wq (b+1),()))
else
some (.inr false)
else
(VA (Zm.Name a)).bind λe=>
if e then
if Zm.Xq a<=Zm.Qn a then
some (.inr (decide (Zm.XK a<=Zm.QG a)))
else
some (.inr false)
else
some (.inr false)
def Zc5 (a:Zm):Option Bool:=
Zq (λv=>ZaQ a v.1) ((0:Int),())
def c78:Ctr:=D1 (Y6) (.bool) Zc5
def JM (a:List Zm) (c:Int) (d:Zm) (b:Int):Option ((Int×Unit) ⊕ ((Int×Unit) ⊕ Bool)):=
if b<c then
(atI a b).bind λe=>
if Zm.Name e=Zm.Name d then
some (.inr (.inr false))
else
some (.inl (Wq (b+1),()))
else
some (.inr (.inl (Wq (c+1),())))
def JN (a:List Zm) (b:Int):Option ((Int×Unit) ⊕ Bool):=
if b<(a.length:Int) then
(atI a b).bind λc=>
(Zc5 c).bind λd=>
if d then
Zq (λv=>JM a b c v.1) ((0:Int),())
else
some (.inr false)
else
some (.inr (decide ((a.length:Int)<=4)))
def ZbK (a:List Zm):Option Bool:=
Zq (λv=>JN a v.1) ((0:Int),())
def c79:Ctr:=D1 (.sl (Y6)) (.bool) ZbK
def Zda (a:Zj):Option Int:=
(X3 (Zj.Design a)).bind λb=>
some (b.length:Int)
def c80:Ctr:=D1 (Xz) Iq Zda
def Zaq (e:Zj) (a:List Int) (c:Bool) (b:Int):Option ((Int×Unit) ⊕ Bool):=
if b<(a.length:Int) then
(atI a b).bind λd=>
(Zda e).bind λf=>
(ZN d 0 (Wq (f-1))).bind λg=>
if g then
if c then
if 0<b then
(atI a (Wq (b-1))).bind λh=>
if d<=h then
some (.inr false)
else
some (.inl (Wq (b+1),()))
else
some (.inl (Wq (b+1),()))
else
some (.inl (Wq (b+1),()))
else
some (.inr false)
else
some (.inr (decide ((a.length:Int)<=4)))
def Ja (c:Zj) (b:List Int) (a:Bool):Option Bool:=
Zq (λv=>Zaq c b a v.1) ((0:Int),())
def c81:Ctr:=D3 (Xz) (.sl Iq) (.bool) (.bool) Ja
def V5 (c:Zj) (a:Ze):Option Bool:=
(ZcD c).bind λd=>
if d then
(Ja c (Ze.From a) true).bind λg=>
if g then
(Ja c (Ze.Through a) false).bind λe=>
if e then
(Ja c (Ze.To a) true).bind λf=>
if f then
if Ze.Kind a=1 then
some (decide (Ze.Value a=0))
else
if Ze.Kind a=2 then
(ZN (Ze.Value a) 1 10).bind λb=>
some b
else
if Ze.Kind a=3 then
if Ze.Kind a=3 then
(ZN (Ze.Value a) 0 1000000000).bind λb=>
some b
else
some false
else
if Ze.Kind a=4 then
(ZN (Ze.Value a) 0 1000000000).bind λb=>
some b
else
some false
else
some false
else
some false
else
some false
else
some false
def c82:Ctr:=D2 (Xz) (Z4) (.bool) V5
def ZbI (a:Yb):Option Bool:=
if 0<=Yb.Early a then
if Yb.Early a<=Yb.Late a then
some (decide (Yb.Late a<=1000000))
else
some false
else
some false
def c83:Ctr:=D1 (Zj1) (.bool) ZbI
def VP (j:Zo) (f:List Zh) (d:Bool) (b:List Ya) (c:Int):Option ((Int×Unit) ⊕ Bool):=
if c<(f.length:Int) then
(atI f c).bind λa=>
(ZN (Zh.Place a) 0 (Wq ((b.length:Int)-1))).bind λk=>
if k then
if 0<c then
(atI f (Wq (c-1))).bind λe=>
if Zh.Place a<=Zh.Place e then
some (.inr false)
else
(ZN (Zh.Clock a) 0 (Wq (((Zo.Yk j).length:Int)-1))).bind λh=>
if h then
(atI b (Zh.Place a)).bind λi=>
if 0<=Ya.instance i then
some (.inr false)
else
if (Ya.drives i == d)=true then
if Yb.Late (Zh.Delay a)<Yb.Early (Zh.Delay a) then
some (.inr false)
else
if Yb.Early (Zh.Delay a)<(-100000) then
some (.inr false)
else
if 100000<Yb.Late (Zh.Delay a) then
some (.inr false)
else
(ZbI (Zh.Za2 a)).bind λg=>
if g then
if d then
some (.inl (Wq (c+1),()))
else
if (decide (Yb.Early (Zh.Za2 a)=0)&&decide (Yb.Late (Zh.Za2 a)=0))=true then
some (.inl (Wq (c+1),()))
else
some (.inr false)
else
some (.inr false)
else
some (.inr false)
else
some (.inr false)
else
(ZN (Zh.Clock a) 0 (Wq (((Zo.Yk j).length:Int)-1))).bind λh=>
if h then
(atI b (Zh.Place a)).bind λe=>
if 0<=Ya.instance e then
some (.inr false)
else
if (Ya.drives e == d)=true then
if Yb.Late (Zh.Delay a)<Yb.Early (Zh.Delay a) then
some (.inr false)
else
if Yb.Early (Zh.Delay a)<(-100000) then
some (.inr false)
else
if 100000<Yb.Late (Zh.Delay a) then
some (.inr false)
else
(ZbI (Zh.Za2 a)).bind λg=>
if g then
if d then
some (.inl (Wq (c+1),()))
else
if (decide (Yb.Early (Zh.Za2 a)=0)&&decide (Yb.Late (Zh.Za2 a)=0))=true then
some (.inl (Wq (c+1),()))
else
some (.inr false)
else
some (.inr false)
else
some (.inr false)
else
some (.inr false)
else
some (.inr false)
else
some (.inr true)
def Vy (e:Zj) (a:Zo) (b:List Zh) (d:Bool):Option Bool:=
(X3 (Zj.Design e)).bind λc=>
Zq (λv=>VP a b d c v.1) ((0:Int),())
def c84:Ctr:=D4 (Xz) (Vh) (.sl (Yx)) (.bool) (.bool) Vy
def ZbD (b:Zj) (a:Zo) (c:Int):Option ((Int×Unit) ⊕ ((Int×Unit) ⊕ Bool)):=
if c<((Zo.Exceptions a).length:Int) then
(atI (Zo.Exceptions a) c).bind λe=>
(V5 b e).bind λd=>
if d then
some (.inl (Wq (c+1),()))
else
some (.inr (.inr false))
else
(Vy b a (Zo.Zbb a) true).bind λf=>
if f then
(Vy b a (Zo.Vp a) false).bind λg=>
some (.inr (.inr g))
else
some (.inr (.inr false))
def ZbE (c:Zj) (a:Zo) (b:Int):Option ((Int×Unit) ⊕ Bool):=
if b<((Zo.Yk a).length:Int) then
(atI (Zo.Yk a) b).bind λe=>
(X3 (Zj.Design c)).bind λd=>
if (d.length:Int)<=Zc.Place e then
some (.inr false)
else
some (.inl (Wq (b+1),()))
else
Zq (λv=>ZbD c a v.1) ((0:Int),())
def Zeo (b:Zj) (a:Zo):Option Bool:=
(ZcD b).bind λc=>
if c then
(Zc4 (Zo.Yk a)).bind λd=>
if d then
if 6<((Zo.Exceptions a).length:Int) then
some false
else
(ZbK (Zo.X5 a)).bind λe=>
if e then
Zq (λv=>ZbE b a v.1) ((0:Int),())
else
some false
else
some false
else
some false
def c85:Ctr:=D2 (Xz) (Vh) (.bool) Zeo
def YB (c:Int->Option (List UInt8)) (a:Int):Option (List UInt8):=
if a<0 then
(c (Wq (0-a))).bind λb=>
Zp ((([(45:UInt8)].length):Int)+(b.length:Int)<=(9223372036854775807:Int))<|
some ([(45:UInt8)]++b)
else
if a<10 then
some (bytesOf [IntKind.wrap IntKind.u8 (Wq ((48:Int)+a))])
else
(c (Wq (Int.tdiv a 10))).bind λb=>
Zp ((b.length:Int)+(((bytesOf [IntKind.wrap IntKind.u8 (Wq ((48:Int)+Int.tmod a (10:Int)))]).length):Int)<=(9223372036854775807:Int))<|
some (b++bytesOf [IntKind.wrap IntKind.u8 (Wq ((48:Int)+Int.tmod a (10:Int)))])
def Y1:Nat->Int->Option (List UInt8)
| 0=>λ_=>none
| n+1=>YB (Y1 n)
def Zaw (a:Int):Option (List UInt8):=Zuc (λn=>Y1 n a)
def JU (b:Int->Option (List UInt8)):Ctr:=⟨[.dat Iq],[.dat (.str)],λa K=>ZT a λc a=>QN (b c) λr=>K (r,()) ()⟩
def c86:Ctr:=JU Zaw
def JO (a:List Int) (b:List UInt8) (c:Int):Option (((List UInt8)×Int×Unit) ⊕ List UInt8):=
if c<(a.length:Int) then
Zp ((b.length:Int)+(([(32:UInt8)].length):Int)<=(9223372036854775807:Int))<|
(atI a c).bind λe=>
(Zaw e).bind λd=>
Zp (((b++[(32:UInt8)]).length:Int)+(d.length:Int)<=(9223372036854775807:Int))<|
some (.inl (b++[(32:UInt8)]++d,Wq (c+1),()))
else
some (.inr b)
def YH (a:List Int):Option (List UInt8):=
Zq (λv=>JO a v.1 v.2.1) (([]:List UInt8),(0:Int),())
def c87:Ctr:=D1 (.sl Iq) (.str) YH
def Vb (e:Zt) (c:Zg) (b:Ya):Option (List UInt8):=
if Ya.instance b<0 then
(atI (Zg.Xb c) (Ya.pin b)).bind λa=>
some (Ye.Name a)
else
(atI (Zg.Instances c) (Ya.instance b)).bind λa=>
Zp (((Zl.Name a).length:Int)+(([(47:UInt8)].length):Int)<=(9223372036854775807:Int))<|
(atI (Zt.Cells e) (Zl.Cell a)).bind λf=>
(atI (Zk.Yz f) (Ya.pin b)).bind λd=>
Zp (((Zl.Name a++[(47:UInt8)]).length:Int)+((Yv.Name d).length:Int)<=(9223372036854775807:Int))<|
some (Zl.Name a++[(47:UInt8)]++Yv.Name d)
def c88:Ctr:=D3 (YR) (YU) (ZcG) (.str) Vb
def X4 (b:Zj) (a:Int):Option (List UInt8):=
(X3 (Zj.Design b)).bind λc=>
(atI c a).bind λd=>
(Vb (Zj.Library b) (Zj.Design b) d).bind λe=>
some e
def c89:Ctr:=D2 (Xz) Iq (.str) X4
def Vd (f:Zj) (g:List Zc) (a:Zc):Option (List UInt8):=
(YH [Zc.Yn a,Zc.YK a,Zc.Y8 a]).bind λe=>
if Zc.Source a<0 then
Zp ((([(99:UInt8),108,111,99,107,32].length):Int)+((Zc.Name a).length:Int)<=(9223372036854775807:Int))<|
Zp ((([(99:UInt8),108,111,99,107,32]++Zc.Name a).length:Int)+(([(32:UInt8)].length):Int)<=(9223372036854775807:Int))<|
(X4 f (Zc.Place a)).bind λb=>
Zp ((([(99:UInt8),108,111,99,107,32]++Zc.Name a++[(32:UInt8)]).length:Int)+(b.length:Int)<=(9223372036854775807:Int))<|
(YH [Zc.VQ a,Zc.Zae a,Zc.Zad a]).bind λc=>
Zp ((([(99:UInt8),108,111,99,107,32]++Zc.Name a++[(32:UInt8)]++b).length:Int)+(c.length:Int)<=(9223372036854775807:Int))<|
Zp ((([(99:UInt8),108,111,99,107,32]++Zc.Name a++[(32:UInt8)]++b++c).length:Int)+(e.length:Int)<=(9223372036854775807:Int))<|
some ([(99:UInt8),108,111,99,107,32]++Zc.Name a++[(32:UInt8)]++b++c++e)
else
if (Zc.Zex a)=true then
Zp ((([(103:UInt8),101,110,101,114,97,116,101,100,32].length):Int)+((Zc.Name a).length:Int)<=(9223372036854775807:Int))<|
Zp ((([(103:UInt8),101,110,101,114,97,116,101,100,32]++Zc.Name a).length:Int)+(([(32:UInt8)].length):Int)<=(9223372036854775807:Int))<|
(atI g (Zc.Source a)).bind λd=>
(X4 f (Zc.Place a)).bind λb=>
Zp ((([(103:UInt8),101,110,101,114,97,116,101,100,32]++Zc.Name a++[(32:UInt8)]).length:Int)+(b.length:Int)<=(9223372036854775807:Int))<|
Zp ((([(103:UInt8),101,110,101,114,97,116,101,100,32]++Zc.Name a++[(32:UInt8)]++b).length:Int)+(([(32:UInt8)].length):Int)<=(9223372036854775807:Int))<|
Zp ((([(103:UInt8),101,110,101,114,97,116,101,100,32]++Zc.Name a++[(32:UInt8)]++b++[(32:UInt8)]).length:Int)+((Zc.Name d).length:Int)<=(9223372036854775807:Int))<|
(YH [Zc.Divide a]).bind λc=>
Zp ((([(103:UInt8),101,110,101,114,97,116,101,100,32]++Zc.Name a++[(32:UInt8)]++b++[(32:UInt8)]++Zc.Name d).length:Int)+(c.length:Int)<=(9223372036854775807:Int))<|
Zp ((([(103:UInt8),101,110,101,114,97,116,101,100,32]++Zc.Name a++[(32:UInt8)]++b++[(32:UInt8)]++Zc.Name d++c).length:Int)+(([(32:UInt8),105,110,118,101,114,116].length):Int)<=(9223372036854775807:Int))<|
Zp ((([(103:UInt8),101,110,101,114,97,116,101,100,32]++Zc.Name a++[(32:UInt8)]++b++[(32:UInt8)]++Zc.Name d++c++[(32:UInt8),105,110,118,101,114,116]).length:Int)+(e.length:Int)<=(9223372036854775807:Int))<|
some ([(103:UInt8),101,110,101,114,97,116,101,100,32]++Zc.Name a++[(32:UInt8)]++b++[(32:UInt8)]++Zc.Name d++c++[(32:UInt8),105,110,118,101,114,116]++e)
else
Zp ((([(103:UInt8),101,110,101,114,97,116,101,100,32].length):Int)+((Zc.Name a).length:Int)<=(9223372036854775807:Int))<|
Zp ((([(103:UInt8),101,110,101,114,97,116,101,100,32]++Zc.Name a).length:Int)+(([(32:UInt8)].length):Int)<=(9223372036854775807:Int))<|
(atI g (Zc.Source a)).bind λd=>
(X4 f (Zc.Place a)).bind λb=>
Zp ((([(103:UInt8),101,110,101,114,97,116,101,100,32]++Zc.Name a++[(32:UInt8)]).length:Int)+(b.length:Int)<=(9223372036854775807:Int))<|
Zp ((([(103:UInt8),101,110,101,114,97,116,101,100,32]++Zc.Name a++[(32:UInt8)]++b).length:Int)+(([(32:UInt8)].length):Int)<=(9223372036854775807:Int))<|
Zp ((([(103:UInt8),101,110,101,114,97,116,101,100,32]++Zc.Name a++[(32:UInt8)]++b++[(32:UInt8)]).length:Int)+((Zc.Name d).length:Int)<=(9223372036854775807:Int))<|
(YH [Zc.Divide a]).bind λc=>
Zp ((([(103:UInt8),101,110,101,114,97,116,101,100,32]++Zc.Name a++[(32:UInt8)]++b++[(32:UInt8)]++Zc.Name d).length:Int)+(c.length:Int)<=(9223372036854775807:Int))<|
Zp ((([(103:UInt8),101,110,101,114,97,116,101,100,32]++Zc.Name a++[(32:UInt8)]++b++[(32:UInt8)]++Zc.Name d++c).length:Int)+(([(32:UInt8),112,108,97,105,110].length):Int)<=(9223372036854775807:Int))<|
Zp ((([(103:UInt8),101,110,101,114,97,116,101,100,32]++Zc.Name a++[(32:UInt8)]++b++[(32:UInt8)]++Zc.Name d++c++[(32:UInt8),112,108,97,105,110]).length:Int)+(e.length:Int)<=(9223372036854775807:Int))<|
some ([(103:UInt8),101,110,101,114,97,116,101,100,32]++Zc.Name a++[(32:UInt8)]++b++[(32:UInt8)]++Zc.Name d++c++[(32:UInt8),112,108,97,105,110]++e)
def c90:Ctr:=D3 (Xz) (.sl (Xh)) (Xh) (.str) Vd
def Zj0 (d:Zt) (c:Zg) (a:Int):Option (Ya×Bool):=
(ZbC d c).bind λe=>
if e then
(X3 c).bind λb=>
(ZN a 0 (Wq ((b.length:Int)-1))).bind λg=>
if g then
(atI b a).bind λf=>
some (f,true)
else
some ((0,0,0,false,()),false)
else
some ((0,0,0,false,()),false)
def c91:Ctr:=⟨[.dat (YR),.dat (YU),.dat Iq],[.dat (ZcG),.dat (.bool)],λa K=>ZT a λc a=>ZT a λd a=>ZT a λb a=>QN (Zj0 c d b) λr=>K (r.1,r.2,()) ()⟩
def Zcp (b:Zt) (d:Zg) (a:Int):Option (List UInt8):=
(Zj0 b d a).bind λc=>
if c.2 then
(Vb b d c.1).bind λe=>
some e
else
some []
def c92:Ctr:=D3 (YR) (YU) Iq (.str) Zcp
def Za1 (e:Zj) (b:List UInt8) (c:List Int) (a:List UInt8) (d:Int):Option (((List UInt8)×Int×Unit) ⊕ List UInt8):=
if d<(c.length:Int) then
Zp ((a.length:Int)+(([(32:UInt8)].length):Int)<=(9223372036854775807:Int))<|
Zp (((a++[(32:UInt8)]).length:Int)+(b.length:Int)<=(9223372036854775807:Int))<|
Zp (((a++[(32:UInt8)]++b).length:Int)+(([(32:UInt8)].length):Int)<=(9223372036854775807:Int))<|
(atI c d).bind λg=>
(Zcp (Zj.Library e) (Zj.Design e) g).bind λf=>
Zp (((a++[(32:UInt8)]++b++[(32:UInt8)]).length:Int)+(f.length:Int)<=(9223372036854775807:Int))<|
some (.inl (a++[(32:UInt8)]++b++[(32:UInt8)]++f,Wq (d+1),()))
else
some (.inr a)
def Qt (c:Zj) (b:List UInt8) (a:List Int):Option (List UInt8):=
Zq (λv=>Za1 c b a v.1 v.2.1) (([]:List UInt8),(0:Int),())
def c93:Ctr:=D3 (Xz) (.str) (.sl Iq) (.str) Qt
def Xy (d:Zj) (b:Ze):Option (List UInt8):=
(V5 d b).bind λh=>
if h then
(atI ([[(102:UInt8),97,108,115,101],[(99:UInt8),121,99,108,101,115],[(109:UInt8),97,120],[(109:UInt8),105,110]]) (Wq (Ze.Kind b-1))).bind λa=>
if Ze.Kind b=1 then
(Qt d [(102:UInt8),114,111,109] (Ze.From b)).bind λc=>
Zp ((a.length:Int)+(c.length:Int)<=(9223372036854775807:Int))<|
(Qt d [(116:UInt8),104,114,111,117,103,104] (Ze.Through b)).bind λe=>
Zp (((a++c).length:Int)+(e.length:Int)<=(9223372036854775807:Int))<|
(Qt d [(116:UInt8),111] (Ze.To b)).bind λg=>
Zp (((a++c++e).length:Int)+(g.length:Int)<=(9223372036854775807:Int))<|
some (a++c++e++g)
else
Zp ((a.length:Int)+(([(32:UInt8)].length):Int)<=(9223372036854775807:Int))<|
(Zaw (Ze.Value b)).bind λf=>
Zp (((a++[(32:UInt8)]).length:Int)+(f.length:Int)<=(9223372036854775807:Int))<|
(Qt d [(102:UInt8),114,111,109] (Ze.From b)).bind λc=>
Zp (((a++[(32:UInt8)]++f).length:Int)+(c.length:Int)<=(9223372036854775807:Int))<|
(Qt d [(116:UInt8),104,114,111,117,103,104] (Ze.Through b)).bind λe=>
Zp (((a++[(32:UInt8)]++f++c).length:Int)+(e.length:Int)<=(9223372036854775807:Int))<|
(Qt d [(116:UInt8),111] (Ze.To b)).bind λg=>
Zp (((a++[(32:UInt8)]++f++c++e).length:Int)+(g.length:Int)<=(9223372036854775807:Int))<|
some (a++[(32:UInt8)]++f++c++e++g)
else
some []
def c94:Ctr:=D2 (Xz) (Z4) (.str) Xy
def Jp (e:Zo) (b:List UInt8) (c:Int):Option (((List UInt8)×Int×Unit) ⊕ (((List UInt8)×Int×Unit) ⊕ (((List UInt8)×Int×Unit) ⊕ (((List UInt8)×Int×Unit) ⊕ (((List UInt8)×Int×Unit) ⊕ List UInt8))))):=
if c<((Zo.X5 e).length:Int) then
(atI (Zo.X5 e) c).bind λa=>
Zp ((b.length:Int)+(([(99:UInt8),111,114,110,101,114,32].length):Int)<=(9223372036854775807:Int))<|
Zp (((b++[(99:UInt8),111,114,110,101,114,32]).length:Int)+((Zm.Name a).length:Int)<=(9223372036854775807:Int))<|
(YH [Zm.Xq a,Zm.Qn a,Zm.XK a,Zm.QG a]).bind λd=>
Zp (((b++[(99:UInt8),111,114,110,101,114,32]++Zm.Name a).length:Int)+(d.length:Int)<=(9223372036854775807:Int))<|
Zp (((b++[(99:UInt8),111,114,110,101,114,32]++Zm.Name a++d).length:Int)+(([(10:UInt8)].length):Int)<=(9223372036854775807:Int))<|
some (.inl (b++[(99:UInt8),111,114,110,101,114,32]++Zm.Name a++d++[(10:UInt8)],Wq (c+1),()))
else
some (.inr (.inr (.inr (.inr (.inr b)))))
def Jq (f:Zj) (b:Zo) (a:List UInt8) (c:Int):Option (((List UInt8)×Int×Unit) ⊕ (((List UInt8)×Int×Unit) ⊕ (((List UInt8)×Int×Unit) ⊕ (((List UInt8)×Int×Unit) ⊕ List UInt8)))):=
if c<((Zo.Exceptions b).length:Int) then
Zp ((a.length:Int)+(([(101:UInt8),120,99,101,112,116,32].length):Int)<=(9223372036854775807:Int))<|
(atI (Zo.Exceptions b) c).bind λe=>
(Xy f e).bind λd=>
Zp (((a++[(101:UInt8),120,99,101,112,116,32]).length:Int)+(d.length:Int)<=(9223372036854775807:Int))<|
Zp (((a++[(101:UInt8),120,99,101,112,116,32]++d).length:Int)+(([(10:UInt8)].length):Int)<=(9223372036854775807:Int))<|
some (.inl (a++[(101:UInt8),120,99,101,112,116,32]++d++[(10:UInt8)],Wq (c+1),()))
else
Zq (λv=>Jp b v.1 v.2.1) (a,(0:Int),())
def Jr (h:Zj) (d:Zo) (a:List UInt8) (f:Int):Option (((List UInt8)×Int×Unit) ⊕ (((List UInt8)×Int×Unit) ⊕ (((List UInt8)×Int×Unit) ⊕ List UInt8))):=
if f<((Zo.Vp d).length:Int) then
(atI (Zo.Vp d) f).bind λc=>
Zp ((a.length:Int)+(([(111:UInt8),117,116,112,117,116,32].length):Int)<=(9223372036854775807:Int))<|
(atI (Zo.Yk d) (Zh.Clock c)).bind λe=>
(X4 h (Zh.Place c)).bind λb=>
Zp (((a++[(111:UInt8),117,116,112,117,116,32]).length:Int)+(b.length:Int)<=(9223372036854775807:Int))<|
Zp (((a++[(111:UInt8),117,116,112,117,116,32]++b).length:Int)+(([(32:UInt8)].length):Int)<=(9223372036854775807:Int))<|
Zp (((a++[(111:UInt8),117,116,112,117,116,32]++b++[(32:UInt8)]).length:Int)+((Zc.Name e).length:Int)<=(9223372036854775807:Int))<|
(YH [Yb.Early (Zh.Delay c),Yb.Late (Zh.Delay c)]).bind λg=>
Zp (((a++[(111:UInt8),117,116,112,117,116,32]++b++[(32:UInt8)]++Zc.Name e).length:Int)+(g.length:Int)<=(9223372036854775807:Int))<|
Zp (((a++[(111:UInt8),117,116,112,117,116,32]++b++[(32:UInt8)]++Zc.Name e++g).length:Int)+(([(10:UInt8)].length):Int)<=(9223372036854775807:Int))<|
some (.inl (a++[(111:UInt8),117,116,112,117,116,32]++b++[(32:UInt8)]++Zc.Name e++g++[(10:UInt8)],Wq (f+1),()))
else
Zq (λv=>Jq h d v.1 v.2.1) (a,(0:Int),())
def Js (h:Zj) (d:Zo) (a:List UInt8) (f:Int):Option (((List UInt8)×Int×Unit) ⊕ (((List UInt8)×Int×Unit) ⊕ List UInt8)):=
if f<((Zo.Zbb d).length:Int) then
(atI (Zo.Zbb d) f).bind λc=>
Zp ((a.length:Int)+(([(105:UInt8),110,112,117,116,32].length):Int)<=(9223372036854775807:Int))<|
(atI (Zo.Yk d) (Zh.Clock c)).bind λe=>
(X4 h (Zh.Place c)).bind λb=>
Zp (((a++[(105:UInt8),110,112,117,116,32]).length:Int)+(b.length:Int)<=(9223372036854775807:Int))<|
Zp (((a++[(105:UInt8),110,112,117,116,32]++b).length:Int)+(([(32:UInt8)].length):Int)<=(9223372036854775807:Int))<|
Zp (((a++[(105:UInt8),110,112,117,116,32]++b++[(32:UInt8)]).length:Int)+((Zc.Name e).length:Int)<=(9223372036854775807:Int))<|
(YH [Yb.Early (Zh.Delay c),Yb.Late (Zh.Delay c),Yb.Early (Zh.Za2 c),Yb.Late (Zh.Za2 c)]).bind λg=>
Zp (((a++[(105:UInt8),110,112,117,116,32]++b++[(32:UInt8)]++Zc.Name e).length:Int)+(g.length:Int)<=(9223372036854775807:Int))<|
Zp (((a++[(105:UInt8),110,112,117,116,32]++b++[(32:UInt8)]++Zc.Name e++g).length:Int)+(([(10:UInt8)].length):Int)<=(9223372036854775807:Int))<|
some (.inl (a++[(105:UInt8),110,112,117,116,32]++b++[(32:UInt8)]++Zc.Name e++g++[(10:UInt8)],Wq (f+1),()))
else
Zq (λv=>Jr h d v.1 v.2.1) (a,(0:Int),())
def ZbL (e:Zj) (a:Zo) (b:List UInt8) (d:Int):Option (((List UInt8)×Int×Unit) ⊕ List UInt8):=
if d<((Zo.Yk a).length:Int) then
(atI (Zo.Yk a) d).bind λf=>
(Vd e (Zo.Yk a) f).bind λc=>
Zp ((b.length:Int)+(c.length:Int)<=(9223372036854775807:Int))<|
Zp (((b++c).length:Int)+(([(10:UInt8)].length):Int)<=(9223372036854775807:Int))<|
some (.inl (b++c++[(10:UInt8)],Wq (d+1),()))
else
Zq (λv=>Js e a v.1 v.2.1) (b,(0:Int),())
def Zgu (b:Zj) (a:Zo):Option (List UInt8):=
Zq (λv=>ZbL b a v.1 v.2.1) (([]:List UInt8),(0:Int),())
def c95:Ctr:=D2 (Xz) (Vh) (.str) Zgu
def Zcq (a:Zj) (b:Zo):Option (List UInt8):=
(Zeo a b).bind λd=>
if d then
(Zgu a b).bind λc=>
some c
else
some []
def c96:Ctr:=D2 (Xz) (Vh) (.str) Zcq
def ZQ (c b a:Int):Option Bool:=
if b<=c then
some (decide (c<=a))
else
some false
def c97:Ctr:=D3 Iq Iq Iq (.bool) ZQ
def ZbV (a:List UInt8):Option Bool:=
(ZQ (a.length:Int) 1 8).bind λc=>
if c then
Zp (a.length<=(1000000:Nat))<|
if Go.Lib.trimS a [(97:UInt8),98,99,100,101,102,103,104,105,106,107,108,109,110,111,112,113,114,115,116,117,118,119,120,121,122,48,49,50,51,52,53,54,55,56,57]=([]:List UInt8) then
(atI a 0).bind λb=>
some (decide ((0:Int)<=Go.Lib.indexByte [(97:UInt8),98,99,100,101,102,103,104,105,106,107,108,109,110,111,112,113,114,115,116,117,118,119,120,121,122] (Nat.toUInt8 (Int.toNat ((UInt8.toNat b):Int)))))
else
some false
else
some false
def c98:Ctr:=D1 (.str) (.bool) ZbV
def Vn (a:List Yv):Option Int:=
some (a.length:Int)
def c99:Ctr:=D1 (.sl (ZfZ)) Iq Vn
def Xx (b:List (List UInt8)) (d:List UInt8) (a:Int):Option ((Int×Unit) ⊕ Int):=
if a<(b.length:Int) then
(atI b a).bind λc=>
if d=c then
some (.inr a)
else
some (.inl (Wq (a+1),()))
else
some (.inr (-1))
def Xw (a:List (List UInt8)) (b:List UInt8):Option Int:=
Zq (λv=>Xx a b v.1) ((0:Int),())
def Zwn:Ctr:=D2 (.sl (.str)) (.str) Iq Xw
def Xa (a:List (List UInt8)) (b:List UInt8):Option Bool:=
(Xw a b).bind λc=>
some (decide (0<=c))
def Zwo:Ctr:=D2 (.sl (.str)) (.str) (.bool) Xa
def ZaK (a:List (List UInt8)) (b:Int):Option ((Int×Unit) ⊕ Bool):=
if b<(a.length:Int) then
(atI a b).bind λc=>
(ZbV c).bind λd=>
if d then
Zp ((0:Int)<=b)<|
Zp (b<=(a.length:Int))<|
(Xa (List.take (Int.toNat b-Int.toNat 0) (List.drop (Int.toNat 0) a)) c).bind λe=>
if e then
some (.inr false)
else
some (.inl (Wq (b+1),()))
else
some (.inr false)
else
some (.inr true)
def XU (a:List (List UInt8)):Option Bool:=
Zq (λv=>ZaK a v.1) ((0:Int),())
def ZtN:Ctr:=D1 (.sl (.str)) (.bool) XU
def Q6 (b:List Yv) (a:List (List UInt8)) (d:Int):Option (((List (List UInt8))×Int×Unit) ⊕ Bool):=
if d<(b.length:Int) then
(atI b d).bind λc=>
Zp ((a.length+[Yv.Name c].length)*(16:Nat)<=(140737488355328:Nat))<|
if d=Wq ((b.length:Int)-1) then
if Yv.Dir c=2 then
if Yv.Cap c=0 then
if (Yv.Clock c)=true then
some (.inr false)
else
some (.inl (a++[Yv.Name c],Wq (d+1),()))
else
some (.inr false)
else
some (.inr false)
else
if Yv.Dir c=1 then
(ZQ (Yv.Cap c) 0 500).bind λe=>
if e then
some (.inl (a++[Yv.Name c],Wq (d+1),()))
else
some (.inr false)
else
some (.inr false)
else
(Vn b).bind λf=>
(ZQ f 2 5).bind λe=>
if e then
(XU a).bind λg=>
some (.inr g)
else
some (.inr false)
def ZdZ (a:List Yv):Option Bool:=
Zq (λv=>Q6 a v.1 v.2.1) (([]:List (List UInt8)),(0:Int),())
def Zwp:Ctr:=D1 (.sl (ZfZ)) (.bool) ZdZ
def Zd0 (a:Int):Option Bool:=
if a=4 then
some true
else
some (decide (a=5))
def Zwq:Ctr:=D1 Iq (.bool) Zd0
def Xl (a:List Int):Option Int:=
some (a.length:Int)
def c105:Ctr:=D1 (.sl Iq) Iq Xl
def ZbT (a c b:Int):Option Bool:=
(ZQ a c b).bind λd=>
some !d
def Zwr:Ctr:=D3 Iq (.ptr Iq) (.ptr Iq) (.bool) ZbT
def Yh (c:List Int) (b:Int×Int×Unit) (a:Int):Option ((Int×Unit) ⊕ Int):=
if a<(c.length:Int) then
(atI c a).bind λd=>
(ZbT d b.1 b.2.1).bind λe=>
if e then
some (.inr a)
else
some (.inl (Wq (a+1),()))
else
some (.inr (-1))
def Z9 (a:List Int) (b:Int×Int×Unit):Option Int:=
Zq (λv=>Yh a b v.1) ((0:Int),())
def c107:Ctr:=D2 (.sl Iq) (.fn 278 (.pair (.ptr Iq) (.pair (.ptr Iq) (.unit)))) Iq Z9
def Ym (a:List Int) (b:Int×Int×Unit):Option Bool:=
(Z9 a b).bind λc=>
some (decide (0<=c))
def Zws:Ctr:=D2 (.sl Iq) (.fn 278 (.pair (.ptr Iq) (.pair (.ptr Iq) (.unit)))) (.bool) Ym
def Xe (b:List Int) (c a:Int):Option Bool:=
(Ym b (c,a,())).bind λd=>
some !d
def c109:Ctr:=D3 (.sl Iq) Iq Iq (.bool) Xe
def Xu (a:List Int) (b:Int):Option ((Int×Unit) ⊕ Bool):=
if b<(a.length:Int) then
(atI a (Wq (b-1))).bind λc=>
(atI a b).bind λd=>
if d<=c then
some (.inr false)
else
some (.inl (Wq (b+1),()))
else
some (.inr true)
def Qy (a:List Int):Option Bool:=
Zq (λv=>Xu a v.1) ((1:Int),())
def ZvV:Ctr:=D1 (.sl Iq) (.bool) Qy
def Zdr (a:List Int):Option Bool:=
(Xl a).bind λc=>
(ZQ c 1 4).bind λd=>
if d then
(Xe a 0 100000).bind λe=>
if e then
(Qy a).bind λb=>
some b
else
some false
else
some false
def Zwt:Ctr:=D1 (.sl Iq) (.bool) Zdr
def ZdY (a:Zy):Option Bool:=
(Zdr (Zy.ZgK a)).bind λd=>
if d then
(Zdr (Zy.Loads a)).bind λb=>
if b then
if ((Zy.Values a).length:Int)=Wq (((Zy.ZgK a).length:Int)*((Zy.Loads a).length:Int)) then
(Xe (Zy.Values a) (-1000000) 1000000).bind λc=>
some c
else
some false
else
some false
else
some false
def Zwu:Ctr:=D1 (XF) (.bool) ZdY
def Qf (b:List Int) (c a:Int):Option ((Int×Int×Unit) ⊕ Int):=
if a<(b.length:Int) then
(atI b a).bind λd=>
some (.inl (Min.min c d,Wq (a+1),()))
else
some (.inr c)
def Qs (a:List Int):Option Int:=
if (a.length:Int)<1 then
none
else
(atI a 0).bind λb=>
Zq (λv=>Qf a v.1 v.2.1) (b,(1:Int),())
def Zwv:Ctr:=D1 (.sl Iq) Iq Qs
def Qx (a:Zy) (c:Bool):Option Bool:=
(ZdY a).bind λd=>
if d then
if c then
(Qs (Zy.Values a)).bind λb=>
some (decide (b<0))
else
some false
else
some true
def Zww:Ctr:=D2 (XF) (.ptr (.bool)) (.bool) Qx
def ZX (b:List Zy) (c:Bool×Unit) (a:Int):Option ((Int×Unit) ⊕ Int):=
if a<(b.length:Int) then
(atI b a).bind λd=>
(Qx d c.1).bind λe=>
if e then
some (.inr a)
else
some (.inl (Wq (a+1),()))
else
some (.inr (-1))
def ZL (a:List Zy) (b:Bool×Unit):Option Int:=
Zq (λv=>ZX a b v.1) ((0:Int),())
def Zwx:Ctr:=D2 (.sl (XF)) (.fn 389 (.pair (.ptr (.bool)) (.unit))) Iq ZL
def ZG (a:List Zy) (b:Bool×Unit):Option Bool:=
(ZL a b).bind λc=>
some (decide (0<=c))
def c116:Ctr:=D2 (.sl (XF)) (.fn 389 (.pair (.ptr (.bool)) (.unit))) (.bool) ZG
def V8 (b:List Zy) (a:Bool):Option Bool:=
if (b.length:Int)=2 then
(ZG b (a,())).bind λc=>
some !c
else
some false
def c117:Ctr:=D2 (.sl (XF)) (.bool) (.bool) V8
def Zbk (a:Yv):Option Bool:=
some (Yv.Clock a)
def Zwy:Ctr:=D1 (ZfZ) (.bool) Zbk
def Z7 (b:List Yv) (a:Int):Option ((Int×Unit) ⊕ Int):=
if a<(b.length:Int) then
(atI b a).bind λc=>
(Zbk c).bind λd=>
if d then
some (.inr a)
else
some (.inl (Wq (a+1),()))
else
some (.inr (-1))
def ZR (a:List Yv) (b:Unit):Option Int:=
Zq (λv=>Z7 a v.1) ((0:Int),())
def c119:Ctr:=D2 (.sl (ZfZ)) (.fn 393 (.unit)) Iq ZR
def Zbj (a:Zk):Option Int:=
(ZR (Zk.Yz a) ()).bind λb=>
some b
def Zwz:Ctr:=D1 (V6) Iq Zbj
def VT (a:Zk):Option Int:=
(Vn (Zk.Yz a)).bind λb=>
some (Wq (b-1))
def ZuD:Ctr:=D1 (V6) Iq VT
def Vs (c:Zk) (a:Int):Option Bool:=
(VT c).bind λd=>
(ZQ a 0 (Wq (d-1))).bind λb=>
some b
def ZwA:Ctr:=D2 (V6) Iq (.bool) Vs
def Zbl (b:Zk) (a:ZC):Option Bool:=
(Zd0 (ZC.Kind a)).bind λi=>
if i then
if ZC.Za7 a=0 then
if ((ZC.Za2 a).length:Int)=0 then
(V8 (ZC.Delay a) false).bind λe=>
if e then
(Zbj b).bind λj=>
if ZC.From a=j then
if 0<=ZC.From a then
(Vs b (ZC.To a)).bind λd=>
if d then
some (!decide (ZC.To a=ZC.From a))
else
some false
else
some false
else
some false
else
some false
else
some false
else
some false
else
(V8 (ZC.Delay a) true).bind λe=>
if e then
(V8 (ZC.Za2 a) true).bind λh=>
if h then
(VT b).bind λf=>
if ZC.To a=f then
(Vs b (ZC.From a)).bind λd=>
if d then
if ZC.Kind a=1 then
(atI (Zk.Yz b) (ZC.From a)).bind λc=>
if (Yv.Clock c)=true then
some false
else
(ZQ (ZC.Za7 a) 1 3).bind λg=>
some g
else
if ZC.Kind a=2 then
if ZC.Kind a=2 then
(atI (Zk.Yz b) (ZC.From a)).bind λc=>
if (Yv.Clock c)=true then
some (decide (ZC.Za7 a=0))
else
some false
else
some false
else
if ZC.Kind a=3 then
(atI (Zk.Yz b) (ZC.From a)).bind λc=>
if (Yv.Clock c)=true then
some (decide (ZC.Za7 a=0))
else
some false
else
some false
else
some false
else
some false
else
some false
else
some false
def ZwB:Ctr:=D2 (V6) (Zgv) (.bool) Zbl
def XC (b a:ZC):Option Bool:=
if ZC.Kind b=ZC.Kind a then
if ZC.From b=ZC.From a then
some (decide (ZC.To b=ZC.To a))
else
some false
else
some false
def c124:Ctr:=D2 (Zgv) (.ptr (Zgv)) (.bool) XC
def ZY (b:List ZC) (c:ZC×Unit) (a:Int):Option ((Int×Unit) ⊕ Int):=
if a<(b.length:Int) then
(atI b a).bind λd=>
(XC d c.1).bind λe=>
if e then
some (.inr a)
else
some (.inl (Wq (a+1),()))
else
some (.inr (-1))
def ZM (a:List ZC) (b:ZC×Unit):Option Int:=
Zq (λv=>ZY a b v.1) ((0:Int),())
def ZwC:Ctr:=D2 (.sl (Zgv)) (.fn 344 (.pair (.ptr (Zgv)) (.unit))) Iq ZM
def ZJ (a:List ZC) (b:ZC×Unit):Option Bool:=
(ZM a b).bind λc=>
some (decide (0<=c))
def ZwD:Ctr:=D2 (.sl (Zgv)) (.fn 344 (.pair (.ptr (Zgv)) (.unit))) (.bool) ZJ
def VE (a:Zk) (b:Int):Option ((Int×Unit) ⊕ Bool):=
if b<((Zk.JR a).length:Int) then
(atI (Zk.JR a) b).bind λc=>
(Zbl a c).bind λd=>
if d then
Zp ((0:Int)<=b)<|
Zp (b<=((Zk.JR a).length:Int))<|
(ZJ (List.take (Int.toNat b-Int.toNat 0) (List.drop (Int.toNat 0) (Zk.JR a))) (c,())).bind λe=>
if e then
some (.inr false)
else
some (.inl (Wq (b+1),()))
else
some (.inr false)
else
some (.inr (decide (((Zk.JR a).length:Int)<=8)))
def JY (a:Zk):Option Bool:=
Zq (λv=>VE a v.1) ((0:Int),())
def c127:Ctr:=D1 (V6) (.bool) JY
def Zay (b:ZC) (a:Int):Option Bool:=
some (decide (ZC.Kind b=a))
def ZwE:Ctr:=D2 (Zgv) (.ptr Iq) (.bool) Zay
def Yc (b:List ZC) (c:Int×Unit) (a:Int):Option ((Int×Unit) ⊕ Int):=
if a<(b.length:Int) then
(atI b a).bind λd=>
(Zay d c.1).bind λe=>
if e then
some (.inr a)
else
some (.inl (Wq (a+1),()))
else
some (.inr (-1))
def ZV (a:List ZC) (b:Int×Unit):Option Int:=
Zq (λv=>Yc a b v.1) ((0:Int),())
def ZwF:Ctr:=D2 (.sl (Zgv)) (.fn 374 (.pair (.ptr Iq) (.unit))) Iq ZV
def ZO (a:List ZC) (b:Int×Unit):Option Bool:=
(ZV a b).bind λc=>
some (decide (0<=c))
def c130:Ctr:=D2 (.sl (Zgv)) (.fn 374 (.pair (.ptr Iq) (.unit))) (.bool) ZO
def Qp (b:Zk) (a:Int):Option Bool:=
(ZO (Zk.JR b) (a,())).bind λc=>
some c
def c131:Ctr:=D2 (V6) Iq (.bool) Qp
def Xk (a:Zk) (b c:Int):Option ((Int×Int×Unit) ⊕ Bool):=
if c<((Zk.Yz a).length:Int) then
(atI (Zk.Yz a) c).bind λh=>
if (Yv.Clock h)=true then
some (.inl (Wq (b+1),Wq (c+1),()))
else
some (.inl (b,Wq (c+1),()))
else
if Zk.Kind a=1 then
if b=0 then
(VT a).bind λg=>
Zp ((0:Int)<=g)<|
if ((Zk.Truth a).length:Int)=Wq (1*2 ^ Min.min (Int.toNat g) (IntKind.bits IntKind.i64)) then
(Xe (Zk.Truth a) 0 1).bind λi=>
some (.inr i)
else
some (.inr false)
else
some (.inr false)
else
if Zk.Kind a=2 then
if b=1 then
if ((Zk.Truth a).length:Int)=0 then
(Qp a 1).bind λe=>
if e then
some (.inr false)
else
(Qp a 2).bind λf=>
(Qp a 3).bind λd=>
some (.inr (!f == d))
else
some (.inr false)
else
some (.inr false)
else
if Zk.Kind a=3 then
if b=1 then
if ((Zk.Truth a).length:Int)=0 then
(Qp a 1).bind λe=>
if e then
(Qp a 2).bind λf=>
if f then
(Qp a 3).bind λd=>
some (.inr !d)
else
some (.inr false)
else
some (.inr false)
else
some (.inr false)
else
some (.inr false)
else
some (.inr false)
def Jg (a:Zk):Option Bool:=
Zq (λv=>Xk a v.1 v.2.1) ((0:Int),(0:Int),())
def ZwG:Ctr:=D1 (V6) (.bool) Jg
def Ze0 (a:Zk):Option Bool:=
(ZbV (Zk.Name a)).bind λd=>
if d then
(ZdZ (Zk.Yz a)).bind λg=>
if g then
(JY a).bind λe=>
if e then
(ZQ (Zk.Zsl a) 0 100000).bind λf=>
if f then
(ZQ (Zk.Zhn a) 0 100000).bind λc=>
if c then
(Jg a).bind λb=>
some b
else
some false
else
some false
else
some false
else
some false
else
some false
def ZwH:Ctr:=D1 (V6) (.bool) Ze0
def Qi (b:Zt) (a:List (List UInt8)) (d:Int):Option (((List (List UInt8))×Int×Unit) ⊕ Bool):=
if d<((Zt.Cells b).length:Int) then
(atI (Zt.Cells b) d).bind λc=>
(Ze0 c).bind λe=>
if e then
Zp ((a.length+[Zk.Name c].length)*(16:Nat)<=(140737488355328:Nat))<|
some (.inl (a++[Zk.Name c],Wq (d+1),()))
else
some (.inr false)
else
if ((Zt.Cells b).length:Int)<=8 then
(XU a).bind λf=>
some (.inr f)
else
some (.inr false)
def Zcc (a:Zt):Option Bool:=
Zq (λv=>Qi a v.1 v.2.1) (([]:List (List UInt8)),(0:Int),())
def ZwI:Ctr:=D1 (YR) (.bool) Zcc
def QU (c:Zg) (a b:List (List UInt8)) (d:Int):Option (((List (List UInt8))×Int×Unit) ⊕ (((List (List UInt8))×Int×Unit) ⊕ Bool)):=
if d<((Zg.Xb c).length:Int) then
(atI (Zg.Xb c) d).bind λe=>
Zp ((b.length+[Ye.Name e].length)*(16:Nat)<=(140737488355328:Nat))<|
some (.inl (b++[Ye.Name e],Wq (d+1),()))
else
if (a.length:Int)<=14 then
if ((Zg.X7 c).length:Int)<=30 then
if (b.length:Int)<=8 then
(XU a).bind λf=>
if f then
(XU (Zg.X7 c)).bind λg=>
if g then
(XU b).bind λh=>
some (.inr (.inr h))
else
some (.inr (.inr false))
else
some (.inr (.inr false))
else
some (.inr (.inr false))
else
some (.inr (.inr false))
else
some (.inr (.inr false))
def QV (b:Zg) (a:List (List UInt8)) (c:Int):Option (((List (List UInt8))×Int×Unit) ⊕ Bool):=
if c<((Zg.Instances b).length:Int) then
(atI (Zg.Instances b) c).bind λd=>
Zp ((a.length+[Zl.Name d].length)*(16:Nat)<=(140737488355328:Nat))<|
some (.inl (a++[Zl.Name d],Wq (c+1),()))
else
Zq (λv=>QU b a v.1 v.2.1) (([]:List (List UInt8)),(0:Int),())
def Vm (a:Zg):Option Bool:=
Zq (λv=>QV a v.1 v.2.1) (([]:List (List UInt8)),(0:Int),())
def ZwJ:Ctr:=D1 (YU) (.bool) Vm
def Jz (a:List Zk):Option Int:=
some (a.length:Int)
def ZwK:Ctr:=D1 (.sl (V6)) Iq Jz
def Zbo (a:List (List UInt8)):Option Int:=
some (a.length:Int)
def ZwL:Ctr:=D1 (.sl (.str)) Iq Zbo
def XR (c:Zg) (a:Int):Option Bool:=
(Zbo (Zg.X7 c)).bind λd=>
(ZQ a 0 (Wq (d-1))).bind λb=>
some b
def c138:Ctr:=D2 (YU) Iq (.bool) XR
def Xd (a:Int) (b:Zg):Option Bool:=
(XR b a).bind λc=>
some !c
def c139:Ctr:=D2 Iq (.ptr (YU)) (.bool) Xd
def Z5 (b:List Int) (c:Zg×Unit) (a:Int):Option ((Int×Unit) ⊕ Int):=
if a<(b.length:Int) then
(atI b a).bind λd=>
(Xd d c.1).bind λe=>
if e then
some (.inr a)
else
some (.inl (Wq (a+1),()))
else
some (.inr (-1))
def ZP (a:List Int) (b:Zg×Unit):Option Int:=
Zq (λv=>Z5 a b v.1) ((0:Int),())
def ZwM:Ctr:=D2 (.sl Iq) (.fn 276 (.pair (.ptr (YU)) (.unit))) Iq ZP
def ZK (a:List Int) (b:Zg×Unit):Option Bool:=
(ZP a b).bind λc=>
some (decide (0<=c))
def c141:Ctr:=D2 (.sl Iq) (.fn 276 (.pair (.ptr (YU)) (.unit))) (.bool) ZK
def QI (c:Zg) (b:Zt) (a:Zl):Option Bool:=
(Jz (Zt.Cells b)).bind λd=>
(ZQ (Zl.Cell a) 0 (Wq (d-1))).bind λe=>
if e then
(atI (Zt.Cells b) (Zl.Cell a)).bind λg=>
if ((Zl.X7 a).length:Int)=((Zk.Yz g).length:Int) then
(ZK (Zl.X7 a) (c,())).bind λf=>
some !f
else
some false
else
some false
def ZwN:Ctr:=D3 (YU) (YR) (YJ) (.bool) QI
def Zaz (a:Int):Option Bool:=
some (!decide (a=1))
def c143:Ctr:=D1 Iq (.bool) Zaz
def Yq (b:List Int) (a:Int):Option ((Int×Unit) ⊕ Int):=
if a<(b.length:Int) then
(atI b a).bind λc=>
(Zaz c).bind λd=>
if d then
some (.inr a)
else
some (.inl (Wq (a+1),()))
else
some (.inr (-1))
def Yi (a:List Int) (b:Unit):Option Int:=
Zq (λv=>Yq a v.1) ((0:Int),())
def ZwO:Ctr:=D2 (.sl Iq) (.fn 206 (.unit)) Iq Yi
def Yd (a:List Int) (c:Unit):Option Bool:=
(Yi a ()).bind λb=>
some (decide (0<=b))
def c145:Ctr:=D2 (.sl Iq) (.fn 206 (.unit)) (.bool) Yd
def QC (d:Zg) (c:Int) (b:List Int):Option ((Int×(List Int)×Unit) ⊕ ((Int×(List Int)×Unit) ⊕ Bool)):=
if c<((Zg.Xb d).length:Int) then
(atI (Zg.Xb d) c).bind λa=>
if Ye.Dir a=1 then
(XR d (Ye.Net a)).bind λe=>
if e then
if Ye.Dir a=1 then
(atI b (Ye.Net a)).bind λf=>
some (.inl (Wq (c+1),List.set b (Int.toNat (Ye.Net a)) (Wq (f+1)),()))
else
some (.inl (Wq (c+1),b,()))
else
some (.inr (.inr false))
else
if Ye.Dir a=2 then
(XR d (Ye.Net a)).bind λe=>
if e then
if Ye.Dir a=1 then
(atI b (Ye.Net a)).bind λf=>
some (.inl (Wq (c+1),List.set b (Int.toNat (Ye.Net a)) (Wq (f+1)),()))
else
some (.inl (Wq (c+1),b,()))
else
some (.inr (.inr false))
else
some (.inr (.inr false))
else
(Yd b ()).bind λg=>
some (.inr (.inr !g))
def VG (h:Zt) (a:Zg) (d:Int) (b:List Int):Option ((Int×(List Int)×Unit) ⊕ Bool):=
if d<((Zg.Instances a).length:Int) then
(atI (Zg.Instances a) d).bind λc=>
(QI a h c).bind λf=>
if f then
(atI (Zl.X7 c) (Wq (((Zl.X7 c).length:Int)-1))).bind λe=>
(atI b e).bind λg=>
some (.inl (Wq (d+1),List.set b (Int.toNat e) (Wq (g+1)),()))
else
some (.inr false)
else
Zq (λv=>QC a v.1 v.2.1) ((0:Int),b,())
def ZcW (b:Zt) (a:Zg):Option Bool:=
(Zcc b).bind λc=>
if c then
(Vm a).bind λd=>
if d then
Zp ((0:Int)<=((Zg.X7 a).length:Int))<|
Zp (((Zg.X7 a).length:Int)<=((Zg.X7 a).length:Int))<|
Zp (((Zg.X7 a).length:Int)<=(4611686018427387904:Int))<|
Zp (((8:Nat):Int)*((Zg.X7 a).length:Int)<=(281474976710656:Int))<|
Zq (λv=>VG b a v.1 v.2.1) ((0:Int),List.replicate (Int.toNat ((Zg.X7 a).length:Int)) (0:Int),())
else
some false
else
some false
def c146:Ctr:=D2 (YR) (YU) (.bool) ZcW
def Vt (d:Int) (c:Zl) (a:List YA) (b:Int):Option (((List YA)×Int×Unit) ⊕ (((List YA)×Int×Unit) ⊕ List YA)):=
if b<((Zl.X7 c).length:Int) then
(atI (Zl.X7 c) b).bind λe=>
Zp ((a.length+[(d,b,e,decide (b=Wq (((Zl.X7 c).length:Int)-(1:Int))),())].length)*(32:Nat)<=(140737488355328:Nat))<|
some (.inl (a++[(d,b,e,decide (b=Wq (((Zl.X7 c).length:Int)-1)),())],Wq (b+1),()))
else
some (.inr (.inl (a,Wq (d+1),())))
def Vu (d:Zg) (a:List YA) (b:Int):Option (((List YA)×Int×Unit) ⊕ (((List YA)×Int×Unit) ⊕ List YA)):=
if b<((Zg.Xb d).length:Int) then
(atI (Zg.Xb d) b).bind λc=>
Zp ((a.length+[((-1:Int),b,Ye.Net c,decide (Ye.Dir c=(1:Int)),())].length)*(32:Nat)<=(140737488355328:Nat))<|
some (.inl (a++[((-1:Int),b,Ye.Net c,decide (Ye.Dir c=1),())],Wq (b+1),()))
else
some (.inr (.inr a))
def Vv (b:Zg) (a:List YA) (c:Int):Option (((List YA)×Int×Unit) ⊕ List YA):=
if c<((Zg.Instances b).length:Int) then
(atI (Zg.Instances b) c).bind λd=>
Zq (λv=>Vt c d v.1 v.2.1) (a,(0:Int),())
else
Zq (λv=>Vu b v.1 v.2.1) (a,(0:Int),())
def Xr (a:Zg):Option (List YA):=
Zq (λv=>Vv a v.1 v.2.1) (([]:List YA),(0:Int),())
def Zun:Ctr:=⟨[.dat (YU)],[.own (.ol 185 (.flat (ZhI)))],λa K=>ZT a λb a=>QN (Xr b) λr=>K (r,()) ()⟩
def Jd (d:Zx) (a:Int):Option ((Int×Unit) ⊕ Bool):=
if a<((Zx.Parent d).length:Int) then
(atI (Zx.Parent d) a).bind λc=>
if a=0 then
if c=(-1) then
(atI (Zx.Res d) 0).bind λe=>
if e=0 then
if 0<a then
(ZQ c 0 (Wq (a-1))).bind λb=>
if b then
some (.inl (Wq (a+1),()))
else
some (.inr false)
else
some (.inl (Wq (a+1),()))
else
some (.inr false)
else
some (.inr false)
else
if 0<a then
(ZQ c 0 (Wq (a-1))).bind λb=>
if b then
some (.inl (Wq (a+1),()))
else
some (.inr false)
else
some (.inl (Wq (a+1),()))
else
some (.inr true)
def ZaA (a:Zx):Option Bool:=
Zq (λv=>Jd a v.1) ((0:Int),())
def c148:Ctr:=D1 (Za9) (.bool) ZaA
def Ze1 (a:Zx) (b:Int):Option Bool:=
(Xl (Zx.Parent a)).bind λc=>
(ZQ c 1 8).bind λk=>
if k then
(Xl (Zx.Res a)).bind λh=>
if h=c then
(Xl (Zx.Cap a)).bind λj=>
if j=c then
(ZaA a).bind λf=>
if f then
(Xe (Zx.Res a) 0 1000).bind λd=>
if d then
(Xe (Zx.Cap a) 0 500).bind λe=>
if e then
(Xl (Zx.Zjo a)).bind λi=>
if i=b then
(Xe (Zx.Zjo a) 0 (Wq (c-1))).bind λg=>
some g
else
some false
else
some false
else
some false
else
some false
else
some false
else
some false
else
some false
def ZwP:Ctr:=D2 (Za9) Iq (.bool) Ze1
def Zbm (b:Zj) (c:List Int) (a:Int):Option ((Int×Unit) ⊕ ((Int×(List Int)×Unit) ⊕ Bool)):=
if a<((Zj.Qg b).length:Int) then
(atI (Zj.Qg b) a).bind λe=>
(atI c a).bind λf=>
(Ze1 e f).bind λd=>
if d then
some (.inl (Wq (a+1),()))
else
some (.inr (.inr false))
else
some (.inr (.inr true))
def Jh (e:Zj) (a:List YA) (c:Int) (b:List Int):Option ((Int×(List Int)×Unit) ⊕ Bool):=
if c<(a.length:Int) then
(atI a c).bind λd=>
if (YA.drives d)=true then
some (.inl (Wq (c+1),b,()))
else
(atI b (YA.net d)).bind λf=>
some (.inl (Wq (c+1),List.set b (Int.toNat (YA.net d)) (Wq (f+1)),()))
else
Zq (λv=>Zbm e b v.1) ((0:Int),())
def ZdX (a:Zj):Option Bool:=
(ZcW (Zj.Library a) (Zj.Design a)).bind λc=>
if c then
if ((Zj.Qg a).length:Int)=((Zg.X7 (Zj.Design a)).length:Int) then
Zp ((0:Int)<=((Zj.Qg a).length:Int))<|
Zp (((Zj.Qg a).length:Int)<=((Zj.Qg a).length:Int))<|
Zp (((Zj.Qg a).length:Int)<=(4611686018427387904:Int))<|
Zp (((8:Nat):Int)*((Zj.Qg a).length:Int)<=(281474976710656:Int))<|
(Xr (Zj.Design a)).bind λb=>
Zq (λv=>Jh a b v.1 v.2.1) ((0:Int),List.replicate (Int.toNat ((Zj.Qg a).length:Int)) (0:Int),())
else
some false
else
some false
def ZwQ:Ctr:=D1 (Xz) (.bool) ZdX
def Vj (a:ZC):Option (List (Int×Int×Unit)):=
if ZC.Kind a=2 then
some ([((0:Int),(0:Int),()),((0:Int),(1:Int),())])
else
if ZC.Kind a=3 then
some ([((1:Int),(0:Int),()),((1:Int),(1:Int),())])
else
if ZC.Kind a=1 then
if ZC.Za7 a=1 then
some ([((0:Int),(0:Int),()),((1:Int),(1:Int),())])
else
if ZC.Za7 a=2 then
some ([((0:Int),(1:Int),()),((1:Int),(0:Int),())])
else
some ([((0:Int),(0:Int),()),((0:Int),(1:Int),()),((1:Int),(0:Int),()),((1:Int),(1:Int),())])
else
some []
def ZwR:Ctr:=⟨[.dat (Zgv)],[.own (.ol 299 (.flat (.pair Iq (.pair Iq (.unit)))))],λa K=>ZT a λb a=>QN (Vj b) λr=>K (r,()) ()⟩
def XI (b g:Int) (d:ZC) (a:List (Int×Int×Unit)) (c:List Vq) (f:Int):Option (((List Vq)×Int×Unit) ⊕ (((List Vq)×Int×Unit) ⊕ List Vq)):=
if f<(a.length:Int) then
(atI a f).bind λe=>
Zp ((c.length+[(Wq (Wq ((2:Int)*Wq (b+ZC.From d))+e.1),Wq (Wq ((2:Int)*Wq (b+ZC.To d))+e.2.1),(1:Int),g,())].length)*(32:Nat)<=(140737488355328:Nat))<|
some (.inl (c++[(Wq (Wq ((2:Int)*Wq (b+ZC.From d))+e.1),Wq (Wq ((2:Int)*Wq (b+ZC.To d))+e.2.1),(1:Int),g,())],Wq (f+1),()))
else
some (.inr (.inl (c,Wq (g+1),())))
def QO (b:Int) (d:Zk) (a:List Vq) (c:Int):Option (((List Vq)×Int×Unit) ⊕ List Vq):=
if c<((Zk.JR d).length:Int) then
(atI (Zk.JR d) c).bind λe=>
(Vj e).bind λf=>
Zq (λv=>XI b c e f v.1 v.2.1) (a,(0:Int),())
else
some (.inr a)
def Vk (b:Zj) (c:Zl) (a:Int):Option (List Vq):=
(atI (Zt.Cells (Zj.Library b)) (Zl.Cell c)).bind λd=>
Zq (λv=>QO a d v.1 v.2.1) (([]:List Vq),(0:Int),())
def c152:Ctr:=⟨[.dat (Xz),.dat (YJ),.dat Iq],[.own (.ol 197 (.flat (ZmI)))],λa K=>ZT a λc a=>ZT a λd a=>ZT a λb a=>QN (Vk c d b) λr=>K (r,()) ()⟩
def Vg (a:List Int):Option (List Int):=
Zp ((([]:List Int).length+a.length)*(8:Nat)<=(140737488355328:Nat))<|
some (([]:List Int)++a)
def ZwS:Ctr:=⟨[.dat (.sl Iq)],[.own (.ol 2 (.flat Iq))],λa K=>ZT a λb a=>QN (Vg b) λr=>K (r,()) ()⟩
def VF (d:Int) (b:List YA) (a:List Int) (c:Int):Option (((List Int)×Int×Unit) ⊕ List Int):=
if c<(b.length:Int) then
(atI b c).bind λe=>
if YA.net e=d then
if (YA.drives e)=true then
some (.inl (a,Wq (c+1),()))
else
Zp ((a.length+[c].length)*(8:Nat)<=(140737488355328:Nat))<|
some (.inl (a++[c],Wq (c+1),()))
else
some (.inl (a,Wq (c+1),()))
else
some (.inr a)
def J2 (b:Zg) (a:Int):Option (List Int):=
(Xr b).bind λc=>
Zq (λv=>VF a c v.1 v.2.1) (([]:List Int),(0:Int),())
def c154:Ctr:=⟨[.dat (YU),.dat Iq],[.own (.ol 2 (.flat Iq))],λa K=>ZT a λc a=>ZT a λb a=>QN (J2 c b) λr=>K (r,()) ()⟩
def JZ (f:Zg) (c:Zt) (a:YA):Option Int:=
if YA.instance a<0 then
some 0
else
(atI (Zg.Instances f) (YA.instance a)).bind λd=>
(atI (Zt.Cells c) (Zl.Cell d)).bind λb=>
(atI (Zk.Yz b) (YA.pin a)).bind λe=>
some (Yv.Cap e)
def ZwT:Ctr:=D3 (YU) (YR) (ZhI) Iq JZ
def QS (d:Zx) (b:Int) (a:List Int):Option ((Int×(List Int)×Unit) ⊕ ((Int×(List Int)×Unit) ⊕ List Int)):=
if 0<b then
(atI (Zx.Parent d) b).bind λc=>
(atI a c).bind λe=>
(atI a b).bind λf=>
some (.inl (Wq (b-1),List.set a (Int.toNat c) (Wq (e+f)),()))
else
some (.inr (.inr a))
def QT (g:Zj) (e:Zx) (b:List YA) (a:List Int) (d:Int) (c:List Int):Option ((Int×(List Int)×Unit) ⊕ List Int):=
if d<(a.length:Int) then
(atI a d).bind λj=>
(atI (Zx.Zjo e) d).bind λf=>
(atI c f).bind λi=>
(atI b j).bind λk=>
(JZ (Zj.Design g) (Zj.Library g) k).bind λh=>
some (.inl (Wq (d+1),List.set c (Int.toNat f) (Wq (i+h)),()))
else
Zq (λv=>QS e v.1 v.2.1) (Wq ((c.length:Int)-1),c,())
def Qh (a:Zj) (c:Int):Option (List Int):=
(atI (Zj.Qg a) c).bind λb=>
(Vg (Zx.Cap b)).bind λd=>
(Xr (Zj.Design a)).bind λf=>
(J2 (Zj.Design a) c).bind λe=>
Zq (λv=>QT a b f e v.1 v.2.1) ((0:Int),d,())
def c156:Ctr:=⟨[.dat (Xz),.dat Iq],[.own (.ol 2 (.flat Iq))],λa K=>ZT a λc a=>ZT a λb a=>QN (Qh c b) λr=>K (r,()) ()⟩
def QB (d:Zx) (a:List Int) (b:Int) (c:List Int):Option ((Int×(List Int)×Unit) ⊕ List Int):=
if b<(c.length:Int) then
(atI (Zx.Parent d) b).bind λg=>
(atI c g).bind λe=>
(atI (Zx.Res d) b).bind λf=>
(atI a b).bind λh=>
(atI c b).bind λi=>
some (.inl (Wq (b+1),List.set c (Int.toNat b) (Wq (e+Wq (f*h))),()))
else
some (.inr c)
def Q0 (c:Zj) (b:Int):Option (List Int):=
(atI (Zj.Qg c) b).bind λd=>
(Qh c b).bind λa=>
Zp ((0:Int)<=(a.length:Int))<|
Zp ((a.length:Int)<=(a.length:Int))<|
Zp ((a.length:Int)<=(4611686018427387904:Int))<|
Zp (((8:Nat):Int)*(a.length:Int)<=(281474976710656:Int))<|
Zq (λv=>QB d a v.1 v.2.1) ((1:Int),List.replicate (Int.toNat (a.length:Int)) (0:Int),())
def c157:Ctr:=⟨[.dat (Xz),.dat Iq],[.own (.ol 2 (.flat Iq))],λa K=>ZT a λc a=>ZT a λb a=>QN (Q0 c b) λr=>K (r,()) ()⟩
def Qo (a:List Int) (d:Zx) (b:List Int) (c:Int):Option (((List Int)×Int×Unit) ⊕ List Int):=
if c<((Zx.Zjo d).length:Int) then
(atI (Zx.Zjo d) c).bind λf=>
(atI a f).bind λe=>
Zp ((b.length+[e].length)*(8:Nat)<=(140737488355328:Nat))<|
some (.inl (b++[e],Wq (c+1),()))
else
some (.inr b)
def QH (b:Zj) (a:Int):Option (List Int):=
(Q0 b a).bind λc=>
(atI (Zj.Qg b) a).bind λd=>
Zq (λv=>Qo c d v.1 v.2.1) (([]:List Int),(0:Int),())
def ZwU:Ctr:=⟨[.dat (Xz),.dat Iq],[.own (.ol 2 (.flat Iq))],λa K=>ZT a λc a=>ZT a λb a=>QN (QH c b) λr=>K (r,()) ()⟩
def Ji (g:List Int) (f b d a:Int) (c:List Vq):Option ((Int×(List Vq)×Unit) ⊕ ((Int×(List Vq)×Unit) ⊕ ((Int×(List Int)×(List (List Int))×(List Vq)×(List (List Int))×Unit) ⊕ ((Int×(List Int)×(List (List Int))×Unit) ⊕ ((Int×Int×(List Vq)×Unit) ⊕ Z0))))):=
if a<2 then
(atI g f).bind λe=>
Zp ((c.length+[(Wq (Wq ((2:Int)*e)+a),Wq (Wq ((2:Int)*d)+a),(2:Int),b,())].length)*(32:Nat)<=(140737488355328:Nat))<|
some (.inl (Wq (a+1),c++[(Wq (Wq ((2:Int)*e)+a),Wq (Wq ((2:Int)*d)+a),(2:Int),b,())],()))
else
some (.inr (.inl (Wq (b+1),c,())))
def Jj (f:List Int) (b:Int) (g:List Int) (i k:List (List Int)) (h:Int) (a d:List Int) (c:Int) (e:List Vq):Option ((Int×(List Vq)×Unit) ⊕ ((Int×(List Int)×(List (List Int))×(List Vq)×(List (List Int))×Unit) ⊕ ((Int×(List Int)×(List (List Int))×Unit) ⊕ ((Int×Int×(List Vq)×Unit) ⊕ Z0)))):=
if c<(d.length:Int) then
(atI d c).bind λj=>
Zq (λv=>Ji f b c j v.1 v.2.1) ((0:Int),e,())
else
some (.inr (.inl (Wq (b+1),g++[h],i++[a],e,List.set k (Int.toNat b) d,())))
def Jk (c:Zj) (a:List YA) (j:List Int) (b:Int) (d:List Int) (e:List (List Int)) (h:List Vq) (g:List (List Int)):Option ((Int×(List Int)×(List (List Int))×(List Vq)×(List (List Int))×Unit) ⊕ ((Int×(List Int)×(List (List Int))×Unit) ⊕ ((Int×Int×(List Vq)×Unit) ⊕ Z0))):=
if b<((Zj.Qg c).length:Int) then
(Qh c b).bind λk=>
(atI k 0).bind λf=>
Zp ((d.length+[f].length)*(8:Nat)<=(140737488355328:Nat))<|
(QH c b).bind λi=>
Zp ((e.length+[i].length)*(24:Nat)<=(140737488355328:Nat))<|
(atI g b).bind λl=>
Zq (λv=>Jj j b d e g f i l v.1 v.2.1) ((0:Int),h,())
else
some (.inr (.inr (.inr (c,a,h,d,e,([]:List Int),()))))
def Jl (g:Zj) (a:List YA) (h:List Vq) (b:Int) (d:List Int) (e:List (List Int)):Option ((Int×(List Int)×(List (List Int))×Unit) ⊕ ((Int×Int×(List Vq)×Unit) ⊕ Z0)):=
if b<(a.length:Int) then
(atI a b).bind λc=>
if (YA.drives c)=true then
(atI d (YA.net c)).bind λf=>
some (.inl (Wq (b+1),List.set d (Int.toNat (YA.net c)) b,e,()))
else
(atI e (YA.net c)).bind λf=>
Zp ((f.length+[b].length)*(8:Nat)<=(140737488355328:Nat))<|
some (.inl (Wq (b+1),d,List.set e (Int.toNat (YA.net c)) (f++[b]),()))
else
Zq (λv=>Jk g a d v.1 v.2.1 v.2.2.1 v.2.2.2.1 v.2.2.2.2.1) ((0:Int),([]:List Int),([]:List (List Int)),h,e,())
def Zbp (a:Zj) (b:List YA) (g c:Int) (d:List Vq):Option ((Int×Int×(List Vq)×Unit) ⊕ Z0):=
if c<((Zg.Instances (Zj.Design a)).length:Int) then
(atI (Zg.Instances (Zj.Design a)) c).bind λf=>
(Vk a f g).bind λe=>
Zp ((d.length+e.length)*(32:Nat)<=(140737488355328:Nat))<|
(Xl (Zl.X7 f)).bind λh=>
some (.inl (Wq (g+h),Wq (c+1),d++e,()))
else
Zp ((0:Int)<=((Zj.Qg a).length:Int))<|
Zp (((Zj.Qg a).length:Int)<=((Zj.Qg a).length:Int))<|
Zp (((Zj.Qg a).length:Int)<=(4611686018427387904:Int))<|
Zp (((8:Nat):Int)*((Zj.Qg a).length:Int)<=(281474976710656:Int))<|
Zp (((24:Nat):Int)*((Zj.Qg a).length:Int)<=(281474976710656:Int))<|
Zq (λv=>Jl a b d v.1 v.2.1 v.2.2.1) ((0:Int),List.replicate (Int.toNat ((Zj.Qg a).length:Int)) (0:Int),List.replicate (Int.toNat ((Zj.Qg a).length:Int)) (([]:List Int)),())
def Zd3 (a:Zj):Option Z0:=
(Xr (Zj.Design a)).bind λb=>
Zq (λv=>Zbp a b v.1 v.2.1 v.2.2.1) ((0:Int),(0:Int),([]:List Vq),())
def c159:Ctr:=D1 (Xz) (.ptr (Zhm)) Zd3
def Je (a:List Zc):Option Int:=
some (a.length:Int)
def c160:Ctr:=D1 (.sl (Xh)) Iq Je
def Vl (a:Zc):Option Bool:=
(ZQ (Zc.VQ a) 2 100000).bind λd=>
if d then
(ZQ (Zc.Zae a) 0 (Wq (Zc.VQ a-1))).bind λb=>
if b then
(ZQ (Zc.Zad a) 0 (Wq (Zc.VQ a-1))).bind λc=>
if c then
if Zc.Zae a=Zc.Zad a then
some false
else
if Zc.Divide a=1 then
some (!Zc.Zex a)
else
some false
else
some false
else
some false
else
some false
def ZwV:Ctr:=D1 (Xh) (.bool) Vl
def VU (d:(List Zc)->Int->Option Zct) (c:List Zc) (e:Int):Option Zct:=
(atI c e).bind λb=>
if Zc.Source b<0 then
some (Zc.VQ b,(Zc.Zae b,Zc.Zad b,()),())
else
(d c (Zc.Source b)).bind λa=>
if 1<Zc.Divide b then
if (Zc.Zex b)=true then
some (Wq (Zc.Divide b*Zct.period a),(Wq ((Zct.edges a).1+Wq (Wq (Int.tdiv (Zc.Divide b) 2)*Zct.period a)),(Zct.edges a).1,()),())
else
some (Wq (Zc.Divide b*Zct.period a),((Zct.edges a).1,Wq ((Zct.edges a).1+Wq (Wq (Int.tdiv (Zc.Divide b) 2)*Zct.period a)),()),())
else
if (Zc.Zex b)=true then
some (Zct.period a,((Zct.edges a).2.1,(Zct.edges a).1,()),())
else
some a
def VI:Nat->(List Zc)->Int->Option Zct
| 0=>λ_ _=>none
| n+1=>VU (VI n)
def Ze4 (a:List Zc) (b:Int):Option Zct:=Zuc (λn=>VI n a b)
def Zb8 (c:(List Zc)->Int->Option Zct):Ctr:=⟨[.dat (.sl (Xh)),.dat Iq],[.dat (ZvQ)],λa K=>ZT a λb a=>ZT a λd a=>QN (c b d) λr=>K (r,()) ()⟩
def c162:Ctr:=Zb8 Ze4
def Zd1 (c:List Zc) (b:Int):Option Bool:=
(atI c b).bind λa=>
if Zc.Place a<0 then
some false
else
if Zc.Yn a<0 then
some false
else
if Zc.YK a<Zc.Yn a then
some false
else
if 100000<Zc.YK a then
some false
else
(ZQ (Zc.Y8 a) 0 100000).bind λe=>
if e then
if Zc.Source a=(-1) then
(Vl a).bind λh=>
some h
else
(ZQ (Zc.Source a) 0 (Wq (b-1))).bind λf=>
if f then
(ZQ (Zc.Divide a) 1 8).bind λg=>
if g then
if Zc.VQ a=0 then
if Zc.Zae a=0 then
if Zc.Zad a=0 then
(Ze4 c b).bind λd=>
some (decide (Zct.period d<=100000))
else
some false
else
some false
else
some false
else
some false
else
some false
else
some false
def ZwW:Ctr:=D2 (.sl (Xh)) Iq (.bool) Zd1
def ZaJ (b:List Zc) (a:List (List UInt8)) (c:Int):Option (((List (List UInt8))×Int×Unit) ⊕ Bool):=
if c<(b.length:Int) then
(atI b c).bind λd=>
(Zd1 b c).bind λe=>
if e then
Zp ((a.length+[Zc.Name d].length)*(16:Nat)<=(140737488355328:Nat))<|
some (.inl (a++[Zc.Name d],Wq (c+1),()))
else
some (.inr false)
else
(XU a).bind λf=>
some (.inr f)
def ZcU (a:List Zc):Option Bool:=
if 6<(a.length:Int) then
some false
else
Zq (λv=>ZaJ a v.1 v.2.1) (([]:List (List UInt8)),(0:Int),())
def c164:Ctr:=D1 (.sl (Xh)) (.bool) ZcU
def XL (a:List YA):Option Int:=
some (a.length:Int)
def ZvW:Ctr:=D1 (.sl (ZhI)) Iq XL
def Qz (c:Z0) (a:Int):Option Bool:=
(XL (Z0.Zw c)).bind λd=>
(ZQ a 0 (Wq (d-1))).bind λb=>
some b
def ZvX:Ctr:=D2 (.ptr (Zhm)) Iq (.bool) Qz
def Qj (a:Zc) (b:Z0):Option Bool:=
(Qz b (Zc.Place a)).bind λc=>
some !c
def c167:Ctr:=D2 (Xh) (.ptr (.ptr (Zhm))) (.bool) Qj
def ZU (b:List Zc) (c:Z0×Unit) (a:Int):Option ((Int×Unit) ⊕ Int):=
if a<(b.length:Int) then
(atI b a).bind λd=>
(Qj d c.1).bind λe=>
if e then
some (.inr a)
else
some (.inl (Wq (a+1),()))
else
some (.inr (-1))
def ZH (a:List Zc) (b:Z0×Unit):Option Int:=
Zq (λv=>ZU a b v.1) ((0:Int),())
def c168:Ctr:=D2 (.sl (Xh)) (.fn 118 (.pair (.ptr (.ptr (Zhm))) (.unit))) Iq ZH
def ZE (a:List Zc) (b:Z0×Unit):Option Bool:=
(ZH a b).bind λc=>
some (decide (0<=c))
def ZwX:Ctr:=D2 (.sl (Xh)) (.fn 118 (.pair (.ptr (.ptr (Zhm))) (.unit))) (.bool) ZE
def Ze3 (a:Int):Option Bool:=
(ZQ a (-1000000000) 1000000000).bind λb=>
some b
def ZwY:Ctr:=D1 Iq (.bool) Ze3
def ZbR (a:Yb):Option Bool:=
(Ze3 (Yb.Early a)).bind λc=>
if c then
(Ze3 (Yb.Late a)).bind λb=>
if b then
some (decide (Yb.Early a<=Yb.Late a))
else
some false
else
some false
def c171:Ctr:=D1 (Zj1) (.bool) ZbR
def Ze2 (a:Int):Option Bool:=
(ZQ a 0 1000000).bind λb=>
some b
def ZwZ:Ctr:=D1 Iq (.bool) Ze2
def Zbn (a:Yb):Option Bool:=
(ZbR a).bind λd=>
if d then
(Ze2 (Yb.Early a)).bind λb=>
if b then
(Ze2 (Yb.Late a)).bind λc=>
some c
else
some false
else
some false
def c173:Ctr:=D1 (Zj1) (.bool) Zbn
def Qq (h:Z0) (e:List Zh) (c:Bool) (i b:Int):Option ((Int×Unit) ⊕ Bool):=
if b<(e.length:Int) then
(atI e b).bind λa=>
(Qz h (Zh.Place a)).bind λk=>
if k then
(atI (Z0.Zw h) (Zh.Place a)).bind λj=>
if 0<=YA.instance j then
some (.inr false)
else
if (YA.drives j == c)=true then
if 0<b then
(atI e (Wq (b-1))).bind λl=>
if Zh.Place a<=Zh.Place l then
some (.inr false)
else
(ZQ (Zh.Clock a) 0 (Wq (i-1))).bind λg=>
if g then
(ZbR (Zh.Delay a)).bind λd=>
if d then
if Yb.Early (Zh.Delay a)<(-100000) then
some (.inr false)
else
if 100000<Yb.Late (Zh.Delay a) then
some (.inr false)
else
if c then
(Zbn (Zh.Za2 a)).bind λf=>
if f then
if c then
some (.inl (Wq (b+1),()))
else
if (decide (Yb.Early (Zh.Za2 a)=0)&&decide (Yb.Late (Zh.Za2 a)=0))=true then
some (.inl (Wq (b+1),()))
else
some (.inr false)
else
some (.inr false)
else
if c then
some (.inl (Wq (b+1),()))
else
if (decide (Yb.Early (Zh.Za2 a)=0)&&decide (Yb.Late (Zh.Za2 a)=0))=true then
some (.inl (Wq (b+1),()))
else
some (.inr false)
else
some (.inr false)
else
some (.inr false)
else
(ZQ (Zh.Clock a) 0 (Wq (i-1))).bind λg=>
if g then
(ZbR (Zh.Delay a)).bind λd=>
if d then
if Yb.Early (Zh.Delay a)<(-100000) then
some (.inr false)
else
if 100000<Yb.Late (Zh.Delay a) then
some (.inr false)
else
if c then
(Zbn (Zh.Za2 a)).bind λf=>
if f then
if c then
some (.inl (Wq (b+1),()))
else
if (decide (Yb.Early (Zh.Za2 a)=0)&&decide (Yb.Late (Zh.Za2 a)=0))=true then
some (.inl (Wq (b+1),()))
else
some (.inr false)
else
some (.inr false)
else
if c then
some (.inl (Wq (b+1),()))
else
if (decide (Yb.Early (Zh.Za2 a)=0)&&decide (Yb.Late (Zh.Za2 a)=0))=true then
some (.inl (Wq (b+1),()))
else
some (.inr false)
else
some (.inr false)
else
some (.inr false)
else
some (.inr false)
else
some (.inr false)
else
some (.inr true)
def XM (d:Z0) (a:List Zh) (b:Bool) (c:Int):Option Bool:=
Zq (λv=>Qq d a b c v.1) ((0:Int),())
def Zw0:Ctr:=D4 (.ptr (Zhm)) (.sl (Yx)) (.bool) Iq (.bool) XM
def Zd2 (a b:Int):Option Bool:=
if a=1 then
some (decide (b=0))
else
if a=2 then
(ZQ b 1 10).bind λc=>
some c
else
if a=3 then
if a=3 then
(ZQ b 0 1000000000).bind λc=>
some c
else
some false
else
if a=4 then
(ZQ b 0 1000000000).bind λc=>
some c
else
some false
def c175:Ctr:=D2 Iq Iq (.bool) Zd2
def QD (i:Z0) (a:Ze) (b:Int):Option ((Int×Unit) ⊕ Bool):=
if b<(([Ze.From a,Ze.Through a,Ze.To a].length):Int) then
(atI ([Ze.From a,Ze.Through a,Ze.To a]) b).bind λc=>
if 4<(c.length:Int) then
some (.inr false)
else
(XL (Z0.Zw i)).bind λe=>
(Xe c 0 (Wq (e-1))).bind λh=>
if h then
some (.inl (Wq (b+1),()))
else
some (.inr false)
else
(Zd2 (Ze.Kind a) (Ze.Value a)).bind λf=>
if f then
(Qy (Ze.From a)).bind λg=>
if g then
(Qy (Ze.To a)).bind λd=>
some (.inr d)
else
some (.inr false)
else
some (.inr false)
def X8 (b:Z0) (a:Ze):Option Bool:=
Zq (λv=>QD b a v.1) ((0:Int),())
def Zw1:Ctr:=D2 (.ptr (Zhm)) (Z4) (.bool) X8
def Qk (a:Ze) (b:Z0):Option Bool:=
(X8 b a).bind λc=>
some !c
def Zw2:Ctr:=D2 (Z4) (.ptr (.ptr (Zhm))) (.bool) Qk
def ZI (b:List Ze) (c:Z0×Unit) (a:Int):Option ((Int×Unit) ⊕ Int):=
if a<(b.length:Int) then
(atI b a).bind λd=>
(Qk d c.1).bind λe=>
if e then
some (.inr a)
else
some (.inl (Wq (a+1),()))
else
some (.inr (-1))
def ZB (a:List Ze) (b:Z0×Unit):Option Int:=
Zq (λv=>ZI a b v.1) ((0:Int),())
def Zw3:Ctr:=D2 (.sl (Z4)) (.fn 122 (.pair (.ptr (.ptr (Zhm))) (.unit))) Iq ZB
def Zz (a:List Ze) (b:Z0×Unit):Option Bool:=
(ZB a b).bind λc=>
some (decide (0<=c))
def Zw4:Ctr:=D2 (.sl (Z4)) (.fn 122 (.pair (.ptr (.ptr (Zhm))) (.unit))) (.bool) Zz
def Jw (a b:Int):Option Bool:=
if 100<=a then
if a<=b then
some (decide (b<=5000))
else
some false
else
some false
def Zw5:Ctr:=D2 Iq Iq (.bool) Jw
def ZcV (a:Zm):Option Bool:=
(ZbV (Zm.Name a)).bind λd=>
if d then
(Jw (Zm.Xq a) (Zm.Qn a)).bind λb=>
if b then
(Jw (Zm.XK a) (Zm.QG a)).bind λc=>
some c
else
some false
else
some false
def Zw6:Ctr:=D1 (Y6) (.bool) ZcV
def VH (a:List Zm):Option Int:=
some (a.length:Int)
def c182:Ctr:=D1 (.sl (Y6)) Iq VH
def Xt (b:List Zm) (a:List (List UInt8)) (d:Int):Option (((List (List UInt8))×Int×Unit) ⊕ Bool):=
if d<(b.length:Int) then
(atI b d).bind λc=>
(ZcV c).bind λe=>
if e then
Zp ((a.length+[Zm.Name c].length)*(16:Nat)<=(140737488355328:Nat))<|
some (.inl (a++[Zm.Name c],Wq (d+1),()))
else
some (.inr false)
else
(VH b).bind λh=>
(ZQ h 1 4).bind λf=>
if f then
(XU a).bind λg=>
some (.inr g)
else
some (.inr false)
def J3 (a:List Zm):Option Bool:=
Zq (λv=>Xt a v.1 v.2.1) (([]:List (List UInt8)),(0:Int),())
def c183:Ctr:=D1 (.sl (Y6)) (.bool) J3
def J5 (b:Z0) (a:Zo):Option Bool:=
(Je (Zo.Yk a)).bind λc=>
(ZcU (Zo.Yk a)).bind λi=>
if i then
(ZE (Zo.Yk a) (b,())).bind λg=>
if g then
some false
else
(XM b (Zo.Zbb a) true c).bind λh=>
if h then
(XM b (Zo.Vp a) false c).bind λf=>
if f then
if 6<((Zo.Exceptions a).length:Int) then
some false
else
(Zz (Zo.Exceptions a) (b,())).bind λd=>
if d then
some false
else
if ((Zo.X5 a).length:Int)=0 then
some true
else
(J3 (Zo.X5 a)).bind λe=>
some e
else
some false
else
some false
else
some false
def Zw7:Ctr:=D2 (.ptr (Zhm)) (Vh) (.bool) J5
def Y9 (d:Zg) (f:Zt) (b:YA):Option (List UInt8):=
if YA.instance b<0 then
(atI (Zg.Xb d) (YA.pin b)).bind λa=>
some (Ye.Name a)
else
(atI (Zg.Instances d) (YA.instance b)).bind λa=>
Zp (((Zl.Name a).length:Int)+(([(47:UInt8)].length):Int)<=(9223372036854775807:Int))<|
(atI (Zt.Cells f) (Zl.Cell a)).bind λe=>
(atI (Zk.Yz e) (YA.pin b)).bind λc=>
Zp (((Zl.Name a++[(47:UInt8)]).length:Int)+((Yv.Name c).length:Int)<=(9223372036854775807:Int))<|
some (Zl.Name a++[(47:UInt8)]++Yv.Name c)
def ZvY:Ctr:=D3 (YU) (YR) (ZhI) (.str) Y9
def YX (b:Z0) (a:Int):Option (List UInt8):=
(atI (Z0.Zw b) a).bind λc=>
(Y9 (Zj.Design (Z0.Block b)) (Zj.Library (Z0.Block b)) c).bind λd=>
some d
def ZvZ:Ctr:=D2 (.ptr (Zhm)) Iq (.str) YX
def Jy (a:Int):Option (List UInt8):=
Zp ((-9223372036854775808:Int)<=a)<|
Zp (a<=(9223372036854775807:Int))<|
some (Go.Lib.itoa a)
def ZuE:Ctr:=D1 Iq (.str) Jy
def Zds (a:List Int) (c:List UInt8) (d:Int) (b:List (List UInt8)):Option ((Int×(List (List UInt8))×Unit) ⊕ List UInt8):=
if d<(a.length:Int) then
(atI a d).bind λf=>
(Jy f).bind λe=>
(atI b d).bind λg=>
some (.inl (Wq (d+1),List.set b (Int.toNat d) e,()))
else
Zp (b.length<=(140737488355328:Nat))<|
Zp ((Go.Lib.join b c).length<=(140737488355328:Nat))<|
some (.inr (Go.Lib.join b c))
def ZiN (a:List Int) (b:List UInt8):Option (List UInt8):=
Zp ((0:Int)<=(a.length:Int))<|
Zp ((a.length:Int)<=(a.length:Int))<|
Zp ((a.length:Int)<=(4611686018427387904:Int))<|
Zp (((16:Nat):Int)*(a.length:Int)<=(281474976710656:Int))<|
Zq (λv=>Zds a b v.1 v.2.1) ((0:Int),List.replicate (Int.toNat (a.length:Int)) (([]:List UInt8)),())
def Zw8:Ctr:=D2 (.sl Iq) (.str) (.str) ZiN
def Vw (a:List (List UInt8)) (b:List Int):Option (List UInt8):=
Zp (a.length<=(140737488355328:Nat))<|
Zp ((Go.Lib.join a [(32:UInt8)]).length<=(140737488355328:Nat))<|
if 0<(b.length:Int) then
(ZiN b [(32:UInt8)]).bind λc=>
Zp ((([(32:UInt8)].length):Int)+(c.length:Int)<=(9223372036854775807:Int))<|
Zp (((Go.Lib.join a [(32:UInt8)]).length:Int)+(([(32:UInt8)]++c).length:Int)<=(9223372036854775807:Int))<|
Zp (((Go.Lib.join a [(32:UInt8)]++([(32:UInt8)]++c)).length:Int)+(([(10:UInt8)].length):Int)<=(9223372036854775807:Int))<|
some (Go.Lib.join a [(32:UInt8)]++([(32:UInt8)]++c)++[(10:UInt8)])
else
Zp (((Go.Lib.join a [(32:UInt8)]).length:Int)+(([(10:UInt8)].length):Int)<=(9223372036854775807:Int))<|
some (Go.Lib.join a [(32:UInt8)]++[(10:UInt8)])
def Zv0:Ctr:=D2 (.sl (.str)) (.sl Iq) (.str) Vw
def Xi (g:Z0) (b:List Zc) (a:Zc):Option (List UInt8):=
if Zc.Source a<0 then
(YX g (Zc.Place a)).bind λc=>
(Vw [[(99:UInt8),108,111,99,107],Zc.Name a,c] [Zc.VQ a,Zc.Zae a,Zc.Zad a,Zc.Yn a,Zc.YK a,Zc.Y8 a]).bind λd=>
some d
else
if (Zc.Zex a)=true then
(atI b (Zc.Source a)).bind λe=>
(YX g (Zc.Place a)).bind λc=>
(Jy (Zc.Divide a)).bind λf=>
(Vw [[(103:UInt8),101,110,101,114,97,116,101,100],Zc.Name a,c,Zc.Name e,f,[(105:UInt8),110,118,101,114,116]] [Zc.Yn a,Zc.YK a,Zc.Y8 a]).bind λd=>
some d
else
(atI b (Zc.Source a)).bind λe=>
(YX g (Zc.Place a)).bind λc=>
(Jy (Zc.Divide a)).bind λf=>
(Vw [[(103:UInt8),101,110,101,114,97,116,101,100],Zc.Name a,c,Zc.Name e,f,[(112:UInt8),108,97,105,110]] [Zc.Yn a,Zc.YK a,Zc.Y8 a]).bind λd=>
some d
def Zw9:Ctr:=D3 (.ptr (Zhm)) (.sl (Xh)) (Xh) (.str) Xi
def Xg (b:Z0) (f:Int) (g:List Int) (d:List UInt8) (c:Int):Option (((List UInt8)×Int×Unit) ⊕ (((List UInt8)×Int×Unit) ⊕ List UInt8)):=
if c<(g.length:Int) then
(atI g c).bind λh=>
(atI (Z0.Zw b) h).bind λi=>
(atI ([[(32:UInt8),102,114,111,109,32],[(32:UInt8),116,104,114,111,117,103,104,32],[(32:UInt8),116,111,32]]) f).bind λe=>
(Y9 (Zj.Design (Z0.Block b)) (Zj.Library (Z0.Block b)) i).bind λa=>
Zp ((e.length:Int)+(a.length:Int)<=(9223372036854775807:Int))<|
Zp ((d.length:Int)+((e++a).length:Int)<=(9223372036854775807:Int))<|
some (.inl (d++(e++a),Wq (c+1),()))
else
some (.inr (.inl (d,Wq (f+1),())))
def Yj (e:Z0) (a:Ze) (c:List UInt8) (b:Int):Option (((List UInt8)×Int×Unit) ⊕ List UInt8):=
if b<(([Ze.From a,Ze.Through a,Ze.To a].length):Int) then
(atI ([Ze.From a,Ze.Through a,Ze.To a]) b).bind λd=>
Zq (λv=>Xg e b d v.1 v.2.1) (c,(0:Int),())
else
some (.inr c)
def Y3 (d:Z0) (a:Ze):Option (List UInt8):=
(atI ZiH (Ze.Kind a)).bind λc=>
if Ze.Kind a=1 then
Zq (λv=>Yj d a v.1 v.2.1) (c,(0:Int),())
else
(Jy (Ze.Value a)).bind λb=>
Zp ((([(32:UInt8)].length):Int)+(b.length:Int)<=(9223372036854775807:Int))<|
Zp ((c.length:Int)+(([(32:UInt8)]++b).length:Int)<=(9223372036854775807:Int))<|
Zq (λv=>Yj d a v.1 v.2.1) (c++([(32:UInt8)]++b),(0:Int),())
def Zxa:Ctr:=D2 (.ptr (Zhm)) (Z4) (.str) Y3
def XV (d:Zo) (b:List UInt8) (c:Int):Option (((List UInt8)×Int×Unit) ⊕ (((List UInt8)×Int×Unit) ⊕ (((List UInt8)×Int×Unit) ⊕ (((List UInt8)×Int×Unit) ⊕ (((List UInt8)×Int×Unit) ⊕ List UInt8))))):=
if c<((Zo.X5 d).length:Int) then
(atI (Zo.X5 d) c).bind λa=>
(Vw [[(99:UInt8),111,114,110,101,114],Zm.Name a] [Zm.Xq a,Zm.Qn a,Zm.XK a,Zm.QG a]).bind λe=>
Zp ((b.length:Int)+(e.length:Int)<=(9223372036854775807:Int))<|
some (.inl (b++e,Wq (c+1),()))
else
some (.inr (.inr (.inr (.inr (.inr b)))))
def XW (g:Z0) (a:Zo) (c:List UInt8) (b:Int):Option (((List UInt8)×Int×Unit) ⊕ (((List UInt8)×Int×Unit) ⊕ (((List UInt8)×Int×Unit) ⊕ (((List UInt8)×Int×Unit) ⊕ List UInt8)))):=
if b<((Zo.Exceptions a).length:Int) then
(atI (Zo.Exceptions a) b).bind λf=>
(Y3 g f).bind λe=>
(Vw [[(101:UInt8),120,99,101,112,116],e] (([]:List Int))).bind λd=>
Zp ((c.length:Int)+(d.length:Int)<=(9223372036854775807:Int))<|
some (.inl (c++d,Wq (b+1),()))
else
Zq (λv=>XV a v.1 v.2.1) (c,(0:Int),())
def XY (e:Z0) (b:Zo) (d:List UInt8) (c:Int):Option (((List UInt8)×Int×Unit) ⊕ (((List UInt8)×Int×Unit) ⊕ (((List UInt8)×Int×Unit) ⊕ List UInt8))):=
if c<((Zo.Vp b).length:Int) then
(atI (Zo.Vp b) c).bind λa=>
(atI (Zo.Yk b) (Zh.Clock a)).bind λh=>
(YX e (Zh.Place a)).bind λg=>
(Vw [[(111:UInt8),117,116,112,117,116],g,Zc.Name h] [Yb.Early (Zh.Delay a),Yb.Late (Zh.Delay a)]).bind λf=>
Zp ((d.length:Int)+(f.length:Int)<=(9223372036854775807:Int))<|
some (.inl (d++f,Wq (c+1),()))
else
Zq (λv=>XW e b v.1 v.2.1) (d,(0:Int),())
def XZ (e:Z0) (b:Zo) (d:List UInt8) (c:Int):Option (((List UInt8)×Int×Unit) ⊕ (((List UInt8)×Int×Unit) ⊕ List UInt8)):=
if c<((Zo.Zbb b).length:Int) then
(atI (Zo.Zbb b) c).bind λa=>
(atI (Zo.Yk b) (Zh.Clock a)).bind λh=>
(YX e (Zh.Place a)).bind λg=>
(Vw [[(105:UInt8),110,112,117,116],g,Zc.Name h] [Yb.Early (Zh.Delay a),Yb.Late (Zh.Delay a),Yb.Early (Zh.Za2 a),Yb.Late (Zh.Za2 a)]).bind λf=>
Zp ((d.length:Int)+(f.length:Int)<=(9223372036854775807:Int))<|
some (.inl (d++f,Wq (c+1),()))
else
Zq (λv=>XY e b v.1 v.2.1) (d,(0:Int),())
def Vf (e:Z0) (a:Zo) (c:List UInt8) (b:Int):Option (((List UInt8)×Int×Unit) ⊕ List UInt8):=
if b<((Zo.Yk a).length:Int) then
(atI (Zo.Yk a) b).bind λf=>
(Xi e (Zo.Yk a) f).bind λd=>
Zp ((c.length:Int)+(d.length:Int)<=(9223372036854775807:Int))<|
some (.inl (c++d,Wq (b+1),()))
else
Zq (λv=>XZ e a v.1 v.2.1) (c,(0:Int),())
def ZaL (b:Z0) (a:Zo):Option (List UInt8):=
Zq (λv=>Vf b a v.1 v.2.1) (([]:List UInt8),(0:Int),())
def Zxb:Ctr:=D2 (.ptr (Zhm)) (Vh) (.str) ZaL
def Zcd (a:Zj) (b:Zo):Option (List UInt8):=
(ZdX a).bind λe=>
if e then
(Zd3 a).bind λc=>
(J5 c b).bind λf=>
if f then
(ZaL c b).bind λd=>
some d
else
some []
else
some []
def c193:Ctr:=D2 (Xz) (Vh) (.str) Zcd
def ZeF (b a:Yv):Option Bool:=
if Yv.Name b=Yv.Name a then
if Yv.Dir b=Yv.Dir a then
if Yv.Cap b=Yv.Cap a then
if (Yv.Clock b == Yv.Clock a)=true then
some true
else
some false
else
some false
else
some false
else
some false
def c194:Ctr:=D2 (ZfZ) (ZfZ) (.bool) ZeF
def ZjD (b c:List Yv) (a:Int):Option ((Int×Unit) ⊕ Bool):=
if a<(b.length:Int) then
(atI b a).bind λf=>
(atI c a).bind λd=>
(ZeF f d).bind λe=>
if e then
some (.inl (Wq (a+1),()))
else
some (.inr false)
else
some (.inr true)
def Ze8 (b a:List Yv):Option Bool:=
if (b.length:Int)=(a.length:Int) then
Zq (λv=>ZjD b a v.1) ((0:Int),())
else
some false
def Zxc:Ctr:=D2 (.sl (ZfZ)) (.sl (ZfZ)) (.bool) Ze8
def Zh7 (b c:List Int) (a:Int):Option ((Int×Unit) ⊕ Bool):=
if a<(b.length:Int) then
(atI b a).bind λe=>
(atI c a).bind λd=>
if e=d then
some (.inl (Wq (a+1),()))
else
some (.inr false)
else
some (.inr true)
def YL (b a:List Int):Option Bool:=
if (b.length:Int)=(a.length:Int) then
Zq (λv=>Zh7 b a v.1) ((0:Int),())
else
some false
def c196:Ctr:=D2 (.sl Iq) (.sl Iq) (.bool) YL
def Zcx (b a:Zy):Option Bool:=
(YL (Zy.ZgK b) (Zy.ZgK a)).bind λc=>
if c then
(YL (Zy.Loads b) (Zy.Loads a)).bind λd=>
if d then
(YL (Zy.Values b) (Zy.Values a)).bind λe=>
if e then
some true
else
some false
else
some false
else
some false
def Zxd:Ctr:=D2 (XF) (XF) (.bool) Zcx
def Zh8 (b c:List Zy) (a:Int):Option ((Int×Unit) ⊕ Bool):=
if a<(b.length:Int) then
(atI b a).bind λf=>
(atI c a).bind λd=>
(Zcx f d).bind λe=>
if e then
some (.inl (Wq (a+1),()))
else
some (.inr false)
else
some (.inr true)
def Zbs (b a:List Zy):Option Bool:=
if (b.length:Int)=(a.length:Int) then
Zq (λv=>Zh8 b a v.1) ((0:Int),())
else
some false
def c198:Ctr:=D2 (.sl (XF)) (.sl (XF)) (.bool) Zbs
def ZeE (b a:ZC):Option Bool:=
if ZC.Kind b=ZC.Kind a then
if ZC.From b=ZC.From a then
if ZC.To b=ZC.To a then
if ZC.Za7 b=ZC.Za7 a then
(Zbs (ZC.Delay b) (ZC.Delay a)).bind λd=>
if d then
(Zbs (ZC.Za2 b) (ZC.Za2 a)).bind λc=>
if c then
some true
else
some false
else
some false
else
some false
else
some false
else
some false
else
some false
def Zxe:Ctr:=D2 (Zgv) (Zgv) (.bool) ZeE
def ZjA (b c:List ZC) (a:Int):Option ((Int×Unit) ⊕ Bool):=
if a<(b.length:Int) then
(atI b a).bind λf=>
(atI c a).bind λd=>
(ZeE f d).bind λe=>
if e then
some (.inl (Wq (a+1),()))
else
some (.inr false)
else
some (.inr true)
def Ze6 (b a:List ZC):Option Bool:=
if (b.length:Int)=(a.length:Int) then
Zq (λv=>ZjA b a v.1) ((0:Int),())
else
some false
def Zxf:Ctr:=D2 (.sl (Zgv)) (.sl (Zgv)) (.bool) Ze6
def Zdt (b a:Zk):Option Bool:=
if Zk.Name b=Zk.Name a then
if Zk.Kind b=Zk.Kind a then
(Ze8 (Zk.Yz b) (Zk.Yz a)).bind λc=>
if c then
(Ze6 (Zk.JR b) (Zk.JR a)).bind λd=>
if d then
(YL (Zk.Truth b) (Zk.Truth a)).bind λe=>
if e then
if Zk.Zsl b=Zk.Zsl a then
if Zk.Zhn b=Zk.Zhn a then
some true
else
some false
else
some false
else
some false
else
some false
else
some false
else
some false
else
some false
def c201:Ctr:=D2 (V6) (V6) (.bool) Zdt
def ZiQ (b c:List Zk) (a:Int):Option ((Int×Unit) ⊕ Bool):=
if a<(b.length:Int) then
(atI b a).bind λf=>
(atI c a).bind λd=>
(Zdt f d).bind λe=>
if e then
some (.inl (Wq (a+1),()))
else
some (.inr false)
else
some (.inr true)
def Zd5 (b a:List Zk):Option Bool:=
if (b.length:Int)=(a.length:Int) then
Zq (λv=>ZiQ b a v.1) ((0:Int),())
else
some false
def Zxg:Ctr:=D2 (.sl (V6)) (.sl (V6)) (.bool) Zd5
def Zcf (b a:Zt):Option Bool:=
(Zd5 (Zt.Cells b) (Zt.Cells a)).bind λc=>
if c then
some true
else
some false
def c203:Ctr:=D2 (YR) (YR) (.bool) Zcf
def JB (b a:Zl):Option Bool:=
if Zl.Name b=Zl.Name a then
if Zl.Cell b=Zl.Cell a then
(YL (Zl.X7 b) (Zl.X7 a)).bind λc=>
if c then
some true
else
some false
else
some false
else
some false
def Zxh:Ctr:=D2 (YJ) (YJ) (.bool) JB
def ZfV (b c:List Zl) (a:Int):Option ((Int×Unit) ⊕ Bool):=
if a<(b.length:Int) then
(atI b a).bind λf=>
(atI c a).bind λd=>
(JB f d).bind λe=>
if e then
some (.inl (Wq (a+1),()))
else
some (.inr false)
else
some (.inr true)
def ZaB (b a:List Zl):Option Bool:=
if (b.length:Int)=(a.length:Int) then
Zq (λv=>ZfV b a v.1) ((0:Int),())
else
some false
def Zxi:Ctr:=D2 (.sl (YJ)) (.sl (YJ)) (.bool) ZaB
def Zhf (b c:List (List UInt8)) (a:Int):Option ((Int×Unit) ⊕ Bool):=
if a<(b.length:Int) then
(atI b a).bind λe=>
(atI c a).bind λd=>
if e=d then
some (.inl (Wq (a+1),()))
else
some (.inr false)
else
some (.inr true)
def Zcg (b a:List (List UInt8)):Option Bool:=
if (b.length:Int)=(a.length:Int) then
Zq (λv=>Zhf b a v.1) ((0:Int),())
else
some false
def c206:Ctr:=D2 (.sl (.str)) (.sl (.str)) (.bool) Zcg
def Zdv (b a:Ye):Option Bool:=
if Ye.Name b=Ye.Name a then
if Ye.Dir b=Ye.Dir a then
if Ye.Net b=Ye.Net a then
some true
else
some false
else
some false
else
some false
def Zxj:Ctr:=D2 (ZcF) (ZcF) (.bool) Zdv
def ZiT (b c:List Ye) (a:Int):Option ((Int×Unit) ⊕ Bool):=
if a<(b.length:Int) then
(atI b a).bind λf=>
(atI c a).bind λd=>
(Zdv f d).bind λe=>
if e then
some (.inl (Wq (a+1),()))
else
some (.inr false)
else
some (.inr true)
def Zd6 (b a:List Ye):Option Bool:=
if (b.length:Int)=(a.length:Int) then
Zq (λv=>ZiT b a v.1) ((0:Int),())
else
some false
def c208:Ctr:=D2 (.sl (ZcF)) (.sl (ZcF)) (.bool) Zd6
def ZcZ (b a:Zg):Option Bool:=
(ZaB (Zg.Instances b) (Zg.Instances a)).bind λc=>
if c then
(Zcg (Zg.X7 b) (Zg.X7 a)).bind λd=>
if d then
(Zd6 (Zg.Xb b) (Zg.Xb a)).bind λe=>
if e then
some true
else
some false
else
some false
else
some false
def Zxk:Ctr:=D2 (YU) (YU) (.bool) ZcZ
def Zdx (b a:Zx):Option Bool:=
(YL (Zx.Parent b) (Zx.Parent a)).bind λd=>
if d then
(YL (Zx.Res b) (Zx.Res a)).bind λe=>
if e then
(YL (Zx.Cap b) (Zx.Cap a)).bind λf=>
if f then
(YL (Zx.Zjo b) (Zx.Zjo a)).bind λc=>
if c then
some true
else
some false
else
some false
else
some false
else
some false
def c210:Ctr:=D2 (Za9) (Za9) (.bool) Zdx
def ZiU (b c:List Zx) (a:Int):Option ((Int×Unit) ⊕ Bool):=
if a<(b.length:Int) then
(atI b a).bind λf=>
(atI c a).bind λd=>
(Zdx f d).bind λe=>
if e then
some (.inl (Wq (a+1),()))
else
some (.inr false)
else
some (.inr true)
def Zd8 (b a:List Zx):Option Bool:=
if (b.length:Int)=(a.length:Int) then
Zq (λv=>ZiU b a v.1) ((0:Int),())
else
some false
def Zxl:Ctr:=D2 (.sl (Za9)) (.sl (Za9)) (.bool) Zd8
def Zd4 (b a:Zj):Option Bool:=
(Zcf (Zj.Library b) (Zj.Library a)).bind λc=>
if c then
(ZcZ (Zj.Design b) (Zj.Design a)).bind λd=>
if d then
(Zd8 (Zj.Qg b) (Zj.Qg a)).bind λe=>
if e then
some true
else
some false
else
some false
else
some false
def c212:Ctr:=D2 (Xz) (Xz) (.bool) Zd4
def Zcw (b a:Zc):Option Bool:=
if Zc.Name b=Zc.Name a then
if Zc.Place b=Zc.Place a then
if Zc.VQ b=Zc.VQ a then
if Zc.Zae b=Zc.Zae a then
if Zc.Zad b=Zc.Zad a then
if Zc.Source b=Zc.Source a then
if Zc.Divide b=Zc.Divide a then
if (Zc.Zex b == Zc.Zex a)=true then
if Zc.Yn b=Zc.Yn a then
if Zc.YK b=Zc.YK a then
if Zc.Y8 b=Zc.Y8 a then
some true
else
some false
else
some false
else
some false
else
some false
else
some false
else
some false
else
some false
else
some false
else
some false
else
some false
else
some false
def c213:Ctr:=D2 (Xh) (Xh) (.bool) Zcw
def Zh4 (b c:List Zc) (a:Int):Option ((Int×Unit) ⊕ Bool):=
if a<(b.length:Int) then
(atI b a).bind λf=>
(atI c a).bind λd=>
(Zcw f d).bind λe=>
if e then
some (.inl (Wq (a+1),()))
else
some (.inr false)
else
some (.inr true)
def ZcY (b a:List Zc):Option Bool:=
if (b.length:Int)=(a.length:Int) then
Zq (λv=>Zh4 b a v.1) ((0:Int),())
else
some false
def Zxm:Ctr:=D2 (.sl (Xh)) (.sl (Xh)) (.bool) ZcY
def Zdw (b a:Yb):Option Bool:=
if Yb.Early b=Yb.Early a then
if Yb.Late b=Yb.Late a then
some true
else
some false
else
some false
def Zxn:Ctr:=D2 (Zj1) (Zj1) (.bool) Zdw
def JA (b a:Zh):Option Bool:=
if Zh.Place b=Zh.Place a then
if Zh.Clock b=Zh.Clock a then
(Zdw (Zh.Delay b) (Zh.Delay a)).bind λd=>
if d then
(Zdw (Zh.Za2 b) (Zh.Za2 a)).bind λc=>
if c then
some true
else
some false
else
some false
else
some false
else
some false
def Zxo:Ctr:=D2 (Yx) (Yx) (.bool) JA
def ZfU (b c:List Zh) (a:Int):Option ((Int×Unit) ⊕ Bool):=
if a<(b.length:Int) then
(atI b a).bind λf=>
(atI c a).bind λd=>
(JA f d).bind λe=>
if e then
some (.inl (Wq (a+1),()))
else
some (.inr false)
else
some (.inr true)
def VX (b a:List Zh):Option Bool:=
if (b.length:Int)=(a.length:Int) then
Zq (λv=>ZfU b a v.1) ((0:Int),())
else
some false
def Zxp:Ctr:=D2 (.sl (Yx)) (.sl (Yx)) (.bool) VX
def VW (b a:Ze):Option Bool:=
if Ze.Kind b=Ze.Kind a then
if Ze.Value b=Ze.Value a then
(YL (Ze.From b) (Ze.From a)).bind λc=>
if c then
(YL (Ze.Through b) (Ze.Through a)).bind λd=>
if d then
(YL (Ze.To b) (Ze.To a)).bind λe=>
if e then
some true
else
some false
else
some false
else
some false
else
some false
else
some false
def c218:Ctr:=D2 (Z4) (Z4) (.bool) VW
def Ze7 (b c:List Ze) (a:Int):Option ((Int×Unit) ⊕ Bool):=
if a<(b.length:Int) then
(atI b a).bind λf=>
(atI c a).bind λd=>
(VW f d).bind λe=>
if e then
some (.inl (Wq (a+1),()))
else
some (.inr false)
else
some (.inr true)
def J6 (b a:List Ze):Option Bool:=
if (b.length:Int)=(a.length:Int) then
Zq (λv=>Ze7 b a v.1) ((0:Int),())
else
some false
def Zxq:Ctr:=D2 (.sl (Z4)) (.sl (Z4)) (.bool) J6
def Zbr (b a:Zm):Option Bool:=
if Zm.Name b=Zm.Name a then
if Zm.Xq b=Zm.Xq a then
if Zm.Qn b=Zm.Qn a then
if Zm.XK b=Zm.XK a then
if Zm.QG b=Zm.QG a then
some true
else
some false
else
some false
else
some false
else
some false
else
some false
def Zxr:Ctr:=D2 (Y6) (Y6) (.bool) Zbr
def Zhd (b c:List Zm) (a:Int):Option ((Int×Unit) ⊕ Bool):=
if a<(b.length:Int) then
(atI b a).bind λf=>
(atI c a).bind λd=>
(Zbr f d).bind λe=>
if e then
some (.inl (Wq (a+1),()))
else
some (.inr false)
else
some (.inr true)
def Zce (b a:List Zm):Option Bool:=
if (b.length:Int)=(a.length:Int) then
Zq (λv=>Zhd b a v.1) ((0:Int),())
else
some false
def Zxs:Ctr:=D2 (.sl (Y6)) (.sl (Y6)) (.bool) Zce
def Zd7 (b a:Zo):Option Bool:=
(ZcY (Zo.Yk b) (Zo.Yk a)).bind λd=>
if d then
(VX (Zo.Zbb b) (Zo.Zbb a)).bind λg=>
if g then
(VX (Zo.Vp b) (Zo.Vp a)).bind λe=>
if e then
(J6 (Zo.Exceptions b) (Zo.Exceptions a)).bind λf=>
if f then
(Zce (Zo.X5 b) (Zo.X5 a)).bind λc=>
if c then
some true
else
some false
else
some false
else
some false
else
some false
else
some false
def c222:Ctr:=D2 (Vh) (Vh) (.bool) Zd7
def X9 (c:Zj) (d:Zo):Option Bool:=
(Zd9 c 1048576).bind λe=>
if e<0 then
some true
else
(Zec d e).bind λj=>
if j<0 then
some true
else
(Zee c).bind λa=>
(Zeh d).bind λb=>
(Zcq a b).bind λh=>
(Zcd a b).bind λf=>
if f=h then
(Zd4 a a).bind λg=>
if g then
(Zd7 b b).bind λi=>
if i then
some true
else
some false
else
some false
else
some false
def Zbe:Ctr:=⟨[.dat (Xz),.dat (Vh)],[.dat (.bool)],λa K=>ZT a λb a=>ZT a λc a=>QN (X9 b c) λr=>K (r,()) ()⟩
end
end Go.Proofs.YtepbknolmhmipaaGreatDoor
