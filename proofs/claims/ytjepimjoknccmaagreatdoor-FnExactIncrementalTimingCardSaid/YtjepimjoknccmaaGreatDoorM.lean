/-
 The models of the functions and their contracts. Printed by program.
-/
import Derived.KernelRfl
import Derived.Test.YtjepimjoknccmaaGreatDoorSxTab
import Derived.Test.YtjepimjoknccmaaGreatDoorSxS0
import Derived.Test.YtjepimjoknccmaaGreatDoorSxLib
import Derived.Test.YtjepimjoknccmaaGreatDoorSxLibS
namespace Go.Proofs.YtjepimjoknccmaaGreatDoor
open Go Go.Sx
set_option maxRecDepth 100000
set_option maxHeartbeats 6400000
set_option linter.unusedVariables false
set_option linter.unusedSimpArgs false
noncomputable section
theorem G8 {Δ:Tab} (hΔ:Δ.ok Tryz.prog) {Γ:Gam} (hΓ:Γ.ok Tryz.prog) (A:Ann) {f:FuncId} {fn:Func} (hf:Tryz.prog.funcs[f]?=some fn) {C:Ctr} (hv:∀ vs K,C.tr vs K->fnK Δ Γ A C fn vs K) (h1:(fn.name == "runtime.NumGoroutine")=false:=by kernel_rfl) (h2:fn.body.isNone=false:=by kernel_rfl):Zc Tryz.prog f C:=Zf hΔ hΓ mixed A hf h1 h2 hv
abbrev Iq:Ty:=.int .i64
abbrev Wq:=IntKind.wrap IntKind.i64
abbrev Sq:=Zc Tryz.prog
theorem Bq {α β:Type} (x:α) (f:α->Option β):(some x).bind f=f x:=rfl
def ZeR (b:YN) (a:Int):Option Int:=
if Wq (a-((GG b).length:Int))<0 then
some (-1)
else
some (Wq (a-((GG b).length:Int)))
def c0:Ctr:=D2 (Ze1) Iq Iq ZeR
def Zpq (c:List YN) (a b:Int):Option ((Int×Int×Unit) ⊕ Int):=
if b<(c.length:Int) then
(atI c b).bind λe=>
(ZeR e a).bind λd=>
if d<0 then
some (.inr (-1))
else
some (.inl (d,Wq (b+1),()))
else
some (.inr a)
def Zf2 (b:List YN) (a:Int):Option Int:=
if Wq (a-(b.length:Int))<0 then
some (-1)
else
Zq (λv=>Zpq b v.1 v.2.1) (Wq (a-(b.length:Int)),(0:Int),())
def c1:Ctr:=D2 (.sl (Ze1)) Iq Iq Zf2
def XL (b:List Int) (a:Int):Option Int:=
if Wq (a-(b.length:Int))<0 then
some (-1)
else
some (Wq (a-(b.length:Int)))
def c2:Ctr:=D2 (.sl Iq) Iq Iq XL
def Zbp (b:Zw) (a:Int):Option Int:=
(XL (GM b) a).bind λd=>
if d<0 then
some (-1)
else
(XL (Gt b) d).bind λe=>
if e<0 then
some (-1)
else
(XL (Gr b) e).bind λc=>
if c<0 then
some (-1)
else
some c
def c3:Ctr:=D2 (Xa) Iq Iq Zbp
def Znt (c:List Zw) (a b:Int):Option ((Int×Int×Unit) ⊕ Int):=
if b<(c.length:Int) then
(atI c b).bind λe=>
(Zbp e a).bind λd=>
if d<0 then
some (.inr (-1))
else
some (.inl (d,Wq (b+1),()))
else
some (.inr a)
def ZbD (b:List Zw) (a:Int):Option Int:=
if Wq (a-(b.length:Int))<0 then
some (-1)
else
Zq (λv=>Znt b v.1 v.2.1) (Wq (a-(b.length:Int)),(0:Int),())
def c4:Ctr:=D2 (.sl (Xa)) Iq Iq ZbD
def ZeN (b:ZC) (a:Int):Option Int:=
(ZbD (GC b) a).bind λc=>
if c<0 then
some (-1)
else
(ZbD (GN b) c).bind λd=>
if d<0 then
some (-1)
else
some d
def c5:Ctr:=D2 (ZfO) Iq Iq ZeN
def Zpn (c:List ZC) (a b:Int):Option ((Int×Int×Unit) ⊕ Int):=
if b<(c.length:Int) then
(atI c b).bind λe=>
(ZeN e a).bind λd=>
if d<0 then
some (.inr (-1))
else
some (.inl (d,Wq (b+1),()))
else
some (.inr a)
def Zf0 (b:List ZC) (a:Int):Option Int:=
if Wq (a-(b.length:Int))<0 then
some (-1)
else
Zq (λv=>Zpn b v.1 v.2.1) (Wq (a-(b.length:Int)),(0:Int),())
def c6:Ctr:=D2 (.sl (ZfO)) Iq Iq Zf0
def ZcM (b:Zl) (a:Int):Option Int:=
if Wq (a-((GQ b).length:Int))<0 then
some (-1)
else
(Zf2 (K7 b) (Wq (a-((GQ b).length:Int)))).bind λd=>
if d<0 then
some (-1)
else
(Zf0 (Gj b) d).bind λe=>
if e<0 then
some (-1)
else
(XL (GH b) e).bind λc=>
if c<0 then
some (-1)
else
some c
def c7:Ctr:=D2 (QC) Iq Iq ZcM
def Zok (c:List Zl) (a b:Int):Option ((Int×Int×Unit) ⊕ Int):=
if b<(c.length:Int) then
(atI c b).bind λe=>
(ZcM e a).bind λd=>
if d<0 then
some (.inr (-1))
else
some (.inl (d,Wq (b+1),()))
else
some (.inr a)
def ZeQ (b:List Zl) (a:Int):Option Int:=
if Wq (a-(b.length:Int))<0 then
some (-1)
else
Zq (λv=>Zok b v.1 v.2.1) (Wq (a-(b.length:Int)),(0:Int),())
def c8:Ctr:=D2 (.sl (QC)) Iq Iq ZeQ
def Zb4 (c:Zp) (a:Int):Option Int:=
(ZeQ (K8 c) a).bind λb=>
if b<0 then
some (-1)
else
some b
def c9:Ctr:=D2 (YV) Iq Iq Zb4
def VK (b:Ze) (a:Int):Option Int:=
if Wq (a-((Gu b).length:Int))<0 then
some (-1)
else
(XL (Gb b) (Wq (a-((Gu b).length:Int)))).bind λc=>
if c<0 then
some (-1)
else
some c
def c10:Ctr:=D2 (ZX) Iq Iq VK
def Zlu (c:List Ze) (a b:Int):Option ((Int×Int×Unit) ⊕ Int):=
if b<(c.length:Int) then
(atI c b).bind λe=>
(VK e a).bind λd=>
if d<0 then
some (.inr (-1))
else
some (.inl (d,Wq (b+1),()))
else
some (.inr a)
def J9 (b:List Ze) (a:Int):Option Int:=
if Wq (a-(b.length:Int))<0 then
some (-1)
else
Zq (λv=>Zlu b v.1 v.2.1) (Wq (a-(b.length:Int)),(0:Int),())
def c11:Ctr:=D2 (.sl (ZX)) Iq Iq J9
def V9 (d:List (List UInt8)) (a b:Int):Option ((Int×Int×Unit) ⊕ Int):=
if b<(d.length:Int) then
(atI d b).bind λc=>
if Wq (a-(c.length:Int))<0 then
some (.inr (-1))
else
some (.inl (Wq (a-(c.length:Int)),Wq (b+1),()))
else
some (.inr a)
def Zb6 (b:List (List UInt8)) (a:Int):Option Int:=
if Wq (a-(b.length:Int))<0 then
some (-1)
else
Zq (λv=>V9 b v.1 v.2.1) (Wq (a-(b.length:Int)),(0:Int),())
def c12:Ctr:=D2 (.sl (.str)) Iq Iq Zb6
def ZcN (b:ZL) (a:Int):Option Int:=
if Wq (a-((GO b).length:Int))<0 then
some (-1)
else
some (Wq (a-((GO b).length:Int)))
def c13:Ctr:=D2 (ZaB) Iq Iq ZcN
def Zon (c:List ZL) (a b:Int):Option ((Int×Int×Unit) ⊕ Int):=
if b<(c.length:Int) then
(atI c b).bind λe=>
(ZcN e a).bind λd=>
if d<0 then
some (.inr (-1))
else
some (.inl (d,Wq (b+1),()))
else
some (.inr a)
def ZeS (b:List ZL) (a:Int):Option Int:=
if Wq (a-(b.length:Int))<0 then
some (-1)
else
Zq (λv=>Zon b v.1 v.2.1) (Wq (a-(b.length:Int)),(0:Int),())
def c14:Ctr:=D2 (.sl (ZaB)) Iq Iq ZeS
def Zde (b:Zb) (a:Int):Option Int:=
(J9 (K1 b) a).bind λd=>
if d<0 then
some (-1)
else
(Zb6 (K6 b) d).bind λe=>
if e<0 then
some (-1)
else
(ZeS (Ga b) e).bind λc=>
if c<0 then
some (-1)
else
some c
def c15:Ctr:=D2 (Yi) Iq Iq Zde
def ZbE (b:Zo) (a:Int):Option Int:=
(XL (K3 b) a).bind λe=>
if e<0 then
some (-1)
else
(XL (Gy b) e).bind λf=>
if f<0 then
some (-1)
else
(XL (GD b) f).bind λc=>
if c<0 then
some (-1)
else
(XL (Gk b) c).bind λd=>
if d<0 then
some (-1)
else
some d
def c16:Ctr:=D2 (QD) Iq Iq ZbE
def Zoq (c:List Zo) (a b:Int):Option ((Int×Int×Unit) ⊕ Int):=
if b<(c.length:Int) then
(atI c b).bind λe=>
(ZbE e a).bind λd=>
if d<0 then
some (.inr (-1))
else
some (.inl (d,Wq (b+1),()))
else
some (.inr a)
def ZeT (b:List Zo) (a:Int):Option Int:=
if Wq (a-(b.length:Int))<0 then
some (-1)
else
Zq (λv=>Zoq b v.1 v.2.1) (Wq (a-(b.length:Int)),(0:Int),())
def c17:Ctr:=D2 (.sl (QD)) Iq Iq ZeT
def ZeO (b:Za) (a:Int):Option Int:=
(Zb4 (K4 b) a).bind λd=>
if d<0 then
some (-1)
else
(Zde (KZ b) d).bind λe=>
if e<0 then
some (-1)
else
(ZeT (K2 b) e).bind λc=>
if c<0 then
some (-1)
else
some c
def c18:Ctr:=D2 (ZT) Iq Iq ZeO
def Zf1 (b:Zj) (a:Int):Option Int:=
if Wq (a-((Gh b).length:Int))<0 then
some (-1)
else
(ZbE (GB b) (Wq (a-((Gh b).length:Int)))).bind λc=>
if c<0 then
some (-1)
else
some c
def c19:Ctr:=D2 (XO) Iq Iq Zf1
def ZhV (b:ZA) (a:Int):Option Int:=
if Wq (a-((G7 b).length:Int))<0 then
some (-1)
else
some (Wq (a-((G7 b).length:Int)))
def c20:Ctr:=D2 (XW) Iq Iq ZhV
def Zb5 (b:List Zk) (a:Int):Option Int:=
if Wq (a-(b.length:Int))<0 then
some (-1)
else
some (Wq (a-(b.length:Int)))
def c21:Ctr:=D2 (.sl (Z7)) Iq Iq Zb5
def ZeP (b:List Bool) (a:Int):Option Int:=
if Wq (a-(b.length:Int))<0 then
some (-1)
else
some (Wq (a-(b.length:Int)))
def c22:Ctr:=D2 (.sl (.bool)) Iq Iq ZeP
def ZcO (b:List Zv) (a:Int):Option Int:=
if Wq (a-(b.length:Int))<0 then
some (-1)
else
some (Wq (a-(b.length:Int)))
def c23:Ctr:=D2 (.sl (YU)) Iq Iq ZcO
def Zdf (b:Zh) (a:Int):Option Int:=
(ZeP (K9 b) a).bind λd=>
if d<0 then
some (-1)
else
(ZcO (Gp b) d).bind λe=>
if e<0 then
some (-1)
else
(ZcO (Gm b) e).bind λc=>
if c<0 then
some (-1)
else
some c
def c24:Ctr:=D2 (Yf) Iq Iq Zdf
def Zj3 (a:YN):Option YN:=
some a
def c25:Ctr:=D1 (Ze1) (Ze1) Zj3
def Zpw (c:List YN) (a:Int) (b:List (List UInt8×Int×Int×Bool×Unit)):Option ((Int×(List (List UInt8×Int×Int×Bool×Unit))×Unit) ⊕ List YN):=
if a<(c.length:Int) then
(atI c a).bind λd=>
(Zj3 d).bind λe=>
(atI b a).bind λf=>
some (.inl (Wq (a+1),List.set b (Int.toNat a) e,()))
else
some (.inr b)
def ZkF (a:List YN):Option (List YN):=
Zt ((0:Int)<=(a.length:Int))<|
Zt ((a.length:Int)<=(a.length:Int))<|
Zt ((a.length:Int)<=4611686018427387904)<|
Zt (((40:Nat):Int)*(a.length:Int)<=281474976710656)<|
Zq (λv=>Zpw a v.1 v.2.1) ((0:Int),List.replicate (Int.toNat (a.length:Int)) (([]:List UInt8),(0:Int),(0:Int),false,()),())
def c26:Ctr:=⟨[.dat (.sl (Ze1))],[.own (.ol 311 (.flat (Ze1)))],λa K=>splitK a λb a=>ZV (ZkF b) λr=>K (r,()) ()⟩
def Znv (c:List Int) (a:Int) (b:List Int):Option ((Int×(List Int)×Unit) ⊕ List Int):=
if a<(c.length:Int) then
(atI c a).bind λd=>
(atI b a).bind λe=>
some (.inl (Wq (a+1),List.set b (Int.toNat a) d,()))
else
some (.inr b)
def Qy (a:List Int):Option (List Int):=
Zt ((0:Int)<=(a.length:Int))<|
Zt ((a.length:Int)<=(a.length:Int))<|
Zt ((a.length:Int)<=4611686018427387904)<|
Zt (((8:Nat):Int)*(a.length:Int)<=281474976710656)<|
Zq (λv=>Znv a v.1 v.2.1) ((0:Int),List.replicate (Int.toNat (a.length:Int)) (0:Int),())
def c27:Ctr:=⟨[.dat (.sl Iq)],[.own (.ol 2 (.flat Iq))],λa K=>splitK a λb a=>ZV (Qy b) λr=>K (r,()) ()⟩
def ZgR (a:Zw):Option Zw:=
(Qy (GM a)).bind λc=>
(Qy (Gt a)).bind λd=>
(Qy (Gr a)).bind λb=>
some (c,d,b,())
def c28:Ctr:=⟨[.dat (Xa)],[.own (ZgI)],λa K=>splitK a λb a=>ZV (ZgR b) λr=>K (r,()) ()⟩
def Znw (c:List Zw) (a:Int) (b:List Zw):Option ((Int×(List Zw)×Unit) ⊕ List Zw):=
if a<(c.length:Int) then
(atI c a).bind λd=>
(ZgR d).bind λe=>
(atI b a).bind λf=>
some (.inl (Wq (a+1),List.set b (Int.toNat a) e,()))
else
some (.inr b)
def Zfs (a:List Zw):Option (List Zw):=
Zt ((0:Int)<=(a.length:Int))<|
Zt ((a.length:Int)<=(a.length:Int))<|
Zt ((a.length:Int)<=4611686018427387904)<|
Zt (((72:Nat):Int)*(a.length:Int)<=281474976710656)<|
Zq (λv=>Znw a v.1 v.2.1) ((0:Int),List.replicate (Int.toNat (a.length:Int)) (([]:List Int),([]:List Int),([]:List Int),()),())
def c29:Ctr:=⟨[.dat (.sl (Xa))],[.own (.ol 353 (ZgI))],λa K=>splitK a λb a=>ZV (Zfs b) λr=>K (r,()) ()⟩
def Zj2 (a:ZC):Option ZC:=
(Zfs (GC a)).bind λb=>
(Zfs (GN a)).bind λc=>
some (Ge a,Gi a,Gn a,GJ a,b,c,())
def c30:Ctr:=⟨[.dat (ZfO)],[.own (Zzv)],λa K=>splitK a λb a=>ZV (Zj2 b) λr=>K (r,()) ()⟩
def Zpu (c:List ZC) (a:Int) (b:List ZC):Option ((Int×(List ZC)×Unit) ⊕ List ZC):=
if a<(c.length:Int) then
(atI c a).bind λd=>
(Zj2 d).bind λe=>
(atI b a).bind λf=>
some (.inl (Wq (a+1),List.set b (Int.toNat a) e,()))
else
some (.inr b)
def ZkD (a:List ZC):Option (List ZC):=
Zt ((0:Int)<=(a.length:Int))<|
Zt ((a.length:Int)<=(a.length:Int))<|
Zt ((a.length:Int)<=4611686018427387904)<|
Zt (((80:Nat):Int)*(a.length:Int)<=281474976710656)<|
Zq (λv=>Zpu a v.1 v.2.1) ((0:Int),List.replicate (Int.toNat (a.length:Int)) ((0:Int),(0:Int),(0:Int),(0:Int),([]:List Zw),([]:List Zw),()),())
def c31:Ctr:=⟨[.dat (.sl (ZfO))],[.own (.ol 280 (Zzv))],λa K=>splitK a λb a=>ZV (ZkD b) λr=>K (r,()) ()⟩
def ZiJ (a:Zl):Option Zl:=
(ZkF (K7 a)).bind λc=>
(ZkD (Gj a)).bind λd=>
(Qy (GH a)).bind λb=>
some (GQ a,GE a,c,d,b,a.2.2.2.2.2)
def c32:Ctr:=⟨[.dat (QC)],[.own (Zqi)],λa K=>splitK a λb a=>ZV (ZiJ b) λr=>K (r,()) ()⟩
def Zos (c:List Zl) (a:Int) (b:List Zl):Option ((Int×(List Zl)×Unit) ⊕ List Zl):=
if a<(c.length:Int) then
(atI c a).bind λd=>
(ZiJ d).bind λe=>
(atI b a).bind λf=>
some (.inl (Wq (a+1),List.set b (Int.toNat a) e,()))
else
some (.inr b)
def Zjl (a:List Zl):Option (List Zl):=
Zt ((0:Int)<=(a.length:Int))<|
Zt ((a.length:Int)<=(a.length:Int))<|
Zt ((a.length:Int)<=4611686018427387904)<|
Zt (((112:Nat):Int)*(a.length:Int)<=281474976710656)<|
Zq (λv=>Zos a v.1 v.2.1) ((0:Int),List.replicate (Int.toNat (a.length:Int)) (([]:List UInt8),(0:Int),([]:List YN),([]:List ZC),([]:List Int),(0:Int),(0:Int),()),())
def c33:Ctr:=⟨[.dat (.sl (QC))],[.own (.ol 236 (Zqi))],λa K=>splitK a λb a=>ZV (Zjl b) λr=>K (r,()) ()⟩
def Zgx (a:Zp):Option Zp:=
(Zjl (K8 a)).bind λb=>
some (b,())
def c34:Ctr:=⟨[.dat (YV)],[.own (ZnV)],λa K=>splitK a λb a=>ZV (Zgx b) λr=>K (r,()) ()⟩
def ZcP (a:Ze):Option Ze:=
(Qy (Gb a)).bind λb=>
some (Gu a,Gx a,b,())
def c35:Ctr:=⟨[.dat (ZX)],[.own (Zcw)],λa K=>splitK a λb a=>ZV (ZcP b) λr=>K (r,()) ()⟩
def Zlv (c:List Ze) (a:Int) (b:List Ze):Option ((Int×(List Ze)×Unit) ⊕ List Ze):=
if a<(c.length:Int) then
(atI c a).bind λd=>
(ZcP d).bind λe=>
(atI b a).bind λf=>
some (.inl (Wq (a+1),List.set b (Int.toNat a) e,()))
else
some (.inr b)
def Zec (a:List Ze):Option (List Ze):=
Zt ((0:Int)<=(a.length:Int))<|
Zt ((a.length:Int)<=(a.length:Int))<|
Zt ((a.length:Int)<=4611686018427387904)<|
Zt (((48:Nat):Int)*(a.length:Int)<=281474976710656)<|
Zq (λv=>Zlv a v.1 v.2.1) ((0:Int),List.replicate (Int.toNat (a.length:Int)) (([]:List UInt8),(0:Int),([]:List Int),()),())
def c36:Ctr:=⟨[.dat (.sl (ZX))],[.own (.ol 144 (Zcw))],λa K=>splitK a λb a=>ZV (Zec b) λr=>K (r,()) ()⟩
def ZmA (c:List (List UInt8)) (a:Int) (b:List (List UInt8)):Option ((Int×(List (List UInt8))×Unit) ⊕ List (List UInt8)):=
if a<(c.length:Int) then
(atI c a).bind λd=>
(atI b a).bind λe=>
some (.inl (Wq (a+1),List.set b (Int.toNat a) d,()))
else
some (.inr b)
def Zgz (a:List (List UInt8)):Option (List (List UInt8)):=
Zt ((0:Int)<=(a.length:Int))<|
Zt ((a.length:Int)<=(a.length:Int))<|
Zt ((a.length:Int)<=4611686018427387904)<|
Zt (((16:Nat):Int)*(a.length:Int)<=281474976710656)<|
Zq (λv=>ZmA a v.1 v.2.1) ((0:Int),List.replicate (Int.toNat (a.length:Int)) (([]:List UInt8)),())
def c37:Ctr:=⟨[.dat (.sl (.str))],[.own (.ol 9 (.flat (.str)))],λa K=>splitK a λb a=>ZV (Zgz b) λr=>K (r,()) ()⟩
def ZiK (a:ZL):Option ZL:=
some a
def c38:Ctr:=D1 (ZaB) (ZaB) ZiK
def Zou (c:List ZL) (a:Int) (b:List (List UInt8×Int×Int×Unit)):Option ((Int×(List (List UInt8×Int×Int×Unit))×Unit) ⊕ List ZL):=
if a<(c.length:Int) then
(atI c a).bind λd=>
(ZiK d).bind λe=>
(atI b a).bind λf=>
some (.inl (Wq (a+1),List.set b (Int.toNat a) e,()))
else
some (.inr b)
def Zjm (a:List ZL):Option (List ZL):=
Zt ((0:Int)<=(a.length:Int))<|
Zt ((a.length:Int)<=(a.length:Int))<|
Zt ((a.length:Int)<=4611686018427387904)<|
Zt (((32:Nat):Int)*(a.length:Int)<=281474976710656)<|
Zq (λv=>Zou a v.1 v.2.1) ((0:Int),List.replicate (Int.toNat (a.length:Int)) (([]:List UInt8),(0:Int),(0:Int),()),())
def c39:Ctr:=⟨[.dat (.sl (ZaB))],[.own (.ol 230 (.flat (ZaB)))],λa K=>splitK a λb a=>ZV (Zjm b) λr=>K (r,()) ()⟩
def ZhX (a:Zb):Option Zb:=
(Zec (K1 a)).bind λc=>
(Zgz (K6 a)).bind λd=>
(Zjm (Ga a)).bind λb=>
some (c,d,b,())
def c40:Ctr:=⟨[.dat (Yi)],[.own (ZoU)],λa K=>splitK a λb a=>ZV (ZhX b) λr=>K (r,()) ()⟩
def Zf3 (a:Zo):Option Zo:=
(Qy (K3 a)).bind λd=>
(Qy (Gy a)).bind λe=>
(Qy (GD a)).bind λb=>
(Qy (Gk a)).bind λc=>
some (d,e,b,c,())
def c41:Ctr:=⟨[.dat (QD)],[.own (Zmr)],λa K=>splitK a λb a=>ZV (Zf3 b) λr=>K (r,()) ()⟩
def Zow (c:List Zo) (a:Int) (b:List Zo):Option ((Int×(List Zo)×Unit) ⊕ List Zo):=
if a<(c.length:Int) then
(atI c a).bind λd=>
(Zf3 d).bind λe=>
(atI b a).bind λf=>
some (.inl (Wq (a+1),List.set b (Int.toNat a) e,()))
else
some (.inr b)
def Zjn (a:List Zo):Option (List Zo):=
Zt ((0:Int)<=(a.length:Int))<|
Zt ((a.length:Int)<=(a.length:Int))<|
Zt ((a.length:Int)<=4611686018427387904)<|
Zt (((96:Nat):Int)*(a.length:Int)<=281474976710656)<|
Zq (λv=>Zow a v.1 v.2.1) ((0:Int),List.replicate (Int.toNat (a.length:Int)) (([]:List Int),([]:List Int),([]:List Int),([]:List Int),()),())
def c42:Ctr:=⟨[.dat (.sl (QD))],[.own (.ol 66 (Zmr))],λa K=>splitK a λb a=>ZV (Zjn b) λr=>K (r,()) ()⟩
def Zjj (a:Za):Option Za:=
(Zgx (K4 a)).bind λc=>
(ZhX (KZ a)).bind λd=>
(Zjn (K2 a)).bind λb=>
some (c,d,b,())
def c43:Ctr:=⟨[.dat (ZT)],[.own (Zhh)],λa K=>splitK a λb a=>ZV (Zjj b) λr=>K (r,()) ()⟩
def ZkE (a:Zj):Option Zj:=
(Zf3 (GB a)).bind λb=>
some (K5 a,Gc a,Gv a,Gs a,GF a,Gh a,b,())
def c44:Ctr:=⟨[.dat (XO)],[.own (ZGg)],λa K=>splitK a λb a=>ZV (ZkE b) λr=>K (r,()) ()⟩
def ZhW (a:ZA):Option ZA:=
some a
def c45:Ctr:=D1 (XW) (XW) ZhW
def Zes (a:Zv):Option Zv:=
some a
def c46:Ctr:=D1 (YU) (YU) Zes
def Zfr (a:Zk):Option Zk:=
(Zes (GK a)).bind λb=>
(Zes (GR a)).bind λc=>
some (Gl a,b,c,())
def c47:Ctr:=D1 (Z7) (Z7) Zfr
def Zmz (c:List Zk) (a:Int) (b:List (Int×Zv×Zv×Unit)):Option ((Int×(List (Int×Zv×Zv×Unit))×Unit) ⊕ List Zk):=
if a<(c.length:Int) then
(atI c a).bind λd=>
(Zfr d).bind λe=>
(atI b a).bind λf=>
some (.inl (Wq (a+1),List.set b (Int.toNat a) e,()))
else
some (.inr b)
def Zgy (a:List Zk):Option (List Zk):=
Zt ((0:Int)<=(a.length:Int))<|
Zt ((a.length:Int)<=(a.length:Int))<|
Zt ((a.length:Int)<=4611686018427387904)<|
Zt (((40:Nat):Int)*(a.length:Int)<=281474976710656)<|
Zq (λv=>Zmz a v.1 v.2.1) ((0:Int),List.replicate (Int.toNat (a.length:Int)) ((0:Int),((0:Int),(0:Int),()),((0:Int),(0:Int),()),()),())
def c48:Ctr:=⟨[.dat (.sl (Z7))],[.own (.ol 106 (.flat (Z7)))],λa K=>splitK a λb a=>ZV (Zgy b) λr=>K (r,()) ()⟩
def Zor (c:List Bool) (a:Int) (b:List Bool):Option ((Int×(List Bool)×Unit) ⊕ List Bool):=
if a<(c.length:Int) then
(atI c a).bind λd=>
(atI b a).bind λe=>
some (.inl (Wq (a+1),List.set b (Int.toNat a) d,()))
else
some (.inr b)
def Zjk (a:List Bool):Option (List Bool):=
Zt ((0:Int)<=(a.length:Int))<|
Zt ((a.length:Int)<=(a.length:Int))<|
Zt ((a.length:Int)<=4611686018427387904)<|
Zt (((1:Nat):Int)*(a.length:Int)<=281474976710656)<|
Zq (λv=>Zor a v.1 v.2.1) ((0:Int),List.replicate (Int.toNat (a.length:Int)) false,())
def c49:Ctr:=⟨[.dat (.sl (.bool))],[.own (.ol 4 (.flat (.bool)))],λa K=>splitK a λb a=>ZV (Zjk b) λr=>K (r,()) ()⟩
def Zov (c:List Zv) (a:Int) (b:List (Int×Int×Unit)):Option ((Int×(List (Int×Int×Unit))×Unit) ⊕ List Zv):=
if a<(c.length:Int) then
(atI c a).bind λd=>
(Zes d).bind λe=>
(atI b a).bind λf=>
some (.inl (Wq (a+1),List.set b (Int.toNat a) e,()))
else
some (.inr b)
def ZgQ (a:List Zv):Option (List Zv):=
Zt ((0:Int)<=(a.length:Int))<|
Zt ((a.length:Int)<=(a.length:Int))<|
Zt ((a.length:Int)<=4611686018427387904)<|
Zt (((16:Nat):Int)*(a.length:Int)<=281474976710656)<|
Zq (λv=>Zov a v.1 v.2.1) ((0:Int),List.replicate (Int.toNat (a.length:Int)) ((0:Int),(0:Int),()),())
def c50:Ctr:=⟨[.dat (.sl (YU))],[.own (.ol 104 (.flat (YU)))],λa K=>splitK a λb a=>ZV (ZgQ b) λr=>K (r,()) ()⟩
def ZhY (a:Zh):Option Zh:=
(Zjk (K9 a)).bind λc=>
(ZgQ (Gp a)).bind λd=>
(ZgQ (Gm a)).bind λb=>
some (c,d,b,())
def c51:Ctr:=⟨[.dat (Yf)],[.own (Zcx)],λa K=>splitK a λb a=>ZV (ZhY b) λr=>K (r,()) ()⟩
def ZfE (c:List UInt8) (a:Int):Option ((Int×Unit) ⊕ Bool):=
if a<(c.length:Int) then
(atI c a).bind λb=>
if 97<=((UInt8.toNat b):Int) then
if 48<=((UInt8.toNat b):Int) then
if ((UInt8.toNat b):Int)<=122 then
some (.inl (Wq (a+1),()))
else
if ((UInt8.toNat b):Int)<=57 then
if 0<a then
some (.inl (Wq (a+1),()))
else
some (.inr false)
else
some (.inr false)
else
if ((UInt8.toNat b):Int)<=122 then
some (.inl (Wq (a+1),()))
else
some (.inr false)
else
if 48<=((UInt8.toNat b):Int) then
if ((UInt8.toNat b):Int)<=57 then
if 0<a then
some (.inl (Wq (a+1),()))
else
some (.inr false)
else
some (.inr false)
else
some (.inr false)
else
if 1<=(c.length:Int) then
some (.inr (decide ((c.length:Int)<=8)))
else
some (.inr false)
def Zbr (a:List UInt8):Option Bool:=
Zq (λv=>ZfE a v.1) ((0:Int),())
def c52:Ctr:=D1 (.str) (.bool) Zbr
def ZQ (c b a:Int):Option Bool:=
if b<=c then
some (decide (c<=a))
else
some false
def c53:Ctr:=D3 Iq Iq Iq (.bool) ZQ
def V3 (d:Zl) (c b:Int) (a:YN) (e:Int):Option ((Int×Unit) ⊕ ((Int×Int×Unit) ⊕ (Int×Bool))):=
if e<b then
(atI (K7 d) e).bind λf=>
if GG f=GG a then
some (.inr (.inr (0,false)))
else
some (.inl (Wq (e+1),()))
else
(Zbr (GG a)).bind λg=>
if g then
(ZQ (GV a) 0 500).bind λh=>
if h then
if b=Wq (((K7 d).length:Int)-1) then
if GW a=2 then
if GV a=0 then
if (Gg a)=true then
some (.inr (.inr (0,false)))
else
if b<Wq (((K7 d).length:Int)-1) then
if GW a=1 then
if (Gg a)=true then
some (.inr (.inl (Wq (c+1),Wq (b+1),())))
else
some (.inr (.inl (c,Wq (b+1),())))
else
some (.inr (.inr (0,false)))
else
if (Gg a)=true then
some (.inr (.inl (Wq (c+1),Wq (b+1),())))
else
some (.inr (.inl (c,Wq (b+1),())))
else
some (.inr (.inr (0,false)))
else
some (.inr (.inr (0,false)))
else
if b<Wq (((K7 d).length:Int)-1) then
if GW a=1 then
if (Gg a)=true then
some (.inr (.inl (Wq (c+1),Wq (b+1),())))
else
some (.inr (.inl (c,Wq (b+1),())))
else
some (.inr (.inr (0,false)))
else
if (Gg a)=true then
some (.inr (.inl (Wq (c+1),Wq (b+1),())))
else
some (.inr (.inl (c,Wq (b+1),())))
else
some (.inr (.inr (0,false)))
else
some (.inr (.inr (0,false)))
def Zau (b:Zl) (c a:Int):Option ((Int×Int×Unit) ⊕ (Int×Bool)):=
if a<((K7 b).length:Int) then
(atI (K7 b) a).bind λd=>
Zq (λv=>V3 b c a d v.1) ((0:Int),())
else
some (.inr (c,true))
def Zjw (a:Zl):Option (Int×Bool):=
if ((K7 a).length:Int)<2 then
some (0,false)
else
if 5<((K7 a).length:Int) then
some (0,false)
else
Zq (λv=>Zau a v.1 v.2.1) ((0:Int),(0:Int),())
def c54:Ctr:=⟨[.dat (QC)],[.dat Iq,.dat (.bool)],λa K=>splitK a λb a=>ZV (Zjw b) λr=>K (r.1,r.2,()) ()⟩
def ZfD (a:List Int) (b:Int):Option ((Int×Unit) ⊕ Bool):=
if b<(a.length:Int) then
(atI a b).bind λc=>
(ZQ c 0 100000).bind λe=>
if e then
if 0<b then
(atI a (Wq (b-1))).bind λd=>
if c<=d then
some (.inr false)
else
some (.inl (Wq (b+1),()))
else
some (.inl (Wq (b+1),()))
else
some (.inr false)
else
if 1<=(a.length:Int) then
some (.inr (decide ((a.length:Int)<=4)))
else
some (.inr false)
def ZgW (a:List Int):Option Bool:=
Zq (λv=>ZfD a v.1) ((0:Int),())
def c55:Ctr:=D1 (.sl Iq) (.bool) ZgW
def ZfB (b:Zw) (a:Int):Option ((Int×Unit) ⊕ Bool):=
if a<((Gr b).length:Int) then
(atI (Gr b) a).bind λc=>
(ZQ c (-1000000) 1000000).bind λd=>
if d then
some (.inl (Wq (a+1),()))
else
some (.inr false)
else
some (.inr true)
def Zjv (a:Zw):Option Bool:=
(ZgW (GM a)).bind λb=>
if b then
(ZgW (Gt a)).bind λc=>
if c then
if ((Gr a).length:Int)=Wq (((GM a).length:Int)*((Gt a).length:Int)) then
Zq (λv=>ZfB a v.1) ((0:Int),())
else
some false
else
some false
else
some false
def c56:Ctr:=D1 (Xa) (.bool) Zjv
def JZ (e:Zw) (a c b:Int):Option ((Int×Int×Int×Unit) ⊕ (Zv×Int)):=
if a<((Gr e).length:Int) then
(atI (Gr e) a).bind λd=>
some (.inl (Wq (a+1),Min.min c d,Max.max b d,()))
else
some (.inr ((c,b,()),0))
def Zed (a:Zw):Option (Zv×Int):=
(Zjv a).bind λc=>
if c then
(atI (Gr a) 0).bind λb=>
Zq (λv=>JZ a v.1 v.2.1 v.2.2.1) ((1:Int),b,b,())
else
some ((0,0,()),1)
def c57:Ctr:=⟨[.dat (Xa)],[.dat (YU),.dat Iq],λa K=>splitK a λb a=>ZV (Zed b) λr=>K (r.1,r.2,()) ()⟩
def ZdE (b:List Zw) (a:Bool) (c:Int):Option ((Int×Unit) ⊕ Bool):=
if c<2 then
(atI b c).bind λe=>
(Zed e).bind λd=>
if d.2=0 then
if a then
if d.1.1<0 then
some (.inr false)
else
some (.inl (Wq (c+1),()))
else
some (.inl (Wq (c+1),()))
else
some (.inr false)
else
some (.inr true)
def Y3 (b:List Zw) (a:Bool):Option Bool:=
if (b.length:Int)=2 then
Zq (λv=>ZdE b a v.1) ((0:Int),())
else
some false
def c58:Ctr:=D2 (.sl (Xa)) (.bool) (.bool) Y3
def ZkT (b:Zl) (a:ZC):Option Bool:=
(ZQ (Gi a) 0 (Wq (Wq (((K7 b).length:Int)-1)-1))).bind λi=>
if i then
(ZQ (Gn a) 0 (Wq (((K7 b).length:Int)-1))).bind λh=>
if h then
(atI (K7 b) (Gi a)).bind λd=>
if Ge a=1 then
if (Gg d)=true then
some false
else
if Gn a=Wq (((K7 b).length:Int)-1) then
(ZQ (GJ a) 1 3).bind λg=>
if g then
(Y3 (GC a) true).bind λc=>
if c then
(Y3 (GN a) true).bind λf=>
some f
else
some false
else
some false
else
some false
else
if Ge a=2 then
if Ge a=2 then
if (Gg d)=true then
if Gn a=Wq (((K7 b).length:Int)-1) then
if GJ a=0 then
(Y3 (GC a) true).bind λc=>
if c then
(Y3 (GN a) true).bind λf=>
some f
else
some false
else
some false
else
some false
else
some false
else
if Ge a=4 then
if Ge a=4 then
if (Gg d)=true then
if Gn a<Wq (((K7 b).length:Int)-1) then
(atI (K7 b) (Gn a)).bind λe=>
if (Gg e)=true then
some false
else
if GJ a=0 then
(Y3 (GC a) false).bind λc=>
if c then
some (decide (((GN a).length:Int)=0))
else
some false
else
some false
else
some false
else
some false
else
some false
else
if Ge a=5 then
if (Gg d)=true then
if Gn a<Wq (((K7 b).length:Int)-1) then
(atI (K7 b) (Gn a)).bind λe=>
if (Gg e)=true then
some false
else
if GJ a=0 then
(Y3 (GC a) false).bind λc=>
if c then
some (decide (((GN a).length:Int)=0))
else
some false
else
some false
else
some false
else
some false
else
some false
else
if Ge a=3 then
if (Gg d)=true then
if Gn a=Wq (((K7 b).length:Int)-1) then
if GJ a=0 then
(Y3 (GC a) true).bind λc=>
if c then
(Y3 (GN a) true).bind λf=>
some f
else
some false
else
some false
else
some false
else
some false
else
if Ge a=4 then
if Ge a=4 then
if (Gg d)=true then
if Gn a<Wq (((K7 b).length:Int)-1) then
(atI (K7 b) (Gn a)).bind λe=>
if (Gg e)=true then
some false
else
if GJ a=0 then
(Y3 (GC a) false).bind λc=>
if c then
some (decide (((GN a).length:Int)=0))
else
some false
else
some false
else
some false
else
some false
else
some false
else
if Ge a=5 then
if (Gg d)=true then
if Gn a<Wq (((K7 b).length:Int)-1) then
(atI (K7 b) (Gn a)).bind λe=>
if (Gg e)=true then
some false
else
if GJ a=0 then
(Y3 (GC a) false).bind λc=>
if c then
some (decide (((GN a).length:Int)=0))
else
some false
else
some false
else
some false
else
some false
else
some false
else
some false
else
some false
def c59:Ctr:=D2 (QC) (ZfO) (.bool) ZkT
def ZbI (c:Zl) (a:Int) (b:List Int):Option ((Int×(List Int)×Unit) ⊕ List Int):=
if a<((Gj c).length:Int) then
(atI (Gj c) a).bind λd=>
(atI b (Ge d)).bind λe=>
some (.inl (Wq (a+1),List.set b (Int.toNat (Ge d)) (Wq (e+1)),()))
else
some (.inr b)
def Zh3 (a:Zl):Option (List Int):=
Zq (λv=>ZbI a v.1 v.2.1) ((0:Int),List.replicate (Int.toNat (6:Int)) (0:Int),())
def c60:Ctr:=⟨[.dat (QC)],[.own (.ol 2 (.flat Iq))],λa K=>splitK a λb a=>ZV (Zh3 b) λr=>K (r,()) ()⟩
def Zdh (e:Zl) (d:Int) (c:ZC) (a:Int):Option ((Int×Unit) ⊕ ((Int×Unit) ⊕ Bool)):=
if a<d then
(atI (Gj e) a).bind λb=>
if Ge b=Ge c then
if Gi b=Gi c then
if Gn b=Gn c then
some (.inr (.inr false))
else
some (.inl (Wq (a+1),()))
else
some (.inl (Wq (a+1),()))
else
some (.inl (Wq (a+1),()))
else
some (.inr (.inl (Wq (d+1),())))
def Zdi (b:Zl) (a:Int×Bool) (c:Int):Option ((Int×Unit) ⊕ ((Int×Unit) ⊕ Bool)):=
if c<((GH b).length:Int) then
(atI (GH b) c).bind λd=>
(ZQ d 0 1).bind λe=>
if e then
some (.inl (Wq (c+1),()))
else
some (.inr (.inr false))
else
if a.1=0 then
Zt ((0:Int)<=IntKind.wrap IntKind.u64 (Wq (((K7 b).length:Int)-1)))<|
some (.inr (.inr (decide (((GH b).length:Int)=Wq (1*2 ^ Min.min (Int.toNat (IntKind.wrap IntKind.u64 (Wq (((K7 b).length:Int)-1)))) (IntKind.bits IntKind.i64))))))
else
some (.inr (.inr false))
def Zga (b:Zl) (a:Int×Bool) (e:Int):Option ((Int×Unit) ⊕ Bool):=
if e<((Gj b).length:Int) then
(atI (Gj b) e).bind λc=>
(ZkT b c).bind λh=>
if h then
Zq (λv=>Zdh b e c v.1) ((0:Int),())
else
some (.inr false)
else
(Zh3 b).bind λd=>
if GE b=1 then
Zq (λv=>Zdi b a v.1) ((0:Int),())
else
if GE b=2 then
if a.1=1 then
(atI d 1).bind λc=>
if c=0 then
(atI d 2).bind λg=>
(atI d 3).bind λf=>
if (decide (0<g) == decide (0<f))=true then
some (.inr false)
else
some (.inr (decide (((GH b).length:Int)=0)))
else
some (.inr false)
else
some (.inr false)
else
if GE b=3 then
if a.1=1 then
(atI d 1).bind λc=>
if 0<c then
(atI d 2).bind λg=>
if 0<g then
(atI d 3).bind λf=>
if f=0 then
some (.inr (decide (((GH b).length:Int)=0)))
else
some (.inr false)
else
some (.inr false)
else
some (.inr false)
else
some (.inr false)
else
some (.inr false)
def ZkR (a:Zl):Option Bool:=
(Zjw a).bind λb=>
if b.2 then
(Zbr (GQ a)).bind λd=>
if d then
if 8<((Gj a).length:Int) then
some false
else
(ZQ (G4 a) 0 100000).bind λc=>
if c then
(ZQ (G5 a) 0 100000).bind λe=>
if e then
Zq (λv=>Zga a b v.1) ((0:Int),())
else
some false
else
some false
else
some false
else
some false
def c61:Ctr:=D1 (QC) (.bool) ZkR
def ZdC (e:Zp) (b:Int) (c:Zl) (a:Int):Option ((Int×Unit) ⊕ ((Int×Unit) ⊕ Bool)):=
if a<b then
(atI (K8 e) a).bind λd=>
if GQ d=GQ c then
some (.inr (.inr false))
else
some (.inl (Wq (a+1),()))
else
some (.inr (.inl (Wq (b+1),())))
def ZdD (a:Zp) (b:Int):Option ((Int×Unit) ⊕ Bool):=
if b<((K8 a).length:Int) then
(atI (K8 a) b).bind λc=>
(ZkR c).bind λd=>
if d then
Zq (λv=>ZdC a b c v.1) ((0:Int),())
else
some (.inr false)
else
some (.inr (decide (((K8 a).length:Int)<=8)))
def ZgE (a:Zp):Option Bool:=
Zq (λv=>ZdD a v.1) ((0:Int),())
def c62:Ctr:=D1 (YV) (.bool) ZgE
def ZeB (e:Zb) (c:Int) (b:Ze) (a:Int):Option ((Int×Unit) ⊕ ((Int×Unit) ⊕ Bool)):=
if a<((Gb b).length:Int) then
(atI (Gb b) a).bind λd=>
(ZQ d 0 (Wq (((K6 e).length:Int)-1))).bind λf=>
if f then
some (.inl (Wq (a+1),()))
else
some (.inr (.inr false))
else
some (.inr (.inl (Wq (c+1),())))
def ZeC (b:Zb) (a:Int):Option ((Int×Unit) ⊕ ((Int×Unit) ⊕ Bool)):=
if a<((Ga b).length:Int) then
(atI (Ga b) a).bind λc=>
(ZQ (Gz c) 1 2).bind λd=>
if d then
(ZQ (GI c) 0 (Wq (((K6 b).length:Int)-1))).bind λe=>
if e then
some (.inl (Wq (a+1),()))
else
some (.inr (.inr false))
else
some (.inr (.inr false))
else
some (.inr (.inr true))
def ZeD (d:Zp) (b:Zb) (c:Int):Option ((Int×Unit) ⊕ Bool):=
if c<((K1 b).length:Int) then
(atI (K1 b) c).bind λa=>
(ZQ (Gx a) 0 (Wq (((K8 d).length:Int)-1))).bind λf=>
if f then
(atI (K8 d) (Gx a)).bind λe=>
if ((Gb a).length:Int)=((K7 e).length:Int) then
Zq (λv=>ZeB b c a v.1) ((0:Int),())
else
some (.inr false)
else
some (.inr false)
else
Zq (λv=>ZeC b v.1) ((0:Int),())
def Zh4 (a:Zp) (b:Zb):Option Bool:=
Zq (λv=>ZeD a b v.1) ((0:Int),())
def c63:Ctr:=D2 (YV) (Yi) (.bool) Zh4
def Zez (a:List (List UInt8)) (c:Int) (d:List UInt8) (b:Int):Option ((Int×Unit) ⊕ ((Int×Unit) ⊕ Bool)):=
if b<c then
(atI a b).bind λe=>
if e=d then
some (.inr (.inr false))
else
some (.inl (Wq (b+1),()))
else
some (.inr (.inl (Wq (c+1),())))
def ZeA (a:List (List UInt8)) (b:Int):Option ((Int×Unit) ⊕ Bool):=
if b<(a.length:Int) then
(atI a b).bind λc=>
(Zbr c).bind λd=>
if d then
Zq (λv=>Zez a b c v.1) ((0:Int),())
else
some (.inr false)
else
some (.inr true)
def Zdk (a:List (List UInt8)):Option Bool:=
Zq (λv=>ZeA a v.1) ((0:Int),())
def c64:Ctr:=D1 (.sl (.str)) (.bool) Zdk
def Zev (b:List Int) (a:Int):Option ((Int×Unit) ⊕ ((Int×(List Int)×Unit) ⊕ ((Int×(List Int)×Unit) ⊕ (((List (List UInt8))×Int×Unit) ⊕ (((List (List UInt8))×Int×Unit) ⊕ Bool))))):=
if a<(b.length:Int) then
(atI b a).bind λc=>
if c=1 then
some (.inl (Wq (a+1),()))
else
some (.inr (.inr (.inr (.inr (.inr false)))))
else
some (.inr (.inr (.inr (.inr (.inr true)))))
def JM (d:Zb) (b:Int) (a:List Int):Option ((Int×(List Int)×Unit) ⊕ ((Int×(List Int)×Unit) ⊕ (((List (List UInt8))×Int×Unit) ⊕ (((List (List UInt8))×Int×Unit) ⊕ Bool)))):=
if b<((Ga d).length:Int) then
(atI (Ga d) b).bind λc=>
if Gz c=1 then
(atI a (GI c)).bind λe=>
some (.inl (Wq (b+1),List.set a (Int.toNat (GI c)) (Wq (e+1)),()))
else
some (.inl (Wq (b+1),a,()))
else
Zq (λv=>Zev a v.1) ((0:Int),())
def JN (a:Zb) (c:Int) (b:List Int):Option ((Int×(List Int)×Unit) ⊕ (((List (List UInt8))×Int×Unit) ⊕ (((List (List UInt8))×Int×Unit) ⊕ Bool))):=
if c<((K1 a).length:Int) then
(atI (K1 a) c).bind λd=>
(atI (Gb d) (Wq (((Gb d).length:Int)-1))).bind λe=>
(atI b e).bind λf=>
some (.inl (Wq (c+1),List.set b (Int.toNat e) (Wq (f+1)),()))
else
Zq (λv=>JM a v.1 v.2.1) ((0:Int),b,())
def Zew (a:Zb) (f b:List (List UInt8)) (c:Int):Option (((List (List UInt8))×Int×Unit) ⊕ (((List (List UInt8))×Int×Unit) ⊕ Bool)):=
if c<((Ga a).length:Int) then
(atI (Ga a) c).bind λd=>
Zt ((b.length+[GO d].length)*16<=140737488355328)<|
some (.inl (b++[GO d],Wq (c+1),()))
else
(Zdk f).bind λh=>
if h then
(Zdk b).bind λg=>
if g then
(Zdk (K6 a)).bind λe=>
if e then
Zt ((0:Int)<=((K6 a).length:Int))<|
Zt (((K6 a).length:Int)<=((K6 a).length:Int))<|
Zt (((K6 a).length:Int)<=4611686018427387904)<|
Zt (((8:Nat):Int)*((K6 a).length:Int)<=281474976710656)<|
Zq (λv=>JN a v.1 v.2.1) ((0:Int),List.replicate (Int.toNat ((K6 a).length:Int)) (0:Int),())
else
some (.inr (.inr false))
else
some (.inr (.inr false))
else
some (.inr (.inr false))
def Zex (c:Zb) (a:List (List UInt8)) (b:Int):Option (((List (List UInt8))×Int×Unit) ⊕ Bool):=
if b<((K1 c).length:Int) then
(atI (K1 c) b).bind λd=>
Zt ((a.length+[Gu d].length)*16<=140737488355328)<|
some (.inl (a++[Gu d],Wq (b+1),()))
else
Zq (λv=>Zew c a v.1 v.2.1) (([]:List (List UInt8)),(0:Int),())
def Zh0 (b:Zp) (a:Zb):Option Bool:=
(ZgE b).bind λc=>
if c then
if 14<((K1 a).length:Int) then
some false
else
if 30<((K6 a).length:Int) then
some false
else
if 8<((Ga a).length:Int) then
some false
else
(Zh4 b a).bind λd=>
if d then
Zq (λv=>Zex a v.1 v.2.1) (([]:List (List UInt8)),(0:Int),())
else
some false
else
some false
def c65:Ctr:=D2 (YV) (Yi) (.bool) Zh0
def ZdG (c:Int) (b:Ze) (d:List ZE) (a:Int):Option (((List ZE)×Int×Unit) ⊕ (((List ZE)×Int×Unit) ⊕ List ZE)):=
if a<((Gb b).length:Int) then
(atI (Gb b) a).bind λe=>
Zt ((d.length+[(c,a,e,decide (a=Wq (((Gb b).length:Int)-1)),())].length)*32<=140737488355328)<|
some (.inl (d++[(c,a,e,decide (a=Wq (((Gb b).length:Int)-1)),())],Wq (a+1),()))
else
some (.inr (.inl (d,Wq (c+1),())))
def ZdH (d:Zb) (c:List ZE) (a:Int):Option (((List ZE)×Int×Unit) ⊕ (((List ZE)×Int×Unit) ⊕ List ZE)):=
if a<((Ga d).length:Int) then
(atI (Ga d) a).bind λb=>
Zt ((c.length+[((-1:Int),a,GI b,decide (Gz b=1),())].length)*32<=140737488355328)<|
some (.inl (c++[((-1:Int),a,GI b,decide (Gz b=1),())],Wq (a+1),()))
else
some (.inr (.inr c))
def ZdI (b:Zb) (c:List ZE) (a:Int):Option (((List ZE)×Int×Unit) ⊕ List ZE):=
if a<((K1 b).length:Int) then
(atI (K1 b) a).bind λd=>
Zq (λv=>ZdG a d v.1 v.2.1) (c,(0:Int),())
else
Zq (λv=>ZdH b v.1 v.2.1) (c,(0:Int),())
def YI (a:Zb):Option (List ZE):=
Zq (λv=>ZdI a v.1 v.2.1) (([]:List (Int×Int×Int×Bool×Unit)),(0:Int),())
def c66:Ctr:=⟨[.dat (Yi)],[.own (.ol 146 (.flat (Zg1)))],λa K=>splitK a λb a=>ZV (YI b) λr=>K (r,()) ()⟩
def ZeE (d:Int) (a:List ZE) (b:List Int) (c:Int):Option (((List Int)×Int×Unit) ⊕ List Int):=
if c<(a.length:Int) then
(atI a c).bind λe=>
if ZE.net e=d then
if (GU e)=true then
some (.inl (b,Wq (c+1),()))
else
Zt ((b.length+[c].length)*8<=140737488355328)<|
some (.inl (b++[c],Wq (c+1),()))
else
some (.inl (b,Wq (c+1),()))
else
some (.inr b)
def QA (b:Zb) (a:Int):Option (List Int):=
(YI b).bind λc=>
Zq (λv=>ZeE a c v.1 v.2.1) (([]:List Int),(0:Int),())
def c67:Ctr:=⟨[.dat (Yi),.dat Iq],[.own (.ol 2 (.flat Iq))],λa K=>splitK a λc a=>splitK a λb a=>ZV (QA c b) λr=>K (r,()) ()⟩
def Zgb (b:Zo) (a:Int):Option ((Int×Unit) ⊕ ((Int×Unit) ⊕ Bool)):=
if a<((Gk b).length:Int) then
(atI (Gk b) a).bind λc=>
(ZQ c 0 (Wq (((K3 b).length:Int)-1))).bind λd=>
if d then
some (.inl (Wq (a+1),()))
else
some (.inr (.inr false))
else
some (.inr (.inr true))
def Zgc (b:Zo) (a:Int):Option ((Int×Unit) ⊕ Bool):=
if a<((K3 b).length:Int) then
(atI (GD b) a).bind λf=>
(ZQ f 0 500).bind λh=>
if h then
(atI (Gy b) a).bind λe=>
(ZQ e 0 1000).bind λg=>
if g then
if a=0 then
(atI (K3 b) a).bind λc=>
if c=(-1) then
if e=0 then
if 0<a then
(ZQ c 0 (Wq (a-1))).bind λd=>
if d then
some (.inl (Wq (a+1),()))
else
some (.inr false)
else
some (.inl (Wq (a+1),()))
else
some (.inr false)
else
some (.inr false)
else
if 0<a then
(atI (K3 b) a).bind λc=>
(ZQ c 0 (Wq (a-1))).bind λd=>
if d then
some (.inl (Wq (a+1),()))
else
some (.inr false)
else
some (.inl (Wq (a+1),()))
else
some (.inr false)
else
some (.inr false)
else
Zq (λv=>Zgb b v.1) ((0:Int),())
def ZiO (a:Zo) (b:Int):Option Bool:=
if ((K3 a).length:Int)<1 then
some false
else
if 8<((K3 a).length:Int) then
some false
else
if ((Gy a).length:Int)=((K3 a).length:Int) then
if ((GD a).length:Int)=((K3 a).length:Int) then
if ((Gk a).length:Int)=b then
Zq (λv=>Zgc a v.1) ((0:Int),())
else
some false
else
some false
else
some false
def c68:Ctr:=D2 (QD) Iq (.bool) ZiO
def Zfz (b:Za) (a:Int):Option ((Int×Unit) ⊕ Bool):=
if a<((K2 b).length:Int) then
(atI (K2 b) a).bind λc=>
(QA (KZ b) a).bind λd=>
(ZiO c (d.length:Int)).bind λe=>
if e then
some (.inl (Wq (a+1),()))
else
some (.inr false)
else
some (.inr true)
def Zbq (a:Za):Option Bool:=
(Zh0 (K4 a) (KZ a)).bind λb=>
if b then
if ((K2 a).length:Int)=((K6 (KZ a)).length:Int) then
Zq (λv=>Zfz a v.1) ((0:Int),())
else
some false
else
some false
def c69:Ctr:=D1 (ZT) (.bool) Zbq
def Zh5 (a:Zj):Option Bool:=
if K5 a=1 then
if Gs a=0 then
if GF a=0 then
if Gh a=([]:List UInt8) then
some (decide (Wq (Wq (Wq (((K3 (GB a)).length:Int)+((Gy (GB a)).length:Int))+((GD (GB a)).length:Int))+((Gk (GB a)).length:Int))=0))
else
some false
else
some false
else
some false
else
if K5 a=2 then
if Gs a=0 then
if GF a=0 then
some (decide (Wq (Wq (Wq (((K3 (GB a)).length:Int)+((Gy (GB a)).length:Int))+((GD (GB a)).length:Int))+((Gk (GB a)).length:Int))=0))
else
some false
else
some false
else
if K5 a=3 then
if Gc a=0 then
if Gv a=0 then
if Gs a=0 then
if GF a=0 then
if Gh a=([]:List UInt8) then
some (decide (Wq (Wq (Wq (((K3 (GB a)).length:Int)+((Gy (GB a)).length:Int))+((GD (GB a)).length:Int))+((Gk (GB a)).length:Int))=0))
else
some false
else
some false
else
some false
else
some false
else
some false
else
if K5 a=4 then
if Gv a=0 then
if Gh a=([]:List UInt8) then
some (decide (Wq (Wq (Wq (((K3 (GB a)).length:Int)+((Gy (GB a)).length:Int))+((GD (GB a)).length:Int))+((Gk (GB a)).length:Int))=0))
else
some false
else
some false
else
if K5 a=5 then
if Gc a=0 then
if Gv a=0 then
if GF a=0 then
some (decide (Gh a=([]:List UInt8)))
else
some false
else
some false
else
some false
else
some false
def c70:Ctr:=D1 (XO) (.bool) Zh5
def Zh6 (c:Za) (a:Zj):Option Bool:=
(YI (KZ c)).bind λe=>
if K5 a=1 then
if K5 a=1 then
(ZQ (Gc a) 0 (Wq ((e.length:Int)-1))).bind λb=>
if b then
(ZQ (Gv a) 0 (Wq (((K8 (K4 c)).length:Int)-1))).bind λd=>
some d
else
some false
else
if K5 a=4 then
(ZQ (Gc a) 0 (Wq ((e.length:Int)-1))).bind λb=>
if b then
(ZQ (Gs a) 0 (Wq (((K2 c).length:Int)-1))).bind λd=>
if d then
(atI (K2 c) (Gs a)).bind λf=>
(ZQ (GF a) 0 (Wq (((K3 f).length:Int)-1))).bind λg=>
some g
else
some false
else
some false
else
if K5 a=5 then
(ZQ (Gs a) 0 (Wq (((K2 c).length:Int)-1))).bind λb=>
some b
else
some true
else
if K5 a=2 then
(ZQ (Gc a) 0 (Wq ((e.length:Int)-1))).bind λb=>
if b then
(ZQ (Gv a) 0 (Wq (((K8 (K4 c)).length:Int)-1))).bind λd=>
some d
else
some false
else
if K5 a=4 then
(ZQ (Gc a) 0 (Wq ((e.length:Int)-1))).bind λb=>
if b then
(ZQ (Gs a) 0 (Wq (((K2 c).length:Int)-1))).bind λd=>
if d then
(atI (K2 c) (Gs a)).bind λf=>
(ZQ (GF a) 0 (Wq (((K3 f).length:Int)-1))).bind λg=>
some g
else
some false
else
some false
else
if K5 a=5 then
(ZQ (Gs a) 0 (Wq (((K2 c).length:Int)-1))).bind λb=>
some b
else
some true
def c71:Ctr:=D2 (ZT) (XO) (.bool) Zh6
def ZbJ (b e:Zl) (a:Int):Option ((Int×Unit) ⊕ Bool):=
if a<((K7 b).length:Int) then
(atI (K7 b) a).bind λd=>
(atI (K7 e) a).bind λc=>
if (Gg d == Gg c)=true then
some (.inl (Wq (a+1),()))
else
some (.inr false)
else
some (.inr true)
def Zaw (a b:Zl):Option Bool:=
if GE a=GE b then
if ((K7 a).length:Int)=((K7 b).length:Int) then
Zq (λv=>ZbJ a b v.1) ((0:Int),())
else
some false
else
some false
def c72:Ctr:=D2 (QC) (QC) (.bool) Zaw
def VB (a:Zl):Option Bool:=
if GE a=1 then
some (decide (((K7 a).length:Int)=2))
else
some false
def c73:Ctr:=D1 (QC) (.bool) VB
def Zbc (c:Zb) (b:List UInt8) (a:Int):Option ((Int×Unit) ⊕ Int):=
if a<((K1 c).length:Int) then
(atI (K1 c) a).bind λd=>
if Gu d=b then
some (.inr a)
else
some (.inl (Wq (a+1),()))
else
some (.inr (-1))
def Zcp (b:Zb) (a:List UInt8):Option Int:=
Zq (λv=>Zbc b a v.1) ((0:Int),())
def c74:Ctr:=D2 (Yi) (.str) Iq Zcp
def Zey (a:List (List UInt8)) (b:List UInt8) (c:Int):Option ((Int×Unit) ⊕ Int):=
if c<(a.length:Int) then
(atI a c).bind λd=>
if d=b then
some (.inr c)
else
some (.inl (Wq (c+1),()))
else
some (.inr (-1))
def ZkV (b:List (List UInt8)) (a:List UInt8):Option Int:=
Zq (λv=>Zey b a v.1) ((0:Int),())
def c75:Ctr:=D2 (.sl (.str)) (.str) Iq ZkV
def Zh2 (b:Zb) (a:List UInt8):Option Int:=
(ZkV (K6 b) a).bind λc=>
some c
def c76:Ctr:=D2 (Yi) (.str) Iq Zh2
def Zjx (a:Zo):Option Bool:=
if ((K3 a).length:Int)=1 then
(atI (GD a) 0).bind λb=>
some (decide (b=0))
else
some false
def c77:Ctr:=D1 (QD) (.bool) Zjx
def ZeZ (a:Za):Option Bool:=
if Wq (((K1 (KZ a)).length:Int)-1)<0 then
some false
else
(atI (K1 (KZ a)) (Wq (((K1 (KZ a)).length:Int)-1))).bind λb=>
(atI (K8 (K4 a)) (Gx b)).bind λi=>
(VB i).bind λj=>
if j then
(atI (Gb b) 1).bind λh=>
if h=Wq (((K2 a).length:Int)-1) then
(atI (K6 (KZ a)) (Wq (((K2 a).length:Int)-1))).bind λd=>
if d=Gu b then
(atI (Gb b) 0).bind λg=>
if g=Wq (((K2 a).length:Int)-1) then
some false
else
(QA (KZ a) (Wq (((K2 a).length:Int)-1))).bind λe=>
if (e.length:Int)=1 then
(atI (K2 a) (Wq (((K2 a).length:Int)-1))).bind λf=>
(Zjx f).bind λc=>
some c
else
some false
else
some false
else
some false
else
some false
def c78:Ctr:=D1 (ZT) (.bool) ZeZ
def Zdp (b:Za) (a:Zj):Option Bool:=
(YI (KZ b)).bind λe=>
if K5 a=1 then
(atI e (Gc a)).bind λc=>
if 0<=GL c then
if (GU c)=true then
(atI (K1 (KZ b)) (GL c)).bind λd=>
(atI (K8 (K4 b)) (Gx d)).bind λn=>
(atI (K8 (K4 b)) (Gv a)).bind λi=>
(Zaw n i).bind λk=>
some k
else
some false
else
some false
else
if K5 a=2 then
(atI e (Gc a)).bind λc=>
if (GU c)=true then
some false
else
(atI (K8 (K4 b)) (Gv a)).bind λd=>
(VB d).bind λf=>
if f then
(Zbr (Gh a)).bind λl=>
if l then
(Zcp (KZ b) (Gh a)).bind λg=>
if g<0 then
(Zh2 (KZ b) (Gh a)).bind λm=>
some (decide (m<0))
else
some false
else
some false
else
some false
else
if K5 a=3 then
(ZeZ b).bind λh=>
some h
else
if K5 a=4 then
(atI e (Gc a)).bind λc=>
if (GU c)=true then
some false
else
some (!decide (ZE.net c=Gs a))
else
(QA (KZ b) (Gs a)).bind λj=>
(ZiO (GB a) (j.length:Int)).bind λo=>
some o
def c79:Ctr:=D2 (ZT) (XO) (.bool) Zdp
def Vz (a:Za) (b:Zj):Option Int:=
(Zbq a).bind λe=>
if e then
(Zh5 b).bind λf=>
if f then
(Zh6 a b).bind λc=>
if c then
(Zdp a b).bind λd=>
if d then
if K5 b=2 then
if ((K1 (KZ a)).length:Int)=14 then
some 3
else
if ((K2 a).length:Int)=30 then
some 3
else
some 0
else
some 0
else
some 5
else
some 2
else
some 2
else
some 1
def c80:Ctr:=D2 (ZT) (XO) Iq Vz
def QB (a:Za):Option Int:=
(YI (KZ a)).bind λb=>
some (Wq (2*(b.length:Int)))
def c81:Ctr:=D1 (ZT) Iq QB
def ZcT (a:Zv):Option Bool:=
(ZQ (Gd a) (-1000000000) 1000000000).bind λb=>
if b then
(ZQ (Gf a) (-1000000000) 1000000000).bind λc=>
if c then
some (decide (Gd a<=Gf a))
else
some false
else
some false
def c82:Ctr:=D1 (YU) (.bool) ZcT
def Zdr (a:Zv):Option Bool:=
if 0<=Gd a then
if Gd a<=Gf a then
some (decide (Gf a<=1000000))
else
some false
else
some false
def c83:Ctr:=D1 (YU) (.bool) Zdr
def Zaz (a:List Zk) (b c:Int):Option ((Int×Unit) ⊕ Bool):=
if c<(a.length:Int) then
(atI a c).bind λd=>
(ZQ (Gl d) 0 (Wq (b-1))).bind λh=>
if h then
if 0<c then
(atI a (Wq (c-1))).bind λg=>
if Gl d<=Gl g then
some (.inr false)
else
(ZcT (GK d)).bind λf=>
if f then
(Zdr (GR d)).bind λe=>
if e then
some (.inl (Wq (c+1),()))
else
some (.inr false)
else
some (.inr false)
else
(ZcT (GK d)).bind λf=>
if f then
(Zdr (GR d)).bind λe=>
if e then
some (.inl (Wq (c+1),()))
else
some (.inr false)
else
some (.inr false)
else
some (.inr false)
else
some (.inr true)
def ZcY (b:Za) (a:List Zk):Option Bool:=
(QB b).bind λc=>
Zq (λv=>Zaz a c v.1) ((0:Int),())
def c84:Ctr:=D2 (ZT) (.sl (Z7)) (.bool) ZcY
def ZaR (e:Za) (d:Zj) (c:List ZE) (a:List Int) (b:Int):Option (((List Int)×Int×Unit) ⊕ List Int):=
if b<(c.length:Int) then
if K5 d=2 then
if Wq ((c.length:Int)-((Ga (KZ e)).length:Int))<=b then
Zt ((a.length+[Wq (b+2)].length)*8<=140737488355328)<|
some (.inl (a++[Wq (b+2)],Wq (b+1),()))
else
if K5 d=3 then
if Wq ((c.length:Int)-((Ga (KZ e)).length:Int))<=b then
Zt ((a.length+[Wq (b-2)].length)*8<=140737488355328)<|
some (.inl (a++[Wq (b-2)],Wq (b+1),()))
else
if K5 d=3 then
if Wq (Wq ((c.length:Int)-((Ga (KZ e)).length:Int))-2)<=b then
Zt ((a.length+[(-1:Int)].length)*8<=140737488355328)<|
some (.inl (a++[(-1:Int)],Wq (b+1),()))
else
Zt ((a.length+[b].length)*8<=140737488355328)<|
some (.inl (a++[b],Wq (b+1),()))
else
Zt ((a.length+[b].length)*8<=140737488355328)<|
some (.inl (a++[b],Wq (b+1),()))
else
if K5 d=3 then
if Wq (Wq ((c.length:Int)-((Ga (KZ e)).length:Int))-2)<=b then
Zt ((a.length+[(-1:Int)].length)*8<=140737488355328)<|
some (.inl (a++[(-1:Int)],Wq (b+1),()))
else
Zt ((a.length+[b].length)*8<=140737488355328)<|
some (.inl (a++[b],Wq (b+1),()))
else
Zt ((a.length+[b].length)*8<=140737488355328)<|
some (.inl (a++[b],Wq (b+1),()))
else
if K5 d=3 then
if Wq ((c.length:Int)-((Ga (KZ e)).length:Int))<=b then
Zt ((a.length+[Wq (b-2)].length)*8<=140737488355328)<|
some (.inl (a++[Wq (b-2)],Wq (b+1),()))
else
if K5 d=3 then
if Wq (Wq ((c.length:Int)-((Ga (KZ e)).length:Int))-2)<=b then
Zt ((a.length+[(-1:Int)].length)*8<=140737488355328)<|
some (.inl (a++[(-1:Int)],Wq (b+1),()))
else
Zt ((a.length+[b].length)*8<=140737488355328)<|
some (.inl (a++[b],Wq (b+1),()))
else
Zt ((a.length+[b].length)*8<=140737488355328)<|
some (.inl (a++[b],Wq (b+1),()))
else
if K5 d=3 then
if Wq (Wq ((c.length:Int)-((Ga (KZ e)).length:Int))-2)<=b then
Zt ((a.length+[(-1:Int)].length)*8<=140737488355328)<|
some (.inl (a++[(-1:Int)],Wq (b+1),()))
else
Zt ((a.length+[b].length)*8<=140737488355328)<|
some (.inl (a++[b],Wq (b+1),()))
else
Zt ((a.length+[b].length)*8<=140737488355328)<|
some (.inl (a++[b],Wq (b+1),()))
else
some (.inr a)
def ZdY (a:Za) (b:Zj):Option (List Int):=
(YI (KZ a)).bind λc=>
Zq (λv=>ZaR a b c v.1 v.2.1) (([]:List Int),(0:Int),())
def c85:Ctr:=⟨[.dat (ZT),.dat (XO)],[.own (.ol 2 (.flat Iq))],λa K=>splitK a λc a=>splitK a λb a=>ZV (ZdY c b) λr=>K (r,()) ()⟩
def ZaA (c:List Zk) (a:List Int) (b:List Zk) (e:Int):Option (((List Zk)×Int×Unit) ⊕ ((List Zk)×Bool)):=
if e<(c.length:Int) then
(atI c e).bind λd=>
(atI a (Wq (Int.tdiv (Gl d) 2))).bind λf=>
if f<0 then
some (.inr (([]:List Zk),false))
else
Zt ((b.length+[(Wq (Wq ((2:Int)*f)+Int.tmod (Gl d) (2:Int)),d.2)].length)*40<=140737488355328)<|
some (.inl (b++[(Wq (Wq ((2:Int)*f)+Int.tmod (Gl d) (2:Int)),d.2)],Wq (e+1),()))
else
some (.inr (b,true))
def ZiT (c:Za) (b:Zj) (a:List Zk):Option ((List Zk)×Bool):=
(ZdY c b).bind λd=>
Zq (λv=>ZaA a d v.1 v.2.1) (([]:List (Int×Zv×Zv×Unit)),(0:Int),())
def c86:Ctr:=⟨[.dat (ZT),.dat (XO),.dat (.sl (Z7))],[.own (.ol 106 (.flat (Z7))),.dat (.bool)],λa K=>splitK a λd a=>splitK a λc a=>splitK a λb a=>ZV (ZiT d c b) λr=>K (r.1,r.2,()) ()⟩
def Zbd (b:Za) (d:Zj) (a:List Zk):Option ((List Zk)×Int):=
(Vz b d).bind λe=>
if e=0 then
(ZcY b a).bind λf=>
if f then
(ZiT b d a).bind λc=>
if c.2 then
some (c.1,0)
else
some ([],5)
else
some ([],2)
else
some ([],e)
def c87:Ctr:=⟨[.dat (ZT),.dat (XO),.dat (.sl (Z7))],[.own (.ol 106 (.flat (Z7))),.dat Iq],λa K=>splitK a λd a=>splitK a λc a=>splitK a λb a=>ZV (Zbd d c b) λr=>K (r.1,r.2,()) ()⟩
def ZaQ (b:Zh) (a:Int):Option ((Int×Unit) ⊕ Bool):=
if a<((K9 b).length:Int) then
(atI (Gp b) a).bind λc=>
(ZcT c).bind λg=>
if g then
(atI (Gm b) a).bind λd=>
(Zdr d).bind λe=>
if e then
(atI (K9 b) a).bind λf=>
if f then
some (.inl (Wq (a+1),()))
else
if (decide (Gd c=0)&&decide (Gf c=0))=true then
if (decide (Gd d=0)&&decide (Gf d=0))=true then
some (.inl (Wq (a+1),()))
else
some (.inr false)
else
some (.inr false)
else
some (.inr false)
else
some (.inr false)
else
some (.inr true)
def ZdX (b:Int) (a:Zh):Option Bool:=
if ((K9 a).length:Int)=b then
if ((Gp a).length:Int)=b then
if ((Gm a).length:Int)=b then
Zq (λv=>ZaQ a v.1) ((0:Int),())
else
some false
else
some false
else
some false
def c88:Ctr:=D2 Iq (Yf) (.bool) ZdX
def Zh1 (a:Za) (c:Zh):Option Bool:=
(Zbq a).bind λd=>
if d then
(QB a).bind λe=>
(ZdX e c).bind λb=>
some b
else
some false
def c89:Ctr:=D2 (ZT) (Yf) (.bool) Zh1
def XF (a:List Int):Option (List Int):=
Zt ((([]:List Int).length+a.length)*8<=140737488355328)<|
some (([]:List Int)++a)
def c90:Ctr:=⟨[.dat (.sl Iq)],[.own (.ol 2 (.flat Iq))],λa K=>splitK a λb a=>ZV (XF b) λr=>K (r,()) ()⟩
def ZkS (a:Zw):Option Zw:=
(XF (GM a)).bind λc=>
(XF (Gt a)).bind λd=>
(XF (Gr a)).bind λb=>
some (c,d,b,())
def c91:Ctr:=⟨[.dat (Xa)],[.own (ZgI)],λa K=>splitK a λb a=>ZV (ZkS b) λr=>K (r,()) ()⟩
def Jk (b a:List Zw) (c:Int):Option (((List Zw)×Int×Unit) ⊕ List Zw):=
if c<(b.length:Int) then
(atI b c).bind λe=>
(ZkS e).bind λd=>
Zt ((a.length+[d].length)*72<=140737488355328)<|
some (.inl (a++[d],Wq (c+1),()))
else
some (.inr a)
def Zbg (a:List Zw):Option (List Zw):=
Zq (λv=>Jk a v.1 v.2.1) (([]:List Zw),(0:Int),())
def c92:Ctr:=⟨[.dat (.sl (Xa))],[.own (.ol 353 (ZgI))],λa K=>splitK a λb a=>ZV (Zbg b) λr=>K (r,()) ()⟩
def Zdj (c:Zl) (b:List Int) (e:Int) (d:List ZC):Option ((Int×(List ZC)×Unit) ⊕ Zl):=
if e<((Gj c).length:Int) then
(atI (Gj c) e).bind λa=>
(Zbg (GC a)).bind λf=>
(Zbg (GN a)).bind λg=>
Zt ((d.length+[(Ge a,Gi a,Gn a,GJ a,f,g,())].length)*80<=140737488355328)<|
some (.inl (Wq (e+1),d++[(Ge a,Gi a,Gn a,GJ a,f,g,())],()))
else
some (.inr (GQ c,GE c,([]:List (List UInt8×Int×Int×Bool×Unit))++K7 c,d,b,c.2.2.2.2.2))
def ZkU (a:Zl):Option Zl:=
Zt ((([]:List (List UInt8×Int×Int×Bool×Unit)).length+(K7 a).length)*40<=140737488355328)<|
(XF (GH a)).bind λb=>
Zq (λv=>Zdj a b v.1 v.2.1) ((0:Int),([]:List ZC),())
def c93:Ctr:=⟨[.dat (QC)],[.own (Zqi)],λa K=>splitK a λb a=>ZV (ZkU b) λr=>K (r,()) ()⟩
def VZ (d:Zp) (b:Int) (a:List Zl):Option ((Int×(List Zl)×Unit) ⊕ Zp):=
if b<((K8 d).length:Int) then
(atI (K8 d) b).bind λe=>
(ZkU e).bind λc=>
Zt ((a.length+[c].length)*112<=140737488355328)<|
some (.inl (Wq (b+1),a++[c],()))
else
some (.inr (a,()))
def Zcq (a:Zp):Option Zp:=
Zq (λv=>VZ a v.1 v.2.1) ((0:Int),([]:List Zl),())
def c94:Ctr:=⟨[.dat (YV)],[.own (ZnV)],λa K=>splitK a λb a=>ZV (Zcq b) λr=>K (r,()) ()⟩
def Zdl (b:Zb) (d:Int) (c:List Ze):Option ((Int×(List Ze)×Unit) ⊕ Zb):=
if d<((K1 b).length:Int) then
(atI (K1 b) d).bind λa=>
(XF (Gb a)).bind λe=>
Zt ((c.length+[(Gu a,Gx a,e,())].length)*48<=140737488355328)<|
some (.inl (Wq (d+1),c++[(Gu a,Gx a,e,())],()))
else
some (.inr (c,([]:List (List UInt8))++K6 b,([]:List (List UInt8×Int×Int×Unit))++Ga b,()))
def ZkW (a:Zb):Option Zb:=
Zt ((([]:List (List UInt8)).length+(K6 a).length)*16<=140737488355328)<|
Zt ((([]:List (List UInt8×Int×Int×Unit)).length+(Ga a).length)*32<=140737488355328)<|
Zq (λv=>Zdl a v.1 v.2.1) ((0:Int),([]:List Ze),())
def c95:Ctr:=⟨[.dat (Yi)],[.own (ZoU)],λa K=>splitK a λb a=>ZV (ZkW b) λr=>K (r,()) ()⟩
def ZcW (a:Zo):Option Zo:=
(XF (K3 a)).bind λd=>
(XF (Gy a)).bind λe=>
(XF (GD a)).bind λb=>
(XF (Gk a)).bind λc=>
some (d,e,b,c,())
def c96:Ctr:=⟨[.dat (QD)],[.own (Zmr)],λa K=>splitK a λb a=>ZV (ZcW b) λr=>K (r,()) ()⟩
def Zdn (e:Za) (a:Zp) (b:Zb) (d:Int) (c:List Zo):Option ((Int×(List Zo)×Unit) ⊕ Za):=
if d<((K2 e).length:Int) then
(atI (K2 e) d).bind λg=>
(ZcW g).bind λf=>
Zt ((c.length+[f].length)*96<=140737488355328)<|
some (.inl (Wq (d+1),c++[f],()))
else
some (.inr (a,b,c,()))
def ZkX (a:Za):Option Za:=
(Zcq (K4 a)).bind λb=>
(ZkW (KZ a)).bind λc=>
Zq (λv=>Zdn a b c v.1 v.2.1) ((0:Int),([]:List Zo),())
def c97:Ctr:=⟨[.dat (ZT)],[.own (Zhh)],λa K=>splitK a λb a=>ZV (ZkX b) λr=>K (r,()) ()⟩
def ZeF (h:Za) (b:Int) (a:List Int) (c:Int) (d:List Int):Option ((Int×(List Int)×Unit) ⊕ ((Int×(List Int)×Unit) ⊕ List Int)):=
if c<(a.length:Int) then
(atI a c).bind λe=>
(atI (K2 h) b).bind λg=>
(atI (Gk g) c).bind λf=>
(atI d e).bind λi=>
some (.inl (Wq (c+1),List.set d (Int.toNat e) f,()))
else
some (.inr (.inl (Wq (b+1),d,())))
def ZeG (b:Za) (a:Int) (c:List Int):Option ((Int×(List Int)×Unit) ⊕ List Int):=
if a<((K2 b).length:Int) then
(QA (KZ b) a).bind λd=>
Zq (λv=>ZeF b a d v.1 v.2.1) ((0:Int),c,())
else
some (.inr c)
def Zdo (b:Za):Option (List Int):=
(YI (KZ b)).bind λa=>
Zt ((0:Int)<=(a.length:Int))<|
Zt ((a.length:Int)<=(a.length:Int))<|
Zt ((a.length:Int)<=4611686018427387904)<|
Zt (((8:Nat):Int)*(a.length:Int)<=281474976710656)<|
Zq (λv=>ZeG b v.1 v.2.1) ((0:Int),List.replicate (Int.toNat (a.length:Int)) (0:Int),())
def c98:Ctr:=⟨[.dat (ZT)],[.own (.ol 2 (.flat Iq))],λa K=>splitK a λb a=>ZV (Zdo b) λr=>K (r,()) ()⟩
def Zbi (a:Zb) (c:ZE) (d:Int):Option Zb:=
if GL c<0 then
(atI (Ga a) (ZE.pin c)).bind λb=>
some (K1 a,K6 a,List.set (Ga a) (Int.toNat (ZE.pin c)) (GO b,Gz b,d,()),())
else
(atI (K1 a) (GL c)).bind λb=>
(atI b.2.2.1 (ZE.pin c)).bind λe=>
some (List.set (K1 a) (Int.toNat (GL c)) (b.1,b.2.1,List.set b.2.2.1 (Int.toNat (ZE.pin c)) d,()),a.2)
def c99:Ctr:=⟨[.back (ZoU),.dat (Zg1),.dat Iq],[],λa K=>splitK a λc a=>splitK a λd a=>splitK a λb a=>ZV (Zbi c d b) λr=>K () (r,())⟩
def ZdU (a b:Int):Option Zo:=
Zt ((0:Int)<=a)<|
Zt (a<=a)<|
Zt (a<=4611686018427387904)<|
Zt (((8:Nat):Int)*a<=281474976710656)<|
some ([(-1:Int)],[(0:Int)],[b],List.replicate (Int.toNat a) (0:Int),())
def ZH3:Ctr:=⟨[.dat Iq,.dat Iq],[.own (Zmr)],λa K=>splitK a λb a=>splitK a λc a=>ZV (ZdU b c) λr=>K (r,()) ()⟩
def ZdK (d:List Int) (c:Int) (h:List (List Int×List Int×List Int×List Int×Unit)) (a b:List Int) (f:Int):Option (((List Int)×Int×Unit) ⊕ ((Int×(List (List Int×List Int×List Int×List Int×Unit))×Unit) ⊕ Za)):=
if f<(a.length:Int) then
(atI a f).bind λe=>
(atI d e).bind λg=>
Zt ((b.length+[g].length)*8<=140737488355328)<|
some (.inl (b++[g],Wq (f+1),()))
else
(atI h c).bind λe=>
some (.inr (.inl (Wq (c+1),List.set h (Int.toNat c) (e.1,e.2.1,e.2.2.1,b,()),())))
def ZaP (d:Za) (b:List Int) (a:Int) (c:List (List Int×List Int×List Int×List Int×Unit)):Option ((Int×(List (List Int×List Int×List Int×List Int×Unit))×Unit) ⊕ Za):=
if a<(c.length:Int) then
(QA (KZ d) a).bind λe=>
Zq (λv=>ZdK b a c e v.1 v.2.1) (([]:List Int),(0:Int),())
else
some (.inr (K4 d,KZ d,c,()))
def VA (b:Za) (a:List Int):Option Za:=
Zq (λv=>ZaP b a v.1 v.2.1) ((0:Int),K2 b,())
def ZF1:Ctr:=⟨[.own (Zhh),.dat (.sl Iq)],[.own (Zhh)],λa K=>splitK a λc a=>splitK a λb a=>ZV (VA c b) λr=>K (r,()) ()⟩
def Zb8 (b:Za) (c:Zj):Option Za:=
(YI (KZ b)).bind λk=>
(atI k (Gc c)).bind λh=>
(Zdo b).bind λa=>
(atI a (Gc c)).bind λf=>
Zt ((0:Int)<=Wq ((a.length:Int)-((Ga (KZ b)).length:Int)))<|
Zt (Wq ((a.length:Int)-((Ga (KZ b)).length:Int))<=(a.length:Int))<|
(XF (List.take (Int.toNat (Wq ((a.length:Int)-((Ga (KZ b)).length:Int)))-Int.toNat 0) (List.drop (Int.toNat 0) a))).bind λe=>
Zt ((e.length+[f,(0:Int)].length)*8<=140737488355328)<|
Zt ((a.length:Int)<=(a.length:Int))<|
Zt (((e++[f,(0:Int)]).length+(List.take (Int.toNat (a.length:Int)-Int.toNat (Wq ((a.length:Int)-((Ga (KZ b)).length:Int)))) (List.drop (Int.toNat (Wq ((a.length:Int)-((Ga (KZ b)).length:Int)))) a)).length)*8<=140737488355328)<|
(Zbi (KZ b) h ((K2 b).length:Int)).bind λd=>
if Wq ((a.length:Int)-((Ga (KZ b)).length:Int))<=Gc c then
(atI (e++[f,(0:Int)]++List.take (Int.toNat (a.length:Int)-Int.toNat (Wq ((a.length:Int)-((Ga (KZ b)).length:Int)))) (List.drop (Int.toNat (Wq ((a.length:Int)-((Ga (KZ b)).length:Int)))) a)) (Wq (Gc c+2))).bind λj=>
Zt (((K1 d).length+[(Gh c,Gv c,[ZE.net h,((K2 b).length:Int)],())].length)*48<=140737488355328)<|
Zt (((K6 d).length+[Gh c].length)*16<=140737488355328)<|
(ZdU 1 0).bind λg=>
Zt (((K2 b).length+[g].length)*96<=140737488355328)<|
(VA (K4 b,(K1 d++[(Gh c,Gv c,[ZE.net h,((K2 b).length:Int)],())],K6 d++[Gh c],d.2.2),K2 b++[g],()) (List.set (e++[f,(0:Int)]++List.take (Int.toNat (a.length:Int)-Int.toNat (Wq ((a.length:Int)-((Ga (KZ b)).length:Int)))) (List.drop (Int.toNat (Wq ((a.length:Int)-((Ga (KZ b)).length:Int)))) a)) (Int.toNat (Wq (Gc c+2))) (0:Int))).bind λi=>
some i
else
(atI (e++[f,(0:Int)]++List.take (Int.toNat (a.length:Int)-Int.toNat (Wq ((a.length:Int)-((Ga (KZ b)).length:Int)))) (List.drop (Int.toNat (Wq ((a.length:Int)-((Ga (KZ b)).length:Int)))) a)) (Gc c)).bind λj=>
Zt (((K1 d).length+[(Gh c,Gv c,[ZE.net h,((K2 b).length:Int)],())].length)*48<=140737488355328)<|
Zt (((K6 d).length+[Gh c].length)*16<=140737488355328)<|
(ZdU 1 0).bind λg=>
Zt (((K2 b).length+[g].length)*96<=140737488355328)<|
(VA (K4 b,(K1 d++[(Gh c,Gv c,[ZE.net h,((K2 b).length:Int)],())],K6 d++[Gh c],d.2.2),K2 b++[g],()) (List.set (e++[f,(0:Int)]++List.take (Int.toNat (a.length:Int)-Int.toNat (Wq ((a.length:Int)-((Ga (KZ b)).length:Int)))) (List.drop (Int.toNat (Wq ((a.length:Int)-((Ga (KZ b)).length:Int)))) a)) (Int.toNat (Gc c)) (0:Int))).bind λi=>
some i
def ZH4:Ctr:=⟨[.own (Zhh),.dat (XO)],[.own (Zhh)],λa K=>splitK a λb a=>splitK a λc a=>ZV (Zb8 b c) λr=>K (r,()) ()⟩
def ZgF (a:Za):Option Za:=
(Zdo a).bind λb=>
(QA (KZ a) (Wq (((K2 a).length:Int)-1))).bind λi=>
(atI i 0).bind λc=>
(atI b (Wq (Wq ((b.length:Int)-((Ga (KZ a)).length:Int))-2))).bind λd=>
(atI b c).bind λm=>
(atI (K1 (KZ a)) (Wq (((K1 (KZ a)).length:Int)-1))).bind λf=>
(atI f.2.2.1 0).bind λl=>
(YI (List.set (K1 (KZ a)) (Int.toNat (Wq (((K1 (KZ a)).length:Int)-1))) f,(KZ a).2)).bind λh=>
(atI h c).bind λj=>
(Zbi (List.set (K1 (KZ a)) (Int.toNat (Wq (((K1 (KZ a)).length:Int)-1))) f,(KZ a).2) j l).bind λe=>
Zt ((0:Int)<=Wq (Wq ((b.length:Int)-((Ga (KZ a)).length:Int))-2))<|
Zt (Wq (Wq ((b.length:Int)-((Ga (KZ a)).length:Int))-2)<=((List.set b (Int.toNat c) d).length:Int))<|
(XF (List.take (Int.toNat (Wq (Wq ((b.length:Int)-((Ga (KZ a)).length:Int))-2))-Int.toNat 0) (List.drop (Int.toNat 0) (List.set b (Int.toNat c) d)))).bind λg=>
Zt ((0:Int)<=Wq ((b.length:Int)-((Ga (KZ a)).length:Int)))<|
Zt (Wq ((b.length:Int)-((Ga (KZ a)).length:Int))<=((List.set b (Int.toNat c) d).length:Int))<|
Zt (((List.set b (Int.toNat c) d).length:Int)<=((List.set b (Int.toNat c) d).length:Int))<|
Zt ((g.length+(List.take (Int.toNat ((List.set b (Int.toNat c) d).length:Int)-Int.toNat (Wq ((b.length:Int)-((Ga (KZ a)).length:Int)))) (List.drop (Int.toNat (Wq ((b.length:Int)-((Ga (KZ a)).length:Int)))) (List.set b (Int.toNat c) d))).length)*8<=140737488355328)<|
Zt ((0:Int)<=Wq (((K1 (KZ a)).length:Int)-1))<|
Zt (Wq (((K1 (KZ a)).length:Int)-1)<=((K1 e).length:Int))<|
Zt ((0:Int)<=Wq (((K2 a).length:Int)-1))<|
Zt (Wq (((K2 a).length:Int)-1)<=((K6 e).length:Int))<|
Zt (Wq (((K2 a).length:Int)-1)<=((K2 a).length:Int))<|
(VA (K4 a,(List.take (Int.toNat (Wq (((K1 (KZ a)).length:Int)-1))-Int.toNat 0) (List.drop (Int.toNat 0) (K1 e)),List.take (Int.toNat (Wq (((K2 a).length:Int)-1))-Int.toNat 0) (List.drop (Int.toNat 0) (K6 e)),e.2.2),List.take (Int.toNat (Wq (((K2 a).length:Int)-1))-Int.toNat 0) (List.drop (Int.toNat 0) (K2 a)),()) (g++List.take (Int.toNat ((List.set b (Int.toNat c) d).length:Int)-Int.toNat (Wq ((b.length:Int)-((Ga (KZ a)).length:Int)))) (List.drop (Int.toNat (Wq ((b.length:Int)-((Ga (KZ a)).length:Int)))) (List.set b (Int.toNat c) d)))).bind λk=>
some k
def ZH5:Ctr:=⟨[.own (Zhh)],[.own (Zhh)],λa K=>splitK a λb a=>ZV (ZgF b) λr=>K (r,()) ()⟩
def ZbK (j:Za) (b:Zj):Option Za:=
(ZkX j).bind λa=>
(YI (KZ a)).bind λf=>
if K5 b=1 then
(atI f (Gc b)).bind λc=>
(atI (K1 (KZ a)) (GL c)).bind λd=>
some (K4 a,(List.set (K1 (KZ a)) (Int.toNat (GL c)) (d.1,Gv b,d.2.2),(KZ a).2),a.2.2)
else
if K5 b=2 then
(Zb8 a b).bind λg=>
some g
else
if K5 b=3 then
(ZgF a).bind λk=>
some k
else
if K5 b=4 then
(Zdo a).bind λe=>
(atI e (Gc b)).bind λc=>
(atI f (Gc b)).bind λd=>
(Zbi (KZ a) d (Gs b)).bind λl=>
(VA (K4 a,l,a.2.2) (List.set e (Int.toNat (Gc b)) (GF b))).bind λh=>
some h
else
if K5 b=5 then
(ZcW (GB b)).bind λi=>
(atI (K2 a) (Gs b)).bind λc=>
some (K4 a,KZ a,List.set (K2 a) (Int.toNat (Gs b)) i,())
else
some a
def ZF2:Ctr:=⟨[.dat (ZT),.dat (XO)],[.own (Zhh)],λa K=>splitK a λb a=>splitK a λc a=>ZV (ZbK b c) λr=>K (r,()) ()⟩
def Zh8 (a:Int):Option Zh:=
Zt ((0:Int)<=a)<|
Zt (a<=a)<|
Zt (a<=4611686018427387904)<|
Zt (((1:Nat):Int)*a<=281474976710656)<|
Zt (((16:Nat):Int)*a<=281474976710656)<|
some (List.replicate (Int.toNat a) false,List.replicate (Int.toNat a) ((0:Int),(0:Int),()),List.replicate (Int.toNat a) ((0:Int),(0:Int),()),())
def c105:Ctr:=⟨[.dat Iq],[.own (Zcx)],λa K=>splitK a λb a=>ZV (Zh8 b) λr=>K (r,()) ()⟩
def ZaS (f:Zh) (b:List Int) (a:Int) (g:List Bool) (e d:List Zv):Option ((Int×(List Bool)×(List Zv)×(List Zv)×Unit) ⊕ Zh):=
if a<((K9 f).length:Int) then
(atI b (Wq (Int.tdiv a 2))).bind λc=>
if c<0 then
some (.inl (Wq (a+1),g,e,d,()))
else
(atI (K9 f) a).bind λj=>
(atI g (Wq (Wq (2*c)+Int.tmod a 2))).bind λm=>
(atI (Gp f) a).bind λh=>
(atI e (Wq (Wq (2*c)+Int.tmod a 2))).bind λl=>
(atI (Gm f) a).bind λi=>
(atI d (Wq (Wq (2*c)+Int.tmod a 2))).bind λk=>
some (.inl (Wq (a+1),List.set g (Int.toNat (Wq (Wq (2*c)+Int.tmod a 2))) j,List.set e (Int.toNat (Wq (Wq (2*c)+Int.tmod a 2))) h,List.set d (Int.toNat (Wq (Wq (2*c)+Int.tmod a 2))) i,()))
else
some (.inr (g,e,d,()))
def ZgG (b:Za) (c:Zj) (f:Zh):Option Zh:=
(ZbK b c).bind λg=>
(QB g).bind λd=>
(Zh8 d).bind λa=>
(ZdY b c).bind λe=>
Zq (λv=>ZaS f e v.1 v.2.1 v.2.2.1 v.2.2.2.1) ((0:Int),K9 a,Gp a,Gm a,())
def ZH6:Ctr:=⟨[.dat (ZT),.dat (XO),.dat (Yf)],[.own (Zcx)],λa K=>splitK a λc a=>splitK a λb a=>splitK a λd a=>ZV (ZgG c b d) λr=>K (r,()) ()⟩
def ZbX (a:Za) (c:Zj) (b:Zh):Option (Zh×Int):=
(Vz a c).bind λd=>
if d=0 then
(Zh1 a b).bind λf=>
if f then
(ZgG a c b).bind λe=>
some (e,0)
else
some (([],[],[],()),2)
else
some (([],[],[],()),d)
def c107:Ctr:=⟨[.dat (ZT),.dat (XO),.dat (Yf)],[.own (Zcx),.dat Iq],λa K=>splitK a λd a=>splitK a λc a=>splitK a λb a=>ZV (ZbX d c b) λr=>K (r.1,r.2,()) ()⟩
def Zbj (c:Za) (a:Zj):Option (List Int):=
(YI (KZ c)).bind λe=>
if K5 a=1 then
(atI e (Gc a)).bind λb=>
(atI (K1 (KZ c)) (GL b)).bind λd=>
some (Gb d)
else
if K5 a=2 then
(atI e (Gc a)).bind λb=>
some ([ZE.net b,((K2 c).length:Int)])
else
if K5 a=3 then
(atI (K1 (KZ c)) (Wq (((K1 (KZ c)).length:Int)-1))).bind λb=>
(atI (Gb b) 0).bind λd=>
some [d]
else
if K5 a=4 then
(atI e (Gc a)).bind λb=>
some ([ZE.net b,Gs a])
else
some ([Gs a])
def ZH7:Ctr:=D2 (ZT) (XO) (.sl Iq) Zbj
def Qf (a:List Int) (c b:Int):Option ((Int×Unit) ⊕ Bool):=
if b<(a.length:Int) then
(atI a b).bind λd=>
if d=c then
some (.inr true)
else
some (.inl (Wq (b+1),()))
else
some (.inr false)
def ZbL (a:List Int) (b:Int):Option Bool:=
Zq (λv=>Qf a b v.1) ((0:Int),())
def c109:Ctr:=D2 (.sl Iq) Iq (.bool) ZbL
def JQ (b:List Int) (a:List ZE) (c:List Int) (d:Int):Option (((List Int)×Int×Unit) ⊕ List Int):=
if d<(a.length:Int) then
(atI a d).bind λe=>
(ZbL b (ZE.net e)).bind λf=>
if f then
Zt ((c.length+[Wq ((2:Int)*d),Wq (Wq ((2:Int)*d)+1)].length)*8<=140737488355328)<|
some (.inl (c++[Wq ((2:Int)*d),Wq (Wq ((2:Int)*d)+1)],Wq (d+1),()))
else
some (.inl (c,Wq (d+1),()))
else
some (.inr c)
def Zds (b:Za) (a:Zj):Option (List Int):=
(Zbj b a).bind λd=>
(ZbK b a).bind λe=>
(YI (KZ e)).bind λc=>
Zq (λv=>JQ d c v.1 v.2.1) (([]:List Int),(0:Int),())
def ZH8:Ctr:=⟨[.dat (ZT),.dat (XO)],[.own (.ol 2 (.flat Iq))],λa K=>splitK a λc a=>splitK a λb a=>ZV (Zds c b) λr=>K (r,()) ()⟩
def Zeu (a:ZA) (b:Int):Option ((Int×Unit) ⊕ Bool):=
if b<(([G0 a,GZ a,G2 a,G3 a].length):Int) then
(atI ([G0 a,GZ a,G2 a,G3 a]) b).bind λc=>
(ZQ c 100 5000).bind λd=>
if d then
some (.inl (Wq (b+1),()))
else
some (.inr false)
else
(Zbr (G7 a)).bind λe=>
if e then
if G0 a<=GZ a then
some (.inr (decide (G2 a<=G3 a)))
else
some (.inr false)
else
some (.inr false)
def ZfA (a:ZA):Option Bool:=
Zq (λv=>Zeu a v.1) ((0:Int),())
def ZG9:Ctr:=D1 (XW) (.bool) ZfA
def ZfF (b d:Int) (a:List ZE) (c:Int):Option ((Int×Unit) ⊕ Int):=
if c<(a.length:Int) then
(atI a c).bind λe=>
if GL e=b then
if ZE.pin e=d then
some (.inr c)
else
some (.inl (Wq (c+1),()))
else
some (.inl (Wq (c+1),()))
else
some (.inr (-1))
def ZeY (c:Zb) (a b:Int):Option Int:=
(YI c).bind λd=>
Zq (λv=>ZfF a b d v.1) ((0:Int),())
def ZH9:Ctr:=D3 (Yi) Iq Iq Iq ZeY
def Zax (b:List Zx) (c e f g d a:Int):Option (List Zx):=
Zt ((b.length+[(Wq (Wq ((2:Int)*c)+f),Wq (Wq ((2:Int)*e)+g),d,a,())].length)*32<=140737488355328)<|
some (b++[(Wq (Wq ((2:Int)*c)+f),Wq (Wq ((2:Int)*e)+g),d,a,())])
def ZHa:Ctr:=⟨[.own (.ol 224 (.flat (ZcZ))),.dat Iq,.dat Iq,.dat Iq,.dat Iq,.dat Iq,.dat Iq],[.own (.ol 224 (.flat (ZcZ)))],λa K=>splitK a λc a=>splitK a λd a=>splitK a λf a=>splitK a λg a=>splitK a λh a=>splitK a λe a=>splitK a λb a=>ZV (Zax c d f g h e b) λr=>K (r,()) ()⟩
def Zbk (e:ZC) (d h b f:Int) (a:List Zx) (c:Int):Option (((List Zx)×Int×Unit) ⊕ (((List Zx)×Int×Unit) ⊕ List Zx)):=
if c<=1 then
if Ge e=1 then
if GJ e=3 then
(Zax a d h f c 1 b).bind λg=>
some (.inl (g,Wq (c+1),()))
else
if (decide (GJ e=1) == decide (f=c))=true then
(Zax a d h f c 1 b).bind λg=>
some (.inl (g,Wq (c+1),()))
else
some (.inl (a,Wq (c+1),()))
else
if Ge e=2 then
if f=0 then
(Zax a d h f c 1 b).bind λg=>
some (.inl (g,Wq (c+1),()))
else
some (.inl (a,Wq (c+1),()))
else
if Ge e=3 then
if f=1 then
(Zax a d h f c 1 b).bind λg=>
some (.inl (g,Wq (c+1),()))
else
some (.inl (a,Wq (c+1),()))
else
some (.inl (a,Wq (c+1),()))
else
some (.inr (.inl (a,Wq (f+1),())))
def Jy (d:ZC) (c e b:Int) (a:List Zx) (f:Int):Option (((List Zx)×Int×Unit) ⊕ List Zx):=
if f<=1 then
Zq (λv=>Zbk d c e b f v.1 v.2.1) (a,(0:Int),())
else
some (.inr a)
def ZkY (b:List Zx) (d:ZC) (c e a:Int):Option (List Zx):=
Zq (λv=>Jy d c e a v.1 v.2.1) (b,(0:Int),())
def ZIa:Ctr:=⟨[.own (.ol 224 (.flat (ZcZ))),.dat (ZfO),.dat Iq,.dat Iq,.dat Iq],[.own (.ol 224 (.flat (ZcZ)))],λa K=>splitK a λc a=>splitK a λe a=>splitK a λd a=>splitK a λf a=>splitK a λb a=>ZV (ZkY c e d f b) λr=>K (r,()) ()⟩
def ZdF (c:Int) (a:List ZE) (b:Int):Option ((Int×Unit) ⊕ Int):=
if b<(a.length:Int) then
(atI a b).bind λd=>
if ZE.net d=c then
if (GU d)=true then
some (.inr b)
else
some (.inl (Wq (b+1),()))
else
some (.inl (Wq (b+1),()))
else
some (.inr (-1))
def ZdS (b:Zb) (a:Int):Option Int:=
(YI b).bind λc=>
Zq (λv=>ZdF a c v.1) ((0:Int),())
def ZIb:Ctr:=D2 (Yi) Iq Iq ZdS
def ZbM (e:Za) (d:Int) (f:Zl) (c:List Zx) (a:Int):Option (((List Zx)×Int×Unit) ⊕ (((List Zx)×Int×Unit) ⊕ List Zx)):=
if a<((Gj f).length:Int) then
(atI (Gj f) a).bind λb=>
if Ge b<=3 then
(ZeY (KZ e) d (Gi b)).bind λi=>
(ZeY (KZ e) d (Gn b)).bind λh=>
(ZkY c b i h a).bind λg=>
some (.inl (g,Wq (a+1),()))
else
some (.inl (c,Wq (a+1),()))
else
some (.inr (.inl (c,Wq (d+1),())))
def ZeH (f a:Int) (b:List Int) (e:List Zx) (c:Int):Option (((List Zx)×Int×Unit) ⊕ (((List Zx)×Int×Unit) ⊕ (((List Zx)×Int×Unit) ⊕ List Zx))):=
if c<(b.length:Int) then
(atI b c).bind λd=>
(Zax e a d 0 0 2 c).bind λg=>
(Zax g a d 1 1 2 c).bind λh=>
some (.inl (h,Wq (c+1),()))
else
some (.inr (.inl (e,Wq (f+1),())))
def ZeI (b:Za) (c:List Zx) (a:Int):Option (((List Zx)×Int×Unit) ⊕ (((List Zx)×Int×Unit) ⊕ List Zx)):=
if a<((K6 (KZ b)).length:Int) then
(ZdS (KZ b) a).bind λd=>
(QA (KZ b) a).bind λe=>
Zq (λv=>ZeH a d e v.1 v.2.1) (c,(0:Int),())
else
some (.inr (.inr c))
def ZeJ (a:Za) (c:List Zx) (b:Int):Option (((List Zx)×Int×Unit) ⊕ List Zx):=
if b<((K1 (KZ a)).length:Int) then
(atI (K1 (KZ a)) b).bind λe=>
(atI (K8 (K4 a)) (Gx e)).bind λd=>
Zq (λv=>ZbM a b d v.1 v.2.1) (c,(0:Int),())
else
Zq (λv=>ZeI a v.1 v.2.1) (c,(0:Int),())
def Zdq (a:Za):Option (List Zx):=
Zq (λv=>ZeJ a v.1 v.2.1) (([]:List (Int×Int×Int×Int×Unit)),(0:Int),())
def c116:Ctr:=⟨[.dat (ZT)],[.own (.ol 224 (.flat (ZcZ)))],λa K=>splitK a λb a=>ZV (Zdq b) λr=>K (r,()) ()⟩
def ZdL (a:List Int) (d b:Int):Option ((Int×Unit) ⊕ Bool):=
if b<(a.length:Int) then
(atI a b).bind λc=>
(ZQ c 0 (Wq (d-1))).bind λf=>
if f then
if 0<b then
(atI a (Wq (b-1))).bind λe=>
if c<=e then
some (.inr false)
else
some (.inl (Wq (b+1),()))
else
some (.inl (Wq (b+1),()))
else
some (.inr false)
else
some (.inr true)
def ZdV (a:List Int) (b:Int):Option Bool:=
Zq (λv=>ZdL a b v.1) ((0:Int),())
def c117:Ctr:=D2 (.sl Iq) Iq (.bool) ZdV
def ZgY (b:Za) (a:List Int):Option Int:=
(Zbq b).bind λd=>
if d then
(Zdq b).bind λe=>
(ZdV a (e.length:Int)).bind λc=>
if c then
some 0
else
some 2
else
some 1
def ZHb:Ctr:=D2 (ZT) (.sl Iq) Iq ZgY
def Zge (a:List Int) (c b:Int):Option ((Int×Unit) ⊕ Bool):=
if b<(a.length:Int) then
(atI a b).bind λd=>
if d=c then
some (.inr true)
else
some (.inl (Wq (b+1),()))
else
some (.inr false)
def ZkZ (a:List Int) (b:Int):Option Bool:=
Zq (λv=>Zge a b v.1) ((0:Int),())
def c119:Ctr:=D2 (.sl Iq) Iq (.bool) ZkZ
def ZfG (c:List Zx) (b:List Int) (a:List Bool) (d:Int):Option (((List Bool)×Int×Unit) ⊕ List Bool):=
if d<(c.length:Int) then
(ZkZ b d).bind λe=>
Zt ((a.length+[!e].length)*1<=140737488355328)<|
some (.inl (a++[!e],Wq (d+1),()))
else
some (.inr a)
def ZgZ (b:List Zx) (a:List Int):Option (List Bool):=
Zq (λv=>ZfG b a v.1 v.2.1) (([]:List Bool),(0:Int),())
def ZHc:Ctr:=⟨[.dat (.sl (ZcZ)),.dat (.sl Iq)],[.own (.ol 4 (.flat (.bool)))],λa K=>splitK a λc a=>splitK a λb a=>ZV (ZgZ c b) λr=>K (r,()) ()⟩
def Xy (d:Int) (b:List Int) (c f:List Bool) (a:Int):Option ((Int×Unit) ⊕ ((Int×(List Bool)×Unit) ⊕ (((List Int)×(List Bool)×Unit) ⊕ ((List Int)×Bool)))):=
if a<d then
(atI c a).bind λe=>
if e then
some (.inl (Wq (a+1),()))
else
(atI f a).bind λg=>
if g then
some (.inl (Wq (a+1),()))
else
if a=d then
some (.inr (.inr (.inr (([]:List Int),false))))
else
Zt ((b.length+[a].length)*8<=140737488355328)<|
some (.inr (.inr (.inl (b++[a],List.set c (Int.toNat a) true,()))))
else
if a=d then
some (.inr (.inr (.inr (([]:List Int),false))))
else
(atI c a).bind λe=>
Zt ((b.length+[a].length)*8<=140737488355328)<|
some (.inr (.inr (.inl (b++[a],List.set c (Int.toNat a) true,()))))
def JO (h:Int) (d:List Zx) (i:List Bool) (f:List Int) (e:List Bool) (a:Int) (b:List Bool):Option ((Int×(List Bool)×Unit) ⊕ (((List Int)×(List Bool)×Unit) ⊕ ((List Int)×Bool))):=
if a<(d.length:Int) then
(atI i a).bind λg=>
if g then
(atI d a).bind λc=>
(atI e (GA c)).bind λj=>
if j then
some (.inl (Wq (a+1),b,()))
else
(atI b (Gw c)).bind λk=>
some (.inl (Wq (a+1),List.set b (Int.toNat (Gw c)) true,()))
else
some (.inl (Wq (a+1),b,()))
else
Zq (λv=>Xy h f e b v.1) ((0:Int),())
def Vw (b:Int) (c:List Zx) (d:List Bool) (a:List Int) (e:List Bool):Option (((List Int)×(List Bool)×Unit) ⊕ ((List Int)×Bool)):=
if (a.length:Int)<b then
Zq (λv=>JO b c d a e v.1 v.2.1) ((0:Int),List.replicate (Int.toNat b) false,())
else
some (.inr (a,true))
def Zh7 (a:Int) (c:List Zx) (b:List Bool):Option ((List Int)×Bool):=
Zt ((0:Int)<=a)<|
Zt (a<=a)<|
Zt (a<=4611686018427387904)<|
Zt (((1:Nat):Int)*a<=281474976710656)<|
Zq (λv=>Vw a c b v.1 v.2.1) (([]:List Int),List.replicate (Int.toNat a) false,())
def ZIc:Ctr:=⟨[.dat Iq,.dat (.sl (ZcZ)),.dat (.sl (.bool))],[.own (.ol 2 (.flat Iq)),.dat (.bool)],λa K=>splitK a λc a=>splitK a λb a=>splitK a λd a=>ZV (Zh7 c b d) λr=>K (r.1,r.2,()) ()⟩
def VN (b:Za) (a:List Int):Option ((List Int)×Int):=
(ZgY b a).bind λe=>
if e=0 then
(Zdq b).bind λd=>
(QB b).bind λf=>
(ZgZ d a).bind λg=>
(Zh7 f d g).bind λc=>
if c.2 then
some (c.1,0)
else
some ([],7)
else
some ([],e)
def ZHd:Ctr:=⟨[.dat (ZT),.dat (.sl Iq)],[.own (.ol 2 (.flat Iq)),.dat Iq],λa K=>splitK a λc a=>splitK a λb a=>ZV (VN c b) λr=>K (r.1,r.2,()) ()⟩
def Zl6 (c:Za) (h:ZA) (a:List Int) (b:List Zk):Option ((List Int)×Int):=
(Zbq c).bind λi=>
if i then
(ZfA h).bind λf=>
if f then
(ZgY c a).bind λe=>
if e=0 then
(ZcY c b).bind λg=>
if g then
(VN c a).bind λd=>
some (d.1,d.2)
else
some ([],2)
else
some ([],2)
else
some ([],1)
else
some ([],1)
def ZId:Ctr:=⟨[.dat (ZT),.dat (XW),.dat (.sl Iq),.dat (.sl (Z7))],[.own (.ol 2 (.flat Iq)),.dat Iq],λa K=>splitK a λe a=>splitK a λd a=>splitK a λc a=>splitK a λb a=>ZV (Zl6 e d c b) λr=>K (r.1,r.2,()) ()⟩
def Zg0 (c:Za) (d:ZA) (b:List Int) (a:List Zk) (i:Zh):Option Int:=
(Zbq c).bind λj=>
if j then
(ZfA d).bind λg=>
if g then
(QB c).bind λe=>
(ZdX e i).bind λh=>
if h then
(Zl6 c d b a).bind λf=>
some f.2
else
some 1
else
some 1
else
some 1
def c124:Ctr:=⟨[.dat (ZT),.dat (XW),.dat (.sl Iq),.dat (.sl (Z7)),.dat (Yf)],[.dat Iq],λa K=>splitK a λf a=>splitK a λe a=>splitK a λc a=>splitK a λb a=>splitK a λd a=>ZV (Zg0 f e c b d) λr=>K (r,()) ()⟩
def Zh9 (b:Za) (a:List Int):Option Bool:=
(QB b).bind λc=>
(ZdV a c).bind λd=>
some d
def ZIe:Ctr:=D2 (ZT) (.sl Iq) (.bool) Zh9
def Zk0 (a:Zh):Option Zh:=
Zt ((([]:List Bool).length+(K9 a).length)*1<=140737488355328)<|
Zt ((([]:List (Int×Int×Unit)).length+(Gp a).length)*16<=140737488355328)<|
Zt ((([]:List (Int×Int×Unit)).length+(Gm a).length)*16<=140737488355328)<|
some (([]:List Bool)++K9 a,([]:List (Int×Int×Unit))++Gp a,([]:List (Int×Int×Unit))++Gm a,())
def ZIf:Ctr:=⟨[.dat (Yf)],[.own (Zcx)],λa K=>splitK a λb a=>ZV (Zk0 b) λr=>K (r,()) ()⟩
def Zss (f:Zp) (b:Zb) (a:ZE):Option Int:=
if GL a<0 then
some 0
else
(atI (K1 b) (GL a)).bind λd=>
(atI (K8 f) (Gx d)).bind λe=>
(atI (K7 e) (ZE.pin a)).bind λc=>
some (GV c)
def c127:Ctr:=D3 (YV) (Yi) (Zg1) Iq Zss
def ZnH (f:Zo) (a:Int) (b:List Int):Option ((Int×(List Int)×Unit) ⊕ ((Int×(List Int)×Unit) ⊕ List Int)):=
if 0<a then
(atI (K3 f) a).bind λc=>
(atI b c).bind λe=>
(atI b a).bind λd=>
some (.inl (Wq (a-1),List.set b (Int.toNat c) (Wq (e+d)),()))
else
some (.inr (.inr b))
def ZiQ (f:Za) (e:Zo) (b:List ZE) (a:List Int) (c:Int) (d:List Int):Option ((Int×(List Int)×Unit) ⊕ List Int):=
if c<(a.length:Int) then
(atI (Gk e) c).bind λg=>
(atI d g).bind λj=>
(atI a c).bind λh=>
(atI b h).bind λi=>
(Zss (K4 f) (KZ f) i).bind λk=>
some (.inl (Wq (c+1),List.set d (Int.toNat g) (Wq (j+k)),()))
else
Zq (λv=>ZnH e v.1 v.2.1) (Wq ((d.length:Int)-1),d,())
def Zdm (a:Za) (c:Int):Option (List Int):=
(atI (K2 a) c).bind λb=>
(XF (GD b)).bind λf=>
(YI (KZ a)).bind λe=>
(QA (KZ a) c).bind λd=>
Zq (λv=>ZiQ a b e d v.1 v.2.1) ((0:Int),f,())
def ZHe:Ctr:=⟨[.dat (ZT),.dat Iq],[.own (.ol 2 (.flat Iq))],λa K=>splitK a λb a=>splitK a λc a=>ZV (Zdm b c) λr=>K (r,()) ()⟩
def ZiR (a:Za) (b:Zx):Option (ZC×Int):=
(YI (KZ a)).bind λi=>
(atI i (Wq (Int.tdiv (Gw b) 2))).bind λc=>
(atI (K1 (KZ a)) (GL c)).bind λh=>
(atI (K8 (K4 a)) (Gx h)).bind λd=>
(atI (Gj d) (GX b)).bind λg=>
(Zdm a (ZE.net c)).bind λe=>
(atI e 0).bind λf=>
some (g,f)
def ZHf:Ctr:=⟨[.dat (ZT),.dat (ZcZ)],[.dat (ZfO),.dat Iq],λa K=>splitK a λc a=>splitK a λb a=>ZV (ZiR c b) λr=>K (r.1,r.2,()) ()⟩
def Zat (a:List Int) (e d c b:Int):Option ((Int×Unit) ⊕ (Int×Int×Int)):=
if 0<=b then
(atI a b).bind λf=>
if Min.min (Max.max e d) c=f then
some (.inr (b,1,0))
else
if f<Min.min (Max.max e d) c then
(atI a (Wq (b+1))).bind λg=>
some (.inr (b,Wq (g-Min.min (Max.max e d) c),Wq (Min.min (Max.max e d) c-f)))
else
some (.inl (Wq (b-1),()))
else
some (.inr (0,1,0))
def ZcV (a:List Int) (d:Int):Option (Int×Int×Int):=
(atI a 0).bind λc=>
(atI a (Wq ((a.length:Int)-1))).bind λb=>
Zq (λv=>Zat a d c b v.1) (Wq ((a.length:Int)-1),())
def c130:Ctr:=⟨[.dat (.sl Iq),.dat Iq],[.dat Iq,.dat Iq,.dat Iq],λa K=>splitK a λb a=>splitK a λc a=>ZV (ZcV b c) λr=>K (r.1,r.2.1,r.2.2,()) ()⟩
def Xe (b a c:Int):Option Int:=
Zt (a≠0)<|
if Int.tmod b a<0 then
if c=0 then
some (Wq (Wq (Int.tdiv b a)-1))
else
if 0<Int.tmod b a then
if c=1 then
some (Wq (Wq (Int.tdiv b a)+1))
else
some (Wq (Int.tdiv b a))
else
some (Wq (Int.tdiv b a))
else
if 0<Int.tmod b a then
if c=1 then
some (Wq (Wq (Int.tdiv b a)+1))
else
some (Wq (Int.tdiv b a))
else
some (Wq (Int.tdiv b a))
def c131:Ctr:=D3 Iq Iq Iq Iq Xe
def Qp (e:Zw) (a b:Int×Int×Int) (g d c:Int):Option ((Int×Int×Unit) ⊕ ((Int×Int×Unit) ⊕ Int)):=
if c<2 then
if g=1 then
if c=0 then
if 0<Wq (a.2.2*b.2.1) then
(atI (Gr e) (Wq (Wq (Wq (Wq (a.1+g)*((Gt e).length:Int))+b.1)+c))).bind λf=>
some (.inl (Wq (d+Wq (Wq (a.2.2*b.2.1)*f)),Wq (c+1),()))
else
some (.inl (d,Wq (c+1),()))
else
if 0<Wq (a.2.2*b.2.2) then
(atI (Gr e) (Wq (Wq (Wq (Wq (a.1+g)*((Gt e).length:Int))+b.1)+c))).bind λf=>
some (.inl (Wq (d+Wq (Wq (a.2.2*b.2.2)*f)),Wq (c+1),()))
else
some (.inl (d,Wq (c+1),()))
else
if c=0 then
if 0<Wq (a.2.1*b.2.1) then
(atI (Gr e) (Wq (Wq (Wq (Wq (a.1+g)*((Gt e).length:Int))+b.1)+c))).bind λf=>
some (.inl (Wq (d+Wq (Wq (a.2.1*b.2.1)*f)),Wq (c+1),()))
else
some (.inl (d,Wq (c+1),()))
else
if 0<Wq (a.2.1*b.2.2) then
(atI (Gr e) (Wq (Wq (Wq (Wq (a.1+g)*((Gt e).length:Int))+b.1)+c))).bind λf=>
some (.inl (Wq (d+Wq (Wq (a.2.1*b.2.2)*f)),Wq (c+1),()))
else
some (.inl (d,Wq (c+1),()))
else
some (.inr (.inl (d,Wq (g+1),())))
def Q8 (e:Zw) (f:Int) (a b:Int×Int×Int) (c d:Int):Option ((Int×Int×Unit) ⊕ Int):=
if d<2 then
Zq (λv=>Qp e a b d v.1 v.2.1) (c,(0:Int),())
else
(Xe c (Wq (Wq (a.2.1+a.2.2)*Wq (b.2.1+b.2.2))) f).bind λg=>
some (.inr g)
def ZcU (a:Zw) (c b d:Int):Option Int:=
(ZcV (GM a) c).bind λe=>
(ZcV (Gt a) b).bind λf=>
Zq (λv=>Q8 a d e f v.1 v.2.1) ((0:Int),(0:Int),())
def ZHg:Ctr:=D4 (Xa) Iq Iq Iq Iq ZcU
def ZiS (b:Za) (a:Zx):Option Int:=
(YI (KZ b)).bind λc=>
(atI c (Wq (Int.tdiv (Gw a) 2))).bind λd=>
some (ZE.net d)
def ZHh:Ctr:=D2 (ZT) (ZcZ) Iq ZiS
def ZdJ (g:Zo) (a b:List Int) (c:Int):Option (((List Int)×Int×Unit) ⊕ List Int):=
if c<(a.length:Int) then
(atI (K3 g) c).bind λh=>
(atI b h).bind λf=>
(atI (Gy g) c).bind λe=>
(atI a c).bind λd=>
Zt ((b.length+[Wq (f+Wq (e*d))].length)*8<=140737488355328)<|
some (.inl (b++[Wq (f+Wq (e*d))],Wq (c+1),()))
else
some (.inr b)
def ZdT (b:Za) (a:Int):Option (List Int):=
(atI (K2 b) a).bind λc=>
(Zdm b a).bind λd=>
Zq (λv=>ZdJ c d v.1 v.2.1) ([(0:Int)],(1:Int),())
def ZHi:Ctr:=⟨[.dat (ZT),.dat Iq],[.own (.ol 2 (.flat Iq))],λa K=>splitK a λc a=>splitK a λb a=>ZV (ZdT c b) λr=>K (r,()) ()⟩
def Zbh (j:Za) (d c:Int) (a b:List Int) (e:Int):Option (((List Int)×Int×Unit) ⊕ List Int):=
(atI (K2 j) d).bind λf=>
if e<((Gk f).length:Int) then
(atI (Gk f) e).bind λi=>
(atI a i).bind λh=>
(Xe h 1000 c).bind λg=>
Zt ((b.length+[g].length)*8<=140737488355328)<|
some (.inl (b++[g],Wq (e+1),()))
else
some (.inr b)
def Zcr (c:Za) (a b:Int):Option (List Int):=
(ZdT c a).bind λd=>
Zq (λv=>Zbh c a b d v.1 v.2.1) (([]:List Int),(0:Int),())
def ZIg:Ctr:=⟨[.dat (ZT),.dat Iq,.dat Iq],[.own (.ol 2 (.flat Iq))],λa K=>splitK a λd a=>splitK a λc a=>splitK a λb a=>ZV (Zcr d c b) λr=>K (r,()) ()⟩
def ZdW (c:ZA) (b a:Int):Option Int:=
if b=1 then
if a=0 then
some (G0 c)
else
some (GZ c)
else
if a=0 then
some (G2 c)
else
some (G3 c)
def ZIh:Ctr:=D3 (XW) Iq Iq Iq ZdW
def ZbN (g:Za) (h:ZA) (b:Zx) (c a:Int):Option Int:=
if GT b=1 then
(ZiR g b).bind λi=>
(atI i.1.2.2.2.2.1 (Int.tmod (Gw b) 2)).bind λf=>
(ZcU f c i.2 a).bind λk=>
(ZdW h (GT b) a).bind λd=>
(Xe (Wq (k*d)) 1000 a).bind λe=>
some e
else
(ZiS g b).bind λj=>
(Zcr g j a).bind λl=>
(atI l (GX b)).bind λf=>
(ZdW h (GT b) a).bind λd=>
(Xe (Wq (f*d)) 1000 a).bind λe=>
some e
def ZIi:Ctr:=⟨[.dat (ZT),.dat (XW),.dat (ZcZ),.dat Iq,.dat Iq],[.dat Iq],λa K=>splitK a λf a=>splitK a λe a=>splitK a λd a=>splitK a λb a=>splitK a λc a=>ZV (ZbN f e d b c) λr=>K (r,()) ()⟩
def Zav (d c a b:Int):Option ((Int×Int×Unit) ⊕ Int):=
if a<b then
if Wq (Wq (Int.tdiv (Wq (Wq (a+b)+1)) 2)*Wq (Int.tdiv (Wq (Wq (a+b)+1)) 2))<=d then
some (.inl (Wq (Int.tdiv (Wq (Wq (a+b)+1)) 2),b,()))
else
some (.inl (a,Wq (Wq (Int.tdiv (Wq (Wq (a+b)+1)) 2)-1),()))
else
if c=1 then
if Wq (a*a)<d then
some (.inr (Wq (a+1)))
else
some (.inr a)
else
some (.inr a)
def ZgX (b a:Int):Option Int:=
Zq (λv=>Zav b a v.1 v.2.1) ((0:Int),(2000000000:Int),())
def c138:Ctr:=D2 Iq Iq Iq ZgX
def Zl4 (f:Za) (c d a b:Int):Option Int:=
(atI (K2 f) c).bind λh=>
(atI (Gk h) d).bind λj=>
(ZdT f c).bind λk=>
(atI k j).bind λe=>
(ZgX (Wq (Wq (Wq (1000000*a)*a)+Wq (Wq (4*e)*e))) b).bind λi=>
(Xe i 1000 b).bind λg=>
some g
def c139:Ctr:=⟨[.dat (ZT),.dat Iq,.dat Iq,.dat Iq,.dat Iq],[.dat Iq],λa K=>splitK a λf a=>splitK a λe a=>splitK a λd a=>splitK a λb a=>splitK a λc a=>ZV (Zl4 f e d b c) λr=>K (r,()) ()⟩
def ZcX (d:Za) (c:Zx) (a b:Int):Option Int:=
if GT c=1 then
(ZiR d c).bind λe=>
(atI e.1.2.2.2.2.2.1 (Int.tmod (Gw c) 2)).bind λi=>
(ZcU i a e.2 b).bind λg=>
some g
else
(ZiS d c).bind λf=>
(Zl4 d f (GX c) a b).bind λh=>
some (Min.min 1000000 h)
def ZIj:Ctr:=D4 (ZT) (ZcZ) Iq Iq Iq ZcX
def ZfH (a:Za) (d:ZA) (b:Zx) (c:Zv):Option (Zv×Zv):=
(ZbN a d b (Gd c) 0).bind λl=>
(ZbN a d b (Gd c) 1).bind λi=>
(ZcX a b (Gd c) 0).bind λe=>
(ZcX a b (Gd c) 1).bind λj=>
(ZbN a d b (Gf c) 0).bind λf=>
(ZbN a d b (Gf c) 1).bind λk=>
(ZcX a b (Gf c) 0).bind λg=>
(ZcX a b (Gf c) 1).bind λh=>
some ((Min.min l f,Max.max i k,()),(Min.min e g,Max.max j h,()))
def c141:Ctr:=⟨[.dat (ZT),.dat (XW),.dat (ZcZ),.dat (YU)],[.dat (YU),.dat (YU)],λa K=>splitK a λc a=>splitK a λb a=>splitK a λd a=>splitK a λe a=>ZV (ZfH c b d e) λr=>K (r.1,r.2,()) ()⟩
def Zl7 (a b:Zv):Option Zv:=
some (Min.min (Gd a) (Gd b),Max.max (Gf a) (Gf b),())
def ZIk:Ctr:=D2 (YU) (YU) (YU) Zl7
def Qq (r:Za) (t:ZA) (o:List Zx) (u:List Bool) (l:Zh) (k:Int) (e:Bool) (a j h d g f:Int):Option ((Bool×Int×Int×Int×Int×Int×Int×Unit) ⊕ ((Bool×Int×Int×Int×Int×Int×Int×Unit) ⊕ (Bool×Zk))):=
if a<(o.length:Int) then
(atI o a).bind λc=>
(atI u a).bind λs=>
if s then
if Gw c=k then
(atI (K9 l) (GA c)).bind λp=>
if p then
(atI (Gm l) (GA c)).bind λq=>
(ZfH r t c q).bind λb=>
(atI (Gp l) (GA c)).bind λi=>
if e then
(Zl7 (Wq (Gd i+b.1.1),Wq (Gf i+b.1.2.1),()) (h,d,())).bind λn=>
(Zl7 b.2 (g,f,())).bind λm=>
some (.inl (true,Wq (a+1),k,Gd n,Gf n,Gd m,Gf m,()))
else
some (.inl (true,Wq (a+1),k,Wq (Gd i+b.1.1),Wq (Gf i+b.1.2.1),b.2.1,b.2.2.1,()))
else
some (.inl (e,Wq (a+1),j,h,d,g,f,()))
else
some (.inl (e,Wq (a+1),j,h,d,g,f,()))
else
some (.inl (e,Wq (a+1),j,h,d,g,f,()))
else
some (.inr (.inr (e,(j,(h,d,()),(g,f,()),()))))
def Zay (l:Za) (k:ZA) (n:List Zx) (o:List Bool) (d:List Zk) (m:Zh) (f:Int) (e:Bool) (b i c j h g:Int):Option ((Bool×Int×Int×Int×Int×Int×Int×Unit) ⊕ (Bool×Zk)):=
if b<(d.length:Int) then
(atI d b).bind λa=>
if Gl a=f then
some (.inl (true,Wq (b+1),Gl a,Gd (GK a),Gf (GK a),Gd (GR a),Gf (GR a),()))
else
some (.inl (e,Wq (b+1),i,c,j,h,g,()))
else
Zq (λv=>Qq l k n o m f v.1 v.2.1 v.2.2.1 v.2.2.2.1 v.2.2.2.2.1 v.2.2.2.2.2.1 v.2.2.2.2.2.2.1) (e,(0:Int),i,c,j,h,g,())
def Ze0 (f:Za) (c:ZA) (e:List Zx) (g:List Bool) (a:List Zk) (d:Zh) (b:Int):Option (Bool×Zk):=
Zq (λv=>Zay f c e g a d b v.1 v.2.1 v.2.2.1 v.2.2.2.1 v.2.2.2.2.1 v.2.2.2.2.2.1 v.2.2.2.2.2.2.1) (false,(0:Int),(0:Int),(0:Int),(0:Int),(0:Int),(0:Int),())
def c143:Ctr:=⟨[.dat (ZT),.dat (XW),.dat (.sl (ZcZ)),.dat (.sl (.bool)),.dat (.sl (Z7)),.dat (Yf),.dat Iq],[.dat (.bool),.dat (Z7)],λa K=>splitK a λe a=>splitK a λd a=>splitK a λg a=>splitK a λh a=>splitK a λb a=>splitK a λf a=>splitK a λc a=>ZV (Ze0 e d g h b f c) λr=>K (r.1,r.2,()) ()⟩
def Zgf (c:Zh) (a:Int) (b:Bool) (d:Zk):Option (Bool×Zh):=
if b then
(atI (K9 c) a).bind λg=>
if (g == b)=true then
(atI (Gp c) a).bind λf=>
if (decide (Gd f=Gd (GK d))&&decide (Gf f=Gf (GK d)))=true then
(atI (Gm c) a).bind λe=>
some (!(decide (Gd e=Gd (GR d))&&decide (Gf e=Gf (GR d))),(List.set (K9 c) (Int.toNat a) b,List.set (Gp c) (Int.toNat a) (GK d),List.set (Gm c) (Int.toNat a) (GR d),()))
else
(atI (Gm c) a).bind λe=>
some (true,(List.set (K9 c) (Int.toNat a) b,List.set (Gp c) (Int.toNat a) (GK d),List.set (Gm c) (Int.toNat a) (GR d),()))
else
(atI (Gp c) a).bind λf=>
(atI (Gm c) a).bind λe=>
some (true,(List.set (K9 c) (Int.toNat a) b,List.set (Gp c) (Int.toNat a) (GK d),List.set (Gm c) (Int.toNat a) (GR d),()))
else
(atI (K9 c) a).bind λg=>
if (g == b)=true then
(atI (Gp c) a).bind λf=>
if (decide (Gd f=0)&&decide (Gf f=0))=true then
(atI (Gm c) a).bind λe=>
some (!(decide (Gd e=0)&&decide (Gf e=0)),(List.set (K9 c) (Int.toNat a) b,List.set (Gp c) (Int.toNat a) (0,0,()),List.set (Gm c) (Int.toNat a) (0,0,()),()))
else
(atI (Gm c) a).bind λe=>
some (true,(List.set (K9 c) (Int.toNat a) b,List.set (Gp c) (Int.toNat a) (0,0,()),List.set (Gm c) (Int.toNat a) (0,0,()),()))
else
(atI (Gp c) a).bind λf=>
(atI (Gm c) a).bind λe=>
some (true,(List.set (K9 c) (Int.toNat a) b,List.set (Gp c) (Int.toNat a) (0,0,()),List.set (Gm c) (Int.toNat a) (0,0,()),()))
def ZIl:Ctr:=⟨[.back (Zcx),.dat Iq,.dat (.bool),.dat (Z7)],[.dat (.bool)],λa K=>splitK a λe a=>splitK a λc a=>splitK a λb a=>splitK a λd a=>ZV (Zgf e c b d) λr=>K (r.1,()) (r.2,())⟩
def Vh (t:Za) (u:ZA) (w:List Zk) (a:List Zx) (c:List Bool) (h:List Int) (n:Int) (l:List Bool) (o p:List Zv) (k:List Bool) (j i:List Zv) (f:List Bool) (b:Int) (q:Bool) (e:Int):Option ((Bool×Int×Unit) ⊕ (((List Int)×Int×(List Bool)×(List Zv)×(List Zv)×(List Bool)×(List Zv)×(List Zv)×(List Bool)×Unit) ⊕ (Zh×(List Int)×Bool))):=
if e<(a.length:Int) then
if q then
some (.inl (true,Wq (e+1),()))
else
(atI c e).bind λm=>
if m then
(atI a e).bind λr=>
if Gw r=b then
(atI f (GA r)).bind λs=>
some (.inl (s,Wq (e+1),()))
else
some (.inl (false,Wq (e+1),()))
else
some (.inl (false,Wq (e+1),()))
else
if q then
(Ze0 t u a c w (k,j,i,()) b).bind λg=>
if g.1 then
(ZcT g.2.2.1).bind λv=>
if v then
(Zgf (k,j,i,()) b g.1 g.2).bind λd=>
(atI f b).bind λm=>
Zt ((h.length+[b].length)*8<=140737488355328)<|
some (.inr (.inl (h++[b],Wq (n+1),l,o,p,d.2.1,d.2.2.1,d.2.2.2.1,List.set f (Int.toNat b) d.1,())))
else
some (.inr (.inr ((([]:List Bool),([]:List Zv),([]:List Zv),()),([]:List Int),false)))
else
(Zgf (k,j,i,()) b g.1 g.2).bind λd=>
(atI f b).bind λm=>
Zt ((h.length+[b].length)*8<=140737488355328)<|
some (.inr (.inl (h++[b],Wq (n+1),l,o,p,d.2.1,d.2.2.1,d.2.2.2.1,List.set f (Int.toNat b) d.1,())))
else
some (.inr (.inl (h,Wq (n+1),l,o,p,k,j,i,f,())))
def Ql (k:Za) (n:ZA) (r:List Zk) (p:List Int) (b:List Zx) (c:List Bool) (a:List Int×Int) (h:List Int) (d:Int) (m:List Bool) (o q:List Zv) (i:List Bool) (g f:List Zv) (j:List Bool):Option (((List Int)×Int×(List Bool)×(List Zv)×(List Zv)×(List Bool)×(List Zv)×(List Zv)×(List Bool)×Unit) ⊕ (Zh×(List Int)×Bool)):=
if d<(a.1.length:Int) then
(atI a.1 d).bind λe=>
(ZbL p e).bind λl=>
Zq (λv=>Vh k n r b c h d m o q i g f j e v.1 v.2.1) (l,(0:Int),())
else
some (.inr ((i,g,f,()),h,true))
def ZjN (b:Za) (j:ZA) (d:List Int) (k:List Zk) (g:Zh) (i:List Int):Option (Zh×(List Int)×Bool):=
(Zdq b).bind λe=>
(ZgZ e d).bind λh=>
(VN b d).bind λf=>
(Zk0 g).bind λc=>
(QB b).bind λa=>
Zt ((0:Int)<=a)<|
Zt (a<=a)<|
Zt (a<=4611686018427387904)<|
Zt (((1:Nat):Int)*a<=281474976710656)<|
Zq (λv=>Ql b j k i e h f v.1 v.2.1 v.2.2.1 v.2.2.2.1 v.2.2.2.2.1 v.2.2.2.2.2.1 v.2.2.2.2.2.2.1 v.2.2.2.2.2.2.2.1 v.2.2.2.2.2.2.2.2.1) (([]:List Int),(0:Int),([]:List Bool),([]:List Zv),([]:List Zv),K9 c,Gp c,Gm c,List.replicate (Int.toNat a) false,())
def c145:Ctr:=⟨[.dat (ZT),.dat (XW),.dat (.sl Iq),.dat (.sl (Z7)),.dat (Yf),.dat (.sl Iq)],[.own (Zcx),.own (.ol 2 (.flat Iq)),.dat (.bool)],λa K=>splitK a λd a=>splitK a λc a=>splitK a λf a=>splitK a λg a=>splitK a λb a=>splitK a λe a=>ZV (ZjN d c f g b e) λr=>K (r.1,r.2.1,r.2.2,()) ()⟩
def Zbe (e:Za) (g:ZA) (b:List Int) (a:List Zk) (f:Zh) (c:List Int):Option (Zh×(List Int)×Int):=
(Zg0 e g b a f).bind λh=>
if h=0 then
(Zh9 e c).bind λi=>
if i then
(ZjN e g b a f c).bind λd=>
if d.2.2 then
some (d.1,d.2.1,0)
else
some (([],[],[],()),[],3)
else
some (([],[],[],()),[],2)
else
some (([],[],[],()),[],h)
def c146:Ctr:=⟨[.dat (ZT),.dat (XW),.dat (.sl Iq),.dat (.sl (Z7)),.dat (Yf),.dat (.sl Iq)],[.own (Zcx),.own (.ol 2 (.flat Iq)),.dat Iq],λa K=>splitK a λg a=>splitK a λf a=>splitK a λc a=>splitK a λb a=>splitK a λe a=>splitK a λd a=>ZV (Zbe g f c b e d) λr=>K (r.1,r.2.1,r.2.2,()) ()⟩
def JY (c:Za) (b:Zj) (j:ZA) (a:List Zk) (h:Zh):Option (Zh×(List Int)×Int):=
(Zbd c b a).bind λf=>
if f.2=0 then
(ZbX c b h).bind λe=>
if e.2=0 then
(ZbK c b).bind λg=>
(Zds c b).bind λi=>
(Zbe g j (([]:List Int)) f.1 e.1 i).bind λd=>
some (d.1,d.2.1,d.2.2)
else
some (([],[],[],()),[],e.2)
else
some (([],[],[],()),[],f.2)
def ZIm:Ctr:=⟨[.dat (ZT),.dat (XO),.dat (XW),.dat (.sl (Z7)),.dat (Yf)],[.own (Zcx),.own (.ol 2 (.flat Iq)),.dat Iq],λa K=>splitK a λf a=>splitK a λe a=>splitK a λd a=>splitK a λb a=>splitK a λc a=>ZV (JY f e d b c) λr=>K (r.1,r.2.1,r.2.2,()) ()⟩
def Yr (c b a:Int):Option Bool:=
if b<=c then
some (decide (c<=a))
else
some false
def c148:Ctr:=D3 Iq Iq Iq (.bool) Yr
def Zem (a:List UInt8):Option Bool:=
(Yr (a.length:Int) 1 8).bind λc=>
if c then
Zt (a.length<=1000000)<|
if Go.Lib.trimS a [(97:UInt8),98,99,100,101,102,103,104,105,106,107,108,109,110,111,112,113,114,115,116,117,118,119,120,121,122,48,49,50,51,52,53,54,55,56,57]=([]:List UInt8) then
(atI a 0).bind λb=>
some (decide ((0:Int)<=Go.Lib.indexByte [(97:UInt8),98,99,100,101,102,103,104,105,106,107,108,109,110,111,112,113,114,115,116,117,118,119,120,121,122] (Nat.toUInt8 (Int.toNat ((UInt8.toNat b):Int)))))
else
some false
else
some false
def ZFH:Ctr:=D1 (.str) (.bool) Zem
def ZaM (a:List YN):Option Int:=
some (a.length:Int)
def ZHj:Ctr:=D1 (.sl (Ze1)) Iq ZaM
def Xi (b:List (List UInt8)) (d:List UInt8) (a:Int):Option ((Int×Unit) ⊕ Int):=
if a<(b.length:Int) then
(atI b a).bind λc=>
if d=c then
some (.inr a)
else
some (.inl (Wq (a+1),()))
else
some (.inr (-1))
def Y8 (b:List (List UInt8)) (a:List UInt8):Option Int:=
Zq (λv=>Xi b a v.1) ((0:Int),())
def ZHk:Ctr:=D2 (.sl (.str)) (.str) Iq Y8
def Qo (b:List (List UInt8)) (a:List UInt8):Option Bool:=
(Y8 b a).bind λc=>
some (decide (0<=c))
def c152:Ctr:=D2 (.sl (.str)) (.str) (.bool) Qo
def Zek (a:List (List UInt8)) (b:Int):Option ((Int×Unit) ⊕ Bool):=
if b<(a.length:Int) then
(atI a b).bind λc=>
(Zem c).bind λd=>
if d then
Zt ((0:Int)<=b)<|
Zt (b<=(a.length:Int))<|
(Qo (List.take (Int.toNat b-Int.toNat 0) (List.drop (Int.toNat 0) a)) c).bind λe=>
if e then
some (.inr false)
else
some (.inl (Wq (b+1),()))
else
some (.inr false)
else
some (.inr true)
def Zaf (a:List (List UInt8)):Option Bool:=
Zq (λv=>Zek a v.1) ((0:Int),())
def ZF3:Ctr:=D1 (.sl (.str)) (.bool) Zaf
def Zag (b:List YN) (a:List (List UInt8)) (d:Int):Option (((List (List UInt8))×Int×Unit) ⊕ Bool):=
if d<(b.length:Int) then
(atI b d).bind λc=>
Zt ((a.length+[GG c].length)*16<=140737488355328)<|
if d=Wq ((b.length:Int)-1) then
if GW c=2 then
if GV c=0 then
if (Gg c)=true then
some (.inr false)
else
some (.inl (a++[GG c],Wq (d+1),()))
else
some (.inr false)
else
some (.inr false)
else
if GW c=1 then
(Yr (GV c) 0 500).bind λe=>
if e then
some (.inl (a++[GG c],Wq (d+1),()))
else
some (.inr false)
else
some (.inr false)
else
(ZaM b).bind λg=>
(Yr g 2 5).bind λe=>
if e then
(Zaf a).bind λf=>
some (.inr f)
else
some (.inr false)
def Zi6 (a:List YN):Option Bool:=
Zq (λv=>Zag a v.1 v.2.1) (([]:List (List UInt8)),(0:Int),())
def c154:Ctr:=D1 (.sl (Ze1)) (.bool) Zi6
def Zi8 (a:Int):Option Bool:=
if a=4 then
some true
else
some (decide (a=5))
def ZIn:Ctr:=D1 Iq (.bool) Zi8
def Xg (a:List Int):Option Int:=
some (a.length:Int)
def c156:Ctr:=D1 (.sl Iq) Iq Xg
def ZfV (a b d:Int):Option Bool:=
(Yr a b d).bind λc=>
some !c
def c157:Ctr:=D3 Iq (.ptr Iq) (.ptr Iq) (.bool) ZfV
def YO (b:List Int) (c:Int×Int×Unit) (a:Int):Option ((Int×Unit) ⊕ Int):=
if a<(b.length:Int) then
(atI b a).bind λe=>
(ZfV e c.1 c.2.1).bind λd=>
if d then
some (.inr a)
else
some (.inl (Wq (a+1),()))
else
some (.inr (-1))
def YA (a:List Int) (b:Int×Int×Unit):Option Int:=
Zq (λv=>YO a b v.1) ((0:Int),())
def ZIo:Ctr:=D2 (.sl Iq) (.fn 237 (.pair (.ptr Iq) (.pair (.ptr Iq) (.unit)))) Iq YA
def Y2 (b:List Int) (a:Int×Int×Unit):Option Bool:=
(YA b a).bind λc=>
some (decide (0<=c))
def c159:Ctr:=D2 (.sl Iq) (.fn 237 (.pair (.ptr Iq) (.pair (.ptr Iq) (.unit)))) (.bool) Y2
def XD (a:List Int) (c b:Int):Option Bool:=
(Y2 a (c,b,())).bind λd=>
some !d
def c160:Ctr:=D3 (.sl Iq) Iq Iq (.bool) XD
def QX (a:List Int) (b:Int):Option ((Int×Unit) ⊕ Bool):=
if b<(a.length:Int) then
(atI a (Wq (b-1))).bind λc=>
(atI a b).bind λd=>
if d<=c then
some (.inr false)
else
some (.inl (Wq (b+1),()))
else
some (.inr true)
def Vp (a:List Int):Option Bool:=
Zq (λv=>QX a v.1) ((1:Int),())
def ZF4:Ctr:=D1 (.sl Iq) (.bool) Vp
def ZiE (a:List Int):Option Bool:=
(Xg a).bind λd=>
(Yr d 1 4).bind λe=>
if e then
(XD a 0 100000).bind λb=>
if b then
(Vp a).bind λc=>
some c
else
some false
else
some false
def c162:Ctr:=D1 (.sl Iq) (.bool) ZiE
def Zi4 (a:Zw):Option Bool:=
(ZiE (GM a)).bind λc=>
if c then
(ZiE (Gt a)).bind λd=>
if d then
if ((Gr a).length:Int)=Wq (((GM a).length:Int)*((Gt a).length:Int)) then
(XD (Gr a) (-1000000) 1000000).bind λb=>
some b
else
some false
else
some false
else
some false
def ZIp:Ctr:=D1 (Xa) (.bool) Zi4
def V6 (b:List Int) (c a:Int):Option ((Int×Int×Unit) ⊕ Int):=
if a<(b.length:Int) then
(atI b a).bind λd=>
some (.inl (Min.min c d,Wq (a+1),()))
else
some (.inr c)
def Jj (a:List Int):Option Int:=
if (a.length:Int)<1 then
none
else
(atI a 0).bind λb=>
Zq (λv=>V6 a v.1 v.2.1) (b,(1:Int),())
def c164:Ctr:=D1 (.sl Iq) Iq Jj
def Ju (a:Zw) (b:Bool):Option Bool:=
(Zi4 a).bind λc=>
if c then
if b then
(Jj (Gr a)).bind λd=>
some (decide (d<0))
else
some false
else
some true
def ZIq:Ctr:=D2 (Xa) (.ptr (.bool)) (.bool) Ju
def Yn (b:List Zw) (e:Bool×Unit) (a:Int):Option ((Int×Unit) ⊕ Int):=
if a<(b.length:Int) then
(atI b a).bind λd=>
(Ju d e.1).bind λc=>
if c then
some (.inr a)
else
some (.inl (Wq (a+1),()))
else
some (.inr (-1))
def Z8 (a:List Zw) (b:Bool×Unit):Option Int:=
Zq (λv=>Yn a b v.1) ((0:Int),())
def ZIr:Ctr:=D2 (.sl (Xa)) (.fn 394 (.pair (.ptr (.bool)) (.unit))) Iq Z8
def ZW (b:List Zw) (a:Bool×Unit):Option Bool:=
(Z8 b a).bind λc=>
some (decide (0<=c))
def c167:Ctr:=D2 (.sl (Xa)) (.fn 394 (.pair (.ptr (.bool)) (.unit))) (.bool) ZW
def Zb2 (b:List Zw) (a:Bool):Option Bool:=
if (b.length:Int)=2 then
(ZW b (a,())).bind λc=>
some !c
else
some false
def c168:Ctr:=D2 (.sl (Xa)) (.bool) (.bool) Zb2
def Zfc (a:YN):Option Bool:=
some (Gg a)
def ZIs:Ctr:=D1 (Ze1) (.bool) Zfc
def Yx (b:List YN) (a:Int):Option ((Int×Unit) ⊕ Int):=
if a<(b.length:Int) then
(atI b a).bind λc=>
(Zfc c).bind λd=>
if d then
some (.inr a)
else
some (.inl (Wq (a+1),()))
else
some (.inr (-1))
def Ye (a:List YN) (b:Unit):Option Int:=
Zq (λv=>Yx a v.1) ((0:Int),())
def ZIt:Ctr:=D2 (.sl (Ze1)) (.fn 398 (.unit)) Iq Ye
def Zfb (a:Zl):Option Int:=
(Ye (K7 a) ()).bind λb=>
some b
def c171:Ctr:=D1 (QC) Iq Zfb
def ZbR (a:Zl):Option Int:=
(ZaM (K7 a)).bind λb=>
some (Wq (b-1))
def ZF5:Ctr:=D1 (QC) Iq ZbR
def ZaX (b:Zl) (a:Int):Option Bool:=
(ZbR b).bind λc=>
(Yr a 0 (Wq (c-1))).bind λd=>
some d
def c173:Ctr:=D2 (QC) Iq (.bool) ZaX
def Zfd (b:Zl) (a:ZC):Option Bool:=
(Zi8 (Ge a)).bind λj=>
if j then
if GJ a=0 then
if ((GN a).length:Int)=0 then
(Zb2 (GC a) false).bind λd=>
if d then
(Zfb b).bind λf=>
if Gi a=f then
if 0<=Gi a then
(ZaX b (Gn a)).bind λe=>
if e then
some (!decide (Gn a=Gi a))
else
some false
else
some false
else
some false
else
some false
else
some false
else
some false
else
(Zb2 (GC a) true).bind λd=>
if d then
(Zb2 (GN a) true).bind λg=>
if g then
(ZbR b).bind λi=>
if Gn a=i then
(ZaX b (Gi a)).bind λe=>
if e then
if Ge a=1 then
(atI (K7 b) (Gi a)).bind λc=>
if (Gg c)=true then
some false
else
(Yr (GJ a) 1 3).bind λh=>
some h
else
if Ge a=2 then
if Ge a=2 then
(atI (K7 b) (Gi a)).bind λc=>
if (Gg c)=true then
some (decide (GJ a=0))
else
some false
else
some false
else
if Ge a=3 then
(atI (K7 b) (Gi a)).bind λc=>
if (Gg c)=true then
some (decide (GJ a=0))
else
some false
else
some false
else
some false
else
some false
else
some false
else
some false
def ZIu:Ctr:=D2 (QC) (ZfO) (.bool) Zfd
def Vb (b a:ZC):Option Bool:=
if Ge b=Ge a then
if Gi b=Gi a then
some (decide (Gn b=Gn a))
else
some false
else
some false
def c175:Ctr:=D2 (ZfO) (.ptr (ZfO)) (.bool) Vb
def Yt (b:List ZC) (e:ZC×Unit) (a:Int):Option ((Int×Unit) ⊕ Int):=
if a<(b.length:Int) then
(atI b a).bind λd=>
(Vb d e.1).bind λc=>
if c then
some (.inr a)
else
some (.inl (Wq (a+1),()))
else
some (.inr (-1))
def Ya (a:List ZC) (b:ZC×Unit):Option Int:=
Zq (λv=>Yt a b v.1) ((0:Int),())
def ZIv:Ctr:=D2 (.sl (ZfO)) (.fn 374 (.pair (.ptr (ZfO)) (.unit))) Iq Ya
def ZY (b:List ZC) (a:ZC×Unit):Option Bool:=
(Ya b a).bind λc=>
some (decide (0<=c))
def ZIw:Ctr:=D2 (.sl (ZfO)) (.fn 374 (.pair (.ptr (ZfO)) (.unit))) (.bool) ZY
def Zbv (b:Zl) (a:Int):Option ((Int×Unit) ⊕ Bool):=
if a<((Gj b).length:Int) then
(atI (Gj b) a).bind λc=>
(Zfd b c).bind λd=>
if d then
Zt ((0:Int)<=a)<|
Zt (a<=((Gj b).length:Int))<|
(ZY (List.take (Int.toNat a-Int.toNat 0) (List.drop (Int.toNat 0) (Gj b))) (c,())).bind λe=>
if e then
some (.inr false)
else
some (.inl (Wq (a+1),()))
else
some (.inr false)
else
some (.inr (decide (((Gj b).length:Int)<=8)))
def Zda (a:Zl):Option Bool:=
Zq (λv=>Zbv a v.1) ((0:Int),())
def ZIx:Ctr:=D1 (QC) (.bool) Zda
def Zd3 (a:ZC) (b:Int):Option Bool:=
some (decide (Ge a=b))
def ZIy:Ctr:=D2 (ZfO) (.ptr Iq) (.bool) Zd3
def YB (b:List ZC) (e:Int×Unit) (a:Int):Option ((Int×Unit) ⊕ Int):=
if a<(b.length:Int) then
(atI b a).bind λd=>
(Zd3 d e.1).bind λc=>
if c then
some (.inr a)
else
some (.inl (Wq (a+1),()))
else
some (.inr (-1))
def Yh (a:List ZC) (b:Int×Unit):Option Int:=
Zq (λv=>YB a b v.1) ((0:Int),())
def ZIz:Ctr:=D2 (.sl (ZfO)) (.fn 387 (.pair (.ptr Iq) (.unit))) Iq Yh
def Yb (b:List ZC) (a:Int×Unit):Option Bool:=
(Yh b a).bind λc=>
some (decide (0<=c))
def ZIA:Ctr:=D2 (.sl (ZfO)) (.fn 387 (.pair (.ptr Iq) (.unit))) (.bool) Yb
def Je (b:Zl) (a:Int):Option Bool:=
(Yb (Gj b) (a,())).bind λc=>
some c
def c182:Ctr:=D2 (QC) Iq (.bool) Je
def QI (a:Zl) (b c:Int):Option ((Int×Int×Unit) ⊕ Bool):=
if c<((K7 a).length:Int) then
(atI (K7 a) c).bind λh=>
if (Gg h)=true then
some (.inl (Wq (b+1),Wq (c+1),()))
else
some (.inl (b,Wq (c+1),()))
else
if GE a=1 then
if b=0 then
(ZbR a).bind λg=>
Zt ((0:Int)<=g)<|
if ((GH a).length:Int)=Wq (1*2 ^ Min.min (Int.toNat g) (IntKind.bits IntKind.i64)) then
(XD (GH a) 0 1).bind λi=>
some (.inr i)
else
some (.inr false)
else
some (.inr false)
else
if GE a=2 then
if b=1 then
if ((GH a).length:Int)=0 then
(Je a 1).bind λd=>
if d then
some (.inr false)
else
(Je a 2).bind λf=>
(Je a 3).bind λe=>
some (.inr (!f == e))
else
some (.inr false)
else
some (.inr false)
else
if GE a=3 then
if b=1 then
if ((GH a).length:Int)=0 then
(Je a 1).bind λd=>
if d then
(Je a 2).bind λf=>
if f then
(Je a 3).bind λe=>
some (.inr !e)
else
some (.inr false)
else
some (.inr false)
else
some (.inr false)
else
some (.inr false)
else
some (.inr false)
def Zci (a:Zl):Option Bool:=
Zq (λv=>QI a v.1 v.2.1) ((0:Int),(0:Int),())
def c183:Ctr:=D1 (QC) (.bool) Zci
def Zkv (a:Zl):Option Bool:=
(Zem (GQ a)).bind λg=>
if g then
(Zi6 (K7 a)).bind λd=>
if d then
(Zda a).bind λb=>
if b then
(Yr (G4 a) 0 100000).bind λe=>
if e then
(Yr (G5 a) 0 100000).bind λc=>
if c then
(Zci a).bind λf=>
some f
else
some false
else
some false
else
some false
else
some false
else
some false
def ZIB:Ctr:=D1 (QC) (.bool) Zkv
def V7 (d:Zp) (a:List (List UInt8)) (b:Int):Option (((List (List UInt8))×Int×Unit) ⊕ Bool):=
if b<((K8 d).length:Int) then
(atI (K8 d) b).bind λc=>
(Zkv c).bind λe=>
if e then
Zt ((a.length+[GQ c].length)*16<=140737488355328)<|
some (.inl (a++[GQ c],Wq (b+1),()))
else
some (.inr false)
else
if ((K8 d).length:Int)<=8 then
(Zaf a).bind λf=>
some (.inr f)
else
some (.inr false)
def Zgl (a:Zp):Option Bool:=
Zq (λv=>V7 a v.1 v.2.1) (([]:List (List UInt8)),(0:Int),())
def ZIC:Ctr:=D1 (YV) (.bool) Zgl
def J5 (c:Zb) (b a:List (List UInt8)) (d:Int):Option (((List (List UInt8))×Int×Unit) ⊕ (((List (List UInt8))×Int×Unit) ⊕ Bool)):=
if d<((Ga c).length:Int) then
(atI (Ga c) d).bind λe=>
Zt ((a.length+[GO e].length)*16<=140737488355328)<|
some (.inl (a++[GO e],Wq (d+1),()))
else
if (b.length:Int)<=14 then
if ((K6 c).length:Int)<=30 then
if (a.length:Int)<=8 then
(Zaf b).bind λg=>
if g then
(Zaf (K6 c)).bind λh=>
if h then
(Zaf a).bind λf=>
some (.inr (.inr f))
else
some (.inr (.inr false))
else
some (.inr (.inr false))
else
some (.inr (.inr false))
else
some (.inr (.inr false))
else
some (.inr (.inr false))
def J6 (b:Zb) (a:List (List UInt8)) (c:Int):Option (((List (List UInt8))×Int×Unit) ⊕ Bool):=
if c<((K1 b).length:Int) then
(atI (K1 b) c).bind λd=>
Zt ((a.length+[Gu d].length)*16<=140737488355328)<|
some (.inl (a++[Gu d],Wq (c+1),()))
else
Zq (λv=>J5 b a v.1 v.2.1) (([]:List (List UInt8)),(0:Int),())
def ZaI (a:Zb):Option Bool:=
Zq (λv=>J6 a v.1 v.2.1) (([]:List (List UInt8)),(0:Int),())
def ZID:Ctr:=D1 (Yi) (.bool) ZaI
def QJ (a:List Zl):Option Int:=
some (a.length:Int)
def ZHl:Ctr:=D1 (.sl (QC)) Iq QJ
def Xh (a:List (List UInt8)):Option Int:=
some (a.length:Int)
def ZDT:Ctr:=D1 (.sl (.str)) Iq Xh
def Xf (b:Zb) (a:Int):Option Bool:=
(Xh (K6 b)).bind λc=>
(Yr a 0 (Wq (c-1))).bind λd=>
some d
def ZF6:Ctr:=D2 (Yi) Iq (.bool) Xf
def Qu (a:Int) (b:Zb):Option Bool:=
(Xf b a).bind λc=>
some !c
def ZIE:Ctr:=D2 Iq (.ptr (Yi)) (.bool) Qu
def Yv (b:List Int) (e:Zb×Unit) (a:Int):Option ((Int×Unit) ⊕ Int):=
if a<(b.length:Int) then
(atI b a).bind λd=>
(Qu d e.1).bind λc=>
if c then
some (.inr a)
else
some (.inl (Wq (a+1),()))
else
some (.inr (-1))
def Yd (a:List Int) (b:Zb×Unit):Option Int:=
Zq (λv=>Yv a b v.1) ((0:Int),())
def ZIF:Ctr:=D2 (.sl Iq) (.fn 317 (.pair (.ptr (Yi)) (.unit))) Iq Yd
def Z5 (b:List Int) (a:Zb×Unit):Option Bool:=
(Yd b a).bind λc=>
some (decide (0<=c))
def ZIH:Ctr:=D2 (.sl Iq) (.fn 317 (.pair (.ptr (Yi)) (.unit))) (.bool) Z5
def JV (d:Zb) (b:Zp) (a:Ze):Option Bool:=
(QJ (K8 b)).bind λf=>
(Yr (Gx a) 0 (Wq (f-1))).bind λg=>
if g then
(atI (K8 b) (Gx a)).bind λe=>
if ((Gb a).length:Int)=((K7 e).length:Int) then
(Z5 (Gb a) (d,())).bind λc=>
some !c
else
some false
else
some false
def c193:Ctr:=D3 (Yi) (YV) (ZX) (.bool) JV
def Zd4 (a:Int):Option Bool:=
some (!decide (a=1))
def c194:Ctr:=D1 Iq (.bool) Zd4
def Y7 (b:List Int) (a:Int):Option ((Int×Unit) ⊕ Int):=
if a<(b.length:Int) then
(atI b a).bind λc=>
(Zd4 c).bind λd=>
if d then
some (.inr a)
else
some (.inl (Wq (a+1),()))
else
some (.inr (-1))
def YR (a:List Int) (b:Unit):Option Int:=
Zq (λv=>Y7 a v.1) ((0:Int),())
def ZII:Ctr:=D2 (.sl Iq) (.fn 272 (.unit)) Iq YR
def YE (a:List Int) (c:Unit):Option Bool:=
(YR a ()).bind λb=>
some (decide (0<=b))
def c196:Ctr:=D2 (.sl Iq) (.fn 272 (.unit)) (.bool) YE
def JD (d:Zb) (c:Int) (b:List Int):Option ((Int×(List Int)×Unit) ⊕ ((Int×(List Int)×Unit) ⊕ Bool)):=
if c<((Ga d).length:Int) then
(atI (Ga d) c).bind λa=>
if Gz a=1 then
(Xf d (GI a)).bind λf=>
if f then
if Gz a=1 then
(atI b (GI a)).bind λe=>
some (.inl (Wq (c+1),List.set b (Int.toNat (GI a)) (Wq (e+1)),()))
else
some (.inl (Wq (c+1),b,()))
else
some (.inr (.inr false))
else
if Gz a=2 then
(Xf d (GI a)).bind λf=>
if f then
if Gz a=1 then
(atI b (GI a)).bind λe=>
some (.inl (Wq (c+1),List.set b (Int.toNat (GI a)) (Wq (e+1)),()))
else
some (.inl (Wq (c+1),b,()))
else
some (.inr (.inr false))
else
some (.inr (.inr false))
else
(YE b ()).bind λg=>
some (.inr (.inr !g))
def Zby (f:Zp) (a:Zb) (b:Int) (d:List Int):Option ((Int×(List Int)×Unit) ⊕ Bool):=
if b<((K1 a).length:Int) then
(atI (K1 a) b).bind λc=>
(JV a f c).bind λh=>
if h then
(atI (Gb c) (Wq (((Gb c).length:Int)-1))).bind λe=>
(atI d e).bind λg=>
some (.inl (Wq (b+1),List.set d (Int.toNat e) (Wq (g+1)),()))
else
some (.inr false)
else
Zq (λv=>JD a v.1 v.2.1) ((0:Int),d,())
def ZhL (b:Zp) (a:Zb):Option Bool:=
(Zgl b).bind λc=>
if c then
(ZaI a).bind λd=>
if d then
Zt ((0:Int)<=((K6 a).length:Int))<|
Zt (((K6 a).length:Int)<=((K6 a).length:Int))<|
Zt (((K6 a).length:Int)<=4611686018427387904)<|
Zt (((8:Nat):Int)*((K6 a).length:Int)<=281474976710656)<|
Zq (λv=>Zby b a v.1 v.2.1) ((0:Int),List.replicate (Int.toNat ((K6 a).length:Int)) (0:Int),())
else
some false
else
some false
def ZIJ:Ctr:=D2 (YV) (Yi) (.bool) ZhL
def ZaY (d:Int) (c:Ze) (a:List ZH) (b:Int):Option (((List ZH)×Int×Unit) ⊕ (((List ZH)×Int×Unit) ⊕ List ZH)):=
if b<((Gb c).length:Int) then
(atI (Gb c) b).bind λe=>
Zt ((a.length+[(d,b,e,decide (b=Wq (((Gb c).length:Int)-1)),())].length)*32<=140737488355328)<|
some (.inl (a++[(d,b,e,decide (b=Wq (((Gb c).length:Int)-1)),())],Wq (b+1),()))
else
some (.inr (.inl (a,Wq (d+1),())))
def ZaZ (d:Zb) (a:List ZH) (b:Int):Option (((List ZH)×Int×Unit) ⊕ (((List ZH)×Int×Unit) ⊕ List ZH)):=
if b<((Ga d).length:Int) then
(atI (Ga d) b).bind λc=>
Zt ((a.length+[((-1:Int),b,GI c,decide (Gz c=1),())].length)*32<=140737488355328)<|
some (.inl (a++[((-1:Int),b,GI c,decide (Gz c=1),())],Wq (b+1),()))
else
some (.inr (.inr a))
def Za0 (b:Zb) (a:List ZH) (c:Int):Option (((List ZH)×Int×Unit) ⊕ List ZH):=
if c<((K1 b).length:Int) then
(atI (K1 b) c).bind λd=>
Zq (λv=>ZaY c d v.1 v.2.1) (a,(0:Int),())
else
Zq (λv=>ZaZ b v.1 v.2.1) (a,(0:Int),())
def ZR (a:Zb):Option (List ZH):=
Zq (λv=>Za0 a v.1 v.2.1) (([]:List ZH),(0:Int),())
def c198:Ctr:=⟨[.dat (Yi)],[.own (.ol 177 (.flat (ZoL)))],λa K=>splitK a λb a=>ZV (ZR b) λr=>K (r,()) ()⟩
def Zcc (b:Zo) (a:Int):Option ((Int×Unit) ⊕ Bool):=
if a<((K3 b).length:Int) then
(atI (K3 b) a).bind λc=>
if a=0 then
if c=(-1) then
(atI (Gy b) 0).bind λe=>
if e=0 then
if 0<a then
(Yr c 0 (Wq (a-1))).bind λd=>
if d then
some (.inl (Wq (a+1),()))
else
some (.inr false)
else
some (.inl (Wq (a+1),()))
else
some (.inr false)
else
some (.inr false)
else
if 0<a then
(Yr c 0 (Wq (a-1))).bind λd=>
if d then
some (.inl (Wq (a+1),()))
else
some (.inr false)
else
some (.inl (Wq (a+1),()))
else
some (.inr true)
def Zd6 (a:Zo):Option Bool:=
Zq (λv=>Zcc a v.1) ((0:Int),())
def ZIK:Ctr:=D1 (QD) (.bool) Zd6
def ZiB (a:Zo) (b:Int):Option Bool:=
(Xg (K3 a)).bind λc=>
(Yr c 1 8).bind λh=>
if h then
(Xg (Gy a)).bind λd=>
if d=c then
(Xg (GD a)).bind λi=>
if i=c then
(Zd6 a).bind λe=>
if e then
(XD (Gy a) 0 1000).bind λj=>
if j then
(XD (GD a) 0 500).bind λf=>
if f then
(Xg (Gk a)).bind λg=>
if g=b then
(XD (Gk a) 0 (Wq (c-1))).bind λk=>
some k
else
some false
else
some false
else
some false
else
some false
else
some false
else
some false
else
some false
def ZHm:Ctr:=D2 (QD) Iq (.bool) ZiB
def Zff (b:Za) (c:List Int) (a:Int):Option ((Int×Unit) ⊕ ((Int×(List Int)×Unit) ⊕ Bool)):=
if a<((K2 b).length:Int) then
(atI (K2 b) a).bind λe=>
(atI c a).bind λd=>
(ZiB e d).bind λf=>
if f then
some (.inl (Wq (a+1),()))
else
some (.inr (.inr false))
else
some (.inr (.inr true))
def Zck (f:Za) (a:List ZH) (b:Int) (c:List Int):Option ((Int×(List Int)×Unit) ⊕ Bool):=
if b<(a.length:Int) then
(atI a b).bind λd=>
if (GS d)=true then
some (.inl (Wq (b+1),c,()))
else
(atI c (ZH.net d)).bind λe=>
some (.inl (Wq (b+1),List.set c (Int.toNat (ZH.net d)) (Wq (e+1)),()))
else
Zq (λv=>Zff f c v.1) ((0:Int),())
def ZgL (a:Za):Option Bool:=
(ZhL (K4 a) (KZ a)).bind λb=>
if b then
if ((K2 a).length:Int)=((K6 (KZ a)).length:Int) then
Zt ((0:Int)<=((K2 a).length:Int))<|
Zt (((K2 a).length:Int)<=((K2 a).length:Int))<|
Zt (((K2 a).length:Int)<=4611686018427387904)<|
Zt (((8:Nat):Int)*((K2 a).length:Int)<=281474976710656)<|
(ZR (KZ a)).bind λc=>
Zq (λv=>Zck a c v.1 v.2.1) ((0:Int),List.replicate (Int.toNat ((K2 a).length:Int)) (0:Int),())
else
some false
else
some false
def c201:Ctr:=D1 (ZT) (.bool) ZgL
def ZhJ (a:Zj):Option Zj:=
if K5 a=1 then
some (K5 a,Gc a,Gv a,0,0,[],([],[],[],[],()),())
else
if K5 a=2 then
some (K5 a,Gc a,Gv a,0,0,Gh a,([],[],[],[],()),())
else
if K5 a=4 then
some (K5 a,Gc a,0,Gs a,GF a,[],([],[],[],[],()),())
else
if K5 a=5 then
some (K5 a,0,0,Gs a,0,[],a.2.2.2.2.2.2)
else
some (K5 a,0,0,0,0,[],([],[],[],[],()),())
def ZIL:Ctr:=D1 (XO) (XO) ZhJ
def Vv (a c:List Int) (b:Int):Option ((Int×Unit) ⊕ Bool):=
if b<(a.length:Int) then
(atI a b).bind λd=>
(atI c b).bind λe=>
if d=e then
some (.inl (Wq (b+1),()))
else
some (.inr false)
else
some (.inr true)
def Xk (a b:List Int):Option Bool:=
if (a.length:Int)=(b.length:Int) then
Zq (λv=>Vv a b v.1) ((0:Int),())
else
some false
def c203:Ctr:=D2 (.sl Iq) (.sl Iq) (.bool) Xk
def ZhN (a b:Zo):Option Bool:=
(Xk (K3 a) (K3 b)).bind λe=>
if e then
(Xk (Gy a) (Gy b)).bind λf=>
if f then
(Xk (GD a) (GD b)).bind λc=>
if c then
(Xk (Gk a) (Gk b)).bind λd=>
some d
else
some false
else
some false
else
some false
def ZIM:Ctr:=D2 (QD) (QD) (.bool) ZhN
def Zfj (a b:Zj):Option Bool:=
if K5 a=K5 b then
if Gc a=Gc b then
if Gv a=Gv b then
if Gs a=Gs b then
if GF a=GF b then
if Gh a=Gh b then
(ZhN (GB a) (GB b)).bind λc=>
some c
else
some false
else
some false
else
some false
else
some false
else
some false
else
some false
def ZIN:Ctr:=D2 (XO) (XO) (.bool) Zfj
def Xm (a:List ZH):Option Int:=
some (a.length:Int)
def c206:Ctr:=D1 (.sl (ZoL)) Iq Xm
def Zbx (a:Zj) (b:Za):Option Bool:=
(Yr (K5 a) 1 5).bind λm=>
if m then
(ZhJ a).bind λk=>
(Zfj a k).bind λi=>
if i then
(ZR (KZ b)).bind λl=>
(Xm l).bind λj=>
(Yr (Gc a) 0 (Wq (j-1))).bind λe=>
if K5 a=1 then
if K5 a=1 then
if e then
(QJ (K8 (K4 b))).bind λf=>
(Yr (Gv a) 0 (Wq (f-1))).bind λc=>
some c
else
some false
else
if K5 a=4 then
if e then
(Xf (KZ b) (Gs a)).bind λd=>
if d then
(atI (K2 b) (Gs a)).bind λg=>
(Xg (K3 g)).bind λh=>
(Yr (GF a) 0 (Wq (h-1))).bind λc=>
some c
else
some false
else
some false
else
if K5 a=5 then
(Xf (KZ b) (Gs a)).bind λd=>
some d
else
some true
else
if K5 a=2 then
if e then
(QJ (K8 (K4 b))).bind λf=>
(Yr (Gv a) 0 (Wq (f-1))).bind λc=>
some c
else
some false
else
if K5 a=4 then
if e then
(Xf (KZ b) (Gs a)).bind λd=>
if d then
(atI (K2 b) (Gs a)).bind λg=>
(Xg (K3 g)).bind λh=>
(Yr (GF a) 0 (Wq (h-1))).bind λc=>
some c
else
some false
else
some false
else
if K5 a=5 then
(Xf (KZ b) (Gs a)).bind λd=>
some d
else
some true
else
some false
else
some false
def ZIO:Ctr:=D2 (XO) (ZT) (.bool) Zbx
def Zg6 (a b:YN):Option Bool:=
some (Gg a == Gg b)
def c208:Ctr:=D2 (Ze1) (Ze1) (.bool) Zg6
def ZI (a c:List YN) (b:Int):Option ((Int×Unit) ⊕ Bool):=
if b<(a.length:Int) then
(atI a b).bind λe=>
(atI c b).bind λd=>
(Zg6 e d).bind λf=>
if f then
some (.inl (Wq (b+1),()))
else
some (.inr false)
else
some (.inr true)
def Z9 (a b:List YN) (c:Unit):Option Bool:=
if (a.length:Int)=(b.length:Int) then
Zq (λv=>ZI a b v.1) ((0:Int),())
else
some false
def ZIP:Ctr:=D3 (.sl (Ze1)) (.sl (Ze1)) (.fn 321 (.unit)) (.bool) Z9
def ZhM (a b:Zl):Option Bool:=
if GE a=GE b then
(Z9 (K7 a) (K7 b) ()).bind λc=>
some c
else
some false
def c210:Ctr:=D2 (QC) (QC) (.bool) ZhM
def Jg (a:Zl):Option Bool:=
if GE a=1 then
some (decide (((K7 a).length:Int)=2))
else
some false
def ZHn:Ctr:=D1 (QC) (.bool) Jg
def ZcB (a:Ze) (b:List UInt8):Option Bool:=
some (decide (Gu a=b))
def c212:Ctr:=D2 (ZX) (.ptr (.str)) (.bool) ZcB
def Z4 (b:List Ze) (e:List UInt8×Unit) (a:Int):Option ((Int×Unit) ⊕ Int):=
if a<(b.length:Int) then
(atI b a).bind λd=>
(ZcB d e.1).bind λc=>
if c then
some (.inr a)
else
some (.inl (Wq (a+1),()))
else
some (.inr (-1))
def ZP (a:List Ze) (b:List UInt8×Unit):Option Int:=
Zq (λv=>Z4 a b v.1) ((0:Int),())
def c213:Ctr:=D2 (.sl (ZX)) (.fn 323 (.pair (.ptr (.str)) (.unit))) Iq ZP
def Zcj (b:Zb) (a:List UInt8):Option Int:=
(ZP (K1 b) (a,())).bind λc=>
some c
def ZIQ:Ctr:=D2 (Yi) (.str) Iq Zcj
def ZaJ (b:Zb) (a:List UInt8):Option Int:=
(Y8 (K6 b) a).bind λc=>
some c
def ZIR:Ctr:=D2 (Yi) (.str) Iq ZaJ
def JR (a:Za):Option Bool:=
if ((K1 (KZ a)).length:Int)=0 then
some false
else
(atI (K1 (KZ a)) (Wq (((K1 (KZ a)).length:Int)-1))).bind λb=>
(Xh (K6 (KZ a))).bind λc=>
(atI (K8 (K4 a)) (Gx b)).bind λj=>
(Jg j).bind λg=>
if g then
(atI (Gb b) 1).bind λi=>
if i=Wq (c-1) then
(atI (Gb b) 0).bind λe=>
if e=Wq (c-1) then
some false
else
(atI (K6 (KZ a)) (Wq (c-1))).bind λh=>
if h=Gu b then
(atI (K2 a) (Wq (c-1))).bind λd=>
if ((Gk d).length:Int)=1 then
if ((K3 d).length:Int)=1 then
(atI (GD d) 0).bind λf=>
some (decide (f=0))
else
some false
else
some false
else
some false
else
some false
else
some false
def ZIS:Ctr:=D1 (ZT) (.bool) JR
def ZaL (a:Zj) (c:Za):Option Bool:=
(ZR (KZ c)).bind λe=>
if K5 a=1 then
(atI e (Gc a)).bind λb=>
if 0<=Gq b then
if (GS b)=true then
(atI (K1 (KZ c)) (Gq b)).bind λd=>
(atI (K8 (K4 c)) (Gx d)).bind λn=>
(atI (K8 (K4 c)) (Gv a)).bind λi=>
(ZhM n i).bind λk=>
some k
else
some false
else
some false
else
if K5 a=2 then
(atI e (Gc a)).bind λb=>
if (GS b)=true then
some false
else
(atI (K8 (K4 c)) (Gv a)).bind λd=>
(Jg d).bind λf=>
if f then
(Zem (Gh a)).bind λl=>
if l then
(Zcj (KZ c) (Gh a)).bind λg=>
if g<0 then
(ZaJ (KZ c) (Gh a)).bind λm=>
some (decide (m<0))
else
some false
else
some false
else
some false
else
if K5 a=3 then
(JR c).bind λh=>
some h
else
if K5 a=4 then
(atI e (Gc a)).bind λb=>
if (GS b)=true then
some false
else
some (!decide (ZH.net b=Gs a))
else
(atI (K2 c) (Gs a)).bind λb=>
(Xg (Gk b)).bind λj=>
(ZiB (GB a) j).bind λo=>
some o
def ZIT:Ctr:=D2 (XO) (ZT) (.bool) ZaL
def ZdO (b:Zj) (a:Za):Option Int:=
(Zbx b a).bind λc=>
if c then
(ZaL b a).bind λd=>
if d then
if K5 b=2 then
if ((K1 (KZ a)).length:Int)=14 then
some 3
else
if ((K6 (KZ a)).length:Int)=30 then
some 3
else
some 0
else
some 0
else
some 5
else
some 2
def c218:Ctr:=D2 (XO) (ZT) Iq ZdO
def Zfe (a:Za) (b:Zj):Option Int:=
(ZgL a).bind λc=>
if c then
(ZdO b a).bind λd=>
some d
else
some 1
def ZHo:Ctr:=D2 (ZT) (XO) Iq Zfe
def Q9 (a:ZC):Option (List (Int×Int×Unit)):=
if Ge a=2 then
some ([((0:Int),(0:Int),()),((0:Int),(1:Int),())])
else
if Ge a=3 then
some ([((1:Int),(0:Int),()),((1:Int),(1:Int),())])
else
if Ge a=1 then
if GJ a=1 then
some ([((0:Int),(0:Int),()),((1:Int),(1:Int),())])
else
if GJ a=2 then
some ([((0:Int),(1:Int),()),((1:Int),(0:Int),())])
else
some ([((0:Int),(0:Int),()),((0:Int),(1:Int),()),((1:Int),(0:Int),()),((1:Int),(1:Int),())])
else
some []
def ZIU:Ctr:=⟨[.dat (ZfO)],[.own (.ol 294 (.flat (.pair Iq (.pair Iq (.unit)))))],λa K=>splitK a λb a=>ZV (Q9 b) λr=>K (r,()) ()⟩
def Xt (b f:Int) (e:ZC) (a:List (Int×Int×Unit)) (c:List Zx) (g:Int):Option (((List Zx)×Int×Unit) ⊕ (((List Zx)×Int×Unit) ⊕ List Zx)):=
if g<(a.length:Int) then
(atI a g).bind λd=>
Zt ((c.length+[(Wq (Wq ((2:Int)*Wq (b+Gi e))+d.1),Wq (Wq ((2:Int)*Wq (b+Gn e))+d.2.1),(1:Int),f,())].length)*32<=140737488355328)<|
some (.inl (c++[(Wq (Wq ((2:Int)*Wq (b+Gi e))+d.1),Wq (Wq ((2:Int)*Wq (b+Gn e))+d.2.1),(1:Int),f,())],Wq (g+1),()))
else
some (.inr (.inl (c,Wq (f+1),())))
def Qg (b:Int) (e:Zl) (a:List Zx) (c:Int):Option (((List Zx)×Int×Unit) ⊕ List Zx):=
if c<((Gj e).length:Int) then
(atI (Gj e) c).bind λd=>
(Q9 d).bind λf=>
Zq (λv=>Xt b c d f v.1 v.2.1) (a,(0:Int),())
else
some (.inr a)
def Va (d:Za) (c:Ze) (a:Int):Option (List Zx):=
(atI (K8 (K4 d)) (Gx c)).bind λb=>
Zq (λv=>Qg a b v.1 v.2.1) (([]:List Zx),(0:Int),())
def ZIV:Ctr:=⟨[.dat (ZT),.dat (ZX),.dat Iq],[.own (.ol 224 (.flat (ZcZ)))],λa K=>splitK a λd a=>splitK a λc a=>splitK a λb a=>ZV (Va d c b) λr=>K (r,()) ()⟩
def ZF (a:List Int):Option (List Int):=
Zt ((([]:List Int).length+a.length)*8<=140737488355328)<|
some (([]:List Int)++a)
def c222:Ctr:=⟨[.dat (.sl Iq)],[.own (.ol 2 (.flat Iq))],λa K=>splitK a λb a=>ZV (ZF b) λr=>K (r,()) ()⟩
def Zbw (d:Int) (b:List ZH) (a:List Int) (c:Int):Option (((List Int)×Int×Unit) ⊕ List Int):=
if c<(b.length:Int) then
(atI b c).bind λe=>
if ZH.net e=d then
if (GS e)=true then
some (.inl (a,Wq (c+1),()))
else
Zt ((a.length+[c].length)*8<=140737488355328)<|
some (.inl (a++[c],Wq (c+1),()))
else
some (.inl (a,Wq (c+1),()))
else
some (.inr a)
def Za1 (b:Zb) (a:Int):Option (List Int):=
(ZR b).bind λc=>
Zq (λv=>Zbw a c v.1 v.2.1) (([]:List Int),(0:Int),())
def ZHp:Ctr:=⟨[.dat (Yi),.dat Iq],[.own (.ol 2 (.flat Iq))],λa K=>splitK a λc a=>splitK a λb a=>ZV (Za1 c b) λr=>K (r,()) ()⟩
def Jr (b:Zb) (f:Zp) (a:ZH):Option Int:=
if Gq a<0 then
some 0
else
(atI (K1 b) (Gq a)).bind λd=>
(atI (K8 f) (Gx d)).bind λe=>
(atI (K7 e) (ZH.pin a)).bind λc=>
some (GV c)
def ZIW:Ctr:=D3 (Yi) (YV) (ZoL) Iq Jr
def Qh (f:Zo) (a:Int) (b:List Int):Option ((Int×(List Int)×Unit) ⊕ ((Int×(List Int)×Unit) ⊕ List Int)):=
if 0<a then
(atI (K3 f) a).bind λc=>
(atI b c).bind λe=>
(atI b a).bind λd=>
some (.inl (Wq (a-1),List.set b (Int.toNat c) (Wq (e+d)),()))
else
some (.inr (.inr b))
def Xu (f:Za) (e:Zo) (b:List ZH) (a:List Int) (c:Int) (d:List Int):Option ((Int×(List Int)×Unit) ⊕ List Int):=
if c<(a.length:Int) then
(atI a c).bind λj=>
(atI (Gk e) c).bind λg=>
(atI d g).bind λh=>
(atI b j).bind λi=>
(Jr (KZ f) (K4 f) i).bind λk=>
some (.inl (Wq (c+1),List.set d (Int.toNat g) (Wq (h+k)),()))
else
Zq (λv=>Qh e v.1 v.2.1) (Wq ((d.length:Int)-1),d,())
def YW (a:Za) (c:Int):Option (List Int):=
(atI (K2 a) c).bind λb=>
(ZF (GD b)).bind λf=>
(ZR (KZ a)).bind λe=>
(Za1 (KZ a) c).bind λd=>
Zq (λv=>Xu a b e d v.1 v.2.1) ((0:Int),f,())
def ZHq:Ctr:=⟨[.dat (ZT),.dat Iq],[.own (.ol 2 (.flat Iq))],λa K=>splitK a λb a=>splitK a λc a=>ZV (YW b c) λr=>K (r,()) ()⟩
def XQ (d:Zo) (a:List Int) (b:Int) (c:List Int):Option ((Int×(List Int)×Unit) ⊕ List Int):=
if b<(c.length:Int) then
(atI (K3 d) b).bind λh=>
(atI c h).bind λg=>
(atI (Gy d) b).bind λe=>
(atI a b).bind λf=>
(atI c b).bind λi=>
some (.inl (Wq (b+1),List.set c (Int.toNat b) (Wq (g+Wq (e*f))),()))
else
some (.inr c)
def QH (c:Za) (b:Int):Option (List Int):=
(atI (K2 c) b).bind λd=>
(YW c b).bind λa=>
Zt ((0:Int)<=(a.length:Int))<|
Zt ((a.length:Int)<=(a.length:Int))<|
Zt ((a.length:Int)<=4611686018427387904)<|
Zt (((8:Nat):Int)*(a.length:Int)<=281474976710656)<|
Zq (λv=>XQ d a v.1 v.2.1) ((1:Int),List.replicate (Int.toNat (a.length:Int)) (0:Int),())
def c226:Ctr:=⟨[.dat (ZT),.dat Iq],[.own (.ol 2 (.flat Iq))],λa K=>splitK a λc a=>splitK a λb a=>ZV (QH c b) λr=>K (r,()) ()⟩
def XJ (a:List Int) (e:Zo) (b:List Int) (c:Int):Option (((List Int)×Int×Unit) ⊕ List Int):=
if c<((Gk e).length:Int) then
(atI (Gk e) c).bind λf=>
(atI a f).bind λd=>
Zt ((b.length+[d].length)*8<=140737488355328)<|
some (.inl (b++[d],Wq (c+1),()))
else
some (.inr b)
def XG (b:Za) (a:Int):Option (List Int):=
(QH b a).bind λd=>
(atI (K2 b) a).bind λc=>
Zq (λv=>XJ d c v.1 v.2.1) (([]:List Int),(0:Int),())
def c227:Ctr:=⟨[.dat (ZT),.dat Iq],[.own (.ol 2 (.flat Iq))],λa K=>splitK a λc a=>splitK a λb a=>ZV (XG c b) λr=>K (r,()) ()⟩
def Qn (g:List Int) (f c d a:Int) (b:List Zx):Option ((Int×(List Zx)×Unit) ⊕ ((Int×(List Zx)×Unit) ⊕ ((Int×(List Int)×(List (List Int))×(List Zx)×(List (List Int))×Unit) ⊕ ((Int×(List Int)×(List (List Int))×Unit) ⊕ ((Int×Int×(List Zx)×Unit) ⊕ ZO))))):=
if a<2 then
(atI g f).bind λe=>
Zt ((b.length+[(Wq (Wq ((2:Int)*e)+a),Wq (Wq ((2:Int)*d)+a),(2:Int),c,())].length)*32<=140737488355328)<|
some (.inl (Wq (a+1),b++[(Wq (Wq ((2:Int)*e)+a),Wq (Wq ((2:Int)*d)+a),(2:Int),c,())],()))
else
some (.inr (.inl (Wq (c+1),b,())))
def QY (k:List Int) (b:Int) (f:List Int) (i h:List (List Int)) (g:Int) (a c:List Int) (d:Int) (e:List Zx):Option ((Int×(List Zx)×Unit) ⊕ ((Int×(List Int)×(List (List Int))×(List Zx)×(List (List Int))×Unit) ⊕ ((Int×(List Int)×(List (List Int))×Unit) ⊕ ((Int×Int×(List Zx)×Unit) ⊕ ZO)))):=
if d<(c.length:Int) then
(atI c d).bind λj=>
Zq (λv=>Qn k b d j v.1 v.2.1) ((0:Int),e,())
else
some (.inr (.inl (Wq (b+1),f++[g],i++[a],e,List.set h (Int.toNat b) c,())))
def QZ (c:Za) (a:List ZH) (j:List Int) (b:Int) (d:List Int) (e:List (List Int)) (i:List Zx) (h:List (List Int)):Option ((Int×(List Int)×(List (List Int))×(List Zx)×(List (List Int))×Unit) ⊕ ((Int×(List Int)×(List (List Int))×Unit) ⊕ ((Int×Int×(List Zx)×Unit) ⊕ ZO))):=
if b<((K2 c).length:Int) then
(YW c b).bind λl=>
(atI l 0).bind λf=>
Zt ((d.length+[f].length)*8<=140737488355328)<|
(XG c b).bind λg=>
Zt ((e.length+[g].length)*24<=140737488355328)<|
(atI h b).bind λk=>
Zq (λv=>QY j b d e h f g k v.1 v.2.1) ((0:Int),i,())
else
some (.inr (.inr (.inr (c,a,i,d,e,([]:List Int),()))))
def Q0 (g:Za) (a:List ZH) (h:List Zx) (b:Int) (e:List Int) (d:List (List Int)):Option ((Int×(List Int)×(List (List Int))×Unit) ⊕ ((Int×Int×(List Zx)×Unit) ⊕ ZO)):=
if b<(a.length:Int) then
(atI a b).bind λc=>
if (GS c)=true then
(atI e (ZH.net c)).bind λf=>
some (.inl (Wq (b+1),List.set e (Int.toNat (ZH.net c)) b,d,()))
else
(atI d (ZH.net c)).bind λf=>
Zt ((f.length+[b].length)*8<=140737488355328)<|
some (.inl (Wq (b+1),e,List.set d (Int.toNat (ZH.net c)) (f++[b]),()))
else
Zq (λv=>QZ g a e v.1 v.2.1 v.2.2.1 v.2.2.2.1 v.2.2.2.2.1) ((0:Int),([]:List Int),([]:List (List Int)),h,d,())
def Zah (a:Za) (b:List ZH) (e d:Int) (c:List Zx):Option ((Int×Int×(List Zx)×Unit) ⊕ ZO):=
if d<((K1 (KZ a)).length:Int) then
(atI (K1 (KZ a)) d).bind λf=>
(Va a f e).bind λg=>
Zt ((c.length+g.length)*32<=140737488355328)<|
(Xg (Gb f)).bind λh=>
some (.inl (Wq (e+h),Wq (d+1),c++g,()))
else
Zt ((0:Int)<=((K2 a).length:Int))<|
Zt (((K2 a).length:Int)<=((K2 a).length:Int))<|
Zt (((K2 a).length:Int)<=4611686018427387904)<|
Zt (((8:Nat):Int)*((K2 a).length:Int)<=281474976710656)<|
Zt (((24:Nat):Int)*((K2 a).length:Int)<=281474976710656)<|
Zq (λv=>Q0 a b c v.1 v.2.1 v.2.2.1) ((0:Int),List.replicate (Int.toNat ((K2 a).length:Int)) (0:Int),List.replicate (Int.toNat ((K2 a).length:Int)) (([]:List Int)),())
def Jl (a:Za):Option ZO:=
(ZR (KZ a)).bind λb=>
Zq (λv=>Zah a b v.1 v.2.1 v.2.2.1) ((0:Int),(0:Int),([]:List Zx),())
def c228:Ctr:=D1 (ZT) (.ptr (ZmB)) Jl
def Y6 (a:ZO):Option Int:=
(Xm (ZO.places a)).bind λb=>
some (Wq (2*b))
def c229:Ctr:=D1 (.ptr (ZmB)) Iq Y6
def Zd7 (b:ZO) (a:Int):Option Bool:=
(Y6 b).bind λc=>
(Yr a 0 (Wq (c-1))).bind λd=>
some d
def ZIX:Ctr:=D2 (.ptr (ZmB)) Iq (.bool) Zd7
def Zkx (b:Int):Option Bool:=
(Yr b (-1000000000) 1000000000).bind λa=>
some a
def ZIY:Ctr:=D1 Iq (.bool) Zkx
def Zbz (a:Zv):Option Bool:=
(Zkx (Gd a)).bind λb=>
if b then
(Zkx (Gf a)).bind λc=>
if c then
some (decide (Gd a<=Gf a))
else
some false
else
some false
def c232:Ctr:=D1 (YU) (.bool) Zbz
def Zkw (a:Int):Option Bool:=
(Yr a 0 1000000).bind λb=>
some b
def c233:Ctr:=D1 Iq (.bool) Zkw
def Zfg (a:Zv):Option Bool:=
(Zbz a).bind λc=>
if c then
(Zkw (Gd a)).bind λd=>
if d then
(Zkw (Gf a)).bind λb=>
some b
else
some false
else
some false
def c234:Ctr:=D1 (YU) (.bool) Zfg
def Vl (e:ZO) (a:List Zk) (b:Int):Option ((Int×Unit) ⊕ Bool):=
if b<(a.length:Int) then
(atI a b).bind λc=>
(Zd7 e (Gl c)).bind λh=>
if h then
(Zbz (GK c)).bind λf=>
if f then
(Zfg (GR c)).bind λd=>
if d then
if 0<b then
(atI a (Wq (b-1))).bind λg=>
if Gl c<=Gl g then
some (.inr false)
else
some (.inl (Wq (b+1),()))
else
some (.inl (Wq (b+1),()))
else
some (.inr false)
else
some (.inr false)
else
some (.inr false)
else
some (.inr true)
def Vg (b:ZO) (a:List Zk):Option Bool:=
Zq (λv=>Vl b a v.1) ((0:Int),())
def ZHr:Ctr:=D2 (.ptr (ZmB)) (.sl (Z7)) (.bool) Vg
def Qv (a:List Ze):Option Int:=
some (a.length:Int)
def c236:Ctr:=D1 (.sl (ZX)) Iq Qv
def QV (f:Zj) (c:Int) (d:List ZH) (a:List Int) (b:Int):Option (((List Int)×Int×Unit) ⊕ List Int):=
if b<(d.length:Int) then
(atI d b).bind λe=>
if K5 f=2 then
if Gq e<0 then
Zt ((a.length+[Wq (b+2)].length)*8<=140737488355328)<|
some (.inl (a++[Wq (b+2)],Wq (b+1),()))
else
if K5 f=3 then
if Gq e<0 then
Zt ((a.length+[Wq (b-2)].length)*8<=140737488355328)<|
some (.inl (a++[Wq (b-2)],Wq (b+1),()))
else
if K5 f=3 then
if Gq e=Wq (c-1) then
Zt ((a.length+[(-1:Int)].length)*8<=140737488355328)<|
some (.inl (a++[(-1:Int)],Wq (b+1),()))
else
Zt ((a.length+[b].length)*8<=140737488355328)<|
some (.inl (a++[b],Wq (b+1),()))
else
Zt ((a.length+[b].length)*8<=140737488355328)<|
some (.inl (a++[b],Wq (b+1),()))
else
if K5 f=3 then
if Gq e=Wq (c-1) then
Zt ((a.length+[(-1:Int)].length)*8<=140737488355328)<|
some (.inl (a++[(-1:Int)],Wq (b+1),()))
else
Zt ((a.length+[b].length)*8<=140737488355328)<|
some (.inl (a++[b],Wq (b+1),()))
else
Zt ((a.length+[b].length)*8<=140737488355328)<|
some (.inl (a++[b],Wq (b+1),()))
else
if K5 f=3 then
if Gq e<0 then
Zt ((a.length+[Wq (b-2)].length)*8<=140737488355328)<|
some (.inl (a++[Wq (b-2)],Wq (b+1),()))
else
if K5 f=3 then
if Gq e=Wq (c-1) then
Zt ((a.length+[(-1:Int)].length)*8<=140737488355328)<|
some (.inl (a++[(-1:Int)],Wq (b+1),()))
else
Zt ((a.length+[b].length)*8<=140737488355328)<|
some (.inl (a++[b],Wq (b+1),()))
else
Zt ((a.length+[b].length)*8<=140737488355328)<|
some (.inl (a++[b],Wq (b+1),()))
else
if K5 f=3 then
if Gq e=Wq (c-1) then
Zt ((a.length+[(-1:Int)].length)*8<=140737488355328)<|
some (.inl (a++[(-1:Int)],Wq (b+1),()))
else
Zt ((a.length+[b].length)*8<=140737488355328)<|
some (.inl (a++[b],Wq (b+1),()))
else
Zt ((a.length+[b].length)*8<=140737488355328)<|
some (.inl (a++[b],Wq (b+1),()))
else
some (.inr a)
def VH (b:Zj) (a:Za):Option (List Int):=
(Qv (K1 (KZ a))).bind λc=>
(ZR (KZ a)).bind λd=>
Zq (λv=>QV b c d v.1 v.2.1) (([]:List Int),(0:Int),())
def ZHs:Ctr:=⟨[.dat (XO),.dat (ZT)],[.own (.ol 2 (.flat Iq))],λa K=>splitK a λb a=>splitK a λc a=>ZV (VH b c) λr=>K (r,()) ()⟩
def Qk (a:List Zk):Option (List Zk):=
Zt ((([]:List (Int×Zv×Zv×Unit)).length+a.length)*40<=140737488355328)<|
some (([]:List (Int×Zv×Zv×Unit))++a)
def ZIZ:Ctr:=⟨[.dat (.sl (Z7))],[.own (.ol 106 (.flat (Z7)))],λa K=>splitK a λb a=>ZV (Qk b) λr=>K (r,()) ()⟩
def ZgM (b:List Int) (a:Int):Option (Int×Bool):=
(atI b (Wq (Int.tdiv a 2))).bind λc=>
some (Wq (Wq (2*c)+Int.tmod a 2),decide (0<=c))
def ZHt:Ctr:=⟨[.dat (.sl Iq),.dat Iq],[.dat Iq,.dat (.bool)],λa K=>splitK a λb a=>splitK a λc a=>ZV (ZgM b c) λr=>K (r.1,r.2,()) ()⟩
def Jf (b:List Zk) (a:List Int) (c:Int) (d:List Zk):Option ((Int×(List Zk)×Unit) ⊕ ((List Zk)×Int)):=
if c<(b.length:Int) then
(atI b c).bind λg=>
(ZgM a (Gl g)).bind λe=>
if e.2 then
(atI d c).bind λf=>
some (.inl (Wq (c+1),List.set d (Int.toNat c) (e.1,f.2),()))
else
some (.inr (([]:List Zk),(5:Int)))
else
some (.inr (d,0))
def Za3 (b:Za) (c:Zj) (a:List Zk):Option ((List Zk)×Int):=
(Zfe b c).bind λd=>
if d=0 then
(Jl b).bind λg=>
(Vg g a).bind λe=>
if e then
(VH c b).bind λh=>
(Qk a).bind λf=>
Zq (λv=>Jf a h v.1 v.2.1) ((0:Int),f,())
else
some ([],2)
else
some ([],d)
def ZI0:Ctr:=⟨[.dat (ZT),.dat (XO),.dat (.sl (Z7))],[.own (.ol 106 (.flat (Z7))),.dat Iq],λa K=>splitK a λd a=>splitK a λc a=>splitK a λb a=>ZV (Za3 d c b) λr=>K (r.1,r.2,()) ()⟩
def ZbU (a:List Bool):Option Int:=
some (a.length:Int)
def ZHu:Ctr:=D1 (.sl (.bool)) Iq ZbU
def VI (a:List Zv):Option Int:=
some (a.length:Int)
def ZI1:Ctr:=D1 (.sl (YU)) Iq VI
def VU (b:Zh) (a:Int):Option ((Int×Unit) ⊕ Bool):=
if a<((K9 b).length:Int) then
(atI (K9 b) a).bind λe=>
(atI (Gp b) a).bind λd=>
(Zbz d).bind λg=>
if g then
(atI (Gm b) a).bind λc=>
(Zfg c).bind λf=>
if f then
if e then
some (.inl (Wq (a+1),()))
else
if (decide (Gd d=0)&&decide (Gf d=0))=true then
if (decide (Gd c=0)&&decide (Gf c=0))=true then
some (.inl (Wq (a+1),()))
else
some (.inr false)
else
some (.inr false)
else
some (.inr false)
else
some (.inr false)
else
some (.inr true)
def Zak (d:ZO) (a:Zh):Option Bool:=
(Y6 d).bind λb=>
(ZbU (K9 a)).bind λe=>
if e=b then
(VI (Gp a)).bind λc=>
if c=b then
(VI (Gm a)).bind λf=>
if f=b then
Zq (λv=>VU a v.1) ((0:Int),())
else
some false
else
some false
else
some false
def ZHv:Ctr:=D2 (.ptr (ZmB)) (Yf) (.bool) Zak
def Vt (a:List YN):Option (List YN):=
Zt ((([]:List (List UInt8×Int×Int×Bool×Unit)).length+a.length)*40<=140737488355328)<|
some (([]:List (List UInt8×Int×Int×Bool×Unit))++a)
def ZI2:Ctr:=⟨[.dat (.sl (Ze1))],[.own (.ol 311 (.flat (Ze1)))],λa K=>splitK a λb a=>ZV (Vt b) λr=>K (r,()) ()⟩
def Vs (a:List ZC):Option (List ZC):=
Zt ((([]:List (Int×Int×Int×Int×List Zw×List Zw×Unit)).length+a.length)*80<=140737488355328)<|
some (([]:List (Int×Int×Int×Int×List Zw×List Zw×Unit))++a)
def ZI3:Ctr:=⟨[.dat (.sl (ZfO))],[.own (.ol 280 (.flat (ZfO)))],λa K=>splitK a λb a=>ZV (Vs b) λr=>K (r,()) ()⟩
def JX (b a:List Zw) (c:Int):Option (((List Zw)×Int×Unit) ⊕ List Zw):=
if c<(b.length:Int) then
(atI b c).bind λd=>
(ZF (GM d)).bind λf=>
(ZF (Gt d)).bind λg=>
(ZF (Gr d)).bind λe=>
Zt ((a.length+[(f,g,e,())].length)*72<=140737488355328)<|
some (.inl (a++[(f,g,e,())],Wq (c+1),()))
else
some (.inr a)
def ZbT (a:List Zw):Option (List Zw):=
Zq (λv=>JX a v.1 v.2.1) (([]:List Zw),(0:Int),())
def ZI4:Ctr:=⟨[.dat (.sl (Xa))],[.own (.ol 353 (ZgI))],λa K=>splitK a λb a=>ZV (ZbT b) λr=>K (r,()) ()⟩
def QW (j:Int) (h:List Zl) (c:Zl) (d:List YN) (b:List Int) (g:List ZC) (e:Int) (a:List ZC×Int):Option ((Int×(List ZC×Int)×Unit) ⊕ ((Int×(List Zl)×Unit) ⊕ Zp)):=
if e<(g.length:Int) then
(atI a.1 e).bind λi=>
Zt (a.2<=e)<|
(ZbT (GC i)).bind λl=>
(ZbT (GN i)).bind λk=>
Zt (e=a.2)<|
(atI a.1 a.2).bind λf=>
some (.inl (Wq (e+1),(List.set a.1 (Int.toNat a.2) (Ge f,Gi f,Gn f,GJ f,l,k,()),a.2+1),()))
else
Zt (a.2=(a.1.length:Int))<|
Zt ((h.length+[(GQ c,GE c,d,a.1,b,c.2.2.2.2.2)].length)*112<=140737488355328)<|
some (.inr (.inl (Wq (j+1),h++[(GQ c,GE c,d,a.1,b,c.2.2.2.2.2)],())))
def X4 (d:Zp) (b:Int) (e:List Zl):Option ((Int×(List Zl)×Unit) ⊕ Zp):=
if b<((K8 d).length:Int) then
(atI (K8 d) b).bind λa=>
(Vt (K7 a)).bind λg=>
(ZF (GH a)).bind λf=>
(Vs (Gj a)).bind λc=>
Zq (λv=>QW b e a g f c v.1 v.2.1) ((0:Int),(c,(0:Int)),())
else
some (.inr (e,()))
def Jv (a:Zp):Option Zp:=
Zq (λv=>X4 a v.1 v.2.1) ((0:Int),([]:List Zl),())
def ZI5:Ctr:=⟨[.dat (YV)],[.own (ZnV)],λa K=>splitK a λb a=>ZV (Jv b) λr=>K (r,()) ()⟩
def XI (a:List Ze):Option (List Ze):=
Zt ((([]:List (List UInt8×Int×List Int×Unit)).length+a.length)*48<=140737488355328)<|
some (([]:List (List UInt8×Int×List Int×Unit))++a)
def ZI6:Ctr:=⟨[.dat (.sl (ZX))],[.own (.ol 144 (.flat (ZX)))],λa K=>splitK a λb a=>ZV (XI b) λr=>K (r,()) ()⟩
def JI (a:List (List UInt8)):Option (List (List UInt8)):=
Zt ((([]:List (List UInt8)).length+a.length)*16<=140737488355328)<|
some (([]:List (List UInt8))++a)
def ZI7:Ctr:=⟨[.dat (.sl (.str))],[.own (.ol 9 (.flat (.str)))],λa K=>splitK a λb a=>ZV (JI b) λr=>K (r,()) ()⟩
def Q6 (a:List ZL):Option (List ZL):=
Zt ((([]:List (List UInt8×Int×Int×Unit)).length+a.length)*32<=140737488355328)<|
some (([]:List (List UInt8×Int×Int×Unit))++a)
def ZI8:Ctr:=⟨[.dat (.sl (ZaB))],[.own (.ol 230 (.flat (ZaB)))],λa K=>splitK a λb a=>ZV (Q6 b) λr=>K (r,()) ()⟩
def QU (b:List Ze) (c:List (List UInt8)) (e:List ZL) (d:Int) (a:List Ze×Int):Option ((Int×(List Ze×Int)×Unit) ⊕ Zb):=
if d<(b.length:Int) then
(atI a.1 d).bind λg=>
Zt (a.2<=d)<|
(ZF (Gb g)).bind λh=>
Zt (d=a.2)<|
(atI a.1 a.2).bind λf=>
some (.inl (Wq (d+1),(List.set a.1 (Int.toNat a.2) (Gu f,Gx f,h,()),a.2+1),()))
else
Zt (a.2=(a.1.length:Int))<|
some (.inr (a.1,c,e,()))
def Js (a:Zb):Option Zb:=
(XI (K1 a)).bind λb=>
(JI (K6 a)).bind λd=>
(Q6 (Ga a)).bind λc=>
Zq (λv=>QU b d c v.1 v.2.1) ((0:Int),(b,(0:Int)),())
def ZI9:Ctr:=⟨[.dat (Yi)],[.own (ZoU)],λa K=>splitK a λb a=>ZV (Js b) λr=>K (r,()) ()⟩
def ZcC (a:Zo):Option Zo:=
(ZF (K3 a)).bind λd=>
(ZF (Gy a)).bind λe=>
(ZF (GD a)).bind λb=>
(ZF (Gk a)).bind λc=>
some (d,e,b,c,())
def ZHw:Ctr:=⟨[.dat (QD)],[.own (Zmr)],λa K=>splitK a λb a=>ZV (ZcC b) λr=>K (r,()) ()⟩
def JU (e:Za) (a:Zp) (b:Zb) (c:Int) (d:List Zo):Option ((Int×(List Zo)×Unit) ⊕ Za):=
if c<((K2 e).length:Int) then
(atI (K2 e) c).bind λg=>
(ZcC g).bind λf=>
Zt ((d.length+[f].length)*96<=140737488355328)<|
some (.inl (Wq (c+1),d++[f],()))
else
some (.inr (a,b,d,()))
def Zd2 (a:Za):Option Za:=
(Jv (K4 a)).bind λb=>
(Js (KZ a)).bind λc=>
Zq (λv=>JU a b c v.1 v.2.1) ((0:Int),([]:List Zo),())
def ZJa:Ctr:=⟨[.dat (ZT)],[.own (Zhh)],λa K=>splitK a λb a=>ZV (Zd2 b) λr=>K (r,()) ()⟩
def ZaW (i:Za) (a:List ZH) (c:Int) (d:List ((Int×Int×Unit)×Int)) (e:List Int):Option ((Int×(List ((Int×Int×Unit)×Int))×(List Int)×Unit) ⊕ List (J3×Int)):=
if c<(a.length:Int) then
(atI a c).bind λb=>
if (GS b)=true then
some (.inl (Wq (c+1),d,e,()))
else
(atI (K2 i) (ZH.net b)).bind λh=>
(atI e (ZH.net b)).bind λf=>
(atI (Gk h) f).bind λg=>
some (.inl (Wq (c+1),Zp8 Zxq.ty Zxq.ety d (Gq b,ZH.pin b,()) g,List.set e (Int.toNat (ZH.net b)) (Wq (f+1)),()))
else
some (.inr d)
def VT (a:Za):Option (List (J3×Int)):=
Zt ((0:Int)<=((K2 a).length:Int))<|
Zt (((K2 a).length:Int)<=((K2 a).length:Int))<|
Zt (((K2 a).length:Int)<=4611686018427387904)<|
Zt (((8:Nat):Int)*((K2 a).length:Int)<=281474976710656)<|
(ZR (KZ a)).bind λb=>
Zq (λv=>ZaW a b v.1 v.2.1 v.2.2.1) ((0:Int),([]:List ((Int×Int×Unit)×Int)),List.replicate (Int.toNat ((K2 a).length:Int)) (0:Int),())
def ZF7:Ctr:=⟨[.dat (ZT)],[.own (.mp (Zc0) Iq)],λa K=>splitK a λb a=>ZV (VT b) λr=>K (r,()) ()⟩
def Jq (b:Za) (a:J3) (d:Int):Option Za:=
if G6 a<0 then
(atI (Ga (KZ b)) (J3.pin a)).bind λc=>
some (K4 b,(K1 (KZ b),K6 (KZ b),List.set (Ga (KZ b)) (Int.toNat (J3.pin a)) (GO c,Gz c,d,()),()),b.2.2)
else
(atI (K1 (KZ b)) (G6 a)).bind λc=>
(atI c.2.2.1 (J3.pin a)).bind λe=>
some (K4 b,(List.set (K1 (KZ b)) (Int.toNat (G6 a)) (c.1,c.2.1,List.set c.2.2.1 (Int.toNat (J3.pin a)) d,()),(KZ b).2),b.2.2)
def ZF8:Ctr:=⟨[.io (Zhh),.dat (Zc0),.dat Iq],[],λa K=>splitK a λd a=>splitK a λc a=>splitK a λb a=>ZV (Jq d c b) λr=>K () (r,())⟩
def ZaV (g:Za) (b:List (J3×Int)) (a:List ZH) (f:Int) (e:List (List Int×List Int×List Int×List Int×Unit)):Option ((Int×(List (List Int×List Int×List Int×List Int×Unit))×Unit) ⊕ ((Int×(List (List Int×List Int×List Int×List Int×Unit))×Unit) ⊕ Za)):=
if f<(a.length:Int) then
(atI a f).bind λc=>
if (GS c)=true then
some (.inl (Wq (f+1),e,()))
else
(atI e (ZH.net c)).bind λd=>
Zt ((d.2.2.2.1.length+[Option.getD (Zmh Zc0 (Ty.int IntKind.i64) b (Gq c,ZH.pin c,())) (0:Int)].length)*8<=140737488355328)<|
some (.inl (Wq (f+1),List.set e (Int.toNat (ZH.net c)) (d.1,d.2.1,d.2.2.1,d.2.2.2.1++[Option.getD (Zmh Zc0 (Ty.int IntKind.i64) b (Gq c,ZH.pin c,())) (0:Int)],()),()))
else
some (.inr (.inr (K4 g,KZ g,e,())))
def VR (e:Za) (a:List (J3×Int)) (b:Int) (c:List (List Int×List Int×List Int×List Int×Unit)):Option ((Int×(List (List Int×List Int×List Int×List Int×Unit))×Unit) ⊕ Za):=
if b<((K2 e).length:Int) then
(atI c b).bind λd=>
some (.inl (Wq (b+1),List.set c (Int.toNat b) (d.1,d.2.1,d.2.2.1,([]:List Int),()),()))
else
(ZR (KZ e)).bind λf=>
Zq (λv=>ZaV e a f v.1 v.2.1) ((0:Int),c,())
def QT (b:Za) (a:List (J3×Int)):Option Za:=
Zq (λv=>VR b a v.1 v.2.1) ((0:Int),K2 b,())
def ZF9:Ctr:=⟨[.io (Zhh),.dat (.mp (Zc0) Iq)],[],λa K=>splitK a λc a=>splitK a λb a=>ZV (QT c b) λr=>K () (r,())⟩
def Zc9 (a:Za) (c:Zj):Option Za:=
(VT a).bind λe=>
(ZR (KZ a)).bind λg=>
(atI g (Gc c)).bind λb=>
(Xh (K6 (KZ a))).bind λd=>
(Qv (K1 (KZ a))).bind λh=>
Zt (((K1 (KZ a)).length+[(Gh c,Gv c,[ZH.net b,d],())].length)*48<=140737488355328)<|
Zt (((K6 (KZ a)).length+[Gh c].length)*16<=140737488355328)<|
Zt (((K2 a).length+[([(-1:Int)],[(0:Int)],[(0:Int)],([]:List Int),())].length)*96<=140737488355328)<|
(Jq (K4 a,(K1 (KZ a)++[(Gh c,Gv c,[ZH.net b,d],())],K6 (KZ a)++[Gh c],(KZ a).2.2),K2 a++[([(-1:Int)],[(0:Int)],[(0:Int)],([]:List Int),())],()) (Gq b,ZH.pin b,()) d).bind λf=>
(QT f (Zp8 Zc0 (Ty.int IntKind.i64) (Zp8 Zc0 (Ty.int IntKind.i64) e (h,0,()) (Option.getD (Zmh Zc0 (Ty.int IntKind.i64) e (Gq b,ZH.pin b,())) 0)) (Gq b,ZH.pin b,()) 0)).bind λi=>
some i
def ZJb:Ctr:=⟨[.io (Zhh),.dat (XO)],[],λa K=>splitK a λb a=>splitK a λc a=>ZV (Zc9 b c) λr=>K () (r,())⟩
def Zbu (a:Za):Option (J3×Za):=
(VT a).bind λe=>
(ZR (KZ a)).bind λi=>
(Xh (K6 (KZ a))).bind λf=>
(Za1 (KZ a) (Wq (f-1))).bind λj=>
(atI j 0).bind λh=>
(atI i h).bind λc=>
(atI (K1 (KZ a)) (Wq (((K1 (KZ a)).length:Int)-1))).bind λd=>
(atI d.2.2.1 0).bind λg=>
(Jq (K4 a,(List.set (K1 (KZ a)) (Int.toNat (Wq (((K1 (KZ a)).length:Int)-1))) d,(KZ a).2),a.2.2) (Gq c,ZH.pin c,()) g).bind λb=>
Zt ((0:Int)<=Wq (((K1 (KZ a)).length:Int)-1))<|
Zt (Wq (((K1 (KZ a)).length:Int)-1)<=((K1 (KZ b)).length:Int))<|
Zt ((0:Int)<=Wq (((K6 (KZ b)).length:Int)-1))<|
Zt (Wq (((K6 (KZ b)).length:Int)-1)<=((K6 (KZ b)).length:Int))<|
Zt ((0:Int)<=Wq (((K2 b).length:Int)-1))<|
Zt (Wq (((K2 b).length:Int)-1)<=((K2 b).length:Int))<|
(QT (K4 b,(List.take (Int.toNat (Wq (((K1 (KZ a)).length:Int)-1))-Int.toNat 0) (List.drop (Int.toNat 0) (K1 (KZ b))),List.take (Int.toNat (Wq (((K6 (KZ b)).length:Int)-1))-Int.toNat 0) (List.drop (Int.toNat 0) (K6 (KZ b))),(KZ b).2.2),List.take (Int.toNat (Wq (((K2 b).length:Int)-1))-Int.toNat 0) (List.drop (Int.toNat 0) (K2 b)),()) (Zp8 Zc0 (Ty.int IntKind.i64) e (Gq c,ZH.pin c,()) (Option.getD (Zmh Zc0 (Ty.int IntKind.i64) e (Wq (((K1 (KZ a)).length:Int)-1),0,())) 0))).bind λk=>
some ((Gq c,ZH.pin c,()),k)
def ZJc:Ctr:=⟨[.io (Zhh)],[.dat (Zc0)],λa K=>splitK a λb a=>ZV (Zbu b) λr=>K (r.1,()) (r.2,())⟩
def JC (b:Zj) (f:Za):Option Za:=
(Zd2 f).bind λa=>
if K5 b=1 then
(ZR (KZ f)).bind λd=>
(atI d (Gc b)).bind λc=>
(atI (K1 (KZ a)) (Gq c)).bind λe=>
some (K4 a,(List.set (K1 (KZ a)) (Int.toNat (Gq c)) (e.1,Gv b,e.2.2),(KZ a).2),a.2.2)
else
if K5 b=2 then
(Zc9 a b).bind λg=>
some g
else
if K5 b=3 then
(Zbu a).bind λk=>
some k.2
else
if K5 b=4 then
(VT a).bind λh=>
(ZR (KZ a)).bind λd=>
(atI d (Gc b)).bind λc=>
(Jq a (Gq c,ZH.pin c,()) (Gs b)).bind λl=>
(QT l (Zp8 Zc0 (Ty.int IntKind.i64) h (Gq c,ZH.pin c,()) (GF b))).bind λi=>
some i
else
if K5 b=5 then
(ZcC (GB b)).bind λj=>
(atI (K2 a) (Gs b)).bind λc=>
some (K4 a,KZ a,List.set (K2 a) (Int.toNat (Gs b)) j,())
else
some a
def ZGa:Ctr:=⟨[.dat (XO),.dat (ZT)],[.own (Zhh)],λa K=>splitK a λb a=>splitK a λc a=>ZV (JC b c) λr=>K (r,()) ()⟩
def ZbC (b:ZO):Option Zh:=
(Y6 b).bind λa=>
Zt ((0:Int)<=a)<|
Zt (a<=a)<|
Zt (a<=4611686018427387904)<|
Zt (((1:Nat):Int)*a<=281474976710656)<|
Zt (((16:Nat):Int)*a<=281474976710656)<|
some (List.replicate (Int.toNat a) false,List.replicate (Int.toNat a) ((0:Int),(0:Int),()),List.replicate (Int.toNat a) ((0:Int),(0:Int),()),())
def ZJd:Ctr:=⟨[.dat (.ptr (ZmB))],[.own (Zcx)],λa K=>splitK a λb a=>ZV (ZbC b) λr=>K (r,()) ()⟩
def XR (h:Zh) (a:List Int) (g b:Int) (e:List Bool) (f d:List Zv):Option ((Int×(List Bool)×(List Zv)×(List Zv)×Unit) ⊕ Zh):=
if b<g then
(ZgM a b).bind λc=>
if c.2 then
(atI (K9 h) b).bind λi=>
(atI (Gp h) b).bind λk=>
(atI (Gm h) b).bind λj=>
(atI e c.1).bind λl=>
(atI f c.1).bind λn=>
(atI d c.1).bind λm=>
some (.inl (Wq (b+1),List.set e (Int.toNat c.1) i,List.set f (Int.toNat c.1) k,List.set d (Int.toNat c.1) j,()))
else
some (.inl (Wq (b+1),e,f,d,()))
else
some (.inr (e,f,d,()))
def Zae (c:Zj) (d:Za) (b:Zh):Option Zh:=
(JC c d).bind λh=>
(Jl h).bind λf=>
(ZbC f).bind λa=>
(VH c d).bind λg=>
(ZbU (K9 b)).bind λe=>
Zq (λv=>XR b g e v.1 v.2.1 v.2.2.1 v.2.2.2.1) ((0:Int),K9 a,Gp a,Gm a,())
def ZJe:Ctr:=⟨[.dat (XO),.dat (ZT),.dat (Yf)],[.own (Zcx)],λa K=>splitK a λc a=>splitK a λd a=>splitK a λb a=>ZV (Zae c d b) λr=>K (r,()) ()⟩
def Zd5 (a:Za) (c:Zj) (b:Zh):Option (Zh×Int):=
(Zfe a c).bind λd=>
if d=0 then
(Jl a).bind λg=>
(Zak g b).bind λe=>
if e then
(Zae c a b).bind λf=>
some (f,0)
else
some (([],[],[],()),2)
else
some (([],[],[],()),d)
def ZJf:Ctr:=⟨[.dat (ZT),.dat (XO),.dat (Yf)],[.own (Zcx),.dat Iq],λa K=>splitK a λd a=>splitK a λc a=>splitK a λb a=>ZV (Zd5 d c b) λr=>K (r.1,r.2,()) ()⟩
def Jt (c:Zj) (e:Za):Option (List Int):=
if K5 c=1 then
(ZR (KZ e)).bind λf=>
(atI f (Gc c)).bind λd=>
(atI (K1 (KZ e)) (Gq d)).bind λg=>
(ZF (Gb g)).bind λi=>
(Zzz i).bind λb=>
(Zk6 b).bind λa=>
some a
else
if K5 c=2 then
(ZR (KZ e)).bind λf=>
(atI f (Gc c)).bind λd=>
(Xh (K6 (KZ e))).bind λh=>
(Zzz [ZH.net d,h]).bind λb=>
(Zk6 b).bind λa=>
some a
else
if K5 c=3 then
(atI (K1 (KZ e)) (Wq (((K1 (KZ e)).length:Int)-1))).bind λd=>
(atI (Gb d) 0).bind λg=>
(Zzz [g]).bind λb=>
(Zk6 b).bind λa=>
some a
else
if K5 c=4 then
(ZR (KZ e)).bind λf=>
(atI f (Gc c)).bind λd=>
(Zzz [ZH.net d,Gs c]).bind λb=>
(Zk6 b).bind λa=>
some a
else
if K5 c=5 then
(Zzz [Gs c]).bind λb=>
(Zk6 b).bind λa=>
some a
else
(Zzz (([]:List Int))).bind λb=>
(Zk6 (([]:List Int))).bind λa=>
some a
def ZJg:Ctr:=⟨[.dat (XO),.dat (ZT)],[.own (.ol 2 (.flat Iq))],λa K=>splitK a λb a=>splitK a λc a=>ZV (Jt b c) λr=>K (r,()) ()⟩
def Yo (b:List Int) (d a:Int):Option ((Int×Unit) ⊕ Int):=
if a<(b.length:Int) then
(atI b a).bind λc=>
if d=c then
some (.inr a)
else
some (.inl (Wq (a+1),()))
else
some (.inr (-1))
def Xl (b:List Int) (a:Int):Option Int:=
Zq (λv=>Yo b a v.1) ((0:Int),())
def ZJh:Ctr:=D2 (.sl Iq) Iq Iq Xl
def Yc (b:List Int) (a:Int):Option Bool:=
(Xl b a).bind λc=>
some (decide (0<=c))
def ZHx:Ctr:=D2 (.sl Iq) Iq (.bool) Yc
def VG (d:List Int) (b:List ZH) (a:List Int) (c:Int):Option (((List Int)×Int×Unit) ⊕ List Int):=
if c<(b.length:Int) then
(atI b c).bind λe=>
(Yc d (ZH.net e)).bind λf=>
if f then
Zt ((a.length+[Wq ((2:Int)*c),Wq (Wq ((2:Int)*c)+1)].length)*8<=140737488355328)<|
some (.inl (a++[Wq ((2:Int)*c),Wq (Wq ((2:Int)*c)+1)],Wq (c+1),()))
else
some (.inl (a,Wq (c+1),()))
else
some (.inr a)
def Za2 (a:Zj) (b:Za):Option (List Int):=
(Jt a b).bind λd=>
(JC a b).bind λe=>
(ZR (KZ e)).bind λc=>
Zq (λv=>VG d c v.1 v.2.1) (([]:List Int),(0:Int),())
def ZJi:Ctr:=⟨[.dat (XO),.dat (ZT)],[.own (.ol 2 (.flat Iq))],λa K=>splitK a λb a=>splitK a λc a=>ZV (Za2 b c) λr=>K (r,()) ()⟩
def ZcD (a b:Int):Option Bool:=
if 100<=a then
if a<=b then
some (decide (b<=5000))
else
some false
else
some false
def ZJj:Ctr:=D2 Iq Iq (.bool) ZcD
def ZhK (a:ZA):Option Bool:=
(Zem (G7 a)).bind λc=>
if c then
(ZcD (G0 a) (GZ a)).bind λd=>
if d then
(ZcD (G2 a) (G3 a)).bind λb=>
some b
else
some false
else
some false
def ZJk:Ctr:=D1 (XW) (.bool) ZhK
def ZcF (a:List Zx):Option Int:=
some (a.length:Int)
def ZJl:Ctr:=D1 (.sl (ZcZ)) Iq ZcF
def Zaj (c:ZO) (a:List Int):Option Bool:=
(ZcF (ZO.links c)).bind λd=>
(XD a 0 (Wq (d-1))).bind λe=>
if e then
(Vp a).bind λb=>
some b
else
some false
def ZJm:Ctr:=D2 (.ptr (ZmB)) (.sl Iq) (.bool) Zaj
def Q5 (e:ZO) (a:List Int) (c:Int) (b:List Bool):Option ((Int×(List Bool)×Unit) ⊕ ((Int×(List Bool)×Unit) ⊕ Ym)):=
if c<(a.length:Int) then
(atI a c).bind λd=>
(atI b d).bind λf=>
some (.inl (Wq (c+1),List.set b (Int.toNat d) false,()))
else
some (.inr (.inr (e,b,())))
def ZbB (d:ZO) (a:List Int) (b:Int) (c:List Bool):Option ((Int×(List Bool)×Unit) ⊕ Ym):=
if b<(((List.replicate (Int.toNat ((ZO.links d).length:Int)) false).length):Int) then
(atI c b).bind λe=>
some (.inl (Wq (b+1),List.set c (Int.toNat b) true,()))
else
Zq (λv=>Q5 d a v.1 v.2.1) ((0:Int),c,())
def Jw (a:ZO) (b:List Int):Option Ym:=
Zt ((0:Int)<=((ZO.links a).length:Int))<|
Zt (((ZO.links a).length:Int)<=((ZO.links a).length:Int))<|
Zt (((ZO.links a).length:Int)<=4611686018427387904)<|
Zt (((1:Nat):Int)*((ZO.links a).length:Int)<=281474976710656)<|
Zq (λv=>ZbB a b v.1 v.2.1) ((0:Int),List.replicate (Int.toNat ((ZO.links a).length:Int)) false,())
def ZJn:Ctr:=D2 (.ptr (ZmB)) (.sl Iq) (.ptr (Zjz)) Jw
def Zel (a:Zx):Option Bool:=
some true
def ZJo:Ctr:=D1 (ZcZ) (.bool) Zel
def YM (c:Ym) (a:List Int) (b:Int):Option (((List Int)×Int×Unit) ⊕ List Int):=
if b<((ZO.links (GP c)).length:Int) then
(atI (ZO.links (GP c)) b).bind λe=>
(atI (Ym.live c) b).bind λd=>
if d then
(Zel e).bind λf=>
if f then
Zt ((a.length+[b].length)*8<=140737488355328)<|
some (.inl (a++[b],Wq (b+1),()))
else
some (.inl (a,Wq (b+1),()))
else
some (.inl (a,Wq (b+1),()))
else
some (.inr a)
def Xb (a:Ym) (b:Unit):Option (List Int):=
Zq (λv=>YM a v.1 v.2.1) (([]:List Int),(0:Int),())
def ZJp:Ctr:=⟨[.dat (.ptr (Zjz)),.dat (.fn 234 (.unit))],[.own (.ol 2 (.flat Iq))],λa K=>splitK a λc a=>splitK a λb a=>ZV (Xb c b) λr=>K (r,()) ()⟩
def XV (b:List Int) (d a:Int):Option ((Int×Unit) ⊕ Int):=
if a<(b.length:Int) then
(atI b a).bind λc=>
if d=c then
some (.inr a)
else
some (.inl (Wq (a+1),()))
else
some (.inr (-1))
def Zaq (b:List Int) (a:Int):Option Int:=
Zq (λv=>XV b a v.1) ((0:Int),())
def ZJq:Ctr:=D2 (.sl Iq) Iq Iq Zaq
def Zfi (b:Zx) (a:Int):Option Bool:=
some (decide (GA b=a))
def ZJr:Ctr:=D2 (ZcZ) (.ptr Iq) (.bool) Zfi
def YP (c:Ym) (d:Int×Unit) (a:List Int) (b:Int):Option (((List Int)×Int×Unit) ⊕ List Int):=
if b<((ZO.links (GP c)).length:Int) then
(atI (ZO.links (GP c)) b).bind λf=>
(atI (Ym.live c) b).bind λe=>
if e then
(Zfi f d.1).bind λg=>
if g then
Zt ((a.length+[b].length)*8<=140737488355328)<|
some (.inl (a++[b],Wq (b+1),()))
else
some (.inl (a,Wq (b+1),()))
else
some (.inl (a,Wq (b+1),()))
else
some (.inr a)
def XT (b:Ym) (a:Int×Unit):Option (List Int):=
Zq (λv=>YP b a v.1 v.2.1) (([]:List Int),(0:Int),())
def ZJs:Ctr:=⟨[.dat (.ptr (Zjz)),.dat (.fn 284 (.pair (.ptr Iq) (.unit)))],[.own (.ol 2 (.flat Iq))],λa K=>splitK a λc a=>splitK a λb a=>ZV (XT c b) λr=>K (r,()) ()⟩
def Zfh (b:Ym) (a:Int):Option (List Int):=
(XT b (a,())).bind λc=>
some c
def ZJt:Ctr:=⟨[.dat (.ptr (Zjz)),.dat Iq],[.own (.ol 2 (.flat Iq))],λa K=>splitK a λc a=>splitK a λb a=>ZV (Zfh c b) λr=>K (r,()) ()⟩
def Qr (g:Ym) (j:List Int) (h b:Int) (a:List Int) (d:Int) (c:List Int):Option ((Int×(List Int)×Unit) ⊕ (((List Int)×Int×(List Int)×Unit) ⊕ ((Int×(List Int)×Unit) ⊕ ((List Int)×Bool)))):=
if d<(a.length:Int) then
(atI a d).bind λi=>
(atI (ZO.links (GP g)) i).bind λe=>
(atI c (Gw e)).bind λf=>
some (.inl (Wq (d+1),List.set c (Int.toNat (Gw e)) (Wq (f-1)),()))
else
some (.inr (.inl (j++[b],Wq (h+1),c,())))
def Y9 (d:Ym) (g c:List Int) (e:Int) (b:List Int):Option (((List Int)×Int×(List Int)×Unit) ⊕ ((Int×(List Int)×Unit) ⊕ ((List Int)×Bool))):=
if e<(g.length:Int) then
(Zaq b 0).bind λa=>
if a<0 then
some (.inr (.inr (([]:List Int),false)))
else
(atI b a).bind λh=>
Zt ((c.length+[a].length)*8<=140737488355328)<|
(Zfh d a).bind λf=>
Zq (λv=>Qr d c e a f v.1 v.2.1) ((0:Int),List.set b (Int.toNat a) (-1:Int),())
else
some (.inr (.inr (c,true)))
def Qs (d:Ym) (a:List Int) (c:Int) (b:List Int):Option ((Int×(List Int)×Unit) ⊕ ((List Int)×Bool)):=
if c<(a.length:Int) then
(atI a c).bind λg=>
(atI (ZO.links (GP d)) g).bind λe=>
(atI b (Gw e)).bind λf=>
some (.inl (Wq (c+1),List.set b (Int.toNat (Gw e)) (Wq (f+1)),()))
else
Zq (λv=>Y9 d b v.1 v.2.1 v.2.2.1) (([]:List Int),(0:Int),b,())
def J8 (b:Ym):Option ((List Int)×Bool):=
(Y6 (GP b)).bind λa=>
Zt ((0:Int)<=a)<|
Zt (a<=a)<|
Zt (a<=4611686018427387904)<|
Zt (((8:Nat):Int)*a<=281474976710656)<|
(Xb b ()).bind λc=>
Zq (λv=>Qs b c v.1 v.2.1) ((0:Int),List.replicate (Int.toNat a) (0:Int),())
def ZJu:Ctr:=⟨[.dat (.ptr (Zjz))],[.own (.ol 2 (.flat Iq)),.dat (.bool)],λa K=>splitK a λb a=>ZV (J8 b) λr=>K (r.1,r.2,()) ()⟩
def ZbW (i:Za) (l:ZA) (a:List Int) (b:List Zk) (h:Option Zh):Option ((Option Ym)×(List Int)×Int):=
(ZgL i).bind λn=>
if n then
(ZhK l).bind λk=>
if k then
(Jl i).bind λc=>
if (Option.isNone h)=true then
(Zaj c a).bind λg=>
if g then
(Vg c b).bind λf=>
if f then
(Jw c a).bind λe=>
(J8 e).bind λd=>
if d.2 then
some (Option.some e,d.1,0)
else
some (Option.none,[],7)
else
some (Option.none,[],2)
else
some (Option.none,[],2)
else
(h).bind λm=>
(Zak c m).bind λj=>
if j then
(Zaj c a).bind λg=>
if g then
(Vg c b).bind λf=>
if f then
(Jw c a).bind λe=>
(J8 e).bind λd=>
if d.2 then
some (Option.some e,d.1,0)
else
some (Option.none,[],7)
else
some (Option.none,[],2)
else
some (Option.none,[],2)
else
some (Option.none,[],1)
else
some (Option.none,[],1)
else
some (Option.none,[],1)
def ZJv:Ctr:=⟨[.dat (ZT),.dat (XW),.dat (.sl Iq),.dat (.sl (Z7)),.dat (.nptr (Yf))],[.dat (.nptr (Zjz)),.own (.ol 2 (.flat Iq)),.dat Iq],λa K=>splitK a λf a=>splitK a λe a=>splitK a λc a=>splitK a λb a=>splitK a λd a=>ZV (ZbW f e c b d) λr=>K (r.1,r.2.1,r.2.2,()) ()⟩
def Zai (c:ZO) (a:List Int):Option Bool:=
(Y6 c).bind λd=>
(XD a 0 (Wq (d-1))).bind λe=>
if e then
(Vp a).bind λb=>
some b
else
some false
def ZJw:Ctr:=D2 (.ptr (ZmB)) (.sl Iq) (.bool) Zai
def ZbH (a:List Bool):Option (List Bool):=
Zt ((([]:List Bool).length+a.length)*1<=140737488355328)<|
some (([]:List Bool)++a)
def ZJx:Ctr:=⟨[.dat (.sl (.bool))],[.own (.ol 4 (.flat (.bool)))],λa K=>splitK a λb a=>ZV (ZbH b) λr=>K (r,()) ()⟩
def XM (a:List Zv):Option (List Zv):=
Zt ((([]:List (Int×Int×Unit)).length+a.length)*16<=140737488355328)<|
some (([]:List (Int×Int×Unit))++a)
def ZJy:Ctr:=⟨[.dat (.sl (YU))],[.own (.ol 104 (.flat (YU)))],λa K=>splitK a λb a=>ZV (XM b) λr=>K (r,()) ()⟩
def Zdb (a:Zh):Option Zh:=
(ZbH (K9 a)).bind λc=>
(XM (Gp a)).bind λd=>
(XM (Gm a)).bind λb=>
some (c,d,b,())
def ZJz:Ctr:=⟨[.dat (Yf)],[.own (Zcx)],λa K=>splitK a λb a=>ZV (Zdb b) λr=>K (r,()) ()⟩
def Zg7 (b:Zx) (a:Int):Option Bool:=
some (decide (Gw b=a))
def ZJA:Ctr:=D2 (ZcZ) (.ptr Iq) (.bool) Zg7
def Y1 (c:Ym) (d:Int×Unit) (a:List Int) (b:Int):Option (((List Int)×Int×Unit) ⊕ List Int):=
if b<((ZO.links (GP c)).length:Int) then
(atI (ZO.links (GP c)) b).bind λf=>
(atI (Ym.live c) b).bind λe=>
if e then
(Zg7 f d.1).bind λg=>
if g then
Zt ((a.length+[b].length)*8<=140737488355328)<|
some (.inl (a++[b],Wq (b+1),()))
else
some (.inl (a,Wq (b+1),()))
else
some (.inl (a,Wq (b+1),()))
else
some (.inr a)
def Qj (b:Ym) (a:Int×Unit):Option (List Int):=
Zq (λv=>Y1 b a v.1 v.2.1) (([]:List Int),(0:Int),())
def ZJB:Ctr:=⟨[.dat (.ptr (Zjz)),.dat (.fn 239 (.pair (.ptr Iq) (.unit)))],[.own (.ol 2 (.flat Iq))],λa K=>splitK a λc a=>splitK a λb a=>ZV (Qj c b) λr=>K (r,()) ()⟩
def ZbA (b:Ym) (a:Int):Option (List Int):=
(Qj b (a,())).bind λc=>
some c
def ZHy:Ctr:=⟨[.dat (.ptr (Zjz)),.dat Iq],[.own (.ol 2 (.flat Iq))],λa K=>splitK a λc a=>splitK a λb a=>ZV (ZbA c b) λr=>K (r,()) ()⟩
def Ve (a:Int) (d:List Bool) (e:Ym):Option Bool:=
(atI (ZO.links (GP e)) a).bind λc=>
(atI d (GA c)).bind λb=>
some b
def ZJC:Ctr:=D3 Iq (.ptr (.sl (.bool))) (.ptr (.ptr (Zjz))) (.bool) Ve
def YF (b:List Int) (c:List Bool×Ym×Unit) (a:Int):Option ((Int×Unit) ⊕ Int):=
if a<(b.length:Int) then
(atI b a).bind λe=>
(Ve e c.1 c.2.1).bind λd=>
if d then
some (.inr a)
else
some (.inl (Wq (a+1),()))
else
some (.inr (-1))
def Yp (a:List Int) (b:List Bool×Ym×Unit):Option Int:=
Zq (λv=>YF a b v.1) ((0:Int),())
def ZJD:Ctr:=D2 (.sl Iq) (.fn 181 (.pair (.ptr (.sl (.bool))) (.pair (.ptr (.ptr (Zjz))) (.unit)))) Iq Yp
def ZJ (b:List Int) (a:List Bool×Ym×Unit):Option Bool:=
(Yp b a).bind λc=>
some (decide (0<=c))
def ZJE:Ctr:=D2 (.sl Iq) (.fn 181 (.pair (.ptr (.sl (.bool))) (.pair (.ptr (.ptr (Zjz))) (.unit)))) (.bool) ZJ
def Zg8 (b:Zk) (a:Int):Option Bool:=
some (decide (Gl b=a))
def ZJF:Ctr:=D2 (Z7) (.ptr Iq) (.bool) Zg8
def Yl (b:List Zk) (e:Int×Unit) (a:Int):Option ((Int×Unit) ⊕ Int):=
if a<(b.length:Int) then
(atI b a).bind λd=>
(Zg8 d e.1).bind λc=>
if c then
some (.inr a)
else
some (.inl (Wq (a+1),()))
else
some (.inr (-1))
def Z6 (a:List Zk) (b:Int×Unit):Option Int:=
Zq (λv=>Yl a b v.1) ((0:Int),())
def ZJG:Ctr:=D2 (.sl (Z7)) (.fn 286 (.pair (.ptr Iq) (.unit))) Iq Z6
def ZhO (a:List Zk) (b:Int):Option (Zk×Bool):=
(Z6 a (b,())).bind λc=>
if 0<=c then
(atI a c).bind λd=>
some (d,true)
else
some ((0,(0,0,()),(0,0,()),()),false)
def ZJH:Ctr:=⟨[.dat (.sl (Z7)),.dat Iq],[.dat (Z7),.dat (.bool)],λa K=>splitK a λc a=>splitK a λb a=>ZV (ZhO c b) λr=>K (r.1,r.2,()) ()⟩
def ZjC (a b:Zv):Option Zv:=
some (Min.min (Gd a) (Gd b),Max.max (Gf a) (Gf b),())
def ZJI:Ctr:=D2 (YU) (YU) (YU) ZjC
def J7 (d:Zk) (b:Bool) (a c:Zv):Option (Zk×Bool):=
if b then
(ZjC (GK d) a).bind λe=>
(ZjC (GR d) c).bind λf=>
some ((Gl d,e,f,()),b)
else
some ((Gl d,a,c,()),true)
def ZJJ:Ctr:=⟨[.io (.flat (Z7)),.io (.flat (.bool)),.dat (YU),.dat (YU)],[],λa K=>splitK a λe a=>splitK a λc a=>splitK a λb a=>splitK a λd a=>ZV (J7 e c b d) λr=>K () (r.1,r.2,())⟩
def Za6 (b:ZO) (c:Zx):Option Int:=
(atI (ZO.places b) (Wq (Int.tdiv (Gw c) 2))).bind λa=>
some (ZH.net a)
def ZGb:Ctr:=D2 (.ptr (ZmB)) (ZcZ) Iq Za6
def ZcH (a:ZO) (b:Zx):Option ZC:=
(atI (ZO.places a) (Wq (Int.tdiv (Gw b) 2))).bind λe=>
(atI (K1 (KZ (GY a))) (Gq e)).bind λf=>
(atI (K8 (K4 (GY a))) (Gx f)).bind λd=>
(atI (Gj d) (GX b)).bind λc=>
some c
def ZHz:Ctr:=D2 (.ptr (ZmB)) (ZcZ) (ZfO) ZcH
def Ze5 (a:Int):Option Bool:=
some (!decide (a=a))
def ZJK:Ctr:=D1 Iq (.bool) Ze5
def Zgh (a b:Int):Option Bool:=
(Ze5 a).bind λd=>
if d then
(Ze5 b).bind λc=>
if c then
some (decide (a<b))
else
some true
else
some (decide (a<b))
def ZJL:Ctr:=D2 Iq Iq (.bool) Zgh
def Zar (a:Int):Option Bool:=
some (!decide (a=a))
def ZJM:Ctr:=D1 Iq (.bool) Zar
def Qd (e:List Int) (a b c:Int):Option ((Int×Int×Unit) ⊕ (Int×Bool)):=
if b<c then
(atI e (Wq (Int.fdiv (IntKind.wrap IntKind.u64 (Wq (b+c))) (2 ^ Min.min (Int.toNat 1) (IntKind.bits IntKind.u64))))).bind λd=>
(Zgh d a).bind λf=>
if f then
some (.inl (Wq (Wq (Int.fdiv (IntKind.wrap IntKind.u64 (Wq (b+c))) (2 ^ Min.min (Int.toNat 1) (IntKind.bits IntKind.u64)))+1),c,()))
else
some (.inl (b,Wq (Int.fdiv (IntKind.wrap IntKind.u64 (Wq (b+c))) (2 ^ Min.min (Int.toNat 1) (IntKind.bits IntKind.u64))),()))
else
if b<(e.length:Int) then
(atI e b).bind λd=>
if d=a then
some (.inr (b,true))
else
(Zar d).bind λf=>
if f then
(Zar a).bind λg=>
some (.inr (b,g))
else
some (.inr (b,false))
else
some (.inr (b,false))
def XP (b:List Int) (a:Int):Option (Int×Bool):=
Zq (λv=>Qd b a v.1 v.2.1) ((0:Int),(b.length:Int),())
def ZJN:Ctr:=⟨[.dat (.sl Iq),.dat Iq],[.dat Iq,.dat (.bool)],λa K=>splitK a λc a=>splitK a λb a=>ZV (XP c b) λr=>K (r.1,r.2,()) ()⟩
def ZgN (a:List Int) (c:Int):Option ((List Zca)×Int):=
(atI a 0).bind λe=>
(atI a (Wq ((a.length:Int)-1))).bind λd=>
(XP a (Min.min (Max.max c e) d)).bind λb=>
if b.2 then
some ([(b.1,(1:Int),())],1)
else
(atI a b.1).bind λf=>
(atI a (Wq (b.1-1))).bind λg=>
some ([(Wq (b.1-1),Wq (f-Min.min (Max.max c e) d),()),(b.1,Wq (Min.min (Max.max c e) d-g),())],Wq (f-g))
def ZJO:Ctr:=⟨[.dat (.sl Iq),.dat Iq],[.own (.ol 418 (.flat (Zxv))),.dat Iq],λa K=>splitK a λb a=>splitK a λc a=>ZV (ZgN b c) λr=>K (r.1,r.2,()) ()⟩
def ZcE (b a c:Int):Option Int:=
Zt (a≠0)<|
if c=0 then
if Int.tmod b a<0 then
some (Wq (Wq (Int.tdiv b a)-1))
else
if c=1 then
if 0<Int.tmod b a then
some (Wq (Wq (Int.tdiv b a)+1))
else
some (Wq (Int.tdiv b a))
else
some (Wq (Int.tdiv b a))
else
if c=1 then
if 0<Int.tmod b a then
some (Wq (Wq (Int.tdiv b a)+1))
else
some (Wq (Int.tdiv b a))
else
some (Wq (Int.tdiv b a))
def ZFI:Ctr:=D3 Iq Iq Iq Iq ZcE
def X3 (e:Zw) (a:List Zca×Int) (h:Int) (c:Zca) (f b:Int):Option ((Int×Int×Unit) ⊕ ((Int×Int×Unit) ⊕ Int)):=
if b<(a.1.length:Int) then
(atI a.1 b).bind λd=>
(atI (Gr e) (Wq (Wq (Zca.index c*((Gt e).length:Int))+Zca.index d))).bind λg=>
some (.inl (Wq (f+Wq (Wq (g*Zca.part c)*Zca.part d)),Wq (b+1),()))
else
some (.inr (.inl (f,Wq (h+1),())))
def Y0 (f:Zw) (g:Int) (a b:List Zca×Int) (d c:Int):Option ((Int×Int×Unit) ⊕ Int):=
if c<(a.1.length:Int) then
(atI a.1 c).bind λe=>
Zq (λv=>X3 f b c e v.1 v.2.1) (d,(0:Int),())
else
(ZcE d (Wq (a.2*b.2)) g).bind λh=>
some (.inr h)
def Za4 (a:Zw) (c b d:Int):Option Int:=
(ZgN (GM a) c).bind λe=>
(ZgN (Gt a) b).bind λf=>
Zq (λv=>Y0 a d e f v.1 v.2.1) ((0:Int),(0:Int),())
def ZHA:Ctr:=D4 (Xa) Iq Iq Iq Iq Za4
def Zad (c:ZA) (a b:Int):Option Int:=
if a=1 then
if b=0 then
some (G0 c)
else
if a=1 then
some (GZ c)
else
if b=0 then
some (G2 c)
else
some (G3 c)
else
if a=1 then
some (GZ c)
else
if b=0 then
some (G2 c)
else
some (G3 c)
def ZJP:Ctr:=D3 (XW) Iq Iq Iq Zad
def ZjV (d a b:Int):Option Int:=
(ZcE (Wq (d*a)) 1000 b).bind λc=>
some c
def ZJQ:Ctr:=D3 Iq Iq Iq Iq ZjV
def JE (c:ZO) (h:ZA) (m n b:Int):Option Int:=
(atI (ZO.links c) m).bind λa=>
(Za6 c a).bind λi=>
if GT a=1 then
(atI (ZO.loads c) i).bind λg=>
(ZcH c a).bind λk=>
(atI (GC k) (Int.tmod (Gw a) 2)).bind λf=>
(Za4 f n g b).bind λj=>
(Zad h (GT a) b).bind λe=>
(ZjV j e b).bind λd=>
some d
else
(atI (ZO.Zk7 c) i).bind λg=>
(atI g (GX a)).bind λf=>
(ZcE f 1000 b).bind λl=>
(Zad h (GT a) b).bind λe=>
(ZjV l e b).bind λd=>
some d
def ZJR:Ctr:=⟨[.dat (.ptr (ZmB)),.dat (XW),.dat Iq,.dat Iq,.dat Iq],[.dat Iq],λa K=>splitK a λd a=>splitK a λc a=>splitK a λe a=>splitK a λf a=>splitK a λb a=>ZV (JE d c e f b) λr=>K (r,()) ()⟩
def ZcG (c b a:Int):Option ((Int×Int×Unit) ⊕ Int):=
if b<a then
if Wq (Wq (Int.tdiv (Wq (Wq (b+a)+1)) 2)*Wq (Int.tdiv (Wq (Wq (b+a)+1)) 2))<=c then
some (.inl (Wq (Int.tdiv (Wq (Wq (b+a)+1)) 2),a,()))
else
some (.inl (b,Wq (Wq (Int.tdiv (Wq (Wq (b+a)+1)) 2)-1),()))
else
some (.inr b)
def Zn6 (a:Int):Option Int:=
Zq (λv=>ZcG a v.1 v.2.1) ((0:Int),(3000000000:Int),())
def ZJS:Ctr:=D1 Iq Iq Zn6
def ZhP (b a c:Int):Option Int:=
(Zn6 (Wq (Wq (Wq (Wq (500*b)*500)*b)+Wq (a*a)))).bind λd=>
if c=1 then
if Wq (d*d)<Wq (Wq (Wq (Wq (500*b)*500)*b)+Wq (a*a)) then
some (Wq (Wq (Int.tdiv d 500)+1))
else
(ZcE d 500 c).bind λe=>
some e
else
(ZcE d 500 c).bind λe=>
some e
def ZJT:Ctr:=D3 Iq Iq Iq Iq ZhP
def Xj (c:ZO) (e a b:Int):Option Int:=
(atI (ZO.links c) e).bind λd=>
(Za6 c d).bind λh=>
if GT d=1 then
(atI (ZO.loads c) h).bind λg=>
(ZcH c d).bind λj=>
(atI (GN j) (Int.tmod (Gw d) 2)).bind λf=>
(Za4 f a g b).bind λi=>
some (Min.min i 1000000)
else
(atI (ZO.Zk7 c) h).bind λg=>
(atI g (GX d)).bind λf=>
(ZhP a f b).bind λk=>
some (Min.min k 1000000)
def ZJU:Ctr:=D4 (.ptr (ZmB)) Iq Iq Iq Iq Xj
def Za7 (a:ZO) (h:ZA) (b:Int) (c:Zv):Option (Zv×Zv):=
(JE a h b (Gd c) 0).bind λl=>
(JE a h b (Gf c) 0).bind λj=>
(JE a h b (Gd c) 1).bind λi=>
(JE a h b (Gf c) 1).bind λk=>
(atI (ZO.links a) b).bind λm=>
if 0<((ZO.extras a).length:Int) then
if GT m=2 then
(Za6 a m).bind λo=>
(atI (ZO.extras a) o).bind λn=>
(Xj a b (Gd c) 0).bind λf=>
(Xj a b (Gf c) 0).bind λd=>
(Xj a b (Gd c) 1).bind λe=>
(Xj a b (Gf c) 1).bind λg=>
some ((Wq (Min.min l j-n),Wq (Max.max i k+n),()),(Min.min f d,Max.max e g,()))
else
(Xj a b (Gd c) 0).bind λf=>
(Xj a b (Gf c) 0).bind λd=>
(Xj a b (Gd c) 1).bind λe=>
(Xj a b (Gf c) 1).bind λg=>
some ((Min.min l j,Max.max i k,()),(Min.min f d,Max.max e g,()))
else
(Xj a b (Gd c) 0).bind λf=>
(Xj a b (Gf c) 0).bind λd=>
(Xj a b (Gd c) 1).bind λe=>
(Xj a b (Gf c) 1).bind λg=>
some ((Min.min l j,Max.max i k,()),(Min.min f d,Max.max e g,()))
def ZJV:Ctr:=⟨[.dat (.ptr (ZmB)),.dat (XW),.dat Iq,.dat (YU)],[.dat (YU),.dat (YU)],λa K=>splitK a λc a=>splitK a λb a=>splitK a λd a=>splitK a λe a=>ZV (Za7 c b d e) λr=>K (r.1,r.2,()) ()⟩
def ZjD (a b:Zv):Option Zv:=
some (Wq (Gd a+Gd b),Wq (Gf a+Gf b),())
def ZJW:Ctr:=D2 (YU) (YU) (YU) ZjD
def ZiV (m:Ym) (q:ZA) (k:Zh) (c:List Int) (b e i j d h:Int) (f:Bool):Option ((Int×Int×Int×Int×Int×Int×Bool×Unit) ⊕ (Bool×Zk)):=
if b<(c.length:Int) then
(atI c b).bind λl=>
(atI (ZO.links (GP m)) l).bind λg=>
(atI (K9 k) (GA g)).bind λs=>
if s then
(atI (Gm k) (GA g)).bind λo=>
(Za7 (GP m) q l o).bind λn=>
(atI (Gp k) (GA g)).bind λp=>
(ZjD p n.1).bind λr=>
(J7 (e,(i,j,()),(d,h,()),()) f r n.2).bind λa=>
some (.inl (Wq (b+1),a.1.1,a.1.2.1.1,a.1.2.1.2.1,a.1.2.2.1.1,a.1.2.2.1.2.1,a.2,()))
else
some (.inl (Wq (b+1),e,i,j,d,h,f,()))
else
if f then
some (.inr (true,(e,(i,j,()),(d,h,()),())))
else
some (.inr (false,(0,(0,0,()),(0,0,()),())))
def Xv (m:Ym) (q:ZA) (k:Zh) (c:List Int) (b e i j d h:Int) (f:Bool):Option ((Int×Int×Int×Int×Int×Int×Bool×Unit) ⊕ (Bool×Zk)):=
if b<(c.length:Int) then
(atI c b).bind λl=>
(atI (ZO.links (GP m)) l).bind λg=>
(atI (K9 k) (GA g)).bind λs=>
if s then
(atI (Gm k) (GA g)).bind λo=>
(Za7 (GP m) q l o).bind λn=>
(atI (Gp k) (GA g)).bind λp=>
(ZjD p n.1).bind λr=>
(J7 (e,(i,j,()),(d,h,()),()) f r n.2).bind λa=>
some (.inl (Wq (b+1),a.1.1,a.1.2.1.1,a.1.2.1.2.1,a.1.2.2.1.1,a.1.2.2.1.2.1,a.2,()))
else
some (.inl (Wq (b+1),e,i,j,d,h,f,()))
else
if f then
some (.inr (true,(e,(i,j,()),(d,h,()),())))
else
some (.inr (false,(0,(0,0,()),(0,0,()),())))
def Vd (c:Ym) (f:ZA) (h:List Zk) (g:Zh) (b:Int):Option (Bool×Zk):=
(ZhO h b).bind λe=>
if e.2 then
(J7 (b,(0,0,()),(0,0,()),()) false e.1.2.1 e.1.2.2.1).bind λa=>
(ZbA c b).bind λd=>
Zq (λv=>ZiV c f g d v.1 v.2.1 v.2.2.1 v.2.2.2.1 v.2.2.2.2.1 v.2.2.2.2.2.1 v.2.2.2.2.2.2.1) ((0:Int),a.1.1,a.1.2.1.1,a.1.2.1.2.1,a.1.2.2.1.1,a.1.2.2.1.2.1,a.2,())
else
(ZbA c b).bind λd=>
Zq (λv=>Xv c f g d v.1 v.2.1 v.2.2.1 v.2.2.2.1 v.2.2.2.2.1 v.2.2.2.2.2.1 v.2.2.2.2.2.2.1) ((0:Int),b,(0:Int),(0:Int),(0:Int),(0:Int),false,())
def ZJX:Ctr:=⟨[.dat (.ptr (Zjz)),.dat (XW),.dat (.sl (Z7)),.dat (Yf),.dat Iq],[.dat (.bool),.dat (Z7)],λa K=>splitK a λd a=>splitK a λc a=>splitK a λe a=>splitK a λf a=>splitK a λb a=>ZV (Vd d c e f b) λr=>K (r.1,r.2,()) ()⟩
def Xw (m:Ym) (o:ZA) (q:List Zk) (u p h:List Int) (i:Int) (f:List Bool) (e c:List Zv) (d:List Bool):Option (((List Int)×Int×(List Bool)×(List Zv)×(List Zv)×(List Bool)×Unit) ⊕ ((List Int)×Bool×Zh)):=
if i<(p.length:Int) then
(atI p i).bind λa=>
(Yc u a).bind λr=>
if r then
Zt ((h.length+[a].length)*8<=140737488355328)<|
(Vd m o q (f,e,c,()) a).bind λb=>
if b.1 then
(Zbz b.2.2.1).bind λn=>
if n then
(atI f a).bind λl=>
if (b.1 == l)=true then
(atI e a).bind λj=>
if (decide (b.2.2.1.1=Gd j)&&decide (b.2.2.1.2.1=Gf j))=true then
(atI c a).bind λg=>
(atI d a).bind λk=>
some (.inl (h++[a],Wq (i+1),List.set f (Int.toNat a) b.1,List.set e (Int.toNat a) b.2.2.1,List.set c (Int.toNat a) b.2.2.2.1,List.set d (Int.toNat a) !(decide (b.2.2.2.1.1=Gd g)&&decide (b.2.2.2.1.2.1=Gf g)),()))
else
(atI d a).bind λg=>
(atI c a).bind λk=>
some (.inl (h++[a],Wq (i+1),List.set f (Int.toNat a) b.1,List.set e (Int.toNat a) b.2.2.1,List.set c (Int.toNat a) b.2.2.2.1,List.set d (Int.toNat a) true,()))
else
(atI d a).bind λj=>
(atI e a).bind λg=>
(atI c a).bind λk=>
some (.inl (h++[a],Wq (i+1),List.set f (Int.toNat a) b.1,List.set e (Int.toNat a) b.2.2.1,List.set c (Int.toNat a) b.2.2.2.1,List.set d (Int.toNat a) true,()))
else
some (.inr (([]:List Int),false,(f,e,c,())))
else
(atI f a).bind λl=>
if (b.1 == l)=true then
(atI e a).bind λj=>
if (decide (b.2.2.1.1=Gd j)&&decide (b.2.2.1.2.1=Gf j))=true then
(atI c a).bind λg=>
(atI d a).bind λk=>
some (.inl (h++[a],Wq (i+1),List.set f (Int.toNat a) b.1,List.set e (Int.toNat a) b.2.2.1,List.set c (Int.toNat a) b.2.2.2.1,List.set d (Int.toNat a) !(decide (b.2.2.2.1.1=Gd g)&&decide (b.2.2.2.1.2.1=Gf g)),()))
else
(atI d a).bind λg=>
(atI c a).bind λk=>
some (.inl (h++[a],Wq (i+1),List.set f (Int.toNat a) b.1,List.set e (Int.toNat a) b.2.2.1,List.set c (Int.toNat a) b.2.2.2.1,List.set d (Int.toNat a) true,()))
else
(atI d a).bind λj=>
(atI e a).bind λg=>
(atI c a).bind λk=>
some (.inl (h++[a],Wq (i+1),List.set f (Int.toNat a) b.1,List.set e (Int.toNat a) b.2.2.1,List.set c (Int.toNat a) b.2.2.2.1,List.set d (Int.toNat a) true,()))
else
(ZbA m a).bind λs=>
(ZJ s (d,m,())).bind λt=>
if t then
Zt ((h.length+[a].length)*8<=140737488355328)<|
(Vd m o q (f,e,c,()) a).bind λb=>
if b.1 then
(Zbz b.2.2.1).bind λn=>
if n then
(atI f a).bind λl=>
if (b.1 == l)=true then
(atI e a).bind λj=>
if (decide (b.2.2.1.1=Gd j)&&decide (b.2.2.1.2.1=Gf j))=true then
(atI c a).bind λg=>
(atI d a).bind λk=>
some (.inl (h++[a],Wq (i+1),List.set f (Int.toNat a) b.1,List.set e (Int.toNat a) b.2.2.1,List.set c (Int.toNat a) b.2.2.2.1,List.set d (Int.toNat a) !(decide (b.2.2.2.1.1=Gd g)&&decide (b.2.2.2.1.2.1=Gf g)),()))
else
(atI d a).bind λg=>
(atI c a).bind λk=>
some (.inl (h++[a],Wq (i+1),List.set f (Int.toNat a) b.1,List.set e (Int.toNat a) b.2.2.1,List.set c (Int.toNat a) b.2.2.2.1,List.set d (Int.toNat a) true,()))
else
(atI d a).bind λj=>
(atI e a).bind λg=>
(atI c a).bind λk=>
some (.inl (h++[a],Wq (i+1),List.set f (Int.toNat a) b.1,List.set e (Int.toNat a) b.2.2.1,List.set c (Int.toNat a) b.2.2.2.1,List.set d (Int.toNat a) true,()))
else
some (.inr (([]:List Int),false,(f,e,c,())))
else
(atI f a).bind λl=>
if (b.1 == l)=true then
(atI e a).bind λj=>
if (decide (b.2.2.1.1=Gd j)&&decide (b.2.2.1.2.1=Gf j))=true then
(atI c a).bind λg=>
(atI d a).bind λk=>
some (.inl (h++[a],Wq (i+1),List.set f (Int.toNat a) b.1,List.set e (Int.toNat a) b.2.2.1,List.set c (Int.toNat a) b.2.2.2.1,List.set d (Int.toNat a) !(decide (b.2.2.2.1.1=Gd g)&&decide (b.2.2.2.1.2.1=Gf g)),()))
else
(atI d a).bind λg=>
(atI c a).bind λk=>
some (.inl (h++[a],Wq (i+1),List.set f (Int.toNat a) b.1,List.set e (Int.toNat a) b.2.2.1,List.set c (Int.toNat a) b.2.2.2.1,List.set d (Int.toNat a) true,()))
else
(atI d a).bind λj=>
(atI e a).bind λg=>
(atI c a).bind λk=>
some (.inl (h++[a],Wq (i+1),List.set f (Int.toNat a) b.1,List.set e (Int.toNat a) b.2.2.1,List.set c (Int.toNat a) b.2.2.2.1,List.set d (Int.toNat a) true,()))
else
some (.inl (h,Wq (i+1),f,e,c,d,()))
else
some (.inr (h,true,(f,e,c,())))
def ZfW (c:Ym) (f:ZA) (e:List Zk) (b:Zh) (d g:List Int):Option ((List Int)×Bool×Zh):=
(Y6 (GP c)).bind λa=>
Zt ((0:Int)<=a)<|
Zt (a<=a)<|
Zt (a<=4611686018427387904)<|
Zt (((1:Nat):Int)*a<=281474976710656)<|
Zq (λv=>Xw c f e d g v.1 v.2.1 v.2.2.1 v.2.2.2.1 v.2.2.2.2.1 v.2.2.2.2.2.1) (([]:List Int),(0:Int),K9 b,Gp b,Gm b,List.replicate (Int.toNat a) false,())
def ZJY:Ctr:=⟨[.dat (.ptr (Zjz)),.dat (XW),.dat (.sl (Z7)),.back (Zcx),.dat (.sl Iq),.dat (.sl Iq)],[.own (.ol 2 (.flat Iq)),.dat (.bool)],λa K=>splitK a λd a=>splitK a λc a=>splitK a λf a=>splitK a λg a=>splitK a λb a=>splitK a λe a=>ZV (ZfW d c f g b e) λr=>K (r.1,r.2.1,()) (r.2.2,())⟩
def Za5 (k:Za) (h:ZA) (c:List Int) (a:List Zk) (g:Zh) (b:List Int):Option (Zh×(List Int)×Int):=
(ZbW k h c a (Option.some g)).bind λd=>
if d.2.2=0 then
(d.1).bind λf=>
(Zai (GP f) b).bind λi=>
if i then
(Zdb g).bind λj=>
(ZfW f h a j b d.2.1).bind λe=>
if e.2.1 then
some (e.2.2,e.1,0)
else
some (([],[],[],()),[],3)
else
some (([],[],[],()),[],2)
else
some (([],[],[],()),[],d.2.2)
def ZJZ:Ctr:=⟨[.dat (ZT),.dat (XW),.dat (.sl Iq),.dat (.sl (Z7)),.dat (Yf),.dat (.sl Iq)],[.own (Zcx),.own (.ol 2 (.flat Iq)),.dat Iq],λa K=>splitK a λg a=>splitK a λf a=>splitK a λc a=>splitK a λb a=>splitK a λe a=>splitK a λd a=>ZV (Za5 g f c b e d) λr=>K (r.1,r.2.1,r.2.2,()) ()⟩
def JW (c:Za) (b:Zj) (j:ZA) (a:List Zk) (h:Zh):Option (Zh×(List Int)×Int):=
(Za3 c b a).bind λf=>
if f.2=0 then
(Zd5 c b h).bind λe=>
if e.2=0 then
(JC b c).bind λg=>
(Za2 b c).bind λi=>
(Za5 g j (([]:List Int)) f.1 e.1 i).bind λd=>
some (d.1,d.2.1,d.2.2)
else
some (([],[],[],()),[],e.2)
else
some (([],[],[],()),[],f.2)
def ZJ0:Ctr:=⟨[.dat (ZT),.dat (XO),.dat (XW),.dat (.sl (Z7)),.dat (Yf)],[.own (Zcx),.own (.ol 2 (.flat Iq)),.dat Iq],λa K=>splitK a λf a=>splitK a λe a=>splitK a λd a=>splitK a λb a=>splitK a λc a=>ZV (JW f e d b c) λr=>K (r.1,r.2.1,r.2.2,()) ()⟩
def Zoa (b e:List Bool) (a:Int):Option ((Int×Unit) ⊕ Bool):=
if a<(b.length:Int) then
(atI b a).bind λd=>
(atI e a).bind λc=>
if (d == c)=true then
some (.inl (Wq (a+1),()))
else
some (.inr false)
else
some (.inr true)
def Zjc (a b:List Bool):Option Bool:=
if (a.length:Int)=(b.length:Int) then
Zq (λv=>Zoa a b v.1) ((0:Int),())
else
some false
def ZJ1:Ctr:=D2 (.sl (.bool)) (.sl (.bool)) (.bool) Zjc
def Zeo (a b:Zv):Option Bool:=
if Gd a=Gd b then
if Gf a=Gf b then
some true
else
some false
else
some false
def ZHB:Ctr:=D2 (YU) (YU) (.bool) Zeo
def Zoe (b e:List Zv) (a:Int):Option ((Int×Unit) ⊕ Bool):=
if a<(b.length:Int) then
(atI b a).bind λd=>
(atI e a).bind λc=>
(Zeo d c).bind λf=>
if f then
some (.inl (Wq (a+1),()))
else
some (.inr false)
else
some (.inr true)
def ZgO (a b:List Zv):Option Bool:=
if (a.length:Int)=(b.length:Int) then
Zq (λv=>Zoe a b v.1) ((0:Int),())
else
some false
def ZJ2:Ctr:=D2 (.sl (YU)) (.sl (YU)) (.bool) ZgO
def Zfn (a b:Zh):Option Bool:=
(Zjc (K9 a) (K9 b)).bind λd=>
if d then
(ZgO (Gp a) (Gp b)).bind λe=>
if e then
(ZgO (Gm a) (Gm b)).bind λc=>
if c then
some true
else
some false
else
some false
else
some false
def ZJ3:Ctr:=D2 (Yf) (Yf) (.bool) Zfn
def Znm (b e:List Int) (a:Int):Option ((Int×Unit) ⊕ Bool):=
if a<(b.length:Int) then
(atI b a).bind λd=>
(atI e a).bind λc=>
if d=c then
some (.inl (Wq (a+1),()))
else
some (.inr false)
else
some (.inr true)
def X6 (a b:List Int):Option Bool:=
if (a.length:Int)=(b.length:Int) then
Zq (λv=>Znm a b v.1) ((0:Int),())
else
some false
def ZDU:Ctr:=D2 (.sl Iq) (.sl Iq) (.bool) X6
def ZjY (a b:YN):Option Bool:=
if GG a=GG b then
if GW a=GW b then
if GV a=GV b then
if (Gg a == Gg b)=true then
some true
else
some false
else
some false
else
some false
else
some false
def ZJ4:Ctr:=D2 (Ze1) (Ze1) (.bool) ZjY
def Zpe (b e:List YN) (a:Int):Option ((Int×Unit) ⊕ Bool):=
if a<(b.length:Int) then
(atI b a).bind λd=>
(atI e a).bind λc=>
(ZjY d c).bind λf=>
if f then
some (.inl (Wq (a+1),()))
else
some (.inr false)
else
some (.inr true)
def ZkC (a b:List YN):Option Bool:=
if (a.length:Int)=(b.length:Int) then
Zq (λv=>Zpe a b v.1) ((0:Int),())
else
some false
def ZJ5:Ctr:=D2 (.sl (Ze1)) (.sl (Ze1)) (.bool) ZkC
def ZgP (a b:Zw):Option Bool:=
(X6 (GM a) (GM b)).bind λd=>
if d then
(X6 (Gt a) (Gt b)).bind λe=>
if e then
(X6 (Gr a) (Gr b)).bind λc=>
if c then
some true
else
some false
else
some false
else
some false
def ZJ6:Ctr:=D2 (Xa) (Xa) (.bool) ZgP
def Znn (b e:List Zw) (a:Int):Option ((Int×Unit) ⊕ Bool):=
if a<(b.length:Int) then
(atI b a).bind λd=>
(atI e a).bind λc=>
(ZgP d c).bind λf=>
if f then
some (.inl (Wq (a+1),()))
else
some (.inr false)
else
some (.inr true)
def Zfm (a b:List Zw):Option Bool:=
if (a.length:Int)=(b.length:Int) then
Zq (λv=>Znn a b v.1) ((0:Int),())
else
some false
def ZJ7:Ctr:=D2 (.sl (Xa)) (.sl (Xa)) (.bool) Zfm
def ZjX (a b:ZC):Option Bool:=
if Ge a=Ge b then
if Gi a=Gi b then
if Gn a=Gn b then
if GJ a=GJ b then
(Zfm (GC a) (GC b)).bind λc=>
if c then
(Zfm (GN a) (GN b)).bind λd=>
if d then
some true
else
some false
else
some false
else
some false
else
some false
else
some false
else
some false
def ZJ8:Ctr:=D2 (ZfO) (ZfO) (.bool) ZjX
def Zpc (b e:List ZC) (a:Int):Option ((Int×Unit) ⊕ Bool):=
if a<(b.length:Int) then
(atI b a).bind λd=>
(atI e a).bind λc=>
(ZjX d c).bind λf=>
if f then
some (.inl (Wq (a+1),()))
else
some (.inr false)
else
some (.inr true)
def ZkA (a b:List ZC):Option Bool:=
if (a.length:Int)=(b.length:Int) then
Zq (λv=>Zpc a b v.1) ((0:Int),())
else
some false
def ZJ9:Ctr:=D2 (.sl (ZfO)) (.sl (ZfO)) (.bool) ZkA
def ZiH (a b:Zl):Option Bool:=
if GQ a=GQ b then
if GE a=GE b then
(ZkC (K7 a) (K7 b)).bind λd=>
if d then
(ZkA (Gj a) (Gj b)).bind λe=>
if e then
(X6 (GH a) (GH b)).bind λc=>
if c then
if G4 a=G4 b then
if G5 a=G5 b then
some true
else
some false
else
some false
else
some false
else
some false
else
some false
else
some false
else
some false
def ZKa:Ctr:=D2 (QC) (QC) (.bool) ZiH
def Zob (b e:List Zl) (a:Int):Option ((Int×Unit) ⊕ Bool):=
if a<(b.length:Int) then
(atI b a).bind λd=>
(atI e a).bind λc=>
(ZiH d c).bind λf=>
if f then
some (.inl (Wq (a+1),()))
else
some (.inr false)
else
some (.inr true)
def Zjd (a b:List Zl):Option Bool:=
if (a.length:Int)=(b.length:Int) then
Zq (λv=>Zob a b v.1) ((0:Int),())
else
some false
def ZKb:Ctr:=D2 (.sl (QC)) (.sl (QC)) (.bool) Zjd
def Zgo (a b:Zp):Option Bool:=
(Zjd (K8 a) (K8 b)).bind λc=>
if c then
some true
else
some false
def ZKc:Ctr:=D2 (YV) (YV) (.bool) Zgo
def ZcI (a b:Ze):Option Bool:=
if Gu a=Gu b then
if Gx a=Gx b then
(X6 (Gb a) (Gb b)).bind λc=>
if c then
some true
else
some false
else
some false
else
some false
def ZKd:Ctr:=D2 (ZX) (ZX) (.bool) ZcI
def Zlt (b e:List Ze) (a:Int):Option ((Int×Unit) ⊕ Bool):=
if a<(b.length:Int) then
(atI b a).bind λd=>
(atI e a).bind λc=>
(ZcI d c).bind λf=>
if f then
some (.inl (Wq (a+1),()))
else
some (.inr false)
else
some (.inr true)
def Zd8 (a b:List Ze):Option Bool:=
if (a.length:Int)=(b.length:Int) then
Zq (λv=>Zlt a b v.1) ((0:Int),())
else
some false
def ZKe:Ctr:=D2 (.sl (ZX)) (.sl (ZX)) (.bool) Zd8
def Zmx (b e:List (List UInt8)) (a:Int):Option ((Int×Unit) ⊕ Bool):=
if a<(b.length:Int) then
(atI b a).bind λd=>
(atI e a).bind λc=>
if d=c then
some (.inl (Wq (a+1),()))
else
some (.inr false)
else
some (.inr true)
def Zgq (a b:List (List UInt8)):Option Bool:=
if (a.length:Int)=(b.length:Int) then
Zq (λv=>Zmx a b v.1) ((0:Int),())
else
some false
def ZKf:Ctr:=D2 (.sl (.str)) (.sl (.str)) (.bool) Zgq
def ZiI (a b:ZL):Option Bool:=
if GO a=GO b then
if Gz a=Gz b then
if GI a=GI b then
some true
else
some false
else
some false
else
some false
def ZKg:Ctr:=D2 (ZaB) (ZaB) (.bool) ZiI
def Zod (b e:List ZL) (a:Int):Option ((Int×Unit) ⊕ Bool):=
if a<(b.length:Int) then
(atI b a).bind λd=>
(atI e a).bind λc=>
(ZiI d c).bind λf=>
if f then
some (.inl (Wq (a+1),()))
else
some (.inr false)
else
some (.inr true)
def Zje (a b:List ZL):Option Bool:=
if (a.length:Int)=(b.length:Int) then
Zq (λv=>Zod a b v.1) ((0:Int),())
else
some false
def ZKh:Ctr:=D2 (.sl (ZaB)) (.sl (ZaB)) (.bool) Zje
def ZhQ (a b:Zb):Option Bool:=
(Zd8 (K1 a) (K1 b)).bind λd=>
if d then
(Zgq (K6 a) (K6 b)).bind λe=>
if e then
(Zje (Ga a) (Ga b)).bind λc=>
if c then
some true
else
some false
else
some false
else
some false
def ZKi:Ctr:=D2 (Yi) (Yi) (.bool) ZhQ
def ZfZ (a b:Zo):Option Bool:=
(X6 (K3 a) (K3 b)).bind λe=>
if e then
(X6 (Gy a) (Gy b)).bind λf=>
if f then
(X6 (GD a) (GD b)).bind λc=>
if c then
(X6 (Gk a) (Gk b)).bind λd=>
if d then
some true
else
some false
else
some false
else
some false
else
some false
def ZHC:Ctr:=D2 (QD) (QD) (.bool) ZfZ
def Zof (b e:List Zo) (a:Int):Option ((Int×Unit) ⊕ Bool):=
if a<(b.length:Int) then
(atI b a).bind λd=>
(atI e a).bind λc=>
(ZfZ d c).bind λf=>
if f then
some (.inl (Wq (a+1),()))
else
some (.inr false)
else
some (.inr true)
def Zjf (a b:List Zo):Option Bool:=
if (a.length:Int)=(b.length:Int) then
Zq (λv=>Zof a b v.1) ((0:Int),())
else
some false
def ZKj:Ctr:=D2 (.sl (QD)) (.sl (QD)) (.bool) Zjf
def Zjb (a b:Za):Option Bool:=
(Zgo (K4 a) (K4 b)).bind λd=>
if d then
(ZhQ (KZ a) (KZ b)).bind λe=>
if e then
(Zjf (K2 a) (K2 b)).bind λc=>
if c then
some true
else
some false
else
some false
else
some false
def ZKk:Ctr:=D2 (ZT) (ZT) (.bool) Zjb
def ZkB (a b:Zj):Option Bool:=
if K5 a=K5 b then
if Gc a=Gc b then
if Gv a=Gv b then
if Gs a=Gs b then
if GF a=GF b then
if Gh a=Gh b then
(ZfZ (GB a) (GB b)).bind λc=>
if c then
some true
else
some false
else
some false
else
some false
else
some false
else
some false
else
some false
else
some false
def ZKl:Ctr:=D2 (XO) (XO) (.bool) ZkB
def Zfl (a b:Zk):Option Bool:=
if Gl a=Gl b then
(Zeo (GK a) (GK b)).bind λc=>
if c then
(Zeo (GR a) (GR b)).bind λd=>
if d then
some true
else
some false
else
some false
else
some false
def ZKm:Ctr:=D2 (Z7) (Z7) (.bool) Zfl
def Zmw (b e:List Zk) (a:Int):Option ((Int×Unit) ⊕ Bool):=
if a<(b.length:Int) then
(atI b a).bind λd=>
(atI e a).bind λc=>
(Zfl d c).bind λf=>
if f then
some (.inl (Wq (a+1),()))
else
some (.inr false)
else
some (.inr true)
def Zgp (a b:List Zk):Option Bool:=
if (a.length:Int)=(b.length:Int) then
Zq (λv=>Zmw a b v.1) ((0:Int),())
else
some false
def ZKn:Ctr:=D2 (.sl (Z7)) (.sl (Z7)) (.bool) Zgp
def Zer (b:Int) (a:List UInt8):Option ((Int×(List UInt8)×Unit) ⊕ List UInt8):=
if 0<b then
Zt ((((bytesOf [IntKind.wrap IntKind.u8 (Wq ((48:Int)+Int.tmod b (10:Int)))]).length):Int)+(a.length:Int)<=9223372036854775807)<|
some (.inl (Wq (Int.tdiv b (10:Int)),bytesOf [IntKind.wrap IntKind.u8 (Wq ((48:Int)+Int.tmod b (10:Int)))]++a,()))
else
Zt ((([(109:UInt8)].length):Int)+(a.length:Int)<=9223372036854775807)<|
some (.inr ([(109:UInt8)]++a))
def Jh (a:Int):Option (List UInt8):=
if a<=0 then
some ([(109:UInt8),48])
else
Zq (λv=>Zer v.1 v.2.1) (a,([]:List UInt8),())
def ZDV:Ctr:=D1 Iq (.str) Jh
def Zeq (b a:Int) (c:List YN):Option ((Int×Int×(List YN)×Unit) ⊕ (Int×(List YN))):=
if a<(c.length:Int) then
(Jh b).bind λg=>
(atI c a).bind λf=>
(atI (List.set c (Int.toNat a) (g,f.2)) a).bind λe=>
(atI (List.set (List.set c (Int.toNat a) (g,f.2)) (Int.toNat a) (GG e,Wq (b+1),e.2.2)) a).bind λd=>
(atI (List.set (List.set (List.set c (Int.toNat a) (g,f.2)) (Int.toNat a) (GG e,Wq (b+1),e.2.2)) (Int.toNat a) (GG d,GW d,Wq (Wq (b+1)+1),d.2.2.2)) a).bind λh=>
some (.inl (Wq (Wq (Wq (Wq (b+1)+1)+1)+1),Wq (a+1),List.set (List.set (List.set (List.set c (Int.toNat a) (g,f.2)) (Int.toNat a) (GG e,Wq (b+1),e.2.2)) (Int.toNat a) (GG d,GW d,Wq (Wq (b+1)+1),d.2.2.2)) (Int.toNat a) (GG h,GW h,GV h,decide (Int.tmod (Wq (Wq (Wq (b+1)+1)+1)) 3=0),()),()))
else
some (.inr (b,c))
def ZhT (a:List YN) (b:Int):Option (Int×(List YN)):=
Zq (λv=>Zeq v.1 v.2.1 v.2.2.1) (b,(0:Int),a,())
def ZKo:Ctr:=⟨[.back (.ol 311 (.flat (Ze1))),.dat Iq],[.dat Iq],λa K=>splitK a λb a=>splitK a λc a=>ZV (ZhT b c) λr=>K (r.1,()) (r.2,())⟩
def VJ (c b:Int) (a:List Int):Option ((Int×Int×(List Int)×Unit) ⊕ (Int×(List Int))):=
if b<(a.length:Int) then
(atI a b).bind λd=>
some (.inl (Wq (c+1),Wq (b+1),List.set a (Int.toNat b) c,()))
else
some (.inr (c,a))
def Yw (a:List Int) (b:Int):Option (Int×(List Int)):=
Zq (λv=>VJ v.1 v.2.1 v.2.2.1) (b,(0:Int),a,())
def ZDt:Ctr:=⟨[.back (.ol 2 (.flat Iq)),.dat Iq],[.dat Iq],λa K=>splitK a λb a=>splitK a λc a=>ZV (Yw b c) λr=>K (r.1,()) (r.2,())⟩
def ZcK (e b:Int) (a:List (List Int×List Int×List Int×Unit)):Option ((Int×Int×(List (List Int×List Int×List Int×Unit))×Unit) ⊕ (Int×(List Zw))):=
if b<(a.length:Int) then
(atI a b).bind λc=>
(Yw c.1 e).bind λf=>
(Yw c.2.1 f.1).bind λg=>
(Yw c.2.2.1 g.1).bind λd=>
some (.inl (d.1,Wq (b+1),List.set a (Int.toNat b) (f.2,g.2,d.2,()),()))
else
some (.inr (e,a))
def ZcJ (a:List Zw) (b:Int):Option (Int×(List Zw)):=
Zq (λv=>ZcK v.1 v.2.1 v.2.2.1) (b,(0:Int),a,())
def ZKp:Ctr:=⟨[.back (.ol 353 (ZgI)),.dat Iq],[.dat Iq],λa K=>splitK a λb a=>splitK a λc a=>ZV (ZcJ b c) λr=>K (r.1,()) (r.2,())⟩
def Zep (a c:Int) (b:List (Int×Int×Int×Int×List Zw×List Zw×Unit)):Option ((Int×Int×(List (Int×Int×Int×Int×List Zw×List Zw×Unit))×Unit) ⊕ (Int×(List ZC))):=
if c<(b.length:Int) then
(atI b c).bind λd=>
(ZcJ d.2.2.2.2.1 (Wq (Wq (Wq (Wq (a+1)+1)+1)+1))).bind λe=>
(ZcJ d.2.2.2.2.2.1 e.1).bind λf=>
some (.inl (f.1,Wq (c+1),List.set b (Int.toNat c) (a,Wq (a+1),Wq (Wq (a+1)+1),Wq (Wq (Wq (a+1)+1)+1),e.2,f.2,()),()))
else
some (.inr (a,b))
def ZhR (a:List ZC) (b:Int):Option (Int×(List ZC)):=
Zq (λv=>Zep v.1 v.2.1 v.2.2.1) (b,(0:Int),a,())
def ZKq:Ctr:=⟨[.back (.ol 280 (Zzv)),.dat Iq],[.dat Iq],λa K=>splitK a λb a=>splitK a λc a=>ZV (ZhR b c) λr=>K (r.1,()) (r.2,())⟩
def Zdw (b a:Int) (d:List (List UInt8×Int×List YN×List ZC×List Int×Int×Int×Unit)):Option ((Int×Int×(List (List UInt8×Int×List YN×List ZC×List Int×Int×Int×Unit))×Unit) ⊕ (Int×(List Zl))):=
if a<(d.length:Int) then
(Jh b).bind λh=>
(atI d a).bind λe=>
(ZhT e.2.2.1 (Wq (Wq (b+1)+1))).bind λg=>
(ZhR e.2.2.2.1 g.1).bind λf=>
(Yw e.2.2.2.2.1 f.1).bind λc=>
some (.inl (Wq (Wq (c.1+1)+1),Wq (a+1),List.set d (Int.toNat a) (h,Wq (b+1),g.2,f.2,c.2,c.1,Wq (c.1+1),()),()))
else
some (.inr (b,d))
def Zgu (a:List Zl) (b:Int):Option (Int×(List Zl)):=
Zq (λv=>Zdw v.1 v.2.1 v.2.2.1) (b,(0:Int),a,())
def ZKr:Ctr:=⟨[.back (.ol 236 (Zqi)),.dat Iq],[.dat Iq],λa K=>splitK a λb a=>splitK a λc a=>ZV (Zgu b c) λr=>K (r.1,()) (r.2,())⟩
def Zd9 (b:Zp) (c:Int):Option (Int×Zp):=
(Zgu (K8 b) c).bind λa=>
some (a.1,(a.2,()))
def ZKs:Ctr:=⟨[.back (ZnV),.dat Iq],[.dat Iq],λa K=>splitK a λb a=>splitK a λc a=>ZV (Zd9 b c) λr=>K (r.1,()) (r.2,())⟩
def Za8 (c b:Int) (a:List (List UInt8×Int×List Int×Unit)):Option ((Int×Int×(List (List UInt8×Int×List Int×Unit))×Unit) ⊕ (Int×(List Ze))):=
if b<(a.length:Int) then
(Jh c).bind λf=>
(atI a b).bind λe=>
(Yw e.2.2.1 (Wq (Wq (c+1)+1))).bind λd=>
some (.inl (d.1,Wq (b+1),List.set a (Int.toNat b) (f,Wq (c+1),d.2,()),()))
else
some (.inr (c,a))
def Zcl (a:List Ze) (b:Int):Option (Int×(List Ze)):=
Zq (λv=>Za8 v.1 v.2.1 v.2.2.1) (b,(0:Int),a,())
def ZKt:Ctr:=⟨[.back (.ol 144 (Zcw)),.dat Iq],[.dat Iq],λa K=>splitK a λb a=>splitK a λc a=>ZV (Zcl b c) λr=>K (r.1,()) (r.2,())⟩
def Zce (c b:Int) (a:List (List UInt8)):Option ((Int×Int×(List (List UInt8))×Unit) ⊕ (Int×(List (List UInt8)))):=
if b<(a.length:Int) then
(Jh c).bind λd=>
(atI a b).bind λe=>
some (.inl (Wq (c+1),Wq (b+1),List.set a (Int.toNat b) d,()))
else
some (.inr (c,a))
def Zeb (a:List (List UInt8)) (b:Int):Option (Int×(List (List UInt8))):=
Zq (λv=>Zce v.1 v.2.1 v.2.2.1) (b,(0:Int),a,())
def ZKu:Ctr:=⟨[.back (.ol 9 (.flat (.str))),.dat Iq],[.dat Iq],λa K=>splitK a λb a=>splitK a λc a=>ZV (Zeb b c) λr=>K (r.1,()) (r.2,())⟩
def Zdx (c a:Int) (b:List ZL):Option ((Int×Int×(List ZL)×Unit) ⊕ (Int×(List ZL))):=
if a<(b.length:Int) then
(Jh c).bind λf=>
(atI b a).bind λe=>
(atI (List.set b (Int.toNat a) (f,e.2)) a).bind λd=>
(atI (List.set (List.set b (Int.toNat a) (f,e.2)) (Int.toNat a) (GO d,Wq (c+1),d.2.2)) a).bind λg=>
some (.inl (Wq (Wq (Wq (c+1)+1)+1),Wq (a+1),List.set (List.set (List.set b (Int.toNat a) (f,e.2)) (Int.toNat a) (GO d,Wq (c+1),d.2.2)) (Int.toNat a) (GO g,Gz g,Wq (Wq (c+1)+1),()),()))
else
some (.inr (c,b))
def Zgv (a:List ZL) (b:Int):Option (Int×(List ZL)):=
Zq (λv=>Zdx v.1 v.2.1 v.2.2.1) (b,(0:Int),a,())
def ZKv:Ctr:=⟨[.back (.ol 230 (.flat (ZaB))),.dat Iq],[.dat Iq],λa K=>splitK a λb a=>splitK a λc a=>ZV (Zgv b c) λr=>K (r.1,()) (r.2,())⟩
def Zfq (a:Zb) (e:Int):Option (Int×Zb):=
(Zcl (K1 a) e).bind λc=>
(Zeb (K6 a) c.1).bind λd=>
(Zgv (Ga a) d.1).bind λb=>
some (b.1,(c.2,d.2,b.2,()))
def ZKw:Ctr:=⟨[.back (ZoU),.dat Iq],[.dat Iq],λa K=>splitK a λb a=>splitK a λc a=>ZV (Zfq b c) λr=>K (r.1,()) (r.2,())⟩
def Zdz (e a:Int) (c:List (List Int×List Int×List Int×List Int×Unit)):Option ((Int×Int×(List (List Int×List Int×List Int×List Int×Unit))×Unit) ⊕ (Int×(List Zo))):=
if a<(c.length:Int) then
(atI c a).bind λb=>
(Yw b.1 e).bind λh=>
(Yw b.2.1 h.1).bind λf=>
(Yw b.2.2.1 f.1).bind λd=>
(Yw b.2.2.2.1 d.1).bind λg=>
some (.inl (g.1,Wq (a+1),List.set c (Int.toNat a) (h.2,f.2,d.2,g.2,()),()))
else
some (.inr (e,c))
def Zgw (a:List Zo) (b:Int):Option (Int×(List Zo)):=
Zq (λv=>Zdz v.1 v.2.1 v.2.2.1) (b,(0:Int),a,())
def ZKx:Ctr:=⟨[.back (.ol 66 (Zmr)),.dat Iq],[.dat Iq],λa K=>splitK a λb a=>splitK a λc a=>ZV (Zgw b c) λr=>K (r.1,()) (r.2,())⟩
def Zgs (a:Za) (e:Int):Option (Int×Za):=
(Zd9 (K4 a) e).bind λc=>
(Zfq (KZ a) c.1).bind λd=>
(Zgw (K2 a) d.1).bind λb=>
some (b.1,(c.2,d.2,b.2,()))
def ZKy:Ctr:=⟨[.back (Zhh),.dat Iq],[.dat Iq],λa K=>splitK a λb a=>splitK a λc a=>ZV (Zgs b c) λr=>K (r.1,()) (r.2,())⟩
def ZhU (a:Zo) (f:Int):Option (Int×Zo):=
(Yw (K3 a) f).bind λd=>
(Yw (Gy a) d.1).bind λe=>
(Yw (GD a) e.1).bind λb=>
(Yw (Gk a) b.1).bind λc=>
some (c.1,(d.2,e.2,b.2,c.2,()))
def ZKz:Ctr:=⟨[.back (Zmr),.dat Iq],[.dat Iq],λa K=>splitK a λb a=>splitK a λc a=>ZV (ZhU b c) λr=>K (r.1,()) (r.2,())⟩
def ZhS (a:Zj) (c:Int):Option (Int×Zj):=
(ZhU (GB a) c).bind λb=>
some (b.1,(K5 a,Gc a,Gv a,Gs a,GF a,Gh a,b.2,()))
def ZKA:Ctr:=⟨[.back (ZGg),.dat Iq],[.dat Iq],λa K=>splitK a λb a=>splitK a λc a=>ZV (ZhS b c) λr=>K (r.1,()) (r.2,())⟩
def Zcd (b a:Int) (e:List Zk):Option ((Int×Int×(List Zk)×Unit) ⊕ (Int×(List Zk))):=
if a<(e.length:Int) then
(atI e a).bind λg=>
(atI (List.set e (Int.toNat a) (b,g.2)) a).bind λc=>
(atI (List.set (List.set e (Int.toNat a) (b,g.2)) (Int.toNat a) (Gl c,(Wq (b+1),(GK c).2),c.2.2)) a).bind λd=>
(atI (List.set (List.set (List.set e (Int.toNat a) (b,g.2)) (Int.toNat a) (Gl c,(Wq (b+1),(GK c).2),c.2.2)) (Int.toNat a) (Gl d,(Gd (GK d),Wq (Wq (b+1)+1),()),d.2.2)) a).bind λf=>
(atI (List.set (List.set (List.set (List.set e (Int.toNat a) (b,g.2)) (Int.toNat a) (Gl c,(Wq (b+1),(GK c).2),c.2.2)) (Int.toNat a) (Gl d,(Gd (GK d),Wq (Wq (b+1)+1),()),d.2.2)) (Int.toNat a) (Gl f,GK f,(Wq (Wq (Wq (b+1)+1)+1),(GR f).2),())) a).bind λh=>
some (.inl (Wq (Wq (Wq (Wq (Wq (b+1)+1)+1)+1)+1),Wq (a+1),List.set (List.set (List.set (List.set (List.set e (Int.toNat a) (b,g.2)) (Int.toNat a) (Gl c,(Wq (b+1),(GK c).2),c.2.2)) (Int.toNat a) (Gl d,(Gd (GK d),Wq (Wq (b+1)+1),()),d.2.2)) (Int.toNat a) (Gl f,GK f,(Wq (Wq (Wq (b+1)+1)+1),(GR f).2),())) (Int.toNat a) (Gl h,GK h,(Gd (GR h),Wq (Wq (Wq (Wq (b+1)+1)+1)+1),()),()),()))
else
some (.inr (b,e))
def Zea (a:List Zk) (b:Int):Option (Int×(List Zk)):=
Zq (λv=>Zcd v.1 v.2.1 v.2.2.1) (b,(0:Int),a,())
def ZKB:Ctr:=⟨[.back (.ol 106 (.flat (Z7))),.dat Iq],[.dat Iq],λa K=>splitK a λb a=>splitK a λc a=>ZV (Zea b c) λr=>K (r.1,()) (r.2,())⟩
def Zdv (c b:Int) (a:List Bool):Option ((Int×Int×(List Bool)×Unit) ⊕ (Int×(List Bool))):=
if b<(a.length:Int) then
(atI a b).bind λd=>
some (.inl (Wq (c+1),Wq (b+1),List.set a (Int.toNat b) (decide (Int.tmod c 3=0)),()))
else
some (.inr (c,a))
def Zgt (a:List Bool) (b:Int):Option (Int×(List Bool)):=
Zq (λv=>Zdv v.1 v.2.1 v.2.2.1) (b,(0:Int),a,())
def ZKC:Ctr:=⟨[.back (.ol 4 (.flat (.bool))),.dat Iq],[.dat Iq],λa K=>splitK a λb a=>splitK a λc a=>ZV (Zgt b c) λr=>K (r.1,()) (r.2,())⟩
def Zdy (b a:Int) (c:List Zv):Option ((Int×Int×(List Zv)×Unit) ⊕ (Int×(List Zv))):=
if a<(c.length:Int) then
(atI c a).bind λd=>
(atI (List.set c (Int.toNat a) (b,d.2)) a).bind λe=>
some (.inl (Wq (Wq (b+1)+1),Wq (a+1),List.set (List.set c (Int.toNat a) (b,d.2)) (Int.toNat a) (Gd e,Wq (b+1),()),()))
else
some (.inr (b,c))
def ZdQ (a:List Zv) (b:Int):Option (Int×(List Zv)):=
Zq (λv=>Zdy v.1 v.2.1 v.2.2.1) (b,(0:Int),a,())
def ZKD:Ctr:=⟨[.back (.ol 104 (.flat (YU))),.dat Iq],[.dat Iq],λa K=>splitK a λb a=>splitK a λc a=>ZV (ZdQ b c) λr=>K (r.1,()) (r.2,())⟩
def ZcL (a:Zh) (e:Int):Option (Int×Zh):=
(Zgt (K9 a) e).bind λc=>
(ZdQ (Gp a) c.1).bind λd=>
(ZdQ (Gm a) d.1).bind λb=>
some (b.1,(c.2,d.2,b.2,()))
def ZKE:Ctr:=⟨[.back (Zcx),.dat Iq],[.dat Iq],λa K=>splitK a λb a=>splitK a λc a=>ZV (ZcL b c) λr=>K (r.1,()) (r.2,())⟩
def ZaN (c:List Bool) (a b:Int):Option ((Int×Int×Unit) ⊕ Int):=
if b<(c.length:Int) then
(atI c b).bind λd=>
if (d == decide (Int.tmod a 3=0))=true then
some (.inl (Wq (a+1),Wq (b+1),()))
else
some (.inr (-1))
else
some (.inr a)
def Zgr (a:List Bool) (b:Int):Option Int:=
Zq (λv=>ZaN a v.1 v.2.1) (b,(0:Int),())
def ZKF:Ctr:=D2 (.sl (.bool)) Iq Iq Zgr
def ZaO (d:List Zv) (a b:Int):Option ((Int×Int×Unit) ⊕ Int):=
if b<(d.length:Int) then
(atI d b).bind λc=>
if Gd c=a then
if Gf c=Wq (a+1) then
some (.inl (Wq (Wq (a+1)+1),Wq (b+1),()))
else
some (.inr (-1))
else
some (.inr (-1))
else
some (.inr a)
def ZdP (a:List Zv) (b:Int):Option Int:=
Zq (λv=>ZaO a v.1 v.2.1) (b,(0:Int),())
def ZKG:Ctr:=D2 (.sl (YU)) Iq Iq ZdP
def Zfp (a:Zh) (e:Int):Option Int:=
(Zgr (K9 a) e).bind λc=>
if c<0 then
some (-1)
else
(ZdP (Gp a) c).bind λd=>
if d<0 then
some (-1)
else
(ZdP (Gm a) d).bind λb=>
if b<0 then
some (-1)
else
some b
def ZKH:Ctr:=D2 (Yf) Iq Iq Zfp
def Zal (c:List Int) (a b:Int):Option ((Int×Int×Unit) ⊕ Int):=
if b<(c.length:Int) then
(atI c b).bind λd=>
if d=a then
some (.inl (Wq (a+1),Wq (b+1),()))
else
some (.inr (-1))
else
some (.inr a)
def Zfo (a:List Int) (b:Int):Option Int:=
Zq (λv=>Zal a v.1 v.2.1) (b,(0:Int),())
def ZKI:Ctr:=D2 (.sl Iq) Iq Iq Zfo
def Xz (n:Za) (q:Zj) (C:ZA) (D:List Zk) (x:Zh):Option Bool:=
(ZeO n 1048576).bind λu=>
if u<0 then
some true
else
(Zf1 q u).bind λA=>
if A<0 then
some true
else
(ZhV C A).bind λr=>
if r<0 then
some true
else
(Zb5 D r).bind λw=>
if w<0 then
some true
else
(Zdf x w).bind λE=>
if E<0 then
some true
else
(Zjj n).bind λj=>
(ZkE q).bind λf=>
(ZhW C).bind λm=>
(Zgy D).bind λh=>
(ZhY x).bind λk=>
(JY j f m h k).bind λb=>
(JW j f m h k).bind λa=>
(Zfn a.1 b.1).bind λi=>
if i then
(X6 a.2.1 b.2.1).bind λg=>
if g then
if a.2.2=b.2.2 then
(Zjb j j).bind λt=>
if t then
(ZkB f f).bind λs=>
if s then
(Zgp h h).bind λv=>
if v then
(Zfn k k).bind λB=>
if B then
(Zgs j 1).bind λo=>
(ZhS f o.1).bind λp=>
(Zea h p.1).bind λy=>
(ZcL k y.1).bind λz=>
if z.1<0 then
some false
else
if i then
if g then
if a.2.2=b.2.2 then
(ZcL a.1 1).bind λl=>
(Yw a.2.1 l.1).bind λd=>
(Zfp l.2 1).bind λe=>
if e<0 then
some false
else
(Zfo d.2 e).bind λc=>
if c<0 then
some false
else
if c=d.1 then
if i then
if g then
if a.2.2=b.2.2 then
if e<0 then
some false
else
if c<0 then
some false
else
if c=d.1 then
some true
else
some false
else
some false
else
some false
else
some false
else
some false
else
some false
else
some false
else
some false
else
some false
else
some false
else
some false
else
some false
else
some false
else
some false
else
some false
def ZaU:Ctr:=⟨[.dat (ZT),.dat (XO),.dat (XW),.dat (.sl (Z7)),.dat (Yf)],[.dat (.bool)],λa K=>splitK a λd a=>splitK a λc a=>splitK a λe a=>splitK a λf a=>splitK a λb a=>ZV (Xz d c e f b) λr=>K (r,()) ()⟩
end
end Go.Proofs.YtjepimjoknccmaaGreatDoor
