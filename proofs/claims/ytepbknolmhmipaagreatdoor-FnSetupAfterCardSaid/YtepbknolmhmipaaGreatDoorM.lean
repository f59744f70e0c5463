/-
 The models of the functions and their contracts. Printed by program.
-/
import Derived.Test.YtepbknolmhmipaaGreatDoorSxTab
import Derived.Test.YtepbknolmhmipaaGreatDoorSxS0
import Derived.Test.YtepbknolmhmipaaGreatDoorSxLib
import Derived.Test.YtepbknolmhmipaaGreatDoorSxLibT
namespace Go.Proofs.YtepbknolmhmipaaGreatDoor
open Go Go.Sx
set_option maxRecDepth 100000
set_option maxHeartbeats 100000000
set_option linter.unusedVariables false
set_option linter.unusedSimpArgs false
noncomputable section
abbrev Iq:Ty:=.int .i64
abbrev Wq:=IntKind.wrap IntKind.i64
abbrev Sq:=Za Tryz.prog
theorem Bq {α β:Type} (x:α) (f:α->Option β):(some x).bind f=f x:=rfl
def ZHN (a:List Int):Option Bool:=
some (decide (4096<(a.length:Int)))
def c0:Ctr:=D1 (.sl (.int .u8)) (.bool) ZHN
def ZDA (a:List Int) (b c:Int):Option ((Int×Int×Unit) ⊕ Zdd):=
if b<(a.length:Int) then
if b<64 then
(atI a b).bind λd=>
some (.inl (Wq (b+1),Int.tmod (Wq (Wq (c*31)+Wq d)) 2147483647,()))
else
some (.inr (a,0,c,()))
else
some (.inr (a,0,c,()))
def ZD2 (a:List Int):Option Zdd:=
Zq (λv=>ZDA a v.1 v.2.1) ((0:Int),(12345:Int),())
def c1:Ctr:=⟨[.dat (.sl (.int .u8))],[.io (.flat (ZqI))],λa K=>ZT a λb a=>QN (ZD2 b) λr=>K (r,()) ()⟩
def ZAm (a:Zdd) (b:Int):Option (Int×Zdd):=
if b<=1 then
some (0,a)
else
if Zdd.at a<((Zdd.code a).length:Int) then
(atI (Zdd.code a) (Zdd.at a)).bind λc=>
if b<=256 then
Zp (b≠(0:Int))<|
some (Int.tmod (Wq c) b,(Zdd.code a,Wq (Zdd.at a+1),a.2.2))
else
Zp (b≠(0:Int))<|
some (Int.tmod (Int.tmod (Wq (Wq (Wq (Zdd.seed a*48271)+Wq c)+1)) 2147483647) b,(Zdd.code a,Wq (Zdd.at a+1),Int.tmod (Wq (Wq (Wq (Zdd.seed a*48271)+Wq c)+1)) 2147483647,()))
else
Zp (b≠(0:Int))<|
some (Int.tmod (Wq (Int.tdiv (Int.tmod (Wq (Wq (Zdd.seed a*48271)+11)) 2147483647) 7)) b,(Zdd.code a,Zdd.at a,Int.tmod (Wq (Wq (Zdd.seed a*48271)+11)) 2147483647,()))
def c2:Ctr:=⟨[.io (.flat (ZqI)),.dat Iq],[.dat Iq],λa K=>ZT a λc a=>ZT a λb a=>QN (ZAm c b) λr=>K (r.1,()) (r.2,())⟩
def ZDn (f:Zk) (d:Int) (b a:Bool) (c:Int):Option ((Bool×Bool×Int×Unit) ⊕ Int):=
if c<((Zk.Truth f).length:Int) then
if Go.bits Go.BinOp.and IntKind.i64 c (Wq (1*2 ^ Min.min (Int.toNat (IntKind.wrap IntKind.u64 d)) (IntKind.bits IntKind.i64)))=0 then
if b then
if a then
some (.inl (true,true,Wq (c+1),()))
else
(atI (Zk.Truth f) c).bind λg=>
(atI (Zk.Truth f) (Wq (c+Wq (1*2 ^ Min.min (Int.toNat (IntKind.wrap IntKind.u64 d)) (IntKind.bits IntKind.i64))))).bind λe=>
some (.inl (true,decide (e<g),Wq (c+1),()))
else
(atI (Zk.Truth f) c).bind λg=>
(atI (Zk.Truth f) (Wq (c+Wq (1*2 ^ Min.min (Int.toNat (IntKind.wrap IntKind.u64 d)) (IntKind.bits IntKind.i64))))).bind λe=>
if a then
some (.inl (decide (g<e),true,Wq (c+1),()))
else
some (.inl (decide (g<e),decide (e<g),Wq (c+1),()))
else
some (.inl (b,a,Wq (c+1),()))
else
if b then
if a then
some (.inr 3)
else
if b then
some (.inr 1)
else
if a then
some (.inr 2)
else
some (.inr 0)
else
if b then
some (.inr 1)
else
if a then
some (.inr 2)
else
some (.inr 0)
def ZDE (b:Zk) (a:Int):Option Int:=
Zp ((0:Int)<=IntKind.wrap IntKind.u64 a)<|
Zq (λv=>ZDn b a v.1 v.2.1 v.2.2.1) (false,false,(0:Int),())
def c3:Ctr:=D2 (V6) Iq Iq ZDE
def ZCD (c:Int) (a:List Int) (b f:Int) (e:List Int) (g h:Int):Option (((List Int)×Int×Int×(List Int)×Int×Int×Unit) ⊕ ((List Int)×Zdd)):=
if 0<f then
Zp ((a.length+[b].length)*(8:Nat)<=(140737488355328:Nat))<|
(ZAm (e,g,h,()) c).bind λd=>
some (.inl (a++[b],Wq (Wq (b+1)+d.1),Wq (f-1),d.2.1,d.2.2.1,d.2.2.2.1,()))
else
some (.inr (a,(e,g,h,())))
def ZCu (d:Zdd) (a:Int):Option ((List Int)×Zdd):=
(ZAm d a).bind λc=>
(ZAm c.2 3).bind λb=>
Zq (λv=>ZCD a v.1 v.2.1 v.2.2.1 v.2.2.2.1 v.2.2.2.2.1 v.2.2.2.2.2.1) (([]:List Int),c.1,Wq ((1:Int)+b.1),b.2.1,b.2.2.1,b.2.2.2.1,())
def c4:Ctr:=⟨[.io (.flat (ZqI)),.dat Iq],[.own (.ol 2 (.flat Iq))],λa K=>ZT a λc a=>ZT a λb a=>QN (ZCu c b) λr=>K (r.1,()) (r.2,())⟩
def ZDB (g:Int) (b a:List Int×Zdd) (e:List Int) (f:Int) (k:List Int) (l m:Int):Option (((List Int)×Int×(List Int)×Int×Int×Unit) ⊕ (Zy×Zdd)):=
if f<Wq ((b.1.length:Int)*(a.1.length:Int)) then
(ZAm (k,l,m,()) 10).bind λd=>
Zp ((a.1.length:Int)≠(0:Int))<|
if 0<Int.tmod f (a.1.length:Int) then
(atI e (Wq (f-1))).bind λh=>
(ZAm d.2 20).bind λc=>
if (a.1.length:Int)<=f then
(atI e (Wq (f-(a.1.length:Int)))).bind λj=>
(ZAm c.2 20).bind λi=>
Zp ((e.length+[Max.max (Max.max (Wq (g+d.1)) (Wq (h+c.1))) (Wq (j+i.1))].length)*(8:Nat)<=(140737488355328:Nat))<|
some (.inl (e++[Max.max (Max.max (Wq (g+d.1)) (Wq (h+c.1))) (Wq (j+i.1))],Wq (f+1),i.2.1,i.2.2.1,i.2.2.2.1,()))
else
Zp ((e.length+[Max.max (Wq (g+d.1)) (Wq (h+c.1))].length)*(8:Nat)<=(140737488355328:Nat))<|
some (.inl (e++[Max.max (Wq (g+d.1)) (Wq (h+c.1))],Wq (f+1),c.2.1,c.2.2.1,c.2.2.2.1,()))
else
if (a.1.length:Int)<=f then
(atI e (Wq (f-(a.1.length:Int)))).bind λh=>
(ZAm d.2 20).bind λc=>
Zp ((e.length+[Max.max (Wq (g+d.1)) (Wq (h+c.1))].length)*(8:Nat)<=(140737488355328:Nat))<|
some (.inl (e++[Max.max (Wq (g+d.1)) (Wq (h+c.1))],Wq (f+1),c.2.1,c.2.2.1,c.2.2.2.1,()))
else
Zp ((e.length+[Wq (g+d.1)].length)*(8:Nat)<=(140737488355328:Nat))<|
some (.inl (e++[Wq (g+d.1)],Wq (f+1),d.2.1,d.2.2.1,d.2.2.2.1,()))
else
some (.inr ((b.1,a.1,e,()),(k,l,m,())))
def ZD3 (c:Zdd) (d:Int):Option (Zy×Zdd):=
(ZCu c 60).bind λb=>
(ZCu b.2 40).bind λa=>
Zq (λv=>ZDB d b a v.1 v.2.1 v.2.2.1 v.2.2.2.1 v.2.2.2.2.1) (([]:List Int),(0:Int),a.2.1,a.2.2.1,a.2.2.2.1,())
def c5:Ctr:=⟨[.io (.flat (ZqI)),.dat Iq],[.own (Zk3)],λa K=>ZT a λc a=>ZT a λb a=>QN (ZD3 c b) λr=>K (r.1,()) (r.2,())⟩
def ZBr (d:Zdd) (a:Int):Option ((List Zy)×Zdd):=
(ZD3 d a).bind λc=>
(ZD3 c.2 a).bind λb=>
some ([c.1,b.1],b.2)
def c6:Ctr:=⟨[.io (.flat (ZqI)),.dat Iq],[.own (.ol 402 (Zk3))],λa K=>ZT a λc a=>ZT a λb a=>QN (ZBr c b) λr=>K (r.1,()) (r.2,())⟩
def ZBo (g:Zdd) (a b f e:Int):Option (ZC×Zdd):=
if 4<=a then
(ZAm g 10).bind λd=>
(ZBr d.2 (Wq (5-d.1))).bind λc=>
some ((a,b,f,0,c.1,[],()),c.2)
else
(ZAm g 20).bind λd=>
(ZBr d.2 (Wq (5+d.1))).bind λc=>
(ZBr c.2 10).bind λh=>
some ((a,b,f,e,c.1,h.1,()),h.2)
def c7:Ctr:=⟨[.io (.flat (ZqI)),.dat Iq,.dat Iq,.dat Iq,.dat Iq],[.own (Zup)],λa K=>ZT a λf a=>ZT a λd a=>ZT a λc a=>ZT a λe a=>ZT a λb a=>QN (ZBo f d c e b) λr=>K (r.1,()) (r.2,())⟩
def ZDC (j:List UInt8) (k:List Int) (b a:Int×Zdd) (e:List Yv) (f:List ZC) (d:Int) (i:List Int) (h g:Int):Option (((List ZC)×Int×(List Int)×Int×Int×Unit) ⊕ (((List Yv)×Int×(List Int)×Int×Int×Unit) ⊕ (Zk×Zdd))):=
if d<(e.length:Int) then
(ZDE (j,(1:Int),e++[([(121:UInt8)],(2:Int),(0:Int),false,())],([]:List ZC),k,b.1,a.1,()) d).bind λl=>
if l=0 then
some (.inl (f,Wq (d+1),i,h,g,()))
else
(ZBo (i,h,g,()) 1 d (e.length:Int) l).bind λc=>
Zp ((f.length+[c.1].length)*(80:Nat)<=(140737488355328:Nat))<|
some (.inl (f++[c.1],Wq (d+1),c.2.1,c.2.2.1,c.2.2.2.1,()))
else
some (.inr (.inr ((j,(1:Int),e++[([(121:UInt8)],(2:Int),(0:Int),false,())],f,k,b.1,a.1,()),(i,h,g,()))))
def ZDD (k:List UInt8) (g:List Int) (b a:Int×Zdd) (c:List Yv) (h:Int) (e:List Int) (f i:Int):Option (((List Yv)×Int×(List Int)×Int×Int×Unit) ⊕ (Zk×Zdd)):=
if h<(g.length:Int) then
(atI ([[(97:UInt8)],[(98:UInt8)],[(99:UInt8)],[(100:UInt8)]]) (c.length:Int)).bind λj=>
(ZAm (e,f,i,()) 9).bind λd=>
Zp ((c.length+[(j,(1:Int),Wq ((1:Int)+d.1),false,())].length)*(40:Nat)<=(140737488355328:Nat))<|
some (.inl (c++[(j,(1:Int),Wq ((1:Int)+d.1),false,())],Wq ((2:Int)*h),d.2.1,d.2.2.1,d.2.2.2.1,()))
else
Zp ((c.length+[([(121:UInt8)],(2:Int),(0:Int),false,())].length)*(40:Nat)<=(140737488355328:Nat))<|
Zq (λv=>ZDC k g b a c v.1 v.2.1 v.2.2.1 v.2.2.2.1 v.2.2.2.2.1) (([]:List ZC),(0:Int),e,f,i,())
def ZCc (c:Zdd) (d:List UInt8) (e:List Int):Option (Zk×Zdd):=
(ZAm c 50).bind λb=>
(ZAm b.2 80).bind λa=>
Zq (λv=>ZDD d e b a v.1 v.2.1 v.2.2.1 v.2.2.2.1 v.2.2.2.2.1) (([]:List (List UInt8×Int×Int×Bool×Unit)),(1:Int),a.2.1,a.2.2.1,a.2.2.2.1,())
def c8:Ctr:=⟨[.io (.flat (ZqI)),.dat (.str),.own (.ol 2 (.flat Iq))],[.own (Zqk)],λa K=>ZT a λb a=>ZT a λc a=>ZT a λd a=>QN (ZCc b c d) λr=>K (r.1,()) (r.2,())⟩
def ZBO (l:Zdd) (b:List UInt8) (a e:Int):Option (Zk×Zdd):=
(ZAm l 50).bind λi=>
(ZAm i.2 80).bind λg=>
(ZAm g.2 9).bind λk=>
(ZAm k.2 9).bind λj=>
(ZBo j.2 e 1 2 0).bind λd=>
(ZBo d.2 4 1 0 0).bind λf=>
(ZBo f.2 5 1 0 0).bind λc=>
if a=3 then
(ZBo c.2 1 0 2 1).bind λh=>
Zp (([d.1,f.1,c.1].length+[h.1].length)*(80:Nat)<=(140737488355328:Nat))<|
some ((b,a,[([(100:UInt8)],(1:Int),Wq ((1:Int)+k.1),false,()),([(99:UInt8),107],(1:Int),Wq ((1:Int)+j.1),true,()),([(113:UInt8)],(2:Int),(0:Int),false,())],[d.1,f.1,c.1]++[h.1],[],i.1,g.1,()),h.2)
else
some ((b,a,[([(100:UInt8)],(1:Int),Wq ((1:Int)+k.1),false,()),([(99:UInt8),107],(1:Int),Wq ((1:Int)+j.1),true,()),([(113:UInt8)],(2:Int),(0:Int),false,())],[d.1,f.1,c.1],[],i.1,g.1,()),c.2)
def c9:Ctr:=⟨[.io (.flat (ZqI)),.dat (.str),.dat Iq,.dat Iq],[.own (Zqk)],λa K=>ZT a λe a=>ZT a λd a=>ZT a λb a=>ZT a λc a=>QN (ZBO e d b c) λr=>K (r.1,()) (r.2,())⟩
def ZEB (i:Zdd):Option (Zt×Zdd):=
(ZCc i [(105:UInt8),110,118] [(1:Int),0]).bind λe=>
(ZCc e.2 [(98:UInt8),117,102] [(0:Int),1]).bind λa=>
(ZCc a.2 [(110:UInt8),97,110,100] [(1:Int),1,1,0]).bind λh=>
(ZCc h.2 [(120:UInt8),111,114] [(0:Int),1,1,0]).bind λg=>
(ZCc g.2 [(109:UInt8),117,120] [(0:Int),1,0,1,0,0,1,1]).bind λc=>
(ZBO c.2 [(102:UInt8),108,111,112] (2:Int) (2:Int)).bind λf=>
(ZBO f.2 [(102:UInt8),108,111,112,110] (2:Int) (3:Int)).bind λb=>
(ZBO b.2 [(108:UInt8),97,116,99,104] (3:Int) (2:Int)).bind λd=>
some (([e.1,a.1,h.1,g.1,c.1,f.1,b.1,d.1],()),d.2)
def c10:Ctr:=⟨[.io (.flat (ZqI))],[.own (Zpq)],λa K=>ZT a λb a=>QN (ZEB b) λr=>K (r.1,()) (r.2,())⟩
def YB (b:Int->Option (List UInt8)) (a:Int):Option (List UInt8):=
if a<0 then
(b (Wq (0-a))).bind λc=>
Zp ((([(45:UInt8)].length):Int)+(c.length:Int)<=(9223372036854775807:Int))<|
some ([(45:UInt8)]++c)
else
if a<10 then
some (bytesOf [IntKind.wrap IntKind.u8 (Wq ((48:Int)+a))])
else
(b (Wq (Int.tdiv a 10))).bind λc=>
Zp ((c.length:Int)+(((bytesOf [IntKind.wrap IntKind.u8 (Wq ((48:Int)+Int.tmod a (10:Int)))]).length):Int)<=(9223372036854775807:Int))<|
some (c++bytesOf [IntKind.wrap IntKind.u8 (Wq ((48:Int)+Int.tmod a (10:Int)))])
def Y1:Nat->Int->Option (List UInt8)
| 0=>λ_=>none
| n+1=>YB (Y1 n)
def Zaw (a:Int):Option (List UInt8):=Zuc (λn=>Y1 n a)
def JU (b:Int->Option (List UInt8)):Ctr:=⟨[.dat Iq],[.dat (.str)],λa K=>ZT a λc a=>QN (b c) λr=>K (r,()) ()⟩
def c11:Ctr:=JU Zaw
def ZDF (k:List Zl) (d:List (List UInt8)) (n g:Int) (c:List UInt8) (e:Int) (l:List Int) (j i:Int) (a:List Int):Option ((Int×(List Int)×Int×Int×(List Int)×Unit) ⊕ (((List Zl)×(List (List UInt8))×Int×(List Int)×Int×Int×Unit) ⊕ (Zg×Zdd))):=
(atI ([(2:Int),2,3,3,4,3,3,3]) g).bind λm=>
if e<Wq (m-1) then
(ZAm (l,j,i,()) (Wq ((d.length:Int)-1))).bind λf=>
(ZAm f.2 3).bind λb=>
if b.1=0 then
if 5<=g then
if e=1 then
Zp ((([]:List Int).length+a.length)*(8:Nat)<=(140737488355328:Nat))<|
Zp (((([]:List Int)++a).length+[(0:Int)].length)*(8:Nat)<=(140737488355328:Nat))<|
some (.inl (Wq (e+1),b.2.1,b.2.2.1,b.2.2.2.1,([]:List Int)++a++[(0:Int)],()))
else
Zp ((([]:List Int).length+a.length)*(8:Nat)<=(140737488355328:Nat))<|
Zp (((([]:List Int)++a).length+[Wq ((d.length:Int)-(1:Int))].length)*(8:Nat)<=(140737488355328:Nat))<|
some (.inl (Wq (e+1),b.2.1,b.2.2.1,b.2.2.2.1,([]:List Int)++a++[Wq ((d.length:Int)-1)],()))
else
Zp ((([]:List Int).length+a.length)*(8:Nat)<=(140737488355328:Nat))<|
Zp (((([]:List Int)++a).length+[Wq ((d.length:Int)-(1:Int))].length)*(8:Nat)<=(140737488355328:Nat))<|
some (.inl (Wq (e+1),b.2.1,b.2.2.1,b.2.2.2.1,([]:List Int)++a++[Wq ((d.length:Int)-1)],()))
else
if 5<=g then
if e=1 then
Zp ((([]:List Int).length+a.length)*(8:Nat)<=(140737488355328:Nat))<|
Zp (((([]:List Int)++a).length+[(0:Int)].length)*(8:Nat)<=(140737488355328:Nat))<|
some (.inl (Wq (e+1),b.2.1,b.2.2.1,b.2.2.2.1,([]:List Int)++a++[(0:Int)],()))
else
Zp ((([]:List Int).length+a.length)*(8:Nat)<=(140737488355328:Nat))<|
Zp (((([]:List Int)++a).length+[Wq ((1:Int)+f.1)].length)*(8:Nat)<=(140737488355328:Nat))<|
some (.inl (Wq (e+1),b.2.1,b.2.2.1,b.2.2.2.1,([]:List Int)++a++[Wq ((1:Int)+f.1)],()))
else
Zp ((([]:List Int).length+a.length)*(8:Nat)<=(140737488355328:Nat))<|
Zp (((([]:List Int)++a).length+[Wq ((1:Int)+f.1)].length)*(8:Nat)<=(140737488355328:Nat))<|
some (.inl (Wq (e+1),b.2.1,b.2.2.1,b.2.2.2.1,([]:List Int)++a++[Wq ((1:Int)+f.1)],()))
else
Zp ((([]:List Int).length+a.length)*(8:Nat)<=(140737488355328:Nat))<|
Zp (((([]:List Int)++a).length+[(d.length:Int)].length)*(8:Nat)<=(140737488355328:Nat))<|
(Zaw (d.length:Int)).bind λh=>
Zp ((([(110:UInt8)].length):Int)+(h.length:Int)<=(9223372036854775807:Int))<|
Zp ((d.length+[[(110:UInt8)]++h].length)*(16:Nat)<=(140737488355328:Nat))<|
Zp ((k.length+[([(117:UInt8)]++c,g,([]:List Int)++a++[(d.length:Int)],())].length)*(48:Nat)<=(140737488355328:Nat))<|
some (.inr (.inl (k++[([(117:UInt8)]++c,g,([]:List Int)++a++[(d.length:Int)],())],d++[[(110:UInt8)]++h],Wq (n-1),l,j,i,())))
def ZDG (k:Bool) (e:List (List UInt8)) (d:Int) (j:List Int) (i h:Int) (f:List (List UInt8×Int×List Int×Unit)):Option ((Int×(List Int)×Int×Int×(List (List UInt8×Int×List Int×Unit))×Unit) ⊕ (((List Zl)×(List (List UInt8))×Int×(List Int)×Int×Int×Unit) ⊕ (Zg×Zdd))):=
if d<(f.length:Int) then
(ZAm (j,i,h,()) 4).bind λc=>
if c.1=0 then
(atI f d).bind λb=>
if b.2.1=5 then
(ZAm c.2 (Wq ((e.length:Int)-1))).bind λa=>
(atI b.2.2.1 0).bind λg=>
some (.inl (Wq (d+1),a.2.1,a.2.2.1,a.2.2.2.1,List.set f (Int.toNat d) (b.1,b.2.1,List.set b.2.2.1 (Int.toNat 0) (Wq (1+a.1)),()),()))
else
if b.2.1=6 then
(ZAm c.2 (Wq ((e.length:Int)-1))).bind λa=>
(atI b.2.2.1 0).bind λg=>
some (.inl (Wq (d+1),a.2.1,a.2.2.1,a.2.2.2.1,List.set f (Int.toNat d) (b.1,b.2.1,List.set b.2.2.1 (Int.toNat 0) (Wq (1+a.1)),()),()))
else
if k then
(ZAm c.2 (Wq ((e.length:Int)-1))).bind λa=>
(atI b.2.2.1 0).bind λg=>
some (.inl (Wq (d+1),a.2.1,a.2.2.1,a.2.2.2.1,List.set f (Int.toNat d) (b.1,b.2.1,List.set b.2.2.1 (Int.toNat 0) (Wq (1+a.1)),()),()))
else
some (.inl (Wq (d+1),c.2.1,c.2.2.1,c.2.2.2.1,List.set f (Int.toNat d) b,()))
else
some (.inl (Wq (d+1),c.2.1,c.2.2.1,c.2.2.2.1,f,()))
else
Zp (((([]:List (List UInt8×Int×Int×Unit))++[([(99:UInt8),107],(1:Int),(0:Int),()),([(97:UInt8)],(1:Int),(1:Int),()),([(98:UInt8)],(1:Int),(2:Int),())]).length+[([(121:UInt8)],(2:Int),Wq ((e.length:Int)-(1:Int)),())].length)*(32:Nat)<=(140737488355328:Nat))<|
(ZAm (j,i,h,()) 2).bind λc=>
if c.1=0 then
(ZAm c.2 (Wq ((e.length:Int)-1))).bind λa=>
Zp (((([]:List (List UInt8×Int×Int×Unit))++[([(99:UInt8),107],(1:Int),(0:Int),()),([(97:UInt8)],(1:Int),(1:Int),()),([(98:UInt8)],(1:Int),(2:Int),())]++[([(121:UInt8)],(2:Int),Wq ((e.length:Int)-(1:Int)),())]).length+[([(122:UInt8)],(2:Int),Wq ((1:Int)+a.1),())].length)*(32:Nat)<=(140737488355328:Nat))<|
some (.inr (.inr ((f,e,([]:List (List UInt8×Int×Int×Unit))++[([(99:UInt8),107],(1:Int),(0:Int),()),([(97:UInt8)],(1:Int),(1:Int),()),([(98:UInt8)],(1:Int),(2:Int),())]++[([(121:UInt8)],(2:Int),Wq ((e.length:Int)-1),())]++[([(122:UInt8)],(2:Int),Wq ((1:Int)+a.1),())],()),a.2)))
else
some (.inr (.inr ((f,e,([]:List (List UInt8×Int×Int×Unit))++[([(99:UInt8),107],(1:Int),(0:Int),()),([(97:UInt8)],(1:Int),(1:Int),()),([(98:UInt8)],(1:Int),(2:Int),())]++[([(121:UInt8)],(2:Int),Wq ((e.length:Int)-1),())],()),c.2)))
def ZDH (i:Bool) (b:List Zl) (g:List (List UInt8)) (f:Int) (c:List Int) (e h:Int):Option (((List Zl)×(List (List UInt8))×Int×(List Int)×Int×Int×Unit) ⊕ (Zg×Zdd)):=
if 0<f then
(ZAm (c,e,h,()) 12).bind λa=>
(atI ([(0:Int),1,2,2,3,4,5,5,5,6,7,1]) a.1).bind λj=>
(Zaw (b.length:Int)).bind λd=>
Zp ((([(117:UInt8)].length):Int)+(d.length:Int)<=(9223372036854775807:Int))<|
Zq (λv=>ZDF b g f j d v.1 v.2.1 v.2.2.1 v.2.2.2.1 v.2.2.2.2.1) ((0:Int),a.2.1,a.2.2.1,a.2.2.2.1,([]:List Int),())
else
Zq (λv=>ZDG i g v.1 v.2.1 v.2.2.1 v.2.2.2.1 v.2.2.2.2.1) ((0:Int),c,e,h,b,())
def ZEC (b:Zdd) (c:Int) (d:Bool):Option (Zg×Zdd):=
(ZAm b (Wq (c-1))).bind λa=>
Zq (λv=>ZDH d v.1 v.2.1 v.2.2.1 v.2.2.2.1 v.2.2.2.2.1 v.2.2.2.2.2.1) (([]:List Zl),([]:List (List UInt8))++[[(110:UInt8),99,107],[(110:UInt8),97],[(110:UInt8),98]],Wq ((2:Int)+a.1),a.2.1,a.2.2.1,a.2.2.2.1,())
def c12:Ctr:=⟨[.io (.flat (ZqI)),.dat Iq,.dat (.bool)],[.own (Zrc)],λa K=>ZT a λb a=>ZT a λc a=>ZT a λd a=>QN (ZEC b c d) λr=>K (r.1,()) (r.2,())⟩
def Zan (d:Int) (b:Zl) (c:List Ya) (a:Int):Option (((List Ya)×Int×Unit) ⊕ (((List Ya)×Int×Unit) ⊕ List Ya)):=
if a<((Zl.X7 b).length:Int) then
(atI (Zl.X7 b) a).bind λe=>
Zp ((c.length+[(d,a,e,decide (a=Wq (((Zl.X7 b).length:Int)-(1:Int))),())].length)*(32:Nat)<=(140737488355328:Nat))<|
some (.inl (c++[(d,a,e,decide (a=Wq (((Zl.X7 b).length:Int)-1)),())],Wq (a+1),()))
else
some (.inr (.inl (c,Wq (d+1),())))
def Zao (d:Zg) (c:List Ya) (a:Int):Option (((List Ya)×Int×Unit) ⊕ (((List Ya)×Int×Unit) ⊕ List Ya)):=
if a<((Zg.Xb d).length:Int) then
(atI (Zg.Xb d) a).bind λb=>
Zp ((c.length+[((-1:Int),a,Ye.Net b,decide (Ye.Dir b=(1:Int)),())].length)*(32:Nat)<=(140737488355328:Nat))<|
some (.inl (c++[((-1:Int),a,Ye.Net b,decide (Ye.Dir b=1),())],Wq (a+1),()))
else
some (.inr (.inr c))
def Zap (a:Zg) (c:List Ya) (b:Int):Option (((List Ya)×Int×Unit) ⊕ List Ya):=
if b<((Zg.Instances a).length:Int) then
(atI (Zg.Instances a) b).bind λd=>
Zq (λv=>Zan b d v.1 v.2.1) (c,(0:Int),())
else
Zq (λv=>Zao a v.1 v.2.1) (c,(0:Int),())
def X3 (a:Zg):Option (List Ya):=
Zq (λv=>Zap a v.1 v.2.1) (([]:List (Int×Int×Int×Bool×Unit)),(0:Int),())
def c13:Ctr:=⟨[.dat (YU)],[.own (.ol 234 (.flat (ZcG)))],λa K=>ZT a λb a=>QN (X3 b) λr=>K (r,()) ()⟩
def Za0 (d:Int) (a:List Ya) (b:List Int) (c:Int):Option (((List Int)×Int×Unit) ⊕ List Int):=
if c<(a.length:Int) then
(atI a c).bind λe=>
if Ya.net e=d then
if (Ya.drives e)=true then
some (.inl (b,Wq (c+1),()))
else
Zp ((b.length+[c].length)*(8:Nat)<=(140737488355328:Nat))<|
some (.inl (b++[c],Wq (c+1),()))
else
some (.inl (b,Wq (c+1),()))
else
some (.inr b)
def Zc8 (b:Zg) (a:Int):Option (List Int):=
(X3 b).bind λc=>
Zq (λv=>Za0 a c v.1 v.2.1) (([]:List Int),(0:Int),())
def c14:Ctr:=⟨[.dat (YU),.dat Iq],[.own (.ol 2 (.flat Iq))],λa K=>ZT a λc a=>ZT a λb a=>QN (Zc8 c b) λr=>K (r,()) ()⟩
def ZBy (a b:Int):Option Zx:=
Zp ((0:Int)<=a)<|
Zp (a<=a)<|
Zp (a<=(4611686018427387904:Int))<|
Zp (((8:Nat):Int)*a<=(281474976710656:Int))<|
some ([(-1:Int)],[(0:Int)],[b],List.replicate (Int.toNat a) (0:Int),())
def c15:Ctr:=⟨[.dat Iq,.dat Iq],[.own (Zql)],λa K=>ZT a λb a=>ZT a λc a=>QN (ZBy b c) λr=>K (r,()) ()⟩
def ZAK (a:List Int):Option (List Int):=
Zp ((([]:List Int).length+a.length)*(8:Nat)<=(140737488355328:Nat))<|
some (([]:List Int)++a)
def c16:Ctr:=⟨[.dat (.sl Iq)],[.own (.ol 2 (.flat Iq))],λa K=>ZT a λb a=>QN (ZAK b) λr=>K (r,()) ()⟩
def ZCE (g i h:List Int) (b:Int) (e:List Int) (d f:Int) (a:List Int):Option ((Int×(List Int)×Int×Int×(List Int)×Unit) ⊕ ((Int×(List Int)×Int×Int×(List Int)×(List Int)×(List Int)×(List Int)×Unit) ⊕ (Zx×Zdd))):=
if b<(a.length:Int) then
(ZAm (e,d,f,()) (g.length:Int)).bind λc=>
(atI a b).bind λj=>
some (.inl (Wq (b+1),c.2.1,c.2.2.1,c.2.2.2.1,List.set a (Int.toNat b) c.1,()))
else
some (.inr (.inr ((g,i,h,a,()),(e,d,f,()))))
def ZCF (j:Int) (f:List Int) (h k:Int) (c g e l:List Int):Option ((Int×(List Int)×Int×Int×(List Int)×(List Int)×(List Int)×(List Int)×Unit) ⊕ (Zx×Zdd)):=
if 0<j then
(ZAK c).bind λm=>
(ZAm (f,h,k,()) (c.length:Int)).bind λb=>
Zp ((m.length+[b.1].length)*(8:Nat)<=(140737488355328:Nat))<|
(ZAK g).bind λn=>
(ZAm b.2 400).bind λd=>
Zp ((n.length+[d.1].length)*(8:Nat)<=(140737488355328:Nat))<|
(ZAK e).bind λi=>
(ZAm d.2 8).bind λa=>
Zp ((i.length+[a.1].length)*(8:Nat)<=(140737488355328:Nat))<|
some (.inl (Wq (j-1),a.2.1,a.2.2.1,a.2.2.2.1,m++[b.1],n++[d.1],i++[a.1],l,()))
else
Zq (λv=>ZCE c g e v.1 v.2.1 v.2.2.1 v.2.2.2.1 v.2.2.2.2.1) ((0:Int),f,h,k,l,())
def ZA1 (e:Zdd) (a:Int):Option (Zx×Zdd):=
(ZAm e 6).bind λd=>
(ZBy a d.1).bind λb=>
(ZAm d.2 4).bind λc=>
Zq (λv=>ZCF v.1 v.2.1 v.2.2.1 v.2.2.2.1 v.2.2.2.2.1 v.2.2.2.2.2.1 v.2.2.2.2.2.2.1 v.2.2.2.2.2.2.2.1) (c.1,c.2.1,c.2.2.1,c.2.2.2.1,Zx.Parent b,Zx.Res b,Zx.Cap b,Zx.Zjo b,())
def c17:Ctr:=⟨[.io (.flat (ZqI)),.dat Iq],[.own (Zql)],λa K=>ZT a λc a=>ZT a λb a=>QN (ZA1 c b) λr=>K (r.1,()) (r.2,())⟩
def ZDJ (c:Zt×Zdd) (a:Zg×Zdd) (b:List Zx) (d:Int) (f:List Int) (g h:Int):Option (((List Zx)×Int×(List Int)×Int×Int×Unit) ⊕ (Zj×Zdd)):=
if d<(a.1.2.1.length:Int) then
(Zc8 a.1 d).bind λi=>
(ZA1 (f,g,h,()) (i.length:Int)).bind λe=>
Zp ((b.length+[e.1].length)*(96:Nat)<=(140737488355328:Nat))<|
some (.inl (b++[e.1],Wq (d+1),e.2.1,e.2.2.1,e.2.2.2.1,()))
else
some (.inr ((c.1,a.1,b,()),(f,g,h,())))
def ZD4 (e:Zdd) (c:Int) (b:Bool):Option (Zj×Zdd):=
(ZEB e).bind λd=>
(ZEC d.2 c b).bind λa=>
Zq (λv=>ZDJ d a v.1 v.2.1 v.2.2.1 v.2.2.2.1 v.2.2.2.2.1) (([]:List Zx),(0:Int),a.2.1,a.2.2.1,a.2.2.2.1,())
def c18:Ctr:=⟨[.io (.flat (ZqI)),.dat Iq,.dat (.bool)],[.own (ZuH)],λa K=>ZT a λd a=>ZT a λc a=>ZT a λb a=>QN (ZD4 d c b) λr=>K (r.1,()) (r.2,())⟩
def ZDK (a:Int×Zdd) (b:List Zc):Option (((List Zc)×Unit) ⊕ (((List Zc)×Int×(List Int)×Int×Int×Unit) ⊕ ((List Zc)×Zdd))):=
if (b.length:Int)<7 then
(atI b 0).bind λd=>
(Zaw (b.length:Int)).bind λc=>
Zp ((([(120:UInt8)].length):Int)+(c.length:Int)<=(9223372036854775807:Int))<|
Zp ((b.length+[([(120:UInt8)]++c,d.2)].length)*(96:Nat)<=(140737488355328:Nat))<|
some (.inl (b++[([(120:UInt8)]++c,d.2)],()))
else
some (.inr (.inr (b,a.2)))
def ZDL (c:List Zc) (l:Int) (m:List Int) (n o:Int):Option (((List Zc)×Int×(List Int)×Int×Int×Unit) ⊕ ((List Zc)×Zdd)):=
if 0<l then
(ZAm (m,n,o,()) 30).bind λb=>
(Zaw (c.length:Int)).bind λj=>
Zp ((([(99:UInt8)].length):Int)+(j.length:Int)<=(9223372036854775807:Int))<|
(ZAm b.2 20).bind λd=>
(ZAm d.2 20).bind λf=>
(ZAm f.2 8).bind λi=>
if (c.length:Int)=0 then
(ZAm i.2 7).bind λk=>
(atI ([(10:Int),12,20,30,100,7,2]) k.1).bind λa=>
(ZAm k.2 a).bind λg=>
(ZAm g.2 (Wq (a-1))).bind λe=>
Zp (a≠(0:Int))<|
Zp ((c.length+[([(99:UInt8)]++j,d.1,a,g.1,Int.tmod (Wq (Wq (g.1+(1:Int))+e.1)) a,(-1:Int),(1:Int),false,b.1,Wq (b.1+f.1),i.1,())].length)*(96:Nat)<=(140737488355328:Nat))<|
some (.inl (c++[([(99:UInt8)]++j,d.1,a,g.1,Int.tmod (Wq (Wq (g.1+1)+e.1)) a,(-1:Int),(1:Int),false,b.1,Wq (b.1+f.1),i.1,())],Wq (l-1),e.2.1,e.2.2.1,e.2.2.2.1,()))
else
(ZAm i.2 3).bind λk=>
if k.1=0 then
(ZAm k.2 7).bind λg=>
(atI ([(10:Int),12,20,30,100,7,2]) g.1).bind λa=>
(ZAm g.2 a).bind λe=>
(ZAm e.2 (Wq (a-1))).bind λh=>
Zp (a≠(0:Int))<|
Zp ((c.length+[([(99:UInt8)]++j,d.1,a,e.1,Int.tmod (Wq (Wq (e.1+(1:Int))+h.1)) a,(-1:Int),(1:Int),false,b.1,Wq (b.1+f.1),i.1,())].length)*(96:Nat)<=(140737488355328:Nat))<|
some (.inl (c++[([(99:UInt8)]++j,d.1,a,e.1,Int.tmod (Wq (Wq (e.1+1)+h.1)) a,(-1:Int),(1:Int),false,b.1,Wq (b.1+f.1),i.1,())],Wq (l-1),h.2.1,h.2.2.1,h.2.2.2.1,()))
else
(ZAm k.2 (c.length:Int)).bind λg=>
(ZAm g.2 4).bind λe=>
(ZAm e.2 3).bind λh=>
Zp ((c.length+[([(99:UInt8)]++j,d.1,(0:Int),(0:Int),(0:Int),g.1,Wq ((1:Int)+e.1),decide (h.1=(0:Int)),b.1,Wq (b.1+f.1),i.1,())].length)*(96:Nat)<=(140737488355328:Nat))<|
some (.inl (c++[([(99:UInt8)]++j,d.1,(0:Int),(0:Int),(0:Int),g.1,Wq ((1:Int)+e.1),decide (h.1=0),b.1,Wq (b.1+f.1),i.1,())],Wq (l-1),h.2.1,h.2.2.1,h.2.2.2.1,()))
else
(ZAm (m,n,o,()) (c.length:Int)).bind λb=>
(ZAm b.2 30).bind λd=>
if d.1=0 then
(ZAm d.2 2).bind λf=>
(atI c b.1).bind λa=>
some (.inr (List.set c (Int.toNat b.1) (Zc.Name a,Zc.Place a,Zc.VQ a,Zc.Zae a,Zc.Zad a,Zc.Source a,Wq (9*f.1),a.2.2.2.2.2.2.2),f.2))
else
if d.1=1 then
(atI c b.1).bind λa=>
some (.inr (List.set c (Int.toNat b.1) (Zc.Name a,Zc.Place a,Zc.VQ a,Zc.Zae a,Zc.Zae a,a.2.2.2.2.2),d.2))
else
if d.1=2 then
(atI c 0).bind λa=>
(atI c b.1).bind λp=>
some (.inr (List.set c (Int.toNat b.1) (Zc.Name a,p.2),d.2))
else
if d.1=3 then
(atI c b.1).bind λa=>
some (.inr (List.set c (Int.toNat b.1) (Zc.Name a,Zc.Place a,Zc.VQ a,Zc.Zae a,Zc.Zad a,b.1,a.2.2.2.2.2.2),d.2))
else
if d.1=4 then
(atI c b.1).bind λa=>
some (.inr (List.set c (Int.toNat b.1) (Zc.Name a,Zc.Place a,Zc.VQ a,Zc.Zae a,Zc.Zad a,Zc.Source a,Zc.Divide a,Zc.Zex a,Zc.Yn a,Wq (Zc.Yn a-1),a.2.2.2.2.2.2.2.2.2.2),d.2))
else
if d.1=5 then
(ZAm d.2 2).bind λf=>
(atI c 0).bind λa=>
some (.inr (List.set c (Int.toNat 0) (Zc.Name a,Zc.Place a,Wq (100000+f.1),a.2.2.2),f.2))
else
if d.1=6 then
Zq (λv=>ZDK d v.1) (c,())
else
some (.inr (c,d.2))
def ZD5 (b:Zdd):Option ((List Zc)×Zdd):=
(ZAm b 5).bind λa=>
Zq (λv=>ZDL v.1 v.2.1 v.2.2.1 v.2.2.2.1 v.2.2.2.2.1) (([]:List (List UInt8×Int×Int×Int×Int×Int×Int×Bool×Int×Int×Int×Unit)),Wq ((1:Int)+a.1),a.2.1,a.2.2.1,a.2.2.2.1,())
def c19:Ctr:=⟨[.io (.flat (ZqI))],[.own (.ol 154 (.flat (Xh)))],λa K=>ZT a λb a=>QN (ZD5 b) λr=>K (r.1,()) (r.2,())⟩
def ZbH (c:List UInt8) (a:Int):Option ((Int×Unit) ⊕ Bool):=
if a<(c.length:Int) then
(atI c a).bind λb=>
if 97<=((UInt8.toNat b):Int) then
if 48<=((UInt8.toNat b):Int) then
if ((UInt8.toNat b):Int)<=122 then
some (.inl (Wq (a+1),()))
else
if ((UInt8.toNat b):Int)<=57 then
if 0<a then
some (.inl (Wq (a+1),()))
else
some (.inr false)
else
some (.inr false)
else
if ((UInt8.toNat b):Int)<=122 then
some (.inl (Wq (a+1),()))
else
some (.inr false)
else
if 48<=((UInt8.toNat b):Int) then
if ((UInt8.toNat b):Int)<=57 then
if 0<a then
some (.inl (Wq (a+1),()))
else
some (.inr false)
else
some (.inr false)
else
some (.inr false)
else
if 1<=(c.length:Int) then
some (.inr (decide ((c.length:Int)<=8)))
else
some (.inr false)
def VA (a:List UInt8):Option Bool:=
Zq (λv=>ZbH a v.1) ((0:Int),())
def c20:Ctr:=D1 (.str) (.bool) VA
def ZN (c b a:Int):Option Bool:=
if b<=c then
some (decide (c<=a))
else
some false
def c21:Ctr:=D3 Iq Iq Iq (.bool) ZN
def Zc9 (a:Zc):Option Bool:=
(VA (Zc.Name a)).bind λc=>
if c then
if 0<=Zc.Place a then
(ZN (Zc.Yn a) 0 100000).bind λb=>
if b then
(ZN (Zc.YK a) (Zc.Yn a) 100000).bind λe=>
if e then
(ZN (Zc.Y8 a) 0 100000).bind λd=>
some d
else
some false
else
some false
else
some false
else
some false
def c22:Ctr:=D1 (Xh) (.bool) Zc9
def ZbJ (a:Zc):Option Bool:=
(ZN (Zc.VQ a) 2 100000).bind λc=>
if c then
(ZN (Zc.Zae a) 0 (Wq (Zc.VQ a-1))).bind λb=>
if b then
(ZN (Zc.Zad a) 0 (Wq (Zc.VQ a-1))).bind λd=>
if d then
if Zc.Zae a=Zc.Zad a then
some false
else
if Zc.Divide a=1 then
some (!Zc.Zex a)
else
some false
else
some false
else
some false
else
some false
def c23:Ctr:=D1 (Xh) (.bool) ZbJ
def JK (d:(List Zc)->Int->Option YW) (c:List Zc) (e:Int):Option YW:=
(atI c e).bind λb=>
if Zc.Source b<0 then
some (Zc.VQ b,Zc.Zae b,Zc.Zad b,())
else
(d c (Zc.Source b)).bind λa=>
if 1<Zc.Divide b then
if (Zc.Zex b)=true then
some (Wq (YW.period a*Zc.Divide b),Wq (YW.rise a+Wq (Wq (Int.tdiv (Zc.Divide b) 2)*YW.period a)),YW.rise a,())
else
some (Wq (YW.period a*Zc.Divide b),YW.rise a,Wq (YW.rise a+Wq (Wq (Int.tdiv (Zc.Divide b) 2)*YW.period a)),())
else
if (Zc.Zex b)=true then
some (YW.period a,YW.fall a,YW.rise a,())
else
some a
def JL:Nat->(List Zc)->Int->Option YW
| 0=>λ_ _=>none
| n+1=>JK (JL n)
def ZgJ (a:List Zc) (b:Int):Option YW:=Zuc (λn=>JL n a b)
def ZcT (c:(List Zc)->Int->Option YW):Ctr:=⟨[.dat (.sl (Xh)),.dat Iq],[.dat (Zqb)],λa K=>ZT a λb a=>ZT a λd a=>QN (c b d) λr=>K (r,()) ()⟩
def c24:Ctr:=ZcT ZgJ
def VK (d:List Zc) (b:Int) (a:Zc) (c:Int):Option ((Int×Unit) ⊕ ((Int×Unit) ⊕ Bool)):=
if c<b then
(atI d c).bind λe=>
if Zc.Name e=Zc.Name a then
some (.inr (.inr false))
else
some (.inl (Wq (c+1),()))
else
if Zc.Source a=(-1) then
(ZbJ a).bind λg=>
if g then
some (.inr (.inl (Wq (b+1),())))
else
some (.inr (.inr false))
else
(ZN (Zc.Source a) 0 (Wq (b-1))).bind λf=>
if f then
(ZN (Zc.Divide a) 1 8).bind λi=>
if i then
if Zc.VQ a=0 then
if Zc.Zae a=0 then
if Zc.Zad a=0 then
(ZgJ d b).bind λh=>
if 100000<YW.period h then
some (.inr (.inr false))
else
some (.inr (.inl (Wq (b+1),())))
else
some (.inr (.inr false))
else
some (.inr (.inr false))
else
some (.inr (.inr false))
else
some (.inr (.inr false))
else
some (.inr (.inr false))
def ZaP (a:List Zc) (b:Int):Option ((Int×Unit) ⊕ Bool):=
if b<(a.length:Int) then
if (a.length:Int)<=6 then
(atI a b).bind λc=>
(Zc9 c).bind λd=>
if d then
Zq (λv=>VK a b c v.1) ((0:Int),())
else
some (.inr false)
else
some (.inr (decide ((a.length:Int)<=6)))
else
some (.inr (decide ((a.length:Int)<=6)))
def Zc4 (a:List Zc):Option Bool:=
Zq (λv=>ZaP a v.1) ((0:Int),())
def c25:Ctr:=D1 (.sl (Xh)) (.bool) Zc4
def ZCK (d:Zj×Zdd) (b:List Ya) (l:List Zc) (n m:List Zh) (f:List Ze) (g:Int) (j:List Int) (i k:Int):Option (((List Ze)×Int×(List Int)×Int×Int×Unit) ⊕ (((List Zh)×(List Zh)×Int×(List Int)×Int×Int×Unit) ⊕ ((Int×(List Int)×Int×Int×(List Zc)×Unit) ⊕ (Zj×Zo×Zdd)))):=
if 0<g then
(ZAm (j,i,k,()) 4).bind λa=>
if Wq (1+a.1)=1 then
(ZAm a.2 2).bind λc=>
if c.1=0 then
(ZAm c.2 (b.length:Int)).bind λe=>
Zp ((f.length+[(Wq ((1:Int)+a.1),(0:Int),([]:List Int),([]:List Int),[e.1],())].length)*(88:Nat)<=(140737488355328:Nat))<|
some (.inl (f++[(Wq ((1:Int)+a.1),(0:Int),([]:List Int),([]:List Int),[e.1],())],Wq (g-1),e.2.1,e.2.2.1,e.2.2.2.1,()))
else
Zp ((f.length+[(Wq ((1:Int)+a.1),(0:Int),([]:List Int),([]:List Int),([]:List Int),())].length)*(88:Nat)<=(140737488355328:Nat))<|
some (.inl (f++[(Wq ((1:Int)+a.1),(0:Int),([]:List Int),([]:List Int),([]:List Int),())],Wq (g-1),c.2.1,c.2.2.1,c.2.2.2.1,()))
else
(ZAm a.2 9).bind λc=>
(ZAm c.2 2).bind λe=>
if e.1=0 then
(ZAm e.2 (b.length:Int)).bind λh=>
Zp ((f.length+[(Wq ((1:Int)+a.1),Wq ((1:Int)+c.1),([]:List Int),([]:List Int),[h.1],())].length)*(88:Nat)<=(140737488355328:Nat))<|
some (.inl (f++[(Wq ((1:Int)+a.1),Wq ((1:Int)+c.1),([]:List Int),([]:List Int),[h.1],())],Wq (g-1),h.2.1,h.2.2.1,h.2.2.2.1,()))
else
Zp ((f.length+[(Wq ((1:Int)+a.1),Wq ((1:Int)+c.1),([]:List Int),([]:List Int),([]:List Int),())].length)*(88:Nat)<=(140737488355328:Nat))<|
some (.inl (f++[(Wq ((1:Int)+a.1),Wq ((1:Int)+c.1),([]:List Int),([]:List Int),([]:List Int),())],Wq (g-1),e.2.1,e.2.2.1,e.2.2.2.1,()))
else
(ZAm (j,i,k,()) 2).bind λa=>
if a.1=0 then
some (.inr (.inr (.inr (d.1,(l,n,m,f,[([(116:UInt8),121,112],(1000:Int),(1000:Int),(1000:Int),(1000:Int),())]++[([(115:UInt8),108,111,119],(1100:Int),(1300:Int),(1000:Int),(1200:Int),())],()),a.2))))
else
some (.inr (.inr (.inr (d.1,(l,n,m,f,[([(116:UInt8),121,112],(1000:Int),(1000:Int),(1000:Int),(1000:Int),())],()),a.2))))
def ZCL (i:Zj×Zdd) (a:List Ya) (k:Int×Zdd) (q:List Zc) (h f:List Zh) (d:Int) (o:List Int) (n p:Int):Option (((List Zh)×(List Zh)×Int×(List Int)×Int×Int×Unit) ⊕ ((Int×(List Int)×Int×Int×(List Zc)×Unit) ⊕ (Zj×Zo×Zdd))):=
if d<(a.length:Int) then
(ZAm (o,n,p,()) 60).bind λb=>
(ZAm b.2 (([([(109:UInt8),97,105,110],(0:Int),Wq ((100:Int)+k.1),(0:Int),(50:Int),(-1:Int),(1:Int),false,(0:Int),(0:Int),(0:Int),())].length):Int)).bind λj=>
(ZAm j.2 30).bind λe=>
(atI a d).bind λm=>
if (Ya.drives m)=true then
if d=Wq ((a.length:Int)-(i.1.2.1.2.2.1.length:Int)) then
if (Ya.drives m)=true then
some (.inl (h,f,Wq (d+1),e.2.1,e.2.2.1,e.2.2.2.1,()))
else
(ZAm e.2 8).bind λc=>
if 0<c.1 then
Zp ((f.length+[(d,j.1,(Wq (b.1-(20:Int)),Wq (Wq (b.1-(20:Int))+e.1),()),((0:Int),(0:Int),()),())].length)*(48:Nat)<=(140737488355328:Nat))<|
some (.inl (h,f++[(d,j.1,(Wq (b.1-20),Wq (Wq (b.1-20)+e.1),()),((0:Int),(0:Int),()),())],Wq (d+1),c.2.1,c.2.2.1,c.2.2.2.1,()))
else
some (.inl (h,f,Wq (d+1),c.2.1,c.2.2.1,c.2.2.2.1,()))
else
(ZAm e.2 8).bind λc=>
if 0<c.1 then
(ZAm c.2 20).bind λg=>
(ZAm g.2 10).bind λl=>
Zp ((h.length+[(d,j.1,(Wq (b.1-(20:Int)),Wq (Wq (b.1-(20:Int))+e.1),()),(g.1,Wq (g.1+l.1),()),())].length)*(48:Nat)<=(140737488355328:Nat))<|
some (.inl (h++[(d,j.1,(Wq (b.1-20),Wq (Wq (b.1-20)+e.1),()),(g.1,Wq (g.1+l.1),()),())],f,Wq (d+1),l.2.1,l.2.2.1,l.2.2.2.1,()))
else
if (Ya.drives m)=true then
some (.inl (h,f,Wq (d+1),c.2.1,c.2.2.1,c.2.2.2.1,()))
else
(ZAm c.2 8).bind λg=>
if 0<g.1 then
Zp ((f.length+[(d,j.1,(Wq (b.1-(20:Int)),Wq (Wq (b.1-(20:Int))+e.1),()),((0:Int),(0:Int),()),())].length)*(48:Nat)<=(140737488355328:Nat))<|
some (.inl (h,f++[(d,j.1,(Wq (b.1-20),Wq (Wq (b.1-20)+e.1),()),((0:Int),(0:Int),()),())],Wq (d+1),g.2.1,g.2.2.1,g.2.2.2.1,()))
else
some (.inl (h,f,Wq (d+1),g.2.1,g.2.2.1,g.2.2.2.1,()))
else
if (Ya.drives m)=true then
some (.inl (h,f,Wq (d+1),e.2.1,e.2.2.1,e.2.2.2.1,()))
else
(ZAm e.2 8).bind λc=>
if 0<c.1 then
Zp ((f.length+[(d,j.1,(Wq (b.1-(20:Int)),Wq (Wq (b.1-(20:Int))+e.1),()),((0:Int),(0:Int),()),())].length)*(48:Nat)<=(140737488355328:Nat))<|
some (.inl (h,f++[(d,j.1,(Wq (b.1-20),Wq (Wq (b.1-20)+e.1),()),((0:Int),(0:Int),()),())],Wq (d+1),c.2.1,c.2.2.1,c.2.2.2.1,()))
else
some (.inl (h,f,Wq (d+1),c.2.1,c.2.2.1,c.2.2.2.1,()))
else
(ZAm (o,n,p,()) 3).bind λb=>
Zq (λv=>ZCK i a q h f v.1 v.2.1 v.2.2.1 v.2.2.2.1 v.2.2.2.2.1) (([]:List Ze),b.1,b.2.1,b.2.2.1,b.2.2.2.1,())
def ZBT (b:Zj×Zdd) (a:List Ya) (c:Int×Zdd) (f:Int) (h:List Int) (i j:Int) (e:List Zc):Option ((Int×(List Int)×Int×Int×(List Zc)×Unit) ⊕ (Zj×Zo×Zdd)):=
if f<(([([(109:UInt8),97,105,110],(0:Int),Wq ((100:Int)+c.1),(0:Int),(50:Int),(-1:Int),(1:Int),false,(0:Int),(0:Int),(0:Int),())].length):Int) then
(atI ([([(109:UInt8),97,105,110],(0:Int),Wq ((100:Int)+c.1),(0:Int),(50:Int),(-1:Int),(1:Int),false,(0:Int),(0:Int),(0:Int),())]) f).bind λd=>
if 0<f then
(ZAm (h,i,j,()) (a.length:Int)).bind λg=>
Zp ((([]:List (List UInt8×Int×Int×Int×Int×Int×Int×Bool×Int×Int×Int×Unit)).length+e.length)*(96:Nat)<=(140737488355328:Nat))<|
Zp (((([]:List (List UInt8×Int×Int×Int×Int×Int×Int×Bool×Int×Int×Int×Unit))++e).length+[(d.1,g.1,d.2.2)].length)*(96:Nat)<=(140737488355328:Nat))<|
some (.inl (Wq (f+1),g.2.1,g.2.2.1,g.2.2.2.1,([]:List (List UInt8×Int×Int×Int×Int×Int×Int×Bool×Int×Int×Int×Unit))++e++[(d.1,g.1,d.2.2)],()))
else
Zp ((([]:List (List UInt8×Int×Int×Int×Int×Int×Int×Bool×Int×Int×Int×Unit)).length+e.length)*(96:Nat)<=(140737488355328:Nat))<|
Zp (((([]:List (List UInt8×Int×Int×Int×Int×Int×Int×Bool×Int×Int×Int×Unit))++e).length+[(d.1,Wq ((a.length:Int)-(b.1.2.1.2.2.1.length:Int)),d.2.2)].length)*(96:Nat)<=(140737488355328:Nat))<|
some (.inl (Wq (f+1),h,i,j,([]:List (List UInt8×Int×Int×Int×Int×Int×Int×Bool×Int×Int×Int×Unit))++e++[(d.1,Wq ((a.length:Int)-(b.1.2.1.2.2.1.length:Int)),d.2.2)],()))
else
Zq (λv=>ZCL b a c e v.1 v.2.1 v.2.2.1 v.2.2.2.1 v.2.2.2.2.1 v.2.2.2.2.2.1) (([]:List (Int×Int×Yb×Yb×Unit)),([]:List (Int×Int×Yb×Yb×Unit)),Wq ((a.length:Int)-(b.1.2.1.2.2.1.length:Int)),h,i,j,())
def ZCM (d:Zj×Zdd) (b:List Ya) (l:List Zc) (n m:List Zh) (f:List Ze) (g:Int) (j:List Int) (i k:Int):Option (((List Ze)×Int×(List Int)×Int×Int×Unit) ⊕ (((List Zh)×(List Zh)×Int×(List Int)×Int×Int×Unit) ⊕ ((Int×(List Int)×Int×Int×(List Zc)×Unit) ⊕ (Zj×Zo×Zdd)))):=
if 0<g then
(ZAm (j,i,k,()) 4).bind λa=>
if Wq (1+a.1)=1 then
(ZAm a.2 2).bind λc=>
if c.1=0 then
(ZAm c.2 (b.length:Int)).bind λe=>
Zp ((f.length+[(Wq ((1:Int)+a.1),(0:Int),([]:List Int),([]:List Int),[e.1],())].length)*(88:Nat)<=(140737488355328:Nat))<|
some (.inl (f++[(Wq ((1:Int)+a.1),(0:Int),([]:List Int),([]:List Int),[e.1],())],Wq (g-1),e.2.1,e.2.2.1,e.2.2.2.1,()))
else
Zp ((f.length+[(Wq ((1:Int)+a.1),(0:Int),([]:List Int),([]:List Int),([]:List Int),())].length)*(88:Nat)<=(140737488355328:Nat))<|
some (.inl (f++[(Wq ((1:Int)+a.1),(0:Int),([]:List Int),([]:List Int),([]:List Int),())],Wq (g-1),c.2.1,c.2.2.1,c.2.2.2.1,()))
else
(ZAm a.2 9).bind λc=>
(ZAm c.2 2).bind λe=>
if e.1=0 then
(ZAm e.2 (b.length:Int)).bind λh=>
Zp ((f.length+[(Wq ((1:Int)+a.1),Wq ((1:Int)+c.1),([]:List Int),([]:List Int),[h.1],())].length)*(88:Nat)<=(140737488355328:Nat))<|
some (.inl (f++[(Wq ((1:Int)+a.1),Wq ((1:Int)+c.1),([]:List Int),([]:List Int),[h.1],())],Wq (g-1),h.2.1,h.2.2.1,h.2.2.2.1,()))
else
Zp ((f.length+[(Wq ((1:Int)+a.1),Wq ((1:Int)+c.1),([]:List Int),([]:List Int),([]:List Int),())].length)*(88:Nat)<=(140737488355328:Nat))<|
some (.inl (f++[(Wq ((1:Int)+a.1),Wq ((1:Int)+c.1),([]:List Int),([]:List Int),([]:List Int),())],Wq (g-1),e.2.1,e.2.2.1,e.2.2.2.1,()))
else
(ZAm (j,i,k,()) 2).bind λa=>
if a.1=0 then
some (.inr (.inr (.inr (d.1,(l,n,m,f,[([(116:UInt8),121,112],(1000:Int),(1000:Int),(1000:Int),(1000:Int),())]++[([(115:UInt8),108,111,119],(1100:Int),(1300:Int),(1000:Int),(1200:Int),())],()),a.2))))
else
some (.inr (.inr (.inr (d.1,(l,n,m,f,[([(116:UInt8),121,112],(1000:Int),(1000:Int),(1000:Int),(1000:Int),())],()),a.2))))
def ZCN (i:Zj×Zdd) (a:List Ya) (k:List Zc×Zdd) (q:List Zc) (h f:List Zh) (d:Int) (o:List Int) (n p:Int):Option (((List Zh)×(List Zh)×Int×(List Int)×Int×Int×Unit) ⊕ ((Int×(List Int)×Int×Int×(List Zc)×Unit) ⊕ (Zj×Zo×Zdd))):=
if d<(a.length:Int) then
(ZAm (o,n,p,()) 60).bind λb=>
(ZAm b.2 (k.1.length:Int)).bind λj=>
(ZAm j.2 30).bind λe=>
(atI a d).bind λm=>
if (Ya.drives m)=true then
if d=Wq ((a.length:Int)-(i.1.2.1.2.2.1.length:Int)) then
if (Ya.drives m)=true then
some (.inl (h,f,Wq (d+1),e.2.1,e.2.2.1,e.2.2.2.1,()))
else
(ZAm e.2 8).bind λc=>
if 0<c.1 then
Zp ((f.length+[(d,j.1,(Wq (b.1-(20:Int)),Wq (Wq (b.1-(20:Int))+e.1),()),((0:Int),(0:Int),()),())].length)*(48:Nat)<=(140737488355328:Nat))<|
some (.inl (h,f++[(d,j.1,(Wq (b.1-20),Wq (Wq (b.1-20)+e.1),()),((0:Int),(0:Int),()),())],Wq (d+1),c.2.1,c.2.2.1,c.2.2.2.1,()))
else
some (.inl (h,f,Wq (d+1),c.2.1,c.2.2.1,c.2.2.2.1,()))
else
(ZAm e.2 8).bind λc=>
if 0<c.1 then
(ZAm c.2 20).bind λg=>
(ZAm g.2 10).bind λl=>
Zp ((h.length+[(d,j.1,(Wq (b.1-(20:Int)),Wq (Wq (b.1-(20:Int))+e.1),()),(g.1,Wq (g.1+l.1),()),())].length)*(48:Nat)<=(140737488355328:Nat))<|
some (.inl (h++[(d,j.1,(Wq (b.1-20),Wq (Wq (b.1-20)+e.1),()),(g.1,Wq (g.1+l.1),()),())],f,Wq (d+1),l.2.1,l.2.2.1,l.2.2.2.1,()))
else
if (Ya.drives m)=true then
some (.inl (h,f,Wq (d+1),c.2.1,c.2.2.1,c.2.2.2.1,()))
else
(ZAm c.2 8).bind λg=>
if 0<g.1 then
Zp ((f.length+[(d,j.1,(Wq (b.1-(20:Int)),Wq (Wq (b.1-(20:Int))+e.1),()),((0:Int),(0:Int),()),())].length)*(48:Nat)<=(140737488355328:Nat))<|
some (.inl (h,f++[(d,j.1,(Wq (b.1-20),Wq (Wq (b.1-20)+e.1),()),((0:Int),(0:Int),()),())],Wq (d+1),g.2.1,g.2.2.1,g.2.2.2.1,()))
else
some (.inl (h,f,Wq (d+1),g.2.1,g.2.2.1,g.2.2.2.1,()))
else
if (Ya.drives m)=true then
some (.inl (h,f,Wq (d+1),e.2.1,e.2.2.1,e.2.2.2.1,()))
else
(ZAm e.2 8).bind λc=>
if 0<c.1 then
Zp ((f.length+[(d,j.1,(Wq (b.1-(20:Int)),Wq (Wq (b.1-(20:Int))+e.1),()),((0:Int),(0:Int),()),())].length)*(48:Nat)<=(140737488355328:Nat))<|
some (.inl (h,f++[(d,j.1,(Wq (b.1-20),Wq (Wq (b.1-20)+e.1),()),((0:Int),(0:Int),()),())],Wq (d+1),c.2.1,c.2.2.1,c.2.2.2.1,()))
else
some (.inl (h,f,Wq (d+1),c.2.1,c.2.2.1,c.2.2.2.1,()))
else
(ZAm (o,n,p,()) 3).bind λb=>
Zq (λv=>ZCM i a q h f v.1 v.2.1 v.2.2.1 v.2.2.2.1 v.2.2.2.2.1) (([]:List Ze),b.1,b.2.1,b.2.2.1,b.2.2.2.1,())
def ZCO (b:Zj×Zdd) (a:List Ya) (c:List Zc×Zdd) (f:Int) (h:List Int) (i j:Int) (e:List Zc):Option ((Int×(List Int)×Int×Int×(List Zc)×Unit) ⊕ (Zj×Zo×Zdd)):=
if f<(c.1.length:Int) then
(atI c.1 f).bind λd=>
if 0<f then
(ZAm (h,i,j,()) (a.length:Int)).bind λg=>
Zp ((([]:List (List UInt8×Int×Int×Int×Int×Int×Int×Bool×Int×Int×Int×Unit)).length+e.length)*(96:Nat)<=(140737488355328:Nat))<|
Zp (((([]:List (List UInt8×Int×Int×Int×Int×Int×Int×Bool×Int×Int×Int×Unit))++e).length+[(Zc.Name d,g.1,d.2.2)].length)*(96:Nat)<=(140737488355328:Nat))<|
some (.inl (Wq (f+1),g.2.1,g.2.2.1,g.2.2.2.1,([]:List (List UInt8×Int×Int×Int×Int×Int×Int×Bool×Int×Int×Int×Unit))++e++[(Zc.Name d,g.1,d.2.2)],()))
else
Zp ((([]:List (List UInt8×Int×Int×Int×Int×Int×Int×Bool×Int×Int×Int×Unit)).length+e.length)*(96:Nat)<=(140737488355328:Nat))<|
Zp (((([]:List (List UInt8×Int×Int×Int×Int×Int×Int×Bool×Int×Int×Int×Unit))++e).length+[(Zc.Name d,Wq ((a.length:Int)-(b.1.2.1.2.2.1.length:Int)),d.2.2)].length)*(96:Nat)<=(140737488355328:Nat))<|
some (.inl (Wq (f+1),h,i,j,([]:List (List UInt8×Int×Int×Int×Int×Int×Int×Bool×Int×Int×Int×Unit))++e++[(Zc.Name d,Wq ((a.length:Int)-(b.1.2.1.2.2.1.length:Int)),d.2.2)],()))
else
Zq (λv=>ZCN b a c e v.1 v.2.1 v.2.2.1 v.2.2.2.1 v.2.2.2.2.1 v.2.2.2.2.2.1) (([]:List (Int×Int×Yb×Yb×Unit)),([]:List (Int×Int×Yb×Yb×Unit)),Wq ((a.length:Int)-(b.1.2.1.2.2.1.length:Int)),h,i,j,())
def ZCP (d:Zj×Zdd) (b:List Ya) (l:List Zc) (n m:List Zh) (f:List Ze) (g:Int) (j:List Int) (i k:Int):Option (((List Ze)×Int×(List Int)×Int×Int×Unit) ⊕ (((List Zh)×(List Zh)×Int×(List Int)×Int×Int×Unit) ⊕ ((Int×(List Int)×Int×Int×(List Zc)×Unit) ⊕ (Zj×Zo×Zdd)))):=
if 0<g then
(ZAm (j,i,k,()) 4).bind λa=>
if Wq (1+a.1)=1 then
(ZAm a.2 2).bind λc=>
if c.1=0 then
(ZAm c.2 (b.length:Int)).bind λe=>
Zp ((f.length+[(Wq ((1:Int)+a.1),(0:Int),([]:List Int),([]:List Int),[e.1],())].length)*(88:Nat)<=(140737488355328:Nat))<|
some (.inl (f++[(Wq ((1:Int)+a.1),(0:Int),([]:List Int),([]:List Int),[e.1],())],Wq (g-1),e.2.1,e.2.2.1,e.2.2.2.1,()))
else
Zp ((f.length+[(Wq ((1:Int)+a.1),(0:Int),([]:List Int),([]:List Int),([]:List Int),())].length)*(88:Nat)<=(140737488355328:Nat))<|
some (.inl (f++[(Wq ((1:Int)+a.1),(0:Int),([]:List Int),([]:List Int),([]:List Int),())],Wq (g-1),c.2.1,c.2.2.1,c.2.2.2.1,()))
else
(ZAm a.2 9).bind λc=>
(ZAm c.2 2).bind λe=>
if e.1=0 then
(ZAm e.2 (b.length:Int)).bind λh=>
Zp ((f.length+[(Wq ((1:Int)+a.1),Wq ((1:Int)+c.1),([]:List Int),([]:List Int),[h.1],())].length)*(88:Nat)<=(140737488355328:Nat))<|
some (.inl (f++[(Wq ((1:Int)+a.1),Wq ((1:Int)+c.1),([]:List Int),([]:List Int),[h.1],())],Wq (g-1),h.2.1,h.2.2.1,h.2.2.2.1,()))
else
Zp ((f.length+[(Wq ((1:Int)+a.1),Wq ((1:Int)+c.1),([]:List Int),([]:List Int),([]:List Int),())].length)*(88:Nat)<=(140737488355328:Nat))<|
some (.inl (f++[(Wq ((1:Int)+a.1),Wq ((1:Int)+c.1),([]:List Int),([]:List Int),([]:List Int),())],Wq (g-1),e.2.1,e.2.2.1,e.2.2.2.1,()))
else
(ZAm (j,i,k,()) 2).bind λa=>
if a.1=0 then
some (.inr (.inr (.inr (d.1,(l,n,m,f,[([(116:UInt8),121,112],(1000:Int),(1000:Int),(1000:Int),(1000:Int),())]++[([(115:UInt8),108,111,119],(1100:Int),(1300:Int),(1000:Int),(1200:Int),())],()),a.2))))
else
some (.inr (.inr (.inr (d.1,(l,n,m,f,[([(116:UInt8),121,112],(1000:Int),(1000:Int),(1000:Int),(1000:Int),())],()),a.2))))
def ZCQ (i:Zj×Zdd) (a:List Ya) (k:Int×Zdd) (q:List Zc) (h f:List Zh) (d:Int) (o:List Int) (n p:Int):Option (((List Zh)×(List Zh)×Int×(List Int)×Int×Int×Unit) ⊕ ((Int×(List Int)×Int×Int×(List Zc)×Unit) ⊕ (Zj×Zo×Zdd))):=
if d<(a.length:Int) then
(ZAm (o,n,p,()) 60).bind λb=>
(ZAm b.2 (([([(109:UInt8),97,105,110],(0:Int),Wq ((100:Int)+k.1),(0:Int),(50:Int),(-1:Int),(1:Int),false,(0:Int),(0:Int),(0:Int),())].length):Int)).bind λj=>
(ZAm j.2 30).bind λe=>
(atI a d).bind λm=>
if (Ya.drives m)=true then
if d=Wq ((a.length:Int)-(i.1.2.1.2.2.1.length:Int)) then
if (Ya.drives m)=true then
some (.inl (h,f,Wq (d+1),e.2.1,e.2.2.1,e.2.2.2.1,()))
else
(ZAm e.2 8).bind λc=>
if 0<c.1 then
Zp ((f.length+[(d,j.1,(Wq (b.1-(20:Int)),Wq (Wq (b.1-(20:Int))+e.1),()),((0:Int),(0:Int),()),())].length)*(48:Nat)<=(140737488355328:Nat))<|
some (.inl (h,f++[(d,j.1,(Wq (b.1-20),Wq (Wq (b.1-20)+e.1),()),((0:Int),(0:Int),()),())],Wq (d+1),c.2.1,c.2.2.1,c.2.2.2.1,()))
else
some (.inl (h,f,Wq (d+1),c.2.1,c.2.2.1,c.2.2.2.1,()))
else
(ZAm e.2 8).bind λc=>
if 0<c.1 then
(ZAm c.2 20).bind λg=>
(ZAm g.2 10).bind λl=>
Zp ((h.length+[(d,j.1,(Wq (b.1-(20:Int)),Wq (Wq (b.1-(20:Int))+e.1),()),(g.1,Wq (g.1+l.1),()),())].length)*(48:Nat)<=(140737488355328:Nat))<|
some (.inl (h++[(d,j.1,(Wq (b.1-20),Wq (Wq (b.1-20)+e.1),()),(g.1,Wq (g.1+l.1),()),())],f,Wq (d+1),l.2.1,l.2.2.1,l.2.2.2.1,()))
else
if (Ya.drives m)=true then
some (.inl (h,f,Wq (d+1),c.2.1,c.2.2.1,c.2.2.2.1,()))
else
(ZAm c.2 8).bind λg=>
if 0<g.1 then
Zp ((f.length+[(d,j.1,(Wq (b.1-(20:Int)),Wq (Wq (b.1-(20:Int))+e.1),()),((0:Int),(0:Int),()),())].length)*(48:Nat)<=(140737488355328:Nat))<|
some (.inl (h,f++[(d,j.1,(Wq (b.1-20),Wq (Wq (b.1-20)+e.1),()),((0:Int),(0:Int),()),())],Wq (d+1),g.2.1,g.2.2.1,g.2.2.2.1,()))
else
some (.inl (h,f,Wq (d+1),g.2.1,g.2.2.1,g.2.2.2.1,()))
else
if (Ya.drives m)=true then
some (.inl (h,f,Wq (d+1),e.2.1,e.2.2.1,e.2.2.2.1,()))
else
(ZAm e.2 8).bind λc=>
if 0<c.1 then
Zp ((f.length+[(d,j.1,(Wq (b.1-(20:Int)),Wq (Wq (b.1-(20:Int))+e.1),()),((0:Int),(0:Int),()),())].length)*(48:Nat)<=(140737488355328:Nat))<|
some (.inl (h,f++[(d,j.1,(Wq (b.1-20),Wq (Wq (b.1-20)+e.1),()),((0:Int),(0:Int),()),())],Wq (d+1),c.2.1,c.2.2.1,c.2.2.2.1,()))
else
some (.inl (h,f,Wq (d+1),c.2.1,c.2.2.1,c.2.2.2.1,()))
else
(ZAm (o,n,p,()) 3).bind λb=>
Zq (λv=>ZCP i a q h f v.1 v.2.1 v.2.2.1 v.2.2.2.1 v.2.2.2.2.1) (([]:List Ze),b.1,b.2.1,b.2.2.1,b.2.2.2.1,())
def ZBU (b:Zj×Zdd) (a:List Ya) (c:Int×Zdd) (f:Int) (h:List Int) (i j:Int) (e:List Zc):Option ((Int×(List Int)×Int×Int×(List Zc)×Unit) ⊕ (Zj×Zo×Zdd)):=
if f<(([([(109:UInt8),97,105,110],(0:Int),Wq ((100:Int)+c.1),(0:Int),(50:Int),(-1:Int),(1:Int),false,(0:Int),(0:Int),(0:Int),())].length):Int) then
(atI ([([(109:UInt8),97,105,110],(0:Int),Wq ((100:Int)+c.1),(0:Int),(50:Int),(-1:Int),(1:Int),false,(0:Int),(0:Int),(0:Int),())]) f).bind λd=>
if 0<f then
(ZAm (h,i,j,()) (a.length:Int)).bind λg=>
Zp ((([]:List (List UInt8×Int×Int×Int×Int×Int×Int×Bool×Int×Int×Int×Unit)).length+e.length)*(96:Nat)<=(140737488355328:Nat))<|
Zp (((([]:List (List UInt8×Int×Int×Int×Int×Int×Int×Bool×Int×Int×Int×Unit))++e).length+[(d.1,g.1,d.2.2)].length)*(96:Nat)<=(140737488355328:Nat))<|
some (.inl (Wq (f+1),g.2.1,g.2.2.1,g.2.2.2.1,([]:List (List UInt8×Int×Int×Int×Int×Int×Int×Bool×Int×Int×Int×Unit))++e++[(d.1,g.1,d.2.2)],()))
else
Zp ((([]:List (List UInt8×Int×Int×Int×Int×Int×Int×Bool×Int×Int×Int×Unit)).length+e.length)*(96:Nat)<=(140737488355328:Nat))<|
Zp (((([]:List (List UInt8×Int×Int×Int×Int×Int×Int×Bool×Int×Int×Int×Unit))++e).length+[(d.1,Wq ((a.length:Int)-(b.1.2.1.2.2.1.length:Int)),d.2.2)].length)*(96:Nat)<=(140737488355328:Nat))<|
some (.inl (Wq (f+1),h,i,j,([]:List (List UInt8×Int×Int×Int×Int×Int×Int×Bool×Int×Int×Int×Unit))++e++[(d.1,Wq ((a.length:Int)-(b.1.2.1.2.2.1.length:Int)),d.2.2)],()))
else
Zq (λv=>ZCQ b a c e v.1 v.2.1 v.2.2.1 v.2.2.2.1 v.2.2.2.2.1 v.2.2.2.2.2.1) (([]:List (Int×Int×Yb×Yb×Unit)),([]:List (Int×Int×Yb×Yb×Unit)),Wq ((a.length:Int)-(b.1.2.1.2.2.1.length:Int)),h,i,j,())
def ZCR (d:Zj×Zdd) (b:List Ya) (l:List Zc) (n m:List Zh) (f:List Ze) (g:Int) (j:List Int) (i k:Int):Option (((List Ze)×Int×(List Int)×Int×Int×Unit) ⊕ (((List Zh)×(List Zh)×Int×(List Int)×Int×Int×Unit) ⊕ ((Int×(List Int)×Int×Int×(List Zc)×Unit) ⊕ (Zj×Zo×Zdd)))):=
if 0<g then
(ZAm (j,i,k,()) 4).bind λa=>
if Wq (1+a.1)=1 then
(ZAm a.2 2).bind λc=>
if c.1=0 then
(ZAm c.2 (b.length:Int)).bind λe=>
Zp ((f.length+[(Wq ((1:Int)+a.1),(0:Int),([]:List Int),([]:List Int),[e.1],())].length)*(88:Nat)<=(140737488355328:Nat))<|
some (.inl (f++[(Wq ((1:Int)+a.1),(0:Int),([]:List Int),([]:List Int),[e.1],())],Wq (g-1),e.2.1,e.2.2.1,e.2.2.2.1,()))
else
Zp ((f.length+[(Wq ((1:Int)+a.1),(0:Int),([]:List Int),([]:List Int),([]:List Int),())].length)*(88:Nat)<=(140737488355328:Nat))<|
some (.inl (f++[(Wq ((1:Int)+a.1),(0:Int),([]:List Int),([]:List Int),([]:List Int),())],Wq (g-1),c.2.1,c.2.2.1,c.2.2.2.1,()))
else
(ZAm a.2 9).bind λc=>
(ZAm c.2 2).bind λe=>
if e.1=0 then
(ZAm e.2 (b.length:Int)).bind λh=>
Zp ((f.length+[(Wq ((1:Int)+a.1),Wq ((1:Int)+c.1),([]:List Int),([]:List Int),[h.1],())].length)*(88:Nat)<=(140737488355328:Nat))<|
some (.inl (f++[(Wq ((1:Int)+a.1),Wq ((1:Int)+c.1),([]:List Int),([]:List Int),[h.1],())],Wq (g-1),h.2.1,h.2.2.1,h.2.2.2.1,()))
else
Zp ((f.length+[(Wq ((1:Int)+a.1),Wq ((1:Int)+c.1),([]:List Int),([]:List Int),([]:List Int),())].length)*(88:Nat)<=(140737488355328:Nat))<|
some (.inl (f++[(Wq ((1:Int)+a.1),Wq ((1:Int)+c.1),([]:List Int),([]:List Int),([]:List Int),())],Wq (g-1),e.2.1,e.2.2.1,e.2.2.2.1,()))
else
(ZAm (j,i,k,()) 2).bind λa=>
if a.1=0 then
some (.inr (.inr (.inr (d.1,(l,n,m,f,[([(116:UInt8),121,112],(1000:Int),(1000:Int),(1000:Int),(1000:Int),())]++[([(115:UInt8),108,111,119],(1100:Int),(1300:Int),(1000:Int),(1200:Int),())],()),a.2))))
else
some (.inr (.inr (.inr (d.1,(l,n,m,f,[([(116:UInt8),121,112],(1000:Int),(1000:Int),(1000:Int),(1000:Int),())],()),a.2))))
def ZCl (i:Zj×Zdd) (a:List Ya) (k:List Zc×Zdd) (q:List Zc) (h f:List Zh) (d:Int) (o:List Int) (n p:Int):Option (((List Zh)×(List Zh)×Int×(List Int)×Int×Int×Unit) ⊕ ((Int×(List Int)×Int×Int×(List Zc)×Unit) ⊕ (Zj×Zo×Zdd))):=
if d<(a.length:Int) then
(ZAm (o,n,p,()) 60).bind λb=>
(ZAm b.2 (k.1.length:Int)).bind λj=>
(ZAm j.2 30).bind λe=>
(atI a d).bind λm=>
if (Ya.drives m)=true then
if d=Wq ((a.length:Int)-(i.1.2.1.2.2.1.length:Int)) then
if (Ya.drives m)=true then
some (.inl (h,f,Wq (d+1),e.2.1,e.2.2.1,e.2.2.2.1,()))
else
(ZAm e.2 8).bind λc=>
if 0<c.1 then
Zp ((f.length+[(d,j.1,(Wq (b.1-(20:Int)),Wq (Wq (b.1-(20:Int))+e.1),()),((0:Int),(0:Int),()),())].length)*(48:Nat)<=(140737488355328:Nat))<|
some (.inl (h,f++[(d,j.1,(Wq (b.1-20),Wq (Wq (b.1-20)+e.1),()),((0:Int),(0:Int),()),())],Wq (d+1),c.2.1,c.2.2.1,c.2.2.2.1,()))
else
some (.inl (h,f,Wq (d+1),c.2.1,c.2.2.1,c.2.2.2.1,()))
else
(ZAm e.2 8).bind λc=>
if 0<c.1 then
(ZAm c.2 20).bind λg=>
(ZAm g.2 10).bind λl=>
Zp ((h.length+[(d,j.1,(Wq (b.1-(20:Int)),Wq (Wq (b.1-(20:Int))+e.1),()),(g.1,Wq (g.1+l.1),()),())].length)*(48:Nat)<=(140737488355328:Nat))<|
some (.inl (h++[(d,j.1,(Wq (b.1-20),Wq (Wq (b.1-20)+e.1),()),(g.1,Wq (g.1+l.1),()),())],f,Wq (d+1),l.2.1,l.2.2.1,l.2.2.2.1,()))
else
if (Ya.drives m)=true then
some (.inl (h,f,Wq (d+1),c.2.1,c.2.2.1,c.2.2.2.1,()))
else
(ZAm c.2 8).bind λg=>
if 0<g.1 then
Zp ((f.length+[(d,j.1,(Wq (b.1-(20:Int)),Wq (Wq (b.1-(20:Int))+e.1),()),((0:Int),(0:Int),()),())].length)*(48:Nat)<=(140737488355328:Nat))<|
some (.inl (h,f++[(d,j.1,(Wq (b.1-20),Wq (Wq (b.1-20)+e.1),()),((0:Int),(0:Int),()),())],Wq (d+1),g.2.1,g.2.2.1,g.2.2.2.1,()))
else
some (.inl (h,f,Wq (d+1),g.2.1,g.2.2.1,g.2.2.2.1,()))
else
if (Ya.drives m)=true then
some (.inl (h,f,Wq (d+1),e.2.1,e.2.2.1,e.2.2.2.1,()))
else
(ZAm e.2 8).bind λc=>
if 0<c.1 then
Zp ((f.length+[(d,j.1,(Wq (b.1-(20:Int)),Wq (Wq (b.1-(20:Int))+e.1),()),((0:Int),(0:Int),()),())].length)*(48:Nat)<=(140737488355328:Nat))<|
some (.inl (h,f++[(d,j.1,(Wq (b.1-20),Wq (Wq (b.1-20)+e.1),()),((0:Int),(0:Int),()),())],Wq (d+1),c.2.1,c.2.2.1,c.2.2.2.1,()))
else
some (.inl (h,f,Wq (d+1),c.2.1,c.2.2.1,c.2.2.2.1,()))
else
(ZAm (o,n,p,()) 3).bind λb=>
Zq (λv=>ZCR i a q h f v.1 v.2.1 v.2.2.1 v.2.2.2.1 v.2.2.2.2.1) (([]:List Ze),b.1,b.2.1,b.2.2.1,b.2.2.2.1,())
def ZCm (b:Zj×Zdd) (a:List Ya) (c:List Zc×Zdd) (f:Int) (h:List Int) (i j:Int) (e:List Zc):Option ((Int×(List Int)×Int×Int×(List Zc)×Unit) ⊕ (Zj×Zo×Zdd)):=
if f<(c.1.length:Int) then
(atI c.1 f).bind λd=>
if 0<f then
(ZAm (h,i,j,()) (a.length:Int)).bind λg=>
Zp ((([]:List (List UInt8×Int×Int×Int×Int×Int×Int×Bool×Int×Int×Int×Unit)).length+e.length)*(96:Nat)<=(140737488355328:Nat))<|
Zp (((([]:List (List UInt8×Int×Int×Int×Int×Int×Int×Bool×Int×Int×Int×Unit))++e).length+[(Zc.Name d,g.1,d.2.2)].length)*(96:Nat)<=(140737488355328:Nat))<|
some (.inl (Wq (f+1),g.2.1,g.2.2.1,g.2.2.2.1,([]:List (List UInt8×Int×Int×Int×Int×Int×Int×Bool×Int×Int×Int×Unit))++e++[(Zc.Name d,g.1,d.2.2)],()))
else
Zp ((([]:List (List UInt8×Int×Int×Int×Int×Int×Int×Bool×Int×Int×Int×Unit)).length+e.length)*(96:Nat)<=(140737488355328:Nat))<|
Zp (((([]:List (List UInt8×Int×Int×Int×Int×Int×Int×Bool×Int×Int×Int×Unit))++e).length+[(Zc.Name d,Wq ((a.length:Int)-(b.1.2.1.2.2.1.length:Int)),d.2.2)].length)*(96:Nat)<=(140737488355328:Nat))<|
some (.inl (Wq (f+1),h,i,j,([]:List (List UInt8×Int×Int×Int×Int×Int×Int×Bool×Int×Int×Int×Unit))++e++[(Zc.Name d,Wq ((a.length:Int)-(b.1.2.1.2.2.1.length:Int)),d.2.2)],()))
else
Zq (λv=>ZCl b a c e v.1 v.2.1 v.2.2.1 v.2.2.2.1 v.2.2.2.2.1 v.2.2.2.2.2.1) (([]:List (Int×Int×Yb×Yb×Unit)),([]:List (Int×Int×Yb×Yb×Unit)),Wq ((a.length:Int)-(b.1.2.1.2.2.1.length:Int)),h,i,j,())
def ZD6 (h:Zdd):Option (Zj×Zo×Zdd):=
(ZD4 h 4 false).bind λd=>
(ZAm d.2 6).bind λf=>
if f.1=0 then
(ZD4 f.2 5 true).bind λe=>
(X3 e.1.2.1).bind λc=>
(ZD5 e.2).bind λb=>
if (b.1.length:Int)=0 then
(ZAm b.2 400).bind λa=>
Zq (λv=>ZBT e c a v.1 v.2.1 v.2.2.1 v.2.2.2.1 v.2.2.2.2.1) ((0:Int),a.2.1,a.2.2.1,a.2.2.2.1,([]:List Zc),())
else
(Zc4 b.1).bind λg=>
if g then
Zq (λv=>ZCO e c b v.1 v.2.1 v.2.2.1 v.2.2.2.1 v.2.2.2.2.1) ((0:Int),b.2.1,b.2.2.1,b.2.2.2.1,([]:List Zc),())
else
(ZAm b.2 400).bind λa=>
Zq (λv=>ZBT e c a v.1 v.2.1 v.2.2.1 v.2.2.2.1 v.2.2.2.2.1) ((0:Int),a.2.1,a.2.2.1,a.2.2.2.1,([]:List Zc),())
else
(X3 d.1.2.1).bind λc=>
(ZD5 f.2).bind λb=>
if (b.1.length:Int)=0 then
(ZAm b.2 400).bind λa=>
Zq (λv=>ZBU d c a v.1 v.2.1 v.2.2.1 v.2.2.2.1 v.2.2.2.2.1) ((0:Int),a.2.1,a.2.2.1,a.2.2.2.1,([]:List Zc),())
else
(Zc4 b.1).bind λg=>
if g then
Zq (λv=>ZCm d c b v.1 v.2.1 v.2.2.1 v.2.2.2.1 v.2.2.2.2.1) ((0:Int),b.2.1,b.2.2.1,b.2.2.2.1,([]:List Zc),())
else
(ZAm b.2 400).bind λa=>
Zq (λv=>ZBU d c a v.1 v.2.1 v.2.2.1 v.2.2.2.1 v.2.2.2.2.1) ((0:Int),a.2.1,a.2.2.1,a.2.2.2.1,([]:List Zc),())
def c26:Ctr:=⟨[.io (.flat (ZqI))],[.own (ZuH),.own (ZuI)],λa K=>ZT a λb a=>QN (ZD6 b) λr=>K (r.1,r.2.1,()) (r.2.2,())⟩
def Qc (d:Zk) (c a:Int) (b:Yv) (e:Int):Option ((Int×Unit) ⊕ ((Int×Int×Unit) ⊕ (Int×Bool))):=
if e<a then
(atI (Zk.Yz d) e).bind λf=>
if Yv.Name f=Yv.Name b then
some (.inr (.inr (0,false)))
else
some (.inl (Wq (e+1),()))
else
(VA (Yv.Name b)).bind λh=>
if h then
(ZN (Yv.Cap b) 0 500).bind λg=>
if g then
if a=Wq (((Zk.Yz d).length:Int)-1) then
if Yv.Dir b=2 then
if Yv.Cap b=0 then
if (Yv.Clock b)=true then
some (.inr (.inr (0,false)))
else
if a<Wq (((Zk.Yz d).length:Int)-1) then
if Yv.Dir b=1 then
if (Yv.Clock b)=true then
some (.inr (.inl (Wq (c+1),Wq (a+1),())))
else
some (.inr (.inl (c,Wq (a+1),())))
else
some (.inr (.inr (0,false)))
else
if (Yv.Clock b)=true then
some (.inr (.inl (Wq (c+1),Wq (a+1),())))
else
some (.inr (.inl (c,Wq (a+1),())))
else
some (.inr (.inr (0,false)))
else
some (.inr (.inr (0,false)))
else
if a<Wq (((Zk.Yz d).length:Int)-1) then
if Yv.Dir b=1 then
if (Yv.Clock b)=true then
some (.inr (.inl (Wq (c+1),Wq (a+1),())))
else
some (.inr (.inl (c,Wq (a+1),())))
else
some (.inr (.inr (0,false)))
else
if (Yv.Clock b)=true then
some (.inr (.inl (Wq (c+1),Wq (a+1),())))
else
some (.inr (.inl (c,Wq (a+1),())))
else
some (.inr (.inr (0,false)))
else
some (.inr (.inr (0,false)))
def Va (a:Zk) (c b:Int):Option ((Int×Int×Unit) ⊕ (Int×Bool)):=
if b<((Zk.Yz a).length:Int) then
(atI (Zk.Yz a) b).bind λd=>
Zq (λv=>Qc a c b d v.1) ((0:Int),())
else
some (.inr (c,true))
def Zeq (a:Zk):Option (Int×Bool):=
if ((Zk.Yz a).length:Int)<2 then
some (0,false)
else
if 5<((Zk.Yz a).length:Int) then
some (0,false)
else
Zq (λv=>Va a v.1 v.2.1) ((0:Int),(0:Int),())
def c27:Ctr:=⟨[.dat (V6)],[.dat Iq,.dat (.bool)],λa K=>ZT a λb a=>QN (Zeq b) λr=>K (r.1,r.2,()) ()⟩
def ZbG (a:List Int) (b:Int):Option ((Int×Unit) ⊕ Bool):=
if b<(a.length:Int) then
(atI a b).bind λc=>
(ZN c 0 100000).bind λe=>
if e then
if 0<b then
(atI a (Wq (b-1))).bind λd=>
if c<=d then
some (.inr false)
else
some (.inl (Wq (b+1),()))
else
some (.inl (Wq (b+1),()))
else
some (.inr false)
else
if 1<=(a.length:Int) then
some (.inr (decide ((a.length:Int)<=4)))
else
some (.inr false)
def ZcE (a:List Int):Option Bool:=
Zq (λv=>ZbG a v.1) ((0:Int),())
def c28:Ctr:=D1 (.sl Iq) (.bool) ZcE
def ZbF (b:Zy) (a:Int):Option ((Int×Unit) ⊕ Bool):=
if a<((Zy.Values b).length:Int) then
(atI (Zy.Values b) a).bind λc=>
(ZN c (-1000000) 1000000).bind λd=>
if d then
some (.inl (Wq (a+1),()))
else
some (.inr false)
else
some (.inr true)
def Zep (a:Zy):Option Bool:=
(ZcE (Zy.ZgK a)).bind λc=>
if c then
(ZcE (Zy.Loads a)).bind λb=>
if b then
if ((Zy.Values a).length:Int)=Wq (((Zy.ZgK a).length:Int)*((Zy.Loads a).length:Int)) then
Zq (λv=>ZbF a v.1) ((0:Int),())
else
some false
else
some false
else
some false
def c29:Ctr:=D1 (XF) (.bool) Zep
def QJ (c:Zy) (a d e:Int):Option ((Int×Int×Int×Unit) ⊕ (Yb×Int)):=
if a<((Zy.Values c).length:Int) then
(atI (Zy.Values c) a).bind λb=>
some (.inl (Wq (a+1),Min.min d b,Max.max e b,()))
else
some (.inr ((d,e,()),0))
def ZaE (a:Zy):Option (Yb×Int):=
(Zep a).bind λc=>
if c then
(atI (Zy.Values a) 0).bind λb=>
Zq (λv=>QJ a v.1 v.2.1 v.2.2.1) ((1:Int),b,b,())
else
some ((0,0,()),1)
def c30:Ctr:=⟨[.dat (XF)],[.dat (Zj1),.dat Iq],λa K=>ZT a λb a=>QN (ZaE b) λr=>K (r.1,r.2,()) ()⟩
def Zam (c:List Zy) (a:Bool) (b:Int):Option ((Int×Unit) ⊕ Bool):=
if b<2 then
(atI c b).bind λe=>
(ZaE e).bind λd=>
if d.2=0 then
if a then
if d.1.1<0 then
some (.inr false)
else
some (.inl (Wq (b+1),()))
else
some (.inl (Wq (b+1),()))
else
some (.inr false)
else
some (.inr true)
def Yo (b:List Zy) (a:Bool):Option Bool:=
if (b.length:Int)=2 then
Zq (λv=>Zam b a v.1) ((0:Int),())
else
some false
def c31:Ctr:=D2 (.sl (XF)) (.bool) (.bool) Yo
def Zfu (b:Zk) (a:ZC):Option Bool:=
(ZN (ZC.From a) 0 (Wq (Wq (((Zk.Yz b).length:Int)-1)-1))).bind λh=>
if h then
(ZN (ZC.To a) 0 (Wq (((Zk.Yz b).length:Int)-1))).bind λg=>
if g then
(atI (Zk.Yz b) (ZC.From a)).bind λe=>
if ZC.Kind a=1 then
if (Yv.Clock e)=true then
some false
else
if ZC.To a=Wq (((Zk.Yz b).length:Int)-1) then
(ZN (ZC.Za7 a) 1 3).bind λi=>
if i then
(Yo (ZC.Delay a) true).bind λc=>
if c then
(Yo (ZC.Za2 a) true).bind λf=>
some f
else
some false
else
some false
else
some false
else
if ZC.Kind a=2 then
if ZC.Kind a=2 then
if (Yv.Clock e)=true then
if ZC.To a=Wq (((Zk.Yz b).length:Int)-1) then
if ZC.Za7 a=0 then
(Yo (ZC.Delay a) true).bind λc=>
if c then
(Yo (ZC.Za2 a) true).bind λf=>
some f
else
some false
else
some false
else
some false
else
some false
else
if ZC.Kind a=4 then
if ZC.Kind a=4 then
if (Yv.Clock e)=true then
if ZC.To a<Wq (((Zk.Yz b).length:Int)-1) then
(atI (Zk.Yz b) (ZC.To a)).bind λd=>
if (Yv.Clock d)=true then
some false
else
if ZC.Za7 a=0 then
(Yo (ZC.Delay a) false).bind λc=>
if c then
some (decide (((ZC.Za2 a).length:Int)=0))
else
some false
else
some false
else
some false
else
some false
else
some false
else
if ZC.Kind a=5 then
if (Yv.Clock e)=true then
if ZC.To a<Wq (((Zk.Yz b).length:Int)-1) then
(atI (Zk.Yz b) (ZC.To a)).bind λd=>
if (Yv.Clock d)=true then
some false
else
if ZC.Za7 a=0 then
(Yo (ZC.Delay a) false).bind λc=>
if c then
some (decide (((ZC.Za2 a).length:Int)=0))
else
some false
else
some false
else
some false
else
some false
else
some false
else
if ZC.Kind a=3 then
if (Yv.Clock e)=true then
if ZC.To a=Wq (((Zk.Yz b).length:Int)-1) then
if ZC.Za7 a=0 then
(Yo (ZC.Delay a) true).bind λc=>
if c then
(Yo (ZC.Za2 a) true).bind λf=>
some f
else
some false
else
some false
else
some false
else
some false
else
if ZC.Kind a=4 then
if ZC.Kind a=4 then
if (Yv.Clock e)=true then
if ZC.To a<Wq (((Zk.Yz b).length:Int)-1) then
(atI (Zk.Yz b) (ZC.To a)).bind λd=>
if (Yv.Clock d)=true then
some false
else
if ZC.Za7 a=0 then
(Yo (ZC.Delay a) false).bind λc=>
if c then
some (decide (((ZC.Za2 a).length:Int)=0))
else
some false
else
some false
else
some false
else
some false
else
some false
else
if ZC.Kind a=5 then
if (Yv.Clock e)=true then
if ZC.To a<Wq (((Zk.Yz b).length:Int)-1) then
(atI (Zk.Yz b) (ZC.To a)).bind λd=>
if (Yv.Clock d)=true then
some false
else
if ZC.Za7 a=0 then
(Yo (ZC.Delay a) false).bind λc=>
if c then
some (decide (((ZC.Za2 a).length:Int)=0))
else
some false
else
some false
else
some false
else
some false
else
some false
else
some false
else
some false
def c32:Ctr:=D2 (V6) (Zgv) (.bool) Zfu
def VO (c:Zk) (b:Int) (a:List Int):Option ((Int×(List Int)×Unit) ⊕ List Int):=
if b<((Zk.JR c).length:Int) then
(atI (Zk.JR c) b).bind λd=>
(atI a (ZC.Kind d)).bind λe=>
some (.inl (Wq (b+1),List.set a (Int.toNat (ZC.Kind d)) (Wq (e+1)),()))
else
some (.inr a)
def Zc6 (a:Zk):Option (List Int):=
Zq (λv=>VO a v.1 v.2.1) ((0:Int),List.replicate (Int.toNat (6:Int)) (0:Int),())
def c33:Ctr:=⟨[.dat (V6)],[.own (.ol 2 (.flat Iq))],λa K=>ZT a λb a=>QN (Zc6 b) λr=>K (r,()) ()⟩
def J9 (e:Zk) (d:Int) (c:ZC) (a:Int):Option ((Int×Unit) ⊕ ((Int×Unit) ⊕ Bool)):=
if a<d then
(atI (Zk.JR e) a).bind λb=>
if ZC.Kind b=ZC.Kind c then
if ZC.From b=ZC.From c then
if ZC.To b=ZC.To c then
some (.inr (.inr false))
else
some (.inl (Wq (a+1),()))
else
some (.inl (Wq (a+1),()))
else
some (.inl (Wq (a+1),()))
else
some (.inr (.inl (Wq (d+1),())))
def Zaa (b:Zk) (a:Int×Bool) (c:Int):Option ((Int×Unit) ⊕ ((Int×Unit) ⊕ Bool)):=
if c<((Zk.Truth b).length:Int) then
(atI (Zk.Truth b) c).bind λe=>
(ZN e 0 1).bind λd=>
if d then
some (.inl (Wq (c+1),()))
else
some (.inr (.inr false))
else
if a.1=0 then
Zp ((0:Int)<=IntKind.wrap IntKind.u64 (Wq (((Zk.Yz b).length:Int)-(1:Int))))<|
some (.inr (.inr (decide (((Zk.Truth b).length:Int)=Wq (1*2 ^ Min.min (Int.toNat (IntKind.wrap IntKind.u64 (Wq (((Zk.Yz b).length:Int)-1)))) (IntKind.bits IntKind.i64))))))
else
some (.inr (.inr false))
def Zb2 (b:Zk) (a:Int×Bool) (f:Int):Option ((Int×Unit) ⊕ Bool):=
if f<((Zk.JR b).length:Int) then
(atI (Zk.JR b) f).bind λd=>
(Zfu b d).bind λh=>
if h then
Zq (λv=>J9 b f d v.1) ((0:Int),())
else
some (.inr false)
else
(Zc6 b).bind λc=>
if Zk.Kind b=1 then
Zq (λv=>Zaa b a v.1) ((0:Int),())
else
if Zk.Kind b=2 then
if a.1=1 then
(atI c 1).bind λd=>
if d=0 then
(atI c 2).bind λe=>
(atI c 3).bind λg=>
if (decide (0<e) == decide (0<g))=true then
some (.inr false)
else
some (.inr (decide (((Zk.Truth b).length:Int)=0)))
else
some (.inr false)
else
some (.inr false)
else
if Zk.Kind b=3 then
if a.1=1 then
(atI c 1).bind λd=>
if 0<d then
(atI c 2).bind λe=>
if 0<e then
(atI c 3).bind λg=>
if g=0 then
some (.inr (decide (((Zk.Truth b).length:Int)=0)))
else
some (.inr false)
else
some (.inr false)
else
some (.inr false)
else
some (.inr false)
else
some (.inr false)
def Zfs (a:Zk):Option Bool:=
(Zeq a).bind λb=>
if b.2 then
(VA (Zk.Name a)).bind λc=>
if c then
if 8<((Zk.JR a).length:Int) then
some false
else
(ZN (Zk.Zsl a) 0 100000).bind λe=>
if e then
(ZN (Zk.Zhn a) 0 100000).bind λd=>
if d then
Zq (λv=>Zb2 a b v.1) ((0:Int),())
else
some false
else
some false
else
some false
else
some false
def c34:Ctr:=D1 (V6) (.bool) Zfs
def Zak (d:Zt) (b:Int) (e:Zk) (a:Int):Option ((Int×Unit) ⊕ ((Int×Unit) ⊕ Bool)):=
if a<b then
(atI (Zt.Cells d) a).bind λc=>
if Zk.Name c=Zk.Name e then
some (.inr (.inr false))
else
some (.inl (Wq (a+1),()))
else
some (.inr (.inl (Wq (b+1),())))
def Zal (a:Zt) (b:Int):Option ((Int×Unit) ⊕ Bool):=
if b<((Zt.Cells a).length:Int) then
(atI (Zt.Cells a) b).bind λc=>
(Zfs c).bind λd=>
if d then
Zq (λv=>Zak a b c v.1) ((0:Int),())
else
some (.inr false)
else
some (.inr (decide (((Zt.Cells a).length:Int)<=8)))
def Zco (a:Zt):Option Bool:=
Zq (λv=>Zal a v.1) ((0:Int),())
def c35:Ctr:=D1 (YR) (.bool) Zco
def ZaX (f:Zg) (e:Int) (b:Zl) (a:Int):Option ((Int×Unit) ⊕ ((Int×Unit) ⊕ Bool)):=
if a<((Zl.X7 b).length:Int) then
(atI (Zl.X7 b) a).bind λc=>
(ZN c 0 (Wq (((Zg.X7 f).length:Int)-1))).bind λd=>
if d then
some (.inl (Wq (a+1),()))
else
some (.inr (.inr false))
else
some (.inr (.inl (Wq (e+1),())))
def ZaY (b:Zg) (a:Int):Option ((Int×Unit) ⊕ ((Int×Unit) ⊕ Bool)):=
if a<((Zg.Xb b).length:Int) then
(atI (Zg.Xb b) a).bind λc=>
(ZN (Ye.Dir c) 1 2).bind λe=>
if e then
(ZN (Ye.Net c) 0 (Wq (((Zg.X7 b).length:Int)-1))).bind λd=>
if d then
some (.inl (Wq (a+1),()))
else
some (.inr (.inr false))
else
some (.inr (.inr false))
else
some (.inr (.inr true))
def ZaZ (d:Zt) (a:Zg) (c:Int):Option ((Int×Unit) ⊕ Bool):=
if c<((Zg.Instances a).length:Int) then
(atI (Zg.Instances a) c).bind λb=>
(ZN (Zl.Cell b) 0 (Wq (((Zt.Cells d).length:Int)-1))).bind λf=>
if f then
(atI (Zt.Cells d) (Zl.Cell b)).bind λe=>
if ((Zl.X7 b).length:Int)=((Zk.Yz e).length:Int) then
Zq (λv=>ZaX a c b v.1) ((0:Int),())
else
some (.inr false)
else
some (.inr false)
else
Zq (λv=>ZaY a v.1) ((0:Int),())
def Zc7 (b:Zt) (a:Zg):Option Bool:=
Zq (λv=>ZaZ b a v.1) ((0:Int),())
def c36:Ctr:=D2 (YR) (YU) (.bool) Zc7
def ZaV (a:List (List UInt8)) (c:Int) (e:List UInt8) (b:Int):Option ((Int×Unit) ⊕ ((Int×Unit) ⊕ Bool)):=
if b<c then
(atI a b).bind λd=>
if d=e then
some (.inr (.inr false))
else
some (.inl (Wq (b+1),()))
else
some (.inr (.inl (Wq (c+1),())))
def ZaW (a:List (List UInt8)) (b:Int):Option ((Int×Unit) ⊕ Bool):=
if b<(a.length:Int) then
(atI a b).bind λc=>
(VA c).bind λd=>
if d then
Zq (λv=>ZaV a b c v.1) ((0:Int),())
else
some (.inr false)
else
some (.inr true)
def Zab (a:List (List UInt8)):Option Bool:=
Zq (λv=>ZaW a v.1) ((0:Int),())
def c37:Ctr:=D1 (.sl (.str)) (.bool) Zab
def ZaR (b:List Int) (a:Int):Option ((Int×Unit) ⊕ ((Int×(List Int)×Unit) ⊕ ((Int×(List Int)×Unit) ⊕ (((List (List UInt8))×Int×Unit) ⊕ (((List (List UInt8))×Int×Unit) ⊕ Bool))))):=
if a<(b.length:Int) then
(atI b a).bind λc=>
if c=1 then
some (.inl (Wq (a+1),()))
else
some (.inr (.inr (.inr (.inr (.inr false)))))
else
some (.inr (.inr (.inr (.inr (.inr true)))))
def VL (d:Zg) (a:Int) (b:List Int):Option ((Int×(List Int)×Unit) ⊕ ((Int×(List Int)×Unit) ⊕ (((List (List UInt8))×Int×Unit) ⊕ (((List (List UInt8))×Int×Unit) ⊕ Bool)))):=
if a<((Zg.Xb d).length:Int) then
(atI (Zg.Xb d) a).bind λc=>
if Ye.Dir c=1 then
(atI b (Ye.Net c)).bind λe=>
some (.inl (Wq (a+1),List.set b (Int.toNat (Ye.Net c)) (Wq (e+1)),()))
else
some (.inl (Wq (a+1),b,()))
else
Zq (λv=>ZaR b v.1) ((0:Int),())
def VN (b:Zg) (c:Int) (a:List Int):Option ((Int×(List Int)×Unit) ⊕ (((List (List UInt8))×Int×Unit) ⊕ (((List (List UInt8))×Int×Unit) ⊕ Bool))):=
if c<((Zg.Instances b).length:Int) then
(atI (Zg.Instances b) c).bind λe=>
(atI (Zl.X7 e) (Wq (((Zl.X7 e).length:Int)-1))).bind λd=>
(atI a d).bind λf=>
some (.inl (Wq (c+1),List.set a (Int.toNat d) (Wq (f+1)),()))
else
Zq (λv=>VL b v.1 v.2.1) ((0:Int),a,())
def ZaS (a:Zg) (f b:List (List UInt8)) (c:Int):Option (((List (List UInt8))×Int×Unit) ⊕ (((List (List UInt8))×Int×Unit) ⊕ Bool)):=
if c<((Zg.Xb a).length:Int) then
(atI (Zg.Xb a) c).bind λd=>
Zp ((b.length+[Ye.Name d].length)*(16:Nat)<=(140737488355328:Nat))<|
some (.inl (b++[Ye.Name d],Wq (c+1),()))
else
(Zab f).bind λg=>
if g then
(Zab b).bind λe=>
if e then
(Zab (Zg.X7 a)).bind λh=>
if h then
Zp ((0:Int)<=((Zg.X7 a).length:Int))<|
Zp (((Zg.X7 a).length:Int)<=((Zg.X7 a).length:Int))<|
Zp (((Zg.X7 a).length:Int)<=(4611686018427387904:Int))<|
Zp (((8:Nat):Int)*((Zg.X7 a).length:Int)<=(281474976710656:Int))<|
Zq (λv=>VN a v.1 v.2.1) ((0:Int),List.replicate (Int.toNat ((Zg.X7 a).length:Int)) (0:Int),())
else
some (.inr (.inr false))
else
some (.inr (.inr false))
else
some (.inr (.inr false))
def ZaT (c:Zg) (b:List (List UInt8)) (a:Int):Option (((List (List UInt8))×Int×Unit) ⊕ Bool):=
if a<((Zg.Instances c).length:Int) then
(atI (Zg.Instances c) a).bind λd=>
Zp ((b.length+[Zl.Name d].length)*(16:Nat)<=(140737488355328:Nat))<|
some (.inl (b++[Zl.Name d],Wq (a+1),()))
else
Zq (λv=>ZaS c b v.1 v.2.1) (([]:List (List UInt8)),(0:Int),())
def ZbC (b:Zt) (a:Zg):Option Bool:=
(Zco b).bind λd=>
if d then
if 14<((Zg.Instances a).length:Int) then
some false
else
if 30<((Zg.X7 a).length:Int) then
some false
else
if 8<((Zg.Xb a).length:Int) then
some false
else
(Zc7 b a).bind λc=>
if c then
Zq (λv=>ZaT a v.1 v.2.1) (([]:List (List UInt8)),(0:Int),())
else
some false
else
some false
def c38:Ctr:=D2 (YR) (YU) (.bool) ZbC
def Zb3 (b:Zx) (a:Int):Option ((Int×Unit) ⊕ ((Int×Unit) ⊕ Bool)):=
if a<((Zx.Zjo b).length:Int) then
(atI (Zx.Zjo b) a).bind λc=>
(ZN c 0 (Wq (((Zx.Parent b).length:Int)-1))).bind λd=>
if d then
some (.inl (Wq (a+1),()))
else
some (.inr (.inr false))
else
some (.inr (.inr true))
def Zb4 (b:Zx) (a:Int):Option ((Int×Unit) ⊕ Bool):=
if a<((Zx.Parent b).length:Int) then
(atI (Zx.Cap b) a).bind λh=>
(ZN h 0 500).bind λg=>
if g then
(atI (Zx.Res b) a).bind λe=>
(ZN e 0 1000).bind λf=>
if f then
if a=0 then
(atI (Zx.Parent b) a).bind λc=>
if c=(-1) then
if e=0 then
if 0<a then
(ZN c 0 (Wq (a-1))).bind λd=>
if d then
some (.inl (Wq (a+1),()))
else
some (.inr false)
else
some (.inl (Wq (a+1),()))
else
some (.inr false)
else
some (.inr false)
else
if 0<a then
(atI (Zx.Parent b) a).bind λc=>
(ZN c 0 (Wq (a-1))).bind λd=>
if d then
some (.inl (Wq (a+1),()))
else
some (.inr false)
else
some (.inl (Wq (a+1),()))
else
some (.inr false)
else
some (.inr false)
else
Zq (λv=>Zb3 b v.1) ((0:Int),())
def Zft (a:Zx) (b:Int):Option Bool:=
if ((Zx.Parent a).length:Int)<1 then
some false
else
if 8<((Zx.Parent a).length:Int) then
some false
else
if ((Zx.Res a).length:Int)=((Zx.Parent a).length:Int) then
if ((Zx.Cap a).length:Int)=((Zx.Parent a).length:Int) then
if ((Zx.Zjo a).length:Int)=b then
Zq (λv=>Zb4 a v.1) ((0:Int),())
else
some false
else
some false
else
some false
def c39:Ctr:=D2 (Za9) Iq (.bool) Zft
def ZbB (b:Zj) (a:Int):Option ((Int×Unit) ⊕ Bool):=
if a<((Zj.Qg b).length:Int) then
(atI (Zj.Qg b) a).bind λe=>
(Zc8 (Zj.Design b) a).bind λd=>
(Zft e (d.length:Int)).bind λc=>
if c then
some (.inl (Wq (a+1),()))
else
some (.inr false)
else
some (.inr true)
def ZcD (a:Zj):Option Bool:=
(ZbC (Zj.Library a) (Zj.Design a)).bind λb=>
if b then
if ((Zj.Qg a).length:Int)=((Zg.X7 (Zj.Design a)).length:Int) then
Zq (λv=>ZbB a v.1) ((0:Int),())
else
some false
else
some false
def c40:Ctr:=D1 (Xz) (.bool) ZcD
def ZaQ (a:Zm) (b:Int):Option ((Int×Unit) ⊕ Bool):=
if b<(([Zm.Xq a,Zm.Qn a,Zm.XK a,Zm.QG a].length):Int) then
(atI ([Zm.Xq a,Zm.Qn a,Zm.XK a,Zm.QG a]) b).bind λe=>
(ZN e 100 5000).bind λd=>
if d then
some (.inl (Wq (b+1),()))
else
some (.inr false)
else
(VA (Zm.Name a)).bind λc=>
if c then
if Zm.Xq a<=Zm.Qn a then
some (.inr (decide (Zm.XK a<=Zm.QG a)))
else
some (.inr false)
else
some (.inr false)
def Zc5 (a:Zm):Option Bool:=
Zq (λv=>ZaQ a v.1) ((0:Int),())
def c41:Ctr:=D1 (Y6) (.bool) Zc5
def JM (a:List Zm) (c:Int) (e:Zm) (b:Int):Option ((Int×Unit) ⊕ ((Int×Unit) ⊕ Bool)):=
if b<c then
(atI a b).bind λd=>
if Zm.Name d=Zm.Name e then
some (.inr (.inr false))
else
some (.inl (Wq (b+1),()))
else
some (.inr (.inl (Wq (c+1),())))
def JN (a:List Zm) (b:Int):Option ((Int×Unit) ⊕ Bool):=
if b<(a.length:Int) then
(atI a b).bind λc=>
(Zc5 c).bind λd=>
if d then
Zq (λv=>JM a b c v.1) ((0:Int),())
else
some (.inr false)
else
some (.inr (decide ((a.length:Int)<=4)))
def ZbK (a:List Zm):Option Bool:=
Zq (λv=>JN a v.1) ((0:Int),())
def c42:Ctr:=D1 (.sl (Y6)) (.bool) ZbK
def Zda (a:Zj):Option Int:=
(X3 (Zj.Design a)).bind λb=>
some (b.length:Int)
def c43:Ctr:=D1 (Xz) Iq Zda
def Zaq (h:Zj) (a:List Int) (c:Bool) (b:Int):Option ((Int×Unit) ⊕ Bool):=
if b<(a.length:Int) then
(atI a b).bind λd=>
(Zda h).bind λg=>
(ZN d 0 (Wq (g-1))).bind λf=>
if f then
if c then
if 0<b then
(atI a (Wq (b-1))).bind λe=>
if d<=e then
some (.inr false)
else
some (.inl (Wq (b+1),()))
else
some (.inl (Wq (b+1),()))
else
some (.inl (Wq (b+1),()))
else
some (.inr false)
else
some (.inr (decide ((a.length:Int)<=4)))
def Ja (c:Zj) (b:List Int) (a:Bool):Option Bool:=
Zq (λv=>Zaq c b a v.1) ((0:Int),())
def c44:Ctr:=D3 (Xz) (.sl Iq) (.bool) (.bool) Ja
def V5 (c:Zj) (a:Ze):Option Bool:=
(ZcD c).bind λe=>
if e then
(Ja c (Ze.From a) true).bind λd=>
if d then
(Ja c (Ze.Through a) false).bind λg=>
if g then
(Ja c (Ze.To a) true).bind λf=>
if f then
if Ze.Kind a=1 then
some (decide (Ze.Value a=0))
else
if Ze.Kind a=2 then
(ZN (Ze.Value a) 1 10).bind λb=>
some b
else
if Ze.Kind a=3 then
if Ze.Kind a=3 then
(ZN (Ze.Value a) 0 1000000000).bind λb=>
some b
else
some false
else
if Ze.Kind a=4 then
(ZN (Ze.Value a) 0 1000000000).bind λb=>
some b
else
some false
else
some false
else
some false
else
some false
else
some false
def c45:Ctr:=D2 (Xz) (Z4) (.bool) V5
def ZbI (a:Yb):Option Bool:=
if 0<=Yb.Early a then
if Yb.Early a<=Yb.Late a then
some (decide (Yb.Late a<=1000000))
else
some false
else
some false
def c46:Ctr:=D1 (Zj1) (.bool) ZbI
def VP (j:Zo) (g:List Zh) (e:Bool) (b:List Ya) (c:Int):Option ((Int×Unit) ⊕ Bool):=
if c<(g.length:Int) then
(atI g c).bind λa=>
(ZN (Zh.Place a) 0 (Wq ((b.length:Int)-1))).bind λk=>
if k then
if 0<c then
(atI g (Wq (c-1))).bind λd=>
if Zh.Place a<=Zh.Place d then
some (.inr false)
else
(ZN (Zh.Clock a) 0 (Wq (((Zo.Yk j).length:Int)-1))).bind λf=>
if f then
(atI b (Zh.Place a)).bind λi=>
if 0<=Ya.instance i then
some (.inr false)
else
if (Ya.drives i == e)=true then
if Yb.Late (Zh.Delay a)<Yb.Early (Zh.Delay a) then
some (.inr false)
else
if Yb.Early (Zh.Delay a)<(-100000) then
some (.inr false)
else
if 100000<Yb.Late (Zh.Delay a) then
some (.inr false)
else
(ZbI (Zh.Za2 a)).bind λh=>
if h then
if e then
some (.inl (Wq (c+1),()))
else
if (decide (Yb.Early (Zh.Za2 a)=0)&&decide (Yb.Late (Zh.Za2 a)=0))=true then
some (.inl (Wq (c+1),()))
else
some (.inr false)
else
some (.inr false)
else
some (.inr false)
else
some (.inr false)
else
(ZN (Zh.Clock a) 0 (Wq (((Zo.Yk j).length:Int)-1))).bind λf=>
if f then
(atI b (Zh.Place a)).bind λd=>
if 0<=Ya.instance d then
some (.inr false)
else
if (Ya.drives d == e)=true then
if Yb.Late (Zh.Delay a)<Yb.Early (Zh.Delay a) then
some (.inr false)
else
if Yb.Early (Zh.Delay a)<(-100000) then
some (.inr false)
else
if 100000<Yb.Late (Zh.Delay a) then
some (.inr false)
else
(ZbI (Zh.Za2 a)).bind λh=>
if h then
if e then
some (.inl (Wq (c+1),()))
else
if (decide (Yb.Early (Zh.Za2 a)=0)&&decide (Yb.Late (Zh.Za2 a)=0))=true then
some (.inl (Wq (c+1),()))
else
some (.inr false)
else
some (.inr false)
else
some (.inr false)
else
some (.inr false)
else
some (.inr false)
else
some (.inr true)
def Vy (a:Zj) (c:Zo) (d:List Zh) (e:Bool):Option Bool:=
(X3 (Zj.Design a)).bind λb=>
Zq (λv=>VP c d e b v.1) ((0:Int),())
def c47:Ctr:=D4 (Xz) (Vh) (.sl (Yx)) (.bool) (.bool) Vy
def ZbD (b:Zj) (a:Zo) (c:Int):Option ((Int×Unit) ⊕ ((Int×Unit) ⊕ Bool)):=
if c<((Zo.Exceptions a).length:Int) then
(atI (Zo.Exceptions a) c).bind λf=>
(V5 b f).bind λe=>
if e then
some (.inl (Wq (c+1),()))
else
some (.inr (.inr false))
else
(Vy b a (Zo.Zbb a) true).bind λd=>
if d then
(Vy b a (Zo.Vp a) false).bind λg=>
some (.inr (.inr g))
else
some (.inr (.inr false))
def ZbE (c:Zj) (b:Zo) (a:Int):Option ((Int×Unit) ⊕ Bool):=
if a<((Zo.Yk b).length:Int) then
(atI (Zo.Yk b) a).bind λe=>
(X3 (Zj.Design c)).bind λd=>
if (d.length:Int)<=Zc.Place e then
some (.inr false)
else
some (.inl (Wq (a+1),()))
else
Zq (λv=>ZbD c b v.1) ((0:Int),())
def Zeo (b:Zj) (a:Zo):Option Bool:=
(ZcD b).bind λd=>
if d then
(Zc4 (Zo.Yk a)).bind λc=>
if c then
if 6<((Zo.Exceptions a).length:Int) then
some false
else
(ZbK (Zo.X5 a)).bind λe=>
if e then
Zq (λv=>ZbE b a v.1) ((0:Int),())
else
some false
else
some false
else
some false
def c48:Ctr:=D2 (Xz) (Vh) (.bool) Zeo
def ZCT (c:Zj) (a:List Int) (b:Int):Option (((List Int)×Int×Unit) ⊕ List Int):=
(X3 (Zj.Design c)).bind λd=>
if b<(d.length:Int) then
Zp ((a.length+[b].length)*(8:Nat)<=(140737488355328:Nat))<|
some (.inl (a++[b],Wq (b+1),()))
else
some (.inr a)
def ZEF (a:Zj):Option (List Int):=
Zq (λv=>ZCT a v.1 v.2.1) (([]:List Int),(0:Int),())
def c49:Ctr:=⟨[.dat (Xz)],[.own (.ol 2 (.flat Iq))],λa K=>ZT a λb a=>QN (ZEF b) λr=>K (r,()) ()⟩
def ZB0 (b c a:List Int) (e:Int):Option (((List Int)×Int×Unit) ⊕ ((List Int)×Bool)):=
if e<(b.length:Int) then
(atI b e).bind λf=>
(atI c f).bind λd=>
if d<0 then
some (.inr (([]:List Int),false))
else
Zp ((a.length+[d].length)*(8:Nat)<=(140737488355328:Nat))<|
some (.inl (a++[d],Wq (e+1),()))
else
some (.inr (a,true))
def ZCy (b a:List Int):Option ((List Int)×Bool):=
Zq (λv=>ZB0 b a v.1 v.2.1) (([]:List Int),(0:Int),())
def c50:Ctr:=⟨[.dat (.sl Iq),.dat (.sl Iq)],[.own (.ol 2 (.flat Iq)),.dat (.bool)],λa K=>ZT a λc a=>ZT a λb a=>QN (ZCy c b) λr=>K (r.1,r.2,()) ()⟩
def ZBw (b:List Zh) (c:List Int) (a:List Zh) (d:Int):Option (((List Zh)×Int×Unit) ⊕ List Zh):=
if d<(b.length:Int) then
(atI b d).bind λe=>
(atI c (Zh.Place e)).bind λf=>
Zp ((a.length+[(f,e.2)].length)*(48:Nat)<=(140737488355328:Nat))<|
some (.inl (a++[(f,e.2)],Wq (d+1),()))
else
some (.inr a)
def ZCa (b:List Zh) (a:List Int):Option (List Zh):=
Zq (λv=>ZBw b a v.1 v.2.1) (([]:List (Int×Int×Yb×Yb×Unit)),(0:Int),())
def c51:Ctr:=⟨[.dat (.sl (Yx)),.dat (.sl Iq)],[.own (.ol 164 (.flat (Yx)))],λa K=>ZT a λc a=>ZT a λb a=>QN (ZCa c b) λr=>K (r,()) ()⟩
def ZBH (h:List Int) (f:Zo) (k:List Zc) (c:List Ze) (i:Bool) (g:Int):Option (((List Ze)×Bool×Int×Unit) ⊕ (((List Zc)×Int×Unit) ⊕ (Zo×Bool))):=
if g<((Zo.Exceptions f).length:Int) then
(atI (Zo.Exceptions f) g).bind λa=>
(ZCy (Ze.From a) h).bind λd=>
(ZCy (Ze.Through a) h).bind λb=>
(ZCy (Ze.To a) h).bind λe=>
if i then
if d.2 then
if b.2 then
Zp ((c.length+[(Ze.Kind a,Ze.Value a,d.1,b.1,e.1,())].length)*(88:Nat)<=(140737488355328:Nat))<|
some (.inl (c++[(Ze.Kind a,Ze.Value a,d.1,b.1,e.1,())],e.2,Wq (g+1),()))
else
Zp ((c.length+[(Ze.Kind a,Ze.Value a,d.1,b.1,e.1,())].length)*(88:Nat)<=(140737488355328:Nat))<|
some (.inl (c++[(Ze.Kind a,Ze.Value a,d.1,b.1,e.1,())],false,Wq (g+1),()))
else
Zp ((c.length+[(Ze.Kind a,Ze.Value a,d.1,b.1,e.1,())].length)*(88:Nat)<=(140737488355328:Nat))<|
some (.inl (c++[(Ze.Kind a,Ze.Value a,d.1,b.1,e.1,())],false,Wq (g+1),()))
else
Zp ((c.length+[(Ze.Kind a,Ze.Value a,d.1,b.1,e.1,())].length)*(88:Nat)<=(140737488355328:Nat))<|
some (.inl (c++[(Ze.Kind a,Ze.Value a,d.1,b.1,e.1,())],false,Wq (g+1),()))
else
Zp ((([]:List (List UInt8×Int×Int×Int×Int×Unit)).length+(Zo.X5 f).length)*(48:Nat)<=(140737488355328:Nat))<|
(ZCa (Zo.Zbb f) h).bind λl=>
(ZCa (Zo.Vp f) h).bind λj=>
some (.inr (.inr ((k,l,j,c,([]:List (List UInt8×Int×Int×Int×Int×Unit))++Zo.X5 f,()),i)))
def ZCn (f:List Int) (d:Zo) (b:List Zc) (c:Int):Option (((List Zc)×Int×Unit) ⊕ (Zo×Bool)):=
if c<((Zo.Yk d).length:Int) then
(atI (Zo.Yk d) c).bind λa=>
(atI f (Zc.Place a)).bind λe=>
Zp ((b.length+[(Zc.Name a,e,a.2.2)].length)*(96:Nat)<=(140737488355328:Nat))<|
some (.inl (b++[(Zc.Name a,e,a.2.2)],Wq (c+1),()))
else
Zq (λv=>ZBH f d b v.1 v.2.1 v.2.2.1) (([]:List Ze),true,(0:Int),())
def ZC7 (b:List Int) (a:Zo):Option (Zo×Bool):=
Zq (λv=>ZCn b a v.1 v.2.1) (([]:List (List UInt8×Int×Int×Int×Int×Int×Int×Bool×Int×Int×Int×Unit)),(0:Int),())
def c52:Ctr:=⟨[.dat (.sl Iq),.dat (Vh)],[.own (ZuI),.dat (.bool)],λa K=>ZT a λc a=>ZT a λb a=>QN (ZC7 c b) λr=>K (r.1,r.2,()) ()⟩
def ZEV (a:Zy):Option Zy:=
(ZAK (Zy.ZgK a)).bind λc=>
(ZAK (Zy.Loads a)).bind λb=>
(ZAK (Zy.Values a)).bind λd=>
some (c,b,d,())
def c53:Ctr:=⟨[.dat (XF)],[.own (Zk3)],λa K=>ZT a λb a=>QN (ZEV b) λr=>K (r,()) ()⟩
def ZBv (b a:List Zy) (c:Int):Option (((List Zy)×Int×Unit) ⊕ List Zy):=
if c<(b.length:Int) then
(atI b c).bind λe=>
(ZEV e).bind λd=>
Zp ((a.length+[d].length)*(72:Nat)<=(140737488355328:Nat))<|
some (.inl (a++[d],Wq (c+1),()))
else
some (.inr a)
def ZB8 (a:List Zy):Option (List Zy):=
Zq (λv=>ZBv a v.1 v.2.1) (([]:List Zy),(0:Int),())
def c54:Ctr:=⟨[.dat (.sl (XF))],[.own (.ol 402 (Zk3))],λa K=>ZT a λb a=>QN (ZB8 b) λr=>K (r,()) ()⟩
def ZC3 (c:Zk) (b:List Int) (d:Int) (e:List ZC):Option ((Int×(List ZC)×Unit) ⊕ Zk):=
if d<((Zk.JR c).length:Int) then
(atI (Zk.JR c) d).bind λa=>
(ZB8 (ZC.Delay a)).bind λg=>
(ZB8 (ZC.Za2 a)).bind λf=>
Zp ((e.length+[(ZC.Kind a,ZC.From a,ZC.To a,ZC.Za7 a,g,f,())].length)*(80:Nat)<=(140737488355328:Nat))<|
some (.inl (Wq (d+1),e++[(ZC.Kind a,ZC.From a,ZC.To a,ZC.Za7 a,g,f,())],()))
else
some (.inr (Zk.Name c,Zk.Kind c,([]:List (List UInt8×Int×Int×Bool×Unit))++Zk.Yz c,e,b,c.2.2.2.2.2))
def ZEW (a:Zk):Option Zk:=
Zp ((([]:List (List UInt8×Int×Int×Bool×Unit)).length+(Zk.Yz a).length)*(40:Nat)<=(140737488355328:Nat))<|
(ZAK (Zk.Truth a)).bind λb=>
Zq (λv=>ZC3 a b v.1 v.2.1) ((0:Int),([]:List ZC),())
def c55:Ctr:=⟨[.dat (V6)],[.own (Zqk)],λa K=>ZT a λb a=>QN (ZEW b) λr=>K (r,()) ()⟩
def ZBs (c:Zt) (b:Int) (a:List Zk):Option ((Int×(List Zk)×Unit) ⊕ Zt):=
if b<((Zt.Cells c).length:Int) then
(atI (Zt.Cells c) b).bind λe=>
(ZEW e).bind λd=>
Zp ((a.length+[d].length)*(112:Nat)<=(140737488355328:Nat))<|
some (.inl (Wq (b+1),a++[d],()))
else
some (.inr (a,()))
def ZCJ (a:Zt):Option Zt:=
Zq (λv=>ZBs a v.1 v.2.1) ((0:Int),([]:List Zk),())
def c56:Ctr:=⟨[.dat (YR)],[.own (Zpq)],λa K=>ZT a λb a=>QN (ZCJ b) λr=>K (r,()) ()⟩
def ZC4 (b:Zg) (d:Int) (c:List Zl):Option ((Int×(List Zl)×Unit) ⊕ Zg):=
if d<((Zg.Instances b).length:Int) then
(atI (Zg.Instances b) d).bind λa=>
(ZAK (Zl.X7 a)).bind λe=>
Zp ((c.length+[(Zl.Name a,Zl.Cell a,e,())].length)*(48:Nat)<=(140737488355328:Nat))<|
some (.inl (Wq (d+1),c++[(Zl.Name a,Zl.Cell a,e,())],()))
else
some (.inr (c,([]:List (List UInt8))++Zg.X7 b,([]:List (List UInt8×Int×Int×Unit))++Zg.Xb b,()))
def ZEY (a:Zg):Option Zg:=
Zp ((([]:List (List UInt8)).length+(Zg.X7 a).length)*(16:Nat)<=(140737488355328:Nat))<|
Zp ((([]:List (List UInt8×Int×Int×Unit)).length+(Zg.Xb a).length)*(32:Nat)<=(140737488355328:Nat))<|
Zq (λv=>ZC4 a v.1 v.2.1) ((0:Int),([]:List Zl),())
def c57:Ctr:=⟨[.dat (YU)],[.own (Zrc)],λa K=>ZT a λb a=>QN (ZEY b) λr=>K (r,()) ()⟩
def ZBG (a:Zx):Option Zx:=
(ZAK (Zx.Parent a)).bind λc=>
(ZAK (Zx.Res a)).bind λb=>
(ZAK (Zx.Cap a)).bind λe=>
(ZAK (Zx.Zjo a)).bind λd=>
some (c,b,e,d,())
def c58:Ctr:=⟨[.dat (Za9)],[.own (Zql)],λa K=>ZT a λb a=>QN (ZBG b) λr=>K (r,()) ()⟩
def ZC5 (f:Zj) (a:Zt) (b:Zg) (d:Int) (c:List Zx):Option ((Int×(List Zx)×Unit) ⊕ Zj):=
if d<((Zj.Qg f).length:Int) then
(atI (Zj.Qg f) d).bind λg=>
(ZBG g).bind λe=>
Zp ((c.length+[e].length)*(96:Nat)<=(140737488355328:Nat))<|
some (.inl (Wq (d+1),c++[e],()))
else
some (.inr (a,b,c,()))
def ZEw (a:Zj):Option Zj:=
(ZCJ (Zj.Library a)).bind λc=>
(ZEY (Zj.Design a)).bind λb=>
Zq (λv=>ZC5 a c b v.1 v.2.1) ((0:Int),([]:List Zx),())
def c59:Ctr:=⟨[.dat (Xz)],[.own (ZuH)],λa K=>ZT a λb a=>QN (ZEw b) λr=>K (r,()) ()⟩
def ZDi (b:Zj) (a:Zo):Option (ZdQ×Int):=
(Zeo b a).bind λd=>
if d then
(ZEF b).bind λc=>
(ZC7 c a).bind λf=>
(ZEw b).bind λe=>
some ((e,f.1,[],[],()),0)
else
some (((([],()),([],[],[],()),[],()),([],[],[],[],[],()),[],[],()),1)
def c60:Ctr:=⟨[.dat (Xz),.dat (Vh)],[.own (ZKc),.dat Iq],λa K=>ZT a λc a=>ZT a λb a=>QN (ZDi c b) λr=>K (r.1,r.2,()) ()⟩
def ZEi (a:ZgL):Option Bool:=
if ZgL.Kind a=1 then
if ZgL.Net a=0 then
if ZgL.Node a=0 then
if ZgL.Name a=([]:List UInt8) then
some (decide (Wq (Wq (Wq (((Zx.Parent (ZgL.ZAj a)).length:Int)+((Zx.Res (ZgL.ZAj a)).length:Int))+((Zx.Cap (ZgL.ZAj a)).length:Int))+((Zx.Zjo (ZgL.ZAj a)).length:Int))=0))
else
some false
else
some false
else
some false
else
if ZgL.Kind a=2 then
if ZgL.Net a=0 then
if ZgL.Node a=0 then
some (decide (Wq (Wq (Wq (((Zx.Parent (ZgL.ZAj a)).length:Int)+((Zx.Res (ZgL.ZAj a)).length:Int))+((Zx.Cap (ZgL.ZAj a)).length:Int))+((Zx.Zjo (ZgL.ZAj a)).length:Int))=0))
else
some false
else
some false
else
if ZgL.Kind a=3 then
if ZgL.Place a=0 then
if ZgL.Cell a=0 then
if ZgL.Net a=0 then
if ZgL.Node a=0 then
if ZgL.Name a=([]:List UInt8) then
some (decide (Wq (Wq (Wq (((Zx.Parent (ZgL.ZAj a)).length:Int)+((Zx.Res (ZgL.ZAj a)).length:Int))+((Zx.Cap (ZgL.ZAj a)).length:Int))+((Zx.Zjo (ZgL.ZAj a)).length:Int))=0))
else
some false
else
some false
else
some false
else
some false
else
some false
else
if ZgL.Kind a=4 then
if ZgL.Cell a=0 then
if ZgL.Name a=([]:List UInt8) then
some (decide (Wq (Wq (Wq (((Zx.Parent (ZgL.ZAj a)).length:Int)+((Zx.Res (ZgL.ZAj a)).length:Int))+((Zx.Cap (ZgL.ZAj a)).length:Int))+((Zx.Zjo (ZgL.ZAj a)).length:Int))=0))
else
some false
else
some false
else
if ZgL.Kind a=5 then
if ZgL.Place a=0 then
if ZgL.Cell a=0 then
if ZgL.Node a=0 then
some (decide (ZgL.Name a=([]:List UInt8)))
else
some false
else
some false
else
some false
else
some false
def c61:Ctr:=D1 (Zug) (.bool) ZEi
def ZEj (c:Zj) (a:ZgL):Option Bool:=
(X3 (Zj.Design c)).bind λe=>
if ZgL.Kind a=1 then
if ZgL.Kind a=1 then
(ZN (ZgL.Place a) 0 (Wq ((e.length:Int)-1))).bind λb=>
if b then
(ZN (ZgL.Cell a) 0 (Wq (((Zt.Cells (Zj.Library c)).length:Int)-1))).bind λd=>
some d
else
some false
else
if ZgL.Kind a=4 then
(ZN (ZgL.Place a) 0 (Wq ((e.length:Int)-1))).bind λb=>
if b then
(ZN (ZgL.Net a) 0 (Wq (((Zj.Qg c).length:Int)-1))).bind λd=>
if d then
(atI (Zj.Qg c) (ZgL.Net a)).bind λg=>
(ZN (ZgL.Node a) 0 (Wq (((Zx.Parent g).length:Int)-1))).bind λf=>
some f
else
some false
else
some false
else
if ZgL.Kind a=5 then
(ZN (ZgL.Net a) 0 (Wq (((Zj.Qg c).length:Int)-1))).bind λb=>
some b
else
some true
else
if ZgL.Kind a=2 then
(ZN (ZgL.Place a) 0 (Wq ((e.length:Int)-1))).bind λb=>
if b then
(ZN (ZgL.Cell a) 0 (Wq (((Zt.Cells (Zj.Library c)).length:Int)-1))).bind λd=>
some d
else
some false
else
if ZgL.Kind a=4 then
(ZN (ZgL.Place a) 0 (Wq ((e.length:Int)-1))).bind λb=>
if b then
(ZN (ZgL.Net a) 0 (Wq (((Zj.Qg c).length:Int)-1))).bind λd=>
if d then
(atI (Zj.Qg c) (ZgL.Net a)).bind λg=>
(ZN (ZgL.Node a) 0 (Wq (((Zx.Parent g).length:Int)-1))).bind λf=>
some f
else
some false
else
some false
else
if ZgL.Kind a=5 then
(ZN (ZgL.Net a) 0 (Wq (((Zj.Qg c).length:Int)-1))).bind λb=>
some b
else
some true
def c62:Ctr:=D2 (Xz) (Zug) (.bool) ZEj
def ZA4 (b d:Zk) (a:Int):Option ((Int×Unit) ⊕ Bool):=
if a<((Zk.Yz b).length:Int) then
(atI (Zk.Yz b) a).bind λe=>
(atI (Zk.Yz d) a).bind λc=>
if (Yv.Clock e == Yv.Clock c)=true then
some (.inl (Wq (a+1),()))
else
some (.inr false)
else
some (.inr true)
def ZA2 (a b:Zk):Option Bool:=
if Zk.Kind a=Zk.Kind b then
if ((Zk.Yz a).length:Int)=((Zk.Yz b).length:Int) then
Zq (λv=>ZA4 a b v.1) ((0:Int),())
else
some false
else
some false
def c63:Ctr:=D2 (V6) (V6) (.bool) ZA2
def ZBn (a:Zk):Option Bool:=
if Zk.Kind a=1 then
some (decide (((Zk.Yz a).length:Int)=2))
else
some false
def c64:Ctr:=D1 (V6) (.bool) ZBn
def ZB7 (c:Zg) (a:List UInt8) (b:Int):Option ((Int×Unit) ⊕ Int):=
if b<((Zg.Instances c).length:Int) then
(atI (Zg.Instances c) b).bind λd=>
if Zl.Name d=a then
some (.inr b)
else
some (.inl (Wq (b+1),()))
else
some (.inr (-1))
def ZCI (b:Zg) (a:List UInt8):Option Int:=
Zq (λv=>ZB7 b a v.1) ((0:Int),())
def c65:Ctr:=D2 (YU) (.str) Iq ZCI
def ZDo (a:List (List UInt8)) (b:List UInt8) (c:Int):Option ((Int×Unit) ⊕ Int):=
if c<(a.length:Int) then
(atI a c).bind λd=>
if d=b then
some (.inr c)
else
some (.inl (Wq (c+1),()))
else
some (.inr (-1))
def ZEX (a:List (List UInt8)) (b:List UInt8):Option Int:=
Zq (λv=>ZDo a b v.1) ((0:Int),())
def c66:Ctr:=D2 (.sl (.str)) (.str) Iq ZEX
def ZEh (b:Zg) (a:List UInt8):Option Int:=
(ZEX (Zg.X7 b) a).bind λc=>
some c
def c67:Ctr:=D2 (YU) (.str) Iq ZEh
def ZED (a:Zx):Option Bool:=
if ((Zx.Parent a).length:Int)=1 then
(atI (Zx.Cap a) 0).bind λb=>
some (decide (b=0))
else
some false
def c68:Ctr:=D1 (Za9) (.bool) ZED
def ZDv (a:Zj):Option Bool:=
if Wq (((Zg.Instances (Zj.Design a)).length:Int)-1)<0 then
some false
else
(atI (Zg.Instances (Zj.Design a)) (Wq (((Zg.Instances (Zj.Design a)).length:Int)-1))).bind λb=>
(atI (Zt.Cells (Zj.Library a)) (Zl.Cell b)).bind λc=>
(ZBn c).bind λh=>
if h then
(atI (Zl.X7 b) 1).bind λg=>
if g=Wq (((Zj.Qg a).length:Int)-1) then
(atI (Zg.X7 (Zj.Design a)) (Wq (((Zj.Qg a).length:Int)-1))).bind λd=>
if d=Zl.Name b then
(atI (Zl.X7 b) 0).bind λi=>
if i=Wq (((Zj.Qg a).length:Int)-1) then
some false
else
(Zc8 (Zj.Design a) (Wq (((Zj.Qg a).length:Int)-1))).bind λe=>
if (e.length:Int)=1 then
(atI (Zj.Qg a) (Wq (((Zj.Qg a).length:Int)-1))).bind λf=>
(ZED f).bind λj=>
some j
else
some false
else
some false
else
some false
else
some false
def c69:Ctr:=D1 (Xz) (.bool) ZDv
def ZC6 (b:Zj) (a:ZgL):Option Bool:=
(X3 (Zj.Design b)).bind λe=>
if ZgL.Kind a=1 then
(atI e (ZgL.Place a)).bind λc=>
if 0<=Ya.instance c then
if (Ya.drives c)=true then
(atI (Zg.Instances (Zj.Design b)) (Ya.instance c)).bind λd=>
(atI (Zt.Cells (Zj.Library b)) (Zl.Cell d)).bind λj=>
(atI (Zt.Cells (Zj.Library b)) (ZgL.Cell a)).bind λf=>
(ZA2 j f).bind λg=>
some g
else
some false
else
some false
else
if ZgL.Kind a=2 then
(atI e (ZgL.Place a)).bind λc=>
if (Ya.drives c)=true then
some false
else
(atI (Zt.Cells (Zj.Library b)) (ZgL.Cell a)).bind λd=>
(ZBn d).bind λo=>
if o then
(VA (ZgL.Name a)).bind λn=>
if n then
(ZCI (Zj.Design b) (ZgL.Name a)).bind λi=>
if i<0 then
(ZEh (Zj.Design b) (ZgL.Name a)).bind λm=>
some (decide (m<0))
else
some false
else
some false
else
some false
else
if ZgL.Kind a=3 then
(ZDv b).bind λh=>
some h
else
if ZgL.Kind a=4 then
(atI e (ZgL.Place a)).bind λc=>
if (Ya.drives c)=true then
some false
else
some (!decide (Ya.net c=ZgL.Net a))
else
(Zc8 (Zj.Design b) (ZgL.Net a)).bind λk=>
(Zft (ZgL.ZAj a) (k.length:Int)).bind λl=>
some l
def c70:Ctr:=D2 (Xz) (Zug) (.bool) ZC6
def ZA0 (a:Zj) (b:ZgL):Option Int:=
(ZcD a).bind λd=>
if d then
(ZEi b).bind λc=>
if c then
(ZEj a b).bind λf=>
if f then
(ZC6 a b).bind λe=>
if e then
if ZgL.Kind b=2 then
if ((Zg.Instances (Zj.Design a)).length:Int)=14 then
some 3
else
if ((Zj.Qg a).length:Int)=30 then
some 3
else
some 0
else
some 0
else
some 5
else
some 2
else
some 2
else
some 1
def c71:Ctr:=D2 (Xz) (Zug) Iq ZA0
def ZBZ (e:Zj) (d:ZgL) (c:List Ya) (a:List Int) (b:Int):Option (((List Int)×Int×Unit) ⊕ List Int):=
if b<(c.length:Int) then
if ZgL.Kind d=2 then
if Wq ((c.length:Int)-((Zg.Xb (Zj.Design e)).length:Int))<=b then
Zp ((a.length+[Wq (b+(2:Int))].length)*(8:Nat)<=(140737488355328:Nat))<|
some (.inl (a++[Wq (b+2)],Wq (b+1),()))
else
if ZgL.Kind d=3 then
if Wq ((c.length:Int)-((Zg.Xb (Zj.Design e)).length:Int))<=b then
Zp ((a.length+[Wq (b-(2:Int))].length)*(8:Nat)<=(140737488355328:Nat))<|
some (.inl (a++[Wq (b-2)],Wq (b+1),()))
else
if ZgL.Kind d=3 then
if Wq (Wq ((c.length:Int)-((Zg.Xb (Zj.Design e)).length:Int))-2)<=b then
Zp ((a.length+[(-1:Int)].length)*(8:Nat)<=(140737488355328:Nat))<|
some (.inl (a++[(-1:Int)],Wq (b+1),()))
else
Zp ((a.length+[b].length)*(8:Nat)<=(140737488355328:Nat))<|
some (.inl (a++[b],Wq (b+1),()))
else
Zp ((a.length+[b].length)*(8:Nat)<=(140737488355328:Nat))<|
some (.inl (a++[b],Wq (b+1),()))
else
if ZgL.Kind d=3 then
if Wq (Wq ((c.length:Int)-((Zg.Xb (Zj.Design e)).length:Int))-2)<=b then
Zp ((a.length+[(-1:Int)].length)*(8:Nat)<=(140737488355328:Nat))<|
some (.inl (a++[(-1:Int)],Wq (b+1),()))
else
Zp ((a.length+[b].length)*(8:Nat)<=(140737488355328:Nat))<|
some (.inl (a++[b],Wq (b+1),()))
else
Zp ((a.length+[b].length)*(8:Nat)<=(140737488355328:Nat))<|
some (.inl (a++[b],Wq (b+1),()))
else
if ZgL.Kind d=3 then
if Wq ((c.length:Int)-((Zg.Xb (Zj.Design e)).length:Int))<=b then
Zp ((a.length+[Wq (b-(2:Int))].length)*(8:Nat)<=(140737488355328:Nat))<|
some (.inl (a++[Wq (b-2)],Wq (b+1),()))
else
if ZgL.Kind d=3 then
if Wq (Wq ((c.length:Int)-((Zg.Xb (Zj.Design e)).length:Int))-2)<=b then
Zp ((a.length+[(-1:Int)].length)*(8:Nat)<=(140737488355328:Nat))<|
some (.inl (a++[(-1:Int)],Wq (b+1),()))
else
Zp ((a.length+[b].length)*(8:Nat)<=(140737488355328:Nat))<|
some (.inl (a++[b],Wq (b+1),()))
else
Zp ((a.length+[b].length)*(8:Nat)<=(140737488355328:Nat))<|
some (.inl (a++[b],Wq (b+1),()))
else
if ZgL.Kind d=3 then
if Wq (Wq ((c.length:Int)-((Zg.Xb (Zj.Design e)).length:Int))-2)<=b then
Zp ((a.length+[(-1:Int)].length)*(8:Nat)<=(140737488355328:Nat))<|
some (.inl (a++[(-1:Int)],Wq (b+1),()))
else
Zp ((a.length+[b].length)*(8:Nat)<=(140737488355328:Nat))<|
some (.inl (a++[b],Wq (b+1),()))
else
Zp ((a.length+[b].length)*(8:Nat)<=(140737488355328:Nat))<|
some (.inl (a++[b],Wq (b+1),()))
else
some (.inr a)
def ZDV (a:Zj) (c:ZgL):Option (List Int):=
(X3 (Zj.Design a)).bind λb=>
Zq (λv=>ZBZ a c b v.1 v.2.1) (([]:List Int),(0:Int),())
def c72:Ctr:=⟨[.dat (Xz),.dat (Zug)],[.own (.ol 2 (.flat Iq))],λa K=>ZT a λb a=>ZT a λc a=>QN (ZDV b c) λr=>K (r,()) ()⟩
def ZDp (h:Zj) (b:Int) (a:List Int) (c:Int) (d:List Int):Option ((Int×(List Int)×Unit) ⊕ ((Int×(List Int)×Unit) ⊕ List Int)):=
if c<(a.length:Int) then
(atI a c).bind λe=>
(atI (Zj.Qg h) b).bind λf=>
(atI (Zx.Zjo f) c).bind λg=>
(atI d e).bind λi=>
some (.inl (Wq (c+1),List.set d (Int.toNat e) g,()))
else
some (.inr (.inl (Wq (b+1),d,())))
def ZDq (b:Zj) (a:Int) (c:List Int):Option ((Int×(List Int)×Unit) ⊕ List Int):=
if a<((Zj.Qg b).length:Int) then
(Zc8 (Zj.Design b) a).bind λd=>
Zq (λv=>ZDp b a d v.1 v.2.1) ((0:Int),c,())
else
some (.inr c)
def ZCk (b:Zj):Option (List Int):=
(X3 (Zj.Design b)).bind λa=>
Zp ((0:Int)<=(a.length:Int))<|
Zp ((a.length:Int)<=(a.length:Int))<|
Zp ((a.length:Int)<=(4611686018427387904:Int))<|
Zp (((8:Nat):Int)*(a.length:Int)<=(281474976710656:Int))<|
Zq (λv=>ZDq b v.1 v.2.1) ((0:Int),List.replicate (Int.toNat (a.length:Int)) (0:Int),())
def c73:Ctr:=⟨[.dat (Xz)],[.own (.ol 2 (.flat Iq))],λa K=>ZT a λb a=>QN (ZCk b) λr=>K (r,()) ()⟩
def ZB9 (c:Zg) (a:Ya) (d:Int):Option Zg:=
if Ya.instance a<0 then
(atI (Zg.Xb c) (Ya.pin a)).bind λb=>
some (Zg.Instances c,Zg.X7 c,List.set (Zg.Xb c) (Int.toNat (Ya.pin a)) (Ye.Name b,Ye.Dir b,d,()),())
else
(atI (Zg.Instances c) (Ya.instance a)).bind λb=>
(atI b.2.2.1 (Ya.pin a)).bind λe=>
some (List.set (Zg.Instances c) (Int.toNat (Ya.instance a)) (b.1,b.2.1,List.set b.2.2.1 (Int.toNat (Ya.pin a)) d,()),c.2)
def c74:Ctr:=⟨[.back (Zrc),.dat (ZcG),.dat Iq],[],λa K=>ZT a λd a=>ZT a λc a=>ZT a λb a=>QN (ZB9 d c b) λr=>K () (r,())⟩
def ZC9 (d:List Int) (c:Int) (h:List (List Int×List Int×List Int×List Int×Unit)) (a b:List Int) (f:Int):Option (((List Int)×Int×Unit) ⊕ ((Int×(List (List Int×List Int×List Int×List Int×Unit))×Unit) ⊕ Zj)):=
if f<(a.length:Int) then
(atI a f).bind λe=>
(atI d e).bind λg=>
Zp ((b.length+[g].length)*(8:Nat)<=(140737488355328:Nat))<|
some (.inl (b++[g],Wq (f+1),()))
else
(atI h c).bind λe=>
some (.inr (.inl (Wq (c+1),List.set h (Int.toNat c) (e.1,e.2.1,e.2.2.1,b,()),())))
def ZBY (d:Zj) (b:List Int) (a:Int) (c:List (List Int×List Int×List Int×List Int×Unit)):Option ((Int×(List (List Int×List Int×List Int×List Int×Unit))×Unit) ⊕ Zj):=
if a<(c.length:Int) then
(Zc8 (Zj.Design d) a).bind λe=>
Zq (λv=>ZC9 b a c e v.1 v.2.1) (([]:List Int),(0:Int),())
else
some (.inr (Zj.Library d,Zj.Design d,c,()))
def ZBm (b:Zj) (a:List Int):Option Zj:=
Zq (λv=>ZBY b a v.1 v.2.1) ((0:Int),Zj.Qg b,())
def c75:Ctr:=⟨[.own (ZuH),.dat (.sl Iq)],[.own (ZuH)],λa K=>ZT a λc a=>ZT a λb a=>QN (ZBm c b) λr=>K (r,()) ()⟩
def ZCx (b:Zj) (c:ZgL):Option Zj:=
(X3 (Zj.Design b)).bind λk=>
(atI k (ZgL.Place c)).bind λh=>
(ZCk b).bind λa=>
(atI a (ZgL.Place c)).bind λe=>
Zp ((0:Int)<=Wq ((a.length:Int)-((Zg.Xb (Zj.Design b)).length:Int)))<|
Zp (Wq ((a.length:Int)-((Zg.Xb (Zj.Design b)).length:Int))<=(a.length:Int))<|
(ZAK (List.take (Int.toNat (Wq ((a.length:Int)-((Zg.Xb (Zj.Design b)).length:Int)))-Int.toNat 0) (List.drop (Int.toNat 0) a))).bind λf=>
Zp ((f.length+[e,(0:Int)].length)*(8:Nat)<=(140737488355328:Nat))<|
Zp ((a.length:Int)<=(a.length:Int))<|
Zp (((f++[e,(0:Int)]).length+(List.take (Int.toNat (a.length:Int)-Int.toNat (Wq ((a.length:Int)-((Zg.Xb (Zj.Design b)).length:Int)))) (List.drop (Int.toNat (Wq ((a.length:Int)-((Zg.Xb (Zj.Design b)).length:Int)))) a)).length)*(8:Nat)<=(140737488355328:Nat))<|
(ZB9 (Zj.Design b) h ((Zj.Qg b).length:Int)).bind λd=>
if Wq ((a.length:Int)-((Zg.Xb (Zj.Design b)).length:Int))<=ZgL.Place c then
(atI (f++[e,(0:Int)]++List.take (Int.toNat (a.length:Int)-Int.toNat (Wq ((a.length:Int)-((Zg.Xb (Zj.Design b)).length:Int)))) (List.drop (Int.toNat (Wq ((a.length:Int)-((Zg.Xb (Zj.Design b)).length:Int)))) a)) (Wq (ZgL.Place c+2))).bind λj=>
Zp (((Zg.Instances d).length+[(ZgL.Name c,ZgL.Cell c,[Ya.net h,((Zj.Qg b).length:Int)],())].length)*(48:Nat)<=(140737488355328:Nat))<|
Zp (((Zg.X7 d).length+[ZgL.Name c].length)*(16:Nat)<=(140737488355328:Nat))<|
(ZBy 1 0).bind λg=>
Zp (((Zj.Qg b).length+[g].length)*(96:Nat)<=(140737488355328:Nat))<|
(ZBm (Zj.Library b,(Zg.Instances d++[(ZgL.Name c,ZgL.Cell c,[Ya.net h,((Zj.Qg b).length:Int)],())],Zg.X7 d++[ZgL.Name c],d.2.2),Zj.Qg b++[g],()) (List.set (f++[e,(0:Int)]++List.take (Int.toNat (a.length:Int)-Int.toNat (Wq ((a.length:Int)-((Zg.Xb (Zj.Design b)).length:Int)))) (List.drop (Int.toNat (Wq ((a.length:Int)-((Zg.Xb (Zj.Design b)).length:Int)))) a)) (Int.toNat (Wq (ZgL.Place c+2))) (0:Int))).bind λi=>
some i
else
(atI (f++[e,(0:Int)]++List.take (Int.toNat (a.length:Int)-Int.toNat (Wq ((a.length:Int)-((Zg.Xb (Zj.Design b)).length:Int)))) (List.drop (Int.toNat (Wq ((a.length:Int)-((Zg.Xb (Zj.Design b)).length:Int)))) a)) (ZgL.Place c)).bind λj=>
Zp (((Zg.Instances d).length+[(ZgL.Name c,ZgL.Cell c,[Ya.net h,((Zj.Qg b).length:Int)],())].length)*(48:Nat)<=(140737488355328:Nat))<|
Zp (((Zg.X7 d).length+[ZgL.Name c].length)*(16:Nat)<=(140737488355328:Nat))<|
(ZBy 1 0).bind λg=>
Zp (((Zj.Qg b).length+[g].length)*(96:Nat)<=(140737488355328:Nat))<|
(ZBm (Zj.Library b,(Zg.Instances d++[(ZgL.Name c,ZgL.Cell c,[Ya.net h,((Zj.Qg b).length:Int)],())],Zg.X7 d++[ZgL.Name c],d.2.2),Zj.Qg b++[g],()) (List.set (f++[e,(0:Int)]++List.take (Int.toNat (a.length:Int)-Int.toNat (Wq ((a.length:Int)-((Zg.Xb (Zj.Design b)).length:Int)))) (List.drop (Int.toNat (Wq ((a.length:Int)-((Zg.Xb (Zj.Design b)).length:Int)))) a)) (Int.toNat (ZgL.Place c)) (0:Int))).bind λi=>
some i
def c76:Ctr:=⟨[.own (ZuH),.dat (Zug)],[.own (ZuH)],λa K=>ZT a λc a=>ZT a λb a=>QN (ZCx c b) λr=>K (r,()) ()⟩
def ZDU (a:Zj):Option Zj:=
(ZCk a).bind λb=>
(Zc8 (Zj.Design a) (Wq (((Zj.Qg a).length:Int)-1))).bind λh=>
(atI h 0).bind λc=>
(atI b (Wq (Wq ((b.length:Int)-((Zg.Xb (Zj.Design a)).length:Int))-2))).bind λd=>
(atI b c).bind λm=>
(atI (Zg.Instances (Zj.Design a)) (Wq (((Zg.Instances (Zj.Design a)).length:Int)-1))).bind λf=>
(atI f.2.2.1 0).bind λk=>
(X3 (List.set (Zg.Instances (Zj.Design a)) (Int.toNat (Wq (((Zg.Instances (Zj.Design a)).length:Int)-1))) f,(Zj.Design a).2)).bind λl=>
(atI l c).bind λi=>
(ZB9 (List.set (Zg.Instances (Zj.Design a)) (Int.toNat (Wq (((Zg.Instances (Zj.Design a)).length:Int)-1))) f,(Zj.Design a).2) i k).bind λe=>
Zp ((0:Int)<=Wq (Wq ((b.length:Int)-((Zg.Xb (Zj.Design a)).length:Int))-(2:Int)))<|
Zp (Wq (Wq ((b.length:Int)-((Zg.Xb (Zj.Design a)).length:Int))-(2:Int))<=((List.set b (Int.toNat c) d).length:Int))<|
(ZAK (List.take (Int.toNat (Wq (Wq ((b.length:Int)-((Zg.Xb (Zj.Design a)).length:Int))-2))-Int.toNat 0) (List.drop (Int.toNat 0) (List.set b (Int.toNat c) d)))).bind λg=>
Zp ((0:Int)<=Wq ((b.length:Int)-((Zg.Xb (Zj.Design a)).length:Int)))<|
Zp (Wq ((b.length:Int)-((Zg.Xb (Zj.Design a)).length:Int))<=((List.set b (Int.toNat c) d).length:Int))<|
Zp (((List.set b (Int.toNat c) d).length:Int)<=((List.set b (Int.toNat c) d).length:Int))<|
Zp ((g.length+(List.take (Int.toNat ((List.set b (Int.toNat c) d).length:Int)-Int.toNat (Wq ((b.length:Int)-((Zg.Xb (Zj.Design a)).length:Int)))) (List.drop (Int.toNat (Wq ((b.length:Int)-((Zg.Xb (Zj.Design a)).length:Int)))) (List.set b (Int.toNat c) d))).length)*(8:Nat)<=(140737488355328:Nat))<|
Zp ((0:Int)<=Wq (((Zg.Instances (Zj.Design a)).length:Int)-(1:Int)))<|
Zp (Wq (((Zg.Instances (Zj.Design a)).length:Int)-(1:Int))<=((Zg.Instances e).length:Int))<|
Zp ((0:Int)<=Wq (((Zj.Qg a).length:Int)-(1:Int)))<|
Zp (Wq (((Zj.Qg a).length:Int)-(1:Int))<=((Zg.X7 e).length:Int))<|
Zp (Wq (((Zj.Qg a).length:Int)-(1:Int))<=((Zj.Qg a).length:Int))<|
(ZBm (Zj.Library a,(List.take (Int.toNat (Wq (((Zg.Instances (Zj.Design a)).length:Int)-1))-Int.toNat 0) (List.drop (Int.toNat 0) (Zg.Instances e)),List.take (Int.toNat (Wq (((Zj.Qg a).length:Int)-1))-Int.toNat 0) (List.drop (Int.toNat 0) (Zg.X7 e)),e.2.2),List.take (Int.toNat (Wq (((Zj.Qg a).length:Int)-1))-Int.toNat 0) (List.drop (Int.toNat 0) (Zj.Qg a)),()) (g++List.take (Int.toNat ((List.set b (Int.toNat c) d).length:Int)-Int.toNat (Wq ((b.length:Int)-((Zg.Xb (Zj.Design a)).length:Int)))) (List.drop (Int.toNat (Wq ((b.length:Int)-((Zg.Xb (Zj.Design a)).length:Int)))) (List.set b (Int.toNat c) d)))).bind λj=>
some j
def c77:Ctr:=⟨[.own (ZuH)],[.own (ZuH)],λa K=>ZT a λb a=>QN (ZDU b) λr=>K (r,()) ()⟩
def ZCj (g:Zj) (b:ZgL):Option Zj:=
(ZEw g).bind λa=>
(X3 (Zj.Design a)).bind λe=>
if ZgL.Kind b=1 then
(atI e (ZgL.Place b)).bind λd=>
(atI (Zg.Instances (Zj.Design a)) (Ya.instance d)).bind λc=>
some (Zj.Library a,(List.set (Zg.Instances (Zj.Design a)) (Int.toNat (Ya.instance d)) (c.1,ZgL.Cell b,c.2.2),(Zj.Design a).2),a.2.2)
else
if ZgL.Kind b=2 then
(ZCx a b).bind λl=>
some l
else
if ZgL.Kind b=3 then
(ZDU a).bind λk=>
some k
else
if ZgL.Kind b=4 then
(ZCk a).bind λf=>
(atI f (ZgL.Place b)).bind λd=>
(atI e (ZgL.Place b)).bind λc=>
(ZB9 (Zj.Design a) c (ZgL.Net b)).bind λj=>
(ZBm (Zj.Library a,j,a.2.2) (List.set f (Int.toNat (ZgL.Place b)) (ZgL.Node b))).bind λh=>
some h
else
if ZgL.Kind b=5 then
(ZBG (ZgL.ZAj b)).bind λi=>
(atI (Zj.Qg a) (ZgL.Net b)).bind λd=>
some (Zj.Library a,Zj.Design a,List.set (Zj.Qg a) (Int.toNat (ZgL.Net b)) i,())
else
some a
def c78:Ctr:=⟨[.dat (Xz),.dat (Zug)],[.own (ZuH)],λa K=>ZT a λc a=>ZT a λb a=>QN (ZCj c b) λr=>K (r,()) ()⟩
def ZAS (b:Zj) (c:ZgL) (a:Zo):Option (Zo×Int):=
(ZA0 b c).bind λe=>
if e=0 then
(Zeo b a).bind λf=>
if f then
(ZDV b c).bind λi=>
(ZC7 i a).bind λd=>
if d.2 then
(ZCj b c).bind λg=>
(Zeo g d.1).bind λh=>
if h then
some (d.1,0)
else
some (([],[],[],[],[],()),5)
else
some (([],[],[],[],[],()),5)
else
some (([],[],[],[],[],()),2)
else
some (([],[],[],[],[],()),e)
def c79:Ctr:=⟨[.dat (Xz),.dat (Zug),.dat (Vh)],[.own (ZuI),.dat Iq],λa K=>ZT a λd a=>ZT a λc a=>ZT a λb a=>QN (ZAS d c b) λr=>K (r.1,r.2,()) ()⟩
def ZBp (c:Zj) (a:ZgL):Option ZgL:=
(X3 (Zj.Design c)).bind λe=>
if ZgL.Kind a=1 then
(atI e (ZgL.Place a)).bind λb=>
(atI (Zg.Instances (Zj.Design c)) (Ya.instance b)).bind λd=>
some (1,ZgL.Place a,Zl.Cell d,0,0,[],([],[],[],[],()),())
else
if ZgL.Kind a=2 then
some (3,0,0,0,0,[],([],[],[],[],()),())
else
if ZgL.Kind a=3 then
(atI (Zg.Instances (Zj.Design c)) (Wq (((Zg.Instances (Zj.Design c)).length:Int)-1))).bind λb=>
(Zc8 (Zj.Design c) (Wq (((Zj.Qg c).length:Int)-1))).bind λf=>
(atI f 0).bind λd=>
(atI e d).bind λg=>
if Ya.instance g<0 then
some (2,Wq (d-2),Zl.Cell b,0,0,Zl.Name b,([],[],[],[],()),())
else
some (2,d,Zl.Cell b,0,0,Zl.Name b,([],[],[],[],()),())
else
if ZgL.Kind a=4 then
(atI e (ZgL.Place a)).bind λb=>
(ZCk c).bind λi=>
(atI i (ZgL.Place a)).bind λd=>
some (4,ZgL.Place a,0,Ya.net b,d,[],([],[],[],[],()),())
else
(atI (Zj.Qg c) (ZgL.Net a)).bind λb=>
(ZBG b).bind λh=>
some (5,0,0,ZgL.Net a,0,[],h,())
def c80:Ctr:=⟨[.dat (Xz),.dat (Zug)],[.own (ZF3)],λa K=>ZT a λc a=>ZT a λb a=>QN (ZBp c b) λr=>K (r,()) ()⟩
def ZAC (d:Zj) (a:Zo) (c:ZgL):Option (Zj×Zo×ZgL×Int):=
(ZAS d c a).bind λb=>
if b.2=0 then
(ZCj d c).bind λe=>
(ZBp d c).bind λf=>
some (e,b.1,f,0)
else
some ((([],()),([],[],[],()),[],()),([],[],[],[],[],()),(0,0,0,0,0,[],([],[],[],[],()),()),b.2)
def c81:Ctr:=⟨[.dat (Xz),.dat (Vh),.dat (Zug)],[.own (ZuH),.own (ZuI),.own (ZF3),.dat Iq],λa K=>ZT a λd a=>ZT a λb a=>ZT a λc a=>QN (ZAC d b c) λr=>K (r.1,r.2.1,r.2.2.1,r.2.2.2,()) ()⟩
def ZAB (b:List ZgL) (c:Int) (e:List Zk) (g:List Zl) (m:List (List UInt8)) (l:List Ye) (f:List Zx) (d:List Zc) (h j:List Zh) (i:List Ze) (k:List Zm):Option ((Int×(List Zk)×(List Zl)×(List (List UInt8))×(List Ye)×(List Zx)×(List Zc)×(List Zh)×(List Zh)×(List Ze)×(List Zm)×Unit) ⊕ Bool):=
if c<(b.length:Int) then
(atI b c).bind λn=>
(ZAC ((e,()),(g,m,l,()),f,()) (d,h,j,i,k,()) n).bind λa=>
if a.2.2.2=0 then
some (.inl (Wq (c+1),a.1.1.1,a.1.2.1.1,a.1.2.1.2.1,a.1.2.1.2.2.1,a.1.2.2.1,a.2.1.1,a.2.1.2.1,a.2.1.2.2.1,a.2.1.2.2.2.1,a.2.1.2.2.2.2.1,()))
else
some (.inr false)
else
some (.inr (decide ((b.length:Int)<=10)))
def ZDl (b:Zj) (a:Zo) (c:List ZgL):Option Bool:=
Zq (λv=>ZAB c v.1 v.2.1 v.2.2.1 v.2.2.2.1 v.2.2.2.2.1 v.2.2.2.2.2.1 v.2.2.2.2.2.2.1 v.2.2.2.2.2.2.2.1 v.2.2.2.2.2.2.2.2.1 v.2.2.2.2.2.2.2.2.2.1 v.2.2.2.2.2.2.2.2.2.2.1) ((0:Int),Zt.Cells (Zj.Library b),Zg.Instances (Zj.Design b),Zg.X7 (Zj.Design b),Zg.Xb (Zj.Design b),Zj.Qg b,Zo.Yk a,Zo.Zbb a,Zo.Vp a,Zo.Exceptions a,Zo.X5 a,())
def c82:Ctr:=D3 (Xz) (Vh) (.sl (Zug)) (.bool) ZDl
def ZCw (a:ZdQ):Option Bool:=
(Zeo (ZdQ.Block a) (ZdQ.Setup a)).bind λc=>
if c then
(ZDl (ZdQ.Block a) (ZdQ.Setup a) (ZdQ.Zyu a)).bind λb=>
if b then
(ZDl (ZdQ.Block a) (ZdQ.Setup a) (ZdQ.Zyt a)).bind λd=>
some d
else
some false
else
some false
def c83:Ctr:=D1 (Zth) (.bool) ZCw
def ZEx (a:ZgL):Option ZgL:=
(ZBG (ZgL.ZAj a)).bind λb=>
some (ZgL.Kind a,ZgL.Place a,ZgL.Cell a,ZgL.Net a,ZgL.Node a,ZgL.Name a,b,())
def c84:Ctr:=⟨[.dat (Zug)],[.own (ZF3)],λa K=>ZT a λb a=>QN (ZEx b) λr=>K (r,()) ()⟩
def ZCS (b a:List ZgL) (c:Int):Option (((List ZgL)×Int×Unit) ⊕ List ZgL):=
if c<(b.length:Int) then
(atI b c).bind λe=>
(ZEx e).bind λd=>
Zp ((a.length+[d].length)*(152:Nat)<=(140737488355328:Nat))<|
some (.inl (a++[d],Wq (c+1),()))
else
some (.inr a)
def ZD7 (a:List ZgL):Option (List ZgL):=
Zq (λv=>ZCS a v.1 v.2.1) (([]:List ZgL),(1:Int),())
def c85:Ctr:=⟨[.dat (.sl (Zug))],[.own (.ol 69 (ZF3))],λa K=>ZT a λb a=>QN (ZD7 b) λr=>K (r,()) ()⟩
def ZCo (b a:List ZgL) (c:Int):Option (((List ZgL)×Int×Unit) ⊕ List ZgL):=
if c<(b.length:Int) then
if (a.length:Int)<10 then
(atI b c).bind λe=>
(ZEx e).bind λd=>
Zp ((a.length+[d].length)*(152:Nat)<=(140737488355328:Nat))<|
some (.inl (a++[d],Wq (c+1),()))
else
some (.inr a)
else
some (.inr a)
def ZC8 (a:ZgL) (b:List ZgL):Option (List ZgL):=
Zq (λv=>ZCo b v.1 v.2.1) ([a],(0:Int),())
def c86:Ctr:=⟨[.dat (Zug),.dat (.sl (Zug))],[.own (.ol 69 (.flat (Zug)))],λa K=>ZT a λb a=>ZT a λc a=>QN (ZC8 b c) λr=>K (r,()) ()⟩
def ZDk (a:ZdQ):Option (ZdQ×Int):=
(ZCw a).bind λc=>
if c then
if ((ZdQ.Zyu a).length:Int)=0 then
some (((([],()),([],[],[],()),[],()),([],[],[],[],[],()),[],[],()),5)
else
(atI (ZdQ.Zyu a) 0).bind λe=>
(ZAC (ZdQ.Block a) (ZdQ.Setup a) e).bind λb=>
(ZD7 (ZdQ.Zyu a)).bind λf=>
(ZC8 b.2.2.1 (ZdQ.Zyt a)).bind λd=>
some ((b.1,b.2.1,f,d,()),0)
else
some (((([],()),([],[],[],()),[],()),([],[],[],[],[],()),[],[],()),1)
def c87:Ctr:=⟨[.dat (Zth)],[.dat (Zth),.dat Iq],λa K=>ZT a λb a=>QN (ZDk b) λr=>K (r.1,r.2,()) ()⟩
def ZDj (a:ZdQ):Option (ZdQ×Int):=
(ZCw a).bind λc=>
if c then
if ((ZdQ.Zyt a).length:Int)=0 then
some (((([],()),([],[],[],()),[],()),([],[],[],[],[],()),[],[],()),5)
else
(atI (ZdQ.Zyt a) 0).bind λe=>
(ZAC (ZdQ.Block a) (ZdQ.Setup a) e).bind λb=>
(ZC8 b.2.2.1 (ZdQ.Zyu a)).bind λf=>
(ZD7 (ZdQ.Zyt a)).bind λd=>
some ((b.1,b.2.1,f,d,()),0)
else
some (((([],()),([],[],[],()),[],()),([],[],[],[],[],()),[],[],()),1)
def c88:Ctr:=⟨[.dat (Zth)],[.dat (Zth),.dat Iq],λa K=>ZT a λb a=>QN (ZDj b) λr=>K (r.1,r.2,()) ()⟩
def ZDI (b d:Int) (a:List Ya) (c:Int):Option ((Int×Unit) ⊕ Int):=
if c<(a.length:Int) then
(atI a c).bind λe=>
if Ya.instance e=b then
if Ya.pin e=d then
some (.inr c)
else
some (.inl (Wq (c+1),()))
else
some (.inl (Wq (c+1),()))
else
some (.inr (-1))
def ZDt (d:Zg) (a b:Int):Option Int:=
(X3 d).bind λc=>
Zq (λv=>ZDI a b c v.1) ((0:Int),())
def c89:Ctr:=D3 (YU) Iq Iq Iq ZDt
def ZCG (a:List Ya) (b:Int×Zdd) (e f:Int):Option ((Int×Int×Unit) ⊕ (Int×Zdd)):=
if f<(a.length:Int) then
(atI a e).bind λg=>
if (Ya.drives g)=true then
Zp ((a.length:Int)≠(0:Int))<|
some (.inl (Int.tmod (Wq (e+1)) (a.length:Int),Wq (f+1),()))
else
(ZAm b.2 12).bind λc=>
if c.1=0 then
(ZAm c.2 (Wq ((a.length:Int)+2))).bind λd=>
some (.inr (Wq (d.1-1),d.2))
else
some (.inr (e,c.2))
else
(ZAm b.2 12).bind λc=>
if c.1=0 then
(ZAm c.2 (Wq ((a.length:Int)+2))).bind λd=>
some (.inr (Wq (d.1-1),d.2))
else
some (.inr (e,c.2))
def ZAI (c:Zdd) (d:Zj):Option (Int×Zdd):=
(X3 (Zj.Design d)).bind λb=>
(ZAm c (b.length:Int)).bind λa=>
Zq (λv=>ZCG b a v.1 v.2.1) (a.1,(0:Int),())
def c90:Ctr:=⟨[.io (.flat (ZqI)),.dat (Xz)],[.dat Iq],λa K=>ZT a λc a=>ZT a λb a=>QN (ZAI c b) λr=>K (r.1,()) (r.2,())⟩
def ZDu (o:Zdd) (f:Zj):Option (ZgL×Zdd):=
(ZcD f).bind λp=>
if p then
if ((Zj.Qg f).length:Int)=0 then
some ((3,0,0,0,0,[],([],[],[],[],()),()),o)
else
(X3 (Zj.Design f)).bind λj=>
(ZAm o 8).bind λh=>
if h.1=0 then
if h.1=0 then
(ZAm h.2 ((Zg.Instances (Zj.Design f)).length:Int)).bind λc=>
(atI (Zg.Instances (Zj.Design f)) c.1).bind λk=>
(ZDt (Zj.Design f) c.1 (Wq (((Zl.X7 k).length:Int)-1))).bind λm=>
(atI ([(1:Int),0,3,2,4,6,5,7]) (Int.tmod (Zl.Cell k) (8:Int))).bind λl=>
(ZAm c.2 30).bind λb=>
if b.1=0 then
(ZAm b.2 7).bind λa=>
some ((a.1,m,l,0,0,[],([],[],[],[],()),()),a.2)
else
if b.1=1 then
(ZAm b.2 10).bind λa=>
some ((1,m,Wq (a.1-1),0,0,[],([],[],[],[],()),()),a.2)
else
if b.1=2 then
(ZAm b.2 (Wq (((Zj.Qg f).length:Int)+2))).bind λa=>
some ((1,m,l,Wq (a.1-1),0,[],([],[],[],[],()),()),a.2)
else
if b.1=3 then
(ZAm b.2 (Wq ((j.length:Int)+2))).bind λa=>
some ((1,Wq (a.1-1),l,0,0,[],([],[],[],[],()),()),a.2)
else
if b.1=4 then
some ((1,m,l,0,0,[(66:UInt8),97,100],([],[],[],[],()),()),b.2)
else
some ((1,m,l,0,0,[],([],[],[],[],()),()),b.2)
else
if h.1=2 then
if h.1=2 then
(ZAI h.2 f).bind λe=>
(ZAm e.2 2).bind λc=>
(ZAm c.2 3).bind λb=>
(Zaw b.1).bind λi=>
Zp ((([(120:UInt8)].length):Int)+(i.length:Int)<=(9223372036854775807:Int))<|
(ZAm b.2 30).bind λa=>
if a.1=0 then
(ZAm a.2 7).bind λd=>
some ((d.1,e.1,c.1,0,0,[(120:UInt8)]++i,([],[],[],[],()),()),d.2)
else
if a.1=1 then
(ZAm a.2 10).bind λd=>
some ((2,e.1,Wq (d.1-1),0,0,[(120:UInt8)]++i,([],[],[],[],()),()),d.2)
else
if a.1=2 then
(ZAm a.2 (Wq (((Zj.Qg f).length:Int)+2))).bind λd=>
some ((2,e.1,c.1,Wq (d.1-1),0,[(120:UInt8)]++i,([],[],[],[],()),()),d.2)
else
if a.1=3 then
(ZAm a.2 (Wq ((j.length:Int)+2))).bind λd=>
some ((2,Wq (d.1-1),c.1,0,0,[(120:UInt8)]++i,([],[],[],[],()),()),d.2)
else
if a.1=4 then
some ((2,e.1,c.1,0,0,[(66:UInt8),97,100],([],[],[],[],()),()),a.2)
else
some ((2,e.1,c.1,0,0,[(120:UInt8)]++i,([],[],[],[],()),()),a.2)
else
if h.1=4 then
(ZAm h.2 30).bind λc=>
if c.1=0 then
(ZAm c.2 7).bind λb=>
some ((b.1,0,0,0,0,[],([],[],[],[],()),()),b.2)
else
if c.1=1 then
(ZAm c.2 10).bind λb=>
some ((3,0,Wq (b.1-1),0,0,[],([],[],[],[],()),()),b.2)
else
if c.1=2 then
(ZAm c.2 (Wq (((Zj.Qg f).length:Int)+2))).bind λb=>
some ((3,0,0,Wq (b.1-1),0,[],([],[],[],[],()),()),b.2)
else
if c.1=3 then
(ZAm c.2 (Wq ((j.length:Int)+2))).bind λb=>
some ((3,Wq (b.1-1),0,0,0,[],([],[],[],[],()),()),b.2)
else
if c.1=4 then
some ((3,0,0,0,0,[(66:UInt8),97,100],([],[],[],[],()),()),c.2)
else
some ((3,0,0,0,0,[],([],[],[],[],()),()),c.2)
else
if h.1=5 then
(ZAI h.2 f).bind λe=>
(ZAm e.2 ((Zj.Qg f).length:Int)).bind λc=>
(atI (Zj.Qg f) c.1).bind λk=>
(ZAm c.2 ((Zx.Parent k).length:Int)).bind λb=>
(ZAm b.2 30).bind λa=>
if a.1=0 then
(ZAm a.2 7).bind λd=>
some ((d.1,e.1,0,c.1,b.1,[],([],[],[],[],()),()),d.2)
else
if a.1=1 then
(ZAm a.2 10).bind λd=>
some ((4,e.1,Wq (d.1-1),c.1,b.1,[],([],[],[],[],()),()),d.2)
else
if a.1=2 then
(ZAm a.2 (Wq (((Zj.Qg f).length:Int)+2))).bind λd=>
some ((4,e.1,0,Wq (d.1-1),b.1,[],([],[],[],[],()),()),d.2)
else
if a.1=3 then
(ZAm a.2 (Wq ((j.length:Int)+2))).bind λd=>
some ((4,Wq (d.1-1),0,c.1,b.1,[],([],[],[],[],()),()),d.2)
else
if a.1=4 then
some ((4,e.1,0,c.1,b.1,[(66:UInt8),97,100],([],[],[],[],()),()),a.2)
else
some ((4,e.1,0,c.1,b.1,[],([],[],[],[],()),()),a.2)
else
(ZAm h.2 ((Zj.Qg f).length:Int)).bind λc=>
(Zc8 (Zj.Design f) c.1).bind λn=>
(ZA1 c.2 (n.length:Int)).bind λg=>
(ZAm g.2 30).bind λb=>
if b.1=0 then
(ZAm b.2 7).bind λa=>
some ((a.1,0,0,c.1,0,[],g.1,()),a.2)
else
if b.1=1 then
(ZAm b.2 10).bind λa=>
some ((5,0,Wq (a.1-1),c.1,0,[],g.1,()),a.2)
else
if b.1=2 then
(ZAm b.2 (Wq (((Zj.Qg f).length:Int)+2))).bind λa=>
some ((5,0,0,Wq (a.1-1),0,[],g.1,()),a.2)
else
if b.1=3 then
(ZAm b.2 (Wq ((j.length:Int)+2))).bind λa=>
some ((5,Wq (a.1-1),0,c.1,0,[],g.1,()),a.2)
else
if b.1=4 then
some ((5,0,0,c.1,0,[(66:UInt8),97,100],g.1,()),b.2)
else
some ((5,0,0,c.1,0,[],g.1,()),b.2)
else
if h.1=3 then
(ZAI h.2 f).bind λe=>
(ZAm e.2 2).bind λc=>
(ZAm c.2 3).bind λb=>
(Zaw b.1).bind λi=>
Zp ((([(120:UInt8)].length):Int)+(i.length:Int)<=(9223372036854775807:Int))<|
(ZAm b.2 30).bind λa=>
if a.1=0 then
(ZAm a.2 7).bind λd=>
some ((d.1,e.1,c.1,0,0,[(120:UInt8)]++i,([],[],[],[],()),()),d.2)
else
if a.1=1 then
(ZAm a.2 10).bind λd=>
some ((2,e.1,Wq (d.1-1),0,0,[(120:UInt8)]++i,([],[],[],[],()),()),d.2)
else
if a.1=2 then
(ZAm a.2 (Wq (((Zj.Qg f).length:Int)+2))).bind λd=>
some ((2,e.1,c.1,Wq (d.1-1),0,[(120:UInt8)]++i,([],[],[],[],()),()),d.2)
else
if a.1=3 then
(ZAm a.2 (Wq ((j.length:Int)+2))).bind λd=>
some ((2,Wq (d.1-1),c.1,0,0,[(120:UInt8)]++i,([],[],[],[],()),()),d.2)
else
if a.1=4 then
some ((2,e.1,c.1,0,0,[(66:UInt8),97,100],([],[],[],[],()),()),a.2)
else
some ((2,e.1,c.1,0,0,[(120:UInt8)]++i,([],[],[],[],()),()),a.2)
else
if h.1=4 then
(ZAm h.2 30).bind λc=>
if c.1=0 then
(ZAm c.2 7).bind λb=>
some ((b.1,0,0,0,0,[],([],[],[],[],()),()),b.2)
else
if c.1=1 then
(ZAm c.2 10).bind λb=>
some ((3,0,Wq (b.1-1),0,0,[],([],[],[],[],()),()),b.2)
else
if c.1=2 then
(ZAm c.2 (Wq (((Zj.Qg f).length:Int)+2))).bind λb=>
some ((3,0,0,Wq (b.1-1),0,[],([],[],[],[],()),()),b.2)
else
if c.1=3 then
(ZAm c.2 (Wq ((j.length:Int)+2))).bind λb=>
some ((3,Wq (b.1-1),0,0,0,[],([],[],[],[],()),()),b.2)
else
if c.1=4 then
some ((3,0,0,0,0,[(66:UInt8),97,100],([],[],[],[],()),()),c.2)
else
some ((3,0,0,0,0,[],([],[],[],[],()),()),c.2)
else
if h.1=5 then
(ZAI h.2 f).bind λe=>
(ZAm e.2 ((Zj.Qg f).length:Int)).bind λc=>
(atI (Zj.Qg f) c.1).bind λk=>
(ZAm c.2 ((Zx.Parent k).length:Int)).bind λb=>
(ZAm b.2 30).bind λa=>
if a.1=0 then
(ZAm a.2 7).bind λd=>
some ((d.1,e.1,0,c.1,b.1,[],([],[],[],[],()),()),d.2)
else
if a.1=1 then
(ZAm a.2 10).bind λd=>
some ((4,e.1,Wq (d.1-1),c.1,b.1,[],([],[],[],[],()),()),d.2)
else
if a.1=2 then
(ZAm a.2 (Wq (((Zj.Qg f).length:Int)+2))).bind λd=>
some ((4,e.1,0,Wq (d.1-1),b.1,[],([],[],[],[],()),()),d.2)
else
if a.1=3 then
(ZAm a.2 (Wq ((j.length:Int)+2))).bind λd=>
some ((4,Wq (d.1-1),0,c.1,b.1,[],([],[],[],[],()),()),d.2)
else
if a.1=4 then
some ((4,e.1,0,c.1,b.1,[(66:UInt8),97,100],([],[],[],[],()),()),a.2)
else
some ((4,e.1,0,c.1,b.1,[],([],[],[],[],()),()),a.2)
else
(ZAm h.2 ((Zj.Qg f).length:Int)).bind λc=>
(Zc8 (Zj.Design f) c.1).bind λn=>
(ZA1 c.2 (n.length:Int)).bind λg=>
(ZAm g.2 30).bind λb=>
if b.1=0 then
(ZAm b.2 7).bind λa=>
some ((a.1,0,0,c.1,0,[],g.1,()),a.2)
else
if b.1=1 then
(ZAm b.2 10).bind λa=>
some ((5,0,Wq (a.1-1),c.1,0,[],g.1,()),a.2)
else
if b.1=2 then
(ZAm b.2 (Wq (((Zj.Qg f).length:Int)+2))).bind λa=>
some ((5,0,0,Wq (a.1-1),0,[],g.1,()),a.2)
else
if b.1=3 then
(ZAm b.2 (Wq ((j.length:Int)+2))).bind λa=>
some ((5,Wq (a.1-1),0,c.1,0,[],g.1,()),a.2)
else
if b.1=4 then
some ((5,0,0,c.1,0,[(66:UInt8),97,100],g.1,()),b.2)
else
some ((5,0,0,c.1,0,[],g.1,()),b.2)
else
if h.1=1 then
(ZAm h.2 ((Zg.Instances (Zj.Design f)).length:Int)).bind λc=>
(atI (Zg.Instances (Zj.Design f)) c.1).bind λk=>
(ZDt (Zj.Design f) c.1 (Wq (((Zl.X7 k).length:Int)-1))).bind λm=>
(atI ([(1:Int),0,3,2,4,6,5,7]) (Int.tmod (Zl.Cell k) (8:Int))).bind λl=>
(ZAm c.2 30).bind λb=>
if b.1=0 then
(ZAm b.2 7).bind λa=>
some ((a.1,m,l,0,0,[],([],[],[],[],()),()),a.2)
else
if b.1=1 then
(ZAm b.2 10).bind λa=>
some ((1,m,Wq (a.1-1),0,0,[],([],[],[],[],()),()),a.2)
else
if b.1=2 then
(ZAm b.2 (Wq (((Zj.Qg f).length:Int)+2))).bind λa=>
some ((1,m,l,Wq (a.1-1),0,[],([],[],[],[],()),()),a.2)
else
if b.1=3 then
(ZAm b.2 (Wq ((j.length:Int)+2))).bind λa=>
some ((1,Wq (a.1-1),l,0,0,[],([],[],[],[],()),()),a.2)
else
if b.1=4 then
some ((1,m,l,0,0,[(66:UInt8),97,100],([],[],[],[],()),()),b.2)
else
some ((1,m,l,0,0,[],([],[],[],[],()),()),b.2)
else
if h.1=2 then
if h.1=2 then
(ZAI h.2 f).bind λe=>
(ZAm e.2 2).bind λc=>
(ZAm c.2 3).bind λb=>
(Zaw b.1).bind λi=>
Zp ((([(120:UInt8)].length):Int)+(i.length:Int)<=(9223372036854775807:Int))<|
(ZAm b.2 30).bind λa=>
if a.1=0 then
(ZAm a.2 7).bind λd=>
some ((d.1,e.1,c.1,0,0,[(120:UInt8)]++i,([],[],[],[],()),()),d.2)
else
if a.1=1 then
(ZAm a.2 10).bind λd=>
some ((2,e.1,Wq (d.1-1),0,0,[(120:UInt8)]++i,([],[],[],[],()),()),d.2)
else
if a.1=2 then
(ZAm a.2 (Wq (((Zj.Qg f).length:Int)+2))).bind λd=>
some ((2,e.1,c.1,Wq (d.1-1),0,[(120:UInt8)]++i,([],[],[],[],()),()),d.2)
else
if a.1=3 then
(ZAm a.2 (Wq ((j.length:Int)+2))).bind λd=>
some ((2,Wq (d.1-1),c.1,0,0,[(120:UInt8)]++i,([],[],[],[],()),()),d.2)
else
if a.1=4 then
some ((2,e.1,c.1,0,0,[(66:UInt8),97,100],([],[],[],[],()),()),a.2)
else
some ((2,e.1,c.1,0,0,[(120:UInt8)]++i,([],[],[],[],()),()),a.2)
else
if h.1=4 then
(ZAm h.2 30).bind λc=>
if c.1=0 then
(ZAm c.2 7).bind λb=>
some ((b.1,0,0,0,0,[],([],[],[],[],()),()),b.2)
else
if c.1=1 then
(ZAm c.2 10).bind λb=>
some ((3,0,Wq (b.1-1),0,0,[],([],[],[],[],()),()),b.2)
else
if c.1=2 then
(ZAm c.2 (Wq (((Zj.Qg f).length:Int)+2))).bind λb=>
some ((3,0,0,Wq (b.1-1),0,[],([],[],[],[],()),()),b.2)
else
if c.1=3 then
(ZAm c.2 (Wq ((j.length:Int)+2))).bind λb=>
some ((3,Wq (b.1-1),0,0,0,[],([],[],[],[],()),()),b.2)
else
if c.1=4 then
some ((3,0,0,0,0,[(66:UInt8),97,100],([],[],[],[],()),()),c.2)
else
some ((3,0,0,0,0,[],([],[],[],[],()),()),c.2)
else
if h.1=5 then
(ZAI h.2 f).bind λe=>
(ZAm e.2 ((Zj.Qg f).length:Int)).bind λc=>
(atI (Zj.Qg f) c.1).bind λk=>
(ZAm c.2 ((Zx.Parent k).length:Int)).bind λb=>
(ZAm b.2 30).bind λa=>
if a.1=0 then
(ZAm a.2 7).bind λd=>
some ((d.1,e.1,0,c.1,b.1,[],([],[],[],[],()),()),d.2)
else
if a.1=1 then
(ZAm a.2 10).bind λd=>
some ((4,e.1,Wq (d.1-1),c.1,b.1,[],([],[],[],[],()),()),d.2)
else
if a.1=2 then
(ZAm a.2 (Wq (((Zj.Qg f).length:Int)+2))).bind λd=>
some ((4,e.1,0,Wq (d.1-1),b.1,[],([],[],[],[],()),()),d.2)
else
if a.1=3 then
(ZAm a.2 (Wq ((j.length:Int)+2))).bind λd=>
some ((4,Wq (d.1-1),0,c.1,b.1,[],([],[],[],[],()),()),d.2)
else
if a.1=4 then
some ((4,e.1,0,c.1,b.1,[(66:UInt8),97,100],([],[],[],[],()),()),a.2)
else
some ((4,e.1,0,c.1,b.1,[],([],[],[],[],()),()),a.2)
else
(ZAm h.2 ((Zj.Qg f).length:Int)).bind λc=>
(Zc8 (Zj.Design f) c.1).bind λn=>
(ZA1 c.2 (n.length:Int)).bind λg=>
(ZAm g.2 30).bind λb=>
if b.1=0 then
(ZAm b.2 7).bind λa=>
some ((a.1,0,0,c.1,0,[],g.1,()),a.2)
else
if b.1=1 then
(ZAm b.2 10).bind λa=>
some ((5,0,Wq (a.1-1),c.1,0,[],g.1,()),a.2)
else
if b.1=2 then
(ZAm b.2 (Wq (((Zj.Qg f).length:Int)+2))).bind λa=>
some ((5,0,0,Wq (a.1-1),0,[],g.1,()),a.2)
else
if b.1=3 then
(ZAm b.2 (Wq ((j.length:Int)+2))).bind λa=>
some ((5,Wq (a.1-1),0,c.1,0,[],g.1,()),a.2)
else
if b.1=4 then
some ((5,0,0,c.1,0,[(66:UInt8),97,100],g.1,()),b.2)
else
some ((5,0,0,c.1,0,[],g.1,()),b.2)
else
if h.1=3 then
(ZAI h.2 f).bind λe=>
(ZAm e.2 2).bind λc=>
(ZAm c.2 3).bind λb=>
(Zaw b.1).bind λi=>
Zp ((([(120:UInt8)].length):Int)+(i.length:Int)<=(9223372036854775807:Int))<|
(ZAm b.2 30).bind λa=>
if a.1=0 then
(ZAm a.2 7).bind λd=>
some ((d.1,e.1,c.1,0,0,[(120:UInt8)]++i,([],[],[],[],()),()),d.2)
else
if a.1=1 then
(ZAm a.2 10).bind λd=>
some ((2,e.1,Wq (d.1-1),0,0,[(120:UInt8)]++i,([],[],[],[],()),()),d.2)
else
if a.1=2 then
(ZAm a.2 (Wq (((Zj.Qg f).length:Int)+2))).bind λd=>
some ((2,e.1,c.1,Wq (d.1-1),0,[(120:UInt8)]++i,([],[],[],[],()),()),d.2)
else
if a.1=3 then
(ZAm a.2 (Wq ((j.length:Int)+2))).bind λd=>
some ((2,Wq (d.1-1),c.1,0,0,[(120:UInt8)]++i,([],[],[],[],()),()),d.2)
else
if a.1=4 then
some ((2,e.1,c.1,0,0,[(66:UInt8),97,100],([],[],[],[],()),()),a.2)
else
some ((2,e.1,c.1,0,0,[(120:UInt8)]++i,([],[],[],[],()),()),a.2)
else
if h.1=4 then
(ZAm h.2 30).bind λc=>
if c.1=0 then
(ZAm c.2 7).bind λb=>
some ((b.1,0,0,0,0,[],([],[],[],[],()),()),b.2)
else
if c.1=1 then
(ZAm c.2 10).bind λb=>
some ((3,0,Wq (b.1-1),0,0,[],([],[],[],[],()),()),b.2)
else
if c.1=2 then
(ZAm c.2 (Wq (((Zj.Qg f).length:Int)+2))).bind λb=>
some ((3,0,0,Wq (b.1-1),0,[],([],[],[],[],()),()),b.2)
else
if c.1=3 then
(ZAm c.2 (Wq ((j.length:Int)+2))).bind λb=>
some ((3,Wq (b.1-1),0,0,0,[],([],[],[],[],()),()),b.2)
else
if c.1=4 then
some ((3,0,0,0,0,[(66:UInt8),97,100],([],[],[],[],()),()),c.2)
else
some ((3,0,0,0,0,[],([],[],[],[],()),()),c.2)
else
if h.1=5 then
(ZAI h.2 f).bind λe=>
(ZAm e.2 ((Zj.Qg f).length:Int)).bind λc=>
(atI (Zj.Qg f) c.1).bind λk=>
(ZAm c.2 ((Zx.Parent k).length:Int)).bind λb=>
(ZAm b.2 30).bind λa=>
if a.1=0 then
(ZAm a.2 7).bind λd=>
some ((d.1,e.1,0,c.1,b.1,[],([],[],[],[],()),()),d.2)
else
if a.1=1 then
(ZAm a.2 10).bind λd=>
some ((4,e.1,Wq (d.1-1),c.1,b.1,[],([],[],[],[],()),()),d.2)
else
if a.1=2 then
(ZAm a.2 (Wq (((Zj.Qg f).length:Int)+2))).bind λd=>
some ((4,e.1,0,Wq (d.1-1),b.1,[],([],[],[],[],()),()),d.2)
else
if a.1=3 then
(ZAm a.2 (Wq ((j.length:Int)+2))).bind λd=>
some ((4,Wq (d.1-1),0,c.1,b.1,[],([],[],[],[],()),()),d.2)
else
if a.1=4 then
some ((4,e.1,0,c.1,b.1,[(66:UInt8),97,100],([],[],[],[],()),()),a.2)
else
some ((4,e.1,0,c.1,b.1,[],([],[],[],[],()),()),a.2)
else
(ZAm h.2 ((Zj.Qg f).length:Int)).bind λc=>
(Zc8 (Zj.Design f) c.1).bind λn=>
(ZA1 c.2 (n.length:Int)).bind λg=>
(ZAm g.2 30).bind λb=>
if b.1=0 then
(ZAm b.2 7).bind λa=>
some ((a.1,0,0,c.1,0,[],g.1,()),a.2)
else
if b.1=1 then
(ZAm b.2 10).bind λa=>
some ((5,0,Wq (a.1-1),c.1,0,[],g.1,()),a.2)
else
if b.1=2 then
(ZAm b.2 (Wq (((Zj.Qg f).length:Int)+2))).bind λa=>
some ((5,0,0,Wq (a.1-1),0,[],g.1,()),a.2)
else
if b.1=3 then
(ZAm b.2 (Wq ((j.length:Int)+2))).bind λa=>
some ((5,Wq (a.1-1),0,c.1,0,[],g.1,()),a.2)
else
if b.1=4 then
some ((5,0,0,c.1,0,[(66:UInt8),97,100],g.1,()),b.2)
else
some ((5,0,0,c.1,0,[],g.1,()),b.2)
else
some ((3,0,0,0,0,[],([],[],[],[],()),()),o)
def c91:Ctr:=⟨[.io (.flat (ZqI)),.dat (Xz)],[.own (ZF3)],λa K=>ZT a λc a=>ZT a λb a=>QN (ZDu c b) λr=>K (r.1,()) (r.2,())⟩
def ZDh (b:ZdQ) (d:ZgL):Option (ZdQ×Int):=
(ZCw b).bind λc=>
if c then
(ZAC (ZdQ.Block b) (ZdQ.Setup b) d).bind λa=>
if a.2.2.2=0 then
(ZC8 a.2.2.1 (ZdQ.Zyu b)).bind λe=>
some ((a.1,a.2.1,e,[],()),0)
else
some (((([],()),([],[],[],()),[],()),([],[],[],[],[],()),[],[],()),a.2.2.2)
else
some (((([],()),([],[],[],()),[],()),([],[],[],[],[],()),[],[],()),1)
def c92:Ctr:=⟨[.dat (Zth),.dat (Zug)],[.dat (Zth),.dat Iq],λa K=>ZT a λb a=>ZT a λc a=>QN (ZDh b c) λr=>K (r.1,r.2,()) ()⟩
def ZDN (o:Int) (s:List Int) (t u:Int) (n:List Zk) (j:List Zl) (l:List (List UInt8)) (m:List Ye) (k:List Zx) (p:List Zc) (q i:List Zh) (f:List Ze) (h:List Zm) (e g:List ZgL):Option ((Int×(List Int)×Int×Int×(List Zk)×(List Zl)×(List (List UInt8))×(List Ye)×(List Zx)×(List Zc)×(List Zh)×(List Zh)×(List Ze)×(List Zm)×(List ZgL)×(List ZgL)×Unit) ⊕ (ZdQ×Zdd)):=
if 0<o then
(ZAm (s,t,u,()) 4).bind λa=>
if a.1=0 then
(ZDk (((n,()),(j,l,m,()),k,()),(p,q,i,f,h,()),e,g,())).bind λc=>
if c.2=0 then
some (.inl (Wq (o-1),a.2.1,a.2.2.1,a.2.2.2.1,c.1.1.1.1,c.1.1.2.1.1,c.1.1.2.1.2.1,c.1.1.2.1.2.2.1,c.1.1.2.2.1,c.1.2.1.1,c.1.2.1.2.1,c.1.2.1.2.2.1,c.1.2.1.2.2.2.1,c.1.2.1.2.2.2.2.1,c.1.2.2.1,c.1.2.2.2.1,()))
else
some (.inl (Wq (o-1),a.2.1,a.2.2.1,a.2.2.2.1,n,j,l,m,k,p,q,i,f,h,e,g,()))
else
if a.1=1 then
(ZDj (((n,()),(j,l,m,()),k,()),(p,q,i,f,h,()),e,g,())).bind λd=>
if d.2=0 then
some (.inl (Wq (o-1),a.2.1,a.2.2.1,a.2.2.2.1,d.1.1.1.1,d.1.1.2.1.1,d.1.1.2.1.2.1,d.1.1.2.1.2.2.1,d.1.1.2.2.1,d.1.2.1.1,d.1.2.1.2.1,d.1.2.1.2.2.1,d.1.2.1.2.2.2.1,d.1.2.1.2.2.2.2.1,d.1.2.2.1,d.1.2.2.2.1,()))
else
some (.inl (Wq (o-1),a.2.1,a.2.2.1,a.2.2.2.1,n,j,l,m,k,p,q,i,f,h,e,g,()))
else
(ZDu a.2 ((n,()),(j,l,m,()),k,())).bind λr=>
(ZDh (((n,()),(j,l,m,()),k,()),(p,q,i,f,h,()),e,g,()) r.1).bind λb=>
if b.2=0 then
some (.inl (Wq (o-1),r.2.1,r.2.2.1,r.2.2.2.1,b.1.1.1.1,b.1.1.2.1.1,b.1.1.2.1.2.1,b.1.1.2.1.2.2.1,b.1.1.2.2.1,b.1.2.1.1,b.1.2.1.2.1,b.1.2.1.2.2.1,b.1.2.1.2.2.2.1,b.1.2.1.2.2.2.2.1,b.1.2.2.1,b.1.2.2.2.1,()))
else
some (.inl (Wq (o-1),r.2.1,r.2.2.1,r.2.2.2.1,n,j,l,m,k,p,q,i,f,h,e,g,()))
else
some (.inr ((((n,()),(j,l,m,()),k,()),(p,q,i,f,h,()),e,g,()),(s,t,u,())))
def ZEE (d:Zdd):Option (ZdQ×Zdd):=
(ZD6 d).bind λc=>
(ZDi c.1 c.2.1).bind λa=>
(ZAm c.2.2 4).bind λb=>
Zq (λv=>ZDN v.1 v.2.1 v.2.2.1 v.2.2.2.1 v.2.2.2.2.1 v.2.2.2.2.2.1 v.2.2.2.2.2.2.1 v.2.2.2.2.2.2.2.1 v.2.2.2.2.2.2.2.2.1 v.2.2.2.2.2.2.2.2.2.1 v.2.2.2.2.2.2.2.2.2.2.1 v.2.2.2.2.2.2.2.2.2.2.2.1 v.2.2.2.2.2.2.2.2.2.2.2.2.1 v.2.2.2.2.2.2.2.2.2.2.2.2.2.1 v.2.2.2.2.2.2.2.2.2.2.2.2.2.2.1 v.2.2.2.2.2.2.2.2.2.2.2.2.2.2.2.1) (b.1,b.2.1,b.2.2.1,b.2.2.2.1,a.1.1.1.1,a.1.1.2.1.1,a.1.1.2.1.2.1,a.1.1.2.1.2.2.1,a.1.1.2.2.1,a.1.2.1.1,a.1.2.1.2.1,a.1.2.1.2.2.1,a.1.2.1.2.2.2.1,a.1.2.1.2.2.2.2.1,a.1.2.2.1,a.1.2.2.2.1,())
def c93:Ctr:=⟨[.io (.flat (ZqI))],[.dat (Zth)],λa K=>ZT a λb a=>QN (ZEE b) λr=>K (r.1,()) (r.2,())⟩
def ZDM (f:Zdd):Option (Zj×Zo×Zdd):=
(ZD6 f).bind λa=>
(ZAm a.2.2 24).bind λb=>
if b.1=0 then
(ZAm b.2 2).bind λe=>
(atI ([(-1:Int),1000]) e.1).bind λc=>
(atI a.2.1.1 0).bind λd=>
some (a.1,(List.set a.2.1.1 (Int.toNat 0) (Zc.Name d,c,d.2.2),a.2.1.2),e.2)
else
if b.1=1 then
if 0<(a.2.1.2.1.length:Int) then
(ZAm b.2 2).bind λe=>
(atI ([(-1:Int),6]) e.1).bind λc=>
(atI a.2.1.2.1 0).bind λd=>
some (a.1,(a.2.1.1,List.set a.2.1.2.1 (Int.toNat 0) (Zh.Place d,c,d.2.2),a.2.1.2.2),e.2)
else
some (a.1,a.2.1,b.2)
else
if b.1=2 then
if 0<(a.2.1.2.1.length:Int) then
(atI a.2.1.2.1 0).bind λc=>
some (a.1,(a.2.1.1,List.set a.2.1.2.1 (Int.toNat 0) (Zh.Place c,Zh.Clock c,(Wq (Yb.Late (Zh.Delay c)+1),(Zh.Delay c).2),c.2.2.2),a.2.1.2.2),b.2)
else
some (a.1,a.2.1,b.2)
else
if b.1=3 then
if 0<(a.2.1.2.2.1.length:Int) then
(atI a.2.1.2.2.1 0).bind λc=>
some (a.1,(a.2.1.1,a.2.1.2.1,List.set a.2.1.2.2.1 (Int.toNat 0) (Zh.Place c,Zh.Clock c,Zh.Delay c,(Yb.Early (Zh.Za2 c),1,()),()),a.2.1.2.2.2),b.2)
else
some (a.1,a.2.1,b.2)
else
if b.1=4 then
(atI a.2.1.2.2.2.2.1 0).bind λc=>
Zp ((a.2.1.2.2.2.2.1.length+[c].length)*(48:Nat)<=(140737488355328:Nat))<|
some (a.1,(a.2.1.1,a.2.1.2.1,a.2.1.2.2.1,a.2.1.2.2.2.1,a.2.1.2.2.2.2.1++[c],()),b.2)
else
if b.1=5 then
Zp ((a.2.1.2.2.2.1.length+[((0:Int),(0:Int),([]:List Int),([]:List Int),([]:List Int),())].length)*(88:Nat)<=(140737488355328:Nat))<|
some (a.1,(a.2.1.1,a.2.1.2.1,a.2.1.2.2.1,a.2.1.2.2.2.1++[((0:Int),(0:Int),([]:List Int),([]:List Int),([]:List Int),())],a.2.1.2.2.2.2),b.2)
else
if b.1=6 then
if 0<(a.2.1.2.2.1.length:Int) then
(atI a.2.1.2.2.1 0).bind λc=>
Zp ((a.2.1.2.1.length+[c].length)*(48:Nat)<=(140737488355328:Nat))<|
some (a.1,(a.2.1.1,a.2.1.2.1++[c],a.2.1.2.2),b.2)
else
some (a.1,a.2.1,b.2)
else
if b.1=7 then
some (a.1,([],[],[],[],[],()),b.2)
else
some (a.1,a.2.1,b.2)
def c94:Ctr:=⟨[.io (.flat (ZqI))],[.own (ZuH),.own (ZuI)],λa K=>ZT a λb a=>QN (ZDM b) λr=>K (r.1,r.2.1,()) (r.2.2,())⟩
def ZCi (b:List Int):Option (Zj×ZgL×Zo):=
(ZD2 b).bind λf=>
(ZEE f).bind λa=>
(ZAm a.2 12).bind λd=>
if d.1=0 then
(ZDM d.2).bind λe=>
(ZDu e.2.2 a.1.1).bind λc=>
some (a.1.1,c.1,e.2.1)
else
(ZDu d.2 a.1.1).bind λc=>
some (a.1.1,c.1,a.1.2.1)
def c95:Ctr:=⟨[.dat (.sl (.int .u8))],[.dat (Xz),.own (ZF3),.dat (Vh)],λa K=>ZT a λb a=>QN (ZCi b) λr=>K (r.1,r.2.1,r.2.2,()) ()⟩
def ZQ (c b a:Int):Option Bool:=
if b<=c then
some (decide (c<=a))
else
some false
def c96:Ctr:=D3 Iq Iq Iq (.bool) ZQ
def ZbV (a:List UInt8):Option Bool:=
(ZQ (a.length:Int) 1 8).bind λc=>
if c then
Zp (a.length<=(1000000:Nat))<|
if Go.Lib.trimS a [(97:UInt8),98,99,100,101,102,103,104,105,106,107,108,109,110,111,112,113,114,115,116,117,118,119,120,121,122,48,49,50,51,52,53,54,55,56,57]=([]:List UInt8) then
(atI a 0).bind λb=>
some (decide ((0:Int)<=Go.Lib.indexByte [(97:UInt8),98,99,100,101,102,103,104,105,106,107,108,109,110,111,112,113,114,115,116,117,118,119,120,121,122] (Nat.toUInt8 (Int.toNat ((UInt8.toNat b):Int)))))
else
some false
else
some false
def c97:Ctr:=D1 (.str) (.bool) ZbV
def Vn (a:List Yv):Option Int:=
some (a.length:Int)
def c98:Ctr:=D1 (.sl (ZfZ)) Iq Vn
def Xx (b:List (List UInt8)) (c:List UInt8) (a:Int):Option ((Int×Unit) ⊕ Int):=
if a<(b.length:Int) then
(atI b a).bind λd=>
if c=d then
some (.inr a)
else
some (.inl (Wq (a+1),()))
else
some (.inr (-1))
def Xw (b:List (List UInt8)) (a:List UInt8):Option Int:=
Zq (λv=>Xx b a v.1) ((0:Int),())
def c99:Ctr:=D2 (.sl (.str)) (.str) Iq Xw
def Xa (b:List (List UInt8)) (a:List UInt8):Option Bool:=
(Xw b a).bind λc=>
some (decide (0<=c))
def Zwn:Ctr:=D2 (.sl (.str)) (.str) (.bool) Xa
def ZaK (a:List (List UInt8)) (b:Int):Option ((Int×Unit) ⊕ Bool):=
if b<(a.length:Int) then
(atI a b).bind λc=>
(ZbV c).bind λe=>
if e then
Zp ((0:Int)<=b)<|
Zp (b<=(a.length:Int))<|
(Xa (List.take (Int.toNat b-Int.toNat 0) (List.drop (Int.toNat 0) a)) c).bind λd=>
if d then
some (.inr false)
else
some (.inl (Wq (b+1),()))
else
some (.inr false)
else
some (.inr true)
def XU (a:List (List UInt8)):Option Bool:=
Zq (λv=>ZaK a v.1) ((0:Int),())
def Zwo:Ctr:=D1 (.sl (.str)) (.bool) XU
def Q6 (b:List Yv) (a:List (List UInt8)) (d:Int):Option (((List (List UInt8))×Int×Unit) ⊕ Bool):=
if d<(b.length:Int) then
(atI b d).bind λc=>
Zp ((a.length+[Yv.Name c].length)*(16:Nat)<=(140737488355328:Nat))<|
if d=Wq ((b.length:Int)-1) then
if Yv.Dir c=2 then
if Yv.Cap c=0 then
if (Yv.Clock c)=true then
some (.inr false)
else
some (.inl (a++[Yv.Name c],Wq (d+1),()))
else
some (.inr false)
else
some (.inr false)
else
if Yv.Dir c=1 then
(ZQ (Yv.Cap c) 0 500).bind λe=>
if e then
some (.inl (a++[Yv.Name c],Wq (d+1),()))
else
some (.inr false)
else
some (.inr false)
else
(Vn b).bind λf=>
(ZQ f 2 5).bind λe=>
if e then
(XU a).bind λg=>
some (.inr g)
else
some (.inr false)
def ZdZ (a:List Yv):Option Bool:=
Zq (λv=>Q6 a v.1 v.2.1) (([]:List (List UInt8)),(0:Int),())
def ZtN:Ctr:=D1 (.sl (ZfZ)) (.bool) ZdZ
def Zd0 (a:Int):Option Bool:=
if a=4 then
some true
else
some (decide (a=5))
def Zwp:Ctr:=D1 Iq (.bool) Zd0
def Xl (a:List Int):Option Int:=
some (a.length:Int)
def Zwq:Ctr:=D1 (.sl Iq) Iq Xl
def ZbT (a c b:Int):Option Bool:=
(ZQ a c b).bind λd=>
some !d
def c105:Ctr:=D3 Iq (.ptr Iq) (.ptr Iq) (.bool) ZbT
def Yh (b:List Int) (c:Int×Int×Unit) (a:Int):Option ((Int×Unit) ⊕ Int):=
if a<(b.length:Int) then
(atI b a).bind λe=>
(ZbT e c.1 c.2.1).bind λd=>
if d then
some (.inr a)
else
some (.inl (Wq (a+1),()))
else
some (.inr (-1))
def Z9 (a:List Int) (b:Int×Int×Unit):Option Int:=
Zq (λv=>Yh a b v.1) ((0:Int),())
def Zwr:Ctr:=D2 (.sl Iq) (.fn 278 (.pair (.ptr Iq) (.pair (.ptr Iq) (.unit)))) Iq Z9
def Ym (a:List Int) (c:Int×Int×Unit):Option Bool:=
(Z9 a c).bind λb=>
some (decide (0<=b))
def c107:Ctr:=D2 (.sl Iq) (.fn 278 (.pair (.ptr Iq) (.pair (.ptr Iq) (.unit)))) (.bool) Ym
def Xe (a:List Int) (c b:Int):Option Bool:=
(Ym a (c,b,())).bind λd=>
some !d
def Zws:Ctr:=D3 (.sl Iq) Iq Iq (.bool) Xe
def Xu (a:List Int) (b:Int):Option ((Int×Unit) ⊕ Bool):=
if b<(a.length:Int) then
(atI a (Wq (b-1))).bind λd=>
(atI a b).bind λc=>
if c<=d then
some (.inr false)
else
some (.inl (Wq (b+1),()))
else
some (.inr true)
def Qy (a:List Int):Option Bool:=
Zq (λv=>Xu a v.1) ((1:Int),())
def c109:Ctr:=D1 (.sl Iq) (.bool) Qy
def Zdr (a:List Int):Option Bool:=
(Xl a).bind λc=>
(ZQ c 1 4).bind λb=>
if b then
(Xe a 0 100000).bind λe=>
if e then
(Qy a).bind λd=>
some d
else
some false
else
some false
def ZvV:Ctr:=D1 (.sl Iq) (.bool) Zdr
def ZdY (a:Zy):Option Bool:=
(Zdr (Zy.ZgK a)).bind λc=>
if c then
(Zdr (Zy.Loads a)).bind λb=>
if b then
if ((Zy.Values a).length:Int)=Wq (((Zy.ZgK a).length:Int)*((Zy.Loads a).length:Int)) then
(Xe (Zy.Values a) (-1000000) 1000000).bind λd=>
some d
else
some false
else
some false
else
some false
def Zwt:Ctr:=D1 (XF) (.bool) ZdY
def Qf (c:List Int) (b a:Int):Option ((Int×Int×Unit) ⊕ Int):=
if a<(c.length:Int) then
(atI c a).bind λd=>
some (.inl (Min.min b d,Wq (a+1),()))
else
some (.inr b)
def Qs (a:List Int):Option Int:=
if (a.length:Int)<1 then
none
else
(atI a 0).bind λb=>
Zq (λv=>Qf a v.1 v.2.1) (b,(1:Int),())
def Zwu:Ctr:=D1 (.sl Iq) Iq Qs
def Qx (a:Zy) (b:Bool):Option Bool:=
(ZdY a).bind λd=>
if d then
if b then
(Qs (Zy.Values a)).bind λc=>
some (decide (c<0))
else
some false
else
some true
def Zwv:Ctr:=D2 (XF) (.ptr (.bool)) (.bool) Qx
def ZX (b:List Zy) (e:Bool×Unit) (a:Int):Option ((Int×Unit) ⊕ Int):=
if a<(b.length:Int) then
(atI b a).bind λd=>
(Qx d e.1).bind λc=>
if c then
some (.inr a)
else
some (.inl (Wq (a+1),()))
else
some (.inr (-1))
def ZL (a:List Zy) (b:Bool×Unit):Option Int:=
Zq (λv=>ZX a b v.1) ((0:Int),())
def Zww:Ctr:=D2 (.sl (XF)) (.fn 389 (.pair (.ptr (.bool)) (.unit))) Iq ZL
def ZG (a:List Zy) (c:Bool×Unit):Option Bool:=
(ZL a c).bind λb=>
some (decide (0<=b))
def Zwx:Ctr:=D2 (.sl (XF)) (.fn 389 (.pair (.ptr (.bool)) (.unit))) (.bool) ZG
def V8 (b:List Zy) (a:Bool):Option Bool:=
if (b.length:Int)=2 then
(ZG b (a,())).bind λc=>
some !c
else
some false
def c116:Ctr:=D2 (.sl (XF)) (.bool) (.bool) V8
def Zbk (a:Yv):Option Bool:=
some (Yv.Clock a)
def c117:Ctr:=D1 (ZfZ) (.bool) Zbk
def Z7 (b:List Yv) (a:Int):Option ((Int×Unit) ⊕ Int):=
if a<(b.length:Int) then
(atI b a).bind λc=>
(Zbk c).bind λd=>
if d then
some (.inr a)
else
some (.inl (Wq (a+1),()))
else
some (.inr (-1))
def ZR (a:List Yv) (b:Unit):Option Int:=
Zq (λv=>Z7 a v.1) ((0:Int),())
def Zwy:Ctr:=D2 (.sl (ZfZ)) (.fn 393 (.unit)) Iq ZR
def Zbj (a:Zk):Option Int:=
(ZR (Zk.Yz a) ()).bind λb=>
some b
def c119:Ctr:=D1 (V6) Iq Zbj
def VT (a:Zk):Option Int:=
(Vn (Zk.Yz a)).bind λb=>
some (Wq (b-1))
def Zwz:Ctr:=D1 (V6) Iq VT
def Vs (b:Zk) (a:Int):Option Bool:=
(VT b).bind λd=>
(ZQ a 0 (Wq (d-1))).bind λc=>
some c
def ZuD:Ctr:=D2 (V6) Iq (.bool) Vs
def Zbl (b:Zk) (a:ZC):Option Bool:=
(Zd0 (ZC.Kind a)).bind λh=>
if h then
if ZC.Za7 a=0 then
if ((ZC.Za2 a).length:Int)=0 then
(V8 (ZC.Delay a) false).bind λd=>
if d then
(Zbj b).bind λj=>
if ZC.From a=j then
if 0<=ZC.From a then
(Vs b (ZC.To a)).bind λe=>
if e then
some (!decide (ZC.To a=ZC.From a))
else
some false
else
some false
else
some false
else
some false
else
some false
else
some false
else
(V8 (ZC.Delay a) true).bind λd=>
if d then
(V8 (ZC.Za2 a) true).bind λg=>
if g then
(VT b).bind λi=>
if ZC.To a=i then
(Vs b (ZC.From a)).bind λe=>
if e then
if ZC.Kind a=1 then
(atI (Zk.Yz b) (ZC.From a)).bind λc=>
if (Yv.Clock c)=true then
some false
else
(ZQ (ZC.Za7 a) 1 3).bind λf=>
some f
else
if ZC.Kind a=2 then
if ZC.Kind a=2 then
(atI (Zk.Yz b) (ZC.From a)).bind λc=>
if (Yv.Clock c)=true then
some (decide (ZC.Za7 a=0))
else
some false
else
some false
else
if ZC.Kind a=3 then
(atI (Zk.Yz b) (ZC.From a)).bind λc=>
if (Yv.Clock c)=true then
some (decide (ZC.Za7 a=0))
else
some false
else
some false
else
some false
else
some false
else
some false
else
some false
def ZwA:Ctr:=D2 (V6) (Zgv) (.bool) Zbl
def XC (a b:ZC):Option Bool:=
if ZC.Kind a=ZC.Kind b then
if ZC.From a=ZC.From b then
some (decide (ZC.To a=ZC.To b))
else
some false
else
some false
def ZwB:Ctr:=D2 (Zgv) (.ptr (Zgv)) (.bool) XC
def ZY (b:List ZC) (e:ZC×Unit) (a:Int):Option ((Int×Unit) ⊕ Int):=
if a<(b.length:Int) then
(atI b a).bind λd=>
(XC d e.1).bind λc=>
if c then
some (.inr a)
else
some (.inl (Wq (a+1),()))
else
some (.inr (-1))
def ZM (a:List ZC) (b:ZC×Unit):Option Int:=
Zq (λv=>ZY a b v.1) ((0:Int),())
def c124:Ctr:=D2 (.sl (Zgv)) (.fn 344 (.pair (.ptr (Zgv)) (.unit))) Iq ZM
def ZJ (a:List ZC) (c:ZC×Unit):Option Bool:=
(ZM a c).bind λb=>
some (decide (0<=b))
def ZwC:Ctr:=D2 (.sl (Zgv)) (.fn 344 (.pair (.ptr (Zgv)) (.unit))) (.bool) ZJ
def VE (a:Zk) (b:Int):Option ((Int×Unit) ⊕ Bool):=
if b<((Zk.JR a).length:Int) then
(atI (Zk.JR a) b).bind λc=>
(Zbl a c).bind λe=>
if e then
Zp ((0:Int)<=b)<|
Zp (b<=((Zk.JR a).length:Int))<|
(ZJ (List.take (Int.toNat b-Int.toNat 0) (List.drop (Int.toNat 0) (Zk.JR a))) (c,())).bind λd=>
if d then
some (.inr false)
else
some (.inl (Wq (b+1),()))
else
some (.inr false)
else
some (.inr (decide (((Zk.JR a).length:Int)<=8)))
def JY (a:Zk):Option Bool:=
Zq (λv=>VE a v.1) ((0:Int),())
def ZwD:Ctr:=D1 (V6) (.bool) JY
def Zay (b:ZC) (a:Int):Option Bool:=
some (decide (ZC.Kind b=a))
def c127:Ctr:=D2 (Zgv) (.ptr Iq) (.bool) Zay
def Yc (b:List ZC) (e:Int×Unit) (a:Int):Option ((Int×Unit) ⊕ Int):=
if a<(b.length:Int) then
(atI b a).bind λd=>
(Zay d e.1).bind λc=>
if c then
some (.inr a)
else
some (.inl (Wq (a+1),()))
else
some (.inr (-1))
def ZV (a:List ZC) (b:Int×Unit):Option Int:=
Zq (λv=>Yc a b v.1) ((0:Int),())
def ZwE:Ctr:=D2 (.sl (Zgv)) (.fn 374 (.pair (.ptr Iq) (.unit))) Iq ZV
def ZO (a:List ZC) (c:Int×Unit):Option Bool:=
(ZV a c).bind λb=>
some (decide (0<=b))
def ZwF:Ctr:=D2 (.sl (Zgv)) (.fn 374 (.pair (.ptr Iq) (.unit))) (.bool) ZO
def Qp (b:Zk) (a:Int):Option Bool:=
(ZO (Zk.JR b) (a,())).bind λc=>
some c
def c130:Ctr:=D2 (V6) Iq (.bool) Qp
def Xk (a:Zk) (b c:Int):Option ((Int×Int×Unit) ⊕ Bool):=
if c<((Zk.Yz a).length:Int) then
(atI (Zk.Yz a) c).bind λi=>
if (Yv.Clock i)=true then
some (.inl (Wq (b+1),Wq (c+1),()))
else
some (.inl (b,Wq (c+1),()))
else
if Zk.Kind a=1 then
if b=0 then
(VT a).bind λg=>
Zp ((0:Int)<=g)<|
if ((Zk.Truth a).length:Int)=Wq (1*2 ^ Min.min (Int.toNat g) (IntKind.bits IntKind.i64)) then
(Xe (Zk.Truth a) 0 1).bind λh=>
some (.inr h)
else
some (.inr false)
else
some (.inr false)
else
if Zk.Kind a=2 then
if b=1 then
if ((Zk.Truth a).length:Int)=0 then
(Qp a 1).bind λf=>
if f then
some (.inr false)
else
(Qp a 2).bind λe=>
(Qp a 3).bind λd=>
some (.inr (!e == d))
else
some (.inr false)
else
some (.inr false)
else
if Zk.Kind a=3 then
if b=1 then
if ((Zk.Truth a).length:Int)=0 then
(Qp a 1).bind λf=>
if f then
(Qp a 2).bind λe=>
if e then
(Qp a 3).bind λd=>
some (.inr !d)
else
some (.inr false)
else
some (.inr false)
else
some (.inr false)
else
some (.inr false)
else
some (.inr false)
def Jg (a:Zk):Option Bool:=
Zq (λv=>Xk a v.1 v.2.1) ((0:Int),(0:Int),())
def c131:Ctr:=D1 (V6) (.bool) Jg
def Ze0 (a:Zk):Option Bool:=
(ZbV (Zk.Name a)).bind λd=>
if d then
(ZdZ (Zk.Yz a)).bind λb=>
if b then
(JY a).bind λg=>
if g then
(ZQ (Zk.Zsl a) 0 100000).bind λf=>
if f then
(ZQ (Zk.Zhn a) 0 100000).bind λc=>
if c then
(Jg a).bind λe=>
some e
else
some false
else
some false
else
some false
else
some false
else
some false
def ZwG:Ctr:=D1 (V6) (.bool) Ze0
def Qi (b:Zt) (a:List (List UInt8)) (c:Int):Option (((List (List UInt8))×Int×Unit) ⊕ Bool):=
if c<((Zt.Cells b).length:Int) then
(atI (Zt.Cells b) c).bind λd=>
(Ze0 d).bind λf=>
if f then
Zp ((a.length+[Zk.Name d].length)*(16:Nat)<=(140737488355328:Nat))<|
some (.inl (a++[Zk.Name d],Wq (c+1),()))
else
some (.inr false)
else
if ((Zt.Cells b).length:Int)<=8 then
(XU a).bind λe=>
some (.inr e)
else
some (.inr false)
def Zcc (a:Zt):Option Bool:=
Zq (λv=>Qi a v.1 v.2.1) (([]:List (List UInt8)),(0:Int),())
def ZwH:Ctr:=D1 (YR) (.bool) Zcc
def QU (c:Zg) (a b:List (List UInt8)) (d:Int):Option (((List (List UInt8))×Int×Unit) ⊕ (((List (List UInt8))×Int×Unit) ⊕ Bool)):=
if d<((Zg.Xb c).length:Int) then
(atI (Zg.Xb c) d).bind λe=>
Zp ((b.length+[Ye.Name e].length)*(16:Nat)<=(140737488355328:Nat))<|
some (.inl (b++[Ye.Name e],Wq (d+1),()))
else
if (a.length:Int)<=14 then
if ((Zg.X7 c).length:Int)<=30 then
if (b.length:Int)<=8 then
(XU a).bind λg=>
if g then
(XU (Zg.X7 c)).bind λf=>
if f then
(XU b).bind λh=>
some (.inr (.inr h))
else
some (.inr (.inr false))
else
some (.inr (.inr false))
else
some (.inr (.inr false))
else
some (.inr (.inr false))
else
some (.inr (.inr false))
def QV (c:Zg) (a:List (List UInt8)) (b:Int):Option (((List (List UInt8))×Int×Unit) ⊕ Bool):=
if b<((Zg.Instances c).length:Int) then
(atI (Zg.Instances c) b).bind λd=>
Zp ((a.length+[Zl.Name d].length)*(16:Nat)<=(140737488355328:Nat))<|
some (.inl (a++[Zl.Name d],Wq (b+1),()))
else
Zq (λv=>QU c a v.1 v.2.1) (([]:List (List UInt8)),(0:Int),())
def Vm (a:Zg):Option Bool:=
Zq (λv=>QV a v.1 v.2.1) (([]:List (List UInt8)),(0:Int),())
def ZwI:Ctr:=D1 (YU) (.bool) Vm
def Jz (a:List Zk):Option Int:=
some (a.length:Int)
def ZwJ:Ctr:=D1 (.sl (V6)) Iq Jz
def Zbo (a:List (List UInt8)):Option Int:=
some (a.length:Int)
def ZwK:Ctr:=D1 (.sl (.str)) Iq Zbo
def XR (b:Zg) (a:Int):Option Bool:=
(Zbo (Zg.X7 b)).bind λd=>
(ZQ a 0 (Wq (d-1))).bind λc=>
some c
def ZwL:Ctr:=D2 (YU) Iq (.bool) XR
def Xd (a:Int) (b:Zg):Option Bool:=
(XR b a).bind λc=>
some !c
def c138:Ctr:=D2 Iq (.ptr (YU)) (.bool) Xd
def Z5 (b:List Int) (e:Zg×Unit) (a:Int):Option ((Int×Unit) ⊕ Int):=
if a<(b.length:Int) then
(atI b a).bind λd=>
(Xd d e.1).bind λc=>
if c then
some (.inr a)
else
some (.inl (Wq (a+1),()))
else
some (.inr (-1))
def ZP (a:List Int) (b:Zg×Unit):Option Int:=
Zq (λv=>Z5 a b v.1) ((0:Int),())
def c139:Ctr:=D2 (.sl Iq) (.fn 276 (.pair (.ptr (YU)) (.unit))) Iq ZP
def ZK (a:List Int) (c:Zg×Unit):Option Bool:=
(ZP a c).bind λb=>
some (decide (0<=b))
def ZwM:Ctr:=D2 (.sl Iq) (.fn 276 (.pair (.ptr (YU)) (.unit))) (.bool) ZK
def QI (f:Zg) (b:Zt) (a:Zl):Option Bool:=
(Jz (Zt.Cells b)).bind λe=>
(ZQ (Zl.Cell a) 0 (Wq (e-1))).bind λd=>
if d then
(atI (Zt.Cells b) (Zl.Cell a)).bind λc=>
if ((Zl.X7 a).length:Int)=((Zk.Yz c).length:Int) then
(ZK (Zl.X7 a) (f,())).bind λg=>
some !g
else
some false
else
some false
def c141:Ctr:=D3 (YU) (YR) (YJ) (.bool) QI
def Zaz (a:Int):Option Bool:=
some (!decide (a=1))
def ZwN:Ctr:=D1 Iq (.bool) Zaz
def Yq (b:List Int) (a:Int):Option ((Int×Unit) ⊕ Int):=
if a<(b.length:Int) then
(atI b a).bind λc=>
(Zaz c).bind λd=>
if d then
some (.inr a)
else
some (.inl (Wq (a+1),()))
else
some (.inr (-1))
def Yi (a:List Int) (b:Unit):Option Int:=
Zq (λv=>Yq a v.1) ((0:Int),())
def c143:Ctr:=D2 (.sl Iq) (.fn 206 (.unit)) Iq Yi
def Yd (a:List Int) (c:Unit):Option Bool:=
(Yi a ()).bind λb=>
some (decide (0<=b))
def ZwO:Ctr:=D2 (.sl Iq) (.fn 206 (.unit)) (.bool) Yd
def QC (d:Zg) (c:Int) (b:List Int):Option ((Int×(List Int)×Unit) ⊕ ((Int×(List Int)×Unit) ⊕ Bool)):=
if c<((Zg.Xb d).length:Int) then
(atI (Zg.Xb d) c).bind λa=>
if Ye.Dir a=1 then
(XR d (Ye.Net a)).bind λf=>
if f then
if Ye.Dir a=1 then
(atI b (Ye.Net a)).bind λe=>
some (.inl (Wq (c+1),List.set b (Int.toNat (Ye.Net a)) (Wq (e+1)),()))
else
some (.inl (Wq (c+1),b,()))
else
some (.inr (.inr false))
else
if Ye.Dir a=2 then
(XR d (Ye.Net a)).bind λf=>
if f then
if Ye.Dir a=1 then
(atI b (Ye.Net a)).bind λe=>
some (.inl (Wq (c+1),List.set b (Int.toNat (Ye.Net a)) (Wq (e+1)),()))
else
some (.inl (Wq (c+1),b,()))
else
some (.inr (.inr false))
else
some (.inr (.inr false))
else
(Yd b ()).bind λg=>
some (.inr (.inr !g))
def VG (f:Zt) (a:Zg) (c:Int) (b:List Int):Option ((Int×(List Int)×Unit) ⊕ Bool):=
if c<((Zg.Instances a).length:Int) then
(atI (Zg.Instances a) c).bind λd=>
(QI a f d).bind λh=>
if h then
(atI (Zl.X7 d) (Wq (((Zl.X7 d).length:Int)-1))).bind λe=>
(atI b e).bind λg=>
some (.inl (Wq (c+1),List.set b (Int.toNat e) (Wq (g+1)),()))
else
some (.inr false)
else
Zq (λv=>QC a v.1 v.2.1) ((0:Int),b,())
def ZcW (b:Zt) (a:Zg):Option Bool:=
(Zcc b).bind λd=>
if d then
(Vm a).bind λc=>
if c then
Zp ((0:Int)<=((Zg.X7 a).length:Int))<|
Zp (((Zg.X7 a).length:Int)<=((Zg.X7 a).length:Int))<|
Zp (((Zg.X7 a).length:Int)<=(4611686018427387904:Int))<|
Zp (((8:Nat):Int)*((Zg.X7 a).length:Int)<=(281474976710656:Int))<|
Zq (λv=>VG b a v.1 v.2.1) ((0:Int),List.replicate (Int.toNat ((Zg.X7 a).length:Int)) (0:Int),())
else
some false
else
some false
def c145:Ctr:=D2 (YR) (YU) (.bool) ZcW
def Vt (d:Int) (c:Zl) (a:List YA) (b:Int):Option (((List YA)×Int×Unit) ⊕ (((List YA)×Int×Unit) ⊕ List YA)):=
if b<((Zl.X7 c).length:Int) then
(atI (Zl.X7 c) b).bind λe=>
Zp ((a.length+[(d,b,e,decide (b=Wq (((Zl.X7 c).length:Int)-(1:Int))),())].length)*(32:Nat)<=(140737488355328:Nat))<|
some (.inl (a++[(d,b,e,decide (b=Wq (((Zl.X7 c).length:Int)-1)),())],Wq (b+1),()))
else
some (.inr (.inl (a,Wq (d+1),())))
def Vu (d:Zg) (a:List YA) (b:Int):Option (((List YA)×Int×Unit) ⊕ (((List YA)×Int×Unit) ⊕ List YA)):=
if b<((Zg.Xb d).length:Int) then
(atI (Zg.Xb d) b).bind λc=>
Zp ((a.length+[((-1:Int),b,Ye.Net c,decide (Ye.Dir c=(1:Int)),())].length)*(32:Nat)<=(140737488355328:Nat))<|
some (.inl (a++[((-1:Int),b,Ye.Net c,decide (Ye.Dir c=1),())],Wq (b+1),()))
else
some (.inr (.inr a))
def Vv (c:Zg) (a:List YA) (b:Int):Option (((List YA)×Int×Unit) ⊕ List YA):=
if b<((Zg.Instances c).length:Int) then
(atI (Zg.Instances c) b).bind λd=>
Zq (λv=>Vt b d v.1 v.2.1) (a,(0:Int),())
else
Zq (λv=>Vu c v.1 v.2.1) (a,(0:Int),())
def Xr (a:Zg):Option (List YA):=
Zq (λv=>Vv a v.1 v.2.1) (([]:List YA),(0:Int),())
def c146:Ctr:=⟨[.dat (YU)],[.own (.ol 185 (.flat (ZhI)))],λa K=>ZT a λb a=>QN (Xr b) λr=>K (r,()) ()⟩
def Jd (d:Zx) (a:Int):Option ((Int×Unit) ⊕ Bool):=
if a<((Zx.Parent d).length:Int) then
(atI (Zx.Parent d) a).bind λc=>
if a=0 then
if c=(-1) then
(atI (Zx.Res d) 0).bind λe=>
if e=0 then
if 0<a then
(ZQ c 0 (Wq (a-1))).bind λb=>
if b then
some (.inl (Wq (a+1),()))
else
some (.inr false)
else
some (.inl (Wq (a+1),()))
else
some (.inr false)
else
some (.inr false)
else
if 0<a then
(ZQ c 0 (Wq (a-1))).bind λb=>
if b then
some (.inl (Wq (a+1),()))
else
some (.inr false)
else
some (.inl (Wq (a+1),()))
else
some (.inr true)
def ZaA (a:Zx):Option Bool:=
Zq (λv=>Jd a v.1) ((0:Int),())
def Zun:Ctr:=D1 (Za9) (.bool) ZaA
def Ze1 (a:Zx) (b:Int):Option Bool:=
(Xl (Zx.Parent a)).bind λc=>
(ZQ c 1 8).bind λd=>
if d then
(Xl (Zx.Res a)).bind λk=>
if k=c then
(Xl (Zx.Cap a)).bind λj=>
if j=c then
(ZaA a).bind λf=>
if f then
(Xe (Zx.Res a) 0 1000).bind λi=>
if i then
(Xe (Zx.Cap a) 0 500).bind λe=>
if e then
(Xl (Zx.Zjo a)).bind λg=>
if g=b then
(Xe (Zx.Zjo a) 0 (Wq (c-1))).bind λh=>
some h
else
some false
else
some false
else
some false
else
some false
else
some false
else
some false
else
some false
def c148:Ctr:=D2 (Za9) Iq (.bool) Ze1
def Zbm (b:Zj) (d:List Int) (a:Int):Option ((Int×Unit) ⊕ ((Int×(List Int)×Unit) ⊕ Bool)):=
if a<((Zj.Qg b).length:Int) then
(atI (Zj.Qg b) a).bind λf=>
(atI d a).bind λc=>
(Ze1 f c).bind λe=>
if e then
some (.inl (Wq (a+1),()))
else
some (.inr (.inr false))
else
some (.inr (.inr true))
def Jh (f:Zj) (a:List YA) (c:Int) (b:List Int):Option ((Int×(List Int)×Unit) ⊕ Bool):=
if c<(a.length:Int) then
(atI a c).bind λd=>
if (YA.drives d)=true then
some (.inl (Wq (c+1),b,()))
else
(atI b (YA.net d)).bind λe=>
some (.inl (Wq (c+1),List.set b (Int.toNat (YA.net d)) (Wq (e+1)),()))
else
Zq (λv=>Zbm f b v.1) ((0:Int),())
def ZdX (a:Zj):Option Bool:=
(ZcW (Zj.Library a) (Zj.Design a)).bind λc=>
if c then
if ((Zj.Qg a).length:Int)=((Zg.X7 (Zj.Design a)).length:Int) then
Zp ((0:Int)<=((Zj.Qg a).length:Int))<|
Zp (((Zj.Qg a).length:Int)<=((Zj.Qg a).length:Int))<|
Zp (((Zj.Qg a).length:Int)<=(4611686018427387904:Int))<|
Zp (((8:Nat):Int)*((Zj.Qg a).length:Int)<=(281474976710656:Int))<|
(Xr (Zj.Design a)).bind λb=>
Zq (λv=>Jh a b v.1 v.2.1) ((0:Int),List.replicate (Int.toNat ((Zj.Qg a).length:Int)) (0:Int),())
else
some false
else
some false
def ZwP:Ctr:=D1 (Xz) (.bool) ZdX
def ZEe (a:ZgL):Option ZgL:=
if ZgL.Kind a=1 then
some (ZgL.Kind a,ZgL.Place a,ZgL.Cell a,0,0,[],([],[],[],[],()),())
else
if ZgL.Kind a=2 then
some (ZgL.Kind a,ZgL.Place a,ZgL.Cell a,0,0,ZgL.Name a,([],[],[],[],()),())
else
if ZgL.Kind a=4 then
some (ZgL.Kind a,ZgL.Place a,0,ZgL.Net a,ZgL.Node a,[],([],[],[],[],()),())
else
if ZgL.Kind a=5 then
some (ZgL.Kind a,0,0,ZgL.Net a,0,[],a.2.2.2.2.2.2)
else
some (ZgL.Kind a,0,0,0,0,[],([],[],[],[],()),())
def ZwQ:Ctr:=D1 (Zug) (Zug) ZEe
def ZBj (a c:List Int) (b:Int):Option ((Int×Unit) ⊕ Bool):=
if b<(a.length:Int) then
(atI a b).bind λe=>
(atI c b).bind λd=>
if e=d then
some (.inl (Wq (b+1),()))
else
some (.inr false)
else
some (.inr true)
def ZAL (a b:List Int):Option Bool:=
if (a.length:Int)=(b.length:Int) then
Zq (λv=>ZBj a b v.1) ((0:Int),())
else
some false
def ZwR:Ctr:=D2 (.sl Iq) (.sl Iq) (.bool) ZAL
def ZEg (a b:Zx):Option Bool:=
(ZAL (Zx.Parent a) (Zx.Parent b)).bind λd=>
if d then
(ZAL (Zx.Res a) (Zx.Res b)).bind λc=>
if c then
(ZAL (Zx.Cap a) (Zx.Cap b)).bind λf=>
if f then
(ZAL (Zx.Zjo a) (Zx.Zjo b)).bind λe=>
some e
else
some false
else
some false
else
some false
def c152:Ctr:=D2 (Za9) (Za9) (.bool) ZEg
def ZDx (b a:ZgL):Option Bool:=
if ZgL.Kind b=ZgL.Kind a then
if ZgL.Place b=ZgL.Place a then
if ZgL.Cell b=ZgL.Cell a then
if ZgL.Net b=ZgL.Net a then
if ZgL.Node b=ZgL.Node a then
if ZgL.Name b=ZgL.Name a then
(ZEg (ZgL.ZAj b) (ZgL.ZAj a)).bind λc=>
some c
else
some false
else
some false
else
some false
else
some false
else
some false
else
some false
def ZwS:Ctr:=D2 (Zug) (Zug) (.bool) ZDx
def XL (a:List YA):Option Int:=
some (a.length:Int)
def c154:Ctr:=D1 (.sl (ZhI)) Iq XL
def ZCg (a:ZgL) (b:Zj):Option Bool:=
(ZQ (ZgL.Kind a) 1 5).bind λk=>
if k then
(ZEe a).bind λi=>
(ZDx a i).bind λm=>
if m then
(Xr (Zj.Design b)).bind λl=>
(XL l).bind λj=>
(ZQ (ZgL.Place a) 0 (Wq (j-1))).bind λe=>
if ZgL.Kind a=1 then
if ZgL.Kind a=1 then
if e then
(Jz (Zt.Cells (Zj.Library b))).bind λf=>
(ZQ (ZgL.Cell a) 0 (Wq (f-1))).bind λc=>
some c
else
some false
else
if ZgL.Kind a=4 then
if e then
(XR (Zj.Design b) (ZgL.Net a)).bind λd=>
if d then
(atI (Zj.Qg b) (ZgL.Net a)).bind λh=>
(Xl (Zx.Parent h)).bind λg=>
(ZQ (ZgL.Node a) 0 (Wq (g-1))).bind λc=>
some c
else
some false
else
some false
else
if ZgL.Kind a=5 then
(XR (Zj.Design b) (ZgL.Net a)).bind λd=>
some d
else
some true
else
if ZgL.Kind a=2 then
if e then
(Jz (Zt.Cells (Zj.Library b))).bind λf=>
(ZQ (ZgL.Cell a) 0 (Wq (f-1))).bind λc=>
some c
else
some false
else
if ZgL.Kind a=4 then
if e then
(XR (Zj.Design b) (ZgL.Net a)).bind λd=>
if d then
(atI (Zj.Qg b) (ZgL.Net a)).bind λh=>
(Xl (Zx.Parent h)).bind λg=>
(ZQ (ZgL.Node a) 0 (Wq (g-1))).bind λc=>
some c
else
some false
else
some false
else
if ZgL.Kind a=5 then
(XR (Zj.Design b) (ZgL.Net a)).bind λd=>
some d
else
some true
else
some false
else
some false
def ZwT:Ctr:=D2 (Zug) (Xz) (.bool) ZCg
def ZEb (b a:Yv):Option Bool:=
some (Yv.Clock b == Yv.Clock a)
def c156:Ctr:=D2 (ZfZ) (ZfZ) (.bool) ZEb
def ZAq (a c:List Yv) (b:Int):Option ((Int×Unit) ⊕ Bool):=
if b<(a.length:Int) then
(atI a b).bind λf=>
(atI c b).bind λd=>
(ZEb f d).bind λe=>
if e then
some (.inl (Wq (b+1),()))
else
some (.inr false)
else
some (.inr true)
def ZAw (a b:List Yv) (c:Unit):Option Bool:=
if (a.length:Int)=(b.length:Int) then
Zq (λv=>ZAq a b v.1) ((0:Int),())
else
some false
def c157:Ctr:=D3 (.sl (ZfZ)) (.sl (ZfZ)) (.fn 332 (.unit)) (.bool) ZAw
def ZEf (b a:Zk):Option Bool:=
if Zk.Kind b=Zk.Kind a then
(ZAw (Zk.Yz b) (Zk.Yz a) ()).bind λc=>
some c
else
some false
def ZwU:Ctr:=D2 (V6) (V6) (.bool) ZEf
def ZBu (a:Zk):Option Bool:=
if Zk.Kind a=1 then
some (decide (((Zk.Yz a).length:Int)=2))
else
some false
def c159:Ctr:=D1 (V6) (.bool) ZBu
def ZCV (b:Zl) (a:List UInt8):Option Bool:=
some (decide (Zl.Name b=a))
def c160:Ctr:=D2 (YJ) (.ptr (.str)) (.bool) ZCV
def ZAu (b:List Zl) (e:List UInt8×Unit) (a:Int):Option ((Int×Unit) ⊕ Int):=
if a<(b.length:Int) then
(atI b a).bind λd=>
(ZCV d e.1).bind λc=>
if c then
some (.inr a)
else
some (.inl (Wq (a+1),()))
else
some (.inr (-1))
def ZAs (a:List Zl) (b:List UInt8×Unit):Option Int:=
Zq (λv=>ZAu a b v.1) ((0:Int),())
def ZwV:Ctr:=D2 (.sl (YJ)) (.fn 334 (.pair (.ptr (.str)) (.unit))) Iq ZAs
def ZCH (b:Zg) (a:List UInt8):Option Int:=
(ZAs (Zg.Instances b) (a,())).bind λc=>
some c
def c162:Ctr:=D2 (YU) (.str) Iq ZCH
def ZBW (b:Zg) (a:List UInt8):Option Int:=
(Xw (Zg.X7 b) a).bind λc=>
some c
def ZwW:Ctr:=D2 (YU) (.str) Iq ZBW
def ZBI (a:Zj):Option Bool:=
if ((Zg.Instances (Zj.Design a)).length:Int)=0 then
some false
else
(atI (Zg.Instances (Zj.Design a)) (Wq (((Zg.Instances (Zj.Design a)).length:Int)-1))).bind λc=>
(Zbo (Zg.X7 (Zj.Design a))).bind λb=>
(atI (Zt.Cells (Zj.Library a)) (Zl.Cell c)).bind λe=>
(ZBu e).bind λg=>
if g then
(atI (Zl.X7 c) 1).bind λh=>
if h=Wq (b-1) then
(atI (Zl.X7 c) 0).bind λf=>
if f=Wq (b-1) then
some false
else
(atI (Zg.X7 (Zj.Design a)) (Wq (b-1))).bind λj=>
if j=Zl.Name c then
(atI (Zj.Qg a) (Wq (b-1))).bind λd=>
if ((Zx.Zjo d).length:Int)=1 then
if ((Zx.Parent d).length:Int)=1 then
(atI (Zx.Cap d) 0).bind λi=>
some (decide (i=0))
else
some false
else
some false
else
some false
else
some false
else
some false
def c164:Ctr:=D1 (Xz) (.bool) ZBI
def ZBX (a:ZgL) (c:Zj):Option Bool:=
(Xr (Zj.Design c)).bind λe=>
if ZgL.Kind a=1 then
(atI e (ZgL.Place a)).bind λb=>
if 0<=YA.instance b then
if (YA.drives b)=true then
(atI (Zg.Instances (Zj.Design c)) (YA.instance b)).bind λd=>
(atI (Zt.Cells (Zj.Library c)) (Zl.Cell d)).bind λj=>
(atI (Zt.Cells (Zj.Library c)) (ZgL.Cell a)).bind λf=>
(ZEf j f).bind λg=>
some g
else
some false
else
some false
else
if ZgL.Kind a=2 then
(atI e (ZgL.Place a)).bind λb=>
if (YA.drives b)=true then
some false
else
(atI (Zt.Cells (Zj.Library c)) (ZgL.Cell a)).bind λd=>
(ZBu d).bind λo=>
if o then
(ZbV (ZgL.Name a)).bind λn=>
if n then
(ZCH (Zj.Design c) (ZgL.Name a)).bind λi=>
if i<0 then
(ZBW (Zj.Design c) (ZgL.Name a)).bind λm=>
some (decide (m<0))
else
some false
else
some false
else
some false
else
if ZgL.Kind a=3 then
(ZBI c).bind λh=>
some h
else
if ZgL.Kind a=4 then
(atI e (ZgL.Place a)).bind λb=>
if (YA.drives b)=true then
some false
else
some (!decide (YA.net b=ZgL.Net a))
else
(atI (Zj.Qg c) (ZgL.Net a)).bind λb=>
(Xl (Zx.Zjo b)).bind λk=>
(Ze1 (ZgL.ZAj a) k).bind λl=>
some l
def ZvW:Ctr:=D2 (Zug) (Xz) (.bool) ZBX
def ZBx (b:ZgL) (a:Zj):Option Int:=
(ZCg b a).bind λd=>
if d then
(ZBX b a).bind λc=>
if c then
if ZgL.Kind b=2 then
if ((Zg.Instances (Zj.Design a)).length:Int)=14 then
some 3
else
if ((Zg.X7 (Zj.Design a)).length:Int)=30 then
some 3
else
some 0
else
some 0
else
some 5
else
some 2
def ZvX:Ctr:=D2 (Zug) (Xz) Iq ZBx
def ZBl (a:Zj) (d:ZgL):Option Int:=
(ZdX a).bind λc=>
if c then
(ZBx d a).bind λb=>
some b
else
some 1
def c167:Ctr:=D2 (Xz) (Zug) Iq ZBl
def Vj (a:ZC):Option (List (Int×Int×Unit)):=
if ZC.Kind a=2 then
some ([((0:Int),(0:Int),()),((0:Int),(1:Int),())])
else
if ZC.Kind a=3 then
some ([((1:Int),(0:Int),()),((1:Int),(1:Int),())])
else
if ZC.Kind a=1 then
if ZC.Za7 a=1 then
some ([((0:Int),(0:Int),()),((1:Int),(1:Int),())])
else
if ZC.Za7 a=2 then
some ([((0:Int),(1:Int),()),((1:Int),(0:Int),())])
else
some ([((0:Int),(0:Int),()),((0:Int),(1:Int),()),((1:Int),(0:Int),()),((1:Int),(1:Int),())])
else
some []
def c168:Ctr:=⟨[.dat (Zgv)],[.own (.ol 299 (.flat (.pair Iq (.pair Iq (.unit)))))],λa K=>ZT a λb a=>QN (Vj b) λr=>K (r,()) ()⟩
def XI (b g:Int) (e:ZC) (a:List (Int×Int×Unit)) (c:List Vq) (f:Int):Option (((List Vq)×Int×Unit) ⊕ (((List Vq)×Int×Unit) ⊕ List Vq)):=
if f<(a.length:Int) then
(atI a f).bind λd=>
Zp ((c.length+[(Wq (Wq ((2:Int)*Wq (b+ZC.From e))+d.1),Wq (Wq ((2:Int)*Wq (b+ZC.To e))+d.2.1),(1:Int),g,())].length)*(32:Nat)<=(140737488355328:Nat))<|
some (.inl (c++[(Wq (Wq ((2:Int)*Wq (b+ZC.From e))+d.1),Wq (Wq ((2:Int)*Wq (b+ZC.To e))+d.2.1),(1:Int),g,())],Wq (f+1),()))
else
some (.inr (.inl (c,Wq (g+1),())))
def QO (b:Int) (d:Zk) (a:List Vq) (c:Int):Option (((List Vq)×Int×Unit) ⊕ List Vq):=
if c<((Zk.JR d).length:Int) then
(atI (Zk.JR d) c).bind λe=>
(Vj e).bind λf=>
Zq (λv=>XI b c e f v.1 v.2.1) (a,(0:Int),())
else
some (.inr a)
def Vk (d:Zj) (c:Zl) (a:Int):Option (List Vq):=
(atI (Zt.Cells (Zj.Library d)) (Zl.Cell c)).bind λb=>
Zq (λv=>QO a b v.1 v.2.1) (([]:List Vq),(0:Int),())
def ZwX:Ctr:=⟨[.dat (Xz),.dat (YJ),.dat Iq],[.own (.ol 197 (.flat (ZmI)))],λa K=>ZT a λc a=>ZT a λd a=>ZT a λb a=>QN (Vk c d b) λr=>K (r,()) ()⟩
def Vg (a:List Int):Option (List Int):=
Zp ((([]:List Int).length+a.length)*(8:Nat)<=(140737488355328:Nat))<|
some (([]:List Int)++a)
def ZwY:Ctr:=⟨[.dat (.sl Iq)],[.own (.ol 2 (.flat Iq))],λa K=>ZT a λb a=>QN (Vg b) λr=>K (r,()) ()⟩
def VF (d:Int) (b:List YA) (a:List Int) (c:Int):Option (((List Int)×Int×Unit) ⊕ List Int):=
if c<(b.length:Int) then
(atI b c).bind λe=>
if YA.net e=d then
if (YA.drives e)=true then
some (.inl (a,Wq (c+1),()))
else
Zp ((a.length+[c].length)*(8:Nat)<=(140737488355328:Nat))<|
some (.inl (a++[c],Wq (c+1),()))
else
some (.inl (a,Wq (c+1),()))
else
some (.inr a)
def J2 (b:Zg) (a:Int):Option (List Int):=
(Xr b).bind λc=>
Zq (λv=>VF a c v.1 v.2.1) (([]:List Int),(0:Int),())
def c171:Ctr:=⟨[.dat (YU),.dat Iq],[.own (.ol 2 (.flat Iq))],λa K=>ZT a λc a=>ZT a λb a=>QN (J2 c b) λr=>K (r,()) ()⟩
def JZ (f:Zg) (c:Zt) (a:YA):Option Int:=
if YA.instance a<0 then
some 0
else
(atI (Zg.Instances f) (YA.instance a)).bind λe=>
(atI (Zt.Cells c) (Zl.Cell e)).bind λb=>
(atI (Zk.Yz b) (YA.pin a)).bind λd=>
some (Yv.Cap d)
def ZwZ:Ctr:=D3 (YU) (YR) (ZhI) Iq JZ
def QS (f:Zx) (b:Int) (a:List Int):Option ((Int×(List Int)×Unit) ⊕ ((Int×(List Int)×Unit) ⊕ List Int)):=
if 0<b then
(atI (Zx.Parent f) b).bind λc=>
(atI a c).bind λe=>
(atI a b).bind λd=>
some (.inl (Wq (b-1),List.set a (Int.toNat c) (Wq (e+d)),()))
else
some (.inr (.inr a))
def QT (e:Zj) (g:Zx) (b:List YA) (a:List Int) (d:Int) (c:List Int):Option ((Int×(List Int)×Unit) ⊕ List Int):=
if d<(a.length:Int) then
(atI a d).bind λh=>
(atI (Zx.Zjo g) d).bind λf=>
(atI c f).bind λi=>
(atI b h).bind λk=>
(JZ (Zj.Design e) (Zj.Library e) k).bind λj=>
some (.inl (Wq (d+1),List.set c (Int.toNat f) (Wq (i+j)),()))
else
Zq (λv=>QS g v.1 v.2.1) (Wq ((c.length:Int)-1),c,())
def Qh (a:Zj) (b:Int):Option (List Int):=
(atI (Zj.Qg a) b).bind λc=>
(Vg (Zx.Cap c)).bind λe=>
(Xr (Zj.Design a)).bind λd=>
(J2 (Zj.Design a) b).bind λf=>
Zq (λv=>QT a c d f v.1 v.2.1) ((0:Int),e,())
def c173:Ctr:=⟨[.dat (Xz),.dat Iq],[.own (.ol 2 (.flat Iq))],λa K=>ZT a λc a=>ZT a λb a=>QN (Qh c b) λr=>K (r,()) ()⟩
def QB (d:Zx) (a:List Int) (b:Int) (c:List Int):Option ((Int×(List Int)×Unit) ⊕ List Int):=
if b<(c.length:Int) then
(atI (Zx.Parent d) b).bind λe=>
(atI c e).bind λg=>
(atI (Zx.Res d) b).bind λf=>
(atI a b).bind λh=>
(atI c b).bind λi=>
some (.inl (Wq (b+1),List.set c (Int.toNat b) (Wq (g+Wq (f*h))),()))
else
some (.inr c)
def Q0 (c:Zj) (b:Int):Option (List Int):=
(atI (Zj.Qg c) b).bind λd=>
(Qh c b).bind λa=>
Zp ((0:Int)<=(a.length:Int))<|
Zp ((a.length:Int)<=(a.length:Int))<|
Zp ((a.length:Int)<=(4611686018427387904:Int))<|
Zp (((8:Nat):Int)*(a.length:Int)<=(281474976710656:Int))<|
Zq (λv=>QB d a v.1 v.2.1) ((1:Int),List.replicate (Int.toNat (a.length:Int)) (0:Int),())
def Zw0:Ctr:=⟨[.dat (Xz),.dat Iq],[.own (.ol 2 (.flat Iq))],λa K=>ZT a λc a=>ZT a λb a=>QN (Q0 c b) λr=>K (r,()) ()⟩
def Qo (a:List Int) (e:Zx) (b:List Int) (c:Int):Option (((List Int)×Int×Unit) ⊕ List Int):=
if c<((Zx.Zjo e).length:Int) then
(atI (Zx.Zjo e) c).bind λf=>
(atI a f).bind λd=>
Zp ((b.length+[d].length)*(8:Nat)<=(140737488355328:Nat))<|
some (.inl (b++[d],Wq (c+1),()))
else
some (.inr b)
def QH (b:Zj) (a:Int):Option (List Int):=
(Q0 b a).bind λc=>
(atI (Zj.Qg b) a).bind λd=>
Zq (λv=>Qo c d v.1 v.2.1) (([]:List Int),(0:Int),())
def c175:Ctr:=⟨[.dat (Xz),.dat Iq],[.own (.ol 2 (.flat Iq))],λa K=>ZT a λc a=>ZT a λb a=>QN (QH c b) λr=>K (r,()) ()⟩
def Ji (f:List Int) (g c e a:Int) (b:List Vq):Option ((Int×(List Vq)×Unit) ⊕ ((Int×(List Vq)×Unit) ⊕ ((Int×(List Int)×(List (List Int))×(List Vq)×(List (List Int))×Unit) ⊕ ((Int×(List Int)×(List (List Int))×Unit) ⊕ ((Int×Int×(List Vq)×Unit) ⊕ Z0))))):=
if a<2 then
(atI f g).bind λd=>
Zp ((b.length+[(Wq (Wq ((2:Int)*d)+a),Wq (Wq ((2:Int)*e)+a),(2:Int),c,())].length)*(32:Nat)<=(140737488355328:Nat))<|
some (.inl (Wq (a+1),b++[(Wq (Wq ((2:Int)*d)+a),Wq (Wq ((2:Int)*e)+a),(2:Int),c,())],()))
else
some (.inr (.inl (Wq (c+1),b,())))
def Jj (f:List Int) (c:Int) (g:List Int) (j i:List (List Int)) (k:Int) (a b:List Int) (d:Int) (e:List Vq):Option ((Int×(List Vq)×Unit) ⊕ ((Int×(List Int)×(List (List Int))×(List Vq)×(List (List Int))×Unit) ⊕ ((Int×(List Int)×(List (List Int))×Unit) ⊕ ((Int×Int×(List Vq)×Unit) ⊕ Z0)))):=
if d<(b.length:Int) then
(atI b d).bind λh=>
Zq (λv=>Ji f c d h v.1 v.2.1) ((0:Int),e,())
else
some (.inr (.inl (Wq (c+1),g++[k],j++[a],e,List.set i (Int.toNat c) b,())))
def Jk (c:Zj) (a:List YA) (k:List Int) (b:Int) (d:List Int) (e:List (List Int)) (g:List Vq) (h:List (List Int)):Option ((Int×(List Int)×(List (List Int))×(List Vq)×(List (List Int))×Unit) ⊕ ((Int×(List Int)×(List (List Int))×Unit) ⊕ ((Int×Int×(List Vq)×Unit) ⊕ Z0))):=
if b<((Zj.Qg c).length:Int) then
(Qh c b).bind λl=>
(atI l 0).bind λi=>
Zp ((d.length+[i].length)*(8:Nat)<=(140737488355328:Nat))<|
(QH c b).bind λf=>
Zp ((e.length+[f].length)*(24:Nat)<=(140737488355328:Nat))<|
(atI h b).bind λj=>
Zq (λv=>Jj k b d e h i f j v.1 v.2.1) ((0:Int),g,())
else
some (.inr (.inr (.inr (c,a,g,d,e,([]:List Int),()))))
def Jl (h:Zj) (a:List YA) (g:List Vq) (b:Int) (d:List Int) (e:List (List Int)):Option ((Int×(List Int)×(List (List Int))×Unit) ⊕ ((Int×Int×(List Vq)×Unit) ⊕ Z0)):=
if b<(a.length:Int) then
(atI a b).bind λc=>
if (YA.drives c)=true then
(atI d (YA.net c)).bind λf=>
some (.inl (Wq (b+1),List.set d (Int.toNat (YA.net c)) b,e,()))
else
(atI e (YA.net c)).bind λf=>
Zp ((f.length+[b].length)*(8:Nat)<=(140737488355328:Nat))<|
some (.inl (Wq (b+1),d,List.set e (Int.toNat (YA.net c)) (f++[b]),()))
else
Zq (λv=>Jk h a d v.1 v.2.1 v.2.2.1 v.2.2.2.1 v.2.2.2.2.1) ((0:Int),([]:List Int),([]:List (List Int)),g,e,())
def Zbp (a:Zj) (b:List YA) (e d:Int) (c:List Vq):Option ((Int×Int×(List Vq)×Unit) ⊕ Z0):=
if d<((Zg.Instances (Zj.Design a)).length:Int) then
(atI (Zg.Instances (Zj.Design a)) d).bind λg=>
(Vk a g e).bind λf=>
Zp ((c.length+f.length)*(32:Nat)<=(140737488355328:Nat))<|
(Xl (Zl.X7 g)).bind λh=>
some (.inl (Wq (e+h),Wq (d+1),c++f,()))
else
Zp ((0:Int)<=((Zj.Qg a).length:Int))<|
Zp (((Zj.Qg a).length:Int)<=((Zj.Qg a).length:Int))<|
Zp (((Zj.Qg a).length:Int)<=(4611686018427387904:Int))<|
Zp (((8:Nat):Int)*((Zj.Qg a).length:Int)<=(281474976710656:Int))<|
Zp (((24:Nat):Int)*((Zj.Qg a).length:Int)<=(281474976710656:Int))<|
Zq (λv=>Jl a b c v.1 v.2.1 v.2.2.1) ((0:Int),List.replicate (Int.toNat ((Zj.Qg a).length:Int)) (0:Int),List.replicate (Int.toNat ((Zj.Qg a).length:Int)) (([]:List Int)),())
def Zd3 (a:Zj):Option Z0:=
(Xr (Zj.Design a)).bind λb=>
Zq (λv=>Zbp a b v.1 v.2.1 v.2.2.1) ((0:Int),(0:Int),([]:List Vq),())
def Zw1:Ctr:=D1 (Xz) (.ptr (Zhm)) Zd3
def Je (a:List Zc):Option Int:=
some (a.length:Int)
def Zw2:Ctr:=D1 (.sl (Xh)) Iq Je
def Vl (a:Zc):Option Bool:=
(ZQ (Zc.VQ a) 2 100000).bind λc=>
if c then
(ZQ (Zc.Zae a) 0 (Wq (Zc.VQ a-1))).bind λb=>
if b then
(ZQ (Zc.Zad a) 0 (Wq (Zc.VQ a-1))).bind λd=>
if d then
if Zc.Zae a=Zc.Zad a then
some false
else
if Zc.Divide a=1 then
some (!Zc.Zex a)
else
some false
else
some false
else
some false
else
some false
def Zw3:Ctr:=D1 (Xh) (.bool) Vl
def VU (d:(List Zc)->Int->Option Zct) (c:List Zc) (e:Int):Option Zct:=
(atI c e).bind λb=>
if Zc.Source b<0 then
some (Zc.VQ b,(Zc.Zae b,Zc.Zad b,()),())
else
(d c (Zc.Source b)).bind λa=>
if 1<Zc.Divide b then
if (Zc.Zex b)=true then
some (Wq (Zc.Divide b*Zct.period a),(Wq ((Zct.edges a).1+Wq (Wq (Int.tdiv (Zc.Divide b) 2)*Zct.period a)),(Zct.edges a).1,()),())
else
some (Wq (Zc.Divide b*Zct.period a),((Zct.edges a).1,Wq ((Zct.edges a).1+Wq (Wq (Int.tdiv (Zc.Divide b) 2)*Zct.period a)),()),())
else
if (Zc.Zex b)=true then
some (Zct.period a,((Zct.edges a).2.1,(Zct.edges a).1,()),())
else
some a
def VI:Nat->(List Zc)->Int->Option Zct
| 0=>λ_ _=>none
| n+1=>VU (VI n)
def Ze4 (a:List Zc) (b:Int):Option Zct:=Zuc (λn=>VI n a b)
def Zb8 (c:(List Zc)->Int->Option Zct):Ctr:=⟨[.dat (.sl (Xh)),.dat Iq],[.dat (ZvQ)],λa K=>ZT a λb a=>ZT a λd a=>QN (c b d) λr=>K (r,()) ()⟩
def Zw4:Ctr:=Zb8 Ze4
def Zd1 (c:List Zc) (b:Int):Option Bool:=
(atI c b).bind λa=>
if Zc.Place a<0 then
some false
else
if Zc.Yn a<0 then
some false
else
if Zc.YK a<Zc.Yn a then
some false
else
if 100000<Zc.YK a then
some false
else
(ZQ (Zc.Y8 a) 0 100000).bind λf=>
if f then
if Zc.Source a=(-1) then
(Vl a).bind λd=>
some d
else
(ZQ (Zc.Source a) 0 (Wq (b-1))).bind λh=>
if h then
(ZQ (Zc.Divide a) 1 8).bind λg=>
if g then
if Zc.VQ a=0 then
if Zc.Zae a=0 then
if Zc.Zad a=0 then
(Ze4 c b).bind λe=>
some (decide (Zct.period e<=100000))
else
some false
else
some false
else
some false
else
some false
else
some false
else
some false
def Zw5:Ctr:=D2 (.sl (Xh)) Iq (.bool) Zd1
def ZaJ (b:List Zc) (a:List (List UInt8)) (c:Int):Option (((List (List UInt8))×Int×Unit) ⊕ Bool):=
if c<(b.length:Int) then
(atI b c).bind λd=>
(Zd1 b c).bind λf=>
if f then
Zp ((a.length+[Zc.Name d].length)*(16:Nat)<=(140737488355328:Nat))<|
some (.inl (a++[Zc.Name d],Wq (c+1),()))
else
some (.inr false)
else
(XU a).bind λe=>
some (.inr e)
def ZcU (a:List Zc):Option Bool:=
if 6<(a.length:Int) then
some false
else
Zq (λv=>ZaJ a v.1 v.2.1) (([]:List (List UInt8)),(0:Int),())
def Zw6:Ctr:=D1 (.sl (Xh)) (.bool) ZcU
def Qz (b:Z0) (a:Int):Option Bool:=
(XL (Z0.Zw b)).bind λd=>
(ZQ a 0 (Wq (d-1))).bind λc=>
some c
def c182:Ctr:=D2 (.ptr (Zhm)) Iq (.bool) Qz
def Qj (a:Zc) (b:Z0):Option Bool:=
(Qz b (Zc.Place a)).bind λc=>
some !c
def c183:Ctr:=D2 (Xh) (.ptr (.ptr (Zhm))) (.bool) Qj
def ZU (b:List Zc) (e:Z0×Unit) (a:Int):Option ((Int×Unit) ⊕ Int):=
if a<(b.length:Int) then
(atI b a).bind λd=>
(Qj d e.1).bind λc=>
if c then
some (.inr a)
else
some (.inl (Wq (a+1),()))
else
some (.inr (-1))
def ZH (a:List Zc) (b:Z0×Unit):Option Int:=
Zq (λv=>ZU a b v.1) ((0:Int),())
def Zw7:Ctr:=D2 (.sl (Xh)) (.fn 118 (.pair (.ptr (.ptr (Zhm))) (.unit))) Iq ZH
def ZE (a:List Zc) (c:Z0×Unit):Option Bool:=
(ZH a c).bind λb=>
some (decide (0<=b))
def ZvY:Ctr:=D2 (.sl (Xh)) (.fn 118 (.pair (.ptr (.ptr (Zhm))) (.unit))) (.bool) ZE
def Ze3 (a:Int):Option Bool:=
(ZQ a (-1000000000) 1000000000).bind λb=>
some b
def ZvZ:Ctr:=D1 Iq (.bool) Ze3
def ZbR (a:Yb):Option Bool:=
(Ze3 (Yb.Early a)).bind λc=>
if c then
(Ze3 (Yb.Late a)).bind λb=>
if b then
some (decide (Yb.Early a<=Yb.Late a))
else
some false
else
some false
def ZuE:Ctr:=D1 (Zj1) (.bool) ZbR
def Ze2 (a:Int):Option Bool:=
(ZQ a 0 1000000).bind λb=>
some b
def Zw8:Ctr:=D1 Iq (.bool) Ze2
def Zbn (a:Yb):Option Bool:=
(ZbR a).bind λc=>
if c then
(Ze2 (Yb.Early a)).bind λb=>
if b then
(Ze2 (Yb.Late a)).bind λd=>
some d
else
some false
else
some false
def Zv0:Ctr:=D1 (Zj1) (.bool) Zbn
def Qq (i:Z0) (e:List Zh) (c:Bool) (j b:Int):Option ((Int×Unit) ⊕ Bool):=
if b<(e.length:Int) then
(atI e b).bind λa=>
(Qz i (Zh.Place a)).bind λl=>
if l then
(atI (Z0.Zw i) (Zh.Place a)).bind λh=>
if 0<=YA.instance h then
some (.inr false)
else
if (YA.drives h == c)=true then
if 0<b then
(atI e (Wq (b-1))).bind λk=>
if Zh.Place a<=Zh.Place k then
some (.inr false)
else
(ZQ (Zh.Clock a) 0 (Wq (j-1))).bind λd=>
if d then
(ZbR (Zh.Delay a)).bind λg=>
if g then
if Yb.Early (Zh.Delay a)<(-100000) then
some (.inr false)
else
if 100000<Yb.Late (Zh.Delay a) then
some (.inr false)
else
if c then
(Zbn (Zh.Za2 a)).bind λf=>
if f then
if c then
some (.inl (Wq (b+1),()))
else
if (decide (Yb.Early (Zh.Za2 a)=0)&&decide (Yb.Late (Zh.Za2 a)=0))=true then
some (.inl (Wq (b+1),()))
else
some (.inr false)
else
some (.inr false)
else
if c then
some (.inl (Wq (b+1),()))
else
if (decide (Yb.Early (Zh.Za2 a)=0)&&decide (Yb.Late (Zh.Za2 a)=0))=true then
some (.inl (Wq (b+1),()))
else
some (.inr false)
else
some (.inr false)
else
some (.inr false)
else
(ZQ (Zh.Clock a) 0 (Wq (j-1))).bind λd=>
if d then
(ZbR (Zh.Delay a)).bind λg=>
if g then
if Yb.Early (Zh.Delay a)<(-100000) then
some (.inr false)
else
if 100000<Yb.Late (Zh.Delay a) then
some (.inr false)
else
if c then
(Zbn (Zh.Za2 a)).bind λf=>
if f then
if c then
some (.inl (Wq (b+1),()))
else
if (decide (Yb.Early (Zh.Za2 a)=0)&&decide (Yb.Late (Zh.Za2 a)=0))=true then
some (.inl (Wq (b+1),()))
else
some (.inr false)
else
some (.inr false)
else
if c then
some (.inl (Wq (b+1),()))
else
if (decide (Yb.Early (Zh.Za2 a)=0)&&decide (Yb.Late (Zh.Za2 a)=0))=true then
some (.inl (Wq (b+1),()))
else
some (.inr false)
else
some (.inr false)
else
some (.inr false)
else
some (.inr false)
else
some (.inr false)
else
some (.inr true)
def XM (a:Z0) (b:List Zh) (c:Bool) (d:Int):Option Bool:=
Zq (λv=>Qq a b c d v.1) ((0:Int),())
def Zw9:Ctr:=D4 (.ptr (Zhm)) (.sl (Yx)) (.bool) Iq (.bool) XM
def Zd2 (a b:Int):Option Bool:=
if a=1 then
some (decide (b=0))
else
if a=2 then
(ZQ b 1 10).bind λc=>
some c
else
if a=3 then
if a=3 then
(ZQ b 0 1000000000).bind λc=>
some c
else
some false
else
if a=4 then
(ZQ b 0 1000000000).bind λc=>
some c
else
some false
def Zxa:Ctr:=D2 Iq Iq (.bool) Zd2
def QD (f:Z0) (a:Ze) (b:Int):Option ((Int×Unit) ⊕ Bool):=
if b<(([Ze.From a,Ze.Through a,Ze.To a].length):Int) then
(atI ([Ze.From a,Ze.Through a,Ze.To a]) b).bind λc=>
if 4<(c.length:Int) then
some (.inr false)
else
(XL (Z0.Zw f)).bind λg=>
(Xe c 0 (Wq (g-1))).bind λd=>
if d then
some (.inl (Wq (b+1),()))
else
some (.inr false)
else
(Zd2 (Ze.Kind a) (Ze.Value a)).bind λi=>
if i then
(Qy (Ze.From a)).bind λh=>
if h then
(Qy (Ze.To a)).bind λe=>
some (.inr e)
else
some (.inr false)
else
some (.inr false)
def X8 (a:Z0) (b:Ze):Option Bool:=
Zq (λv=>QD a b v.1) ((0:Int),())
def Zxb:Ctr:=D2 (.ptr (Zhm)) (Z4) (.bool) X8
def Qk (c:Ze) (a:Z0):Option Bool:=
(X8 a c).bind λb=>
some !b
def c193:Ctr:=D2 (Z4) (.ptr (.ptr (Zhm))) (.bool) Qk
def ZI (b:List Ze) (e:Z0×Unit) (a:Int):Option ((Int×Unit) ⊕ Int):=
if a<(b.length:Int) then
(atI b a).bind λd=>
(Qk d e.1).bind λc=>
if c then
some (.inr a)
else
some (.inl (Wq (a+1),()))
else
some (.inr (-1))
def ZB (a:List Ze) (b:Z0×Unit):Option Int:=
Zq (λv=>ZI a b v.1) ((0:Int),())
def c194:Ctr:=D2 (.sl (Z4)) (.fn 122 (.pair (.ptr (.ptr (Zhm))) (.unit))) Iq ZB
def Zz (a:List Ze) (c:Z0×Unit):Option Bool:=
(ZB a c).bind λb=>
some (decide (0<=b))
def Zxc:Ctr:=D2 (.sl (Z4)) (.fn 122 (.pair (.ptr (.ptr (Zhm))) (.unit))) (.bool) Zz
def Jw (a b:Int):Option Bool:=
if 100<=a then
if a<=b then
some (decide (b<=5000))
else
some false
else
some false
def c196:Ctr:=D2 Iq Iq (.bool) Jw
def ZcV (a:Zm):Option Bool:=
(ZbV (Zm.Name a)).bind λc=>
if c then
(Jw (Zm.Xq a) (Zm.Qn a)).bind λb=>
if b then
(Jw (Zm.XK a) (Zm.QG a)).bind λd=>
some d
else
some false
else
some false
def Zxd:Ctr:=D1 (Y6) (.bool) ZcV
def VH (a:List Zm):Option Int:=
some (a.length:Int)
def c198:Ctr:=D1 (.sl (Y6)) Iq VH
def Xt (b:List Zm) (a:List (List UInt8)) (c:Int):Option (((List (List UInt8))×Int×Unit) ⊕ Bool):=
if c<(b.length:Int) then
(atI b c).bind λd=>
(ZcV d).bind λf=>
if f then
Zp ((a.length+[Zm.Name d].length)*(16:Nat)<=(140737488355328:Nat))<|
some (.inl (a++[Zm.Name d],Wq (c+1),()))
else
some (.inr false)
else
(VH b).bind λe=>
(ZQ e 1 4).bind λh=>
if h then
(XU a).bind λg=>
some (.inr g)
else
some (.inr false)
def J3 (a:List Zm):Option Bool:=
Zq (λv=>Xt a v.1 v.2.1) (([]:List (List UInt8)),(0:Int),())
def Zxe:Ctr:=D1 (.sl (Y6)) (.bool) J3
def J5 (b:Z0) (a:Zo):Option Bool:=
(Je (Zo.Yk a)).bind λc=>
(ZcU (Zo.Yk a)).bind λd=>
if d then
(ZE (Zo.Yk a) (b,())).bind λi=>
if i then
some false
else
(XM b (Zo.Zbb a) true c).bind λh=>
if h then
(XM b (Zo.Vp a) false c).bind λf=>
if f then
if 6<((Zo.Exceptions a).length:Int) then
some false
else
(Zz (Zo.Exceptions a) (b,())).bind λg=>
if g then
some false
else
if ((Zo.X5 a).length:Int)=0 then
some true
else
(J3 (Zo.X5 a)).bind λe=>
some e
else
some false
else
some false
else
some false
def Zxf:Ctr:=D2 (.ptr (Zhm)) (Vh) (.bool) J5
def ZBQ (a:Zj) (d:Zo):Option Bool:=
(ZdX a).bind λc=>
if c then
(Zd3 a).bind λb=>
(J5 b d).bind λe=>
some e
else
some false
def c201:Ctr:=D2 (Xz) (Vh) (.bool) ZBQ
def ZA3 (a:List Zc):Option (List Zc):=
Zp ((([]:List (List UInt8×Int×Int×Int×Int×Int×Int×Bool×Int×Int×Int×Unit)).length+a.length)*(96:Nat)<=(140737488355328:Nat))<|
some (([]:List (List UInt8×Int×Int×Int×Int×Int×Int×Bool×Int×Int×Int×Unit))++a)
def Zxg:Ctr:=⟨[.dat (.sl (Xh))],[.own (.ol 154 (.flat (Xh)))],λa K=>ZT a λb a=>QN (ZA3 b) λr=>K (r,()) ()⟩
def ZAF (a:List Zh):Option (List Zh):=
Zp ((([]:List (Int×Int×Yb×Yb×Unit)).length+a.length)*(48:Nat)<=(140737488355328:Nat))<|
some (([]:List (Int×Int×Yb×Yb×Unit))++a)
def c203:Ctr:=⟨[.dat (.sl (Yx))],[.own (.ol 164 (.flat (Yx)))],λa K=>ZT a λb a=>QN (ZAF b) λr=>K (r,()) ()⟩
def ZAW (a:List Zm):Option (List Zm):=
Zp ((([]:List (List UInt8×Int×Int×Int×Int×Unit)).length+a.length)*(48:Nat)<=(140737488355328:Nat))<|
some (([]:List (List UInt8×Int×Int×Int×Int×Unit))++a)
def Zxh:Ctr:=⟨[.dat (.sl (Y6))],[.own (.ol 168 (.flat (Y6)))],λa K=>ZT a λb a=>QN (ZAW b) λr=>K (r,()) ()⟩
def ZBL (i:Zo) (e:List Zc) (b a:List Zh) (d:List Zm) (g:Int) (f:List Ze):Option ((Int×(List Ze)×Unit) ⊕ Zo):=
if g<((Zo.Exceptions i).length:Int) then
(atI (Zo.Exceptions i) g).bind λc=>
(Vg (Ze.From c)).bind λj=>
(Vg (Ze.Through c)).bind λh=>
(Vg (Ze.To c)).bind λk=>
Zp ((f.length+[(Ze.Kind c,Ze.Value c,j,h,k,())].length)*(88:Nat)<=(140737488355328:Nat))<|
some (.inl (Wq (g+1),f++[(Ze.Kind c,Ze.Value c,j,h,k,())],()))
else
some (.inr (e,b,a,f,d,()))
def ZDg (a:Zo):Option Zo:=
(ZA3 (Zo.Yk a)).bind λc=>
(ZAF (Zo.Zbb a)).bind λb=>
(ZAF (Zo.Vp a)).bind λe=>
(ZAW (Zo.X5 a)).bind λd=>
Zq (λv=>ZBL a c b e d v.1 v.2.1) ((0:Int),([]:List Ze),())
def Zxi:Ctr:=⟨[.dat (Vh)],[.own (ZuI)],λa K=>ZT a λb a=>QN (ZDg b) λr=>K (r,()) ()⟩
def ZAX (a:List Zl):Option Int:=
some (a.length:Int)
def c206:Ctr:=D1 (.sl (YJ)) Iq ZAX
def ZBa (e:ZgL) (c:Int) (d:List YA) (a:List Int) (b:Int):Option (((List Int)×Int×Unit) ⊕ List Int):=
if b<(d.length:Int) then
(atI d b).bind λf=>
if ZgL.Kind e=2 then
if YA.instance f<0 then
Zp ((a.length+[Wq (b+(2:Int))].length)*(8:Nat)<=(140737488355328:Nat))<|
some (.inl (a++[Wq (b+2)],Wq (b+1),()))
else
if ZgL.Kind e=3 then
if YA.instance f<0 then
Zp ((a.length+[Wq (b-(2:Int))].length)*(8:Nat)<=(140737488355328:Nat))<|
some (.inl (a++[Wq (b-2)],Wq (b+1),()))
else
if ZgL.Kind e=3 then
if YA.instance f=Wq (c-1) then
Zp ((a.length+[(-1:Int)].length)*(8:Nat)<=(140737488355328:Nat))<|
some (.inl (a++[(-1:Int)],Wq (b+1),()))
else
Zp ((a.length+[b].length)*(8:Nat)<=(140737488355328:Nat))<|
some (.inl (a++[b],Wq (b+1),()))
else
Zp ((a.length+[b].length)*(8:Nat)<=(140737488355328:Nat))<|
some (.inl (a++[b],Wq (b+1),()))
else
if ZgL.Kind e=3 then
if YA.instance f=Wq (c-1) then
Zp ((a.length+[(-1:Int)].length)*(8:Nat)<=(140737488355328:Nat))<|
some (.inl (a++[(-1:Int)],Wq (b+1),()))
else
Zp ((a.length+[b].length)*(8:Nat)<=(140737488355328:Nat))<|
some (.inl (a++[b],Wq (b+1),()))
else
Zp ((a.length+[b].length)*(8:Nat)<=(140737488355328:Nat))<|
some (.inl (a++[b],Wq (b+1),()))
else
if ZgL.Kind e=3 then
if YA.instance f<0 then
Zp ((a.length+[Wq (b-(2:Int))].length)*(8:Nat)<=(140737488355328:Nat))<|
some (.inl (a++[Wq (b-2)],Wq (b+1),()))
else
if ZgL.Kind e=3 then
if YA.instance f=Wq (c-1) then
Zp ((a.length+[(-1:Int)].length)*(8:Nat)<=(140737488355328:Nat))<|
some (.inl (a++[(-1:Int)],Wq (b+1),()))
else
Zp ((a.length+[b].length)*(8:Nat)<=(140737488355328:Nat))<|
some (.inl (a++[b],Wq (b+1),()))
else
Zp ((a.length+[b].length)*(8:Nat)<=(140737488355328:Nat))<|
some (.inl (a++[b],Wq (b+1),()))
else
if ZgL.Kind e=3 then
if YA.instance f=Wq (c-1) then
Zp ((a.length+[(-1:Int)].length)*(8:Nat)<=(140737488355328:Nat))<|
some (.inl (a++[(-1:Int)],Wq (b+1),()))
else
Zp ((a.length+[b].length)*(8:Nat)<=(140737488355328:Nat))<|
some (.inl (a++[b],Wq (b+1),()))
else
Zp ((a.length+[b].length)*(8:Nat)<=(140737488355328:Nat))<|
some (.inl (a++[b],Wq (b+1),()))
else
some (.inr a)
def ZBP (d:ZgL) (a:Zj):Option (List Int):=
(ZAX (Zg.Instances (Zj.Design a))).bind λc=>
(Xr (Zj.Design a)).bind λb=>
Zq (λv=>ZBa d c b v.1 v.2.1) (([]:List Int),(0:Int),())
def Zxj:Ctr:=⟨[.dat (Zug),.dat (Xz)],[.own (.ol 2 (.flat Iq))],λa K=>ZT a λc a=>ZT a λb a=>QN (ZBP c b) λr=>K (r,()) ()⟩
def ZCh (c d:List Int) (a:Int) (b:List Int):Option ((Int×(List Int)×Unit) ⊕ (Bool×(List Int))):=
if a<(d.length:Int) then
(atI b a).bind λg=>
(atI c g).bind λe=>
(atI (List.set b (Int.toNat a) e) a).bind λf=>
if f<0 then
some (.inr (false,List.set b (Int.toNat a) e))
else
some (.inl (Wq (a+1),List.set b (Int.toNat a) e,()))
else
some (.inr (true,b))
def ZBS (b a:List Int):Option (Bool×(List Int)):=
Zq (λv=>ZCh b a v.1 v.2.1) ((0:Int),a,())
def c208:Ctr:=⟨[.dat (.sl Iq),.back (.ol 2 (.flat Iq))],[.dat (.bool)],λa K=>ZT a λb a=>ZT a λc a=>QN (ZBS b c) λr=>K (r.1,()) (r.2,())⟩
def ZBf (g:Zo) (f:List Int) (j:List Zc) (k l:List Zh) (b:Int) (h:Bool) (c:List (Int×Int×List Int×List Int×List Int×Unit)):Option ((Int×Bool×(List (Int×Int×List Int×List Int×List Int×Unit))×Unit) ⊕ ((Int×(List Zh)×Bool×Unit) ⊕ ((Int×(List Zh)×Bool×Unit) ⊕ ((Int×(List Zc)×Bool×Unit) ⊕ (Bool×Zo))))):=
if b<((Zo.Exceptions g).length:Int) then
(atI c b).bind λa=>
if h then
(ZBS f a.2.2.1).bind λd=>
if d.1 then
(ZBS f a.2.2.2.1).bind λe=>
if e.1 then
(ZBS f a.2.2.2.2.1).bind λi=>
some (.inl (Wq (b+1),i.1,List.set c (Int.toNat b) (a.1,a.2.1,d.2,e.2,i.2,()),()))
else
some (.inl (Wq (b+1),false,List.set c (Int.toNat b) (a.1,a.2.1,d.2,e.2,a.2.2.2.2),()))
else
some (.inl (Wq (b+1),false,List.set c (Int.toNat b) (a.1,a.2.1,d.2,a.2.2.2),()))
else
some (.inl (Wq (b+1),false,List.set c (Int.toNat b) a,()))
else
some (.inr (.inr (.inr (.inr (h,(j,k,l,c,g.2.2.2.2))))))
def ZCz (e:Zo) (f:List Int) (h:List Zc) (j:List Zh) (a:Int) (b:List Zh) (g:Bool):Option ((Int×(List Zh)×Bool×Unit) ⊕ ((Int×(List Zh)×Bool×Unit) ⊕ ((Int×(List Zc)×Bool×Unit) ⊕ (Bool×Zo)))):=
if a<((Zo.Vp e).length:Int) then
(atI b a).bind λc=>
(atI f (Zh.Place c)).bind λd=>
if g then
(atI (List.set b (Int.toNat a) (d,c.2)) a).bind λi=>
some (.inl (Wq (a+1),List.set b (Int.toNat a) (d,c.2),decide (0<=Zh.Place i),()))
else
some (.inl (Wq (a+1),List.set b (Int.toNat a) (d,c.2),false,()))
else
Zq (λv=>ZBf e f h j b v.1 v.2.1 v.2.2.1) ((0:Int),g,Zo.Exceptions e,())
def ZCA (e:Zo) (g:List Int) (h:List Zc) (a:Int) (b:List Zh) (f:Bool):Option ((Int×(List Zh)×Bool×Unit) ⊕ ((Int×(List Zc)×Bool×Unit) ⊕ (Bool×Zo))):=
if a<((Zo.Zbb e).length:Int) then
(atI b a).bind λc=>
(atI g (Zh.Place c)).bind λd=>
if f then
(atI (List.set b (Int.toNat a) (d,c.2)) a).bind λi=>
some (.inl (Wq (a+1),List.set b (Int.toNat a) (d,c.2),decide (0<=Zh.Place i),()))
else
some (.inl (Wq (a+1),List.set b (Int.toNat a) (d,c.2),false,()))
else
Zq (λv=>ZCz e g h b v.1 v.2.1 v.2.2.1) ((0:Int),Zo.Vp e,f,())
def ZCB (e:Zo) (g:List Int) (a:Int) (c:List Zc) (f:Bool):Option ((Int×(List Zc)×Bool×Unit) ⊕ (Bool×Zo)):=
if a<((Zo.Yk e).length:Int) then
(atI c a).bind λb=>
(atI g (Zc.Place b)).bind λd=>
if f then
(atI (List.set c (Int.toNat a) (Zc.Name b,d,b.2.2)) a).bind λh=>
some (.inl (Wq (a+1),List.set c (Int.toNat a) (Zc.Name b,d,b.2.2),decide (0<=Zc.Place h),()))
else
some (.inl (Wq (a+1),List.set c (Int.toNat a) (Zc.Name b,d,b.2.2),false,()))
else
Zq (λv=>ZCA e g c v.1 v.2.1 v.2.2.1) ((0:Int),Zo.Zbb e,f,())
def ZDf (a:Zo) (b:List Int):Option (Bool×Zo):=
Zq (λv=>ZCB a b v.1 v.2.1 v.2.2.1) ((0:Int),Zo.Yk a,true,())
def Zxk:Ctr:=⟨[.io (ZuI),.dat (.sl Iq)],[.dat (.bool)],λa K=>ZT a λc a=>ZT a λb a=>QN (ZDf c b) λr=>K (r.1,()) (r.2,())⟩
def ZBi (a:List Yv):Option (List Yv):=
Zp ((([]:List (List UInt8×Int×Int×Bool×Unit)).length+a.length)*(40:Nat)<=(140737488355328:Nat))<|
some (([]:List (List UInt8×Int×Int×Bool×Unit))++a)
def c210:Ctr:=⟨[.dat (.sl (ZfZ))],[.own (.ol 342 (.flat (ZfZ)))],λa K=>ZT a λb a=>QN (ZBi b) λr=>K (r,()) ()⟩
def ZBh (a:List ZC):Option (List ZC):=
Zp ((([]:List (Int×Int×Int×Int×List Zy×List Zy×Unit)).length+a.length)*(80:Nat)<=(140737488355328:Nat))<|
some (([]:List (Int×Int×Int×Int×List Zy×List Zy×Unit))++a)
def Zxl:Ctr:=⟨[.dat (.sl (Zgv))],[.own (.ol 296 (.flat (Zgv)))],λa K=>ZT a λb a=>QN (ZBh b) λr=>K (r,()) ()⟩
def ZBM (b a:List Zy) (c:Int):Option (((List Zy)×Int×Unit) ⊕ List Zy):=
if c<(b.length:Int) then
(atI b c).bind λd=>
(Vg (Zy.ZgK d)).bind λf=>
(Vg (Zy.Loads d)).bind λe=>
(Vg (Zy.Values d)).bind λg=>
Zp ((a.length+[(f,e,g,())].length)*(72:Nat)<=(140737488355328:Nat))<|
some (.inl (a++[(f,e,g,())],Wq (c+1),()))
else
some (.inr a)
def ZCq (a:List Zy):Option (List Zy):=
Zq (λv=>ZBM a v.1 v.2.1) (([]:List Zy),(0:Int),())
def c212:Ctr:=⟨[.dat (.sl (XF))],[.own (.ol 402 (Zk3))],λa K=>ZT a λb a=>QN (ZCq b) λr=>K (r,()) ()⟩
def ZBc (k:Int) (i:List Zk) (c:Zk) (d:List Yv) (b:List Int) (g:List ZC) (e:Int) (a:List ZC×Int):Option ((Int×(List ZC×Int)×Unit) ⊕ ((Int×(List Zk)×Unit) ⊕ Zt)):=
if e<(g.length:Int) then
(atI a.1 e).bind λh=>
Zp (a.2<=e)<|
(ZCq (ZC.Delay h)).bind λl=>
(ZCq (ZC.Za2 h)).bind λj=>
Zp (e=a.2)<|
(atI a.1 a.2).bind λf=>
some (.inl (Wq (e+1),(List.set a.1 (Int.toNat a.2) (ZC.Kind f,ZC.From f,ZC.To f,ZC.Za7 f,l,j,()),a.2+1),()))
else
Zp (a.2=(a.1.length:Int))<|
Zp ((i.length+[(Zk.Name c,Zk.Kind c,d,a.1,b,c.2.2.2.2.2)].length)*(112:Nat)<=(140737488355328:Nat))<|
some (.inr (.inl (Wq (k+1),i++[(Zk.Name c,Zk.Kind c,d,a.1,b,c.2.2.2.2.2)],())))
def ZAU (c:Zt) (b:Int) (d:List Zk):Option ((Int×(List Zk)×Unit) ⊕ Zt):=
if b<((Zt.Cells c).length:Int) then
(atI (Zt.Cells c) b).bind λa=>
(ZBi (Zk.Yz a)).bind λg=>
(Vg (Zk.Truth a)).bind λf=>
(ZBh (Zk.JR a)).bind λe=>
Zq (λv=>ZBc b d a g f e v.1 v.2.1) ((0:Int),(e,(0:Int)),())
else
some (.inr (d,()))
def ZBB (a:Zt):Option Zt:=
Zq (λv=>ZAU a v.1 v.2.1) ((0:Int),([]:List Zk),())
def c213:Ctr:=⟨[.dat (YR)],[.own (Zpq)],λa K=>ZT a λb a=>QN (ZBB b) λr=>K (r,()) ()⟩
def ZAN (a:List Zl):Option (List Zl):=
Zp ((([]:List (List UInt8×Int×List Int×Unit)).length+a.length)*(48:Nat)<=(140737488355328:Nat))<|
some (([]:List (List UInt8×Int×List Int×Unit))++a)
def Zxm:Ctr:=⟨[.dat (.sl (YJ))],[.own (.ol 192 (.flat (YJ)))],λa K=>ZT a λb a=>QN (ZAN b) λr=>K (r,()) ()⟩
def ZBF (a:List (List UInt8)):Option (List (List UInt8)):=
Zp ((([]:List (List UInt8)).length+a.length)*(16:Nat)<=(140737488355328:Nat))<|
some (([]:List (List UInt8))++a)
def Zxn:Ctr:=⟨[.dat (.sl (.str))],[.own (.ol 9 (.flat (.str)))],λa K=>ZT a λb a=>QN (ZBF b) λr=>K (r,()) ()⟩
def ZBd (a:List Ye):Option (List Ye):=
Zp ((([]:List (List UInt8×Int×Int×Unit)).length+a.length)*(32:Nat)<=(140737488355328:Nat))<|
some (([]:List (List UInt8×Int×Int×Unit))++a)
def Zxo:Ctr:=⟨[.dat (.sl (ZcF))],[.own (.ol 258 (.flat (ZcF)))],λa K=>ZT a λb a=>QN (ZBd b) λr=>K (r,()) ()⟩
def ZA9 (b:List Zl) (c:List (List UInt8)) (e:List Ye) (d:Int) (a:List Zl×Int):Option ((Int×(List Zl×Int)×Unit) ⊕ Zg):=
if d<(b.length:Int) then
(atI a.1 d).bind λh=>
Zp (a.2<=d)<|
(Vg (Zl.X7 h)).bind λg=>
Zp (d=a.2)<|
(atI a.1 a.2).bind λf=>
some (.inl (Wq (d+1),(List.set a.1 (Int.toNat a.2) (Zl.Name f,Zl.Cell f,g,()),a.2+1),()))
else
Zp (a.2=(a.1.length:Int))<|
some (.inr (a.1,c,e,()))
def ZBA (a:Zg):Option Zg:=
(ZAN (Zg.Instances a)).bind λb=>
(ZBF (Zg.X7 a)).bind λc=>
(ZBd (Zg.Xb a)).bind λd=>
Zq (λv=>ZA9 b c d v.1 v.2.1) ((0:Int),(b,(0:Int)),())
def Zxp:Ctr:=⟨[.dat (YU)],[.own (Zrc)],λa K=>ZT a λb a=>QN (ZBA b) λr=>K (r,()) ()⟩
def ZBE (a:Zx):Option Zx:=
(Vg (Zx.Parent a)).bind λc=>
(Vg (Zx.Res a)).bind λb=>
(Vg (Zx.Cap a)).bind λe=>
(Vg (Zx.Zjo a)).bind λd=>
some (c,b,e,d,())
def c218:Ctr:=⟨[.dat (Za9)],[.own (Zql)],λa K=>ZT a λb a=>QN (ZBE b) λr=>K (r,()) ()⟩
def ZBJ (f:Zj) (a:Zt) (b:Zg) (c:Int) (d:List Zx):Option ((Int×(List Zx)×Unit) ⊕ Zj):=
if c<((Zj.Qg f).length:Int) then
(atI (Zj.Qg f) c).bind λg=>
(ZBE g).bind λe=>
Zp ((d.length+[e].length)*(96:Nat)<=(140737488355328:Nat))<|
some (.inl (Wq (c+1),d++[e],()))
else
some (.inr (a,b,d,()))
def ZCp (a:Zj):Option Zj:=
(ZBB (Zj.Library a)).bind λc=>
(ZBA (Zj.Design a)).bind λb=>
Zq (λv=>ZBJ a c b v.1 v.2.1) ((0:Int),([]:List Zx),())
def Zxq:Ctr:=⟨[.dat (Xz)],[.own (ZuH)],λa K=>ZT a λb a=>QN (ZCp b) λr=>K (r,()) ()⟩
def ZB2 (i:Zj) (a:List YA) (c:Int) (e:List ((Int×Int×Unit)×Int)) (d:List Int):Option ((Int×(List ((Int×Int×Unit)×Int))×(List Int)×Unit) ⊕ List (Znc×Int)):=
if c<(a.length:Int) then
(atI a c).bind λb=>
if (YA.drives b)=true then
some (.inl (Wq (c+1),e,d,()))
else
(atI (Zj.Qg i) (YA.net b)).bind λg=>
(atI d (YA.net b)).bind λf=>
(atI (Zx.Zjo g) f).bind λh=>
some (.inl (Wq (c+1),ZsX ZIJ.ty ZIJ.ety e (YA.instance b,YA.pin b,()) h,List.set d (Int.toNat (YA.net b)) (Wq (f+1)),()))
else
some (.inr e)
def ZA8 (a:Zj):Option (List (Znc×Int)):=
Zp ((0:Int)<=((Zj.Qg a).length:Int))<|
Zp (((Zj.Qg a).length:Int)<=((Zj.Qg a).length:Int))<|
Zp (((Zj.Qg a).length:Int)<=(4611686018427387904:Int))<|
Zp (((8:Nat):Int)*((Zj.Qg a).length:Int)<=(281474976710656:Int))<|
(Xr (Zj.Design a)).bind λb=>
Zq (λv=>ZB2 a b v.1 v.2.1 v.2.2.1) ((0:Int),([]:List ((Int×Int×Unit)×Int)),List.replicate (Int.toNat ((Zj.Qg a).length:Int)) (0:Int),())
def Zxr:Ctr:=⟨[.dat (Xz)],[.own (.mp (Zui) Iq)],λa K=>ZT a λb a=>QN (ZA8 b) λr=>K (r,()) ()⟩
def ZBz (b:Zj) (a:Znc) (d:Int):Option Zj:=
if Znc.instance a<0 then
(atI (Zg.Xb (Zj.Design b)) (Znc.pin a)).bind λc=>
some (Zj.Library b,(Zg.Instances (Zj.Design b),Zg.X7 (Zj.Design b),List.set (Zg.Xb (Zj.Design b)) (Int.toNat (Znc.pin a)) (Ye.Name c,Ye.Dir c,d,()),()),b.2.2)
else
(atI (Zg.Instances (Zj.Design b)) (Znc.instance a)).bind λc=>
(atI c.2.2.1 (Znc.pin a)).bind λe=>
some (Zj.Library b,(List.set (Zg.Instances (Zj.Design b)) (Int.toNat (Znc.instance a)) (c.1,c.2.1,List.set c.2.2.1 (Int.toNat (Znc.pin a)) d,()),(Zj.Design b).2),b.2.2)
def Zxs:Ctr:=⟨[.io (ZuH),.dat (Zui),.dat Iq],[],λa K=>ZT a λd a=>ZT a λb a=>ZT a λc a=>QN (ZBz d b c) λr=>K () (r,())⟩
def ZB1 (g:Zj) (b:List (Znc×Int)) (a:List YA) (f:Int) (e:List (List Int×List Int×List Int×List Int×Unit)):Option ((Int×(List (List Int×List Int×List Int×List Int×Unit))×Unit) ⊕ ((Int×(List (List Int×List Int×List Int×List Int×Unit))×Unit) ⊕ Zj)):=
if f<(a.length:Int) then
(atI a f).bind λc=>
if (YA.drives c)=true then
some (.inl (Wq (f+1),e,()))
else
(atI e (YA.net c)).bind λd=>
Zp ((d.2.2.2.1.length+[Option.getD (ZrG Zui (Ty.int IntKind.i64) b (YA.instance c,YA.pin c,())) (0:Int)].length)*(8:Nat)<=(140737488355328:Nat))<|
some (.inl (Wq (f+1),List.set e (Int.toNat (YA.net c)) (d.1,d.2.1,d.2.2.1,d.2.2.2.1++[Option.getD (ZrG Zui (Ty.int IntKind.i64) b (YA.instance c,YA.pin c,())) (0:Int)],()),()))
else
some (.inr (.inr (Zj.Library g,Zj.Design g,e,())))
def ZBq (e:Zj) (a:List (Znc×Int)) (b:Int) (c:List (List Int×List Int×List Int×List Int×Unit)):Option ((Int×(List (List Int×List Int×List Int×List Int×Unit))×Unit) ⊕ Zj):=
if b<((Zj.Qg e).length:Int) then
(atI c b).bind λd=>
some (.inl (Wq (b+1),List.set c (Int.toNat b) (d.1,d.2.1,d.2.2.1,([]:List Int),()),()))
else
(Xr (Zj.Design e)).bind λf=>
Zq (λv=>ZB1 e a f v.1 v.2.1) ((0:Int),c,())
def ZA7 (b:Zj) (a:List (Znc×Int)):Option Zj:=
Zq (λv=>ZBq b a v.1 v.2.1) ((0:Int),Zj.Qg b,())
def c222:Ctr:=⟨[.io (ZuH),.dat (.mp (Zui) Iq)],[],λa K=>ZT a λc a=>ZT a λb a=>QN (ZA7 c b) λr=>K () (r,())⟩
def ZCZ (a:Zj) (c:ZgL):Option Zj:=
(ZA8 a).bind λe=>
(Xr (Zj.Design a)).bind λf=>
(atI f (ZgL.Place c)).bind λb=>
(Zbo (Zg.X7 (Zj.Design a))).bind λd=>
(ZAX (Zg.Instances (Zj.Design a))).bind λi=>
Zp (((Zg.Instances (Zj.Design a)).length+[(ZgL.Name c,ZgL.Cell c,[YA.net b,d],())].length)*(48:Nat)<=(140737488355328:Nat))<|
Zp (((Zg.X7 (Zj.Design a)).length+[ZgL.Name c].length)*(16:Nat)<=(140737488355328:Nat))<|
Zp (((Zj.Qg a).length+[([(-1:Int)],[(0:Int)],[(0:Int)],([]:List Int),())].length)*(96:Nat)<=(140737488355328:Nat))<|
(ZBz (Zj.Library a,(Zg.Instances (Zj.Design a)++[(ZgL.Name c,ZgL.Cell c,[YA.net b,d],())],Zg.X7 (Zj.Design a)++[ZgL.Name c],(Zj.Design a).2.2),Zj.Qg a++[([(-1:Int)],[(0:Int)],[(0:Int)],([]:List Int),())],()) (YA.instance b,YA.pin b,()) d).bind λg=>
(ZA7 g (ZsX Zui (Ty.int IntKind.i64) (ZsX Zui (Ty.int IntKind.i64) e (i,0,()) (Option.getD (ZrG Zui (Ty.int IntKind.i64) e (YA.instance b,YA.pin b,())) 0)) (YA.instance b,YA.pin b,()) 0)).bind λh=>
some h
def ZLr:Ctr:=⟨[.io (ZuH),.dat (Zug)],[],λa K=>ZT a λc a=>ZT a λb a=>QN (ZCZ c b) λr=>K () (r,())⟩
def ZBC (a:Zj):Option (Znc×Zj):=
(ZA8 a).bind λe=>
(Xr (Zj.Design a)).bind λg=>
(Zbo (Zg.X7 (Zj.Design a))).bind λk=>
(J2 (Zj.Design a) (Wq (k-1))).bind λi=>
(atI i 0).bind λj=>
(atI g j).bind λc=>
(atI (Zg.Instances (Zj.Design a)) (Wq (((Zg.Instances (Zj.Design a)).length:Int)-1))).bind λd=>
(atI d.2.2.1 0).bind λf=>
(ZBz (Zj.Library a,(List.set (Zg.Instances (Zj.Design a)) (Int.toNat (Wq (((Zg.Instances (Zj.Design a)).length:Int)-1))) d,(Zj.Design a).2),a.2.2) (YA.instance c,YA.pin c,()) f).bind λb=>
Zp ((0:Int)<=Wq (((Zg.Instances (Zj.Design a)).length:Int)-(1:Int)))<|
Zp (Wq (((Zg.Instances (Zj.Design a)).length:Int)-(1:Int))<=((Zg.Instances (Zj.Design b)).length:Int))<|
Zp ((0:Int)<=Wq (((Zg.X7 (Zj.Design b)).length:Int)-(1:Int)))<|
Zp (Wq (((Zg.X7 (Zj.Design b)).length:Int)-(1:Int))<=((Zg.X7 (Zj.Design b)).length:Int))<|
Zp ((0:Int)<=Wq (((Zj.Qg b).length:Int)-(1:Int)))<|
Zp (Wq (((Zj.Qg b).length:Int)-(1:Int))<=((Zj.Qg b).length:Int))<|
(ZA7 (Zj.Library b,(List.take (Int.toNat (Wq (((Zg.Instances (Zj.Design a)).length:Int)-1))-Int.toNat 0) (List.drop (Int.toNat 0) (Zg.Instances (Zj.Design b))),List.take (Int.toNat (Wq (((Zg.X7 (Zj.Design b)).length:Int)-1))-Int.toNat 0) (List.drop (Int.toNat 0) (Zg.X7 (Zj.Design b))),(Zj.Design b).2.2),List.take (Int.toNat (Wq (((Zj.Qg b).length:Int)-1))-Int.toNat 0) (List.drop (Int.toNat 0) (Zj.Qg b)),()) (ZsX Zui (Ty.int IntKind.i64) e (YA.instance c,YA.pin c,()) (Option.getD (ZrG Zui (Ty.int IntKind.i64) e (Wq (((Zg.Instances (Zj.Design a)).length:Int)-1),0,())) 0))).bind λh=>
some ((YA.instance c,YA.pin c,()),h)
def ZLi:Ctr:=⟨[.io (ZuH)],[.dat (Zui)],λa K=>ZT a λb a=>QN (ZBC b) λr=>K (r.1,()) (r.2,())⟩
def ZAp (b:ZgL) (f:Zj):Option Zj:=
(ZCp f).bind λa=>
if ZgL.Kind b=1 then
(Xr (Zj.Design f)).bind λd=>
(atI d (ZgL.Place b)).bind λc=>
(atI (Zg.Instances (Zj.Design a)) (YA.instance c)).bind λe=>
some (Zj.Library a,(List.set (Zg.Instances (Zj.Design a)) (Int.toNat (YA.instance c)) (e.1,ZgL.Cell b,e.2.2),(Zj.Design a).2),a.2.2)
else
if ZgL.Kind b=2 then
(ZCZ a b).bind λl=>
some l
else
if ZgL.Kind b=3 then
(ZBC a).bind λk=>
some k.2
else
if ZgL.Kind b=4 then
(ZA8 a).bind λh=>
(Xr (Zj.Design a)).bind λd=>
(atI d (ZgL.Place b)).bind λc=>
(ZBz a (YA.instance c,YA.pin c,()) (ZgL.Net b)).bind λj=>
(ZA7 j (ZsX Zui (Ty.int IntKind.i64) h (YA.instance c,YA.pin c,()) (ZgL.Node b))).bind λg=>
some g
else
if ZgL.Kind b=5 then
(ZBE (ZgL.ZAj b)).bind λi=>
(atI (Zj.Qg a) (ZgL.Net b)).bind λc=>
some (Zj.Library a,Zj.Design a,List.set (Zj.Qg a) (Int.toNat (ZgL.Net b)) i,())
else
some a
def ZLj:Ctr:=⟨[.dat (Zug),.dat (Xz)],[.own (ZuH)],λa K=>ZT a λc a=>ZT a λb a=>QN (ZAp c b) λr=>K (r,()) ()⟩
def ZAM (b:ZgL) (c:Zj) (e:Zo):Option (Zo×Bool):=
(ZDg e).bind λg=>
(ZBP b c).bind λd=>
(ZDf g d).bind λa=>
if a.1 then
(ZAp b c).bind λh=>
(ZBQ h a.2).bind λf=>
if f then
some (a.2,true)
else
some (([],[],[],[],[],()),false)
else
some (([],[],[],[],[],()),false)
def c226:Ctr:=⟨[.dat (Zug),.dat (Xz),.dat (Vh)],[.own (ZuI),.dat (.bool)],λa K=>ZT a λc a=>ZT a λd a=>ZT a λb a=>QN (ZAM c d b) λr=>K (r.1,r.2,()) ()⟩
def ZBb (b:Zj) (d:ZgL) (a:Zo):Option (Zo×Int):=
(ZBl b d).bind λc=>
if c=0 then
(ZBQ b a).bind λf=>
if f then
(ZAM d b a).bind λe=>
if e.2 then
some (e.1,0)
else
some (([],[],[],[],[],()),5)
else
some (([],[],[],[],[],()),2)
else
some (([],[],[],[],[],()),c)
def c227:Ctr:=⟨[.dat (Xz),.dat (Zug),.dat (Vh)],[.own (ZuI),.dat Iq],λa K=>ZT a λd a=>ZT a λc a=>ZT a λb a=>QN (ZBb d c b) λr=>K (r.1,r.2,()) ()⟩
def ZDc (a:Zj) (c:ZgL):Option (Zj×Int):=
(ZBl a c).bind λb=>
if b=0 then
(ZAp c a).bind λd=>
some (d,0)
else
some ((([],()),([],[],[],()),[],()),b)
def c228:Ctr:=⟨[.dat (Xz),.dat (Zug)],[.own (ZuH),.dat Iq],λa K=>ZT a λb a=>ZT a λc a=>QN (ZDc b c) λr=>K (r.1,r.2,()) ()⟩
def ZBK (a:YA) (c b:Int):Option Bool:=
if YA.instance a=c then
some (decide (YA.pin a=b))
else
some false
def c229:Ctr:=D3 (ZhI) (.ptr Iq) (.ptr Iq) (.bool) ZBK
def ZAx (b:List YA) (c:Int×Int×Unit) (a:Int):Option ((Int×Unit) ⊕ Int):=
if a<(b.length:Int) then
(atI b a).bind λe=>
(ZBK e c.1 c.2.1).bind λd=>
if d then
some (.inr a)
else
some (.inl (Wq (a+1),()))
else
some (.inr (-1))
def ZAt (a:List YA) (b:Int×Int×Unit):Option Int:=
Zq (λv=>ZAx a b v.1) ((0:Int),())
def ZLs:Ctr:=D2 (.sl (ZhI)) (.fn 260 (.pair (.ptr Iq) (.pair (.ptr Iq) (.unit)))) Iq ZAt
def ZBD (e:Zg) (a b:Int):Option Int:=
(Xr e).bind λd=>
(ZAt d (a,b,())).bind λc=>
some c
def ZLt:Ctr:=D3 (YU) Iq Iq Iq ZBD
def ZAr (a:ZgL) (c:Zj):Option ZgL:=
if ZgL.Kind a=1 then
(Xr (Zj.Design c)).bind λe=>
(atI e (ZgL.Place a)).bind λb=>
(atI (Zg.Instances (Zj.Design c)) (YA.instance b)).bind λg=>
some (1,ZgL.Place a,Zl.Cell g,0,0,[],([],[],[],[],()),())
else
if ZgL.Kind a=2 then
some (3,0,0,0,0,[],([],[],[],[],()),())
else
if ZgL.Kind a=3 then
(ZCp c).bind λd=>
(ZBC d).bind λf=>
(atI (Zg.Instances (Zj.Design c)) (Wq (((Zg.Instances (Zj.Design c)).length:Int)-1))).bind λb=>
(ZBD f.2.2.1 f.1.1 f.1.2.1).bind λi=>
some (2,i,Zl.Cell b,0,0,Zl.Name b,([],[],[],[],()),())
else
if ZgL.Kind a=4 then
(Xr (Zj.Design c)).bind λe=>
(atI e (ZgL.Place a)).bind λb=>
(ZA8 c).bind λh=>
some (4,ZgL.Place a,0,YA.net b,Option.getD (ZrG Zui (Ty.int IntKind.i64) h (YA.instance b,YA.pin b,())) (0:Int),[],([],[],[],[],()),())
else
(atI (Zj.Qg c) (ZgL.Net a)).bind λb=>
(ZBE b).bind λd=>
some (5,0,0,ZgL.Net a,0,[],d,())
def c232:Ctr:=⟨[.dat (Zug),.dat (Xz)],[.own (ZF3)],λa K=>ZT a λc a=>ZT a λb a=>QN (ZAr c b) λr=>K (r,()) ()⟩
def ZDe (a:Zj) (c:ZgL):Option (ZgL×Int):=
(ZBl a c).bind λb=>
if b=0 then
(ZAr c a).bind λd=>
some (d,0)
else
some ((0,0,0,0,0,[],([],[],[],[],()),()),b)
def c233:Ctr:=⟨[.dat (Xz),.dat (Zug)],[.own (ZF3),.dat Iq],λa K=>ZT a λb a=>ZT a λc a=>QN (ZDe b c) λr=>K (r.1,r.2,()) ()⟩
def Y9 (d:Zg) (f:Zt) (b:YA):Option (List UInt8):=
if YA.instance b<0 then
(atI (Zg.Xb d) (YA.pin b)).bind λa=>
some (Ye.Name a)
else
(atI (Zg.Instances d) (YA.instance b)).bind λa=>
Zp (((Zl.Name a).length:Int)+(([(47:UInt8)].length):Int)<=(9223372036854775807:Int))<|
(atI (Zt.Cells f) (Zl.Cell a)).bind λe=>
(atI (Zk.Yz e) (YA.pin b)).bind λc=>
Zp (((Zl.Name a++[(47:UInt8)]).length:Int)+((Yv.Name c).length:Int)<=(9223372036854775807:Int))<|
some (Zl.Name a++[(47:UInt8)]++Yv.Name c)
def c234:Ctr:=D3 (YU) (YR) (ZhI) (.str) Y9
def YX (b:Z0) (a:Int):Option (List UInt8):=
(atI (Z0.Zw b) a).bind λc=>
(Y9 (Zj.Design (Z0.Block b)) (Zj.Library (Z0.Block b)) c).bind λd=>
some d
def ZLk:Ctr:=D2 (.ptr (Zhm)) Iq (.str) YX
def Jy (a:Int):Option (List UInt8):=
Zp ((-9223372036854775808:Int)<=a)<|
Zp (a<=(9223372036854775807:Int))<|
some (Go.Lib.itoa a)
def c236:Ctr:=D1 Iq (.str) Jy
def Zds (a:List Int) (c:List UInt8) (d:Int) (b:List (List UInt8)):Option ((Int×(List (List UInt8))×Unit) ⊕ List UInt8):=
if d<(a.length:Int) then
(atI a d).bind λf=>
(Jy f).bind λe=>
(atI b d).bind λg=>
some (.inl (Wq (d+1),List.set b (Int.toNat d) e,()))
else
Zp (b.length<=(140737488355328:Nat))<|
Zp ((Go.Lib.join b c).length<=(140737488355328:Nat))<|
some (.inr (Go.Lib.join b c))
def ZiN (a:List Int) (b:List UInt8):Option (List UInt8):=
Zp ((0:Int)<=(a.length:Int))<|
Zp ((a.length:Int)<=(a.length:Int))<|
Zp ((a.length:Int)<=(4611686018427387904:Int))<|
Zp (((16:Nat):Int)*(a.length:Int)<=(281474976710656:Int))<|
Zq (λv=>Zds a b v.1 v.2.1) ((0:Int),List.replicate (Int.toNat (a.length:Int)) (([]:List UInt8)),())
def ZLu:Ctr:=D2 (.sl Iq) (.str) (.str) ZiN
def Vw (a:List (List UInt8)) (b:List Int):Option (List UInt8):=
Zp (a.length<=(140737488355328:Nat))<|
Zp ((Go.Lib.join a [(32:UInt8)]).length<=(140737488355328:Nat))<|
if 0<(b.length:Int) then
(ZiN b [(32:UInt8)]).bind λc=>
Zp ((([(32:UInt8)].length):Int)+(c.length:Int)<=(9223372036854775807:Int))<|
Zp (((Go.Lib.join a [(32:UInt8)]).length:Int)+(([(32:UInt8)]++c).length:Int)<=(9223372036854775807:Int))<|
Zp (((Go.Lib.join a [(32:UInt8)]++([(32:UInt8)]++c)).length:Int)+(([(10:UInt8)].length):Int)<=(9223372036854775807:Int))<|
some (Go.Lib.join a [(32:UInt8)]++([(32:UInt8)]++c)++[(10:UInt8)])
else
Zp (((Go.Lib.join a [(32:UInt8)]).length:Int)+(([(10:UInt8)].length):Int)<=(9223372036854775807:Int))<|
some (Go.Lib.join a [(32:UInt8)]++[(10:UInt8)])
def ZLl:Ctr:=D2 (.sl (.str)) (.sl Iq) (.str) Vw
def Xi (e:Z0) (b:List Zc) (a:Zc):Option (List UInt8):=
if Zc.Source a<0 then
(YX e (Zc.Place a)).bind λd=>
(Vw [[(99:UInt8),108,111,99,107],Zc.Name a,d] [Zc.VQ a,Zc.Zae a,Zc.Zad a,Zc.Yn a,Zc.YK a,Zc.Y8 a]).bind λc=>
some c
else
if (Zc.Zex a)=true then
(atI b (Zc.Source a)).bind λf=>
(YX e (Zc.Place a)).bind λd=>
(Jy (Zc.Divide a)).bind λg=>
(Vw [[(103:UInt8),101,110,101,114,97,116,101,100],Zc.Name a,d,Zc.Name f,g,[(105:UInt8),110,118,101,114,116]] [Zc.Yn a,Zc.YK a,Zc.Y8 a]).bind λc=>
some c
else
(atI b (Zc.Source a)).bind λf=>
(YX e (Zc.Place a)).bind λd=>
(Jy (Zc.Divide a)).bind λg=>
(Vw [[(103:UInt8),101,110,101,114,97,116,101,100],Zc.Name a,d,Zc.Name f,g,[(112:UInt8),108,97,105,110]] [Zc.Yn a,Zc.YK a,Zc.Y8 a]).bind λc=>
some c
def ZLv:Ctr:=D3 (.ptr (Zhm)) (.sl (Xh)) (Xh) (.str) Xi
def Xg (a:Z0) (g:Int) (f:List Int) (b:List UInt8) (d:Int):Option (((List UInt8)×Int×Unit) ⊕ (((List UInt8)×Int×Unit) ⊕ List UInt8)):=
if d<(f.length:Int) then
(atI f d).bind λi=>
(atI (Z0.Zw a) i).bind λh=>
(atI ([[(32:UInt8),102,114,111,109,32],[(32:UInt8),116,104,114,111,117,103,104,32],[(32:UInt8),116,111,32]]) g).bind λe=>
(Y9 (Zj.Design (Z0.Block a)) (Zj.Library (Z0.Block a)) h).bind λc=>
Zp ((e.length:Int)+(c.length:Int)<=(9223372036854775807:Int))<|
Zp ((b.length:Int)+((e++c).length:Int)<=(9223372036854775807:Int))<|
some (.inl (b++(e++c),Wq (d+1),()))
else
some (.inr (.inl (b,Wq (g+1),())))
def Yj (e:Z0) (a:Ze) (c:List UInt8) (b:Int):Option (((List UInt8)×Int×Unit) ⊕ List UInt8):=
if b<(([Ze.From a,Ze.Through a,Ze.To a].length):Int) then
(atI ([Ze.From a,Ze.Through a,Ze.To a]) b).bind λd=>
Zq (λv=>Xg e b d v.1 v.2.1) (c,(0:Int),())
else
some (.inr c)
def Y3 (d:Z0) (a:Ze):Option (List UInt8):=
(atI ZiH (Ze.Kind a)).bind λc=>
if Ze.Kind a=1 then
Zq (λv=>Yj d a v.1 v.2.1) (c,(0:Int),())
else
(Jy (Ze.Value a)).bind λb=>
Zp ((([(32:UInt8)].length):Int)+(b.length:Int)<=(9223372036854775807:Int))<|
Zp ((c.length:Int)+(([(32:UInt8)]++b).length:Int)<=(9223372036854775807:Int))<|
Zq (λv=>Yj d a v.1 v.2.1) (c++([(32:UInt8)]++b),(0:Int),())
def ZLw:Ctr:=D2 (.ptr (Zhm)) (Z4) (.str) Y3
def XV (e:Zo) (b:List UInt8) (c:Int):Option (((List UInt8)×Int×Unit) ⊕ (((List UInt8)×Int×Unit) ⊕ (((List UInt8)×Int×Unit) ⊕ (((List UInt8)×Int×Unit) ⊕ (((List UInt8)×Int×Unit) ⊕ List UInt8))))):=
if c<((Zo.X5 e).length:Int) then
(atI (Zo.X5 e) c).bind λa=>
(Vw [[(99:UInt8),111,114,110,101,114],Zm.Name a] [Zm.Xq a,Zm.Qn a,Zm.XK a,Zm.QG a]).bind λd=>
Zp ((b.length:Int)+(d.length:Int)<=(9223372036854775807:Int))<|
some (.inl (b++d,Wq (c+1),()))
else
some (.inr (.inr (.inr (.inr (.inr b)))))
def XW (e:Z0) (c:Zo) (a:List UInt8) (b:Int):Option (((List UInt8)×Int×Unit) ⊕ (((List UInt8)×Int×Unit) ⊕ (((List UInt8)×Int×Unit) ⊕ (((List UInt8)×Int×Unit) ⊕ List UInt8)))):=
if b<((Zo.Exceptions c).length:Int) then
(atI (Zo.Exceptions c) b).bind λg=>
(Y3 e g).bind λf=>
(Vw [[(101:UInt8),120,99,101,112,116],f] (([]:List Int))).bind λd=>
Zp ((a.length:Int)+(d.length:Int)<=(9223372036854775807:Int))<|
some (.inl (a++d,Wq (b+1),()))
else
Zq (λv=>XV c v.1 v.2.1) (a,(0:Int),())
def XY (f:Z0) (a:Zo) (d:List UInt8) (c:Int):Option (((List UInt8)×Int×Unit) ⊕ (((List UInt8)×Int×Unit) ⊕ (((List UInt8)×Int×Unit) ⊕ List UInt8))):=
if c<((Zo.Vp a).length:Int) then
(atI (Zo.Vp a) c).bind λb=>
(atI (Zo.Yk a) (Zh.Clock b)).bind λg=>
(YX f (Zh.Place b)).bind λh=>
(Vw [[(111:UInt8),117,116,112,117,116],h,Zc.Name g] [Yb.Early (Zh.Delay b),Yb.Late (Zh.Delay b)]).bind λe=>
Zp ((d.length:Int)+(e.length:Int)<=(9223372036854775807:Int))<|
some (.inl (d++e,Wq (c+1),()))
else
Zq (λv=>XW f a v.1 v.2.1) (d,(0:Int),())
def XZ (f:Z0) (b:Zo) (c:List UInt8) (d:Int):Option (((List UInt8)×Int×Unit) ⊕ (((List UInt8)×Int×Unit) ⊕ List UInt8)):=
if d<((Zo.Zbb b).length:Int) then
(atI (Zo.Zbb b) d).bind λa=>
(atI (Zo.Yk b) (Zh.Clock a)).bind λg=>
(YX f (Zh.Place a)).bind λh=>
(Vw [[(105:UInt8),110,112,117,116],h,Zc.Name g] [Yb.Early (Zh.Delay a),Yb.Late (Zh.Delay a),Yb.Early (Zh.Za2 a),Yb.Late (Zh.Za2 a)]).bind λe=>
Zp ((c.length:Int)+(e.length:Int)<=(9223372036854775807:Int))<|
some (.inl (c++e,Wq (d+1),()))
else
Zq (λv=>XY f b v.1 v.2.1) (c,(0:Int),())
def Vf (d:Z0) (a:Zo) (b:List UInt8) (c:Int):Option (((List UInt8)×Int×Unit) ⊕ List UInt8):=
if c<((Zo.Yk a).length:Int) then
(atI (Zo.Yk a) c).bind λf=>
(Xi d (Zo.Yk a) f).bind λe=>
Zp ((b.length:Int)+(e.length:Int)<=(9223372036854775807:Int))<|
some (.inl (b++e,Wq (c+1),()))
else
Zq (λv=>XZ d a v.1 v.2.1) (b,(0:Int),())
def ZaL (b:Z0) (a:Zo):Option (List UInt8):=
Zq (λv=>Vf b a v.1 v.2.1) (([]:List UInt8),(0:Int),())
def ZLx:Ctr:=D2 (.ptr (Zhm)) (Vh) (.str) ZaL
def Zcd (c:Zj) (b:Zo):Option (List UInt8):=
(ZdX c).bind λd=>
if d then
(Zd3 c).bind λa=>
(J5 a b).bind λf=>
if f then
(ZaL a b).bind λe=>
some e
else
some []
else
some []
def ZLy:Ctr:=D2 (Xz) (Vh) (.str) Zcd
def JO (a:List Int) (b:List UInt8) (c:Int):Option (((List UInt8)×Int×Unit) ⊕ List UInt8):=
if c<(a.length:Int) then
Zp ((b.length:Int)+(([(32:UInt8)].length):Int)<=(9223372036854775807:Int))<|
(atI a c).bind λe=>
(Zaw e).bind λd=>
Zp (((b++[(32:UInt8)]).length:Int)+(d.length:Int)<=(9223372036854775807:Int))<|
some (.inl (b++[(32:UInt8)]++d,Wq (c+1),()))
else
some (.inr b)
def YH (a:List Int):Option (List UInt8):=
Zq (λv=>JO a v.1 v.2.1) (([]:List UInt8),(0:Int),())
def ZLm:Ctr:=D1 (.sl Iq) (.str) YH
def Vb (f:Zt) (d:Zg) (b:Ya):Option (List UInt8):=
if Ya.instance b<0 then
(atI (Zg.Xb d) (Ya.pin b)).bind λa=>
some (Ye.Name a)
else
(atI (Zg.Instances d) (Ya.instance b)).bind λa=>
Zp (((Zl.Name a).length:Int)+(([(47:UInt8)].length):Int)<=(9223372036854775807:Int))<|
(atI (Zt.Cells f) (Zl.Cell a)).bind λe=>
(atI (Zk.Yz e) (Ya.pin b)).bind λc=>
Zp (((Zl.Name a++[(47:UInt8)]).length:Int)+((Yv.Name c).length:Int)<=(9223372036854775807:Int))<|
some (Zl.Name a++[(47:UInt8)]++Yv.Name c)
def ZLn:Ctr:=D3 (YR) (YU) (ZcG) (.str) Vb
def X4 (b:Zj) (a:Int):Option (List UInt8):=
(X3 (Zj.Design b)).bind λd=>
(atI d a).bind λe=>
(Vb (Zj.Library b) (Zj.Design b) e).bind λc=>
some c
def ZLo:Ctr:=D2 (Xz) Iq (.str) X4
def Vd (f:Zj) (g:List Zc) (a:Zc):Option (List UInt8):=
(YH [Zc.Yn a,Zc.YK a,Zc.Y8 a]).bind λe=>
if Zc.Source a<0 then
Zp ((([(99:UInt8),108,111,99,107,32].length):Int)+((Zc.Name a).length:Int)<=(9223372036854775807:Int))<|
Zp ((([(99:UInt8),108,111,99,107,32]++Zc.Name a).length:Int)+(([(32:UInt8)].length):Int)<=(9223372036854775807:Int))<|
(X4 f (Zc.Place a)).bind λb=>
Zp ((([(99:UInt8),108,111,99,107,32]++Zc.Name a++[(32:UInt8)]).length:Int)+(b.length:Int)<=(9223372036854775807:Int))<|
(YH [Zc.VQ a,Zc.Zae a,Zc.Zad a]).bind λc=>
Zp ((([(99:UInt8),108,111,99,107,32]++Zc.Name a++[(32:UInt8)]++b).length:Int)+(c.length:Int)<=(9223372036854775807:Int))<|
Zp ((([(99:UInt8),108,111,99,107,32]++Zc.Name a++[(32:UInt8)]++b++c).length:Int)+(e.length:Int)<=(9223372036854775807:Int))<|
some ([(99:UInt8),108,111,99,107,32]++Zc.Name a++[(32:UInt8)]++b++c++e)
else
if (Zc.Zex a)=true then
Zp ((([(103:UInt8),101,110,101,114,97,116,101,100,32].length):Int)+((Zc.Name a).length:Int)<=(9223372036854775807:Int))<|
Zp ((([(103:UInt8),101,110,101,114,97,116,101,100,32]++Zc.Name a).length:Int)+(([(32:UInt8)].length):Int)<=(9223372036854775807:Int))<|
(atI g (Zc.Source a)).bind λd=>
(X4 f (Zc.Place a)).bind λb=>
Zp ((([(103:UInt8),101,110,101,114,97,116,101,100,32]++Zc.Name a++[(32:UInt8)]).length:Int)+(b.length:Int)<=(9223372036854775807:Int))<|
Zp ((([(103:UInt8),101,110,101,114,97,116,101,100,32]++Zc.Name a++[(32:UInt8)]++b).length:Int)+(([(32:UInt8)].length):Int)<=(9223372036854775807:Int))<|
Zp ((([(103:UInt8),101,110,101,114,97,116,101,100,32]++Zc.Name a++[(32:UInt8)]++b++[(32:UInt8)]).length:Int)+((Zc.Name d).length:Int)<=(9223372036854775807:Int))<|
(YH [Zc.Divide a]).bind λc=>
Zp ((([(103:UInt8),101,110,101,114,97,116,101,100,32]++Zc.Name a++[(32:UInt8)]++b++[(32:UInt8)]++Zc.Name d).length:Int)+(c.length:Int)<=(9223372036854775807:Int))<|
Zp ((([(103:UInt8),101,110,101,114,97,116,101,100,32]++Zc.Name a++[(32:UInt8)]++b++[(32:UInt8)]++Zc.Name d++c).length:Int)+(([(32:UInt8),105,110,118,101,114,116].length):Int)<=(9223372036854775807:Int))<|
Zp ((([(103:UInt8),101,110,101,114,97,116,101,100,32]++Zc.Name a++[(32:UInt8)]++b++[(32:UInt8)]++Zc.Name d++c++[(32:UInt8),105,110,118,101,114,116]).length:Int)+(e.length:Int)<=(9223372036854775807:Int))<|
some ([(103:UInt8),101,110,101,114,97,116,101,100,32]++Zc.Name a++[(32:UInt8)]++b++[(32:UInt8)]++Zc.Name d++c++[(32:UInt8),105,110,118,101,114,116]++e)
else
Zp ((([(103:UInt8),101,110,101,114,97,116,101,100,32].length):Int)+((Zc.Name a).length:Int)<=(9223372036854775807:Int))<|
Zp ((([(103:UInt8),101,110,101,114,97,116,101,100,32]++Zc.Name a).length:Int)+(([(32:UInt8)].length):Int)<=(9223372036854775807:Int))<|
(atI g (Zc.Source a)).bind λd=>
(X4 f (Zc.Place a)).bind λb=>
Zp ((([(103:UInt8),101,110,101,114,97,116,101,100,32]++Zc.Name a++[(32:UInt8)]).length:Int)+(b.length:Int)<=(9223372036854775807:Int))<|
Zp ((([(103:UInt8),101,110,101,114,97,116,101,100,32]++Zc.Name a++[(32:UInt8)]++b).length:Int)+(([(32:UInt8)].length):Int)<=(9223372036854775807:Int))<|
Zp ((([(103:UInt8),101,110,101,114,97,116,101,100,32]++Zc.Name a++[(32:UInt8)]++b++[(32:UInt8)]).length:Int)+((Zc.Name d).length:Int)<=(9223372036854775807:Int))<|
(YH [Zc.Divide a]).bind λc=>
Zp ((([(103:UInt8),101,110,101,114,97,116,101,100,32]++Zc.Name a++[(32:UInt8)]++b++[(32:UInt8)]++Zc.Name d).length:Int)+(c.length:Int)<=(9223372036854775807:Int))<|
Zp ((([(103:UInt8),101,110,101,114,97,116,101,100,32]++Zc.Name a++[(32:UInt8)]++b++[(32:UInt8)]++Zc.Name d++c).length:Int)+(([(32:UInt8),112,108,97,105,110].length):Int)<=(9223372036854775807:Int))<|
Zp ((([(103:UInt8),101,110,101,114,97,116,101,100,32]++Zc.Name a++[(32:UInt8)]++b++[(32:UInt8)]++Zc.Name d++c++[(32:UInt8),112,108,97,105,110]).length:Int)+(e.length:Int)<=(9223372036854775807:Int))<|
some ([(103:UInt8),101,110,101,114,97,116,101,100,32]++Zc.Name a++[(32:UInt8)]++b++[(32:UInt8)]++Zc.Name d++c++[(32:UInt8),112,108,97,105,110]++e)
def ZLz:Ctr:=D3 (Xz) (.sl (Xh)) (Xh) (.str) Vd
def Zj0 (d:Zt) (c:Zg) (a:Int):Option (Ya×Bool):=
(ZbC d c).bind λe=>
if e then
(X3 c).bind λb=>
(ZN a 0 (Wq ((b.length:Int)-1))).bind λg=>
if g then
(atI b a).bind λf=>
some (f,true)
else
some ((0,0,0,false,()),false)
else
some ((0,0,0,false,()),false)
def ZLA:Ctr:=⟨[.dat (YR),.dat (YU),.dat Iq],[.dat (ZcG),.dat (.bool)],λa K=>ZT a λc a=>ZT a λd a=>ZT a λb a=>QN (Zj0 c d b) λr=>K (r.1,r.2,()) ()⟩
def Zcp (b:Zt) (d:Zg) (a:Int):Option (List UInt8):=
(Zj0 b d a).bind λc=>
if c.2 then
(Vb b d c.1).bind λe=>
some e
else
some []
def ZLB:Ctr:=D3 (YR) (YU) Iq (.str) Zcp
def Za1 (f:Zj) (b:List UInt8) (c:List Int) (a:List UInt8) (d:Int):Option (((List UInt8)×Int×Unit) ⊕ List UInt8):=
if d<(c.length:Int) then
Zp ((a.length:Int)+(([(32:UInt8)].length):Int)<=(9223372036854775807:Int))<|
Zp (((a++[(32:UInt8)]).length:Int)+(b.length:Int)<=(9223372036854775807:Int))<|
Zp (((a++[(32:UInt8)]++b).length:Int)+(([(32:UInt8)].length):Int)<=(9223372036854775807:Int))<|
(atI c d).bind λg=>
(Zcp (Zj.Library f) (Zj.Design f) g).bind λe=>
Zp (((a++[(32:UInt8)]++b++[(32:UInt8)]).length:Int)+(e.length:Int)<=(9223372036854775807:Int))<|
some (.inl (a++[(32:UInt8)]++b++[(32:UInt8)]++e,Wq (d+1),()))
else
some (.inr a)
def Qt (c:Zj) (a:List UInt8) (b:List Int):Option (List UInt8):=
Zq (λv=>Za1 c a b v.1 v.2.1) (([]:List UInt8),(0:Int),())
def ZLC:Ctr:=D3 (Xz) (.str) (.sl Iq) (.str) Qt
def Xy (d:Zj) (a:Ze):Option (List UInt8):=
(V5 d a).bind λh=>
if h then
(atI ([[(102:UInt8),97,108,115,101],[(99:UInt8),121,99,108,101,115],[(109:UInt8),97,120],[(109:UInt8),105,110]]) (Wq (Ze.Kind a-1))).bind λb=>
if Ze.Kind a=1 then
(Qt d [(102:UInt8),114,111,109] (Ze.From a)).bind λc=>
Zp ((b.length:Int)+(c.length:Int)<=(9223372036854775807:Int))<|
(Qt d [(116:UInt8),104,114,111,117,103,104] (Ze.Through a)).bind λe=>
Zp (((b++c).length:Int)+(e.length:Int)<=(9223372036854775807:Int))<|
(Qt d [(116:UInt8),111] (Ze.To a)).bind λg=>
Zp (((b++c++e).length:Int)+(g.length:Int)<=(9223372036854775807:Int))<|
some (b++c++e++g)
else
Zp ((b.length:Int)+(([(32:UInt8)].length):Int)<=(9223372036854775807:Int))<|
(Zaw (Ze.Value a)).bind λf=>
Zp (((b++[(32:UInt8)]).length:Int)+(f.length:Int)<=(9223372036854775807:Int))<|
(Qt d [(102:UInt8),114,111,109] (Ze.From a)).bind λc=>
Zp (((b++[(32:UInt8)]++f).length:Int)+(c.length:Int)<=(9223372036854775807:Int))<|
(Qt d [(116:UInt8),104,114,111,117,103,104] (Ze.Through a)).bind λe=>
Zp (((b++[(32:UInt8)]++f++c).length:Int)+(e.length:Int)<=(9223372036854775807:Int))<|
(Qt d [(116:UInt8),111] (Ze.To a)).bind λg=>
Zp (((b++[(32:UInt8)]++f++c++e).length:Int)+(g.length:Int)<=(9223372036854775807:Int))<|
some (b++[(32:UInt8)]++f++c++e++g)
else
some []
def ZLD:Ctr:=D2 (Xz) (Z4) (.str) Xy
def Jp (e:Zo) (b:List UInt8) (d:Int):Option (((List UInt8)×Int×Unit) ⊕ (((List UInt8)×Int×Unit) ⊕ (((List UInt8)×Int×Unit) ⊕ (((List UInt8)×Int×Unit) ⊕ (((List UInt8)×Int×Unit) ⊕ List UInt8))))):=
if d<((Zo.X5 e).length:Int) then
(atI (Zo.X5 e) d).bind λa=>
Zp ((b.length:Int)+(([(99:UInt8),111,114,110,101,114,32].length):Int)<=(9223372036854775807:Int))<|
Zp (((b++[(99:UInt8),111,114,110,101,114,32]).length:Int)+((Zm.Name a).length:Int)<=(9223372036854775807:Int))<|
(YH [Zm.Xq a,Zm.Qn a,Zm.XK a,Zm.QG a]).bind λc=>
Zp (((b++[(99:UInt8),111,114,110,101,114,32]++Zm.Name a).length:Int)+(c.length:Int)<=(9223372036854775807:Int))<|
Zp (((b++[(99:UInt8),111,114,110,101,114,32]++Zm.Name a++c).length:Int)+(([(10:UInt8)].length):Int)<=(9223372036854775807:Int))<|
some (.inl (b++[(99:UInt8),111,114,110,101,114,32]++Zm.Name a++c++[(10:UInt8)],Wq (d+1),()))
else
some (.inr (.inr (.inr (.inr (.inr b)))))
def Jq (e:Zj) (d:Zo) (a:List UInt8) (b:Int):Option (((List UInt8)×Int×Unit) ⊕ (((List UInt8)×Int×Unit) ⊕ (((List UInt8)×Int×Unit) ⊕ (((List UInt8)×Int×Unit) ⊕ List UInt8)))):=
if b<((Zo.Exceptions d).length:Int) then
Zp ((a.length:Int)+(([(101:UInt8),120,99,101,112,116,32].length):Int)<=(9223372036854775807:Int))<|
(atI (Zo.Exceptions d) b).bind λf=>
(Xy e f).bind λc=>
Zp (((a++[(101:UInt8),120,99,101,112,116,32]).length:Int)+(c.length:Int)<=(9223372036854775807:Int))<|
Zp (((a++[(101:UInt8),120,99,101,112,116,32]++c).length:Int)+(([(10:UInt8)].length):Int)<=(9223372036854775807:Int))<|
some (.inl (a++[(101:UInt8),120,99,101,112,116,32]++c++[(10:UInt8)],Wq (b+1),()))
else
Zq (λv=>Jp d v.1 v.2.1) (a,(0:Int),())
def Jr (h:Zj) (d:Zo) (a:List UInt8) (f:Int):Option (((List UInt8)×Int×Unit) ⊕ (((List UInt8)×Int×Unit) ⊕ (((List UInt8)×Int×Unit) ⊕ List UInt8))):=
if f<((Zo.Vp d).length:Int) then
(atI (Zo.Vp d) f).bind λe=>
Zp ((a.length:Int)+(([(111:UInt8),117,116,112,117,116,32].length):Int)<=(9223372036854775807:Int))<|
(atI (Zo.Yk d) (Zh.Clock e)).bind λc=>
(X4 h (Zh.Place e)).bind λb=>
Zp (((a++[(111:UInt8),117,116,112,117,116,32]).length:Int)+(b.length:Int)<=(9223372036854775807:Int))<|
Zp (((a++[(111:UInt8),117,116,112,117,116,32]++b).length:Int)+(([(32:UInt8)].length):Int)<=(9223372036854775807:Int))<|
Zp (((a++[(111:UInt8),117,116,112,117,116,32]++b++[(32:UInt8)]).length:Int)+((Zc.Name c).length:Int)<=(9223372036854775807:Int))<|
(YH [Yb.Early (Zh.Delay e),Yb.Late (Zh.Delay e)]).bind λg=>
Zp (((a++[(111:UInt8),117,116,112,117,116,32]++b++[(32:UInt8)]++Zc.Name c).length:Int)+(g.length:Int)<=(9223372036854775807:Int))<|
Zp (((a++[(111:UInt8),117,116,112,117,116,32]++b++[(32:UInt8)]++Zc.Name c++g).length:Int)+(([(10:UInt8)].length):Int)<=(9223372036854775807:Int))<|
some (.inl (a++[(111:UInt8),117,116,112,117,116,32]++b++[(32:UInt8)]++Zc.Name c++g++[(10:UInt8)],Wq (f+1),()))
else
Zq (λv=>Jq h d v.1 v.2.1) (a,(0:Int),())
def Js (h:Zj) (e:Zo) (a:List UInt8) (g:Int):Option (((List UInt8)×Int×Unit) ⊕ (((List UInt8)×Int×Unit) ⊕ List UInt8)):=
if g<((Zo.Zbb e).length:Int) then
(atI (Zo.Zbb e) g).bind λc=>
Zp ((a.length:Int)+(([(105:UInt8),110,112,117,116,32].length):Int)<=(9223372036854775807:Int))<|
(atI (Zo.Yk e) (Zh.Clock c)).bind λd=>
(X4 h (Zh.Place c)).bind λb=>
Zp (((a++[(105:UInt8),110,112,117,116,32]).length:Int)+(b.length:Int)<=(9223372036854775807:Int))<|
Zp (((a++[(105:UInt8),110,112,117,116,32]++b).length:Int)+(([(32:UInt8)].length):Int)<=(9223372036854775807:Int))<|
Zp (((a++[(105:UInt8),110,112,117,116,32]++b++[(32:UInt8)]).length:Int)+((Zc.Name d).length:Int)<=(9223372036854775807:Int))<|
(YH [Yb.Early (Zh.Delay c),Yb.Late (Zh.Delay c),Yb.Early (Zh.Za2 c),Yb.Late (Zh.Za2 c)]).bind λf=>
Zp (((a++[(105:UInt8),110,112,117,116,32]++b++[(32:UInt8)]++Zc.Name d).length:Int)+(f.length:Int)<=(9223372036854775807:Int))<|
Zp (((a++[(105:UInt8),110,112,117,116,32]++b++[(32:UInt8)]++Zc.Name d++f).length:Int)+(([(10:UInt8)].length):Int)<=(9223372036854775807:Int))<|
some (.inl (a++[(105:UInt8),110,112,117,116,32]++b++[(32:UInt8)]++Zc.Name d++f++[(10:UInt8)],Wq (g+1),()))
else
Zq (λv=>Jr h e v.1 v.2.1) (a,(0:Int),())
def ZbL (e:Zj) (b:Zo) (a:List UInt8) (d:Int):Option (((List UInt8)×Int×Unit) ⊕ List UInt8):=
if d<((Zo.Yk b).length:Int) then
(atI (Zo.Yk b) d).bind λf=>
(Vd e (Zo.Yk b) f).bind λc=>
Zp ((a.length:Int)+(c.length:Int)<=(9223372036854775807:Int))<|
Zp (((a++c).length:Int)+(([(10:UInt8)].length):Int)<=(9223372036854775807:Int))<|
some (.inl (a++c++[(10:UInt8)],Wq (d+1),()))
else
Zq (λv=>Js e b v.1 v.2.1) (a,(0:Int),())
def Zgu (b:Zj) (a:Zo):Option (List UInt8):=
Zq (λv=>ZbL b a v.1 v.2.1) (([]:List UInt8),(0:Int),())
def ZLE:Ctr:=D2 (Xz) (Vh) (.str) Zgu
def Zcq (a:Zj) (b:Zo):Option (List UInt8):=
(Zeo a b).bind λd=>
if d then
(Zgu a b).bind λc=>
some c
else
some []
def ZLF:Ctr:=D2 (Xz) (Vh) (.str) Zcq
def ZB4 (d:List Int):Option Bool:=
(ZHN d).bind λi=>
if i then
some true
else
(ZCi d).bind λa=>
(ZBb a.1 a.2.1 a.2.2).bind λb=>
(ZAS a.1 a.2.1 a.2.2).bind λk=>
if b.2=k.2 then
if b.2=0 then
(ZDc a.1 a.2.1).bind λc=>
(ZDe a.1 a.2.1).bind λf=>
(ZBb c.1 f.1 b.1).bind λe=>
if c.2=0 then
if f.2=0 then
if e.2=0 then
(ZBQ c.1 b.1).bind λh=>
if h then
(Zcd a.1 e.1).bind λj=>
(Zcq a.1 a.2.2).bind λg=>
some (decide (j=g))
else
some false
else
some false
else
some false
else
some false
else
some (decide ((b.1.1.length:Int)=0))
else
some false
def ZEp:Ctr:=⟨[.dat (.sl (.int .u8))],[.dat (.bool)],λa K=>ZT a λb a=>QN (ZB4 b) λr=>K (r,()) ()⟩
def ZA5 (a:List ZgL) (g:Int) (d:List Zk) (f:List Zl) (i:List (List UInt8)) (h:List Ye) (e:List Zx) (k:List Zc) (l n:List Zh) (m:List Ze) (o:List Zm):Option ((Int×(List Zk)×(List Zl)×(List (List UInt8))×(List Ye)×(List Zx)×(List Zc)×(List Zh)×(List Zh)×(List Ze)×(List Zm)×Unit) ⊕ Bool):=
if g<(a.length:Int) then
(atI a g).bind λj=>
(ZBx j ((d,()),(f,i,h,()),e,())).bind λp=>
if p=0 then
(ZAM j ((d,()),(f,i,h,()),e,()) (k,l,n,m,o,())).bind λb=>
if b.2 then
(ZAp j ((d,()),(f,i,h,()),e,())).bind λc=>
some (.inl (Wq (g+1),Zt.Cells (Zj.Library c),Zg.Instances (Zj.Design c),Zg.X7 (Zj.Design c),Zg.Xb (Zj.Design c),Zj.Qg c,b.1.1,b.1.2.1,b.1.2.2.1,b.1.2.2.2.1,b.1.2.2.2.2.1,()))
else
some (.inr false)
else
some (.inr false)
else
some (.inr (decide ((a.length:Int)<=10)))
def ZDP (a:Zj) (b:Zo) (c:List ZgL):Option Bool:=
Zq (λv=>ZA5 c v.1 v.2.1 v.2.2.1 v.2.2.2.1 v.2.2.2.2.1 v.2.2.2.2.2.1 v.2.2.2.2.2.2.1 v.2.2.2.2.2.2.2.1 v.2.2.2.2.2.2.2.2.1 v.2.2.2.2.2.2.2.2.2.1 v.2.2.2.2.2.2.2.2.2.2.1) ((0:Int),Zt.Cells (Zj.Library a),Zg.Instances (Zj.Design a),Zg.X7 (Zj.Design a),Zg.Xb (Zj.Design a),Zj.Qg a,Zo.Yk b,Zo.Zbb b,Zo.Vp b,Zo.Exceptions b,Zo.X5 b,())
def ZFr (a:ZdQ):Option Bool:=
(ZBQ (ZdQ.Block a) (ZdQ.Setup a)).bind λc=>
if c then
if ((ZdQ.Zyu a).length:Int)<=10 then
if ((ZdQ.Zyt a).length:Int)<=10 then
(ZDP (ZdQ.Block a) (ZdQ.Setup a) (ZdQ.Zyu a)).bind λb=>
if b then
(ZDP (ZdQ.Block a) (ZdQ.Setup a) (ZdQ.Zyt a)).bind λd=>
some d
else
some false
else
some false
else
some false
else
some false
def ZE9 (c b:List ZgL) (d:Int):Option (((List ZgL)×Int×Unit) ⊕ List ZgL):=
if d<(c.length:Int) then
(atI c d).bind λa=>
(ZBE (ZgL.ZAj a)).bind λe=>
Zp ((b.length+[(ZgL.Kind a,ZgL.Place a,ZgL.Cell a,ZgL.Net a,ZgL.Node a,ZgL.Name a,e,())].length)*(152:Nat)<=(140737488355328:Nat))<|
some (.inl (b++[(ZgL.Kind a,ZgL.Place a,ZgL.Cell a,ZgL.Net a,ZgL.Node a,ZgL.Name a,e,())],Wq (d+1),()))
else
some (.inr b)
def ZE8 (a:List ZgL):Option (List ZgL):=
Zq (λv=>ZE9 a v.1 v.2.1) (([]:List ZgL),(0:Int),())
def ZId (c:ZgL) (a:List ZgL):Option (List ZgL):=
Zp (([c].length+a.length)*(152:Nat)<=(140737488355328:Nat))<|
(ZE8 ([c]++a)).bind λb=>
Zp ((0:Int)<=Min.min (b.length:Int) (10:Int))<|
Zp (Min.min (b.length:Int) (10:Int)<=(b.length:Int))<|
some (List.take (Int.toNat (Min.min (b.length:Int) 10)-Int.toNat 0) (List.drop (Int.toNat 0) b))
def ZKW (b:ZdQ) (a d:List ZgL):Option (Zj×Zo×(List ZgL)×(List ZgL)):=
(atI a 0).bind λc=>
(ZAM c (ZdQ.Block b) (ZdQ.Setup b)).bind λg=>
(ZAp c (ZdQ.Block b)).bind λe=>
Zp ((1:Int)<=(a.length:Int))<|
Zp ((a.length:Int)<=(a.length:Int))<|
(ZE8 (List.take (Int.toNat (a.length:Int)-Int.toNat 1) (List.drop (Int.toNat 1) a))).bind λi=>
(ZAr c (ZdQ.Block b)).bind λh=>
(ZId h d).bind λf=>
some (e,g.1,i,f)
end
end Go.Proofs.YtepbknolmhmipaaGreatDoor
