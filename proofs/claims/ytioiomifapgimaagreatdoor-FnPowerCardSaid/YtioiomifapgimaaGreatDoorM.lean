/-
 The models of the functions and their contracts. Printed by program.
-/
import Derived.Test.YtioiomifapgimaaGreatDoorSxTab
import Derived.Test.YtioiomifapgimaaGreatDoorSxS0
import Derived.Test.YtioiomifapgimaaGreatDoorSxLib
import Derived.Test.YtioiomifapgimaaGreatDoorSxLibS
namespace Go.Proofs.YtioiomifapgimaaGreatDoor
open Go Go.Sx
set_option maxRecDepth 100000
set_option maxHeartbeats 100000000
set_option linter.unusedVariables false
set_option linter.unusedSimpArgs false
noncomputable section
abbrev Iq:Ty:=.int .i64
abbrev Wq:=IntKind.wrap IntKind.i64
abbrev Sq:=Za Tryz.prog
theorem Bq {α β:Type} (x:α) (f:α->Option β):(some x).bind f=f x:=rfl
def ZFk (a:List Int):Option Bool:=
some (decide (4096<(a.length:Int)))
def c0:Ctr:=D1 (.sl (.int .u8)) (.bool) ZFk
def ZEx (a:List Int) (b c:Int):Option ((Int×Int×Unit) ⊕ ZdR):=
if b<(a.length:Int) then
if b<64 then
(atI a b).bind λd=>
some (.inl (Wq (b+1),Int.tmod (Wq (Wq (c*31)+Wq d)) 2147483647,()))
else
some (.inr (a,0,c,()))
else
some (.inr (a,0,c,()))
def ZEK (a:List Int):Option ZdR:=
Zn (λv=>ZEx a v.1 v.2.1) ((0:Int),(12345:Int),())
def c1:Ctr:=⟨[.dat (.sl (.int .u8))],[.io (.flat (ZsM))],λa K=>Zv a λb a=>YX (ZEK b) λr=>K (r,()) ()⟩
def ZDX (a:ZdR) (b:Int):Option (Int×ZdR):=
if b<=1 then
some (0,a)
else
if ZdR.at a<((ZdR.code a).length:Int) then
(atI (ZdR.code a) (ZdR.at a)).bind λc=>
if b<=256 then
Zu (b≠0)<|
some (Int.tmod (Wq c) b,(ZdR.code a,Wq (ZdR.at a+1),a.2.2))
else
Zu (b≠0)<|
some (Int.tmod (Int.tmod (Wq (Wq (Wq (ZdR.seed a*48271)+Wq c)+1)) 2147483647) b,(ZdR.code a,Wq (ZdR.at a+1),Int.tmod (Wq (Wq (Wq (ZdR.seed a*48271)+Wq c)+1)) 2147483647,()))
else
Zu (b≠0)<|
some (Int.tmod (Wq (Int.tdiv (Int.tmod (Wq (Wq (ZdR.seed a*48271)+11)) 2147483647) 7)) b,(ZdR.code a,ZdR.at a,Int.tmod (Wq (Wq (ZdR.seed a*48271)+11)) 2147483647,()))
def c2:Ctr:=⟨[.io (.flat (ZsM)),.dat Iq],[.dat Iq],λa K=>Zv a λc a=>Zv a λb a=>YX (ZDX c b) λr=>K (r.1,()) (r.2,())⟩
def ZEs (f:Zm) (d:Int) (b a:Bool) (c:Int):Option ((Bool×Bool×Int×Unit) ⊕ Int):=
if c<((Zm.Truth f).length:Int) then
if Go.bits Go.BinOp.and IntKind.i64 c (Wq (1*2 ^ Min.min (Int.toNat (IntKind.wrap IntKind.u64 d)) (IntKind.bits IntKind.i64)))=0 then
if b then
if a then
some (.inl (true,true,Wq (c+1),()))
else
(atI (Zm.Truth f) c).bind λe=>
(atI (Zm.Truth f) (Wq (c+Wq (1*2 ^ Min.min (Int.toNat (IntKind.wrap IntKind.u64 d)) (IntKind.bits IntKind.i64))))).bind λg=>
some (.inl (true,decide (g<e),Wq (c+1),()))
else
(atI (Zm.Truth f) c).bind λe=>
(atI (Zm.Truth f) (Wq (c+Wq (1*2 ^ Min.min (Int.toNat (IntKind.wrap IntKind.u64 d)) (IntKind.bits IntKind.i64))))).bind λg=>
if a then
some (.inl (decide (e<g),true,Wq (c+1),()))
else
some (.inl (decide (e<g),decide (g<e),Wq (c+1),()))
else
some (.inl (b,a,Wq (c+1),()))
else
if b then
if a then
some (.inr 3)
else
if b then
some (.inr 1)
else
if a then
some (.inr 2)
else
some (.inr 0)
else
if b then
some (.inr 1)
else
if a then
some (.inr 2)
else
some (.inr 0)
def ZEB (b:Zm) (a:Int):Option Int:=
Zu ((0:Int)<=IntKind.wrap IntKind.u64 a)<|
Zn (λv=>ZEs b a v.1 v.2.1 v.2.2.1) (false,false,(0:Int),())
def c3:Ctr:=D2 (Qk) Iq Iq ZEB
def ZEg (c:Int) (a:List Int) (b e:Int) (g:List Int) (h f:Int):Option (((List Int)×Int×Int×(List Int)×Int×Int×Unit) ⊕ ((List Int)×ZdR)):=
if 0<e then
Zu ((a.length+[b].length)*8<=140737488355328)<|
(ZDX (g,h,f,()) c).bind λd=>
some (.inl (a++[b],Wq (Wq (b+1)+d.1),Wq (e-1),d.2.1,d.2.2.1,d.2.2.2.1,()))
else
some (.inr (a,(g,h,f,())))
def ZEf (d:ZdR) (a:Int):Option ((List Int)×ZdR):=
(ZDX d a).bind λc=>
(ZDX c.2 3).bind λb=>
Zn (λv=>ZEg a v.1 v.2.1 v.2.2.1 v.2.2.2.1 v.2.2.2.2.1 v.2.2.2.2.2.1) (([]:List Int),c.1,Wq ((1:Int)+b.1),b.2.1,b.2.2.1,b.2.2.2.1,())
def c4:Ctr:=⟨[.io (.flat (ZsM)),.dat Iq],[.own (.ol 2 (.flat Iq))],λa K=>Zv a λc a=>Zv a λb a=>YX (ZEf c b) λr=>K (r.1,()) (r.2,())⟩
def ZEy (g:Int) (b a:List Int×ZdR) (e:List Int) (f:Int) (l:List Int) (m k:Int):Option (((List Int)×Int×(List Int)×Int×Int×Unit) ⊕ (ZE×ZdR)):=
if f<Wq ((b.1.length:Int)*(a.1.length:Int)) then
(ZDX (l,m,k,()) 10).bind λd=>
Zu ((a.1.length:Int)≠0)<|
if 0<Int.tmod f (a.1.length:Int) then
(atI e (Wq (f-1))).bind λh=>
(ZDX d.2 20).bind λc=>
if (a.1.length:Int)<=f then
(atI e (Wq (f-(a.1.length:Int)))).bind λj=>
(ZDX c.2 20).bind λi=>
Zu ((e.length+[Max.max (Max.max (Wq (g+d.1)) (Wq (h+c.1))) (Wq (j+i.1))].length)*8<=140737488355328)<|
some (.inl (e++[Max.max (Max.max (Wq (g+d.1)) (Wq (h+c.1))) (Wq (j+i.1))],Wq (f+1),i.2.1,i.2.2.1,i.2.2.2.1,()))
else
Zu ((e.length+[Max.max (Wq (g+d.1)) (Wq (h+c.1))].length)*8<=140737488355328)<|
some (.inl (e++[Max.max (Wq (g+d.1)) (Wq (h+c.1))],Wq (f+1),c.2.1,c.2.2.1,c.2.2.2.1,()))
else
if (a.1.length:Int)<=f then
(atI e (Wq (f-(a.1.length:Int)))).bind λh=>
(ZDX d.2 20).bind λc=>
Zu ((e.length+[Max.max (Wq (g+d.1)) (Wq (h+c.1))].length)*8<=140737488355328)<|
some (.inl (e++[Max.max (Wq (g+d.1)) (Wq (h+c.1))],Wq (f+1),c.2.1,c.2.2.1,c.2.2.2.1,()))
else
Zu ((e.length+[Wq (g+d.1)].length)*8<=140737488355328)<|
some (.inl (e++[Wq (g+d.1)],Wq (f+1),d.2.1,d.2.2.1,d.2.2.2.1,()))
else
some (.inr ((b.1,a.1,e,()),(l,m,k,())))
def ZEL (c:ZdR) (d:Int):Option (ZE×ZdR):=
(ZEf c 60).bind λb=>
(ZEf b.2 40).bind λa=>
Zn (λv=>ZEy d b a v.1 v.2.1 v.2.2.1 v.2.2.2.1 v.2.2.2.2.1) (([]:List Int),(0:Int),a.2.1,a.2.2.1,a.2.2.2.1,())
def c5:Ctr:=⟨[.io (.flat (ZsM)),.dat Iq],[.own (Zf1)],λa K=>Zv a λc a=>Zv a λb a=>YX (ZEL c b) λr=>K (r.1,()) (r.2,())⟩
def ZD6 (d:ZdR) (a:Int):Option ((List ZE)×ZdR):=
(ZEL d a).bind λb=>
(ZEL b.2 a).bind λc=>
some ([b.1,c.1],c.2)
def c6:Ctr:=⟨[.io (.flat (ZsM)),.dat Iq],[.own (.ol 317 (Zf1))],λa K=>Zv a λc a=>Zv a λb a=>YX (ZD6 c b) λr=>K (r.1,()) (r.2,())⟩
def ZD5 (h:ZdR) (a b f c:Int):Option (ZQ×ZdR):=
if 4<=a then
(ZDX h 10).bind λd=>
(ZD6 d.2 (Wq (5-d.1))).bind λe=>
some ((a,b,f,0,e.1,[],()),e.2)
else
(ZDX h 20).bind λd=>
(ZD6 d.2 (Wq (5+d.1))).bind λe=>
(ZD6 e.2 10).bind λg=>
some ((a,b,f,c,e.1,g.1,()),g.2)
def c7:Ctr:=⟨[.io (.flat (ZsM)),.dat Iq,.dat Iq,.dat Iq,.dat Iq],[.own (ZuV)],λa K=>Zv a λf a=>Zv a λd a=>Zv a λc a=>Zv a λe a=>Zv a λb a=>YX (ZD5 f d c e b) λr=>K (r.1,()) (r.2,())⟩
def ZEz (k:List UInt8) (j:List Int) (a b:Int×ZdR) (f:List YG) (e:List ZQ) (d:Int) (h:List Int) (g i:Int):Option (((List ZQ)×Int×(List Int)×Int×Int×Unit) ⊕ (((List YG)×Int×(List Int)×Int×Int×Unit) ⊕ (Zm×ZdR))):=
if d<(f.length:Int) then
(ZEB (k,(1:Int),f++[([(121:UInt8)],(2:Int),(0:Int),false,())],([]:List ZQ),j,a.1,b.1,()) d).bind λl=>
if l=0 then
some (.inl (e,Wq (d+1),h,g,i,()))
else
(ZD5 (h,g,i,()) 1 d (f.length:Int) l).bind λc=>
Zu ((e.length+[c.1].length)*80<=140737488355328)<|
some (.inl (e++[c.1],Wq (d+1),c.2.1,c.2.2.1,c.2.2.2.1,()))
else
some (.inr (.inr ((k,(1:Int),f++[([(121:UInt8)],(2:Int),(0:Int),false,())],e,j,a.1,b.1,()),(h,g,i,()))))
def ZEA (k:List UInt8) (f:List Int) (a b:Int×ZdR) (d:List YG) (e:Int) (g:List Int) (j i:Int):Option (((List YG)×Int×(List Int)×Int×Int×Unit) ⊕ (Zm×ZdR)):=
if e<(f.length:Int) then
(atI ([[(97:UInt8)],[(98:UInt8)],[(99:UInt8)],[(100:UInt8)]]) (d.length:Int)).bind λh=>
(ZDX (g,j,i,()) 9).bind λc=>
Zu ((d.length+[(h,(1:Int),Wq ((1:Int)+c.1),false,())].length)*40<=140737488355328)<|
some (.inl (d++[(h,(1:Int),Wq ((1:Int)+c.1),false,())],Wq ((2:Int)*e),c.2.1,c.2.2.1,c.2.2.2.1,()))
else
Zu ((d.length+[([(121:UInt8)],(2:Int),(0:Int),false,())].length)*40<=140737488355328)<|
Zn (λv=>ZEz k f a b d v.1 v.2.1 v.2.2.1 v.2.2.2.1 v.2.2.2.2.1) (([]:List ZQ),(0:Int),g,j,i,())
def ZEd (d:ZdR) (e:List UInt8) (c:List Int):Option (Zm×ZdR):=
(ZDX d 50).bind λb=>
(ZDX b.2 80).bind λa=>
Zn (λv=>ZEA e c b a v.1 v.2.1 v.2.2.1 v.2.2.2.1 v.2.2.2.2.1) (([]:List (List UInt8×Int×Int×Bool×Unit)),(1:Int),a.2.1,a.2.2.1,a.2.2.2.1,())
def c8:Ctr:=⟨[.io (.flat (ZsM)),.dat (.str),.own (.ol 2 (.flat Iq))],[.own (Zod)],λa K=>Zv a λd a=>Zv a λc a=>Zv a λb a=>YX (ZEd d c b) λr=>K (r.1,()) (r.2,())⟩
def ZD8 (l:ZdR) (b:List UInt8) (a e:Int):Option (Zm×ZdR):=
(ZDX l 50).bind λk=>
(ZDX k.2 80).bind λi=>
(ZDX i.2 9).bind λg=>
(ZDX g.2 9).bind λh=>
(ZD5 h.2 e 1 2 0).bind λd=>
(ZD5 d.2 4 1 0 0).bind λf=>
(ZD5 f.2 5 1 0 0).bind λc=>
if a=3 then
(ZD5 c.2 1 0 2 1).bind λj=>
Zu (([d.1,f.1,c.1].length+[j.1].length)*80<=140737488355328)<|
some ((b,a,[([(100:UInt8)],(1:Int),Wq ((1:Int)+g.1),false,()),([(99:UInt8),107],(1:Int),Wq ((1:Int)+h.1),true,()),([(113:UInt8)],(2:Int),(0:Int),false,())],[d.1,f.1,c.1]++[j.1],[],k.1,i.1,()),j.2)
else
some ((b,a,[([(100:UInt8)],(1:Int),Wq ((1:Int)+g.1),false,()),([(99:UInt8),107],(1:Int),Wq ((1:Int)+h.1),true,()),([(113:UInt8)],(2:Int),(0:Int),false,())],[d.1,f.1,c.1],[],k.1,i.1,()),c.2)
def c9:Ctr:=⟨[.io (.flat (ZsM)),.dat (.str),.dat Iq,.dat Iq],[.own (Zod)],λa K=>Zv a λe a=>Zv a λc a=>Zv a λd a=>Zv a λb a=>YX (ZD8 e c d b) λr=>K (r.1,()) (r.2,())⟩
def ZEO (i:ZdR):Option (Zt×ZdR):=
(ZEd i [(105:UInt8),110,118] [(1:Int),0]).bind λh=>
(ZEd h.2 [(98:UInt8),117,102] [(0:Int),1]).bind λf=>
(ZEd f.2 [(110:UInt8),97,110,100] [(1:Int),1,1,0]).bind λa=>
(ZEd a.2 [(120:UInt8),111,114] [(0:Int),1,1,0]).bind λd=>
(ZEd d.2 [(109:UInt8),117,120] [(0:Int),1,0,1,0,0,1,1]).bind λb=>
(ZD8 b.2 [(102:UInt8),108,111,112] (2:Int) (2:Int)).bind λe=>
(ZD8 e.2 [(102:UInt8),108,111,112,110] (2:Int) (3:Int)).bind λc=>
(ZD8 c.2 [(108:UInt8),97,116,99,104] (3:Int) (2:Int)).bind λg=>
some (([h.1,f.1,a.1,d.1,b.1,e.1,c.1,g.1],()),g.2)
def c10:Ctr:=⟨[.io (.flat (ZsM))],[.own (Zoe)],λa K=>Zv a λb a=>YX (ZEO b) λr=>K (r.1,()) (r.2,())⟩
def ZD1 (c:Int->Option (List UInt8)) (a:Int):Option (List UInt8):=
if a<0 then
(c (Wq (0-a))).bind λb=>
Zu ((([(45:UInt8)].length):Int)+(b.length:Int)<=9223372036854775807)<|
some ([(45:UInt8)]++b)
else
if a<10 then
some (bytesOf [IntKind.wrap IntKind.u8 (Wq ((48:Int)+a))])
else
(c (Wq (Int.tdiv a 10))).bind λb=>
Zu ((b.length:Int)+(((bytesOf [IntKind.wrap IntKind.u8 (Wq ((48:Int)+Int.tmod a (10:Int)))]).length):Int)<=9223372036854775807)<|
some (b++bytesOf [IntKind.wrap IntKind.u8 (Wq ((48:Int)+Int.tmod a (10:Int)))])
def ZD3:Nat->Int->Option (List UInt8)
| 0=>λ_=>none
| n+1=>ZD1 (ZD3 n)
def ZEp (a:Int):Option (List UInt8):=Zxi (λn=>ZD3 n a)
def ZEo (b:Int->Option (List UInt8)):Ctr:=⟨[.dat Iq],[.dat (.str)],λa K=>Zv a λc a=>YX (b c) λr=>K (r,()) ()⟩
def c11:Ctr:=ZEo ZEp
def ZEC (l:List Zd) (d:List (List UInt8)) (m f:Int) (c:List UInt8) (e:Int) (j:List Int) (i k:Int) (a:List Int):Option ((Int×(List Int)×Int×Int×(List Int)×Unit) ⊕ (((List Zd)×(List (List UInt8))×Int×(List Int)×Int×Int×Unit) ⊕ (Zc×ZdR))):=
(atI ([(2:Int),2,3,3,4,3,3,3]) f).bind λn=>
if e<Wq (n-1) then
(ZDX (j,i,k,()) (Wq ((d.length:Int)-1))).bind λg=>
(ZDX g.2 3).bind λb=>
if b.1=0 then
if 5<=f then
if e=1 then
Zu ((([]:List Int).length+a.length)*8<=140737488355328)<|
Zu (((([]:List Int)++a).length+[(0:Int)].length)*8<=140737488355328)<|
some (.inl (Wq (e+1),b.2.1,b.2.2.1,b.2.2.2.1,([]:List Int)++a++[(0:Int)],()))
else
Zu ((([]:List Int).length+a.length)*8<=140737488355328)<|
Zu (((([]:List Int)++a).length+[Wq ((d.length:Int)-1)].length)*8<=140737488355328)<|
some (.inl (Wq (e+1),b.2.1,b.2.2.1,b.2.2.2.1,([]:List Int)++a++[Wq ((d.length:Int)-1)],()))
else
Zu ((([]:List Int).length+a.length)*8<=140737488355328)<|
Zu (((([]:List Int)++a).length+[Wq ((d.length:Int)-1)].length)*8<=140737488355328)<|
some (.inl (Wq (e+1),b.2.1,b.2.2.1,b.2.2.2.1,([]:List Int)++a++[Wq ((d.length:Int)-1)],()))
else
if 5<=f then
if e=1 then
Zu ((([]:List Int).length+a.length)*8<=140737488355328)<|
Zu (((([]:List Int)++a).length+[(0:Int)].length)*8<=140737488355328)<|
some (.inl (Wq (e+1),b.2.1,b.2.2.1,b.2.2.2.1,([]:List Int)++a++[(0:Int)],()))
else
Zu ((([]:List Int).length+a.length)*8<=140737488355328)<|
Zu (((([]:List Int)++a).length+[Wq ((1:Int)+g.1)].length)*8<=140737488355328)<|
some (.inl (Wq (e+1),b.2.1,b.2.2.1,b.2.2.2.1,([]:List Int)++a++[Wq ((1:Int)+g.1)],()))
else
Zu ((([]:List Int).length+a.length)*8<=140737488355328)<|
Zu (((([]:List Int)++a).length+[Wq ((1:Int)+g.1)].length)*8<=140737488355328)<|
some (.inl (Wq (e+1),b.2.1,b.2.2.1,b.2.2.2.1,([]:List Int)++a++[Wq ((1:Int)+g.1)],()))
else
Zu ((([]:List Int).length+a.length)*8<=140737488355328)<|
Zu (((([]:List Int)++a).length+[(d.length:Int)].length)*8<=140737488355328)<|
(ZEp (d.length:Int)).bind λh=>
Zu ((([(110:UInt8)].length):Int)+(h.length:Int)<=9223372036854775807)<|
Zu ((d.length+[[(110:UInt8)]++h].length)*16<=140737488355328)<|
Zu ((l.length+[([(117:UInt8)]++c,f,([]:List Int)++a++[(d.length:Int)],())].length)*48<=140737488355328)<|
some (.inr (.inl (l++[([(117:UInt8)]++c,f,([]:List Int)++a++[(d.length:Int)],())],d++[[(110:UInt8)]++h],Wq (m-1),j,i,k,())))
def ZED (k:Bool) (e:List (List UInt8)) (d:Int) (i:List Int) (g j:Int) (f:List (List UInt8×Int×List Int×Unit)):Option ((Int×(List Int)×Int×Int×(List (List UInt8×Int×List Int×Unit))×Unit) ⊕ (((List Zd)×(List (List UInt8))×Int×(List Int)×Int×Int×Unit) ⊕ (Zc×ZdR))):=
if d<(f.length:Int) then
(ZDX (i,g,j,()) 4).bind λc=>
if c.1=0 then
(atI f d).bind λb=>
if b.2.1=5 then
(ZDX c.2 (Wq ((e.length:Int)-1))).bind λa=>
(atI b.2.2.1 0).bind λh=>
some (.inl (Wq (d+1),a.2.1,a.2.2.1,a.2.2.2.1,List.set f (Int.toNat d) (b.1,b.2.1,List.set b.2.2.1 (Int.toNat 0) (Wq (1+a.1)),()),()))
else
if b.2.1=6 then
(ZDX c.2 (Wq ((e.length:Int)-1))).bind λa=>
(atI b.2.2.1 0).bind λh=>
some (.inl (Wq (d+1),a.2.1,a.2.2.1,a.2.2.2.1,List.set f (Int.toNat d) (b.1,b.2.1,List.set b.2.2.1 (Int.toNat 0) (Wq (1+a.1)),()),()))
else
if k then
(ZDX c.2 (Wq ((e.length:Int)-1))).bind λa=>
(atI b.2.2.1 0).bind λh=>
some (.inl (Wq (d+1),a.2.1,a.2.2.1,a.2.2.2.1,List.set f (Int.toNat d) (b.1,b.2.1,List.set b.2.2.1 (Int.toNat 0) (Wq (1+a.1)),()),()))
else
some (.inl (Wq (d+1),c.2.1,c.2.2.1,c.2.2.2.1,List.set f (Int.toNat d) b,()))
else
some (.inl (Wq (d+1),c.2.1,c.2.2.1,c.2.2.2.1,f,()))
else
Zu (((([]:List (List UInt8×Int×Int×Unit))++[([(99:UInt8),107],(1:Int),(0:Int),()),([(97:UInt8)],(1:Int),(1:Int),()),([(98:UInt8)],(1:Int),(2:Int),())]).length+[([(121:UInt8)],(2:Int),Wq ((e.length:Int)-1),())].length)*32<=140737488355328)<|
(ZDX (i,g,j,()) 2).bind λc=>
if c.1=0 then
(ZDX c.2 (Wq ((e.length:Int)-1))).bind λa=>
Zu (((([]:List (List UInt8×Int×Int×Unit))++[([(99:UInt8),107],(1:Int),(0:Int),()),([(97:UInt8)],(1:Int),(1:Int),()),([(98:UInt8)],(1:Int),(2:Int),())]++[([(121:UInt8)],(2:Int),Wq ((e.length:Int)-1),())]).length+[([(122:UInt8)],(2:Int),Wq ((1:Int)+a.1),())].length)*32<=140737488355328)<|
some (.inr (.inr ((f,e,([]:List (List UInt8×Int×Int×Unit))++[([(99:UInt8),107],(1:Int),(0:Int),()),([(97:UInt8)],(1:Int),(1:Int),()),([(98:UInt8)],(1:Int),(2:Int),())]++[([(121:UInt8)],(2:Int),Wq ((e.length:Int)-1),())]++[([(122:UInt8)],(2:Int),Wq ((1:Int)+a.1),())],()),a.2)))
else
some (.inr (.inr ((f,e,([]:List (List UInt8×Int×Int×Unit))++[([(99:UInt8),107],(1:Int),(0:Int),()),([(97:UInt8)],(1:Int),(1:Int),()),([(98:UInt8)],(1:Int),(2:Int),())]++[([(121:UInt8)],(2:Int),Wq ((e.length:Int)-1),())],()),c.2)))
def ZEE (i:Bool) (b:List Zd) (c:List (List UInt8)) (d:Int) (g:List Int) (h f:Int):Option (((List Zd)×(List (List UInt8))×Int×(List Int)×Int×Int×Unit) ⊕ (Zc×ZdR)):=
if 0<d then
(ZDX (g,h,f,()) 12).bind λa=>
(atI ([(0:Int),1,2,2,3,4,5,5,5,6,7,1]) a.1).bind λj=>
(ZEp (b.length:Int)).bind λe=>
Zu ((([(117:UInt8)].length):Int)+(e.length:Int)<=9223372036854775807)<|
Zn (λv=>ZEC b c d j e v.1 v.2.1 v.2.2.1 v.2.2.2.1 v.2.2.2.2.1) ((0:Int),a.2.1,a.2.2.1,a.2.2.2.1,([]:List Int),())
else
Zn (λv=>ZED i c v.1 v.2.1 v.2.2.1 v.2.2.2.1 v.2.2.2.2.1) ((0:Int),g,h,f,b,())
def ZEP (c:ZdR) (d:Int) (b:Bool):Option (Zc×ZdR):=
(ZDX c (Wq (d-1))).bind λa=>
Zn (λv=>ZEE b v.1 v.2.1 v.2.2.1 v.2.2.2.1 v.2.2.2.2.1 v.2.2.2.2.2.1) (([]:List Zd),([]:List (List UInt8))++[[(110:UInt8),99,107],[(110:UInt8),97],[(110:UInt8),98]],Wq ((2:Int)+a.1),a.2.1,a.2.2.1,a.2.2.2.1,())
def c12:Ctr:=⟨[.io (.flat (ZsM)),.dat Iq,.dat (.bool)],[.own (Zqd)],λa K=>Zv a λd a=>Zv a λc a=>Zv a λb a=>YX (ZEP d c b) λr=>K (r.1,()) (r.2,())⟩
def ZaI (c:Int) (b:Zd) (d:List YE) (a:Int):Option (((List YE)×Int×Unit) ⊕ (((List YE)×Int×Unit) ⊕ List YE)):=
if a<((Zd.YK b).length:Int) then
(atI (Zd.YK b) a).bind λe=>
Zu ((d.length+[(c,a,e,decide (a=Wq (((Zd.YK b).length:Int)-1)),())].length)*32<=140737488355328)<|
some (.inl (d++[(c,a,e,decide (a=Wq (((Zd.YK b).length:Int)-1)),())],Wq (a+1),()))
else
some (.inr (.inl (d,Wq (c+1),())))
def ZaJ (d:Zc) (c:List YE) (a:Int):Option (((List YE)×Int×Unit) ⊕ (((List YE)×Int×Unit) ⊕ List YE)):=
if a<((Zc.Xi d).length:Int) then
(atI (Zc.Xi d) a).bind λb=>
Zu ((c.length+[((-1:Int),a,Z8.Net b,decide (Z8.Dir b=1),())].length)*32<=140737488355328)<|
some (.inl (c++[((-1:Int),a,Z8.Net b,decide (Z8.Dir b=1),())],Wq (a+1),()))
else
some (.inr (.inr c))
def ZaK (b:Zc) (c:List YE) (a:Int):Option (((List YE)×Int×Unit) ⊕ List YE):=
if a<((Zc.Instances b).length:Int) then
(atI (Zc.Instances b) a).bind λd=>
Zn (λv=>ZaI a d v.1 v.2.1) (c,(0:Int),())
else
Zn (λv=>ZaJ b v.1 v.2.1) (c,(0:Int),())
def Vt (a:Zc):Option (List YE):=
Zn (λv=>ZaK a v.1 v.2.1) (([]:List (Int×Int×Int×Bool×Unit)),(0:Int),())
def c13:Ctr:=⟨[.dat (YJ)],[.own (.ol 255 (.flat (Zdu)))],λa K=>Zv a λb a=>YX (Vt b) λr=>K (r,()) ()⟩
def Zbv (d:Int) (a:List YE) (b:List Int) (c:Int):Option (((List Int)×Int×Unit) ⊕ List Int):=
if c<(a.length:Int) then
(atI a c).bind λe=>
if YE.net e=d then
if (YE.drives e)=true then
some (.inl (b,Wq (c+1),()))
else
Zu ((b.length+[c].length)*8<=140737488355328)<|
some (.inl (b++[c],Wq (c+1),()))
else
some (.inl (b,Wq (c+1),()))
else
some (.inr b)
def Zcn (c:Zc) (a:Int):Option (List Int):=
(Vt c).bind λb=>
Zn (λv=>Zbv a b v.1 v.2.1) (([]:List Int),(0:Int),())
def c14:Ctr:=⟨[.dat (YJ),.dat Iq],[.own (.ol 2 (.flat Iq))],λa K=>Zv a λc a=>Zv a λb a=>YX (Zcn c b) λr=>K (r,()) ()⟩
def ZEH (a b:Int):Option ZJ:=
Zu ((0:Int)<=a)<|
Zu (a<=a)<|
Zu (a<=4611686018427387904)<|
Zu (((8:Nat):Int)*a<=281474976710656)<|
some ([(-1:Int)],[(0:Int)],[b],List.replicate (Int.toNat a) (0:Int),())
def c15:Ctr:=⟨[.dat Iq,.dat Iq],[.own (Zof)],λa K=>Zv a λb a=>Zv a λc a=>YX (ZEH b c) λr=>K (r,()) ()⟩
def Zho (a:List Int):Option (List Int):=
Zu ((([]:List Int).length+a.length)*8<=140737488355328)<|
some (([]:List Int)++a)
def c16:Ctr:=⟨[.dat (.sl Iq)],[.own (.ol 2 (.flat Iq))],λa K=>Zv a λb a=>YX (Zho b) λr=>K (r,()) ()⟩
def ZEh (e h i:List Int) (a:Int) (f:List Int) (g d:Int) (b:List Int):Option ((Int×(List Int)×Int×Int×(List Int)×Unit) ⊕ ((Int×(List Int)×Int×Int×(List Int)×(List Int)×(List Int)×(List Int)×Unit) ⊕ (ZJ×ZdR))):=
if a<(b.length:Int) then
(ZDX (f,g,d,()) (e.length:Int)).bind λc=>
(atI b a).bind λj=>
some (.inl (Wq (a+1),c.2.1,c.2.2.1,c.2.2.2.1,List.set b (Int.toNat a) c.1,()))
else
some (.inr (.inr ((e,h,i,b,()),(f,g,d,()))))
def ZEi (g:Int) (m:List Int) (n j:Int) (d h k i:List Int):Option ((Int×(List Int)×Int×Int×(List Int)×(List Int)×(List Int)×(List Int)×Unit) ⊕ (ZJ×ZdR)):=
if 0<g then
(Zho d).bind λl=>
(ZDX (m,n,j,()) (d.length:Int)).bind λc=>
Zu ((l.length+[c.1].length)*8<=140737488355328)<|
(Zho h).bind λe=>
(ZDX c.2 400).bind λb=>
Zu ((e.length+[b.1].length)*8<=140737488355328)<|
(Zho k).bind λf=>
(ZDX b.2 8).bind λa=>
Zu ((f.length+[a.1].length)*8<=140737488355328)<|
some (.inl (Wq (g-1),a.2.1,a.2.2.1,a.2.2.2.1,l++[c.1],e++[b.1],f++[a.1],i,()))
else
Zn (λv=>ZEh d h k v.1 v.2.1 v.2.2.1 v.2.2.2.1 v.2.2.2.2.1) ((0:Int),m,n,j,i,())
def ZEq (e:ZdR) (a:Int):Option (ZJ×ZdR):=
(ZDX e 6).bind λd=>
(ZEH a d.1).bind λc=>
(ZDX d.2 4).bind λb=>
Zn (λv=>ZEi v.1 v.2.1 v.2.2.1 v.2.2.2.1 v.2.2.2.2.1 v.2.2.2.2.2.1 v.2.2.2.2.2.2.1 v.2.2.2.2.2.2.2.1) (b.1,b.2.1,b.2.2.1,b.2.2.2.1,ZJ.Parent c,ZJ.Res c,ZJ.Cap c,ZJ.Zkx c,())
def c17:Ctr:=⟨[.io (.flat (ZsM)),.dat Iq],[.own (Zof)],λa K=>Zv a λc a=>Zv a λb a=>YX (ZEq c b) λr=>K (r.1,()) (r.2,())⟩
def ZEG (d:Zt×ZdR) (a:Zc×ZdR) (b:List ZJ) (c:Int) (g:List Int) (h f:Int):Option (((List ZJ)×Int×(List Int)×Int×Int×Unit) ⊕ (Ze×ZdR)):=
if c<(a.1.2.1.length:Int) then
(Zcn a.1 c).bind λi=>
(ZEq (g,h,f,()) (i.length:Int)).bind λe=>
Zu ((b.length+[e.1].length)*96<=140737488355328)<|
some (.inl (b++[e.1],Wq (c+1),e.2.1,e.2.2.1,e.2.2.2.1,()))
else
some (.inr ((d.1,a.1,b,()),(g,h,f,())))
def ZEt (e:ZdR) (a:Int) (b:Bool):Option (Ze×ZdR):=
(ZEO e).bind λd=>
(ZEP d.2 a b).bind λc=>
Zn (λv=>ZEG d c v.1 v.2.1 v.2.2.1 v.2.2.2.1 v.2.2.2.2.1) (([]:List ZJ),(0:Int),c.2.1,c.2.2.1,c.2.2.2.1,())
def c18:Ctr:=⟨[.io (.flat (ZsM)),.dat Iq,.dat (.bool)],[.own (Zwk)],λa K=>Zv a λd a=>Zv a λb a=>Zv a λc a=>YX (ZEt d b c) λr=>K (r.1,()) (r.2,())⟩
def ZEF (i:ZdR):Option (Ze×ZdR):=
(ZDX i 3).bind λh=>
(ZEt h.2 6 (decide (h.1=0))).bind λa=>
(ZDX a.2 (a.1.2.2.1.length:Int)).bind λd=>
(ZDX d.2 20).bind λc=>
if c.1=0 then
Zu ((1:Int)<=(a.1.2.2.1.length:Int))<|
Zu ((a.1.2.2.1.length:Int)<=(a.1.2.2.1.length:Int))<|
some ((a.1.1,a.1.2.1,List.take (Int.toNat (a.1.2.2.1.length:Int)-Int.toNat 1) (List.drop (Int.toNat 1) a.1.2.2.1),()),c.2)
else
if c.1=1 then
(atI a.1.2.2.1 d.1).bind λb=>
(Zho b.2.2.2.1).bind λg=>
Zu ((g.length+[(0:Int)].length)*8<=140737488355328)<|
some ((a.1.1,a.1.2.1,List.set a.1.2.2.1 (Int.toNat d.1) (b.1,b.2.1,b.2.2.1,g++[(0:Int)],()),()),c.2)
else
if c.1=2 then
(atI a.1.2.2.1 d.1).bind λb=>
(atI b.2.1 0).bind λf=>
some ((a.1.1,a.1.2.1,List.set a.1.2.2.1 (Int.toNat d.1) (b.1,List.set b.2.1 (Int.toNat 0) 1,b.2.2),()),c.2)
else
if c.1=3 then
(atI a.1.2.2.1 d.1).bind λb=>
(ZDX c.2 3).bind λe=>
(atI ([(-1:Int),500,501]) e.1).bind λf=>
(atI b.2.2.1 0).bind λj=>
some ((a.1.1,a.1.2.1,List.set a.1.2.2.1 (Int.toNat d.1) (b.1,b.2.1,List.set b.2.2.1 (Int.toNat 0) f,b.2.2.2),()),e.2)
else
if c.1=4 then
(atI a.1.2.2.1 d.1).bind λb=>
(ZDX c.2 5).bind λe=>
(atI b.1 (Wq ((b.1.length:Int)-1))).bind λf=>
some ((a.1.1,a.1.2.1,List.set a.1.2.2.1 (Int.toNat d.1) (List.set b.1 (Int.toNat (Wq ((b.1.length:Int)-1))) (Wq (e.1-1)),b.2),()),e.2)
else
if c.1=5 then
(atI a.1.2.1.2.2.1 0).bind λb=>
some ((a.1.1,(a.1.2.1.1,a.1.2.1.2.1,List.set a.1.2.1.2.2.1 (Int.toNat 0) (Z8.Name b,3,b.2.2),()),a.1.2.2),c.2)
else
some (a.1,c.2)
def c19:Ctr:=⟨[.io (.flat (ZsM))],[.own (Zwk)],λa K=>Zv a λb a=>YX (ZEF b) λr=>K (r.1,()) (r.2,())⟩
def ZEQ (e:ZdR):Option (Ze×ZdR):=
(ZDX e 14).bind λb=>
if b.1=0 then
(ZEF b.2).bind λd=>
some (d.1,d.2)
else
if b.1=1 then
(ZEt b.2 8 true).bind λa=>
some (a.1,a.2)
else
(ZDX b.2 8).bind λc=>
(ZEt c.2 (Wq (2+c.1)) false).bind λa=>
some (a.1,a.2)
def c20:Ctr:=⟨[.io (.flat (ZsM))],[.own (Zwk)],λa K=>Zv a λb a=>YX (ZEQ b) λr=>K (r.1,()) (r.2,())⟩
def Zcm (c:List UInt8) (a:Int):Option ((Int×Unit) ⊕ Bool):=
if a<(c.length:Int) then
(atI c a).bind λb=>
if 97<=((UInt8.toNat b):Int) then
if 48<=((UInt8.toNat b):Int) then
if ((UInt8.toNat b):Int)<=122 then
some (.inl (Wq (a+1),()))
else
if ((UInt8.toNat b):Int)<=57 then
if 0<a then
some (.inl (Wq (a+1),()))
else
some (.inr false)
else
some (.inr false)
else
if ((UInt8.toNat b):Int)<=122 then
some (.inl (Wq (a+1),()))
else
some (.inr false)
else
if 48<=((UInt8.toNat b):Int) then
if ((UInt8.toNat b):Int)<=57 then
if 0<a then
some (.inl (Wq (a+1),()))
else
some (.inr false)
else
some (.inr false)
else
some (.inr false)
else
if 1<=(c.length:Int) then
some (.inr (decide ((c.length:Int)<=8)))
else
some (.inr false)
def ZbH (a:List UInt8):Option Bool:=
Zn (λv=>Zcm a v.1) ((0:Int),())
def c21:Ctr:=D1 (.str) (.bool) ZbH
def YB (c b a:Int):Option Bool:=
if b<=c then
some (decide (c<=a))
else
some false
def c22:Ctr:=D3 Iq Iq Iq (.bool) YB
def Qs (d:Zm) (c a:Int) (b:YG) (e:Int):Option ((Int×Unit) ⊕ ((Int×Int×Unit) ⊕ (Int×Bool))):=
if e<a then
(atI (Zm.YR d) e).bind λg=>
if YG.Name g=YG.Name b then
some (.inr (.inr (0,false)))
else
some (.inl (Wq (e+1),()))
else
(ZbH (YG.Name b)).bind λf=>
if f then
(YB (YG.Cap b) 0 500).bind λh=>
if h then
if a=Wq (((Zm.YR d).length:Int)-1) then
if YG.Dir b=2 then
if YG.Cap b=0 then
if (YG.Clock b)=true then
some (.inr (.inr (0,false)))
else
if a<Wq (((Zm.YR d).length:Int)-1) then
if YG.Dir b=1 then
if (YG.Clock b)=true then
some (.inr (.inl (Wq (c+1),Wq (a+1),())))
else
some (.inr (.inl (c,Wq (a+1),())))
else
some (.inr (.inr (0,false)))
else
if (YG.Clock b)=true then
some (.inr (.inl (Wq (c+1),Wq (a+1),())))
else
some (.inr (.inl (c,Wq (a+1),())))
else
some (.inr (.inr (0,false)))
else
some (.inr (.inr (0,false)))
else
if a<Wq (((Zm.YR d).length:Int)-1) then
if YG.Dir b=1 then
if (YG.Clock b)=true then
some (.inr (.inl (Wq (c+1),Wq (a+1),())))
else
some (.inr (.inl (c,Wq (a+1),())))
else
some (.inr (.inr (0,false)))
else
if (YG.Clock b)=true then
some (.inr (.inl (Wq (c+1),Wq (a+1),())))
else
some (.inr (.inl (c,Wq (a+1),())))
else
some (.inr (.inr (0,false)))
else
some (.inr (.inr (0,false)))
def Vm (b:Zm) (c a:Int):Option ((Int×Int×Unit) ⊕ (Int×Bool)):=
if a<((Zm.YR b).length:Int) then
(atI (Zm.YR b) a).bind λd=>
Zn (λv=>Qs b c a d v.1) ((0:Int),())
else
some (.inr (c,true))
def ZeR (a:Zm):Option (Int×Bool):=
if ((Zm.YR a).length:Int)<2 then
some (0,false)
else
if 5<((Zm.YR a).length:Int) then
some (0,false)
else
Zn (λv=>Vm a v.1 v.2.1) ((0:Int),(0:Int),())
def c23:Ctr:=⟨[.dat (Qk)],[.dat Iq,.dat (.bool)],λa K=>Zv a λb a=>YX (ZeR b) λr=>K (r.1,r.2,()) ()⟩
def Zcl (a:List Int) (b:Int):Option ((Int×Unit) ⊕ Bool):=
if b<(a.length:Int) then
(atI a b).bind λc=>
(YB c 0 100000).bind λd=>
if d then
if 0<b then
(atI a (Wq (b-1))).bind λe=>
if c<=e then
some (.inr false)
else
some (.inl (Wq (b+1),()))
else
some (.inl (Wq (b+1),()))
else
some (.inr false)
else
if 1<=(a.length:Int) then
some (.inr (decide ((a.length:Int)<=4)))
else
some (.inr false)
def Zdr (a:List Int):Option Bool:=
Zn (λv=>Zcl a v.1) ((0:Int),())
def c24:Ctr:=D1 (.sl Iq) (.bool) Zdr
def Zcj (b:ZE) (a:Int):Option ((Int×Unit) ⊕ Bool):=
if a<((ZE.Values b).length:Int) then
(atI (ZE.Values b) a).bind λd=>
(YB d (-1000000) 1000000).bind λc=>
if c then
some (.inl (Wq (a+1),()))
else
some (.inr false)
else
some (.inr true)
def ZeP (a:ZE):Option Bool:=
(Zdr (ZE.ZhJ a)).bind λb=>
if b then
(Zdr (ZE.Loads a)).bind λc=>
if c then
if ((ZE.Values a).length:Int)=Wq (((ZE.ZhJ a).length:Int)*((ZE.Loads a).length:Int)) then
Zn (λv=>Zcj a v.1) ((0:Int),())
else
some false
else
some false
else
some false
def c25:Ctr:=D1 (YV) (.bool) ZeP
def QY (e:ZE) (a b c:Int):Option ((Int×Int×Int×Unit) ⊕ (Zp7×Int)):=
if a<((ZE.Values e).length:Int) then
(atI (ZE.Values e) a).bind λd=>
some (.inl (Wq (a+1),Min.min b d,Max.max c d,()))
else
some (.inr ((b,c,()),0))
def Zba (a:ZE):Option (Zp7×Int):=
(ZeP a).bind λc=>
if c then
(atI (ZE.Values a) 0).bind λb=>
Zn (λv=>QY a v.1 v.2.1 v.2.2.1) ((1:Int),b,b,())
else
some ((0,0,()),1)
def c26:Ctr:=⟨[.dat (YV)],[.dat (ZyV),.dat Iq],λa K=>Zv a λb a=>YX (Zba b) λr=>K (r.1,r.2,()) ()⟩
def ZaG (c:List ZE) (a:Bool) (b:Int):Option ((Int×Unit) ⊕ Bool):=
if b<2 then
(atI c b).bind λe=>
(Zba e).bind λd=>
if d.2=0 then
if a then
if d.1.1<0 then
some (.inr false)
else
some (.inl (Wq (b+1),()))
else
some (.inl (Wq (b+1),()))
else
some (.inr false)
else
some (.inr true)
def YF (b:List ZE) (a:Bool):Option Bool:=
if (b.length:Int)=2 then
Zn (λv=>ZaG b a v.1) ((0:Int),())
else
some false
def c27:Ctr:=D2 (.sl (YV)) (.bool) (.bool) YF
def ZfT (b:Zm) (a:ZQ):Option Bool:=
(YB (ZQ.From a) 0 (Wq (Wq (((Zm.YR b).length:Int)-1)-1))).bind λi=>
if i then
(YB (ZQ.To a) 0 (Wq (((Zm.YR b).length:Int)-1))).bind λh=>
if h then
(atI (Zm.YR b) (ZQ.From a)).bind λe=>
if ZQ.Kind a=1 then
if (YG.Clock e)=true then
some false
else
if ZQ.To a=Wq (((Zm.YR b).length:Int)-1) then
(YB (ZQ.Zcu a) 1 3).bind λg=>
if g then
(YF (ZQ.Delay a) true).bind λc=>
if c then
(YF (ZQ.ZiV a) true).bind λf=>
some f
else
some false
else
some false
else
some false
else
if ZQ.Kind a=2 then
if ZQ.Kind a=2 then
if (YG.Clock e)=true then
if ZQ.To a=Wq (((Zm.YR b).length:Int)-1) then
if ZQ.Zcu a=0 then
(YF (ZQ.Delay a) true).bind λc=>
if c then
(YF (ZQ.ZiV a) true).bind λf=>
some f
else
some false
else
some false
else
some false
else
some false
else
if ZQ.Kind a=4 then
if ZQ.Kind a=4 then
if (YG.Clock e)=true then
if ZQ.To a<Wq (((Zm.YR b).length:Int)-1) then
(atI (Zm.YR b) (ZQ.To a)).bind λd=>
if (YG.Clock d)=true then
some false
else
if ZQ.Zcu a=0 then
(YF (ZQ.Delay a) false).bind λc=>
if c then
some (decide (((ZQ.ZiV a).length:Int)=0))
else
some false
else
some false
else
some false
else
some false
else
some false
else
if ZQ.Kind a=5 then
if (YG.Clock e)=true then
if ZQ.To a<Wq (((Zm.YR b).length:Int)-1) then
(atI (Zm.YR b) (ZQ.To a)).bind λd=>
if (YG.Clock d)=true then
some false
else
if ZQ.Zcu a=0 then
(YF (ZQ.Delay a) false).bind λc=>
if c then
some (decide (((ZQ.ZiV a).length:Int)=0))
else
some false
else
some false
else
some false
else
some false
else
some false
else
if ZQ.Kind a=3 then
if (YG.Clock e)=true then
if ZQ.To a=Wq (((Zm.YR b).length:Int)-1) then
if ZQ.Zcu a=0 then
(YF (ZQ.Delay a) true).bind λc=>
if c then
(YF (ZQ.ZiV a) true).bind λf=>
some f
else
some false
else
some false
else
some false
else
some false
else
if ZQ.Kind a=4 then
if ZQ.Kind a=4 then
if (YG.Clock e)=true then
if ZQ.To a<Wq (((Zm.YR b).length:Int)-1) then
(atI (Zm.YR b) (ZQ.To a)).bind λd=>
if (YG.Clock d)=true then
some false
else
if ZQ.Zcu a=0 then
(YF (ZQ.Delay a) false).bind λc=>
if c then
some (decide (((ZQ.ZiV a).length:Int)=0))
else
some false
else
some false
else
some false
else
some false
else
some false
else
if ZQ.Kind a=5 then
if (YG.Clock e)=true then
if ZQ.To a<Wq (((Zm.YR b).length:Int)-1) then
(atI (Zm.YR b) (ZQ.To a)).bind λd=>
if (YG.Clock d)=true then
some false
else
if ZQ.Zcu a=0 then
(YF (ZQ.Delay a) false).bind λc=>
if c then
some (decide (((ZQ.ZiV a).length:Int)=0))
else
some false
else
some false
else
some false
else
some false
else
some false
else
some false
else
some false
def c28:Ctr:=D2 (Qk) (ZdW) (.bool) ZfT
def Ji (d:Zm) (b:Int) (a:List Int):Option ((Int×(List Int)×Unit) ⊕ List Int):=
if b<((Zm.ZaN d).length:Int) then
(atI (Zm.ZaN d) b).bind λc=>
(atI a (ZQ.Kind c)).bind λe=>
some (.inl (Wq (b+1),List.set a (Int.toNat (ZQ.Kind c)) (Wq (e+1)),()))
else
some (.inr a)
def ZdL (a:Zm):Option (List Int):=
Zn (λv=>Ji a v.1 v.2.1) ((0:Int),List.replicate (Int.toNat (6:Int)) (0:Int),())
def c29:Ctr:=⟨[.dat (Qk)],[.own (.ol 2 (.flat Iq))],λa K=>Zv a λb a=>YX (ZdL b) λr=>K (r,()) ()⟩
def Zaq (e:Zm) (d:Int) (b:ZQ) (a:Int):Option ((Int×Unit) ⊕ ((Int×Unit) ⊕ Bool)):=
if a<d then
(atI (Zm.ZaN e) a).bind λc=>
if ZQ.Kind c=ZQ.Kind b then
if ZQ.From c=ZQ.From b then
if ZQ.To c=ZQ.To b then
some (.inr (.inr false))
else
some (.inl (Wq (a+1),()))
else
some (.inl (Wq (a+1),()))
else
some (.inl (Wq (a+1),()))
else
some (.inr (.inl (Wq (d+1),())))
def Zar (b:Zm) (a:Int×Bool) (c:Int):Option ((Int×Unit) ⊕ ((Int×Unit) ⊕ Bool)):=
if c<((Zm.Truth b).length:Int) then
(atI (Zm.Truth b) c).bind λd=>
(YB d 0 1).bind λe=>
if e then
some (.inl (Wq (c+1),()))
else
some (.inr (.inr false))
else
if a.1=0 then
Zu ((0:Int)<=IntKind.wrap IntKind.u64 (Wq (((Zm.YR b).length:Int)-1)))<|
some (.inr (.inr (decide (((Zm.Truth b).length:Int)=Wq (1*2 ^ Min.min (Int.toNat (IntKind.wrap IntKind.u64 (Wq (((Zm.YR b).length:Int)-1)))) (IntKind.bits IntKind.i64))))))
else
some (.inr (.inr false))
def ZcM (b:Zm) (a:Int×Bool) (g:Int):Option ((Int×Unit) ⊕ Bool):=
if g<((Zm.ZaN b).length:Int) then
(atI (Zm.ZaN b) g).bind λd=>
(ZfT b d).bind λh=>
if h then
Zn (λv=>Zaq b g d v.1) ((0:Int),())
else
some (.inr false)
else
(ZdL b).bind λc=>
if Zm.Kind b=1 then
Zn (λv=>Zar b a v.1) ((0:Int),())
else
if Zm.Kind b=2 then
if a.1=1 then
(atI c 1).bind λd=>
if d=0 then
(atI c 2).bind λf=>
(atI c 3).bind λe=>
if (decide (0<f) == decide (0<e))=true then
some (.inr false)
else
some (.inr (decide (((Zm.Truth b).length:Int)=0)))
else
some (.inr false)
else
some (.inr false)
else
if Zm.Kind b=3 then
if a.1=1 then
(atI c 1).bind λd=>
if 0<d then
(atI c 2).bind λf=>
if 0<f then
(atI c 3).bind λe=>
if e=0 then
some (.inr (decide (((Zm.Truth b).length:Int)=0)))
else
some (.inr false)
else
some (.inr false)
else
some (.inr false)
else
some (.inr false)
else
some (.inr false)
def ZfR (a:Zm):Option Bool:=
(ZeR a).bind λb=>
if b.2 then
(ZbH (Zm.Name a)).bind λe=>
if e then
if 8<((Zm.ZaN a).length:Int) then
some false
else
(YB (Zm.ZuT a) 0 100000).bind λc=>
if c then
(YB (Zm.ZhS a) 0 100000).bind λd=>
if d then
Zn (λv=>ZcM a b v.1) ((0:Int),())
else
some false
else
some false
else
some false
else
some false
def c30:Ctr:=D1 (Qk) (.bool) ZfR
def ZaE (c:Zt) (b:Int) (d:Zm) (a:Int):Option ((Int×Unit) ⊕ ((Int×Unit) ⊕ Bool)):=
if a<b then
(atI (Zt.Cells c) a).bind λe=>
if Zm.Name e=Zm.Name d then
some (.inr (.inr false))
else
some (.inl (Wq (a+1),()))
else
some (.inr (.inl (Wq (b+1),())))
def ZaF (a:Zt) (b:Int):Option ((Int×Unit) ⊕ Bool):=
if b<((Zt.Cells a).length:Int) then
(atI (Zt.Cells a) b).bind λc=>
(ZfR c).bind λd=>
if d then
Zn (λv=>ZaE a b c v.1) ((0:Int),())
else
some (.inr false)
else
some (.inr (decide (((Zt.Cells a).length:Int)<=8)))
def Zc9 (a:Zt):Option Bool:=
Zn (λv=>ZaF a v.1) ((0:Int),())
def c31:Ctr:=D1 (YL) (.bool) Zc9
def Zbs (c:Zc) (f:Int) (b:Zd) (a:Int):Option ((Int×Unit) ⊕ ((Int×Unit) ⊕ Bool)):=
if a<((Zd.YK b).length:Int) then
(atI (Zd.YK b) a).bind λe=>
(YB e 0 (Wq (((Zc.YK c).length:Int)-1))).bind λd=>
if d then
some (.inl (Wq (a+1),()))
else
some (.inr (.inr false))
else
some (.inr (.inl (Wq (f+1),())))
def Zbt (b:Zc) (a:Int):Option ((Int×Unit) ⊕ ((Int×Unit) ⊕ Bool)):=
if a<((Zc.Xi b).length:Int) then
(atI (Zc.Xi b) a).bind λc=>
(YB (Z8.Dir c) 1 2).bind λd=>
if d then
(YB (Z8.Net c) 0 (Wq (((Zc.YK b).length:Int)-1))).bind λe=>
if e then
some (.inl (Wq (a+1),()))
else
some (.inr (.inr false))
else
some (.inr (.inr false))
else
some (.inr (.inr true))
def Zbu (d:Zt) (b:Zc) (c:Int):Option ((Int×Unit) ⊕ Bool):=
if c<((Zc.Instances b).length:Int) then
(atI (Zc.Instances b) c).bind λa=>
(YB (Zd.Cell a) 0 (Wq (((Zt.Cells d).length:Int)-1))).bind λe=>
if e then
(atI (Zt.Cells d) (Zd.Cell a)).bind λf=>
if ((Zd.YK a).length:Int)=((Zm.YR f).length:Int) then
Zn (λv=>Zbs b c a v.1) ((0:Int),())
else
some (.inr false)
else
some (.inr false)
else
Zn (λv=>Zbt b v.1) ((0:Int),())
def ZdM (b:Zt) (a:Zc):Option Bool:=
Zn (λv=>Zbu b a v.1) ((0:Int),())
def c32:Ctr:=D2 (YL) (YJ) (.bool) ZdM
def Zbq (a:List (List UInt8)) (c:Int) (d:List UInt8) (b:Int):Option ((Int×Unit) ⊕ ((Int×Unit) ⊕ Bool)):=
if b<c then
(atI a b).bind λe=>
if e=d then
some (.inr (.inr false))
else
some (.inl (Wq (b+1),()))
else
some (.inr (.inl (Wq (c+1),())))
def Zbr (a:List (List UInt8)) (b:Int):Option ((Int×Unit) ⊕ Bool):=
if b<(a.length:Int) then
(atI a b).bind λc=>
(ZbH c).bind λd=>
if d then
Zn (λv=>Zbq a b c v.1) ((0:Int),())
else
some (.inr false)
else
some (.inr true)
def Zas (a:List (List UInt8)):Option Bool:=
Zn (λv=>Zbr a v.1) ((0:Int),())
def c33:Ctr:=D1 (.sl (.str)) (.bool) Zas
def Zbn (b:List Int) (a:Int):Option ((Int×Unit) ⊕ ((Int×(List Int)×Unit) ⊕ ((Int×(List Int)×Unit) ⊕ (((List (List UInt8))×Int×Unit) ⊕ (((List (List UInt8))×Int×Unit) ⊕ Bool))))):=
if a<(b.length:Int) then
(atI b a).bind λc=>
if c=1 then
some (.inl (Wq (a+1),()))
else
some (.inr (.inr (.inr (.inr (.inr false)))))
else
some (.inr (.inr (.inr (.inr (.inr true)))))
def Jg (d:Zc) (b:Int) (a:List Int):Option ((Int×(List Int)×Unit) ⊕ ((Int×(List Int)×Unit) ⊕ (((List (List UInt8))×Int×Unit) ⊕ (((List (List UInt8))×Int×Unit) ⊕ Bool)))):=
if b<((Zc.Xi d).length:Int) then
(atI (Zc.Xi d) b).bind λc=>
if Z8.Dir c=1 then
(atI a (Z8.Net c)).bind λe=>
some (.inl (Wq (b+1),List.set a (Int.toNat (Z8.Net c)) (Wq (e+1)),()))
else
some (.inl (Wq (b+1),a,()))
else
Zn (λv=>Zbn a v.1) ((0:Int),())
def Jh (b:Zc) (c:Int) (a:List Int):Option ((Int×(List Int)×Unit) ⊕ (((List (List UInt8))×Int×Unit) ⊕ (((List (List UInt8))×Int×Unit) ⊕ Bool))):=
if c<((Zc.Instances b).length:Int) then
(atI (Zc.Instances b) c).bind λd=>
(atI (Zd.YK d) (Wq (((Zd.YK d).length:Int)-1))).bind λe=>
(atI a e).bind λf=>
some (.inl (Wq (c+1),List.set a (Int.toNat e) (Wq (f+1)),()))
else
Zn (λv=>Jg b v.1 v.2.1) ((0:Int),a,())
def Zbo (a:Zc) (h b:List (List UInt8)) (c:Int):Option (((List (List UInt8))×Int×Unit) ⊕ (((List (List UInt8))×Int×Unit) ⊕ Bool)):=
if c<((Zc.Xi a).length:Int) then
(atI (Zc.Xi a) c).bind λd=>
Zu ((b.length+[Z8.Name d].length)*16<=140737488355328)<|
some (.inl (b++[Z8.Name d],Wq (c+1),()))
else
(Zas h).bind λg=>
if g then
(Zas b).bind λf=>
if f then
(Zas (Zc.YK a)).bind λe=>
if e then
Zu ((0:Int)<=((Zc.YK a).length:Int))<|
Zu (((Zc.YK a).length:Int)<=((Zc.YK a).length:Int))<|
Zu (((Zc.YK a).length:Int)<=4611686018427387904)<|
Zu (((8:Nat):Int)*((Zc.YK a).length:Int)<=281474976710656)<|
Zn (λv=>Jh a v.1 v.2.1) ((0:Int),List.replicate (Int.toNat ((Zc.YK a).length:Int)) (0:Int),())
else
some (.inr (.inr false))
else
some (.inr (.inr false))
else
some (.inr (.inr false))
def Zbp (b:Zc) (c:List (List UInt8)) (a:Int):Option (((List (List UInt8))×Int×Unit) ⊕ Bool):=
if a<((Zc.Instances b).length:Int) then
(atI (Zc.Instances b) a).bind λd=>
Zu ((c.length+[Zd.Name d].length)*16<=140737488355328)<|
some (.inl (c++[Zd.Name d],Wq (a+1),()))
else
Zn (λv=>Zbo b c v.1 v.2.1) (([]:List (List UInt8)),(0:Int),())
def Zch (b:Zt) (a:Zc):Option Bool:=
(Zc9 b).bind λc=>
if c then
if 14<((Zc.Instances a).length:Int) then
some false
else
if 30<((Zc.YK a).length:Int) then
some false
else
if 8<((Zc.Xi a).length:Int) then
some false
else
(ZdM b a).bind λd=>
if d then
Zn (λv=>Zbp a v.1 v.2.1) (([]:List (List UInt8)),(0:Int),())
else
some false
else
some false
def c34:Ctr:=D2 (YL) (YJ) (.bool) Zch
def ZcN (b:ZJ) (a:Int):Option ((Int×Unit) ⊕ ((Int×Unit) ⊕ Bool)):=
if a<((ZJ.Zkx b).length:Int) then
(atI (ZJ.Zkx b) a).bind λd=>
(YB d 0 (Wq (((ZJ.Parent b).length:Int)-1))).bind λc=>
if c then
some (.inl (Wq (a+1),()))
else
some (.inr (.inr false))
else
some (.inr (.inr true))
def ZcO (b:ZJ) (a:Int):Option ((Int×Unit) ⊕ Bool):=
if a<((ZJ.Parent b).length:Int) then
(atI (ZJ.Cap b) a).bind λg=>
(YB g 0 500).bind λh=>
if h then
(atI (ZJ.Res b) a).bind λe=>
(YB e 0 1000).bind λf=>
if f then
if a=0 then
(atI (ZJ.Parent b) a).bind λc=>
if c=(-1) then
if e=0 then
if 0<a then
(YB c 0 (Wq (a-1))).bind λd=>
if d then
some (.inl (Wq (a+1),()))
else
some (.inr false)
else
some (.inl (Wq (a+1),()))
else
some (.inr false)
else
some (.inr false)
else
if 0<a then
(atI (ZJ.Parent b) a).bind λc=>
(YB c 0 (Wq (a-1))).bind λd=>
if d then
some (.inl (Wq (a+1),()))
else
some (.inr false)
else
some (.inl (Wq (a+1),()))
else
some (.inr false)
else
some (.inr false)
else
Zn (λv=>ZcN b v.1) ((0:Int),())
def ZfS (a:ZJ) (b:Int):Option Bool:=
if ((ZJ.Parent a).length:Int)<1 then
some false
else
if 8<((ZJ.Parent a).length:Int) then
some false
else
if ((ZJ.Res a).length:Int)=((ZJ.Parent a).length:Int) then
if ((ZJ.Cap a).length:Int)=((ZJ.Parent a).length:Int) then
if ((ZJ.Zkx a).length:Int)=b then
Zn (λv=>ZcO a v.1) ((0:Int),())
else
some false
else
some false
else
some false
def c35:Ctr:=D2 (Vu) Iq (.bool) ZfS
def Zcg (b:Ze) (a:Int):Option ((Int×Unit) ⊕ Bool):=
if a<((Ze.QZ b).length:Int) then
(atI (Ze.QZ b) a).bind λc=>
(Zcn (Ze.Design b) a).bind λd=>
(ZfS c (d.length:Int)).bind λe=>
if e then
some (.inl (Wq (a+1),()))
else
some (.inr false)
else
some (.inr true)
def ZbG (a:Ze):Option Bool:=
(Zch (Ze.Library a) (Ze.Design a)).bind λb=>
if b then
if ((Ze.QZ a).length:Int)=((Zc.YK (Ze.Design a)).length:Int) then
Zn (λv=>Zcg a v.1) ((0:Int),())
else
some false
else
some false
def c36:Ctr:=D1 (Yz) (.bool) ZbG
def ZaH (c:Int) (a:List YE) (b:Int):Option ((Int×Unit) ⊕ Int):=
if b<(a.length:Int) then
(atI a b).bind λd=>
if YE.net d=c then
if (YE.drives d)=true then
some (.inr b)
else
some (.inl (Wq (b+1),()))
else
some (.inl (Wq (b+1),()))
else
some (.inr (-1))
def Zdb (c:Zc) (a:Int):Option Int:=
(Vt c).bind λb=>
Zn (λv=>ZaH a b v.1) ((0:Int),())
def c37:Ctr:=D2 (YJ) Iq Iq Zdb
def ZhH (e:Zt) (b:Zc) (a:Int):Option (YE×Bool):=
(Zch e b).bind λg=>
if g then
(Vt b).bind λc=>
(YB a 0 (Wq ((c.length:Int)-1))).bind λd=>
if d then
(atI c a).bind λf=>
some (f,true)
else
some ((0,0,0,false,()),false)
else
some ((0,0,0,false,()),false)
def c38:Ctr:=⟨[.dat (YL),.dat (YJ),.dat Iq],[.dat (Zdu),.dat (.bool)],λa K=>Zv a λd a=>Zv a λc a=>Zv a λb a=>YX (ZhH d c b) λr=>K (r.1,r.2,()) ()⟩
def J5 (a:Ze) (b:Int):Option Int:=
(Zdb (Ze.Design a) b).bind λe=>
(ZhH (Ze.Library a) (Ze.Design a) e).bind λc=>
if c.1.1<0 then
some (-1)
else
(atI (Zc.Instances (Ze.Design a)) c.1.1).bind λd=>
(atI (Zt.Cells (Ze.Library a)) (Zd.Cell d)).bind λf=>
if Zm.Kind f=1 then
some c.1.1
else
some (-1)
def c39:Ctr:=D2 (Yz) Iq Iq J5
def Jv (c:Ze) (a:Int):Option (List Int):=
(atI (Zc.Instances (Ze.Design c)) a).bind λb=>
Zu ((0:Int)<=Wq (((Zd.YK b).length:Int)-1))<|
Zu (Wq (((Zd.YK b).length:Int)-1)<=((Zd.YK b).length:Int))<|
some (List.take (Int.toNat (Wq (((Zd.YK b).length:Int)-1))-Int.toNat 0) (List.drop (Int.toNat 0) (Zd.YK b)))
def c40:Ctr:=D2 (Yz) Iq (.sl Iq) Jv
def QB (g:Bool) (c:Int) (b a:List Int) (d f:Int):Option ((Int×Int×Unit) ⊕ ((Bool×Int×(List Int)×Unit) ⊕ ((Int×(List Int)×Unit) ⊕ ((List Int)×Bool)))):=
if f<(a.length:Int) then
(atI a f).bind λe=>
(atI b e).bind λh=>
some (.inl (Max.max d h,Wq (f+1),()))
else
(atI b c).bind λe=>
if e=Wq (d+1) then
some (.inr (.inl (g,Wq (c+1),b,())))
else
some (.inr (.inl (true,Wq (c+1),List.set b (Int.toNat c) (Wq (d+1)),())))
def Vy (d:Ze) (f:Int) (c:Bool) (b:Int) (a:List Int):Option ((Bool×Int×(List Int)×Unit) ⊕ ((Int×(List Int)×Unit) ⊕ ((List Int)×Bool))):=
if b<((Zc.YK (Ze.Design d)).length:Int) then
(J5 d b).bind λe=>
if e<0 then
some (.inl (c,Wq (b+1),a,()))
else
(Jv d e).bind λg=>
Zn (λv=>QB c b a g v.1 v.2.1) ((0:Int),(0:Int),())
else
if c then
some (.inr (.inl (Wq (f+1),a,())))
else
some (.inr (.inr (a,true)))
def Vz (b:Ze) (a:Int) (c:List Int):Option ((Int×(List Int)×Unit) ⊕ ((List Int)×Bool)):=
if a<=((Zc.YK (Ze.Design b)).length:Int) then
Zn (λv=>Vy b a v.1 v.2.1 v.2.2.1) (false,(0:Int),c,())
else
some (.inr (([]:List Int),false))
def Zdc (a:Ze):Option ((List Int)×Bool):=
Zu ((0:Int)<=((Zc.YK (Ze.Design a)).length:Int))<|
Zu (((Zc.YK (Ze.Design a)).length:Int)<=((Zc.YK (Ze.Design a)).length:Int))<|
Zu (((Zc.YK (Ze.Design a)).length:Int)<=4611686018427387904)<|
Zu (((8:Nat):Int)*((Zc.YK (Ze.Design a)).length:Int)<=281474976710656)<|
Zn (λv=>Vz a v.1 v.2.1) ((0:Int),List.replicate (Int.toNat ((Zc.YK (Ze.Design a)).length:Int)) (0:Int),())
def c41:Ctr:=⟨[.dat (Yz)],[.own (.ol 2 (.flat Iq)),.dat (.bool)],λa K=>Zv a λb a=>YX (Zdc b) λr=>K (r.1,r.2,()) ()⟩
def Zda (a:Ze):Option Bool:=
(ZbG a).bind λb=>
if b then
(Zdc a).bind λc=>
some c.2
else
some false
def c42:Ctr:=D1 (Yz) (.bool) Zda
def Zds (a:Ze):Option Int:=
(ZbG a).bind λb=>
if b then
(Zda a).bind λc=>
if c then
some 0
else
some 7
else
some 1
def c43:Ctr:=D1 (Yz) Iq Zds
def J7 (c:Ze) (b:List Int) (a:Int):Option (((List Int)×Int×Unit) ⊕ List Int):=
if a<((Zc.YK (Ze.Design c)).length:Int) then
(J5 c a).bind λd=>
if d<0 then
Zu ((b.length+[a].length)*8<=140737488355328)<|
some (.inl (b++[a],Wq (a+1),()))
else
some (.inl (b,Wq (a+1),()))
else
some (.inr b)
def J6 (a:Ze):Option (List Int):=
Zn (λv=>J7 a v.1 v.2.1) (([]:List Int),(0:Int),())
def c44:Ctr:=⟨[.dat (Yz)],[.own (.ol 2 (.flat Iq))],λa K=>Zv a λb a=>YX (J6 b) λr=>K (r,()) ()⟩
def ZEv (b:Ze):Option ((List Int)×Int):=
(Zds b).bind λa=>
if a=0 then
(J6 b).bind λc=>
some (c,0)
else
some ([],a)
def c45:Ctr:=⟨[.dat (Yz)],[.own (.ol 2 (.flat Iq)),.dat Iq],λa K=>Zv a λb a=>YX (ZEv b) λr=>K (r.1,r.2,()) ()⟩
def Zkw (b a:Int):Option ((Int×Int×Unit) ⊕ Int):=
if a=0 then
some (.inr b)
else
Zu (a≠0)<|
some (.inl (a,Int.tmod b a,()))
def ZiO (b a:Int):Option Int:=
Zn (λv=>Zkw v.1 v.2.1) (b,a,())
def c46:Ctr:=D2 Iq Iq Iq ZiO
def ZEI (b a:Int):Option (ZH×Bool):=
(ZiO a b).bind λc=>
Zu (c≠0)<|
if 1000000<Wq (Int.tdiv a c) then
some ((0,0,()),false)
else
some ((Wq (Int.tdiv b c),Wq (Int.tdiv a c),()),true)
def c47:Ctr:=⟨[.dat Iq,.dat Iq],[.dat (ZaU),.dat (.bool)],λa K=>Zv a λb a=>Zv a λc a=>YX (ZEI b c) λr=>K (r.1,r.2,()) ()⟩
def ZEj (c:List Int×Int) (a:List Zg) (k:Int) (i:List Int) (j h:Int):Option (((List Zg)×Int×(List Int)×Int×Int×Unit) ⊕ ((List Zg)×ZdR)):=
if k<(c.1.length:Int) then
if c.2=0 then
(ZDX (i,j,h,()) 6).bind λf=>
(ZDX f.2 (Wq (Wq (1+f.1)+1))).bind λb=>
(ZEI b.1 (Wq (1+f.1))).bind λl=>
(ZDX b.2 2).bind λg=>
if g.1=0 then
(ZDX g.2 60).bind λd=>
Zu ((a.length+[(((1:Int),(2:Int),()),d.1,())].length)*24<=140737488355328)<|
some (.inl (a++[(((1:Int),(2:Int),()),d.1,())],Wq (k+1),d.2.1,d.2.2.1,d.2.2.2.1,()))
else
(ZDX g.2 60).bind λd=>
Zu ((a.length+[(l.1,d.1,())].length)*24<=140737488355328)<|
some (.inl (a++[(l.1,d.1,())],Wq (k+1),d.2.1,d.2.2.1,d.2.2.2.1,()))
else
if (a.length:Int)=0 then
some (.inr (a,(i,j,h,())))
else
(ZDX (i,j,h,()) 16).bind λf=>
if f.1=0 then
(ZDX f.2 4).bind λb=>
if b.1=0 then
Zu ((1:Int)<=(a.length:Int))<|
Zu ((a.length:Int)<=(a.length:Int))<|
some (.inr (List.take (Int.toNat (a.length:Int)-Int.toNat 1) (List.drop (Int.toNat 1) a),b.2))
else
if b.1=1 then
(atI a 0).bind λe=>
some (.inr (List.set a (Int.toNat 0) ((2,4,()),e.2),b.2))
else
if b.1=2 then
(atI a 0).bind λe=>
some (.inr (List.set a (Int.toNat 0) ((1,11,()),e.2),b.2))
else
(ZDX b.2 2).bind λg=>
(atI a 0).bind λe=>
some (.inr (List.set a (Int.toNat 0) (Zg.High e,Wq (Wq (1002*g.1)-1),()),g.2))
else
some (.inr (a,f.2))
else
if (a.length:Int)=0 then
some (.inr (a,(i,j,h,())))
else
(ZDX (i,j,h,()) 16).bind λf=>
if f.1=0 then
(ZDX f.2 4).bind λb=>
if b.1=0 then
Zu ((1:Int)<=(a.length:Int))<|
Zu ((a.length:Int)<=(a.length:Int))<|
some (.inr (List.take (Int.toNat (a.length:Int)-Int.toNat 1) (List.drop (Int.toNat 1) a),b.2))
else
if b.1=1 then
(atI a 0).bind λe=>
some (.inr (List.set a (Int.toNat 0) ((2,4,()),e.2),b.2))
else
if b.1=2 then
(atI a 0).bind λe=>
some (.inr (List.set a (Int.toNat 0) ((1,11,()),e.2),b.2))
else
(ZDX b.2 2).bind λg=>
(atI a 0).bind λe=>
some (.inr (List.set a (Int.toNat 0) (Zg.High e,Wq (Wq (1002*g.1)-1),()),g.2))
else
some (.inr (a,f.2))
def ZEr (a:ZdR) (c:Ze):Option ((List Zg)×ZdR):=
(ZEv c).bind λb=>
Zn (λv=>ZEj b v.1 v.2.1 v.2.2.1 v.2.2.2.1 v.2.2.2.2.1) (([]:List (ZH×Int×Unit)),(0:Int),ZdR.code a,ZdR.at a,ZdR.seed a,())
def c48:Ctr:=⟨[.io (.flat (ZsM)),.dat (Yz)],[.dat (.sl (Zy))],λa K=>Zv a λc a=>Zv a λb a=>YX (ZEr c b) λr=>K (r.1,()) (r.2,())⟩
def ZEn (a:List Int):Option (Ze×(List Zg)):=
(ZEK a).bind λc=>
(ZEQ c).bind λb=>
(ZEr b.2 b.1).bind λd=>
some (b.1,d.1)
def c49:Ctr:=⟨[.dat (.sl (.int .u8))],[.dat (Yz),.dat (.sl (Zy))],λa K=>Zv a λb a=>YX (ZEn b) λr=>K (r.1,r.2,()) ()⟩
def ZEe (a:List Int):Option (Ze×(List Zg)):=
(ZEn a).bind λb=>
some (b.1,b.2)
def c50:Ctr:=⟨[.dat (.sl (.int .u8))],[.dat (Yz),.dat (.sl (Zy))],λa K=>Zv a λb a=>YX (ZEe b) λr=>K (r.1,r.2,()) ()⟩
def YN (c b a:Int):Option Bool:=
if b<=c then
some (decide (c<=a))
else
some false
def c51:Ctr:=D3 Iq Iq Iq (.bool) YN
def Zd8 (a:List UInt8):Option Bool:=
(YN (a.length:Int) 1 8).bind λb=>
if b then
Zu (a.length<=1000000)<|
if Go.Lib.trimS a [(97:UInt8),98,99,100,101,102,103,104,105,106,107,108,109,110,111,112,113,114,115,116,117,118,119,120,121,122,48,49,50,51,52,53,54,55,56,57]=([]:List UInt8) then
(atI a 0).bind λc=>
some (decide ((0:Int)<=Go.Lib.indexByte [(97:UInt8),98,99,100,101,102,103,104,105,106,107,108,109,110,111,112,113,114,115,116,117,118,119,120,121,122] (Nat.toUInt8 (Int.toNat ((UInt8.toNat c):Int)))))
else
some false
else
some false
def c52:Ctr:=D1 (.str) (.bool) Zd8
def Vw (a:List YG):Option Int:=
some (a.length:Int)
def c53:Ctr:=D1 (.sl (Zdh)) Iq Vw
def XO (b:List (List UInt8)) (d:List UInt8) (a:Int):Option ((Int×Unit) ⊕ Int):=
if a<(b.length:Int) then
(atI b a).bind λc=>
if d=c then
some (.inr a)
else
some (.inl (Wq (a+1),()))
else
some (.inr (-1))
def XM (a:List (List UInt8)) (b:List UInt8):Option Int:=
Zn (λv=>XO a b v.1) ((0:Int),())
def c54:Ctr:=D2 (.sl (.str)) (.str) Iq XM
def Xl (b:List (List UInt8)) (c:List UInt8):Option Bool:=
(XM b c).bind λa=>
some (decide (0<=a))
def c55:Ctr:=D2 (.sl (.str)) (.str) (.bool) Xl
def Zbe (a:List (List UInt8)) (b:Int):Option ((Int×Unit) ⊕ Bool):=
if b<(a.length:Int) then
(atI a b).bind λc=>
(Zd8 c).bind λd=>
if d then
Zu ((0:Int)<=b)<|
Zu (b<=(a.length:Int))<|
(Xl (List.take (Int.toNat b-Int.toNat 0) (List.drop (Int.toNat 0) a)) c).bind λe=>
if e then
some (.inr false)
else
some (.inl (Wq (b+1),()))
else
some (.inr false)
else
some (.inr true)
def Vg (a:List (List UInt8)):Option Bool:=
Zn (λv=>Zbe a v.1) ((0:Int),())
def c56:Ctr:=D1 (.sl (.str)) (.bool) Vg
def Vh (b:List YG) (a:List (List UInt8)) (d:Int):Option (((List (List UInt8))×Int×Unit) ⊕ Bool):=
if d<(b.length:Int) then
(atI b d).bind λc=>
Zu ((a.length+[YG.Name c].length)*16<=140737488355328)<|
if d=Wq ((b.length:Int)-1) then
if YG.Dir c=2 then
if YG.Cap c=0 then
if (YG.Clock c)=true then
some (.inr false)
else
some (.inl (a++[YG.Name c],Wq (d+1),()))
else
some (.inr false)
else
some (.inr false)
else
if YG.Dir c=1 then
(YN (YG.Cap c) 0 500).bind λe=>
if e then
some (.inl (a++[YG.Name c],Wq (d+1),()))
else
some (.inr false)
else
some (.inr false)
else
(Vw b).bind λg=>
(YN g 2 5).bind λe=>
if e then
(Vg a).bind λf=>
some (.inr f)
else
some (.inr false)
def Zey (a:List YG):Option Bool:=
Zn (λv=>Vh a v.1 v.2.1) (([]:List (List UInt8)),(0:Int),())
def c57:Ctr:=D1 (.sl (Zdh)) (.bool) Zey
def Zez (a:Int):Option Bool:=
if a=4 then
some true
else
some (decide (a=5))
def c58:Ctr:=D1 Iq (.bool) Zez
def Y3 (a:List Int):Option Int:=
some (a.length:Int)
def c59:Ctr:=D1 (.sl Iq) Iq Y3
def ZcB (b d c:Int):Option Bool:=
(YN b d c).bind λa=>
some !a
def c60:Ctr:=D3 Iq (.ptr Iq) (.ptr Iq) (.bool) ZcB
def Yw (c:List Int) (b:Int×Int×Unit) (a:Int):Option ((Int×Unit) ⊕ Int):=
if a<(c.length:Int) then
(atI c a).bind λd=>
(ZcB d b.1 b.2.1).bind λe=>
if e then
some (.inr a)
else
some (.inl (Wq (a+1),()))
else
some (.inr (-1))
def Yn (a:List Int) (b:Int×Int×Unit):Option Int:=
Zn (λv=>Yw a b v.1) ((0:Int),())
def c61:Ctr:=D2 (.sl Iq) (.fn 125 (.pair (.ptr Iq) (.pair (.ptr Iq) (.unit)))) Iq Yn
def YD (b:List Int) (c:Int×Int×Unit):Option Bool:=
(Yn b c).bind λa=>
some (decide (0<=a))
def c62:Ctr:=D2 (.sl Iq) (.fn 125 (.pair (.ptr Iq) (.pair (.ptr Iq) (.unit)))) (.bool) YD
def Xp (a:List Int) (c b:Int):Option Bool:=
(YD a (c,b,())).bind λd=>
some !d
def c63:Ctr:=D3 (.sl Iq) Iq Iq (.bool) Xp
def XJ (a:List Int) (b:Int):Option ((Int×Unit) ⊕ Bool):=
if b<(a.length:Int) then
(atI a (Wq (b-1))).bind λd=>
(atI a b).bind λc=>
if c<=d then
some (.inr false)
else
some (.inl (Wq (b+1),()))
else
some (.inr true)
def Zak (a:List Int):Option Bool:=
Zn (λv=>XJ a v.1) ((1:Int),())
def c64:Ctr:=D1 (.sl Iq) (.bool) Zak
def Zd7 (a:List Int):Option Bool:=
(Y3 a).bind λc=>
(YN c 1 4).bind λe=>
if e then
(Xp a 0 100000).bind λb=>
if b then
(Zak a).bind λd=>
some d
else
some false
else
some false
def c65:Ctr:=D1 (.sl Iq) (.bool) Zd7
def Zex (a:ZE):Option Bool:=
(Zd7 (ZE.ZhJ a)).bind λb=>
if b then
(Zd7 (ZE.Loads a)).bind λd=>
if d then
if ((ZE.Values a).length:Int)=Wq (((ZE.ZhJ a).length:Int)*((ZE.Loads a).length:Int)) then
(Xp (ZE.Values a) (-1000000) 1000000).bind λc=>
some c
else
some false
else
some false
else
some false
def c66:Ctr:=D1 (YV) (.bool) Zex
def Qu (b:List Int) (c a:Int):Option ((Int×Int×Unit) ⊕ Int):=
if a<(b.length:Int) then
(atI b a).bind λd=>
some (.inl (Min.min c d,Wq (a+1),()))
else
some (.inr c)
def QH (a:List Int):Option Int:=
if (a.length:Int)<1 then
none
else
(atI a 0).bind λb=>
Zn (λv=>Qu a v.1 v.2.1) (b,(1:Int),())
def c67:Ctr:=D1 (.sl Iq) Iq QH
def QK (a:ZE) (c:Bool):Option Bool:=
(Zex a).bind λb=>
if b then
if c then
(QH (ZE.Values a)).bind λd=>
some (decide (d<0))
else
some false
else
some true
def c68:Ctr:=D2 (YV) (.ptr (.bool)) (.bool) QK
def Yd (b:List ZE) (d:Bool×Unit) (a:Int):Option ((Int×Unit) ⊕ Int):=
if a<(b.length:Int) then
(atI b a).bind λc=>
(QK c d.1).bind λe=>
if e then
some (.inr a)
else
some (.inl (Wq (a+1),()))
else
some (.inr (-1))
def Z0 (a:List ZE) (b:Bool×Unit):Option Int:=
Zn (λv=>Yd a b v.1) ((0:Int),())
def c69:Ctr:=D2 (.sl (YV)) (.fn 291 (.pair (.ptr (.bool)) (.unit))) Iq Z0
def ZT (b:List ZE) (c:Bool×Unit):Option Bool:=
(Z0 b c).bind λa=>
some (decide (0<=a))
def c70:Ctr:=D2 (.sl (YV)) (.fn 291 (.pair (.ptr (.bool)) (.unit))) (.bool) ZT
def Jr (b:List ZE) (a:Bool):Option Bool:=
if (b.length:Int)=2 then
(ZT b (a,())).bind λc=>
some !c
else
some false
def c71:Ctr:=D2 (.sl (YV)) (.bool) (.bool) Jr
def ZbX (a:YG):Option Bool:=
some (YG.Clock a)
def c72:Ctr:=D1 (Zdh) (.bool) ZbX
def Yj (b:List YG) (a:Int):Option ((Int×Unit) ⊕ Int):=
if a<(b.length:Int) then
(atI b a).bind λd=>
(ZbX d).bind λc=>
if c then
some (.inr a)
else
some (.inl (Wq (a+1),()))
else
some (.inr (-1))
def Z9 (a:List YG) (b:Unit):Option Int:=
Zn (λv=>Yj a v.1) ((0:Int),())
def c73:Ctr:=D2 (.sl (Zdh)) (.fn 295 (.unit)) Iq Z9
def ZbW (b:Zm):Option Int:=
(Z9 (Zm.YR b) ()).bind λa=>
some a
def c74:Ctr:=D1 (Qk) Iq ZbW
def Jl (b:Zm):Option Int:=
(Vw (Zm.YR b)).bind λa=>
some (Wq (a-1))
def c75:Ctr:=D1 (Qk) Iq Jl
def VF (c:Zm) (a:Int):Option Bool:=
(Jl c).bind λb=>
(YN a 0 (Wq (b-1))).bind λd=>
some d
def c76:Ctr:=D2 (Qk) Iq (.bool) VF
def ZbY (b:Zm) (a:ZQ):Option Bool:=
(Zez (ZQ.Kind a)).bind λj=>
if j then
if ZQ.Zcu a=0 then
if ((ZQ.ZiV a).length:Int)=0 then
(Jr (ZQ.Delay a) false).bind λe=>
if e then
(ZbW b).bind λf=>
if ZQ.From a=f then
if 0<=ZQ.From a then
(VF b (ZQ.To a)).bind λd=>
if d then
some (!decide (ZQ.To a=ZQ.From a))
else
some false
else
some false
else
some false
else
some false
else
some false
else
some false
else
(Jr (ZQ.Delay a) true).bind λe=>
if e then
(Jr (ZQ.ZiV a) true).bind λg=>
if g then
(Jl b).bind λi=>
if ZQ.To a=i then
(VF b (ZQ.From a)).bind λd=>
if d then
if ZQ.Kind a=1 then
(atI (Zm.YR b) (ZQ.From a)).bind λc=>
if (YG.Clock c)=true then
some false
else
(YN (ZQ.Zcu a) 1 3).bind λh=>
some h
else
if ZQ.Kind a=2 then
if ZQ.Kind a=2 then
(atI (Zm.YR b) (ZQ.From a)).bind λc=>
if (YG.Clock c)=true then
some (decide (ZQ.Zcu a=0))
else
some false
else
some false
else
if ZQ.Kind a=3 then
(atI (Zm.YR b) (ZQ.From a)).bind λc=>
if (YG.Clock c)=true then
some (decide (ZQ.Zcu a=0))
else
some false
else
some false
else
some false
else
some false
else
some false
else
some false
def c77:Ctr:=D2 (Qk) (ZdW) (.bool) ZbY
def XR (a b:ZQ):Option Bool:=
if ZQ.Kind a=ZQ.Kind b then
if ZQ.From a=ZQ.From b then
some (decide (ZQ.To a=ZQ.To b))
else
some false
else
some false
def c78:Ctr:=D2 (ZdW) (.ptr (ZdW)) (.bool) XR
def Yf (b:List ZQ) (d:ZQ×Unit) (a:Int):Option ((Int×Unit) ⊕ Int):=
if a<(b.length:Int) then
(atI b a).bind λc=>
(XR c d.1).bind λe=>
if e then
some (.inr a)
else
some (.inl (Wq (a+1),()))
else
some (.inr (-1))
def Z4 (a:List ZQ) (b:ZQ×Unit):Option Int:=
Zn (λv=>Yf a b v.1) ((0:Int),())
def c79:Ctr:=D2 (.sl (ZdW)) (.fn 260 (.pair (.ptr (ZdW)) (.unit))) Iq Z4
def ZX (b:List ZQ) (c:ZQ×Unit):Option Bool:=
(Z4 b c).bind λa=>
some (decide (0<=a))
def c80:Ctr:=D2 (.sl (ZdW)) (.fn 260 (.pair (.ptr (ZdW)) (.unit))) (.bool) ZX
def V5 (a:Zm) (b:Int):Option ((Int×Unit) ⊕ Bool):=
if b<((Zm.ZaN a).length:Int) then
(atI (Zm.ZaN a) b).bind λc=>
(ZbY a c).bind λd=>
if d then
Zu ((0:Int)<=b)<|
Zu (b<=((Zm.ZaN a).length:Int))<|
(ZX (List.take (Int.toNat b-Int.toNat 0) (List.drop (Int.toNat 0) (Zm.ZaN a))) (c,())).bind λe=>
if e then
some (.inr false)
else
some (.inl (Wq (b+1),()))
else
some (.inr false)
else
some (.inr (decide (((Zm.ZaN a).length:Int)<=8)))
def Zag (a:Zm):Option Bool:=
Zn (λv=>V5 a v.1) ((0:Int),())
def c81:Ctr:=D1 (Qk) (.bool) Zag
def ZaX (b:ZQ) (a:Int):Option Bool:=
some (decide (ZQ.Kind b=a))
def c82:Ctr:=D2 (ZdW) (.ptr Iq) (.bool) ZaX
def Yo (b:List ZQ) (d:Int×Unit) (a:Int):Option ((Int×Unit) ⊕ Int):=
if a<(b.length:Int) then
(atI b a).bind λc=>
(ZaX c d.1).bind λe=>
if e then
some (.inr a)
else
some (.inl (Wq (a+1),()))
else
some (.inr (-1))
def Yb (a:List ZQ) (b:Int×Unit):Option Int:=
Zn (λv=>Yo a b v.1) ((0:Int),())
def c83:Ctr:=D2 (.sl (ZdW)) (.fn 282 (.pair (.ptr Iq) (.unit))) Iq Yb
def Z5 (b:List ZQ) (c:Int×Unit):Option Bool:=
(Yb b c).bind λa=>
some (decide (0<=a))
def c84:Ctr:=D2 (.sl (ZdW)) (.fn 282 (.pair (.ptr Iq) (.unit))) (.bool) Z5
def QD (c:Zm) (a:Int):Option Bool:=
(Z5 (Zm.ZaN c) (a,())).bind λb=>
some b
def c85:Ctr:=D2 (Qk) Iq (.bool) QD
def XA (a:Zm) (b c:Int):Option ((Int×Int×Unit) ⊕ Bool):=
if c<((Zm.YR a).length:Int) then
(atI (Zm.YR a) c).bind λi=>
if (YG.Clock i)=true then
some (.inl (Wq (b+1),Wq (c+1),()))
else
some (.inl (b,Wq (c+1),()))
else
if Zm.Kind a=1 then
if b=0 then
(Jl a).bind λg=>
Zu ((0:Int)<=g)<|
if ((Zm.Truth a).length:Int)=Wq (1*2 ^ Min.min (Int.toNat g) (IntKind.bits IntKind.i64)) then
(Xp (Zm.Truth a) 0 1).bind λh=>
some (.inr h)
else
some (.inr false)
else
some (.inr false)
else
if Zm.Kind a=2 then
if b=1 then
if ((Zm.Truth a).length:Int)=0 then
(QD a 1).bind λd=>
if d then
some (.inr false)
else
(QD a 2).bind λf=>
(QD a 3).bind λe=>
some (.inr (!f == e))
else
some (.inr false)
else
some (.inr false)
else
if Zm.Kind a=3 then
if b=1 then
if ((Zm.Truth a).length:Int)=0 then
(QD a 1).bind λd=>
if d then
(QD a 2).bind λf=>
if f then
(QD a 3).bind λe=>
some (.inr !e)
else
some (.inr false)
else
some (.inr false)
else
some (.inr false)
else
some (.inr false)
else
some (.inr false)
def JA (a:Zm):Option Bool:=
Zn (λv=>XA a v.1 v.2.1) ((0:Int),(0:Int),())
def c86:Ctr:=D1 (Qk) (.bool) JA
def Zfw (a:Zm):Option Bool:=
(Zd8 (Zm.Name a)).bind λg=>
if g then
(Zey (Zm.YR a)).bind λf=>
if f then
(Zag a).bind λb=>
if b then
(YN (Zm.ZuT a) 0 100000).bind λd=>
if d then
(YN (Zm.ZhS a) 0 100000).bind λc=>
if c then
(JA a).bind λe=>
some e
else
some false
else
some false
else
some false
else
some false
else
some false
def c87:Ctr:=D1 (Qk) (.bool) Zfw
def Qw (b:Zt) (a:List (List UInt8)) (d:Int):Option (((List (List UInt8))×Int×Unit) ⊕ Bool):=
if d<((Zt.Cells b).length:Int) then
(atI (Zt.Cells b) d).bind λc=>
(Zfw c).bind λe=>
if e then
Zu ((a.length+[Zm.Name c].length)*16<=140737488355328)<|
some (.inl (a++[Zm.Name c],Wq (d+1),()))
else
some (.inr false)
else
if ((Zt.Cells b).length:Int)<=8 then
(Vg a).bind λf=>
some (.inr f)
else
some (.inr false)
def ZcY (a:Zt):Option Bool:=
Zn (λv=>Qw a v.1 v.2.1) (([]:List (List UInt8)),(0:Int),())
def c88:Ctr:=D1 (YL) (.bool) ZcY
def Q6 (c:Zc) (b a:List (List UInt8)) (d:Int):Option (((List (List UInt8))×Int×Unit) ⊕ (((List (List UInt8))×Int×Unit) ⊕ Bool)):=
if d<((Zc.Xi c).length:Int) then
(atI (Zc.Xi c) d).bind λe=>
Zu ((a.length+[Z8.Name e].length)*16<=140737488355328)<|
some (.inl (a++[Z8.Name e],Wq (d+1),()))
else
if (b.length:Int)<=14 then
if ((Zc.YK c).length:Int)<=30 then
if (a.length:Int)<=8 then
(Vg b).bind λg=>
if g then
(Vg (Zc.YK c)).bind λh=>
if h then
(Vg a).bind λf=>
some (.inr (.inr f))
else
some (.inr (.inr false))
else
some (.inr (.inr false))
else
some (.inr (.inr false))
else
some (.inr (.inr false))
else
some (.inr (.inr false))
def Q7 (b:Zc) (a:List (List UInt8)) (c:Int):Option (((List (List UInt8))×Int×Unit) ⊕ Bool):=
if c<((Zc.Instances b).length:Int) then
(atI (Zc.Instances b) c).bind λd=>
Zu ((a.length+[Zd.Name d].length)*16<=140737488355328)<|
some (.inl (a++[Zd.Name d],Wq (c+1),()))
else
Zn (λv=>Q6 b a v.1 v.2.1) (([]:List (List UInt8)),(0:Int),())
def Vv (a:Zc):Option Bool:=
Zn (λv=>Q7 a v.1 v.2.1) (([]:List (List UInt8)),(0:Int),())
def c89:Ctr:=D1 (YJ) (.bool) Vv
def JK (a:List Zm):Option Int:=
some (a.length:Int)
def c90:Ctr:=D1 (.sl (Qk)) Iq JK
def Zb1 (a:List (List UInt8)):Option Int:=
some (a.length:Int)
def c91:Ctr:=D1 (.sl (.str)) Iq Zb1
def X7 (c:Zc) (a:Int):Option Bool:=
(Zb1 (Zc.YK c)).bind λb=>
(YN a 0 (Wq (b-1))).bind λd=>
some d
def c92:Ctr:=D2 (YJ) Iq (.bool) X7
def Xo (a:Int) (c:Zc):Option Bool:=
(X7 c a).bind λb=>
some !b
def c93:Ctr:=D2 Iq (.ptr (YJ)) (.bool) Xo
def Yh (b:List Int) (d:Zc×Unit) (a:Int):Option ((Int×Unit) ⊕ Int):=
if a<(b.length:Int) then
(atI b a).bind λc=>
(Xo c d.1).bind λe=>
if e then
some (.inr a)
else
some (.inl (Wq (a+1),()))
else
some (.inr (-1))
def Z6 (a:List Int) (b:Zc×Unit):Option Int:=
Zn (λv=>Yh a b v.1) ((0:Int),())
def c94:Ctr:=D2 (.sl Iq) (.fn 217 (.pair (.ptr (YJ)) (.unit))) Iq Z6
def ZY (b:List Int) (c:Zc×Unit):Option Bool:=
(Z6 b c).bind λa=>
some (decide (0<=a))
def c95:Ctr:=D2 (.sl Iq) (.fn 217 (.pair (.ptr (YJ)) (.unit))) (.bool) ZY
def QU (e:Zc) (b:Zt) (a:Zd):Option Bool:=
(JK (Zt.Cells b)).bind λd=>
(YN (Zd.Cell a) 0 (Wq (d-1))).bind λg=>
if g then
(atI (Zt.Cells b) (Zd.Cell a)).bind λf=>
if ((Zd.YK a).length:Int)=((Zm.YR f).length:Int) then
(ZY (Zd.YK a) (e,())).bind λc=>
some !c
else
some false
else
some false
def c96:Ctr:=D3 (YJ) (YL) (Yg) (.bool) QU
def ZaZ (a:Int):Option Bool:=
some (!decide (a=1))
def c97:Ctr:=D1 Iq (.bool) ZaZ
def YH (b:List Int) (a:Int):Option ((Int×Unit) ⊕ Int):=
if a<(b.length:Int) then
(atI b a).bind λd=>
(ZaZ d).bind λc=>
if c then
some (.inr a)
else
some (.inl (Wq (a+1),()))
else
some (.inr (-1))
def Yy (a:List Int) (b:Unit):Option Int:=
Zn (λv=>YH a v.1) ((0:Int),())
def c98:Ctr:=D2 (.sl Iq) (.fn 170 (.unit)) Iq Yy
def Yq (b:List Int) (c:Unit):Option Bool:=
(Yy b ()).bind λa=>
some (decide (0<=a))
def c99:Ctr:=D2 (.sl Iq) (.fn 170 (.unit)) (.bool) Yq
def QL (d:Zc) (c:Int) (b:List Int):Option ((Int×(List Int)×Unit) ⊕ ((Int×(List Int)×Unit) ⊕ Bool)):=
if c<((Zc.Xi d).length:Int) then
(atI (Zc.Xi d) c).bind λa=>
if Z8.Dir a=1 then
(X7 d (Z8.Net a)).bind λe=>
if e then
if Z8.Dir a=1 then
(atI b (Z8.Net a)).bind λf=>
some (.inl (Wq (c+1),List.set b (Int.toNat (Z8.Net a)) (Wq (f+1)),()))
else
some (.inl (Wq (c+1),b,()))
else
some (.inr (.inr false))
else
if Z8.Dir a=2 then
(X7 d (Z8.Net a)).bind λe=>
if e then
if Z8.Dir a=1 then
(atI b (Z8.Net a)).bind λf=>
some (.inl (Wq (c+1),List.set b (Int.toNat (Z8.Net a)) (Wq (f+1)),()))
else
some (.inl (Wq (c+1),b,()))
else
some (.inr (.inr false))
else
some (.inr (.inr false))
else
(Yq b ()).bind λg=>
some (.inr (.inr !g))
def V7 (f:Zt) (a:Zc) (d:Int) (b:List Int):Option ((Int×(List Int)×Unit) ⊕ Bool):=
if d<((Zc.Instances a).length:Int) then
(atI (Zc.Instances a) d).bind λc=>
(QU a f c).bind λh=>
if h then
(atI (Zd.YK c) (Wq (((Zd.YK c).length:Int)-1))).bind λe=>
(atI b e).bind λg=>
some (.inl (Wq (d+1),List.set b (Int.toNat e) (Wq (g+1)),()))
else
some (.inr false)
else
Zn (λv=>QL a v.1 v.2.1) ((0:Int),b,())
def ZdE (b:Zt) (a:Zc):Option Bool:=
(ZcY b).bind λc=>
if c then
(Vv a).bind λd=>
if d then
Zu ((0:Int)<=((Zc.YK a).length:Int))<|
Zu (((Zc.YK a).length:Int)<=((Zc.YK a).length:Int))<|
Zu (((Zc.YK a).length:Int)<=4611686018427387904)<|
Zu (((8:Nat):Int)*((Zc.YK a).length:Int)<=281474976710656)<|
Zn (λv=>V7 b a v.1 v.2.1) ((0:Int),List.replicate (Int.toNat ((Zc.YK a).length:Int)) (0:Int),())
else
some false
else
some false
def ZzN:Ctr:=D2 (YL) (YJ) (.bool) ZdE
def VG (d:Int) (c:Zd) (a:List Qg) (b:Int):Option (((List Qg)×Int×Unit) ⊕ (((List Qg)×Int×Unit) ⊕ List Qg)):=
if b<((Zd.YK c).length:Int) then
(atI (Zd.YK c) b).bind λe=>
Zu ((a.length+[(d,b,e,decide (b=Wq (((Zd.YK c).length:Int)-1)),())].length)*32<=140737488355328)<|
some (.inl (a++[(d,b,e,decide (b=Wq (((Zd.YK c).length:Int)-1)),())],Wq (b+1),()))
else
some (.inr (.inl (a,Wq (d+1),())))
def VH (d:Zc) (a:List Qg) (b:Int):Option (((List Qg)×Int×Unit) ⊕ (((List Qg)×Int×Unit) ⊕ List Qg)):=
if b<((Zc.Xi d).length:Int) then
(atI (Zc.Xi d) b).bind λc=>
Zu ((a.length+[((-1:Int),b,Z8.Net c,decide (Z8.Dir c=1),())].length)*32<=140737488355328)<|
some (.inl (a++[((-1:Int),b,Z8.Net c,decide (Z8.Dir c=1),())],Wq (b+1),()))
else
some (.inr (.inr a))
def VI (b:Zc) (a:List Qg) (c:Int):Option (((List Qg)×Int×Unit) ⊕ List Qg):=
if c<((Zc.Instances b).length:Int) then
(atI (Zc.Instances b) c).bind λd=>
Zn (λv=>VG c d v.1 v.2.1) (a,(0:Int),())
else
Zn (λv=>VH b v.1 v.2.1) (a,(0:Int),())
def Qm (a:Zc):Option (List Qg):=
Zn (λv=>VI a v.1 v.2.1) (([]:List Qg),(0:Int),())
def ZzO:Ctr:=⟨[.dat (YJ)],[.own (.ol 196 (.flat (ZmR)))],λa K=>Zv a λb a=>YX (Qm b) λr=>K (r,()) ()⟩
def Jw (d:ZJ) (a:Int):Option ((Int×Unit) ⊕ Bool):=
if a<((ZJ.Parent d).length:Int) then
(atI (ZJ.Parent d) a).bind λb=>
if a=0 then
if b=(-1) then
(atI (ZJ.Res d) 0).bind λe=>
if e=0 then
if 0<a then
(YN b 0 (Wq (a-1))).bind λc=>
if c then
some (.inl (Wq (a+1),()))
else
some (.inr false)
else
some (.inl (Wq (a+1),()))
else
some (.inr false)
else
some (.inr false)
else
if 0<a then
(YN b 0 (Wq (a-1))).bind λc=>
if c then
some (.inl (Wq (a+1),()))
else
some (.inr false)
else
some (.inl (Wq (a+1),()))
else
some (.inr true)
def Za0 (a:ZJ):Option Bool:=
Zn (λv=>Jw a v.1) ((0:Int),())
def Zyp:Ctr:=D1 (Vu) (.bool) Za0
def Zfx (a:ZJ) (b:Int):Option Bool:=
(Y3 (ZJ.Parent a)).bind λc=>
(YN c 1 8).bind λj=>
if j then
(Y3 (ZJ.Res a)).bind λd=>
if d=c then
(Y3 (ZJ.Cap a)).bind λh=>
if h=c then
(Za0 a).bind λe=>
if e then
(Xp (ZJ.Res a) 0 1000).bind λi=>
if i then
(Xp (ZJ.Cap a) 0 500).bind λf=>
if f then
(Y3 (ZJ.Zkx a)).bind λk=>
if k=b then
(Xp (ZJ.Zkx a) 0 (Wq (c-1))).bind λg=>
some g
else
some false
else
some false
else
some false
else
some false
else
some false
else
some false
else
some false
def ZzP:Ctr:=D2 (Vu) Iq (.bool) Zfx
def ZbZ (b:Ze) (c:List Int) (a:Int):Option ((Int×Unit) ⊕ ((Int×(List Int)×Unit) ⊕ Bool)):=
if a<((Ze.QZ b).length:Int) then
(atI (Ze.QZ b) a).bind λd=>
(atI c a).bind λf=>
(Zfx d f).bind λe=>
if e then
some (.inl (Wq (a+1),()))
else
some (.inr (.inr false))
else
some (.inr (.inr true))
def JB (e:Ze) (a:List Qg) (c:Int) (b:List Int):Option ((Int×(List Int)×Unit) ⊕ Bool):=
if c<(a.length:Int) then
(atI a c).bind λd=>
if (Qg.drives d)=true then
some (.inl (Wq (c+1),b,()))
else
(atI b (Qg.net d)).bind λf=>
some (.inl (Wq (c+1),List.set b (Int.toNat (Qg.net d)) (Wq (f+1)),()))
else
Zn (λv=>ZbZ e b v.1) ((0:Int),())
def Zew (a:Ze):Option Bool:=
(ZdE (Ze.Library a) (Ze.Design a)).bind λb=>
if b then
if ((Ze.QZ a).length:Int)=((Zc.YK (Ze.Design a)).length:Int) then
Zu ((0:Int)<=((Ze.QZ a).length:Int))<|
Zu (((Ze.QZ a).length:Int)<=((Ze.QZ a).length:Int))<|
Zu (((Ze.QZ a).length:Int)<=4611686018427387904)<|
Zu (((8:Nat):Int)*((Ze.QZ a).length:Int)<=281474976710656)<|
(Qm (Ze.Design a)).bind λc=>
Zn (λv=>JB a c v.1 v.2.1) ((0:Int),List.replicate (Int.toNat ((Ze.QZ a).length:Int)) (0:Int),())
else
some false
else
some false
def ZzQ:Ctr:=D1 (Yz) (.bool) Zew
def VE (b:Ze) (a:Int):Option Zm:=
(atI (Zc.Instances (Ze.Design b)) a).bind λd=>
(atI (Zt.Cells (Ze.Library b)) (Zd.Cell d)).bind λc=>
some c
def c105:Ctr:=D2 (Yz) Iq (Qk) VE
def QN (a:Int) (b:List Int) (c:List Bool) (d:Zd) (e:Int):Option ((Int×Unit) ⊕ ((Int×(List Int)×(List Bool)×Unit) ⊕ (((List Int)×(List Bool)×Unit) ⊕ ((Int×(List Int)×Unit) ⊕ ((Int×(List Int)×Unit) ⊕ ((Option YA)×Bool)))))):=
if e<(((List.take (Int.toNat (Wq (((Zd.YK d).length:Int)-1))-Int.toNat 0) (List.drop (Int.toNat 0) (Zd.YK d))).length):Int) then
(atI (List.take (Int.toNat (Wq (((Zd.YK d).length:Int)-1))-Int.toNat 0) (List.drop (Int.toNat 0) (Zd.YK d))) e).bind λf=>
(atI c f).bind λg=>
if g then
some (.inl (Wq (e+1),()))
else
if 0<=e then
some (.inr (.inl (Wq (a+1),b,c,())))
else
Zu ((b.length+[a].length)*8<=140737488355328)<|
some (.inr (.inl (Wq (a+1),b++[a],List.set c (Int.toNat a) true,())))
else
if 0<=(-1) then
some (.inr (.inl (Wq (a+1),b,c,())))
else
Zu ((b.length+[a].length)*8<=140737488355328)<|
some (.inr (.inl (Wq (a+1),b++[a],List.set c (Int.toNat a) true,())))
def Jb (h:Ze) (g j:List Int) (b a:Int) (c:List Int) (d:List Bool):Option ((Int×(List Int)×(List Bool)×Unit) ⊕ (((List Int)×(List Bool)×Unit) ⊕ ((Int×(List Int)×Unit) ⊕ ((Int×(List Int)×Unit) ⊕ ((Option YA)×Bool))))):=
if a<b then
(atI d a).bind λi=>
if i then
some (.inl (Wq (a+1),c,d,()))
else
(atI g a).bind λf=>
if f<0 then
Zu ((c.length+[a].length)*8<=140737488355328)<|
some (.inl (Wq (a+1),c++[a],List.set d (Int.toNat a) true,()))
else
(atI (Zc.Instances (Ze.Design h)) f).bind λe=>
Zu ((0:Int)<=Wq (((Zd.YK e).length:Int)-1))<|
Zu (Wq (((Zd.YK e).length:Int)-1)<=((Zd.YK e).length:Int))<|
Zn (λv=>QN a c d e v.1) ((0:Int),())
else
if (c.length:Int)=(j.length:Int) then
some (.inr (.inr (.inr (.inr (Option.none,false)))))
else
some (.inr (.inl (c,d,())))
def Zbf (c:Ze) (a b:List Int) (e:List Bool):Option (((List Int)×(List Bool)×Unit) ⊕ ((Int×(List Int)×Unit) ⊕ ((Int×(List Int)×Unit) ⊕ ((Option YA)×Bool)))):=
if (b.length:Int)<(a.length:Int) then
(Y3 a).bind λd=>
Zn (λv=>Jb c a b d v.1 v.2.1 v.2.2.1) ((0:Int),b,e,())
else
some (.inr (.inr (.inr (Option.some (c,a,b,()),true))))
def QO (c:Ze) (b:Int) (a:List Int):Option ((Int×(List Int)×Unit) ⊕ ((Int×(List Int)×Unit) ⊕ ((Option YA)×Bool))):=
if b<((Zc.Instances (Ze.Design c)).length:Int) then
(atI (Zc.Instances (Ze.Design c)) b).bind λe=>
(VE c b).bind λf=>
if Zm.Kind f=1 then
(atI (Zd.YK e) (Wq (((Zd.YK e).length:Int)-1))).bind λd=>
(atI a d).bind λg=>
some (.inl (Wq (b+1),List.set a (Int.toNat d) b,()))
else
some (.inl (Wq (b+1),a,()))
else
Zu ((0:Int)<=(a.length:Int))<|
Zu ((a.length:Int)<=(a.length:Int))<|
Zu ((a.length:Int)<=4611686018427387904)<|
Zu (((1:Nat):Int)*(a.length:Int)<=281474976710656)<|
Zn (λv=>Zbf c a v.1 v.2.1) (([]:List Int),List.replicate (Int.toNat (a.length:Int)) false,())
def Zbg (c:Ze) (a:Int) (b:List Int):Option ((Int×(List Int)×Unit) ⊕ ((Option YA)×Bool)):=
if a<(((List.replicate (Int.toNat ((Ze.QZ c).length:Int)) (0:Int)).length):Int) then
(atI b a).bind λd=>
some (.inl (Wq (a+1),List.set b (Int.toNat a) (-1),()))
else
Zn (λv=>QO c v.1 v.2.1) ((0:Int),b,())
def ZdF (a:Ze):Option ((Option YA)×Bool):=
Zu ((0:Int)<=((Ze.QZ a).length:Int))<|
Zu (((Ze.QZ a).length:Int)<=((Ze.QZ a).length:Int))<|
Zu (((Ze.QZ a).length:Int)<=4611686018427387904)<|
Zu (((8:Nat):Int)*((Ze.QZ a).length:Int)<=281474976710656)<|
Zn (λv=>Zbg a v.1 v.2.1) ((0:Int),List.replicate (Int.toNat ((Ze.QZ a).length:Int)) (0:Int),())
def ZzR:Ctr:=⟨[.dat (Yz)],[.dat (.nptr (Zif)),.dat (.bool)],λa K=>Zv a λb a=>YX (ZdF b) λr=>K (r.1,r.2,()) ()⟩
def VW (c:Ze) (a:List Int):Option ((Option YA)×Int):=
(Zew c).bind λg=>
if g then
(ZdF c).bind λb=>
if b.2 then
(b.1).bind λd=>
(Y3 (YA.gate d)).bind λf=>
(Xp a 0 (Wq (f-1))).bind λe=>
if e then
some (b.1,0)
else
some (Option.none,2)
else
some (Option.none,7)
else
some (Option.none,1)
def c107:Ctr:=⟨[.dat (Yz),.dat (.sl Iq)],[.dat (.nptr (Zif)),.dat Iq],λa K=>Zv a λc a=>Zv a λb a=>YX (VW c b) λr=>K (r.1,r.2,()) ()⟩
def VL (c:YA) (a:List Int) (b:Int):Option (((List Int)×Int×Unit) ⊕ List Int):=
if b<((YA.gate c).length:Int) then
(atI (YA.gate c) b).bind λd=>
if d<0 then
Zu ((a.length+[b].length)*8<=140737488355328)<|
some (.inl (a++[b],Wq (b+1),()))
else
some (.inl (a,Wq (b+1),()))
else
some (.inr a)
def Vi (a:YA):Option (List Int):=
Zn (λv=>VL a v.1 v.2.1) (([]:List Int),(0:Int),())
def ZzS:Ctr:=⟨[.dat (.ptr (Zif))],[.own (.ol 2 (.flat Iq))],λa K=>Zv a λb a=>YX (Vi b) λr=>K (r,()) ()⟩
def Zm7 (b a:Int):Option ((Int×Int×Unit) ⊕ Int):=
if a=0 then
some (.inr b)
else
Zu (a≠0)<|
some (.inl (a,Int.tmod b a,()))
def Zop (b a:Int):Option Int:=
Zn (λv=>Zm7 v.1 v.2.1) (b,a,())
def c109:Ctr:=D2 Iq Iq Iq Zop
def Zb0 (a:ZH):Option Bool:=
(YN (ZH.Den a) 1 1000000).bind λb=>
if b then
(YN (ZH.Num a) 0 (ZH.Den a)).bind λd=>
if d then
(Zop (ZH.Num a) (ZH.Den a)).bind λc=>
some (decide (c=1))
else
some false
else
some false
def ZzT:Ctr:=D1 (ZaU) (.bool) Zb0
def YW (a:Zg):Option Bool:=
(Zb0 (Zg.High a)).bind λb=>
if b then
if 10<ZH.Den (Zg.High a) then
some true
else
(YN (Zg.Zaw a) 0 1000).bind λc=>
some !c
else
some true
def ZzU:Ctr:=D1 (Zy) (.bool) YW
def ZR (b:List Zg) (a:Int):Option ((Int×Unit) ⊕ Int):=
if a<(b.length:Int) then
(atI b a).bind λd=>
(YW d).bind λc=>
if c then
some (.inr a)
else
some (.inl (Wq (a+1),()))
else
some (.inr (-1))
def ZK (a:List Zg) (b:Unit):Option Int:=
Zn (λv=>ZR a v.1) ((0:Int),())
def ZzV:Ctr:=D2 (.sl (Zy)) (.fn 108 (.unit)) Iq ZK
def ZG (b:List Zg) (c:Unit):Option Bool:=
(ZK b ()).bind λa=>
some (decide (0<=a))
def ZzW:Ctr:=D2 (.sl (Zy)) (.fn 108 (.unit)) (.bool) ZG
def QE (c:YA) (a:List Zg):Option Bool:=
(Vi c).bind λb=>
if (a.length:Int)=(b.length:Int) then
(ZG a ()).bind λd=>
some !d
else
some false
def ZzX:Ctr:=D2 (.ptr (Zif)) (.sl (Zy)) (.bool) QE
def Zay (b:List Zg) (d:YA) (a:List Int) (c:Int) (e:List (Int×ZH×Int×Unit)):Option ((Int×(List (Int×ZH×Int×Unit))×Unit) ⊕ ((Option YI)×Int)):=
if c<(a.length:Int) then
(atI a c).bind λf=>
(atI b c).bind λg=>
some (.inl (Wq (c+1),ZnR ZqS.ty ZqS.ety e f g,()))
else
some (.inr (Option.some (d,e,()),0))
def ZcZ (g:Ze) (a:List Zg) (b:List Int):Option ((Option YI)×Int):=
(VW g b).bind λd=>
if d.2=0 then
(d.1).bind λc=>
(QE c a).bind λe=>
if e then
(Vi c).bind λf=>
Zn (λv=>Zay a c f v.1 v.2.1) ((0:Int),([]:List (Int×ZH×Int×Unit)),())
else
some (Option.none,5)
else
some (Option.none,d.2)
def ZzY:Ctr:=⟨[.dat (Yz),.dat (.sl (Zy)),.dat (.sl Iq)],[.dat (.nptr (ZeV)),.dat Iq],λa K=>Zv a λd a=>Zv a λb a=>Zv a λc a=>YX (ZcZ d b c) λr=>K (r.1,r.2,()) ()⟩
def VK (c:YA) (b:Int):Option (List Int):=
(atI (YA.gate c) b).bind λd=>
(atI (Zc.Instances (Ze.Design (YA.Block c))) d).bind λa=>
Zu ((0:Int)<=Wq (((Zd.YK a).length:Int)-1))<|
Zu (Wq (((Zd.YK a).length:Int)-1)<=((Zd.YK a).length:Int))<|
some (List.take (Int.toNat (Wq (((Zd.YK a).length:Int)-1))-Int.toNat 0) (List.drop (Int.toNat 0) (Zd.YK a)))
def c116:Ctr:=D2 (.ptr (Zif)) Iq (.sl Iq) VK
def Qc (j g:Int) (a b:List Int) (d:Int) (c:List (List Int)):Option (((List Int)×Int×(List (List Int))×Unit) ⊕ ((Int×(List (List Int))×Unit) ⊕ List (List Int))):=
if d<(a.length:Int) then
(atI a d).bind λf=>
(atI c f).bind λe=>
Zu ((b.length+e.length)*8<=140737488355328)<|
some (.inl (b++e,Wq (d+1),List.set c (Int.toNat f) e,()))
else
(Zxq b).bind λi=>
(Zly i).bind λh=>
(atI c g).bind λf=>
some (.inr (.inl (Wq (j+1),List.set c (Int.toNat g) h,())))
def Qd (c:YA) (d:Int) (b:List (List Int)):Option ((Int×(List (List Int))×Unit) ⊕ List (List Int)):=
if d<((YA.order c).length:Int) then
(atI (YA.order c) d).bind λa=>
(atI (YA.gate c) a).bind λe=>
if e<0 then
(atI b a).bind λg=>
some (.inl (Wq (d+1),List.set b (Int.toNat a) [a],()))
else
(VK c a).bind λf=>
Zn (λv=>Qc d a f v.1 v.2.1 v.2.2.1) (([]:List Int),(0:Int),b,())
else
some (.inr b)
def QM (a:YA):Option (List (List Int)):=
Zu ((0:Int)<=((YA.gate a).length:Int))<|
Zu (((YA.gate a).length:Int)<=((YA.gate a).length:Int))<|
Zu (((YA.gate a).length:Int)<=4611686018427387904)<|
Zu (((24:Nat):Int)*((YA.gate a).length:Int)<=281474976710656)<|
Zn (λv=>Qd a v.1 v.2.1) ((0:Int),List.replicate (Int.toNat ((YA.gate a).length:Int)) (([]:List Int)),())
def c117:Ctr:=⟨[.dat (.ptr (Zif))],[.own (.ol 77 (.ol 2 (.flat Iq)))],λa K=>Zv a λb a=>YX (QM b) λr=>K (r,()) ()⟩
def QF (h:YA) (k:Int) (d:List Int) (f i:Int) (a:List Int) (e b:Int):Option ((Int×Int×Unit) ⊕ ((Int×(List Int)×Unit) ⊕ List Int)):=
if b<(a.length:Int) then
(atI a b).bind λc=>
(atI d c).bind λg=>
Zu ((0:Int)<=b)<|
some (.inl (Go.bits Go.BinOp.or IntKind.i64 e (Wq (g*2 ^ Min.min (Int.toNat b) (IntKind.bits IntKind.i64))),Wq (b+1),()))
else
(VE (YA.Block h) i).bind λj=>
(atI (Zm.Truth j) e).bind λc=>
(atI d f).bind λg=>
some (.inr (.inl (Wq (k+1),List.set d (Int.toNat f) c,())))
def QG (b:YA) (f:List (Int×Int)) (d:Int) (c:List Int):Option ((Int×(List Int)×Unit) ⊕ List Int):=
if d<((YA.order b).length:Int) then
(atI (YA.order b) d).bind λa=>
(atI (YA.gate b) a).bind λe=>
if e<0 then
(atI c a).bind λh=>
some (.inl (Wq (d+1),List.set c (Int.toNat a) (Option.getD (ZgK (Ty.int IntKind.i64) (Ty.int IntKind.i64) f a) 0),()))
else
(VK b a).bind λg=>
Zn (λv=>QF b d c a e g v.1 v.2.1) ((0:Int),(0:Int),())
else
some (.inr c)
def Zal (a:YA) (b:List (Int×Int)):Option (List Int):=
Zu ((0:Int)<=((YA.gate a).length:Int))<|
Zu (((YA.gate a).length:Int)<=((YA.gate a).length:Int))<|
Zu (((YA.gate a).length:Int)<=4611686018427387904)<|
Zu (((8:Nat):Int)*((YA.gate a).length:Int)<=281474976710656)<|
Zn (λv=>QG a b v.1 v.2.1) ((0:Int),List.replicate (Int.toNat ((YA.gate a).length:Int)) (0:Int),())
def ZzZ:Ctr:=⟨[.dat (.ptr (Zif)),.dat (.mp Iq Iq)],[.own (.ol 2 (.flat Iq))],λa K=>Zv a λc a=>Zv a λb a=>YX (Zal c b) λr=>K (r,()) ()⟩
def Vr (h:YA) (c:Int) (e:List Int) (g:Int) (f:List Int) (a:Int) (d:List (Int×Int)):Option ((Int×(List (Int×Int))×Unit) ⊕ ((Int×(List Int)×Unit) ⊕ ((List Int)×(List Int)×Bool))):=
if a<(e.length:Int) then
(atI e a).bind λb=>
Zu ((0:Int)<=a)<|
some (.inl (Wq (a+1),ZnR ZqT.ty ZqT.ety d b (Go.bits Go.BinOp.and IntKind.i64 (Int.fdiv g (2 ^ Min.min (Int.toNat a) (IntKind.bits IntKind.i64))) 1),()))
else
(Zal h d).bind λi=>
(atI i c).bind λb=>
Zu ((f.length+[b].length)*8<=140737488355328)<|
some (.inr (.inl (Wq (g+1),f++[b],())))
def Vs (e:YA) (a:Int) (b:List Int) (d:Int) (c:List Int):Option ((Int×(List Int)×Unit) ⊕ ((List Int)×(List Int)×Bool)):=
if d<Wq (1*2 ^ Min.min (Int.toNat (b.length:Int)) (IntKind.bits IntKind.i64)) then
Zn (λv=>Vr e a b d c v.1 v.2.1) ((0:Int),([]:List (Int×Int)),())
else
some (.inr (c,b,true))
def Ja (c:YA) (a:Int):Option ((List Int)×(List Int)×Bool):=
(QM c).bind λd=>
(atI d a).bind λb=>
if 8<(b.length:Int) then
some ([],[],false)
else
Zu ((0:Int)<=(b.length:Int))<|
Zn (λv=>Vs c a b v.1 v.2.1) ((0:Int),([]:List Int),())
def c119:Ctr:=⟨[.dat (.ptr (Zif)),.dat Iq],[.own (.ol 2 (.flat Iq)),.own (.ol 2 (.flat Iq)),.dat (.bool)],λa K=>Zv a λc a=>Zv a λb a=>YX (Ja c b) λr=>K (r.1,r.2.1,r.2.2,()) ()⟩
def Vp (f:YI) (a:List Int) (g c d b:Int):Option ((Int×Int×Unit) ⊕ Int):=
if b<(a.length:Int) then
(atI a b).bind λe=>
if b=c then
some (.inl (d,Wq (b+1),()))
else
Zu ((0:Int)<=b)<|
if Go.bits Go.BinOp.and IntKind.i64 (Int.fdiv g (2 ^ Min.min (Int.toNat b) (IntKind.bits IntKind.i64))) 1=1 then
some (.inl (Wq (d*ZH.Num (Zg.High (Option.getD (ZgK (Ty.int IntKind.i64) Zy (YI.of f) e) ((0,0,()),0,())))),Wq (b+1),()))
else
some (.inl (Wq (d*Wq (ZH.Den (Zg.High (Option.getD (ZgK (Ty.int IntKind.i64) Zy (YI.of f) e) ((0,0,()),0,())))-ZH.Num (Zg.High (Option.getD (ZgK (Ty.int IntKind.i64) Zy (YI.of f) e) ((0,0,()),0,()))))),Wq (b+1),()))
else
some (.inr d)
def V9 (d:YI) (a:List Int) (c b:Int):Option Int:=
Zn (λv=>Vp d a c b v.1 v.2.1) ((1:Int),(0:Int),())
def Zz0:Ctr:=D4 (.ptr (ZeV)) (.sl Iq) Iq Iq Iq V9
def Qi (i:YI) (a d:List Int) (e b c:Int):Option ((Int×Int×Unit) ⊕ Int):=
if c<(a.length:Int) then
(atI a c).bind λg=>
Zu ((0:Int)<=e)<|
if Go.bits Go.BinOp.and IntKind.i64 (Int.fdiv c (2 ^ Min.min (Int.toNat e) (IntKind.bits IntKind.i64))) 1=0 then
(atI a (Go.bits Go.BinOp.or IntKind.i64 c (Wq (1*2 ^ Min.min (Int.toNat e) (IntKind.bits IntKind.i64))))).bind λf=>
if g=f then
some (.inl (b,Wq (c+1),()))
else
(V9 i d c e).bind λh=>
some (.inl (Wq (b+h),Wq (c+1),()))
else
some (.inl (b,Wq (c+1),()))
else
some (.inr b)
def Qo (c:YI) (a b:List Int) (d:Int):Option Int:=
Zn (λv=>Qi c a b d v.1 v.2.1) ((0:Int),(0:Int),())
def Zyq:Ctr:=D4 (.ptr (ZeV)) (.sl Iq) (.sl Iq) Iq Iq Qo
def Qh (f:YI) (b:List Int) (c a d:Int):Option ((Int×Int×Unit) ⊕ Int):=
if d<(b.length:Int) then
(atI b d).bind λe=>
if d=c then
some (.inl (a,Wq (d+1),()))
else
some (.inl (Wq (a*ZH.Den (Zg.High (Option.getD (ZgK (Ty.int IntKind.i64) Zy (YI.of f) e) ((0,0,()),0,())))),Wq (d+1),()))
else
some (.inr a)
def Qn (c:YI) (a:List Int) (b:Int):Option Int:=
Zn (λv=>Qh c a b v.1 v.2.1) ((1:Int),(0:Int),())
def Zz1:Ctr:=D3 (.ptr (ZeV)) (.sl Iq) Iq Iq Qn
def Zfy (b a c:Int):Option Int:=
Zu (a≠0)<|
if c=0 then
if Int.tmod b a<0 then
some (Wq (Wq (Int.tdiv b a)-1))
else
if c=1 then
if 0<Int.tmod b a then
some (Wq (Wq (Int.tdiv b a)+1))
else
some (Wq (Int.tdiv b a))
else
some (Wq (Int.tdiv b a))
else
if c=1 then
if 0<Int.tmod b a then
some (Wq (Wq (Int.tdiv b a)+1))
else
some (Wq (Int.tdiv b a))
else
some (Wq (Int.tdiv b a))
def Zz2:Ctr:=D3 Iq Iq Iq Iq Zfy
def Q8 (c:YI) (a:List Int×List Int×Bool) (b d:Int):Option ((Int×Int×Unit) ⊕ (Int×Bool)):=
if d<(a.2.1.length:Int) then
(atI a.2.1 d).bind λe=>
(Qo c a.1 a.2.1 d).bind λg=>
some (.inl (Wq (b+Wq (Wq (g*ZH.Den (Zg.High (Option.getD (ZgK (Ty.int IntKind.i64) Zy (YI.of c) e) ((0,0,()),0,()))))*Zg.Zaw (Option.getD (ZgK (Ty.int IntKind.i64) Zy (YI.of c) e) ((0,0,()),0,())))),Wq (d+1),()))
else
(Qn c a.2.1 (-1)).bind λh=>
(Zfy b h 1).bind λf=>
some (.inr (f,true))
def Qx (c:YI) (a:Int):Option (Int×Bool):=
(Ja (YI.logic c) a).bind λb=>
if b.2.2 then
Zn (λv=>Q8 c b v.1 v.2.1) ((0:Int),(0:Int),())
else
some (0,false)
def c124:Ctr:=⟨[.dat (.ptr (ZeV)),.dat Iq],[.dat Iq,.dat (.bool)],λa K=>Zv a λc a=>Zv a λb a=>YX (Qx c b) λr=>K (r.1,r.2,()) ()⟩
def VJ (e:YI) (a:List Int) (b c:Int):Option ((Int×Int×Unit) ⊕ Int):=
if c<(a.length:Int) then
(atI a c).bind λd=>
some (.inl (Wq (b+Zg.Zaw (Option.getD (ZgK (Ty.int IntKind.i64) Zy (YI.of e) d) ((0,0,()),0,()))),Wq (c+1),()))
else
some (.inr b)
def JC (b:YI) (a:List Int):Option Int:=
Zn (λv=>VJ b a v.1 v.2.1) ((0:Int),(0:Int),())
def Zz3:Ctr:=D2 (.ptr (ZeV)) (.sl Iq) Iq JC
def Qe (a:List Int):Option (List Int):=
Zu ((([]:List Int).length+a.length)*8<=140737488355328)<|
some (([]:List Int)++a)
def Zz4:Ctr:=⟨[.dat (.sl Iq)],[.own (.ol 2 (.flat Iq))],λa K=>Zv a λb a=>YX (Qe b) λr=>K (r,()) ()⟩
def V6 (d:Int) (b:List Qg) (a:List Int) (c:Int):Option (((List Int)×Int×Unit) ⊕ List Int):=
if c<(b.length:Int) then
(atI b c).bind λe=>
if Qg.net e=d then
if (Qg.drives e)=true then
some (.inl (a,Wq (c+1),()))
else
Zu ((a.length+[c].length)*8<=140737488355328)<|
some (.inl (a++[c],Wq (c+1),()))
else
some (.inl (a,Wq (c+1),()))
else
some (.inr a)
def Zai (c:Zc) (a:Int):Option (List Int):=
(Qm c).bind λb=>
Zn (λv=>V6 a b v.1 v.2.1) (([]:List Int),(0:Int),())
def c127:Ctr:=⟨[.dat (YJ),.dat Iq],[.own (.ol 2 (.flat Iq))],λa K=>Zv a λc a=>Zv a λb a=>YX (Zai c b) λr=>K (r,()) ()⟩
def Zah (e:Zc) (c:Zt) (a:Qg):Option Int:=
if Qg.instance a<0 then
some 0
else
(atI (Zc.Instances e) (Qg.instance a)).bind λd=>
(atI (Zt.Cells c) (Zd.Cell d)).bind λf=>
(atI (Zm.YR f) (Qg.pin a)).bind λb=>
some (YG.Cap b)
def Zz5:Ctr:=D3 (YJ) (YL) (ZmR) Iq Zah
def Q5 (e:ZJ) (b:Int) (a:List Int):Option ((Int×(List Int)×Unit) ⊕ ((Int×(List Int)×Unit) ⊕ List Int)):=
if 0<b then
(atI (ZJ.Parent e) b).bind λc=>
(atI a c).bind λf=>
(atI a b).bind λd=>
some (.inl (Wq (b-1),List.set a (Int.toNat c) (Wq (f+d)),()))
else
some (.inr (.inr a))
def X0 (e:Ze) (g:ZJ) (b:List Qg) (a:List Int) (d:Int) (c:List Int):Option ((Int×(List Int)×Unit) ⊕ List Int):=
if d<(a.length:Int) then
(atI a d).bind λi=>
(atI (ZJ.Zkx g) d).bind λf=>
(atI c f).bind λk=>
(atI b i).bind λh=>
(Zah (Ze.Design e) (Ze.Library e) h).bind λj=>
some (.inl (Wq (d+1),List.set c (Int.toNat f) (Wq (k+j)),()))
else
Zn (λv=>Q5 g v.1 v.2.1) (Wq ((c.length:Int)-1),c,())
def YT (a:Ze) (b:Int):Option (List Int):=
(atI (Ze.QZ a) b).bind λc=>
(Qe (ZJ.Cap c)).bind λf=>
(Qm (Ze.Design a)).bind λe=>
(Zai (Ze.Design a) b).bind λd=>
Zn (λv=>X0 a c e d v.1 v.2.1) ((0:Int),f,())
def Zz6:Ctr:=⟨[.dat (Yz),.dat Iq],[.own (.ol 2 (.flat Iq))],λa K=>Zv a λc a=>Zv a λb a=>YX (YT c b) λr=>K (r,()) ()⟩
def Vo (h:YI) (d:List (List Int)) (b a:List Int) (c:Int) (j:List (List Int)):Option (((List Int)×(List Int)×Int×(List (List Int))×Unit) ⊕ ((List Int)×(List Int))):=
if c<(d.length:Int) then
(atI j c).bind λk=>
(Qx h c).bind λf=>
if f.2 then
Zu ((b.length+[f.1].length)*8<=140737488355328)<|
(YT (YA.Block (YI.logic h)) c).bind λi=>
(atI i 0).bind λe=>
Zu ((a.length+[Wq (f.1*e)].length)*8<=140737488355328)<|
some (.inl (b++[f.1],a++[Wq (f.1*e)],Wq (c+1),List.set j (Int.toNat c) k,()))
else
(JC h k).bind λg=>
Zu ((b.length+[g].length)*8<=140737488355328)<|
(YT (YA.Block (YI.logic h)) c).bind λi=>
(atI i 0).bind λe=>
Zu ((a.length+[Wq (g*e)].length)*8<=140737488355328)<|
some (.inl (b++[g],a++[Wq (g*e)],Wq (c+1),List.set j (Int.toNat c) k,()))
else
some (.inr (b,a))
def V8 (b:YI):Option ((List Int)×(List Int)):=
(QM (YI.logic b)).bind λa=>
Zn (λv=>Vo b a v.1 v.2.1 v.2.2.1 v.2.2.2.1) (([]:List Int),([]:List Int),(0:Int),a,())
def c130:Ctr:=⟨[.dat (.ptr (ZeV))],[.own (.ol 2 (.flat Iq)),.own (.ol 2 (.flat Iq))],λa K=>Zv a λb a=>YX (V8 b) λr=>K (r.1,r.2,()) ()⟩
def ZD2 (a:List Zd):Option Int:=
some (a.length:Int)
def c131:Ctr:=D1 (.sl (Yg)) Iq ZD2
def ZD0 (g:YI) (a:Int) (c b:List Int):Option ZnB:=
(atI (Zc.Instances (Ze.Design (YA.Block (YI.logic g)))) a).bind λe=>
(atI (Zd.YK e) (Wq (((Zd.YK e).length:Int)-1))).bind λd=>
(VE (YA.Block (YI.logic g)) a).bind λf=>
(atI b d).bind λh=>
(atI c d).bind λi=>
some (h,Wq (Zm.ZhS f*i),Zm.ZuT f,())
def Zz7:Ctr:=D4 (.ptr (ZeV)) Iq (.sl Iq) (.sl Iq) (ZyU) ZD0
def ZEl (d:YI) (a:List Int×List Int) (h b c e f:Int):Option ((Int×Int×Int×Unit) ⊕ ((Int×Int×Unit) ⊕ (ZnB×Int))):=
if c<b then
(ZD0 d c a.1 a.2).bind λg=>
some (.inl (Wq (c+1),Wq (e+ZnB.Internal g),Wq (f+ZnB.ZzH g),()))
else
some (.inr (.inr ((h,e,f,()),0)))
def ZEm (f:Ze) (b:YI) (a:List Int×List Int) (c d:Int):Option ((Int×Int×Unit) ⊕ (ZnB×Int)):=
if c<(a.2.length:Int) then
(atI a.2 c).bind λe=>
some (.inl (Wq (c+1),Wq (d+e),()))
else
(ZD2 (Zc.Instances (Ze.Design f))).bind λg=>
Zn (λv=>ZEl b a d g v.1 v.2.1 v.2.2.1) ((0:Int),(0:Int),(0:Int),())
def ZD4 (b:Ze) (e:List Zg):Option (ZnB×Int):=
(ZcZ b e (([]:List Int))).bind λa=>
if a.2=0 then
(a.1).bind λc=>
(V8 c).bind λd=>
Zn (λv=>ZEm b c d v.1 v.2.1) ((0:Int),(0:Int),())
else
some ((0,0,0,()),a.2)
def Zz8:Ctr:=⟨[.dat (Yz),.dat (.sl (Zy))],[.dat (ZyU),.dat Iq],λa K=>Zv a λc a=>Zv a λb a=>YX (ZD4 c b) λr=>K (r.1,r.2,()) ()⟩
def Zci (a:ZH):Option Bool:=
(YB (ZH.Den a) 1 1000000).bind λb=>
if b then
(YB (ZH.Num a) 0 (ZH.Den a)).bind λd=>
if d then
(ZiO (ZH.Den a) (ZH.Num a)).bind λc=>
some (decide (c=1))
else
some false
else
some false
def Zz9:Ctr:=D1 (ZaU) (.bool) Zci
def Jf (a:List Zg) (c:Int):Option ((Int×Unit) ⊕ Bool):=
if c<(a.length:Int) then
(atI a c).bind λb=>
(Zci (Zg.High b)).bind λd=>
if d then
if 10<ZH.Den (Zg.High b) then
some (.inr false)
else
(YB (Zg.Zaw b) 0 1000).bind λe=>
if e then
some (.inl (Wq (c+1),()))
else
some (.inr false)
else
some (.inr false)
else
some (.inr true)
def Zap (b:Ze) (a:List Zg):Option Bool:=
(Zds b).bind λc=>
if c=0 then
(J6 b).bind λd=>
if (a.length:Int)=(d.length:Int) then
Zn (λv=>Jf a v.1) ((0:Int),())
else
some false
else
some false
def ZAa:Ctr:=D2 (Yz) (.sl (Zy)) (.bool) Zap
def ZEM (c:Ze) (a:List Zg):Option Int:=
(Zds c).bind λb=>
if b=0 then
(Zap c a).bind λd=>
if d then
some b
else
some 5
else
some b
def ZAb:Ctr:=D2 (Yz) (.sl (Zy)) Iq ZEM
def Zhp (b:Ze) (a:Int):Option Int:=
(ZbG b).bind λc=>
if c then
(YB a 0 (Wq (((Ze.QZ b).length:Int)-1))).bind λd=>
if d then
some 0
else
some 2
else
some 1
def ZAc:Ctr:=D2 (Yz) Iq Iq Zhp
def ZmJ (b:Zt) (f:Zc) (a:YE):Option Int:=
if YE.instance a<0 then
some 0
else
(atI (Zc.Instances f) (YE.instance a)).bind λc=>
(atI (Zt.Cells b) (Zd.Cell c)).bind λe=>
(atI (Zm.YR e) (YE.pin a)).bind λd=>
some (YG.Cap d)
def c138:Ctr:=D3 (YL) (YJ) (Zdu) Iq ZmJ
def ZiN (e:ZJ) (b:Int) (a:List Int):Option ((Int×(List Int)×Unit) ⊕ ((Int×(List Int)×Unit) ⊕ List Int)):=
if 0<b then
(atI (ZJ.Parent e) b).bind λc=>
(atI a c).bind λf=>
(atI a b).bind λd=>
some (.inl (Wq (b-1),List.set a (Int.toNat c) (Wq (f+d)),()))
else
some (.inr (.inr a))
def Zel (e:Ze) (g:ZJ) (b:List YE) (a:List Int) (d:Int) (c:List Int):Option ((Int×(List Int)×Unit) ⊕ List Int):=
if d<(a.length:Int) then
(atI (ZJ.Zkx g) d).bind λf=>
(atI c f).bind λh=>
(atI a d).bind λk=>
(atI b k).bind λi=>
(ZmJ (Ze.Library e) (Ze.Design e) i).bind λj=>
some (.inl (Wq (d+1),List.set c (Int.toNat f) (Wq (h+j)),()))
else
Zn (λv=>ZiN g v.1 v.2.1) (Wq ((c.length:Int)-1),c,())
def Zco (a:Ze) (b:Int):Option (List Int):=
(atI (Ze.QZ a) b).bind λc=>
(Zho (ZJ.Cap c)).bind λf=>
(Vt (Ze.Design a)).bind λe=>
(Zcn (Ze.Design a) b).bind λd=>
Zn (λv=>Zel a c e d v.1 v.2.1) ((0:Int),f,())
def c139:Ctr:=⟨[.dat (Yz),.dat Iq],[.own (.ol 2 (.flat Iq))],λa K=>Zv a λc a=>Zv a λb a=>YX (Zco c b) λr=>K (r,()) ()⟩
def ZeQ (b:Ze) (a:Int):Option (Int×Int):=
(Zhp b a).bind λc=>
if c=0 then
(Zco b a).bind λe=>
(atI e 0).bind λd=>
some (d,0)
else
some (0,c)
def ZAd:Ctr:=⟨[.dat (Yz),.dat Iq],[.dat Iq,.dat Iq],λa K=>Zv a λc a=>Zv a λb a=>YX (ZeQ c b) λr=>K (r.1,r.2,()) ()⟩
def Xm (g:Ze) (b:Ze->Int->List Bool->List Bool->Option (List Bool×List Bool)) (a:List Int) (c:Int) (e f:List Bool):Option ((Int×(List Bool)×(List Bool)×Unit) ⊕ ((List Bool)×(List Bool))):=
if c<(a.length:Int) then
(atI a c).bind λh=>
(b g h e f).bind λd=>
some (.inl (Wq (c+1),d.1,d.2,()))
else
some (.inr (e,f))
def Xh (d:Ze->Int->(List Bool)->(List Bool)->Option ((List Bool)×(List Bool))) (e:Ze) (b:Int) (a c:List Bool):Option ((List Bool)×(List Bool)):=
(atI c b).bind λh=>
if h then
some (a,c)
else
(J5 e b).bind λf=>
if f<0 then
(atI a b).bind λi=>
some (List.set a (Int.toNat b) true,List.set c (Int.toNat b) true)
else
(Jv e f).bind λg=>
Zn (λv=>Xm e d g v.1 v.2.1 v.2.2.1) ((0:Int),a,List.set c (Int.toNat b) true,())
def Xc:Nat->Ze->Int->(List Bool)->(List Bool)->Option ((List Bool)×(List Bool))
| 0=>λ_ _ _ _=>none
| n+1=>Xh (Xc n)
def ZeT (d:Ze) (c:Int) (a b:List Bool):Option ((List Bool)×(List Bool)):=Zxi (λn=>Xc n d c a b)
def ZbL (e:Ze->Int->(List Bool)->(List Bool)->Option ((List Bool)×(List Bool))):Ctr:=⟨[.dat (Yz),.dat Iq,.back (.ol 4 (.flat (.bool))),.back (.ol 4 (.flat (.bool)))],[],λa K=>Zv a λf a=>Zv a λd a=>Zv a λb a=>Zv a λc a=>YX (e f d b c) λr=>K () (r.1,r.2,())⟩
def c141:Ctr:=ZbL ZeT
def ZaL (b:List Bool) (a:List Int) (c:Int):Option (((List Int)×Int×Unit) ⊕ List Int):=
if c<(b.length:Int) then
(atI b c).bind λd=>
if d then
Zu ((a.length+[c].length)*8<=140737488355328)<|
some (.inl (a++[c],Wq (c+1),()))
else
some (.inl (a,Wq (c+1),()))
else
some (.inr a)
def Zdd (a:List Bool):Option (List Int):=
Zn (λv=>ZaL a v.1 v.2.1) (([]:List Int),(0:Int),())
def ZAe:Ctr:=⟨[.dat (.sl (.bool))],[.own (.ol 2 (.flat Iq))],λa K=>Zv a λb a=>YX (Zdd b) λr=>K (r,()) ()⟩
def VP (a:Ze) (b:Int):Option (List Int):=
Zu ((0:Int)<=((Zc.YK (Ze.Design a)).length:Int))<|
Zu (((Zc.YK (Ze.Design a)).length:Int)<=((Zc.YK (Ze.Design a)).length:Int))<|
Zu (((Zc.YK (Ze.Design a)).length:Int)<=4611686018427387904)<|
Zu (((1:Nat):Int)*((Zc.YK (Ze.Design a)).length:Int)<=281474976710656)<|
(ZeT a b (List.replicate (Int.toNat ((Zc.YK (Ze.Design a)).length:Int)) false) (List.replicate (Int.toNat ((Zc.YK (Ze.Design a)).length:Int)) false)).bind λc=>
(Zdd c.1).bind λd=>
some d
def c143:Ctr:=⟨[.dat (Yz),.dat Iq],[.own (.ol 2 (.flat Iq))],λa K=>Zv a λc a=>Zv a λb a=>YX (VP c b) λr=>K (r,()) ()⟩
def ZcR (a:List Int) (d b:Int):Option ((Int×Unit) ⊕ Int):=
if b<(a.length:Int) then
(atI a b).bind λc=>
if c=d then
some (.inr b)
else
some (.inl (Wq (b+1),()))
else
some (.inr (-1))
def ZfV (a:List Int) (b:Int):Option Int:=
Zn (λv=>ZcR a b v.1) ((0:Int),())
def ZAf:Ctr:=D2 (.sl Iq) Iq Iq ZfV
def ZcS (c:Ze) (b:List Zg) (a:Int):Option Zg:=
(J6 c).bind λe=>
(ZfV e a).bind λf=>
(atI b f).bind λd=>
some d
def c145:Ctr:=D3 (Yz) (.sl (Zy)) Iq (Zy) ZcS
def Zbx (e:Ze) (c:List Zg) (a:List Int) (b d:Int):Option ((Int×Int×Unit) ⊕ Int):=
if d<(a.length:Int) then
(atI a d).bind λf=>
(ZcS e c f).bind λg=>
some (.inl (Wq (b+Zg.Zaw g),Wq (d+1),()))
else
some (.inr b)
def ZdO (c:Ze) (a:List Zg) (b:Int):Option Int:=
(VP c b).bind λd=>
Zn (λv=>Zbx c a d v.1 v.2.1) ((0:Int),(0:Int),())
def c146:Ctr:=D3 (Yz) (.sl (Zy)) Iq Iq ZdO
def Zcq (c a b:Int):Option ((Int×Int×Unit) ⊕ Int):=
if b<c then
some (.inl (Wq (2*a),Wq (b+1),()))
else
some (.inr a)
def Zdt (a:Int):Option Int:=
Zn (λv=>Zcq a v.1 v.2.1) ((1:Int),(0:Int),())
def Zyr:Ctr:=D1 Iq Iq Zdt
def Zcp (d b:Int) (a:List Int) (c:Int):Option ((Int×(List Int)×Int×Unit) ⊕ List Int):=
if c<d then
Zu ((a.length+[Int.tmod b (2:Int)].length)*8<=140737488355328)<|
some (.inl (Wq (Int.tdiv b (2:Int)),a++[Int.tmod b (2:Int)],Wq (c+1),()))
else
some (.inr a)
def ZeS (b a:Int):Option (List Int):=
Zn (λv=>Zcp a v.1 v.2.1 v.2.2.1) (b,([]:List Int),(0:Int),())
def c148:Ctr:=⟨[.dat Iq,.dat Iq],[.own (.ol 2 (.flat Iq))],λa K=>Zv a λc a=>Zv a λb a=>YX (ZeS c b) λr=>K (r,()) ()⟩
def Jj (a b:List Int) (c:Int) (d:List Int):Option ((Int×(List Int)×Unit) ⊕ ((Int×(List Int)×Unit) ⊕ List Int)):=
if c<(a.length:Int) then
(atI a c).bind λe=>
(atI b c).bind λf=>
(atI d e).bind λg=>
some (.inl (Wq (c+1),List.set d (Int.toNat e) f,()))
else
some (.inr (.inr d))
def Zbw (b c:List Int) (a:Int) (d:List Int):Option ((Int×(List Int)×Unit) ⊕ List Int):=
if a<(d.length:Int) then
(atI d a).bind λe=>
some (.inl (Wq (a+1),List.set d (Int.toNat a) (-1),()))
else
Zn (λv=>Jj b c v.1 v.2.1) ((0:Int),d,())
def ZdN (c:Ze) (a b:List Int):Option (List Int):=
Zu ((0:Int)<=((Zc.YK (Ze.Design c)).length:Int))<|
Zu (((Zc.YK (Ze.Design c)).length:Int)<=((Zc.YK (Ze.Design c)).length:Int))<|
Zu (((Zc.YK (Ze.Design c)).length:Int)<=4611686018427387904)<|
Zu (((8:Nat):Int)*((Zc.YK (Ze.Design c)).length:Int)<=281474976710656)<|
Zn (λv=>Zbw a b v.1 v.2.1) ((0:Int),List.replicate (Int.toNat ((Zc.YK (Ze.Design c)).length:Int)) (0:Int),())
def ZAg:Ctr:=⟨[.dat (Yz),.dat (.sl Iq),.dat (.sl Iq)],[.own (.ol 2 (.flat Iq))],λa K=>Zv a λd a=>Zv a λb a=>Zv a λc a=>YX (ZdN d b c) λr=>K (r,()) ()⟩
def XP (g:Ze) (c:Int) (e:Ze->Int->List Int->Option (Int×List Int)) (b:Int) (a:List Int) (l i f:Int) (d:List Int):Option ((Int×Int×Int×(List Int)×Unit) ⊕ (Int×(List Int))):=
if f<(a.length:Int) then
(atI a f).bind λh=>
(e g h d).bind λj=>
some (.inl (Wq (l+Wq (i*j.1)),Wq (2*i),Wq (f+1),j.2,()))
else
(atI (Zc.Instances (Ze.Design g)) b).bind λh=>
(atI (Zt.Cells (Ze.Library g)) (Zd.Cell h)).bind λm=>
(atI (Zm.Truth m) l).bind λk=>
(atI d c).bind λo=>
(atI (List.set d (Int.toNat c) k) c).bind λn=>
some (.inr (n,List.set d (Int.toNat c) k))
def Xg (b:Ze->Int->(List Int)->Option (Int×(List Int))) (c:Ze) (d:Int) (a:List Int):Option (Int×(List Int)):=
(atI a d).bind λe=>
if 0<=e then
some (e,a)
else
(J5 c d).bind λf=>
(Jv c f).bind λg=>
Zn (λv=>XP c d b f g v.1 v.2.1 v.2.2.1 v.2.2.2.1) ((0:Int),(1:Int),(0:Int),a,())
def Xb:Nat->Ze->Int->(List Int)->Option (Int×(List Int))
| 0=>λ_ _ _=>none
| n+1=>Xg (Xb n)
def Zhq (b:Ze) (c:Int) (a:List Int):Option (Int×(List Int)):=Zxi (λn=>Xb n b c a)
def ZbK (b:Ze->Int->(List Int)->Option (Int×(List Int))):Ctr:=⟨[.dat (Yz),.dat Iq,.back (.ol 2 (.flat Iq))],[.dat Iq],λa K=>Zv a λe a=>Zv a λd a=>Zv a λc a=>YX (b e d c) λr=>K (r.1,()) (r.2,())⟩
def ZAh:Ctr:=ZbK Zhq
def Jz (f:Ze) (c:Int) (a b:List Int) (d:Int):Option (((List Int)×Int×Unit) ⊕ List Int):=
(Zdt (a.length:Int)).bind λi=>
if d<i then
(ZeS d (a.length:Int)).bind λh=>
(ZdN f a h).bind λg=>
(Zhq f c g).bind λe=>
Zu ((b.length+[e.1].length)*8<=140737488355328)<|
some (.inl (b++[e.1],Wq (d+1),()))
else
some (.inr b)
def Zbb (c:Ze) (b:Int) (a:List Int):Option (List Int):=
Zn (λv=>Jz c b a v.1 v.2.1) (([]:List Int),(0:Int),())
def Zzh:Ctr:=⟨[.dat (Yz),.dat Iq,.dat (.sl Iq)],[.own (.ol 2 (.flat Iq))],λa K=>Zv a λd a=>Zv a λc a=>Zv a λb a=>YX (Zbb d c b) λr=>K (r,()) ()⟩
def ZfU (b:Int):Option Int:=
(Zdt b).bind λa=>
some a
def c152:Ctr:=D1 Iq Iq ZfU
def ZaM (d:List Int) (c:Int) (a:List Int) (b:Int):Option (((List Int)×Int×Unit) ⊕ List Int):=
if b<(d.length:Int) then
Zu (c≠0)<|
if Int.tmod (Wq (Int.tdiv b c)) 2=1 then
(atI d b).bind λe=>
(atI d (Wq (b-c))).bind λf=>
if e=f then
Zu ((a.length+[(0:Int)].length)*8<=140737488355328)<|
some (.inl (a++[(0:Int)],Wq (b+1),()))
else
Zu ((a.length+[(1:Int)].length)*8<=140737488355328)<|
some (.inl (a++[(1:Int)],Wq (b+1),()))
else
(atI d b).bind λe=>
(atI d (Wq (b+c))).bind λf=>
if e=f then
Zu ((a.length+[(0:Int)].length)*8<=140737488355328)<|
some (.inl (a++[(0:Int)],Wq (b+1),()))
else
Zu ((a.length+[(1:Int)].length)*8<=140737488355328)<|
some (.inl (a++[(1:Int)],Wq (b+1),()))
else
some (.inr a)
def Zde (b:List Int) (a:Int):Option (List Int):=
Zn (λv=>ZaM b a v.1 v.2.1) (([]:List Int),(0:Int),())
def Zzi:Ctr:=⟨[.dat (.sl Iq),.dat Iq],[.own (.ol 2 (.flat Iq))],λa K=>Zv a λc a=>Zv a λb a=>YX (Zde c b) λr=>K (r,()) ()⟩
def VA (g:Ze) (b:List Zg) (a:List Int) (f d c:Int):Option ((Int×Int×Int×Unit) ⊕ Int):=
if c<(a.length:Int) then
(atI a c).bind λh=>
(ZcS g b h).bind λe=>
if Int.tmod f 2=1 then
some (.inl (Wq (Int.tdiv f 2),Wq (d*ZH.Num (Zg.High e)),Wq (c+1),()))
else
some (.inl (Wq (Int.tdiv f 2),Wq (d*Wq (ZH.Den (Zg.High e)-ZH.Num (Zg.High e))),Wq (c+1),()))
else
some (.inr d)
def Zdf (c:Ze) (b:List Zg) (a:List Int) (d:Int):Option Int:=
Zn (λv=>VA c b a v.1 v.2.1 v.2.2.1) (d,(1:Int),(0:Int),())
def c154:Ctr:=D4 (Yz) (.sl (Zy)) (.sl Iq) Iq Iq Zdf
def ZcT (f:Ze) (d:List Zg) (a e:List Int) (b c:Int):Option ((Int×Int×Unit) ⊕ Int):=
if c<(e.length:Int) then
(atI e c).bind λg=>
if g=1 then
(Zdf f d a c).bind λh=>
some (.inl (Wq (b+h),Wq (c+1),()))
else
some (.inl (b,Wq (c+1),()))
else
some (.inr b)
def ZfW (c:Ze) (b:List Zg) (a d:List Int):Option Int:=
Zn (λv=>ZcT c b a d v.1 v.2.1) ((0:Int),(0:Int),())
def ZAi:Ctr:=D4 (Yz) (.sl (Zy)) (.sl Iq) (.sl Iq) Iq ZfW
def J9 (e:Ze) (b:List Zg) (a:List Int) (d c:Int):Option ((Int×Int×Unit) ⊕ Int):=
if c<(a.length:Int) then
(atI a c).bind λf=>
(ZcS e b f).bind λg=>
some (.inl (Wq (d*ZH.Den (Zg.High g)),Wq (c+1),()))
else
some (.inr d)
def Zcs (c:Ze) (b:List Zg) (a:List Int):Option Int:=
Zn (λv=>J9 c b a v.1 v.2.1) ((1:Int),(0:Int),())
def c156:Ctr:=D3 (Yz) (.sl (Zy)) (.sl Iq) Iq Zcs
def ZcP (b a c:Int):Option Int:=
Zu (a≠0)<|
if Int.tmod b a<0 then
if c=0 then
some (Wq (Wq (Int.tdiv b a)-1))
else
if 0<Int.tmod b a then
if c=1 then
some (Wq (Wq (Int.tdiv b a)+1))
else
some (Wq (Int.tdiv b a))
else
some (Wq (Int.tdiv b a))
else
if 0<Int.tmod b a then
if c=1 then
some (Wq (Wq (Int.tdiv b a)+1))
else
some (Wq (Int.tdiv b a))
else
some (Wq (Int.tdiv b a))
def c157:Ctr:=D3 Iq Iq Iq Iq ZcP
def J8 (f:Ze) (c:List Zg) (a b:List Int) (d e:Int):Option ((Int×Int×Unit) ⊕ Int):=
if e<(a.length:Int) then
(ZfU e).bind λm=>
(Zde b m).bind λk=>
(atI a e).bind λl=>
(ZfW f c a k).bind λg=>
(ZcS f c l).bind λi=>
some (.inl (Wq (d+Wq (g*Zg.Zaw i)),Wq (e+1),()))
else
(Zcs f c a).bind λh=>
(ZcP d h 1).bind λj=>
some (.inr j)
def Zcr (c:Ze) (b:List Zg) (a:Int):Option Int:=
(VP c a).bind λd=>
(Zbb c a d).bind λe=>
Zn (λv=>J8 c b d e v.1 v.2.1) ((0:Int),(0:Int),())
def ZAj:Ctr:=D3 (Yz) (.sl (Zy)) Iq Iq Zcr
def ZeU (c:Ze) (b:List Zg) (a:Int):Option Int:=
(VP c a).bind λe=>
if 8<(e.length:Int) then
(ZdO c b a).bind λf=>
some f
else
(Zcr c b a).bind λd=>
some d
def c159:Ctr:=D3 (Yz) (.sl (Zy)) Iq Iq ZeU
def ZfX (c:Ze) (b:List Zg) (a:Int):Option Int:=
(ZeQ c a).bind λd=>
(ZeU c b a).bind λe=>
some (Wq (e*d.1))
def c160:Ctr:=D3 (Yz) (.sl (Zy)) Iq Iq ZfX
def ZES (c:Ze) (b:List Zg) (a:Int):Option ZnB:=
(atI (Zc.Instances (Ze.Design c)) a).bind λd=>
(atI (Zt.Cells (Ze.Library c)) (Zd.Cell d)).bind λf=>
(atI (Zd.YK d) (Wq (((Zd.YK d).length:Int)-1))).bind λe=>
(ZfX c b e).bind λh=>
(ZeU c b e).bind λg=>
some (h,Wq (Zm.ZhS f*g),Zm.ZuT f,())
def ZAk:Ctr:=D3 (Yz) (.sl (Zy)) Iq (ZyU) ZES
def ZEV (c:Ze) (a:List Zg) (g b f d:Int):Option ((Int×Int×Int×Unit) ⊕ ((Int×Int×Unit) ⊕ ZnB)):=
if b<((Zc.Instances (Ze.Design c)).length:Int) then
(ZES c a b).bind λe=>
some (.inl (Wq (b+1),Wq (f+ZnB.Internal e),Wq (d+ZnB.ZzH e),()))
else
some (.inr (.inr (g,f,d,())))
def ZEW (c:Ze) (b:List Zg) (a d:Int):Option ((Int×Int×Unit) ⊕ ZnB):=
if a<((Zc.YK (Ze.Design c)).length:Int) then
(ZfX c b a).bind λe=>
some (.inl (Wq (a+1),Wq (d+e),()))
else
Zn (λv=>ZEV c b d v.1 v.2.1 v.2.2.1) ((0:Int),(0:Int),(0:Int),())
def ZE0 (b:Ze) (a:List Zg):Option ZnB:=
Zn (λv=>ZEW b a v.1 v.2.1) ((0:Int),(0:Int),())
def c162:Ctr:=D2 (Yz) (.sl (Zy)) (ZyU) ZE0
def ZEw (c:Ze) (a:List Zg):Option (ZnB×Int):=
(ZEM c a).bind λb=>
if b=0 then
(ZE0 c a).bind λd=>
some (d,0)
else
some ((0,0,0,()),b)
def Zzj:Ctr:=⟨[.dat (Yz),.dat (.sl (Zy))],[.dat (ZyU),.dat Iq],λa K=>Zv a λc a=>Zv a λb a=>YX (ZEw c b) λr=>K (r.1,r.2,()) ()⟩
def ZEu (f:Ze) (b:List Zg) (a:Int):Option (Int×Int):=
(ZcZ f b [a]).bind λc=>
if c.2=0 then
(c.1).bind λg=>
(V8 g).bind λd=>
(atI d.2 a).bind λe=>
some (e,0)
else
some (0,c.2)
def c164:Ctr:=⟨[.dat (Yz),.dat (.sl (Zy)),.dat Iq],[.dat Iq,.dat Iq],λa K=>Zv a λd a=>Zv a λb a=>Zv a λc a=>YX (ZEu d b c) λr=>K (r.1,r.2,()) ()⟩
def ZD9 (d:Ze) (b:List Zg) (a:Int):Option (ZnB×Int):=
(VW d (([]:List Int))).bind λg=>
if g.2=0 then
(ZD2 (Zc.Instances (Ze.Design d))).bind λj=>
(YN a 0 (Wq (j-1))).bind λh=>
if h then
(ZcZ d b (([]:List Int))).bind λc=>
if c.2=0 then
(c.1).bind λe=>
(V8 e).bind λf=>
(ZD0 e a f.1 f.2).bind λi=>
some (i,0)
else
some ((0,0,0,()),c.2)
else
some ((0,0,0,()),2)
else
some ((0,0,0,()),g.2)
def ZAl:Ctr:=⟨[.dat (Yz),.dat (.sl (Zy)),.dat Iq],[.dat (ZyU),.dat Iq],λa K=>Zv a λd a=>Zv a λc a=>Zv a λb a=>YX (ZD9 d c b) λr=>K (r.1,r.2,()) ()⟩
def ZbM (a:Int):Option Bool:=
some (!decide (a=a))
def ZAm:Ctr:=D1 Iq (.bool) ZbM
def Zcz (b a:Int):Option Int:=
(ZbM b).bind λd=>
(ZbM a).bind λc=>
if d then
if c then
some 0
else
some (-1)
else
if c then
some 1
else
if b<a then
some (-1)
else
if a<b then
some 1
else
some 0
def c167:Ctr:=D2 Iq Iq Iq Zcz
def Xx (b a:Zj):Option Int:=
(Zcz (Zj.Power a) (Zj.Power b)).bind λc=>
some c
def c168:Ctr:=D2 (Yr) (Yr) Iq Xx
def ZO (f d a:Int) (b:List Zj):Option ((Int×(List Zj)×Unit) ⊕ ((Int×(List Zj)×Unit) ⊕ List Zj)):=
if f<a then
(atI b a).bind λe=>
(atI b (Wq (a-1))).bind λc=>
(Xx e c).bind λg=>
if g<0 then
(atI (List.set b (Int.toNat a) c) (Wq (a-1))).bind λh=>
some (.inl (Wq (a-1),List.set (List.set b (Int.toNat a) c) (Int.toNat (Wq (a-1))) e,()))
else
some (.inr (.inl (Wq (d+1),b,())))
else
some (.inr (.inl (Wq (d+1),b,())))
def ZP (d c a:Int) (b:List Zj):Option ((Int×(List Zj)×Unit) ⊕ List Zj):=
if a<c then
Zn (λv=>ZO d a v.1 v.2.1) (a,b,())
else
some (.inr b)
def ZI (a:List Zj) (b d:Int) (c:Unit):Option (List Zj):=
Zn (λv=>ZP b d v.1 v.2.1) (Wq (b+1),a,())
def ZAn:Ctr:=⟨[.back (.ol 49 (.flat (Yr))),.dat Iq,.dat Iq,.dat (.fn 35 (.unit))],[],λa K=>Zv a λb a=>Zv a λd a=>Zv a λe a=>Zv a λc a=>YX (ZI b d e c) λr=>K () (r,())⟩
def Ye (d c f a:Int) (b:List Zj):Option ((Int×(List Zj)×Unit) ⊕ List Zj):=
if a<f then
(atI b (Wq (c+a))).bind λe=>
(atI b (Wq (d+a))).bind λg=>
(atI (List.set b (Int.toNat (Wq (d+a))) e) (Wq (c+a))).bind λh=>
some (.inl (Wq (a+1),List.set (List.set b (Int.toNat (Wq (d+a))) e) (Int.toNat (Wq (c+a))) g,()))
else
some (.inr b)
def ZC (a:List Zj) (e d b:Int) (c:Unit):Option (List Zj):=
Zn (λv=>Ye e d b v.1 v.2.1) ((0:Int),a,())
def ZAo:Ctr:=⟨[.back (.ol 49 (.flat (Yr))),.dat Iq,.dat Iq,.dat Iq,.dat (.fn 35 (.unit))],[],λa K=>Zv a λb a=>Zv a λd a=>Zv a λf a=>Zv a λe a=>Zv a λc a=>YX (ZC b d f e c) λr=>K () (r,())⟩
def YP (c a b:Int) (e:List Zj):Option ((Int×Int×(List Zj)×Unit) ⊕ List Zj):=
if a=b then
(ZC e (Wq (c-a)) c a ()).bind λd=>
some (.inr d)
else
if b<a then
(ZC e (Wq (c-a)) c b ()).bind λd=>
some (.inl (Wq (a-b),b,d,()))
else
(ZC e (Wq (c-a)) (Wq (Wq (c+b)-a)) a ()).bind λd=>
some (.inl (a,Wq (b-a),d,()))
def ZB (a:List Zj) (e b d:Int) (c:Unit):Option (List Zj):=
Zn (λv=>YP b v.1 v.2.1 v.2.2.1) (Wq (b-e),Wq (d-b),a,())
def c171:Ctr:=⟨[.back (.ol 49 (.flat (Yr))),.dat Iq,.dat Iq,.dat Iq,.dat (.fn 35 (.unit))],[],λa K=>Zv a λb a=>Zv a λe a=>Zv a λd a=>Zv a λf a=>Zv a λc a=>YX (ZB b e d f c) λr=>K () (r,())⟩
def Zz (e a:Int) (b:List Zj):Option ((Int×(List Zj)×Unit) ⊕ ((Int×Int×Unit) ⊕ List Zj)):=
if a<Wq (e-1) then
(atI b (Wq (a+1))).bind λc=>
(atI b a).bind λd=>
(atI (List.set b (Int.toNat a) c) (Wq (a+1))).bind λf=>
some (.inl (Wq (a+1),List.set (List.set b (Int.toNat a) c) (Int.toNat (Wq (a+1))) d,()))
else
some (.inr (.inr b))
def Zw (c:List Zj) (d a b:Int):Option ((Int×Int×Unit) ⊕ List Zj):=
if a<b then
(atI c (Wq (Int.fdiv (IntKind.wrap IntKind.u64 (Wq (a+b))) (2 ^ Min.min (Int.toNat 1) (IntKind.bits IntKind.u64))))).bind λe=>
(atI c d).bind λg=>
(Xx e g).bind λf=>
if f<0 then
some (.inl (Wq (Wq (Int.fdiv (IntKind.wrap IntKind.u64 (Wq (a+b))) (2 ^ Min.min (Int.toNat 1) (IntKind.bits IntKind.u64)))+1),b,()))
else
some (.inl (a,Wq (Int.fdiv (IntKind.wrap IntKind.u64 (Wq (a+b))) (2 ^ Min.min (Int.toNat 1) (IntKind.bits IntKind.u64))),()))
else
Zn (λv=>Zz a v.1 v.2.1) (d,c,())
def ZA (e a:Int) (b:List Zj):Option ((Int×(List Zj)×Unit) ⊕ ((Int×Int×Unit) ⊕ List Zj)):=
if e<a then
(atI b (Wq (a-1))).bind λc=>
(atI b a).bind λd=>
(atI (List.set b (Int.toNat a) c) (Wq (a-1))).bind λf=>
some (.inl (Wq (a-1),List.set (List.set b (Int.toNat a) c) (Int.toNat (Wq (a-1))) d,()))
else
some (.inr (.inr b))
def Zx (c:List Zj) (d a b:Int):Option ((Int×Int×Unit) ⊕ List Zj):=
if a<b then
(atI c d).bind λe=>
(atI c (Wq (Int.fdiv (IntKind.wrap IntKind.u64 (Wq (a+b))) (2 ^ Min.min (Int.toNat 1) (IntKind.bits IntKind.u64))))).bind λg=>
(Xx e g).bind λf=>
if f<0 then
some (.inl (a,Wq (Int.fdiv (IntKind.wrap IntKind.u64 (Wq (a+b))) (2 ^ Min.min (Int.toNat 1) (IntKind.bits IntKind.u64))),()))
else
some (.inl (Wq (Wq (Int.fdiv (IntKind.wrap IntKind.u64 (Wq (a+b))) (2 ^ Min.min (Int.toNat 1) (IntKind.bits IntKind.u64)))+1),b,()))
else
Zn (λv=>ZA a v.1 v.2.1) (d,c,())
def Zk (g:List Zj) (b d a:Int) (e:List Zj->Int->Int->Int->Unit->Option (List Zj)) (c i:Int):Option ((Int×Int×Unit) ⊕ List Zj):=
if c<i then
(atI g (Wq (Wq (Wq (Wq (Int.fdiv (IntKind.wrap IntKind.u64 (Wq (b+a))) (2 ^ Min.min (Int.toNat 1) (IntKind.bits IntKind.u64)))+d)-1)-Wq (Int.fdiv (IntKind.wrap IntKind.u64 (Wq (c+i))) (2 ^ Min.min (Int.toNat 1) (IntKind.bits IntKind.u64)))))).bind λl=>
(atI g (Wq (Int.fdiv (IntKind.wrap IntKind.u64 (Wq (c+i))) (2 ^ Min.min (Int.toNat 1) (IntKind.bits IntKind.u64))))).bind λk=>
(Xx l k).bind λh=>
if h<0 then
some (.inl (c,Wq (Int.fdiv (IntKind.wrap IntKind.u64 (Wq (c+i))) (2 ^ Min.min (Int.toNat 1) (IntKind.bits IntKind.u64))),()))
else
some (.inl (Wq (Wq (Int.fdiv (IntKind.wrap IntKind.u64 (Wq (c+i))) (2 ^ Min.min (Int.toNat 1) (IntKind.bits IntKind.u64)))+1),i,()))
else
if c<d then
if d<Wq (Wq (Wq (Int.fdiv (IntKind.wrap IntKind.u64 (Wq (b+a))) (2 ^ Min.min (Int.toNat 1) (IntKind.bits IntKind.u64)))+d)-c) then
(ZB g c d (Wq (Wq (Wq (Int.fdiv (IntKind.wrap IntKind.u64 (Wq (b+a))) (2 ^ Min.min (Int.toNat 1) (IntKind.bits IntKind.u64)))+d)-c)) ()).bind λh=>
if b<c then
if c<Wq (Int.fdiv (IntKind.wrap IntKind.u64 (Wq (b+a))) (2 ^ Min.min (Int.toNat 1) (IntKind.bits IntKind.u64))) then
(e h b c (Wq (Int.fdiv (IntKind.wrap IntKind.u64 (Wq (b+a))) (2 ^ Min.min (Int.toNat 1) (IntKind.bits IntKind.u64)))) ()).bind λf=>
if Wq (Int.fdiv (IntKind.wrap IntKind.u64 (Wq (b+a))) (2 ^ Min.min (Int.toNat 1) (IntKind.bits IntKind.u64)))<Wq (Wq (Wq (Int.fdiv (IntKind.wrap IntKind.u64 (Wq (b+a))) (2 ^ Min.min (Int.toNat 1) (IntKind.bits IntKind.u64)))+d)-c) then
if Wq (Wq (Wq (Int.fdiv (IntKind.wrap IntKind.u64 (Wq (b+a))) (2 ^ Min.min (Int.toNat 1) (IntKind.bits IntKind.u64)))+d)-c)<a then
(e f (Wq (Int.fdiv (IntKind.wrap IntKind.u64 (Wq (b+a))) (2 ^ Min.min (Int.toNat 1) (IntKind.bits IntKind.u64)))) (Wq (Wq (Wq (Int.fdiv (IntKind.wrap IntKind.u64 (Wq (b+a))) (2 ^ Min.min (Int.toNat 1) (IntKind.bits IntKind.u64)))+d)-c)) a ()).bind λj=>
some (.inr j)
else
some (.inr f)
else
some (.inr f)
else
if Wq (Int.fdiv (IntKind.wrap IntKind.u64 (Wq (b+a))) (2 ^ Min.min (Int.toNat 1) (IntKind.bits IntKind.u64)))<Wq (Wq (Wq (Int.fdiv (IntKind.wrap IntKind.u64 (Wq (b+a))) (2 ^ Min.min (Int.toNat 1) (IntKind.bits IntKind.u64)))+d)-c) then
if Wq (Wq (Wq (Int.fdiv (IntKind.wrap IntKind.u64 (Wq (b+a))) (2 ^ Min.min (Int.toNat 1) (IntKind.bits IntKind.u64)))+d)-c)<a then
(e h (Wq (Int.fdiv (IntKind.wrap IntKind.u64 (Wq (b+a))) (2 ^ Min.min (Int.toNat 1) (IntKind.bits IntKind.u64)))) (Wq (Wq (Wq (Int.fdiv (IntKind.wrap IntKind.u64 (Wq (b+a))) (2 ^ Min.min (Int.toNat 1) (IntKind.bits IntKind.u64)))+d)-c)) a ()).bind λf=>
some (.inr f)
else
some (.inr h)
else
some (.inr h)
else
if Wq (Int.fdiv (IntKind.wrap IntKind.u64 (Wq (b+a))) (2 ^ Min.min (Int.toNat 1) (IntKind.bits IntKind.u64)))<Wq (Wq (Wq (Int.fdiv (IntKind.wrap IntKind.u64 (Wq (b+a))) (2 ^ Min.min (Int.toNat 1) (IntKind.bits IntKind.u64)))+d)-c) then
if Wq (Wq (Wq (Int.fdiv (IntKind.wrap IntKind.u64 (Wq (b+a))) (2 ^ Min.min (Int.toNat 1) (IntKind.bits IntKind.u64)))+d)-c)<a then
(e h (Wq (Int.fdiv (IntKind.wrap IntKind.u64 (Wq (b+a))) (2 ^ Min.min (Int.toNat 1) (IntKind.bits IntKind.u64)))) (Wq (Wq (Wq (Int.fdiv (IntKind.wrap IntKind.u64 (Wq (b+a))) (2 ^ Min.min (Int.toNat 1) (IntKind.bits IntKind.u64)))+d)-c)) a ()).bind λf=>
some (.inr f)
else
some (.inr h)
else
some (.inr h)
else
if b<c then
if c<Wq (Int.fdiv (IntKind.wrap IntKind.u64 (Wq (b+a))) (2 ^ Min.min (Int.toNat 1) (IntKind.bits IntKind.u64))) then
(e g b c (Wq (Int.fdiv (IntKind.wrap IntKind.u64 (Wq (b+a))) (2 ^ Min.min (Int.toNat 1) (IntKind.bits IntKind.u64)))) ()).bind λf=>
if Wq (Int.fdiv (IntKind.wrap IntKind.u64 (Wq (b+a))) (2 ^ Min.min (Int.toNat 1) (IntKind.bits IntKind.u64)))<Wq (Wq (Wq (Int.fdiv (IntKind.wrap IntKind.u64 (Wq (b+a))) (2 ^ Min.min (Int.toNat 1) (IntKind.bits IntKind.u64)))+d)-c) then
if Wq (Wq (Wq (Int.fdiv (IntKind.wrap IntKind.u64 (Wq (b+a))) (2 ^ Min.min (Int.toNat 1) (IntKind.bits IntKind.u64)))+d)-c)<a then
(e f (Wq (Int.fdiv (IntKind.wrap IntKind.u64 (Wq (b+a))) (2 ^ Min.min (Int.toNat 1) (IntKind.bits IntKind.u64)))) (Wq (Wq (Wq (Int.fdiv (IntKind.wrap IntKind.u64 (Wq (b+a))) (2 ^ Min.min (Int.toNat 1) (IntKind.bits IntKind.u64)))+d)-c)) a ()).bind λj=>
some (.inr j)
else
some (.inr f)
else
some (.inr f)
else
if Wq (Int.fdiv (IntKind.wrap IntKind.u64 (Wq (b+a))) (2 ^ Min.min (Int.toNat 1) (IntKind.bits IntKind.u64)))<Wq (Wq (Wq (Int.fdiv (IntKind.wrap IntKind.u64 (Wq (b+a))) (2 ^ Min.min (Int.toNat 1) (IntKind.bits IntKind.u64)))+d)-c) then
if Wq (Wq (Wq (Int.fdiv (IntKind.wrap IntKind.u64 (Wq (b+a))) (2 ^ Min.min (Int.toNat 1) (IntKind.bits IntKind.u64)))+d)-c)<a then
(e g (Wq (Int.fdiv (IntKind.wrap IntKind.u64 (Wq (b+a))) (2 ^ Min.min (Int.toNat 1) (IntKind.bits IntKind.u64)))) (Wq (Wq (Wq (Int.fdiv (IntKind.wrap IntKind.u64 (Wq (b+a))) (2 ^ Min.min (Int.toNat 1) (IntKind.bits IntKind.u64)))+d)-c)) a ()).bind λf=>
some (.inr f)
else
some (.inr g)
else
some (.inr g)
else
if Wq (Int.fdiv (IntKind.wrap IntKind.u64 (Wq (b+a))) (2 ^ Min.min (Int.toNat 1) (IntKind.bits IntKind.u64)))<Wq (Wq (Wq (Int.fdiv (IntKind.wrap IntKind.u64 (Wq (b+a))) (2 ^ Min.min (Int.toNat 1) (IntKind.bits IntKind.u64)))+d)-c) then
if Wq (Wq (Wq (Int.fdiv (IntKind.wrap IntKind.u64 (Wq (b+a))) (2 ^ Min.min (Int.toNat 1) (IntKind.bits IntKind.u64)))+d)-c)<a then
(e g (Wq (Int.fdiv (IntKind.wrap IntKind.u64 (Wq (b+a))) (2 ^ Min.min (Int.toNat 1) (IntKind.bits IntKind.u64)))) (Wq (Wq (Wq (Int.fdiv (IntKind.wrap IntKind.u64 (Wq (b+a))) (2 ^ Min.min (Int.toNat 1) (IntKind.bits IntKind.u64)))+d)-c)) a ()).bind λf=>
some (.inr f)
else
some (.inr g)
else
some (.inr g)
else
if b<c then
if c<Wq (Int.fdiv (IntKind.wrap IntKind.u64 (Wq (b+a))) (2 ^ Min.min (Int.toNat 1) (IntKind.bits IntKind.u64))) then
(e g b c (Wq (Int.fdiv (IntKind.wrap IntKind.u64 (Wq (b+a))) (2 ^ Min.min (Int.toNat 1) (IntKind.bits IntKind.u64)))) ()).bind λf=>
if Wq (Int.fdiv (IntKind.wrap IntKind.u64 (Wq (b+a))) (2 ^ Min.min (Int.toNat 1) (IntKind.bits IntKind.u64)))<Wq (Wq (Wq (Int.fdiv (IntKind.wrap IntKind.u64 (Wq (b+a))) (2 ^ Min.min (Int.toNat 1) (IntKind.bits IntKind.u64)))+d)-c) then
if Wq (Wq (Wq (Int.fdiv (IntKind.wrap IntKind.u64 (Wq (b+a))) (2 ^ Min.min (Int.toNat 1) (IntKind.bits IntKind.u64)))+d)-c)<a then
(e f (Wq (Int.fdiv (IntKind.wrap IntKind.u64 (Wq (b+a))) (2 ^ Min.min (Int.toNat 1) (IntKind.bits IntKind.u64)))) (Wq (Wq (Wq (Int.fdiv (IntKind.wrap IntKind.u64 (Wq (b+a))) (2 ^ Min.min (Int.toNat 1) (IntKind.bits IntKind.u64)))+d)-c)) a ()).bind λj=>
some (.inr j)
else
some (.inr f)
else
some (.inr f)
else
if Wq (Int.fdiv (IntKind.wrap IntKind.u64 (Wq (b+a))) (2 ^ Min.min (Int.toNat 1) (IntKind.bits IntKind.u64)))<Wq (Wq (Wq (Int.fdiv (IntKind.wrap IntKind.u64 (Wq (b+a))) (2 ^ Min.min (Int.toNat 1) (IntKind.bits IntKind.u64)))+d)-c) then
if Wq (Wq (Wq (Int.fdiv (IntKind.wrap IntKind.u64 (Wq (b+a))) (2 ^ Min.min (Int.toNat 1) (IntKind.bits IntKind.u64)))+d)-c)<a then
(e g (Wq (Int.fdiv (IntKind.wrap IntKind.u64 (Wq (b+a))) (2 ^ Min.min (Int.toNat 1) (IntKind.bits IntKind.u64)))) (Wq (Wq (Wq (Int.fdiv (IntKind.wrap IntKind.u64 (Wq (b+a))) (2 ^ Min.min (Int.toNat 1) (IntKind.bits IntKind.u64)))+d)-c)) a ()).bind λf=>
some (.inr f)
else
some (.inr g)
else
some (.inr g)
else
if Wq (Int.fdiv (IntKind.wrap IntKind.u64 (Wq (b+a))) (2 ^ Min.min (Int.toNat 1) (IntKind.bits IntKind.u64)))<Wq (Wq (Wq (Int.fdiv (IntKind.wrap IntKind.u64 (Wq (b+a))) (2 ^ Min.min (Int.toNat 1) (IntKind.bits IntKind.u64)))+d)-c) then
if Wq (Wq (Wq (Int.fdiv (IntKind.wrap IntKind.u64 (Wq (b+a))) (2 ^ Min.min (Int.toNat 1) (IntKind.bits IntKind.u64)))+d)-c)<a then
(e g (Wq (Int.fdiv (IntKind.wrap IntKind.u64 (Wq (b+a))) (2 ^ Min.min (Int.toNat 1) (IntKind.bits IntKind.u64)))) (Wq (Wq (Wq (Int.fdiv (IntKind.wrap IntKind.u64 (Wq (b+a))) (2 ^ Min.min (Int.toNat 1) (IntKind.bits IntKind.u64)))+d)-c)) a ()).bind λf=>
some (.inr f)
else
some (.inr g)
else
some (.inr g)
def Zp (d:(List Zj)->Int->Int->Int->Unit->Option (List Zj)) (e:List Zj) (b a c:Int) (f:Unit):Option (List Zj):=
if Wq (a-b)=1 then
Zn (λv=>Zw e b v.1 v.2.1) (a,c,())
else
if Wq (c-a)=1 then
Zn (λv=>Zx e a v.1 v.2.1) (b,a,())
else
if Wq (Int.fdiv (IntKind.wrap IntKind.u64 (Wq (b+c))) (2 ^ Min.min (Int.toNat 1) (IntKind.bits IntKind.u64)))<a then
Zn (λv=>Zk e b a c d v.1 v.2.1) (Wq (Wq (Wq (Int.fdiv (IntKind.wrap IntKind.u64 (Wq (b+c))) ((2:Int) ^ Min.min (Int.toNat (1:Int)) (IntKind.bits IntKind.u64)))+a)-c),Wq (Int.fdiv (IntKind.wrap IntKind.u64 (Wq (b+c))) ((2:Int) ^ Min.min (Int.toNat (1:Int)) (IntKind.bits IntKind.u64))),())
else
Zn (λv=>Zk e b a c d v.1 v.2.1) (b,a,())
def Zl:Nat->(List Zj)->Int->Int->Int->Unit->Option (List Zj)
| 0=>λ_ _ _ _ _=>none
| n+1=>Zp (Zl n)
def ZF (d:List Zj) (e b a:Int) (c:Unit):Option (List Zj):=Zxi (λn=>Zl n d e b a c)
def ZW (b:(List Zj)->Int->Int->Int->Unit->Option (List Zj)):Ctr:=⟨[.back (.ol 49 (.flat (Yr))),.dat Iq,.dat Iq,.dat Iq,.dat (.fn 35 (.unit))],[],λa K=>Zv a λe a=>Zv a λd a=>Zv a λc a=>Zv a λg a=>Zv a λf a=>YX (b e d c g f) λr=>K () (r,())⟩
def ZAp:Ctr:=ZW ZF
def ZU (d a b c:Int) (f:List Zj):Option ((Int×Int×(List Zj)×Unit) ⊕ ((Int×(List Zj)×Unit) ⊕ ((Int×Int×(List Zj)×Unit) ⊕ List Zj))):=
if c<=d then
(ZF f b (Wq (b+a)) c ()).bind λe=>
some (.inl (c,Wq (c+Wq (2*a)),e,()))
else
if Wq (b+a)<d then
(ZF f b (Wq (b+a)) d ()).bind λe=>
some (.inr (.inl (Wq (a*2),e,())))
else
some (.inr (.inl (Wq (a*2),f,())))
def ZV (c a:Int) (b:List Zj):Option ((Int×(List Zj)×Unit) ⊕ ((Int×Int×(List Zj)×Unit) ⊕ List Zj)):=
if a<c then
Zn (λv=>ZU c a v.1 v.2.1 v.2.2.1) ((0:Int),Wq ((2:Int)*a),b,())
else
some (.inr (.inr b))
def Yk (b e a:Int) (d:List Zj):Option ((Int×Int×(List Zj)×Unit) ⊕ List Zj):=
if a<=b then
(ZI d e a ()).bind λc=>
some (.inl (a,Wq (a+20),c,()))
else
(ZI d e b ()).bind λc=>
Zn (λv=>ZV b v.1 v.2.1) ((20:Int),c,())
def Yv (a:List Zj) (b:Int) (c:Unit):Option (List Zj):=
Zn (λv=>Yk b v.1 v.2.1 v.2.2.1) ((0:Int),(20:Int),a,())
def c173:Ctr:=⟨[.back (.ol 49 (.flat (Yr))),.dat Iq,.dat (.fn 35 (.unit))],[],λa K=>Zv a λb a=>Zv a λd a=>Zv a λc a=>YX (Yv b d c) λr=>K () (r,())⟩
def ZM (a:List Zj) (c:Unit):Option (List Zj):=
(Yv a (a.length:Int) ()).bind λb=>
some b
def ZAq:Ctr:=⟨[.back (.ol 49 (.flat (Yr))),.dat (.fn 35 (.unit))],[],λa K=>Zv a λc a=>Zv a λb a=>YX (ZM c b) λr=>K () (r,())⟩
def Vq (a:List Zj):Option Int:=
some (a.length:Int)
def c175:Ctr:=D1 (.sl (Yr)) Iq Vq
def QV (a:Int) (b:List Int×List Int) (c:List Zj) (d:Int):Option (((List Zj)×Int×Unit) ⊕ ((List Zj)×Int)):=
if d<(b.2.length:Int) then
(atI b.2 d).bind λg=>
Zu ((c.length+[(d,g,())].length)*16<=140737488355328)<|
some (.inl (c++[(d,g,())],Wq (d+1),()))
else
(ZM c ()).bind λe=>
(Vq e).bind λf=>
Zu ((0:Int)<=Min.min a f)<|
Zu (Min.min a f<=(e.length:Int))<|
some (.inr (List.take (Int.toNat (Min.min a f)-Int.toNat 0) (List.drop (Int.toNat 0) e),0))
def ZaY (d:Ze) (b:List Zg) (a:Int):Option ((List Zj)×Int):=
(VW d (([]:List Int))).bind λe=>
if e.2=0 then
(YN a 0 30).bind λh=>
if h then
(ZcZ d b (([]:List Int))).bind λc=>
if c.2=0 then
(c.1).bind λg=>
(V8 g).bind λf=>
Zn (λv=>QV a f v.1 v.2.1) (([]:List Zj),(0:Int),())
else
some ([],c.2)
else
some ([],2)
else
some ([],e.2)
def ZAr:Ctr:=⟨[.dat (Yz),.dat (.sl (Zy)),.dat Iq],[.own (.ol 49 (.flat (Yr))),.dat Iq],λa K=>Zv a λd a=>Zv a λc a=>Zv a λb a=>YX (ZaY d c b) λr=>K (r.1,r.2,()) ()⟩
def ZEk (d:Ze) (c:List Zg) (a:Int):Option (Bool×Int):=
(ZD4 d c).bind λb=>
if b.2=0 then
some (decide (Wq (Wq (b.1.1+b.1.2.1)+b.1.2.2.1)<=a),0)
else
some (false,b.2)
def ZAs:Ctr:=⟨[.dat (Yz),.dat (.sl (Zy)),.dat Iq],[.dat (.bool),.dat Iq],λa K=>Zv a λd a=>Zv a λc a=>Zv a λb a=>YX (ZEk d c b) λr=>K (r.1,r.2,()) ()⟩
def ZEa (b:Ze×List Zg) (a:ZnB×Int) (l h k:Int) (c:List Zj×Int) (f d:Int):Option ((Int×Int×Unit) ⊕ (((List Zg)×Int×(List Zm)×(List Zd)×(List (List UInt8))×(List Z8)×(List ZJ)×Int×Int×Unit) ⊕ (((List Zg)×Int×(List Zm)×(List Zd)×(List (List UInt8))×(List Z8)×(List ZJ)×Int×Unit) ⊕ Bool))):=
if d<(c.1.length:Int) then
(atI c.1 d).bind λe=>
if 0<d then
(atI c.1 (Wq (d-1))).bind λg=>
if Zj.Power g<Zj.Power e then
some (.inr (.inr (.inr false)))
else
if Zj.Power g=Zj.Power e then
if Zj.Net e<=Zj.Net g then
some (.inr (.inr (.inr false)))
else
some (.inl (Wq (f+Zj.Power e),Wq (d+1),()))
else
some (.inl (Wq (f+Zj.Power e),Wq (d+1),()))
else
some (.inl (Wq (f+Zj.Power e),Wq (d+1),()))
else
(ZEk b.1 b.2 (Wq (Wq (a.1.1+a.1.2.1)+a.1.2.2.1))).bind λi=>
(ZEk b.1 b.2 (Wq (Wq (Wq (a.1.1+a.1.2.1)+a.1.2.2.1)-1))).bind λj=>
if (decide (l=a.1.1)&&(decide (h=a.1.2.1)&&decide (k=a.1.2.2.1)))=true then
if c.2=0 then
if f=a.1.1 then
if (c.1.length:Int)=(b.1.2.1.2.1.length:Int) then
if i.2=0 then
if j.2=0 then
if i.1 then
some (.inr (.inr (.inr !j.1)))
else
some (.inr (.inr (.inr false)))
else
some (.inr (.inr (.inr false)))
else
some (.inr (.inr (.inr false)))
else
some (.inr (.inr (.inr false)))
else
some (.inr (.inr (.inr false)))
else
some (.inr (.inr (.inr false)))
else
some (.inr (.inr (.inr false)))
def ZEb (a:Ze×List Zg) (b:ZnB×Int) (n:Int) (i:List Zg) (g:Int) (k:List Zm) (h:List Zd) (l:List (List UInt8)) (j:List Z8) (e:List ZJ) (c d:Int):Option (((List Zg)×Int×(List Zm)×(List Zd)×(List (List UInt8))×(List Z8)×(List ZJ)×Int×Int×Unit) ⊕ (((List Zg)×Int×(List Zm)×(List Zd)×(List (List UInt8))×(List Z8)×(List ZJ)×Int×Unit) ⊕ Bool)):=
if g<(h.length:Int) then
(ZD9 ((k,()),(h,l,j,()),e,()) i g).bind λf=>
if f.2=0 then
some (.inl (a.2,Wq (g+1),a.1.1.1,a.1.2.1.1,a.1.2.1.2.1,a.1.2.1.2.2.1,a.1.2.2.1,Wq (c+f.1.2.1),Wq (d+f.1.2.2.1),()))
else
some (.inr (.inr false))
else
(ZaY ((k,()),(h,l,j,()),e,()) i 30).bind λm=>
Zn (λv=>ZEa a b n c d m v.1 v.2.1) ((0:Int),(0:Int),())
def ZEc (a:Ze×List Zg) (b:ZnB×Int) (k:List Zg) (c:Int) (i:List Zm) (j:List Zd) (d:List (List UInt8)) (g:List Z8) (e:List ZJ) (h:Int):Option (((List Zg)×Int×(List Zm)×(List Zd)×(List (List UInt8))×(List Z8)×(List ZJ)×Int×Unit) ⊕ Bool):=
if c<(d.length:Int) then
(ZEu ((i,()),(j,d,g,()),e,()) k c).bind λf=>
if f.2=0 then
some (.inl (a.2,Wq (c+1),a.1.1.1,a.1.2.1.1,a.1.2.1.2.1,a.1.2.1.2.2.1,a.1.2.2.1,Wq (h+f.1),()))
else
some (.inr false)
else
Zn (λv=>ZEb a b h v.1 v.2.1 v.2.2.1 v.2.2.2.1 v.2.2.2.2.1 v.2.2.2.2.2.1 v.2.2.2.2.2.2.1 v.2.2.2.2.2.2.2.1 v.2.2.2.2.2.2.2.2.1) (k,(0:Int),i,j,d,g,e,(0:Int),(0:Int),())
def ZEJ (c:List Int):Option Bool:=
(ZFk c).bind λe=>
if e then
some true
else
(ZEe c).bind λa=>
(ZD4 a.1 a.2).bind λb=>
if b.2=0 then
Zn (λv=>ZEc a b v.1 v.2.1 v.2.2.1 v.2.2.2.1 v.2.2.2.2.1 v.2.2.2.2.2.1 v.2.2.2.2.2.2.1 v.2.2.2.2.2.2.2.1) (a.2,(0:Int),a.1.1.1,a.1.2.1.1,a.1.2.1.2.1,a.1.2.1.2.2.1,a.1.2.2.1,(0:Int),())
else
(ZEw a.1 a.2).bind λd=>
if b.2=d.2 then
some (decide (b.1.1=0)&&(decide (b.1.2.1=0)&&decide (b.1.2.2.1=0)))
else
some false
def ZEU:Ctr:=⟨[.dat (.sl (.int .u8))],[.dat (.bool)],λa K=>Zv a λb a=>YX (ZEJ b) λr=>K (r,()) ()⟩
end
end Go.Proofs.YtioiomifapgimaaGreatDoor
