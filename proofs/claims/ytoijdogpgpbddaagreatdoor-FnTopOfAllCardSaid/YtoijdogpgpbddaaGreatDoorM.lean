/-
 The models of the functions and their contracts. Printed by program.
-/
import Derived.KernelRfl
import Derived.Test.YtoijdogpgpbddaaGreatDoorSxTab
import Derived.Test.YtoijdogpgpbddaaGreatDoorSxS0
import Derived.Test.YtoijdogpgpbddaaGreatDoorSxLib
import Derived.Test.YtoijdogpgpbddaaGreatDoorSxLibS
namespace Go.Proofs.YtoijdogpgpbddaaGreatDoor
open Go Go.Sx
set_option maxRecDepth 100000
set_option maxHeartbeats 100000000
set_option linter.unusedVariables false
set_option linter.unusedSimpArgs false
noncomputable section
theorem Hd {Δ:Tab} (hΔ:Δ.ok Tryz.prog) {Γ:Gam} (hΓ:Γ.ok Tryz.prog) (A:Ann) {f:FuncId} {fn:Func} (hf:Tryz.prog.funcs[f]?=some fn) {C:Ctr} (hv:∀vs K,C.tr vs K->fnK Δ Γ A C fn vs K) (h1:(fn.name == "runtime.NumGoroutine")=false:=by kernel_rfl) (h2:fn.body.isNone=false:=by kernel_rfl):Zc Tryz.prog f C:=Zi hΔ hΓ mixed A hf h1 h2 hv
abbrev Iq:Ty:=.int .i64
abbrev Wq:=IntKind.wrap IntKind.i64
abbrev Sq:=Zc Tryz.prog
theorem Bq {α β:Type} (x:α) (f:α->Option β):(some x).bind f=f x:=rfl
def ZsL (a:List Int):Option Bool:=
some (decide (4096<(a.length:Int)))
def c0:Ctr:=D1 (.sl (.int .u8)) (.bool) ZsL
def Zf5 (a:List Int) (b c:Int):Option ((Int×Int×Unit)⊕Zm):=
if b<(a.length:Int)then
if b<64 then
(atI a b).bind λd=>
some (.inl (Wq (b+1),Int.tmod (Wq (Wq (c*31)+Wq d)) 2147483647,()))
else
some (.inr (a,0,c,()))
else
some (.inr (a,0,c,()))
def Zfu (a:List Int):Option Zm:=
ZA (λv=>Zf5 a v.1 v.2.1) ((0:Int),(12345:Int),())
def c1:Ctr:=⟨[.dat (.sl (.int .u8))],[.io (.flat (XY))],λa K=>Zr a λb a=>Yk (Zfu b) λr=>K (r,()) ()⟩
def Zl (a:Zm) (b:Int):Option (Int×Zm):=
if b<=1 then
some (0,a)
else
if Zm.at a<((G8 a).length:Int)then
(atI (G8 a) (Zm.at a)).bind λc=>
if b<=256 then
Zy (b≠0)<|
some (Int.tmod (Wq c) b,(G8 a,Wq (Zm.at a+1),a.2.2))
else
Zy (b≠0)<|
some (Int.tmod (Int.tmod (Wq (Wq (Wq (GU a*48271)+Wq c)+1)) 2147483647) b,(G8 a,Wq (Zm.at a+1),Int.tmod (Wq (Wq (Wq (GU a*48271)+Wq c)+1)) 2147483647,()))
else
Zy (b≠0)<|
some (Int.tmod (Wq (Int.tdiv (Int.tmod (Wq (Wq (GU a*48271)+11)) 2147483647) 7)) b,(G8 a,Zm.at a,Int.tmod (Wq (Wq (GU a*48271)+11)) 2147483647,()))
def c2:Ctr:=⟨[.io (.flat (XY)),.dat Iq],[.dat Iq],λa K=>Zr a λc a=>Zr a λb a=>Yk (Zl c b) λr=>K (r.1,()) (r.2,())⟩
def Ze5 (g:Zo) (d:Int) (b a:Bool) (c:Int):Option ((Bool×Bool×Int×Unit)⊕Int):=
if c<((GD g).length:Int)then
if Go.bits Go.BinOp.and IntKind.i64 c (Wq (1*2^Min.min (Int.toNat (IntKind.wrap IntKind.u64 d)) (IntKind.bits IntKind.i64)))=0 then
if b then
if a then
some (.inl (true,true,Wq (c+1),()))
else
(atI (GD g) c).bind λf=>
(atI (GD g) (Wq (c+Wq (1*2^Min.min (Int.toNat (IntKind.wrap IntKind.u64 d)) (IntKind.bits IntKind.i64))))).bind λe=>
some (.inl (true,decide (e<f),Wq (c+1),()))
else
(atI (GD g) c).bind λf=>
(atI (GD g) (Wq (c+Wq (1*2^Min.min (Int.toNat (IntKind.wrap IntKind.u64 d)) (IntKind.bits IntKind.i64))))).bind λe=>
if a then
some (.inl (decide (f<e),true,Wq (c+1),()))
else
some (.inl (decide (f<e),decide (e<f),Wq (c+1),()))
else
some (.inl (b,a,Wq (c+1),()))
else
if b then
if a then
some (.inr 3)
else
if b then
some (.inr 1)
else
if a then
some (.inr 2)
else
some (.inr 0)
else
if b then
some (.inr 1)
else
if a then
some (.inr 2)
else
some (.inr 0)
def Zgc (b:Zo) (a:Int):Option Int:=
Zy ((0:Int)<=IntKind.wrap IntKind.u64 a)<|
ZA (λv=>Ze5 b a v.1 v.2.1 v.2.2.1) (false,false,(0:Int),())
def c3:Ctr:=D2 (Zcq) Iq Iq Zgc
def Zdg (d:Int) (a:List Int) (b g:Int) (h:List Int) (e f:Int):Option (((List Int)×Int×Int×(List Int)×Int×Int×Unit)⊕((List Int)×Zm)):=
if 0<g then
Zy ((a.length+[b].length)*8<=140737488355328)<|
(Zl (h,e,f,()) d).bind λc=>
some (.inl (a++[b],Wq (Wq (b+1)+c.1),Wq (g-1),c.2.1,c.2.2.1,c.2.2.2.1,()))
else
some (.inr (a,(h,e,f,())))
def Zc1 (d:Zm) (a:Int):Option ((List Int)×Zm):=
(Zl d a).bind λc=>
(Zl c.2 3).bind λb=>
ZA (λv=>Zdg a v.1 v.2.1 v.2.2.1 v.2.2.2.1 v.2.2.2.2.1 v.2.2.2.2.2.1) (([]:List Int),c.1,Wq ((1:Int)+b.1),b.2.1,b.2.2.1,b.2.2.2.1,())
def c4:Ctr:=⟨[.io (.flat (XY)),.dat Iq],[.own (.ol 2 (.flat Iq))],λa K=>Zr a λc a=>Zr a λb a=>Yk (Zc1 c b) λr=>K (r.1,()) (r.2,())⟩
def Zf8 (g:Int) (b a:List Int×Zm) (e:List Int) (f:Int) (l:List Int) (m j:Int):Option (((List Int)×Int×(List Int)×Int×Int×Unit)⊕(ZE×Zm)):=
if f<Wq ((b.1.length:Int)*(a.1.length:Int))then
(Zl (l,m,j,()) 10).bind λd=>
Zy ((a.1.length:Int)≠0)<|
if 0<Int.tmod f (a.1.length:Int)then
(atI e (Wq (f-1))).bind λh=>
(Zl d.2 20).bind λc=>
if(a.1.length:Int)<=f then
(atI e (Wq (f-(a.1.length:Int)))).bind λk=>
(Zl c.2 20).bind λi=>
Zy ((e.length+[Max.max (Max.max (Wq (g+d.1)) (Wq (h+c.1))) (Wq (k+i.1))].length)*8<=140737488355328)<|
some (.inl (e++[Max.max (Max.max (Wq (g+d.1)) (Wq (h+c.1))) (Wq (k+i.1))],Wq (f+1),i.2.1,i.2.2.1,i.2.2.2.1,()))
else
Zy ((e.length+[Max.max (Wq (g+d.1)) (Wq (h+c.1))].length)*8<=140737488355328)<|
some (.inl (e++[Max.max (Wq (g+d.1)) (Wq (h+c.1))],Wq (f+1),c.2.1,c.2.2.1,c.2.2.2.1,()))
else
if(a.1.length:Int)<=f then
(atI e (Wq (f-(a.1.length:Int)))).bind λh=>
(Zl d.2 20).bind λc=>
Zy ((e.length+[Max.max (Wq (g+d.1)) (Wq (h+c.1))].length)*8<=140737488355328)<|
some (.inl (e++[Max.max (Wq (g+d.1)) (Wq (h+c.1))],Wq (f+1),c.2.1,c.2.2.1,c.2.2.2.1,()))
else
Zy ((e.length+[Wq (g+d.1)].length)*8<=140737488355328)<|
some (.inl (e++[Wq (g+d.1)],Wq (f+1),d.2.1,d.2.2.1,d.2.2.2.1,()))
else
some (.inr ((b.1,a.1,e,()),(l,m,j,())))
def Zhg (d:Zm) (c:Int):Option (ZE×Zm):=
(Zc1 d 60).bind λb=>
(Zc1 b.2 40).bind λa=>
ZA (λv=>Zf8 c b a v.1 v.2.1 v.2.2.1 v.2.2.2.1 v.2.2.2.2.1) (([]:List Int),(0:Int),a.2.1,a.2.2.1,a.2.2.2.1,())
def c5:Ctr:=⟨[.io (.flat (XY)),.dat Iq],[.own (ZkH)],λa K=>Zr a λc a=>Zr a λb a=>Yk (Zhg c b) λr=>K (r.1,()) (r.2,())⟩
def JY (d:Zm) (a:Int):Option ((List ZE)×Zm):=
(Zhg d a).bind λc=>
(Zhg c.2 a).bind λb=>
some ([c.1,b.1],b.2)
def c6:Ctr:=⟨[.io (.flat (XY)),.dat Iq],[.own (.ol 330 (ZkH))],λa K=>Zr a λc a=>Zr a λb a=>Yk (JY c b) λr=>K (r.1,()) (r.2,())⟩
def JK (h:Zm) (a b f c:Int):Option (ZK×Zm):=
if 4<=a then
(Zl h 10).bind λd=>
(JY d.2 (Wq (5-d.1))).bind λe=>
some ((a,b,f,0,e.1,[],()),e.2)
else
(Zl h 20).bind λd=>
(JY d.2 (Wq (5+d.1))).bind λe=>
(JY e.2 10).bind λg=>
some ((a,b,f,c,e.1,g.1,()),g.2)
def c7:Ctr:=⟨[.io (.flat (XY)),.dat Iq,.dat Iq,.dat Iq,.dat Iq],[.own (ZDQ)],λa K=>Zr a λf a=>Zr a λd a=>Zr a λc a=>Zr a λe a=>Zr a λb a=>Yk (JK f d c e b) λr=>K (r.1,()) (r.2,())⟩
def Zf9 (k:List UInt8) (l:List Int) (a b:Int×Zm) (f:List XT) (e:List ZK) (c:Int) (g:List Int) (h i:Int):Option (((List ZK)×Int×(List Int)×Int×Int×Unit)⊕(((List XT)×Int×(List Int)×Int×Int×Unit)⊕(Zo×Zm))):=
if c<(f.length:Int)then
(Zgc (k,(1:Int),f++[([(121:UInt8)],(2:Int),(0:Int),false,())],([]:List ZK),l,a.1,b.1,()) c).bind λj=>
if j=0 then
some (.inl (e,Wq (c+1),g,h,i,()))
else
(JK (g,h,i,()) 1 c (f.length:Int) j).bind λd=>
Zy ((e.length+[d.1].length)*80<=140737488355328)<|
some (.inl (e++[d.1],Wq (c+1),d.2.1,d.2.2.1,d.2.2.2.1,()))
else
some (.inr (.inr ((k,(1:Int),f++[([(121:UInt8)],(2:Int),(0:Int),false,())],e,l,a.1,b.1,()),(g,h,i,()))))
def Zga (k:List UInt8) (h:List Int) (a b:Int×Zm) (d:List XT) (f:Int) (i:List Int) (j e:Int):Option (((List XT)×Int×(List Int)×Int×Int×Unit)⊕(Zo×Zm)):=
if f<(h.length:Int)then
(atI ([[(97:UInt8)],[(98:UInt8)],[(99:UInt8)],[(100:UInt8)]]) (d.length:Int)).bind λg=>
(Zl (i,j,e,()) 9).bind λc=>
Zy ((d.length+[(g,(1:Int),Wq ((1:Int)+c.1),false,())].length)*40<=140737488355328)<|
some (.inl (d++[(g,(1:Int),Wq ((1:Int)+c.1),false,())],Wq ((2:Int)*f),c.2.1,c.2.2.1,c.2.2.2.1,()))
else
Zy ((d.length+[([(121:UInt8)],(2:Int),(0:Int),false,())].length)*40<=140737488355328)<|
ZA (λv=>Zf9 k h a b d v.1 v.2.1 v.2.2.1 v.2.2.2.1 v.2.2.2.2.1) (([]:List ZK),(0:Int),i,j,e,())
def Zcu (d:Zm) (c:List UInt8) (e:List Int):Option (Zo×Zm):=
(Zl d 50).bind λb=>
(Zl b.2 80).bind λa=>
ZA (λv=>Zga c e b a v.1 v.2.1 v.2.2.1 v.2.2.2.1 v.2.2.2.2.1) (([]:List (List UInt8×Int×Int×Bool×Unit)),(1:Int),a.2.1,a.2.2.1,a.2.2.2.1,())
def c8:Ctr:=⟨[.io (.flat (XY)),.dat (.str),.own (.ol 2 (.flat Iq))],[.own (Zsl)],λa K=>Zr a λb a=>Zr a λc a=>Zr a λd a=>Yk (Zcu b c d) λr=>K (r.1,()) (r.2,())⟩
def Zbc (l:Zm) (b:List UInt8) (a d:Int):Option (Zo×Zm):=
(Zl l 50).bind λg=>
(Zl g.2 80).bind λi=>
(Zl i.2 9).bind λj=>
(Zl j.2 9).bind λh=>
(JK h.2 d 1 2 0).bind λf=>
(JK f.2 4 1 0 0).bind λe=>
(JK e.2 5 1 0 0).bind λc=>
if a=3 then
(JK c.2 1 0 2 1).bind λk=>
Zy (([f.1,e.1,c.1].length+[k.1].length)*80<=140737488355328)<|
some ((b,a,[([(100:UInt8)],(1:Int),Wq ((1:Int)+j.1),false,()),([(99:UInt8),107],(1:Int),Wq ((1:Int)+h.1),true,()),([(113:UInt8)],(2:Int),(0:Int),false,())],[f.1,e.1,c.1]++[k.1],[],g.1,i.1,()),k.2)
else
some ((b,a,[([(100:UInt8)],(1:Int),Wq ((1:Int)+j.1),false,()),([(99:UInt8),107],(1:Int),Wq ((1:Int)+h.1),true,()),([(113:UInt8)],(2:Int),(0:Int),false,())],[f.1,e.1,c.1],[],g.1,i.1,()),c.2)
def c9:Ctr:=⟨[.io (.flat (XY)),.dat (.str),.dat Iq,.dat Iq],[.own (Zsl)],λa K=>Zr a λe a=>Zr a λd a=>Zr a λc a=>Zr a λb a=>Yk (Zbc e d c b) λr=>K (r.1,()) (r.2,())⟩
def ZiQ (i:Zm):Option (Zu×Zm):=
(Zcu i [(105:UInt8),110,118] [(1:Int),0]).bind λa=>
(Zcu a.2 [(98:UInt8),117,102] [(0:Int),1]).bind λf=>
(Zcu f.2 [(110:UInt8),97,110,100] [(1:Int),1,1,0]).bind λg=>
(Zcu g.2 [(120:UInt8),111,114] [(0:Int),1,1,0]).bind λd=>
(Zcu d.2 [(109:UInt8),117,120] [(0:Int),1,0,1,0,0,1,1]).bind λc=>
(Zbc c.2 [(102:UInt8),108,111,112] (2:Int) (2:Int)).bind λb=>
(Zbc b.2 [(102:UInt8),108,111,112,110] (2:Int) (3:Int)).bind λe=>
(Zbc e.2 [(108:UInt8),97,116,99,104] (3:Int) (2:Int)).bind λh=>
some (([a.1,f.1,g.1,d.1,c.1,b.1,e.1,h.1],()),h.2)
def c10:Ctr:=⟨[.io (.flat (XY))],[.own (Zpb)],λa K=>Zr a λb a=>Yk (ZiQ b) λr=>K (r.1,()) (r.2,())⟩
def XO (b:Int->Option (List UInt8)) (a:Int):Option (List UInt8):=
if a<0 then
(b (Wq (0-a))).bind λc=>
Zy ((([(45:UInt8)].length):Int)+(c.length:Int)<=9223372036854775807)<|
some ([(45:UInt8)]++c)
else
if a<10 then
some (bytesOf [IntKind.wrap IntKind.u8 (Wq ((48:Int)+a))])
else
(b (Wq (Int.tdiv a 10))).bind λc=>
Zy ((c.length:Int)+(((bytesOf [IntKind.wrap IntKind.u8 (Wq ((48:Int)+Int.tmod a (10:Int)))]).length):Int)<=9223372036854775807)<|
some (c++bytesOf [IntKind.wrap IntKind.u8 (Wq ((48:Int)+Int.tmod a (10:Int)))])
def V6:Nat->Int->Option (List UInt8)
|0=>λ_=>none
|n+1=>XO (V6 n)
def Vw (a:Int):Option (List UInt8):=ZGW (λn=>V6 n a)
def ZdW (b:Int->Option (List UInt8)):Ctr:=⟨[.dat Iq],[.dat (.str)],λa K=>Zr a λc a=>Yk (b c) λr=>K (r,()) ()⟩
def c11:Ctr:=ZdW Vw
def Zgd (l:List Zd) (d:List (List UInt8)) (m g:Int) (c:List UInt8) (e:Int) (i:List Int) (j k:Int) (a:List Int):Option ((Int×(List Int)×Int×Int×(List Int)×Unit)⊕(((List Zd)×(List (List UInt8))×Int×(List Int)×Int×Int×Unit)⊕(Zb×Zm))):=
(atI ([(2:Int),2,3,3,4,3,3,3]) g).bind λn=>
if e<Wq (n-1)then
(Zl (i,j,k,()) (Wq ((d.length:Int)-1))).bind λf=>
(Zl f.2 3).bind λb=>
if b.1=0 then
if 5<=g then
if e=1 then
Zy ((([]:List Int).length+a.length)*8<=140737488355328)<|
Zy (((([]:List Int)++a).length+[(0:Int)].length)*8<=140737488355328)<|
some (.inl (Wq (e+1),b.2.1,b.2.2.1,b.2.2.2.1,([]:List Int)++a++[(0:Int)],()))
else
Zy ((([]:List Int).length+a.length)*8<=140737488355328)<|
Zy (((([]:List Int)++a).length+[Wq ((d.length:Int)-1)].length)*8<=140737488355328)<|
some (.inl (Wq (e+1),b.2.1,b.2.2.1,b.2.2.2.1,([]:List Int)++a++[Wq ((d.length:Int)-1)],()))
else
Zy ((([]:List Int).length+a.length)*8<=140737488355328)<|
Zy (((([]:List Int)++a).length+[Wq ((d.length:Int)-1)].length)*8<=140737488355328)<|
some (.inl (Wq (e+1),b.2.1,b.2.2.1,b.2.2.2.1,([]:List Int)++a++[Wq ((d.length:Int)-1)],()))
else
if 5<=g then
if e=1 then
Zy ((([]:List Int).length+a.length)*8<=140737488355328)<|
Zy (((([]:List Int)++a).length+[(0:Int)].length)*8<=140737488355328)<|
some (.inl (Wq (e+1),b.2.1,b.2.2.1,b.2.2.2.1,([]:List Int)++a++[(0:Int)],()))
else
Zy ((([]:List Int).length+a.length)*8<=140737488355328)<|
Zy (((([]:List Int)++a).length+[Wq ((1:Int)+f.1)].length)*8<=140737488355328)<|
some (.inl (Wq (e+1),b.2.1,b.2.2.1,b.2.2.2.1,([]:List Int)++a++[Wq ((1:Int)+f.1)],()))
else
Zy ((([]:List Int).length+a.length)*8<=140737488355328)<|
Zy (((([]:List Int)++a).length+[Wq ((1:Int)+f.1)].length)*8<=140737488355328)<|
some (.inl (Wq (e+1),b.2.1,b.2.2.1,b.2.2.2.1,([]:List Int)++a++[Wq ((1:Int)+f.1)],()))
else
Zy ((([]:List Int).length+a.length)*8<=140737488355328)<|
Zy (((([]:List Int)++a).length+[(d.length:Int)].length)*8<=140737488355328)<|
(Vw (d.length:Int)).bind λh=>
Zy ((([(110:UInt8)].length):Int)+(h.length:Int)<=9223372036854775807)<|
Zy ((d.length+[[(110:UInt8)]++h].length)*16<=140737488355328)<|
Zy ((l.length+[([(117:UInt8)]++c,g,([]:List Int)++a++[(d.length:Int)],())].length)*48<=140737488355328)<|
some (.inr (.inl (l++[([(117:UInt8)]++c,g,([]:List Int)++a++[(d.length:Int)],())],d++[[(110:UInt8)]++h],Wq (m-1),i,j,k,())))
def Zge (k:Bool) (e:List (List UInt8)) (d:Int) (j:List Int) (g h:Int) (f:List (List UInt8×Int×List Int×Unit)):Option ((Int×(List Int)×Int×Int×(List (List UInt8×Int×List Int×Unit))×Unit)⊕(((List Zd)×(List (List UInt8))×Int×(List Int)×Int×Int×Unit)⊕(Zb×Zm))):=
if d<(f.length:Int)then
(Zl (j,g,h,()) 4).bind λc=>
if c.1=0 then
(atI f d).bind λb=>
if b.2.1=5 then
(Zl c.2 (Wq ((e.length:Int)-1))).bind λa=>
(atI b.2.2.1 0).bind λi=>
some (.inl (Wq (d+1),a.2.1,a.2.2.1,a.2.2.2.1,List.set f (Int.toNat d) (b.1,b.2.1,List.set b.2.2.1 (Int.toNat 0) (Wq (1+a.1)),()),()))
else
if b.2.1=6 then
(Zl c.2 (Wq ((e.length:Int)-1))).bind λa=>
(atI b.2.2.1 0).bind λi=>
some (.inl (Wq (d+1),a.2.1,a.2.2.1,a.2.2.2.1,List.set f (Int.toNat d) (b.1,b.2.1,List.set b.2.2.1 (Int.toNat 0) (Wq (1+a.1)),()),()))
else
if k then
(Zl c.2 (Wq ((e.length:Int)-1))).bind λa=>
(atI b.2.2.1 0).bind λi=>
some (.inl (Wq (d+1),a.2.1,a.2.2.1,a.2.2.2.1,List.set f (Int.toNat d) (b.1,b.2.1,List.set b.2.2.1 (Int.toNat 0) (Wq (1+a.1)),()),()))
else
some (.inl (Wq (d+1),c.2.1,c.2.2.1,c.2.2.2.1,List.set f (Int.toNat d) b,()))
else
some (.inl (Wq (d+1),c.2.1,c.2.2.1,c.2.2.2.1,f,()))
else
Zy (((([]:List (List UInt8×Int×Int×Unit))++[([(99:UInt8),107],(1:Int),(0:Int),()),([(97:UInt8)],(1:Int),(1:Int),()),([(98:UInt8)],(1:Int),(2:Int),())]).length+[([(121:UInt8)],(2:Int),Wq ((e.length:Int)-1),())].length)*32<=140737488355328)<|
(Zl (j,g,h,()) 2).bind λc=>
if c.1=0 then
(Zl c.2 (Wq ((e.length:Int)-1))).bind λa=>
Zy (((([]:List (List UInt8×Int×Int×Unit))++[([(99:UInt8),107],(1:Int),(0:Int),()),([(97:UInt8)],(1:Int),(1:Int),()),([(98:UInt8)],(1:Int),(2:Int),())]++[([(121:UInt8)],(2:Int),Wq ((e.length:Int)-1),())]).length+[([(122:UInt8)],(2:Int),Wq ((1:Int)+a.1),())].length)*32<=140737488355328)<|
some (.inr (.inr ((f,e,([]:List (List UInt8×Int×Int×Unit))++[([(99:UInt8),107],(1:Int),(0:Int),()),([(97:UInt8)],(1:Int),(1:Int),()),([(98:UInt8)],(1:Int),(2:Int),())]++[([(121:UInt8)],(2:Int),Wq ((e.length:Int)-1),())]++[([(122:UInt8)],(2:Int),Wq ((1:Int)+a.1),())],()),a.2)))
else
some (.inr (.inr ((f,e,([]:List (List UInt8×Int×Int×Unit))++[([(99:UInt8),107],(1:Int),(0:Int),()),([(97:UInt8)],(1:Int),(1:Int),()),([(98:UInt8)],(1:Int),(2:Int),())]++[([(121:UInt8)],(2:Int),Wq ((e.length:Int)-1),())],()),c.2)))
def Zgf (j:Bool) (b:List Zd) (e:List (List UInt8)) (d:Int) (g:List Int) (h c:Int):Option (((List Zd)×(List (List UInt8))×Int×(List Int)×Int×Int×Unit)⊕(Zb×Zm)):=
if 0<d then
(Zl (g,h,c,()) 12).bind λa=>
(atI ([(0:Int),1,2,2,3,4,5,5,5,6,7,1]) a.1).bind λi=>
(Vw (b.length:Int)).bind λf=>
Zy ((([(117:UInt8)].length):Int)+(f.length:Int)<=9223372036854775807)<|
ZA (λv=>Zgd b e d i f v.1 v.2.1 v.2.2.1 v.2.2.2.1 v.2.2.2.2.1) ((0:Int),a.2.1,a.2.2.1,a.2.2.2.1,([]:List Int),())
else
ZA (λv=>Zge j e v.1 v.2.1 v.2.2.1 v.2.2.2.1 v.2.2.2.2.1) ((0:Int),g,h,c,b,())
def ZiS (d:Zm) (b:Int) (c:Bool):Option (Zb×Zm):=
(Zl d (Wq (b-1))).bind λa=>
ZA (λv=>Zgf c v.1 v.2.1 v.2.2.1 v.2.2.2.1 v.2.2.2.2.1 v.2.2.2.2.2.1) (([]:List Zd),([]:List (List UInt8))++[[(110:UInt8),99,107],[(110:UInt8),97],[(110:UInt8),98]],Wq ((2:Int)+a.1),a.2.1,a.2.2.1,a.2.2.2.1,())
def c12:Ctr:=⟨[.io (.flat (XY)),.dat Iq,.dat (.bool)],[.own (ZpA)],λa K=>Zr a λb a=>Zr a λc a=>Zr a λd a=>Yk (ZiS b c d) λr=>K (r.1,()) (r.2,())⟩
def Zeq (c:Int) (b:Zd) (d:List ZG) (a:Int):Option (((List ZG)×Int×Unit)⊕(((List ZG)×Int×Unit)⊕List ZG)):=
if a<((Gc b).length:Int)then
(atI (Gc b) a).bind λe=>
Zy ((d.length+[(c,a,e,decide (a=Wq (((Gc b).length:Int)-1)),())].length)*32<=140737488355328)<|
some (.inl (d++[(c,a,e,decide (a=Wq (((Gc b).length:Int)-1)),())],Wq (a+1),()))
else
some (.inr (.inl (d,Wq (c+1),())))
def Zer (d:Zb) (c:List ZG) (a:Int):Option (((List ZG)×Int×Unit)⊕(((List ZG)×Int×Unit)⊕List ZG)):=
if a<((Ge d).length:Int)then
(atI (Ge d) a).bind λb=>
Zy ((c.length+[((-1:Int),a,GK b,decide (GF b=1),())].length)*32<=140737488355328)<|
some (.inl (c++[((-1:Int),a,GK b,decide (GF b=1),())],Wq (a+1),()))
else
some (.inr (.inr c))
def Zes (b:Zb) (c:List ZG) (a:Int):Option (((List ZG)×Int×Unit)⊕List ZG):=
if a<((K3 b).length:Int)then
(atI (K3 b) a).bind λd=>
ZA (λv=>Zeq a d v.1 v.2.1) (c,(0:Int),())
else
ZA (λv=>Zer b v.1 v.2.1) (c,(0:Int),())
def YJ (a:Zb):Option (List ZG):=
ZA (λv=>Zes a v.1 v.2.1) (([]:List (Int×Int×Int×Bool×Unit)),(0:Int),())
def c13:Ctr:=⟨[.dat (YN)],[.own (.ol 117 (.flat (Zgm)))],λa K=>Zr a λb a=>Yk (YJ b) λr=>K (r,()) ()⟩
def Zfc (d:Int) (a:List ZG) (b:List Int) (c:Int):Option (((List Int)×Int×Unit)⊕List Int):=
if c<(a.length:Int)then
(atI a c).bind λe=>
if ZG.net e=d then
if(GX e)=true then
some (.inl (b,Wq (c+1),()))
else
Zy ((b.length+[c].length)*8<=140737488355328)<|
some (.inl (b++[c],Wq (c+1),()))
else
some (.inl (b,Wq (c+1),()))
else
some (.inr b)
def Xv (b:Zb) (a:Int):Option (List Int):=
(YJ b).bind λc=>
ZA (λv=>Zfc a c v.1 v.2.1) (([]:List Int),(0:Int),())
def c14:Ctr:=⟨[.dat (YN),.dat Iq],[.own (.ol 2 (.flat Iq))],λa K=>Zr a λc a=>Zr a λb a=>Yk (Xv c b) λr=>K (r,()) ()⟩
def Zav (a b:Int):Option Zq:=
Zy ((0:Int)<=a)<|
Zy (a<=a)<|
Zy (a<=4611686018427387904)<|
Zy (((8:Nat):Int)*a<=281474976710656)<|
some ([(-1:Int)],[(0:Int)],[b],List.replicate (Int.toNat a) (0:Int),())
def c15:Ctr:=⟨[.dat Iq,.dat Iq],[.own (ZoN)],λa K=>Zr a λb a=>Zr a λc a=>Yk (Zav b c) λr=>K (r,()) ()⟩
def Xc (a:List Int):Option (List Int):=
Zy ((([]:List Int).length+a.length)*8<=140737488355328)<|
some (([]:List Int)++a)
def c16:Ctr:=⟨[.dat (.sl Iq)],[.own (.ol 2 (.flat Iq))],λa K=>Zr a λb a=>Yk (Xc b) λr=>K (r,()) ()⟩
def Zdh (f h i:List Int) (b:Int) (e:List Int) (d g:Int) (c:List Int):Option ((Int×(List Int)×Int×Int×(List Int)×Unit)⊕((Int×(List Int)×Int×Int×(List Int)×(List Int)×(List Int)×(List Int)×Unit)⊕(Zq×Zm))):=
if b<(c.length:Int)then
(Zl (e,d,g,()) (f.length:Int)).bind λa=>
(atI c b).bind λj=>
some (.inl (Wq (b+1),a.2.1,a.2.2.1,a.2.2.2.1,List.set c (Int.toNat b) a.1,()))
else
some (.inr (.inr ((f,h,i,c,()),(e,d,g,()))))
def Zdi (g:Int) (m:List Int) (n k:Int) (b h i j:List Int):Option ((Int×(List Int)×Int×Int×(List Int)×(List Int)×(List Int)×(List Int)×Unit)⊕(Zq×Zm)):=
if 0<g then
(Xc b).bind λe=>
(Zl (m,n,k,()) (b.length:Int)).bind λd=>
Zy ((e.length+[d.1].length)*8<=140737488355328)<|
(Xc h).bind λl=>
(Zl d.2 400).bind λc=>
Zy ((l.length+[c.1].length)*8<=140737488355328)<|
(Xc i).bind λf=>
(Zl c.2 8).bind λa=>
Zy ((f.length+[a.1].length)*8<=140737488355328)<|
some (.inl (Wq (g-1),a.2.1,a.2.2.1,a.2.2.2.1,e++[d.1],l++[c.1],f++[a.1],j,()))
else
ZA (λv=>Zdh b h i v.1 v.2.1 v.2.2.1 v.2.2.2.1 v.2.2.2.2.1) ((0:Int),m,n,k,j,())
def Vb (e:Zm) (a:Int):Option (Zq×Zm):=
(Zl e 6).bind λd=>
(Zav a d.1).bind λb=>
(Zl d.2 4).bind λc=>
ZA (λv=>Zdi v.1 v.2.1 v.2.2.1 v.2.2.2.1 v.2.2.2.2.1 v.2.2.2.2.2.1 v.2.2.2.2.2.2.1 v.2.2.2.2.2.2.2.1) (c.1,c.2.1,c.2.2.1,c.2.2.2.1,K8 b,GB b,GE b,Gu b,())
def c17:Ctr:=⟨[.io (.flat (XY)),.dat Iq],[.own (ZoN)],λa K=>Zr a λc a=>Zr a λb a=>Yk (Vb c b) λr=>K (r.1,()) (r.2,())⟩
def Zgg (c:Zu×Zm) (a:Zb×Zm) (b:List Zq) (d:Int) (g:List Int) (h f:Int):Option (((List Zq)×Int×(List Int)×Int×Int×Unit)⊕(Za×Zm)):=
if d<(a.1.2.1.length:Int)then
(Xv a.1 d).bind λi=>
(Vb (g,h,f,()) (i.length:Int)).bind λe=>
Zy ((b.length+[e.1].length)*96<=140737488355328)<|
some (.inl (b++[e.1],Wq (d+1),e.2.1,e.2.2.1,e.2.2.2.1,()))
else
some (.inr ((c.1,a.1,b,()),(g,h,f,())))
def Zau (e:Zm) (a:Int) (b:Bool):Option (Za×Zm):=
(ZiQ e).bind λd=>
(ZiS d.2 a b).bind λc=>
ZA (λv=>Zgg d c v.1 v.2.1 v.2.2.1 v.2.2.2.1 v.2.2.2.2.1) (([]:List Zq),(0:Int),c.2.1,c.2.2.1,c.2.2.2.1,())
def c18:Ctr:=⟨[.io (.flat (XY)),.dat Iq,.dat (.bool)],[.own (Zex)],λa K=>Zr a λd a=>Zr a λb a=>Zr a λc a=>Yk (Zau d b c) λr=>K (r.1,()) (r.2,())⟩
def Zcj (i:Zm):Option (Za×Zm):=
(Zl i 3).bind λg=>
(Zau g.2 6 (decide (g.1=0))).bind λa=>
(Zl a.2 (a.1.2.2.1.length:Int)).bind λd=>
(Zl d.2 20).bind λc=>
if c.1=0 then
Zy ((1:Int)<=(a.1.2.2.1.length:Int))<|
Zy ((a.1.2.2.1.length:Int)<=(a.1.2.2.1.length:Int))<|
some ((a.1.1,a.1.2.1,List.take (Int.toNat (a.1.2.2.1.length:Int)-Int.toNat 1) (List.drop (Int.toNat 1) a.1.2.2.1),()),c.2)
else
if c.1=1 then
(atI a.1.2.2.1 d.1).bind λb=>
(Xc b.2.2.2.1).bind λh=>
Zy ((h.length+[(0:Int)].length)*8<=140737488355328)<|
some ((a.1.1,a.1.2.1,List.set a.1.2.2.1 (Int.toNat d.1) (b.1,b.2.1,b.2.2.1,h++[(0:Int)],()),()),c.2)
else
if c.1=2 then
(atI a.1.2.2.1 d.1).bind λb=>
(atI b.2.1 0).bind λf=>
some ((a.1.1,a.1.2.1,List.set a.1.2.2.1 (Int.toNat d.1) (b.1,List.set b.2.1 (Int.toNat 0) 1,b.2.2),()),c.2)
else
if c.1=3 then
(atI a.1.2.2.1 d.1).bind λb=>
(Zl c.2 3).bind λe=>
(atI ([(-1:Int),500,501]) e.1).bind λf=>
(atI b.2.2.1 0).bind λj=>
some ((a.1.1,a.1.2.1,List.set a.1.2.2.1 (Int.toNat d.1) (b.1,b.2.1,List.set b.2.2.1 (Int.toNat 0) f,b.2.2.2),()),e.2)
else
if c.1=4 then
(atI a.1.2.2.1 d.1).bind λb=>
(Zl c.2 5).bind λe=>
(atI b.1 (Wq ((b.1.length:Int)-1))).bind λf=>
some ((a.1.1,a.1.2.1,List.set a.1.2.2.1 (Int.toNat d.1) (List.set b.1 (Int.toNat (Wq ((b.1.length:Int)-1))) (Wq (e.1-1)),b.2),()),e.2)
else
if c.1=5 then
(atI a.1.2.1.2.2.1 0).bind λb=>
some ((a.1.1,(a.1.2.1.1,a.1.2.1.2.1,List.set a.1.2.1.2.2.1 (Int.toNat 0) (GT b,3,b.2.2),()),a.1.2.2),c.2)
else
some (a.1,c.2)
def c19:Ctr:=⟨[.io (.flat (XY))],[.own (Zex)],λa K=>Zr a λb a=>Yk (Zcj b) λr=>K (r.1,()) (r.2,())⟩
def Zgb (c:List UInt8) (a:Int):Option ((Int×Unit)⊕Bool):=
if a<(c.length:Int)then
(atI c a).bind λb=>
if 97<=((UInt8.toNat b):Int)then
if 48<=((UInt8.toNat b):Int)then
if((UInt8.toNat b):Int)<=122 then
some (.inl (Wq (a+1),()))
else
if((UInt8.toNat b):Int)<=57 then
if 0<a then
some (.inl (Wq (a+1),()))
else
some (.inr false)
else
some (.inr false)
else
if((UInt8.toNat b):Int)<=122 then
some (.inl (Wq (a+1),()))
else
some (.inr false)
else
if 48<=((UInt8.toNat b):Int)then
if((UInt8.toNat b):Int)<=57 then
if 0<a then
some (.inl (Wq (a+1),()))
else
some (.inr false)
else
some (.inr false)
else
some (.inr false)
else
if 1<=(c.length:Int)then
some (.inr (decide ((c.length:Int)<=8)))
else
some (.inr false)
def Zcv (a:List UInt8):Option Bool:=
ZA (λv=>Zgb a v.1) ((0:Int),())
def c20:Ctr:=D1 (.str) (.bool) Zcv
def Z4 (c b a:Int):Option Bool:=
if b<=c then
some (decide (c<=a))
else
some false
def c21:Ctr:=D3 Iq Iq Iq (.bool) Z4
def J2 (d:Zo) (c b:Int) (a:XT) (e:Int):Option ((Int×Unit)⊕((Int×Int×Unit)⊕(Int×Bool))):=
if e<b then
(atI (Gb d) e).bind λf=>
if GN f=GN a then
some (.inr (.inr (0,false)))
else
some (.inl (Wq (e+1),()))
else
(Zcv (GN a)).bind λg=>
if g then
(Z4 (G2 a) 0 500).bind λh=>
if h then
if b=Wq (((Gb d).length:Int)-1)then
if G9 a=2 then
if G2 a=0 then
if(Gn a)=true then
some (.inr (.inr (0,false)))
else
if b<Wq (((Gb d).length:Int)-1)then
if G9 a=1 then
if(Gn a)=true then
some (.inr (.inl (Wq (c+1),Wq (b+1),())))
else
some (.inr (.inl (c,Wq (b+1),())))
else
some (.inr (.inr (0,false)))
else
if(Gn a)=true then
some (.inr (.inl (Wq (c+1),Wq (b+1),())))
else
some (.inr (.inl (c,Wq (b+1),())))
else
some (.inr (.inr (0,false)))
else
some (.inr (.inr (0,false)))
else
if b<Wq (((Gb d).length:Int)-1)then
if G9 a=1 then
if(Gn a)=true then
some (.inr (.inl (Wq (c+1),Wq (b+1),())))
else
some (.inr (.inl (c,Wq (b+1),())))
else
some (.inr (.inr (0,false)))
else
if(Gn a)=true then
some (.inr (.inl (Wq (c+1),Wq (b+1),())))
else
some (.inr (.inl (c,Wq (b+1),())))
else
some (.inr (.inr (0,false)))
else
some (.inr (.inr (0,false)))
def Zbz (b:Zo) (c a:Int):Option ((Int×Int×Unit)⊕(Int×Bool)):=
if a<((Gb b).length:Int)then
(atI (Gb b) a).bind λd=>
ZA (λv=>J2 b c a d v.1) ((0:Int),())
else
some (.inr (c,true))
def ZiR (a:Zo):Option (Int×Bool):=
if((Gb a).length:Int)<2 then
some (0,false)
else
if 5<((Gb a).length:Int)then
some (0,false)
else
ZA (λv=>Zbz a v.1 v.2.1) ((0:Int),(0:Int),())
def c22:Ctr:=⟨[.dat (Zcq)],[.dat Iq,.dat (.bool)],λa K=>Zr a λb a=>Yk (ZiR b) λr=>K (r.1,r.2,()) ()⟩
def Zf7 (a:List Int) (b:Int):Option ((Int×Unit)⊕Bool):=
if b<(a.length:Int)then
(atI a b).bind λc=>
(Z4 c 0 100000).bind λe=>
if e then
if 0<b then
(atI a (Wq (b-1))).bind λd=>
if c<=d then
some (.inr false)
else
some (.inl (Wq (b+1),()))
else
some (.inl (Wq (b+1),()))
else
some (.inr false)
else
if 1<=(a.length:Int)then
some (.inr (decide ((a.length:Int)<=4)))
else
some (.inr false)
def Zhf (a:List Int):Option Bool:=
ZA (λv=>Zf7 a v.1) ((0:Int),())
def c23:Ctr:=D1 (.sl Iq) (.bool) Zhf
def Zf3 (b:ZE) (a:Int):Option ((Int×Unit)⊕Bool):=
if a<((Gz b).length:Int)then
(atI (Gz b) a).bind λd=>
(Z4 d (-1000000) 1000000).bind λc=>
if c then
some (.inl (Wq (a+1),()))
else
some (.inr false)
else
some (.inr true)
def ZiP (a:ZE):Option Bool:=
(Zhf (GS a)).bind λc=>
if c then
(Zhf (GA a)).bind λb=>
if b then
if((Gz a).length:Int)=Wq (((GS a).length:Int)*((GA a).length:Int))then
ZA (λv=>Zf3 a v.1) ((0:Int),())
else
some false
else
some false
else
some false
def c24:Ctr:=D1 (Zaw) (.bool) ZiP
def Za0 (e:ZE) (a d c:Int):Option ((Int×Int×Int×Unit)⊕(ZC×Int)):=
if a<((Gz e).length:Int)then
(atI (Gz e) a).bind λb=>
some (.inl (Wq (a+1),Min.min d b,Max.max c b,()))
else
some (.inr ((d,c,()),0))
def ZeO (a:ZE):Option (ZC×Int):=
(ZiP a).bind λc=>
if c then
(atI (Gz a) 0).bind λb=>
ZA (λv=>Za0 a v.1 v.2.1 v.2.2.1) ((1:Int),b,b,())
else
some ((0,0,()),1)
def c25:Ctr:=⟨[.dat (Zaw)],[.dat (Zaa),.dat Iq],λa K=>Zr a λb a=>Yk (ZeO b) λr=>K (r.1,r.2,()) ()⟩
def Zeo (c:List ZE) (a:Bool) (b:Int):Option ((Int×Unit)⊕Bool):=
if b<2 then
(atI c b).bind λe=>
(ZeO e).bind λd=>
if d.2=0 then
if a then
if d.1.1<0 then
some (.inr false)
else
some (.inl (Wq (b+1),()))
else
some (.inl (Wq (b+1),()))
else
some (.inr false)
else
some (.inr true)
def Xj (b:List ZE) (a:Bool):Option Bool:=
if(b.length:Int)=2 then
ZA (λv=>Zeo b a v.1) ((0:Int),())
else
some false
def c26:Ctr:=D2 (.sl (Zaw)) (.bool) (.bool) Xj
def Zj8 (b:Zo) (a:ZK):Option Bool:=
(Z4 (Gs a) 0 (Wq (Wq (((Gb b).length:Int)-1)-1))).bind λg=>
if g then
(Z4 (Gw a) 0 (Wq (((Gb b).length:Int)-1))).bind λh=>
if h then
(atI (Gb b) (Gs a)).bind λe=>
if Gf a=1 then
if(Gn e)=true then
some false
else
if Gw a=Wq (((Gb b).length:Int)-1)then
(Z4 (GH a) 1 3).bind λi=>
if i then
(Xj (GJ a) true).bind λc=>
if c then
(Xj (GQ a) true).bind λf=>
some f
else
some false
else
some false
else
some false
else
if Gf a=2 then
if Gf a=2 then
if(Gn e)=true then
if Gw a=Wq (((Gb b).length:Int)-1)then
if GH a=0 then
(Xj (GJ a) true).bind λc=>
if c then
(Xj (GQ a) true).bind λf=>
some f
else
some false
else
some false
else
some false
else
some false
else
if Gf a=4 then
if Gf a=4 then
if(Gn e)=true then
if Gw a<Wq (((Gb b).length:Int)-1)then
(atI (Gb b) (Gw a)).bind λd=>
if(Gn d)=true then
some false
else
if GH a=0 then
(Xj (GJ a) false).bind λc=>
if c then
some (decide (((GQ a).length:Int)=0))
else
some false
else
some false
else
some false
else
some false
else
some false
else
if Gf a=5 then
if(Gn e)=true then
if Gw a<Wq (((Gb b).length:Int)-1)then
(atI (Gb b) (Gw a)).bind λd=>
if(Gn d)=true then
some false
else
if GH a=0 then
(Xj (GJ a) false).bind λc=>
if c then
some (decide (((GQ a).length:Int)=0))
else
some false
else
some false
else
some false
else
some false
else
some false
else
if Gf a=3 then
if(Gn e)=true then
if Gw a=Wq (((Gb b).length:Int)-1)then
if GH a=0 then
(Xj (GJ a) true).bind λc=>
if c then
(Xj (GQ a) true).bind λf=>
some f
else
some false
else
some false
else
some false
else
some false
else
if Gf a=4 then
if Gf a=4 then
if(Gn e)=true then
if Gw a<Wq (((Gb b).length:Int)-1)then
(atI (Gb b) (Gw a)).bind λd=>
if(Gn d)=true then
some false
else
if GH a=0 then
(Xj (GJ a) false).bind λc=>
if c then
some (decide (((GQ a).length:Int)=0))
else
some false
else
some false
else
some false
else
some false
else
some false
else
if Gf a=5 then
if(Gn e)=true then
if Gw a<Wq (((Gb b).length:Int)-1)then
(atI (Gb b) (Gw a)).bind λd=>
if(Gn d)=true then
some false
else
if GH a=0 then
(Xj (GJ a) false).bind λc=>
if c then
some (decide (((GQ a).length:Int)=0))
else
some false
else
some false
else
some false
else
some false
else
some false
else
some false
else
some false
def c27:Ctr:=D2 (Zcq) (Zof) (.bool) Zj8
def ZcM (d:Zo) (a:Int) (b:List Int):Option ((Int×(List Int)×Unit)⊕List Int):=
if a<((Gp d).length:Int)then
(atI (Gp d) a).bind λc=>
(atI b (Gf c)).bind λe=>
some (.inl (Wq (a+1),List.set b (Int.toNat (Gf c)) (Wq (e+1)),()))
else
some (.inr b)
def ZhN (a:Zo):Option (List Int):=
ZA (λv=>ZcM a v.1 v.2.1) ((0:Int),List.replicate (Int.toNat (6:Int)) (0:Int),())
def c28:Ctr:=⟨[.dat (Zcq)],[.own (.ol 2 (.flat Iq))],λa K=>Zr a λb a=>Yk (ZhN b) λr=>K (r,()) ()⟩
def Zd7 (e:Zo) (d:Int) (c:ZK) (a:Int):Option ((Int×Unit)⊕((Int×Unit)⊕Bool)):=
if a<d then
(atI (Gp e) a).bind λb=>
if Gf b=Gf c then
if Gs b=Gs c then
if Gw b=Gw c then
some (.inr (.inr false))
else
some (.inl (Wq (a+1),()))
else
some (.inl (Wq (a+1),()))
else
some (.inl (Wq (a+1),()))
else
some (.inr (.inl (Wq (d+1),())))
def Zd8 (b:Zo) (a:Int×Bool) (c:Int):Option ((Int×Unit)⊕((Int×Unit)⊕Bool)):=
if c<((GD b).length:Int)then
(atI (GD b) c).bind λe=>
(Z4 e 0 1).bind λd=>
if d then
some (.inl (Wq (c+1),()))
else
some (.inr (.inr false))
else
if a.1=0 then
Zy ((0:Int)<=IntKind.wrap IntKind.u64 (Wq (((Gb b).length:Int)-1)))<|
some (.inr (.inr (decide (((GD b).length:Int)=Wq (1*2^Min.min (Int.toNat (IntKind.wrap IntKind.u64 (Wq (((Gb b).length:Int)-1)))) (IntKind.bits IntKind.i64))))))
else
some (.inr (.inr false))
def ZgJ (b:Zo) (a:Int×Bool) (g:Int):Option ((Int×Unit)⊕Bool):=
if g<((Gp b).length:Int)then
(atI (Gp b) g).bind λc=>
(Zj8 b c).bind λh=>
if h then
ZA (λv=>Zd7 b g c v.1) ((0:Int),())
else
some (.inr false)
else
(ZhN b).bind λd=>
if GI b=1 then
ZA (λv=>Zd8 b a v.1) ((0:Int),())
else
if GI b=2 then
if a.1=1 then
(atI d 1).bind λc=>
if c=0 then
(atI d 2).bind λf=>
(atI d 3).bind λe=>
if(decide (0<f)==decide (0<e))=true then
some (.inr false)
else
some (.inr (decide (((GD b).length:Int)=0)))
else
some (.inr false)
else
some (.inr false)
else
if GI b=3 then
if a.1=1 then
(atI d 1).bind λc=>
if 0<c then
(atI d 2).bind λf=>
if 0<f then
(atI d 3).bind λe=>
if e=0 then
some (.inr (decide (((GD b).length:Int)=0)))
else
some (.inr false)
else
some (.inr false)
else
some (.inr false)
else
some (.inr false)
else
some (.inr false)
def Zj6 (a:Zo):Option Bool:=
(ZiR a).bind λb=>
if b.2 then
(Zcv (GV a)).bind λd=>
if d then
if 8<((Gp a).length:Int)then
some false
else
(Z4 (Ha a) 0 100000).bind λe=>
if e then
(Z4 (Hb a) 0 100000).bind λc=>
if c then
ZA (λv=>ZgJ a b v.1) ((0:Int),())
else
some false
else
some false
else
some false
else
some false
def c29:Ctr:=D1 (Zcq) (.bool) Zj6
def Zem (e:Zu) (b:Int) (d:Zo) (a:Int):Option ((Int×Unit)⊕((Int×Unit)⊕Bool)):=
if a<b then
(atI (Gd e) a).bind λc=>
if GV c=GV d then
some (.inr (.inr false))
else
some (.inl (Wq (a+1),()))
else
some (.inr (.inl (Wq (b+1),())))
def Zen (a:Zu) (b:Int):Option ((Int×Unit)⊕Bool):=
if b<((Gd a).length:Int)then
(atI (Gd a) b).bind λc=>
(Zj6 c).bind λd=>
if d then
ZA (λv=>Zem a b c v.1) ((0:Int),())
else
some (.inr false)
else
some (.inr (decide (((Gd a).length:Int)<=8)))
def Zg1 (a:Zu):Option Bool:=
ZA (λv=>Zen a v.1) ((0:Int),())
def c30:Ctr:=D1 (X9) (.bool) Zg1
def Ze9 (c:Zb) (e:Int) (b:Zd) (a:Int):Option ((Int×Unit)⊕((Int×Unit)⊕Bool)):=
if a<((Gc b).length:Int)then
(atI (Gc b) a).bind λf=>
(Z4 f 0 (Wq (((K5 c).length:Int)-1))).bind λd=>
if d then
some (.inl (Wq (a+1),()))
else
some (.inr (.inr false))
else
some (.inr (.inl (Wq (e+1),())))
def Zfa (a:Zb) (b:Int):Option ((Int×Unit)⊕((Int×Unit)⊕Bool)):=
if b<((Ge a).length:Int)then
(atI (Ge a) b).bind λc=>
(Z4 (GF c) 1 2).bind λd=>
if d then
(Z4 (GK c) 0 (Wq (((K5 a).length:Int)-1))).bind λe=>
if e then
some (.inl (Wq (b+1),()))
else
some (.inr (.inr false))
else
some (.inr (.inr false))
else
some (.inr (.inr true))
def Zfb (d:Zu) (b:Zb) (c:Int):Option ((Int×Unit)⊕Bool):=
if c<((K3 b).length:Int)then
(atI (K3 b) c).bind λa=>
(Z4 (Gr a) 0 (Wq (((Gd d).length:Int)-1))).bind λf=>
if f then
(atI (Gd d) (Gr a)).bind λe=>
if((Gc a).length:Int)=((Gb e).length:Int)then
ZA (λv=>Ze9 b c a v.1) ((0:Int),())
else
some (.inr false)
else
some (.inr false)
else
ZA (λv=>Zfa b v.1) ((0:Int),())
def ZhO (b:Zu) (a:Zb):Option Bool:=
ZA (λv=>Zfb b a v.1) ((0:Int),())
def c31:Ctr:=D2 (X9) (YN) (.bool) ZhO
def Ze7 (a:List (List UInt8)) (c:Int) (e:List UInt8) (b:Int):Option ((Int×Unit)⊕((Int×Unit)⊕Bool)):=
if b<c then
(atI a b).bind λd=>
if d=e then
some (.inr (.inr false))
else
some (.inl (Wq (b+1),()))
else
some (.inr (.inl (Wq (c+1),())))
def Ze8 (a:List (List UInt8)) (b:Int):Option ((Int×Unit)⊕Bool):=
if b<(a.length:Int)then
(atI a b).bind λc=>
(Zcv c).bind λd=>
if d then
ZA (λv=>Ze7 a b c v.1) ((0:Int),())
else
some (.inr false)
else
some (.inr true)
def Zea (a:List (List UInt8)):Option Bool:=
ZA (λv=>Ze8 a v.1) ((0:Int),())
def c32:Ctr:=D1 (.sl (.str)) (.bool) Zea
def Ze2 (b:List Int) (a:Int):Option ((Int×Unit)⊕((Int×(List Int)×Unit)⊕((Int×(List Int)×Unit)⊕(((List (List UInt8))×Int×Unit)⊕(((List (List UInt8))×Int×Unit)⊕Bool))))):=
if a<(b.length:Int)then
(atI b a).bind λc=>
if c=1 then
some (.inl (Wq (a+1),()))
else
some (.inr (.inr (.inr (.inr (.inr false)))))
else
some (.inr (.inr (.inr (.inr (.inr true)))))
def ZaQ (d:Zb) (b:Int) (a:List Int):Option ((Int×(List Int)×Unit)⊕((Int×(List Int)×Unit)⊕(((List (List UInt8))×Int×Unit)⊕(((List (List UInt8))×Int×Unit)⊕Bool)))):=
if b<((Ge d).length:Int)then
(atI (Ge d) b).bind λc=>
if GF c=1 then
(atI a (GK c)).bind λe=>
some (.inl (Wq (b+1),List.set a (Int.toNat (GK c)) (Wq (e+1)),()))
else
some (.inl (Wq (b+1),a,()))
else
ZA (λv=>Ze2 a v.1) ((0:Int),())
def ZaR (a:Zb) (b:Int) (c:List Int):Option ((Int×(List Int)×Unit)⊕(((List (List UInt8))×Int×Unit)⊕(((List (List UInt8))×Int×Unit)⊕Bool))):=
if b<((K3 a).length:Int)then
(atI (K3 a) b).bind λe=>
(atI (Gc e) (Wq (((Gc e).length:Int)-1))).bind λd=>
(atI c d).bind λf=>
some (.inl (Wq (b+1),List.set c (Int.toNat d) (Wq (f+1)),()))
else
ZA (λv=>ZaQ a v.1 v.2.1) ((0:Int),c,())
def Ze3 (a:Zb) (f c:List (List UInt8)) (b:Int):Option (((List (List UInt8))×Int×Unit)⊕(((List (List UInt8))×Int×Unit)⊕Bool)):=
if b<((Ge a).length:Int)then
(atI (Ge a) b).bind λd=>
Zy ((c.length+[GT d].length)*16<=140737488355328)<|
some (.inl (c++[GT d],Wq (b+1),()))
else
(Zea f).bind λe=>
if e then
(Zea c).bind λg=>
if g then
(Zea (K5 a)).bind λh=>
if h then
Zy ((0:Int)<=((K5 a).length:Int))<|
Zy (((K5 a).length:Int)<=((K5 a).length:Int))<|
Zy (((K5 a).length:Int)<=4611686018427387904)<|
Zy (((8:Nat):Int)*((K5 a).length:Int)<=281474976710656)<|
ZA (λv=>ZaR a v.1 v.2.1) ((0:Int),List.replicate (Int.toNat ((K5 a).length:Int)) (0:Int),())
else
some (.inr (.inr false))
else
some (.inr (.inr false))
else
some (.inr (.inr false))
def Ze4 (a:Zb) (b:List (List UInt8)) (c:Int):Option (((List (List UInt8))×Int×Unit)⊕Bool):=
if c<((K3 a).length:Int)then
(atI (K3 a) c).bind λd=>
Zy ((b.length+[Gq d].length)*16<=140737488355328)<|
some (.inl (b++[Gq d],Wq (c+1),()))
else
ZA (λv=>Ze3 a b v.1 v.2.1) (([]:List (List UInt8)),(0:Int),())
def ZcL (b:Zu) (a:Zb):Option Bool:=
(Zg1 b).bind λc=>
if c then
if 14<((K3 a).length:Int)then
some false
else
if 30<((K5 a).length:Int)then
some false
else
if 8<((Ge a).length:Int)then
some false
else
(ZhO b a).bind λd=>
if d then
ZA (λv=>Ze4 a v.1 v.2.1) (([]:List (List UInt8)),(0:Int),())
else
some false
else
some false
def c33:Ctr:=D2 (X9) (YN) (.bool) ZcL
def ZgK (b:Zq) (a:Int):Option ((Int×Unit)⊕((Int×Unit)⊕Bool)):=
if a<((Gu b).length:Int)then
(atI (Gu b) a).bind λd=>
(Z4 d 0 (Wq (((K8 b).length:Int)-1))).bind λc=>
if c then
some (.inl (Wq (a+1),()))
else
some (.inr (.inr false))
else
some (.inr (.inr true))
def ZgL (b:Zq) (a:Int):Option ((Int×Unit)⊕Bool):=
if a<((K8 b).length:Int)then
(atI (GE b) a).bind λg=>
(Z4 g 0 500).bind λf=>
if f then
(atI (GB b) a).bind λe=>
(Z4 e 0 1000).bind λh=>
if h then
if a=0 then
(atI (K8 b) a).bind λc=>
if c=(-1)then
if e=0 then
if 0<a then
(Z4 c 0 (Wq (a-1))).bind λd=>
if d then
some (.inl (Wq (a+1),()))
else
some (.inr false)
else
some (.inl (Wq (a+1),()))
else
some (.inr false)
else
some (.inr false)
else
if 0<a then
(atI (K8 b) a).bind λc=>
(Z4 c 0 (Wq (a-1))).bind λd=>
if d then
some (.inl (Wq (a+1),()))
else
some (.inr false)
else
some (.inl (Wq (a+1),()))
else
some (.inr false)
else
some (.inr false)
else
ZA (λv=>ZgK b v.1) ((0:Int),())
def Zik (a:Zq) (b:Int):Option Bool:=
if((K8 a).length:Int)<1 then
some false
else
if 8<((K8 a).length:Int)then
some false
else
if((GB a).length:Int)=((K8 a).length:Int)then
if((GE a).length:Int)=((K8 a).length:Int)then
if((Gu a).length:Int)=b then
ZA (λv=>ZgL a v.1) ((0:Int),())
else
some false
else
some false
else
some false
def c34:Ctr:=D2 (ZbR) Iq (.bool) Zik
def Zf2 (b:Za) (a:Int):Option ((Int×Unit)⊕Bool):=
if a<((K4 b).length:Int)then
(atI (K4 b) a).bind λd=>
(Xv (K2 b) a).bind λc=>
(Zik d (c.length:Int)).bind λe=>
if e then
some (.inl (Wq (a+1),()))
else
some (.inr false)
else
some (.inr true)
def QV (a:Za):Option Bool:=
(ZcL (K6 a) (K2 a)).bind λb=>
if b then
if((K4 a).length:Int)=((K5 (K2 a)).length:Int)then
ZA (λv=>Zf2 a v.1) ((0:Int),())
else
some false
else
some false
def c35:Ctr:=D1 (Ya) (.bool) QV
def ZbA (b d:Int) (a:List ZG) (c:Int):Option ((Int×Unit)⊕Int):=
if c<(a.length:Int)then
(atI a c).bind λe=>
if GL e=b then
if ZG.pin e=d then
some (.inr c)
else
some (.inl (Wq (c+1),()))
else
some (.inl (Wq (c+1),()))
else
some (.inr (-1))
def JL (c:Zb) (a b:Int):Option Int:=
(YJ c).bind λd=>
ZA (λv=>ZbA a b d v.1) ((0:Int),())
def c36:Ctr:=D3 (YN) Iq Iq Iq JL
def Zdj (a:List ZG) (b:Int×Zm) (e f:Int):Option ((Int×Int×Unit)⊕(Int×Zm)):=
if f<(a.length:Int)then
(atI a e).bind λg=>
if(GX g)=true then
Zy ((a.length:Int)≠0)<|
some (.inl (Int.tmod (Wq (e+1)) (a.length:Int),Wq (f+1),()))
else
(Zl b.2 12).bind λc=>
if c.1=0 then
(Zl c.2 (Wq ((a.length:Int)+2))).bind λd=>
some (.inr (Wq (d.1-1),d.2))
else
some (.inr (e,c.2))
else
(Zl b.2 12).bind λc=>
if c.1=0 then
(Zl c.2 (Wq ((a.length:Int)+2))).bind λd=>
some (.inr (Wq (d.1-1),d.2))
else
some (.inr (e,c.2))
def XF (d:Zm) (c:Za):Option (Int×Zm):=
(YJ (K2 c)).bind λa=>
(Zl d (a.length:Int)).bind λb=>
ZA (λv=>Zdj a b v.1 v.2.1) (b.1,(0:Int),())
def c37:Ctr:=⟨[.io (.flat (XY)),.dat (Ya)],[.dat Iq],λa K=>Zr a λc a=>Zr a λb a=>Yk (XF c b) λr=>K (r.1,()) (r.2,())⟩
@[reducible] def Xb (a1:Za) (l05Places0:List ZG) (k p c n d:Int) (nm:List UInt8) (w:Zq) (s:Zm):Option (Zh×Zm):=
(Zl s (30:Int)).bind λy0=>
if y0.1=0 then
(Zl y0.2 (7:Int)).bind λy1=>
some ((y1.1,p,c,n,d,nm,w,()),y1.2)
else
if y0.1=1 then
(Zl y0.2 (10:Int)).bind λy1=>
some ((k,p,Wq (y1.1-1),n,d,nm,w,()),y1.2)
else
if y0.1=2 then
(Zl y0.2 (Wq (((K4 a1).length:Int)+2))).bind λy1=>
some ((k,p,c,Wq (y1.1-1),d,nm,w,()),y1.2)
else
if y0.1=3 then
(Zl y0.2 (Wq ((l05Places0.length:Int)+2))).bind λy1=>
some ((k,Wq (y1.1-1),c,n,d,nm,w,()),y1.2)
else
if y0.1=4 then
some ((k,p,c,n,d,[(66:UInt8),97,100],w,()),y0.2)
else
some ((k,p,c,n,d,nm,w,()),y0.2)
def ZbC (l:Zm) (b:Za):Option (Zh×Zm):=
(QV b).bind λn=>
if n then
if((K4 b).length:Int)=0 then
some ((3,0,0,0,0,[],([],[],[],[],()),()),l)
else
(YJ (K2 b)).bind λf=>
(Zl l (8:Int)).bind λc=>
if c.1=0 then
if c.1=0 then
(Zl c.2 ((K3 (K2 b)).length:Int)).bind λa=>
(atI (K3 (K2 b)) a.1).bind λg=>
(JL (K2 b) a.1 (Wq (((Gc g).length:Int)-1))).bind λk=>
(atI ([(1:Int),0,3,2,4,6,5,7]) (Int.tmod (Gr g) (8:Int))).bind λm=>
Xb b f (1:Int) k m (0:Int) (0:Int) ([]:List UInt8) (([]:List Int),([]:List Int),([]:List Int),([]:List Int),()) a.2
else
if c.1=2 then
if c.1=2 then
(XF c.2 b).bind λd=>
(Zl d.2 (2:Int)).bind λa=>
(Zl a.2 (3:Int)).bind λe=>
(Vw e.1).bind λi=>
Zy ((([(120:UInt8)].length):Int)+(i.length:Int)<=9223372036854775807)<|
Xb b f (2:Int) d.1 a.1 (0:Int) (0:Int) ([(120:UInt8)]++i) (([]:List Int),([]:List Int),([]:List Int),([]:List Int),()) e.2
else
if c.1=4 then
Xb b f (3:Int) (0:Int) (0:Int) (0:Int) (0:Int) ([]:List UInt8) (([]:List Int),([]:List Int),([]:List Int),([]:List Int),()) c.2
else
if c.1=5 then
(XF c.2 b).bind λd=>
(Zl d.2 ((K4 b).length:Int)).bind λa=>
(atI (K4 b) a.1).bind λg=>
(Zl a.2 ((K8 g).length:Int)).bind λe=>
Xb b f (4:Int) d.1 (0:Int) a.1 e.1 ([]:List UInt8) (([]:List Int),([]:List Int),([]:List Int),([]:List Int),()) e.2
else
(Zl c.2 ((K4 b).length:Int)).bind λa=>
(Xv (K2 b) a.1).bind λj=>
(Vb a.2 (j.length:Int)).bind λh=>
Xb b f (5:Int) (0:Int) (0:Int) a.1 (0:Int) ([]:List UInt8) h.1 h.2
else
if c.1=3 then
(XF c.2 b).bind λd=>
(Zl d.2 (2:Int)).bind λa=>
(Zl a.2 (3:Int)).bind λe=>
(Vw e.1).bind λi=>
Zy ((([(120:UInt8)].length):Int)+(i.length:Int)<=9223372036854775807)<|
Xb b f (2:Int) d.1 a.1 (0:Int) (0:Int) ([(120:UInt8)]++i) (([]:List Int),([]:List Int),([]:List Int),([]:List Int),()) e.2
else
if c.1=4 then
Xb b f (3:Int) (0:Int) (0:Int) (0:Int) (0:Int) ([]:List UInt8) (([]:List Int),([]:List Int),([]:List Int),([]:List Int),()) c.2
else
if c.1=5 then
(XF c.2 b).bind λd=>
(Zl d.2 ((K4 b).length:Int)).bind λa=>
(atI (K4 b) a.1).bind λg=>
(Zl a.2 ((K8 g).length:Int)).bind λe=>
Xb b f (4:Int) d.1 (0:Int) a.1 e.1 ([]:List UInt8) (([]:List Int),([]:List Int),([]:List Int),([]:List Int),()) e.2
else
(Zl c.2 ((K4 b).length:Int)).bind λa=>
(Xv (K2 b) a.1).bind λj=>
(Vb a.2 (j.length:Int)).bind λh=>
Xb b f (5:Int) (0:Int) (0:Int) a.1 (0:Int) ([]:List UInt8) h.1 h.2
else
if c.1=1 then
(Zl c.2 ((K3 (K2 b)).length:Int)).bind λa=>
(atI (K3 (K2 b)) a.1).bind λg=>
(JL (K2 b) a.1 (Wq (((Gc g).length:Int)-1))).bind λk=>
(atI ([(1:Int),0,3,2,4,6,5,7]) (Int.tmod (Gr g) (8:Int))).bind λm=>
Xb b f (1:Int) k m (0:Int) (0:Int) ([]:List UInt8) (([]:List Int),([]:List Int),([]:List Int),([]:List Int),()) a.2
else
if c.1=2 then
if c.1=2 then
(XF c.2 b).bind λd=>
(Zl d.2 (2:Int)).bind λa=>
(Zl a.2 (3:Int)).bind λe=>
(Vw e.1).bind λi=>
Zy ((([(120:UInt8)].length):Int)+(i.length:Int)<=9223372036854775807)<|
Xb b f (2:Int) d.1 a.1 (0:Int) (0:Int) ([(120:UInt8)]++i) (([]:List Int),([]:List Int),([]:List Int),([]:List Int),()) e.2
else
if c.1=4 then
Xb b f (3:Int) (0:Int) (0:Int) (0:Int) (0:Int) ([]:List UInt8) (([]:List Int),([]:List Int),([]:List Int),([]:List Int),()) c.2
else
if c.1=5 then
(XF c.2 b).bind λd=>
(Zl d.2 ((K4 b).length:Int)).bind λa=>
(atI (K4 b) a.1).bind λg=>
(Zl a.2 ((K8 g).length:Int)).bind λe=>
Xb b f (4:Int) d.1 (0:Int) a.1 e.1 ([]:List UInt8) (([]:List Int),([]:List Int),([]:List Int),([]:List Int),()) e.2
else
(Zl c.2 ((K4 b).length:Int)).bind λa=>
(Xv (K2 b) a.1).bind λj=>
(Vb a.2 (j.length:Int)).bind λh=>
Xb b f (5:Int) (0:Int) (0:Int) a.1 (0:Int) ([]:List UInt8) h.1 h.2
else
if c.1=3 then
(XF c.2 b).bind λd=>
(Zl d.2 (2:Int)).bind λa=>
(Zl a.2 (3:Int)).bind λe=>
(Vw e.1).bind λi=>
Zy ((([(120:UInt8)].length):Int)+(i.length:Int)<=9223372036854775807)<|
Xb b f (2:Int) d.1 a.1 (0:Int) (0:Int) ([(120:UInt8)]++i) (([]:List Int),([]:List Int),([]:List Int),([]:List Int),()) e.2
else
if c.1=4 then
Xb b f (3:Int) (0:Int) (0:Int) (0:Int) (0:Int) ([]:List UInt8) (([]:List Int),([]:List Int),([]:List Int),([]:List Int),()) c.2
else
if c.1=5 then
(XF c.2 b).bind λd=>
(Zl d.2 ((K4 b).length:Int)).bind λa=>
(atI (K4 b) a.1).bind λg=>
(Zl a.2 ((K8 g).length:Int)).bind λe=>
Xb b f (4:Int) d.1 (0:Int) a.1 e.1 ([]:List UInt8) (([]:List Int),([]:List Int),([]:List Int),([]:List Int),()) e.2
else
(Zl c.2 ((K4 b).length:Int)).bind λa=>
(Xv (K2 b) a.1).bind λj=>
(Vb a.2 (j.length:Int)).bind λh=>
Xb b f (5:Int) (0:Int) (0:Int) a.1 (0:Int) ([]:List UInt8) h.1 h.2
else
some ((3,0,0,0,0,[],([],[],[],[],()),()),l)
def c38:Ctr:=⟨[.io (.flat (XY)),.dat (Ya)],[.own (ZtU)],λa K=>Zr a λc a=>Zr a λb a=>Yk (ZbC c b) λr=>K (r.1,()) (r.2,())⟩
def ZhP (a:Zh):Option Bool:=
if K7 a=1 then
if Gk a=0 then
if GC a=0 then
if Gg a=([]:List UInt8)then
some (decide (Wq (Wq (Wq (((K8 (GG a)).length:Int)+((GB (GG a)).length:Int))+((GE (GG a)).length:Int))+((Gu (GG a)).length:Int))=0))
else
some false
else
some false
else
some false
else
if K7 a=2 then
if Gk a=0 then
if GC a=0 then
some (decide (Wq (Wq (Wq (((K8 (GG a)).length:Int)+((GB (GG a)).length:Int))+((GE (GG a)).length:Int))+((Gu (GG a)).length:Int))=0))
else
some false
else
some false
else
if K7 a=3 then
if K9 a=0 then
if Gy a=0 then
if Gk a=0 then
if GC a=0 then
if Gg a=([]:List UInt8)then
some (decide (Wq (Wq (Wq (((K8 (GG a)).length:Int)+((GB (GG a)).length:Int))+((GE (GG a)).length:Int))+((Gu (GG a)).length:Int))=0))
else
some false
else
some false
else
some false
else
some false
else
some false
else
if K7 a=4 then
if Gy a=0 then
if Gg a=([]:List UInt8)then
some (decide (Wq (Wq (Wq (((K8 (GG a)).length:Int)+((GB (GG a)).length:Int))+((GE (GG a)).length:Int))+((Gu (GG a)).length:Int))=0))
else
some false
else
some false
else
if K7 a=5 then
if K9 a=0 then
if Gy a=0 then
if GC a=0 then
some (decide (Gg a=([]:List UInt8)))
else
some false
else
some false
else
some false
else
some false
def c39:Ctr:=D1 (XI) (.bool) ZhP
def ZhQ (c:Za) (a:Zh):Option Bool:=
(YJ (K2 c)).bind λe=>
if K7 a=1 then
if K7 a=1 then
(Z4 (K9 a) 0 (Wq ((e.length:Int)-1))).bind λb=>
if b then
(Z4 (Gy a) 0 (Wq (((Gd (K6 c)).length:Int)-1))).bind λd=>
some d
else
some false
else
if K7 a=4 then
(Z4 (K9 a) 0 (Wq ((e.length:Int)-1))).bind λb=>
if b then
(Z4 (Gk a) 0 (Wq (((K4 c).length:Int)-1))).bind λd=>
if d then
(atI (K4 c) (Gk a)).bind λg=>
(Z4 (GC a) 0 (Wq (((K8 g).length:Int)-1))).bind λf=>
some f
else
some false
else
some false
else
if K7 a=5 then
(Z4 (Gk a) 0 (Wq (((K4 c).length:Int)-1))).bind λb=>
some b
else
some true
else
if K7 a=2 then
(Z4 (K9 a) 0 (Wq ((e.length:Int)-1))).bind λb=>
if b then
(Z4 (Gy a) 0 (Wq (((Gd (K6 c)).length:Int)-1))).bind λd=>
some d
else
some false
else
if K7 a=4 then
(Z4 (K9 a) 0 (Wq ((e.length:Int)-1))).bind λb=>
if b then
(Z4 (Gk a) 0 (Wq (((K4 c).length:Int)-1))).bind λd=>
if d then
(atI (K4 c) (Gk a)).bind λg=>
(Z4 (GC a) 0 (Wq (((K8 g).length:Int)-1))).bind λf=>
some f
else
some false
else
some false
else
if K7 a=5 then
(Z4 (Gk a) 0 (Wq (((K4 c).length:Int)-1))).bind λb=>
some b
else
some true
def c40:Ctr:=D2 (Ya) (XI) (.bool) ZhQ
def Vj (b e:Zo) (a:Int):Option ((Int×Unit)⊕Bool):=
if a<((Gb b).length:Int)then
(atI (Gb b) a).bind λd=>
(atI (Gb e) a).bind λc=>
if(Gn d==Gn c)=true then
some (.inl (Wq (a+1),()))
else
some (.inr false)
else
some (.inr true)
def Vd (b a:Zo):Option Bool:=
if GI b=GI a then
if((Gb b).length:Int)=((Gb a).length:Int)then
ZA (λv=>Vj b a v.1) ((0:Int),())
else
some false
else
some false
def c41:Ctr:=D2 (Zcq) (Zcq) (.bool) Vd
def JC (a:Zo):Option Bool:=
if GI a=1 then
some (decide (((Gb a).length:Int)=2))
else
some false
def c42:Ctr:=D1 (Zcq) (.bool) JC
def Zcf (c:Zb) (b:List UInt8) (a:Int):Option ((Int×Unit)⊕Int):=
if a<((K3 c).length:Int)then
(atI (K3 c) a).bind λd=>
if Gq d=b then
some (.inr a)
else
some (.inl (Wq (a+1),()))
else
some (.inr (-1))
def Zdr (b:Zb) (a:List UInt8):Option Int:=
ZA (λv=>Zcf b a v.1) ((0:Int),())
def c43:Ctr:=D2 (YN) (.str) Iq Zdr
def Ze6 (a:List (List UInt8)) (c:List UInt8) (b:Int):Option ((Int×Unit)⊕Int):=
if b<(a.length:Int)then
(atI a b).bind λd=>
if d=c then
some (.inr b)
else
some (.inl (Wq (b+1),()))
else
some (.inr (-1))
def Zka (a:List (List UInt8)) (b:List UInt8):Option Int:=
ZA (λv=>Ze6 a b v.1) ((0:Int),())
def c44:Ctr:=D2 (.sl (.str)) (.str) Iq Zka
def ZhM (b:Zb) (a:List UInt8):Option Int:=
(Zka (K5 b) a).bind λc=>
some c
def c45:Ctr:=D2 (YN) (.str) Iq ZhM
def ZiT (a:Zq):Option Bool:=
if((K8 a).length:Int)=1 then
(atI (GE a) 0).bind λb=>
some (decide (b=0))
else
some false
def c46:Ctr:=D1 (ZbR) (.bool) ZiT
def Zfw (a:Za):Option Bool:=
if Wq (((K3 (K2 a)).length:Int)-1)<0 then
some false
else
(atI (K3 (K2 a)) (Wq (((K3 (K2 a)).length:Int)-1))).bind λb=>
(atI (Gd (K6 a)) (Gr b)).bind λe=>
(JC e).bind λc=>
if c then
(atI (Gc b) 1).bind λj=>
if j=Wq (((K4 a).length:Int)-1)then
(atI (K5 (K2 a)) (Wq (((K4 a).length:Int)-1))).bind λd=>
if d=Gq b then
(atI (Gc b) 0).bind λi=>
if i=Wq (((K4 a).length:Int)-1)then
some false
else
(Xv (K2 a) (Wq (((K4 a).length:Int)-1))).bind λf=>
if(f.length:Int)=1 then
(atI (K4 a) (Wq (((K4 a).length:Int)-1))).bind λh=>
(ZiT h).bind λg=>
some g
else
some false
else
some false
else
some false
else
some false
def c47:Ctr:=D1 (Ya) (.bool) Zfw
def Zee (b:Za) (a:Zh):Option Bool:=
(YJ (K2 b)).bind λd=>
if K7 a=1 then
(atI d (K9 a)).bind λc=>
if 0<=GL c then
if(GX c)=true then
(atI (K3 (K2 b)) (GL c)).bind λe=>
(atI (Gd (K6 b)) (Gr e)).bind λo=>
(atI (Gd (K6 b)) (Gy a)).bind λk=>
(Vd o k).bind λl=>
some l
else
some false
else
some false
else
if K7 a=2 then
(atI d (K9 a)).bind λc=>
if(GX c)=true then
some false
else
(atI (Gd (K6 b)) (Gy a)).bind λe=>
(JC e).bind λm=>
if m then
(Zcv (Gg a)).bind λh=>
if h then
(Zdr (K2 b) (Gg a)).bind λg=>
if g<0 then
(ZhM (K2 b) (Gg a)).bind λf=>
some (decide (f<0))
else
some false
else
some false
else
some false
else
if K7 a=3 then
(Zfw b).bind λi=>
some i
else
if K7 a=4 then
(atI d (K9 a)).bind λc=>
if(GX c)=true then
some false
else
some (!decide (ZG.net c=Gk a))
else
(Xv (K2 b) (Gk a)).bind λn=>
(Zik (GG a) (n.length:Int)).bind λj=>
some j
def c48:Ctr:=D2 (Ya) (XI) (.bool) Zee
def VQ (a:Za) (b:Zh):Option Int:=
(QV a).bind λc=>
if c then
(ZhP b).bind λd=>
if d then
(ZhQ a b).bind λe=>
if e then
(Zee a b).bind λf=>
if f then
if K7 b=2 then
if((K3 (K2 a)).length:Int)=14 then
some 3
else
if((K4 a).length:Int)=30 then
some 3
else
some 0
else
some 0
else
some 5
else
some 2
else
some 2
else
some 1
def c49:Ctr:=D2 (Ya) (XI) Iq VQ
def Zj7 (a:ZE):Option ZE:=
(Xc (GS a)).bind λd=>
(Xc (GA a)).bind λb=>
(Xc (Gz a)).bind λc=>
some (d,b,c,())
def c50:Ctr:=⟨[.dat (Zaw)],[.own (ZkH)],λa K=>Zr a λb a=>Yk (Zj7 b) λr=>K (r,()) ()⟩
def Zan (b a:List ZE) (c:Int):Option (((List ZE)×Int×Unit)⊕List ZE):=
if c<(b.length:Int)then
(atI b c).bind λe=>
(Zj7 e).bind λd=>
Zy ((a.length+[d].length)*72<=140737488355328)<|
some (.inl (a++[d],Wq (c+1),()))
else
some (.inr a)
def Zci (a:List ZE):Option (List ZE):=
ZA (λv=>Zan a v.1 v.2.1) (([]:List ZE),(0:Int),())
def c51:Ctr:=⟨[.dat (.sl (Zaw))],[.own (.ol 330 (ZkH))],λa K=>Zr a λb a=>Yk (Zci b) λr=>K (r,()) ()⟩
def Zd9 (c:Zo) (b:List Int) (d:Int) (e:List ZK):Option ((Int×(List ZK)×Unit)⊕Zo):=
if d<((Gp c).length:Int)then
(atI (Gp c) d).bind λa=>
(Zci (GJ a)).bind λf=>
(Zci (GQ a)).bind λg=>
Zy ((e.length+[(Gf a,Gs a,Gw a,GH a,f,g,())].length)*80<=140737488355328)<|
some (.inl (Wq (d+1),e++[(Gf a,Gs a,Gw a,GH a,f,g,())],()))
else
some (.inr (GV c,GI c,([]:List (List UInt8×Int×Int×Bool×Unit))++Gb c,e,b,c.2.2.2.2.2))
def Zj9 (a:Zo):Option Zo:=
Zy ((([]:List (List UInt8×Int×Int×Bool×Unit)).length+(Gb a).length)*40<=140737488355328)<|
(Xc (GD a)).bind λb=>
ZA (λv=>Zd9 a b v.1 v.2.1) ((0:Int),([]:List ZK),())
def c52:Ctr:=⟨[.dat (Zcq)],[.own (Zsl)],λa K=>Zr a λb a=>Yk (Zj9 b) λr=>K (r,()) ()⟩
def JZ (d:Zu) (a:Int) (b:List Zo):Option ((Int×(List Zo)×Unit)⊕Zu):=
if a<((Gd d).length:Int)then
(atI (Gd d) a).bind λe=>
(Zj9 e).bind λc=>
Zy ((b.length+[c].length)*112<=140737488355328)<|
some (.inl (Wq (a+1),b++[c],()))
else
some (.inr (b,()))
def Zds (a:Zu):Option Zu:=
ZA (λv=>JZ a v.1 v.2.1) ((0:Int),([]:List Zo),())
def c53:Ctr:=⟨[.dat (X9)],[.own (Zpb)],λa K=>Zr a λb a=>Yk (Zds b) λr=>K (r,()) ()⟩
def Zeb (b:Zb) (c:Int) (d:List Zd):Option ((Int×(List Zd)×Unit)⊕Zb):=
if c<((K3 b).length:Int)then
(atI (K3 b) c).bind λa=>
(Xc (Gc a)).bind λe=>
Zy ((d.length+[(Gq a,Gr a,e,())].length)*48<=140737488355328)<|
some (.inl (Wq (c+1),d++[(Gq a,Gr a,e,())],()))
else
some (.inr (d,([]:List (List UInt8))++K5 b,([]:List (List UInt8×Int×Int×Unit))++Ge b,()))
def Zkb (a:Zb):Option Zb:=
Zy ((([]:List (List UInt8)).length+(K5 a).length)*16<=140737488355328)<|
Zy ((([]:List (List UInt8×Int×Int×Unit)).length+(Ge a).length)*32<=140737488355328)<|
ZA (λv=>Zeb a v.1 v.2.1) ((0:Int),([]:List Zd),())
def c54:Ctr:=⟨[.dat (YN)],[.own (ZpA)],λa K=>Zr a λb a=>Yk (Zkb b) λr=>K (r,()) ()⟩
def ZdP (a:Zq):Option Zq:=
(Xc (K8 a)).bind λb=>
(Xc (GB a)).bind λc=>
(Xc (GE a)).bind λd=>
(Xc (Gu a)).bind λe=>
some (b,c,d,e,())
def c55:Ctr:=⟨[.dat (ZbR)],[.own (ZoN)],λa K=>Zr a λb a=>Yk (ZdP b) λr=>K (r,()) ()⟩
def Zec (f:Za) (a:Zu) (b:Zb) (c:Int) (d:List Zq):Option ((Int×(List Zq)×Unit)⊕Za):=
if c<((K4 f).length:Int)then
(atI (K4 f) c).bind λg=>
(ZdP g).bind λe=>
Zy ((d.length+[e].length)*96<=140737488355328)<|
some (.inl (Wq (c+1),d++[e],()))
else
some (.inr (a,b,d,()))
def Zin (a:Za):Option Za:=
(Zds (K6 a)).bind λc=>
(Zkb (K2 a)).bind λb=>
ZA (λv=>Zec a c b v.1 v.2.1) ((0:Int),([]:List Zq),())
def c56:Ctr:=⟨[.dat (Ya)],[.own (Zex)],λa K=>Zr a λb a=>Yk (Zin b) λr=>K (r,()) ()⟩
def Zfd (f:Za) (b:Int) (a:List Int) (c:Int) (d:List Int):Option ((Int×(List Int)×Unit)⊕((Int×(List Int)×Unit)⊕List Int)):=
if c<(a.length:Int)then
(atI a c).bind λe=>
(atI (K4 f) b).bind λg=>
(atI (Gu g) c).bind λh=>
(atI d e).bind λi=>
some (.inl (Wq (c+1),List.set d (Int.toNat e) h,()))
else
some (.inr (.inl (Wq (b+1),d,())))
def Zfe (b:Za) (a:Int) (c:List Int):Option ((Int×(List Int)×Unit)⊕List Int):=
if a<((K4 b).length:Int)then
(Xv (K2 b) a).bind λd=>
ZA (λv=>Zfd b a d v.1 v.2.1) ((0:Int),c,())
else
some (.inr c)
def Zed (b:Za):Option (List Int):=
(YJ (K2 b)).bind λa=>
Zy ((0:Int)<=(a.length:Int))<|
Zy ((a.length:Int)<=(a.length:Int))<|
Zy ((a.length:Int)<=4611686018427387904)<|
Zy (((8:Nat):Int)*(a.length:Int)<=281474976710656)<|
ZA (λv=>Zfe b v.1 v.2.1) ((0:Int),List.replicate (Int.toNat (a.length:Int)) (0:Int),())
def c57:Ctr:=⟨[.dat (Ya)],[.own (.ol 2 (.flat Iq))],λa K=>Zr a λb a=>Yk (Zed b) λr=>K (r,()) ()⟩
def Zck (b:Zb) (a:ZG) (d:Int):Option Zb:=
if GL a<0 then
(atI (Ge b) (ZG.pin a)).bind λc=>
some (K3 b,K5 b,List.set (Ge b) (Int.toNat (ZG.pin a)) (GT c,GF c,d,()),())
else
(atI (K3 b) (GL a)).bind λc=>
(atI c.2.2.1 (ZG.pin a)).bind λe=>
some (List.set (K3 b) (Int.toNat (GL a)) (c.1,c.2.1,List.set c.2.2.1 (Int.toNat (ZG.pin a)) d,()),b.2)
def c58:Ctr:=⟨[.back (ZpA),.dat (Zgm),.dat Iq],[],λa K=>Zr a λd a=>Zr a λc a=>Zr a λb a=>Yk (Zck d c b) λr=>K () (r,())⟩
def Zeu (e:List Int) (c:Int) (g:List (List Int×List Int×List Int×List Int×Unit)) (a b:List Int) (f:Int):Option (((List Int)×Int×Unit)⊕((Int×(List (List Int×List Int×List Int×List Int×Unit))×Unit)⊕Za)):=
if f<(a.length:Int)then
(atI a f).bind λd=>
(atI e d).bind λh=>
Zy ((b.length+[h].length)*8<=140737488355328)<|
some (.inl (b++[h],Wq (f+1),()))
else
(atI g c).bind λd=>
some (.inr (.inl (Wq (c+1),List.set g (Int.toNat c) (d.1,d.2.1,d.2.2.1,b,()),())))
def ZbX (d:Za) (b:List Int) (a:Int) (c:List (List Int×List Int×List Int×List Int×Unit)):Option ((Int×(List (List Int×List Int×List Int×List Int×Unit))×Unit)⊕Za):=
if a<(c.length:Int)then
(Xv (K2 d) a).bind λe=>
ZA (λv=>Zeu b a c e v.1 v.2.1) (([]:List Int),(0:Int),())
else
some (.inr (K6 d,K2 d,c,()))
def JB (b:Za) (a:List Int):Option Za:=
ZA (λv=>ZbX b a v.1 v.2.1) ((0:Int),K4 b,())
def c59:Ctr:=⟨[.own (Zex),.dat (.sl Iq)],[.own (Zex)],λa K=>Zr a λc a=>Zr a λb a=>Yk (JB c b) λr=>K (r,()) ()⟩
def Zdc (b:Za) (c:Zh):Option Za:=
(YJ (K2 b)).bind λj=>
(atI j (K9 c)).bind λh=>
(Zed b).bind λa=>
(atI a (K9 c)).bind λe=>
Zy ((0:Int)<=Wq ((a.length:Int)-((Ge (K2 b)).length:Int)))<|
Zy (Wq ((a.length:Int)-((Ge (K2 b)).length:Int))<=(a.length:Int))<|
(Xc (List.take (Int.toNat (Wq ((a.length:Int)-((Ge (K2 b)).length:Int)))-Int.toNat 0) (List.drop (Int.toNat 0) a))).bind λf=>
Zy ((f.length+[e,(0:Int)].length)*8<=140737488355328)<|
Zy ((a.length:Int)<=(a.length:Int))<|
Zy (((f++[e,(0:Int)]).length+(List.take (Int.toNat (a.length:Int)-Int.toNat (Wq ((a.length:Int)-((Ge (K2 b)).length:Int)))) (List.drop (Int.toNat (Wq ((a.length:Int)-((Ge (K2 b)).length:Int)))) a)).length)*8<=140737488355328)<|
(Zck (K2 b) h ((K4 b).length:Int)).bind λd=>
if Wq ((a.length:Int)-((Ge (K2 b)).length:Int))<=K9 c then
(atI (f++[e,(0:Int)]++List.take (Int.toNat (a.length:Int)-Int.toNat (Wq ((a.length:Int)-((Ge (K2 b)).length:Int)))) (List.drop (Int.toNat (Wq ((a.length:Int)-((Ge (K2 b)).length:Int)))) a)) (Wq (K9 c+2))).bind λk=>
Zy (((K3 d).length+[(Gg c,Gy c,[ZG.net h,((K4 b).length:Int)],())].length)*48<=140737488355328)<|
Zy (((K5 d).length+[Gg c].length)*16<=140737488355328)<|
(Zav 1 0).bind λg=>
Zy (((K4 b).length+[g].length)*96<=140737488355328)<|
(JB (K6 b,(K3 d++[(Gg c,Gy c,[ZG.net h,((K4 b).length:Int)],())],K5 d++[Gg c],d.2.2),K4 b++[g],()) (List.set (f++[e,(0:Int)]++List.take (Int.toNat (a.length:Int)-Int.toNat (Wq ((a.length:Int)-((Ge (K2 b)).length:Int)))) (List.drop (Int.toNat (Wq ((a.length:Int)-((Ge (K2 b)).length:Int)))) a)) (Int.toNat (Wq (K9 c+2))) (0:Int))).bind λi=>
some i
else
(atI (f++[e,(0:Int)]++List.take (Int.toNat (a.length:Int)-Int.toNat (Wq ((a.length:Int)-((Ge (K2 b)).length:Int)))) (List.drop (Int.toNat (Wq ((a.length:Int)-((Ge (K2 b)).length:Int)))) a)) (K9 c)).bind λk=>
Zy (((K3 d).length+[(Gg c,Gy c,[ZG.net h,((K4 b).length:Int)],())].length)*48<=140737488355328)<|
Zy (((K5 d).length+[Gg c].length)*16<=140737488355328)<|
(Zav 1 0).bind λg=>
Zy (((K4 b).length+[g].length)*96<=140737488355328)<|
(JB (K6 b,(K3 d++[(Gg c,Gy c,[ZG.net h,((K4 b).length:Int)],())],K5 d++[Gg c],d.2.2),K4 b++[g],()) (List.set (f++[e,(0:Int)]++List.take (Int.toNat (a.length:Int)-Int.toNat (Wq ((a.length:Int)-((Ge (K2 b)).length:Int)))) (List.drop (Int.toNat (Wq ((a.length:Int)-((Ge (K2 b)).length:Int)))) a)) (Int.toNat (K9 c)) (0:Int))).bind λi=>
some i
def c60:Ctr:=⟨[.own (Zex),.dat (XI)],[.own (Zex)],λa K=>Zr a λc a=>Zr a λb a=>Yk (Zdc c b) λr=>K (r,()) ()⟩
def Zg2 (a:Za):Option Za:=
(Zed a).bind λb=>
(Xv (K2 a) (Wq (((K4 a).length:Int)-1))).bind λi=>
(atI i 0).bind λc=>
(atI b (Wq (Wq ((b.length:Int)-((Ge (K2 a)).length:Int))-2))).bind λd=>
(atI b c).bind λm=>
(atI (K3 (K2 a)) (Wq (((K3 (K2 a)).length:Int)-1))).bind λf=>
(atI f.2.2.1 0).bind λl=>
(YJ (List.set (K3 (K2 a)) (Int.toNat (Wq (((K3 (K2 a)).length:Int)-1))) f,(K2 a).2)).bind λj=>
(atI j c).bind λk=>
(Zck (List.set (K3 (K2 a)) (Int.toNat (Wq (((K3 (K2 a)).length:Int)-1))) f,(K2 a).2) k l).bind λe=>
Zy ((0:Int)<=Wq (Wq ((b.length:Int)-((Ge (K2 a)).length:Int))-2))<|
Zy (Wq (Wq ((b.length:Int)-((Ge (K2 a)).length:Int))-2)<=((List.set b (Int.toNat c) d).length:Int))<|
(Xc (List.take (Int.toNat (Wq (Wq ((b.length:Int)-((Ge (K2 a)).length:Int))-2))-Int.toNat 0) (List.drop (Int.toNat 0) (List.set b (Int.toNat c) d)))).bind λg=>
Zy ((0:Int)<=Wq ((b.length:Int)-((Ge (K2 a)).length:Int)))<|
Zy (Wq ((b.length:Int)-((Ge (K2 a)).length:Int))<=((List.set b (Int.toNat c) d).length:Int))<|
Zy (((List.set b (Int.toNat c) d).length:Int)<=((List.set b (Int.toNat c) d).length:Int))<|
Zy ((g.length+(List.take (Int.toNat ((List.set b (Int.toNat c) d).length:Int)-Int.toNat (Wq ((b.length:Int)-((Ge (K2 a)).length:Int)))) (List.drop (Int.toNat (Wq ((b.length:Int)-((Ge (K2 a)).length:Int)))) (List.set b (Int.toNat c) d))).length)*8<=140737488355328)<|
Zy ((0:Int)<=Wq (((K3 (K2 a)).length:Int)-1))<|
Zy (Wq (((K3 (K2 a)).length:Int)-1)<=((K3 e).length:Int))<|
Zy ((0:Int)<=Wq (((K4 a).length:Int)-1))<|
Zy (Wq (((K4 a).length:Int)-1)<=((K5 e).length:Int))<|
Zy (Wq (((K4 a).length:Int)-1)<=((K4 a).length:Int))<|
(JB (K6 a,(List.take (Int.toNat (Wq (((K3 (K2 a)).length:Int)-1))-Int.toNat 0) (List.drop (Int.toNat 0) (K3 e)),List.take (Int.toNat (Wq (((K4 a).length:Int)-1))-Int.toNat 0) (List.drop (Int.toNat 0) (K5 e)),e.2.2),List.take (Int.toNat (Wq (((K4 a).length:Int)-1))-Int.toNat 0) (List.drop (Int.toNat 0) (K4 a)),()) (g++List.take (Int.toNat ((List.set b (Int.toNat c) d).length:Int)-Int.toNat (Wq ((b.length:Int)-((Ge (K2 a)).length:Int)))) (List.drop (Int.toNat (Wq ((b.length:Int)-((Ge (K2 a)).length:Int)))) (List.set b (Int.toNat c) d)))).bind λh=>
some h
def c61:Ctr:=⟨[.own (Zex)],[.own (Zex)],λa K=>Zr a λb a=>Yk (Zg2 b) λr=>K (r,()) ()⟩
def Zgh (i:Za) (b:Zh):Option Za:=
(Zin i).bind λa=>
(YJ (K2 a)).bind λf=>
if K7 b=1 then
(atI f (K9 b)).bind λd=>
(atI (K3 (K2 a)) (GL d)).bind λc=>
some (K6 a,(List.set (K3 (K2 a)) (Int.toNat (GL d)) (c.1,Gy b,c.2.2),(K2 a).2),a.2.2)
else
if K7 b=2 then
(Zdc a b).bind λk=>
some k
else
if K7 b=3 then
(Zg2 a).bind λh=>
some h
else
if K7 b=4 then
(Zed a).bind λe=>
(atI e (K9 b)).bind λd=>
(atI f (K9 b)).bind λc=>
(Zck (K2 a) c (Gk b)).bind λg=>
(JB (K6 a,g,a.2.2) (List.set e (Int.toNat (K9 b)) (GC b))).bind λj=>
some j
else
if K7 b=5 then
(ZdP (GG b)).bind λl=>
(atI (K4 a) (Gk b)).bind λd=>
some (K6 a,K2 a,List.set (K4 a) (Int.toNat (Gk b)) l,())
else
some a
def c62:Ctr:=⟨[.dat (Ya),.dat (XI)],[.own (Zex)],λa K=>Zr a λc a=>Zr a λb a=>Yk (Zgh c b) λr=>K (r,()) ()⟩
def JA (a:Za) (c:Zh):Option (Za×Int):=
(VQ a c).bind λb=>
if b=0 then
(Zgh a c).bind λd=>
some (d,0)
else
some ((([],()),([],[],[],()),[],()),b)
def c63:Ctr:=⟨[.dat (Ya),.dat (XI)],[.own (Zex),.dat Iq],λa K=>Zr a λb a=>Zr a λc a=>Yk (JA b c) λr=>K (r.1,r.2,()) ()⟩
def c64:Ctr:=⟨[.dat (Ya),.dat (XI)],[.dat (Ya),.dat Iq],λa K=>Zr a λb a=>Zr a λc a=>Yk (JA b c) λr=>K (r.1,r.2,()) ()⟩
def ZcN (a:List Zh) (d:Int) (k:List Int) (l j:Int) (h:List Zo) (e:List Zd) (f:List (List UInt8)) (i:List Z6) (g:List Zq):Option (((List Zh)×Int×(List Int)×Int×Int×(List Zo)×(List Zd)×(List (List UInt8))×(List Z6)×(List Zq)×Unit)⊕((List Zh)×Zm)):=
if 0<d then
(ZbC (k,l,j,()) ((h,()),(e,f,i,()),g,())).bind λb=>
(JA ((h,()),(e,f,i,()),g,()) b.1).bind λc=>
if c.2=0 then
Zy ((a.length+[b.1].length)*152<=140737488355328)<|
some (.inl (a++[b.1],Wq (d-1),b.2.1,b.2.2.1,b.2.2.2.1,c.1.1.1,c.1.2.1.1,c.1.2.1.2.1,c.1.2.1.2.2.1,c.1.2.2.1,()))
else
some (.inl (a,Wq (d-1),b.2.1,b.2.2.1,b.2.2.2.1,h,e,f,i,g,()))
else
some (.inr (a,(k,l,j,())))
def Zcl (d:Zm) (a:Za) (b:Int):Option ((List Zh)×Zm):=
(Zl d (Wq (b+1))).bind λc=>
ZA (λv=>ZcN v.1 v.2.1 v.2.2.1 v.2.2.2.1 v.2.2.2.2.1 v.2.2.2.2.2.1 v.2.2.2.2.2.2.1 v.2.2.2.2.2.2.2.1 v.2.2.2.2.2.2.2.2.1 v.2.2.2.2.2.2.2.2.2.1) (([]:List Zh),c.1,c.2.1,c.2.2.1,c.2.2.2.1,Gd (K6 a),K3 (K2 a),K5 (K2 a),Ge (K2 a),K4 a,())
def c65:Ctr:=⟨[.io (.flat (XY)),.dat (Ya),.dat Iq],[.own (.ol 42 (ZtU))],λa K=>Zr a λd a=>Zr a λc a=>Zr a λb a=>Yk (Zcl d c b) λr=>K (r.1,()) (r.2,())⟩
def ZcK (d:List Int):Option (Za×(List Zh)):=
(Zfu d).bind λf=>
(Zcj f).bind λa=>
(Zcl a.2 a.1 4).bind λb=>
(Zl b.2 8).bind λc=>
if c.1=0 then
(ZbC c.2 a.1).bind λe=>
Zy ((b.1.length+[e.1].length)*152<=140737488355328)<|
some (a.1,b.1++[e.1])
else
if c.1=1 then
(Zl c.2 5).bind λg=>
if g.1=0 then
some (a.1,List.replicate (Int.toNat (21:Int)) ((0:Int),(0:Int),(0:Int),(0:Int),(0:Int),([]:List UInt8),(([]:List Int),([]:List Int),([]:List Int),([]:List Int),()),()))
else
some (a.1,b.1)
else
some (a.1,b.1)
def c66:Ctr:=⟨[.dat (.sl (.int .u8))],[.dat (Ya),.dat (.sl (XI))],λa K=>Zr a λb a=>Yk (ZcK b) λr=>K (r.1,r.2,()) ()⟩
def ZnP (a:List Int) (b:Int):Option (List Int):=
Zy (([b,IntKind.wrap IntKind.u8 (b+7),IntKind.wrap IntKind.u8 ((3:Int)*b)].length+a.length)*1<=140737488355328)<|
some ([b,IntKind.wrap IntKind.u8 (b+7),IntKind.wrap IntKind.u8 ((3:Int)*b)]++a)
def c67:Ctr:=⟨[.dat (.sl (.int .u8)),.dat (.int .u8)],[.own (.ol 5 (.flat (.int .u8)))],λa K=>Zr a λb a=>Zr a λc a=>Yk (ZnP b c) λr=>K (r,()) ()⟩
def Zef (d:Zm):Option (Za×Zm):=
(Zl d 12).bind λb=>
if b.1=0 then
(Zcj b.2).bind λc=>
some (c.1,c.2)
else
if b.1=1 then
if b.1=1 then
(Zau b.2 6 true).bind λa=>
some (a.1,a.2)
else
(Zau b.2 6 false).bind λa=>
some (a.1,a.2)
else
if b.1=2 then
(Zau b.2 6 true).bind λa=>
some (a.1,a.2)
else
(Zau b.2 6 false).bind λa=>
some (a.1,a.2)
def c68:Ctr:=⟨[.io (.flat (XY))],[.own (Zex)],λa K=>Zr a λb a=>Yk (Zef b) λr=>K (r.1,()) (r.2,())⟩
def J4 (j:Zm):Option (ZB×Zm):=
(Zl j 3).bind λh=>
(atI ([[(115:UInt8),108,111,119],[(102:UInt8),97,115,116],[(116:UInt8),121,112]]) h.1).bind λg=>
(Zl h.2 20).bind λa=>
(Zl a.2 20).bind λc=>
(Zl c.2 60).bind λe=>
(Zl e.2 40).bind λd=>
(Zl d.2 30).bind λb=>
if b.1=0 then
some ((g,Wq (800+Wq (10*a.1)),Wq (Wq (800+Wq (10*a.1))-1),Wq (900+Wq (10*c.1)),Wq (Wq (900+Wq (10*c.1))+Wq (9*d.1)),()),b.2)
else
if b.1=1 then
(Zl b.2 3).bind λf=>
(atI ([(99:Int),100,-1]) f.1).bind λi=>
some ((g,Wq (800+Wq (10*a.1)),Wq (Wq (800+Wq (10*a.1))+Wq (7*e.1)),i,Wq (Wq (900+Wq (10*c.1))+Wq (9*d.1)),()),f.2)
else
if b.1=2 then
(Zl b.2 2).bind λf=>
some ((g,Wq (800+Wq (10*a.1)),Wq (Wq (800+Wq (10*a.1))+Wq (7*e.1)),Wq (900+Wq (10*c.1)),Wq (5000+f.1),()),f.2)
else
if b.1=3 then
some (([],Wq ((800:Int)+Wq ((10:Int)*a.1)),Wq (Wq ((800:Int)+Wq ((10:Int)*a.1))+Wq ((7:Int)*e.1)),Wq ((900:Int)+Wq ((10:Int)*c.1)),Wq (Wq ((900:Int)+Wq ((10:Int)*c.1))+Wq ((9:Int)*d.1)),()),b.2)
else
some ((g,Wq (800+Wq (10*a.1)),Wq (Wq (800+Wq (10*a.1))+Wq (7*e.1)),Wq (900+Wq (10*c.1)),Wq (Wq (900+Wq (10*c.1))+Wq (9*d.1)),()),b.2)
def c69:Ctr:=⟨[.io (.flat (XY))],[.dat (XR)],λa K=>Zr a λb a=>Yk (J4 b) λr=>K (r.1,()) (r.2,())⟩
def ZbE (c:List Zt) (b e g f d a:Int):Option (List Zt):=
Zy ((c.length+[(Wq (Wq ((2:Int)*b)+g),Wq (Wq ((2:Int)*e)+f),d,a,())].length)*32<=140737488355328)<|
some (c++[(Wq (Wq ((2:Int)*b)+g),Wq (Wq ((2:Int)*e)+f),d,a,())])
def c70:Ctr:=⟨[.own (.ol 222 (.flat (ZcP))),.dat Iq,.dat Iq,.dat Iq,.dat Iq,.dat Iq,.dat Iq],[.own (.ol 222 (.flat (ZcP)))],λa K=>Zr a λe a=>Zr a λc a=>Zr a λf a=>Zr a λh a=>Zr a λg a=>Zr a λd a=>Zr a λb a=>Yk (ZbE e c f h g d b) λr=>K (r,()) ()⟩
def Zcm (e:ZK) (d h b f:Int) (a:List Zt) (c:Int):Option (((List Zt)×Int×Unit)⊕(((List Zt)×Int×Unit)⊕List Zt)):=
if c<=1 then
if Gf e=1 then
if GH e=3 then
(ZbE a d h f c 1 b).bind λg=>
some (.inl (g,Wq (c+1),()))
else
if(decide (GH e=1)==decide (f=c))=true then
(ZbE a d h f c 1 b).bind λg=>
some (.inl (g,Wq (c+1),()))
else
some (.inl (a,Wq (c+1),()))
else
if Gf e=2 then
if f=0 then
(ZbE a d h f c 1 b).bind λg=>
some (.inl (g,Wq (c+1),()))
else
some (.inl (a,Wq (c+1),()))
else
if Gf e=3 then
if f=1 then
(ZbE a d h f c 1 b).bind λg=>
some (.inl (g,Wq (c+1),()))
else
some (.inl (a,Wq (c+1),()))
else
some (.inl (a,Wq (c+1),()))
else
some (.inr (.inl (a,Wq (f+1),())))
def ZaF (d:ZK) (c e b:Int) (a:List Zt) (f:Int):Option (((List Zt)×Int×Unit)⊕List Zt):=
if f<=1 then
ZA (λv=>Zcm d c e b f v.1 v.2.1) (a,(0:Int),())
else
some (.inr a)
def Zkc (b:List Zt) (d:ZK) (c e a:Int):Option (List Zt):=
ZA (λv=>ZaF d c e a v.1 v.2.1) (b,(0:Int),())
def c71:Ctr:=⟨[.own (.ol 222 (.flat (ZcP))),.dat (Zof),.dat Iq,.dat Iq,.dat Iq],[.own (.ol 222 (.flat (ZcP)))],λa K=>Zr a λd a=>Zr a λe a=>Zr a λc a=>Zr a λf a=>Zr a λb a=>Yk (Zkc d e c f b) λr=>K (r,()) ()⟩
def Zep (c:Int) (a:List ZG) (b:Int):Option ((Int×Unit)⊕Int):=
if b<(a.length:Int)then
(atI a b).bind λd=>
if ZG.net d=c then
if(GX d)=true then
some (.inr b)
else
some (.inl (Wq (b+1),()))
else
some (.inl (Wq (b+1),()))
else
some (.inr (-1))
def Zdb (b:Zb) (a:Int):Option Int:=
(YJ b).bind λc=>
ZA (λv=>Zep a c v.1) ((0:Int),())
def c72:Ctr:=D2 (YN) Iq Iq Zdb
def ZcO (e:Za) (d:Int) (f:Zo) (c:List Zt) (a:Int):Option (((List Zt)×Int×Unit)⊕(((List Zt)×Int×Unit)⊕List Zt)):=
if a<((Gp f).length:Int)then
(atI (Gp f) a).bind λb=>
if Gf b<=3 then
(JL (K2 e) d (Gs b)).bind λg=>
(JL (K2 e) d (Gw b)).bind λh=>
(Zkc c b g h a).bind λi=>
some (.inl (i,Wq (a+1),()))
else
some (.inl (c,Wq (a+1),()))
else
some (.inr (.inl (c,Wq (d+1),())))
def Zff (f a:Int) (b:List Int) (e:List Zt) (c:Int):Option (((List Zt)×Int×Unit)⊕(((List Zt)×Int×Unit)⊕(((List Zt)×Int×Unit)⊕List Zt))):=
if c<(b.length:Int)then
(atI b c).bind λd=>
(ZbE e a d 0 0 2 c).bind λg=>
(ZbE g a d 1 1 2 c).bind λh=>
some (.inl (h,Wq (c+1),()))
else
some (.inr (.inl (e,Wq (f+1),())))
def Zfg (b:Za) (c:List Zt) (a:Int):Option (((List Zt)×Int×Unit)⊕(((List Zt)×Int×Unit)⊕List Zt)):=
if a<((K5 (K2 b)).length:Int)then
(Zdb (K2 b) a).bind λd=>
(Xv (K2 b) a).bind λe=>
ZA (λv=>Zff a d e v.1 v.2.1) (c,(0:Int),())
else
some (.inr (.inr c))
def Zfh (a:Za) (c:List Zt) (b:Int):Option (((List Zt)×Int×Unit)⊕List Zt):=
if b<((K3 (K2 a)).length:Int)then
(atI (K3 (K2 a)) b).bind λe=>
(atI (Gd (K6 a)) (Gr e)).bind λd=>
ZA (λv=>ZcO a b d v.1 v.2.1) (c,(0:Int),())
else
ZA (λv=>Zfg a v.1 v.2.1) (c,(0:Int),())
def ZbD (a:Za):Option (List Zt):=
ZA (λv=>Zfh a v.1 v.2.1) (([]:List (Int×Int×Int×Int×Unit)),(0:Int),())
def c73:Ctr:=⟨[.dat (Ya)],[.own (.ol 222 (.flat (ZcP)))],λa K=>Zr a λb a=>Yk (ZbD b) λr=>K (r,()) ()⟩
def Zcn (a:List Zt) (d:Int×Zm) (b:List Int) (e:Int) (h:List Int) (i g:Int):Option (((List Int)×Int×(List Int)×Int×Int×Unit)⊕((List Int)×Zm)):=
if e<(a.length:Int)then
Zy ((b.length+[e].length)*8<=140737488355328)<|
(Zl (h,i,g,()) (Wq (1+d.1))).bind λc=>
some (.inl (b++[e],Wq (e+Wq ((1:Int)+c.1)),c.2.1,c.2.2.1,c.2.2.2.1,()))
else
(Zl (h,i,g,()) 12).bind λc=>
if c.1=0 then
(Zl c.2 2).bind λf=>
Zy ((b.length+[Wq ((a.length:Int)*f.1)].length)*8<=140737488355328)<|
some (.inr (b++[Wq ((a.length:Int)*f.1)],f.2))
else
some (.inr (b,c.2))
def J3 (e:Zm) (d:Za):Option ((List Int)×Zm):=
(QV d).bind λf=>
if f then
(Zl e 3).bind λc=>
if 0<c.1 then
some ([],c.2)
else
(ZbD d).bind λg=>
(Zl c.2 8).bind λb=>
(Zl b.2 (Wq (1+b.1))).bind λa=>
ZA (λv=>Zcn g b v.1 v.2.1 v.2.2.1 v.2.2.2.1 v.2.2.2.2.1) (([]:List Int),a.1,a.2.1,a.2.2.1,a.2.2.2.1,())
else
some ([],e)
def c74:Ctr:=⟨[.io (.flat (XY)),.dat (Ya)],[.own (.ol 2 (.flat Iq))],λa K=>Zr a λc a=>Zr a λb a=>Yk (J3 c b) λr=>K (r.1,()) (r.2,())⟩
def ZgO (a:List Int) (d b:Int):Option ((Int×Unit)⊕Bool):=
if b<(a.length:Int)then
(atI a b).bind λc=>
if c=d then
some (.inr true)
else
some (.inl (Wq (b+1),()))
else
some (.inr false)
def ZgN (a:List Int) (b:Int):Option Bool:=
ZA (λv=>ZgO a b v.1) ((0:Int),())
def c75:Ctr:=D2 (.sl Iq) Iq (.bool) ZgN
def Zgi (c:List Zt) (b:List Int) (a:List Bool) (d:Int):Option (((List Bool)×Int×Unit)⊕List Bool):=
if d<(c.length:Int)then
(ZgN b d).bind λe=>
Zy ((a.length+[!e].length)*1<=140737488355328)<|
some (.inl (a++[!e],Wq (d+1),()))
else
some (.inr a)
def Zfx (b:List Zt) (a:List Int):Option (List Bool):=
ZA (λv=>Zgi b a v.1 v.2.1) (([]:List Bool),(0:Int),())
def c76:Ctr:=⟨[.dat (.sl (ZcP)),.dat (.sl Iq)],[.own (.ol 4 (.flat (.bool)))],λa K=>Zr a λc a=>Zr a λb a=>Yk (Zfx c b) λr=>K (r,()) ()⟩
def VT (a:Za):Option Int:=
(YJ (K2 a)).bind λb=>
some (Wq (2*(b.length:Int)))
def c77:Ctr:=D1 (Ya) Iq VT
def Qw (d:List Zt) (f:List Bool) (e a:Bool) (c:Int) (b:List Bool):Option ((Bool×Int×(List Bool)×Unit)⊕((Bool×(List Bool)×Unit)⊕List Bool)):=
if c<(d.length:Int)then
(atI d c).bind λg=>
if e then
(atI f c).bind λh=>
if h then
(atI b (Gj g)).bind λi=>
if i then
(atI b (Gm g)).bind λj=>
if j then
some (.inl (a,Wq (c+1),b,()))
else
some (.inl (true,Wq (c+1),List.set b (Int.toNat (Gm g)) true,()))
else
some (.inl (a,Wq (c+1),b,()))
else
some (.inl (a,Wq (c+1),b,()))
else
(atI f c).bind λh=>
if h then
(atI b (Gm g)).bind λi=>
if i then
(atI b (Gj g)).bind λj=>
if j then
some (.inl (a,Wq (c+1),b,()))
else
some (.inl (true,Wq (c+1),List.set b (Int.toNat (Gj g)) true,()))
else
some (.inl (a,Wq (c+1),b,()))
else
some (.inl (a,Wq (c+1),b,()))
else
some (.inr (.inl (a,b,())))
def Ju (c:List Zt) (d:List Bool) (a b:Bool) (e:List Bool):Option ((Bool×(List Bool)×Unit)⊕List Bool):=
if b then
ZA (λv=>Qw c d a v.1 v.2.1 v.2.2.1) (false,(0:Int),e,())
else
some (.inr e)
def ZbF (b:Int) (d:List Zt) (e:List Bool) (c:Int) (a:Bool):Option (List Bool):=
Zy ((0:Int)<=b)<|
Zy (b<=b)<|
Zy (b<=4611686018427387904)<|
Zy (((1:Nat):Int)*b<=281474976710656)<|
(atI (List.replicate (Int.toNat b) false) c).bind λf=>
ZA (λv=>Ju d e a v.1 v.2.1) (true,List.set (List.replicate (Int.toNat b) false) (Int.toNat c) true,())
def c78:Ctr:=⟨[.dat Iq,.dat (.sl (ZcP)),.dat (.sl (.bool)),.dat Iq,.dat (.bool)],[.own (.ol 4 (.flat (.bool)))],λa K=>Zr a λf a=>Zr a λc a=>Zr a λd a=>Zr a λe a=>Zr a λb a=>Yk (ZbF f c d e b) λr=>K (r,()) ()⟩
def Zgj (a:List Zt) (c:List Bool) (e b:Int):Option ((Int×Unit)⊕Bool):=
if b<(a.length:Int)then
(atI c b).bind λf=>
if f then
(atI a b).bind λd=>
if Gj d=e then
if Gm d=e then
some (.inr true)
else
some (.inl (Wq (b+1),()))
else
some (.inl (Wq (b+1),()))
else
some (.inl (Wq (b+1),()))
else
some (.inr false)
def ZiU (a:List Zt) (b:List Bool) (c:Int):Option Bool:=
ZA (λv=>Zgj a b c v.1) ((0:Int),())
def c79:Ctr:=D3 (.sl (ZcP)) (.sl (.bool)) Iq (.bool) ZiU
def Zfl (i:Int) (k:List Zt) (l:List Bool) (f:List (List Int)) (g:Int) (c d:List Bool) (b:List Int) (a:Int) (e:List Bool):Option (((List Int)×Int×(List Bool)×Unit)⊕(((List (List Int))×Int×(List Bool)×Unit)⊕List (List Int))):=
if a<i then
(atI c a).bind λj=>
if j then
(atI d a).bind λm=>
if m then
Zy ((b.length+[a].length)*8<=140737488355328)<|
(atI e a).bind λn=>
some (.inl (b++[a],Wq (a+1),List.set e (Int.toNat a) true,()))
else
some (.inl (b,Wq (a+1),e,()))
else
some (.inl (b,Wq (a+1),e,()))
else
if 1<(b.length:Int)then
Zy ((f.length+[b].length)*24<=140737488355328)<|
some (.inr (.inl (f++[b],Wq (g+1),e,())))
else
(ZiU k l g).bind λh=>
if h then
Zy ((f.length+[b].length)*24<=140737488355328)<|
some (.inr (.inl (f++[b],Wq (g+1),e,())))
else
some (.inr (.inl (f,Wq (g+1),e,())))
def Zfm (b:Int) (d:List Zt) (f:List Bool) (e:List (List Int)) (a:Int) (c:List Bool):Option (((List (List Int))×Int×(List Bool)×Unit)⊕List (List Int)):=
if a<b then
(atI c a).bind λh=>
if h then
some (.inl (e,Wq (a+1),c,()))
else
(ZbF b d f a true).bind λg=>
(ZbF b d f a false).bind λi=>
ZA (λv=>Zfl b d f e a g i v.1 v.2.1 v.2.2.1) (([]:List Int),(0:Int),c,())
else
some (.inr e)
def ZhS (a:Int) (c:List Zt) (b:List Bool):Option (List (List Int)):=
Zy ((0:Int)<=a)<|
Zy (a<=a)<|
Zy (a<=4611686018427387904)<|
Zy (((1:Nat):Int)*a<=281474976710656)<|
ZA (λv=>Zfm a c b v.1 v.2.1 v.2.2.1) (([]:List (List Int)),(0:Int),List.replicate (Int.toNat a) false,())
def c80:Ctr:=⟨[.dat Iq,.dat (.sl (ZcP)),.dat (.sl (.bool))],[.own (.ol 38 (.ol 2 (.flat Iq)))],λa K=>Zr a λb a=>Zr a λc a=>Zr a λd a=>Yk (ZhS b c d) λr=>K (r,()) ()⟩
def Zfi (c:List Bool) (b:List Int) (a:Int):Option (((List Int)×Int×Unit)⊕(((List Bool)×Unit)⊕List Int)):=
if a<(c.length:Int)then
(atI c a).bind λd=>
if d then
some (.inl (b,Wq (a+1),()))
else
Zy ((b.length+[a].length)*8<=140737488355328)<|
some (.inl (b++[a],Wq (a+1),()))
else
some (.inr (.inr b))
def Zfj (a:List Zt) (g:List Bool) (d b:Int) (c:List (List Int)):Option ((Int×Int×(List (List Int))×Unit)⊕(((List Bool)×Unit)⊕List Int)):=
if b<(a.length:Int)then
(atI g b).bind λh=>
if h then
(atI a b).bind λf=>
if GP f=1 then
(atI c 0).bind λe=>
(ZgN e (Gj f)).bind λi=>
if i then
(ZgN e (Gm f)).bind λj=>
if j then
some (.inl (b,Wq (b+1),List.set c (Int.toNat 0) e,()))
else
some (.inl (d,Wq (b+1),List.set c (Int.toNat 0) e,()))
else
some (.inl (d,Wq (b+1),List.set c (Int.toNat 0) e,()))
else
some (.inl (d,Wq (b+1),c,()))
else
some (.inl (d,Wq (b+1),c,()))
else
(atI g d).bind λh=>
some (.inr (.inl (List.set g (Int.toNat d) false,())))
def Zfk (a:List Zt) (b:Int) (c:List Bool):Option (((List Bool)×Unit)⊕List Int):=
(ZhS b a c).bind λd=>
if(d.length:Int)=0 then
ZA (λv=>Zfi c v.1 v.2.1) (([]:List Int),(0:Int),())
else
ZA (λv=>Zfj a c v.1 v.2.1 v.2.2.1) ((-1:Int),(0:Int),d,())
def Zeg (b:Za):Option (List Int):=
(ZbD b).bind λa=>
(Zfx a (([]:List Int))).bind λc=>
(VT b).bind λd=>
ZA (λv=>Zfk a d v.1) (c,())
def c81:Ctr:=⟨[.dat (Ya)],[.own (.ol 2 (.flat Iq))],λa K=>Zr a λb a=>Yk (Zeg b) λr=>K (r,()) ()⟩
def ZbN (h:Int) (m:ZG) (g:List Zj) (e:Int) (j:List Int) (k l:Int):Option (((List Zj)×Int×(List Int)×Int×Int×Unit)⊕(((List Zj)×Int×(List Int)×Int×Int×Unit)⊕((List Zj)×Zm))):=
if e<2 then
if(GX m)=true then
(Zl (j,k,l,()) 8).bind λf=>
if 0<f.1 then
(Zl f.2 200).bind λa=>
(Zl a.2 30).bind λb=>
(Zl b.2 40).bind λd=>
(Zl d.2 12).bind λc=>
Zy ((g.length+[(Wq (Wq ((2:Int)*h)+e),(Wq (a.1-50),Wq (Wq (a.1-50)+d.1),()),(b.1,Wq (b.1+c.1),()),())].length)*40<=140737488355328)<|
some (.inl (g++[(Wq (Wq ((2:Int)*h)+e),(Wq (a.1-50),Wq (Wq (a.1-50)+d.1),()),(b.1,Wq (b.1+c.1),()),())],Wq (e+1),c.2.1,c.2.2.1,c.2.2.2.1,()))
else
(Zl f.2 24).bind λa=>
if a.1=0 then
(Zl a.2 200).bind λb=>
(Zl b.2 30).bind λd=>
(Zl d.2 40).bind λc=>
(Zl c.2 12).bind λi=>
Zy ((g.length+[(Wq (Wq ((2:Int)*h)+e),(Wq (b.1-50),Wq (Wq (b.1-50)+c.1),()),(d.1,Wq (d.1+i.1),()),())].length)*40<=140737488355328)<|
some (.inl (g++[(Wq (Wq ((2:Int)*h)+e),(Wq (b.1-50),Wq (Wq (b.1-50)+c.1),()),(d.1,Wq (d.1+i.1),()),())],Wq (e+1),i.2.1,i.2.2.1,i.2.2.2.1,()))
else
some (.inl (g,Wq (e+1),a.2.1,a.2.2.1,a.2.2.2.1,()))
else
(Zl (j,k,l,()) 24).bind λf=>
if f.1=0 then
(Zl f.2 200).bind λa=>
(Zl a.2 30).bind λb=>
(Zl b.2 40).bind λd=>
(Zl d.2 12).bind λc=>
Zy ((g.length+[(Wq (Wq ((2:Int)*h)+e),(Wq (a.1-50),Wq (Wq (a.1-50)+d.1),()),(b.1,Wq (b.1+c.1),()),())].length)*40<=140737488355328)<|
some (.inl (g++[(Wq (Wq ((2:Int)*h)+e),(Wq (a.1-50),Wq (Wq (a.1-50)+d.1),()),(b.1,Wq (b.1+c.1),()),())],Wq (e+1),c.2.1,c.2.2.1,c.2.2.2.1,()))
else
some (.inl (g,Wq (e+1),f.2.1,f.2.2.1,f.2.2.2.1,()))
else
some (.inr (.inl (g,Wq (h+1),j,k,l,())))
def ZbO (h:Int) (f:List Zj) (a:Int) (i:List Int) (j k:Int):Option (((List Zj)×Int×(List Int)×Int×Int×Unit)⊕(((List Zj)×Int×(List Int)×Int×Int×Unit)⊕((List Zj)×Zm))):=
if a<2 then
(Zl (i,j,k,()) 24).bind λb=>
if b.1=0 then
(Zl b.2 200).bind λd=>
(Zl d.2 30).bind λe=>
(Zl e.2 40).bind λg=>
(Zl g.2 12).bind λc=>
Zy ((f.length+[(Wq (Wq ((2:Int)*h)+a),(Wq (d.1-50),Wq (Wq (d.1-50)+g.1),()),(e.1,Wq (e.1+c.1),()),())].length)*40<=140737488355328)<|
some (.inl (f++[(Wq (Wq ((2:Int)*h)+a),(Wq (d.1-50),Wq (Wq (d.1-50)+g.1),()),(e.1,Wq (e.1+c.1),()),())],Wq (a+1),c.2.1,c.2.2.1,c.2.2.2.1,()))
else
some (.inl (f,Wq (a+1),b.2.1,b.2.2.1,b.2.2.2.1,()))
else
some (.inr (.inl (f,Wq (h+1),i,j,k,())))
def ZbP (c:List ZG) (b:List Zj) (g:Int) (h:List Int) (i f:Int):Option (((List Zj)×Int×(List Int)×Int×Int×Unit)⊕((List Zj)×Zm)):=
if g<(c.length:Int)then
(atI c g).bind λa=>
if GL a<0 then
ZA (λv=>ZbN g a v.1 v.2.1 v.2.2.1 v.2.2.2.1 v.2.2.2.2.1) (b,(0:Int),h,i,f,())
else
ZA (λv=>ZbO g v.1 v.2.1 v.2.2.1 v.2.2.2.1 v.2.2.2.2.1) (b,(0:Int),h,i,f,())
else
if 0<(b.length:Int)then
(Zl (h,i,f,()) (b.length:Int)).bind λd=>
(Zl d.2 30).bind λe=>
if e.1=0 then
(atI b 0).bind λa=>
(atI b d.1).bind λj=>
some (.inr (List.set b (Int.toNat d.1) (Gi a,j.2),e.2))
else
if e.1=1 then
(atI b d.1).bind λa=>
some (.inr (List.set b (Int.toNat d.1) (Gi a,(Wq (Gl (GM a)+1),(GM a).2),a.2.2),e.2))
else
if e.1=2 then
(atI b d.1).bind λa=>
some (.inr (List.set b (Int.toNat d.1) (Gi a,GM a,((-1),(GR a).2),()),e.2))
else
if e.1=3 then
(atI b d.1).bind λa=>
some (.inr (List.set b (Int.toNat d.1) (Gi a,(Gh (GM a),1000000000,()),a.2.2),e.2))
else
some (.inr (b,e.2))
else
some (.inr (b,(h,i,f,())))
def Yg (a:Zm) (b:Za):Option ((List Zj)×Zm):=
(QV b).bind λc=>
if c then
(YJ (K2 b)).bind λd=>
ZA (λv=>ZbP d v.1 v.2.1 v.2.2.1 v.2.2.2.1 v.2.2.2.2.1) (([]:List (Int×ZC×ZC×Unit)),(0:Int),G8 a,Zm.at a,GU a,())
else
some ([],a)
def c82:Ctr:=⟨[.io (.flat (XY)),.dat (Ya)],[.own (.ol 74 (.flat (Qo)))],λa K=>Zr a λc a=>Zr a λb a=>Yk (Yg c b) λr=>K (r.1,()) (r.2,())⟩
def Zbd (j:Zm):Option (Za×ZB×(List Int)×(List Zj)×Zm):=
(Zef j).bind λc=>
(J4 c.2).bind λe=>
(Zl e.2 3).bind λh=>
if h.1=0 then
(Zau h.2 5 true).bind λd=>
(J3 d.2 d.1).bind λb=>
(QV d.1).bind λg=>
if g then
if(b.1.length:Int)=0 then
(Zl b.2 6).bind λf=>
if 0<f.1 then
(Zeg d.1).bind λi=>
(Yg f.2 d.1).bind λa=>
some (d.1,e.1,i,a.1,a.2)
else
(Yg f.2 d.1).bind λa=>
some (d.1,e.1,b.1,a.1,a.2)
else
(Yg b.2 d.1).bind λa=>
some (d.1,e.1,b.1,a.1,a.2)
else
(Yg b.2 d.1).bind λa=>
some (d.1,e.1,b.1,a.1,a.2)
else
(J3 h.2 c.1).bind λb=>
(QV c.1).bind λg=>
if g then
if(b.1.length:Int)=0 then
(Zl b.2 6).bind λf=>
if 0<f.1 then
(Zeg c.1).bind λi=>
(Yg f.2 c.1).bind λa=>
some (c.1,e.1,i,a.1,a.2)
else
(Yg f.2 c.1).bind λa=>
some (c.1,e.1,b.1,a.1,a.2)
else
(Yg b.2 c.1).bind λa=>
some (c.1,e.1,b.1,a.1,a.2)
else
(Yg b.2 c.1).bind λa=>
some (c.1,e.1,b.1,a.1,a.2)
def c83:Ctr:=⟨[.io (.flat (XY))],[.dat (Ya),.dat (XR),.own (.ol 2 (.flat Iq)),.own (.ol 74 (.flat (Qo)))],λa K=>Zr a λb a=>Yk (Zbd b) λr=>K (r.1,r.2.1,r.2.2.1,r.2.2.2.1,()) (r.2.2.2.2,())⟩
def ZdM (b:List Zh) (c:Int) (m:List Zo) (n:List Zd) (k:List (List UInt8)) (l:List Z6) (i:List Zq) (e:List (List UInt8×Int×List XT×List ZK×List Int×Int×Int×Unit)) (g:List (List UInt8×Int×List Int×Unit)) (f:List (List UInt8)) (d:List Z6) (h:List (List Int×List Int×List Int×List Int×Unit)):Option ((Int×(List Zo)×(List Zd)×(List (List UInt8))×(List Z6)×(List Zq)×(List (List UInt8×Int×List XT×List ZK×List Int×Int×Int×Unit))×(List (List UInt8×Int×List Int×Unit))×(List (List UInt8))×(List Z6)×(List (List Int×List Int×List Int×List Int×Unit))×Unit)⊕(Za×Int×Int)):=
if c<(b.length:Int)then
(atI b c).bind λj=>
(JA ((e,()),(g,f,d,()),h,()) j).bind λa=>
if a.2=0 then
some (.inl (Wq (c+1),m,n,k,l,i,a.1.1.1,a.1.2.1.1,a.1.2.1.2.1,a.1.2.1.2.2.1,a.1.2.2.1,()))
else
some (.inr (((([]:List Zo),()),(([]:List Zd),([]:List (List UInt8)),([]:List Z6),()),([]:List Zq),()),a.2,c))
else
some (.inr (((e,()),(g,f,d,()),h,()),0,(-1)))
def Zf0 (c:Za) (a:List Zh):Option (Za×Int×Int):=
(QV c).bind λd=>
if d then
if 20<(a.length:Int)then
some ((([],()),([],[],[],()),[],()),3,-1)
else
(Zin c).bind λb=>
ZA (λv=>ZdM a v.1 v.2.1 v.2.2.1 v.2.2.2.1 v.2.2.2.2.1 v.2.2.2.2.2.1 v.2.2.2.2.2.2.1 v.2.2.2.2.2.2.2.1 v.2.2.2.2.2.2.2.2.1 v.2.2.2.2.2.2.2.2.2.1 v.2.2.2.2.2.2.2.2.2.2.1) ((0:Int),([]:List Zo),([]:List Zd),([]:List (List UInt8)),([]:List Z6),([]:List Zq),Gd (K6 b),K3 (K2 b),K5 (K2 b),Ge (K2 b),K4 b,())
else
some ((([],()),([],[],[],()),[],()),1,-1)
def c84:Ctr:=⟨[.dat (Ya),.dat (.sl (XI))],[.own (Zex),.dat Iq,.dat Iq],λa K=>Zr a λc a=>Zr a λb a=>Yk (Zf0 c b) λr=>K (r.1,r.2.1,r.2.2,()) ()⟩
def Ze1 (a:ZB) (b:Int):Option ((Int×Unit)⊕Bool):=
if b<(([G4 a,G3 a,G5 a,G6 a].length):Int)then
(atI ([G4 a,G3 a,G5 a,G6 a]) b).bind λd=>
(Z4 d 100 5000).bind λc=>
if c then
some (.inl (Wq (b+1),()))
else
some (.inr false)
else
(Zcv (GZ a)).bind λe=>
if e then
if G4 a<=G3 a then
some (.inr (decide (G5 a<=G6 a)))
else
some (.inr false)
else
some (.inr false)
def ZhL (a:ZB):Option Bool:=
ZA (λv=>Ze1 a v.1) ((0:Int),())
def c85:Ctr:=D1 (XR) (.bool) ZhL
def Zev (a:List Int) (f b:Int):Option ((Int×Unit)⊕Bool):=
if b<(a.length:Int)then
(atI a b).bind λc=>
(Z4 c 0 (Wq (f-1))).bind λe=>
if e then
if 0<b then
(atI a (Wq (b-1))).bind λd=>
if c<=d then
some (.inr false)
else
some (.inl (Wq (b+1),()))
else
some (.inl (Wq (b+1),()))
else
some (.inr false)
else
some (.inr true)
def Zg3 (a:List Int) (b:Int):Option Bool:=
ZA (λv=>Zev a b v.1) ((0:Int),())
def c86:Ctr:=D2 (.sl Iq) Iq (.bool) Zg3
def Zhh (b:Za) (a:List Int):Option Int:=
(QV b).bind λc=>
if c then
(ZbD b).bind λd=>
(Zg3 a (d.length:Int)).bind λe=>
if e then
some 0
else
some 2
else
some 1
def c87:Ctr:=D2 (Ya) (.sl Iq) Iq Zhh
def ZdN (a:ZC):Option Bool:=
(Z4 (Gh a) (-1000000000) 1000000000).bind λc=>
if c then
(Z4 (Gl a) (-1000000000) 1000000000).bind λb=>
if b then
some (decide (Gh a<=Gl a))
else
some false
else
some false
def c88:Ctr:=D1 (Zaa) (.bool) ZdN
def Zgk (a:ZC):Option Bool:=
if 0<=Gh a then
if Gh a<=Gl a then
some (decide (Gl a<=1000000))
else
some false
else
some false
def c89:Ctr:=D1 (Zaa) (.bool) Zgk
def ZbH (a:List Zj) (b c:Int):Option ((Int×Unit)⊕Bool):=
if c<(a.length:Int)then
(atI a c).bind λd=>
(Z4 (Gi d) 0 (Wq (b-1))).bind λg=>
if g then
if 0<c then
(atI a (Wq (c-1))).bind λh=>
if Gi d<=Gi h then
some (.inr false)
else
(ZdN (GM d)).bind λe=>
if e then
(Zgk (GR d)).bind λf=>
if f then
some (.inl (Wq (c+1),()))
else
some (.inr false)
else
some (.inr false)
else
(ZdN (GM d)).bind λe=>
if e then
(Zgk (GR d)).bind λf=>
if f then
some (.inl (Wq (c+1),()))
else
some (.inr false)
else
some (.inr false)
else
some (.inr false)
else
some (.inr true)
def Zgl (b:Za) (a:List Zj):Option Bool:=
(VT b).bind λc=>
ZA (λv=>ZbH a c v.1) ((0:Int),())
def c90:Ctr:=D2 (Ya) (.sl (Qo)) (.bool) Zgl
def X8 (d:Int) (b:List Int) (c g:List Bool) (a:Int):Option ((Int×Unit)⊕((Int×(List Bool)×Unit)⊕(((List Int)×(List Bool)×Unit)⊕((List Int)×Bool)))):=
if a<d then
(atI c a).bind λe=>
if e then
some (.inl (Wq (a+1),()))
else
(atI g a).bind λf=>
if f then
some (.inl (Wq (a+1),()))
else
if a=d then
some (.inr (.inr (.inr (([]:List Int),false))))
else
Zy ((b.length+[a].length)*8<=140737488355328)<|
some (.inr (.inr (.inl (b++[a],List.set c (Int.toNat a) true,()))))
else
if a=d then
some (.inr (.inr (.inr (([]:List Int),false))))
else
(atI c a).bind λe=>
Zy ((b.length+[a].length)*8<=140737488355328)<|
some (.inr (.inr (.inl (b++[a],List.set c (Int.toNat a) true,()))))
def ZaT (f:Int) (e:List Zt) (i:List Bool) (h:List Int) (d:List Bool) (a:Int) (b:List Bool):Option ((Int×(List Bool)×Unit)⊕(((List Int)×(List Bool)×Unit)⊕((List Int)×Bool))):=
if a<(e.length:Int)then
(atI i a).bind λg=>
if g then
(atI e a).bind λc=>
(atI d (Gj c)).bind λj=>
if j then
some (.inl (Wq (a+1),b,()))
else
(atI b (Gm c)).bind λk=>
some (.inl (Wq (a+1),List.set b (Int.toNat (Gm c)) true,()))
else
some (.inl (Wq (a+1),b,()))
else
ZA (λv=>X8 f h d b v.1) ((0:Int),())
def Jt (b:Int) (c:List Zt) (e:List Bool) (a:List Int) (d:List Bool):Option (((List Int)×(List Bool)×Unit)⊕((List Int)×Bool)):=
if(a.length:Int)<b then
ZA (λv=>ZaT b c e a d v.1 v.2.1) ((0:Int),List.replicate (Int.toNat b) false,())
else
some (.inr (a,true))
def ZhR (a:Int) (c:List Zt) (b:List Bool):Option ((List Int)×Bool):=
Zy ((0:Int)<=a)<|
Zy (a<=a)<|
Zy (a<=4611686018427387904)<|
Zy (((1:Nat):Int)*a<=281474976710656)<|
ZA (λv=>Jt a c b v.1 v.2.1) (([]:List Int),List.replicate (Int.toNat a) false,())
def c91:Ctr:=⟨[.dat Iq,.dat (.sl (ZcP)),.dat (.sl (.bool))],[.own (.ol 2 (.flat Iq)),.dat (.bool)],λa K=>Zr a λb a=>Zr a λc a=>Zr a λd a=>Yk (ZhR b c d) λr=>K (r.1,r.2,()) ()⟩
def Zbx (b:Za) (a:List Int):Option ((List Int)×Int):=
(Zhh b a).bind λc=>
if c=0 then
(ZbD b).bind λe=>
(VT b).bind λg=>
(Zfx e a).bind λf=>
(ZhR g e f).bind λd=>
if d.2 then
some (d.1,0)
else
some ([],7)
else
some ([],c)
def c92:Ctr:=⟨[.dat (Ya),.dat (.sl Iq)],[.own (.ol 2 (.flat Iq)),.dat Iq],λa K=>Zr a λc a=>Zr a λb a=>Yk (Zbx c b) λr=>K (r.1,r.2,()) ()⟩
def Zhi (c:Za) (i:ZB) (a:List Int) (b:List Zj):Option ((List Int)×Int):=
(QV c).bind λe=>
if e then
(ZhL i).bind λg=>
if g then
(Zhh c a).bind λh=>
if h=0 then
(Zgl c b).bind λf=>
if f then
(Zbx c a).bind λd=>
some (d.1,d.2)
else
some ([],2)
else
some ([],2)
else
some ([],1)
else
some ([],1)
def c93:Ctr:=⟨[.dat (Ya),.dat (XR),.dat (.sl Iq),.dat (.sl (Qo))],[.own (.ol 2 (.flat Iq)),.dat Iq],λa K=>Zr a λd a=>Zr a λe a=>Zr a λc a=>Zr a λb a=>Yk (Zhi d e c b) λr=>K (r.1,r.2,()) ()⟩
def Zkd (a:Int):Option Zf:=
Zy ((0:Int)<=a)<|
Zy (a<=a)<|
Zy (a<=4611686018427387904)<|
Zy (((1:Nat):Int)*a<=281474976710656)<|
Zy (((16:Nat):Int)*a<=281474976710656)<|
some (List.replicate (Int.toNat a) false,List.replicate (Int.toNat a) ((0:Int),(0:Int),()),List.replicate (Int.toNat a) ((0:Int),(0:Int),()),())
def c94:Ctr:=⟨[.dat Iq],[.own (ZjK)],λa K=>Zr a λb a=>Yk (Zkd b) λr=>K (r,()) ()⟩
def Zim (e:Zu) (b:Zb) (a:ZG):Option Int:=
if GL a<0 then
some 0
else
(atI (K3 b) (GL a)).bind λd=>
(atI (Gd e) (Gr d)).bind λc=>
(atI (Gb c) (ZG.pin a)).bind λf=>
some (G2 f)
def c95:Ctr:=D3 (X9) (YN) (Zgm) Iq Zim
def Zml (e:Zq) (b:Int) (a:List Int):Option ((Int×(List Int)×Unit)⊕((Int×(List Int)×Unit)⊕List Int)):=
if 0<b then
(atI (K8 e) b).bind λc=>
(atI a c).bind λf=>
(atI a b).bind λd=>
some (.inl (Wq (b-1),List.set a (Int.toNat c) (Wq (f+d)),()))
else
some (.inr (.inr a))
def ZaS (e:Za) (g:Zq) (b:List ZG) (a:List Int) (d:Int) (c:List Int):Option ((Int×(List Int)×Unit)⊕List Int):=
if d<(a.length:Int)then
(atI (Gu g) d).bind λf=>
(atI c f).bind λk=>
(atI a d).bind λi=>
(atI b i).bind λj=>
(Zim (K6 e) (K2 e) j).bind λh=>
some (.inl (Wq (d+1),List.set c (Int.toNat f) (Wq (k+h)),()))
else
ZA (λv=>Zml g v.1 v.2.1) (Wq ((c.length:Int)-1),c,())
def Zao (a:Za) (b:Int):Option (List Int):=
(atI (K4 a) b).bind λc=>
(Xc (GE c)).bind λd=>
(YJ (K2 a)).bind λe=>
(Xv (K2 a) b).bind λf=>
ZA (λv=>ZaS a c e f v.1 v.2.1) ((0:Int),d,())
def c96:Ctr:=⟨[.dat (Ya),.dat Iq],[.own (.ol 2 (.flat Iq))],λa K=>Zr a λc a=>Zr a λb a=>Yk (Zao c b) λr=>K (r,()) ()⟩
def ZdR (a:Za) (c:Zt):Option (ZK×Int):=
(YJ (K2 a)).bind λd=>
(atI d (Wq (Int.tdiv (Gm c) 2))).bind λb=>
(atI (K3 (K2 a)) (GL b)).bind λi=>
(atI (Gd (K6 a)) (Gr i)).bind λe=>
(atI (Gp e) (GY c)).bind λh=>
(Zao a (ZG.net b)).bind λf=>
(atI f 0).bind λg=>
some (h,g)
def c97:Ctr:=⟨[.dat (Ya),.dat (ZcP)],[.dat (Zof),.dat Iq],λa K=>Zr a λb a=>Zr a λc a=>Yk (ZdR b c) λr=>K (r.1,r.2,()) ()⟩
def Zby (a:List Int) (d c e b:Int):Option ((Int×Unit)⊕(Int×Int×Int)):=
if 0<=b then
(atI a b).bind λf=>
if Min.min (Max.max d c) e=f then
some (.inr (b,1,0))
else
if f<Min.min (Max.max d c) e then
(atI a (Wq (b+1))).bind λg=>
some (.inr (b,Wq (g-Min.min (Max.max d c) e),Wq (Min.min (Max.max d c) e-f)))
else
some (.inl (Wq (b-1),()))
else
some (.inr (0,1,0))
def ZdO (a:List Int) (c:Int):Option (Int×Int×Int):=
(atI a 0).bind λb=>
(atI a (Wq ((a.length:Int)-1))).bind λd=>
ZA (λv=>Zby a c b d v.1) (Wq ((a.length:Int)-1),())
def c98:Ctr:=⟨[.dat (.sl Iq),.dat Iq],[.dat Iq,.dat Iq,.dat Iq],λa K=>Zr a λb a=>Zr a λc a=>Yk (ZdO b c) λr=>K (r.1,r.2.1,r.2.2,()) ()⟩
def Yx (b a c:Int):Option Int:=
Zy (a≠0)<|
if Int.tmod b a<0 then
if c=0 then
some (Wq (Wq (Int.tdiv b a)-1))
else
if 0<Int.tmod b a then
if c=1 then
some (Wq (Wq (Int.tdiv b a)+1))
else
some (Wq (Int.tdiv b a))
else
some (Wq (Int.tdiv b a))
else
if 0<Int.tmod b a then
if c=1 then
some (Wq (Wq (Int.tdiv b a)+1))
else
some (Wq (Int.tdiv b a))
else
some (Wq (Int.tdiv b a))
def c99:Ctr:=D3 Iq Iq Iq Iq Yx
def QW (e:ZE) (b a:Int×Int×Int) (g d c:Int):Option ((Int×Int×Unit)⊕((Int×Int×Unit)⊕Int)):=
if c<2 then
if g=1 then
if c=0 then
if 0<Wq (b.2.2*a.2.1)then
(atI (Gz e) (Wq (Wq (Wq (Wq (b.1+g)*((GA e).length:Int))+a.1)+c))).bind λf=>
some (.inl (Wq (d+Wq (Wq (b.2.2*a.2.1)*f)),Wq (c+1),()))
else
some (.inl (d,Wq (c+1),()))
else
if 0<Wq (b.2.2*a.2.2)then
(atI (Gz e) (Wq (Wq (Wq (Wq (b.1+g)*((GA e).length:Int))+a.1)+c))).bind λf=>
some (.inl (Wq (d+Wq (Wq (b.2.2*a.2.2)*f)),Wq (c+1),()))
else
some (.inl (d,Wq (c+1),()))
else
if c=0 then
if 0<Wq (b.2.1*a.2.1)then
(atI (Gz e) (Wq (Wq (Wq (Wq (b.1+g)*((GA e).length:Int))+a.1)+c))).bind λf=>
some (.inl (Wq (d+Wq (Wq (b.2.1*a.2.1)*f)),Wq (c+1),()))
else
some (.inl (d,Wq (c+1),()))
else
if 0<Wq (b.2.1*a.2.2)then
(atI (Gz e) (Wq (Wq (Wq (Wq (b.1+g)*((GA e).length:Int))+a.1)+c))).bind λf=>
some (.inl (Wq (d+Wq (Wq (b.2.1*a.2.2)*f)),Wq (c+1),()))
else
some (.inl (d,Wq (c+1),()))
else
some (.inr (.inl (d,Wq (g+1),())))
def YZ (g:ZE) (f:Int) (b a:Int×Int×Int) (c d:Int):Option ((Int×Int×Unit)⊕Int):=
if d<2 then
ZA (λv=>QW g b a d v.1 v.2.1) (c,(0:Int),())
else
(Yx c (Wq (Wq (b.2.1+b.2.2)*Wq (a.2.1+a.2.2))) f).bind λe=>
some (.inr e)
def Vq (a:ZE) (c e f:Int):Option Int:=
(ZdO (GS a) c).bind λb=>
(ZdO (GA a) e).bind λd=>
ZA (λv=>YZ a f b d v.1 v.2.1) ((0:Int),(0:Int),())
def ZHq:Ctr:=D4 (Zaw) Iq Iq Iq Iq Vq
def ZdS (d:Za) (c:Zt):Option Int:=
(YJ (K2 d)).bind λb=>
(atI b (Wq (Int.tdiv (Gm c) 2))).bind λa=>
some (ZG.net a)
def ZHr:Ctr:=D2 (Ya) (ZcP) Iq ZdS
def Zet (e:Zq) (a b:List Int) (c:Int):Option (((List Int)×Int×Unit)⊕List Int):=
if c<(a.length:Int)then
(atI (K8 e) c).bind λh=>
(atI b h).bind λg=>
(atI (GB e) c).bind λd=>
(atI a c).bind λf=>
Zy ((b.length+[Wq (g+Wq (d*f))].length)*8<=140737488355328)<|
some (.inl (b++[Wq (g+Wq (d*f))],Wq (c+1),()))
else
some (.inr b)
def Zat (b:Za) (a:Int):Option (List Int):=
(atI (K4 b) a).bind λd=>
(Zao b a).bind λc=>
ZA (λv=>Zet d c v.1 v.2.1) ([(0:Int)],(1:Int),())
def ZHs:Ctr:=⟨[.dat (Ya),.dat Iq],[.own (.ol 2 (.flat Iq))],λa K=>Zr a λc a=>Zr a λb a=>Yk (Zat c b) λr=>K (r,()) ()⟩
def Qq (h:Za) (e c:Int) (a b:List Int) (d:Int):Option (((List Int)×Int×Unit)⊕List Int):=
(atI (K4 h) e).bind λg=>
if d<((Gu g).length:Int)then
(atI (Gu g) d).bind λi=>
(atI a i).bind λj=>
(Yx j 1000 c).bind λf=>
Zy ((b.length+[f].length)*8<=140737488355328)<|
some (.inl (b++[f],Wq (d+1),()))
else
some (.inr b)
def VR (c:Za) (a b:Int):Option (List Int):=
(Zat c a).bind λd=>
ZA (λv=>Qq c a b d v.1 v.2.1) (([]:List Int),(0:Int),())
def ZIa:Ctr:=⟨[.dat (Ya),.dat Iq,.dat Iq],[.own (.ol 2 (.flat Iq))],λa K=>Zr a λd a=>Zr a λc a=>Zr a λb a=>Yk (VR d c b) λr=>K (r,()) ()⟩
def ZeC (b:ZB) (c a:Int):Option Int:=
if c=1 then
if a=0 then
some (G4 b)
else
some (G3 b)
else
if a=0 then
some (G5 b)
else
some (G6 b)
def ZIb:Ctr:=D3 (XR) Iq Iq Iq ZeC
def JD (e:Za) (i:ZB) (b:Zt) (c a:Int):Option Int:=
if GP b=1 then
(ZdR e b).bind λh=>
(atI h.1.2.2.2.2.1 (Int.tmod (Gm b) 2)).bind λf=>
(Vq f c h.2 a).bind λl=>
(ZeC i (GP b) a).bind λg=>
(Yx (Wq (l*g)) 1000 a).bind λd=>
some d
else
(ZdS e b).bind λk=>
(VR e k a).bind λj=>
(atI j (GY b)).bind λf=>
(ZeC i (GP b) a).bind λg=>
(Yx (Wq (f*g)) 1000 a).bind λd=>
some d
def c105:Ctr:=⟨[.dat (Ya),.dat (XR),.dat (ZcP),.dat Iq,.dat Iq],[.dat Iq],λa K=>Zr a λd a=>Zr a λf a=>Zr a λe a=>Zr a λb a=>Zr a λc a=>Yk (JD d f e b c) λr=>K (r,()) ()⟩
def ZbB (d c a b:Int):Option ((Int×Int×Unit)⊕Int):=
if a<b then
if Wq (Wq (Int.tdiv (Wq (Wq (a+b)+1)) 2)*Wq (Int.tdiv (Wq (Wq (a+b)+1)) 2))<=d then
some (.inl (Wq (Int.tdiv (Wq (Wq (a+b)+1)) 2),b,()))
else
some (.inl (a,Wq (Wq (Int.tdiv (Wq (Wq (a+b)+1)) 2)-1),()))
else
if c=1 then
if Wq (a*a)<d then
some (.inr (Wq (a+1)))
else
some (.inr a)
else
some (.inr a)
def Zfv (b a:Int):Option Int:=
ZA (λv=>ZbB b a v.1 v.2.1) ((0:Int),(2000000000:Int),())
def ZIc:Ctr:=D2 Iq Iq Iq Zfv
def ZdQ (e:Za) (c d a b:Int):Option Int:=
(atI (K4 e) c).bind λi=>
(atI (Gu i) d).bind λh=>
(Zat e c).bind λg=>
(atI g h).bind λf=>
(Zfv (Wq (Wq (Wq (1000000*a)*a)+Wq (Wq (4*f)*f))) b).bind λj=>
(Yx j 1000 b).bind λk=>
some k
def c107:Ctr:=⟨[.dat (Ya),.dat Iq,.dat Iq,.dat Iq,.dat Iq],[.dat Iq],λa K=>Zr a λf a=>Zr a λe a=>Zr a λd a=>Zr a λb a=>Zr a λc a=>Yk (ZdQ f e d b c) λr=>K (r,()) ()⟩
def Qh (d:Za) (c:Zt) (a b:Int):Option Int:=
if GP c=1 then
(ZdR d c).bind λe=>
(atI e.1.2.2.2.2.2.1 (Int.tmod (Gm c) 2)).bind λg=>
(Vq g a e.2 b).bind λh=>
some h
else
(ZdS d c).bind λi=>
(ZdQ d i (GY c) a b).bind λf=>
some (Min.min 1000000 f)
def ZId:Ctr:=D4 (Ya) (ZcP) Iq Iq Iq Qh
def ZbI (b:Za) (d:ZB) (a:Zt) (c:ZC):Option (ZC×ZC):=
(JD b d a (Gh c) 0).bind λe=>
(JD b d a (Gh c) 1).bind λj=>
(Qh b a (Gh c) 0).bind λk=>
(Qh b a (Gh c) 1).bind λh=>
(JD b d a (Gl c) 0).bind λg=>
(JD b d a (Gl c) 1).bind λf=>
(Qh b a (Gl c) 0).bind λi=>
(Qh b a (Gl c) 1).bind λl=>
some ((Min.min e g,Max.max j f,()),(Min.min k i,Max.max h l,()))
def c109:Ctr:=⟨[.dat (Ya),.dat (XR),.dat (ZcP),.dat (Zaa)],[.dat (Zaa),.dat (Zaa)],λa K=>Zr a λb a=>Zr a λc a=>Zr a λd a=>Zr a λe a=>Yk (ZbI b c d e) λr=>K (r.1,r.2,()) ()⟩
def Zk4 (b a:ZC):Option ZC:=
some (Min.min (Gh b) (Gh a),Max.max (Gl b) (Gl a),())
def ZIe:Ctr:=D2 (Zaa) (Zaa) (Zaa) Zk4
def QX (r:Za) (q:ZB) (m:List Zt) (t:List Bool) (l:Zf) (k:Int) (d:Bool) (a i f e c h:Int):Option ((Bool×Int×Int×Int×Int×Int×Int×Unit)⊕((Bool×Int×Int×Int×Int×Int×Int×Unit)⊕(Bool×Zj))):=
if a<(m.length:Int)then
(atI m a).bind λg=>
(atI t a).bind λp=>
if p then
if Gm g=k then
(atI (Ga l) (Gj g)).bind λu=>
if u then
(atI (Gv l) (Gj g)).bind λs=>
(ZbI r q g s).bind λb=>
(atI (Gx l) (Gj g)).bind λj=>
if d then
(Zk4 (Wq (Gh j+b.1.1),Wq (Gl j+b.1.2.1),()) (f,e,())).bind λn=>
(Zk4 b.2 (c,h,())).bind λo=>
some (.inl (true,Wq (a+1),k,Gh n,Gl n,Gh o,Gl o,()))
else
some (.inl (true,Wq (a+1),k,Wq (Gh j+b.1.1),Wq (Gl j+b.1.2.1),b.2.1,b.2.2.1,()))
else
some (.inl (d,Wq (a+1),i,f,e,c,h,()))
else
some (.inl (d,Wq (a+1),i,f,e,c,h,()))
else
some (.inl (d,Wq (a+1),i,f,e,c,h,()))
else
some (.inr (.inr (d,(i,(f,e,()),(c,h,()),()))))
def ZbG (k:Za) (l:ZB) (n:List Zt) (o:List Bool) (j:List Zj) (m:Zf) (g:Int) (h:Bool) (b i d e c f:Int):Option ((Bool×Int×Int×Int×Int×Int×Int×Unit)⊕(Bool×Zj)):=
if b<(j.length:Int)then
(atI j b).bind λa=>
if Gi a=g then
some (.inl (true,Wq (b+1),Gi a,Gh (GM a),Gl (GM a),Gh (GR a),Gl (GR a),()))
else
some (.inl (h,Wq (b+1),i,d,e,c,f,()))
else
ZA (λv=>QX k l n o m g v.1 v.2.1 v.2.2.1 v.2.2.2.1 v.2.2.2.2.1 v.2.2.2.2.2.1 v.2.2.2.2.2.2.1) (h,(0:Int),i,d,e,c,f,())
def Zcw (f:Za) (b:ZB) (d:List Zt) (e:List Bool) (g:List Zj) (c:Zf) (a:Int):Option (Bool×Zj):=
ZA (λv=>ZbG f b d e g c a v.1 v.2.1 v.2.2.1 v.2.2.2.1 v.2.2.2.2.1 v.2.2.2.2.2.1 v.2.2.2.2.2.2.1) (false,(0:Int),(0:Int),(0:Int),(0:Int),(0:Int),(0:Int),())
def ZIf:Ctr:=⟨[.dat (Ya),.dat (XR),.dat (.sl (ZcP)),.dat (.sl (.bool)),.dat (.sl (Qo)),.dat (ZdU),.dat Iq],[.dat (.bool),.dat (Qo)],λa K=>Zr a λb a=>Zr a λd a=>Zr a λf a=>Zr a λg a=>Zr a λh a=>Zr a λe a=>Zr a λc a=>Yk (Zcw b d f g h e c) λr=>K (r.1,r.2,()) ()⟩
def Qf (n:Za) (k:ZB) (l:List Zt) (p:List Bool) (m:List Zj) (h:List Int) (f:Int) (j:List Bool) (i g:List ZC) (d:List Bool) (b c:List ZC):Option ((Int×(List Bool)×(List ZC)×(List ZC)×(List Bool)×(List ZC)×(List ZC)×Unit)⊕(Zf×Bool)):=
if f<(h.length:Int)then
(atI h f).bind λa=>
(Zcw n k l p m (d,b,c,()) a).bind λe=>
if e.1 then
(ZdN e.2.2.1).bind λo=>
if o then
(atI d a).bind λq=>
(atI b a).bind λs=>
(atI c a).bind λr=>
some (.inl (Wq (f+1),j,i,g,List.set d (Int.toNat a) true,List.set b (Int.toNat a) e.2.2.1,List.set c (Int.toNat a) e.2.2.2.1,()))
else
some (.inr ((([]:List Bool),([]:List ZC),([]:List ZC),()),false))
else
some (.inl (Wq (f+1),j,i,g,d,b,c,()))
else
some (.inr ((d,b,c,()),true))
def Ziq (b:Za) (d:ZB) (f:List Zt) (g:List Bool) (h:List Zj) (e:List Int):Option (Zf×Bool):=
(VT b).bind λc=>
(Zkd c).bind λa=>
ZA (λv=>Qf b d f g h e v.1 v.2.1 v.2.2.1 v.2.2.2.1 v.2.2.2.2.1 v.2.2.2.2.2.1 v.2.2.2.2.2.2.1) ((0:Int),([]:List Bool),([]:List ZC),([]:List ZC),Ga a,Gx a,Gv a,())
def ZIg:Ctr:=⟨[.dat (Ya),.dat (XR),.dat (.sl (ZcP)),.dat (.sl (.bool)),.dat (.sl (Qo)),.dat (.sl Iq)],[.own (ZjK),.dat (.bool)],λa K=>Zr a λb a=>Zr a λc a=>Zr a λe a=>Zr a λf a=>Zr a λg a=>Zr a λd a=>Yk (Ziq b c e f g d) λr=>K (r.1,r.2,()) ()⟩
def Y2 (d:Za) (g:ZB) (b:List Int) (a:List Zj):Option (Zf×Int):=
(Zhi d g b a).bind λc=>
if c.2=0 then
(ZbD d).bind λe=>
(Zfx e b).bind λh=>
(Ziq d g e h a c.1).bind λf=>
if f.2 then
some (f.1,0)
else
some (([],[],[],()),3)
else
some (([],[],[],()),c.2)
def ZHt:Ctr:=⟨[.dat (Ya),.dat (XR),.dat (.sl Iq),.dat (.sl (Qo))],[.dat (ZdU),.dat Iq],λa K=>Zr a λd a=>Zr a λe a=>Zr a λc a=>Zr a λb a=>Yk (Y2 d e c b) λr=>K (r.1,r.2,()) ()⟩
def Zfy (j:Zm):Option (Za×Zh×ZB×(List Zj)×Zf×Zm):=
(Zbd j).bind λa=>
(QV a.1).bind λk=>
if k then
(Zl a.2.2.2.2 3).bind λe=>
if e.1=0 then
(Zcl e.2 a.1 1).bind λi=>
(Zf0 a.1 i.1).bind λf=>
(Yg i.2 f.1).bind λg=>
(ZbC g.2 f.1).bind λb=>
(Y2 f.1 a.2.1 (([]:List Int)) g.1).bind λd=>
(Zl b.2 8).bind λc=>
if c.1=0 then
if 0<0 then
some (f.1,b.1,a.2.1,g.1,d.1,c.2)
else
some (f.1,b.1,a.2.1,g.1,d.1,c.2)
else
some (f.1,b.1,a.2.1,g.1,d.1,c.2)
else
(ZbC e.2 a.1).bind λb=>
(Y2 a.1 a.2.1 (([]:List Int)) a.2.2.2.1).bind λd=>
(Zl b.2 8).bind λc=>
if c.1=0 then
if 0<(a.2.2.1.length:Int)then
(Y2 a.1 a.2.1 a.2.2.1 a.2.2.2.1).bind λh=>
some (a.1,b.1,a.2.1,a.2.2.2.1,h.1,c.2)
else
some (a.1,b.1,a.2.1,a.2.2.2.1,d.1,c.2)
else
some (a.1,b.1,a.2.1,a.2.2.2.1,d.1,c.2)
else
(ZbC a.2.2.2.2 a.1).bind λb=>
(Y2 a.1 a.2.1 (([]:List Int)) a.2.2.2.1).bind λd=>
(Zl b.2 8).bind λe=>
if e.1=0 then
if 0<(a.2.2.1.length:Int)then
(Y2 a.1 a.2.1 a.2.2.1 a.2.2.2.1).bind λh=>
some (a.1,b.1,a.2.1,a.2.2.2.1,h.1,e.2)
else
some (a.1,b.1,a.2.1,a.2.2.2.1,d.1,e.2)
else
some (a.1,b.1,a.2.1,a.2.2.2.1,d.1,e.2)
def ZIh:Ctr:=⟨[.io (.flat (XY))],[.dat (Ya),.own (ZtU),.dat (XR),.dat (.sl (Qo)),.dat (ZdU)],λa K=>Zr a λb a=>Yk (Zfy b) λr=>K (r.1,r.2.1,r.2.2.1,r.2.2.2.1,r.2.2.2.2.1,()) (r.2.2.2.2.2,())⟩
def Jc (b:List Int):Option (Za×Zh×ZB×(List Zj)×Zf):=
(Zfu b).bind λc=>
(Zfy c).bind λa=>
some (a.1,a.2.1,a.2.2.1,a.2.2.2.1,a.2.2.2.2.1)
def ZIi:Ctr:=⟨[.dat (.sl (.int .u8))],[.dat (Ya),.own (ZtU),.dat (XR),.dat (.sl (Qo)),.dat (ZdU)],λa K=>Zr a λb a=>Yk (Jc b) λr=>K (r.1,r.2.1,r.2.2.1,r.2.2.2.1,r.2.2.2.2,()) ()⟩
def Zcg (d:Zu) (a:Zb):Option Int:=
(ZcL d a).bind λc=>
if c then
(YJ a).bind λb=>
some (b.length:Int)
else
some (-1)
def c116:Ctr:=D2 (X9) (YN) Iq Zcg
def Zjw (f:Zu) (b:Zb) (a:Int):Option (ZG×Bool):=
(ZcL f b).bind λd=>
if d then
(YJ b).bind λc=>
(Z4 a 0 (Wq ((c.length:Int)-1))).bind λg=>
if g then
(atI c a).bind λe=>
some (e,true)
else
some ((0,0,0,false,()),false)
else
some ((0,0,0,false,()),false)
def c117:Ctr:=⟨[.dat (X9),.dat (YN),.dat Iq],[.dat (Zgm),.dat (.bool)],λa K=>Zr a λd a=>Zr a λc a=>Zr a λb a=>Yk (Zjw d c b) λr=>K (r.1,r.2,()) ()⟩
def Zf1 (d:Zu) (c:Zb) (a:Int):Option (Int×Int):=
(Zjw d c a).bind λb=>
if b.2 then
some (b.1.1,b.1.2.1)
else
some ((-1),(-1))
def ZIj:Ctr:=⟨[.dat (X9),.dat (YN),.dat Iq],[.dat Iq,.dat Iq],λa K=>Zr a λd a=>Zr a λc a=>Zr a λb a=>Yk (Zf1 d c b) λr=>K (r.1,r.2,()) ()⟩
def Zf4 (d:Zu) (c:Zb) (a:Int):Option Int:=
(Zjw d c a).bind λb=>
if b.2 then
some b.1.2.2.1
else
some (-1)
def c119:Ctr:=D3 (X9) (YN) Iq Iq Zf4
def ZhK (d:Zu) (b:Zb) (a:Int):Option Int:=
(ZcL d b).bind λc=>
if c then
(Zdb b a).bind λe=>
some e
else
some (-1)
def ZIk:Ctr:=D3 (X9) (YN) Iq Iq ZhK
def YC (c b a:Int):Option Bool:=
if b<=c then
some (decide (c<=a))
else
some false
def ZtO:Ctr:=D3 Iq Iq Iq (.bool) YC
def ZeT (a:List UInt8):Option Bool:=
(YC (a.length:Int) 1 8).bind λb=>
if b then
Zy (a.length<=1000000)<|
if Go.Lib.trimS a [(97:UInt8),98,99,100,101,102,103,104,105,106,107,108,109,110,111,112,113,114,115,116,117,118,119,120,121,122,48,49,50,51,52,53,54,55,56,57]=([]:List UInt8)then
(atI a 0).bind λc=>
some (decide ((0:Int)<=Go.Lib.indexByte [(97:UInt8),98,99,100,101,102,103,104,105,106,107,108,109,110,111,112,113,114,115,116,117,118,119,120,121,122] (Nat.toUInt8 (Int.toNat ((UInt8.toNat c):Int)))))
else
some false
else
some false
def ZF5:Ctr:=D1 (.str) (.bool) ZeT
def ZbW (a:List XT):Option Int:=
some (a.length:Int)
def ZHu:Ctr:=D1 (.sl (Znm)) Iq ZbW
def XH (b:List (List UInt8)) (d:List UInt8) (a:Int):Option ((Int×Unit)⊕Int):=
if a<(b.length:Int)then
(atI b a).bind λc=>
if d=c then
some (.inr a)
else
some (.inl (Wq (a+1),()))
else
some (.inr (-1))
def Xr (a:List (List UInt8)) (b:List UInt8):Option Int:=
ZA (λv=>XH a b v.1) ((0:Int),())
def c124:Ctr:=D2 (.sl (.str)) (.str) Iq Xr
def QU (a:List (List UInt8)) (c:List UInt8):Option Bool:=
(Xr a c).bind λb=>
some (decide (0<=b))
def ZIl:Ctr:=D2 (.sl (.str)) (.str) (.bool) QU
def ZeR (a:List (List UInt8)) (b:Int):Option ((Int×Unit)⊕Bool):=
if b<(a.length:Int)then
(atI a b).bind λc=>
(ZeT c).bind λd=>
if d then
Zy ((0:Int)<=b)<|
Zy (b<=(a.length:Int))<|
(QU (List.take (Int.toNat b-Int.toNat 0) (List.drop (Int.toNat 0) a)) c).bind λe=>
if e then
some (.inr false)
else
some (.inl (Wq (b+1),()))
else
some (.inr false)
else
some (.inr true)
def Zbj (a:List (List UInt8)):Option Bool:=
ZA (λv=>ZeR a v.1) ((0:Int),())
def ZGx:Ctr:=D1 (.sl (.str)) (.bool) Zbj
def Zbk (b:List XT) (a:List (List UInt8)) (d:Int):Option (((List (List UInt8))×Int×Unit)⊕Bool):=
if d<(b.length:Int)then
(atI b d).bind λc=>
Zy ((a.length+[GN c].length)*16<=140737488355328)<|
if d=Wq ((b.length:Int)-1)then
if G9 c=2 then
if G2 c=0 then
if(Gn c)=true then
some (.inr false)
else
some (.inl (a++[GN c],Wq (d+1),()))
else
some (.inr false)
else
some (.inr false)
else
if G9 c=1 then
(YC (G2 c) 0 500).bind λe=>
if e then
some (.inl (a++[GN c],Wq (d+1),()))
else
some (.inr false)
else
some (.inr false)
else
(ZbW b).bind λf=>
(YC f 2 5).bind λe=>
if e then
(Zbj a).bind λg=>
some (.inr g)
else
some (.inr false)
def ZiI (a:List XT):Option Bool:=
ZA (λv=>Zbk a v.1 v.2.1) (([]:List (List UInt8)),(0:Int),())
def c127:Ctr:=D1 (.sl (Znm)) (.bool) ZiI
def ZiJ (a:Int):Option Bool:=
if a=4 then
some true
else
some (decide (a=5))
def ZIm:Ctr:=D1 Iq (.bool) ZiJ
def XE (a:List Int):Option Int:=
some (a.length:Int)
def ZEl:Ctr:=D1 (.sl Iq) Iq XE
def Zgx (a d b:Int):Option Bool:=
(YC a d b).bind λc=>
some !c
def c130:Ctr:=D3 Iq (.ptr Iq) (.ptr Iq) (.bool) Zgx
def Y7 (c:List Int) (b:Int×Int×Unit) (a:Int):Option ((Int×Unit)⊕Int):=
if a<(c.length:Int)then
(atI c a).bind λe=>
(Zgx e b.1 b.2.1).bind λd=>
if d then
some (.inr a)
else
some (.inl (Wq (a+1),()))
else
some (.inr (-1))
def YQ (a:List Int) (b:Int×Int×Unit):Option Int:=
ZA (λv=>Y7 a b v.1) ((0:Int),())
def c131:Ctr:=D2 (.sl Iq) (.fn 230 (.pair (.ptr Iq) (.pair (.ptr Iq) (.unit)))) Iq YQ
def Xi (a:List Int) (c:Int×Int×Unit):Option Bool:=
(YQ a c).bind λb=>
some (decide (0<=b))
def ZIn:Ctr:=D2 (.sl Iq) (.fn 230 (.pair (.ptr Iq) (.pair (.ptr Iq) (.unit)))) (.bool) Xi
def Qe (a:List Int) (c b:Int):Option Bool:=
(Xi a (c,b,())).bind λd=>
some !d
def ZDK:Ctr:=D3 (.sl Iq) Iq Iq (.bool) Qe
def VG (a:List Int) (b:Int):Option ((Int×Unit)⊕Bool):=
if b<(a.length:Int)then
(atI a (Wq (b-1))).bind λd=>
(atI a b).bind λc=>
if c<=d then
some (.inr false)
else
some (.inl (Wq (b+1),()))
else
some (.inr true)
def Jj (a:List Int):Option Bool:=
ZA (λv=>VG a v.1) ((1:Int),())
def ZGy:Ctr:=D1 (.sl Iq) (.bool) Jj
def Zic (a:List Int):Option Bool:=
(XE a).bind λb=>
(YC b 1 4).bind λc=>
if c then
(Qe a 0 100000).bind λd=>
if d then
(Jj a).bind λe=>
some e
else
some false
else
some false
def ZIo:Ctr:=D1 (.sl Iq) (.bool) Zic
def ZiH (a:ZE):Option Bool:=
(Zic (GS a)).bind λd=>
if d then
(Zic (GA a)).bind λb=>
if b then
if((Gz a).length:Int)=Wq (((GS a).length:Int)*((GA a).length:Int))then
(Qe (Gz a) (-1000000) 1000000).bind λc=>
some c
else
some false
else
some false
else
some false
def ZIp:Ctr:=D1 (Zaw) (.bool) ZiH
def J9 (c:List Int) (b a:Int):Option ((Int×Int×Unit)⊕Int):=
if a<(c.length:Int)then
(atI c a).bind λd=>
some (.inl (Min.min b d,Wq (a+1),()))
else
some (.inr b)
def Zam (a:List Int):Option Int:=
if(a.length:Int)<1 then
none
else
(atI a 0).bind λb=>
ZA (λv=>J9 a v.1 v.2.1) (b,(1:Int),())
def ZIq:Ctr:=D1 (.sl Iq) Iq Zam
def ZaC (a:ZE) (d:Bool):Option Bool:=
(ZiH a).bind λc=>
if c then
if d then
(Zam (Gz a)).bind λb=>
some (decide (b<0))
else
some false
else
some true
def c138:Ctr:=D2 (Zaw) (.ptr (.bool)) (.bool) ZaC
def Yz (b:List ZE) (d:Bool×Unit) (a:Int):Option ((Int×Unit)⊕Int):=
if a<(b.length:Int)then
(atI b a).bind λe=>
(ZaC e d.1).bind λc=>
if c then
some (.inr a)
else
some (.inl (Wq (a+1),()))
else
some (.inr (-1))
def Yh (a:List ZE) (b:Bool×Unit):Option Int:=
ZA (λv=>Yz a b v.1) ((0:Int),())
def c139:Ctr:=D2 (.sl (Zaw)) (.fn 360 (.pair (.ptr (.bool)) (.unit))) Iq Yh
def Z9 (a:List ZE) (c:Bool×Unit):Option Bool:=
(Yh a c).bind λb=>
some (decide (0<=b))
def ZIr:Ctr:=D2 (.sl (Zaw)) (.fn 360 (.pair (.ptr (.bool)) (.unit))) (.bool) Z9
def Zc8 (b:List ZE) (a:Bool):Option Bool:=
if(b.length:Int)=2 then
(Z9 b (a,())).bind λc=>
some !c
else
some false
def c141:Ctr:=D2 (.sl (Zaw)) (.bool) (.bool) Zc8
def ZfI (a:XT):Option Bool:=
some (Gn a)
def ZIs:Ctr:=D1 (Znm) (.bool) ZfI
def YM (b:List XT) (a:Int):Option ((Int×Unit)⊕Int):=
if a<(b.length:Int)then
(atI b a).bind λd=>
(ZfI d).bind λc=>
if c then
some (.inr a)
else
some (.inl (Wq (a+1),()))
else
some (.inr (-1))
def Yp (a:List XT) (b:Unit):Option Int:=
ZA (λv=>YM a v.1) ((0:Int),())
def c143:Ctr:=D2 (.sl (Znm)) (.fn 364 (.unit)) Iq Yp
def ZfH (a:Zo):Option Int:=
(Yp (Gb a) ()).bind λb=>
some b
def ZIt:Ctr:=D1 (Zcq) Iq ZfH
def ZcT (a:Zo):Option Int:=
(ZbW (Gb a)).bind λb=>
some (Wq (b-1))
def c145:Ctr:=D1 (Zcq) Iq ZcT
def Zb2 (c:Zo) (a:Int):Option Bool:=
(ZcT c).bind λd=>
(YC a 0 (Wq (d-1))).bind λb=>
some b
def c146:Ctr:=D2 (Zcq) Iq (.bool) Zb2
def ZfJ (b:Zo) (a:ZK):Option Bool:=
(ZiJ (Gf a)).bind λf=>
if f then
if GH a=0 then
if((GQ a).length:Int)=0 then
(Zc8 (GJ a) false).bind λe=>
if e then
(ZfH b).bind λj=>
if Gs a=j then
if 0<=Gs a then
(Zb2 b (Gw a)).bind λd=>
if d then
some (!decide (Gw a=Gs a))
else
some false
else
some false
else
some false
else
some false
else
some false
else
some false
else
(Zc8 (GJ a) true).bind λe=>
if e then
(Zc8 (GQ a) true).bind λh=>
if h then
(ZcT b).bind λg=>
if Gw a=g then
(Zb2 b (Gs a)).bind λd=>
if d then
if Gf a=1 then
(atI (Gb b) (Gs a)).bind λc=>
if(Gn c)=true then
some false
else
(YC (GH a) 1 3).bind λi=>
some i
else
if Gf a=2 then
if Gf a=2 then
(atI (Gb b) (Gs a)).bind λc=>
if(Gn c)=true then
some (decide (GH a=0))
else
some false
else
some false
else
if Gf a=3 then
(atI (Gb b) (Gs a)).bind λc=>
if(Gn c)=true then
some (decide (GH a=0))
else
some false
else
some false
else
some false
else
some false
else
some false
else
some false
def ZIu:Ctr:=D2 (Zcq) (Zof) (.bool) ZfJ
def VX (a b:ZK):Option Bool:=
if Gf a=Gf b then
if Gs a=Gs b then
some (decide (Gw a=Gw b))
else
some false
else
some false
def c148:Ctr:=D2 (Zof) (.ptr (Zof)) (.bool) VX
def YE (b:List ZK) (d:ZK×Unit) (a:Int):Option ((Int×Unit)⊕Int):=
if a<(b.length:Int)then
(atI b a).bind λe=>
(VX e d.1).bind λc=>
if c then
some (.inr a)
else
some (.inl (Wq (a+1),()))
else
some (.inr (-1))
def Yj (a:List ZK) (b:ZK×Unit):Option Int:=
ZA (λv=>YE a b v.1) ((0:Int),())
def ZIv:Ctr:=D2 (.sl (Zof)) (.fn 339 (.pair (.ptr (Zof)) (.unit))) Iq Yj
def Yb (a:List ZK) (c:ZK×Unit):Option Bool:=
(Yj a c).bind λb=>
some (decide (0<=b))
def ZIw:Ctr:=D2 (.sl (Zof)) (.fn 339 (.pair (.ptr (Zof)) (.unit))) (.bool) Yb
def ZcA (b:Zo) (a:Int):Option ((Int×Unit)⊕Bool):=
if a<((Gp b).length:Int)then
(atI (Gp b) a).bind λc=>
(ZfJ b c).bind λd=>
if d then
Zy ((0:Int)<=a)<|
Zy (a<=((Gp b).length:Int))<|
(Yb (List.take (Int.toNat a-Int.toNat 0) (List.drop (Int.toNat 0) (Gp b))) (c,())).bind λe=>
if e then
some (.inr false)
else
some (.inl (Wq (a+1),()))
else
some (.inr false)
else
some (.inr (decide (((Gp b).length:Int)<=8)))
def Zd2 (a:Zo):Option Bool:=
ZA (λv=>ZcA a v.1) ((0:Int),())
def ZIx:Ctr:=D1 (Zcq) (.bool) Zd2
def ZeI (b:ZK) (a:Int):Option Bool:=
some (decide (Gf b=a))
def c152:Ctr:=D2 (Zof) (.ptr Iq) (.bool) ZeI
def YR (b:List ZK) (d:Int×Unit) (a:Int):Option ((Int×Unit)⊕Int):=
if a<(b.length:Int)then
(atI b a).bind λe=>
(ZeI e d.1).bind λc=>
if c then
some (.inr a)
else
some (.inl (Wq (a+1),()))
else
some (.inr (-1))
def Yt (a:List ZK) (b:Int×Unit):Option Int:=
ZA (λv=>YR a b v.1) ((0:Int),())
def ZIy:Ctr:=D2 (.sl (Zof)) (.fn 354 (.pair (.ptr Iq) (.unit))) Iq Yt
def Yl (a:List ZK) (c:Int×Unit):Option Bool:=
(Yt a c).bind λb=>
some (decide (0<=b))
def c154:Ctr:=D2 (.sl (Zof)) (.fn 354 (.pair (.ptr Iq) (.unit))) (.bool) Yl
def Zai (b:Zo) (a:Int):Option Bool:=
(Yl (Gp b) (a,())).bind λc=>
some c
def ZIz:Ctr:=D2 (Zcq) Iq (.bool) Zai
def Vm (a:Zo) (b c:Int):Option ((Int×Int×Unit)⊕Bool):=
if c<((Gb a).length:Int)then
(atI (Gb a) c).bind λh=>
if(Gn h)=true then
some (.inl (Wq (b+1),Wq (c+1),()))
else
some (.inl (b,Wq (c+1),()))
else
if GI a=1 then
if b=0 then
(ZcT a).bind λg=>
Zy ((0:Int)<=g)<|
if((GD a).length:Int)=Wq (1*2^Min.min (Int.toNat g) (IntKind.bits IntKind.i64))then
(Qe (GD a) 0 1).bind λi=>
some (.inr i)
else
some (.inr false)
else
some (.inr false)
else
if GI a=2 then
if b=1 then
if((GD a).length:Int)=0 then
(Zai a 1).bind λf=>
if f then
some (.inr false)
else
(Zai a 2).bind λe=>
(Zai a 3).bind λd=>
some (.inr (!e==d))
else
some (.inr false)
else
some (.inr false)
else
if GI a=3 then
if b=1 then
if((GD a).length:Int)=0 then
(Zai a 1).bind λf=>
if f then
(Zai a 2).bind λe=>
if e then
(Zai a 3).bind λd=>
some (.inr !d)
else
some (.inr false)
else
some (.inr false)
else
some (.inr false)
else
some (.inr false)
else
some (.inr false)
def Zdm (a:Zo):Option Bool:=
ZA (λv=>Vm a v.1 v.2.1) ((0:Int),(0:Int),())
def c156:Ctr:=D1 (Zcq) (.bool) Zdm
def ZjO (a:Zo):Option Bool:=
(ZeT (GV a)).bind λb=>
if b then
(ZiI (Gb a)).bind λf=>
if f then
(Zd2 a).bind λg=>
if g then
(YC (Ha a) 0 100000).bind λe=>
if e then
(YC (Hb a) 0 100000).bind λd=>
if d then
(Zdm a).bind λc=>
some c
else
some false
else
some false
else
some false
else
some false
else
some false
def c157:Ctr:=D1 (Zcq) (.bool) ZjO
def Zac (d:Zu) (a:List (List UInt8)) (c:Int):Option (((List (List UInt8))×Int×Unit)⊕Bool):=
if c<((Gd d).length:Int)then
(atI (Gd d) c).bind λb=>
(ZjO b).bind λe=>
if e then
Zy ((a.length+[GV b].length)*16<=140737488355328)<|
some (.inl (a++[GV b],Wq (c+1),()))
else
some (.inr false)
else
if((Gd d).length:Int)<=8 then
(Zbj a).bind λf=>
some (.inr f)
else
some (.inr false)
def ZgT (a:Zu):Option Bool:=
ZA (λv=>Zac a v.1 v.2.1) (([]:List (List UInt8)),(0:Int),())
def ZIA:Ctr:=D1 (X9) (.bool) ZgT
def Za7 (c:Zb) (a b:List (List UInt8)) (d:Int):Option (((List (List UInt8))×Int×Unit)⊕(((List (List UInt8))×Int×Unit)⊕Bool)):=
if d<((Ge c).length:Int)then
(atI (Ge c) d).bind λe=>
Zy ((b.length+[GT e].length)*16<=140737488355328)<|
some (.inl (b++[GT e],Wq (d+1),()))
else
if(a.length:Int)<=14 then
if((K5 c).length:Int)<=30 then
if(b.length:Int)<=8 then
(Zbj a).bind λf=>
if f then
(Zbj (K5 c)).bind λg=>
if g then
(Zbj b).bind λh=>
some (.inr (.inr h))
else
some (.inr (.inr false))
else
some (.inr (.inr false))
else
some (.inr (.inr false))
else
some (.inr (.inr false))
else
some (.inr (.inr false))
def Za8 (b:Zb) (a:List (List UInt8)) (c:Int):Option (((List (List UInt8))×Int×Unit)⊕Bool):=
if c<((K3 b).length:Int)then
(atI (K3 b) c).bind λd=>
Zy ((a.length+[Gq d].length)*16<=140737488355328)<|
some (.inl (a++[Gq d],Wq (c+1),()))
else
ZA (λv=>Za7 b a v.1 v.2.1) (([]:List (List UInt8)),(0:Int),())
def ZbS (a:Zb):Option Bool:=
ZA (λv=>Za8 a v.1 v.2.1) (([]:List (List UInt8)),(0:Int),())
def c159:Ctr:=D1 (YN) (.bool) ZbS
def Vn (a:List Zo):Option Int:=
some (a.length:Int)
def c160:Ctr:=D1 (.sl (Zcq)) Iq Vn
def XG (a:List (List UInt8)):Option Int:=
some (a.length:Int)
def ZEm:Ctr:=D1 (.sl (.str)) Iq XG
def XD (c:Zb) (a:Int):Option Bool:=
(XG (K5 c)).bind λd=>
(YC a 0 (Wq (d-1))).bind λb=>
some b
def c162:Ctr:=D2 (YN) Iq (.bool) XD
def Q5 (a:Int) (c:Zb):Option Bool:=
(XD c a).bind λb=>
some !b
def ZIB:Ctr:=D2 Iq (.ptr (YN)) (.bool) Q5
def YH (b:List Int) (d:Zb×Unit) (a:Int):Option ((Int×Unit)⊕Int):=
if a<(b.length:Int)then
(atI b a).bind λe=>
(Q5 e d.1).bind λc=>
if c then
some (.inr a)
else
some (.inl (Wq (a+1),()))
else
some (.inr (-1))
def Yn (a:List Int) (b:Zb×Unit):Option Int:=
ZA (λv=>YH a b v.1) ((0:Int),())
def c164:Ctr:=D2 (.sl Iq) (.fn 267 (.pair (.ptr (YN)) (.unit))) Iq Yn
def Ye (a:List Int) (c:Zb×Unit):Option Bool:=
(Yn a c).bind λb=>
some (decide (0<=b))
def ZIC:Ctr:=D2 (.sl Iq) (.fn 267 (.pair (.ptr (YN)) (.unit))) (.bool) Ye
def ZaX (c:Zb) (b:Zu) (a:Zd):Option Bool:=
(Vn (Gd b)).bind λe=>
(YC (Gr a) 0 (Wq (e-1))).bind λf=>
if f then
(atI (Gd b) (Gr a)).bind λd=>
if((Gc a).length:Int)=((Gb d).length:Int)then
(Ye (Gc a) (c,())).bind λg=>
some !g
else
some false
else
some false
def ZID:Ctr:=D3 (YN) (X9) (Jf) (.bool) ZaX
def ZeK (a:Int):Option Bool:=
some (!decide (a=1))
def c167:Ctr:=D1 Iq (.bool) ZeK
def Xq (b:List Int) (a:Int):Option ((Int×Unit)⊕Int):=
if a<(b.length:Int)then
(atI b a).bind λd=>
(ZeK d).bind λc=>
if c then
some (.inr a)
else
some (.inl (Wq (a+1),()))
else
some (.inr (-1))
def Xa (a:List Int) (b:Unit):Option Int:=
ZA (λv=>Xq a v.1) ((0:Int),())
def c168:Ctr:=D2 (.sl Iq) (.fn 225 (.unit)) Iq Xa
def YX (a:List Int) (c:Unit):Option Bool:=
(Xa a ()).bind λb=>
some (decide (0<=b))
def ZIE:Ctr:=D2 (.sl Iq) (.fn 225 (.unit)) (.bool) YX
def ZaK (d:Zb) (c:Int) (b:List Int):Option ((Int×(List Int)×Unit)⊕((Int×(List Int)×Unit)⊕Bool)):=
if c<((Ge d).length:Int)then
(atI (Ge d) c).bind λa=>
if GF a=1 then
(XD d (GK a)).bind λf=>
if f then
if GF a=1 then
(atI b (GK a)).bind λe=>
some (.inl (Wq (c+1),List.set b (Int.toNat (GK a)) (Wq (e+1)),()))
else
some (.inl (Wq (c+1),b,()))
else
some (.inr (.inr false))
else
if GF a=2 then
(XD d (GK a)).bind λf=>
if f then
if GF a=1 then
(atI b (GK a)).bind λe=>
some (.inl (Wq (c+1),List.set b (Int.toNat (GK a)) (Wq (e+1)),()))
else
some (.inl (Wq (c+1),b,()))
else
some (.inr (.inr false))
else
some (.inr (.inr false))
else
(YX b ()).bind λg=>
some (.inr (.inr !g))
def ZcE (g:Zu) (a:Zb) (c:Int) (d:List Int):Option ((Int×(List Int)×Unit)⊕Bool):=
if c<((K3 a).length:Int)then
(atI (K3 a) c).bind λb=>
(ZaX a g b).bind λf=>
if f then
(atI (Gc b) (Wq (((Gc b).length:Int)-1))).bind λe=>
(atI d e).bind λh=>
some (.inl (Wq (c+1),List.set d (Int.toNat e) (Wq (h+1)),()))
else
some (.inr false)
else
ZA (λv=>ZaK a v.1 v.2.1) ((0:Int),d,())
def ZhC (b:Zu) (a:Zb):Option Bool:=
(ZgT b).bind λc=>
if c then
(ZbS a).bind λd=>
if d then
Zy ((0:Int)<=((K5 a).length:Int))<|
Zy (((K5 a).length:Int)<=((K5 a).length:Int))<|
Zy (((K5 a).length:Int)<=4611686018427387904)<|
Zy (((8:Nat):Int)*((K5 a).length:Int)<=281474976710656)<|
ZA (λv=>ZcE b a v.1 v.2.1) ((0:Int),List.replicate (Int.toNat ((K5 a).length:Int)) (0:Int),())
else
some false
else
some false
def ZIF:Ctr:=D2 (X9) (YN) (.bool) ZhC
def Zb3 (d:Int) (c:Zd) (a:List ZL) (b:Int):Option (((List ZL)×Int×Unit)⊕(((List ZL)×Int×Unit)⊕List ZL)):=
if b<((Gc c).length:Int)then
(atI (Gc c) b).bind λe=>
Zy ((a.length+[(d,b,e,decide (b=Wq (((Gc c).length:Int)-1)),())].length)*32<=140737488355328)<|
some (.inl (a++[(d,b,e,decide (b=Wq (((Gc c).length:Int)-1)),())],Wq (b+1),()))
else
some (.inr (.inl (a,Wq (d+1),())))
def Zb4 (d:Zb) (a:List ZL) (b:Int):Option (((List ZL)×Int×Unit)⊕(((List ZL)×Int×Unit)⊕List ZL)):=
if b<((Ge d).length:Int)then
(atI (Ge d) b).bind λc=>
Zy ((a.length+[((-1:Int),b,GK c,decide (GF c=1),())].length)*32<=140737488355328)<|
some (.inl (a++[((-1:Int),b,GK c,decide (GF c=1),())],Wq (b+1),()))
else
some (.inr (.inr a))
def Zb5 (b:Zb) (a:List ZL) (c:Int):Option (((List ZL)×Int×Unit)⊕List ZL):=
if c<((K3 b).length:Int)then
(atI (K3 b) c).bind λd=>
ZA (λv=>Zb3 c d v.1 v.2.1) (a,(0:Int),())
else
ZA (λv=>Zb4 b v.1 v.2.1) (a,(0:Int),())
def ZV (a:Zb):Option (List ZL):=
ZA (λv=>Zb5 a v.1 v.2.1) (([]:List ZL),(0:Int),())
def c171:Ctr:=⟨[.dat (YN)],[.own (.ol 195 (.flat (Zk7)))],λa K=>Zr a λb a=>Yk (ZV b) λr=>K (r,()) ()⟩
def Zdf (d:Zq) (a:Int):Option ((Int×Unit)⊕Bool):=
if a<((K8 d).length:Int)then
(atI (K8 d) a).bind λc=>
if a=0 then
if c=(-1)then
(atI (GB d) 0).bind λe=>
if e=0 then
if 0<a then
(YC c 0 (Wq (a-1))).bind λb=>
if b then
some (.inl (Wq (a+1),()))
else
some (.inr false)
else
some (.inl (Wq (a+1),()))
else
some (.inr false)
else
some (.inr false)
else
if 0<a then
(YC c 0 (Wq (a-1))).bind λb=>
if b then
some (.inl (Wq (a+1),()))
else
some (.inr false)
else
some (.inl (Wq (a+1),()))
else
some (.inr true)
def ZeM (a:Zq):Option Bool:=
ZA (λv=>Zdf a v.1) ((0:Int),())
def ZIH:Ctr:=D1 (ZbR) (.bool) ZeM
def Zh9 (a:Zq) (b:Int):Option Bool:=
(XE (K8 a)).bind λc=>
(YC c 1 8).bind λi=>
if i then
(XE (GB a)).bind λj=>
if j=c then
(XE (GE a)).bind λf=>
if f=c then
(ZeM a).bind λe=>
if e then
(Qe (GB a) 0 1000).bind λd=>
if d then
(Qe (GE a) 0 500).bind λg=>
if g then
(XE (Gu a)).bind λk=>
if k=b then
(Qe (Gu a) 0 (Wq (c-1))).bind λh=>
some h
else
some false
else
some false
else
some false
else
some false
else
some false
else
some false
else
some false
def c173:Ctr:=D2 (ZbR) Iq (.bool) Zh9
def ZfL (b:Za) (f:List Int) (a:Int):Option ((Int×Unit)⊕((Int×(List Int)×Unit)⊕Bool)):=
if a<((K4 b).length:Int)then
(atI (K4 b) a).bind λe=>
(atI f a).bind λc=>
(Zh9 e c).bind λd=>
if d then
some (.inl (Wq (a+1),()))
else
some (.inr (.inr false))
else
some (.inr (.inr true))
def Zdo (f:Za) (a:List ZL) (b:Int) (c:List Int):Option ((Int×(List Int)×Unit)⊕Bool):=
if b<(a.length:Int)then
(atI a b).bind λd=>
if(GW d)=true then
some (.inl (Wq (b+1),c,()))
else
(atI c (ZL.net d)).bind λe=>
some (.inl (Wq (b+1),List.set c (Int.toNat (ZL.net d)) (Wq (e+1)),()))
else
ZA (λv=>ZfL f c v.1) ((0:Int),())
def Zg8 (a:Za):Option Bool:=
(ZhC (K6 a) (K2 a)).bind λc=>
if c then
if((K4 a).length:Int)=((K5 (K2 a)).length:Int)then
Zy ((0:Int)<=((K4 a).length:Int))<|
Zy (((K4 a).length:Int)<=((K4 a).length:Int))<|
Zy (((K4 a).length:Int)<=4611686018427387904)<|
Zy (((8:Nat):Int)*((K4 a).length:Int)<=281474976710656)<|
(ZV (K2 a)).bind λb=>
ZA (λv=>Zdo a b v.1 v.2.1) ((0:Int),List.replicate (Int.toNat ((K4 a).length:Int)) (0:Int),())
else
some false
else
some false
def ZHv:Ctr:=D1 (Ya) (.bool) Zg8
def ZdD (a b:Int):Option Bool:=
if 100<=a then
if a<=b then
some (decide (b<=5000))
else
some false
else
some false
def c175:Ctr:=D2 Iq Iq (.bool) ZdD
def ZhB (a:ZB):Option Bool:=
(ZeT (GZ a)).bind λd=>
if d then
(ZdD (G4 a) (G3 a)).bind λb=>
if b then
(ZdD (G5 a) (G6 a)).bind λc=>
some c
else
some false
else
some false
def ZII:Ctr:=D1 (XR) (.bool) ZhB
def VU (a:ZK):Option (List (Int×Int×Unit)):=
if Gf a=2 then
some ([((0:Int),(0:Int),()),((0:Int),(1:Int),())])
else
if Gf a=3 then
some ([((1:Int),(0:Int),()),((1:Int),(1:Int),())])
else
if Gf a=1 then
if GH a=1 then
some ([((0:Int),(0:Int),()),((1:Int),(1:Int),())])
else
if GH a=2 then
some ([((0:Int),(1:Int),()),((1:Int),(0:Int),())])
else
some ([((0:Int),(0:Int),()),((0:Int),(1:Int),()),((1:Int),(0:Int),()),((1:Int),(1:Int),())])
else
some []
def ZIJ:Ctr:=⟨[.dat (Zof)],[.own (.ol 272 (.flat (.pair Iq (.pair Iq (.unit)))))],λa K=>Zr a λb a=>Yk (VU b) λr=>K (r,()) ()⟩
def X3 (b f:Int) (e:ZK) (a:List (Int×Int×Unit)) (c:List Zt) (g:Int):Option (((List Zt)×Int×Unit)⊕(((List Zt)×Int×Unit)⊕List Zt)):=
if g<(a.length:Int)then
(atI a g).bind λd=>
Zy ((c.length+[(Wq (Wq ((2:Int)*Wq (b+Gs e))+d.1),Wq (Wq ((2:Int)*Wq (b+Gw e))+d.2.1),(1:Int),f,())].length)*32<=140737488355328)<|
some (.inl (c++[(Wq (Wq ((2:Int)*Wq (b+Gs e))+d.1),Wq (Wq ((2:Int)*Wq (b+Gw e))+d.2.1),(1:Int),f,())],Wq (g+1),()))
else
some (.inr (.inl (c,Wq (f+1),())))
def QI (b:Int) (d:Zo) (a:List Zt) (c:Int):Option (((List Zt)×Int×Unit)⊕List Zt):=
if c<((Gp d).length:Int)then
(atI (Gp d) c).bind λe=>
(VU e).bind λf=>
ZA (λv=>X3 b c e f v.1 v.2.1) (a,(0:Int),())
else
some (.inr a)
def VW (d:Za) (c:Zd) (a:Int):Option (List Zt):=
(atI (Gd (K6 d)) (Gr c)).bind λb=>
ZA (λv=>QI a b v.1 v.2.1) (([]:List Zt),(0:Int),())
def ZIK:Ctr:=⟨[.dat (Ya),.dat (Jf),.dat Iq],[.own (.ol 222 (.flat (ZcP)))],λa K=>Zr a λc a=>Zr a λd a=>Zr a λb a=>Yk (VW c d b) λr=>K (r,()) ()⟩
def ZN (a:List Int):Option (List Int):=
Zy ((([]:List Int).length+a.length)*8<=140737488355328)<|
some (([]:List Int)++a)
def ZDL:Ctr:=⟨[.dat (.sl Iq)],[.own (.ol 2 (.flat Iq))],λa K=>Zr a λb a=>Yk (ZN b) λr=>K (r,()) ()⟩
def ZcC (d:Int) (b:List ZL) (a:List Int) (c:Int):Option (((List Int)×Int×Unit)⊕List Int):=
if c<(b.length:Int)then
(atI b c).bind λe=>
if ZL.net e=d then
if(GW e)=true then
some (.inl (a,Wq (c+1),()))
else
Zy ((a.length+[c].length)*8<=140737488355328)<|
some (.inl (a++[c],Wq (c+1),()))
else
some (.inl (a,Wq (c+1),()))
else
some (.inr a)
def Zb6 (b:Zb) (a:Int):Option (List Int):=
(ZV b).bind λc=>
ZA (λv=>ZcC a c v.1 v.2.1) (([]:List Int),(0:Int),())
def ZHw:Ctr:=⟨[.dat (YN),.dat Iq],[.own (.ol 2 (.flat Iq))],λa K=>Zr a λc a=>Zr a λb a=>Yk (Zb6 c b) λr=>K (r,()) ()⟩
def Zaz (b:Zb) (e:Zu) (a:ZL):Option Int:=
if Gt a<0 then
some 0
else
(atI (K3 b) (Gt a)).bind λd=>
(atI (Gd e) (Gr d)).bind λc=>
(atI (Gb c) (ZL.pin a)).bind λf=>
some (G2 f)
def ZIL:Ctr:=D3 (YN) (X9) (Zk7) Iq Zaz
def QJ (e:Zq) (b:Int) (a:List Int):Option ((Int×(List Int)×Unit)⊕((Int×(List Int)×Unit)⊕List Int)):=
if 0<b then
(atI (K8 e) b).bind λc=>
(atI a c).bind λf=>
(atI a b).bind λd=>
some (.inl (Wq (b-1),List.set a (Int.toNat c) (Wq (f+d)),()))
else
some (.inr (.inr a))
def X4 (e:Za) (f:Zq) (b:List ZL) (a:List Int) (c:Int) (d:List Int):Option ((Int×(List Int)×Unit)⊕List Int):=
if c<(a.length:Int)then
(atI a c).bind λj=>
(atI (Gu f) c).bind λg=>
(atI d g).bind λi=>
(atI b j).bind λk=>
(Zaz (K2 e) (K6 e) k).bind λh=>
some (.inl (Wq (c+1),List.set d (Int.toNat g) (Wq (i+h)),()))
else
ZA (λv=>QJ f v.1 v.2.1) (Wq ((d.length:Int)-1),d,())
def Xd (a:Za) (b:Int):Option (List Int):=
(atI (K4 a) b).bind λc=>
(ZN (GE c)).bind λd=>
(ZV (K2 a)).bind λe=>
(Zb6 (K2 a) b).bind λf=>
ZA (λv=>X4 a c e f v.1 v.2.1) ((0:Int),d,())
def c182:Ctr:=⟨[.dat (Ya),.dat Iq],[.own (.ol 2 (.flat Iq))],λa K=>Zr a λc a=>Zr a λb a=>Yk (Xd c b) λr=>K (r,()) ()⟩
def Qs (d:Zq) (a:List Int) (b:Int) (c:List Int):Option ((Int×(List Int)×Unit)⊕List Int):=
if b<(c.length:Int)then
(atI (K8 d) b).bind λf=>
(atI c f).bind λh=>
(atI (GB d) b).bind λe=>
(atI a b).bind λg=>
(atI c b).bind λi=>
some (.inl (Wq (b+1),List.set c (Int.toNat b) (Wq (h+Wq (e*g))),()))
else
some (.inr c)
def Vl (c:Za) (b:Int):Option (List Int):=
(atI (K4 c) b).bind λd=>
(Xd c b).bind λa=>
Zy ((0:Int)<=(a.length:Int))<|
Zy ((a.length:Int)<=(a.length:Int))<|
Zy ((a.length:Int)<=4611686018427387904)<|
Zy (((8:Nat):Int)*(a.length:Int)<=281474976710656)<|
ZA (λv=>Qs d a v.1 v.2.1) ((1:Int),List.replicate (Int.toNat (a.length:Int)) (0:Int),())
def c183:Ctr:=⟨[.dat (Ya),.dat Iq],[.own (.ol 2 (.flat Iq))],λa K=>Zr a λc a=>Zr a λb a=>Yk (Vl c b) λr=>K (r,()) ()⟩
def Qm (a:List Int) (d:Zq) (b:List Int) (c:Int):Option (((List Int)×Int×Unit)⊕List Int):=
if c<((Gu d).length:Int)then
(atI (Gu d) c).bind λf=>
(atI a f).bind λe=>
Zy ((b.length+[e].length)*8<=140737488355328)<|
some (.inl (b++[e],Wq (c+1),()))
else
some (.inr b)
def Qi (b:Za) (a:Int):Option (List Int):=
(Vl b a).bind λc=>
(atI (K4 b) a).bind λd=>
ZA (λv=>Qm c d v.1 v.2.1) (([]:List Int),(0:Int),())
def ZIM:Ctr:=⟨[.dat (Ya),.dat Iq],[.own (.ol 2 (.flat Iq))],λa K=>Zr a λc a=>Zr a λb a=>Yk (Qi c b) λr=>K (r,()) ()⟩
def QT (g:List Int) (f c e a:Int) (b:List Zt):Option ((Int×(List Zt)×Unit)⊕((Int×(List Zt)×Unit)⊕((Int×(List Int)×(List (List Int))×(List Zt)×(List (List Int))×Unit)⊕((Int×(List Int)×(List (List Int))×Unit)⊕((Int×Int×(List Zt)×Unit)⊕ZW))))):=
if a<2 then
(atI g f).bind λd=>
Zy ((b.length+[(Wq (Wq ((2:Int)*d)+a),Wq (Wq ((2:Int)*e)+a),(2:Int),c,())].length)*32<=140737488355328)<|
some (.inl (Wq (a+1),b++[(Wq (Wq ((2:Int)*d)+a),Wq (Wq ((2:Int)*e)+a),(2:Int),c,())],()))
else
some (.inr (.inl (Wq (c+1),b,())))
def VH (f:List Int) (b:Int) (j:List Int) (i g:List (List Int)) (h:Int) (a d:List Int) (c:Int) (e:List Zt):Option ((Int×(List Zt)×Unit)⊕((Int×(List Int)×(List (List Int))×(List Zt)×(List (List Int))×Unit)⊕((Int×(List Int)×(List (List Int))×Unit)⊕((Int×Int×(List Zt)×Unit)⊕ZW)))):=
if c<(d.length:Int)then
(atI d c).bind λk=>
ZA (λv=>QT f b c k v.1 v.2.1) ((0:Int),e,())
else
some (.inr (.inl (Wq (b+1),j++[h],i++[a],e,List.set g (Int.toNat b) d,())))
def VI (c:Za) (a:List ZL) (l:List Int) (b:Int) (e:List Int) (d:List (List Int)) (i:List Zt) (f:List (List Int)):Option ((Int×(List Int)×(List (List Int))×(List Zt)×(List (List Int))×Unit)⊕((Int×(List Int)×(List (List Int))×Unit)⊕((Int×Int×(List Zt)×Unit)⊕ZW))):=
if b<((K4 c).length:Int)then
(Xd c b).bind λj=>
(atI j 0).bind λg=>
Zy ((e.length+[g].length)*8<=140737488355328)<|
(Qi c b).bind λh=>
Zy ((d.length+[h].length)*24<=140737488355328)<|
(atI f b).bind λk=>
ZA (λv=>VH l b e d f g h k v.1 v.2.1) ((0:Int),i,())
else
some (.inr (.inr (.inr (c,a,i,e,d,([]:List Int),()))))
def VJ (g:Za) (a:List ZL) (h:List Zt) (b:Int) (e:List Int) (d:List (List Int)):Option ((Int×(List Int)×(List (List Int))×Unit)⊕((Int×Int×(List Zt)×Unit)⊕ZW)):=
if b<(a.length:Int)then
(atI a b).bind λc=>
if(GW c)=true then
(atI e (ZL.net c)).bind λf=>
some (.inl (Wq (b+1),List.set e (Int.toNat (ZL.net c)) b,d,()))
else
(atI d (ZL.net c)).bind λf=>
Zy ((f.length+[b].length)*8<=140737488355328)<|
some (.inl (Wq (b+1),e,List.set d (Int.toNat (ZL.net c)) (f++[b]),()))
else
ZA (λv=>VI g a e v.1 v.2.1 v.2.2.1 v.2.2.2.1 v.2.2.2.2.1) ((0:Int),([]:List Int),([]:List (List Int)),h,d,())
def Zbl (a:Za) (b:List ZL) (g c:Int) (d:List Zt):Option ((Int×Int×(List Zt)×Unit)⊕ZW):=
if c<((K3 (K2 a)).length:Int)then
(atI (K3 (K2 a)) c).bind λf=>
(VW a f g).bind λe=>
Zy ((d.length+e.length)*32<=140737488355328)<|
(XE (Gc f)).bind λh=>
some (.inl (Wq (g+h),Wq (c+1),d++e,()))
else
Zy ((0:Int)<=((K4 a).length:Int))<|
Zy (((K4 a).length:Int)<=((K4 a).length:Int))<|
Zy (((K4 a).length:Int)<=4611686018427387904)<|
Zy (((8:Nat):Int)*((K4 a).length:Int)<=281474976710656)<|
Zy (((24:Nat):Int)*((K4 a).length:Int)<=281474976710656)<|
ZA (λv=>VJ a b d v.1 v.2.1 v.2.2.1) ((0:Int),List.replicate (Int.toNat ((K4 a).length:Int)) (0:Int),List.replicate (Int.toNat ((K4 a).length:Int)) (([]:List Int)),())
def Zar (a:Za):Option ZW:=
(ZV (K2 a)).bind λb=>
ZA (λv=>Zbl a b v.1 v.2.1 v.2.2.1) ((0:Int),(0:Int),([]:List Zt),())
def ZF6:Ctr:=D1 (Ya) (.ptr (Zlz)) Zar
def XU (a:List ZL):Option Int:=
some (a.length:Int)
def ZHx:Ctr:=D1 (.sl (Zk7)) Iq XU
def Xe (b:ZW):Option Int:=
(XU (ZW.Zg b)).bind λa=>
some (Wq (2*a))
def ZDM:Ctr:=D1 (.ptr (Zlz)) Iq Xe
def ZcW (a:List Bool):Option Int:=
some (a.length:Int)
def ZHy:Ctr:=D1 (.sl (.bool)) Iq ZcW
def JI (a:List ZC):Option Int:=
some (a.length:Int)
def ZIN:Ctr:=D1 (.sl (Zaa)) Iq JI
def ZjQ (a:Int):Option Bool:=
(YC a (-1000000000) 1000000000).bind λb=>
some b
def ZIO:Ctr:=D1 Iq (.bool) ZjQ
def J7 (a:ZC):Option Bool:=
(ZjQ (Gh a)).bind λc=>
if c then
(ZjQ (Gl a)).bind λb=>
if b then
some (decide (Gh a<=Gl a))
else
some false
else
some false
def ZEn:Ctr:=D1 (Zaa) (.bool) J7
def ZjP (a:Int):Option Bool:=
(YC a 0 1000000).bind λb=>
some b
def ZIP:Ctr:=D1 Iq (.bool) ZjP
def ZfM (a:ZC):Option Bool:=
(J7 a).bind λd=>
if d then
(ZjP (Gh a)).bind λb=>
if b then
(ZjP (Gl a)).bind λc=>
some c
else
some false
else
some false
def c193:Ctr:=D1 (Zaa) (.bool) ZfM
def JV (b:Zf) (a:Int):Option ((Int×Unit)⊕Bool):=
if a<((Ga b).length:Int)then
(atI (Ga b) a).bind λf=>
(atI (Gx b) a).bind λc=>
(J7 c).bind λe=>
if e then
(atI (Gv b) a).bind λd=>
(ZfM d).bind λg=>
if g then
if f then
some (.inl (Wq (a+1),()))
else
if(decide (Gh c=0)&&decide (Gl c=0))=true then
if(decide (Gh d=0)&&decide (Gl d=0))=true then
some (.inl (Wq (a+1),()))
else
some (.inr false)
else
some (.inr false)
else
some (.inr false)
else
some (.inr false)
else
some (.inr true)
def Zbo (d:ZW) (a:Zf):Option Bool:=
(Xe d).bind λb=>
(ZcW (Ga a)).bind λe=>
if e=b then
(JI (Gx a)).bind λf=>
if f=b then
(JI (Gv a)).bind λc=>
if c=b then
ZA (λv=>JV a v.1) ((0:Int),())
else
some false
else
some false
else
some false
def c194:Ctr:=D2 (.ptr (Zlz)) (ZdU) (.bool) Zbo
def ZdF (a:List Zt):Option Int:=
some (a.length:Int)
def ZIQ:Ctr:=D1 (.sl (ZcP)) Iq ZdF
def Zbn (c:ZW) (a:List Int):Option Bool:=
(ZdF (ZW.links c)).bind λb=>
(Qe a 0 (Wq (b-1))).bind λd=>
if d then
(Jj a).bind λe=>
some e
else
some false
def c196:Ctr:=D2 (.ptr (Zlz)) (.sl Iq) (.bool) Zbn
def ZeN (d:ZW) (a:Int):Option Bool:=
(Xe d).bind λc=>
(YC a 0 (Wq (c-1))).bind λb=>
some b
def ZIR:Ctr:=D2 (.ptr (Zlz)) Iq (.bool) ZeN
def Jb (f:ZW) (a:List Zj) (b:Int):Option ((Int×Unit)⊕Bool):=
if b<(a.length:Int)then
(atI a b).bind λc=>
(ZeN f (Gi c)).bind λd=>
if d then
(J7 (GM c)).bind λg=>
if g then
(ZfM (GR c)).bind λh=>
if h then
if 0<b then
(atI a (Wq (b-1))).bind λe=>
if Gi c<=Gi e then
some (.inr false)
else
some (.inl (Wq (b+1),()))
else
some (.inl (Wq (b+1),()))
else
some (.inr false)
else
some (.inr false)
else
some (.inr false)
else
some (.inr true)
def V3 (b:ZW) (a:List Zj):Option Bool:=
ZA (λv=>Jb b a v.1) ((0:Int),())
def c198:Ctr:=D2 (.ptr (Zlz)) (.sl (Qo)) (.bool) V3
def VK (e:ZW) (a:List Int) (c:Int) (b:List Bool):Option ((Int×(List Bool)×Unit)⊕((Int×(List Bool)×Unit)⊕Yc)):=
if c<(a.length:Int)then
(atI a c).bind λd=>
(atI b d).bind λf=>
some (.inl (Wq (c+1),List.set b (Int.toNat d) false,()))
else
some (.inr (.inr (e,b,())))
def ZcG (d:ZW) (a:List Int) (b:Int) (c:List Bool):Option ((Int×(List Bool)×Unit)⊕Yc):=
if b<(((List.replicate (Int.toNat ((ZW.links d).length:Int)) false).length):Int)then
(atI c b).bind λe=>
some (.inl (Wq (b+1),List.set c (Int.toNat b) true,()))
else
ZA (λv=>VK d a v.1 v.2.1) ((0:Int),c,())
def ZaE (a:ZW) (b:List Int):Option Yc:=
Zy ((0:Int)<=((ZW.links a).length:Int))<|
Zy (((ZW.links a).length:Int)<=((ZW.links a).length:Int))<|
Zy (((ZW.links a).length:Int)<=4611686018427387904)<|
Zy (((1:Nat):Int)*((ZW.links a).length:Int)<=281474976710656)<|
ZA (λv=>ZcG a b v.1 v.2.1) ((0:Int),List.replicate (Int.toNat ((ZW.links a).length:Int)) false,())
def ZIS:Ctr:=D2 (.ptr (Zlz)) (.sl Iq) (.ptr (Zir)) ZaE
def ZeS (a:Zt):Option Bool:=
some true
def ZIT:Ctr:=D1 (ZcP) (.bool) ZeS
def Y6 (c:Yc) (a:List Int) (b:Int):Option (((List Int)×Int×Unit)⊕List Int):=
if b<((ZW.links (GO c)).length:Int)then
(atI (ZW.links (GO c)) b).bind λf=>
(atI (Yc.live c) b).bind λd=>
if d then
(ZeS f).bind λe=>
if e then
Zy ((a.length+[b].length)*8<=140737488355328)<|
some (.inl (a++[b],Wq (b+1),()))
else
some (.inl (a,Wq (b+1),()))
else
some (.inl (a,Wq (b+1),()))
else
some (.inr a)
def Xz (a:Yc) (b:Unit):Option (List Int):=
ZA (λv=>Y6 a v.1 v.2.1) (([]:List Int),(0:Int),())
def c201:Ctr:=⟨[.dat (.ptr (Zir)),.dat (.fn 170 (.unit))],[.own (.ol 2 (.flat Iq))],λa K=>Zr a λc a=>Zr a λb a=>Yk (Xz c b) λr=>K (r,()) ()⟩
def Qv (b:List Int) (d a:Int):Option ((Int×Unit)⊕Int):=
if a<(b.length:Int)then
(atI b a).bind λc=>
if d=c then
some (.inr a)
else
some (.inl (Wq (a+1),()))
else
some (.inr (-1))
def Zbu (a:List Int) (b:Int):Option Int:=
ZA (λv=>Qv a b v.1) ((0:Int),())
def ZIU:Ctr:=D2 (.sl Iq) Iq Iq Zbu
def ZfP (b:Zt) (a:Int):Option Bool:=
some (decide (Gj b=a))
def c203:Ctr:=D2 (ZcP) (.ptr Iq) (.bool) ZfP
def Y9 (c:Yc) (d:Int×Unit) (a:List Int) (b:Int):Option (((List Int)×Int×Unit)⊕List Int):=
if b<((ZW.links (GO c)).length:Int)then
(atI (ZW.links (GO c)) b).bind λg=>
(atI (Yc.live c) b).bind λe=>
if e then
(ZfP g d.1).bind λf=>
if f then
Zy ((a.length+[b].length)*8<=140737488355328)<|
some (.inl (a++[b],Wq (b+1),()))
else
some (.inl (a,Wq (b+1),()))
else
some (.inl (a,Wq (b+1),()))
else
some (.inr a)
def Qt (b:Yc) (a:Int×Unit):Option (List Int):=
ZA (λv=>Y9 b a v.1 v.2.1) (([]:List Int),(0:Int),())
def ZIV:Ctr:=⟨[.dat (.ptr (Zir)),.dat (.fn 231 (.pair (.ptr Iq) (.unit)))],[.own (.ol 2 (.flat Iq))],λa K=>Zr a λc a=>Zr a λb a=>Yk (Qt c b) λr=>K (r,()) ()⟩
def ZfO (b:Yc) (a:Int):Option (List Int):=
(Qt b (a,())).bind λc=>
some c
def ZIW:Ctr:=⟨[.dat (.ptr (Zir)),.dat Iq],[.own (.ol 2 (.flat Iq))],λa K=>Zr a λc a=>Zr a λb a=>Yk (ZfO c b) λr=>K (r,()) ()⟩
def QY (g:Yc) (j:List Int) (f d:Int) (a:List Int) (b:Int) (c:List Int):Option ((Int×(List Int)×Unit)⊕(((List Int)×Int×(List Int)×Unit)⊕((Int×(List Int)×Unit)⊕((List Int)×Bool)))):=
if b<(a.length:Int)then
(atI a b).bind λi=>
(atI (ZW.links (GO g)) i).bind λe=>
(atI c (Gm e)).bind λh=>
some (.inl (Wq (b+1),List.set c (Int.toNat (Gm e)) (Wq (h-1)),()))
else
some (.inr (.inl (j++[d],Wq (f+1),c,())))
def Xu (e:Yc) (f c:List Int) (d:Int) (b:List Int):Option (((List Int)×Int×(List Int)×Unit)⊕((Int×(List Int)×Unit)⊕((List Int)×Bool))):=
if d<(f.length:Int)then
(Zbu b 0).bind λa=>
if a<0 then
some (.inr (.inr (([]:List Int),false)))
else
(atI b a).bind λh=>
Zy ((c.length+[a].length)*8<=140737488355328)<|
(ZfO e a).bind λg=>
ZA (λv=>QY e c d a g v.1 v.2.1) ((0:Int),List.set b (Int.toNat a) (-1:Int),())
else
some (.inr (.inr (c,true)))
def QZ (e:Yc) (a:List Int) (c:Int) (b:List Int):Option ((Int×(List Int)×Unit)⊕((List Int)×Bool)):=
if c<(a.length:Int)then
(atI a c).bind λf=>
(atI (ZW.links (GO e)) f).bind λd=>
(atI b (Gm d)).bind λg=>
some (.inl (Wq (c+1),List.set b (Int.toNat (Gm d)) (Wq (g+1)),()))
else
ZA (λv=>Xu e b v.1 v.2.1 v.2.2.1) (([]:List Int),(0:Int),b,())
def Zba (b:Yc):Option ((List Int)×Bool):=
(Xe (GO b)).bind λa=>
Zy ((0:Int)<=a)<|
Zy (a<=a)<|
Zy (a<=4611686018427387904)<|
Zy (((8:Nat):Int)*a<=281474976710656)<|
(Xz b ()).bind λc=>
ZA (λv=>QZ b c v.1 v.2.1) ((0:Int),List.replicate (Int.toNat a) (0:Int),())
def c206:Ctr:=⟨[.dat (.ptr (Zir))],[.own (.ol 2 (.flat Iq)),.dat (.bool)],λa K=>Zr a λb a=>Yk (Zba b) λr=>K (r.1,r.2,()) ()⟩
def Q8 (h:Za) (m:ZB) (a:List Int) (b:List Zj) (i:Option Zf):Option ((Option Yc)×(List Int)×Int):=
(Zg8 h).bind λj=>
if j then
(ZhB m).bind λl=>
if l then
(Zar h).bind λc=>
if(Option.isNone i)=true then
(Zbn c a).bind λg=>
if g then
(V3 c b).bind λf=>
if f then
(ZaE c a).bind λd=>
(Zba d).bind λe=>
if e.2 then
some (Option.some d,e.1,0)
else
some (Option.none,[],7)
else
some (Option.none,[],2)
else
some (Option.none,[],2)
else
(i).bind λk=>
(Zbo c k).bind λn=>
if n then
(Zbn c a).bind λg=>
if g then
(V3 c b).bind λf=>
if f then
(ZaE c a).bind λd=>
(Zba d).bind λe=>
if e.2 then
some (Option.some d,e.1,0)
else
some (Option.none,[],7)
else
some (Option.none,[],2)
else
some (Option.none,[],2)
else
some (Option.none,[],1)
else
some (Option.none,[],1)
else
some (Option.none,[],1)
def ZHz:Ctr:=⟨[.dat (Ya),.dat (XR),.dat (.sl Iq),.dat (.sl (Qo)),.dat (.nptr (ZdU))],[.dat (.nptr (Zir)),.own (.ol 2 (.flat Iq)),.dat Iq],λa K=>Zr a λd a=>Zr a λe a=>Zr a λc a=>Zr a λb a=>Zr a λf a=>Yk (Q8 d e c b f) λr=>K (r.1,r.2.1,r.2.2,()) ()⟩
def Jk (b:ZW):Option Zf:=
(Xe b).bind λa=>
Zy ((0:Int)<=a)<|
Zy (a<=a)<|
Zy (a<=4611686018427387904)<|
Zy (((1:Nat):Int)*a<=281474976710656)<|
Zy (((16:Nat):Int)*a<=281474976710656)<|
some (List.replicate (Int.toNat a) false,List.replicate (Int.toNat a) ((0:Int),(0:Int),()),List.replicate (Int.toNat a) ((0:Int),(0:Int),()),())
def c208:Ctr:=⟨[.dat (.ptr (Zlz))],[.own (ZjK)],λa K=>Zr a λb a=>Yk (Jk b) λr=>K (r,()) ()⟩
def Zhm (a:Zj) (b:Int):Option Bool:=
some (decide (Gi a=b))
def ZIX:Ctr:=D2 (Qo) (.ptr Iq) (.bool) Zhm
def Yw (b:List Zj) (d:Int×Unit) (a:Int):Option ((Int×Unit)⊕Int):=
if a<(b.length:Int)then
(atI b a).bind λe=>
(Zhm e d.1).bind λc=>
if c then
some (.inr a)
else
some (.inl (Wq (a+1),()))
else
some (.inr (-1))
def Yf (a:List Zj) (b:Int×Unit):Option Int:=
ZA (λv=>Yw a b v.1) ((0:Int),())
def c210:Ctr:=D2 (.sl (Qo)) (.fn 233 (.pair (.ptr Iq) (.unit))) Iq Yf
def ZhF (a:List Zj) (b:Int):Option (Zj×Bool):=
(Yf a (b,())).bind λc=>
if 0<=c then
(atI a c).bind λd=>
some (d,true)
else
some ((0,(0,0,()),(0,0,()),()),false)
def ZIY:Ctr:=⟨[.dat (.sl (Qo)),.dat Iq],[.dat (Qo),.dat (.bool)],λa K=>Zr a λb a=>Zr a λc a=>Yk (ZhF b c) λr=>K (r.1,r.2,()) ()⟩
def Zi0 (b a:ZC):Option ZC:=
some (Min.min (Gh b) (Gh a),Max.max (Gl b) (Gl a),())
def c212:Ctr:=D2 (Zaa) (Zaa) (Zaa) Zi0
def Za9 (d:Zj) (a:Bool) (b c:ZC):Option (Zj×Bool):=
if a then
(Zi0 (GM d) b).bind λe=>
(Zi0 (GR d) c).bind λf=>
some ((Gi d,e,f,()),a)
else
some ((Gi d,b,c,()),true)
def c213:Ctr:=⟨[.io (.flat (Qo)),.io (.flat (.bool)),.dat (Zaa),.dat (Zaa)],[],λa K=>Zr a λe a=>Zr a λb a=>Zr a λc a=>Zr a λd a=>Yk (Za9 e b c d) λr=>K () (r.1,r.2,())⟩
def Zhl (b:Zt) (a:Int):Option Bool:=
some (decide (Gm b=a))
def ZIZ:Ctr:=D2 (ZcP) (.ptr Iq) (.bool) Zhl
def Xh (c:Yc) (d:Int×Unit) (a:List Int) (b:Int):Option (((List Int)×Int×Unit)⊕List Int):=
if b<((ZW.links (GO c)).length:Int)then
(atI (ZW.links (GO c)) b).bind λg=>
(atI (Yc.live c) b).bind λe=>
if e then
(Zhl g d.1).bind λf=>
if f then
Zy ((a.length+[b].length)*8<=140737488355328)<|
some (.inl (a++[b],Wq (b+1),()))
else
some (.inl (a,Wq (b+1),()))
else
some (.inl (a,Wq (b+1),()))
else
some (.inr a)
def QL (b:Yc) (a:Int×Unit):Option (List Int):=
ZA (λv=>Xh b a v.1 v.2.1) (([]:List Int),(0:Int),())
def ZI0:Ctr:=⟨[.dat (.ptr (Zir)),.dat (.fn 235 (.pair (.ptr Iq) (.unit)))],[.own (.ol 2 (.flat Iq))],λa K=>Zr a λc a=>Zr a λb a=>Yk (QL c b) λr=>K (r,()) ()⟩
def ZcF (b:Yc) (a:Int):Option (List Int):=
(QL b (a,())).bind λc=>
some c
def ZHA:Ctr:=⟨[.dat (.ptr (Zir)),.dat Iq],[.own (.ol 2 (.flat Iq))],λa K=>Zr a λc a=>Zr a λb a=>Yk (ZcF c b) λr=>K (r,()) ()⟩
def Zb9 (b:ZW) (c:Zt):Option Int:=
(atI (ZW.Zg b) (Wq (Int.tdiv (Gm c) 2))).bind λa=>
some (ZL.net a)
def ZGz:Ctr:=D2 (.ptr (Zlz)) (ZcP) Iq Zb9
def ZdI (a:ZW) (b:Zt):Option ZK:=
(atI (ZW.Zg a) (Wq (Int.tdiv (Gm b) 2))).bind λe=>
(atI (K3 (K2 (G0 a))) (Gt e)).bind λd=>
(atI (Gd (K6 (G0 a))) (Gr d)).bind λf=>
(atI (Gp f) (GY b)).bind λc=>
some c
def c218:Ctr:=D2 (.ptr (Zlz)) (ZcP) (Zof) ZdI
def ZfD (a:Int):Option Bool:=
some (!decide (a=a))
def ZI1:Ctr:=D1 Iq (.bool) ZfD
def ZgP (b a:Int):Option Bool:=
(ZfD b).bind λc=>
if c then
(ZfD a).bind λd=>
if d then
some (decide (b<a))
else
some true
else
some (decide (b<a))
def ZI2:Ctr:=D2 Iq Iq (.bool) ZgP
def Zbv (a:Int):Option Bool:=
some (!decide (a=a))
def ZI3:Ctr:=D1 Iq (.bool) Zbv
def QG (f:List Int) (a b c:Int):Option ((Int×Int×Unit)⊕(Int×Bool)):=
if b<c then
(atI f (Wq (Int.fdiv (IntKind.wrap IntKind.u64 (Wq (b+c))) (2^Min.min (Int.toNat 1) (IntKind.bits IntKind.u64))))).bind λd=>
(ZgP d a).bind λe=>
if e then
some (.inl (Wq (Wq (Int.fdiv (IntKind.wrap IntKind.u64 (Wq (b+c))) (2^Min.min (Int.toNat 1) (IntKind.bits IntKind.u64)))+1),c,()))
else
some (.inl (b,Wq (Int.fdiv (IntKind.wrap IntKind.u64 (Wq (b+c))) (2^Min.min (Int.toNat 1) (IntKind.bits IntKind.u64))),()))
else
if b<(f.length:Int)then
(atI f b).bind λd=>
if d=a then
some (.inr (b,true))
else
(Zbv d).bind λe=>
if e then
(Zbv a).bind λg=>
some (.inr (b,g))
else
some (.inr (b,false))
else
some (.inr (b,false))
def Qr (b:List Int) (a:Int):Option (Int×Bool):=
ZA (λv=>QG b a v.1 v.2.1) ((0:Int),(b.length:Int),())
def c222:Ctr:=⟨[.dat (.sl Iq),.dat Iq],[.dat Iq,.dat (.bool)],λa K=>Zr a λc a=>Zr a λb a=>Yk (Qr c b) λr=>K (r.1,r.2,()) ()⟩
def Zha (a:List Int) (d:Int):Option ((List Zdd)×Int):=
(atI a 0).bind λc=>
(atI a (Wq ((a.length:Int)-1))).bind λe=>
(Qr a (Min.min (Max.max d c) e)).bind λb=>
if b.2 then
some ([(b.1,(1:Int),())],1)
else
(atI a b.1).bind λf=>
(atI a (Wq (b.1-1))).bind λg=>
some ([(Wq (b.1-1),Wq (f-Min.min (Max.max d c) e),()),(b.1,Wq (Min.min (Max.max d c) e-g),())],Wq (f-g))
def ZI4:Ctr:=⟨[.dat (.sl Iq),.dat Iq],[.own (.ol 369 (.flat (Zwb))),.dat Iq],λa K=>Zr a λb a=>Zr a λc a=>Yk (Zha b c) λr=>K (r.1,r.2,()) ()⟩
def ZdE (b a c:Int):Option Int:=
Zy (a≠0)<|
if c=0 then
if Int.tmod b a<0 then
some (Wq (Wq (Int.tdiv b a)-1))
else
if c=1 then
if 0<Int.tmod b a then
some (Wq (Wq (Int.tdiv b a)+1))
else
some (Wq (Int.tdiv b a))
else
some (Wq (Int.tdiv b a))
else
if c=1 then
if 0<Int.tmod b a then
some (Wq (Wq (Int.tdiv b a)+1))
else
some (Wq (Int.tdiv b a))
else
some (Wq (Int.tdiv b a))
def ZF7:Ctr:=D3 Iq Iq Iq Iq ZdE
def Qy (f:ZE) (a:List Zdd×Int) (g:Int) (d:Zdd) (e b:Int):Option ((Int×Int×Unit)⊕((Int×Int×Unit)⊕Int)):=
if b<(a.1.length:Int)then
(atI a.1 b).bind λc=>
(atI (Gz f) (Wq (Wq (Zdd.index d*((GA f).length:Int))+Zdd.index c))).bind λh=>
some (.inl (Wq (e+Wq (Wq (h*Zdd.part d)*Zdd.part c)),Wq (b+1),()))
else
some (.inr (.inl (e,Wq (g+1),())))
def Xg (f:ZE) (h:Int) (a b:List Zdd×Int) (d c:Int):Option ((Int×Int×Unit)⊕Int):=
if c<(a.1.length:Int)then
(atI a.1 c).bind λg=>
ZA (λv=>Qy f b c g v.1 v.2.1) (d,(0:Int),())
else
(ZdE d (Wq (a.2*b.2)) h).bind λe=>
some (.inr e)
def Zb7 (a:ZE) (c e f:Int):Option Int:=
(Zha (GS a) c).bind λb=>
(Zha (GA a) e).bind λd=>
ZA (λv=>Xg a f b d v.1 v.2.1) ((0:Int),(0:Int),())
def ZHB:Ctr:=D4 (Zaw) Iq Iq Iq Iq Zb7
def Zbh (c:ZB) (b a:Int):Option Int:=
if b=1 then
if a=0 then
some (G4 c)
else
if b=1 then
some (G3 c)
else
if a=0 then
some (G5 c)
else
some (G6 c)
else
if b=1 then
some (G3 c)
else
if a=0 then
some (G5 c)
else
some (G6 c)
def c226:Ctr:=D3 (XR) Iq Iq Iq Zbh
def Zjh (c a b:Int):Option Int:=
(ZdE (Wq (c*a)) 1000 b).bind λd=>
some d
def c227:Ctr:=D3 Iq Iq Iq Iq Zjh
def ZaL (c:ZW) (i:ZB) (j n b:Int):Option Int:=
(atI (ZW.links c) j).bind λa=>
(Zb9 c a).bind λh=>
if GP a=1 then
(atI (ZW.loads c) h).bind λf=>
(ZdI c a).bind λl=>
(atI (GJ l) (Int.tmod (Gm a) 2)).bind λg=>
(Zb7 g n f b).bind λm=>
(Zbh i (GP a) b).bind λe=>
(Zjh m e b).bind λd=>
some d
else
(atI (ZW.Zjf c) h).bind λf=>
(atI f (GY a)).bind λg=>
(ZdE g 1000 b).bind λk=>
(Zbh i (GP a) b).bind λe=>
(Zjh k e b).bind λd=>
some d
def c228:Ctr:=⟨[.dat (.ptr (Zlz)),.dat (XR),.dat Iq,.dat Iq,.dat Iq],[.dat Iq],λa K=>Zr a λb a=>Zr a λc a=>Zr a λd a=>Zr a λe a=>Zr a λf a=>Yk (ZaL b c d e f) λr=>K (r,()) ()⟩
def ZdH (c b a:Int):Option ((Int×Int×Unit)⊕Int):=
if b<a then
if Wq (Wq (Int.tdiv (Wq (Wq (b+a)+1)) 2)*Wq (Int.tdiv (Wq (Wq (b+a)+1)) 2))<=c then
some (.inl (Wq (Int.tdiv (Wq (Wq (b+a)+1)) 2),a,()))
else
some (.inl (b,Wq (Wq (Int.tdiv (Wq (Wq (b+a)+1)) 2)-1),()))
else
some (.inr b)
def ZmR (a:Int):Option Int:=
ZA (λv=>ZdH a v.1 v.2.1) ((0:Int),(3000000000:Int),())
def c229:Ctr:=D1 Iq Iq ZmR
def ZhG (b a c:Int):Option Int:=
(ZmR (Wq (Wq (Wq (Wq (500*b)*500)*b)+Wq (a*a)))).bind λd=>
if c=1 then
if Wq (d*d)<Wq (Wq (Wq (Wq (500*b)*500)*b)+Wq (a*a))then
some (Wq (Wq (Int.tdiv d 500)+1))
else
(ZdE d 500 c).bind λe=>
some e
else
(ZdE d 500 c).bind λe=>
some e
def ZI5:Ctr:=D3 Iq Iq Iq Iq ZhG
def XK (d:ZW) (e a b:Int):Option Int:=
(atI (ZW.links d) e).bind λc=>
(Zb9 d c).bind λh=>
if GP c=1 then
(atI (ZW.loads d) h).bind λf=>
(ZdI d c).bind λj=>
(atI (GQ j) (Int.tmod (Gm c) 2)).bind λg=>
(Zb7 g a f b).bind λk=>
some (Min.min k 1000000)
else
(atI (ZW.Zjf d) h).bind λf=>
(atI f (GY c)).bind λg=>
(ZhG a g b).bind λi=>
some (Min.min i 1000000)
def ZI6:Ctr:=D4 (.ptr (Zlz)) Iq Iq Iq Iq XK
def Zca (a:ZW) (h:ZB) (b:Int) (c:ZC):Option (ZC×ZC):=
(ZaL a h b (Gh c) 0).bind λi=>
(ZaL a h b (Gl c) 0).bind λk=>
(ZaL a h b (Gh c) 1).bind λl=>
(ZaL a h b (Gl c) 1).bind λj=>
(atI (ZW.links a) b).bind λn=>
if 0<((ZW.extras a).length:Int)then
if GP n=2 then
(Zb9 a n).bind λo=>
(atI (ZW.extras a) o).bind λm=>
(XK a b (Gh c) 0).bind λd=>
(XK a b (Gl c) 0).bind λe=>
(XK a b (Gh c) 1).bind λg=>
(XK a b (Gl c) 1).bind λf=>
some ((Wq (Min.min i k-m),Wq (Max.max l j+m),()),(Min.min d e,Max.max g f,()))
else
(XK a b (Gh c) 0).bind λd=>
(XK a b (Gl c) 0).bind λe=>
(XK a b (Gh c) 1).bind λg=>
(XK a b (Gl c) 1).bind λf=>
some ((Min.min i k,Max.max l j,()),(Min.min d e,Max.max g f,()))
else
(XK a b (Gh c) 0).bind λd=>
(XK a b (Gl c) 0).bind λe=>
(XK a b (Gh c) 1).bind λg=>
(XK a b (Gl c) 1).bind λf=>
some ((Min.min i k,Max.max l j,()),(Min.min d e,Max.max g f,()))
def c232:Ctr:=⟨[.dat (.ptr (Zlz)),.dat (XR),.dat Iq,.dat (Zaa)],[.dat (Zaa),.dat (Zaa)],λa K=>Zr a λb a=>Zr a λc a=>Zr a λd a=>Zr a λe a=>Yk (Zca b c d e) λr=>K (r.1,r.2,()) ()⟩
def Zi1 (b a:ZC):Option ZC:=
some (Wq (Gh b+Gh a),Wq (Gl b+Gl a),())
def c233:Ctr:=D2 (Zaa) (Zaa) (Zaa) Zi1
def Ziv (m:Yc) (o:ZB) (k:Zf) (c:List Int) (b j h i g d:Int) (e:Bool):Option ((Int×Int×Int×Int×Int×Int×Bool×Unit)⊕(Bool×Zj)):=
if b<(c.length:Int)then
(atI c b).bind λn=>
(atI (ZW.links (GO m)) n).bind λf=>
(atI (Ga k) (Gj f)).bind λs=>
if s then
(atI (Gv k) (Gj f)).bind λp=>
(Zca (GO m) o n p).bind λl=>
(atI (Gx k) (Gj f)).bind λr=>
(Zi1 r l.1).bind λq=>
(Za9 (j,(h,i,()),(g,d,()),()) e q l.2).bind λa=>
some (.inl (Wq (b+1),a.1.1,a.1.2.1.1,a.1.2.1.2.1,a.1.2.2.1.1,a.1.2.2.1.2.1,a.2,()))
else
some (.inl (Wq (b+1),j,h,i,g,d,e,()))
else
if e then
some (.inr (true,(j,(h,i,()),(g,d,()),())))
else
some (.inr (false,(0,(0,0,()),(0,0,()),())))
def X5 (m:Yc) (o:ZB) (k:Zf) (c:List Int) (b j h i g d:Int) (e:Bool):Option ((Int×Int×Int×Int×Int×Int×Bool×Unit)⊕(Bool×Zj)):=
if b<(c.length:Int)then
(atI c b).bind λn=>
(atI (ZW.links (GO m)) n).bind λf=>
(atI (Ga k) (Gj f)).bind λs=>
if s then
(atI (Gv k) (Gj f)).bind λp=>
(Zca (GO m) o n p).bind λl=>
(atI (Gx k) (Gj f)).bind λr=>
(Zi1 r l.1).bind λq=>
(Za9 (j,(h,i,()),(g,d,()),()) e q l.2).bind λa=>
some (.inl (Wq (b+1),a.1.1,a.1.2.1.1,a.1.2.1.2.1,a.1.2.2.1.1,a.1.2.2.1.2.1,a.2,()))
else
some (.inl (Wq (b+1),j,h,i,g,d,e,()))
else
if e then
some (.inr (true,(j,(h,i,()),(g,d,()),())))
else
some (.inr (false,(0,(0,0,()),(0,0,()),())))
def Xy (c:Yc) (f:ZB) (h:List Zj) (g:Zf) (b:Int):Option (Bool×Zj):=
(ZhF h b).bind λd=>
if d.2 then
(Za9 (b,(0,0,()),(0,0,()),()) false d.1.2.1 d.1.2.2.1).bind λa=>
(ZcF c b).bind λe=>
ZA (λv=>Ziv c f g e v.1 v.2.1 v.2.2.1 v.2.2.2.1 v.2.2.2.2.1 v.2.2.2.2.2.1 v.2.2.2.2.2.2.1) ((0:Int),a.1.1,a.1.2.1.1,a.1.2.1.2.1,a.1.2.2.1.1,a.1.2.2.1.2.1,a.2,())
else
(ZcF c b).bind λe=>
ZA (λv=>X5 c f g e v.1 v.2.1 v.2.2.1 v.2.2.2.1 v.2.2.2.2.1 v.2.2.2.2.2.1 v.2.2.2.2.2.2.1) ((0:Int),b,(0:Int),(0:Int),(0:Int),(0:Int),false,())
def c234:Ctr:=⟨[.dat (.ptr (Zir)),.dat (XR),.dat (.sl (Qo)),.dat (ZdU),.dat Iq],[.dat (.bool),.dat (Qo)],λa K=>Zr a λb a=>Zr a λc a=>Zr a λd a=>Zr a λe a=>Zr a λf a=>Yk (Xy b c d e f) λr=>K (r.1,r.2,()) ()⟩
def Yy (l:Yc) (p:ZB) (d:List Zj) (c:List Int) (h:Int) (k:List Bool) (i j:List ZC) (e:List Bool) (f g:List ZC):Option ((Int×(List Bool)×(List ZC)×(List ZC)×(List Bool)×(List ZC)×(List ZC)×Unit)⊕(Zf×Bool)):=
if h<(c.length:Int)then
(atI c h).bind λa=>
(Xy l p d (e,f,g,()) a).bind λb=>
if b.1 then
(J7 b.2.2.1).bind λo=>
if o then
(atI e a).bind λm=>
(atI f a).bind λq=>
(atI g a).bind λn=>
some (.inl (Wq (h+1),k,i,j,List.set e (Int.toNat a) b.1,List.set f (Int.toNat a) b.2.2.1,List.set g (Int.toNat a) b.2.2.2.1,()))
else
some (.inr ((([]:List Bool),([]:List ZC),([]:List ZC),()),false))
else
(atI e a).bind λm=>
(atI f a).bind λq=>
(atI g a).bind λn=>
some (.inl (Wq (h+1),k,i,j,List.set e (Int.toNat a) b.1,List.set f (Int.toNat a) b.2.2.1,List.set g (Int.toNat a) b.2.2.2.1,()))
else
some (.inr ((e,f,g,()),true))
def Zad (d:Yc) (e:ZB) (a:List Zj) (b:List Int):Option (Zf×Bool):=
(Jk (GO d)).bind λc=>
ZA (λv=>Yy d e a b v.1 v.2.1 v.2.2.1 v.2.2.2.1 v.2.2.2.2.1 v.2.2.2.2.2.1 v.2.2.2.2.2.2.1) ((0:Int),([]:List Bool),([]:List ZC),([]:List ZC),Ga c,Gx c,Gv c,())
def ZI7:Ctr:=⟨[.dat (.ptr (Zir)),.dat (XR),.dat (.sl (Qo)),.dat (.sl Iq)],[.own (ZjK),.dat (.bool)],λa K=>Zr a λd a=>Zr a λe a=>Zr a λb a=>Zr a λc a=>Yk (Zad d e b c) λr=>K (r.1,r.2,()) ()⟩
def XV (g:Za) (e:ZB) (b:List Int) (a:List Zj):Option (Zf×Int):=
(Q8 g e b a Option.none).bind λc=>
if c.2.2=0 then
(c.1).bind λf=>
(Zad f e a c.2.1).bind λd=>
if d.2 then
some (d.1,0)
else
some (([],[],[],()),3)
else
some (([],[],[],()),c.2.2)
def c236:Ctr:=⟨[.dat (Ya),.dat (XR),.dat (.sl Iq),.dat (.sl (Qo))],[.dat (ZdU),.dat Iq],λa K=>Zr a λd a=>Zr a λe a=>Zr a λc a=>Zr a λb a=>Yk (XV d e c b) λr=>K (r.1,r.2,()) ()⟩
def ZhA (a:Zh):Option Zh:=
if K7 a=1 then
some (K7 a,K9 a,Gy a,0,0,[],([],[],[],[],()),())
else
if K7 a=2 then
some (K7 a,K9 a,Gy a,0,0,Gg a,([],[],[],[],()),())
else
if K7 a=4 then
some (K7 a,K9 a,0,Gk a,GC a,[],([],[],[],[],()),())
else
if K7 a=5 then
some (K7 a,0,0,Gk a,0,[],a.2.2.2.2.2.2)
else
some (K7 a,0,0,0,0,[],([],[],[],[],()),())
def ZI8:Ctr:=D1 (XI) (XI) ZhA
def Js (a c:List Int) (b:Int):Option ((Int×Unit)⊕Bool):=
if b<(a.length:Int)then
(atI a b).bind λe=>
(atI c b).bind λd=>
if e=d then
some (.inl (Wq (b+1),()))
else
some (.inr false)
else
some (.inr true)
def XL (b a:List Int):Option Bool:=
if(b.length:Int)=(a.length:Int)then
ZA (λv=>Js b a v.1) ((0:Int),())
else
some false
def ZI9:Ctr:=D2 (.sl Iq) (.sl Iq) (.bool) XL
def ZhE (b a:Zq):Option Bool:=
(XL (K8 b) (K8 a)).bind λc=>
if c then
(XL (GB b) (GB a)).bind λd=>
if d then
(XL (GE b) (GE a)).bind λe=>
if e then
(XL (Gu b) (Gu a)).bind λf=>
some f
else
some false
else
some false
else
some false
def ZJa:Ctr:=D2 (ZbR) (ZbR) (.bool) ZhE
def ZfQ (b a:Zh):Option Bool:=
if K7 b=K7 a then
if K9 b=K9 a then
if Gy b=Gy a then
if Gk b=Gk a then
if GC b=GC a then
if Gg b=Gg a then
(ZhE (GG b) (GG a)).bind λc=>
some c
else
some false
else
some false
else
some false
else
some false
else
some false
else
some false
def ZJb:Ctr:=D2 (XI) (XI) (.bool) ZfQ
def ZcD (a:Zh) (b:Za):Option Bool:=
(YC (K7 a) 1 5).bind λi=>
if i then
(ZhA a).bind λl=>
(ZfQ a l).bind λm=>
if m then
(ZV (K2 b)).bind λk=>
(XU k).bind λj=>
(YC (K9 a) 0 (Wq (j-1))).bind λe=>
if K7 a=1 then
if K7 a=1 then
if e then
(Vn (Gd (K6 b))).bind λg=>
(YC (Gy a) 0 (Wq (g-1))).bind λd=>
some d
else
some false
else
if K7 a=4 then
if e then
(XD (K2 b) (Gk a)).bind λc=>
if c then
(atI (K4 b) (Gk a)).bind λh=>
(XE (K8 h)).bind λf=>
(YC (GC a) 0 (Wq (f-1))).bind λd=>
some d
else
some false
else
some false
else
if K7 a=5 then
(XD (K2 b) (Gk a)).bind λc=>
some c
else
some true
else
if K7 a=2 then
if e then
(Vn (Gd (K6 b))).bind λg=>
(YC (Gy a) 0 (Wq (g-1))).bind λd=>
some d
else
some false
else
if K7 a=4 then
if e then
(XD (K2 b) (Gk a)).bind λc=>
if c then
(atI (K4 b) (Gk a)).bind λh=>
(XE (K8 h)).bind λf=>
(YC (GC a) 0 (Wq (f-1))).bind λd=>
some d
else
some false
else
some false
else
if K7 a=5 then
(XD (K2 b) (Gk a)).bind λc=>
some c
else
some true
else
some false
else
some false
def ZJc:Ctr:=D2 (XI) (Ya) (.bool) ZcD
def Zhk (a b:XT):Option Bool:=
some (Gn a==Gn b)
def ZJd:Ctr:=D2 (Znm) (Znm) (.bool) Zhk
def ZR (a c:List XT) (b:Int):Option ((Int×Unit)⊕Bool):=
if b<(a.length:Int)then
(atI a b).bind λf=>
(atI c b).bind λd=>
(Zhk f d).bind λe=>
if e then
some (.inl (Wq (b+1),()))
else
some (.inr false)
else
some (.inr true)
def Yi (b a:List XT) (c:Unit):Option Bool:=
if(b.length:Int)=(a.length:Int)then
ZA (λv=>ZR b a v.1) ((0:Int),())
else
some false
def ZJe:Ctr:=D3 (.sl (Znm)) (.sl (Znm)) (.fn 292 (.unit)) (.bool) Yi
def ZhD (b a:Zo):Option Bool:=
if GI b=GI a then
(Yi (Gb b) (Gb a) ()).bind λc=>
some c
else
some false
def ZJf:Ctr:=D2 (Zcq) (Zcq) (.bool) ZhD
def Zak (a:Zo):Option Bool:=
if GI a=1 then
some (decide (((Gb a).length:Int)=2))
else
some false
def ZHC:Ctr:=D1 (Zcq) (.bool) Zak
def ZdC (a:Zd) (b:List UInt8):Option Bool:=
some (decide (Gq a=b))
def ZJg:Ctr:=D2 (Jf) (.ptr (.str)) (.bool) ZdC
def Yd (b:List Zd) (d:List UInt8×Unit) (a:Int):Option ((Int×Unit)⊕Int):=
if a<(b.length:Int)then
(atI b a).bind λe=>
(ZdC e d.1).bind λc=>
if c then
some (.inr a)
else
some (.inl (Wq (a+1),()))
else
some (.inr (-1))
def Z0 (a:List Zd) (b:List UInt8×Unit):Option Int:=
ZA (λv=>Yd a b v.1) ((0:Int),())
def ZJh:Ctr:=D2 (.sl (Jf)) (.fn 294 (.pair (.ptr (.str)) (.unit))) Iq Z0
def Zdn (b:Zb) (a:List UInt8):Option Int:=
(Z0 (K3 b) (a,())).bind λc=>
some c
def ZJi:Ctr:=D2 (YN) (.str) Iq Zdn
def ZbT (b:Zb) (a:List UInt8):Option Int:=
(Xr (K5 b) a).bind λc=>
some c
def ZJj:Ctr:=D2 (YN) (.str) Iq ZbT
def ZaV (a:Za):Option Bool:=
if((K3 (K2 a)).length:Int)=0 then
some false
else
(atI (K3 (K2 a)) (Wq (((K3 (K2 a)).length:Int)-1))).bind λc=>
(XG (K5 (K2 a))).bind λb=>
(atI (Gd (K6 a)) (Gr c)).bind λf=>
(Zak f).bind λh=>
if h then
(atI (Gc c) 1).bind λj=>
if j=Wq (b-1)then
(atI (Gc c) 0).bind λg=>
if g=Wq (b-1)then
some false
else
(atI (K5 (K2 a)) (Wq (b-1))).bind λi=>
if i=Gq c then
(atI (K4 a) (Wq (b-1))).bind λd=>
if((Gu d).length:Int)=1 then
if((K8 d).length:Int)=1 then
(atI (GE d) 0).bind λe=>
some (decide (e=0))
else
some false
else
some false
else
some false
else
some false
else
some false
def ZJk:Ctr:=D1 (Ya) (.bool) ZaV
def ZbV (a:Zh) (c:Za):Option Bool:=
(ZV (K2 c)).bind λd=>
if K7 a=1 then
(atI d (K9 a)).bind λb=>
if 0<=Gt b then
if(GW b)=true then
(atI (K3 (K2 c)) (Gt b)).bind λe=>
(atI (Gd (K6 c)) (Gr e)).bind λo=>
(atI (Gd (K6 c)) (Gy a)).bind λk=>
(ZhD o k).bind λl=>
some l
else
some false
else
some false
else
if K7 a=2 then
(atI d (K9 a)).bind λb=>
if(GW b)=true then
some false
else
(atI (Gd (K6 c)) (Gy a)).bind λe=>
(Zak e).bind λm=>
if m then
(ZeT (Gg a)).bind λh=>
if h then
(Zdn (K2 c) (Gg a)).bind λg=>
if g<0 then
(ZbT (K2 c) (Gg a)).bind λf=>
some (decide (f<0))
else
some false
else
some false
else
some false
else
if K7 a=3 then
(ZaV c).bind λi=>
some i
else
if K7 a=4 then
(atI d (K9 a)).bind λb=>
if(GW b)=true then
some false
else
some (!decide (ZL.net b=Gk a))
else
(atI (K4 c) (Gk a)).bind λb=>
(XE (Gu b)).bind λn=>
(Zh9 (GG a) n).bind λj=>
some j
def ZJl:Ctr:=D2 (XI) (Ya) (.bool) ZbV
def Zez (b:Zh) (a:Za):Option Int:=
(ZcD b a).bind λd=>
if d then
(ZbV b a).bind λc=>
if c then
if K7 b=2 then
if((K3 (K2 a)).length:Int)=14 then
some 3
else
if((K5 (K2 a)).length:Int)=30 then
some 3
else
some 0
else
some 0
else
some 5
else
some 2
def ZJm:Ctr:=D2 (XI) (Ya) Iq Zez
def VB (a:Za) (d:Zh):Option Int:=
(Zg8 a).bind λc=>
if c then
(Zez d a).bind λb=>
some b
else
some 1
def ZF8:Ctr:=D2 (Ya) (XI) Iq VB
def Jq (a:List XT):Option (List XT):=
Zy ((([]:List (List UInt8×Int×Int×Bool×Unit)).length+a.length)*40<=140737488355328)<|
some (([]:List (List UInt8×Int×Int×Bool×Unit))++a)
def ZJn:Ctr:=⟨[.dat (.sl (Znm))],[.own (.ol 277 (.flat (Znm)))],λa K=>Zr a λb a=>Yk (Jq b) λr=>K (r,()) ()⟩
def Jp (a:List ZK):Option (List ZK):=
Zy ((([]:List (Int×Int×Int×Int×List ZE×List ZE×Unit)).length+a.length)*80<=140737488355328)<|
some (([]:List (Int×Int×Int×Int×List ZE×List ZE×Unit))++a)
def ZJo:Ctr:=⟨[.dat (.sl (Zof))],[.own (.ol 186 (.flat (Zof)))],λa K=>Zr a λb a=>Yk (Jp b) λr=>K (r,()) ()⟩
def ZaZ (b a:List ZE) (d:Int):Option (((List ZE)×Int×Unit)⊕List ZE):=
if d<(b.length:Int)then
(atI b d).bind λc=>
(ZN (GS c)).bind λe=>
(ZN (GA c)).bind λf=>
(ZN (Gz c)).bind λg=>
Zy ((a.length+[(e,f,g,())].length)*72<=140737488355328)<|
some (.inl (a++[(e,f,g,())],Wq (d+1),()))
else
some (.inr a)
def ZcV (a:List ZE):Option (List ZE):=
ZA (λv=>ZaZ a v.1 v.2.1) (([]:List ZE),(0:Int),())
def ZJp:Ctr:=⟨[.dat (.sl (Zaw))],[.own (.ol 330 (ZkH))],λa K=>Zr a λb a=>Yk (ZcV b) λr=>K (r,()) ()⟩
def VF (k:Int) (i:List Zo) (c:Zo) (d:List XT) (b:List Int) (g:List ZK) (e:Int) (a:List ZK×Int):Option ((Int×(List ZK×Int)×Unit)⊕((Int×(List Zo)×Unit)⊕Zu)):=
if e<(g.length:Int)then
(atI a.1 e).bind λh=>
Zy (a.2<=e)<|
(ZcV (GJ h)).bind λj=>
(ZcV (GQ h)).bind λl=>
Zy (e=a.2)<|
(atI a.1 a.2).bind λf=>
some (.inl (Wq (e+1),(List.set a.1 (Int.toNat a.2) (Gf f,Gs f,Gw f,GH f,j,l,()),a.2+1),()))
else
Zy (a.2=(a.1.length:Int))<|
Zy ((i.length+[(GV c,GI c,d,a.1,b,c.2.2.2.2.2)].length)*112<=140737488355328)<|
some (.inr (.inl (Wq (k+1),i++[(GV c,GI c,d,a.1,b,c.2.2.2.2.2)],())))
def Qz (c:Zu) (b:Int) (e:List Zo):Option ((Int×(List Zo)×Unit)⊕Zu):=
if b<((Gd c).length:Int)then
(atI (Gd c) b).bind λa=>
(Jq (Gb a)).bind λf=>
(ZN (GD a)).bind λg=>
(Jp (Gp a)).bind λd=>
ZA (λv=>VF b e a f g d v.1 v.2.1) ((0:Int),(d,(0:Int)),())
else
some (.inr (e,()))
def ZaD (a:Zu):Option Zu:=
ZA (λv=>Qz a v.1 v.2.1) ((0:Int),([]:List Zo),())
def ZJq:Ctr:=⟨[.dat (X9)],[.own (Zpb)],λa K=>Zr a λb a=>Yk (ZaD b) λr=>K (r,()) ()⟩
def Qk (a:List Zd):Option (List Zd):=
Zy ((([]:List (List UInt8×Int×List Int×Unit)).length+a.length)*48<=140737488355328)<|
some (([]:List (List UInt8×Int×List Int×Unit))++a)
def ZJr:Ctr:=⟨[.dat (.sl (Jf))],[.own (.ol 105 (.flat (Jf)))],λa K=>Zr a λb a=>Yk (Qk b) λr=>K (r,()) ()⟩
def ZaO (a:List (List UInt8)):Option (List (List UInt8)):=
Zy ((([]:List (List UInt8)).length+a.length)*16<=140737488355328)<|
some (([]:List (List UInt8))++a)
def ZJs:Ctr:=⟨[.dat (.sl (.str))],[.own (.ol 9 (.flat (.str)))],λa K=>Zr a λb a=>Yk (ZaO b) λr=>K (r,()) ()⟩
def VO (a:List Z6):Option (List Z6):=
Zy ((([]:List (List UInt8×Int×Int×Unit)).length+a.length)*32<=140737488355328)<|
some (([]:List (List UInt8×Int×Int×Unit))++a)
def ZJt:Ctr:=⟨[.dat (.sl (Zo7))],[.own (.ol 99 (.flat (Zo7)))],λa K=>Zr a λb a=>Yk (VO b) λr=>K (r,()) ()⟩
def VA (b:List Zd) (c:List (List UInt8)) (e:List Z6) (d:Int) (a:List Zd×Int):Option ((Int×(List Zd×Int)×Unit)⊕Zb):=
if d<(b.length:Int)then
(atI a.1 d).bind λh=>
Zy (a.2<=d)<|
(ZN (Gc h)).bind λg=>
Zy (d=a.2)<|
(atI a.1 a.2).bind λf=>
some (.inl (Wq (d+1),(List.set a.1 (Int.toNat a.2) (Gq f,Gr f,g,()),a.2+1),()))
else
Zy (a.2=(a.1.length:Int))<|
some (.inr (a.1,c,e,()))
def ZaA (a:Zb):Option Zb:=
(Qk (K3 a)).bind λb=>
(ZaO (K5 a)).bind λc=>
(VO (Ge a)).bind λd=>
ZA (λv=>VA b c d v.1 v.2.1) ((0:Int),(b,(0:Int)),())
def ZJu:Ctr:=⟨[.dat (YN)],[.own (ZpA)],λa K=>Zr a λb a=>Yk (ZaA b) λr=>K (r,()) ()⟩
def Zb8 (a:Zq):Option Zq:=
(ZN (K8 a)).bind λb=>
(ZN (GB a)).bind λc=>
(ZN (GE a)).bind λd=>
(ZN (Gu a)).bind λe=>
some (b,c,d,e,())
def ZGA:Ctr:=⟨[.dat (ZbR)],[.own (ZoN)],λa K=>Zr a λb a=>Yk (Zb8 b) λr=>K (r,()) ()⟩
def ZaW (f:Za) (a:Zu) (b:Zb) (c:Int) (d:List Zq):Option ((Int×(List Zq)×Unit)⊕Za):=
if c<((K4 f).length:Int)then
(atI (K4 f) c).bind λg=>
(Zb8 g).bind λe=>
Zy ((d.length+[e].length)*96<=140737488355328)<|
some (.inl (Wq (c+1),d++[e],()))
else
some (.inr (a,b,d,()))
def ZcS (a:Za):Option Za:=
(ZaD (K6 a)).bind λc=>
(ZaA (K2 a)).bind λb=>
ZA (λv=>ZaW a c b v.1 v.2.1) ((0:Int),([]:List Zq),())
def ZHD:Ctr:=⟨[.dat (Ya)],[.own (Zex)],λa K=>Zr a λb a=>Yk (ZcS b) λr=>K (r,()) ()⟩
def Zb1 (g:Za) (a:List ZL) (c:Int) (e:List ((Int×Int×Unit)×Int)) (d:List Int):Option ((Int×(List ((Int×Int×Unit)×Int))×(List Int)×Unit)⊕List (Za5×Int)):=
if c<(a.length:Int)then
(atI a c).bind λb=>
if(GW b)=true then
some (.inl (Wq (c+1),e,d,()))
else
(atI (K4 g) (ZL.net b)).bind λi=>
(atI d (ZL.net b)).bind λf=>
(atI (Gu i) f).bind λh=>
some (.inl (Wq (c+1),ZoA Zv6.ty Zv6.ety e (Gt b,ZL.pin b,()) h,List.set d (Int.toNat (ZL.net b)) (Wq (f+1)),()))
else
some (.inr e)
def Vz (a:Za):Option (List (Za5×Int)):=
Zy ((0:Int)<=((K4 a).length:Int))<|
Zy (((K4 a).length:Int)<=((K4 a).length:Int))<|
Zy (((K4 a).length:Int)<=4611686018427387904)<|
Zy (((8:Nat):Int)*((K4 a).length:Int)<=281474976710656)<|
(ZV (K2 a)).bind λb=>
ZA (λv=>Zb1 a b v.1 v.2.1 v.2.2.1) ((0:Int),([]:List ((Int×Int×Unit)×Int)),List.replicate (Int.toNat ((K4 a).length:Int)) (0:Int),())
def ZF9:Ctr:=⟨[.dat (Ya)],[.own (.mp (ZcQ) Iq)],λa K=>Zr a λb a=>Yk (Vz b) λr=>K (r,()) ()⟩
def Q6 (a:List Zd):Option Int:=
some (a.length:Int)
def ZHE:Ctr:=D1 (.sl (Jf)) Iq Q6
def Zay (b:Za) (a:Za5) (d:Int):Option Za:=
if G7 a<0 then
(atI (Ge (K2 b)) (Za5.pin a)).bind λc=>
some (K6 b,(K3 (K2 b),K5 (K2 b),List.set (Ge (K2 b)) (Int.toNat (Za5.pin a)) (GT c,GF c,d,()),()),b.2.2)
else
(atI (K3 (K2 b)) (G7 a)).bind λc=>
(atI c.2.2.1 (Za5.pin a)).bind λe=>
some (K6 b,(List.set (K3 (K2 b)) (Int.toNat (G7 a)) (c.1,c.2.1,List.set c.2.2.1 (Int.toNat (Za5.pin a)) d,()),(K2 b).2),b.2.2)
def ZGB:Ctr:=⟨[.io (Zex),.dat (ZcQ),.dat Iq],[],λa K=>Zr a λd a=>Zr a λc a=>Zr a λb a=>Yk (Zay d c b) λr=>K () (r,())⟩
def Zb0 (g:Za) (b:List (Za5×Int)) (a:List ZL) (f:Int) (e:List (List Int×List Int×List Int×List Int×Unit)):Option ((Int×(List (List Int×List Int×List Int×List Int×Unit))×Unit)⊕((Int×(List (List Int×List Int×List Int×List Int×Unit))×Unit)⊕Za)):=
if f<(a.length:Int)then
(atI a f).bind λc=>
if(GW c)=true then
some (.inl (Wq (f+1),e,()))
else
(atI e (ZL.net c)).bind λd=>
Zy ((d.2.2.2.1.length+[Option.getD (Zkx ZcQ (Ty.int IntKind.i64) b (Gt c,ZL.pin c,())) (0:Int)].length)*8<=140737488355328)<|
some (.inl (Wq (f+1),List.set e (Int.toNat (ZL.net c)) (d.1,d.2.1,d.2.2.1,d.2.2.2.1++[Option.getD (Zkx ZcQ (Ty.int IntKind.i64) b (Gt c,ZL.pin c,())) (0:Int)],()),()))
else
some (.inr (.inr (K6 g,K2 g,e,())))
def JU (e:Za) (a:List (Za5×Int)) (b:Int) (d:List (List Int×List Int×List Int×List Int×Unit)):Option ((Int×(List (List Int×List Int×List Int×List Int×Unit))×Unit)⊕Za):=
if b<((K4 e).length:Int)then
(atI d b).bind λc=>
some (.inl (Wq (b+1),List.set d (Int.toNat b) (c.1,c.2.1,c.2.2.1,([]:List Int),()),()))
else
(ZV (K2 e)).bind λf=>
ZA (λv=>Zb0 e a f v.1 v.2.1) ((0:Int),d,())
def Vy (b:Za) (a:List (Za5×Int)):Option Za:=
ZA (λv=>JU b a v.1 v.2.1) ((0:Int),K4 b,())
def ZGC:Ctr:=⟨[.io (Zex),.dat (.mp (ZcQ) Iq)],[],λa K=>Zr a λc a=>Zr a λb a=>Yk (Vy c b) λr=>K () (r,())⟩
def Zd1 (a:Za) (c:Zh):Option Za:=
(Vz a).bind λe=>
(ZV (K2 a)).bind λi=>
(atI i (K9 c)).bind λb=>
(XG (K5 (K2 a))).bind λd=>
(Q6 (K3 (K2 a))).bind λh=>
Zy (((K3 (K2 a)).length+[(Gg c,Gy c,[ZL.net b,d],())].length)*48<=140737488355328)<|
Zy (((K5 (K2 a)).length+[Gg c].length)*16<=140737488355328)<|
Zy (((K4 a).length+[([(-1:Int)],[(0:Int)],[(0:Int)],([]:List Int),())].length)*96<=140737488355328)<|
(Zay (K6 a,(K3 (K2 a)++[(Gg c,Gy c,[ZL.net b,d],())],K5 (K2 a)++[Gg c],(K2 a).2.2),K4 a++[([(-1:Int)],[(0:Int)],[(0:Int)],([]:List Int),())],()) (Gt b,ZL.pin b,()) d).bind λg=>
(Vy g (ZoA ZcQ (Ty.int IntKind.i64) (ZoA ZcQ (Ty.int IntKind.i64) e (h,0,()) (Option.getD (Zkx ZcQ (Ty.int IntKind.i64) e (Gt b,ZL.pin b,())) 0)) (Gt b,ZL.pin b,()) 0)).bind λf=>
some f
def ZJv:Ctr:=⟨[.io (Zex),.dat (XI)],[],λa K=>Zr a λc a=>Zr a λb a=>Yk (Zd1 c b) λr=>K () (r,())⟩
def ZaI (a:Za):Option (Za5×Za):=
(Vz a).bind λd=>
(ZV (K2 a)).bind λj=>
(XG (K5 (K2 a))).bind λk=>
(Zb6 (K2 a) (Wq (k-1))).bind λg=>
(atI g 0).bind λi=>
(atI j i).bind λc=>
(atI (K3 (K2 a)) (Wq (((K3 (K2 a)).length:Int)-1))).bind λe=>
(atI e.2.2.1 0).bind λh=>
(Zay (K6 a,(List.set (K3 (K2 a)) (Int.toNat (Wq (((K3 (K2 a)).length:Int)-1))) e,(K2 a).2),a.2.2) (Gt c,ZL.pin c,()) h).bind λb=>
Zy ((0:Int)<=Wq (((K3 (K2 a)).length:Int)-1))<|
Zy (Wq (((K3 (K2 a)).length:Int)-1)<=((K3 (K2 b)).length:Int))<|
Zy ((0:Int)<=Wq (((K5 (K2 b)).length:Int)-1))<|
Zy (Wq (((K5 (K2 b)).length:Int)-1)<=((K5 (K2 b)).length:Int))<|
Zy ((0:Int)<=Wq (((K4 b).length:Int)-1))<|
Zy (Wq (((K4 b).length:Int)-1)<=((K4 b).length:Int))<|
(Vy (K6 b,(List.take (Int.toNat (Wq (((K3 (K2 a)).length:Int)-1))-Int.toNat 0) (List.drop (Int.toNat 0) (K3 (K2 b))),List.take (Int.toNat (Wq (((K5 (K2 b)).length:Int)-1))-Int.toNat 0) (List.drop (Int.toNat 0) (K5 (K2 b))),(K2 b).2.2),List.take (Int.toNat (Wq (((K4 b).length:Int)-1))-Int.toNat 0) (List.drop (Int.toNat 0) (K4 b)),()) (ZoA ZcQ (Ty.int IntKind.i64) d (Gt c,ZL.pin c,()) (Option.getD (Zkx ZcQ (Ty.int IntKind.i64) d (Wq (((K3 (K2 a)).length:Int)-1),0,())) 0))).bind λf=>
some ((Gt c,ZL.pin c,()),f)
def ZHF:Ctr:=⟨[.io (Zex)],[.dat (ZcQ)],λa K=>Zr a λb a=>Yk (ZaI b) λr=>K (r.1,()) (r.2,())⟩
def ZH (b:Zh) (f:Za):Option Za:=
(ZcS f).bind λa=>
if K7 b=1 then
(ZV (K2 f)).bind λd=>
(atI d (K9 b)).bind λc=>
(atI (K3 (K2 a)) (Gt c)).bind λe=>
some (K6 a,(List.set (K3 (K2 a)) (Int.toNat (Gt c)) (e.1,Gy b,e.2.2),(K2 a).2),a.2.2)
else
if K7 b=2 then
(Zd1 a b).bind λk=>
some k
else
if K7 b=3 then
(ZaI a).bind λi=>
some i.2
else
if K7 b=4 then
(Vz a).bind λh=>
(ZV (K2 a)).bind λd=>
(atI d (K9 b)).bind λc=>
(Zay a (Gt c,ZL.pin c,()) (Gk b)).bind λg=>
(Vy g (ZoA ZcQ (Ty.int IntKind.i64) h (Gt c,ZL.pin c,()) (GC b))).bind λj=>
some j
else
if K7 b=5 then
(Zb8 (GG b)).bind λl=>
(atI (K4 a) (Gk b)).bind λc=>
some (K6 a,K2 a,List.set (K4 a) (Int.toNat (Gk b)) l,())
else
some a
def ZGa:Ctr:=⟨[.dat (XI),.dat (Ya)],[.own (Zex)],λa K=>Zr a λc a=>Zr a λb a=>Yk (ZH c b) λr=>K (r,()) ()⟩
def Zaq (a:Za) (c:Zh):Option (Za×Int):=
(VB a c).bind λb=>
if b=0 then
(ZH c a).bind λd=>
some (d,0)
else
some ((([],()),([],[],[],()),[],()),b)
def ZJw:Ctr:=⟨[.dat (Ya),.dat (XI)],[.dat (Ya),.dat Iq],λa K=>Zr a λb a=>Zr a λc a=>Yk (Zaq b c) λr=>K (r.1,r.2,()) ()⟩
def VD (f:Zh) (c:Int) (d:List ZL) (a:List Int) (b:Int):Option (((List Int)×Int×Unit)⊕List Int):=
if b<(d.length:Int)then
(atI d b).bind λe=>
if K7 f=2 then
if Gt e<0 then
Zy ((a.length+[Wq (b+2)].length)*8<=140737488355328)<|
some (.inl (a++[Wq (b+2)],Wq (b+1),()))
else
if K7 f=3 then
if Gt e<0 then
Zy ((a.length+[Wq (b-2)].length)*8<=140737488355328)<|
some (.inl (a++[Wq (b-2)],Wq (b+1),()))
else
if K7 f=3 then
if Gt e=Wq (c-1)then
Zy ((a.length+[(-1:Int)].length)*8<=140737488355328)<|
some (.inl (a++[(-1:Int)],Wq (b+1),()))
else
Zy ((a.length+[b].length)*8<=140737488355328)<|
some (.inl (a++[b],Wq (b+1),()))
else
Zy ((a.length+[b].length)*8<=140737488355328)<|
some (.inl (a++[b],Wq (b+1),()))
else
if K7 f=3 then
if Gt e=Wq (c-1)then
Zy ((a.length+[(-1:Int)].length)*8<=140737488355328)<|
some (.inl (a++[(-1:Int)],Wq (b+1),()))
else
Zy ((a.length+[b].length)*8<=140737488355328)<|
some (.inl (a++[b],Wq (b+1),()))
else
Zy ((a.length+[b].length)*8<=140737488355328)<|
some (.inl (a++[b],Wq (b+1),()))
else
if K7 f=3 then
if Gt e<0 then
Zy ((a.length+[Wq (b-2)].length)*8<=140737488355328)<|
some (.inl (a++[Wq (b-2)],Wq (b+1),()))
else
if K7 f=3 then
if Gt e=Wq (c-1)then
Zy ((a.length+[(-1:Int)].length)*8<=140737488355328)<|
some (.inl (a++[(-1:Int)],Wq (b+1),()))
else
Zy ((a.length+[b].length)*8<=140737488355328)<|
some (.inl (a++[b],Wq (b+1),()))
else
Zy ((a.length+[b].length)*8<=140737488355328)<|
some (.inl (a++[b],Wq (b+1),()))
else
if K7 f=3 then
if Gt e=Wq (c-1)then
Zy ((a.length+[(-1:Int)].length)*8<=140737488355328)<|
some (.inl (a++[(-1:Int)],Wq (b+1),()))
else
Zy ((a.length+[b].length)*8<=140737488355328)<|
some (.inl (a++[b],Wq (b+1),()))
else
Zy ((a.length+[b].length)*8<=140737488355328)<|
some (.inl (a++[b],Wq (b+1),()))
else
some (.inr a)
def JH (c:Zh) (a:Za):Option (List Int):=
(Q6 (K3 (K2 a))).bind λb=>
(ZV (K2 a)).bind λd=>
ZA (λv=>VD c b d v.1 v.2.1) (([]:List Int),(0:Int),())
def ZHG:Ctr:=⟨[.dat (XI),.dat (Ya)],[.own (.ol 2 (.flat Iq))],λa K=>Zr a λc a=>Zr a λb a=>Yk (JH c b) λr=>K (r,()) ()⟩
def QO (a:List Zj):Option (List Zj):=
Zy ((([]:List (Int×ZC×ZC×Unit)).length+a.length)*40<=140737488355328)<|
some (([]:List (Int×ZC×ZC×Unit))++a)
def ZJx:Ctr:=⟨[.dat (.sl (Qo))],[.own (.ol 74 (.flat (Qo)))],λa K=>Zr a λb a=>Yk (QO b) λr=>K (r,()) ()⟩
def Zg9 (b:List Int) (a:Int):Option (Int×Bool):=
(atI b (Wq (Int.tdiv a 2))).bind λc=>
some (Wq (Wq (2*c)+Int.tmod a 2),decide (0<=c))
def ZHH:Ctr:=⟨[.dat (.sl Iq),.dat Iq],[.dat Iq,.dat (.bool)],λa K=>Zr a λb a=>Zr a λc a=>Yk (Zg9 b c) λr=>K (r.1,r.2,()) ()⟩
def Zaj (b:List Zj) (a:List Int) (c:Int) (d:List Zj):Option ((Int×(List Zj)×Unit)⊕((List Zj)×Int)):=
if c<(b.length:Int)then
(atI b c).bind λg=>
(Zg9 a (Gi g)).bind λe=>
if e.2 then
(atI d c).bind λf=>
some (.inl (Wq (c+1),List.set d (Int.toNat c) (e.1,f.2),()))
else
some (.inr (([]:List Zj),(5:Int)))
else
some (.inr (d,0))
def Ji (b:Za) (d:Zh) (a:List Zj):Option ((List Zj)×Int):=
(VB b d).bind λc=>
if c=0 then
(Zar b).bind λg=>
(V3 g a).bind λh=>
if h then
(JH d b).bind λf=>
(QO a).bind λe=>
ZA (λv=>Zaj a f v.1 v.2.1) ((0:Int),e,())
else
some ([],2)
else
some ([],c)
def ZHI:Ctr:=⟨[.dat (Ya),.dat (XI),.dat (.sl (Qo))],[.own (.ol 74 (.flat (Qo))),.dat Iq],λa K=>Zr a λd a=>Zr a λc a=>Zr a λb a=>Yk (Ji d c b) λr=>K (r.1,r.2,()) ()⟩
def VE (h:Zf) (a:List Int) (g c:Int) (f:List Bool) (d e:List ZC):Option ((Int×(List Bool)×(List ZC)×(List ZC)×Unit)⊕Zf):=
if c<g then
(Zg9 a c).bind λb=>
if b.2 then
(atI (Ga h) c).bind λj=>
(atI (Gx h) c).bind λi=>
(atI (Gv h) c).bind λk=>
(atI f b.1).bind λl=>
(atI d b.1).bind λn=>
(atI e b.1).bind λm=>
some (.inl (Wq (c+1),List.set f (Int.toNat b.1) j,List.set d (Int.toNat b.1) i,List.set e (Int.toNat b.1) k,()))
else
some (.inl (Wq (c+1),f,d,e,()))
else
some (.inr (f,d,e,()))
def Zbi (b:Zh) (c:Za) (d:Zf):Option Zf:=
(ZH b c).bind λe=>
(Zar e).bind λh=>
(Jk h).bind λa=>
(JH b c).bind λg=>
(ZcW (Ga d)).bind λf=>
ZA (λv=>VE d g f v.1 v.2.1 v.2.2.1 v.2.2.2.1) ((0:Int),Ga a,Gx a,Gv a,())
def ZJy:Ctr:=⟨[.dat (XI),.dat (Ya),.dat (ZdU)],[.own (ZjK)],λa K=>Zr a λb a=>Zr a λc a=>Zr a λd a=>Yk (Zbi b c d) λr=>K (r,()) ()⟩
def ZeL (a:Za) (c:Zh) (d:Zf):Option (Zf×Int):=
(VB a c).bind λb=>
if b=0 then
(Zar a).bind λe=>
(Zbo e d).bind λf=>
if f then
(Zbi c a d).bind λg=>
some (g,0)
else
some (([],[],[],()),2)
else
some (([],[],[],()),b)
def ZJz:Ctr:=⟨[.dat (Ya),.dat (XI),.dat (ZdU)],[.own (ZjK),.dat Iq],λa K=>Zr a λc a=>Zr a λb a=>Zr a λd a=>Yk (ZeL c b d) λr=>K (r.1,r.2,()) ()⟩
def ZaB (b:Zh) (d:Za):Option (List Int):=
if K7 b=1 then
(ZV (K2 d)).bind λf=>
(atI f (K9 b)).bind λe=>
(atI (K3 (K2 d)) (Gt e)).bind λg=>
(ZN (Gc g)).bind λi=>
(ZyE i).bind λc=>
(Zkj c).bind λa=>
some a
else
if K7 b=2 then
(ZV (K2 d)).bind λf=>
(atI f (K9 b)).bind λe=>
(XG (K5 (K2 d))).bind λh=>
(ZyE [ZL.net e,h]).bind λc=>
(Zkj c).bind λa=>
some a
else
if K7 b=3 then
(atI (K3 (K2 d)) (Wq (((K3 (K2 d)).length:Int)-1))).bind λe=>
(atI (Gc e) 0).bind λg=>
(ZyE [g]).bind λc=>
(Zkj c).bind λa=>
some a
else
if K7 b=4 then
(ZV (K2 d)).bind λf=>
(atI f (K9 b)).bind λe=>
(ZyE [ZL.net e,Gk b]).bind λc=>
(Zkj c).bind λa=>
some a
else
if K7 b=5 then
(ZyE [Gk b]).bind λc=>
(Zkj c).bind λa=>
some a
else
(ZyE (([]:List Int))).bind λc=>
(Zkj (([]:List Int))).bind λa=>
some a
def ZJA:Ctr:=⟨[.dat (XI),.dat (Ya)],[.own (.ol 2 (.flat Iq))],λa K=>Zr a λc a=>Zr a λb a=>Yk (ZaB c b) λr=>K (r,()) ()⟩
def YA (b:List Int) (d a:Int):Option ((Int×Unit)⊕Int):=
if a<(b.length:Int)then
(atI b a).bind λc=>
if d=c then
some (.inr a)
else
some (.inl (Wq (a+1),()))
else
some (.inr (-1))
def XM (a:List Int) (b:Int):Option Int:=
ZA (λv=>YA a b v.1) ((0:Int),())
def ZJB:Ctr:=D2 (.sl Iq) Iq Iq XM
def Ym (a:List Int) (c:Int):Option Bool:=
(XM a c).bind λb=>
some (decide (0<=b))
def ZHJ:Ctr:=D2 (.sl Iq) Iq (.bool) Ym
def JG (d:List Int) (b:List ZL) (a:List Int) (c:Int):Option (((List Int)×Int×Unit)⊕List Int):=
if c<(b.length:Int)then
(atI b c).bind λf=>
(Ym d (ZL.net f)).bind λe=>
if e then
Zy ((a.length+[Wq ((2:Int)*c),Wq (Wq ((2:Int)*c)+1)].length)*8<=140737488355328)<|
some (.inl (a++[Wq ((2:Int)*c),Wq (Wq ((2:Int)*c)+1)],Wq (c+1),()))
else
some (.inl (a,Wq (c+1),()))
else
some (.inr a)
def ZaJ (a:Zh) (b:Za):Option (List Int):=
(ZaB a b).bind λc=>
(ZH a b).bind λd=>
(ZV (K2 d)).bind λe=>
ZA (λv=>JG c e v.1 v.2.1) (([]:List Int),(0:Int),())
def ZJC:Ctr:=⟨[.dat (XI),.dat (Ya)],[.own (.ol 2 (.flat Iq))],λa K=>Zr a λc a=>Zr a λb a=>Yk (ZaJ c b) λr=>K (r,()) ()⟩
def Zbm (c:ZW) (a:List Int):Option Bool:=
(Xe c).bind λb=>
(Qe a 0 (Wq (b-1))).bind λd=>
if d then
(Jj a).bind λe=>
some e
else
some false
def ZJD:Ctr:=D2 (.ptr (Zlz)) (.sl Iq) (.bool) Zbm
def ZcJ (a:List Bool):Option (List Bool):=
Zy ((([]:List Bool).length+a.length)*1<=140737488355328)<|
some (([]:List Bool)++a)
def ZJE:Ctr:=⟨[.dat (.sl (.bool))],[.own (.ol 4 (.flat (.bool)))],λa K=>Zr a λb a=>Yk (ZcJ b) λr=>K (r,()) ()⟩
def Qn (a:List ZC):Option (List ZC):=
Zy ((([]:List (Int×Int×Unit)).length+a.length)*16<=140737488355328)<|
some (([]:List (Int×Int×Unit))++a)
def ZJF:Ctr:=⟨[.dat (.sl (Zaa))],[.own (.ol 72 (.flat (Zaa)))],λa K=>Zr a λb a=>Yk (Qn b) λr=>K (r,()) ()⟩
def Zd3 (a:Zf):Option Zf:=
(ZcJ (Ga a)).bind λd=>
(Qn (Gx a)).bind λb=>
(Qn (Gv a)).bind λc=>
some (d,b,c,())
def ZJG:Ctr:=⟨[.dat (ZdU)],[.own (ZjK)],λa K=>Zr a λb a=>Yk (Zd3 b) λr=>K (r,()) ()⟩
def VY (a:Int) (e:List Bool) (c:Yc):Option Bool:=
(atI (ZW.links (GO c)) a).bind λd=>
(atI e (Gj d)).bind λb=>
some b
def ZJH:Ctr:=D3 Iq (.ptr (.sl (.bool))) (.ptr (.ptr (Zir))) (.bool) VY
def Y0 (c:List Int) (b:List Bool×Yc×Unit) (a:Int):Option ((Int×Unit)⊕Int):=
if a<(c.length:Int)then
(atI c a).bind λe=>
(VY e b.1 b.2.1).bind λd=>
if d then
some (.inr a)
else
some (.inl (Wq (a+1),()))
else
some (.inr (-1))
def YB (a:List Int) (b:List Bool×Yc×Unit):Option Int:=
ZA (λv=>Y0 a b v.1) ((0:Int),())
def ZJI:Ctr:=D2 (.sl Iq) (.fn 194 (.pair (.ptr (.sl (.bool))) (.pair (.ptr (.ptr (Zir))) (.unit)))) Iq YB
def ZU (a:List Int) (c:List Bool×Yc×Unit):Option Bool:=
(YB a c).bind λb=>
some (decide (0<=b))
def ZJJ:Ctr:=D2 (.sl Iq) (.fn 194 (.pair (.ptr (.sl (.bool))) (.pair (.ptr (.ptr (Zir))) (.unit)))) (.bool) ZU
def X7 (m:Yc) (o:ZB) (q:List Zj) (u p h:List Int) (i:Int) (f:List Bool) (d c:List ZC) (e:List Bool):Option (((List Int)×Int×(List Bool)×(List ZC)×(List ZC)×(List Bool)×Unit)⊕((List Int)×Bool×Zf)):=
if i<(p.length:Int)then
(atI p i).bind λa=>
(Ym u a).bind λr=>
if r then
Zy ((h.length+[a].length)*8<=140737488355328)<|
(Xy m o q (f,d,c,()) a).bind λb=>
if b.1 then
(J7 b.2.2.1).bind λn=>
if n then
(atI f a).bind λl=>
if(b.1==l)=true then
(atI d a).bind λj=>
if(decide (b.2.2.1.1=Gh j)&&decide (b.2.2.1.2.1=Gl j))=true then
(atI c a).bind λg=>
(atI e a).bind λk=>
some (.inl (h++[a],Wq (i+1),List.set f (Int.toNat a) b.1,List.set d (Int.toNat a) b.2.2.1,List.set c (Int.toNat a) b.2.2.2.1,List.set e (Int.toNat a) !(decide (b.2.2.2.1.1=Gh g)&&decide (b.2.2.2.1.2.1=Gl g)),()))
else
(atI e a).bind λg=>
(atI c a).bind λk=>
some (.inl (h++[a],Wq (i+1),List.set f (Int.toNat a) b.1,List.set d (Int.toNat a) b.2.2.1,List.set c (Int.toNat a) b.2.2.2.1,List.set e (Int.toNat a) true,()))
else
(atI e a).bind λj=>
(atI d a).bind λg=>
(atI c a).bind λk=>
some (.inl (h++[a],Wq (i+1),List.set f (Int.toNat a) b.1,List.set d (Int.toNat a) b.2.2.1,List.set c (Int.toNat a) b.2.2.2.1,List.set e (Int.toNat a) true,()))
else
some (.inr (([]:List Int),false,(f,d,c,())))
else
(atI f a).bind λl=>
if(b.1==l)=true then
(atI d a).bind λj=>
if(decide (b.2.2.1.1=Gh j)&&decide (b.2.2.1.2.1=Gl j))=true then
(atI c a).bind λg=>
(atI e a).bind λk=>
some (.inl (h++[a],Wq (i+1),List.set f (Int.toNat a) b.1,List.set d (Int.toNat a) b.2.2.1,List.set c (Int.toNat a) b.2.2.2.1,List.set e (Int.toNat a) !(decide (b.2.2.2.1.1=Gh g)&&decide (b.2.2.2.1.2.1=Gl g)),()))
else
(atI e a).bind λg=>
(atI c a).bind λk=>
some (.inl (h++[a],Wq (i+1),List.set f (Int.toNat a) b.1,List.set d (Int.toNat a) b.2.2.1,List.set c (Int.toNat a) b.2.2.2.1,List.set e (Int.toNat a) true,()))
else
(atI e a).bind λj=>
(atI d a).bind λg=>
(atI c a).bind λk=>
some (.inl (h++[a],Wq (i+1),List.set f (Int.toNat a) b.1,List.set d (Int.toNat a) b.2.2.1,List.set c (Int.toNat a) b.2.2.2.1,List.set e (Int.toNat a) true,()))
else
(ZcF m a).bind λt=>
(ZU t (e,m,())).bind λs=>
if s then
Zy ((h.length+[a].length)*8<=140737488355328)<|
(Xy m o q (f,d,c,()) a).bind λb=>
if b.1 then
(J7 b.2.2.1).bind λn=>
if n then
(atI f a).bind λl=>
if(b.1==l)=true then
(atI d a).bind λj=>
if(decide (b.2.2.1.1=Gh j)&&decide (b.2.2.1.2.1=Gl j))=true then
(atI c a).bind λg=>
(atI e a).bind λk=>
some (.inl (h++[a],Wq (i+1),List.set f (Int.toNat a) b.1,List.set d (Int.toNat a) b.2.2.1,List.set c (Int.toNat a) b.2.2.2.1,List.set e (Int.toNat a) !(decide (b.2.2.2.1.1=Gh g)&&decide (b.2.2.2.1.2.1=Gl g)),()))
else
(atI e a).bind λg=>
(atI c a).bind λk=>
some (.inl (h++[a],Wq (i+1),List.set f (Int.toNat a) b.1,List.set d (Int.toNat a) b.2.2.1,List.set c (Int.toNat a) b.2.2.2.1,List.set e (Int.toNat a) true,()))
else
(atI e a).bind λj=>
(atI d a).bind λg=>
(atI c a).bind λk=>
some (.inl (h++[a],Wq (i+1),List.set f (Int.toNat a) b.1,List.set d (Int.toNat a) b.2.2.1,List.set c (Int.toNat a) b.2.2.2.1,List.set e (Int.toNat a) true,()))
else
some (.inr (([]:List Int),false,(f,d,c,())))
else
(atI f a).bind λl=>
if(b.1==l)=true then
(atI d a).bind λj=>
if(decide (b.2.2.1.1=Gh j)&&decide (b.2.2.1.2.1=Gl j))=true then
(atI c a).bind λg=>
(atI e a).bind λk=>
some (.inl (h++[a],Wq (i+1),List.set f (Int.toNat a) b.1,List.set d (Int.toNat a) b.2.2.1,List.set c (Int.toNat a) b.2.2.2.1,List.set e (Int.toNat a) !(decide (b.2.2.2.1.1=Gh g)&&decide (b.2.2.2.1.2.1=Gl g)),()))
else
(atI e a).bind λg=>
(atI c a).bind λk=>
some (.inl (h++[a],Wq (i+1),List.set f (Int.toNat a) b.1,List.set d (Int.toNat a) b.2.2.1,List.set c (Int.toNat a) b.2.2.2.1,List.set e (Int.toNat a) true,()))
else
(atI e a).bind λj=>
(atI d a).bind λg=>
(atI c a).bind λk=>
some (.inl (h++[a],Wq (i+1),List.set f (Int.toNat a) b.1,List.set d (Int.toNat a) b.2.2.1,List.set c (Int.toNat a) b.2.2.2.1,List.set e (Int.toNat a) true,()))
else
some (.inl (h,Wq (i+1),f,d,c,e,()))
else
some (.inr (h,true,(f,d,c,())))
def Zgy (c:Yc) (d:ZB) (f:List Zj) (b:Zf) (g e:List Int):Option ((List Int)×Bool×Zf):=
(Xe (GO c)).bind λa=>
Zy ((0:Int)<=a)<|
Zy (a<=a)<|
Zy (a<=4611686018427387904)<|
Zy (((1:Nat):Int)*a<=281474976710656)<|
ZA (λv=>X7 c d f g e v.1 v.2.1 v.2.2.1 v.2.2.2.1 v.2.2.2.2.1 v.2.2.2.2.2.1) (([]:List Int),(0:Int),Ga b,Gx b,Gv b,List.replicate (Int.toNat a) false,())
def ZJK:Ctr:=⟨[.dat (.ptr (Zir)),.dat (XR),.dat (.sl (Qo)),.back (ZjK),.dat (.sl Iq),.dat (.sl Iq)],[.own (.ol 2 (.flat Iq)),.dat (.bool)],λa K=>Zr a λb a=>Zr a λc a=>Zr a λe a=>Zr a λf a=>Zr a λg a=>Zr a λd a=>Yk (Zgy b c e f g d) λr=>K (r.1,r.2.1,()) (r.2.2,())⟩
def Zd4 (j:Za) (g:ZB) (c:List Int) (a:List Zj) (h:Zf) (b:List Int):Option (Zf×(List Int)×Int):=
(Q8 j g c a (Option.some h)).bind λd=>
if d.2.2=0 then
(d.1).bind λf=>
(Zbm (GO f) b).bind λk=>
if k then
(Zd3 h).bind λi=>
(Zgy f g a i b d.2.1).bind λe=>
if e.2.1 then
some (e.2.2,e.1,0)
else
some (([],[],[],()),[],3)
else
some (([],[],[],()),[],2)
else
some (([],[],[],()),[],d.2.2)
def ZJL:Ctr:=⟨[.dat (Ya),.dat (XR),.dat (.sl Iq),.dat (.sl (Qo)),.dat (ZdU),.dat (.sl Iq)],[.own (ZjK),.own (.ol 2 (.flat Iq)),.dat Iq],λa K=>Zr a λe a=>Zr a λf a=>Zr a λc a=>Zr a λb a=>Zr a λg a=>Zr a λd a=>Yk (Zd4 e f c b g d) λr=>K (r.1,r.2.1,r.2.2,()) ()⟩
def YV (c:Za) (b:Zh) (i:ZB) (a:List Zj) (j:Zf):Option (Zf×(List Int)×Int):=
(Ji c b a).bind λd=>
if d.2=0 then
(ZeL c b j).bind λf=>
if f.2=0 then
(ZH b c).bind λh=>
(ZaJ b c).bind λg=>
(Zd4 h i (([]:List Int)) d.1 f.1 g).bind λe=>
some (e.1,e.2.1,e.2.2)
else
some (([],[],[],()),[],f.2)
else
some (([],[],[],()),[],d.2)
def ZJM:Ctr:=⟨[.dat (Ya),.dat (XI),.dat (XR),.dat (.sl (Qo)),.dat (ZdU)],[.dat (ZdU),.dat (.sl Iq),.dat Iq],λa K=>Zr a λd a=>Zr a λc a=>Zr a λe a=>Zr a λb a=>Zr a λf a=>Yk (YV d c e b f) λr=>K (r.1,r.2.1,r.2.2,()) ()⟩
def ZaY (a:ZL) (c b:Int):Option Bool:=
if Gt a=c then
some (decide (ZL.pin a=b))
else
some false
def ZJN:Ctr:=D3 (Zk7) (.ptr Iq) (.ptr Iq) (.bool) ZaY
def Yo (c:List ZL) (b:Int×Int×Unit) (a:Int):Option ((Int×Unit)⊕Int):=
if a<(c.length:Int)then
(atI c a).bind λe=>
(ZaY e b.1 b.2.1).bind λd=>
if d then
some (.inr a)
else
some (.inl (Wq (a+1),()))
else
some (.inr (-1))
def Z8 (a:List ZL) (b:Int×Int×Unit):Option Int:=
ZA (λv=>Yo a b v.1) ((0:Int),())
def ZJO:Ctr:=D2 (.sl (Zk7)) (.fn 204 (.pair (.ptr Iq) (.pair (.ptr Iq) (.unit)))) Iq Z8
def ZcB (c:Zb) (a b:Int):Option Int:=
(ZV c).bind λd=>
(Z8 d (a,b,())).bind λe=>
some e
def ZJP:Ctr:=D3 (YN) Iq Iq Iq ZcB
def Xm (a:Zh) (c:Za):Option Zh:=
if K7 a=1 then
(ZV (K2 c)).bind λd=>
(atI d (K9 a)).bind λb=>
(atI (K3 (K2 c)) (Gt b)).bind λi=>
some (1,K9 a,Gr i,0,0,[],([],[],[],[],()),())
else
if K7 a=2 then
some (3,0,0,0,0,[],([],[],[],[],()),())
else
if K7 a=3 then
(ZcS c).bind λe=>
(ZaI e).bind λf=>
(atI (K3 (K2 c)) (Wq (((K3 (K2 c)).length:Int)-1))).bind λb=>
(ZcB f.2.2.1 f.1.1 f.1.2.1).bind λh=>
some (2,h,Gr b,0,0,Gq b,([],[],[],[],()),())
else
if K7 a=4 then
(ZV (K2 c)).bind λd=>
(atI d (K9 a)).bind λb=>
(Vz c).bind λg=>
some (4,K9 a,0,ZL.net b,Option.getD (Zkx ZcQ (Ty.int IntKind.i64) g (Gt b,ZL.pin b,())) (0:Int),[],([],[],[],[],()),())
else
(atI (K4 c) (Gk a)).bind λb=>
(Zb8 b).bind λe=>
some (5,0,0,Gk a,0,[],e,())
def ZJQ:Ctr:=⟨[.dat (XI),.dat (Ya)],[.own (ZtU)],λa K=>Zr a λc a=>Zr a λb a=>Yk (Xm c b) λr=>K (r,()) ()⟩
def ZeJ (a:Za) (c:Zh):Option (Zh×Int):=
(VB a c).bind λb=>
if b=0 then
(Xm c a).bind λd=>
some (d,0)
else
some ((0,0,0,0,0,[],([],[],[],[],()),()),b)
def ZJR:Ctr:=⟨[.dat (Ya),.dat (XI)],[.dat (XI),.dat Iq],λa K=>Zr a λb a=>Zr a λc a=>Yk (ZeJ b c) λr=>K (r.1,r.2,()) ()⟩
def QM (d e:List ZC) (a:Int):Option ((Int×Unit)⊕Bool):=
if a<(d.length:Int)then
(atI d a).bind λc=>
(atI e a).bind λb=>
if(decide (Gh c=Gh b)&&decide (Gl c=Gl b))=true then
some (.inl (Wq (a+1),()))
else
some (.inr false)
else
some (.inr true)
def ZeA (b a:List ZC):Option Bool:=
if(b.length:Int)=(a.length:Int)then
ZA (λv=>QM b a v.1) ((0:Int),())
else
some false
def ZJS:Ctr:=D2 (.sl (Zaa)) (.sl (Zaa)) (.bool) ZeA
def Vg (b e:Zf) (a:Int):Option ((Int×Unit)⊕Bool):=
if a<((Ga b).length:Int)then
(atI (Ga b) a).bind λd=>
(atI (Ga e) a).bind λc=>
if(d==c)=true then
some (.inl (Wq (a+1),()))
else
some (.inr false)
else
some (.inr true)
def VL (a b:Zf):Option Bool:=
if((Ga a).length:Int)=((Ga b).length:Int)then
(ZeA (Gx a) (Gx b)).bind λc=>
if c then
(ZeA (Gv a) (Gv b)).bind λd=>
if d then
ZA (λv=>Vg a b v.1) ((0:Int),())
else
some false
else
some false
else
some false
def ZJT:Ctr:=D2 (ZdU) (ZdU) (.bool) VL
def ZeW (b e:List Int) (a:Int):Option ((Int×Unit)⊕Bool):=
if a<(b.length:Int)then
(atI b a).bind λd=>
(atI e a).bind λc=>
if d=c then
some (.inl (Wq (a+1),()))
else
some (.inr false)
else
some (.inr true)
def Zbp (b a:List Int):Option Bool:=
if(b.length:Int)=(a.length:Int)then
ZA (λv=>ZeW b a v.1) ((0:Int),())
else
some false
def ZHK:Ctr:=D2 (.sl Iq) (.sl Iq) (.bool) Zbp
def ZeX (d e:Zb) (a:Int):Option ((Int×Unit)⊕((Int×Unit)⊕((Int×Unit)⊕Bool))):=
if a<((Ge d).length:Int)then
(atI (Ge d) a).bind λc=>
(atI (Ge e) a).bind λb=>
if(decide (GT c=GT b)&&(decide (GF c=GF b)&&decide (GK c=GK b)))=true then
some (.inl (Wq (a+1),()))
else
some (.inr (.inr (.inr false)))
else
some (.inr (.inr (.inr true)))
def ZeY (b c:Zb) (a:Int):Option ((Int×Unit)⊕((Int×Unit)⊕Bool)):=
if a<((K5 b).length:Int)then
(atI (K5 b) a).bind λe=>
(atI (K5 c) a).bind λd=>
if e=d then
some (.inl (Wq (a+1),()))
else
some (.inr (.inr false))
else
ZA (λv=>ZeX b c v.1) ((0:Int),())
def ZeZ (d e:Zb) (a:Int):Option ((Int×Unit)⊕Bool):=
if a<((K3 d).length:Int)then
(atI (K3 d) a).bind λc=>
(atI (K3 e) a).bind λb=>
if Gq c=Gq b then
if Gr c=Gr b then
(Zbp (Gc c) (Gc b)).bind λf=>
if f then
some (.inl (Wq (a+1),()))
else
some (.inr false)
else
some (.inr false)
else
some (.inr false)
else
ZA (λv=>ZeY d e v.1) ((0:Int),())
def ZhI (b a:Zb):Option Bool:=
if((K3 b).length:Int)=((K3 a).length:Int)then
if((K5 b).length:Int)=((K5 a).length:Int)then
if((Ge b).length:Int)=((Ge a).length:Int)then
ZA (λv=>ZeZ b a v.1) ((0:Int),())
else
some false
else
some false
else
some false
def ZJU:Ctr:=D2 (YN) (YN) (.bool) ZhI
def ZjT (b a:Zq):Option Bool:=
(Zbp (K8 b) (K8 a)).bind λc=>
if c then
(Zbp (GB b) (GB a)).bind λd=>
if d then
(Zbp (GE b) (GE a)).bind λe=>
if e then
(Zbp (Gu b) (Gu a)).bind λf=>
some f
else
some false
else
some false
else
some false
def ZJV:Ctr:=D2 (ZbR) (ZbR) (.bool) ZjT
def ZfS (b f:Za) (a:Int):Option ((Int×Unit)⊕Bool):=
if a<((K4 b).length:Int)then
(atI (K4 b) a).bind λe=>
(atI (K4 f) a).bind λc=>
(ZjT e c).bind λd=>
if d then
some (.inl (Wq (a+1),()))
else
some (.inr false)
else
some (.inr true)
def Zhc (b a:Za):Option Bool:=
(ZhI (K2 b) (K2 a)).bind λc=>
if c then
if((K4 b).length:Int)=((K4 a).length:Int)then
if((Gd (K6 b)).length:Int)=((Gd (K6 a)).length:Int)then
ZA (λv=>ZfS b a v.1) ((0:Int),())
else
some false
else
some false
else
some false
def ZJW:Ctr:=D2 (Ya) (Ya) (.bool) Zhc
def Vo (m:ZB) (a:Zf×Int) (g:List Za) (n:List Zh) (f:List Zj) (b:Int) (h:List Bool) (i j:List ZC):Option (((List Zj)×Int×(List Bool)×(List ZC)×(List ZC)×Unit)⊕(((List Za)×(List Zj)×(List Zh)×Int×(List Bool)×(List ZC)×(List ZC)×Unit)⊕(((List Zj)×Int×Unit)⊕Bool))):=
if 0<=b then
(atI g (Wq (b+1))).bind λe=>
(atI n b).bind λd=>
(YV e d m f (h,i,j,())).bind λc=>
(Ji e d f).bind λk=>
(Zaq e d).bind λl=>
if c.2.2=0 then
if k.2=0 then
if l.2=0 then
(atI g b).bind λq=>
(Zhc l.1 q).bind λp=>
if p then
some (.inl (k.1,Wq (b-1),c.1.1,c.1.2.1,c.1.2.2.1,()))
else
some (.inr (.inr (.inr false)))
else
some (.inr (.inr (.inr false)))
else
some (.inr (.inr (.inr false)))
else
some (.inr (.inr (.inr false)))
else
(VL (h,i,j,()) a.1).bind λo=>
some (.inr (.inr (.inr o)))
def XW (m:ZB) (a:Zf×Int) (g:List Za) (n:List Zh) (f:List Zj) (b:Int) (h:List Bool) (i j:List ZC):Option (((List Zj)×Int×(List Bool)×(List ZC)×(List ZC)×Unit)⊕(((List Za)×(List Zj)×(List Zh)×Int×(List Bool)×(List ZC)×(List ZC)×Unit)⊕(((List Zj)×Int×Unit)⊕Bool))):=
if 0<=b then
(atI g (Wq (b+1))).bind λd=>
(atI n b).bind λe=>
(YV d e m f (h,i,j,())).bind λc=>
(Ji d e f).bind λk=>
(Zaq d e).bind λl=>
if c.2.2=0 then
if k.2=0 then
if l.2=0 then
(atI g b).bind λq=>
(Zhc l.1 q).bind λp=>
if p then
some (.inl (k.1,Wq (b-1),c.1.1,c.1.2.1,c.1.2.2.1,()))
else
some (.inr (.inr (.inr false)))
else
some (.inr (.inr (.inr false)))
else
some (.inr (.inr (.inr false)))
else
some (.inr (.inr (.inr false)))
else
(VL (h,i,j,()) a.1).bind λo=>
some (.inr (.inr (.inr o)))
def QB (d:Za) (s:List Zh) (h:ZB) (a:Zf×Int) (c:List Za) (f:List Zj) (g:List Zh) (q:Int) (k:List Bool) (i j:List ZC):Option (((List Za)×(List Zj)×(List Zh)×Int×(List Bool)×(List ZC)×(List ZC)×Unit)⊕(((List Zj)×Int×Unit)⊕Bool)):=
if q<(s.length:Int)then
(atI c (Wq ((c.length:Int)-1))).bind λe=>
(atI s q).bind λm=>
(Zaq e m).bind λn=>
(YV e m h f (k,i,j,())).bind λo=>
(JA e m).bind λt=>
if n.2=t.2 then
if n.2=0 then
if o.2.2=0 then
(ZeJ e m).bind λp=>
(Ji e m f).bind λr=>
if p.2=0 then
if r.2=0 then
Zy ((c.length+[n.1].length)*120<=140737488355328)<|
Zy ((g.length+[p.1].length)*152<=140737488355328)<|
some (.inl (c++[n.1],r.1,g++[p.1],Wq (q+1),o.1.1,o.1.2.1,o.1.2.2.1,()))
else
some (.inr (.inr false))
else
some (.inr (.inr false))
else
(XV e h (([]:List Int)) f).bind λb=>
if b.2=0 then
(VL b.1 (k,i,j,())).bind λl=>
if l then
if(b.1.1.length:Int)=0 then
if((K4 d).length:Int)=0 then
some (.inr (.inr (decide (b.2=0))))
else
some (.inr (.inr false))
else
ZA (λv=>Vo h a c g v.1 v.2.1 v.2.2.1 v.2.2.2.1 v.2.2.2.2.1) (f,Wq ((g.length:Int)-1),k,i,j,())
else
if((K4 d).length:Int)=0 then
some (.inr (.inr (decide (b.2=0))))
else
some (.inr (.inr false))
else
if((K4 d).length:Int)=0 then
some (.inr (.inr (decide (b.2=0))))
else
some (.inr (.inr false))
else
(XV e h (([]:List Int)) f).bind λb=>
if b.2=0 then
(VL b.1 (k,i,j,())).bind λl=>
if l then
if(b.1.1.length:Int)=0 then
if((K4 d).length:Int)=0 then
some (.inr (.inr (decide (b.2=0))))
else
some (.inr (.inr false))
else
ZA (λv=>Vo h a c g v.1 v.2.1 v.2.2.1 v.2.2.2.1 v.2.2.2.2.1) (f,Wq ((g.length:Int)-1),k,i,j,())
else
if((K4 d).length:Int)=0 then
some (.inr (.inr (decide (b.2=0))))
else
some (.inr (.inr false))
else
if((K4 d).length:Int)=0 then
some (.inr (.inr (decide (b.2=0))))
else
some (.inr (.inr false))
else
some (.inr (.inr false))
else
(atI c (Wq ((c.length:Int)-1))).bind λe=>
(XV e h (([]:List Int)) f).bind λb=>
if b.2=0 then
(VL b.1 (k,i,j,())).bind λl=>
if l then
if(b.1.1.length:Int)=0 then
if((K4 d).length:Int)=0 then
some (.inr (.inr (decide (b.2=0))))
else
some (.inr (.inr false))
else
ZA (λv=>XW h a c g v.1 v.2.1 v.2.2.1 v.2.2.2.1 v.2.2.2.2.1) (f,Wq ((g.length:Int)-1),k,i,j,())
else
if((K4 d).length:Int)=0 then
some (.inr (.inr (decide (b.2=0))))
else
some (.inr (.inr false))
else
if((K4 d).length:Int)=0 then
some (.inr (.inr (decide (b.2=0))))
else
some (.inr (.inr false))
def Jl (a:Za) (i:List Zh) (e:ZB) (d:List Zj) (b:Int):Option (((List Zj)×Int×Unit)⊕Bool):=
(Zcg (K6 a) (K2 a)).bind λf=>
if b<f then
(Zf1 (K6 a) (K2 a) b).bind λj=>
if j.1=(-1)then
(Zf4 (K6 a) (K2 a) b).bind λk=>
(ZhK (K6 a) (K2 a) k).bind λh=>
if h=b then
Zy ((d.length+[(Wq ((2:Int)*b),((5:Int),(9:Int),()),((0:Int),(0:Int),()),()),(Wq (Wq ((2:Int)*b)+1),((3:Int),(8:Int),()),((0:Int),(0:Int),()),())].length)*40<=140737488355328)<|
some (.inl (d++[(Wq ((2:Int)*b),((5:Int),(9:Int),()),((0:Int),(0:Int),()),()),(Wq (Wq ((2:Int)*b)+1),((3:Int),(8:Int),()),((0:Int),(0:Int),()),())],Wq (b+1),()))
else
some (.inl (d,Wq (b+1),()))
else
some (.inl (d,Wq (b+1),()))
else
(XV a e (([]:List Int)) d).bind λc=>
(Y2 a e (([]:List Int)) d).bind λg=>
if c.2=g.2 then
if c.2=0 then
ZA (λv=>QB a i e c v.1 v.2.1 v.2.2.1 v.2.2.2.1 v.2.2.2.2.1 v.2.2.2.2.2.1 v.2.2.2.2.2.2.1) ([a],d,([]:List (Int×Int×Int×Int×Int×List UInt8×Zq×Unit)),(0:Int),c.1.1,c.1.2.1,c.1.2.2.1,())
else
some (.inr (decide ((c.1.1.length:Int)=0)))
else
some (.inr false)
def ZeV (c:Za) (b:List Zh) (a:ZB):Option Bool:=
ZA (λv=>Jl c b a v.1 v.2.1) (([]:List (Int×ZC×ZC×Unit)),(0:Int),())
def ZJX:Ctr:=D3 (Ya) (.sl (XI)) (XR) (.bool) ZeV
def Zji (a:List Int):Option Bool:=
(ZsL a).bind λc=>
if c then
some true
else
(ZcK a).bind λb=>
(ZnP a 5).bind λf=>
(Jc f).bind λe=>
(ZeV b.1 b.2 e.2.2.1).bind λd=>
some d
def Zom:Ctr:=⟨[.dat (.sl (.int .u8))],[.dat (.bool)],λa K=>Zr a λb a=>Yk (Zji b) λr=>K (r,()) ()⟩
def ZOg (a:ZDG):Option (Int×ZDG):=
if((Hc a).length:Int)=0 then
some (0,a)
else
(atI (Hc a) 0).bind λb=>
Zy ((1:Int)<=((Hc a).length:Int))<|
Zy (((Hc a).length:Int)<=((Hc a).length:Int))<|
some (Wq b,(List.take (Int.toNat ((Hc a).length:Int)-Int.toNat 1) (List.drop (Int.toNat 1) (Hc a)),()))
def ZP0:Ctr:=⟨[.io (.flat (ZG5))],[.dat Iq],λa K=>Zr a λb a=>Yk (ZOg b) λr=>K (r.1,()) (r.2,())⟩
def ZOe (d:ZDG):Option (Int×ZDG):=
(ZOg d).bind λa=>
if a.1=255 then
(ZOg a.2).bind λb=>
(ZOg b.2).bind λc=>
some (Wq (Wq (256*b.1)+c.1),c.2)
else
some (a.1,a.2)
def ZPM:Ctr:=⟨[.io (.flat (ZG5))],[.dat Iq],λa K=>Zr a λb a=>Yk (ZOe b) λr=>K (r.1,()) (r.2,())⟩
def ZOr (a:List Int) (c:Int) (d:List Int):Option (((List Int)×Int×(List Int)×Unit)⊕((List UInt8)×ZDG)):=
if 0<c then
(ZOg (d,())).bind λb=>
Zy ((a.length+[IntKind.wrap IntKind.u8 b.1].length)*1<=140737488355328)<|
some (.inl (a++[IntKind.wrap IntKind.u8 b.1],Wq (c-1),b.2.1,()))
else
some (.inr (bytesOf a,(d,())))
def ZOf (b:ZDG):Option ((List UInt8)×ZDG):=
(ZOe b).bind λa=>
ZA (λv=>ZOr v.1 v.2.1 v.2.2.1) (([]:List Int),a.1,a.2.1,())
def ZPV:Ctr:=⟨[.io (.flat (ZG5))],[.dat (.str)],λa K=>Zr a λb a=>Yk (ZOf b) λr=>K (r.1,()) (r.2,())⟩
def ZOn (b a:Int) (d:List Int):Option ((Int×Int×(List Int)×Unit)⊕(Int×ZDG)):=
if a<8 then
(ZOg (d,())).bind λc=>
some (.inl (IntKind.wrap IntKind.u64 (IntKind.wrap IntKind.u64 (b*2^Min.min (Int.toNat 8) (IntKind.bits IntKind.u64))+IntKind.wrap IntKind.u64 c.1),Wq (a+1),c.2.1,()))
else
some (.inr (Wq b,(d,())))
def ZOb (b:ZDG):Option (Int×ZDG):=
(ZOg b).bind λa=>
if a.1<250 then
some (Wq (a.1-1),a.2)
else
ZA (λv=>ZOn v.1 v.2.1 v.2.2.1) ((0:Int),(0:Int),a.2.1,())
def ZPU:Ctr:=⟨[.io (.flat (ZG5))],[.dat Iq],λa K=>Zr a λb a=>Yk (ZOb b) λr=>K (r.1,()) (r.2,())⟩
def ZOL (e:ZDG):Option (XT×ZDG):=
(ZOf e).bind λa=>
(ZOb a.2).bind λb=>
(ZOb b.2).bind λc=>
(ZOg c.2).bind λd=>
some ((a.1,b.1,c.1,decide (Int.tmod d.1 2=1),()),d.2)
def ZP5:Ctr:=⟨[.io (.flat (ZG5))],[.dat (Znm)],λa K=>Zr a λb a=>Yk (ZOL b) λr=>K (r.1,()) (r.2,())⟩
def ZOU (a:List XT) (c:Int) (d:List Int):Option (((List XT)×Int×(List Int)×Unit)⊕((List XT)×ZDG)):=
if 0<c then
(ZOL (d,())).bind λb=>
Zy ((a.length+[b.1].length)*40<=140737488355328)<|
some (.inl (a++[b.1],Wq (c-1),b.2.1,()))
else
some (.inr (a,(d,())))
def ZOv (b:ZDG):Option ((List XT)×ZDG):=
(ZOe b).bind λa=>
ZA (λv=>ZOU v.1 v.2.1 v.2.2.1) (([]:List (List UInt8×Int×Int×Bool×Unit)),a.1,a.2.1,())
def ZP6:Ctr:=⟨[.io (.flat (ZG5))],[.own (.ol 277 (.flat (Znm)))],λa K=>Zr a λb a=>Yk (ZOv b) λr=>K (r.1,()) (r.2,())⟩
def ZON (a:List Int) (c:Int) (d:List Int):Option (((List Int)×Int×(List Int)×Unit)⊕((List Int)×ZDG)):=
if 0<c then
(ZOb (d,())).bind λb=>
Zy ((a.length+[b.1].length)*8<=140737488355328)<|
some (.inl (a++[b.1],Wq (c-1),b.2.1,()))
else
some (.inr (a,(d,())))
def ZOd (b:ZDG):Option ((List Int)×ZDG):=
(ZOe b).bind λa=>
ZA (λv=>ZON v.1 v.2.1 v.2.2.1) (([]:List Int),a.1,a.2.1,())
def ZP1:Ctr:=⟨[.io (.flat (ZG5))],[.own (.ol 2 (.flat Iq))],λa K=>Zr a λb a=>Yk (ZOd b) λr=>K (r.1,()) (r.2,())⟩
def ZOw (d:ZDG):Option (ZE×ZDG):=
(ZOd d).bind λc=>
(ZOd c.2).bind λa=>
(ZOd a.2).bind λb=>
some ((c.1,a.1,b.1,()),b.2)
def ZP7:Ctr:=⟨[.io (.flat (ZG5))],[.own (ZkH)],λa K=>Zr a λb a=>Yk (ZOw b) λr=>K (r.1,()) (r.2,())⟩
def ZOO (a:List ZE) (c:Int) (d:List Int):Option (((List ZE)×Int×(List Int)×Unit)⊕((List ZE)×ZDG)):=
if 0<c then
(ZOw (d,())).bind λb=>
Zy ((a.length+[b.1].length)*72<=140737488355328)<|
some (.inl (a++[b.1],Wq (c-1),b.2.1,()))
else
some (.inr (a,(d,())))
def ZOh (b:ZDG):Option ((List ZE)×ZDG):=
(ZOe b).bind λa=>
ZA (λv=>ZOO v.1 v.2.1 v.2.2.1) (([]:List ZE),a.1,a.2.1,())
def ZP8:Ctr:=⟨[.io (.flat (ZG5))],[.own (.ol 330 (ZkH))],λa K=>Zr a λb a=>Yk (ZOh b) λr=>K (r.1,()) (r.2,())⟩
def ZOK (g:ZDG):Option (ZK×ZDG):=
(ZOb g).bind λa=>
(ZOb a.2).bind λe=>
(ZOb e.2).bind λf=>
(ZOb f.2).bind λd=>
(ZOh d.2).bind λc=>
(ZOh c.2).bind λb=>
some ((a.1,e.1,f.1,d.1,c.1,b.1,()),b.2)
def ZP9:Ctr:=⟨[.io (.flat (ZG5))],[.own (ZDQ)],λa K=>Zr a λb a=>Yk (ZOK b) λr=>K (r.1,()) (r.2,())⟩
def ZOT (a:List ZK) (c:Int) (d:List Int):Option (((List ZK)×Int×(List Int)×Unit)⊕((List ZK)×ZDG)):=
if 0<c then
(ZOK (d,())).bind λb=>
Zy ((a.length+[b.1].length)*80<=140737488355328)<|
some (.inl (a++[b.1],Wq (c-1),b.2.1,()))
else
some (.inr (a,(d,())))
def ZOu (b:ZDG):Option ((List ZK)×ZDG):=
(ZOe b).bind λa=>
ZA (λv=>ZOT v.1 v.2.1 v.2.2.1) (([]:List ZK),a.1,a.2.1,())
def ZQa:Ctr:=⟨[.io (.flat (ZG5))],[.own (.ol 186 (ZDQ))],λa K=>Zr a λb a=>Yk (ZOu b) λr=>K (r.1,()) (r.2,())⟩
def ZOA (h:ZDG):Option (Zo×ZDG):=
(ZOf h).bind λa=>
(ZOb a.2).bind λf=>
(ZOv f.2).bind λg=>
(ZOu g.2).bind λd=>
(ZOd d.2).bind λc=>
(ZOb c.2).bind λb=>
(ZOb b.2).bind λe=>
some ((a.1,f.1,g.1,d.1,c.1,b.1,e.1,()),e.2)
def ZQb:Ctr:=⟨[.io (.flat (ZG5))],[.own (Zsl)],λa K=>Zr a λb a=>Yk (ZOA b) λr=>K (r.1,()) (r.2,())⟩
def ZOP (a:List Zo) (c:Int) (d:List Int):Option (((List Zo)×Int×(List Int)×Unit)⊕((List Zo)×ZDG)):=
if 0<c then
(ZOA (d,())).bind λb=>
Zy ((a.length+[b.1].length)*112<=140737488355328)<|
some (.inl (a++[b.1],Wq (c-1),b.2.1,()))
else
some (.inr (a,(d,())))
def ZOC (b:ZDG):Option ((List Zo)×ZDG):=
(ZOe b).bind λa=>
ZA (λv=>ZOP v.1 v.2.1 v.2.2.1) (([]:List Zo),a.1,a.2.1,())
def ZQc:Ctr:=⟨[.io (.flat (ZG5))],[.own (.ol 183 (Zsl))],λa K=>Zr a λb a=>Yk (ZOC b) λr=>K (r.1,()) (r.2,())⟩
def ZOt (b:ZDG):Option (Zu×ZDG):=
(ZOC b).bind λa=>
some ((a.1,()),a.2)
def ZQd:Ctr:=⟨[.io (.flat (ZG5))],[.own (Zpb)],λa K=>Zr a λb a=>Yk (ZOt b) λr=>K (r.1,()) (r.2,())⟩
def ZOj (d:ZDG):Option (Zd×ZDG):=
(ZOf d).bind λc=>
(ZOb c.2).bind λa=>
(ZOd a.2).bind λb=>
some ((c.1,a.1,b.1,()),b.2)
def ZQe:Ctr:=⟨[.io (.flat (ZG5))],[.own (Zh6)],λa K=>Zr a λb a=>Yk (ZOj b) λr=>K (r.1,()) (r.2,())⟩
def ZOI (a:List Zd) (c:Int) (d:List Int):Option (((List Zd)×Int×(List Int)×Unit)⊕((List Zd)×ZDG)):=
if 0<c then
(ZOj (d,())).bind λb=>
Zy ((a.length+[b.1].length)*48<=140737488355328)<|
some (.inl (a++[b.1],Wq (c-1),b.2.1,()))
else
some (.inr (a,(d,())))
def ZOm (b:ZDG):Option ((List Zd)×ZDG):=
(ZOe b).bind λa=>
ZA (λv=>ZOI v.1 v.2.1 v.2.2.1) (([]:List Zd),a.1,a.2.1,())
def ZQf:Ctr:=⟨[.io (.flat (ZG5))],[.own (.ol 105 (Zh6))],λa K=>Zr a λb a=>Yk (ZOm b) λr=>K (r.1,()) (r.2,())⟩
def ZOM (a:List (List UInt8)) (c:Int) (d:List Int):Option (((List (List UInt8))×Int×(List Int)×Unit)⊕((List (List UInt8))×ZDG)):=
if 0<c then
(ZOf (d,())).bind λb=>
Zy ((a.length+[b.1].length)*16<=140737488355328)<|
some (.inl (a++[b.1],Wq (c-1),b.2.1,()))
else
some (.inr (a,(d,())))
def ZOq (b:ZDG):Option ((List (List UInt8))×ZDG):=
(ZOe b).bind λa=>
ZA (λv=>ZOM v.1 v.2.1 v.2.2.1) (([]:List (List UInt8)),a.1,a.2.1,())
def ZQg:Ctr:=⟨[.io (.flat (ZG5))],[.own (.ol 9 (.flat (.str)))],λa K=>Zr a λb a=>Yk (ZOq b) λr=>K (r.1,()) (r.2,())⟩
def ZOF (d:ZDG):Option (Z6×ZDG):=
(ZOf d).bind λc=>
(ZOb c.2).bind λa=>
(ZOb a.2).bind λb=>
some ((c.1,a.1,b.1,()),b.2)
def ZQh:Ctr:=⟨[.io (.flat (ZG5))],[.dat (Zo7)],λa K=>Zr a λb a=>Yk (ZOF b) λr=>K (r.1,()) (r.2,())⟩
def ZOR (a:List Z6) (c:Int) (d:List Int):Option (((List Z6)×Int×(List Int)×Unit)⊕((List Z6)×ZDG)):=
if 0<c then
(ZOF (d,())).bind λb=>
Zy ((a.length+[b.1].length)*32<=140737488355328)<|
some (.inl (a++[b.1],Wq (c-1),b.2.1,()))
else
some (.inr (a,(d,())))
def ZOD (b:ZDG):Option ((List Z6)×ZDG):=
(ZOe b).bind λa=>
ZA (λv=>ZOR v.1 v.2.1 v.2.2.1) (([]:List (List UInt8×Int×Int×Unit)),a.1,a.2.1,())
def ZQi:Ctr:=⟨[.io (.flat (ZG5))],[.own (.ol 99 (.flat (Zo7)))],λa K=>Zr a λb a=>Yk (ZOD b) λr=>K (r.1,()) (r.2,())⟩
def ZOy (d:ZDG):Option (Zb×ZDG):=
(ZOm d).bind λc=>
(ZOq c.2).bind λa=>
(ZOD a.2).bind λb=>
some ((c.1,a.1,b.1,()),b.2)
def ZQj:Ctr:=⟨[.io (.flat (ZG5))],[.own (ZpA)],λa K=>Zr a λb a=>Yk (ZOy b) λr=>K (r.1,()) (r.2,())⟩
def ZOs (e:ZDG):Option (Zq×ZDG):=
(ZOd e).bind λa=>
(ZOd a.2).bind λb=>
(ZOd b.2).bind λc=>
(ZOd c.2).bind λd=>
some ((a.1,b.1,c.1,d.1,()),d.2)
def ZP2:Ctr:=⟨[.io (.flat (ZG5))],[.own (ZoN)],λa K=>Zr a λb a=>Yk (ZOs b) λr=>K (r.1,()) (r.2,())⟩
def ZOS (a:List Zq) (c:Int) (d:List Int):Option (((List Zq)×Int×(List Int)×Unit)⊕((List Zq)×ZDG)):=
if 0<c then
(ZOs (d,())).bind λb=>
Zy ((a.length+[b.1].length)*96<=140737488355328)<|
some (.inl (a++[b.1],Wq (c-1),b.2.1,()))
else
some (.inr (a,(d,())))
def ZOE (b:ZDG):Option ((List Zq)×ZDG):=
(ZOe b).bind λa=>
ZA (λv=>ZOS v.1 v.2.1 v.2.2.1) (([]:List Zq),a.1,a.2.1,())
def ZQk:Ctr:=⟨[.io (.flat (ZG5))],[.own (.ol 40 (ZoN))],λa K=>Zr a λb a=>Yk (ZOE b) λr=>K (r.1,()) (r.2,())⟩
def ZOH (d:ZDG):Option (Za×ZDG):=
(ZOt d).bind λc=>
(ZOy c.2).bind λa=>
(ZOE a.2).bind λb=>
some ((c.1,a.1,b.1,()),b.2)
def ZQl:Ctr:=⟨[.io (.flat (ZG5))],[.own (Zex)],λa K=>Zr a λb a=>Yk (ZOH b) λr=>K (r.1,()) (r.2,())⟩
def ZOB (h:ZDG):Option (Zh×ZDG):=
(ZOb h).bind λa=>
(ZOb a.2).bind λf=>
(ZOb f.2).bind λg=>
(ZOb g.2).bind λd=>
(ZOb d.2).bind λc=>
(ZOf c.2).bind λb=>
(ZOs b.2).bind λe=>
some ((a.1,f.1,g.1,d.1,c.1,b.1,e.1,()),e.2)
def ZQm:Ctr:=⟨[.io (.flat (ZG5))],[.own (ZtU)],λa K=>Zr a λb a=>Yk (ZOB b) λr=>K (r.1,()) (r.2,())⟩
def ZOQ (a:List Zh) (c:Int) (d:List Int):Option (((List Zh)×Int×(List Int)×Unit)⊕((List Zh)×ZDG)):=
if 0<c then
(ZOB (d,())).bind λb=>
Zy ((a.length+[b.1].length)*152<=140737488355328)<|
some (.inl (a++[b.1],Wq (c-1),b.2.1,()))
else
some (.inr (a,(d,())))
def ZOp (b:ZDG):Option ((List Zh)×ZDG):=
(ZOe b).bind λa=>
ZA (λv=>ZOQ v.1 v.2.1 v.2.2.1) (([]:List Zh),a.1,a.2.1,())
def ZQn:Ctr:=⟨[.io (.flat (ZG5))],[.own (.ol 42 (ZtU))],λa K=>Zr a λb a=>Yk (ZOp b) λr=>K (r.1,()) (r.2,())⟩
def ZOx (f:ZDG):Option (ZB×ZDG):=
(ZOf f).bind λa=>
(ZOb a.2).bind λd=>
(ZOb d.2).bind λe=>
(ZOb e.2).bind λc=>
(ZOb c.2).bind λb=>
some ((a.1,d.1,e.1,c.1,b.1,()),b.2)
def ZQo:Ctr:=⟨[.io (.flat (ZG5))],[.dat (XR)],λa K=>Zr a λb a=>Yk (ZOx b) λr=>K (r.1,()) (r.2,())⟩
def ZOi (a:List Int):Option Bool:=
if 1048576<(a.length:Int)then
some true
else
if(a.length:Int)=0 then
(Zji a).bind λb=>
some b
else
(atI a 0).bind λg=>
if g<128 then
(Zji a).bind λb=>
some b
else
Zy ((1:Int)<=(a.length:Int))<|
Zy ((a.length:Int)<=(a.length:Int))<|
(ZOH (List.take (Int.toNat (a.length:Int)-Int.toNat 1) (List.drop (Int.toNat 1) a),())).bind λc=>
(ZOp c.2).bind λd=>
(ZOx d.2).bind λf=>
(ZeV c.1 d.1 f.1).bind λe=>
some e
def ZOJ:Ctr:=⟨[.dat (.sl (.int .u8))],[.dat (.bool)],λa K=>Zr a λb a=>Yk (ZOi b) λr=>K (r,()) ()⟩
end
end Go.Proofs.YtoijdogpgpbddaaGreatDoor
