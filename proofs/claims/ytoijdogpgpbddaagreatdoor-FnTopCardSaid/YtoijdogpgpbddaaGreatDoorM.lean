/-
 The models of the functions and their contracts. Printed by program.
-/
import Derived.KernelRfl
import Derived.Test.YtoijdogpgpbddaaGreatDoorSxTab
import Derived.Test.YtoijdogpgpbddaaGreatDoorSxS0
import Derived.Test.YtoijdogpgpbddaaGreatDoorSxLib
import Derived.Test.YtoijdogpgpbddaaGreatDoorSxLibS
namespace Go.Proofs.YtoijdogpgpbddaaGreatDoor
open Go Go.Sx
set_option maxRecDepth 100000
set_option maxHeartbeats 100000000
set_option linter.unusedVariables false
set_option linter.unusedSimpArgs false
noncomputable section
theorem Hc {Δ:Tab} (hΔ:Δ.ok Tryz.prog) {Γ:Gam} (hΓ:Γ.ok Tryz.prog) (A:Ann) {f:FuncId} {fn:Func} (hf:Tryz.prog.funcs[f]?=some fn) {C:Ctr} (hv:∀vs K,C.tr vs K->fnK Δ Γ A C fn vs K) (h1:(fn.name == "runtime.NumGoroutine")=false:=by kernel_rfl) (h2:fn.body.isNone=false:=by kernel_rfl):Zc Tryz.prog f C:=Zi hΔ hΓ mixed A hf h1 h2 hv
abbrev Iq:Ty:=.int .i64
abbrev Wq:=IntKind.wrap IntKind.i64
abbrev Sq:=Zc Tryz.prog
theorem Bq {α β:Type} (x:α) (f:α->Option β):(some x).bind f=f x:=rfl
def ZsL (a:List Int):Option Bool:=
some (decide (4096<(a.length:Int)))
def c0:Ctr:=D1 (.sl (.int .u8)) (.bool) ZsL
def Zf5 (a:List Int) (b c:Int):Option ((Int×Int×Unit)⊕Zm):=
if b<(a.length:Int)then
if b<64 then
(atI a b).bind λd=>
some (.inl (Wq (b+1),Int.tmod (Wq (Wq (c*31)+Wq d)) 2147483647,()))
else
some (.inr (a,0,c,()))
else
some (.inr (a,0,c,()))
def Zfu (a:List Int):Option Zm:=
ZA (λv=>Zf5 a v.1 v.2.1) ((0:Int),(12345:Int),())
def c1:Ctr:=⟨[.dat (.sl (.int .u8))],[.io (.flat (XY))],λa K=>Zr a λb a=>Yk (Zfu b) λr=>K (r,()) ()⟩
def Zl (a:Zm) (b:Int):Option (Int×Zm):=
if b<=1 then
some (0,a)
else
if Zm.at a<((G8 a).length:Int)then
(atI (G8 a) (Zm.at a)).bind λc=>
if b<=256 then
Zy (b≠0)<|
some (Int.tmod (Wq c) b,(G8 a,Wq (Zm.at a+1),a.2.2))
else
Zy (b≠0)<|
some (Int.tmod (Int.tmod (Wq (Wq (Wq (GU a*48271)+Wq c)+1)) 2147483647) b,(G8 a,Wq (Zm.at a+1),Int.tmod (Wq (Wq (Wq (GU a*48271)+Wq c)+1)) 2147483647,()))
else
Zy (b≠0)<|
some (Int.tmod (Wq (Int.tdiv (Int.tmod (Wq (Wq (GU a*48271)+11)) 2147483647) 7)) b,(G8 a,Zm.at a,Int.tmod (Wq (Wq (GU a*48271)+11)) 2147483647,()))
def c2:Ctr:=⟨[.io (.flat (XY)),.dat Iq],[.dat Iq],λa K=>Zr a λc a=>Zr a λb a=>Yk (Zl c b) λr=>K (r.1,()) (r.2,())⟩
def Ze5 (f:Zo) (d:Int) (b a:Bool) (c:Int):Option ((Bool×Bool×Int×Unit)⊕Int):=
if c<((GD f).length:Int)then
if Go.bits Go.BinOp.and IntKind.i64 c (Wq (1*2^Min.min (Int.toNat (IntKind.wrap IntKind.u64 d)) (IntKind.bits IntKind.i64)))=0 then
if b then
if a then
some (.inl (true,true,Wq (c+1),()))
else
(atI (GD f) c).bind λg=>
(atI (GD f) (Wq (c+Wq (1*2^Min.min (Int.toNat (IntKind.wrap IntKind.u64 d)) (IntKind.bits IntKind.i64))))).bind λe=>
some (.inl (true,decide (e<g),Wq (c+1),()))
else
(atI (GD f) c).bind λg=>
(atI (GD f) (Wq (c+Wq (1*2^Min.min (Int.toNat (IntKind.wrap IntKind.u64 d)) (IntKind.bits IntKind.i64))))).bind λe=>
if a then
some (.inl (decide (g<e),true,Wq (c+1),()))
else
some (.inl (decide (g<e),decide (e<g),Wq (c+1),()))
else
some (.inl (b,a,Wq (c+1),()))
else
if b then
if a then
some (.inr 3)
else
if b then
some (.inr 1)
else
if a then
some (.inr 2)
else
some (.inr 0)
else
if b then
some (.inr 1)
else
if a then
some (.inr 2)
else
some (.inr 0)
def Zgc (b:Zo) (a:Int):Option Int:=
Zy ((0:Int)<=IntKind.wrap IntKind.u64 a)<|
ZA (λv=>Ze5 b a v.1 v.2.1 v.2.2.1) (false,false,(0:Int),())
def c3:Ctr:=D2 (Zcq) Iq Iq Zgc
def Zdg (d:Int) (a:List Int) (b e:Int) (g:List Int) (h f:Int):Option (((List Int)×Int×Int×(List Int)×Int×Int×Unit)⊕((List Int)×Zm)):=
if 0<e then
Zy ((a.length+[b].length)*8<=140737488355328)<|
(Zl (g,h,f,()) d).bind λc=>
some (.inl (a++[b],Wq (Wq (b+1)+c.1),Wq (e-1),c.2.1,c.2.2.1,c.2.2.2.1,()))
else
some (.inr (a,(g,h,f,())))
def Zc1 (d:Zm) (a:Int):Option ((List Int)×Zm):=
(Zl d a).bind λc=>
(Zl c.2 3).bind λb=>
ZA (λv=>Zdg a v.1 v.2.1 v.2.2.1 v.2.2.2.1 v.2.2.2.2.1 v.2.2.2.2.2.1) (([]:List Int),c.1,Wq ((1:Int)+b.1),b.2.1,b.2.2.1,b.2.2.2.1,())
def c4:Ctr:=⟨[.io (.flat (XY)),.dat Iq],[.own (.ol 2 (.flat Iq))],λa K=>Zr a λc a=>Zr a λb a=>Yk (Zc1 c b) λr=>K (r.1,()) (r.2,())⟩
def Zf8 (g:Int) (b a:List Int×Zm) (e:List Int) (f:Int) (j:List Int) (k l:Int):Option (((List Int)×Int×(List Int)×Int×Int×Unit)⊕(ZE×Zm)):=
if f<Wq ((b.1.length:Int)*(a.1.length:Int))then
(Zl (j,k,l,()) 10).bind λd=>
Zy ((a.1.length:Int)≠0)<|
if 0<Int.tmod f (a.1.length:Int)then
(atI e (Wq (f-1))).bind λh=>
(Zl d.2 20).bind λc=>
if(a.1.length:Int)<=f then
(atI e (Wq (f-(a.1.length:Int)))).bind λm=>
(Zl c.2 20).bind λi=>
Zy ((e.length+[Max.max (Max.max (Wq (g+d.1)) (Wq (h+c.1))) (Wq (m+i.1))].length)*8<=140737488355328)<|
some (.inl (e++[Max.max (Max.max (Wq (g+d.1)) (Wq (h+c.1))) (Wq (m+i.1))],Wq (f+1),i.2.1,i.2.2.1,i.2.2.2.1,()))
else
Zy ((e.length+[Max.max (Wq (g+d.1)) (Wq (h+c.1))].length)*8<=140737488355328)<|
some (.inl (e++[Max.max (Wq (g+d.1)) (Wq (h+c.1))],Wq (f+1),c.2.1,c.2.2.1,c.2.2.2.1,()))
else
if(a.1.length:Int)<=f then
(atI e (Wq (f-(a.1.length:Int)))).bind λh=>
(Zl d.2 20).bind λc=>
Zy ((e.length+[Max.max (Wq (g+d.1)) (Wq (h+c.1))].length)*8<=140737488355328)<|
some (.inl (e++[Max.max (Wq (g+d.1)) (Wq (h+c.1))],Wq (f+1),c.2.1,c.2.2.1,c.2.2.2.1,()))
else
Zy ((e.length+[Wq (g+d.1)].length)*8<=140737488355328)<|
some (.inl (e++[Wq (g+d.1)],Wq (f+1),d.2.1,d.2.2.1,d.2.2.2.1,()))
else
some (.inr ((b.1,a.1,e,()),(j,k,l,())))
def Zhg (d:Zm) (c:Int):Option (ZE×Zm):=
(Zc1 d 60).bind λb=>
(Zc1 b.2 40).bind λa=>
ZA (λv=>Zf8 c b a v.1 v.2.1 v.2.2.1 v.2.2.2.1 v.2.2.2.2.1) (([]:List Int),(0:Int),a.2.1,a.2.2.1,a.2.2.2.1,())
def c5:Ctr:=⟨[.io (.flat (XY)),.dat Iq],[.own (ZkH)],λa K=>Zr a λc a=>Zr a λb a=>Yk (Zhg c b) λr=>K (r.1,()) (r.2,())⟩
def JY (d:Zm) (a:Int):Option ((List ZE)×Zm):=
(Zhg d a).bind λc=>
(Zhg c.2 a).bind λb=>
some ([c.1,b.1],b.2)
def c6:Ctr:=⟨[.io (.flat (XY)),.dat Iq],[.own (.ol 330 (ZkH))],λa K=>Zr a λc a=>Zr a λb a=>Yk (JY c b) λr=>K (r.1,()) (r.2,())⟩
def JK (h:Zm) (a b f e:Int):Option (ZK×Zm):=
if 4<=a then
(Zl h 10).bind λd=>
(JY d.2 (Wq (5-d.1))).bind λc=>
some ((a,b,f,0,c.1,[],()),c.2)
else
(Zl h 20).bind λd=>
(JY d.2 (Wq (5+d.1))).bind λc=>
(JY c.2 10).bind λg=>
some ((a,b,f,e,c.1,g.1,()),g.2)
def c7:Ctr:=⟨[.io (.flat (XY)),.dat Iq,.dat Iq,.dat Iq,.dat Iq],[.own (ZDQ)],λa K=>Zr a λf a=>Zr a λc a=>Zr a λd a=>Zr a λe a=>Zr a λb a=>Yk (JK f c d e b) λr=>K (r.1,()) (r.2,())⟩
def Zf9 (l:List UInt8) (k:List Int) (b a:Int×Zm) (e:List XT) (f:List ZK) (d:Int) (h:List Int) (g i:Int):Option (((List ZK)×Int×(List Int)×Int×Int×Unit)⊕(((List XT)×Int×(List Int)×Int×Int×Unit)⊕(Zo×Zm))):=
if d<(e.length:Int)then
(Zgc (l,(1:Int),e++[([(121:UInt8)],(2:Int),(0:Int),false,())],([]:List ZK),k,b.1,a.1,()) d).bind λj=>
if j=0 then
some (.inl (f,Wq (d+1),h,g,i,()))
else
(JK (h,g,i,()) 1 d (e.length:Int) j).bind λc=>
Zy ((f.length+[c.1].length)*80<=140737488355328)<|
some (.inl (f++[c.1],Wq (d+1),c.2.1,c.2.2.1,c.2.2.2.1,()))
else
some (.inr (.inr ((l,(1:Int),e++[([(121:UInt8)],(2:Int),(0:Int),false,())],f,k,b.1,a.1,()),(h,g,i,()))))
def Zga (k:List UInt8) (g:List Int) (b a:Int×Zm) (c:List XT) (e:Int) (i:List Int) (j h:Int):Option (((List XT)×Int×(List Int)×Int×Int×Unit)⊕(Zo×Zm)):=
if e<(g.length:Int)then
(atI ([[(97:UInt8)],[(98:UInt8)],[(99:UInt8)],[(100:UInt8)]]) (c.length:Int)).bind λf=>
(Zl (i,j,h,()) 9).bind λd=>
Zy ((c.length+[(f,(1:Int),Wq ((1:Int)+d.1),false,())].length)*40<=140737488355328)<|
some (.inl (c++[(f,(1:Int),Wq ((1:Int)+d.1),false,())],Wq ((2:Int)*e),d.2.1,d.2.2.1,d.2.2.2.1,()))
else
Zy ((c.length+[([(121:UInt8)],(2:Int),(0:Int),false,())].length)*40<=140737488355328)<|
ZA (λv=>Zf9 k g b a c v.1 v.2.1 v.2.2.1 v.2.2.2.1 v.2.2.2.2.1) (([]:List ZK),(0:Int),i,j,h,())
def Zcu (e:Zm) (c:List UInt8) (d:List Int):Option (Zo×Zm):=
(Zl e 50).bind λb=>
(Zl b.2 80).bind λa=>
ZA (λv=>Zga c d b a v.1 v.2.1 v.2.2.1 v.2.2.2.1 v.2.2.2.2.1) (([]:List (List UInt8×Int×Int×Bool×Unit)),(1:Int),a.2.1,a.2.2.1,a.2.2.2.1,())
def c8:Ctr:=⟨[.io (.flat (XY)),.dat (.str),.own (.ol 2 (.flat Iq))],[.own (Zsl)],λa K=>Zr a λd a=>Zr a λc a=>Zr a λb a=>Yk (Zcu d c b) λr=>K (r.1,()) (r.2,())⟩
def Zbc (l:Zm) (b:List UInt8) (a d:Int):Option (Zo×Zm):=
(Zl l 50).bind λi=>
(Zl i.2 80).bind λg=>
(Zl g.2 9).bind λj=>
(Zl j.2 9).bind λh=>
(JK h.2 d 1 2 0).bind λf=>
(JK f.2 4 1 0 0).bind λe=>
(JK e.2 5 1 0 0).bind λc=>
if a=3 then
(JK c.2 1 0 2 1).bind λk=>
Zy (([f.1,e.1,c.1].length+[k.1].length)*80<=140737488355328)<|
some ((b,a,[([(100:UInt8)],(1:Int),Wq ((1:Int)+j.1),false,()),([(99:UInt8),107],(1:Int),Wq ((1:Int)+h.1),true,()),([(113:UInt8)],(2:Int),(0:Int),false,())],[f.1,e.1,c.1]++[k.1],[],i.1,g.1,()),k.2)
else
some ((b,a,[([(100:UInt8)],(1:Int),Wq ((1:Int)+j.1),false,()),([(99:UInt8),107],(1:Int),Wq ((1:Int)+h.1),true,()),([(113:UInt8)],(2:Int),(0:Int),false,())],[f.1,e.1,c.1],[],i.1,g.1,()),c.2)
def c9:Ctr:=⟨[.io (.flat (XY)),.dat (.str),.dat Iq,.dat Iq],[.own (Zsl)],λa K=>Zr a λe a=>Zr a λd a=>Zr a λc a=>Zr a λb a=>Yk (Zbc e d c b) λr=>K (r.1,()) (r.2,())⟩
def ZiQ (i:Zm):Option (Zu×Zm):=
(Zcu i [(105:UInt8),110,118] [(1:Int),0]).bind λc=>
(Zcu c.2 [(98:UInt8),117,102] [(0:Int),1]).bind λa=>
(Zcu a.2 [(110:UInt8),97,110,100] [(1:Int),1,1,0]).bind λf=>
(Zcu f.2 [(120:UInt8),111,114] [(0:Int),1,1,0]).bind λb=>
(Zcu b.2 [(109:UInt8),117,120] [(0:Int),1,0,1,0,0,1,1]).bind λe=>
(Zbc e.2 [(102:UInt8),108,111,112] (2:Int) (2:Int)).bind λd=>
(Zbc d.2 [(102:UInt8),108,111,112,110] (2:Int) (3:Int)).bind λh=>
(Zbc h.2 [(108:UInt8),97,116,99,104] (3:Int) (2:Int)).bind λg=>
some (([c.1,a.1,f.1,b.1,e.1,d.1,h.1,g.1],()),g.2)
def c10:Ctr:=⟨[.io (.flat (XY))],[.own (Zpb)],λa K=>Zr a λb a=>Yk (ZiQ b) λr=>K (r.1,()) (r.2,())⟩
def XO (b:Int->Option (List UInt8)) (a:Int):Option (List UInt8):=
if a<0 then
(b (Wq (0-a))).bind λc=>
Zy ((([(45:UInt8)].length):Int)+(c.length:Int)<=9223372036854775807)<|
some ([(45:UInt8)]++c)
else
if a<10 then
some (bytesOf [IntKind.wrap IntKind.u8 (Wq ((48:Int)+a))])
else
(b (Wq (Int.tdiv a 10))).bind λc=>
Zy ((c.length:Int)+(((bytesOf [IntKind.wrap IntKind.u8 (Wq ((48:Int)+Int.tmod a (10:Int)))]).length):Int)<=9223372036854775807)<|
some (c++bytesOf [IntKind.wrap IntKind.u8 (Wq ((48:Int)+Int.tmod a (10:Int)))])
def V6:Nat->Int->Option (List UInt8)
|0=>λ_=>none
|n+1=>XO (V6 n)
def Vw (a:Int):Option (List UInt8):=ZGW (λn=>V6 n a)
def ZdW (b:Int->Option (List UInt8)):Ctr:=⟨[.dat Iq],[.dat (.str)],λa K=>Zr a λc a=>Yk (b c) λr=>K (r,()) ()⟩
def c11:Ctr:=ZdW Vw
def Zgd (j:List Zd) (d:List (List UInt8)) (n g:Int) (c:List UInt8) (e:Int) (k:List Int) (i l:Int) (a:List Int):Option ((Int×(List Int)×Int×Int×(List Int)×Unit)⊕(((List Zd)×(List (List UInt8))×Int×(List Int)×Int×Int×Unit)⊕(Zb×Zm))):=
(atI ([(2:Int),2,3,3,4,3,3,3]) g).bind λm=>
if e<Wq (m-1)then
(Zl (k,i,l,()) (Wq ((d.length:Int)-1))).bind λf=>
(Zl f.2 3).bind λb=>
if b.1=0 then
if 5<=g then
if e=1 then
Zy ((([]:List Int).length+a.length)*8<=140737488355328)<|
Zy (((([]:List Int)++a).length+[(0:Int)].length)*8<=140737488355328)<|
some (.inl (Wq (e+1),b.2.1,b.2.2.1,b.2.2.2.1,([]:List Int)++a++[(0:Int)],()))
else
Zy ((([]:List Int).length+a.length)*8<=140737488355328)<|
Zy (((([]:List Int)++a).length+[Wq ((d.length:Int)-1)].length)*8<=140737488355328)<|
some (.inl (Wq (e+1),b.2.1,b.2.2.1,b.2.2.2.1,([]:List Int)++a++[Wq ((d.length:Int)-1)],()))
else
Zy ((([]:List Int).length+a.length)*8<=140737488355328)<|
Zy (((([]:List Int)++a).length+[Wq ((d.length:Int)-1)].length)*8<=140737488355328)<|
some (.inl (Wq (e+1),b.2.1,b.2.2.1,b.2.2.2.1,([]:List Int)++a++[Wq ((d.length:Int)-1)],()))
else
if 5<=g then
if e=1 then
Zy ((([]:List Int).length+a.length)*8<=140737488355328)<|
Zy (((([]:List Int)++a).length+[(0:Int)].length)*8<=140737488355328)<|
some (.inl (Wq (e+1),b.2.1,b.2.2.1,b.2.2.2.1,([]:List Int)++a++[(0:Int)],()))
else
Zy ((([]:List Int).length+a.length)*8<=140737488355328)<|
Zy (((([]:List Int)++a).length+[Wq ((1:Int)+f.1)].length)*8<=140737488355328)<|
some (.inl (Wq (e+1),b.2.1,b.2.2.1,b.2.2.2.1,([]:List Int)++a++[Wq ((1:Int)+f.1)],()))
else
Zy ((([]:List Int).length+a.length)*8<=140737488355328)<|
Zy (((([]:List Int)++a).length+[Wq ((1:Int)+f.1)].length)*8<=140737488355328)<|
some (.inl (Wq (e+1),b.2.1,b.2.2.1,b.2.2.2.1,([]:List Int)++a++[Wq ((1:Int)+f.1)],()))
else
Zy ((([]:List Int).length+a.length)*8<=140737488355328)<|
Zy (((([]:List Int)++a).length+[(d.length:Int)].length)*8<=140737488355328)<|
(Vw (d.length:Int)).bind λh=>
Zy ((([(110:UInt8)].length):Int)+(h.length:Int)<=9223372036854775807)<|
Zy ((d.length+[[(110:UInt8)]++h].length)*16<=140737488355328)<|
Zy ((j.length+[([(117:UInt8)]++c,g,([]:List Int)++a++[(d.length:Int)],())].length)*48<=140737488355328)<|
some (.inr (.inl (j++[([(117:UInt8)]++c,g,([]:List Int)++a++[(d.length:Int)],())],d++[[(110:UInt8)]++h],Wq (n-1),k,i,l,())))
def Zge (k:Bool) (e:List (List UInt8)) (d:Int) (i:List Int) (g j:Int) (f:List (List UInt8×Int×List Int×Unit)):Option ((Int×(List Int)×Int×Int×(List (List UInt8×Int×List Int×Unit))×Unit)⊕(((List Zd)×(List (List UInt8))×Int×(List Int)×Int×Int×Unit)⊕(Zb×Zm))):=
if d<(f.length:Int)then
(Zl (i,g,j,()) 4).bind λc=>
if c.1=0 then
(atI f d).bind λb=>
if b.2.1=5 then
(Zl c.2 (Wq ((e.length:Int)-1))).bind λa=>
(atI b.2.2.1 0).bind λh=>
some (.inl (Wq (d+1),a.2.1,a.2.2.1,a.2.2.2.1,List.set f (Int.toNat d) (b.1,b.2.1,List.set b.2.2.1 (Int.toNat 0) (Wq (1+a.1)),()),()))
else
if b.2.1=6 then
(Zl c.2 (Wq ((e.length:Int)-1))).bind λa=>
(atI b.2.2.1 0).bind λh=>
some (.inl (Wq (d+1),a.2.1,a.2.2.1,a.2.2.2.1,List.set f (Int.toNat d) (b.1,b.2.1,List.set b.2.2.1 (Int.toNat 0) (Wq (1+a.1)),()),()))
else
if k then
(Zl c.2 (Wq ((e.length:Int)-1))).bind λa=>
(atI b.2.2.1 0).bind λh=>
some (.inl (Wq (d+1),a.2.1,a.2.2.1,a.2.2.2.1,List.set f (Int.toNat d) (b.1,b.2.1,List.set b.2.2.1 (Int.toNat 0) (Wq (1+a.1)),()),()))
else
some (.inl (Wq (d+1),c.2.1,c.2.2.1,c.2.2.2.1,List.set f (Int.toNat d) b,()))
else
some (.inl (Wq (d+1),c.2.1,c.2.2.1,c.2.2.2.1,f,()))
else
Zy (((([]:List (List UInt8×Int×Int×Unit))++[([(99:UInt8),107],(1:Int),(0:Int),()),([(97:UInt8)],(1:Int),(1:Int),()),([(98:UInt8)],(1:Int),(2:Int),())]).length+[([(121:UInt8)],(2:Int),Wq ((e.length:Int)-1),())].length)*32<=140737488355328)<|
(Zl (i,g,j,()) 2).bind λc=>
if c.1=0 then
(Zl c.2 (Wq ((e.length:Int)-1))).bind λa=>
Zy (((([]:List (List UInt8×Int×Int×Unit))++[([(99:UInt8),107],(1:Int),(0:Int),()),([(97:UInt8)],(1:Int),(1:Int),()),([(98:UInt8)],(1:Int),(2:Int),())]++[([(121:UInt8)],(2:Int),Wq ((e.length:Int)-1),())]).length+[([(122:UInt8)],(2:Int),Wq ((1:Int)+a.1),())].length)*32<=140737488355328)<|
some (.inr (.inr ((f,e,([]:List (List UInt8×Int×Int×Unit))++[([(99:UInt8),107],(1:Int),(0:Int),()),([(97:UInt8)],(1:Int),(1:Int),()),([(98:UInt8)],(1:Int),(2:Int),())]++[([(121:UInt8)],(2:Int),Wq ((e.length:Int)-1),())]++[([(122:UInt8)],(2:Int),Wq ((1:Int)+a.1),())],()),a.2)))
else
some (.inr (.inr ((f,e,([]:List (List UInt8×Int×Int×Unit))++[([(99:UInt8),107],(1:Int),(0:Int),()),([(97:UInt8)],(1:Int),(1:Int),()),([(98:UInt8)],(1:Int),(2:Int),())]++[([(121:UInt8)],(2:Int),Wq ((e.length:Int)-1),())],()),c.2)))
def Zgf (j:Bool) (b:List Zd) (d:List (List UInt8)) (h:Int) (f:List Int) (g e:Int):Option (((List Zd)×(List (List UInt8))×Int×(List Int)×Int×Int×Unit)⊕(Zb×Zm)):=
if 0<h then
(Zl (f,g,e,()) 12).bind λa=>
(atI ([(0:Int),1,2,2,3,4,5,5,5,6,7,1]) a.1).bind λi=>
(Vw (b.length:Int)).bind λc=>
Zy ((([(117:UInt8)].length):Int)+(c.length:Int)<=9223372036854775807)<|
ZA (λv=>Zgd b d h i c v.1 v.2.1 v.2.2.1 v.2.2.2.1 v.2.2.2.2.1) ((0:Int),a.2.1,a.2.2.1,a.2.2.2.1,([]:List Int),())
else
ZA (λv=>Zge j d v.1 v.2.1 v.2.2.1 v.2.2.2.1 v.2.2.2.2.1) ((0:Int),f,g,e,b,())
def ZiS (b:Zm) (d:Int) (c:Bool):Option (Zb×Zm):=
(Zl b (Wq (d-1))).bind λa=>
ZA (λv=>Zgf c v.1 v.2.1 v.2.2.1 v.2.2.2.1 v.2.2.2.2.1 v.2.2.2.2.2.1) (([]:List Zd),([]:List (List UInt8))++[[(110:UInt8),99,107],[(110:UInt8),97],[(110:UInt8),98]],Wq ((2:Int)+a.1),a.2.1,a.2.2.1,a.2.2.2.1,())
def c12:Ctr:=⟨[.io (.flat (XY)),.dat Iq,.dat (.bool)],[.own (ZpA)],λa K=>Zr a λd a=>Zr a λc a=>Zr a λb a=>Yk (ZiS d c b) λr=>K (r.1,()) (r.2,())⟩
def Zeq (c:Int) (b:Zd) (d:List ZG) (a:Int):Option (((List ZG)×Int×Unit)⊕(((List ZG)×Int×Unit)⊕List ZG)):=
if a<((Gc b).length:Int)then
(atI (Gc b) a).bind λe=>
Zy ((d.length+[(c,a,e,decide (a=Wq (((Gc b).length:Int)-1)),())].length)*32<=140737488355328)<|
some (.inl (d++[(c,a,e,decide (a=Wq (((Gc b).length:Int)-1)),())],Wq (a+1),()))
else
some (.inr (.inl (d,Wq (c+1),())))
def Zer (d:Zb) (c:List ZG) (a:Int):Option (((List ZG)×Int×Unit)⊕(((List ZG)×Int×Unit)⊕List ZG)):=
if a<((Ge d).length:Int)then
(atI (Ge d) a).bind λb=>
Zy ((c.length+[((-1:Int),a,GK b,decide (GF b=1),())].length)*32<=140737488355328)<|
some (.inl (c++[((-1:Int),a,GK b,decide (GF b=1),())],Wq (a+1),()))
else
some (.inr (.inr c))
def Zes (b:Zb) (c:List ZG) (a:Int):Option (((List ZG)×Int×Unit)⊕List ZG):=
if a<((K3 b).length:Int)then
(atI (K3 b) a).bind λd=>
ZA (λv=>Zeq a d v.1 v.2.1) (c,(0:Int),())
else
ZA (λv=>Zer b v.1 v.2.1) (c,(0:Int),())
def YJ (a:Zb):Option (List ZG):=
ZA (λv=>Zes a v.1 v.2.1) (([]:List (Int×Int×Int×Bool×Unit)),(0:Int),())
def c13:Ctr:=⟨[.dat (YN)],[.own (.ol 117 (.flat (Zgm)))],λa K=>Zr a λb a=>Yk (YJ b) λr=>K (r,()) ()⟩
def Zfc (d:Int) (a:List ZG) (b:List Int) (c:Int):Option (((List Int)×Int×Unit)⊕List Int):=
if c<(a.length:Int)then
(atI a c).bind λe=>
if ZG.net e=d then
if(GX e)=true then
some (.inl (b,Wq (c+1),()))
else
Zy ((b.length+[c].length)*8<=140737488355328)<|
some (.inl (b++[c],Wq (c+1),()))
else
some (.inl (b,Wq (c+1),()))
else
some (.inr b)
def Xv (c:Zb) (a:Int):Option (List Int):=
(YJ c).bind λb=>
ZA (λv=>Zfc a b v.1 v.2.1) (([]:List Int),(0:Int),())
def c14:Ctr:=⟨[.dat (YN),.dat Iq],[.own (.ol 2 (.flat Iq))],λa K=>Zr a λc a=>Zr a λb a=>Yk (Xv c b) λr=>K (r,()) ()⟩
def Zav (a b:Int):Option Zq:=
Zy ((0:Int)<=a)<|
Zy (a<=a)<|
Zy (a<=4611686018427387904)<|
Zy (((8:Nat):Int)*a<=281474976710656)<|
some ([(-1:Int)],[(0:Int)],[b],List.replicate (Int.toNat a) (0:Int),())
def c15:Ctr:=⟨[.dat Iq,.dat Iq],[.own (ZoN)],λa K=>Zr a λb a=>Zr a λc a=>Yk (Zav b c) λr=>K (r,()) ()⟩
def Xc (a:List Int):Option (List Int):=
Zy ((([]:List Int).length+a.length)*8<=140737488355328)<|
some (([]:List Int)++a)
def c16:Ctr:=⟨[.dat (.sl Iq)],[.own (.ol 2 (.flat Iq))],λa K=>Zr a λb a=>Yk (Xc b) λr=>K (r,()) ()⟩
def Zdh (g h i:List Int) (a:Int) (e:List Int) (d f:Int) (c:List Int):Option ((Int×(List Int)×Int×Int×(List Int)×Unit)⊕((Int×(List Int)×Int×Int×(List Int)×(List Int)×(List Int)×(List Int)×Unit)⊕(Zq×Zm))):=
if a<(c.length:Int)then
(Zl (e,d,f,()) (g.length:Int)).bind λb=>
(atI c a).bind λj=>
some (.inl (Wq (a+1),b.2.1,b.2.2.1,b.2.2.2.1,List.set c (Int.toNat a) b.1,()))
else
some (.inr (.inr ((g,h,i,c,()),(e,d,f,()))))
def Zdi (j:Int) (e:List Int) (m k:Int) (d f n i:List Int):Option ((Int×(List Int)×Int×Int×(List Int)×(List Int)×(List Int)×(List Int)×Unit)⊕(Zq×Zm)):=
if 0<j then
(Xc d).bind λg=>
(Zl (e,m,k,()) (d.length:Int)).bind λb=>
Zy ((g.length+[b.1].length)*8<=140737488355328)<|
(Xc f).bind λl=>
(Zl b.2 400).bind λc=>
Zy ((l.length+[c.1].length)*8<=140737488355328)<|
(Xc n).bind λh=>
(Zl c.2 8).bind λa=>
Zy ((h.length+[a.1].length)*8<=140737488355328)<|
some (.inl (Wq (j-1),a.2.1,a.2.2.1,a.2.2.2.1,g++[b.1],l++[c.1],h++[a.1],i,()))
else
ZA (λv=>Zdh d f n v.1 v.2.1 v.2.2.1 v.2.2.2.1 v.2.2.2.2.1) ((0:Int),e,m,k,i,())
def Vb (e:Zm) (a:Int):Option (Zq×Zm):=
(Zl e 6).bind λd=>
(Zav a d.1).bind λb=>
(Zl d.2 4).bind λc=>
ZA (λv=>Zdi v.1 v.2.1 v.2.2.1 v.2.2.2.1 v.2.2.2.2.1 v.2.2.2.2.2.1 v.2.2.2.2.2.2.1 v.2.2.2.2.2.2.2.1) (c.1,c.2.1,c.2.2.1,c.2.2.2.1,K8 b,GB b,GE b,Gu b,())
def c17:Ctr:=⟨[.io (.flat (XY)),.dat Iq],[.own (ZoN)],λa K=>Zr a λc a=>Zr a λb a=>Yk (Vb c b) λr=>K (r.1,()) (r.2,())⟩
def Zgg (d:Zu×Zm) (a:Zb×Zm) (b:List Zq) (c:Int) (g:List Int) (h f:Int):Option (((List Zq)×Int×(List Int)×Int×Int×Unit)⊕(Za×Zm)):=
if c<(a.1.2.1.length:Int)then
(Xv a.1 c).bind λi=>
(Vb (g,h,f,()) (i.length:Int)).bind λe=>
Zy ((b.length+[e.1].length)*96<=140737488355328)<|
some (.inl (b++[e.1],Wq (c+1),e.2.1,e.2.2.1,e.2.2.2.1,()))
else
some (.inr ((d.1,a.1,b,()),(g,h,f,())))
def Zau (e:Zm) (b:Int) (c:Bool):Option (Za×Zm):=
(ZiQ e).bind λd=>
(ZiS d.2 b c).bind λa=>
ZA (λv=>Zgg d a v.1 v.2.1 v.2.2.1 v.2.2.2.1 v.2.2.2.2.1) (([]:List Zq),(0:Int),a.2.1,a.2.2.1,a.2.2.2.1,())
def c18:Ctr:=⟨[.io (.flat (XY)),.dat Iq,.dat (.bool)],[.own (Zex)],λa K=>Zr a λd a=>Zr a λb a=>Zr a λc a=>Yk (Zau d b c) λr=>K (r.1,()) (r.2,())⟩
def Zcj (i:Zm):Option (Za×Zm):=
(Zl i 3).bind λg=>
(Zau g.2 6 (decide (g.1=0))).bind λa=>
(Zl a.2 (a.1.2.2.1.length:Int)).bind λd=>
(Zl d.2 20).bind λc=>
if c.1=0 then
Zy ((1:Int)<=(a.1.2.2.1.length:Int))<|
Zy ((a.1.2.2.1.length:Int)<=(a.1.2.2.1.length:Int))<|
some ((a.1.1,a.1.2.1,List.take (Int.toNat (a.1.2.2.1.length:Int)-Int.toNat 1) (List.drop (Int.toNat 1) a.1.2.2.1),()),c.2)
else
if c.1=1 then
(atI a.1.2.2.1 d.1).bind λb=>
(Xc b.2.2.2.1).bind λh=>
Zy ((h.length+[(0:Int)].length)*8<=140737488355328)<|
some ((a.1.1,a.1.2.1,List.set a.1.2.2.1 (Int.toNat d.1) (b.1,b.2.1,b.2.2.1,h++[(0:Int)],()),()),c.2)
else
if c.1=2 then
(atI a.1.2.2.1 d.1).bind λb=>
(atI b.2.1 0).bind λf=>
some ((a.1.1,a.1.2.1,List.set a.1.2.2.1 (Int.toNat d.1) (b.1,List.set b.2.1 (Int.toNat 0) 1,b.2.2),()),c.2)
else
if c.1=3 then
(atI a.1.2.2.1 d.1).bind λb=>
(Zl c.2 3).bind λe=>
(atI ([(-1:Int),500,501]) e.1).bind λf=>
(atI b.2.2.1 0).bind λj=>
some ((a.1.1,a.1.2.1,List.set a.1.2.2.1 (Int.toNat d.1) (b.1,b.2.1,List.set b.2.2.1 (Int.toNat 0) f,b.2.2.2),()),e.2)
else
if c.1=4 then
(atI a.1.2.2.1 d.1).bind λb=>
(Zl c.2 5).bind λe=>
(atI b.1 (Wq ((b.1.length:Int)-1))).bind λf=>
some ((a.1.1,a.1.2.1,List.set a.1.2.2.1 (Int.toNat d.1) (List.set b.1 (Int.toNat (Wq ((b.1.length:Int)-1))) (Wq (e.1-1)),b.2),()),e.2)
else
if c.1=5 then
(atI a.1.2.1.2.2.1 0).bind λb=>
some ((a.1.1,(a.1.2.1.1,a.1.2.1.2.1,List.set a.1.2.1.2.2.1 (Int.toNat 0) (GT b,3,b.2.2),()),a.1.2.2),c.2)
else
some (a.1,c.2)
def c19:Ctr:=⟨[.io (.flat (XY))],[.own (Zex)],λa K=>Zr a λb a=>Yk (Zcj b) λr=>K (r.1,()) (r.2,())⟩
def Zgb (c:List UInt8) (a:Int):Option ((Int×Unit)⊕Bool):=
if a<(c.length:Int)then
(atI c a).bind λb=>
if 97<=((UInt8.toNat b):Int)then
if 48<=((UInt8.toNat b):Int)then
if((UInt8.toNat b):Int)<=122 then
some (.inl (Wq (a+1),()))
else
if((UInt8.toNat b):Int)<=57 then
if 0<a then
some (.inl (Wq (a+1),()))
else
some (.inr false)
else
some (.inr false)
else
if((UInt8.toNat b):Int)<=122 then
some (.inl (Wq (a+1),()))
else
some (.inr false)
else
if 48<=((UInt8.toNat b):Int)then
if((UInt8.toNat b):Int)<=57 then
if 0<a then
some (.inl (Wq (a+1),()))
else
some (.inr false)
else
some (.inr false)
else
some (.inr false)
else
if 1<=(c.length:Int)then
some (.inr (decide ((c.length:Int)<=8)))
else
some (.inr false)
def Zcv (a:List UInt8):Option Bool:=
ZA (λv=>Zgb a v.1) ((0:Int),())
def c20:Ctr:=D1 (.str) (.bool) Zcv
def Z4 (c b a:Int):Option Bool:=
if b<=c then
some (decide (c<=a))
else
some false
def c21:Ctr:=D3 Iq Iq Iq (.bool) Z4
def J2 (d:Zo) (c a:Int) (b:XT) (e:Int):Option ((Int×Unit)⊕((Int×Int×Unit)⊕(Int×Bool))):=
if e<a then
(atI (Gb d) e).bind λg=>
if GN g=GN b then
some (.inr (.inr (0,false)))
else
some (.inl (Wq (e+1),()))
else
(Zcv (GN b)).bind λh=>
if h then
(Z4 (G2 b) 0 500).bind λf=>
if f then
if a=Wq (((Gb d).length:Int)-1)then
if G9 b=2 then
if G2 b=0 then
if(Gn b)=true then
some (.inr (.inr (0,false)))
else
if a<Wq (((Gb d).length:Int)-1)then
if G9 b=1 then
if(Gn b)=true then
some (.inr (.inl (Wq (c+1),Wq (a+1),())))
else
some (.inr (.inl (c,Wq (a+1),())))
else
some (.inr (.inr (0,false)))
else
if(Gn b)=true then
some (.inr (.inl (Wq (c+1),Wq (a+1),())))
else
some (.inr (.inl (c,Wq (a+1),())))
else
some (.inr (.inr (0,false)))
else
some (.inr (.inr (0,false)))
else
if a<Wq (((Gb d).length:Int)-1)then
if G9 b=1 then
if(Gn b)=true then
some (.inr (.inl (Wq (c+1),Wq (a+1),())))
else
some (.inr (.inl (c,Wq (a+1),())))
else
some (.inr (.inr (0,false)))
else
if(Gn b)=true then
some (.inr (.inl (Wq (c+1),Wq (a+1),())))
else
some (.inr (.inl (c,Wq (a+1),())))
else
some (.inr (.inr (0,false)))
else
some (.inr (.inr (0,false)))
def Zbz (b:Zo) (c a:Int):Option ((Int×Int×Unit)⊕(Int×Bool)):=
if a<((Gb b).length:Int)then
(atI (Gb b) a).bind λd=>
ZA (λv=>J2 b c a d v.1) ((0:Int),())
else
some (.inr (c,true))
def ZiR (a:Zo):Option (Int×Bool):=
if((Gb a).length:Int)<2 then
some (0,false)
else
if 5<((Gb a).length:Int)then
some (0,false)
else
ZA (λv=>Zbz a v.1 v.2.1) ((0:Int),(0:Int),())
def c22:Ctr:=⟨[.dat (Zcq)],[.dat Iq,.dat (.bool)],λa K=>Zr a λb a=>Yk (ZiR b) λr=>K (r.1,r.2,()) ()⟩
def Zf7 (a:List Int) (b:Int):Option ((Int×Unit)⊕Bool):=
if b<(a.length:Int)then
(atI a b).bind λc=>
(Z4 c 0 100000).bind λe=>
if e then
if 0<b then
(atI a (Wq (b-1))).bind λd=>
if c<=d then
some (.inr false)
else
some (.inl (Wq (b+1),()))
else
some (.inl (Wq (b+1),()))
else
some (.inr false)
else
if 1<=(a.length:Int)then
some (.inr (decide ((a.length:Int)<=4)))
else
some (.inr false)
def Zhf (a:List Int):Option Bool:=
ZA (λv=>Zf7 a v.1) ((0:Int),())
def c23:Ctr:=D1 (.sl Iq) (.bool) Zhf
def Zf3 (b:ZE) (a:Int):Option ((Int×Unit)⊕Bool):=
if a<((Gz b).length:Int)then
(atI (Gz b) a).bind λc=>
(Z4 c (-1000000) 1000000).bind λd=>
if d then
some (.inl (Wq (a+1),()))
else
some (.inr false)
else
some (.inr true)
def ZiP (a:ZE):Option Bool:=
(Zhf (GS a)).bind λc=>
if c then
(Zhf (GA a)).bind λb=>
if b then
if((Gz a).length:Int)=Wq (((GS a).length:Int)*((GA a).length:Int))then
ZA (λv=>Zf3 a v.1) ((0:Int),())
else
some false
else
some false
else
some false
def c24:Ctr:=D1 (Zaw) (.bool) ZiP
def Za0 (e:ZE) (a c d:Int):Option ((Int×Int×Int×Unit)⊕(ZC×Int)):=
if a<((Gz e).length:Int)then
(atI (Gz e) a).bind λb=>
some (.inl (Wq (a+1),Min.min c b,Max.max d b,()))
else
some (.inr ((c,d,()),0))
def ZeO (a:ZE):Option (ZC×Int):=
(ZiP a).bind λc=>
if c then
(atI (Gz a) 0).bind λb=>
ZA (λv=>Za0 a v.1 v.2.1 v.2.2.1) ((1:Int),b,b,())
else
some ((0,0,()),1)
def c25:Ctr:=⟨[.dat (Zaw)],[.dat (Zaa),.dat Iq],λa K=>Zr a λb a=>Yk (ZeO b) λr=>K (r.1,r.2,()) ()⟩
def Zeo (c:List ZE) (a:Bool) (b:Int):Option ((Int×Unit)⊕Bool):=
if b<2 then
(atI c b).bind λe=>
(ZeO e).bind λd=>
if d.2=0 then
if a then
if d.1.1<0 then
some (.inr false)
else
some (.inl (Wq (b+1),()))
else
some (.inl (Wq (b+1),()))
else
some (.inr false)
else
some (.inr true)
def Xj (b:List ZE) (a:Bool):Option Bool:=
if(b.length:Int)=2 then
ZA (λv=>Zeo b a v.1) ((0:Int),())
else
some false
def c26:Ctr:=D2 (.sl (Zaw)) (.bool) (.bool) Xj
def Zj8 (b:Zo) (a:ZK):Option Bool:=
(Z4 (Gs a) 0 (Wq (Wq (((Gb b).length:Int)-1)-1))).bind λh=>
if h then
(Z4 (Gw a) 0 (Wq (((Gb b).length:Int)-1))).bind λg=>
if g then
(atI (Gb b) (Gs a)).bind λd=>
if Gf a=1 then
if(Gn d)=true then
some false
else
if Gw a=Wq (((Gb b).length:Int)-1)then
(Z4 (GH a) 1 3).bind λi=>
if i then
(Xj (GJ a) true).bind λc=>
if c then
(Xj (GQ a) true).bind λf=>
some f
else
some false
else
some false
else
some false
else
if Gf a=2 then
if Gf a=2 then
if(Gn d)=true then
if Gw a=Wq (((Gb b).length:Int)-1)then
if GH a=0 then
(Xj (GJ a) true).bind λc=>
if c then
(Xj (GQ a) true).bind λf=>
some f
else
some false
else
some false
else
some false
else
some false
else
if Gf a=4 then
if Gf a=4 then
if(Gn d)=true then
if Gw a<Wq (((Gb b).length:Int)-1)then
(atI (Gb b) (Gw a)).bind λe=>
if(Gn e)=true then
some false
else
if GH a=0 then
(Xj (GJ a) false).bind λc=>
if c then
some (decide (((GQ a).length:Int)=0))
else
some false
else
some false
else
some false
else
some false
else
some false
else
if Gf a=5 then
if(Gn d)=true then
if Gw a<Wq (((Gb b).length:Int)-1)then
(atI (Gb b) (Gw a)).bind λe=>
if(Gn e)=true then
some false
else
if GH a=0 then
(Xj (GJ a) false).bind λc=>
if c then
some (decide (((GQ a).length:Int)=0))
else
some false
else
some false
else
some false
else
some false
else
some false
else
if Gf a=3 then
if(Gn d)=true then
if Gw a=Wq (((Gb b).length:Int)-1)then
if GH a=0 then
(Xj (GJ a) true).bind λc=>
if c then
(Xj (GQ a) true).bind λf=>
some f
else
some false
else
some false
else
some false
else
some false
else
if Gf a=4 then
if Gf a=4 then
if(Gn d)=true then
if Gw a<Wq (((Gb b).length:Int)-1)then
(atI (Gb b) (Gw a)).bind λe=>
if(Gn e)=true then
some false
else
if GH a=0 then
(Xj (GJ a) false).bind λc=>
if c then
some (decide (((GQ a).length:Int)=0))
else
some false
else
some false
else
some false
else
some false
else
some false
else
if Gf a=5 then
if(Gn d)=true then
if Gw a<Wq (((Gb b).length:Int)-1)then
(atI (Gb b) (Gw a)).bind λe=>
if(Gn e)=true then
some false
else
if GH a=0 then
(Xj (GJ a) false).bind λc=>
if c then
some (decide (((GQ a).length:Int)=0))
else
some false
else
some false
else
some false
else
some false
else
some false
else
some false
else
some false
def c27:Ctr:=D2 (Zcq) (Zof) (.bool) Zj8
def ZcM (c:Zo) (a:Int) (b:List Int):Option ((Int×(List Int)×Unit)⊕List Int):=
if a<((Gp c).length:Int)then
(atI (Gp c) a).bind λd=>
(atI b (Gf d)).bind λe=>
some (.inl (Wq (a+1),List.set b (Int.toNat (Gf d)) (Wq (e+1)),()))
else
some (.inr b)
def ZhN (a:Zo):Option (List Int):=
ZA (λv=>ZcM a v.1 v.2.1) ((0:Int),List.replicate (Int.toNat (6:Int)) (0:Int),())
def c28:Ctr:=⟨[.dat (Zcq)],[.own (.ol 2 (.flat Iq))],λa K=>Zr a λb a=>Yk (ZhN b) λr=>K (r,()) ()⟩
def Zd7 (e:Zo) (d:Int) (c:ZK) (a:Int):Option ((Int×Unit)⊕((Int×Unit)⊕Bool)):=
if a<d then
(atI (Gp e) a).bind λb=>
if Gf b=Gf c then
if Gs b=Gs c then
if Gw b=Gw c then
some (.inr (.inr false))
else
some (.inl (Wq (a+1),()))
else
some (.inl (Wq (a+1),()))
else
some (.inl (Wq (a+1),()))
else
some (.inr (.inl (Wq (d+1),())))
def Zd8 (b:Zo) (a:Int×Bool) (c:Int):Option ((Int×Unit)⊕((Int×Unit)⊕Bool)):=
if c<((GD b).length:Int)then
(atI (GD b) c).bind λe=>
(Z4 e 0 1).bind λd=>
if d then
some (.inl (Wq (c+1),()))
else
some (.inr (.inr false))
else
if a.1=0 then
Zy ((0:Int)<=IntKind.wrap IntKind.u64 (Wq (((Gb b).length:Int)-1)))<|
some (.inr (.inr (decide (((GD b).length:Int)=Wq (1*2^Min.min (Int.toNat (IntKind.wrap IntKind.u64 (Wq (((Gb b).length:Int)-1)))) (IntKind.bits IntKind.i64))))))
else
some (.inr (.inr false))
def ZgJ (b:Zo) (a:Int×Bool) (e:Int):Option ((Int×Unit)⊕Bool):=
if e<((Gp b).length:Int)then
(atI (Gp b) e).bind λd=>
(Zj8 b d).bind λh=>
if h then
ZA (λv=>Zd7 b e d v.1) ((0:Int),())
else
some (.inr false)
else
(ZhN b).bind λc=>
if GI b=1 then
ZA (λv=>Zd8 b a v.1) ((0:Int),())
else
if GI b=2 then
if a.1=1 then
(atI c 1).bind λd=>
if d=0 then
(atI c 2).bind λg=>
(atI c 3).bind λf=>
if(decide (0<g)==decide (0<f))=true then
some (.inr false)
else
some (.inr (decide (((GD b).length:Int)=0)))
else
some (.inr false)
else
some (.inr false)
else
if GI b=3 then
if a.1=1 then
(atI c 1).bind λd=>
if 0<d then
(atI c 2).bind λg=>
if 0<g then
(atI c 3).bind λf=>
if f=0 then
some (.inr (decide (((GD b).length:Int)=0)))
else
some (.inr false)
else
some (.inr false)
else
some (.inr false)
else
some (.inr false)
else
some (.inr false)
def Zj6 (a:Zo):Option Bool:=
(ZiR a).bind λb=>
if b.2 then
(Zcv (GV a)).bind λc=>
if c then
if 8<((Gp a).length:Int)then
some false
else
(Z4 (Ha a) 0 100000).bind λe=>
if e then
(Z4 (Hb a) 0 100000).bind λd=>
if d then
ZA (λv=>ZgJ a b v.1) ((0:Int),())
else
some false
else
some false
else
some false
else
some false
def c29:Ctr:=D1 (Zcq) (.bool) Zj6
def Zem (e:Zu) (b:Int) (d:Zo) (a:Int):Option ((Int×Unit)⊕((Int×Unit)⊕Bool)):=
if a<b then
(atI (Gd e) a).bind λc=>
if GV c=GV d then
some (.inr (.inr false))
else
some (.inl (Wq (a+1),()))
else
some (.inr (.inl (Wq (b+1),())))
def Zen (a:Zu) (b:Int):Option ((Int×Unit)⊕Bool):=
if b<((Gd a).length:Int)then
(atI (Gd a) b).bind λc=>
(Zj6 c).bind λd=>
if d then
ZA (λv=>Zem a b c v.1) ((0:Int),())
else
some (.inr false)
else
some (.inr (decide (((Gd a).length:Int)<=8)))
def Zg1 (a:Zu):Option Bool:=
ZA (λv=>Zen a v.1) ((0:Int),())
def c30:Ctr:=D1 (X9) (.bool) Zg1
def Ze9 (f:Zb) (c:Int) (b:Zd) (a:Int):Option ((Int×Unit)⊕((Int×Unit)⊕Bool)):=
if a<((Gc b).length:Int)then
(atI (Gc b) a).bind λe=>
(Z4 e 0 (Wq (((K5 f).length:Int)-1))).bind λd=>
if d then
some (.inl (Wq (a+1),()))
else
some (.inr (.inr false))
else
some (.inr (.inl (Wq (c+1),())))
def Zfa (b:Zb) (a:Int):Option ((Int×Unit)⊕((Int×Unit)⊕Bool)):=
if a<((Ge b).length:Int)then
(atI (Ge b) a).bind λc=>
(Z4 (GF c) 1 2).bind λe=>
if e then
(Z4 (GK c) 0 (Wq (((K5 b).length:Int)-1))).bind λd=>
if d then
some (.inl (Wq (a+1),()))
else
some (.inr (.inr false))
else
some (.inr (.inr false))
else
some (.inr (.inr true))
def Zfb (d:Zu) (a:Zb) (c:Int):Option ((Int×Unit)⊕Bool):=
if c<((K3 a).length:Int)then
(atI (K3 a) c).bind λb=>
(Z4 (Gr b) 0 (Wq (((Gd d).length:Int)-1))).bind λf=>
if f then
(atI (Gd d) (Gr b)).bind λe=>
if((Gc b).length:Int)=((Gb e).length:Int)then
ZA (λv=>Ze9 a c b v.1) ((0:Int),())
else
some (.inr false)
else
some (.inr false)
else
ZA (λv=>Zfa a v.1) ((0:Int),())
def ZhO (b:Zu) (a:Zb):Option Bool:=
ZA (λv=>Zfb b a v.1) ((0:Int),())
def c31:Ctr:=D2 (X9) (YN) (.bool) ZhO
def Ze7 (a:List (List UInt8)) (c:Int) (e:List UInt8) (b:Int):Option ((Int×Unit)⊕((Int×Unit)⊕Bool)):=
if b<c then
(atI a b).bind λd=>
if d=e then
some (.inr (.inr false))
else
some (.inl (Wq (b+1),()))
else
some (.inr (.inl (Wq (c+1),())))
def Ze8 (a:List (List UInt8)) (b:Int):Option ((Int×Unit)⊕Bool):=
if b<(a.length:Int)then
(atI a b).bind λc=>
(Zcv c).bind λd=>
if d then
ZA (λv=>Ze7 a b c v.1) ((0:Int),())
else
some (.inr false)
else
some (.inr true)
def Zea (a:List (List UInt8)):Option Bool:=
ZA (λv=>Ze8 a v.1) ((0:Int),())
def c32:Ctr:=D1 (.sl (.str)) (.bool) Zea
def Ze2 (b:List Int) (a:Int):Option ((Int×Unit)⊕((Int×(List Int)×Unit)⊕((Int×(List Int)×Unit)⊕(((List (List UInt8))×Int×Unit)⊕(((List (List UInt8))×Int×Unit)⊕Bool))))):=
if a<(b.length:Int)then
(atI b a).bind λc=>
if c=1 then
some (.inl (Wq (a+1),()))
else
some (.inr (.inr (.inr (.inr (.inr false)))))
else
some (.inr (.inr (.inr (.inr (.inr true)))))
def ZaQ (d:Zb) (b:Int) (a:List Int):Option ((Int×(List Int)×Unit)⊕((Int×(List Int)×Unit)⊕(((List (List UInt8))×Int×Unit)⊕(((List (List UInt8))×Int×Unit)⊕Bool)))):=
if b<((Ge d).length:Int)then
(atI (Ge d) b).bind λc=>
if GF c=1 then
(atI a (GK c)).bind λe=>
some (.inl (Wq (b+1),List.set a (Int.toNat (GK c)) (Wq (e+1)),()))
else
some (.inl (Wq (b+1),a,()))
else
ZA (λv=>Ze2 a v.1) ((0:Int),())
def ZaR (c:Zb) (b:Int) (a:List Int):Option ((Int×(List Int)×Unit)⊕(((List (List UInt8))×Int×Unit)⊕(((List (List UInt8))×Int×Unit)⊕Bool))):=
if b<((K3 c).length:Int)then
(atI (K3 c) b).bind λe=>
(atI (Gc e) (Wq (((Gc e).length:Int)-1))).bind λd=>
(atI a d).bind λf=>
some (.inl (Wq (b+1),List.set a (Int.toNat d) (Wq (f+1)),()))
else
ZA (λv=>ZaQ c v.1 v.2.1) ((0:Int),a,())
def Ze3 (a:Zb) (f c:List (List UInt8)) (b:Int):Option (((List (List UInt8))×Int×Unit)⊕(((List (List UInt8))×Int×Unit)⊕Bool)):=
if b<((Ge a).length:Int)then
(atI (Ge a) b).bind λd=>
Zy ((c.length+[GT d].length)*16<=140737488355328)<|
some (.inl (c++[GT d],Wq (b+1),()))
else
(Zea f).bind λg=>
if g then
(Zea c).bind λe=>
if e then
(Zea (K5 a)).bind λh=>
if h then
Zy ((0:Int)<=((K5 a).length:Int))<|
Zy (((K5 a).length:Int)<=((K5 a).length:Int))<|
Zy (((K5 a).length:Int)<=4611686018427387904)<|
Zy (((8:Nat):Int)*((K5 a).length:Int)<=281474976710656)<|
ZA (λv=>ZaR a v.1 v.2.1) ((0:Int),List.replicate (Int.toNat ((K5 a).length:Int)) (0:Int),())
else
some (.inr (.inr false))
else
some (.inr (.inr false))
else
some (.inr (.inr false))
def Ze4 (c:Zb) (a:List (List UInt8)) (b:Int):Option (((List (List UInt8))×Int×Unit)⊕Bool):=
if b<((K3 c).length:Int)then
(atI (K3 c) b).bind λd=>
Zy ((a.length+[Gq d].length)*16<=140737488355328)<|
some (.inl (a++[Gq d],Wq (b+1),()))
else
ZA (λv=>Ze3 c a v.1 v.2.1) (([]:List (List UInt8)),(0:Int),())
def ZcL (b:Zu) (a:Zb):Option Bool:=
(Zg1 b).bind λd=>
if d then
if 14<((K3 a).length:Int)then
some false
else
if 30<((K5 a).length:Int)then
some false
else
if 8<((Ge a).length:Int)then
some false
else
(ZhO b a).bind λc=>
if c then
ZA (λv=>Ze4 a v.1 v.2.1) (([]:List (List UInt8)),(0:Int),())
else
some false
else
some false
def c33:Ctr:=D2 (X9) (YN) (.bool) ZcL
def ZgK (a:Zq) (b:Int):Option ((Int×Unit)⊕((Int×Unit)⊕Bool)):=
if b<((Gu a).length:Int)then
(atI (Gu a) b).bind λc=>
(Z4 c 0 (Wq (((K8 a).length:Int)-1))).bind λd=>
if d then
some (.inl (Wq (b+1),()))
else
some (.inr (.inr false))
else
some (.inr (.inr true))
def ZgL (b:Zq) (a:Int):Option ((Int×Unit)⊕Bool):=
if a<((K8 b).length:Int)then
(atI (GE b) a).bind λh=>
(Z4 h 0 500).bind λg=>
if g then
(atI (GB b) a).bind λe=>
(Z4 e 0 1000).bind λf=>
if f then
if a=0 then
(atI (K8 b) a).bind λc=>
if c=(-1)then
if e=0 then
if 0<a then
(Z4 c 0 (Wq (a-1))).bind λd=>
if d then
some (.inl (Wq (a+1),()))
else
some (.inr false)
else
some (.inl (Wq (a+1),()))
else
some (.inr false)
else
some (.inr false)
else
if 0<a then
(atI (K8 b) a).bind λc=>
(Z4 c 0 (Wq (a-1))).bind λd=>
if d then
some (.inl (Wq (a+1),()))
else
some (.inr false)
else
some (.inl (Wq (a+1),()))
else
some (.inr false)
else
some (.inr false)
else
ZA (λv=>ZgK b v.1) ((0:Int),())
def Zik (a:Zq) (b:Int):Option Bool:=
if((K8 a).length:Int)<1 then
some false
else
if 8<((K8 a).length:Int)then
some false
else
if((GB a).length:Int)=((K8 a).length:Int)then
if((GE a).length:Int)=((K8 a).length:Int)then
if((Gu a).length:Int)=b then
ZA (λv=>ZgL a v.1) ((0:Int),())
else
some false
else
some false
else
some false
def c34:Ctr:=D2 (ZbR) Iq (.bool) Zik
def Zf2 (b:Za) (a:Int):Option ((Int×Unit)⊕Bool):=
if a<((K4 b).length:Int)then
(atI (K4 b) a).bind λe=>
(Xv (K2 b) a).bind λd=>
(Zik e (d.length:Int)).bind λc=>
if c then
some (.inl (Wq (a+1),()))
else
some (.inr false)
else
some (.inr true)
def QV (a:Za):Option Bool:=
(ZcL (K6 a) (K2 a)).bind λb=>
if b then
if((K4 a).length:Int)=((K5 (K2 a)).length:Int)then
ZA (λv=>Zf2 a v.1) ((0:Int),())
else
some false
else
some false
def c35:Ctr:=D1 (Ya) (.bool) QV
def ZbA (b d:Int) (a:List ZG) (c:Int):Option ((Int×Unit)⊕Int):=
if c<(a.length:Int)then
(atI a c).bind λe=>
if GL e=b then
if ZG.pin e=d then
some (.inr c)
else
some (.inl (Wq (c+1),()))
else
some (.inl (Wq (c+1),()))
else
some (.inr (-1))
def JL (c:Zb) (a b:Int):Option Int:=
(YJ c).bind λd=>
ZA (λv=>ZbA a b d v.1) ((0:Int),())
def c36:Ctr:=D3 (YN) Iq Iq Iq JL
def Zdj (a:List ZG) (b:Int×Zm) (e f:Int):Option ((Int×Int×Unit)⊕(Int×Zm)):=
if f<(a.length:Int)then
(atI a e).bind λg=>
if(GX g)=true then
Zy ((a.length:Int)≠0)<|
some (.inl (Int.tmod (Wq (e+1)) (a.length:Int),Wq (f+1),()))
else
(Zl b.2 12).bind λc=>
if c.1=0 then
(Zl c.2 (Wq ((a.length:Int)+2))).bind λd=>
some (.inr (Wq (d.1-1),d.2))
else
some (.inr (e,c.2))
else
(Zl b.2 12).bind λc=>
if c.1=0 then
(Zl c.2 (Wq ((a.length:Int)+2))).bind λd=>
some (.inr (Wq (d.1-1),d.2))
else
some (.inr (e,c.2))
def XF (d:Zm) (c:Za):Option (Int×Zm):=
(YJ (K2 c)).bind λb=>
(Zl d (b.length:Int)).bind λa=>
ZA (λv=>Zdj b a v.1 v.2.1) (a.1,(0:Int),())
def c37:Ctr:=⟨[.io (.flat (XY)),.dat (Ya)],[.dat Iq],λa K=>Zr a λc a=>Zr a λb a=>Yk (XF c b) λr=>K (r.1,()) (r.2,())⟩
@[reducible] def Xb (a1:Za) (l05Places0:List ZG) (k p c n d:Int) (nm:List UInt8) (w:Zq) (s:Zm):Option (Zh×Zm):=
(Zl s (30:Int)).bind λy0=>
if y0.1=0 then
(Zl y0.2 (7:Int)).bind λy1=>
some ((y1.1,p,c,n,d,nm,w,()),y1.2)
else
if y0.1=1 then
(Zl y0.2 (10:Int)).bind λy1=>
some ((k,p,Wq (y1.1-1),n,d,nm,w,()),y1.2)
else
if y0.1=2 then
(Zl y0.2 (Wq (((K4 a1).length:Int)+2))).bind λy1=>
some ((k,p,c,Wq (y1.1-1),d,nm,w,()),y1.2)
else
if y0.1=3 then
(Zl y0.2 (Wq ((l05Places0.length:Int)+2))).bind λy1=>
some ((k,Wq (y1.1-1),c,n,d,nm,w,()),y1.2)
else
if y0.1=4 then
some ((k,p,c,n,d,[(66:UInt8),97,100],w,()),y0.2)
else
some ((k,p,c,n,d,nm,w,()),y0.2)
def ZbC (l:Zm) (b:Za):Option (Zh×Zm):=
(QV b).bind λn=>
if n then
if((K4 b).length:Int)=0 then
some ((3,0,0,0,0,[],([],[],[],[],()),()),l)
else
(YJ (K2 b)).bind λf=>
(Zl l (8:Int)).bind λc=>
if c.1=0 then
if c.1=0 then
(Zl c.2 ((K3 (K2 b)).length:Int)).bind λa=>
(atI (K3 (K2 b)) a.1).bind λg=>
(JL (K2 b) a.1 (Wq (((Gc g).length:Int)-1))).bind λk=>
(atI ([(1:Int),0,3,2,4,6,5,7]) (Int.tmod (Gr g) (8:Int))).bind λm=>
Xb b f (1:Int) k m (0:Int) (0:Int) ([]:List UInt8) (([]:List Int),([]:List Int),([]:List Int),([]:List Int),()) a.2
else
if c.1=2 then
if c.1=2 then
(XF c.2 b).bind λd=>
(Zl d.2 (2:Int)).bind λa=>
(Zl a.2 (3:Int)).bind λe=>
(Vw e.1).bind λi=>
Zy ((([(120:UInt8)].length):Int)+(i.length:Int)<=9223372036854775807)<|
Xb b f (2:Int) d.1 a.1 (0:Int) (0:Int) ([(120:UInt8)]++i) (([]:List Int),([]:List Int),([]:List Int),([]:List Int),()) e.2
else
if c.1=4 then
Xb b f (3:Int) (0:Int) (0:Int) (0:Int) (0:Int) ([]:List UInt8) (([]:List Int),([]:List Int),([]:List Int),([]:List Int),()) c.2
else
if c.1=5 then
(XF c.2 b).bind λd=>
(Zl d.2 ((K4 b).length:Int)).bind λa=>
(atI (K4 b) a.1).bind λg=>
(Zl a.2 ((K8 g).length:Int)).bind λe=>
Xb b f (4:Int) d.1 (0:Int) a.1 e.1 ([]:List UInt8) (([]:List Int),([]:List Int),([]:List Int),([]:List Int),()) e.2
else
(Zl c.2 ((K4 b).length:Int)).bind λa=>
(Xv (K2 b) a.1).bind λj=>
(Vb a.2 (j.length:Int)).bind λh=>
Xb b f (5:Int) (0:Int) (0:Int) a.1 (0:Int) ([]:List UInt8) h.1 h.2
else
if c.1=3 then
(XF c.2 b).bind λd=>
(Zl d.2 (2:Int)).bind λa=>
(Zl a.2 (3:Int)).bind λe=>
(Vw e.1).bind λi=>
Zy ((([(120:UInt8)].length):Int)+(i.length:Int)<=9223372036854775807)<|
Xb b f (2:Int) d.1 a.1 (0:Int) (0:Int) ([(120:UInt8)]++i) (([]:List Int),([]:List Int),([]:List Int),([]:List Int),()) e.2
else
if c.1=4 then
Xb b f (3:Int) (0:Int) (0:Int) (0:Int) (0:Int) ([]:List UInt8) (([]:List Int),([]:List Int),([]:List Int),([]:List Int),()) c.2
else
if c.1=5 then
(XF c.2 b).bind λd=>
(Zl d.2 ((K4 b).length:Int)).bind λa=>
(atI (K4 b) a.1).bind λg=>
(Zl a.2 ((K8 g).length:Int)).bind λe=>
Xb b f (4:Int) d.1 (0:Int) a.1 e.1 ([]:List UInt8) (([]:List Int),([]:List Int),([]:List Int),([]:List Int),()) e.2
else
(Zl c.2 ((K4 b).length:Int)).bind λa=>
(Xv (K2 b) a.1).bind λj=>
(Vb a.2 (j.length:Int)).bind λh=>
Xb b f (5:Int) (0:Int) (0:Int) a.1 (0:Int) ([]:List UInt8) h.1 h.2
else
if c.1=1 then
(Zl c.2 ((K3 (K2 b)).length:Int)).bind λa=>
(atI (K3 (K2 b)) a.1).bind λg=>
(JL (K2 b) a.1 (Wq (((Gc g).length:Int)-1))).bind λk=>
(atI ([(1:Int),0,3,2,4,6,5,7]) (Int.tmod (Gr g) (8:Int))).bind λm=>
Xb b f (1:Int) k m (0:Int) (0:Int) ([]:List UInt8) (([]:List Int),([]:List Int),([]:List Int),([]:List Int),()) a.2
else
if c.1=2 then
if c.1=2 then
(XF c.2 b).bind λd=>
(Zl d.2 (2:Int)).bind λa=>
(Zl a.2 (3:Int)).bind λe=>
(Vw e.1).bind λi=>
Zy ((([(120:UInt8)].length):Int)+(i.length:Int)<=9223372036854775807)<|
Xb b f (2:Int) d.1 a.1 (0:Int) (0:Int) ([(120:UInt8)]++i) (([]:List Int),([]:List Int),([]:List Int),([]:List Int),()) e.2
else
if c.1=4 then
Xb b f (3:Int) (0:Int) (0:Int) (0:Int) (0:Int) ([]:List UInt8) (([]:List Int),([]:List Int),([]:List Int),([]:List Int),()) c.2
else
if c.1=5 then
(XF c.2 b).bind λd=>
(Zl d.2 ((K4 b).length:Int)).bind λa=>
(atI (K4 b) a.1).bind λg=>
(Zl a.2 ((K8 g).length:Int)).bind λe=>
Xb b f (4:Int) d.1 (0:Int) a.1 e.1 ([]:List UInt8) (([]:List Int),([]:List Int),([]:List Int),([]:List Int),()) e.2
else
(Zl c.2 ((K4 b).length:Int)).bind λa=>
(Xv (K2 b) a.1).bind λj=>
(Vb a.2 (j.length:Int)).bind λh=>
Xb b f (5:Int) (0:Int) (0:Int) a.1 (0:Int) ([]:List UInt8) h.1 h.2
else
if c.1=3 then
(XF c.2 b).bind λd=>
(Zl d.2 (2:Int)).bind λa=>
(Zl a.2 (3:Int)).bind λe=>
(Vw e.1).bind λi=>
Zy ((([(120:UInt8)].length):Int)+(i.length:Int)<=9223372036854775807)<|
Xb b f (2:Int) d.1 a.1 (0:Int) (0:Int) ([(120:UInt8)]++i) (([]:List Int),([]:List Int),([]:List Int),([]:List Int),()) e.2
else
if c.1=4 then
Xb b f (3:Int) (0:Int) (0:Int) (0:Int) (0:Int) ([]:List UInt8) (([]:List Int),([]:List Int),([]:List Int),([]:List Int),()) c.2
else
if c.1=5 then
(XF c.2 b).bind λd=>
(Zl d.2 ((K4 b).length:Int)).bind λa=>
(atI (K4 b) a.1).bind λg=>
(Zl a.2 ((K8 g).length:Int)).bind λe=>
Xb b f (4:Int) d.1 (0:Int) a.1 e.1 ([]:List UInt8) (([]:List Int),([]:List Int),([]:List Int),([]:List Int),()) e.2
else
(Zl c.2 ((K4 b).length:Int)).bind λa=>
(Xv (K2 b) a.1).bind λj=>
(Vb a.2 (j.length:Int)).bind λh=>
Xb b f (5:Int) (0:Int) (0:Int) a.1 (0:Int) ([]:List UInt8) h.1 h.2
else
some ((3,0,0,0,0,[],([],[],[],[],()),()),l)
def c38:Ctr:=⟨[.io (.flat (XY)),.dat (Ya)],[.own (ZtU)],λa K=>Zr a λc a=>Zr a λb a=>Yk (ZbC c b) λr=>K (r.1,()) (r.2,())⟩
def ZhP (a:Zh):Option Bool:=
if K7 a=1 then
if Gk a=0 then
if GC a=0 then
if Gg a=([]:List UInt8)then
some (decide (Wq (Wq (Wq (((K8 (GG a)).length:Int)+((GB (GG a)).length:Int))+((GE (GG a)).length:Int))+((Gu (GG a)).length:Int))=0))
else
some false
else
some false
else
some false
else
if K7 a=2 then
if Gk a=0 then
if GC a=0 then
some (decide (Wq (Wq (Wq (((K8 (GG a)).length:Int)+((GB (GG a)).length:Int))+((GE (GG a)).length:Int))+((Gu (GG a)).length:Int))=0))
else
some false
else
some false
else
if K7 a=3 then
if K9 a=0 then
if Gy a=0 then
if Gk a=0 then
if GC a=0 then
if Gg a=([]:List UInt8)then
some (decide (Wq (Wq (Wq (((K8 (GG a)).length:Int)+((GB (GG a)).length:Int))+((GE (GG a)).length:Int))+((Gu (GG a)).length:Int))=0))
else
some false
else
some false
else
some false
else
some false
else
some false
else
if K7 a=4 then
if Gy a=0 then
if Gg a=([]:List UInt8)then
some (decide (Wq (Wq (Wq (((K8 (GG a)).length:Int)+((GB (GG a)).length:Int))+((GE (GG a)).length:Int))+((Gu (GG a)).length:Int))=0))
else
some false
else
some false
else
if K7 a=5 then
if K9 a=0 then
if Gy a=0 then
if GC a=0 then
some (decide (Gg a=([]:List UInt8)))
else
some false
else
some false
else
some false
else
some false
def c39:Ctr:=D1 (XI) (.bool) ZhP
def ZhQ (c:Za) (a:Zh):Option Bool:=
(YJ (K2 c)).bind λe=>
if K7 a=1 then
if K7 a=1 then
(Z4 (K9 a) 0 (Wq ((e.length:Int)-1))).bind λb=>
if b then
(Z4 (Gy a) 0 (Wq (((Gd (K6 c)).length:Int)-1))).bind λd=>
some d
else
some false
else
if K7 a=4 then
(Z4 (K9 a) 0 (Wq ((e.length:Int)-1))).bind λb=>
if b then
(Z4 (Gk a) 0 (Wq (((K4 c).length:Int)-1))).bind λd=>
if d then
(atI (K4 c) (Gk a)).bind λg=>
(Z4 (GC a) 0 (Wq (((K8 g).length:Int)-1))).bind λf=>
some f
else
some false
else
some false
else
if K7 a=5 then
(Z4 (Gk a) 0 (Wq (((K4 c).length:Int)-1))).bind λb=>
some b
else
some true
else
if K7 a=2 then
(Z4 (K9 a) 0 (Wq ((e.length:Int)-1))).bind λb=>
if b then
(Z4 (Gy a) 0 (Wq (((Gd (K6 c)).length:Int)-1))).bind λd=>
some d
else
some false
else
if K7 a=4 then
(Z4 (K9 a) 0 (Wq ((e.length:Int)-1))).bind λb=>
if b then
(Z4 (Gk a) 0 (Wq (((K4 c).length:Int)-1))).bind λd=>
if d then
(atI (K4 c) (Gk a)).bind λg=>
(Z4 (GC a) 0 (Wq (((K8 g).length:Int)-1))).bind λf=>
some f
else
some false
else
some false
else
if K7 a=5 then
(Z4 (Gk a) 0 (Wq (((K4 c).length:Int)-1))).bind λb=>
some b
else
some true
def c40:Ctr:=D2 (Ya) (XI) (.bool) ZhQ
def Vj (b d:Zo) (a:Int):Option ((Int×Unit)⊕Bool):=
if a<((Gb b).length:Int)then
(atI (Gb b) a).bind λe=>
(atI (Gb d) a).bind λc=>
if(Gn e==Gn c)=true then
some (.inl (Wq (a+1),()))
else
some (.inr false)
else
some (.inr true)
def Vd (b a:Zo):Option Bool:=
if GI b=GI a then
if((Gb b).length:Int)=((Gb a).length:Int)then
ZA (λv=>Vj b a v.1) ((0:Int),())
else
some false
else
some false
def c41:Ctr:=D2 (Zcq) (Zcq) (.bool) Vd
def JC (a:Zo):Option Bool:=
if GI a=1 then
some (decide (((Gb a).length:Int)=2))
else
some false
def c42:Ctr:=D1 (Zcq) (.bool) JC
def Zcf (c:Zb) (a:List UInt8) (b:Int):Option ((Int×Unit)⊕Int):=
if b<((K3 c).length:Int)then
(atI (K3 c) b).bind λd=>
if Gq d=a then
some (.inr b)
else
some (.inl (Wq (b+1),()))
else
some (.inr (-1))
def Zdr (b:Zb) (a:List UInt8):Option Int:=
ZA (λv=>Zcf b a v.1) ((0:Int),())
def c43:Ctr:=D2 (YN) (.str) Iq Zdr
def Ze6 (a:List (List UInt8)) (c:List UInt8) (b:Int):Option ((Int×Unit)⊕Int):=
if b<(a.length:Int)then
(atI a b).bind λd=>
if d=c then
some (.inr b)
else
some (.inl (Wq (b+1),()))
else
some (.inr (-1))
def Zka (b:List (List UInt8)) (a:List UInt8):Option Int:=
ZA (λv=>Ze6 b a v.1) ((0:Int),())
def c44:Ctr:=D2 (.sl (.str)) (.str) Iq Zka
def ZhM (c:Zb) (a:List UInt8):Option Int:=
(Zka (K5 c) a).bind λb=>
some b
def c45:Ctr:=D2 (YN) (.str) Iq ZhM
def ZiT (a:Zq):Option Bool:=
if((K8 a).length:Int)=1 then
(atI (GE a) 0).bind λb=>
some (decide (b=0))
else
some false
def c46:Ctr:=D1 (ZbR) (.bool) ZiT
def Zfw (a:Za):Option Bool:=
if Wq (((K3 (K2 a)).length:Int)-1)<0 then
some false
else
(atI (K3 (K2 a)) (Wq (((K3 (K2 a)).length:Int)-1))).bind λb=>
(atI (Gd (K6 a)) (Gr b)).bind λg=>
(JC g).bind λd=>
if d then
(atI (Gc b) 1).bind λe=>
if e=Wq (((K4 a).length:Int)-1)then
(atI (K5 (K2 a)) (Wq (((K4 a).length:Int)-1))).bind λf=>
if f=Gq b then
(atI (Gc b) 0).bind λj=>
if j=Wq (((K4 a).length:Int)-1)then
some false
else
(Xv (K2 a) (Wq (((K4 a).length:Int)-1))).bind λc=>
if(c.length:Int)=1 then
(atI (K4 a) (Wq (((K4 a).length:Int)-1))).bind λh=>
(ZiT h).bind λi=>
some i
else
some false
else
some false
else
some false
else
some false
def c47:Ctr:=D1 (Ya) (.bool) Zfw
def Zee (b:Za) (a:Zh):Option Bool:=
(YJ (K2 b)).bind λd=>
if K7 a=1 then
(atI d (K9 a)).bind λc=>
if 0<=GL c then
if(GX c)=true then
(atI (K3 (K2 b)) (GL c)).bind λe=>
(atI (Gd (K6 b)) (Gr e)).bind λi=>
(atI (Gd (K6 b)) (Gy a)).bind λl=>
(Vd i l).bind λf=>
some f
else
some false
else
some false
else
if K7 a=2 then
(atI d (K9 a)).bind λc=>
if(GX c)=true then
some false
else
(atI (Gd (K6 b)) (Gy a)).bind λe=>
(JC e).bind λm=>
if m then
(Zcv (Gg a)).bind λg=>
if g then
(Zdr (K2 b) (Gg a)).bind λk=>
if k<0 then
(ZhM (K2 b) (Gg a)).bind λj=>
some (decide (j<0))
else
some false
else
some false
else
some false
else
if K7 a=3 then
(Zfw b).bind λo=>
some o
else
if K7 a=4 then
(atI d (K9 a)).bind λc=>
if(GX c)=true then
some false
else
some (!decide (ZG.net c=Gk a))
else
(Xv (K2 b) (Gk a)).bind λn=>
(Zik (GG a) (n.length:Int)).bind λh=>
some h
def c48:Ctr:=D2 (Ya) (XI) (.bool) Zee
def VQ (a:Za) (b:Zh):Option Int:=
(QV a).bind λe=>
if e then
(ZhP b).bind λc=>
if c then
(ZhQ a b).bind λf=>
if f then
(Zee a b).bind λd=>
if d then
if K7 b=2 then
if((K3 (K2 a)).length:Int)=14 then
some 3
else
if((K4 a).length:Int)=30 then
some 3
else
some 0
else
some 0
else
some 5
else
some 2
else
some 2
else
some 1
def c49:Ctr:=D2 (Ya) (XI) Iq VQ
def Zj7 (a:ZE):Option ZE:=
(Xc (GS a)).bind λc=>
(Xc (GA a)).bind λb=>
(Xc (Gz a)).bind λd=>
some (c,b,d,())
def c50:Ctr:=⟨[.dat (Zaw)],[.own (ZkH)],λa K=>Zr a λb a=>Yk (Zj7 b) λr=>K (r,()) ()⟩
def Zan (b a:List ZE) (c:Int):Option (((List ZE)×Int×Unit)⊕List ZE):=
if c<(b.length:Int)then
(atI b c).bind λe=>
(Zj7 e).bind λd=>
Zy ((a.length+[d].length)*72<=140737488355328)<|
some (.inl (a++[d],Wq (c+1),()))
else
some (.inr a)
def Zci (a:List ZE):Option (List ZE):=
ZA (λv=>Zan a v.1 v.2.1) (([]:List ZE),(0:Int),())
def c51:Ctr:=⟨[.dat (.sl (Zaw))],[.own (.ol 330 (ZkH))],λa K=>Zr a λb a=>Yk (Zci b) λr=>K (r,()) ()⟩
def Zd9 (c:Zo) (b:List Int) (d:Int) (e:List ZK):Option ((Int×(List ZK)×Unit)⊕Zo):=
if d<((Gp c).length:Int)then
(atI (Gp c) d).bind λa=>
(Zci (GJ a)).bind λg=>
(Zci (GQ a)).bind λf=>
Zy ((e.length+[(Gf a,Gs a,Gw a,GH a,g,f,())].length)*80<=140737488355328)<|
some (.inl (Wq (d+1),e++[(Gf a,Gs a,Gw a,GH a,g,f,())],()))
else
some (.inr (GV c,GI c,([]:List (List UInt8×Int×Int×Bool×Unit))++Gb c,e,b,c.2.2.2.2.2))
def Zj9 (a:Zo):Option Zo:=
Zy ((([]:List (List UInt8×Int×Int×Bool×Unit)).length+(Gb a).length)*40<=140737488355328)<|
(Xc (GD a)).bind λb=>
ZA (λv=>Zd9 a b v.1 v.2.1) ((0:Int),([]:List ZK),())
def c52:Ctr:=⟨[.dat (Zcq)],[.own (Zsl)],λa K=>Zr a λb a=>Yk (Zj9 b) λr=>K (r,()) ()⟩
def JZ (d:Zu) (a:Int) (b:List Zo):Option ((Int×(List Zo)×Unit)⊕Zu):=
if a<((Gd d).length:Int)then
(atI (Gd d) a).bind λe=>
(Zj9 e).bind λc=>
Zy ((b.length+[c].length)*112<=140737488355328)<|
some (.inl (Wq (a+1),b++[c],()))
else
some (.inr (b,()))
def Zds (a:Zu):Option Zu:=
ZA (λv=>JZ a v.1 v.2.1) ((0:Int),([]:List Zo),())
def c53:Ctr:=⟨[.dat (X9)],[.own (Zpb)],λa K=>Zr a λb a=>Yk (Zds b) λr=>K (r,()) ()⟩
def Zeb (b:Zb) (d:Int) (c:List Zd):Option ((Int×(List Zd)×Unit)⊕Zb):=
if d<((K3 b).length:Int)then
(atI (K3 b) d).bind λa=>
(Xc (Gc a)).bind λe=>
Zy ((c.length+[(Gq a,Gr a,e,())].length)*48<=140737488355328)<|
some (.inl (Wq (d+1),c++[(Gq a,Gr a,e,())],()))
else
some (.inr (c,([]:List (List UInt8))++K5 b,([]:List (List UInt8×Int×Int×Unit))++Ge b,()))
def Zkb (a:Zb):Option Zb:=
Zy ((([]:List (List UInt8)).length+(K5 a).length)*16<=140737488355328)<|
Zy ((([]:List (List UInt8×Int×Int×Unit)).length+(Ge a).length)*32<=140737488355328)<|
ZA (λv=>Zeb a v.1 v.2.1) ((0:Int),([]:List Zd),())
def c54:Ctr:=⟨[.dat (YN)],[.own (ZpA)],λa K=>Zr a λb a=>Yk (Zkb b) λr=>K (r,()) ()⟩
def ZdP (a:Zq):Option Zq:=
(Xc (K8 a)).bind λd=>
(Xc (GB a)).bind λb=>
(Xc (GE a)).bind λe=>
(Xc (Gu a)).bind λc=>
some (d,b,e,c,())
def c55:Ctr:=⟨[.dat (ZbR)],[.own (ZoN)],λa K=>Zr a λb a=>Yk (ZdP b) λr=>K (r,()) ()⟩
def Zec (f:Za) (a:Zu) (b:Zb) (d:Int) (c:List Zq):Option ((Int×(List Zq)×Unit)⊕Za):=
if d<((K4 f).length:Int)then
(atI (K4 f) d).bind λg=>
(ZdP g).bind λe=>
Zy ((c.length+[e].length)*96<=140737488355328)<|
some (.inl (Wq (d+1),c++[e],()))
else
some (.inr (a,b,c,()))
def Zin (a:Za):Option Za:=
(Zds (K6 a)).bind λc=>
(Zkb (K2 a)).bind λb=>
ZA (λv=>Zec a c b v.1 v.2.1) ((0:Int),([]:List Zq),())
def c56:Ctr:=⟨[.dat (Ya)],[.own (Zex)],λa K=>Zr a λb a=>Yk (Zin b) λr=>K (r,()) ()⟩
def Zfd (g:Za) (b:Int) (a:List Int) (c:Int) (d:List Int):Option ((Int×(List Int)×Unit)⊕((Int×(List Int)×Unit)⊕List Int)):=
if c<(a.length:Int)then
(atI a c).bind λe=>
(atI (K4 g) b).bind λh=>
(atI (Gu h) c).bind λf=>
(atI d e).bind λi=>
some (.inl (Wq (c+1),List.set d (Int.toNat e) f,()))
else
some (.inr (.inl (Wq (b+1),d,())))
def Zfe (b:Za) (a:Int) (c:List Int):Option ((Int×(List Int)×Unit)⊕List Int):=
if a<((K4 b).length:Int)then
(Xv (K2 b) a).bind λd=>
ZA (λv=>Zfd b a d v.1 v.2.1) ((0:Int),c,())
else
some (.inr c)
def Zed (b:Za):Option (List Int):=
(YJ (K2 b)).bind λa=>
Zy ((0:Int)<=(a.length:Int))<|
Zy ((a.length:Int)<=(a.length:Int))<|
Zy ((a.length:Int)<=4611686018427387904)<|
Zy (((8:Nat):Int)*(a.length:Int)<=281474976710656)<|
ZA (λv=>Zfe b v.1 v.2.1) ((0:Int),List.replicate (Int.toNat (a.length:Int)) (0:Int),())
def c57:Ctr:=⟨[.dat (Ya)],[.own (.ol 2 (.flat Iq))],λa K=>Zr a λb a=>Yk (Zed b) λr=>K (r,()) ()⟩
def Zck (a:Zb) (c:ZG) (d:Int):Option Zb:=
if GL c<0 then
(atI (Ge a) (ZG.pin c)).bind λb=>
some (K3 a,K5 a,List.set (Ge a) (Int.toNat (ZG.pin c)) (GT b,GF b,d,()),())
else
(atI (K3 a) (GL c)).bind λb=>
(atI b.2.2.1 (ZG.pin c)).bind λe=>
some (List.set (K3 a) (Int.toNat (GL c)) (b.1,b.2.1,List.set b.2.2.1 (Int.toNat (ZG.pin c)) d,()),a.2)
def c58:Ctr:=⟨[.back (ZpA),.dat (Zgm),.dat Iq],[],λa K=>Zr a λd a=>Zr a λc a=>Zr a λb a=>Yk (Zck d c b) λr=>K () (r,())⟩
def Zeu (e:List Int) (c:Int) (h:List (List Int×List Int×List Int×List Int×Unit)) (a b:List Int) (f:Int):Option (((List Int)×Int×Unit)⊕((Int×(List (List Int×List Int×List Int×List Int×Unit))×Unit)⊕Za)):=
if f<(a.length:Int)then
(atI a f).bind λd=>
(atI e d).bind λg=>
Zy ((b.length+[g].length)*8<=140737488355328)<|
some (.inl (b++[g],Wq (f+1),()))
else
(atI h c).bind λd=>
some (.inr (.inl (Wq (c+1),List.set h (Int.toNat c) (d.1,d.2.1,d.2.2.1,b,()),())))
def ZbX (c:Za) (b:List Int) (a:Int) (d:List (List Int×List Int×List Int×List Int×Unit)):Option ((Int×(List (List Int×List Int×List Int×List Int×Unit))×Unit)⊕Za):=
if a<(d.length:Int)then
(Xv (K2 c) a).bind λe=>
ZA (λv=>Zeu b a d e v.1 v.2.1) (([]:List Int),(0:Int),())
else
some (.inr (K6 c,K2 c,d,()))
def JB (b:Za) (a:List Int):Option Za:=
ZA (λv=>ZbX b a v.1 v.2.1) ((0:Int),K4 b,())
def c59:Ctr:=⟨[.own (Zex),.dat (.sl Iq)],[.own (Zex)],λa K=>Zr a λc a=>Zr a λb a=>Yk (JB c b) λr=>K (r,()) ()⟩
def Zdc (b:Za) (c:Zh):Option Za:=
(YJ (K2 b)).bind λj=>
(atI j (K9 c)).bind λg=>
(Zed b).bind λa=>
(atI a (K9 c)).bind λe=>
Zy ((0:Int)<=Wq ((a.length:Int)-((Ge (K2 b)).length:Int)))<|
Zy (Wq ((a.length:Int)-((Ge (K2 b)).length:Int))<=(a.length:Int))<|
(Xc (List.take (Int.toNat (Wq ((a.length:Int)-((Ge (K2 b)).length:Int)))-Int.toNat 0) (List.drop (Int.toNat 0) a))).bind λf=>
Zy ((f.length+[e,(0:Int)].length)*8<=140737488355328)<|
Zy ((a.length:Int)<=(a.length:Int))<|
Zy (((f++[e,(0:Int)]).length+(List.take (Int.toNat (a.length:Int)-Int.toNat (Wq ((a.length:Int)-((Ge (K2 b)).length:Int)))) (List.drop (Int.toNat (Wq ((a.length:Int)-((Ge (K2 b)).length:Int)))) a)).length)*8<=140737488355328)<|
(Zck (K2 b) g ((K4 b).length:Int)).bind λd=>
if Wq ((a.length:Int)-((Ge (K2 b)).length:Int))<=K9 c then
(atI (f++[e,(0:Int)]++List.take (Int.toNat (a.length:Int)-Int.toNat (Wq ((a.length:Int)-((Ge (K2 b)).length:Int)))) (List.drop (Int.toNat (Wq ((a.length:Int)-((Ge (K2 b)).length:Int)))) a)) (Wq (K9 c+2))).bind λk=>
Zy (((K3 d).length+[(Gg c,Gy c,[ZG.net g,((K4 b).length:Int)],())].length)*48<=140737488355328)<|
Zy (((K5 d).length+[Gg c].length)*16<=140737488355328)<|
(Zav 1 0).bind λh=>
Zy (((K4 b).length+[h].length)*96<=140737488355328)<|
(JB (K6 b,(K3 d++[(Gg c,Gy c,[ZG.net g,((K4 b).length:Int)],())],K5 d++[Gg c],d.2.2),K4 b++[h],()) (List.set (f++[e,(0:Int)]++List.take (Int.toNat (a.length:Int)-Int.toNat (Wq ((a.length:Int)-((Ge (K2 b)).length:Int)))) (List.drop (Int.toNat (Wq ((a.length:Int)-((Ge (K2 b)).length:Int)))) a)) (Int.toNat (Wq (K9 c+2))) (0:Int))).bind λi=>
some i
else
(atI (f++[e,(0:Int)]++List.take (Int.toNat (a.length:Int)-Int.toNat (Wq ((a.length:Int)-((Ge (K2 b)).length:Int)))) (List.drop (Int.toNat (Wq ((a.length:Int)-((Ge (K2 b)).length:Int)))) a)) (K9 c)).bind λk=>
Zy (((K3 d).length+[(Gg c,Gy c,[ZG.net g,((K4 b).length:Int)],())].length)*48<=140737488355328)<|
Zy (((K5 d).length+[Gg c].length)*16<=140737488355328)<|
(Zav 1 0).bind λh=>
Zy (((K4 b).length+[h].length)*96<=140737488355328)<|
(JB (K6 b,(K3 d++[(Gg c,Gy c,[ZG.net g,((K4 b).length:Int)],())],K5 d++[Gg c],d.2.2),K4 b++[h],()) (List.set (f++[e,(0:Int)]++List.take (Int.toNat (a.length:Int)-Int.toNat (Wq ((a.length:Int)-((Ge (K2 b)).length:Int)))) (List.drop (Int.toNat (Wq ((a.length:Int)-((Ge (K2 b)).length:Int)))) a)) (Int.toNat (K9 c)) (0:Int))).bind λi=>
some i
def c60:Ctr:=⟨[.own (Zex),.dat (XI)],[.own (Zex)],λa K=>Zr a λc a=>Zr a λb a=>Yk (Zdc c b) λr=>K (r,()) ()⟩
def Zg2 (a:Za):Option Za:=
(Zed a).bind λb=>
(Xv (K2 a) (Wq (((K4 a).length:Int)-1))).bind λh=>
(atI h 0).bind λc=>
(atI b (Wq (Wq ((b.length:Int)-((Ge (K2 a)).length:Int))-2))).bind λd=>
(atI b c).bind λm=>
(atI (K3 (K2 a)) (Wq (((K3 (K2 a)).length:Int)-1))).bind λf=>
(atI f.2.2.1 0).bind λl=>
(YJ (List.set (K3 (K2 a)) (Int.toNat (Wq (((K3 (K2 a)).length:Int)-1))) f,(K2 a).2)).bind λk=>
(atI k c).bind λj=>
(Zck (List.set (K3 (K2 a)) (Int.toNat (Wq (((K3 (K2 a)).length:Int)-1))) f,(K2 a).2) j l).bind λe=>
Zy ((0:Int)<=Wq (Wq ((b.length:Int)-((Ge (K2 a)).length:Int))-2))<|
Zy (Wq (Wq ((b.length:Int)-((Ge (K2 a)).length:Int))-2)<=((List.set b (Int.toNat c) d).length:Int))<|
(Xc (List.take (Int.toNat (Wq (Wq ((b.length:Int)-((Ge (K2 a)).length:Int))-2))-Int.toNat 0) (List.drop (Int.toNat 0) (List.set b (Int.toNat c) d)))).bind λg=>
Zy ((0:Int)<=Wq ((b.length:Int)-((Ge (K2 a)).length:Int)))<|
Zy (Wq ((b.length:Int)-((Ge (K2 a)).length:Int))<=((List.set b (Int.toNat c) d).length:Int))<|
Zy (((List.set b (Int.toNat c) d).length:Int)<=((List.set b (Int.toNat c) d).length:Int))<|
Zy ((g.length+(List.take (Int.toNat ((List.set b (Int.toNat c) d).length:Int)-Int.toNat (Wq ((b.length:Int)-((Ge (K2 a)).length:Int)))) (List.drop (Int.toNat (Wq ((b.length:Int)-((Ge (K2 a)).length:Int)))) (List.set b (Int.toNat c) d))).length)*8<=140737488355328)<|
Zy ((0:Int)<=Wq (((K3 (K2 a)).length:Int)-1))<|
Zy (Wq (((K3 (K2 a)).length:Int)-1)<=((K3 e).length:Int))<|
Zy ((0:Int)<=Wq (((K4 a).length:Int)-1))<|
Zy (Wq (((K4 a).length:Int)-1)<=((K5 e).length:Int))<|
Zy (Wq (((K4 a).length:Int)-1)<=((K4 a).length:Int))<|
(JB (K6 a,(List.take (Int.toNat (Wq (((K3 (K2 a)).length:Int)-1))-Int.toNat 0) (List.drop (Int.toNat 0) (K3 e)),List.take (Int.toNat (Wq (((K4 a).length:Int)-1))-Int.toNat 0) (List.drop (Int.toNat 0) (K5 e)),e.2.2),List.take (Int.toNat (Wq (((K4 a).length:Int)-1))-Int.toNat 0) (List.drop (Int.toNat 0) (K4 a)),()) (g++List.take (Int.toNat ((List.set b (Int.toNat c) d).length:Int)-Int.toNat (Wq ((b.length:Int)-((Ge (K2 a)).length:Int)))) (List.drop (Int.toNat (Wq ((b.length:Int)-((Ge (K2 a)).length:Int)))) (List.set b (Int.toNat c) d)))).bind λi=>
some i
def c61:Ctr:=⟨[.own (Zex)],[.own (Zex)],λa K=>Zr a λb a=>Yk (Zg2 b) λr=>K (r,()) ()⟩
def Zgh (i:Za) (b:Zh):Option Za:=
(Zin i).bind λa=>
(YJ (K2 a)).bind λe=>
if K7 b=1 then
(atI e (K9 b)).bind λc=>
(atI (K3 (K2 a)) (GL c)).bind λd=>
some (K6 a,(List.set (K3 (K2 a)) (Int.toNat (GL c)) (d.1,Gy b,d.2.2),(K2 a).2),a.2.2)
else
if K7 b=2 then
(Zdc a b).bind λj=>
some j
else
if K7 b=3 then
(Zg2 a).bind λg=>
some g
else
if K7 b=4 then
(Zed a).bind λf=>
(atI f (K9 b)).bind λc=>
(atI e (K9 b)).bind λd=>
(Zck (K2 a) d (Gk b)).bind λh=>
(JB (K6 a,h,a.2.2) (List.set f (Int.toNat (K9 b)) (GC b))).bind λl=>
some l
else
if K7 b=5 then
(ZdP (GG b)).bind λk=>
(atI (K4 a) (Gk b)).bind λc=>
some (K6 a,K2 a,List.set (K4 a) (Int.toNat (Gk b)) k,())
else
some a
def c62:Ctr:=⟨[.dat (Ya),.dat (XI)],[.own (Zex)],λa K=>Zr a λc a=>Zr a λb a=>Yk (Zgh c b) λr=>K (r,()) ()⟩
def JA (a:Za) (b:Zh):Option (Za×Int):=
(VQ a b).bind λc=>
if c=0 then
(Zgh a b).bind λd=>
some (d,0)
else
some ((([],()),([],[],[],()),[],()),c)
def c63:Ctr:=⟨[.dat (Ya),.dat (XI)],[.own (Zex),.dat Iq],λa K=>Zr a λb a=>Zr a λc a=>Yk (JA b c) λr=>K (r.1,r.2,()) ()⟩
def c64:Ctr:=⟨[.dat (Ya),.dat (XI)],[.dat (Ya),.dat Iq],λa K=>Zr a λb a=>Zr a λc a=>Yk (JA b c) λr=>K (r.1,r.2,()) ()⟩
def ZcN (a:List Zh) (g:Int) (k:List Int) (l j:Int) (h:List Zo) (d:List Zd) (i:List (List UInt8)) (e:List Z6) (f:List Zq):Option (((List Zh)×Int×(List Int)×Int×Int×(List Zo)×(List Zd)×(List (List UInt8))×(List Z6)×(List Zq)×Unit)⊕((List Zh)×Zm)):=
if 0<g then
(ZbC (k,l,j,()) ((h,()),(d,i,e,()),f,())).bind λb=>
(JA ((h,()),(d,i,e,()),f,()) b.1).bind λc=>
if c.2=0 then
Zy ((a.length+[b.1].length)*152<=140737488355328)<|
some (.inl (a++[b.1],Wq (g-1),b.2.1,b.2.2.1,b.2.2.2.1,c.1.1.1,c.1.2.1.1,c.1.2.1.2.1,c.1.2.1.2.2.1,c.1.2.2.1,()))
else
some (.inl (a,Wq (g-1),b.2.1,b.2.2.1,b.2.2.2.1,h,d,i,e,f,()))
else
some (.inr (a,(k,l,j,())))
def Zcl (d:Zm) (a:Za) (b:Int):Option ((List Zh)×Zm):=
(Zl d (Wq (b+1))).bind λc=>
ZA (λv=>ZcN v.1 v.2.1 v.2.2.1 v.2.2.2.1 v.2.2.2.2.1 v.2.2.2.2.2.1 v.2.2.2.2.2.2.1 v.2.2.2.2.2.2.2.1 v.2.2.2.2.2.2.2.2.1 v.2.2.2.2.2.2.2.2.2.1) (([]:List Zh),c.1,c.2.1,c.2.2.1,c.2.2.2.1,Gd (K6 a),K3 (K2 a),K5 (K2 a),Ge (K2 a),K4 a,())
def c65:Ctr:=⟨[.io (.flat (XY)),.dat (Ya),.dat Iq],[.own (.ol 42 (ZtU))],λa K=>Zr a λd a=>Zr a λc a=>Zr a λb a=>Yk (Zcl d c b) λr=>K (r.1,()) (r.2,())⟩
def ZcK (c:List Int):Option (Za×(List Zh)):=
(Zfu c).bind λf=>
(Zcj f).bind λa=>
(Zcl a.2 a.1 4).bind λb=>
(Zl b.2 8).bind λd=>
if d.1=0 then
(ZbC d.2 a.1).bind λe=>
Zy ((b.1.length+[e.1].length)*152<=140737488355328)<|
some (a.1,b.1++[e.1])
else
if d.1=1 then
(Zl d.2 5).bind λg=>
if g.1=0 then
some (a.1,List.replicate (Int.toNat (21:Int)) ((0:Int),(0:Int),(0:Int),(0:Int),(0:Int),([]:List UInt8),(([]:List Int),([]:List Int),([]:List Int),([]:List Int),()),()))
else
some (a.1,b.1)
else
some (a.1,b.1)
def c66:Ctr:=⟨[.dat (.sl (.int .u8))],[.dat (Ya),.dat (.sl (XI))],λa K=>Zr a λb a=>Yk (ZcK b) λr=>K (r.1,r.2,()) ()⟩
def ZnP (a:List Int) (b:Int):Option (List Int):=
Zy (([b,IntKind.wrap IntKind.u8 (b+7),IntKind.wrap IntKind.u8 ((3:Int)*b)].length+a.length)*1<=140737488355328)<|
some ([b,IntKind.wrap IntKind.u8 (b+7),IntKind.wrap IntKind.u8 ((3:Int)*b)]++a)
def c67:Ctr:=⟨[.dat (.sl (.int .u8)),.dat (.int .u8)],[.own (.ol 5 (.flat (.int .u8)))],λa K=>Zr a λb a=>Zr a λc a=>Yk (ZnP b c) λr=>K (r,()) ()⟩
def Zef (d:Zm):Option (Za×Zm):=
(Zl d 12).bind λb=>
if b.1=0 then
(Zcj b.2).bind λc=>
some (c.1,c.2)
else
if b.1=1 then
if b.1=1 then
(Zau b.2 6 true).bind λa=>
some (a.1,a.2)
else
(Zau b.2 6 false).bind λa=>
some (a.1,a.2)
else
if b.1=2 then
(Zau b.2 6 true).bind λa=>
some (a.1,a.2)
else
(Zau b.2 6 false).bind λa=>
some (a.1,a.2)
def c68:Ctr:=⟨[.io (.flat (XY))],[.own (Zex)],λa K=>Zr a λb a=>Yk (Zef b) λr=>K (r.1,()) (r.2,())⟩
def J4 (j:Zm):Option (ZB×Zm):=
(Zl j 3).bind λh=>
(atI ([[(115:UInt8),108,111,119],[(102:UInt8),97,115,116],[(116:UInt8),121,112]]) h.1).bind λg=>
(Zl h.2 20).bind λa=>
(Zl a.2 20).bind λc=>
(Zl c.2 60).bind λd=>
(Zl d.2 40).bind λe=>
(Zl e.2 30).bind λb=>
if b.1=0 then
some ((g,Wq (800+Wq (10*a.1)),Wq (Wq (800+Wq (10*a.1))-1),Wq (900+Wq (10*c.1)),Wq (Wq (900+Wq (10*c.1))+Wq (9*e.1)),()),b.2)
else
if b.1=1 then
(Zl b.2 3).bind λf=>
(atI ([(99:Int),100,-1]) f.1).bind λi=>
some ((g,Wq (800+Wq (10*a.1)),Wq (Wq (800+Wq (10*a.1))+Wq (7*d.1)),i,Wq (Wq (900+Wq (10*c.1))+Wq (9*e.1)),()),f.2)
else
if b.1=2 then
(Zl b.2 2).bind λf=>
some ((g,Wq (800+Wq (10*a.1)),Wq (Wq (800+Wq (10*a.1))+Wq (7*d.1)),Wq (900+Wq (10*c.1)),Wq (5000+f.1),()),f.2)
else
if b.1=3 then
some (([],Wq ((800:Int)+Wq ((10:Int)*a.1)),Wq (Wq ((800:Int)+Wq ((10:Int)*a.1))+Wq ((7:Int)*d.1)),Wq ((900:Int)+Wq ((10:Int)*c.1)),Wq (Wq ((900:Int)+Wq ((10:Int)*c.1))+Wq ((9:Int)*e.1)),()),b.2)
else
some ((g,Wq (800+Wq (10*a.1)),Wq (Wq (800+Wq (10*a.1))+Wq (7*d.1)),Wq (900+Wq (10*c.1)),Wq (Wq (900+Wq (10*c.1))+Wq (9*e.1)),()),b.2)
def c69:Ctr:=⟨[.io (.flat (XY))],[.dat (XR)],λa K=>Zr a λb a=>Yk (J4 b) λr=>K (r.1,()) (r.2,())⟩
def ZbE (d:List Zt) (b e g f c a:Int):Option (List Zt):=
Zy ((d.length+[(Wq (Wq ((2:Int)*b)+g),Wq (Wq ((2:Int)*e)+f),c,a,())].length)*32<=140737488355328)<|
some (d++[(Wq (Wq ((2:Int)*b)+g),Wq (Wq ((2:Int)*e)+f),c,a,())])
def c70:Ctr:=⟨[.own (.ol 222 (.flat (ZcP))),.dat Iq,.dat Iq,.dat Iq,.dat Iq,.dat Iq,.dat Iq],[.own (.ol 222 (.flat (ZcP)))],λa K=>Zr a λc a=>Zr a λe a=>Zr a λf a=>Zr a λh a=>Zr a λg a=>Zr a λd a=>Zr a λb a=>Yk (ZbE c e f h g d b) λr=>K (r,()) ()⟩
def Zcm (e:ZK) (d h c f:Int) (a:List Zt) (b:Int):Option (((List Zt)×Int×Unit)⊕(((List Zt)×Int×Unit)⊕List Zt)):=
if b<=1 then
if Gf e=1 then
if GH e=3 then
(ZbE a d h f b 1 c).bind λg=>
some (.inl (g,Wq (b+1),()))
else
if(decide (GH e=1)==decide (f=b))=true then
(ZbE a d h f b 1 c).bind λg=>
some (.inl (g,Wq (b+1),()))
else
some (.inl (a,Wq (b+1),()))
else
if Gf e=2 then
if f=0 then
(ZbE a d h f b 1 c).bind λg=>
some (.inl (g,Wq (b+1),()))
else
some (.inl (a,Wq (b+1),()))
else
if Gf e=3 then
if f=1 then
(ZbE a d h f b 1 c).bind λg=>
some (.inl (g,Wq (b+1),()))
else
some (.inl (a,Wq (b+1),()))
else
some (.inl (a,Wq (b+1),()))
else
some (.inr (.inl (a,Wq (f+1),())))
def ZaF (d:ZK) (c e b:Int) (a:List Zt) (f:Int):Option (((List Zt)×Int×Unit)⊕List Zt):=
if f<=1 then
ZA (λv=>Zcm d c e b f v.1 v.2.1) (a,(0:Int),())
else
some (.inr a)
def Zkc (c:List Zt) (d:ZK) (b e a:Int):Option (List Zt):=
ZA (λv=>ZaF d b e a v.1 v.2.1) (c,(0:Int),())
def c71:Ctr:=⟨[.own (.ol 222 (.flat (ZcP))),.dat (Zof),.dat Iq,.dat Iq,.dat Iq],[.own (.ol 222 (.flat (ZcP)))],λa K=>Zr a λc a=>Zr a λe a=>Zr a λd a=>Zr a λf a=>Zr a λb a=>Yk (Zkc c e d f b) λr=>K (r,()) ()⟩
def Zep (c:Int) (a:List ZG) (b:Int):Option ((Int×Unit)⊕Int):=
if b<(a.length:Int)then
(atI a b).bind λd=>
if ZG.net d=c then
if(GX d)=true then
some (.inr b)
else
some (.inl (Wq (b+1),()))
else
some (.inl (Wq (b+1),()))
else
some (.inr (-1))
def Zdb (c:Zb) (a:Int):Option Int:=
(YJ c).bind λb=>
ZA (λv=>Zep a b v.1) ((0:Int),())
def c72:Ctr:=D2 (YN) Iq Iq Zdb
def ZcO (e:Za) (c:Int) (f:Zo) (d:List Zt) (a:Int):Option (((List Zt)×Int×Unit)⊕(((List Zt)×Int×Unit)⊕List Zt)):=
if a<((Gp f).length:Int)then
(atI (Gp f) a).bind λb=>
if Gf b<=3 then
(JL (K2 e) c (Gs b)).bind λh=>
(JL (K2 e) c (Gw b)).bind λg=>
(Zkc d b h g a).bind λi=>
some (.inl (i,Wq (a+1),()))
else
some (.inl (d,Wq (a+1),()))
else
some (.inr (.inl (d,Wq (c+1),())))
def Zff (h a:Int) (b:List Int) (d:List Zt) (c:Int):Option (((List Zt)×Int×Unit)⊕(((List Zt)×Int×Unit)⊕(((List Zt)×Int×Unit)⊕List Zt))):=
if c<(b.length:Int)then
(atI b c).bind λe=>
(ZbE d a e 0 0 2 c).bind λg=>
(ZbE g a e 1 1 2 c).bind λf=>
some (.inl (f,Wq (c+1),()))
else
some (.inr (.inl (d,Wq (h+1),())))
def Zfg (b:Za) (c:List Zt) (a:Int):Option (((List Zt)×Int×Unit)⊕(((List Zt)×Int×Unit)⊕List Zt)):=
if a<((K5 (K2 b)).length:Int)then
(Zdb (K2 b) a).bind λe=>
(Xv (K2 b) a).bind λd=>
ZA (λv=>Zff a e d v.1 v.2.1) (c,(0:Int),())
else
some (.inr (.inr c))
def Zfh (a:Za) (c:List Zt) (b:Int):Option (((List Zt)×Int×Unit)⊕List Zt):=
if b<((K3 (K2 a)).length:Int)then
(atI (K3 (K2 a)) b).bind λe=>
(atI (Gd (K6 a)) (Gr e)).bind λd=>
ZA (λv=>ZcO a b d v.1 v.2.1) (c,(0:Int),())
else
ZA (λv=>Zfg a v.1 v.2.1) (c,(0:Int),())
def ZbD (a:Za):Option (List Zt):=
ZA (λv=>Zfh a v.1 v.2.1) (([]:List (Int×Int×Int×Int×Unit)),(0:Int),())
def c73:Ctr:=⟨[.dat (Ya)],[.own (.ol 222 (.flat (ZcP)))],λa K=>Zr a λb a=>Yk (ZbD b) λr=>K (r,()) ()⟩
def Zcn (a:List Zt) (d:Int×Zm) (b:List Int) (e:Int) (h:List Int) (i g:Int):Option (((List Int)×Int×(List Int)×Int×Int×Unit)⊕((List Int)×Zm)):=
if e<(a.length:Int)then
Zy ((b.length+[e].length)*8<=140737488355328)<|
(Zl (h,i,g,()) (Wq (1+d.1))).bind λc=>
some (.inl (b++[e],Wq (e+Wq ((1:Int)+c.1)),c.2.1,c.2.2.1,c.2.2.2.1,()))
else
(Zl (h,i,g,()) 12).bind λc=>
if c.1=0 then
(Zl c.2 2).bind λf=>
Zy ((b.length+[Wq ((a.length:Int)*f.1)].length)*8<=140737488355328)<|
some (.inr (b++[Wq ((a.length:Int)*f.1)],f.2))
else
some (.inr (b,c.2))
def J3 (e:Zm) (d:Za):Option ((List Int)×Zm):=
(QV d).bind λf=>
if f then
(Zl e 3).bind λb=>
if 0<b.1 then
some ([],b.2)
else
(ZbD d).bind λg=>
(Zl b.2 8).bind λc=>
(Zl c.2 (Wq (1+c.1))).bind λa=>
ZA (λv=>Zcn g c v.1 v.2.1 v.2.2.1 v.2.2.2.1 v.2.2.2.2.1) (([]:List Int),a.1,a.2.1,a.2.2.1,a.2.2.2.1,())
else
some ([],e)
def c74:Ctr:=⟨[.io (.flat (XY)),.dat (Ya)],[.own (.ol 2 (.flat Iq))],λa K=>Zr a λc a=>Zr a λb a=>Yk (J3 c b) λr=>K (r.1,()) (r.2,())⟩
def ZgO (a:List Int) (c b:Int):Option ((Int×Unit)⊕Bool):=
if b<(a.length:Int)then
(atI a b).bind λd=>
if d=c then
some (.inr true)
else
some (.inl (Wq (b+1),()))
else
some (.inr false)
def ZgN (a:List Int) (b:Int):Option Bool:=
ZA (λv=>ZgO a b v.1) ((0:Int),())
def c75:Ctr:=D2 (.sl Iq) Iq (.bool) ZgN
def Zgi (c:List Zt) (b:List Int) (a:List Bool) (d:Int):Option (((List Bool)×Int×Unit)⊕List Bool):=
if d<(c.length:Int)then
(ZgN b d).bind λe=>
Zy ((a.length+[!e].length)*1<=140737488355328)<|
some (.inl (a++[!e],Wq (d+1),()))
else
some (.inr a)
def Zfx (b:List Zt) (a:List Int):Option (List Bool):=
ZA (λv=>Zgi b a v.1 v.2.1) (([]:List Bool),(0:Int),())
def c76:Ctr:=⟨[.dat (.sl (ZcP)),.dat (.sl Iq)],[.own (.ol 4 (.flat (.bool)))],λa K=>Zr a λc a=>Zr a λb a=>Yk (Zfx c b) λr=>K (r,()) ()⟩
def VT (a:Za):Option Int:=
(YJ (K2 a)).bind λb=>
some (Wq (2*(b.length:Int)))
def c77:Ctr:=D1 (Ya) Iq VT
def Qw (d:List Zt) (f:List Bool) (e a:Bool) (c:Int) (b:List Bool):Option ((Bool×Int×(List Bool)×Unit)⊕((Bool×(List Bool)×Unit)⊕List Bool)):=
if c<(d.length:Int)then
(atI d c).bind λg=>
if e then
(atI f c).bind λh=>
if h then
(atI b (Gj g)).bind λi=>
if i then
(atI b (Gm g)).bind λj=>
if j then
some (.inl (a,Wq (c+1),b,()))
else
some (.inl (true,Wq (c+1),List.set b (Int.toNat (Gm g)) true,()))
else
some (.inl (a,Wq (c+1),b,()))
else
some (.inl (a,Wq (c+1),b,()))
else
(atI f c).bind λh=>
if h then
(atI b (Gm g)).bind λi=>
if i then
(atI b (Gj g)).bind λj=>
if j then
some (.inl (a,Wq (c+1),b,()))
else
some (.inl (true,Wq (c+1),List.set b (Int.toNat (Gj g)) true,()))
else
some (.inl (a,Wq (c+1),b,()))
else
some (.inl (a,Wq (c+1),b,()))
else
some (.inr (.inl (a,b,())))
def Ju (c:List Zt) (d:List Bool) (b a:Bool) (e:List Bool):Option ((Bool×(List Bool)×Unit)⊕List Bool):=
if a then
ZA (λv=>Qw c d b v.1 v.2.1 v.2.2.1) (false,(0:Int),e,())
else
some (.inr e)
def ZbF (a:Int) (d:List Zt) (e:List Bool) (c:Int) (b:Bool):Option (List Bool):=
Zy ((0:Int)<=a)<|
Zy (a<=a)<|
Zy (a<=4611686018427387904)<|
Zy (((1:Nat):Int)*a<=281474976710656)<|
(atI (List.replicate (Int.toNat a) false) c).bind λf=>
ZA (λv=>Ju d e b v.1 v.2.1) (true,List.set (List.replicate (Int.toNat a) false) (Int.toNat c) true,())
def c78:Ctr:=⟨[.dat Iq,.dat (.sl (ZcP)),.dat (.sl (.bool)),.dat Iq,.dat (.bool)],[.own (.ol 4 (.flat (.bool)))],λa K=>Zr a λf a=>Zr a λc a=>Zr a λd a=>Zr a λe a=>Zr a λb a=>Yk (ZbF f c d e b) λr=>K (r,()) ()⟩
def Zgj (a:List Zt) (c:List Bool) (e b:Int):Option ((Int×Unit)⊕Bool):=
if b<(a.length:Int)then
(atI c b).bind λf=>
if f then
(atI a b).bind λd=>
if Gj d=e then
if Gm d=e then
some (.inr true)
else
some (.inl (Wq (b+1),()))
else
some (.inl (Wq (b+1),()))
else
some (.inl (Wq (b+1),()))
else
some (.inr false)
def ZiU (a:List Zt) (b:List Bool) (c:Int):Option Bool:=
ZA (λv=>Zgj a b c v.1) ((0:Int),())
def c79:Ctr:=D3 (.sl (ZcP)) (.sl (.bool)) Iq (.bool) ZiU
def Zfl (l:Int) (k:List Zt) (j:List Bool) (f:List (List Int)) (g:Int) (c d:List Bool) (b:List Int) (a:Int) (e:List Bool):Option (((List Int)×Int×(List Bool)×Unit)⊕(((List (List Int))×Int×(List Bool)×Unit)⊕List (List Int))):=
if a<l then
(atI c a).bind λm=>
if m then
(atI d a).bind λi=>
if i then
Zy ((b.length+[a].length)*8<=140737488355328)<|
(atI e a).bind λn=>
some (.inl (b++[a],Wq (a+1),List.set e (Int.toNat a) true,()))
else
some (.inl (b,Wq (a+1),e,()))
else
some (.inl (b,Wq (a+1),e,()))
else
if 1<(b.length:Int)then
Zy ((f.length+[b].length)*24<=140737488355328)<|
some (.inr (.inl (f++[b],Wq (g+1),e,())))
else
(ZiU k j g).bind λh=>
if h then
Zy ((f.length+[b].length)*24<=140737488355328)<|
some (.inr (.inl (f++[b],Wq (g+1),e,())))
else
some (.inr (.inl (f,Wq (g+1),e,())))
def Zfm (b:Int) (e:List Zt) (d:List Bool) (c:List (List Int)) (a:Int) (f:List Bool):Option (((List (List Int))×Int×(List Bool)×Unit)⊕List (List Int)):=
if a<b then
(atI f a).bind λi=>
if i then
some (.inl (c,Wq (a+1),f,()))
else
(ZbF b e d a true).bind λh=>
(ZbF b e d a false).bind λg=>
ZA (λv=>Zfl b e d c a h g v.1 v.2.1 v.2.2.1) (([]:List Int),(0:Int),f,())
else
some (.inr c)
def ZhS (a:Int) (b:List Zt) (c:List Bool):Option (List (List Int)):=
Zy ((0:Int)<=a)<|
Zy (a<=a)<|
Zy (a<=4611686018427387904)<|
Zy (((1:Nat):Int)*a<=281474976710656)<|
ZA (λv=>Zfm a b c v.1 v.2.1 v.2.2.1) (([]:List (List Int)),(0:Int),List.replicate (Int.toNat a) false,())
def c80:Ctr:=⟨[.dat Iq,.dat (.sl (ZcP)),.dat (.sl (.bool))],[.own (.ol 38 (.ol 2 (.flat Iq)))],λa K=>Zr a λd a=>Zr a λc a=>Zr a λb a=>Yk (ZhS d c b) λr=>K (r,()) ()⟩
def Zfi (c:List Bool) (b:List Int) (a:Int):Option (((List Int)×Int×Unit)⊕(((List Bool)×Unit)⊕List Int)):=
if a<(c.length:Int)then
(atI c a).bind λd=>
if d then
some (.inl (b,Wq (a+1),()))
else
Zy ((b.length+[a].length)*8<=140737488355328)<|
some (.inl (b++[a],Wq (a+1),()))
else
some (.inr (.inr b))
def Zfj (a:List Zt) (g:List Bool) (d b:Int) (c:List (List Int)):Option ((Int×Int×(List (List Int))×Unit)⊕(((List Bool)×Unit)⊕List Int)):=
if b<(a.length:Int)then
(atI g b).bind λh=>
if h then
(atI a b).bind λf=>
if GP f=1 then
(atI c 0).bind λe=>
(ZgN e (Gj f)).bind λj=>
if j then
(ZgN e (Gm f)).bind λi=>
if i then
some (.inl (b,Wq (b+1),List.set c (Int.toNat 0) e,()))
else
some (.inl (d,Wq (b+1),List.set c (Int.toNat 0) e,()))
else
some (.inl (d,Wq (b+1),List.set c (Int.toNat 0) e,()))
else
some (.inl (d,Wq (b+1),c,()))
else
some (.inl (d,Wq (b+1),c,()))
else
(atI g d).bind λh=>
some (.inr (.inl (List.set g (Int.toNat d) false,())))
def Zfk (a:List Zt) (b:Int) (c:List Bool):Option (((List Bool)×Unit)⊕List Int):=
(ZhS b a c).bind λd=>
if(d.length:Int)=0 then
ZA (λv=>Zfi c v.1 v.2.1) (([]:List Int),(0:Int),())
else
ZA (λv=>Zfj a c v.1 v.2.1 v.2.2.1) ((-1:Int),(0:Int),d,())
def Zeg (b:Za):Option (List Int):=
(ZbD b).bind λa=>
(Zfx a (([]:List Int))).bind λc=>
(VT b).bind λd=>
ZA (λv=>Zfk a d v.1) (c,())
def c81:Ctr:=⟨[.dat (Ya)],[.own (.ol 2 (.flat Iq))],λa K=>Zr a λb a=>Yk (Zeg b) λr=>K (r,()) ()⟩
def ZbN (h:Int) (m:ZG) (g:List Zj) (e:Int) (k:List Int) (j l:Int):Option (((List Zj)×Int×(List Int)×Int×Int×Unit)⊕(((List Zj)×Int×(List Int)×Int×Int×Unit)⊕((List Zj)×Zm))):=
if e<2 then
if(GX m)=true then
(Zl (k,j,l,()) 8).bind λf=>
if 0<f.1 then
(Zl f.2 200).bind λa=>
(Zl a.2 30).bind λb=>
(Zl b.2 40).bind λd=>
(Zl d.2 12).bind λc=>
Zy ((g.length+[(Wq (Wq ((2:Int)*h)+e),(Wq (a.1-50),Wq (Wq (a.1-50)+d.1),()),(b.1,Wq (b.1+c.1),()),())].length)*40<=140737488355328)<|
some (.inl (g++[(Wq (Wq ((2:Int)*h)+e),(Wq (a.1-50),Wq (Wq (a.1-50)+d.1),()),(b.1,Wq (b.1+c.1),()),())],Wq (e+1),c.2.1,c.2.2.1,c.2.2.2.1,()))
else
(Zl f.2 24).bind λa=>
if a.1=0 then
(Zl a.2 200).bind λb=>
(Zl b.2 30).bind λd=>
(Zl d.2 40).bind λc=>
(Zl c.2 12).bind λi=>
Zy ((g.length+[(Wq (Wq ((2:Int)*h)+e),(Wq (b.1-50),Wq (Wq (b.1-50)+c.1),()),(d.1,Wq (d.1+i.1),()),())].length)*40<=140737488355328)<|
some (.inl (g++[(Wq (Wq ((2:Int)*h)+e),(Wq (b.1-50),Wq (Wq (b.1-50)+c.1),()),(d.1,Wq (d.1+i.1),()),())],Wq (e+1),i.2.1,i.2.2.1,i.2.2.2.1,()))
else
some (.inl (g,Wq (e+1),a.2.1,a.2.2.1,a.2.2.2.1,()))
else
(Zl (k,j,l,()) 24).bind λf=>
if f.1=0 then
(Zl f.2 200).bind λa=>
(Zl a.2 30).bind λb=>
(Zl b.2 40).bind λd=>
(Zl d.2 12).bind λc=>
Zy ((g.length+[(Wq (Wq ((2:Int)*h)+e),(Wq (a.1-50),Wq (Wq (a.1-50)+d.1),()),(b.1,Wq (b.1+c.1),()),())].length)*40<=140737488355328)<|
some (.inl (g++[(Wq (Wq ((2:Int)*h)+e),(Wq (a.1-50),Wq (Wq (a.1-50)+d.1),()),(b.1,Wq (b.1+c.1),()),())],Wq (e+1),c.2.1,c.2.2.1,c.2.2.2.1,()))
else
some (.inl (g,Wq (e+1),f.2.1,f.2.2.1,f.2.2.2.1,()))
else
some (.inr (.inl (g,Wq (h+1),k,j,l,())))
def ZbO (h:Int) (f:List Zj) (d:Int) (j:List Int) (i k:Int):Option (((List Zj)×Int×(List Int)×Int×Int×Unit)⊕(((List Zj)×Int×(List Int)×Int×Int×Unit)⊕((List Zj)×Zm))):=
if d<2 then
(Zl (j,i,k,()) 24).bind λb=>
if b.1=0 then
(Zl b.2 200).bind λa=>
(Zl a.2 30).bind λe=>
(Zl e.2 40).bind λg=>
(Zl g.2 12).bind λc=>
Zy ((f.length+[(Wq (Wq ((2:Int)*h)+d),(Wq (a.1-50),Wq (Wq (a.1-50)+g.1),()),(e.1,Wq (e.1+c.1),()),())].length)*40<=140737488355328)<|
some (.inl (f++[(Wq (Wq ((2:Int)*h)+d),(Wq (a.1-50),Wq (Wq (a.1-50)+g.1),()),(e.1,Wq (e.1+c.1),()),())],Wq (d+1),c.2.1,c.2.2.1,c.2.2.2.1,()))
else
some (.inl (f,Wq (d+1),b.2.1,b.2.2.1,b.2.2.2.1,()))
else
some (.inr (.inl (f,Wq (h+1),j,i,k,())))
def ZbP (c:List ZG) (b:List Zj) (f:Int) (h:List Int) (i g:Int):Option (((List Zj)×Int×(List Int)×Int×Int×Unit)⊕((List Zj)×Zm)):=
if f<(c.length:Int)then
(atI c f).bind λa=>
if GL a<0 then
ZA (λv=>ZbN f a v.1 v.2.1 v.2.2.1 v.2.2.2.1 v.2.2.2.2.1) (b,(0:Int),h,i,g,())
else
ZA (λv=>ZbO f v.1 v.2.1 v.2.2.1 v.2.2.2.1 v.2.2.2.2.1) (b,(0:Int),h,i,g,())
else
if 0<(b.length:Int)then
(Zl (h,i,g,()) (b.length:Int)).bind λe=>
(Zl e.2 30).bind λd=>
if d.1=0 then
(atI b 0).bind λa=>
(atI b e.1).bind λj=>
some (.inr (List.set b (Int.toNat e.1) (Gi a,j.2),d.2))
else
if d.1=1 then
(atI b e.1).bind λa=>
some (.inr (List.set b (Int.toNat e.1) (Gi a,(Wq (Gl (GM a)+1),(GM a).2),a.2.2),d.2))
else
if d.1=2 then
(atI b e.1).bind λa=>
some (.inr (List.set b (Int.toNat e.1) (Gi a,GM a,((-1),(GR a).2),()),d.2))
else
if d.1=3 then
(atI b e.1).bind λa=>
some (.inr (List.set b (Int.toNat e.1) (Gi a,(Gh (GM a),1000000000,()),a.2.2),d.2))
else
some (.inr (b,d.2))
else
some (.inr (b,(h,i,g,())))
def Yg (a:Zm) (b:Za):Option ((List Zj)×Zm):=
(QV b).bind λd=>
if d then
(YJ (K2 b)).bind λc=>
ZA (λv=>ZbP c v.1 v.2.1 v.2.2.1 v.2.2.2.1 v.2.2.2.2.1) (([]:List (Int×ZC×ZC×Unit)),(0:Int),G8 a,Zm.at a,GU a,())
else
some ([],a)
def c82:Ctr:=⟨[.io (.flat (XY)),.dat (Ya)],[.own (.ol 74 (.flat (Qo)))],λa K=>Zr a λc a=>Zr a λb a=>Yk (Yg c b) λr=>K (r.1,()) (r.2,())⟩
def Zbd (j:Zm):Option (Za×ZB×(List Int)×(List Zj)×Zm):=
(Zef j).bind λd=>
(J4 d.2).bind λe=>
(Zl e.2 3).bind λh=>
if h.1=0 then
(Zau h.2 5 true).bind λc=>
(J3 c.2 c.1).bind λb=>
(QV c.1).bind λg=>
if g then
if(b.1.length:Int)=0 then
(Zl b.2 6).bind λf=>
if 0<f.1 then
(Zeg c.1).bind λi=>
(Yg f.2 c.1).bind λa=>
some (c.1,e.1,i,a.1,a.2)
else
(Yg f.2 c.1).bind λa=>
some (c.1,e.1,b.1,a.1,a.2)
else
(Yg b.2 c.1).bind λa=>
some (c.1,e.1,b.1,a.1,a.2)
else
(Yg b.2 c.1).bind λa=>
some (c.1,e.1,b.1,a.1,a.2)
else
(J3 h.2 d.1).bind λb=>
(QV d.1).bind λg=>
if g then
if(b.1.length:Int)=0 then
(Zl b.2 6).bind λf=>
if 0<f.1 then
(Zeg d.1).bind λi=>
(Yg f.2 d.1).bind λa=>
some (d.1,e.1,i,a.1,a.2)
else
(Yg f.2 d.1).bind λa=>
some (d.1,e.1,b.1,a.1,a.2)
else
(Yg b.2 d.1).bind λa=>
some (d.1,e.1,b.1,a.1,a.2)
else
(Yg b.2 d.1).bind λa=>
some (d.1,e.1,b.1,a.1,a.2)
def c83:Ctr:=⟨[.io (.flat (XY))],[.dat (Ya),.dat (XR),.own (.ol 2 (.flat Iq)),.own (.ol 74 (.flat (Qo)))],λa K=>Zr a λb a=>Yk (Zbd b) λr=>K (r.1,r.2.1,r.2.2.1,r.2.2.2.1,()) (r.2.2.2.2,())⟩
def ZdM (b:List Zh) (c:Int) (l:List Zo) (m:List Zd) (k:List (List UInt8)) (n:List Z6) (i:List Zq) (h:List (List UInt8×Int×List XT×List ZK×List Int×Int×Int×Unit)) (e:List (List UInt8×Int×List Int×Unit)) (f:List (List UInt8)) (d:List Z6) (g:List (List Int×List Int×List Int×List Int×Unit)):Option ((Int×(List Zo)×(List Zd)×(List (List UInt8))×(List Z6)×(List Zq)×(List (List UInt8×Int×List XT×List ZK×List Int×Int×Int×Unit))×(List (List UInt8×Int×List Int×Unit))×(List (List UInt8))×(List Z6)×(List (List Int×List Int×List Int×List Int×Unit))×Unit)⊕(Za×Int×Int)):=
if c<(b.length:Int)then
(atI b c).bind λj=>
(JA ((h,()),(e,f,d,()),g,()) j).bind λa=>
if a.2=0 then
some (.inl (Wq (c+1),l,m,k,n,i,a.1.1.1,a.1.2.1.1,a.1.2.1.2.1,a.1.2.1.2.2.1,a.1.2.2.1,()))
else
some (.inr (((([]:List Zo),()),(([]:List Zd),([]:List (List UInt8)),([]:List Z6),()),([]:List Zq),()),a.2,c))
else
some (.inr (((h,()),(e,f,d,()),g,()),0,(-1)))
def Zf0 (c:Za) (a:List Zh):Option (Za×Int×Int):=
(QV c).bind λd=>
if d then
if 20<(a.length:Int)then
some ((([],()),([],[],[],()),[],()),3,-1)
else
(Zin c).bind λb=>
ZA (λv=>ZdM a v.1 v.2.1 v.2.2.1 v.2.2.2.1 v.2.2.2.2.1 v.2.2.2.2.2.1 v.2.2.2.2.2.2.1 v.2.2.2.2.2.2.2.1 v.2.2.2.2.2.2.2.2.1 v.2.2.2.2.2.2.2.2.2.1 v.2.2.2.2.2.2.2.2.2.2.1) ((0:Int),([]:List Zo),([]:List Zd),([]:List (List UInt8)),([]:List Z6),([]:List Zq),Gd (K6 b),K3 (K2 b),K5 (K2 b),Ge (K2 b),K4 b,())
else
some ((([],()),([],[],[],()),[],()),1,-1)
def c84:Ctr:=⟨[.dat (Ya),.dat (.sl (XI))],[.own (Zex),.dat Iq,.dat Iq],λa K=>Zr a λc a=>Zr a λb a=>Yk (Zf0 c b) λr=>K (r.1,r.2.1,r.2.2,()) ()⟩
def Ze1 (a:ZB) (b:Int):Option ((Int×Unit)⊕Bool):=
if b<(([G4 a,G3 a,G5 a,G6 a].length):Int)then
(atI ([G4 a,G3 a,G5 a,G6 a]) b).bind λe=>
(Z4 e 100 5000).bind λd=>
if d then
some (.inl (Wq (b+1),()))
else
some (.inr false)
else
(Zcv (GZ a)).bind λc=>
if c then
if G4 a<=G3 a then
some (.inr (decide (G5 a<=G6 a)))
else
some (.inr false)
else
some (.inr false)
def ZhL (a:ZB):Option Bool:=
ZA (λv=>Ze1 a v.1) ((0:Int),())
def c85:Ctr:=D1 (XR) (.bool) ZhL
def Zev (a:List Int) (d b:Int):Option ((Int×Unit)⊕Bool):=
if b<(a.length:Int)then
(atI a b).bind λc=>
(Z4 c 0 (Wq (d-1))).bind λf=>
if f then
if 0<b then
(atI a (Wq (b-1))).bind λe=>
if c<=e then
some (.inr false)
else
some (.inl (Wq (b+1),()))
else
some (.inl (Wq (b+1),()))
else
some (.inr false)
else
some (.inr true)
def Zg3 (a:List Int) (b:Int):Option Bool:=
ZA (λv=>Zev a b v.1) ((0:Int),())
def c86:Ctr:=D2 (.sl Iq) Iq (.bool) Zg3
def Zhh (b:Za) (a:List Int):Option Int:=
(QV b).bind λd=>
if d then
(ZbD b).bind λc=>
(Zg3 a (c.length:Int)).bind λe=>
if e then
some 0
else
some 2
else
some 1
def c87:Ctr:=D2 (Ya) (.sl Iq) Iq Zhh
def ZdN (a:ZC):Option Bool:=
(Z4 (Gh a) (-1000000000) 1000000000).bind λc=>
if c then
(Z4 (Gl a) (-1000000000) 1000000000).bind λb=>
if b then
some (decide (Gh a<=Gl a))
else
some false
else
some false
def c88:Ctr:=D1 (Zaa) (.bool) ZdN
def Zgk (a:ZC):Option Bool:=
if 0<=Gh a then
if Gh a<=Gl a then
some (decide (Gl a<=1000000))
else
some false
else
some false
def c89:Ctr:=D1 (Zaa) (.bool) Zgk
def ZbH (a:List Zj) (b c:Int):Option ((Int×Unit)⊕Bool):=
if c<(a.length:Int)then
(atI a c).bind λd=>
(Z4 (Gi d) 0 (Wq (b-1))).bind λg=>
if g then
if 0<c then
(atI a (Wq (c-1))).bind λh=>
if Gi d<=Gi h then
some (.inr false)
else
(ZdN (GM d)).bind λe=>
if e then
(Zgk (GR d)).bind λf=>
if f then
some (.inl (Wq (c+1),()))
else
some (.inr false)
else
some (.inr false)
else
(ZdN (GM d)).bind λe=>
if e then
(Zgk (GR d)).bind λf=>
if f then
some (.inl (Wq (c+1),()))
else
some (.inr false)
else
some (.inr false)
else
some (.inr false)
else
some (.inr true)
def Zgl (b:Za) (a:List Zj):Option Bool:=
(VT b).bind λc=>
ZA (λv=>ZbH a c v.1) ((0:Int),())
def c90:Ctr:=D2 (Ya) (.sl (Qo)) (.bool) Zgl
def X8 (d:Int) (b:List Int) (c f:List Bool) (a:Int):Option ((Int×Unit)⊕((Int×(List Bool)×Unit)⊕(((List Int)×(List Bool)×Unit)⊕((List Int)×Bool)))):=
if a<d then
(atI c a).bind λe=>
if e then
some (.inl (Wq (a+1),()))
else
(atI f a).bind λg=>
if g then
some (.inl (Wq (a+1),()))
else
if a=d then
some (.inr (.inr (.inr (([]:List Int),false))))
else
Zy ((b.length+[a].length)*8<=140737488355328)<|
some (.inr (.inr (.inl (b++[a],List.set c (Int.toNat a) true,()))))
else
if a=d then
some (.inr (.inr (.inr (([]:List Int),false))))
else
(atI c a).bind λe=>
Zy ((b.length+[a].length)*8<=140737488355328)<|
some (.inr (.inr (.inl (b++[a],List.set c (Int.toNat a) true,()))))
def ZaT (j:Int) (d:List Zt) (i:List Bool) (f:List Int) (e:List Bool) (a:Int) (b:List Bool):Option ((Int×(List Bool)×Unit)⊕(((List Int)×(List Bool)×Unit)⊕((List Int)×Bool))):=
if a<(d.length:Int)then
(atI i a).bind λh=>
if h then
(atI d a).bind λc=>
(atI e (Gj c)).bind λg=>
if g then
some (.inl (Wq (a+1),b,()))
else
(atI b (Gm c)).bind λk=>
some (.inl (Wq (a+1),List.set b (Int.toNat (Gm c)) true,()))
else
some (.inl (Wq (a+1),b,()))
else
ZA (λv=>X8 j f e b v.1) ((0:Int),())
def Jt (a:Int) (e:List Zt) (d:List Bool) (b:List Int) (c:List Bool):Option (((List Int)×(List Bool)×Unit)⊕((List Int)×Bool)):=
if(b.length:Int)<a then
ZA (λv=>ZaT a e d b c v.1 v.2.1) ((0:Int),List.replicate (Int.toNat a) false,())
else
some (.inr (b,true))
def ZhR (a:Int) (b:List Zt) (c:List Bool):Option ((List Int)×Bool):=
Zy ((0:Int)<=a)<|
Zy (a<=a)<|
Zy (a<=4611686018427387904)<|
Zy (((1:Nat):Int)*a<=281474976710656)<|
ZA (λv=>Jt a b c v.1 v.2.1) (([]:List Int),List.replicate (Int.toNat a) false,())
def c91:Ctr:=⟨[.dat Iq,.dat (.sl (ZcP)),.dat (.sl (.bool))],[.own (.ol 2 (.flat Iq)),.dat (.bool)],λa K=>Zr a λd a=>Zr a λc a=>Zr a λb a=>Yk (ZhR d c b) λr=>K (r.1,r.2,()) ()⟩
def Zbx (b:Za) (a:List Int):Option ((List Int)×Int):=
(Zhh b a).bind λd=>
if d=0 then
(ZbD b).bind λc=>
(VT b).bind λg=>
(Zfx c a).bind λf=>
(ZhR g c f).bind λe=>
if e.2 then
some (e.1,0)
else
some ([],7)
else
some ([],d)
def c92:Ctr:=⟨[.dat (Ya),.dat (.sl Iq)],[.own (.ol 2 (.flat Iq)),.dat Iq],λa K=>Zr a λc a=>Zr a λb a=>Yk (Zbx c b) λr=>K (r.1,r.2,()) ()⟩
def Zhi (c:Za) (e:ZB) (a:List Int) (b:List Zj):Option ((List Int)×Int):=
(QV c).bind λh=>
if h then
(ZhL e).bind λf=>
if f then
(Zhh c a).bind λi=>
if i=0 then
(Zgl c b).bind λg=>
if g then
(Zbx c a).bind λd=>
some (d.1,d.2)
else
some ([],2)
else
some ([],2)
else
some ([],1)
else
some ([],1)
def c93:Ctr:=⟨[.dat (Ya),.dat (XR),.dat (.sl Iq),.dat (.sl (Qo))],[.own (.ol 2 (.flat Iq)),.dat Iq],λa K=>Zr a λd a=>Zr a λe a=>Zr a λc a=>Zr a λb a=>Yk (Zhi d e c b) λr=>K (r.1,r.2,()) ()⟩
def Zkd (a:Int):Option Zf:=
Zy ((0:Int)<=a)<|
Zy (a<=a)<|
Zy (a<=4611686018427387904)<|
Zy (((1:Nat):Int)*a<=281474976710656)<|
Zy (((16:Nat):Int)*a<=281474976710656)<|
some (List.replicate (Int.toNat a) false,List.replicate (Int.toNat a) ((0:Int),(0:Int),()),List.replicate (Int.toNat a) ((0:Int),(0:Int),()),())
def c94:Ctr:=⟨[.dat Iq],[.own (ZjK)],λa K=>Zr a λb a=>Yk (Zkd b) λr=>K (r,()) ()⟩
def Zim (f:Zu) (c:Zb) (a:ZG):Option Int:=
if GL a<0 then
some 0
else
(atI (K3 c) (GL a)).bind λe=>
(atI (Gd f) (Gr e)).bind λb=>
(atI (Gb b) (ZG.pin a)).bind λd=>
some (G2 d)
def c95:Ctr:=D3 (X9) (YN) (Zgm) Iq Zim
def Zml (e:Zq) (b:Int) (a:List Int):Option ((Int×(List Int)×Unit)⊕((Int×(List Int)×Unit)⊕List Int)):=
if 0<b then
(atI (K8 e) b).bind λc=>
(atI a c).bind λd=>
(atI a b).bind λf=>
some (.inl (Wq (b-1),List.set a (Int.toNat c) (Wq (d+f)),()))
else
some (.inr (.inr a))
def ZaS (f:Za) (e:Zq) (b:List ZG) (a:List Int) (c:Int) (d:List Int):Option ((Int×(List Int)×Unit)⊕List Int):=
if c<(a.length:Int)then
(atI (Gu e) c).bind λg=>
(atI d g).bind λi=>
(atI a c).bind λj=>
(atI b j).bind λk=>
(Zim (K6 f) (K2 f) k).bind λh=>
some (.inl (Wq (c+1),List.set d (Int.toNat g) (Wq (i+h)),()))
else
ZA (λv=>Zml e v.1 v.2.1) (Wq ((d.length:Int)-1),d,())
def Zao (a:Za) (c:Int):Option (List Int):=
(atI (K4 a) c).bind λb=>
(Xc (GE b)).bind λe=>
(YJ (K2 a)).bind λd=>
(Xv (K2 a) c).bind λf=>
ZA (λv=>ZaS a b d f v.1 v.2.1) ((0:Int),e,())
def c96:Ctr:=⟨[.dat (Ya),.dat Iq],[.own (.ol 2 (.flat Iq))],λa K=>Zr a λc a=>Zr a λb a=>Yk (Zao c b) λr=>K (r,()) ()⟩
def ZdR (a:Za) (b:Zt):Option (ZK×Int):=
(YJ (K2 a)).bind λe=>
(atI e (Wq (Int.tdiv (Gm b) 2))).bind λc=>
(atI (K3 (K2 a)) (GL c)).bind λf=>
(atI (Gd (K6 a)) (Gr f)).bind λg=>
(atI (Gp g) (GY b)).bind λi=>
(Zao a (ZG.net c)).bind λd=>
(atI d 0).bind λh=>
some (i,h)
def c97:Ctr:=⟨[.dat (Ya),.dat (ZcP)],[.dat (Zof),.dat Iq],λa K=>Zr a λb a=>Zr a λc a=>Yk (ZdR b c) λr=>K (r.1,r.2,()) ()⟩
def Zby (a:List Int) (e c d b:Int):Option ((Int×Unit)⊕(Int×Int×Int)):=
if 0<=b then
(atI a b).bind λf=>
if Min.min (Max.max e c) d=f then
some (.inr (b,1,0))
else
if f<Min.min (Max.max e c) d then
(atI a (Wq (b+1))).bind λg=>
some (.inr (b,Wq (g-Min.min (Max.max e c) d),Wq (Min.min (Max.max e c) d-f)))
else
some (.inl (Wq (b-1),()))
else
some (.inr (0,1,0))
def ZdO (a:List Int) (d:Int):Option (Int×Int×Int):=
(atI a 0).bind λb=>
(atI a (Wq ((a.length:Int)-1))).bind λc=>
ZA (λv=>Zby a d b c v.1) (Wq ((a.length:Int)-1),())
def c98:Ctr:=⟨[.dat (.sl Iq),.dat Iq],[.dat Iq,.dat Iq,.dat Iq],λa K=>Zr a λb a=>Zr a λc a=>Yk (ZdO b c) λr=>K (r.1,r.2.1,r.2.2,()) ()⟩
def Yx (b a c:Int):Option Int:=
Zy (a≠0)<|
if Int.tmod b a<0 then
if c=0 then
some (Wq (Wq (Int.tdiv b a)-1))
else
if 0<Int.tmod b a then
if c=1 then
some (Wq (Wq (Int.tdiv b a)+1))
else
some (Wq (Int.tdiv b a))
else
some (Wq (Int.tdiv b a))
else
if 0<Int.tmod b a then
if c=1 then
some (Wq (Wq (Int.tdiv b a)+1))
else
some (Wq (Int.tdiv b a))
else
some (Wq (Int.tdiv b a))
def c99:Ctr:=D3 Iq Iq Iq Iq Yx
def QW (e:ZE) (b a:Int×Int×Int) (g d c:Int):Option ((Int×Int×Unit)⊕((Int×Int×Unit)⊕Int)):=
if c<2 then
if g=1 then
if c=0 then
if 0<Wq (b.2.2*a.2.1)then
(atI (Gz e) (Wq (Wq (Wq (Wq (b.1+g)*((GA e).length:Int))+a.1)+c))).bind λf=>
some (.inl (Wq (d+Wq (Wq (b.2.2*a.2.1)*f)),Wq (c+1),()))
else
some (.inl (d,Wq (c+1),()))
else
if 0<Wq (b.2.2*a.2.2)then
(atI (Gz e) (Wq (Wq (Wq (Wq (b.1+g)*((GA e).length:Int))+a.1)+c))).bind λf=>
some (.inl (Wq (d+Wq (Wq (b.2.2*a.2.2)*f)),Wq (c+1),()))
else
some (.inl (d,Wq (c+1),()))
else
if c=0 then
if 0<Wq (b.2.1*a.2.1)then
(atI (Gz e) (Wq (Wq (Wq (Wq (b.1+g)*((GA e).length:Int))+a.1)+c))).bind λf=>
some (.inl (Wq (d+Wq (Wq (b.2.1*a.2.1)*f)),Wq (c+1),()))
else
some (.inl (d,Wq (c+1),()))
else
if 0<Wq (b.2.1*a.2.2)then
(atI (Gz e) (Wq (Wq (Wq (Wq (b.1+g)*((GA e).length:Int))+a.1)+c))).bind λf=>
some (.inl (Wq (d+Wq (Wq (b.2.1*a.2.2)*f)),Wq (c+1),()))
else
some (.inl (d,Wq (c+1),()))
else
some (.inr (.inl (d,Wq (g+1),())))
def YZ (f:ZE) (g:Int) (b a:Int×Int×Int) (c d:Int):Option ((Int×Int×Unit)⊕Int):=
if d<2 then
ZA (λv=>QW f b a d v.1 v.2.1) (c,(0:Int),())
else
(Yx c (Wq (Wq (b.2.1+b.2.2)*Wq (a.2.1+a.2.2))) g).bind λe=>
some (.inr e)
def Vq (a:ZE) (c e f:Int):Option Int:=
(ZdO (GS a) c).bind λd=>
(ZdO (GA a) e).bind λb=>
ZA (λv=>YZ a f d b v.1 v.2.1) ((0:Int),(0:Int),())
def ZHq:Ctr:=D4 (Zaw) Iq Iq Iq Iq Vq
def ZdS (a:Za) (d:Zt):Option Int:=
(YJ (K2 a)).bind λc=>
(atI c (Wq (Int.tdiv (Gm d) 2))).bind λb=>
some (ZG.net b)
def ZHr:Ctr:=D2 (Ya) (ZcP) Iq ZdS
def Zet (e:Zq) (a b:List Int) (c:Int):Option (((List Int)×Int×Unit)⊕List Int):=
if c<(a.length:Int)then
(atI (K8 e) c).bind λh=>
(atI b h).bind λd=>
(atI (GB e) c).bind λg=>
(atI a c).bind λf=>
Zy ((b.length+[Wq (d+Wq (g*f))].length)*8<=140737488355328)<|
some (.inl (b++[Wq (d+Wq (g*f))],Wq (c+1),()))
else
some (.inr b)
def Zat (b:Za) (a:Int):Option (List Int):=
(atI (K4 b) a).bind λd=>
(Zao b a).bind λc=>
ZA (λv=>Zet d c v.1 v.2.1) ([(0:Int)],(1:Int),())
def ZHs:Ctr:=⟨[.dat (Ya),.dat Iq],[.own (.ol 2 (.flat Iq))],λa K=>Zr a λc a=>Zr a λb a=>Yk (Zat c b) λr=>K (r,()) ()⟩
def Qq (i:Za) (e c:Int) (a b:List Int) (d:Int):Option (((List Int)×Int×Unit)⊕List Int):=
(atI (K4 i) e).bind λg=>
if d<((Gu g).length:Int)then
(atI (Gu g) d).bind λj=>
(atI a j).bind λh=>
(Yx h 1000 c).bind λf=>
Zy ((b.length+[f].length)*8<=140737488355328)<|
some (.inl (b++[f],Wq (d+1),()))
else
some (.inr b)
def VR (c:Za) (a b:Int):Option (List Int):=
(Zat c a).bind λd=>
ZA (λv=>Qq c a b d v.1 v.2.1) (([]:List Int),(0:Int),())
def ZIa:Ctr:=⟨[.dat (Ya),.dat Iq,.dat Iq],[.own (.ol 2 (.flat Iq))],λa K=>Zr a λd a=>Zr a λc a=>Zr a λb a=>Yk (VR d c b) λr=>K (r,()) ()⟩
def ZeC (c:ZB) (b a:Int):Option Int:=
if b=1 then
if a=0 then
some (G4 c)
else
some (G3 c)
else
if a=0 then
some (G5 c)
else
some (G6 c)
def ZIb:Ctr:=D3 (XR) Iq Iq Iq ZeC
def JD (e:Za) (h:ZB) (b:Zt) (c a:Int):Option Int:=
if GP b=1 then
(ZdR e b).bind λi=>
(atI i.1.2.2.2.2.1 (Int.tmod (Gm b) 2)).bind λf=>
(Vq f c i.2 a).bind λj=>
(ZeC h (GP b) a).bind λg=>
(Yx (Wq (j*g)) 1000 a).bind λd=>
some d
else
(ZdS e b).bind λl=>
(VR e l a).bind λk=>
(atI k (GY b)).bind λf=>
(ZeC h (GP b) a).bind λg=>
(Yx (Wq (f*g)) 1000 a).bind λd=>
some d
def c105:Ctr:=⟨[.dat (Ya),.dat (XR),.dat (ZcP),.dat Iq,.dat Iq],[.dat Iq],λa K=>Zr a λd a=>Zr a λf a=>Zr a λe a=>Zr a λc a=>Zr a λb a=>Yk (JD d f e c b) λr=>K (r,()) ()⟩
def ZbB (d c a b:Int):Option ((Int×Int×Unit)⊕Int):=
if a<b then
if Wq (Wq (Int.tdiv (Wq (Wq (a+b)+1)) 2)*Wq (Int.tdiv (Wq (Wq (a+b)+1)) 2))<=d then
some (.inl (Wq (Int.tdiv (Wq (Wq (a+b)+1)) 2),b,()))
else
some (.inl (a,Wq (Wq (Int.tdiv (Wq (Wq (a+b)+1)) 2)-1),()))
else
if c=1 then
if Wq (a*a)<d then
some (.inr (Wq (a+1)))
else
some (.inr a)
else
some (.inr a)
def Zfv (b a:Int):Option Int:=
ZA (λv=>ZbB b a v.1 v.2.1) ((0:Int),(2000000000:Int),())
def ZIc:Ctr:=D2 Iq Iq Iq Zfv
def ZdQ (f:Za) (c d b a:Int):Option Int:=
(atI (K4 f) c).bind λi=>
(atI (Gu i) d).bind λj=>
(Zat f c).bind λh=>
(atI h j).bind λe=>
(Zfv (Wq (Wq (Wq (1000000*b)*b)+Wq (Wq (4*e)*e))) a).bind λg=>
(Yx g 1000 a).bind λk=>
some k
def c107:Ctr:=⟨[.dat (Ya),.dat Iq,.dat Iq,.dat Iq,.dat Iq],[.dat Iq],λa K=>Zr a λf a=>Zr a λe a=>Zr a λb a=>Zr a λd a=>Zr a λc a=>Yk (ZdQ f e b d c) λr=>K (r,()) ()⟩
def Qh (d:Za) (c:Zt) (b a:Int):Option Int:=
if GP c=1 then
(ZdR d c).bind λe=>
(atI e.1.2.2.2.2.2.1 (Int.tmod (Gm c) 2)).bind λh=>
(Vq h b e.2 a).bind λf=>
some f
else
(ZdS d c).bind λi=>
(ZdQ d i (GY c) b a).bind λg=>
some (Min.min 1000000 g)
def ZId:Ctr:=D4 (Ya) (ZcP) Iq Iq Iq Qh
def ZbI (b:Za) (d:ZB) (a:Zt) (c:ZC):Option (ZC×ZC):=
(JD b d a (Gh c) 0).bind λg=>
(JD b d a (Gh c) 1).bind λe=>
(Qh b a (Gh c) 0).bind λj=>
(Qh b a (Gh c) 1).bind λf=>
(JD b d a (Gl c) 0).bind λi=>
(JD b d a (Gl c) 1).bind λh=>
(Qh b a (Gl c) 0).bind λl=>
(Qh b a (Gl c) 1).bind λk=>
some ((Min.min g i,Max.max e h,()),(Min.min j l,Max.max f k,()))
def c109:Ctr:=⟨[.dat (Ya),.dat (XR),.dat (ZcP),.dat (Zaa)],[.dat (Zaa),.dat (Zaa)],λa K=>Zr a λd a=>Zr a λc a=>Zr a λb a=>Zr a λe a=>Yk (ZbI d c b e) λr=>K (r.1,r.2,()) ()⟩
def Zk4 (b a:ZC):Option ZC:=
some (Min.min (Gh b) (Gh a),Max.max (Gl b) (Gl a),())
def ZIe:Ctr:=D2 (Zaa) (Zaa) (Zaa) Zk4
def QX (r:Za) (s:ZB) (m:List Zt) (u:List Bool) (l:Zf) (k:Int) (f:Bool) (a i g e d h:Int):Option ((Bool×Int×Int×Int×Int×Int×Int×Unit)⊕((Bool×Int×Int×Int×Int×Int×Int×Unit)⊕(Bool×Zj))):=
if a<(m.length:Int)then
(atI m a).bind λc=>
(atI u a).bind λt=>
if t then
if Gm c=k then
(atI (Ga l) (Gj c)).bind λq=>
if q then
(atI (Gv l) (Gj c)).bind λp=>
(ZbI r s c p).bind λb=>
(atI (Gx l) (Gj c)).bind λj=>
if f then
(Zk4 (Wq (Gh j+b.1.1),Wq (Gl j+b.1.2.1),()) (g,e,())).bind λo=>
(Zk4 b.2 (d,h,())).bind λn=>
some (.inl (true,Wq (a+1),k,Gh o,Gl o,Gh n,Gl n,()))
else
some (.inl (true,Wq (a+1),k,Wq (Gh j+b.1.1),Wq (Gl j+b.1.2.1),b.2.1,b.2.2.1,()))
else
some (.inl (f,Wq (a+1),i,g,e,d,h,()))
else
some (.inl (f,Wq (a+1),i,g,e,d,h,()))
else
some (.inl (f,Wq (a+1),i,g,e,d,h,()))
else
some (.inr (.inr (f,(i,(g,e,()),(d,h,()),()))))
def ZbG (l:Za) (m:ZB) (k:List Zt) (o:List Bool) (e:List Zj) (n:Zf) (f:Int) (d:Bool) (b h i g j c:Int):Option ((Bool×Int×Int×Int×Int×Int×Int×Unit)⊕(Bool×Zj)):=
if b<(e.length:Int)then
(atI e b).bind λa=>
if Gi a=f then
some (.inl (true,Wq (b+1),Gi a,Gh (GM a),Gl (GM a),Gh (GR a),Gl (GR a),()))
else
some (.inl (d,Wq (b+1),h,i,g,j,c,()))
else
ZA (λv=>QX l m k o n f v.1 v.2.1 v.2.2.1 v.2.2.2.1 v.2.2.2.2.1 v.2.2.2.2.2.1 v.2.2.2.2.2.2.1) (d,(0:Int),h,i,g,j,c,())
def Zcw (c:Za) (e:ZB) (d:List Zt) (g:List Bool) (a:List Zj) (f:Zf) (b:Int):Option (Bool×Zj):=
ZA (λv=>ZbG c e d g a f b v.1 v.2.1 v.2.2.1 v.2.2.2.1 v.2.2.2.2.1 v.2.2.2.2.2.1 v.2.2.2.2.2.2.1) (false,(0:Int),(0:Int),(0:Int),(0:Int),(0:Int),(0:Int),())
def ZIf:Ctr:=⟨[.dat (Ya),.dat (XR),.dat (.sl (ZcP)),.dat (.sl (.bool)),.dat (.sl (Qo)),.dat (ZdU),.dat Iq],[.dat (.bool),.dat (Qo)],λa K=>Zr a λd a=>Zr a λc a=>Zr a λb a=>Zr a λh a=>Zr a λf a=>Zr a λe a=>Zr a λg a=>Yk (Zcw d c b h f e g) λr=>K (r.1,r.2,()) ()⟩
def Qf (m:Za) (n:ZB) (k:List Zt) (p:List Bool) (o:List Zj) (i:List Int) (e:Int) (h:List Bool) (j g:List ZC) (d:List Bool) (b c:List ZC):Option ((Int×(List Bool)×(List ZC)×(List ZC)×(List Bool)×(List ZC)×(List ZC)×Unit)⊕(Zf×Bool)):=
if e<(i.length:Int)then
(atI i e).bind λa=>
(Zcw m n k p o (d,b,c,()) a).bind λf=>
if f.1 then
(ZdN f.2.2.1).bind λl=>
if l then
(atI d a).bind λs=>
(atI b a).bind λr=>
(atI c a).bind λq=>
some (.inl (Wq (e+1),h,j,g,List.set d (Int.toNat a) true,List.set b (Int.toNat a) f.2.2.1,List.set c (Int.toNat a) f.2.2.2.1,()))
else
some (.inr ((([]:List Bool),([]:List ZC),([]:List ZC),()),false))
else
some (.inl (Wq (e+1),h,j,g,d,b,c,()))
else
some (.inr ((d,b,c,()),true))
def Ziq (b:Za) (e:ZB) (d:List Zt) (h:List Bool) (g:List Zj) (f:List Int):Option (Zf×Bool):=
(VT b).bind λc=>
(Zkd c).bind λa=>
ZA (λv=>Qf b e d h g f v.1 v.2.1 v.2.2.1 v.2.2.2.1 v.2.2.2.2.1 v.2.2.2.2.2.1 v.2.2.2.2.2.2.1) ((0:Int),([]:List Bool),([]:List ZC),([]:List ZC),Ga a,Gx a,Gv a,())
def ZIg:Ctr:=⟨[.dat (Ya),.dat (XR),.dat (.sl (ZcP)),.dat (.sl (.bool)),.dat (.sl (Qo)),.dat (.sl Iq)],[.own (ZjK),.dat (.bool)],λa K=>Zr a λd a=>Zr a λc a=>Zr a λb a=>Zr a λg a=>Zr a λf a=>Zr a λe a=>Yk (Ziq d c b g f e) λr=>K (r.1,r.2,()) ()⟩
def Y2 (d:Za) (e:ZB) (b:List Int) (a:List Zj):Option (Zf×Int):=
(Zhi d e b a).bind λc=>
if c.2=0 then
(ZbD d).bind λf=>
(Zfx f b).bind λh=>
(Ziq d e f h a c.1).bind λg=>
if g.2 then
some (g.1,0)
else
some (([],[],[],()),3)
else
some (([],[],[],()),c.2)
def ZHt:Ctr:=⟨[.dat (Ya),.dat (XR),.dat (.sl Iq),.dat (.sl (Qo))],[.dat (ZdU),.dat Iq],λa K=>Zr a λd a=>Zr a λe a=>Zr a λc a=>Zr a λb a=>Yk (Y2 d e c b) λr=>K (r.1,r.2,()) ()⟩
def Zfy (k:Zm):Option (Za×Zh×ZB×(List Zj)×Zf×Zm):=
(Zbd k).bind λa=>
(QV a.1).bind λj=>
if j then
(Zl a.2.2.2.2 3).bind λe=>
if e.1=0 then
(Zcl e.2 a.1 1).bind λi=>
(Zf0 a.1 i.1).bind λf=>
(Yg i.2 f.1).bind λg=>
(ZbC g.2 f.1).bind λb=>
(Y2 f.1 a.2.1 (([]:List Int)) g.1).bind λd=>
(Zl b.2 8).bind λc=>
if c.1=0 then
if 0<0 then
some (f.1,b.1,a.2.1,g.1,d.1,c.2)
else
some (f.1,b.1,a.2.1,g.1,d.1,c.2)
else
some (f.1,b.1,a.2.1,g.1,d.1,c.2)
else
(ZbC e.2 a.1).bind λb=>
(Y2 a.1 a.2.1 (([]:List Int)) a.2.2.2.1).bind λd=>
(Zl b.2 8).bind λc=>
if c.1=0 then
if 0<(a.2.2.1.length:Int)then
(Y2 a.1 a.2.1 a.2.2.1 a.2.2.2.1).bind λh=>
some (a.1,b.1,a.2.1,a.2.2.2.1,h.1,c.2)
else
some (a.1,b.1,a.2.1,a.2.2.2.1,d.1,c.2)
else
some (a.1,b.1,a.2.1,a.2.2.2.1,d.1,c.2)
else
(ZbC a.2.2.2.2 a.1).bind λb=>
(Y2 a.1 a.2.1 (([]:List Int)) a.2.2.2.1).bind λd=>
(Zl b.2 8).bind λe=>
if e.1=0 then
if 0<(a.2.2.1.length:Int)then
(Y2 a.1 a.2.1 a.2.2.1 a.2.2.2.1).bind λh=>
some (a.1,b.1,a.2.1,a.2.2.2.1,h.1,e.2)
else
some (a.1,b.1,a.2.1,a.2.2.2.1,d.1,e.2)
else
some (a.1,b.1,a.2.1,a.2.2.2.1,d.1,e.2)
def ZIh:Ctr:=⟨[.io (.flat (XY))],[.dat (Ya),.own (ZtU),.dat (XR),.dat (.sl (Qo)),.dat (ZdU)],λa K=>Zr a λb a=>Yk (Zfy b) λr=>K (r.1,r.2.1,r.2.2.1,r.2.2.2.1,r.2.2.2.2.1,()) (r.2.2.2.2.2,())⟩
def Jc (b:List Int):Option (Za×Zh×ZB×(List Zj)×Zf):=
(Zfu b).bind λc=>
(Zfy c).bind λa=>
some (a.1,a.2.1,a.2.2.1,a.2.2.2.1,a.2.2.2.2.1)
def ZIi:Ctr:=⟨[.dat (.sl (.int .u8))],[.dat (Ya),.own (ZtU),.dat (XR),.dat (.sl (Qo)),.dat (ZdU)],λa K=>Zr a λb a=>Yk (Jc b) λr=>K (r.1,r.2.1,r.2.2.1,r.2.2.2.1,r.2.2.2.2,()) ()⟩
def Zcg (c:Zu) (a:Zb):Option Int:=
(ZcL c a).bind λd=>
if d then
(YJ a).bind λb=>
some (b.length:Int)
else
some (-1)
def c116:Ctr:=D2 (X9) (YN) Iq Zcg
def Zjw (g:Zu) (c:Zb) (a:Int):Option (ZG×Bool):=
(ZcL g c).bind λd=>
if d then
(YJ c).bind λb=>
(Z4 a 0 (Wq ((b.length:Int)-1))).bind λe=>
if e then
(atI b a).bind λf=>
some (f,true)
else
some ((0,0,0,false,()),false)
else
some ((0,0,0,false,()),false)
def c117:Ctr:=⟨[.dat (X9),.dat (YN),.dat Iq],[.dat (Zgm),.dat (.bool)],λa K=>Zr a λd a=>Zr a λc a=>Zr a λb a=>Yk (Zjw d c b) λr=>K (r.1,r.2,()) ()⟩
def Zf1 (c:Zu) (d:Zb) (a:Int):Option (Int×Int):=
(Zjw c d a).bind λb=>
if b.2 then
some (b.1.1,b.1.2.1)
else
some ((-1),(-1))
def ZIj:Ctr:=⟨[.dat (X9),.dat (YN),.dat Iq],[.dat Iq,.dat Iq],λa K=>Zr a λd a=>Zr a λc a=>Zr a λb a=>Yk (Zf1 d c b) λr=>K (r.1,r.2,()) ()⟩
def Zf4 (c:Zu) (d:Zb) (a:Int):Option Int:=
(Zjw c d a).bind λb=>
if b.2 then
some b.1.2.2.1
else
some (-1)
def c119:Ctr:=D3 (X9) (YN) Iq Iq Zf4
def ZhK (e:Zu) (b:Zb) (a:Int):Option Int:=
(ZcL e b).bind λd=>
if d then
(Zdb b a).bind λc=>
some c
else
some (-1)
def ZIk:Ctr:=D3 (X9) (YN) Iq Iq ZhK
def YC (c b a:Int):Option Bool:=
if b<=c then
some (decide (c<=a))
else
some false
def ZtO:Ctr:=D3 Iq Iq Iq (.bool) YC
def ZeT (a:List UInt8):Option Bool:=
(YC (a.length:Int) 1 8).bind λc=>
if c then
Zy (a.length<=1000000)<|
if Go.Lib.trimS a [(97:UInt8),98,99,100,101,102,103,104,105,106,107,108,109,110,111,112,113,114,115,116,117,118,119,120,121,122,48,49,50,51,52,53,54,55,56,57]=([]:List UInt8)then
(atI a 0).bind λb=>
some (decide ((0:Int)<=Go.Lib.indexByte [(97:UInt8),98,99,100,101,102,103,104,105,106,107,108,109,110,111,112,113,114,115,116,117,118,119,120,121,122] (Nat.toUInt8 (Int.toNat ((UInt8.toNat b):Int)))))
else
some false
else
some false
def ZF5:Ctr:=D1 (.str) (.bool) ZeT
def ZbW (a:List XT):Option Int:=
some (a.length:Int)
def ZHu:Ctr:=D1 (.sl (Znm)) Iq ZbW
def XH (b:List (List UInt8)) (d:List UInt8) (a:Int):Option ((Int×Unit)⊕Int):=
if a<(b.length:Int)then
(atI b a).bind λc=>
if d=c then
some (.inr a)
else
some (.inl (Wq (a+1),()))
else
some (.inr (-1))
def Xr (b:List (List UInt8)) (a:List UInt8):Option Int:=
ZA (λv=>XH b a v.1) ((0:Int),())
def c124:Ctr:=D2 (.sl (.str)) (.str) Iq Xr
def QU (b:List (List UInt8)) (a:List UInt8):Option Bool:=
(Xr b a).bind λc=>
some (decide (0<=c))
def ZIl:Ctr:=D2 (.sl (.str)) (.str) (.bool) QU
def ZeR (a:List (List UInt8)) (b:Int):Option ((Int×Unit)⊕Bool):=
if b<(a.length:Int)then
(atI a b).bind λc=>
(ZeT c).bind λe=>
if e then
Zy ((0:Int)<=b)<|
Zy (b<=(a.length:Int))<|
(QU (List.take (Int.toNat b-Int.toNat 0) (List.drop (Int.toNat 0) a)) c).bind λd=>
if d then
some (.inr false)
else
some (.inl (Wq (b+1),()))
else
some (.inr false)
else
some (.inr true)
def Zbj (a:List (List UInt8)):Option Bool:=
ZA (λv=>ZeR a v.1) ((0:Int),())
def ZGx:Ctr:=D1 (.sl (.str)) (.bool) Zbj
def Zbk (b:List XT) (a:List (List UInt8)) (d:Int):Option (((List (List UInt8))×Int×Unit)⊕Bool):=
if d<(b.length:Int)then
(atI b d).bind λc=>
Zy ((a.length+[GN c].length)*16<=140737488355328)<|
if d=Wq ((b.length:Int)-1)then
if G9 c=2 then
if G2 c=0 then
if(Gn c)=true then
some (.inr false)
else
some (.inl (a++[GN c],Wq (d+1),()))
else
some (.inr false)
else
some (.inr false)
else
if G9 c=1 then
(YC (G2 c) 0 500).bind λe=>
if e then
some (.inl (a++[GN c],Wq (d+1),()))
else
some (.inr false)
else
some (.inr false)
else
(ZbW b).bind λf=>
(YC f 2 5).bind λe=>
if e then
(Zbj a).bind λg=>
some (.inr g)
else
some (.inr false)
def ZiI (a:List XT):Option Bool:=
ZA (λv=>Zbk a v.1 v.2.1) (([]:List (List UInt8)),(0:Int),())
def c127:Ctr:=D1 (.sl (Znm)) (.bool) ZiI
def ZiJ (a:Int):Option Bool:=
if a=4 then
some true
else
some (decide (a=5))
def ZIm:Ctr:=D1 Iq (.bool) ZiJ
def XE (a:List Int):Option Int:=
some (a.length:Int)
def ZEl:Ctr:=D1 (.sl Iq) Iq XE
def Zgx (a c b:Int):Option Bool:=
(YC a c b).bind λd=>
some !d
def c130:Ctr:=D3 Iq (.ptr Iq) (.ptr Iq) (.bool) Zgx
def Y7 (c:List Int) (b:Int×Int×Unit) (a:Int):Option ((Int×Unit)⊕Int):=
if a<(c.length:Int)then
(atI c a).bind λe=>
(Zgx e b.1 b.2.1).bind λd=>
if d then
some (.inr a)
else
some (.inl (Wq (a+1),()))
else
some (.inr (-1))
def YQ (b:List Int) (a:Int×Int×Unit):Option Int:=
ZA (λv=>Y7 b a v.1) ((0:Int),())
def c131:Ctr:=D2 (.sl Iq) (.fn 230 (.pair (.ptr Iq) (.pair (.ptr Iq) (.unit)))) Iq YQ
def Xi (b:List Int) (a:Int×Int×Unit):Option Bool:=
(YQ b a).bind λc=>
some (decide (0<=c))
def ZIn:Ctr:=D2 (.sl Iq) (.fn 230 (.pair (.ptr Iq) (.pair (.ptr Iq) (.unit)))) (.bool) Xi
def Qe (b:List Int) (c a:Int):Option Bool:=
(Xi b (c,a,())).bind λd=>
some !d
def ZDK:Ctr:=D3 (.sl Iq) Iq Iq (.bool) Qe
def VG (a:List Int) (b:Int):Option ((Int×Unit)⊕Bool):=
if b<(a.length:Int)then
(atI a (Wq (b-1))).bind λc=>
(atI a b).bind λd=>
if d<=c then
some (.inr false)
else
some (.inl (Wq (b+1),()))
else
some (.inr true)
def Jj (a:List Int):Option Bool:=
ZA (λv=>VG a v.1) ((1:Int),())
def ZGy:Ctr:=D1 (.sl Iq) (.bool) Jj
def Zic (a:List Int):Option Bool:=
(XE a).bind λd=>
(YC d 1 4).bind λb=>
if b then
(Qe a 0 100000).bind λe=>
if e then
(Jj a).bind λc=>
some c
else
some false
else
some false
def ZIo:Ctr:=D1 (.sl Iq) (.bool) Zic
def ZiH (a:ZE):Option Bool:=
(Zic (GS a)).bind λc=>
if c then
(Zic (GA a)).bind λb=>
if b then
if((Gz a).length:Int)=Wq (((GS a).length:Int)*((GA a).length:Int))then
(Qe (Gz a) (-1000000) 1000000).bind λd=>
some d
else
some false
else
some false
else
some false
def ZIp:Ctr:=D1 (Zaw) (.bool) ZiH
def J9 (b:List Int) (c a:Int):Option ((Int×Int×Unit)⊕Int):=
if a<(b.length:Int)then
(atI b a).bind λd=>
some (.inl (Min.min c d,Wq (a+1),()))
else
some (.inr c)
def Zam (a:List Int):Option Int:=
if(a.length:Int)<1 then
none
else
(atI a 0).bind λb=>
ZA (λv=>J9 a v.1 v.2.1) (b,(1:Int),())
def ZIq:Ctr:=D1 (.sl Iq) Iq Zam
def ZaC (a:ZE) (c:Bool):Option Bool:=
(ZiH a).bind λd=>
if d then
if c then
(Zam (Gz a)).bind λb=>
some (decide (b<0))
else
some false
else
some true
def c138:Ctr:=D2 (Zaw) (.ptr (.bool)) (.bool) ZaC
def Yz (b:List ZE) (c:Bool×Unit) (a:Int):Option ((Int×Unit)⊕Int):=
if a<(b.length:Int)then
(atI b a).bind λe=>
(ZaC e c.1).bind λd=>
if d then
some (.inr a)
else
some (.inl (Wq (a+1),()))
else
some (.inr (-1))
def Yh (b:List ZE) (a:Bool×Unit):Option Int:=
ZA (λv=>Yz b a v.1) ((0:Int),())
def c139:Ctr:=D2 (.sl (Zaw)) (.fn 360 (.pair (.ptr (.bool)) (.unit))) Iq Yh
def Z9 (b:List ZE) (a:Bool×Unit):Option Bool:=
(Yh b a).bind λc=>
some (decide (0<=c))
def ZIr:Ctr:=D2 (.sl (Zaw)) (.fn 360 (.pair (.ptr (.bool)) (.unit))) (.bool) Z9
def Zc8 (b:List ZE) (a:Bool):Option Bool:=
if(b.length:Int)=2 then
(Z9 b (a,())).bind λc=>
some !c
else
some false
def c141:Ctr:=D2 (.sl (Zaw)) (.bool) (.bool) Zc8
def ZfI (a:XT):Option Bool:=
some (Gn a)
def ZIs:Ctr:=D1 (Znm) (.bool) ZfI
def YM (b:List XT) (a:Int):Option ((Int×Unit)⊕Int):=
if a<(b.length:Int)then
(atI b a).bind λc=>
(ZfI c).bind λd=>
if d then
some (.inr a)
else
some (.inl (Wq (a+1),()))
else
some (.inr (-1))
def Yp (a:List XT) (b:Unit):Option Int:=
ZA (λv=>YM a v.1) ((0:Int),())
def c143:Ctr:=D2 (.sl (Znm)) (.fn 364 (.unit)) Iq Yp
def ZfH (b:Zo):Option Int:=
(Yp (Gb b) ()).bind λa=>
some a
def ZIt:Ctr:=D1 (Zcq) Iq ZfH
def ZcT (b:Zo):Option Int:=
(ZbW (Gb b)).bind λa=>
some (Wq (a-1))
def c145:Ctr:=D1 (Zcq) Iq ZcT
def Zb2 (d:Zo) (a:Int):Option Bool:=
(ZcT d).bind λc=>
(YC a 0 (Wq (c-1))).bind λb=>
some b
def c146:Ctr:=D2 (Zcq) Iq (.bool) Zb2
def ZfJ (b:Zo) (a:ZK):Option Bool:=
(ZiJ (Gf a)).bind λf=>
if f then
if GH a=0 then
if((GQ a).length:Int)=0 then
(Zc8 (GJ a) false).bind λd=>
if d then
(ZfH b).bind λi=>
if Gs a=i then
if 0<=Gs a then
(Zb2 b (Gw a)).bind λe=>
if e then
some (!decide (Gw a=Gs a))
else
some false
else
some false
else
some false
else
some false
else
some false
else
some false
else
(Zc8 (GJ a) true).bind λd=>
if d then
(Zc8 (GQ a) true).bind λh=>
if h then
(ZcT b).bind λg=>
if Gw a=g then
(Zb2 b (Gs a)).bind λe=>
if e then
if Gf a=1 then
(atI (Gb b) (Gs a)).bind λc=>
if(Gn c)=true then
some false
else
(YC (GH a) 1 3).bind λj=>
some j
else
if Gf a=2 then
if Gf a=2 then
(atI (Gb b) (Gs a)).bind λc=>
if(Gn c)=true then
some (decide (GH a=0))
else
some false
else
some false
else
if Gf a=3 then
(atI (Gb b) (Gs a)).bind λc=>
if(Gn c)=true then
some (decide (GH a=0))
else
some false
else
some false
else
some false
else
some false
else
some false
else
some false
def ZIu:Ctr:=D2 (Zcq) (Zof) (.bool) ZfJ
def VX (a b:ZK):Option Bool:=
if Gf a=Gf b then
if Gs a=Gs b then
some (decide (Gw a=Gw b))
else
some false
else
some false
def c148:Ctr:=D2 (Zof) (.ptr (Zof)) (.bool) VX
def YE (b:List ZK) (c:ZK×Unit) (a:Int):Option ((Int×Unit)⊕Int):=
if a<(b.length:Int)then
(atI b a).bind λe=>
(VX e c.1).bind λd=>
if d then
some (.inr a)
else
some (.inl (Wq (a+1),()))
else
some (.inr (-1))
def Yj (b:List ZK) (a:ZK×Unit):Option Int:=
ZA (λv=>YE b a v.1) ((0:Int),())
def ZIv:Ctr:=D2 (.sl (Zof)) (.fn 339 (.pair (.ptr (Zof)) (.unit))) Iq Yj
def Yb (b:List ZK) (a:ZK×Unit):Option Bool:=
(Yj b a).bind λc=>
some (decide (0<=c))
def ZIw:Ctr:=D2 (.sl (Zof)) (.fn 339 (.pair (.ptr (Zof)) (.unit))) (.bool) Yb
def ZcA (b:Zo) (a:Int):Option ((Int×Unit)⊕Bool):=
if a<((Gp b).length:Int)then
(atI (Gp b) a).bind λc=>
(ZfJ b c).bind λe=>
if e then
Zy ((0:Int)<=a)<|
Zy (a<=((Gp b).length:Int))<|
(Yb (List.take (Int.toNat a-Int.toNat 0) (List.drop (Int.toNat 0) (Gp b))) (c,())).bind λd=>
if d then
some (.inr false)
else
some (.inl (Wq (a+1),()))
else
some (.inr false)
else
some (.inr (decide (((Gp b).length:Int)<=8)))
def Zd2 (a:Zo):Option Bool:=
ZA (λv=>ZcA a v.1) ((0:Int),())
def ZIx:Ctr:=D1 (Zcq) (.bool) Zd2
def ZeI (b:ZK) (a:Int):Option Bool:=
some (decide (Gf b=a))
def c152:Ctr:=D2 (Zof) (.ptr Iq) (.bool) ZeI
def YR (b:List ZK) (c:Int×Unit) (a:Int):Option ((Int×Unit)⊕Int):=
if a<(b.length:Int)then
(atI b a).bind λe=>
(ZeI e c.1).bind λd=>
if d then
some (.inr a)
else
some (.inl (Wq (a+1),()))
else
some (.inr (-1))
def Yt (b:List ZK) (a:Int×Unit):Option Int:=
ZA (λv=>YR b a v.1) ((0:Int),())
def ZIy:Ctr:=D2 (.sl (Zof)) (.fn 354 (.pair (.ptr Iq) (.unit))) Iq Yt
def Yl (b:List ZK) (a:Int×Unit):Option Bool:=
(Yt b a).bind λc=>
some (decide (0<=c))
def c154:Ctr:=D2 (.sl (Zof)) (.fn 354 (.pair (.ptr Iq) (.unit))) (.bool) Yl
def Zai (c:Zo) (a:Int):Option Bool:=
(Yl (Gp c) (a,())).bind λb=>
some b
def ZIz:Ctr:=D2 (Zcq) Iq (.bool) Zai
def Vm (a:Zo) (b c:Int):Option ((Int×Int×Unit)⊕Bool):=
if c<((Gb a).length:Int)then
(atI (Gb a) c).bind λi=>
if(Gn i)=true then
some (.inl (Wq (b+1),Wq (c+1),()))
else
some (.inl (b,Wq (c+1),()))
else
if GI a=1 then
if b=0 then
(ZcT a).bind λg=>
Zy ((0:Int)<=g)<|
if((GD a).length:Int)=Wq (1*2^Min.min (Int.toNat g) (IntKind.bits IntKind.i64))then
(Qe (GD a) 0 1).bind λh=>
some (.inr h)
else
some (.inr false)
else
some (.inr false)
else
if GI a=2 then
if b=1 then
if((GD a).length:Int)=0 then
(Zai a 1).bind λf=>
if f then
some (.inr false)
else
(Zai a 2).bind λd=>
(Zai a 3).bind λe=>
some (.inr (!d==e))
else
some (.inr false)
else
some (.inr false)
else
if GI a=3 then
if b=1 then
if((GD a).length:Int)=0 then
(Zai a 1).bind λf=>
if f then
(Zai a 2).bind λd=>
if d then
(Zai a 3).bind λe=>
some (.inr !e)
else
some (.inr false)
else
some (.inr false)
else
some (.inr false)
else
some (.inr false)
else
some (.inr false)
def Zdm (a:Zo):Option Bool:=
ZA (λv=>Vm a v.1 v.2.1) ((0:Int),(0:Int),())
def c156:Ctr:=D1 (Zcq) (.bool) Zdm
def ZjO (a:Zo):Option Bool:=
(ZeT (GV a)).bind λd=>
if d then
(ZiI (Gb a)).bind λb=>
if b then
(Zd2 a).bind λg=>
if g then
(YC (Ha a) 0 100000).bind λc=>
if c then
(YC (Hb a) 0 100000).bind λf=>
if f then
(Zdm a).bind λe=>
some e
else
some false
else
some false
else
some false
else
some false
else
some false
def c157:Ctr:=D1 (Zcq) (.bool) ZjO
def Zac (d:Zu) (a:List (List UInt8)) (b:Int):Option (((List (List UInt8))×Int×Unit)⊕Bool):=
if b<((Gd d).length:Int)then
(atI (Gd d) b).bind λc=>
(ZjO c).bind λf=>
if f then
Zy ((a.length+[GV c].length)*16<=140737488355328)<|
some (.inl (a++[GV c],Wq (b+1),()))
else
some (.inr false)
else
if((Gd d).length:Int)<=8 then
(Zbj a).bind λe=>
some (.inr e)
else
some (.inr false)
def ZgT (a:Zu):Option Bool:=
ZA (λv=>Zac a v.1 v.2.1) (([]:List (List UInt8)),(0:Int),())
def ZIA:Ctr:=D1 (X9) (.bool) ZgT
def Za7 (c:Zb) (b a:List (List UInt8)) (d:Int):Option (((List (List UInt8))×Int×Unit)⊕(((List (List UInt8))×Int×Unit)⊕Bool)):=
if d<((Ge c).length:Int)then
(atI (Ge c) d).bind λe=>
Zy ((a.length+[GT e].length)*16<=140737488355328)<|
some (.inl (a++[GT e],Wq (d+1),()))
else
if(b.length:Int)<=14 then
if((K5 c).length:Int)<=30 then
if(a.length:Int)<=8 then
(Zbj b).bind λg=>
if g then
(Zbj (K5 c)).bind λf=>
if f then
(Zbj a).bind λh=>
some (.inr (.inr h))
else
some (.inr (.inr false))
else
some (.inr (.inr false))
else
some (.inr (.inr false))
else
some (.inr (.inr false))
else
some (.inr (.inr false))
def Za8 (c:Zb) (a:List (List UInt8)) (b:Int):Option (((List (List UInt8))×Int×Unit)⊕Bool):=
if b<((K3 c).length:Int)then
(atI (K3 c) b).bind λd=>
Zy ((a.length+[Gq d].length)*16<=140737488355328)<|
some (.inl (a++[Gq d],Wq (b+1),()))
else
ZA (λv=>Za7 c a v.1 v.2.1) (([]:List (List UInt8)),(0:Int),())
def ZbS (a:Zb):Option Bool:=
ZA (λv=>Za8 a v.1 v.2.1) (([]:List (List UInt8)),(0:Int),())
def c159:Ctr:=D1 (YN) (.bool) ZbS
def Vn (a:List Zo):Option Int:=
some (a.length:Int)
def c160:Ctr:=D1 (.sl (Zcq)) Iq Vn
def XG (a:List (List UInt8)):Option Int:=
some (a.length:Int)
def ZEm:Ctr:=D1 (.sl (.str)) Iq XG
def XD (d:Zb) (a:Int):Option Bool:=
(XG (K5 d)).bind λc=>
(YC a 0 (Wq (c-1))).bind λb=>
some b
def c162:Ctr:=D2 (YN) Iq (.bool) XD
def Q5 (a:Int) (b:Zb):Option Bool:=
(XD b a).bind λc=>
some !c
def ZIB:Ctr:=D2 Iq (.ptr (YN)) (.bool) Q5
def YH (b:List Int) (c:Zb×Unit) (a:Int):Option ((Int×Unit)⊕Int):=
if a<(b.length:Int)then
(atI b a).bind λe=>
(Q5 e c.1).bind λd=>
if d then
some (.inr a)
else
some (.inl (Wq (a+1),()))
else
some (.inr (-1))
def Yn (b:List Int) (a:Zb×Unit):Option Int:=
ZA (λv=>YH b a v.1) ((0:Int),())
def c164:Ctr:=D2 (.sl Iq) (.fn 267 (.pair (.ptr (YN)) (.unit))) Iq Yn
def Ye (b:List Int) (a:Zb×Unit):Option Bool:=
(Yn b a).bind λc=>
some (decide (0<=c))
def ZIC:Ctr:=D2 (.sl Iq) (.fn 267 (.pair (.ptr (YN)) (.unit))) (.bool) Ye
def ZaX (e:Zb) (b:Zu) (a:Zd):Option Bool:=
(Vn (Gd b)).bind λf=>
(YC (Gr a) 0 (Wq (f-1))).bind λc=>
if c then
(atI (Gd b) (Gr a)).bind λd=>
if((Gc a).length:Int)=((Gb d).length:Int)then
(Ye (Gc a) (e,())).bind λg=>
some !g
else
some false
else
some false
def ZID:Ctr:=D3 (YN) (X9) (Jf) (.bool) ZaX
def ZeK (a:Int):Option Bool:=
some (!decide (a=1))
def c167:Ctr:=D1 Iq (.bool) ZeK
def Xq (b:List Int) (a:Int):Option ((Int×Unit)⊕Int):=
if a<(b.length:Int)then
(atI b a).bind λc=>
(ZeK c).bind λd=>
if d then
some (.inr a)
else
some (.inl (Wq (a+1),()))
else
some (.inr (-1))
def Xa (a:List Int) (b:Unit):Option Int:=
ZA (λv=>Xq a v.1) ((0:Int),())
def c168:Ctr:=D2 (.sl Iq) (.fn 225 (.unit)) Iq Xa
def YX (a:List Int) (c:Unit):Option Bool:=
(Xa a ()).bind λb=>
some (decide (0<=b))
def ZIE:Ctr:=D2 (.sl Iq) (.fn 225 (.unit)) (.bool) YX
def ZaK (d:Zb) (c:Int) (b:List Int):Option ((Int×(List Int)×Unit)⊕((Int×(List Int)×Unit)⊕Bool)):=
if c<((Ge d).length:Int)then
(atI (Ge d) c).bind λa=>
if GF a=1 then
(XD d (GK a)).bind λf=>
if f then
if GF a=1 then
(atI b (GK a)).bind λe=>
some (.inl (Wq (c+1),List.set b (Int.toNat (GK a)) (Wq (e+1)),()))
else
some (.inl (Wq (c+1),b,()))
else
some (.inr (.inr false))
else
if GF a=2 then
(XD d (GK a)).bind λf=>
if f then
if GF a=1 then
(atI b (GK a)).bind λe=>
some (.inl (Wq (c+1),List.set b (Int.toNat (GK a)) (Wq (e+1)),()))
else
some (.inl (Wq (c+1),b,()))
else
some (.inr (.inr false))
else
some (.inr (.inr false))
else
(YX b ()).bind λg=>
some (.inr (.inr !g))
def ZcE (h:Zu) (a:Zb) (b:Int) (d:List Int):Option ((Int×(List Int)×Unit)⊕Bool):=
if b<((K3 a).length:Int)then
(atI (K3 a) b).bind λc=>
(ZaX a h c).bind λf=>
if f then
(atI (Gc c) (Wq (((Gc c).length:Int)-1))).bind λe=>
(atI d e).bind λg=>
some (.inl (Wq (b+1),List.set d (Int.toNat e) (Wq (g+1)),()))
else
some (.inr false)
else
ZA (λv=>ZaK a v.1 v.2.1) ((0:Int),d,())
def ZhC (b:Zu) (a:Zb):Option Bool:=
(ZgT b).bind λd=>
if d then
(ZbS a).bind λc=>
if c then
Zy ((0:Int)<=((K5 a).length:Int))<|
Zy (((K5 a).length:Int)<=((K5 a).length:Int))<|
Zy (((K5 a).length:Int)<=4611686018427387904)<|
Zy (((8:Nat):Int)*((K5 a).length:Int)<=281474976710656)<|
ZA (λv=>ZcE b a v.1 v.2.1) ((0:Int),List.replicate (Int.toNat ((K5 a).length:Int)) (0:Int),())
else
some false
else
some false
def ZIF:Ctr:=D2 (X9) (YN) (.bool) ZhC
def Zb3 (d:Int) (c:Zd) (a:List ZL) (b:Int):Option (((List ZL)×Int×Unit)⊕(((List ZL)×Int×Unit)⊕List ZL)):=
if b<((Gc c).length:Int)then
(atI (Gc c) b).bind λe=>
Zy ((a.length+[(d,b,e,decide (b=Wq (((Gc c).length:Int)-1)),())].length)*32<=140737488355328)<|
some (.inl (a++[(d,b,e,decide (b=Wq (((Gc c).length:Int)-1)),())],Wq (b+1),()))
else
some (.inr (.inl (a,Wq (d+1),())))
def Zb4 (d:Zb) (a:List ZL) (b:Int):Option (((List ZL)×Int×Unit)⊕(((List ZL)×Int×Unit)⊕List ZL)):=
if b<((Ge d).length:Int)then
(atI (Ge d) b).bind λc=>
Zy ((a.length+[((-1:Int),b,GK c,decide (GF c=1),())].length)*32<=140737488355328)<|
some (.inl (a++[((-1:Int),b,GK c,decide (GF c=1),())],Wq (b+1),()))
else
some (.inr (.inr a))
def Zb5 (c:Zb) (a:List ZL) (b:Int):Option (((List ZL)×Int×Unit)⊕List ZL):=
if b<((K3 c).length:Int)then
(atI (K3 c) b).bind λd=>
ZA (λv=>Zb3 b d v.1 v.2.1) (a,(0:Int),())
else
ZA (λv=>Zb4 c v.1 v.2.1) (a,(0:Int),())
def ZV (a:Zb):Option (List ZL):=
ZA (λv=>Zb5 a v.1 v.2.1) (([]:List ZL),(0:Int),())
def c171:Ctr:=⟨[.dat (YN)],[.own (.ol 195 (.flat (Zk7)))],λa K=>Zr a λb a=>Yk (ZV b) λr=>K (r,()) ()⟩
def Zdf (b:Zq) (a:Int):Option ((Int×Unit)⊕Bool):=
if a<((K8 b).length:Int)then
(atI (K8 b) a).bind λd=>
if a=0 then
if d=(-1)then
(atI (GB b) 0).bind λe=>
if e=0 then
if 0<a then
(YC d 0 (Wq (a-1))).bind λc=>
if c then
some (.inl (Wq (a+1),()))
else
some (.inr false)
else
some (.inl (Wq (a+1),()))
else
some (.inr false)
else
some (.inr false)
else
if 0<a then
(YC d 0 (Wq (a-1))).bind λc=>
if c then
some (.inl (Wq (a+1),()))
else
some (.inr false)
else
some (.inl (Wq (a+1),()))
else
some (.inr true)
def ZeM (a:Zq):Option Bool:=
ZA (λv=>Zdf a v.1) ((0:Int),())
def ZIH:Ctr:=D1 (ZbR) (.bool) ZeM
def Zh9 (a:Zq) (b:Int):Option Bool:=
(XE (K8 a)).bind λc=>
(YC c 1 8).bind λd=>
if d then
(XE (GB a)).bind λi=>
if i=c then
(XE (GE a)).bind λe=>
if e=c then
(ZeM a).bind λh=>
if h then
(Qe (GB a) 0 1000).bind λg=>
if g then
(Qe (GE a) 0 500).bind λk=>
if k then
(XE (Gu a)).bind λj=>
if j=b then
(Qe (Gu a) 0 (Wq (c-1))).bind λf=>
some f
else
some false
else
some false
else
some false
else
some false
else
some false
else
some false
else
some false
def c173:Ctr:=D2 (ZbR) Iq (.bool) Zh9
def ZfL (b:Za) (f:List Int) (a:Int):Option ((Int×Unit)⊕((Int×(List Int)×Unit)⊕Bool)):=
if a<((K4 b).length:Int)then
(atI (K4 b) a).bind λe=>
(atI f a).bind λc=>
(Zh9 e c).bind λd=>
if d then
some (.inl (Wq (a+1),()))
else
some (.inr (.inr false))
else
some (.inr (.inr true))
def Zdo (f:Za) (a:List ZL) (b:Int) (c:List Int):Option ((Int×(List Int)×Unit)⊕Bool):=
if b<(a.length:Int)then
(atI a b).bind λd=>
if(GW d)=true then
some (.inl (Wq (b+1),c,()))
else
(atI c (ZL.net d)).bind λe=>
some (.inl (Wq (b+1),List.set c (Int.toNat (ZL.net d)) (Wq (e+1)),()))
else
ZA (λv=>ZfL f c v.1) ((0:Int),())
def Zg8 (a:Za):Option Bool:=
(ZhC (K6 a) (K2 a)).bind λc=>
if c then
if((K4 a).length:Int)=((K5 (K2 a)).length:Int)then
Zy ((0:Int)<=((K4 a).length:Int))<|
Zy (((K4 a).length:Int)<=((K4 a).length:Int))<|
Zy (((K4 a).length:Int)<=4611686018427387904)<|
Zy (((8:Nat):Int)*((K4 a).length:Int)<=281474976710656)<|
(ZV (K2 a)).bind λb=>
ZA (λv=>Zdo a b v.1 v.2.1) ((0:Int),List.replicate (Int.toNat ((K4 a).length:Int)) (0:Int),())
else
some false
else
some false
def ZHv:Ctr:=D1 (Ya) (.bool) Zg8
def ZdD (a b:Int):Option Bool:=
if 100<=a then
if a<=b then
some (decide (b<=5000))
else
some false
else
some false
def c175:Ctr:=D2 Iq Iq (.bool) ZdD
def ZhB (a:ZB):Option Bool:=
(ZeT (GZ a)).bind λc=>
if c then
(ZdD (G4 a) (G3 a)).bind λb=>
if b then
(ZdD (G5 a) (G6 a)).bind λd=>
some d
else
some false
else
some false
def ZII:Ctr:=D1 (XR) (.bool) ZhB
def VU (a:ZK):Option (List (Int×Int×Unit)):=
if Gf a=2 then
some ([((0:Int),(0:Int),()),((0:Int),(1:Int),())])
else
if Gf a=3 then
some ([((1:Int),(0:Int),()),((1:Int),(1:Int),())])
else
if Gf a=1 then
if GH a=1 then
some ([((0:Int),(0:Int),()),((1:Int),(1:Int),())])
else
if GH a=2 then
some ([((0:Int),(1:Int),()),((1:Int),(0:Int),())])
else
some ([((0:Int),(0:Int),()),((0:Int),(1:Int),()),((1:Int),(0:Int),()),((1:Int),(1:Int),())])
else
some []
def ZIJ:Ctr:=⟨[.dat (Zof)],[.own (.ol 272 (.flat (.pair Iq (.pair Iq (.unit)))))],λa K=>Zr a λb a=>Yk (VU b) λr=>K (r,()) ()⟩
def X3 (b f:Int) (d:ZK) (a:List (Int×Int×Unit)) (c:List Zt) (g:Int):Option (((List Zt)×Int×Unit)⊕(((List Zt)×Int×Unit)⊕List Zt)):=
if g<(a.length:Int)then
(atI a g).bind λe=>
Zy ((c.length+[(Wq (Wq ((2:Int)*Wq (b+Gs d))+e.1),Wq (Wq ((2:Int)*Wq (b+Gw d))+e.2.1),(1:Int),f,())].length)*32<=140737488355328)<|
some (.inl (c++[(Wq (Wq ((2:Int)*Wq (b+Gs d))+e.1),Wq (Wq ((2:Int)*Wq (b+Gw d))+e.2.1),(1:Int),f,())],Wq (g+1),()))
else
some (.inr (.inl (c,Wq (f+1),())))
def QI (b:Int) (d:Zo) (a:List Zt) (c:Int):Option (((List Zt)×Int×Unit)⊕List Zt):=
if c<((Gp d).length:Int)then
(atI (Gp d) c).bind λe=>
(VU e).bind λf=>
ZA (λv=>X3 b c e f v.1 v.2.1) (a,(0:Int),())
else
some (.inr a)
def VW (c:Za) (d:Zd) (a:Int):Option (List Zt):=
(atI (Gd (K6 c)) (Gr d)).bind λb=>
ZA (λv=>QI a b v.1 v.2.1) (([]:List Zt),(0:Int),())
def ZIK:Ctr:=⟨[.dat (Ya),.dat (Jf),.dat Iq],[.own (.ol 222 (.flat (ZcP)))],λa K=>Zr a λc a=>Zr a λd a=>Zr a λb a=>Yk (VW c d b) λr=>K (r,()) ()⟩
def ZN (a:List Int):Option (List Int):=
Zy ((([]:List Int).length+a.length)*8<=140737488355328)<|
some (([]:List Int)++a)
def ZDL:Ctr:=⟨[.dat (.sl Iq)],[.own (.ol 2 (.flat Iq))],λa K=>Zr a λb a=>Yk (ZN b) λr=>K (r,()) ()⟩
def ZcC (d:Int) (b:List ZL) (a:List Int) (c:Int):Option (((List Int)×Int×Unit)⊕List Int):=
if c<(b.length:Int)then
(atI b c).bind λe=>
if ZL.net e=d then
if(GW e)=true then
some (.inl (a,Wq (c+1),()))
else
Zy ((a.length+[c].length)*8<=140737488355328)<|
some (.inl (a++[c],Wq (c+1),()))
else
some (.inl (a,Wq (c+1),()))
else
some (.inr a)
def Zb6 (c:Zb) (a:Int):Option (List Int):=
(ZV c).bind λb=>
ZA (λv=>ZcC a b v.1 v.2.1) (([]:List Int),(0:Int),())
def ZHw:Ctr:=⟨[.dat (YN),.dat Iq],[.own (.ol 2 (.flat Iq))],λa K=>Zr a λc a=>Zr a λb a=>Yk (Zb6 c b) λr=>K (r,()) ()⟩
def Zaz (d:Zb) (f:Zu) (a:ZL):Option Int:=
if Gt a<0 then
some 0
else
(atI (K3 d) (Gt a)).bind λe=>
(atI (Gd f) (Gr e)).bind λb=>
(atI (Gb b) (ZL.pin a)).bind λc=>
some (G2 c)
def ZIL:Ctr:=D3 (YN) (X9) (Zk7) Iq Zaz
def QJ (e:Zq) (b:Int) (a:List Int):Option ((Int×(List Int)×Unit)⊕((Int×(List Int)×Unit)⊕List Int)):=
if 0<b then
(atI (K8 e) b).bind λc=>
(atI a c).bind λd=>
(atI a b).bind λf=>
some (.inl (Wq (b-1),List.set a (Int.toNat c) (Wq (d+f)),()))
else
some (.inr (.inr a))
def X4 (g:Za) (f:Zq) (b:List ZL) (a:List Int) (c:Int) (d:List Int):Option ((Int×(List Int)×Unit)⊕List Int):=
if c<(a.length:Int)then
(atI a c).bind λj=>
(atI (Gu f) c).bind λe=>
(atI d e).bind λi=>
(atI b j).bind λk=>
(Zaz (K2 g) (K6 g) k).bind λh=>
some (.inl (Wq (c+1),List.set d (Int.toNat e) (Wq (i+h)),()))
else
ZA (λv=>QJ f v.1 v.2.1) (Wq ((d.length:Int)-1),d,())
def Xd (a:Za) (c:Int):Option (List Int):=
(atI (K4 a) c).bind λb=>
(ZN (GE b)).bind λe=>
(ZV (K2 a)).bind λd=>
(Zb6 (K2 a) c).bind λf=>
ZA (λv=>X4 a b d f v.1 v.2.1) ((0:Int),e,())
def c182:Ctr:=⟨[.dat (Ya),.dat Iq],[.own (.ol 2 (.flat Iq))],λa K=>Zr a λc a=>Zr a λb a=>Yk (Xd c b) λr=>K (r,()) ()⟩
def Qs (d:Zq) (a:List Int) (b:Int) (c:List Int):Option ((Int×(List Int)×Unit)⊕List Int):=
if b<(c.length:Int)then
(atI (K8 d) b).bind λg=>
(atI c g).bind λe=>
(atI (GB d) b).bind λf=>
(atI a b).bind λh=>
(atI c b).bind λi=>
some (.inl (Wq (b+1),List.set c (Int.toNat b) (Wq (e+Wq (f*h))),()))
else
some (.inr c)
def Vl (c:Za) (b:Int):Option (List Int):=
(atI (K4 c) b).bind λd=>
(Xd c b).bind λa=>
Zy ((0:Int)<=(a.length:Int))<|
Zy ((a.length:Int)<=(a.length:Int))<|
Zy ((a.length:Int)<=4611686018427387904)<|
Zy (((8:Nat):Int)*(a.length:Int)<=281474976710656)<|
ZA (λv=>Qs d a v.1 v.2.1) ((1:Int),List.replicate (Int.toNat (a.length:Int)) (0:Int),())
def c183:Ctr:=⟨[.dat (Ya),.dat Iq],[.own (.ol 2 (.flat Iq))],λa K=>Zr a λc a=>Zr a λb a=>Yk (Vl c b) λr=>K (r,()) ()⟩
def Qm (a:List Int) (e:Zq) (b:List Int) (c:Int):Option (((List Int)×Int×Unit)⊕List Int):=
if c<((Gu e).length:Int)then
(atI (Gu e) c).bind λf=>
(atI a f).bind λd=>
Zy ((b.length+[d].length)*8<=140737488355328)<|
some (.inl (b++[d],Wq (c+1),()))
else
some (.inr b)
def Qi (b:Za) (a:Int):Option (List Int):=
(Vl b a).bind λc=>
(atI (K4 b) a).bind λd=>
ZA (λv=>Qm c d v.1 v.2.1) (([]:List Int),(0:Int),())
def ZIM:Ctr:=⟨[.dat (Ya),.dat Iq],[.own (.ol 2 (.flat Iq))],λa K=>Zr a λc a=>Zr a λb a=>Yk (Qi c b) λr=>K (r,()) ()⟩
def QT (g:List Int) (f c d a:Int) (b:List Zt):Option ((Int×(List Zt)×Unit)⊕((Int×(List Zt)×Unit)⊕((Int×(List Int)×(List (List Int))×(List Zt)×(List (List Int))×Unit)⊕((Int×(List Int)×(List (List Int))×Unit)⊕((Int×Int×(List Zt)×Unit)⊕ZW))))):=
if a<2 then
(atI g f).bind λe=>
Zy ((b.length+[(Wq (Wq ((2:Int)*e)+a),Wq (Wq ((2:Int)*d)+a),(2:Int),c,())].length)*32<=140737488355328)<|
some (.inl (Wq (a+1),b++[(Wq (Wq ((2:Int)*e)+a),Wq (Wq ((2:Int)*d)+a),(2:Int),c,())],()))
else
some (.inr (.inl (Wq (c+1),b,())))
def VH (k:List Int) (b:Int) (j:List Int) (h i:List (List Int)) (g:Int) (a d:List Int) (c:Int) (e:List Zt):Option ((Int×(List Zt)×Unit)⊕((Int×(List Int)×(List (List Int))×(List Zt)×(List (List Int))×Unit)⊕((Int×(List Int)×(List (List Int))×Unit)⊕((Int×Int×(List Zt)×Unit)⊕ZW)))):=
if c<(d.length:Int)then
(atI d c).bind λf=>
ZA (λv=>QT k b c f v.1 v.2.1) ((0:Int),e,())
else
some (.inr (.inl (Wq (b+1),j++[g],h++[a],e,List.set i (Int.toNat b) d,())))
def VI (c:Za) (a:List ZL) (l:List Int) (b:Int) (e:List Int) (d:List (List Int)) (i:List Zt) (h:List (List Int)):Option ((Int×(List Int)×(List (List Int))×(List Zt)×(List (List Int))×Unit)⊕((Int×(List Int)×(List (List Int))×Unit)⊕((Int×Int×(List Zt)×Unit)⊕ZW))):=
if b<((K4 c).length:Int)then
(Xd c b).bind λj=>
(atI j 0).bind λg=>
Zy ((e.length+[g].length)*8<=140737488355328)<|
(Qi c b).bind λf=>
Zy ((d.length+[f].length)*24<=140737488355328)<|
(atI h b).bind λk=>
ZA (λv=>VH l b e d h g f k v.1 v.2.1) ((0:Int),i,())
else
some (.inr (.inr (.inr (c,a,i,e,d,([]:List Int),()))))
def VJ (g:Za) (a:List ZL) (h:List Zt) (b:Int) (e:List Int) (d:List (List Int)):Option ((Int×(List Int)×(List (List Int))×Unit)⊕((Int×Int×(List Zt)×Unit)⊕ZW)):=
if b<(a.length:Int)then
(atI a b).bind λc=>
if(GW c)=true then
(atI e (ZL.net c)).bind λf=>
some (.inl (Wq (b+1),List.set e (Int.toNat (ZL.net c)) b,d,()))
else
(atI d (ZL.net c)).bind λf=>
Zy ((f.length+[b].length)*8<=140737488355328)<|
some (.inl (Wq (b+1),e,List.set d (Int.toNat (ZL.net c)) (f++[b]),()))
else
ZA (λv=>VI g a e v.1 v.2.1 v.2.2.1 v.2.2.2.1 v.2.2.2.2.1) ((0:Int),([]:List Int),([]:List (List Int)),h,d,())
def Zbl (a:Za) (b:List ZL) (e c:Int) (d:List Zt):Option ((Int×Int×(List Zt)×Unit)⊕ZW):=
if c<((K3 (K2 a)).length:Int)then
(atI (K3 (K2 a)) c).bind λg=>
(VW a g e).bind λf=>
Zy ((d.length+f.length)*32<=140737488355328)<|
(XE (Gc g)).bind λh=>
some (.inl (Wq (e+h),Wq (c+1),d++f,()))
else
Zy ((0:Int)<=((K4 a).length:Int))<|
Zy (((K4 a).length:Int)<=((K4 a).length:Int))<|
Zy (((K4 a).length:Int)<=4611686018427387904)<|
Zy (((8:Nat):Int)*((K4 a).length:Int)<=281474976710656)<|
Zy (((24:Nat):Int)*((K4 a).length:Int)<=281474976710656)<|
ZA (λv=>VJ a b d v.1 v.2.1 v.2.2.1) ((0:Int),List.replicate (Int.toNat ((K4 a).length:Int)) (0:Int),List.replicate (Int.toNat ((K4 a).length:Int)) (([]:List Int)),())
def Zar (a:Za):Option ZW:=
(ZV (K2 a)).bind λb=>
ZA (λv=>Zbl a b v.1 v.2.1 v.2.2.1) ((0:Int),(0:Int),([]:List Zt),())
def ZF6:Ctr:=D1 (Ya) (.ptr (Zlz)) Zar
def XU (a:List ZL):Option Int:=
some (a.length:Int)
def ZHx:Ctr:=D1 (.sl (Zk7)) Iq XU
def Xe (a:ZW):Option Int:=
(XU (ZW.Zg a)).bind λb=>
some (Wq (2*b))
def ZDM:Ctr:=D1 (.ptr (Zlz)) Iq Xe
def ZcW (a:List Bool):Option Int:=
some (a.length:Int)
def ZHy:Ctr:=D1 (.sl (.bool)) Iq ZcW
def JI (a:List ZC):Option Int:=
some (a.length:Int)
def ZIN:Ctr:=D1 (.sl (Zaa)) Iq JI
def ZjQ (a:Int):Option Bool:=
(YC a (-1000000000) 1000000000).bind λb=>
some b
def ZIO:Ctr:=D1 Iq (.bool) ZjQ
def J7 (a:ZC):Option Bool:=
(ZjQ (Gh a)).bind λc=>
if c then
(ZjQ (Gl a)).bind λb=>
if b then
some (decide (Gh a<=Gl a))
else
some false
else
some false
def ZEn:Ctr:=D1 (Zaa) (.bool) J7
def ZjP (a:Int):Option Bool:=
(YC a 0 1000000).bind λb=>
some b
def ZIP:Ctr:=D1 Iq (.bool) ZjP
def ZfM (a:ZC):Option Bool:=
(J7 a).bind λc=>
if c then
(ZjP (Gh a)).bind λb=>
if b then
(ZjP (Gl a)).bind λd=>
some d
else
some false
else
some false
def c193:Ctr:=D1 (Zaa) (.bool) ZfM
def JV (b:Zf) (a:Int):Option ((Int×Unit)⊕Bool):=
if a<((Ga b).length:Int)then
(atI (Ga b) a).bind λg=>
(atI (Gx b) a).bind λd=>
(J7 d).bind λf=>
if f then
(atI (Gv b) a).bind λc=>
(ZfM c).bind λe=>
if e then
if g then
some (.inl (Wq (a+1),()))
else
if(decide (Gh d=0)&&decide (Gl d=0))=true then
if(decide (Gh c=0)&&decide (Gl c=0))=true then
some (.inl (Wq (a+1),()))
else
some (.inr false)
else
some (.inr false)
else
some (.inr false)
else
some (.inr false)
else
some (.inr true)
def Zbo (e:ZW) (a:Zf):Option Bool:=
(Xe e).bind λb=>
(ZcW (Ga a)).bind λc=>
if c=b then
(JI (Gx a)).bind λf=>
if f=b then
(JI (Gv a)).bind λd=>
if d=b then
ZA (λv=>JV a v.1) ((0:Int),())
else
some false
else
some false
else
some false
def c194:Ctr:=D2 (.ptr (Zlz)) (ZdU) (.bool) Zbo
def ZdF (a:List Zt):Option Int:=
some (a.length:Int)
def ZIQ:Ctr:=D1 (.sl (ZcP)) Iq ZdF
def Zbn (c:ZW) (a:List Int):Option Bool:=
(ZdF (ZW.links c)).bind λd=>
(Qe a 0 (Wq (d-1))).bind λb=>
if b then
(Jj a).bind λe=>
some e
else
some false
def c196:Ctr:=D2 (.ptr (Zlz)) (.sl Iq) (.bool) Zbn
def ZeN (c:ZW) (a:Int):Option Bool:=
(Xe c).bind λd=>
(YC a 0 (Wq (d-1))).bind λb=>
some b
def ZIR:Ctr:=D2 (.ptr (Zlz)) Iq (.bool) ZeN
def Jb (e:ZW) (a:List Zj) (b:Int):Option ((Int×Unit)⊕Bool):=
if b<(a.length:Int)then
(atI a b).bind λc=>
(ZeN e (Gi c)).bind λf=>
if f then
(J7 (GM c)).bind λd=>
if d then
(ZfM (GR c)).bind λh=>
if h then
if 0<b then
(atI a (Wq (b-1))).bind λg=>
if Gi c<=Gi g then
some (.inr false)
else
some (.inl (Wq (b+1),()))
else
some (.inl (Wq (b+1),()))
else
some (.inr false)
else
some (.inr false)
else
some (.inr false)
else
some (.inr true)
def V3 (b:ZW) (a:List Zj):Option Bool:=
ZA (λv=>Jb b a v.1) ((0:Int),())
def c198:Ctr:=D2 (.ptr (Zlz)) (.sl (Qo)) (.bool) V3
def VK (e:ZW) (a:List Int) (c:Int) (b:List Bool):Option ((Int×(List Bool)×Unit)⊕((Int×(List Bool)×Unit)⊕Yc)):=
if c<(a.length:Int)then
(atI a c).bind λd=>
(atI b d).bind λf=>
some (.inl (Wq (c+1),List.set b (Int.toNat d) false,()))
else
some (.inr (.inr (e,b,())))
def ZcG (d:ZW) (a:List Int) (b:Int) (c:List Bool):Option ((Int×(List Bool)×Unit)⊕Yc):=
if b<(((List.replicate (Int.toNat ((ZW.links d).length:Int)) false).length):Int)then
(atI c b).bind λe=>
some (.inl (Wq (b+1),List.set c (Int.toNat b) true,()))
else
ZA (λv=>VK d a v.1 v.2.1) ((0:Int),c,())
def ZaE (a:ZW) (b:List Int):Option Yc:=
Zy ((0:Int)<=((ZW.links a).length:Int))<|
Zy (((ZW.links a).length:Int)<=((ZW.links a).length:Int))<|
Zy (((ZW.links a).length:Int)<=4611686018427387904)<|
Zy (((1:Nat):Int)*((ZW.links a).length:Int)<=281474976710656)<|
ZA (λv=>ZcG a b v.1 v.2.1) ((0:Int),List.replicate (Int.toNat ((ZW.links a).length:Int)) false,())
def ZIS:Ctr:=D2 (.ptr (Zlz)) (.sl Iq) (.ptr (Zir)) ZaE
def ZeS (a:Zt):Option Bool:=
some true
def ZIT:Ctr:=D1 (ZcP) (.bool) ZeS
def Y6 (c:Yc) (a:List Int) (b:Int):Option (((List Int)×Int×Unit)⊕List Int):=
if b<((ZW.links (GO c)).length:Int)then
(atI (ZW.links (GO c)) b).bind λf=>
(atI (Yc.live c) b).bind λd=>
if d then
(ZeS f).bind λe=>
if e then
Zy ((a.length+[b].length)*8<=140737488355328)<|
some (.inl (a++[b],Wq (b+1),()))
else
some (.inl (a,Wq (b+1),()))
else
some (.inl (a,Wq (b+1),()))
else
some (.inr a)
def Xz (a:Yc) (b:Unit):Option (List Int):=
ZA (λv=>Y6 a v.1 v.2.1) (([]:List Int),(0:Int),())
def c201:Ctr:=⟨[.dat (.ptr (Zir)),.dat (.fn 170 (.unit))],[.own (.ol 2 (.flat Iq))],λa K=>Zr a λc a=>Zr a λb a=>Yk (Xz c b) λr=>K (r,()) ()⟩
def Qv (b:List Int) (d a:Int):Option ((Int×Unit)⊕Int):=
if a<(b.length:Int)then
(atI b a).bind λc=>
if d=c then
some (.inr a)
else
some (.inl (Wq (a+1),()))
else
some (.inr (-1))
def Zbu (b:List Int) (a:Int):Option Int:=
ZA (λv=>Qv b a v.1) ((0:Int),())
def ZIU:Ctr:=D2 (.sl Iq) Iq Iq Zbu
def ZfP (b:Zt) (a:Int):Option Bool:=
some (decide (Gj b=a))
def c203:Ctr:=D2 (ZcP) (.ptr Iq) (.bool) ZfP
def Y9 (c:Yc) (d:Int×Unit) (a:List Int) (b:Int):Option (((List Int)×Int×Unit)⊕List Int):=
if b<((ZW.links (GO c)).length:Int)then
(atI (ZW.links (GO c)) b).bind λg=>
(atI (Yc.live c) b).bind λe=>
if e then
(ZfP g d.1).bind λf=>
if f then
Zy ((a.length+[b].length)*8<=140737488355328)<|
some (.inl (a++[b],Wq (b+1),()))
else
some (.inl (a,Wq (b+1),()))
else
some (.inl (a,Wq (b+1),()))
else
some (.inr a)
def Qt (b:Yc) (a:Int×Unit):Option (List Int):=
ZA (λv=>Y9 b a v.1 v.2.1) (([]:List Int),(0:Int),())
def ZIV:Ctr:=⟨[.dat (.ptr (Zir)),.dat (.fn 231 (.pair (.ptr Iq) (.unit)))],[.own (.ol 2 (.flat Iq))],λa K=>Zr a λc a=>Zr a λb a=>Yk (Qt c b) λr=>K (r,()) ()⟩
def ZfO (b:Yc) (a:Int):Option (List Int):=
(Qt b (a,())).bind λc=>
some c
def ZIW:Ctr:=⟨[.dat (.ptr (Zir)),.dat Iq],[.own (.ol 2 (.flat Iq))],λa K=>Zr a λc a=>Zr a λb a=>Yk (ZfO c b) λr=>K (r,()) ()⟩
def QY (g:Yc) (f:List Int) (j d:Int) (a:List Int) (b:Int) (c:List Int):Option ((Int×(List Int)×Unit)⊕(((List Int)×Int×(List Int)×Unit)⊕((Int×(List Int)×Unit)⊕((List Int)×Bool)))):=
if b<(a.length:Int)then
(atI a b).bind λi=>
(atI (ZW.links (GO g)) i).bind λe=>
(atI c (Gm e)).bind λh=>
some (.inl (Wq (b+1),List.set c (Int.toNat (Gm e)) (Wq (h-1)),()))
else
some (.inr (.inl (f++[d],Wq (j+1),c,())))
def Xu (d:Yc) (g c:List Int) (e:Int) (b:List Int):Option (((List Int)×Int×(List Int)×Unit)⊕((Int×(List Int)×Unit)⊕((List Int)×Bool))):=
if e<(g.length:Int)then
(Zbu b 0).bind λa=>
if a<0 then
some (.inr (.inr (([]:List Int),false)))
else
(atI b a).bind λh=>
Zy ((c.length+[a].length)*8<=140737488355328)<|
(ZfO d a).bind λf=>
ZA (λv=>QY d c e a f v.1 v.2.1) ((0:Int),List.set b (Int.toNat a) (-1:Int),())
else
some (.inr (.inr (c,true)))
def QZ (e:Yc) (a:List Int) (c:Int) (b:List Int):Option ((Int×(List Int)×Unit)⊕((List Int)×Bool)):=
if c<(a.length:Int)then
(atI a c).bind λg=>
(atI (ZW.links (GO e)) g).bind λd=>
(atI b (Gm d)).bind λf=>
some (.inl (Wq (c+1),List.set b (Int.toNat (Gm d)) (Wq (f+1)),()))
else
ZA (λv=>Xu e b v.1 v.2.1 v.2.2.1) (([]:List Int),(0:Int),b,())
def Zba (b:Yc):Option ((List Int)×Bool):=
(Xe (GO b)).bind λa=>
Zy ((0:Int)<=a)<|
Zy (a<=a)<|
Zy (a<=4611686018427387904)<|
Zy (((8:Nat):Int)*a<=281474976710656)<|
(Xz b ()).bind λc=>
ZA (λv=>QZ b c v.1 v.2.1) ((0:Int),List.replicate (Int.toNat a) (0:Int),())
def c206:Ctr:=⟨[.dat (.ptr (Zir))],[.own (.ol 2 (.flat Iq)),.dat (.bool)],λa K=>Zr a λb a=>Yk (Zba b) λr=>K (r.1,r.2,()) ()⟩
def Q8 (h:Za) (j:ZB) (a:List Int) (b:List Zj) (i:Option Zf):Option ((Option Yc)×(List Int)×Int):=
(Zg8 h).bind λl=>
if l then
(ZhB j).bind λk=>
if k then
(Zar h).bind λc=>
if(Option.isNone i)=true then
(Zbn c a).bind λf=>
if f then
(V3 c b).bind λg=>
if g then
(ZaE c a).bind λd=>
(Zba d).bind λe=>
if e.2 then
some (Option.some d,e.1,0)
else
some (Option.none,[],7)
else
some (Option.none,[],2)
else
some (Option.none,[],2)
else
(i).bind λm=>
(Zbo c m).bind λn=>
if n then
(Zbn c a).bind λf=>
if f then
(V3 c b).bind λg=>
if g then
(ZaE c a).bind λd=>
(Zba d).bind λe=>
if e.2 then
some (Option.some d,e.1,0)
else
some (Option.none,[],7)
else
some (Option.none,[],2)
else
some (Option.none,[],2)
else
some (Option.none,[],1)
else
some (Option.none,[],1)
else
some (Option.none,[],1)
def ZHz:Ctr:=⟨[.dat (Ya),.dat (XR),.dat (.sl Iq),.dat (.sl (Qo)),.dat (.nptr (ZdU))],[.dat (.nptr (Zir)),.own (.ol 2 (.flat Iq)),.dat Iq],λa K=>Zr a λd a=>Zr a λe a=>Zr a λc a=>Zr a λb a=>Zr a λf a=>Yk (Q8 d e c b f) λr=>K (r.1,r.2.1,r.2.2,()) ()⟩
def Jk (b:ZW):Option Zf:=
(Xe b).bind λa=>
Zy ((0:Int)<=a)<|
Zy (a<=a)<|
Zy (a<=4611686018427387904)<|
Zy (((1:Nat):Int)*a<=281474976710656)<|
Zy (((16:Nat):Int)*a<=281474976710656)<|
some (List.replicate (Int.toNat a) false,List.replicate (Int.toNat a) ((0:Int),(0:Int),()),List.replicate (Int.toNat a) ((0:Int),(0:Int),()),())
def c208:Ctr:=⟨[.dat (.ptr (Zlz))],[.own (ZjK)],λa K=>Zr a λb a=>Yk (Jk b) λr=>K (r,()) ()⟩
def Zhm (b:Zj) (a:Int):Option Bool:=
some (decide (Gi b=a))
def ZIX:Ctr:=D2 (Qo) (.ptr Iq) (.bool) Zhm
def Yw (b:List Zj) (c:Int×Unit) (a:Int):Option ((Int×Unit)⊕Int):=
if a<(b.length:Int)then
(atI b a).bind λe=>
(Zhm e c.1).bind λd=>
if d then
some (.inr a)
else
some (.inl (Wq (a+1),()))
else
some (.inr (-1))
def Yf (b:List Zj) (a:Int×Unit):Option Int:=
ZA (λv=>Yw b a v.1) ((0:Int),())
def c210:Ctr:=D2 (.sl (Qo)) (.fn 233 (.pair (.ptr Iq) (.unit))) Iq Yf
def ZhF (a:List Zj) (b:Int):Option (Zj×Bool):=
(Yf a (b,())).bind λc=>
if 0<=c then
(atI a c).bind λd=>
some (d,true)
else
some ((0,(0,0,()),(0,0,()),()),false)
def ZIY:Ctr:=⟨[.dat (.sl (Qo)),.dat Iq],[.dat (Qo),.dat (.bool)],λa K=>Zr a λc a=>Zr a λb a=>Yk (ZhF c b) λr=>K (r.1,r.2,()) ()⟩
def Zi0 (a b:ZC):Option ZC:=
some (Min.min (Gh a) (Gh b),Max.max (Gl a) (Gl b),())
def c212:Ctr:=D2 (Zaa) (Zaa) (Zaa) Zi0
def Za9 (d:Zj) (a:Bool) (b c:ZC):Option (Zj×Bool):=
if a then
(Zi0 (GM d) b).bind λf=>
(Zi0 (GR d) c).bind λe=>
some ((Gi d,f,e,()),a)
else
some ((Gi d,b,c,()),true)
def c213:Ctr:=⟨[.io (.flat (Qo)),.io (.flat (.bool)),.dat (Zaa),.dat (Zaa)],[],λa K=>Zr a λe a=>Zr a λc a=>Zr a λb a=>Zr a λd a=>Yk (Za9 e c b d) λr=>K () (r.1,r.2,())⟩
def Zhl (b:Zt) (a:Int):Option Bool:=
some (decide (Gm b=a))
def ZIZ:Ctr:=D2 (ZcP) (.ptr Iq) (.bool) Zhl
def Xh (c:Yc) (d:Int×Unit) (a:List Int) (b:Int):Option (((List Int)×Int×Unit)⊕List Int):=
if b<((ZW.links (GO c)).length:Int)then
(atI (ZW.links (GO c)) b).bind λg=>
(atI (Yc.live c) b).bind λe=>
if e then
(Zhl g d.1).bind λf=>
if f then
Zy ((a.length+[b].length)*8<=140737488355328)<|
some (.inl (a++[b],Wq (b+1),()))
else
some (.inl (a,Wq (b+1),()))
else
some (.inl (a,Wq (b+1),()))
else
some (.inr a)
def QL (b:Yc) (a:Int×Unit):Option (List Int):=
ZA (λv=>Xh b a v.1 v.2.1) (([]:List Int),(0:Int),())
def ZI0:Ctr:=⟨[.dat (.ptr (Zir)),.dat (.fn 235 (.pair (.ptr Iq) (.unit)))],[.own (.ol 2 (.flat Iq))],λa K=>Zr a λc a=>Zr a λb a=>Yk (QL c b) λr=>K (r,()) ()⟩
def ZcF (b:Yc) (a:Int):Option (List Int):=
(QL b (a,())).bind λc=>
some c
def ZHA:Ctr:=⟨[.dat (.ptr (Zir)),.dat Iq],[.own (.ol 2 (.flat Iq))],λa K=>Zr a λc a=>Zr a λb a=>Yk (ZcF c b) λr=>K (r,()) ()⟩
def Zb9 (b:ZW) (c:Zt):Option Int:=
(atI (ZW.Zg b) (Wq (Int.tdiv (Gm c) 2))).bind λa=>
some (ZL.net a)
def ZGz:Ctr:=D2 (.ptr (Zlz)) (ZcP) Iq Zb9
def ZdI (a:ZW) (b:Zt):Option ZK:=
(atI (ZW.Zg a) (Wq (Int.tdiv (Gm b) 2))).bind λe=>
(atI (K3 (K2 (G0 a))) (Gt e)).bind λc=>
(atI (Gd (K6 (G0 a))) (Gr c)).bind λd=>
(atI (Gp d) (GY b)).bind λf=>
some f
def c218:Ctr:=D2 (.ptr (Zlz)) (ZcP) (Zof) ZdI
def ZfD (a:Int):Option Bool:=
some (!decide (a=a))
def ZI1:Ctr:=D1 Iq (.bool) ZfD
def ZgP (a b:Int):Option Bool:=
(ZfD a).bind λc=>
if c then
(ZfD b).bind λd=>
if d then
some (decide (a<b))
else
some true
else
some (decide (a<b))
def ZI2:Ctr:=D2 Iq Iq (.bool) ZgP
def Zbv (a:Int):Option Bool:=
some (!decide (a=a))
def ZI3:Ctr:=D1 Iq (.bool) Zbv
def QG (f:List Int) (a b c:Int):Option ((Int×Int×Unit)⊕(Int×Bool)):=
if b<c then
(atI f (Wq (Int.fdiv (IntKind.wrap IntKind.u64 (Wq (b+c))) (2^Min.min (Int.toNat 1) (IntKind.bits IntKind.u64))))).bind λd=>
(ZgP d a).bind λe=>
if e then
some (.inl (Wq (Wq (Int.fdiv (IntKind.wrap IntKind.u64 (Wq (b+c))) (2^Min.min (Int.toNat 1) (IntKind.bits IntKind.u64)))+1),c,()))
else
some (.inl (b,Wq (Int.fdiv (IntKind.wrap IntKind.u64 (Wq (b+c))) (2^Min.min (Int.toNat 1) (IntKind.bits IntKind.u64))),()))
else
if b<(f.length:Int)then
(atI f b).bind λd=>
if d=a then
some (.inr (b,true))
else
(Zbv d).bind λe=>
if e then
(Zbv a).bind λg=>
some (.inr (b,g))
else
some (.inr (b,false))
else
some (.inr (b,false))
def Qr (b:List Int) (a:Int):Option (Int×Bool):=
ZA (λv=>QG b a v.1 v.2.1) ((0:Int),(b.length:Int),())
def c222:Ctr:=⟨[.dat (.sl Iq),.dat Iq],[.dat Iq,.dat (.bool)],λa K=>Zr a λc a=>Zr a λb a=>Yk (Qr c b) λr=>K (r.1,r.2,()) ()⟩
def Zha (a:List Int) (d:Int):Option ((List Zdd)×Int):=
(atI a 0).bind λe=>
(atI a (Wq ((a.length:Int)-1))).bind λc=>
(Qr a (Min.min (Max.max d e) c)).bind λb=>
if b.2 then
some ([(b.1,(1:Int),())],1)
else
(atI a b.1).bind λf=>
(atI a (Wq (b.1-1))).bind λg=>
some ([(Wq (b.1-1),Wq (f-Min.min (Max.max d e) c),()),(b.1,Wq (Min.min (Max.max d e) c-g),())],Wq (f-g))
def ZI4:Ctr:=⟨[.dat (.sl Iq),.dat Iq],[.own (.ol 369 (.flat (Zwb))),.dat Iq],λa K=>Zr a λb a=>Zr a λc a=>Yk (Zha b c) λr=>K (r.1,r.2,()) ()⟩
def ZdE (b a c:Int):Option Int:=
Zy (a≠0)<|
if c=0 then
if Int.tmod b a<0 then
some (Wq (Wq (Int.tdiv b a)-1))
else
if c=1 then
if 0<Int.tmod b a then
some (Wq (Wq (Int.tdiv b a)+1))
else
some (Wq (Int.tdiv b a))
else
some (Wq (Int.tdiv b a))
else
if c=1 then
if 0<Int.tmod b a then
some (Wq (Wq (Int.tdiv b a)+1))
else
some (Wq (Int.tdiv b a))
else
some (Wq (Int.tdiv b a))
def ZF7:Ctr:=D3 Iq Iq Iq Iq ZdE
def Qy (f:ZE) (a:List Zdd×Int) (g:Int) (d:Zdd) (e b:Int):Option ((Int×Int×Unit)⊕((Int×Int×Unit)⊕Int)):=
if b<(a.1.length:Int)then
(atI a.1 b).bind λc=>
(atI (Gz f) (Wq (Wq (Zdd.index d*((GA f).length:Int))+Zdd.index c))).bind λh=>
some (.inl (Wq (e+Wq (Wq (h*Zdd.part d)*Zdd.part c)),Wq (b+1),()))
else
some (.inr (.inl (e,Wq (g+1),())))
def Xg (g:ZE) (h:Int) (a b:List Zdd×Int) (d c:Int):Option ((Int×Int×Unit)⊕Int):=
if c<(a.1.length:Int)then
(atI a.1 c).bind λf=>
ZA (λv=>Qy g b c f v.1 v.2.1) (d,(0:Int),())
else
(ZdE d (Wq (a.2*b.2)) h).bind λe=>
some (.inr e)
def Zb7 (a:ZE) (c e f:Int):Option Int:=
(Zha (GS a) c).bind λd=>
(Zha (GA a) e).bind λb=>
ZA (λv=>Xg a f d b v.1 v.2.1) ((0:Int),(0:Int),())
def ZHB:Ctr:=D4 (Zaw) Iq Iq Iq Iq Zb7
def Zbh (c:ZB) (b a:Int):Option Int:=
if b=1 then
if a=0 then
some (G4 c)
else
if b=1 then
some (G3 c)
else
if a=0 then
some (G5 c)
else
some (G6 c)
else
if b=1 then
some (G3 c)
else
if a=0 then
some (G5 c)
else
some (G6 c)
def c226:Ctr:=D3 (XR) Iq Iq Iq Zbh
def Zjh (c a b:Int):Option Int:=
(ZdE (Wq (c*a)) 1000 b).bind λd=>
some d
def c227:Ctr:=D3 Iq Iq Iq Iq Zjh
def ZaL (c:ZW) (i:ZB) (l n b:Int):Option Int:=
(atI (ZW.links c) l).bind λa=>
(Zb9 c a).bind λh=>
if GP a=1 then
(atI (ZW.loads c) h).bind λg=>
(ZdI c a).bind λj=>
(atI (GJ j) (Int.tmod (Gm a) 2)).bind λe=>
(Zb7 e n g b).bind λm=>
(Zbh i (GP a) b).bind λd=>
(Zjh m d b).bind λf=>
some f
else
(atI (ZW.Zjf c) h).bind λg=>
(atI g (GY a)).bind λe=>
(ZdE e 1000 b).bind λk=>
(Zbh i (GP a) b).bind λd=>
(Zjh k d b).bind λf=>
some f
def c228:Ctr:=⟨[.dat (.ptr (Zlz)),.dat (XR),.dat Iq,.dat Iq,.dat Iq],[.dat Iq],λa K=>Zr a λd a=>Zr a λc a=>Zr a λb a=>Zr a λf a=>Zr a λe a=>Yk (ZaL d c b f e) λr=>K (r,()) ()⟩
def ZdH (c b a:Int):Option ((Int×Int×Unit)⊕Int):=
if b<a then
if Wq (Wq (Int.tdiv (Wq (Wq (b+a)+1)) 2)*Wq (Int.tdiv (Wq (Wq (b+a)+1)) 2))<=c then
some (.inl (Wq (Int.tdiv (Wq (Wq (b+a)+1)) 2),a,()))
else
some (.inl (b,Wq (Wq (Int.tdiv (Wq (Wq (b+a)+1)) 2)-1),()))
else
some (.inr b)
def ZmR (a:Int):Option Int:=
ZA (λv=>ZdH a v.1 v.2.1) ((0:Int),(3000000000:Int),())
def c229:Ctr:=D1 Iq Iq ZmR
def ZhG (b a c:Int):Option Int:=
(ZmR (Wq (Wq (Wq (Wq (500*b)*500)*b)+Wq (a*a)))).bind λd=>
if c=1 then
if Wq (d*d)<Wq (Wq (Wq (Wq (500*b)*500)*b)+Wq (a*a))then
some (Wq (Wq (Int.tdiv d 500)+1))
else
(ZdE d 500 c).bind λe=>
some e
else
(ZdE d 500 c).bind λe=>
some e
def ZI5:Ctr:=D3 Iq Iq Iq Iq ZhG
def XK (c:ZW) (e b a:Int):Option Int:=
(atI (ZW.links c) e).bind λd=>
(Zb9 c d).bind λh=>
if GP d=1 then
(atI (ZW.loads c) h).bind λg=>
(ZdI c d).bind λi=>
(atI (GQ i) (Int.tmod (Gm d) 2)).bind λf=>
(Zb7 f b g a).bind λk=>
some (Min.min k 1000000)
else
(atI (ZW.Zjf c) h).bind λg=>
(atI g (GY d)).bind λf=>
(ZhG b f a).bind λj=>
some (Min.min j 1000000)
def ZI6:Ctr:=D4 (.ptr (Zlz)) Iq Iq Iq Iq XK
def Zca (a:ZW) (h:ZB) (b:Int) (c:ZC):Option (ZC×ZC):=
(ZaL a h b (Gh c) 0).bind λk=>
(ZaL a h b (Gl c) 0).bind λi=>
(ZaL a h b (Gh c) 1).bind λl=>
(ZaL a h b (Gl c) 1).bind λj=>
(atI (ZW.links a) b).bind λm=>
if 0<((ZW.extras a).length:Int)then
if GP m=2 then
(Zb9 a m).bind λo=>
(atI (ZW.extras a) o).bind λn=>
(XK a b (Gh c) 0).bind λe=>
(XK a b (Gl c) 0).bind λg=>
(XK a b (Gh c) 1).bind λf=>
(XK a b (Gl c) 1).bind λd=>
some ((Wq (Min.min k i-n),Wq (Max.max l j+n),()),(Min.min e g,Max.max f d,()))
else
(XK a b (Gh c) 0).bind λe=>
(XK a b (Gl c) 0).bind λg=>
(XK a b (Gh c) 1).bind λf=>
(XK a b (Gl c) 1).bind λd=>
some ((Min.min k i,Max.max l j,()),(Min.min e g,Max.max f d,()))
else
(XK a b (Gh c) 0).bind λe=>
(XK a b (Gl c) 0).bind λg=>
(XK a b (Gh c) 1).bind λf=>
(XK a b (Gl c) 1).bind λd=>
some ((Min.min k i,Max.max l j,()),(Min.min e g,Max.max f d,()))
def c232:Ctr:=⟨[.dat (.ptr (Zlz)),.dat (XR),.dat Iq,.dat (Zaa)],[.dat (Zaa),.dat (Zaa)],λa K=>Zr a λd a=>Zr a λc a=>Zr a λb a=>Zr a λe a=>Yk (Zca d c b e) λr=>K (r.1,r.2,()) ()⟩
def Zi1 (a b:ZC):Option ZC:=
some (Wq (Gh a+Gh b),Wq (Gl a+Gl b),())
def c233:Ctr:=D2 (Zaa) (Zaa) (Zaa) Zi1
def Ziv (n:Yc) (r:ZB) (k:Zf) (c:List Int) (b e i d j g:Int) (f:Bool):Option ((Int×Int×Int×Int×Int×Int×Bool×Unit)⊕(Bool×Zj)):=
if b<(c.length:Int)then
(atI c b).bind λl=>
(atI (ZW.links (GO n)) l).bind λh=>
(atI (Ga k) (Gj h)).bind λq=>
if q then
(atI (Gv k) (Gj h)).bind λo=>
(Zca (GO n) r l o).bind λm=>
(atI (Gx k) (Gj h)).bind λs=>
(Zi1 s m.1).bind λp=>
(Za9 (e,(i,d,()),(j,g,()),()) f p m.2).bind λa=>
some (.inl (Wq (b+1),a.1.1,a.1.2.1.1,a.1.2.1.2.1,a.1.2.2.1.1,a.1.2.2.1.2.1,a.2,()))
else
some (.inl (Wq (b+1),e,i,d,j,g,f,()))
else
if f then
some (.inr (true,(e,(i,d,()),(j,g,()),())))
else
some (.inr (false,(0,(0,0,()),(0,0,()),())))
def X5 (n:Yc) (r:ZB) (k:Zf) (c:List Int) (b e i d j g:Int) (f:Bool):Option ((Int×Int×Int×Int×Int×Int×Bool×Unit)⊕(Bool×Zj)):=
if b<(c.length:Int)then
(atI c b).bind λl=>
(atI (ZW.links (GO n)) l).bind λh=>
(atI (Ga k) (Gj h)).bind λq=>
if q then
(atI (Gv k) (Gj h)).bind λo=>
(Zca (GO n) r l o).bind λm=>
(atI (Gx k) (Gj h)).bind λs=>
(Zi1 s m.1).bind λp=>
(Za9 (e,(i,d,()),(j,g,()),()) f p m.2).bind λa=>
some (.inl (Wq (b+1),a.1.1,a.1.2.1.1,a.1.2.1.2.1,a.1.2.2.1.1,a.1.2.2.1.2.1,a.2,()))
else
some (.inl (Wq (b+1),e,i,d,j,g,f,()))
else
if f then
some (.inr (true,(e,(i,d,()),(j,g,()),())))
else
some (.inr (false,(0,(0,0,()),(0,0,()),())))
def Xy (c:Yc) (f:ZB) (h:List Zj) (g:Zf) (b:Int):Option (Bool×Zj):=
(ZhF h b).bind λd=>
if d.2 then
(Za9 (b,(0,0,()),(0,0,()),()) false d.1.2.1 d.1.2.2.1).bind λa=>
(ZcF c b).bind λe=>
ZA (λv=>Ziv c f g e v.1 v.2.1 v.2.2.1 v.2.2.2.1 v.2.2.2.2.1 v.2.2.2.2.2.1 v.2.2.2.2.2.2.1) ((0:Int),a.1.1,a.1.2.1.1,a.1.2.1.2.1,a.1.2.2.1.1,a.1.2.2.1.2.1,a.2,())
else
(ZcF c b).bind λe=>
ZA (λv=>X5 c f g e v.1 v.2.1 v.2.2.1 v.2.2.2.1 v.2.2.2.2.1 v.2.2.2.2.2.1 v.2.2.2.2.2.2.1) ((0:Int),b,(0:Int),(0:Int),(0:Int),(0:Int),false,())
def c234:Ctr:=⟨[.dat (.ptr (Zir)),.dat (XR),.dat (.sl (Qo)),.dat (ZdU),.dat Iq],[.dat (.bool),.dat (Qo)],λa K=>Zr a λd a=>Zr a λc a=>Zr a λb a=>Zr a λf a=>Zr a λe a=>Yk (Xy d c b f e) λr=>K (r.1,r.2,()) ()⟩
def Yy (n:Yc) (q:ZB) (d:List Zj) (c:List Int) (h:Int) (j:List Bool) (i k:List ZC) (g:List Bool) (e f:List ZC):Option ((Int×(List Bool)×(List ZC)×(List ZC)×(List Bool)×(List ZC)×(List ZC)×Unit)⊕(Zf×Bool)):=
if h<(c.length:Int)then
(atI c h).bind λa=>
(Xy n q d (g,e,f,()) a).bind λb=>
if b.1 then
(J7 b.2.2.1).bind λl=>
if l then
(atI g a).bind λp=>
(atI e a).bind λm=>
(atI f a).bind λo=>
some (.inl (Wq (h+1),j,i,k,List.set g (Int.toNat a) b.1,List.set e (Int.toNat a) b.2.2.1,List.set f (Int.toNat a) b.2.2.2.1,()))
else
some (.inr ((([]:List Bool),([]:List ZC),([]:List ZC),()),false))
else
(atI g a).bind λp=>
(atI e a).bind λm=>
(atI f a).bind λo=>
some (.inl (Wq (h+1),j,i,k,List.set g (Int.toNat a) b.1,List.set e (Int.toNat a) b.2.2.1,List.set f (Int.toNat a) b.2.2.2.1,()))
else
some (.inr ((g,e,f,()),true))
def Zad (d:Yc) (e:ZB) (a:List Zj) (b:List Int):Option (Zf×Bool):=
(Jk (GO d)).bind λc=>
ZA (λv=>Yy d e a b v.1 v.2.1 v.2.2.1 v.2.2.2.1 v.2.2.2.2.1 v.2.2.2.2.2.1 v.2.2.2.2.2.2.1) ((0:Int),([]:List Bool),([]:List ZC),([]:List ZC),Ga c,Gx c,Gv c,())
def ZI7:Ctr:=⟨[.dat (.ptr (Zir)),.dat (XR),.dat (.sl (Qo)),.dat (.sl Iq)],[.own (ZjK),.dat (.bool)],λa K=>Zr a λd a=>Zr a λe a=>Zr a λb a=>Zr a λc a=>Yk (Zad d e b c) λr=>K (r.1,r.2,()) ()⟩
def XV (g:Za) (d:ZB) (b:List Int) (a:List Zj):Option (Zf×Int):=
(Q8 g d b a Option.none).bind λc=>
if c.2.2=0 then
(c.1).bind λf=>
(Zad f d a c.2.1).bind λe=>
if e.2 then
some (e.1,0)
else
some (([],[],[],()),3)
else
some (([],[],[],()),c.2.2)
def c236:Ctr:=⟨[.dat (Ya),.dat (XR),.dat (.sl Iq),.dat (.sl (Qo))],[.dat (ZdU),.dat Iq],λa K=>Zr a λd a=>Zr a λe a=>Zr a λc a=>Zr a λb a=>Yk (XV d e c b) λr=>K (r.1,r.2,()) ()⟩
def ZhA (a:Zh):Option Zh:=
if K7 a=1 then
some (K7 a,K9 a,Gy a,0,0,[],([],[],[],[],()),())
else
if K7 a=2 then
some (K7 a,K9 a,Gy a,0,0,Gg a,([],[],[],[],()),())
else
if K7 a=4 then
some (K7 a,K9 a,0,Gk a,GC a,[],([],[],[],[],()),())
else
if K7 a=5 then
some (K7 a,0,0,Gk a,0,[],a.2.2.2.2.2.2)
else
some (K7 a,0,0,0,0,[],([],[],[],[],()),())
def ZI8:Ctr:=D1 (XI) (XI) ZhA
def Js (a c:List Int) (b:Int):Option ((Int×Unit)⊕Bool):=
if b<(a.length:Int)then
(atI a b).bind λe=>
(atI c b).bind λd=>
if e=d then
some (.inl (Wq (b+1),()))
else
some (.inr false)
else
some (.inr true)
def XL (b a:List Int):Option Bool:=
if(b.length:Int)=(a.length:Int)then
ZA (λv=>Js b a v.1) ((0:Int),())
else
some false
def ZI9:Ctr:=D2 (.sl Iq) (.sl Iq) (.bool) XL
def ZhE (b a:Zq):Option Bool:=
(XL (K8 b) (K8 a)).bind λe=>
if e then
(XL (GB b) (GB a)).bind λc=>
if c then
(XL (GE b) (GE a)).bind λf=>
if f then
(XL (Gu b) (Gu a)).bind λd=>
some d
else
some false
else
some false
else
some false
def ZJa:Ctr:=D2 (ZbR) (ZbR) (.bool) ZhE
def ZfQ (b a:Zh):Option Bool:=
if K7 b=K7 a then
if K9 b=K9 a then
if Gy b=Gy a then
if Gk b=Gk a then
if GC b=GC a then
if Gg b=Gg a then
(ZhE (GG b) (GG a)).bind λc=>
some c
else
some false
else
some false
else
some false
else
some false
else
some false
else
some false
def ZJb:Ctr:=D2 (XI) (XI) (.bool) ZfQ
def ZcD (a:Zh) (b:Za):Option Bool:=
(YC (K7 a) 1 5).bind λk=>
if k then
(ZhA a).bind λi=>
(ZfQ a i).bind λm=>
if m then
(ZV (K2 b)).bind λj=>
(XU j).bind λl=>
(YC (K9 a) 0 (Wq (l-1))).bind λe=>
if K7 a=1 then
if K7 a=1 then
if e then
(Vn (Gd (K6 b))).bind λh=>
(YC (Gy a) 0 (Wq (h-1))).bind λd=>
some d
else
some false
else
if K7 a=4 then
if e then
(XD (K2 b) (Gk a)).bind λc=>
if c then
(atI (K4 b) (Gk a)).bind λf=>
(XE (K8 f)).bind λg=>
(YC (GC a) 0 (Wq (g-1))).bind λd=>
some d
else
some false
else
some false
else
if K7 a=5 then
(XD (K2 b) (Gk a)).bind λc=>
some c
else
some true
else
if K7 a=2 then
if e then
(Vn (Gd (K6 b))).bind λh=>
(YC (Gy a) 0 (Wq (h-1))).bind λd=>
some d
else
some false
else
if K7 a=4 then
if e then
(XD (K2 b) (Gk a)).bind λc=>
if c then
(atI (K4 b) (Gk a)).bind λf=>
(XE (K8 f)).bind λg=>
(YC (GC a) 0 (Wq (g-1))).bind λd=>
some d
else
some false
else
some false
else
if K7 a=5 then
(XD (K2 b) (Gk a)).bind λc=>
some c
else
some true
else
some false
else
some false
def ZJc:Ctr:=D2 (XI) (Ya) (.bool) ZcD
def Zhk (a b:XT):Option Bool:=
some (Gn a==Gn b)
def ZJd:Ctr:=D2 (Znm) (Znm) (.bool) Zhk
def ZR (a c:List XT) (b:Int):Option ((Int×Unit)⊕Bool):=
if b<(a.length:Int)then
(atI a b).bind λf=>
(atI c b).bind λd=>
(Zhk f d).bind λe=>
if e then
some (.inl (Wq (b+1),()))
else
some (.inr false)
else
some (.inr true)
def Yi (b a:List XT) (c:Unit):Option Bool:=
if(b.length:Int)=(a.length:Int)then
ZA (λv=>ZR b a v.1) ((0:Int),())
else
some false
def ZJe:Ctr:=D3 (.sl (Znm)) (.sl (Znm)) (.fn 292 (.unit)) (.bool) Yi
def ZhD (b a:Zo):Option Bool:=
if GI b=GI a then
(Yi (Gb b) (Gb a) ()).bind λc=>
some c
else
some false
def ZJf:Ctr:=D2 (Zcq) (Zcq) (.bool) ZhD
def Zak (a:Zo):Option Bool:=
if GI a=1 then
some (decide (((Gb a).length:Int)=2))
else
some false
def ZHC:Ctr:=D1 (Zcq) (.bool) Zak
def ZdC (a:Zd) (b:List UInt8):Option Bool:=
some (decide (Gq a=b))
def ZJg:Ctr:=D2 (Jf) (.ptr (.str)) (.bool) ZdC
def Yd (b:List Zd) (c:List UInt8×Unit) (a:Int):Option ((Int×Unit)⊕Int):=
if a<(b.length:Int)then
(atI b a).bind λe=>
(ZdC e c.1).bind λd=>
if d then
some (.inr a)
else
some (.inl (Wq (a+1),()))
else
some (.inr (-1))
def Z0 (b:List Zd) (a:List UInt8×Unit):Option Int:=
ZA (λv=>Yd b a v.1) ((0:Int),())
def ZJh:Ctr:=D2 (.sl (Jf)) (.fn 294 (.pair (.ptr (.str)) (.unit))) Iq Z0
def Zdn (c:Zb) (a:List UInt8):Option Int:=
(Z0 (K3 c) (a,())).bind λb=>
some b
def ZJi:Ctr:=D2 (YN) (.str) Iq Zdn
def ZbT (c:Zb) (a:List UInt8):Option Int:=
(Xr (K5 c) a).bind λb=>
some b
def ZJj:Ctr:=D2 (YN) (.str) Iq ZbT
def ZaV (a:Za):Option Bool:=
if((K3 (K2 a)).length:Int)=0 then
some false
else
(atI (K3 (K2 a)) (Wq (((K3 (K2 a)).length:Int)-1))).bind λc=>
(XG (K5 (K2 a))).bind λb=>
(atI (Gd (K6 a)) (Gr c)).bind λh=>
(Zak h).bind λe=>
if e then
(atI (Gc c) 1).bind λf=>
if f=Wq (b-1)then
(atI (Gc c) 0).bind λg=>
if g=Wq (b-1)then
some false
else
(atI (K5 (K2 a)) (Wq (b-1))).bind λj=>
if j=Gq c then
(atI (K4 a) (Wq (b-1))).bind λd=>
if((Gu d).length:Int)=1 then
if((K8 d).length:Int)=1 then
(atI (GE d) 0).bind λi=>
some (decide (i=0))
else
some false
else
some false
else
some false
else
some false
else
some false
def ZJk:Ctr:=D1 (Ya) (.bool) ZaV
def ZbV (a:Zh) (c:Za):Option Bool:=
(ZV (K2 c)).bind λd=>
if K7 a=1 then
(atI d (K9 a)).bind λb=>
if 0<=Gt b then
if(GW b)=true then
(atI (K3 (K2 c)) (Gt b)).bind λe=>
(atI (Gd (K6 c)) (Gr e)).bind λi=>
(atI (Gd (K6 c)) (Gy a)).bind λl=>
(ZhD i l).bind λf=>
some f
else
some false
else
some false
else
if K7 a=2 then
(atI d (K9 a)).bind λb=>
if(GW b)=true then
some false
else
(atI (Gd (K6 c)) (Gy a)).bind λe=>
(Zak e).bind λm=>
if m then
(ZeT (Gg a)).bind λg=>
if g then
(Zdn (K2 c) (Gg a)).bind λk=>
if k<0 then
(ZbT (K2 c) (Gg a)).bind λj=>
some (decide (j<0))
else
some false
else
some false
else
some false
else
if K7 a=3 then
(ZaV c).bind λo=>
some o
else
if K7 a=4 then
(atI d (K9 a)).bind λb=>
if(GW b)=true then
some false
else
some (!decide (ZL.net b=Gk a))
else
(atI (K4 c) (Gk a)).bind λb=>
(XE (Gu b)).bind λn=>
(Zh9 (GG a) n).bind λh=>
some h
def ZJl:Ctr:=D2 (XI) (Ya) (.bool) ZbV
def Zez (b:Zh) (a:Za):Option Int:=
(ZcD b a).bind λd=>
if d then
(ZbV b a).bind λc=>
if c then
if K7 b=2 then
if((K3 (K2 a)).length:Int)=14 then
some 3
else
if((K5 (K2 a)).length:Int)=30 then
some 3
else
some 0
else
some 0
else
some 5
else
some 2
def ZJm:Ctr:=D2 (XI) (Ya) Iq Zez
def VB (a:Za) (c:Zh):Option Int:=
(Zg8 a).bind λd=>
if d then
(Zez c a).bind λb=>
some b
else
some 1
def ZF8:Ctr:=D2 (Ya) (XI) Iq VB
def Jq (a:List XT):Option (List XT):=
Zy ((([]:List (List UInt8×Int×Int×Bool×Unit)).length+a.length)*40<=140737488355328)<|
some (([]:List (List UInt8×Int×Int×Bool×Unit))++a)
def ZJn:Ctr:=⟨[.dat (.sl (Znm))],[.own (.ol 277 (.flat (Znm)))],λa K=>Zr a λb a=>Yk (Jq b) λr=>K (r,()) ()⟩
def Jp (a:List ZK):Option (List ZK):=
Zy ((([]:List (Int×Int×Int×Int×List ZE×List ZE×Unit)).length+a.length)*80<=140737488355328)<|
some (([]:List (Int×Int×Int×Int×List ZE×List ZE×Unit))++a)
def ZJo:Ctr:=⟨[.dat (.sl (Zof))],[.own (.ol 186 (.flat (Zof)))],λa K=>Zr a λb a=>Yk (Jp b) λr=>K (r,()) ()⟩
def ZaZ (b a:List ZE) (c:Int):Option (((List ZE)×Int×Unit)⊕List ZE):=
if c<(b.length:Int)then
(atI b c).bind λd=>
(ZN (GS d)).bind λf=>
(ZN (GA d)).bind λe=>
(ZN (Gz d)).bind λg=>
Zy ((a.length+[(f,e,g,())].length)*72<=140737488355328)<|
some (.inl (a++[(f,e,g,())],Wq (c+1),()))
else
some (.inr a)
def ZcV (a:List ZE):Option (List ZE):=
ZA (λv=>ZaZ a v.1 v.2.1) (([]:List ZE),(0:Int),())
def ZJp:Ctr:=⟨[.dat (.sl (Zaw))],[.own (.ol 330 (ZkH))],λa K=>Zr a λb a=>Yk (ZcV b) λr=>K (r,()) ()⟩
def VF (k:Int) (i:List Zo) (c:Zo) (e:List XT) (b:List Int) (g:List ZK) (d:Int) (a:List ZK×Int):Option ((Int×(List ZK×Int)×Unit)⊕((Int×(List Zo)×Unit)⊕Zu)):=
if d<(g.length:Int)then
(atI a.1 d).bind λh=>
Zy (a.2<=d)<|
(ZcV (GJ h)).bind λl=>
(ZcV (GQ h)).bind λj=>
Zy (d=a.2)<|
(atI a.1 a.2).bind λf=>
some (.inl (Wq (d+1),(List.set a.1 (Int.toNat a.2) (Gf f,Gs f,Gw f,GH f,l,j,()),a.2+1),()))
else
Zy (a.2=(a.1.length:Int))<|
Zy ((i.length+[(GV c,GI c,e,a.1,b,c.2.2.2.2.2)].length)*112<=140737488355328)<|
some (.inr (.inl (Wq (k+1),i++[(GV c,GI c,e,a.1,b,c.2.2.2.2.2)],())))
def Qz (e:Zu) (b:Int) (c:List Zo):Option ((Int×(List Zo)×Unit)⊕Zu):=
if b<((Gd e).length:Int)then
(atI (Gd e) b).bind λa=>
(Jq (Gb a)).bind λg=>
(ZN (GD a)).bind λf=>
(Jp (Gp a)).bind λd=>
ZA (λv=>VF b c a g f d v.1 v.2.1) ((0:Int),(d,(0:Int)),())
else
some (.inr (c,()))
def ZaD (a:Zu):Option Zu:=
ZA (λv=>Qz a v.1 v.2.1) ((0:Int),([]:List Zo),())
def ZJq:Ctr:=⟨[.dat (X9)],[.own (Zpb)],λa K=>Zr a λb a=>Yk (ZaD b) λr=>K (r,()) ()⟩
def Qk (a:List Zd):Option (List Zd):=
Zy ((([]:List (List UInt8×Int×List Int×Unit)).length+a.length)*48<=140737488355328)<|
some (([]:List (List UInt8×Int×List Int×Unit))++a)
def ZJr:Ctr:=⟨[.dat (.sl (Jf))],[.own (.ol 105 (.flat (Jf)))],λa K=>Zr a λb a=>Yk (Qk b) λr=>K (r,()) ()⟩
def ZaO (a:List (List UInt8)):Option (List (List UInt8)):=
Zy ((([]:List (List UInt8)).length+a.length)*16<=140737488355328)<|
some (([]:List (List UInt8))++a)
def ZJs:Ctr:=⟨[.dat (.sl (.str))],[.own (.ol 9 (.flat (.str)))],λa K=>Zr a λb a=>Yk (ZaO b) λr=>K (r,()) ()⟩
def VO (a:List Z6):Option (List Z6):=
Zy ((([]:List (List UInt8×Int×Int×Unit)).length+a.length)*32<=140737488355328)<|
some (([]:List (List UInt8×Int×Int×Unit))++a)
def ZJt:Ctr:=⟨[.dat (.sl (Zo7))],[.own (.ol 99 (.flat (Zo7)))],λa K=>Zr a λb a=>Yk (VO b) λr=>K (r,()) ()⟩
def VA (b:List Zd) (c:List (List UInt8)) (e:List Z6) (d:Int) (a:List Zd×Int):Option ((Int×(List Zd×Int)×Unit)⊕Zb):=
if d<(b.length:Int)then
(atI a.1 d).bind λh=>
Zy (a.2<=d)<|
(ZN (Gc h)).bind λg=>
Zy (d=a.2)<|
(atI a.1 a.2).bind λf=>
some (.inl (Wq (d+1),(List.set a.1 (Int.toNat a.2) (Gq f,Gr f,g,()),a.2+1),()))
else
Zy (a.2=(a.1.length:Int))<|
some (.inr (a.1,c,e,()))
def ZaA (a:Zb):Option Zb:=
(Qk (K3 a)).bind λb=>
(ZaO (K5 a)).bind λc=>
(VO (Ge a)).bind λd=>
ZA (λv=>VA b c d v.1 v.2.1) ((0:Int),(b,(0:Int)),())
def ZJu:Ctr:=⟨[.dat (YN)],[.own (ZpA)],λa K=>Zr a λb a=>Yk (ZaA b) λr=>K (r,()) ()⟩
def Zb8 (a:Zq):Option Zq:=
(ZN (K8 a)).bind λd=>
(ZN (GB a)).bind λb=>
(ZN (GE a)).bind λe=>
(ZN (Gu a)).bind λc=>
some (d,b,e,c,())
def ZGA:Ctr:=⟨[.dat (ZbR)],[.own (ZoN)],λa K=>Zr a λb a=>Yk (Zb8 b) λr=>K (r,()) ()⟩
def ZaW (f:Za) (a:Zu) (b:Zb) (d:Int) (c:List Zq):Option ((Int×(List Zq)×Unit)⊕Za):=
if d<((K4 f).length:Int)then
(atI (K4 f) d).bind λg=>
(Zb8 g).bind λe=>
Zy ((c.length+[e].length)*96<=140737488355328)<|
some (.inl (Wq (d+1),c++[e],()))
else
some (.inr (a,b,c,()))
def ZcS (a:Za):Option Za:=
(ZaD (K6 a)).bind λc=>
(ZaA (K2 a)).bind λb=>
ZA (λv=>ZaW a c b v.1 v.2.1) ((0:Int),([]:List Zq),())
def ZHD:Ctr:=⟨[.dat (Ya)],[.own (Zex)],λa K=>Zr a λb a=>Yk (ZcS b) λr=>K (r,()) ()⟩
def Zb1 (g:Za) (a:List ZL) (c:Int) (d:List ((Int×Int×Unit)×Int)) (e:List Int):Option ((Int×(List ((Int×Int×Unit)×Int))×(List Int)×Unit)⊕List (Za5×Int)):=
if c<(a.length:Int)then
(atI a c).bind λb=>
if(GW b)=true then
some (.inl (Wq (c+1),d,e,()))
else
(atI (K4 g) (ZL.net b)).bind λi=>
(atI e (ZL.net b)).bind λf=>
(atI (Gu i) f).bind λh=>
some (.inl (Wq (c+1),ZoA Zv6.ty Zv6.ety d (Gt b,ZL.pin b,()) h,List.set e (Int.toNat (ZL.net b)) (Wq (f+1)),()))
else
some (.inr d)
def Vz (a:Za):Option (List (Za5×Int)):=
Zy ((0:Int)<=((K4 a).length:Int))<|
Zy (((K4 a).length:Int)<=((K4 a).length:Int))<|
Zy (((K4 a).length:Int)<=4611686018427387904)<|
Zy (((8:Nat):Int)*((K4 a).length:Int)<=281474976710656)<|
(ZV (K2 a)).bind λb=>
ZA (λv=>Zb1 a b v.1 v.2.1 v.2.2.1) ((0:Int),([]:List ((Int×Int×Unit)×Int)),List.replicate (Int.toNat ((K4 a).length:Int)) (0:Int),())
def ZF9:Ctr:=⟨[.dat (Ya)],[.own (.mp (ZcQ) Iq)],λa K=>Zr a λb a=>Yk (Vz b) λr=>K (r,()) ()⟩
def Q6 (a:List Zd):Option Int:=
some (a.length:Int)
def ZHE:Ctr:=D1 (.sl (Jf)) Iq Q6
def Zay (b:Za) (a:Za5) (d:Int):Option Za:=
if G7 a<0 then
(atI (Ge (K2 b)) (Za5.pin a)).bind λc=>
some (K6 b,(K3 (K2 b),K5 (K2 b),List.set (Ge (K2 b)) (Int.toNat (Za5.pin a)) (GT c,GF c,d,()),()),b.2.2)
else
(atI (K3 (K2 b)) (G7 a)).bind λc=>
(atI c.2.2.1 (Za5.pin a)).bind λe=>
some (K6 b,(List.set (K3 (K2 b)) (Int.toNat (G7 a)) (c.1,c.2.1,List.set c.2.2.1 (Int.toNat (Za5.pin a)) d,()),(K2 b).2),b.2.2)
def ZGB:Ctr:=⟨[.io (Zex),.dat (ZcQ),.dat Iq],[],λa K=>Zr a λd a=>Zr a λb a=>Zr a λc a=>Yk (Zay d b c) λr=>K () (r,())⟩
def Zb0 (g:Za) (b:List (Za5×Int)) (a:List ZL) (f:Int) (e:List (List Int×List Int×List Int×List Int×Unit)):Option ((Int×(List (List Int×List Int×List Int×List Int×Unit))×Unit)⊕((Int×(List (List Int×List Int×List Int×List Int×Unit))×Unit)⊕Za)):=
if f<(a.length:Int)then
(atI a f).bind λc=>
if(GW c)=true then
some (.inl (Wq (f+1),e,()))
else
(atI e (ZL.net c)).bind λd=>
Zy ((d.2.2.2.1.length+[Option.getD (Zkx ZcQ (Ty.int IntKind.i64) b (Gt c,ZL.pin c,())) (0:Int)].length)*8<=140737488355328)<|
some (.inl (Wq (f+1),List.set e (Int.toNat (ZL.net c)) (d.1,d.2.1,d.2.2.1,d.2.2.2.1++[Option.getD (Zkx ZcQ (Ty.int IntKind.i64) b (Gt c,ZL.pin c,())) (0:Int)],()),()))
else
some (.inr (.inr (K6 g,K2 g,e,())))
def JU (c:Za) (a:List (Za5×Int)) (b:Int) (e:List (List Int×List Int×List Int×List Int×Unit)):Option ((Int×(List (List Int×List Int×List Int×List Int×Unit))×Unit)⊕Za):=
if b<((K4 c).length:Int)then
(atI e b).bind λd=>
some (.inl (Wq (b+1),List.set e (Int.toNat b) (d.1,d.2.1,d.2.2.1,([]:List Int),()),()))
else
(ZV (K2 c)).bind λf=>
ZA (λv=>Zb0 c a f v.1 v.2.1) ((0:Int),e,())
def Vy (b:Za) (a:List (Za5×Int)):Option Za:=
ZA (λv=>JU b a v.1 v.2.1) ((0:Int),K4 b,())
def ZGC:Ctr:=⟨[.io (Zex),.dat (.mp (ZcQ) Iq)],[],λa K=>Zr a λc a=>Zr a λb a=>Yk (Vy c b) λr=>K () (r,())⟩
def Zd1 (a:Za) (c:Zh):Option Za:=
(Vz a).bind λe=>
(ZV (K2 a)).bind λf=>
(atI f (K9 c)).bind λb=>
(XG (K5 (K2 a))).bind λd=>
(Q6 (K3 (K2 a))).bind λg=>
Zy (((K3 (K2 a)).length+[(Gg c,Gy c,[ZL.net b,d],())].length)*48<=140737488355328)<|
Zy (((K5 (K2 a)).length+[Gg c].length)*16<=140737488355328)<|
Zy (((K4 a).length+[([(-1:Int)],[(0:Int)],[(0:Int)],([]:List Int),())].length)*96<=140737488355328)<|
(Zay (K6 a,(K3 (K2 a)++[(Gg c,Gy c,[ZL.net b,d],())],K5 (K2 a)++[Gg c],(K2 a).2.2),K4 a++[([(-1:Int)],[(0:Int)],[(0:Int)],([]:List Int),())],()) (Gt b,ZL.pin b,()) d).bind λi=>
(Vy i (ZoA ZcQ (Ty.int IntKind.i64) (ZoA ZcQ (Ty.int IntKind.i64) e (g,0,()) (Option.getD (Zkx ZcQ (Ty.int IntKind.i64) e (Gt b,ZL.pin b,())) 0)) (Gt b,ZL.pin b,()) 0)).bind λh=>
some h
def ZJv:Ctr:=⟨[.io (Zex),.dat (XI)],[],λa K=>Zr a λc a=>Zr a λb a=>Yk (Zd1 c b) λr=>K () (r,())⟩
def ZaI (a:Za):Option (Za5×Za):=
(Vz a).bind λd=>
(ZV (K2 a)).bind λf=>
(XG (K5 (K2 a))).bind λk=>
(Zb6 (K2 a) (Wq (k-1))).bind λg=>
(atI g 0).bind λh=>
(atI f h).bind λc=>
(atI (K3 (K2 a)) (Wq (((K3 (K2 a)).length:Int)-1))).bind λe=>
(atI e.2.2.1 0).bind λj=>
(Zay (K6 a,(List.set (K3 (K2 a)) (Int.toNat (Wq (((K3 (K2 a)).length:Int)-1))) e,(K2 a).2),a.2.2) (Gt c,ZL.pin c,()) j).bind λb=>
Zy ((0:Int)<=Wq (((K3 (K2 a)).length:Int)-1))<|
Zy (Wq (((K3 (K2 a)).length:Int)-1)<=((K3 (K2 b)).length:Int))<|
Zy ((0:Int)<=Wq (((K5 (K2 b)).length:Int)-1))<|
Zy (Wq (((K5 (K2 b)).length:Int)-1)<=((K5 (K2 b)).length:Int))<|
Zy ((0:Int)<=Wq (((K4 b).length:Int)-1))<|
Zy (Wq (((K4 b).length:Int)-1)<=((K4 b).length:Int))<|
(Vy (K6 b,(List.take (Int.toNat (Wq (((K3 (K2 a)).length:Int)-1))-Int.toNat 0) (List.drop (Int.toNat 0) (K3 (K2 b))),List.take (Int.toNat (Wq (((K5 (K2 b)).length:Int)-1))-Int.toNat 0) (List.drop (Int.toNat 0) (K5 (K2 b))),(K2 b).2.2),List.take (Int.toNat (Wq (((K4 b).length:Int)-1))-Int.toNat 0) (List.drop (Int.toNat 0) (K4 b)),()) (ZoA ZcQ (Ty.int IntKind.i64) d (Gt c,ZL.pin c,()) (Option.getD (Zkx ZcQ (Ty.int IntKind.i64) d (Wq (((K3 (K2 a)).length:Int)-1),0,())) 0))).bind λi=>
some ((Gt c,ZL.pin c,()),i)
def ZHF:Ctr:=⟨[.io (Zex)],[.dat (ZcQ)],λa K=>Zr a λb a=>Yk (ZaI b) λr=>K (r.1,()) (r.2,())⟩
def ZH (b:Zh) (e:Za):Option Za:=
(ZcS e).bind λa=>
if K7 b=1 then
(ZV (K2 e)).bind λd=>
(atI d (K9 b)).bind λc=>
(atI (K3 (K2 a)) (Gt c)).bind λf=>
some (K6 a,(List.set (K3 (K2 a)) (Int.toNat (Gt c)) (f.1,Gy b,f.2.2),(K2 a).2),a.2.2)
else
if K7 b=2 then
(Zd1 a b).bind λj=>
some j
else
if K7 b=3 then
(ZaI a).bind λg=>
some g.2
else
if K7 b=4 then
(Vz a).bind λi=>
(ZV (K2 a)).bind λd=>
(atI d (K9 b)).bind λc=>
(Zay a (Gt c,ZL.pin c,()) (Gk b)).bind λh=>
(Vy h (ZoA ZcQ (Ty.int IntKind.i64) i (Gt c,ZL.pin c,()) (GC b))).bind λl=>
some l
else
if K7 b=5 then
(Zb8 (GG b)).bind λk=>
(atI (K4 a) (Gk b)).bind λc=>
some (K6 a,K2 a,List.set (K4 a) (Int.toNat (Gk b)) k,())
else
some a
def ZGa:Ctr:=⟨[.dat (XI),.dat (Ya)],[.own (Zex)],λa K=>Zr a λc a=>Zr a λb a=>Yk (ZH c b) λr=>K (r,()) ()⟩
def Zaq (a:Za) (b:Zh):Option (Za×Int):=
(VB a b).bind λc=>
if c=0 then
(ZH b a).bind λd=>
some (d,0)
else
some ((([],()),([],[],[],()),[],()),c)
def ZJw:Ctr:=⟨[.dat (Ya),.dat (XI)],[.dat (Ya),.dat Iq],λa K=>Zr a λb a=>Zr a λc a=>Yk (Zaq b c) λr=>K (r.1,r.2,()) ()⟩
def VD (e:Zh) (c:Int) (d:List ZL) (a:List Int) (b:Int):Option (((List Int)×Int×Unit)⊕List Int):=
if b<(d.length:Int)then
(atI d b).bind λf=>
if K7 e=2 then
if Gt f<0 then
Zy ((a.length+[Wq (b+2)].length)*8<=140737488355328)<|
some (.inl (a++[Wq (b+2)],Wq (b+1),()))
else
if K7 e=3 then
if Gt f<0 then
Zy ((a.length+[Wq (b-2)].length)*8<=140737488355328)<|
some (.inl (a++[Wq (b-2)],Wq (b+1),()))
else
if K7 e=3 then
if Gt f=Wq (c-1)then
Zy ((a.length+[(-1:Int)].length)*8<=140737488355328)<|
some (.inl (a++[(-1:Int)],Wq (b+1),()))
else
Zy ((a.length+[b].length)*8<=140737488355328)<|
some (.inl (a++[b],Wq (b+1),()))
else
Zy ((a.length+[b].length)*8<=140737488355328)<|
some (.inl (a++[b],Wq (b+1),()))
else
if K7 e=3 then
if Gt f=Wq (c-1)then
Zy ((a.length+[(-1:Int)].length)*8<=140737488355328)<|
some (.inl (a++[(-1:Int)],Wq (b+1),()))
else
Zy ((a.length+[b].length)*8<=140737488355328)<|
some (.inl (a++[b],Wq (b+1),()))
else
Zy ((a.length+[b].length)*8<=140737488355328)<|
some (.inl (a++[b],Wq (b+1),()))
else
if K7 e=3 then
if Gt f<0 then
Zy ((a.length+[Wq (b-2)].length)*8<=140737488355328)<|
some (.inl (a++[Wq (b-2)],Wq (b+1),()))
else
if K7 e=3 then
if Gt f=Wq (c-1)then
Zy ((a.length+[(-1:Int)].length)*8<=140737488355328)<|
some (.inl (a++[(-1:Int)],Wq (b+1),()))
else
Zy ((a.length+[b].length)*8<=140737488355328)<|
some (.inl (a++[b],Wq (b+1),()))
else
Zy ((a.length+[b].length)*8<=140737488355328)<|
some (.inl (a++[b],Wq (b+1),()))
else
if K7 e=3 then
if Gt f=Wq (c-1)then
Zy ((a.length+[(-1:Int)].length)*8<=140737488355328)<|
some (.inl (a++[(-1:Int)],Wq (b+1),()))
else
Zy ((a.length+[b].length)*8<=140737488355328)<|
some (.inl (a++[b],Wq (b+1),()))
else
Zy ((a.length+[b].length)*8<=140737488355328)<|
some (.inl (a++[b],Wq (b+1),()))
else
some (.inr a)
def JH (b:Zh) (a:Za):Option (List Int):=
(Q6 (K3 (K2 a))).bind λd=>
(ZV (K2 a)).bind λc=>
ZA (λv=>VD b d c v.1 v.2.1) (([]:List Int),(0:Int),())
def ZHG:Ctr:=⟨[.dat (XI),.dat (Ya)],[.own (.ol 2 (.flat Iq))],λa K=>Zr a λb a=>Zr a λc a=>Yk (JH b c) λr=>K (r,()) ()⟩
def QO (a:List Zj):Option (List Zj):=
Zy ((([]:List (Int×ZC×ZC×Unit)).length+a.length)*40<=140737488355328)<|
some (([]:List (Int×ZC×ZC×Unit))++a)
def ZJx:Ctr:=⟨[.dat (.sl (Qo))],[.own (.ol 74 (.flat (Qo)))],λa K=>Zr a λb a=>Yk (QO b) λr=>K (r,()) ()⟩
def Zg9 (b:List Int) (a:Int):Option (Int×Bool):=
(atI b (Wq (Int.tdiv a 2))).bind λc=>
some (Wq (Wq (2*c)+Int.tmod a 2),decide (0<=c))
def ZHH:Ctr:=⟨[.dat (.sl Iq),.dat Iq],[.dat Iq,.dat (.bool)],λa K=>Zr a λb a=>Zr a λc a=>Yk (Zg9 b c) λr=>K (r.1,r.2,()) ()⟩
def Zaj (b:List Zj) (a:List Int) (c:Int) (d:List Zj):Option ((Int×(List Zj)×Unit)⊕((List Zj)×Int)):=
if c<(b.length:Int)then
(atI b c).bind λg=>
(Zg9 a (Gi g)).bind λe=>
if e.2 then
(atI d c).bind λf=>
some (.inl (Wq (c+1),List.set d (Int.toNat c) (e.1,f.2),()))
else
some (.inr (([]:List Zj),(5:Int)))
else
some (.inr (d,0))
def Ji (b:Za) (c:Zh) (a:List Zj):Option ((List Zj)×Int):=
(VB b c).bind λd=>
if d=0 then
(Zar b).bind λe=>
(V3 e a).bind λh=>
if h then
(JH c b).bind λf=>
(QO a).bind λg=>
ZA (λv=>Zaj a f v.1 v.2.1) ((0:Int),g,())
else
some ([],2)
else
some ([],d)
def ZHI:Ctr:=⟨[.dat (Ya),.dat (XI),.dat (.sl (Qo))],[.own (.ol 74 (.flat (Qo))),.dat Iq],λa K=>Zr a λd a=>Zr a λc a=>Zr a λb a=>Yk (Ji d c b) λr=>K (r.1,r.2,()) ()⟩
def VE (h:Zf) (a:List Int) (e b:Int) (f:List Bool) (d g:List ZC):Option ((Int×(List Bool)×(List ZC)×(List ZC)×Unit)⊕Zf):=
if b<e then
(Zg9 a b).bind λc=>
if c.2 then
(atI (Ga h) b).bind λj=>
(atI (Gx h) b).bind λk=>
(atI (Gv h) b).bind λi=>
(atI f c.1).bind λl=>
(atI d c.1).bind λn=>
(atI g c.1).bind λm=>
some (.inl (Wq (b+1),List.set f (Int.toNat c.1) j,List.set d (Int.toNat c.1) k,List.set g (Int.toNat c.1) i,()))
else
some (.inl (Wq (b+1),f,d,g,()))
else
some (.inr (f,d,g,()))
def Zbi (b:Zh) (c:Za) (d:Zf):Option Zf:=
(ZH b c).bind λg=>
(Zar g).bind λe=>
(Jk e).bind λa=>
(JH b c).bind λf=>
(ZcW (Ga d)).bind λh=>
ZA (λv=>VE d f h v.1 v.2.1 v.2.2.1 v.2.2.2.1) ((0:Int),Ga a,Gx a,Gv a,())
def ZJy:Ctr:=⟨[.dat (XI),.dat (Ya),.dat (ZdU)],[.own (ZjK)],λa K=>Zr a λb a=>Zr a λc a=>Zr a λd a=>Yk (Zbi b c d) λr=>K (r,()) ()⟩
def ZeL (a:Za) (b:Zh) (d:Zf):Option (Zf×Int):=
(VB a b).bind λc=>
if c=0 then
(Zar a).bind λe=>
(Zbo e d).bind λg=>
if g then
(Zbi b a d).bind λf=>
some (f,0)
else
some (([],[],[],()),2)
else
some (([],[],[],()),c)
def ZJz:Ctr:=⟨[.dat (Ya),.dat (XI),.dat (ZdU)],[.own (ZjK),.dat Iq],λa K=>Zr a λc a=>Zr a λb a=>Zr a λd a=>Yk (ZeL c b d) λr=>K (r.1,r.2,()) ()⟩
def ZaB (b:Zh) (e:Za):Option (List Int):=
if K7 b=1 then
(ZV (K2 e)).bind λf=>
(atI f (K9 b)).bind λd=>
(atI (K3 (K2 e)) (Gt d)).bind λg=>
(ZN (Gc g)).bind λh=>
(ZyE h).bind λc=>
(Zkj c).bind λa=>
some a
else
if K7 b=2 then
(ZV (K2 e)).bind λf=>
(atI f (K9 b)).bind λd=>
(XG (K5 (K2 e))).bind λi=>
(ZyE [ZL.net d,i]).bind λc=>
(Zkj c).bind λa=>
some a
else
if K7 b=3 then
(atI (K3 (K2 e)) (Wq (((K3 (K2 e)).length:Int)-1))).bind λd=>
(atI (Gc d) 0).bind λg=>
(ZyE [g]).bind λc=>
(Zkj c).bind λa=>
some a
else
if K7 b=4 then
(ZV (K2 e)).bind λf=>
(atI f (K9 b)).bind λd=>
(ZyE [ZL.net d,Gk b]).bind λc=>
(Zkj c).bind λa=>
some a
else
if K7 b=5 then
(ZyE [Gk b]).bind λc=>
(Zkj c).bind λa=>
some a
else
(ZyE (([]:List Int))).bind λc=>
(Zkj (([]:List Int))).bind λa=>
some a
def ZJA:Ctr:=⟨[.dat (XI),.dat (Ya)],[.own (.ol 2 (.flat Iq))],λa K=>Zr a λc a=>Zr a λb a=>Yk (ZaB c b) λr=>K (r,()) ()⟩
def YA (b:List Int) (d a:Int):Option ((Int×Unit)⊕Int):=
if a<(b.length:Int)then
(atI b a).bind λc=>
if d=c then
some (.inr a)
else
some (.inl (Wq (a+1),()))
else
some (.inr (-1))
def XM (b:List Int) (a:Int):Option Int:=
ZA (λv=>YA b a v.1) ((0:Int),())
def ZJB:Ctr:=D2 (.sl Iq) Iq Iq XM
def Ym (b:List Int) (a:Int):Option Bool:=
(XM b a).bind λc=>
some (decide (0<=c))
def ZHJ:Ctr:=D2 (.sl Iq) Iq (.bool) Ym
def JG (d:List Int) (b:List ZL) (a:List Int) (c:Int):Option (((List Int)×Int×Unit)⊕List Int):=
if c<(b.length:Int)then
(atI b c).bind λf=>
(Ym d (ZL.net f)).bind λe=>
if e then
Zy ((a.length+[Wq ((2:Int)*c),Wq (Wq ((2:Int)*c)+1)].length)*8<=140737488355328)<|
some (.inl (a++[Wq ((2:Int)*c),Wq (Wq ((2:Int)*c)+1)],Wq (c+1),()))
else
some (.inl (a,Wq (c+1),()))
else
some (.inr a)
def ZaJ (a:Zh) (b:Za):Option (List Int):=
(ZaB a b).bind λe=>
(ZH a b).bind λc=>
(ZV (K2 c)).bind λd=>
ZA (λv=>JG e d v.1 v.2.1) (([]:List Int),(0:Int),())
def ZJC:Ctr:=⟨[.dat (XI),.dat (Ya)],[.own (.ol 2 (.flat Iq))],λa K=>Zr a λb a=>Zr a λc a=>Yk (ZaJ b c) λr=>K (r,()) ()⟩
def Zbm (c:ZW) (a:List Int):Option Bool:=
(Xe c).bind λd=>
(Qe a 0 (Wq (d-1))).bind λb=>
if b then
(Jj a).bind λe=>
some e
else
some false
def ZJD:Ctr:=D2 (.ptr (Zlz)) (.sl Iq) (.bool) Zbm
def ZcJ (a:List Bool):Option (List Bool):=
Zy ((([]:List Bool).length+a.length)*1<=140737488355328)<|
some (([]:List Bool)++a)
def ZJE:Ctr:=⟨[.dat (.sl (.bool))],[.own (.ol 4 (.flat (.bool)))],λa K=>Zr a λb a=>Yk (ZcJ b) λr=>K (r,()) ()⟩
def Qn (a:List ZC):Option (List ZC):=
Zy ((([]:List (Int×Int×Unit)).length+a.length)*16<=140737488355328)<|
some (([]:List (Int×Int×Unit))++a)
def ZJF:Ctr:=⟨[.dat (.sl (Zaa))],[.own (.ol 72 (.flat (Zaa)))],λa K=>Zr a λb a=>Yk (Qn b) λr=>K (r,()) ()⟩
def Zd3 (a:Zf):Option Zf:=
(ZcJ (Ga a)).bind λc=>
(Qn (Gx a)).bind λb=>
(Qn (Gv a)).bind λd=>
some (c,b,d,())
def ZJG:Ctr:=⟨[.dat (ZdU)],[.own (ZjK)],λa K=>Zr a λb a=>Yk (Zd3 b) λr=>K (r,()) ()⟩
def VY (a:Int) (e:List Bool) (b:Yc):Option Bool:=
(atI (ZW.links (GO b)) a).bind λd=>
(atI e (Gj d)).bind λc=>
some c
def ZJH:Ctr:=D3 Iq (.ptr (.sl (.bool))) (.ptr (.ptr (Zir))) (.bool) VY
def Y0 (c:List Int) (b:List Bool×Yc×Unit) (a:Int):Option ((Int×Unit)⊕Int):=
if a<(c.length:Int)then
(atI c a).bind λe=>
(VY e b.1 b.2.1).bind λd=>
if d then
some (.inr a)
else
some (.inl (Wq (a+1),()))
else
some (.inr (-1))
def YB (b:List Int) (a:List Bool×Yc×Unit):Option Int:=
ZA (λv=>Y0 b a v.1) ((0:Int),())
def ZJI:Ctr:=D2 (.sl Iq) (.fn 194 (.pair (.ptr (.sl (.bool))) (.pair (.ptr (.ptr (Zir))) (.unit)))) Iq YB
def ZU (b:List Int) (a:List Bool×Yc×Unit):Option Bool:=
(YB b a).bind λc=>
some (decide (0<=c))
def ZJJ:Ctr:=D2 (.sl Iq) (.fn 194 (.pair (.ptr (.sl (.bool))) (.pair (.ptr (.ptr (Zir))) (.unit)))) (.bool) ZU
def X7 (m:Yc) (p:ZB) (o:List Zj) (u q h:List Int) (i:Int) (f:List Bool) (d c:List ZC) (e:List Bool):Option (((List Int)×Int×(List Bool)×(List ZC)×(List ZC)×(List Bool)×Unit)⊕((List Int)×Bool×Zf)):=
if i<(q.length:Int)then
(atI q i).bind λa=>
(Ym u a).bind λs=>
if s then
Zy ((h.length+[a].length)*8<=140737488355328)<|
(Xy m p o (f,d,c,()) a).bind λb=>
if b.1 then
(J7 b.2.2.1).bind λn=>
if n then
(atI f a).bind λl=>
if(b.1==l)=true then
(atI d a).bind λj=>
if(decide (b.2.2.1.1=Gh j)&&decide (b.2.2.1.2.1=Gl j))=true then
(atI c a).bind λg=>
(atI e a).bind λk=>
some (.inl (h++[a],Wq (i+1),List.set f (Int.toNat a) b.1,List.set d (Int.toNat a) b.2.2.1,List.set c (Int.toNat a) b.2.2.2.1,List.set e (Int.toNat a) !(decide (b.2.2.2.1.1=Gh g)&&decide (b.2.2.2.1.2.1=Gl g)),()))
else
(atI e a).bind λg=>
(atI c a).bind λk=>
some (.inl (h++[a],Wq (i+1),List.set f (Int.toNat a) b.1,List.set d (Int.toNat a) b.2.2.1,List.set c (Int.toNat a) b.2.2.2.1,List.set e (Int.toNat a) true,()))
else
(atI e a).bind λj=>
(atI d a).bind λg=>
(atI c a).bind λk=>
some (.inl (h++[a],Wq (i+1),List.set f (Int.toNat a) b.1,List.set d (Int.toNat a) b.2.2.1,List.set c (Int.toNat a) b.2.2.2.1,List.set e (Int.toNat a) true,()))
else
some (.inr (([]:List Int),false,(f,d,c,())))
else
(atI f a).bind λl=>
if(b.1==l)=true then
(atI d a).bind λj=>
if(decide (b.2.2.1.1=Gh j)&&decide (b.2.2.1.2.1=Gl j))=true then
(atI c a).bind λg=>
(atI e a).bind λk=>
some (.inl (h++[a],Wq (i+1),List.set f (Int.toNat a) b.1,List.set d (Int.toNat a) b.2.2.1,List.set c (Int.toNat a) b.2.2.2.1,List.set e (Int.toNat a) !(decide (b.2.2.2.1.1=Gh g)&&decide (b.2.2.2.1.2.1=Gl g)),()))
else
(atI e a).bind λg=>
(atI c a).bind λk=>
some (.inl (h++[a],Wq (i+1),List.set f (Int.toNat a) b.1,List.set d (Int.toNat a) b.2.2.1,List.set c (Int.toNat a) b.2.2.2.1,List.set e (Int.toNat a) true,()))
else
(atI e a).bind λj=>
(atI d a).bind λg=>
(atI c a).bind λk=>
some (.inl (h++[a],Wq (i+1),List.set f (Int.toNat a) b.1,List.set d (Int.toNat a) b.2.2.1,List.set c (Int.toNat a) b.2.2.2.1,List.set e (Int.toNat a) true,()))
else
(ZcF m a).bind λr=>
(ZU r (e,m,())).bind λt=>
if t then
Zy ((h.length+[a].length)*8<=140737488355328)<|
(Xy m p o (f,d,c,()) a).bind λb=>
if b.1 then
(J7 b.2.2.1).bind λn=>
if n then
(atI f a).bind λl=>
if(b.1==l)=true then
(atI d a).bind λj=>
if(decide (b.2.2.1.1=Gh j)&&decide (b.2.2.1.2.1=Gl j))=true then
(atI c a).bind λg=>
(atI e a).bind λk=>
some (.inl (h++[a],Wq (i+1),List.set f (Int.toNat a) b.1,List.set d (Int.toNat a) b.2.2.1,List.set c (Int.toNat a) b.2.2.2.1,List.set e (Int.toNat a) !(decide (b.2.2.2.1.1=Gh g)&&decide (b.2.2.2.1.2.1=Gl g)),()))
else
(atI e a).bind λg=>
(atI c a).bind λk=>
some (.inl (h++[a],Wq (i+1),List.set f (Int.toNat a) b.1,List.set d (Int.toNat a) b.2.2.1,List.set c (Int.toNat a) b.2.2.2.1,List.set e (Int.toNat a) true,()))
else
(atI e a).bind λj=>
(atI d a).bind λg=>
(atI c a).bind λk=>
some (.inl (h++[a],Wq (i+1),List.set f (Int.toNat a) b.1,List.set d (Int.toNat a) b.2.2.1,List.set c (Int.toNat a) b.2.2.2.1,List.set e (Int.toNat a) true,()))
else
some (.inr (([]:List Int),false,(f,d,c,())))
else
(atI f a).bind λl=>
if(b.1==l)=true then
(atI d a).bind λj=>
if(decide (b.2.2.1.1=Gh j)&&decide (b.2.2.1.2.1=Gl j))=true then
(atI c a).bind λg=>
(atI e a).bind λk=>
some (.inl (h++[a],Wq (i+1),List.set f (Int.toNat a) b.1,List.set d (Int.toNat a) b.2.2.1,List.set c (Int.toNat a) b.2.2.2.1,List.set e (Int.toNat a) !(decide (b.2.2.2.1.1=Gh g)&&decide (b.2.2.2.1.2.1=Gl g)),()))
else
(atI e a).bind λg=>
(atI c a).bind λk=>
some (.inl (h++[a],Wq (i+1),List.set f (Int.toNat a) b.1,List.set d (Int.toNat a) b.2.2.1,List.set c (Int.toNat a) b.2.2.2.1,List.set e (Int.toNat a) true,()))
else
(atI e a).bind λj=>
(atI d a).bind λg=>
(atI c a).bind λk=>
some (.inl (h++[a],Wq (i+1),List.set f (Int.toNat a) b.1,List.set d (Int.toNat a) b.2.2.1,List.set c (Int.toNat a) b.2.2.2.1,List.set e (Int.toNat a) true,()))
else
some (.inl (h,Wq (i+1),f,d,c,e,()))
else
some (.inr (h,true,(f,d,c,())))
def Zgy (c:Yc) (f:ZB) (e:List Zj) (b:Zf) (d g:List Int):Option ((List Int)×Bool×Zf):=
(Xe (GO c)).bind λa=>
Zy ((0:Int)<=a)<|
Zy (a<=a)<|
Zy (a<=4611686018427387904)<|
Zy (((1:Nat):Int)*a<=281474976710656)<|
ZA (λv=>X7 c f e d g v.1 v.2.1 v.2.2.1 v.2.2.2.1 v.2.2.2.2.1 v.2.2.2.2.2.1) (([]:List Int),(0:Int),Ga b,Gx b,Gv b,List.replicate (Int.toNat a) false,())
def ZJK:Ctr:=⟨[.dat (.ptr (Zir)),.dat (XR),.dat (.sl (Qo)),.back (ZjK),.dat (.sl Iq),.dat (.sl Iq)],[.own (.ol 2 (.flat Iq)),.dat (.bool)],λa K=>Zr a λd a=>Zr a λc a=>Zr a λb a=>Zr a λg a=>Zr a λf a=>Zr a λe a=>Yk (Zgy d c b g f e) λr=>K (r.1,r.2.1,()) (r.2.2,())⟩
def Zd4 (j:Za) (f:ZB) (c:List Int) (a:List Zj) (h:Zf) (b:List Int):Option (Zf×(List Int)×Int):=
(Q8 j f c a (Option.some h)).bind λd=>
if d.2.2=0 then
(d.1).bind λg=>
(Zbm (GO g) b).bind λk=>
if k then
(Zd3 h).bind λi=>
(Zgy g f a i b d.2.1).bind λe=>
if e.2.1 then
some (e.2.2,e.1,0)
else
some (([],[],[],()),[],3)
else
some (([],[],[],()),[],2)
else
some (([],[],[],()),[],d.2.2)
def ZJL:Ctr:=⟨[.dat (Ya),.dat (XR),.dat (.sl Iq),.dat (.sl (Qo)),.dat (ZdU),.dat (.sl Iq)],[.own (ZjK),.own (.ol 2 (.flat Iq)),.dat Iq],λa K=>Zr a λe a=>Zr a λf a=>Zr a λc a=>Zr a λb a=>Zr a λg a=>Zr a λd a=>Yk (Zd4 e f c b g d) λr=>K (r.1,r.2.1,r.2.2,()) ()⟩
def YV (c:Za) (b:Zh) (g:ZB) (a:List Zj) (j:Zf):Option (Zf×(List Int)×Int):=
(Ji c b a).bind λe=>
if e.2=0 then
(ZeL c b j).bind λd=>
if d.2=0 then
(ZH b c).bind λi=>
(ZaJ b c).bind λh=>
(Zd4 i g (([]:List Int)) e.1 d.1 h).bind λf=>
some (f.1,f.2.1,f.2.2)
else
some (([],[],[],()),[],d.2)
else
some (([],[],[],()),[],e.2)
def ZJM:Ctr:=⟨[.dat (Ya),.dat (XI),.dat (XR),.dat (.sl (Qo)),.dat (ZdU)],[.dat (ZdU),.dat (.sl Iq),.dat Iq],λa K=>Zr a λd a=>Zr a λc a=>Zr a λe a=>Zr a λb a=>Zr a λf a=>Yk (YV d c e b f) λr=>K (r.1,r.2.1,r.2.2,()) ()⟩
def ZaY (a:ZL) (c b:Int):Option Bool:=
if Gt a=c then
some (decide (ZL.pin a=b))
else
some false
def ZJN:Ctr:=D3 (Zk7) (.ptr Iq) (.ptr Iq) (.bool) ZaY
def Yo (c:List ZL) (b:Int×Int×Unit) (a:Int):Option ((Int×Unit)⊕Int):=
if a<(c.length:Int)then
(atI c a).bind λe=>
(ZaY e b.1 b.2.1).bind λd=>
if d then
some (.inr a)
else
some (.inl (Wq (a+1),()))
else
some (.inr (-1))
def Z8 (b:List ZL) (a:Int×Int×Unit):Option Int:=
ZA (λv=>Yo b a v.1) ((0:Int),())
def ZJO:Ctr:=D2 (.sl (Zk7)) (.fn 204 (.pair (.ptr Iq) (.pair (.ptr Iq) (.unit)))) Iq Z8
def ZcB (e:Zb) (a b:Int):Option Int:=
(ZV e).bind λd=>
(Z8 d (a,b,())).bind λc=>
some c
def ZJP:Ctr:=D3 (YN) Iq Iq Iq ZcB
def Xm (b:Zh) (c:Za):Option Zh:=
if K7 b=1 then
(ZV (K2 c)).bind λe=>
(atI e (K9 b)).bind λa=>
(atI (K3 (K2 c)) (Gt a)).bind λi=>
some (1,K9 b,Gr i,0,0,[],([],[],[],[],()),())
else
if K7 b=2 then
some (3,0,0,0,0,[],([],[],[],[],()),())
else
if K7 b=3 then
(ZcS c).bind λd=>
(ZaI d).bind λf=>
(atI (K3 (K2 c)) (Wq (((K3 (K2 c)).length:Int)-1))).bind λa=>
(ZcB f.2.2.1 f.1.1 f.1.2.1).bind λg=>
some (2,g,Gr a,0,0,Gq a,([],[],[],[],()),())
else
if K7 b=4 then
(ZV (K2 c)).bind λe=>
(atI e (K9 b)).bind λa=>
(Vz c).bind λh=>
some (4,K9 b,0,ZL.net a,Option.getD (Zkx ZcQ (Ty.int IntKind.i64) h (Gt a,ZL.pin a,())) (0:Int),[],([],[],[],[],()),())
else
(atI (K4 c) (Gk b)).bind λa=>
(Zb8 a).bind λd=>
some (5,0,0,Gk b,0,[],d,())
def ZJQ:Ctr:=⟨[.dat (XI),.dat (Ya)],[.own (ZtU)],λa K=>Zr a λc a=>Zr a λb a=>Yk (Xm c b) λr=>K (r,()) ()⟩
def ZeJ (a:Za) (b:Zh):Option (Zh×Int):=
(VB a b).bind λc=>
if c=0 then
(Xm b a).bind λd=>
some (d,0)
else
some ((0,0,0,0,0,[],([],[],[],[],()),()),c)
def ZJR:Ctr:=⟨[.dat (Ya),.dat (XI)],[.dat (XI),.dat Iq],λa K=>Zr a λb a=>Zr a λc a=>Yk (ZeJ b c) λr=>K (r.1,r.2,()) ()⟩
def QM (d e:List ZC) (a:Int):Option ((Int×Unit)⊕Bool):=
if a<(d.length:Int)then
(atI d a).bind λc=>
(atI e a).bind λb=>
if(decide (Gh c=Gh b)&&decide (Gl c=Gl b))=true then
some (.inl (Wq (a+1),()))
else
some (.inr false)
else
some (.inr true)
def ZeA (b a:List ZC):Option Bool:=
if(b.length:Int)=(a.length:Int)then
ZA (λv=>QM b a v.1) ((0:Int),())
else
some false
def ZJS:Ctr:=D2 (.sl (Zaa)) (.sl (Zaa)) (.bool) ZeA
def Vg (b d:Zf) (a:Int):Option ((Int×Unit)⊕Bool):=
if a<((Ga b).length:Int)then
(atI (Ga b) a).bind λe=>
(atI (Ga d) a).bind λc=>
if(e==c)=true then
some (.inl (Wq (a+1),()))
else
some (.inr false)
else
some (.inr true)
def VL (b a:Zf):Option Bool:=
if((Ga b).length:Int)=((Ga a).length:Int)then
(ZeA (Gx b) (Gx a)).bind λd=>
if d then
(ZeA (Gv b) (Gv a)).bind λc=>
if c then
ZA (λv=>Vg b a v.1) ((0:Int),())
else
some false
else
some false
else
some false
def ZJT:Ctr:=D2 (ZdU) (ZdU) (.bool) VL
def ZeW (b d:List Int) (a:Int):Option ((Int×Unit)⊕Bool):=
if a<(b.length:Int)then
(atI b a).bind λe=>
(atI d a).bind λc=>
if e=c then
some (.inl (Wq (a+1),()))
else
some (.inr false)
else
some (.inr true)
def Zbp (b a:List Int):Option Bool:=
if(b.length:Int)=(a.length:Int)then
ZA (λv=>ZeW b a v.1) ((0:Int),())
else
some false
def ZHK:Ctr:=D2 (.sl Iq) (.sl Iq) (.bool) Zbp
def ZeX (d e:Zb) (a:Int):Option ((Int×Unit)⊕((Int×Unit)⊕((Int×Unit)⊕Bool))):=
if a<((Ge d).length:Int)then
(atI (Ge d) a).bind λc=>
(atI (Ge e) a).bind λb=>
if(decide (GT c=GT b)&&(decide (GF c=GF b)&&decide (GK c=GK b)))=true then
some (.inl (Wq (a+1),()))
else
some (.inr (.inr (.inr false)))
else
some (.inr (.inr (.inr true)))
def ZeY (b c:Zb) (a:Int):Option ((Int×Unit)⊕((Int×Unit)⊕Bool)):=
if a<((K5 b).length:Int)then
(atI (K5 b) a).bind λe=>
(atI (K5 c) a).bind λd=>
if e=d then
some (.inl (Wq (a+1),()))
else
some (.inr (.inr false))
else
ZA (λv=>ZeX b c v.1) ((0:Int),())
def ZeZ (d e:Zb) (a:Int):Option ((Int×Unit)⊕Bool):=
if a<((K3 d).length:Int)then
(atI (K3 d) a).bind λc=>
(atI (K3 e) a).bind λb=>
if Gq c=Gq b then
if Gr c=Gr b then
(Zbp (Gc c) (Gc b)).bind λf=>
if f then
some (.inl (Wq (a+1),()))
else
some (.inr false)
else
some (.inr false)
else
some (.inr false)
else
ZA (λv=>ZeY d e v.1) ((0:Int),())
def ZhI (b a:Zb):Option Bool:=
if((K3 b).length:Int)=((K3 a).length:Int)then
if((K5 b).length:Int)=((K5 a).length:Int)then
if((Ge b).length:Int)=((Ge a).length:Int)then
ZA (λv=>ZeZ b a v.1) ((0:Int),())
else
some false
else
some false
else
some false
def ZJU:Ctr:=D2 (YN) (YN) (.bool) ZhI
def ZjT (b a:Zq):Option Bool:=
(Zbp (K8 b) (K8 a)).bind λe=>
if e then
(Zbp (GB b) (GB a)).bind λc=>
if c then
(Zbp (GE b) (GE a)).bind λf=>
if f then
(Zbp (Gu b) (Gu a)).bind λd=>
some d
else
some false
else
some false
else
some false
def ZJV:Ctr:=D2 (ZbR) (ZbR) (.bool) ZjT
def ZfS (b e:Za) (a:Int):Option ((Int×Unit)⊕Bool):=
if a<((K4 b).length:Int)then
(atI (K4 b) a).bind λf=>
(atI (K4 e) a).bind λc=>
(ZjT f c).bind λd=>
if d then
some (.inl (Wq (a+1),()))
else
some (.inr false)
else
some (.inr true)
def Zhc (b a:Za):Option Bool:=
(ZhI (K2 b) (K2 a)).bind λc=>
if c then
if((K4 b).length:Int)=((K4 a).length:Int)then
if((Gd (K6 b)).length:Int)=((Gd (K6 a)).length:Int)then
ZA (λv=>ZfS b a v.1) ((0:Int),())
else
some false
else
some false
else
some false
def ZJW:Ctr:=D2 (Ya) (Ya) (.bool) Zhc
def Vo (o:ZB) (a:Zf×Int) (j:List Za) (p:List Zh) (h:List Zj) (b:Int) (k:List Bool) (g l:List ZC):Option (((List Zj)×Int×(List Bool)×(List ZC)×(List ZC)×Unit)⊕(((List Za)×(List Zj)×(List Zh)×Int×(List Bool)×(List ZC)×(List ZC)×Unit)⊕(((List Zj)×Int×Unit)⊕Bool))):=
if 0<=b then
(atI j (Wq (b+1))).bind λd=>
(atI p b).bind λe=>
(YV d e o h (k,g,l,())).bind λc=>
(Ji d e h).bind λf=>
(Zaq d e).bind λi=>
if c.2.2=0 then
if f.2=0 then
if i.2=0 then
(atI j b).bind λq=>
(Zhc i.1 q).bind λm=>
if m then
some (.inl (f.1,Wq (b-1),c.1.1,c.1.2.1,c.1.2.2.1,()))
else
some (.inr (.inr (.inr false)))
else
some (.inr (.inr (.inr false)))
else
some (.inr (.inr (.inr false)))
else
some (.inr (.inr (.inr false)))
else
(VL (k,g,l,()) a.1).bind λn=>
some (.inr (.inr (.inr n)))
def XW (o:ZB) (a:Zf×Int) (j:List Za) (p:List Zh) (h:List Zj) (b:Int) (k:List Bool) (g l:List ZC):Option (((List Zj)×Int×(List Bool)×(List ZC)×(List ZC)×Unit)⊕(((List Za)×(List Zj)×(List Zh)×Int×(List Bool)×(List ZC)×(List ZC)×Unit)⊕(((List Zj)×Int×Unit)⊕Bool))):=
if 0<=b then
(atI j (Wq (b+1))).bind λe=>
(atI p b).bind λd=>
(YV e d o h (k,g,l,())).bind λc=>
(Ji e d h).bind λf=>
(Zaq e d).bind λi=>
if c.2.2=0 then
if f.2=0 then
if i.2=0 then
(atI j b).bind λq=>
(Zhc i.1 q).bind λm=>
if m then
some (.inl (f.1,Wq (b-1),c.1.1,c.1.2.1,c.1.2.2.1,()))
else
some (.inr (.inr (.inr false)))
else
some (.inr (.inr (.inr false)))
else
some (.inr (.inr (.inr false)))
else
some (.inr (.inr (.inr false)))
else
(VL (k,g,l,()) a.1).bind λn=>
some (.inr (.inr (.inr n)))
def QB (e:Za) (s:List Zh) (h:ZB) (a:Zf×Int) (d:List Za) (g:List Zj) (f:List Zh) (q:Int) (j:List Bool) (k i:List ZC):Option (((List Za)×(List Zj)×(List Zh)×Int×(List Bool)×(List ZC)×(List ZC)×Unit)⊕(((List Zj)×Int×Unit)⊕Bool)):=
if q<(s.length:Int)then
(atI d (Wq ((d.length:Int)-1))).bind λc=>
(atI s q).bind λm=>
(Zaq c m).bind λo=>
(YV c m h g (j,k,i,())).bind λn=>
(JA c m).bind λt=>
if o.2=t.2 then
if o.2=0 then
if n.2.2=0 then
(ZeJ c m).bind λp=>
(Ji c m g).bind λr=>
if p.2=0 then
if r.2=0 then
Zy ((d.length+[o.1].length)*120<=140737488355328)<|
Zy ((f.length+[p.1].length)*152<=140737488355328)<|
some (.inl (d++[o.1],r.1,f++[p.1],Wq (q+1),n.1.1,n.1.2.1,n.1.2.2.1,()))
else
some (.inr (.inr false))
else
some (.inr (.inr false))
else
(XV c h (([]:List Int)) g).bind λb=>
if b.2=0 then
(VL b.1 (j,k,i,())).bind λl=>
if l then
if(b.1.1.length:Int)=0 then
if((K4 e).length:Int)=0 then
some (.inr (.inr (decide (b.2=0))))
else
some (.inr (.inr false))
else
ZA (λv=>Vo h a d f v.1 v.2.1 v.2.2.1 v.2.2.2.1 v.2.2.2.2.1) (g,Wq ((f.length:Int)-1),j,k,i,())
else
if((K4 e).length:Int)=0 then
some (.inr (.inr (decide (b.2=0))))
else
some (.inr (.inr false))
else
if((K4 e).length:Int)=0 then
some (.inr (.inr (decide (b.2=0))))
else
some (.inr (.inr false))
else
(XV c h (([]:List Int)) g).bind λb=>
if b.2=0 then
(VL b.1 (j,k,i,())).bind λl=>
if l then
if(b.1.1.length:Int)=0 then
if((K4 e).length:Int)=0 then
some (.inr (.inr (decide (b.2=0))))
else
some (.inr (.inr false))
else
ZA (λv=>Vo h a d f v.1 v.2.1 v.2.2.1 v.2.2.2.1 v.2.2.2.2.1) (g,Wq ((f.length:Int)-1),j,k,i,())
else
if((K4 e).length:Int)=0 then
some (.inr (.inr (decide (b.2=0))))
else
some (.inr (.inr false))
else
if((K4 e).length:Int)=0 then
some (.inr (.inr (decide (b.2=0))))
else
some (.inr (.inr false))
else
some (.inr (.inr false))
else
(atI d (Wq ((d.length:Int)-1))).bind λc=>
(XV c h (([]:List Int)) g).bind λb=>
if b.2=0 then
(VL b.1 (j,k,i,())).bind λl=>
if l then
if(b.1.1.length:Int)=0 then
if((K4 e).length:Int)=0 then
some (.inr (.inr (decide (b.2=0))))
else
some (.inr (.inr false))
else
ZA (λv=>XW h a d f v.1 v.2.1 v.2.2.1 v.2.2.2.1 v.2.2.2.2.1) (g,Wq ((f.length:Int)-1),j,k,i,())
else
if((K4 e).length:Int)=0 then
some (.inr (.inr (decide (b.2=0))))
else
some (.inr (.inr false))
else
if((K4 e).length:Int)=0 then
some (.inr (.inr (decide (b.2=0))))
else
some (.inr (.inr false))
def Jl (a:Za) (j:List Zh) (e:ZB) (c:List Zj) (b:Int):Option (((List Zj)×Int×Unit)⊕Bool):=
(Zcg (K6 a) (K2 a)).bind λh=>
if b<h then
(Zf1 (K6 a) (K2 a) b).bind λf=>
if f.1=(-1)then
(Zf4 (K6 a) (K2 a) b).bind λk=>
(ZhK (K6 a) (K2 a) k).bind λg=>
if g=b then
Zy ((c.length+[(Wq ((2:Int)*b),((5:Int),(9:Int),()),((0:Int),(0:Int),()),()),(Wq (Wq ((2:Int)*b)+1),((3:Int),(8:Int),()),((0:Int),(0:Int),()),())].length)*40<=140737488355328)<|
some (.inl (c++[(Wq ((2:Int)*b),((5:Int),(9:Int),()),((0:Int),(0:Int),()),()),(Wq (Wq ((2:Int)*b)+1),((3:Int),(8:Int),()),((0:Int),(0:Int),()),())],Wq (b+1),()))
else
some (.inl (c,Wq (b+1),()))
else
some (.inl (c,Wq (b+1),()))
else
(XV a e (([]:List Int)) c).bind λd=>
(Y2 a e (([]:List Int)) c).bind λi=>
if d.2=i.2 then
if d.2=0 then
ZA (λv=>QB a j e d v.1 v.2.1 v.2.2.1 v.2.2.2.1 v.2.2.2.2.1 v.2.2.2.2.2.1 v.2.2.2.2.2.2.1) ([a],c,([]:List (Int×Int×Int×Int×Int×List UInt8×Zq×Unit)),(0:Int),d.1.1,d.1.2.1,d.1.2.2.1,())
else
some (.inr (decide ((d.1.1.length:Int)=0)))
else
some (.inr false)
def ZeV (c:Za) (a:List Zh) (b:ZB):Option Bool:=
ZA (λv=>Jl c a b v.1 v.2.1) (([]:List (Int×ZC×ZC×Unit)),(0:Int),())
def ZJX:Ctr:=D3 (Ya) (.sl (XI)) (XR) (.bool) ZeV
def Zji (a:List Int):Option Bool:=
(ZsL a).bind λd=>
if d then
some true
else
(ZcK a).bind λb=>
(ZnP a 5).bind λf=>
(Jc f).bind λc=>
(ZeV b.1 b.2 c.2.2.1).bind λe=>
some e
def Zom:Ctr:=⟨[.dat (.sl (.int .u8))],[.dat (.bool)],λa K=>Zr a λb a=>Yk (Zji b) λr=>K (r,()) ()⟩
end
end Go.Proofs.YtoijdogpgpbddaaGreatDoor
