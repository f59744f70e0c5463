/-
 The models of the functions and their contracts. Printed by program.
-/
import Derived.KernelRfl
import Derived.Test.YtmihfdfjccociaaGreatDoorSxTab
import Derived.Test.YtmihfdfjccociaaGreatDoorSxS0
import Derived.Test.YtmihfdfjccociaaGreatDoorSxLib
import Derived.Test.YtmihfdfjccociaaGreatDoorSxLibF
namespace Go.Proofs.YtmihfdfjccociaaGreatDoor
open Go Go.Sx
set_option maxRecDepth 100000
set_option maxHeartbeats 100000000
set_option linter.unusedVariables false
set_option linter.unusedSimpArgs false
noncomputable section
theorem GO {Δ:Tab} (hΔ:Δ.ok Tryz.prog) {Γ:Gam} (hΓ:Γ.ok Tryz.prog) (A:Ann) {f:FuncId} {fn:Func} (hf:Tryz.prog.funcs[f]?=some fn) {C:Ctr} (hv:∀ vs K,C.tr vs K->fnK Δ Γ A C fn vs K) (h1:(fn.name == "runtime.NumGoroutine")=false:=by kernel_rfl) (h2:fn.body.isNone=false:=by kernel_rfl):Za Tryz.prog f C:=Zj hΔ hΓ mixed A hf h1 h2 hv
abbrev Iq:Ty:=.int .i64
abbrev Wq:=IntKind.wrap IntKind.i64
abbrev Sq:=Za Tryz.prog
theorem Bq {α β:Type} (x:α) (f:α->Option β):(some x).bind f=f x:=rfl
def Zla (a:List Int):Option Bool:=
some (decide (4096<(a.length:Int)))
def c0:Ctr:=D1 (.sl (.int .u8)) (.bool) Zla
def Zbu (a:List Int) (b c:Int):Option ((Int×Int×Unit) ⊕ Zc):=
if b<(a.length:Int) then
if b<64 then
(atI a b).bind λd=>
some (.inl (Wq (b+1),Int.tmod (Wq (Wq (c*31)+Wq d)) 2147483647,()))
else
some (.inr (a,0,c,()))
else
some (.inr (a,0,c,()))
def Zcx (a:List Int):Option Zc:=
Zr (λv=>Zbu a v.1 v.2.1) ((0:Int),(12345:Int),())
def c1:Ctr:=⟨[.dat (.sl (.int .u8))],[.io (.flat (Xn))],λa K=>splitK a λb a=>Qp (Zcx b) λr=>K (r,()) ()⟩
def Zf (a:Zc) (b:Int):Option (Int×Zc):=
if b<=1 then
some (0,a)
else
if Zc.at a<((GD a).length:Int) then
(atI (GD a) (Zc.at a)).bind λc=>
if b<=256 then
Zp (b≠(0:Int))<|
some (Int.tmod (Wq c) b,(GD a,Wq (Zc.at a+1),a.2.2))
else
Zp (b≠(0:Int))<|
some (Int.tmod (Int.tmod (Wq (Wq (Wq (K6 a*48271)+Wq c)+1)) 2147483647) b,(GD a,Wq (Zc.at a+1),Int.tmod (Wq (Wq (Wq (K6 a*48271)+Wq c)+1)) 2147483647,()))
else
Zp (b≠(0:Int))<|
some (Int.tmod (Wq (Int.tdiv (Int.tmod (Wq (Wq (K6 a*48271)+11)) 2147483647) 7)) b,(GD a,Zc.at a,Int.tmod (Wq (Wq (K6 a*48271)+11)) 2147483647,()))
def c2:Ctr:=⟨[.io (.flat (Xn)),.dat Iq],[.dat Iq],λa K=>splitK a λb a=>splitK a λc a=>Qp (Zf b c) λr=>K (r.1,()) (r.2,())⟩
def ZaL (g:Zl) (d:Int) (b a:Bool) (c:Int):Option ((Bool×Bool×Int×Unit) ⊕ Int):=
if c<((KK g).length:Int) then
if Go.bits Go.BinOp.and IntKind.i64 c (Wq (1*2 ^ Min.min (Int.toNat (IntKind.wrap IntKind.u64 d)) (IntKind.bits IntKind.i64)))=0 then
if b then
if a then
some (.inl (true,true,Wq (c+1),()))
else
(atI (KK g) c).bind λe=>
(atI (KK g) (Wq (c+Wq (1*2 ^ Min.min (Int.toNat (IntKind.wrap IntKind.u64 d)) (IntKind.bits IntKind.i64))))).bind λf=>
some (.inl (true,decide (f<e),Wq (c+1),()))
else
(atI (KK g) c).bind λe=>
(atI (KK g) (Wq (c+Wq (1*2 ^ Min.min (Int.toNat (IntKind.wrap IntKind.u64 d)) (IntKind.bits IntKind.i64))))).bind λf=>
if a then
some (.inl (decide (e<f),true,Wq (c+1),()))
else
some (.inl (decide (e<f),decide (f<e),Wq (c+1),()))
else
some (.inl (b,a,Wq (c+1),()))
else
if b then
if a then
some (.inr 3)
else
if b then
some (.inr 1)
else
if a then
some (.inr 2)
else
some (.inr 0)
else
if b then
some (.inr 1)
else
if a then
some (.inr 2)
else
some (.inr 0)
def ZbA (b:Zl) (a:Int):Option Int:=
Zp ((0:Int)<=IntKind.wrap IntKind.u64 a)<|
Zr (λv=>ZaL b a v.1 v.2.1 v.2.2.1) (false,false,(0:Int),())
def c3:Ctr:=D2 (Zdq) Iq Iq ZbA
def V7 (d:Int) (a:List Int) (b f:Int) (g:List Int) (e h:Int):Option (((List Int)×Int×Int×(List Int)×Int×Int×Unit) ⊕ ((List Int)×Zc)):=
if 0<f then
Zp ((a.length+[b].length)*(8:Nat)<=(140737488355328:Nat))<|
(Zf (g,e,h,()) d).bind λc=>
some (.inl (a++[b],Wq (Wq (b+1)+c.1),Wq (f-1),c.2.1,c.2.2.1,c.2.2.2.1,()))
else
some (.inr (a,(g,e,h,())))
def VW (d:Zc) (a:Int):Option ((List Int)×Zc):=
(Zf d a).bind λc=>
(Zf c.2 3).bind λb=>
Zr (λv=>V7 a v.1 v.2.1 v.2.2.1 v.2.2.2.1 v.2.2.2.2.1 v.2.2.2.2.2.1) (([]:List Int),c.1,Wq ((1:Int)+b.1),b.2.1,b.2.2.1,b.2.2.2.1,())
def c4:Ctr:=⟨[.io (.flat (Xn)),.dat Iq],[.own (.ol 2 (.flat Iq))],λa K=>splitK a λc a=>splitK a λb a=>Qp (VW c b) λr=>K (r.1,()) (r.2,())⟩
def Zbw (g:Int) (b a:List Int×Zc) (e:List Int) (f:Int) (l:List Int) (j m:Int):Option (((List Int)×Int×(List Int)×Int×Int×Unit) ⊕ (ZY×Zc)):=
if f<Wq ((b.1.length:Int)*(a.1.length:Int)) then
(Zf (l,j,m,()) 10).bind λd=>
Zp ((a.1.length:Int)≠(0:Int))<|
if 0<Int.tmod f (a.1.length:Int) then
(atI e (Wq (f-1))).bind λh=>
(Zf d.2 20).bind λc=>
if (a.1.length:Int)<=f then
(atI e (Wq (f-(a.1.length:Int)))).bind λk=>
(Zf c.2 20).bind λi=>
Zp ((e.length+[Max.max (Max.max (Wq (g+d.1)) (Wq (h+c.1))) (Wq (k+i.1))].length)*(8:Nat)<=(140737488355328:Nat))<|
some (.inl (e++[Max.max (Max.max (Wq (g+d.1)) (Wq (h+c.1))) (Wq (k+i.1))],Wq (f+1),i.2.1,i.2.2.1,i.2.2.2.1,()))
else
Zp ((e.length+[Max.max (Wq (g+d.1)) (Wq (h+c.1))].length)*(8:Nat)<=(140737488355328:Nat))<|
some (.inl (e++[Max.max (Wq (g+d.1)) (Wq (h+c.1))],Wq (f+1),c.2.1,c.2.2.1,c.2.2.2.1,()))
else
if (a.1.length:Int)<=f then
(atI e (Wq (f-(a.1.length:Int)))).bind λh=>
(Zf d.2 20).bind λc=>
Zp ((e.length+[Max.max (Wq (g+d.1)) (Wq (h+c.1))].length)*(8:Nat)<=(140737488355328:Nat))<|
some (.inl (e++[Max.max (Wq (g+d.1)) (Wq (h+c.1))],Wq (f+1),c.2.1,c.2.2.1,c.2.2.2.1,()))
else
Zp ((e.length+[Wq (g+d.1)].length)*(8:Nat)<=(140737488355328:Nat))<|
some (.inl (e++[Wq (g+d.1)],Wq (f+1),d.2.1,d.2.2.1,d.2.2.2.1,()))
else
some (.inr ((b.1,a.1,e,()),(l,j,m,())))
def Zcz (c:Zc) (d:Int):Option (ZY×Zc):=
(VW c 60).bind λb=>
(VW b.2 40).bind λa=>
Zr (λv=>Zbw d b a v.1 v.2.1 v.2.2.1 v.2.2.2.1 v.2.2.2.2.1) (([]:List Int),(0:Int),a.2.1,a.2.2.1,a.2.2.2.1,())
def c5:Ctr:=⟨[.io (.flat (Xn)),.dat Iq],[.own (ZlJ)],λa K=>splitK a λb a=>splitK a λc a=>Qp (Zcz b c) λr=>K (r.1,()) (r.2,())⟩
def XR (d:Zc) (a:Int):Option ((List ZY)×Zc):=
(Zcz d a).bind λc=>
(Zcz c.2 a).bind λb=>
some ([c.1,b.1],b.2)
def c6:Ctr:=⟨[.io (.flat (Xn)),.dat Iq],[.own (.ol 307 (ZlJ))],λa K=>splitK a λc a=>splitK a λb a=>Qp (XR c b) λr=>K (r.1,()) (r.2,())⟩
def XK (h:Zc) (a b f d:Int):Option (ZL×Zc):=
if 4<=a then
(Zf h 10).bind λe=>
(XR e.2 (Wq (5-e.1))).bind λc=>
some ((a,b,f,0,c.1,[],()),c.2)
else
(Zf h 20).bind λe=>
(XR e.2 (Wq (5+e.1))).bind λc=>
(XR c.2 10).bind λg=>
some ((a,b,f,d,c.1,g.1,()),g.2)
def c7:Ctr:=⟨[.io (.flat (Xn)),.dat Iq,.dat Iq,.dat Iq,.dat Iq],[.own (ZtN)],λa K=>splitK a λf a=>splitK a λc a=>splitK a λd a=>splitK a λe a=>splitK a λb a=>Qp (XK f c d e b) λr=>K (r.1,()) (r.2,())⟩
def Zbx (j:List UInt8) (l:List Int) (a b:Int×Zc) (f:List YO) (e:List ZL) (d:Int) (g:List Int) (h i:Int):Option (((List ZL)×Int×(List Int)×Int×Int×Unit) ⊕ (((List YO)×Int×(List Int)×Int×Int×Unit) ⊕ (Zl×Zc))):=
if d<(f.length:Int) then
(ZbA (j,(1:Int),f++[([(121:UInt8)],(2:Int),(0:Int),false,())],([]:List ZL),l,a.1,b.1,()) d).bind λk=>
if k=0 then
some (.inl (e,Wq (d+1),g,h,i,()))
else
(XK (g,h,i,()) 1 d (f.length:Int) k).bind λc=>
Zp ((e.length+[c.1].length)*(80:Nat)<=(140737488355328:Nat))<|
some (.inl (e++[c.1],Wq (d+1),c.2.1,c.2.2.1,c.2.2.2.1,()))
else
some (.inr (.inr ((j,(1:Int),f++[([(121:UInt8)],(2:Int),(0:Int),false,())],e,l,a.1,b.1,()),(g,h,i,()))))
def Zby (k:List UInt8) (h:List Int) (a b:Int×Zc) (d:List YO) (g:Int) (f:List Int) (e j:Int):Option (((List YO)×Int×(List Int)×Int×Int×Unit) ⊕ (Zl×Zc)):=
if g<(h.length:Int) then
(atI ([[(97:UInt8)],[(98:UInt8)],[(99:UInt8)],[(100:UInt8)]]) (d.length:Int)).bind λi=>
(Zf (f,e,j,()) 9).bind λc=>
Zp ((d.length+[(i,(1:Int),Wq ((1:Int)+c.1),false,())].length)*(40:Nat)<=(140737488355328:Nat))<|
some (.inl (d++[(i,(1:Int),Wq ((1:Int)+c.1),false,())],Wq ((2:Int)*g),c.2.1,c.2.2.1,c.2.2.2.1,()))
else
Zp ((d.length+[([(121:UInt8)],(2:Int),(0:Int),false,())].length)*(40:Nat)<=(140737488355328:Nat))<|
Zr (λv=>Zbx k h a b d v.1 v.2.1 v.2.2.1 v.2.2.2.1 v.2.2.2.2.1) (([]:List ZL),(0:Int),f,e,j,())
def Vx (d:Zc) (e:List UInt8) (c:List Int):Option (Zl×Zc):=
(Zf d 50).bind λb=>
(Zf b.2 80).bind λa=>
Zr (λv=>Zby e c b a v.1 v.2.1 v.2.2.1 v.2.2.2.1 v.2.2.2.2.1) (([]:List (List UInt8×Int×Int×Bool×Unit)),(1:Int),a.2.1,a.2.2.1,a.2.2.2.1,())
def c8:Ctr:=⟨[.io (.flat (Xn)),.dat (.str),.own (.ol 2 (.flat Iq))],[.own (ZqE)],λa K=>splitK a λd a=>splitK a λb a=>splitK a λc a=>Qp (Vx d b c) λr=>K (r.1,()) (r.2,())⟩
def QK (l:Zc) (b:List UInt8) (a f:Int):Option (Zl×Zc):=
(Zf l 50).bind λi=>
(Zf i.2 80).bind λh=>
(Zf h.2 9).bind λj=>
(Zf j.2 9).bind λg=>
(XK g.2 f 1 2 0).bind λd=>
(XK d.2 4 1 0 0).bind λe=>
(XK e.2 5 1 0 0).bind λc=>
if a=3 then
(XK c.2 1 0 2 1).bind λk=>
Zp (([d.1,e.1,c.1].length+[k.1].length)*(80:Nat)<=(140737488355328:Nat))<|
some ((b,a,[([(100:UInt8)],(1:Int),Wq ((1:Int)+j.1),false,()),([(99:UInt8),107],(1:Int),Wq ((1:Int)+g.1),true,()),([(113:UInt8)],(2:Int),(0:Int),false,())],[d.1,e.1,c.1]++[k.1],[],i.1,h.1,()),k.2)
else
some ((b,a,[([(100:UInt8)],(1:Int),Wq ((1:Int)+j.1),false,()),([(99:UInt8),107],(1:Int),Wq ((1:Int)+g.1),true,()),([(113:UInt8)],(2:Int),(0:Int),false,())],[d.1,e.1,c.1],[],i.1,h.1,()),c.2)
def c9:Ctr:=⟨[.io (.flat (Xn)),.dat (.str),.dat Iq,.dat Iq],[.own (ZqE)],λa K=>splitK a λe a=>splitK a λc a=>splitK a λb a=>splitK a λd a=>Qp (QK e c b d) λr=>K (r.1,()) (r.2,())⟩
def ZdN (i:Zc):Option (Zz×Zc):=
(Vx i [(105:UInt8),110,118] [(1:Int),0]).bind λe=>
(Vx e.2 [(98:UInt8),117,102] [(0:Int),1]).bind λc=>
(Vx c.2 [(110:UInt8),97,110,100] [(1:Int),1,1,0]).bind λg=>
(Vx g.2 [(120:UInt8),111,114] [(0:Int),1,1,0]).bind λb=>
(Vx b.2 [(109:UInt8),117,120] [(0:Int),1,0,1,0,0,1,1]).bind λa=>
(QK a.2 [(102:UInt8),108,111,112] (2:Int) (2:Int)).bind λd=>
(QK d.2 [(102:UInt8),108,111,112,110] (2:Int) (3:Int)).bind λf=>
(QK f.2 [(108:UInt8),97,116,99,104] (3:Int) (2:Int)).bind λh=>
some (([e.1,c.1,g.1,b.1,a.1,d.1,f.1,h.1],()),h.2)
def c10:Ctr:=⟨[.io (.flat (Xn))],[.own (Znc)],λa K=>splitK a λb a=>Qp (ZdN b) λr=>K (r.1,()) (r.2,())⟩
def Yy (b:Int->Option (List UInt8)) (a:Int):Option (List UInt8):=
if a<0 then
(b (Wq (0-a))).bind λc=>
Zp ((([(45:UInt8)].length):Int)+(c.length:Int)<=(9223372036854775807:Int))<|
some ([(45:UInt8)]++c)
else
if a<10 then
some (bytesOf [IntKind.wrap IntKind.u8 (Wq ((48:Int)+a))])
else
(b (Wq (Int.tdiv a 10))).bind λc=>
Zp ((c.length:Int)+(((bytesOf [IntKind.wrap IntKind.u8 (Wq ((48:Int)+Int.tmod a (10:Int)))]).length):Int)<=(9223372036854775807:Int))<|
some (c++bytesOf [IntKind.wrap IntKind.u8 (Wq ((48:Int)+Int.tmod a (10:Int)))])
def Xp:Nat->Int->Option (List UInt8)
| 0=>λ_=>none
| n+1=>Yy (Xp n)
def Vb (a:Int):Option (List UInt8):=Zsl (λn=>Xp n a)
def JL (b:Int->Option (List UInt8)):Ctr:=⟨[.dat Iq],[.dat (.str)],λa K=>splitK a λc a=>Qp (b c) λr=>K (r,()) ()⟩
def c11:Ctr:=JL Vb
def ZbB (j:List Zo) (d:List (List UInt8)) (n g:Int) (c:List UInt8) (e:Int) (i:List Int) (k l:Int) (a:List Int):Option ((Int×(List Int)×Int×Int×(List Int)×Unit) ⊕ (((List Zo)×(List (List UInt8))×Int×(List Int)×Int×Int×Unit) ⊕ (Zg×Zc))):=
(atI ([(2:Int),2,3,3,4,3,3,3]) g).bind λm=>
if e<Wq (m-1) then
(Zf (i,k,l,()) (Wq ((d.length:Int)-1))).bind λf=>
(Zf f.2 3).bind λb=>
if b.1=0 then
if 5<=g then
if e=1 then
Zp ((([]:List Int).length+a.length)*(8:Nat)<=(140737488355328:Nat))<|
Zp (((([]:List Int)++a).length+[(0:Int)].length)*(8:Nat)<=(140737488355328:Nat))<|
some (.inl (Wq (e+1),b.2.1,b.2.2.1,b.2.2.2.1,([]:List Int)++a++[(0:Int)],()))
else
Zp ((([]:List Int).length+a.length)*(8:Nat)<=(140737488355328:Nat))<|
Zp (((([]:List Int)++a).length+[Wq ((d.length:Int)-(1:Int))].length)*(8:Nat)<=(140737488355328:Nat))<|
some (.inl (Wq (e+1),b.2.1,b.2.2.1,b.2.2.2.1,([]:List Int)++a++[Wq ((d.length:Int)-1)],()))
else
Zp ((([]:List Int).length+a.length)*(8:Nat)<=(140737488355328:Nat))<|
Zp (((([]:List Int)++a).length+[Wq ((d.length:Int)-(1:Int))].length)*(8:Nat)<=(140737488355328:Nat))<|
some (.inl (Wq (e+1),b.2.1,b.2.2.1,b.2.2.2.1,([]:List Int)++a++[Wq ((d.length:Int)-1)],()))
else
if 5<=g then
if e=1 then
Zp ((([]:List Int).length+a.length)*(8:Nat)<=(140737488355328:Nat))<|
Zp (((([]:List Int)++a).length+[(0:Int)].length)*(8:Nat)<=(140737488355328:Nat))<|
some (.inl (Wq (e+1),b.2.1,b.2.2.1,b.2.2.2.1,([]:List Int)++a++[(0:Int)],()))
else
Zp ((([]:List Int).length+a.length)*(8:Nat)<=(140737488355328:Nat))<|
Zp (((([]:List Int)++a).length+[Wq ((1:Int)+f.1)].length)*(8:Nat)<=(140737488355328:Nat))<|
some (.inl (Wq (e+1),b.2.1,b.2.2.1,b.2.2.2.1,([]:List Int)++a++[Wq ((1:Int)+f.1)],()))
else
Zp ((([]:List Int).length+a.length)*(8:Nat)<=(140737488355328:Nat))<|
Zp (((([]:List Int)++a).length+[Wq ((1:Int)+f.1)].length)*(8:Nat)<=(140737488355328:Nat))<|
some (.inl (Wq (e+1),b.2.1,b.2.2.1,b.2.2.2.1,([]:List Int)++a++[Wq ((1:Int)+f.1)],()))
else
Zp ((([]:List Int).length+a.length)*(8:Nat)<=(140737488355328:Nat))<|
Zp (((([]:List Int)++a).length+[(d.length:Int)].length)*(8:Nat)<=(140737488355328:Nat))<|
(Vb (d.length:Int)).bind λh=>
Zp ((([(110:UInt8)].length):Int)+(h.length:Int)<=(9223372036854775807:Int))<|
Zp ((d.length+[[(110:UInt8)]++h].length)*(16:Nat)<=(140737488355328:Nat))<|
Zp ((j.length+[([(117:UInt8)]++c,g,([]:List Int)++a++[(d.length:Int)],())].length)*(48:Nat)<=(140737488355328:Nat))<|
some (.inr (.inl (j++[([(117:UInt8)]++c,g,([]:List Int)++a++[(d.length:Int)],())],d++[[(110:UInt8)]++h],Wq (n-1),i,k,l,())))
def ZbC (k:Bool) (e:List (List UInt8)) (d:Int) (g:List Int) (i j:Int) (f:List (List UInt8×Int×List Int×Unit)):Option ((Int×(List Int)×Int×Int×(List (List UInt8×Int×List Int×Unit))×Unit) ⊕ (((List Zo)×(List (List UInt8))×Int×(List Int)×Int×Int×Unit) ⊕ (Zg×Zc))):=
if d<(f.length:Int) then
(Zf (g,i,j,()) 4).bind λc=>
if c.1=0 then
(atI f d).bind λb=>
if b.2.1=5 then
(Zf c.2 (Wq ((e.length:Int)-1))).bind λa=>
(atI b.2.2.1 0).bind λh=>
some (.inl (Wq (d+1),a.2.1,a.2.2.1,a.2.2.2.1,List.set f (Int.toNat d) (b.1,b.2.1,List.set b.2.2.1 (Int.toNat 0) (Wq (1+a.1)),()),()))
else
if b.2.1=6 then
(Zf c.2 (Wq ((e.length:Int)-1))).bind λa=>
(atI b.2.2.1 0).bind λh=>
some (.inl (Wq (d+1),a.2.1,a.2.2.1,a.2.2.2.1,List.set f (Int.toNat d) (b.1,b.2.1,List.set b.2.2.1 (Int.toNat 0) (Wq (1+a.1)),()),()))
else
if k then
(Zf c.2 (Wq ((e.length:Int)-1))).bind λa=>
(atI b.2.2.1 0).bind λh=>
some (.inl (Wq (d+1),a.2.1,a.2.2.1,a.2.2.2.1,List.set f (Int.toNat d) (b.1,b.2.1,List.set b.2.2.1 (Int.toNat 0) (Wq (1+a.1)),()),()))
else
some (.inl (Wq (d+1),c.2.1,c.2.2.1,c.2.2.2.1,List.set f (Int.toNat d) b,()))
else
some (.inl (Wq (d+1),c.2.1,c.2.2.1,c.2.2.2.1,f,()))
else
Zp (((([]:List (List UInt8×Int×Int×Unit))++[([(99:UInt8),107],(1:Int),(0:Int),()),([(97:UInt8)],(1:Int),(1:Int),()),([(98:UInt8)],(1:Int),(2:Int),())]).length+[([(121:UInt8)],(2:Int),Wq ((e.length:Int)-(1:Int)),())].length)*(32:Nat)<=(140737488355328:Nat))<|
(Zf (g,i,j,()) 2).bind λc=>
if c.1=0 then
(Zf c.2 (Wq ((e.length:Int)-1))).bind λa=>
Zp (((([]:List (List UInt8×Int×Int×Unit))++[([(99:UInt8),107],(1:Int),(0:Int),()),([(97:UInt8)],(1:Int),(1:Int),()),([(98:UInt8)],(1:Int),(2:Int),())]++[([(121:UInt8)],(2:Int),Wq ((e.length:Int)-(1:Int)),())]).length+[([(122:UInt8)],(2:Int),Wq ((1:Int)+a.1),())].length)*(32:Nat)<=(140737488355328:Nat))<|
some (.inr (.inr ((f,e,([]:List (List UInt8×Int×Int×Unit))++[([(99:UInt8),107],(1:Int),(0:Int),()),([(97:UInt8)],(1:Int),(1:Int),()),([(98:UInt8)],(1:Int),(2:Int),())]++[([(121:UInt8)],(2:Int),Wq ((e.length:Int)-1),())]++[([(122:UInt8)],(2:Int),Wq ((1:Int)+a.1),())],()),a.2)))
else
some (.inr (.inr ((f,e,([]:List (List UInt8×Int×Int×Unit))++[([(99:UInt8),107],(1:Int),(0:Int),()),([(97:UInt8)],(1:Int),(1:Int),()),([(98:UInt8)],(1:Int),(2:Int),())]++[([(121:UInt8)],(2:Int),Wq ((e.length:Int)-1),())],()),c.2)))
def ZbD (i:Bool) (b:List Zo) (g:List (List UInt8)) (e:Int) (d:List Int) (c h:Int):Option (((List Zo)×(List (List UInt8))×Int×(List Int)×Int×Int×Unit) ⊕ (Zg×Zc)):=
if 0<e then
(Zf (d,c,h,()) 12).bind λa=>
(atI ([(0:Int),1,2,2,3,4,5,5,5,6,7,1]) a.1).bind λj=>
(Vb (b.length:Int)).bind λf=>
Zp ((([(117:UInt8)].length):Int)+(f.length:Int)<=(9223372036854775807:Int))<|
Zr (λv=>ZbB b g e j f v.1 v.2.1 v.2.2.1 v.2.2.2.1 v.2.2.2.2.1) ((0:Int),a.2.1,a.2.2.1,a.2.2.2.1,([]:List Int),())
else
Zr (λv=>ZbC i g v.1 v.2.1 v.2.2.1 v.2.2.2.1 v.2.2.2.2.1) ((0:Int),d,c,h,b,())
def ZdP (c:Zc) (d:Int) (b:Bool):Option (Zg×Zc):=
(Zf c (Wq (d-1))).bind λa=>
Zr (λv=>ZbD b v.1 v.2.1 v.2.2.1 v.2.2.2.1 v.2.2.2.2.1 v.2.2.2.2.2.1) (([]:List Zo),([]:List (List UInt8))++[[(110:UInt8),99,107],[(110:UInt8),97],[(110:UInt8),98]],Wq ((2:Int)+a.1),a.2.1,a.2.2.1,a.2.2.2.1,())
def c12:Ctr:=⟨[.io (.flat (Xn)),.dat Iq,.dat (.bool)],[.own (Zo2)],λa K=>splitK a λd a=>splitK a λb a=>splitK a λc a=>Qp (ZdP d b c) λr=>K (r.1,()) (r.2,())⟩
def Zaf (c:Int) (b:Zo) (d:List Zx) (a:Int):Option (((List Zx)×Int×Unit) ⊕ (((List Zx)×Int×Unit) ⊕ List Zx)):=
if a<((KM b).length:Int) then
(atI (KM b) a).bind λe=>
Zp ((d.length+[(c,a,e,decide (a=Wq (((KM b).length:Int)-(1:Int))),())].length)*(32:Nat)<=(140737488355328:Nat))<|
some (.inl (d++[(c,a,e,decide (a=Wq (((KM b).length:Int)-1)),())],Wq (a+1),()))
else
some (.inr (.inl (d,Wq (c+1),())))
def Zag (d:Zg) (c:List Zx) (a:Int):Option (((List Zx)×Int×Unit) ⊕ (((List Zx)×Int×Unit) ⊕ List Zx)):=
if a<((KB d).length:Int) then
(atI (KB d) a).bind λb=>
Zp ((c.length+[((-1:Int),a,K2 b,decide (KX b=(1:Int)),())].length)*(32:Nat)<=(140737488355328:Nat))<|
some (.inl (c++[((-1:Int),a,K2 b,decide (KX b=1),())],Wq (a+1),()))
else
some (.inr (.inr c))
def Zah (a:Zg) (c:List Zx) (b:Int):Option (((List Zx)×Int×Unit) ⊕ List Zx):=
if b<((Kr a).length:Int) then
(atI (Kr a) b).bind λd=>
Zr (λv=>Zaf b d v.1 v.2.1) (c,(0:Int),())
else
Zr (λv=>Zag a v.1 v.2.1) (c,(0:Int),())
def Xf (a:Zg):Option (List Zx):=
Zr (λv=>Zah a v.1 v.2.1) (([]:List (Int×Int×Int×Bool×Unit)),(0:Int),())
def c13:Ctr:=⟨[.dat (XZ)],[.own (.ol 143 (.flat (Zd8)))],λa K=>splitK a λb a=>Qp (Xf b) λr=>K (r,()) ()⟩
def ZaR (d:Int) (a:List Zx) (b:List Int) (c:Int):Option (((List Int)×Int×Unit) ⊕ List Int):=
if c<(a.length:Int) then
(atI a c).bind λe=>
if Zx.net e=d then
if (KY e)=true then
some (.inl (b,Wq (c+1),()))
else
Zp ((b.length+[c].length)*(8:Nat)<=(140737488355328:Nat))<|
some (.inl (b++[c],Wq (c+1),()))
else
some (.inl (b,Wq (c+1),()))
else
some (.inr b)
def ZbE (c:Zg) (a:Int):Option (List Int):=
(Xf c).bind λb=>
Zr (λv=>ZaR a b v.1 v.2.1) (([]:List Int),(0:Int),())
def c14:Ctr:=⟨[.dat (XZ),.dat Iq],[.own (.ol 2 (.flat Iq))],λa K=>splitK a λc a=>splitK a λb a=>Qp (ZbE c b) λr=>K (r,()) ()⟩
def Zcj (a b:Int):Option ZH:=
Zp ((0:Int)<=a)<|
Zp (a<=a)<|
Zp (a<=(4611686018427387904:Int))<|
Zp (((8:Nat):Int)*a<=(281474976710656:Int))<|
some ([(-1:Int)],[(0:Int)],[b],List.replicate (Int.toNat a) (0:Int),())
def c15:Ctr:=⟨[.dat Iq,.dat Iq],[.own (Zo4)],λa K=>splitK a λb a=>splitK a λc a=>Qp (Zcj b c) λr=>K (r,()) ()⟩
def ZaZ (a:List Int):Option (List Int):=
Zp ((([]:List Int).length+a.length)*(8:Nat)<=(140737488355328:Nat))<|
some (([]:List Int)++a)
def c16:Ctr:=⟨[.dat (.sl Iq)],[.own (.ol 2 (.flat Iq))],λa K=>splitK a λb a=>Qp (ZaZ b) λr=>K (r,()) ()⟩
def V8 (d h i:List Int) (c:Int) (f:List Int) (e g:Int) (a:List Int):Option ((Int×(List Int)×Int×Int×(List Int)×Unit) ⊕ ((Int×(List Int)×Int×Int×(List Int)×(List Int)×(List Int)×(List Int)×Unit) ⊕ (ZH×Zc))):=
if c<(a.length:Int) then
(Zf (f,e,g,()) (d.length:Int)).bind λb=>
(atI a c).bind λj=>
some (.inl (Wq (c+1),b.2.1,b.2.2.1,b.2.2.2.1,List.set a (Int.toNat c) b.1,()))
else
some (.inr (.inr ((d,h,i,a,()),(f,e,g,()))))
def V9 (l:Int) (g:List Int) (f n:Int) (b i j m:List Int):Option ((Int×(List Int)×Int×Int×(List Int)×(List Int)×(List Int)×(List Int)×Unit) ⊕ (ZH×Zc)):=
if 0<l then
(ZaZ b).bind λh=>
(Zf (g,f,n,()) (b.length:Int)).bind λd=>
Zp ((h.length+[d.1].length)*(8:Nat)<=(140737488355328:Nat))<|
(ZaZ i).bind λk=>
(Zf d.2 400).bind λc=>
Zp ((k.length+[c.1].length)*(8:Nat)<=(140737488355328:Nat))<|
(ZaZ j).bind λe=>
(Zf c.2 8).bind λa=>
Zp ((e.length+[a.1].length)*(8:Nat)<=(140737488355328:Nat))<|
some (.inl (Wq (l-1),a.2.1,a.2.2.1,a.2.2.2.1,h++[d.1],k++[c.1],e++[a.1],m,()))
else
Zr (λv=>V8 b i j v.1 v.2.1 v.2.2.1 v.2.2.2.1 v.2.2.2.2.1) ((0:Int),g,f,n,m,())
def Zau (e:Zc) (a:Int):Option (ZH×Zc):=
(Zf e 6).bind λd=>
(Zcj a d.1).bind λc=>
(Zf d.2 4).bind λb=>
Zr (λv=>V9 v.1 v.2.1 v.2.2.1 v.2.2.2.1 v.2.2.2.2.1 v.2.2.2.2.2.1 v.2.2.2.2.2.2.1 v.2.2.2.2.2.2.2.1) (b.1,b.2.1,b.2.2.1,b.2.2.2.1,Kw c,K3 c,Gj c,K5 c,())
def c17:Ctr:=⟨[.io (.flat (Xn)),.dat Iq],[.own (Zo4)],λa K=>splitK a λc a=>splitK a λb a=>Qp (Zau c b) λr=>K (r.1,()) (r.2,())⟩
def ZbF (d:Zz×Zc) (a:Zg×Zc) (b:List ZH) (c:Int) (g:List Int) (f h:Int):Option (((List ZH)×Int×(List Int)×Int×Int×Unit) ⊕ (Zi×Zc)):=
if c<(a.1.2.1.length:Int) then
(ZbE a.1 c).bind λi=>
(Zau (g,f,h,()) (i.length:Int)).bind λe=>
Zp ((b.length+[e.1].length)*(96:Nat)<=(140737488355328:Nat))<|
some (.inl (b++[e.1],Wq (c+1),e.2.1,e.2.2.1,e.2.2.2.1,()))
else
some (.inr ((d.1,a.1,b,()),(g,f,h,())))
def ZcA (e:Zc) (c:Int) (a:Bool):Option (Zi×Zc):=
(ZdN e).bind λd=>
(ZdP d.2 c a).bind λb=>
Zr (λv=>ZbF d b v.1 v.2.1 v.2.2.1 v.2.2.2.1 v.2.2.2.2.1) (([]:List ZH),(0:Int),b.2.1,b.2.2.1,b.2.2.2.1,())
def c18:Ctr:=⟨[.io (.flat (Xn)),.dat Iq,.dat (.bool)],[.own (Znb)],λa K=>splitK a λd a=>splitK a λc a=>splitK a λb a=>Qp (ZcA d c b) λr=>K (r.1,()) (r.2,())⟩
def ZbH (a:Int×Zc) (b:List Zd):Option (((List Zd)×Unit) ⊕ (((List Zd)×Int×(List Int)×Int×Int×Unit) ⊕ ((List Zd)×Zc))):=
if (b.length:Int)<7 then
(atI b 0).bind λd=>
(Vb (b.length:Int)).bind λc=>
Zp ((([(120:UInt8)].length):Int)+(c.length:Int)<=(9223372036854775807:Int))<|
Zp ((b.length+[([(120:UInt8)]++c,d.2)].length)*(96:Nat)<=(140737488355328:Nat))<|
some (.inl (b++[([(120:UInt8)]++c,d.2)],()))
else
some (.inr (.inr (b,a.2)))
def ZbI (c:List Zd) (l:Int) (n:List Int) (m o:Int):Option (((List Zd)×Int×(List Int)×Int×Int×Unit) ⊕ ((List Zd)×Zc)):=
if 0<l then
(Zf (n,m,o,()) 30).bind λb=>
(Vb (c.length:Int)).bind λj=>
Zp ((([(99:UInt8)].length):Int)+(j.length:Int)<=(9223372036854775807:Int))<|
(Zf b.2 20).bind λd=>
(Zf d.2 20).bind λf=>
(Zf f.2 8).bind λi=>
if (c.length:Int)=0 then
(Zf i.2 7).bind λk=>
(atI ([(10:Int),12,20,30,100,7,2]) k.1).bind λa=>
(Zf k.2 a).bind λg=>
(Zf g.2 (Wq (a-1))).bind λe=>
Zp (a≠(0:Int))<|
Zp ((c.length+[([(99:UInt8)]++j,d.1,a,g.1,Int.tmod (Wq (Wq (g.1+(1:Int))+e.1)) a,(-1:Int),(1:Int),false,b.1,Wq (b.1+f.1),i.1,())].length)*(96:Nat)<=(140737488355328:Nat))<|
some (.inl (c++[([(99:UInt8)]++j,d.1,a,g.1,Int.tmod (Wq (Wq (g.1+1)+e.1)) a,(-1:Int),(1:Int),false,b.1,Wq (b.1+f.1),i.1,())],Wq (l-1),e.2.1,e.2.2.1,e.2.2.2.1,()))
else
(Zf i.2 3).bind λk=>
if k.1=0 then
(Zf k.2 7).bind λg=>
(atI ([(10:Int),12,20,30,100,7,2]) g.1).bind λa=>
(Zf g.2 a).bind λe=>
(Zf e.2 (Wq (a-1))).bind λh=>
Zp (a≠(0:Int))<|
Zp ((c.length+[([(99:UInt8)]++j,d.1,a,e.1,Int.tmod (Wq (Wq (e.1+(1:Int))+h.1)) a,(-1:Int),(1:Int),false,b.1,Wq (b.1+f.1),i.1,())].length)*(96:Nat)<=(140737488355328:Nat))<|
some (.inl (c++[([(99:UInt8)]++j,d.1,a,e.1,Int.tmod (Wq (Wq (e.1+1)+h.1)) a,(-1:Int),(1:Int),false,b.1,Wq (b.1+f.1),i.1,())],Wq (l-1),h.2.1,h.2.2.1,h.2.2.2.1,()))
else
(Zf k.2 (c.length:Int)).bind λg=>
(Zf g.2 4).bind λe=>
(Zf e.2 3).bind λh=>
Zp ((c.length+[([(99:UInt8)]++j,d.1,(0:Int),(0:Int),(0:Int),g.1,Wq ((1:Int)+e.1),decide (h.1=(0:Int)),b.1,Wq (b.1+f.1),i.1,())].length)*(96:Nat)<=(140737488355328:Nat))<|
some (.inl (c++[([(99:UInt8)]++j,d.1,(0:Int),(0:Int),(0:Int),g.1,Wq ((1:Int)+e.1),decide (h.1=0),b.1,Wq (b.1+f.1),i.1,())],Wq (l-1),h.2.1,h.2.2.1,h.2.2.2.1,()))
else
(Zf (n,m,o,()) (c.length:Int)).bind λb=>
(Zf b.2 30).bind λd=>
if d.1=0 then
(Zf d.2 2).bind λf=>
(atI c b.1).bind λa=>
some (.inr (List.set c (Int.toNat b.1) (KQ a,KH a,Gd a,K9 a,Ge a,KC a,Wq (9*f.1),a.2.2.2.2.2.2.2),f.2))
else
if d.1=1 then
(atI c b.1).bind λa=>
some (.inr (List.set c (Int.toNat b.1) (KQ a,KH a,Gd a,K9 a,K9 a,a.2.2.2.2.2),d.2))
else
if d.1=2 then
(atI c 0).bind λa=>
(atI c b.1).bind λp=>
some (.inr (List.set c (Int.toNat b.1) (KQ a,p.2),d.2))
else
if d.1=3 then
(atI c b.1).bind λa=>
some (.inr (List.set c (Int.toNat b.1) (KQ a,KH a,Gd a,K9 a,Ge a,b.1,a.2.2.2.2.2.2),d.2))
else
if d.1=4 then
(atI c b.1).bind λa=>
some (.inr (List.set c (Int.toNat b.1) (KQ a,KH a,Gd a,K9 a,Ge a,KC a,KS a,Gy a,Gi a,Wq (Gi a-1),a.2.2.2.2.2.2.2.2.2.2),d.2))
else
if d.1=5 then
(Zf d.2 2).bind λf=>
(atI c 0).bind λa=>
some (.inr (List.set c (Int.toNat 0) (KQ a,KH a,Wq (100000+f.1),a.2.2.2),f.2))
else
if d.1=6 then
Zr (λv=>ZbH d v.1) (c,())
else
some (.inr (c,d.2))
def ZcB (b:Zc):Option ((List Zd)×Zc):=
(Zf b 5).bind λa=>
Zr (λv=>ZbI v.1 v.2.1 v.2.2.1 v.2.2.2.1 v.2.2.2.2.1) (([]:List (List UInt8×Int×Int×Int×Int×Int×Int×Bool×Int×Int×Int×Unit)),Wq ((1:Int)+a.1),a.2.1,a.2.2.1,a.2.2.2.1,())
def c19:Ctr:=⟨[.io (.flat (Xn))],[.own (.ol 77 (.flat (Jr)))],λa K=>splitK a λb a=>Qp (ZcB b) λr=>K (r.1,()) (r.2,())⟩
def Zbz (c:List UInt8) (a:Int):Option ((Int×Unit) ⊕ Bool):=
if a<(c.length:Int) then
(atI c a).bind λb=>
if 97<=((UInt8.toNat b):Int) then
if 48<=((UInt8.toNat b):Int) then
if ((UInt8.toNat b):Int)<=122 then
some (.inl (Wq (a+1),()))
else
if ((UInt8.toNat b):Int)<=57 then
if 0<a then
some (.inl (Wq (a+1),()))
else
some (.inr false)
else
some (.inr false)
else
if ((UInt8.toNat b):Int)<=122 then
some (.inl (Wq (a+1),()))
else
some (.inr false)
else
if 48<=((UInt8.toNat b):Int) then
if ((UInt8.toNat b):Int)<=57 then
if 0<a then
some (.inl (Wq (a+1),()))
else
some (.inr false)
else
some (.inr false)
else
some (.inr false)
else
if 1<=(c.length:Int) then
some (.inr (decide ((c.length:Int)<=8)))
else
some (.inr false)
def Vy (a:List UInt8):Option Bool:=
Zr (λv=>Zbz a v.1) ((0:Int),())
def c20:Ctr:=D1 (.str) (.bool) Vy
def ZX (c b a:Int):Option Bool:=
if b<=c then
some (decide (c<=a))
else
some false
def c21:Ctr:=D3 Iq Iq Iq (.bool) ZX
def Zc3 (a:Zd):Option Bool:=
(Vy (KQ a)).bind λe=>
if e then
if 0<=KH a then
(ZX (Gi a) 0 100000).bind λb=>
if b then
(ZX (Gq a) (Gi a) 100000).bind λc=>
if c then
(ZX (Gg a) 0 100000).bind λd=>
some d
else
some false
else
some false
else
some false
else
some false
def c22:Ctr:=D1 (Jr) (.bool) Zc3
def ZbJ (a:Zd):Option Bool:=
(ZX (Gd a) 2 100000).bind λc=>
if c then
(ZX (K9 a) 0 (Wq (Gd a-1))).bind λb=>
if b then
(ZX (Ge a) 0 (Wq (Gd a-1))).bind λd=>
if d then
if K9 a=Ge a then
some false
else
if KS a=1 then
some (!Gy a)
else
some false
else
some false
else
some false
else
some false
def c23:Ctr:=D1 (Jr) (.bool) ZbJ
def JE (d:(List Zd)->Int->Option Yu) (c:List Zd) (e:Int):Option Yu:=
(atI c e).bind λa=>
if KC a<0 then
some (Gd a,K9 a,Ge a,())
else
(d c (KC a)).bind λb=>
if 1<KS a then
if (Gy a)=true then
some (Wq (Yu.period b*KS a),Wq (Yu.rise b+Wq (Wq (Int.tdiv (KS a) 2)*Yu.period b)),Yu.rise b,())
else
some (Wq (Yu.period b*KS a),Yu.rise b,Wq (Yu.rise b+Wq (Wq (Int.tdiv (KS a) 2)*Yu.period b)),())
else
if (Gy a)=true then
some (Yu.period b,Yu.fall b,Yu.rise b,())
else
some b
def JF:Nat->(List Zd)->Int->Option Yu
| 0=>λ_ _=>none
| n+1=>JE (JF n)
def Zda (a:List Zd) (b:Int):Option Yu:=Zsl (λn=>JF n a b)
def ZcU (c:(List Zd)->Int->Option Yu):Ctr:=⟨[.dat (.sl (Jr)),.dat Iq],[.dat (ZnR)],λa K=>splitK a λb a=>splitK a λd a=>Qp (c b d) λr=>K (r,()) ()⟩
def c24:Ctr:=ZcU Zda
def VL (d:List Zd) (b:Int) (a:Zd) (c:Int):Option ((Int×Unit) ⊕ ((Int×Unit) ⊕ Bool)):=
if c<b then
(atI d c).bind λe=>
if KQ e=KQ a then
some (.inr (.inr false))
else
some (.inl (Wq (c+1),()))
else
if KC a=(-1) then
(ZbJ a).bind λh=>
if h then
some (.inr (.inl (Wq (b+1),())))
else
some (.inr (.inr false))
else
(ZX (KC a) 0 (Wq (b-1))).bind λf=>
if f then
(ZX (KS a) 1 8).bind λi=>
if i then
if Gd a=0 then
if K9 a=0 then
if Ge a=0 then
(Zda d b).bind λg=>
if 100000<Yu.period g then
some (.inr (.inr false))
else
some (.inr (.inl (Wq (b+1),())))
else
some (.inr (.inr false))
else
some (.inr (.inr false))
else
some (.inr (.inr false))
else
some (.inr (.inr false))
else
some (.inr (.inr false))
def ZaG (a:List Zd) (b:Int):Option ((Int×Unit) ⊕ Bool):=
if b<(a.length:Int) then
if (a.length:Int)<=6 then
(atI a b).bind λc=>
(Zc3 c).bind λd=>
if d then
Zr (λv=>VL a b c v.1) ((0:Int),())
else
some (.inr false)
else
some (.inr (decide ((a.length:Int)<=6)))
else
some (.inr (decide ((a.length:Int)<=6)))
def J5 (a:List Zd):Option Bool:=
Zr (λv=>ZaG a v.1) ((0:Int),())
def c25:Ctr:=D1 (.sl (Jr)) (.bool) J5
def Ji (d:Zi×Zc) (b:List Zx) (i:List Zd) (n j:List Zb) (f:List Zk) (h:Int) (k:List Int) (l m:Int):Option (((List Zk)×Int×(List Int)×Int×Int×Unit) ⊕ (((List Zb)×(List Zb)×Int×(List Int)×Int×Int×Unit) ⊕ ((Int×(List Int)×Int×Int×(List Zd)×Unit) ⊕ (Zi×Zh×Zc)))):=
if 0<h then
(Zf (k,l,m,()) 4).bind λa=>
if Wq (1+a.1)=1 then
(Zf a.2 2).bind λc=>
if c.1=0 then
(Zf c.2 (b.length:Int)).bind λe=>
Zp ((f.length+[(Wq ((1:Int)+a.1),(0:Int),([]:List Int),([]:List Int),[e.1],())].length)*(88:Nat)<=(140737488355328:Nat))<|
some (.inl (f++[(Wq ((1:Int)+a.1),(0:Int),([]:List Int),([]:List Int),[e.1],())],Wq (h-1),e.2.1,e.2.2.1,e.2.2.2.1,()))
else
Zp ((f.length+[(Wq ((1:Int)+a.1),(0:Int),([]:List Int),([]:List Int),([]:List Int),())].length)*(88:Nat)<=(140737488355328:Nat))<|
some (.inl (f++[(Wq ((1:Int)+a.1),(0:Int),([]:List Int),([]:List Int),([]:List Int),())],Wq (h-1),c.2.1,c.2.2.1,c.2.2.2.1,()))
else
(Zf a.2 9).bind λc=>
(Zf c.2 2).bind λe=>
if e.1=0 then
(Zf e.2 (b.length:Int)).bind λg=>
Zp ((f.length+[(Wq ((1:Int)+a.1),Wq ((1:Int)+c.1),([]:List Int),([]:List Int),[g.1],())].length)*(88:Nat)<=(140737488355328:Nat))<|
some (.inl (f++[(Wq ((1:Int)+a.1),Wq ((1:Int)+c.1),([]:List Int),([]:List Int),[g.1],())],Wq (h-1),g.2.1,g.2.2.1,g.2.2.2.1,()))
else
Zp ((f.length+[(Wq ((1:Int)+a.1),Wq ((1:Int)+c.1),([]:List Int),([]:List Int),([]:List Int),())].length)*(88:Nat)<=(140737488355328:Nat))<|
some (.inl (f++[(Wq ((1:Int)+a.1),Wq ((1:Int)+c.1),([]:List Int),([]:List Int),([]:List Int),())],Wq (h-1),e.2.1,e.2.2.1,e.2.2.2.1,()))
else
(Zf (k,l,m,()) 2).bind λa=>
if a.1=0 then
some (.inr (.inr (.inr (d.1,(i,n,j,f,[([(116:UInt8),121,112],(1000:Int),(1000:Int),(1000:Int),(1000:Int),())]++[([(115:UInt8),108,111,119],(1100:Int),(1300:Int),(1000:Int),(1200:Int),())],()),a.2))))
else
some (.inr (.inr (.inr (d.1,(i,n,j,f,[([(116:UInt8),121,112],(1000:Int),(1000:Int),(1000:Int),(1000:Int),())],()),a.2))))
def Jj (i:Zi×Zc) (a:List Zx) (k:Int×Zc) (q:List Zd) (h f:List Zb) (d:Int) (n:List Int) (o p:Int):Option (((List Zb)×(List Zb)×Int×(List Int)×Int×Int×Unit) ⊕ ((Int×(List Int)×Int×Int×(List Zd)×Unit) ⊕ (Zi×Zh×Zc))):=
if d<(a.length:Int) then
(Zf (n,o,p,()) 60).bind λc=>
(Zf c.2 (([([(109:UInt8),97,105,110],(0:Int),Wq ((100:Int)+k.1),(0:Int),(50:Int),(-1:Int),(1:Int),false,(0:Int),(0:Int),(0:Int),())].length):Int)).bind λj=>
(Zf j.2 30).bind λe=>
(atI a d).bind λm=>
if (KY m)=true then
if d=Wq ((a.length:Int)-(i.1.2.1.2.2.1.length:Int)) then
if (KY m)=true then
some (.inl (h,f,Wq (d+1),e.2.1,e.2.2.1,e.2.2.2.1,()))
else
(Zf e.2 8).bind λb=>
if 0<b.1 then
Zp ((f.length+[(d,j.1,(Wq (c.1-(20:Int)),Wq (Wq (c.1-(20:Int))+e.1),()),((0:Int),(0:Int),()),())].length)*(48:Nat)<=(140737488355328:Nat))<|
some (.inl (h,f++[(d,j.1,(Wq (c.1-20),Wq (Wq (c.1-20)+e.1),()),((0:Int),(0:Int),()),())],Wq (d+1),b.2.1,b.2.2.1,b.2.2.2.1,()))
else
some (.inl (h,f,Wq (d+1),b.2.1,b.2.2.1,b.2.2.2.1,()))
else
(Zf e.2 8).bind λb=>
if 0<b.1 then
(Zf b.2 20).bind λg=>
(Zf g.2 10).bind λl=>
Zp ((h.length+[(d,j.1,(Wq (c.1-(20:Int)),Wq (Wq (c.1-(20:Int))+e.1),()),(g.1,Wq (g.1+l.1),()),())].length)*(48:Nat)<=(140737488355328:Nat))<|
some (.inl (h++[(d,j.1,(Wq (c.1-20),Wq (Wq (c.1-20)+e.1),()),(g.1,Wq (g.1+l.1),()),())],f,Wq (d+1),l.2.1,l.2.2.1,l.2.2.2.1,()))
else
if (KY m)=true then
some (.inl (h,f,Wq (d+1),b.2.1,b.2.2.1,b.2.2.2.1,()))
else
(Zf b.2 8).bind λg=>
if 0<g.1 then
Zp ((f.length+[(d,j.1,(Wq (c.1-(20:Int)),Wq (Wq (c.1-(20:Int))+e.1),()),((0:Int),(0:Int),()),())].length)*(48:Nat)<=(140737488355328:Nat))<|
some (.inl (h,f++[(d,j.1,(Wq (c.1-20),Wq (Wq (c.1-20)+e.1),()),((0:Int),(0:Int),()),())],Wq (d+1),g.2.1,g.2.2.1,g.2.2.2.1,()))
else
some (.inl (h,f,Wq (d+1),g.2.1,g.2.2.1,g.2.2.2.1,()))
else
if (KY m)=true then
some (.inl (h,f,Wq (d+1),e.2.1,e.2.2.1,e.2.2.2.1,()))
else
(Zf e.2 8).bind λb=>
if 0<b.1 then
Zp ((f.length+[(d,j.1,(Wq (c.1-(20:Int)),Wq (Wq (c.1-(20:Int))+e.1),()),((0:Int),(0:Int),()),())].length)*(48:Nat)<=(140737488355328:Nat))<|
some (.inl (h,f++[(d,j.1,(Wq (c.1-20),Wq (Wq (c.1-20)+e.1),()),((0:Int),(0:Int),()),())],Wq (d+1),b.2.1,b.2.2.1,b.2.2.2.1,()))
else
some (.inl (h,f,Wq (d+1),b.2.1,b.2.2.1,b.2.2.2.1,()))
else
(Zf (n,o,p,()) 3).bind λc=>
Zr (λv=>Ji i a q h f v.1 v.2.1 v.2.2.1 v.2.2.2.1 v.2.2.2.2.1) (([]:List Zk),c.1,c.2.1,c.2.2.1,c.2.2.2.1,())
def Q5 (b:Zi×Zc) (a:List Zx) (c:Int×Zc) (g:Int) (i:List Int) (h j:Int) (e:List Zd):Option ((Int×(List Int)×Int×Int×(List Zd)×Unit) ⊕ (Zi×Zh×Zc)):=
if g<(([([(109:UInt8),97,105,110],(0:Int),Wq ((100:Int)+c.1),(0:Int),(50:Int),(-1:Int),(1:Int),false,(0:Int),(0:Int),(0:Int),())].length):Int) then
(atI ([([(109:UInt8),97,105,110],(0:Int),Wq ((100:Int)+c.1),(0:Int),(50:Int),(-1:Int),(1:Int),false,(0:Int),(0:Int),(0:Int),())]) g).bind λd=>
if 0<g then
(Zf (i,h,j,()) (a.length:Int)).bind λf=>
Zp ((([]:List (List UInt8×Int×Int×Int×Int×Int×Int×Bool×Int×Int×Int×Unit)).length+e.length)*(96:Nat)<=(140737488355328:Nat))<|
Zp (((([]:List (List UInt8×Int×Int×Int×Int×Int×Int×Bool×Int×Int×Int×Unit))++e).length+[(d.1,f.1,d.2.2)].length)*(96:Nat)<=(140737488355328:Nat))<|
some (.inl (Wq (g+1),f.2.1,f.2.2.1,f.2.2.2.1,([]:List (List UInt8×Int×Int×Int×Int×Int×Int×Bool×Int×Int×Int×Unit))++e++[(d.1,f.1,d.2.2)],()))
else
Zp ((([]:List (List UInt8×Int×Int×Int×Int×Int×Int×Bool×Int×Int×Int×Unit)).length+e.length)*(96:Nat)<=(140737488355328:Nat))<|
Zp (((([]:List (List UInt8×Int×Int×Int×Int×Int×Int×Bool×Int×Int×Int×Unit))++e).length+[(d.1,Wq ((a.length:Int)-(b.1.2.1.2.2.1.length:Int)),d.2.2)].length)*(96:Nat)<=(140737488355328:Nat))<|
some (.inl (Wq (g+1),i,h,j,([]:List (List UInt8×Int×Int×Int×Int×Int×Int×Bool×Int×Int×Int×Unit))++e++[(d.1,Wq ((a.length:Int)-(b.1.2.1.2.2.1.length:Int)),d.2.2)],()))
else
Zr (λv=>Jj b a c e v.1 v.2.1 v.2.2.1 v.2.2.2.1 v.2.2.2.2.1 v.2.2.2.2.2.1) (([]:List (Int×Int×ZC×ZC×Unit)),([]:List (Int×Int×ZC×ZC×Unit)),Wq ((a.length:Int)-(b.1.2.1.2.2.1.length:Int)),i,h,j,())
def Jk (d:Zi×Zc) (b:List Zx) (i:List Zd) (n j:List Zb) (f:List Zk) (h:Int) (k:List Int) (l m:Int):Option (((List Zk)×Int×(List Int)×Int×Int×Unit) ⊕ (((List Zb)×(List Zb)×Int×(List Int)×Int×Int×Unit) ⊕ ((Int×(List Int)×Int×Int×(List Zd)×Unit) ⊕ (Zi×Zh×Zc)))):=
if 0<h then
(Zf (k,l,m,()) 4).bind λa=>
if Wq (1+a.1)=1 then
(Zf a.2 2).bind λc=>
if c.1=0 then
(Zf c.2 (b.length:Int)).bind λe=>
Zp ((f.length+[(Wq ((1:Int)+a.1),(0:Int),([]:List Int),([]:List Int),[e.1],())].length)*(88:Nat)<=(140737488355328:Nat))<|
some (.inl (f++[(Wq ((1:Int)+a.1),(0:Int),([]:List Int),([]:List Int),[e.1],())],Wq (h-1),e.2.1,e.2.2.1,e.2.2.2.1,()))
else
Zp ((f.length+[(Wq ((1:Int)+a.1),(0:Int),([]:List Int),([]:List Int),([]:List Int),())].length)*(88:Nat)<=(140737488355328:Nat))<|
some (.inl (f++[(Wq ((1:Int)+a.1),(0:Int),([]:List Int),([]:List Int),([]:List Int),())],Wq (h-1),c.2.1,c.2.2.1,c.2.2.2.1,()))
else
(Zf a.2 9).bind λc=>
(Zf c.2 2).bind λe=>
if e.1=0 then
(Zf e.2 (b.length:Int)).bind λg=>
Zp ((f.length+[(Wq ((1:Int)+a.1),Wq ((1:Int)+c.1),([]:List Int),([]:List Int),[g.1],())].length)*(88:Nat)<=(140737488355328:Nat))<|
some (.inl (f++[(Wq ((1:Int)+a.1),Wq ((1:Int)+c.1),([]:List Int),([]:List Int),[g.1],())],Wq (h-1),g.2.1,g.2.2.1,g.2.2.2.1,()))
else
Zp ((f.length+[(Wq ((1:Int)+a.1),Wq ((1:Int)+c.1),([]:List Int),([]:List Int),([]:List Int),())].length)*(88:Nat)<=(140737488355328:Nat))<|
some (.inl (f++[(Wq ((1:Int)+a.1),Wq ((1:Int)+c.1),([]:List Int),([]:List Int),([]:List Int),())],Wq (h-1),e.2.1,e.2.2.1,e.2.2.2.1,()))
else
(Zf (k,l,m,()) 2).bind λa=>
if a.1=0 then
some (.inr (.inr (.inr (d.1,(i,n,j,f,[([(116:UInt8),121,112],(1000:Int),(1000:Int),(1000:Int),(1000:Int),())]++[([(115:UInt8),108,111,119],(1100:Int),(1300:Int),(1000:Int),(1200:Int),())],()),a.2))))
else
some (.inr (.inr (.inr (d.1,(i,n,j,f,[([(116:UInt8),121,112],(1000:Int),(1000:Int),(1000:Int),(1000:Int),())],()),a.2))))
def Jl (i:Zi×Zc) (a:List Zx) (k:List Zd×Zc) (q:List Zd) (h f:List Zb) (d:Int) (n:List Int) (o p:Int):Option (((List Zb)×(List Zb)×Int×(List Int)×Int×Int×Unit) ⊕ ((Int×(List Int)×Int×Int×(List Zd)×Unit) ⊕ (Zi×Zh×Zc))):=
if d<(a.length:Int) then
(Zf (n,o,p,()) 60).bind λc=>
(Zf c.2 (k.1.length:Int)).bind λj=>
(Zf j.2 30).bind λe=>
(atI a d).bind λm=>
if (KY m)=true then
if d=Wq ((a.length:Int)-(i.1.2.1.2.2.1.length:Int)) then
if (KY m)=true then
some (.inl (h,f,Wq (d+1),e.2.1,e.2.2.1,e.2.2.2.1,()))
else
(Zf e.2 8).bind λb=>
if 0<b.1 then
Zp ((f.length+[(d,j.1,(Wq (c.1-(20:Int)),Wq (Wq (c.1-(20:Int))+e.1),()),((0:Int),(0:Int),()),())].length)*(48:Nat)<=(140737488355328:Nat))<|
some (.inl (h,f++[(d,j.1,(Wq (c.1-20),Wq (Wq (c.1-20)+e.1),()),((0:Int),(0:Int),()),())],Wq (d+1),b.2.1,b.2.2.1,b.2.2.2.1,()))
else
some (.inl (h,f,Wq (d+1),b.2.1,b.2.2.1,b.2.2.2.1,()))
else
(Zf e.2 8).bind λb=>
if 0<b.1 then
(Zf b.2 20).bind λg=>
(Zf g.2 10).bind λl=>
Zp ((h.length+[(d,j.1,(Wq (c.1-(20:Int)),Wq (Wq (c.1-(20:Int))+e.1),()),(g.1,Wq (g.1+l.1),()),())].length)*(48:Nat)<=(140737488355328:Nat))<|
some (.inl (h++[(d,j.1,(Wq (c.1-20),Wq (Wq (c.1-20)+e.1),()),(g.1,Wq (g.1+l.1),()),())],f,Wq (d+1),l.2.1,l.2.2.1,l.2.2.2.1,()))
else
if (KY m)=true then
some (.inl (h,f,Wq (d+1),b.2.1,b.2.2.1,b.2.2.2.1,()))
else
(Zf b.2 8).bind λg=>
if 0<g.1 then
Zp ((f.length+[(d,j.1,(Wq (c.1-(20:Int)),Wq (Wq (c.1-(20:Int))+e.1),()),((0:Int),(0:Int),()),())].length)*(48:Nat)<=(140737488355328:Nat))<|
some (.inl (h,f++[(d,j.1,(Wq (c.1-20),Wq (Wq (c.1-20)+e.1),()),((0:Int),(0:Int),()),())],Wq (d+1),g.2.1,g.2.2.1,g.2.2.2.1,()))
else
some (.inl (h,f,Wq (d+1),g.2.1,g.2.2.1,g.2.2.2.1,()))
else
if (KY m)=true then
some (.inl (h,f,Wq (d+1),e.2.1,e.2.2.1,e.2.2.2.1,()))
else
(Zf e.2 8).bind λb=>
if 0<b.1 then
Zp ((f.length+[(d,j.1,(Wq (c.1-(20:Int)),Wq (Wq (c.1-(20:Int))+e.1),()),((0:Int),(0:Int),()),())].length)*(48:Nat)<=(140737488355328:Nat))<|
some (.inl (h,f++[(d,j.1,(Wq (c.1-20),Wq (Wq (c.1-20)+e.1),()),((0:Int),(0:Int),()),())],Wq (d+1),b.2.1,b.2.2.1,b.2.2.2.1,()))
else
some (.inl (h,f,Wq (d+1),b.2.1,b.2.2.1,b.2.2.2.1,()))
else
(Zf (n,o,p,()) 3).bind λc=>
Zr (λv=>Jk i a q h f v.1 v.2.1 v.2.2.1 v.2.2.2.1 v.2.2.2.2.1) (([]:List Zk),c.1,c.2.1,c.2.2.1,c.2.2.2.1,())
def Jm (b:Zi×Zc) (a:List Zx) (c:List Zd×Zc) (g:Int) (i:List Int) (h j:Int) (e:List Zd):Option ((Int×(List Int)×Int×Int×(List Zd)×Unit) ⊕ (Zi×Zh×Zc)):=
if g<(c.1.length:Int) then
(atI c.1 g).bind λd=>
if 0<g then
(Zf (i,h,j,()) (a.length:Int)).bind λf=>
Zp ((([]:List (List UInt8×Int×Int×Int×Int×Int×Int×Bool×Int×Int×Int×Unit)).length+e.length)*(96:Nat)<=(140737488355328:Nat))<|
Zp (((([]:List (List UInt8×Int×Int×Int×Int×Int×Int×Bool×Int×Int×Int×Unit))++e).length+[(KQ d,f.1,d.2.2)].length)*(96:Nat)<=(140737488355328:Nat))<|
some (.inl (Wq (g+1),f.2.1,f.2.2.1,f.2.2.2.1,([]:List (List UInt8×Int×Int×Int×Int×Int×Int×Bool×Int×Int×Int×Unit))++e++[(KQ d,f.1,d.2.2)],()))
else
Zp ((([]:List (List UInt8×Int×Int×Int×Int×Int×Int×Bool×Int×Int×Int×Unit)).length+e.length)*(96:Nat)<=(140737488355328:Nat))<|
Zp (((([]:List (List UInt8×Int×Int×Int×Int×Int×Int×Bool×Int×Int×Int×Unit))++e).length+[(KQ d,Wq ((a.length:Int)-(b.1.2.1.2.2.1.length:Int)),d.2.2)].length)*(96:Nat)<=(140737488355328:Nat))<|
some (.inl (Wq (g+1),i,h,j,([]:List (List UInt8×Int×Int×Int×Int×Int×Int×Bool×Int×Int×Int×Unit))++e++[(KQ d,Wq ((a.length:Int)-(b.1.2.1.2.2.1.length:Int)),d.2.2)],()))
else
Zr (λv=>Jl b a c e v.1 v.2.1 v.2.2.1 v.2.2.2.1 v.2.2.2.2.1 v.2.2.2.2.2.1) (([]:List (Int×Int×ZC×ZC×Unit)),([]:List (Int×Int×ZC×ZC×Unit)),Wq ((a.length:Int)-(b.1.2.1.2.2.1.length:Int)),i,h,j,())
def Jo (c:Zi×Zc) (b:List Zx) (i:List Zd) (n j:List Zb) (f:List Zk) (h:Int) (k:List Int) (l m:Int):Option (((List Zk)×Int×(List Int)×Int×Int×Unit) ⊕ (((List Zb)×(List Zb)×Int×(List Int)×Int×Int×Unit) ⊕ ((Int×(List Int)×Int×Int×(List Zd)×Unit) ⊕ (Zi×Zh×Zc)))):=
if 0<h then
(Zf (k,l,m,()) 4).bind λa=>
if Wq (1+a.1)=1 then
(Zf a.2 2).bind λd=>
if d.1=0 then
(Zf d.2 (b.length:Int)).bind λe=>
Zp ((f.length+[(Wq ((1:Int)+a.1),(0:Int),([]:List Int),([]:List Int),[e.1],())].length)*(88:Nat)<=(140737488355328:Nat))<|
some (.inl (f++[(Wq ((1:Int)+a.1),(0:Int),([]:List Int),([]:List Int),[e.1],())],Wq (h-1),e.2.1,e.2.2.1,e.2.2.2.1,()))
else
Zp ((f.length+[(Wq ((1:Int)+a.1),(0:Int),([]:List Int),([]:List Int),([]:List Int),())].length)*(88:Nat)<=(140737488355328:Nat))<|
some (.inl (f++[(Wq ((1:Int)+a.1),(0:Int),([]:List Int),([]:List Int),([]:List Int),())],Wq (h-1),d.2.1,d.2.2.1,d.2.2.2.1,()))
else
(Zf a.2 9).bind λd=>
(Zf d.2 2).bind λe=>
if e.1=0 then
(Zf e.2 (b.length:Int)).bind λg=>
Zp ((f.length+[(Wq ((1:Int)+a.1),Wq ((1:Int)+d.1),([]:List Int),([]:List Int),[g.1],())].length)*(88:Nat)<=(140737488355328:Nat))<|
some (.inl (f++[(Wq ((1:Int)+a.1),Wq ((1:Int)+d.1),([]:List Int),([]:List Int),[g.1],())],Wq (h-1),g.2.1,g.2.2.1,g.2.2.2.1,()))
else
Zp ((f.length+[(Wq ((1:Int)+a.1),Wq ((1:Int)+d.1),([]:List Int),([]:List Int),([]:List Int),())].length)*(88:Nat)<=(140737488355328:Nat))<|
some (.inl (f++[(Wq ((1:Int)+a.1),Wq ((1:Int)+d.1),([]:List Int),([]:List Int),([]:List Int),())],Wq (h-1),e.2.1,e.2.2.1,e.2.2.2.1,()))
else
(Zf (k,l,m,()) 2).bind λa=>
if a.1=0 then
some (.inr (.inr (.inr (c.1,(i,n,j,f,[([(116:UInt8),121,112],(1000:Int),(1000:Int),(1000:Int),(1000:Int),())]++[([(115:UInt8),108,111,119],(1100:Int),(1300:Int),(1000:Int),(1200:Int),())],()),a.2))))
else
some (.inr (.inr (.inr (c.1,(i,n,j,f,[([(116:UInt8),121,112],(1000:Int),(1000:Int),(1000:Int),(1000:Int),())],()),a.2))))
def Jp (i:Zi×Zc) (a:List Zx) (k:Int×Zc) (q:List Zd) (h f:List Zb) (d:Int) (n:List Int) (o p:Int):Option (((List Zb)×(List Zb)×Int×(List Int)×Int×Int×Unit) ⊕ ((Int×(List Int)×Int×Int×(List Zd)×Unit) ⊕ (Zi×Zh×Zc))):=
if d<(a.length:Int) then
(Zf (n,o,p,()) 60).bind λc=>
(Zf c.2 (([([(109:UInt8),97,105,110],(0:Int),Wq ((100:Int)+k.1),(0:Int),(50:Int),(-1:Int),(1:Int),false,(0:Int),(0:Int),(0:Int),())].length):Int)).bind λj=>
(Zf j.2 30).bind λe=>
(atI a d).bind λm=>
if (KY m)=true then
if d=Wq ((a.length:Int)-(i.1.2.1.2.2.1.length:Int)) then
if (KY m)=true then
some (.inl (h,f,Wq (d+1),e.2.1,e.2.2.1,e.2.2.2.1,()))
else
(Zf e.2 8).bind λb=>
if 0<b.1 then
Zp ((f.length+[(d,j.1,(Wq (c.1-(20:Int)),Wq (Wq (c.1-(20:Int))+e.1),()),((0:Int),(0:Int),()),())].length)*(48:Nat)<=(140737488355328:Nat))<|
some (.inl (h,f++[(d,j.1,(Wq (c.1-20),Wq (Wq (c.1-20)+e.1),()),((0:Int),(0:Int),()),())],Wq (d+1),b.2.1,b.2.2.1,b.2.2.2.1,()))
else
some (.inl (h,f,Wq (d+1),b.2.1,b.2.2.1,b.2.2.2.1,()))
else
(Zf e.2 8).bind λb=>
if 0<b.1 then
(Zf b.2 20).bind λg=>
(Zf g.2 10).bind λl=>
Zp ((h.length+[(d,j.1,(Wq (c.1-(20:Int)),Wq (Wq (c.1-(20:Int))+e.1),()),(g.1,Wq (g.1+l.1),()),())].length)*(48:Nat)<=(140737488355328:Nat))<|
some (.inl (h++[(d,j.1,(Wq (c.1-20),Wq (Wq (c.1-20)+e.1),()),(g.1,Wq (g.1+l.1),()),())],f,Wq (d+1),l.2.1,l.2.2.1,l.2.2.2.1,()))
else
if (KY m)=true then
some (.inl (h,f,Wq (d+1),b.2.1,b.2.2.1,b.2.2.2.1,()))
else
(Zf b.2 8).bind λg=>
if 0<g.1 then
Zp ((f.length+[(d,j.1,(Wq (c.1-(20:Int)),Wq (Wq (c.1-(20:Int))+e.1),()),((0:Int),(0:Int),()),())].length)*(48:Nat)<=(140737488355328:Nat))<|
some (.inl (h,f++[(d,j.1,(Wq (c.1-20),Wq (Wq (c.1-20)+e.1),()),((0:Int),(0:Int),()),())],Wq (d+1),g.2.1,g.2.2.1,g.2.2.2.1,()))
else
some (.inl (h,f,Wq (d+1),g.2.1,g.2.2.1,g.2.2.2.1,()))
else
if (KY m)=true then
some (.inl (h,f,Wq (d+1),e.2.1,e.2.2.1,e.2.2.2.1,()))
else
(Zf e.2 8).bind λb=>
if 0<b.1 then
Zp ((f.length+[(d,j.1,(Wq (c.1-(20:Int)),Wq (Wq (c.1-(20:Int))+e.1),()),((0:Int),(0:Int),()),())].length)*(48:Nat)<=(140737488355328:Nat))<|
some (.inl (h,f++[(d,j.1,(Wq (c.1-20),Wq (Wq (c.1-20)+e.1),()),((0:Int),(0:Int),()),())],Wq (d+1),b.2.1,b.2.2.1,b.2.2.2.1,()))
else
some (.inl (h,f,Wq (d+1),b.2.1,b.2.2.1,b.2.2.2.1,()))
else
(Zf (n,o,p,()) 3).bind λc=>
Zr (λv=>Jo i a q h f v.1 v.2.1 v.2.2.1 v.2.2.2.1 v.2.2.2.2.1) (([]:List Zk),c.1,c.2.1,c.2.2.1,c.2.2.2.1,())
def Q6 (b:Zi×Zc) (a:List Zx) (c:Int×Zc) (g:Int) (i:List Int) (h j:Int) (e:List Zd):Option ((Int×(List Int)×Int×Int×(List Zd)×Unit) ⊕ (Zi×Zh×Zc)):=
if g<(([([(109:UInt8),97,105,110],(0:Int),Wq ((100:Int)+c.1),(0:Int),(50:Int),(-1:Int),(1:Int),false,(0:Int),(0:Int),(0:Int),())].length):Int) then
(atI ([([(109:UInt8),97,105,110],(0:Int),Wq ((100:Int)+c.1),(0:Int),(50:Int),(-1:Int),(1:Int),false,(0:Int),(0:Int),(0:Int),())]) g).bind λd=>
if 0<g then
(Zf (i,h,j,()) (a.length:Int)).bind λf=>
Zp ((([]:List (List UInt8×Int×Int×Int×Int×Int×Int×Bool×Int×Int×Int×Unit)).length+e.length)*(96:Nat)<=(140737488355328:Nat))<|
Zp (((([]:List (List UInt8×Int×Int×Int×Int×Int×Int×Bool×Int×Int×Int×Unit))++e).length+[(d.1,f.1,d.2.2)].length)*(96:Nat)<=(140737488355328:Nat))<|
some (.inl (Wq (g+1),f.2.1,f.2.2.1,f.2.2.2.1,([]:List (List UInt8×Int×Int×Int×Int×Int×Int×Bool×Int×Int×Int×Unit))++e++[(d.1,f.1,d.2.2)],()))
else
Zp ((([]:List (List UInt8×Int×Int×Int×Int×Int×Int×Bool×Int×Int×Int×Unit)).length+e.length)*(96:Nat)<=(140737488355328:Nat))<|
Zp (((([]:List (List UInt8×Int×Int×Int×Int×Int×Int×Bool×Int×Int×Int×Unit))++e).length+[(d.1,Wq ((a.length:Int)-(b.1.2.1.2.2.1.length:Int)),d.2.2)].length)*(96:Nat)<=(140737488355328:Nat))<|
some (.inl (Wq (g+1),i,h,j,([]:List (List UInt8×Int×Int×Int×Int×Int×Int×Bool×Int×Int×Int×Unit))++e++[(d.1,Wq ((a.length:Int)-(b.1.2.1.2.2.1.length:Int)),d.2.2)],()))
else
Zr (λv=>Jp b a c e v.1 v.2.1 v.2.2.1 v.2.2.2.1 v.2.2.2.2.1 v.2.2.2.2.2.1) (([]:List (Int×Int×ZC×ZC×Unit)),([]:List (Int×Int×ZC×ZC×Unit)),Wq ((a.length:Int)-(b.1.2.1.2.2.1.length:Int)),i,h,j,())
def Jq (c:Zi×Zc) (b:List Zx) (i:List Zd) (n j:List Zb) (f:List Zk) (h:Int) (k:List Int) (l m:Int):Option (((List Zk)×Int×(List Int)×Int×Int×Unit) ⊕ (((List Zb)×(List Zb)×Int×(List Int)×Int×Int×Unit) ⊕ ((Int×(List Int)×Int×Int×(List Zd)×Unit) ⊕ (Zi×Zh×Zc)))):=
if 0<h then
(Zf (k,l,m,()) 4).bind λa=>
if Wq (1+a.1)=1 then
(Zf a.2 2).bind λd=>
if d.1=0 then
(Zf d.2 (b.length:Int)).bind λe=>
Zp ((f.length+[(Wq ((1:Int)+a.1),(0:Int),([]:List Int),([]:List Int),[e.1],())].length)*(88:Nat)<=(140737488355328:Nat))<|
some (.inl (f++[(Wq ((1:Int)+a.1),(0:Int),([]:List Int),([]:List Int),[e.1],())],Wq (h-1),e.2.1,e.2.2.1,e.2.2.2.1,()))
else
Zp ((f.length+[(Wq ((1:Int)+a.1),(0:Int),([]:List Int),([]:List Int),([]:List Int),())].length)*(88:Nat)<=(140737488355328:Nat))<|
some (.inl (f++[(Wq ((1:Int)+a.1),(0:Int),([]:List Int),([]:List Int),([]:List Int),())],Wq (h-1),d.2.1,d.2.2.1,d.2.2.2.1,()))
else
(Zf a.2 9).bind λd=>
(Zf d.2 2).bind λe=>
if e.1=0 then
(Zf e.2 (b.length:Int)).bind λg=>
Zp ((f.length+[(Wq ((1:Int)+a.1),Wq ((1:Int)+d.1),([]:List Int),([]:List Int),[g.1],())].length)*(88:Nat)<=(140737488355328:Nat))<|
some (.inl (f++[(Wq ((1:Int)+a.1),Wq ((1:Int)+d.1),([]:List Int),([]:List Int),[g.1],())],Wq (h-1),g.2.1,g.2.2.1,g.2.2.2.1,()))
else
Zp ((f.length+[(Wq ((1:Int)+a.1),Wq ((1:Int)+d.1),([]:List Int),([]:List Int),([]:List Int),())].length)*(88:Nat)<=(140737488355328:Nat))<|
some (.inl (f++[(Wq ((1:Int)+a.1),Wq ((1:Int)+d.1),([]:List Int),([]:List Int),([]:List Int),())],Wq (h-1),e.2.1,e.2.2.1,e.2.2.2.1,()))
else
(Zf (k,l,m,()) 2).bind λa=>
if a.1=0 then
some (.inr (.inr (.inr (c.1,(i,n,j,f,[([(116:UInt8),121,112],(1000:Int),(1000:Int),(1000:Int),(1000:Int),())]++[([(115:UInt8),108,111,119],(1100:Int),(1300:Int),(1000:Int),(1200:Int),())],()),a.2))))
else
some (.inr (.inr (.inr (c.1,(i,n,j,f,[([(116:UInt8),121,112],(1000:Int),(1000:Int),(1000:Int),(1000:Int),())],()),a.2))))
def VO (i:Zi×Zc) (a:List Zx) (k:List Zd×Zc) (q:List Zd) (h f:List Zb) (d:Int) (n:List Int) (o p:Int):Option (((List Zb)×(List Zb)×Int×(List Int)×Int×Int×Unit) ⊕ ((Int×(List Int)×Int×Int×(List Zd)×Unit) ⊕ (Zi×Zh×Zc))):=
if d<(a.length:Int) then
(Zf (n,o,p,()) 60).bind λc=>
(Zf c.2 (k.1.length:Int)).bind λj=>
(Zf j.2 30).bind λe=>
(atI a d).bind λm=>
if (KY m)=true then
if d=Wq ((a.length:Int)-(i.1.2.1.2.2.1.length:Int)) then
if (KY m)=true then
some (.inl (h,f,Wq (d+1),e.2.1,e.2.2.1,e.2.2.2.1,()))
else
(Zf e.2 8).bind λb=>
if 0<b.1 then
Zp ((f.length+[(d,j.1,(Wq (c.1-(20:Int)),Wq (Wq (c.1-(20:Int))+e.1),()),((0:Int),(0:Int),()),())].length)*(48:Nat)<=(140737488355328:Nat))<|
some (.inl (h,f++[(d,j.1,(Wq (c.1-20),Wq (Wq (c.1-20)+e.1),()),((0:Int),(0:Int),()),())],Wq (d+1),b.2.1,b.2.2.1,b.2.2.2.1,()))
else
some (.inl (h,f,Wq (d+1),b.2.1,b.2.2.1,b.2.2.2.1,()))
else
(Zf e.2 8).bind λb=>
if 0<b.1 then
(Zf b.2 20).bind λg=>
(Zf g.2 10).bind λl=>
Zp ((h.length+[(d,j.1,(Wq (c.1-(20:Int)),Wq (Wq (c.1-(20:Int))+e.1),()),(g.1,Wq (g.1+l.1),()),())].length)*(48:Nat)<=(140737488355328:Nat))<|
some (.inl (h++[(d,j.1,(Wq (c.1-20),Wq (Wq (c.1-20)+e.1),()),(g.1,Wq (g.1+l.1),()),())],f,Wq (d+1),l.2.1,l.2.2.1,l.2.2.2.1,()))
else
if (KY m)=true then
some (.inl (h,f,Wq (d+1),b.2.1,b.2.2.1,b.2.2.2.1,()))
else
(Zf b.2 8).bind λg=>
if 0<g.1 then
Zp ((f.length+[(d,j.1,(Wq (c.1-(20:Int)),Wq (Wq (c.1-(20:Int))+e.1),()),((0:Int),(0:Int),()),())].length)*(48:Nat)<=(140737488355328:Nat))<|
some (.inl (h,f++[(d,j.1,(Wq (c.1-20),Wq (Wq (c.1-20)+e.1),()),((0:Int),(0:Int),()),())],Wq (d+1),g.2.1,g.2.2.1,g.2.2.2.1,()))
else
some (.inl (h,f,Wq (d+1),g.2.1,g.2.2.1,g.2.2.2.1,()))
else
if (KY m)=true then
some (.inl (h,f,Wq (d+1),e.2.1,e.2.2.1,e.2.2.2.1,()))
else
(Zf e.2 8).bind λb=>
if 0<b.1 then
Zp ((f.length+[(d,j.1,(Wq (c.1-(20:Int)),Wq (Wq (c.1-(20:Int))+e.1),()),((0:Int),(0:Int),()),())].length)*(48:Nat)<=(140737488355328:Nat))<|
some (.inl (h,f++[(d,j.1,(Wq (c.1-20),Wq (Wq (c.1-20)+e.1),()),((0:Int),(0:Int),()),())],Wq (d+1),b.2.1,b.2.2.1,b.2.2.2.1,()))
else
some (.inl (h,f,Wq (d+1),b.2.1,b.2.2.1,b.2.2.2.1,()))
else
(Zf (n,o,p,()) 3).bind λc=>
Zr (λv=>Jq i a q h f v.1 v.2.1 v.2.2.1 v.2.2.2.1 v.2.2.2.2.1) (([]:List Zk),c.1,c.2.1,c.2.2.1,c.2.2.2.1,())
def VP (b:Zi×Zc) (a:List Zx) (c:List Zd×Zc) (g:Int) (i:List Int) (h j:Int) (e:List Zd):Option ((Int×(List Int)×Int×Int×(List Zd)×Unit) ⊕ (Zi×Zh×Zc)):=
if g<(c.1.length:Int) then
(atI c.1 g).bind λd=>
if 0<g then
(Zf (i,h,j,()) (a.length:Int)).bind λf=>
Zp ((([]:List (List UInt8×Int×Int×Int×Int×Int×Int×Bool×Int×Int×Int×Unit)).length+e.length)*(96:Nat)<=(140737488355328:Nat))<|
Zp (((([]:List (List UInt8×Int×Int×Int×Int×Int×Int×Bool×Int×Int×Int×Unit))++e).length+[(KQ d,f.1,d.2.2)].length)*(96:Nat)<=(140737488355328:Nat))<|
some (.inl (Wq (g+1),f.2.1,f.2.2.1,f.2.2.2.1,([]:List (List UInt8×Int×Int×Int×Int×Int×Int×Bool×Int×Int×Int×Unit))++e++[(KQ d,f.1,d.2.2)],()))
else
Zp ((([]:List (List UInt8×Int×Int×Int×Int×Int×Int×Bool×Int×Int×Int×Unit)).length+e.length)*(96:Nat)<=(140737488355328:Nat))<|
Zp (((([]:List (List UInt8×Int×Int×Int×Int×Int×Int×Bool×Int×Int×Int×Unit))++e).length+[(KQ d,Wq ((a.length:Int)-(b.1.2.1.2.2.1.length:Int)),d.2.2)].length)*(96:Nat)<=(140737488355328:Nat))<|
some (.inl (Wq (g+1),i,h,j,([]:List (List UInt8×Int×Int×Int×Int×Int×Int×Bool×Int×Int×Int×Unit))++e++[(KQ d,Wq ((a.length:Int)-(b.1.2.1.2.2.1.length:Int)),d.2.2)],()))
else
Zr (λv=>VO b a c e v.1 v.2.1 v.2.2.1 v.2.2.2.1 v.2.2.2.2.1 v.2.2.2.2.2.1) (([]:List (Int×Int×ZC×ZC×Unit)),([]:List (Int×Int×ZC×ZC×Unit)),Wq ((a.length:Int)-(b.1.2.1.2.2.1.length:Int)),i,h,j,())
def ZdQ (h:Zc):Option (Zi×Zh×Zc):=
(ZcA h 4 false).bind λd=>
(Zf d.2 6).bind λf=>
if f.1=0 then
(ZcA f.2 5 true).bind λe=>
(Xf e.1.2.1).bind λc=>
(ZcB e.2).bind λb=>
if (b.1.length:Int)=0 then
(Zf b.2 400).bind λa=>
Zr (λv=>Q5 e c a v.1 v.2.1 v.2.2.1 v.2.2.2.1 v.2.2.2.2.1) ((0:Int),a.2.1,a.2.2.1,a.2.2.2.1,([]:List Zd),())
else
(J5 b.1).bind λg=>
if g then
Zr (λv=>Jm e c b v.1 v.2.1 v.2.2.1 v.2.2.2.1 v.2.2.2.2.1) ((0:Int),b.2.1,b.2.2.1,b.2.2.2.1,([]:List Zd),())
else
(Zf b.2 400).bind λa=>
Zr (λv=>Q5 e c a v.1 v.2.1 v.2.2.1 v.2.2.2.1 v.2.2.2.2.1) ((0:Int),a.2.1,a.2.2.1,a.2.2.2.1,([]:List Zd),())
else
(Xf d.1.2.1).bind λc=>
(ZcB f.2).bind λb=>
if (b.1.length:Int)=0 then
(Zf b.2 400).bind λa=>
Zr (λv=>Q6 d c a v.1 v.2.1 v.2.2.1 v.2.2.2.1 v.2.2.2.2.1) ((0:Int),a.2.1,a.2.2.1,a.2.2.2.1,([]:List Zd),())
else
(J5 b.1).bind λg=>
if g then
Zr (λv=>VP d c b v.1 v.2.1 v.2.2.1 v.2.2.2.1 v.2.2.2.2.1) ((0:Int),b.2.1,b.2.2.1,b.2.2.2.1,([]:List Zd),())
else
(Zf b.2 400).bind λa=>
Zr (λv=>Q6 d c a v.1 v.2.1 v.2.2.1 v.2.2.2.1 v.2.2.2.2.1) ((0:Int),a.2.1,a.2.2.1,a.2.2.2.1,([]:List Zd),())
def c26:Ctr:=⟨[.io (.flat (Xn))],[.own (Znb),.own (Zo3)],λa K=>splitK a λb a=>Qp (ZdQ b) λr=>K (r.1,r.2.1,()) (r.2.2,())⟩
def ZbL (f:Zc):Option (Zi×Zh×Zc):=
(ZdQ f).bind λa=>
(Zf a.2.2 24).bind λb=>
if b.1=0 then
(Zf b.2 2).bind λe=>
(atI ([(-1:Int),1000]) e.1).bind λc=>
(atI a.2.1.1 0).bind λd=>
some (a.1,(List.set a.2.1.1 (Int.toNat 0) (KQ d,c,d.2.2),a.2.1.2),e.2)
else
if b.1=1 then
if 0<(a.2.1.2.1.length:Int) then
(Zf b.2 2).bind λe=>
(atI ([(-1:Int),6]) e.1).bind λc=>
(atI a.2.1.2.1 0).bind λd=>
some (a.1,(a.2.1.1,List.set a.2.1.2.1 (Int.toNat 0) (Kv d,c,d.2.2),a.2.1.2.2),e.2)
else
some (a.1,a.2.1,b.2)
else
if b.1=2 then
if 0<(a.2.1.2.1.length:Int) then
(atI a.2.1.2.1 0).bind λc=>
some (a.1,(a.2.1.1,List.set a.2.1.2.1 (Int.toNat 0) (Kv c,KL c,(Wq (KF (Kz c)+1),(Kz c).2),c.2.2.2),a.2.1.2.2),b.2)
else
some (a.1,a.2.1,b.2)
else
if b.1=3 then
if 0<(a.2.1.2.2.1.length:Int) then
(atI a.2.1.2.2.1 0).bind λc=>
some (a.1,(a.2.1.1,a.2.1.2.1,List.set a.2.1.2.2.1 (Int.toNat 0) (Kv c,KL c,Kz c,(KA (Gc c),1,()),()),a.2.1.2.2.2),b.2)
else
some (a.1,a.2.1,b.2)
else
if b.1=4 then
(atI a.2.1.2.2.2.2.1 0).bind λc=>
Zp ((a.2.1.2.2.2.2.1.length+[c].length)*(48:Nat)<=(140737488355328:Nat))<|
some (a.1,(a.2.1.1,a.2.1.2.1,a.2.1.2.2.1,a.2.1.2.2.2.1,a.2.1.2.2.2.2.1++[c],()),b.2)
else
if b.1=5 then
Zp ((a.2.1.2.2.2.1.length+[((0:Int),(0:Int),([]:List Int),([]:List Int),([]:List Int),())].length)*(88:Nat)<=(140737488355328:Nat))<|
some (a.1,(a.2.1.1,a.2.1.2.1,a.2.1.2.2.1,a.2.1.2.2.2.1++[((0:Int),(0:Int),([]:List Int),([]:List Int),([]:List Int),())],a.2.1.2.2.2.2),b.2)
else
if b.1=6 then
if 0<(a.2.1.2.2.1.length:Int) then
(atI a.2.1.2.2.1 0).bind λc=>
Zp ((a.2.1.2.1.length+[c].length)*(48:Nat)<=(140737488355328:Nat))<|
some (a.1,(a.2.1.1,a.2.1.2.1++[c],a.2.1.2.2),b.2)
else
some (a.1,a.2.1,b.2)
else
if b.1=7 then
some (a.1,([],[],[],[],[],()),b.2)
else
some (a.1,a.2.1,b.2)
def c27:Ctr:=⟨[.io (.flat (Xn))],[.own (Znb),.own (Zo3)],λa K=>splitK a λb a=>Qp (ZbL b) λr=>K (r.1,r.2.1,()) (r.2.2,())⟩
def QY (a:List Int):Option (Zi×Zh):=
(Zcx a).bind λc=>
(ZbL c).bind λb=>
some (b.1,b.2.1)
def c28:Ctr:=⟨[.dat (.sl (.int .u8))],[.own (Znb),.own (Zo3)],λa K=>splitK a λb a=>Qp (QY b) λr=>K (r.1,r.2,()) ()⟩
def ZT (c b a:Int):Option Bool:=
if b<=c then
some (decide (c<=a))
else
some false
def c29:Ctr:=D3 Iq Iq Iq (.bool) ZT
def ZbY (a:List UInt8):Option Bool:=
(ZT (a.length:Int) 1 8).bind λc=>
if c then
Zp (a.length<=(1000000:Nat))<|
if Go.Lib.trimS a [(97:UInt8),98,99,100,101,102,103,104,105,106,107,108,109,110,111,112,113,114,115,116,117,118,119,120,121,122,48,49,50,51,52,53,54,55,56,57]=([]:List UInt8) then
(atI a 0).bind λb=>
some (decide ((0:Int)<=Go.Lib.indexByte [(97:UInt8),98,99,100,101,102,103,104,105,106,107,108,109,110,111,112,113,114,115,116,117,118,119,120,121,122] (Nat.toUInt8 (Int.toNat ((UInt8.toNat b):Int)))))
else
some false
else
some false
def c30:Ctr:=D1 (.str) (.bool) ZbY
def Vi (a:List YO):Option Int:=
some (a.length:Int)
def c31:Ctr:=D1 (.sl (Zlt)) Iq Vi
def Xl (b:List (List UInt8)) (d:List UInt8) (a:Int):Option ((Int×Unit) ⊕ Int):=
if a<(b.length:Int) then
(atI b a).bind λc=>
if d=c then
some (.inr a)
else
some (.inl (Wq (a+1),()))
else
some (.inr (-1))
def Xk (a:List (List UInt8)) (b:List UInt8):Option Int:=
Zr (λv=>Xl a b v.1) ((0:Int),())
def c32:Ctr:=D2 (.sl (.str)) (.str) Iq Xk
def YX (a:List (List UInt8)) (c:List UInt8):Option Bool:=
(Xk a c).bind λb=>
some (decide (0<=b))
def c33:Ctr:=D2 (.sl (.str)) (.str) (.bool) YX
def ZaB (a:List (List UInt8)) (b:Int):Option ((Int×Unit) ⊕ Bool):=
if b<(a.length:Int) then
(atI a b).bind λc=>
(ZbY c).bind λe=>
if e then
Zp ((0:Int)<=b)<|
Zp (b<=(a.length:Int))<|
(YX (List.take (Int.toNat b-Int.toNat 0) (List.drop (Int.toNat 0) a)) c).bind λd=>
if d then
some (.inr false)
else
some (.inl (Wq (b+1),()))
else
some (.inr false)
else
some (.inr true)
def XE (a:List (List UInt8)):Option Bool:=
Zr (λv=>ZaB a v.1) ((0:Int),())
def c34:Ctr:=D1 (.sl (.str)) (.bool) XE
def QV (b:List YO) (a:List (List UInt8)) (d:Int):Option (((List (List UInt8))×Int×Unit) ⊕ Bool):=
if d<(b.length:Int) then
(atI b d).bind λc=>
Zp ((a.length+[KV c].length)*(16:Nat)<=(140737488355328:Nat))<|
if d=Wq ((b.length:Int)-1) then
if GA c=2 then
if Gx c=0 then
if (Ky c)=true then
some (.inr false)
else
some (.inl (a++[KV c],Wq (d+1),()))
else
some (.inr false)
else
some (.inr false)
else
if GA c=1 then
(ZT (Gx c) 0 500).bind λe=>
if e then
some (.inl (a++[KV c],Wq (d+1),()))
else
some (.inr false)
else
some (.inr false)
else
(Vi b).bind λg=>
(ZT g 2 5).bind λe=>
if e then
(XE a).bind λf=>
some (.inr f)
else
some (.inr false)
def ZdB (a:List YO):Option Bool:=
Zr (λv=>QV a v.1 v.2.1) (([]:List (List UInt8)),(0:Int),())
def c35:Ctr:=D1 (.sl (Zlt)) (.bool) ZdB
def ZdD (a:Int):Option Bool:=
if a=4 then
some true
else
some (decide (a=5))
def c36:Ctr:=D1 Iq (.bool) ZdD
def Y6 (a:List Int):Option Int:=
some (a.length:Int)
def c37:Ctr:=D1 (.sl Iq) Iq Y6
def ZbW (a b c:Int):Option Bool:=
(ZT a b c).bind λd=>
some !d
def c38:Ctr:=D3 Iq (.ptr Iq) (.ptr Iq) (.bool) ZbW
def Yk (c:List Int) (b:Int×Int×Unit) (a:Int):Option ((Int×Unit) ⊕ Int):=
if a<(c.length:Int) then
(atI c a).bind λd=>
(ZbW d b.1 b.2.1).bind λe=>
if e then
some (.inr a)
else
some (.inl (Wq (a+1),()))
else
some (.inr (-1))
def Ye (a:List Int) (b:Int×Int×Unit):Option Int:=
Zr (λv=>Yk a b v.1) ((0:Int),())
def c39:Ctr:=D2 (.sl Iq) (.fn 192 (.pair (.ptr Iq) (.pair (.ptr Iq) (.unit)))) Iq Ye
def Yn (a:List Int) (b:Int×Int×Unit):Option Bool:=
(Ye a b).bind λc=>
some (decide (0<=c))
def c40:Ctr:=D2 (.sl Iq) (.fn 192 (.pair (.ptr Iq) (.pair (.ptr Iq) (.unit)))) (.bool) Yn
def Y1 (a:List Int) (c b:Int):Option Bool:=
(Yn a (c,b,())).bind λd=>
some !d
def c41:Ctr:=D3 (.sl Iq) Iq Iq (.bool) Y1
def Xi (a:List Int) (b:Int):Option ((Int×Unit) ⊕ Bool):=
if b<(a.length:Int) then
(atI a (Wq (b-1))).bind λc=>
(atI a b).bind λd=>
if d<=c then
some (.inr false)
else
some (.inl (Wq (b+1),()))
else
some (.inr true)
def Qm (a:List Int):Option Bool:=
Zr (λv=>Xi a v.1) ((1:Int),())
def c42:Ctr:=D1 (.sl Iq) (.bool) Qm
def Zdk (a:List Int):Option Bool:=
(Y6 a).bind λe=>
(ZT e 1 4).bind λb=>
if b then
(Y1 a 0 100000).bind λc=>
if c then
(Qm a).bind λd=>
some d
else
some false
else
some false
def c43:Ctr:=D1 (.sl Iq) (.bool) Zdk
def ZdA (a:ZY):Option Bool:=
(Zdk (Gv a)).bind λc=>
if c then
(Zdk (Gl a)).bind λb=>
if b then
if ((KT a).length:Int)=Wq (((Gv a).length:Int)*((Gl a).length:Int)) then
(Y1 (KT a) (-1000000) 1000000).bind λd=>
some d
else
some false
else
some false
else
some false
def c44:Ctr:=D1 (JI) (.bool) ZdA
def XY (b:List Int) (c a:Int):Option ((Int×Int×Unit) ⊕ Int):=
if a<(b.length:Int) then
(atI b a).bind λd=>
some (.inl (Min.min c d,Wq (a+1),()))
else
some (.inr c)
def Qe (a:List Int):Option Int:=
if (a.length:Int)<1 then
none
else
(atI a 0).bind λb=>
Zr (λv=>XY a v.1 v.2.1) (b,(1:Int),())
def c45:Ctr:=D1 (.sl Iq) Iq Qe
def Ql (a:ZY) (b:Bool):Option Bool:=
(ZdA a).bind λd=>
if d then
if b then
(Qe (KT a)).bind λc=>
some (decide (c<0))
else
some false
else
some true
def c46:Ctr:=D2 (JI) (.ptr (.bool)) (.bool) Ql
def Z8 (b:List ZY) (c:Bool×Unit) (a:Int):Option ((Int×Unit) ⊕ Int):=
if a<(b.length:Int) then
(atI b a).bind λd=>
(Ql d c.1).bind λe=>
if e then
some (.inr a)
else
some (.inl (Wq (a+1),()))
else
some (.inr (-1))
def ZR (a:List ZY) (b:Bool×Unit):Option Int:=
Zr (λv=>Z8 a b v.1) ((0:Int),())
def c47:Ctr:=D2 (.sl (JI)) (.fn 297 (.pair (.ptr (.bool)) (.unit))) Iq ZR
def ZJ (a:List ZY) (b:Bool×Unit):Option Bool:=
(ZR a b).bind λc=>
some (decide (0<=c))
def c48:Ctr:=D2 (.sl (JI)) (.fn 297 (.pair (.ptr (.bool)) (.unit))) (.bool) ZJ
def V3 (b:List ZY) (a:Bool):Option Bool:=
if (b.length:Int)=2 then
(ZJ b (a,())).bind λc=>
some !c
else
some false
def c49:Ctr:=D2 (.sl (JI)) (.bool) (.bool) V3
def Zbc (a:YO):Option Bool:=
some (Ky a)
def c50:Ctr:=D1 (Zlt) (.bool) Zbc
def Yb (b:List YO) (a:Int):Option ((Int×Unit) ⊕ Int):=
if a<(b.length:Int) then
(atI b a).bind λc=>
(Zbc c).bind λd=>
if d then
some (.inr a)
else
some (.inl (Wq (a+1),()))
else
some (.inr (-1))
def Z0 (a:List YO) (b:Unit):Option Int:=
Zr (λv=>Yb a v.1) ((0:Int),())
def c51:Ctr:=D2 (.sl (Zlt)) (.fn 301 (.unit)) Iq Z0
def Zbb (a:Zl):Option Int:=
(Z0 (Ks a) ()).bind λb=>
some b
def c52:Ctr:=D1 (Zdq) Iq Zbb
def VT (a:Zl):Option Int:=
(Vi (Ks a)).bind λb=>
some (Wq (b-1))
def c53:Ctr:=D1 (Zdq) Iq VT
def Vo (b:Zl) (a:Int):Option Bool:=
(VT b).bind λd=>
(ZT a 0 (Wq (d-1))).bind λc=>
some c
def c54:Ctr:=D2 (Zdq) Iq (.bool) Vo
def Zbd (b:Zl) (a:ZL):Option Bool:=
(ZdD (Kx a)).bind λh=>
if h then
if KZ a=0 then
if ((K4 a).length:Int)=0 then
(V3 (KU a) false).bind λe=>
if e then
(Zbb b).bind λj=>
if KJ a=j then
if 0<=KJ a then
(Vo b (KO a)).bind λd=>
if d then
some (!decide (KO a=KJ a))
else
some false
else
some false
else
some false
else
some false
else
some false
else
some false
else
(V3 (KU a) true).bind λe=>
if e then
(V3 (K4 a) true).bind λf=>
if f then
(VT b).bind λg=>
if KO a=g then
(Vo b (KJ a)).bind λd=>
if d then
if Kx a=1 then
(atI (Ks b) (KJ a)).bind λc=>
if (Ky c)=true then
some false
else
(ZT (KZ a) 1 3).bind λi=>
some i
else
if Kx a=2 then
if Kx a=2 then
(atI (Ks b) (KJ a)).bind λc=>
if (Ky c)=true then
some (decide (KZ a=0))
else
some false
else
some false
else
if Kx a=3 then
(atI (Ks b) (KJ a)).bind λc=>
if (Ky c)=true then
some (decide (KZ a=0))
else
some false
else
some false
else
some false
else
some false
else
some false
else
some false
def c55:Ctr:=D2 (Zdq) (ZkI) (.bool) Zbd
def Xm (b a:ZL):Option Bool:=
if Kx b=Kx a then
if KJ b=KJ a then
some (decide (KO b=KO a))
else
some false
else
some false
def c56:Ctr:=D2 (ZkI) (.ptr (ZkI)) (.bool) Xm
def Z9 (b:List ZL) (c:ZL×Unit) (a:Int):Option ((Int×Unit) ⊕ Int):=
if a<(b.length:Int) then
(atI b a).bind λd=>
(Xm d c.1).bind λe=>
if e then
some (.inr a)
else
some (.inl (Wq (a+1),()))
else
some (.inr (-1))
def ZU (a:List ZL) (b:ZL×Unit):Option Int:=
Zr (λv=>Z9 a b v.1) ((0:Int),())
def c57:Ctr:=D2 (.sl (ZkI)) (.fn 260 (.pair (.ptr (ZkI)) (.unit))) Iq ZU
def ZO (a:List ZL) (b:ZL×Unit):Option Bool:=
(ZU a b).bind λc=>
some (decide (0<=c))
def c58:Ctr:=D2 (.sl (ZkI)) (.fn 260 (.pair (.ptr (ZkI)) (.unit))) (.bool) ZO
def VD (a:Zl) (b:Int):Option ((Int×Unit) ⊕ Bool):=
if b<((KD a).length:Int) then
(atI (KD a) b).bind λc=>
(Zbd a c).bind λe=>
if e then
Zp ((0:Int)<=b)<|
Zp (b<=((KD a).length:Int))<|
(ZO (List.take (Int.toNat b-Int.toNat 0) (List.drop (Int.toNat 0) (KD a))) (c,())).bind λd=>
if d then
some (.inr false)
else
some (.inl (Wq (b+1),()))
else
some (.inr false)
else
some (.inr (decide (((KD a).length:Int)<=8)))
def JQ (a:Zl):Option Bool:=
Zr (λv=>VD a v.1) ((0:Int),())
def c59:Ctr:=D1 (Zdq) (.bool) JQ
def Zap (a:ZL) (b:Int):Option Bool:=
some (decide (Kx a=b))
def c60:Ctr:=D2 (ZkI) (.ptr Iq) (.bool) Zap
def Yf (b:List ZL) (c:Int×Unit) (a:Int):Option ((Int×Unit) ⊕ Int):=
if a<(b.length:Int) then
(atI b a).bind λd=>
(Zap d c.1).bind λe=>
if e then
some (.inr a)
else
some (.inl (Wq (a+1),()))
else
some (.inr (-1))
def Z5 (a:List ZL) (b:Int×Unit):Option Int:=
Zr (λv=>Yf a b v.1) ((0:Int),())
def c61:Ctr:=D2 (.sl (ZkI)) (.fn 285 (.pair (.ptr Iq) (.unit))) Iq Z5
def ZV (a:List ZL) (b:Int×Unit):Option Bool:=
(Z5 a b).bind λc=>
some (decide (0<=c))
def c62:Ctr:=D2 (.sl (ZkI)) (.fn 285 (.pair (.ptr Iq) (.unit))) (.bool) ZV
def Qc (b:Zl) (a:Int):Option Bool:=
(ZV (KD b) (a,())).bind λc=>
some c
def c63:Ctr:=D2 (Zdq) Iq (.bool) Qc
def Y5 (a:Zl) (b c:Int):Option ((Int×Int×Unit) ⊕ Bool):=
if c<((Ks a).length:Int) then
(atI (Ks a) c).bind λi=>
if (Ky i)=true then
some (.inl (Wq (b+1),Wq (c+1),()))
else
some (.inl (b,Wq (c+1),()))
else
if Gb a=1 then
if b=0 then
(VT a).bind λg=>
Zp ((0:Int)<=g)<|
if ((KK a).length:Int)=Wq (1*2 ^ Min.min (Int.toNat g) (IntKind.bits IntKind.i64)) then
(Y1 (KK a) 0 1).bind λh=>
some (.inr h)
else
some (.inr false)
else
some (.inr false)
else
if Gb a=2 then
if b=1 then
if ((KK a).length:Int)=0 then
(Qc a 1).bind λf=>
if f then
some (.inr false)
else
(Qc a 2).bind λe=>
(Qc a 3).bind λd=>
some (.inr (!e == d))
else
some (.inr false)
else
some (.inr false)
else
if Gb a=3 then
if b=1 then
if ((KK a).length:Int)=0 then
(Qc a 1).bind λf=>
if f then
(Qc a 2).bind λe=>
if e then
(Qc a 3).bind λd=>
some (.inr !d)
else
some (.inr false)
else
some (.inr false)
else
some (.inr false)
else
some (.inr false)
else
some (.inr false)
def Ja (a:Zl):Option Bool:=
Zr (λv=>Y5 a v.1 v.2.1) ((0:Int),(0:Int),())
def c64:Ctr:=D1 (Zdq) (.bool) Ja
def Zeh (a:Zl):Option Bool:=
(ZbY (Gf a)).bind λf=>
if f then
(ZdB (Ks a)).bind λd=>
if d then
(JQ a).bind λg=>
if g then
(ZT (GF a) 0 100000).bind λc=>
if c then
(ZT (GG a) 0 100000).bind λb=>
if b then
(Ja a).bind λe=>
some e
else
some false
else
some false
else
some false
else
some false
else
some false
def c65:Ctr:=D1 (Zdq) (.bool) Zeh
def X3 (c:Zz) (a:List (List UInt8)) (b:Int):Option (((List (List UInt8))×Int×Unit) ⊕ Bool):=
if b<((KE c).length:Int) then
(atI (KE c) b).bind λd=>
(Zeh d).bind λf=>
if f then
Zp ((a.length+[Gf d].length)*(16:Nat)<=(140737488355328:Nat))<|
some (.inl (a++[Gf d],Wq (b+1),()))
else
some (.inr false)
else
if ((KE c).length:Int)<=8 then
(XE a).bind λe=>
some (.inr e)
else
some (.inr false)
def Zcc (a:Zz):Option Bool:=
Zr (λv=>X3 a v.1 v.2.1) (([]:List (List UInt8)),(0:Int),())
def c66:Ctr:=D1 (Qf) (.bool) Zcc
def QH (c:Zg) (a b:List (List UInt8)) (d:Int):Option (((List (List UInt8))×Int×Unit) ⊕ (((List (List UInt8))×Int×Unit) ⊕ Bool)):=
if d<((KB c).length:Int) then
(atI (KB c) d).bind λe=>
Zp ((b.length+[Gt e].length)*(16:Nat)<=(140737488355328:Nat))<|
some (.inl (b++[Gt e],Wq (d+1),()))
else
if (a.length:Int)<=14 then
if ((KI c).length:Int)<=30 then
if (b.length:Int)<=8 then
(XE a).bind λh=>
if h then
(XE (KI c)).bind λg=>
if g then
(XE b).bind λf=>
some (.inr (.inr f))
else
some (.inr (.inr false))
else
some (.inr (.inr false))
else
some (.inr (.inr false))
else
some (.inr (.inr false))
else
some (.inr (.inr false))
def QI (b:Zg) (a:List (List UInt8)) (c:Int):Option (((List (List UInt8))×Int×Unit) ⊕ Bool):=
if c<((Kr b).length:Int) then
(atI (Kr b) c).bind λd=>
Zp ((a.length+[Gs d].length)*(16:Nat)<=(140737488355328:Nat))<|
some (.inl (a++[Gs d],Wq (c+1),()))
else
Zr (λv=>QH b a v.1 v.2.1) (([]:List (List UInt8)),(0:Int),())
def Vh (a:Zg):Option Bool:=
Zr (λv=>QI a v.1 v.2.1) (([]:List (List UInt8)),(0:Int),())
def c67:Ctr:=D1 (XZ) (.bool) Vh
def Jw (a:List Zl):Option Int:=
some (a.length:Int)
def c68:Ctr:=D1 (.sl (Zdq)) Iq Jw
def Zbf (a:List (List UInt8)):Option Int:=
some (a.length:Int)
def c69:Ctr:=D1 (.sl (.str)) Iq Zbf
def XB (d:Zg) (a:Int):Option Bool:=
(Zbf (KI d)).bind λc=>
(ZT a 0 (Wq (c-1))).bind λb=>
some b
def c70:Ctr:=D2 (XZ) Iq (.bool) XB
def Y0 (a:Int) (b:Zg):Option Bool:=
(XB b a).bind λc=>
some !c
def c71:Ctr:=D2 Iq (.ptr (XZ)) (.bool) Y0
def Ya (b:List Int) (c:Zg×Unit) (a:Int):Option ((Int×Unit) ⊕ Int):=
if a<(b.length:Int) then
(atI b a).bind λd=>
(Y0 d c.1).bind λe=>
if e then
some (.inr a)
else
some (.inl (Wq (a+1),()))
else
some (.inr (-1))
def ZW (a:List Int) (b:Zg×Unit):Option Int:=
Zr (λv=>Ya a b v.1) ((0:Int),())
def c72:Ctr:=D2 (.sl Iq) (.fn 189 (.pair (.ptr (XZ)) (.unit))) Iq ZW
def ZP (a:List Int) (b:Zg×Unit):Option Bool:=
(ZW a b).bind λc=>
some (decide (0<=c))
def c73:Ctr:=D2 (.sl Iq) (.fn 189 (.pair (.ptr (XZ)) (.unit))) (.bool) ZP
def QA (d:Zg) (b:Zz) (a:Zo):Option Bool:=
(Jw (KE b)).bind λg=>
(ZT (Gh a) 0 (Wq (g-1))).bind λf=>
if f then
(atI (KE b) (Gh a)).bind λe=>
if ((KM a).length:Int)=((Ks e).length:Int) then
(ZP (KM a) (d,())).bind λc=>
some !c
else
some false
else
some false
def c74:Ctr:=D3 (XZ) (Qf) (ZcC) (.bool) QA
def Zaq (a:Int):Option Bool:=
some (!decide (a=1))
def c75:Ctr:=D1 Iq (.bool) Zaq
def Yq (b:List Int) (a:Int):Option ((Int×Unit) ⊕ Int):=
if a<(b.length:Int) then
(atI b a).bind λc=>
(Zaq c).bind λd=>
if d then
some (.inr a)
else
some (.inl (Wq (a+1),()))
else
some (.inr (-1))
def Yl (a:List Int) (b:Unit):Option Int:=
Zr (λv=>Yq a v.1) ((0:Int),())
def c76:Ctr:=D2 (.sl Iq) (.fn 125 (.unit)) Iq Yl
def Yh (a:List Int) (c:Unit):Option Bool:=
(Yl a ()).bind λb=>
some (decide (0<=b))
def c77:Ctr:=D2 (.sl Iq) (.fn 125 (.unit)) (.bool) Yh
def Qr (d:Zg) (c:Int) (b:List Int):Option ((Int×(List Int)×Unit) ⊕ ((Int×(List Int)×Unit) ⊕ Bool)):=
if c<((KB d).length:Int) then
(atI (KB d) c).bind λa=>
if KX a=1 then
(XB d (K2 a)).bind λf=>
if f then
if KX a=1 then
(atI b (K2 a)).bind λe=>
some (.inl (Wq (c+1),List.set b (Int.toNat (K2 a)) (Wq (e+1)),()))
else
some (.inl (Wq (c+1),b,()))
else
some (.inr (.inr false))
else
if KX a=2 then
(XB d (K2 a)).bind λf=>
if f then
if KX a=1 then
(atI b (K2 a)).bind λe=>
some (.inl (Wq (c+1),List.set b (Int.toNat (K2 a)) (Wq (e+1)),()))
else
some (.inl (Wq (c+1),b,()))
else
some (.inr (.inr false))
else
some (.inr (.inr false))
else
(Yh b ()).bind λg=>
some (.inr (.inr !g))
def VF (g:Zz) (a:Zg) (c:Int) (b:List Int):Option ((Int×(List Int)×Unit) ⊕ Bool):=
if c<((Kr a).length:Int) then
(atI (Kr a) c).bind λd=>
(QA a g d).bind λh=>
if h then
(atI (KM d) (Wq (((KM d).length:Int)-1))).bind λe=>
(atI b e).bind λf=>
some (.inl (Wq (c+1),List.set b (Int.toNat e) (Wq (f+1)),()))
else
some (.inr false)
else
Zr (λv=>Qr a v.1 v.2.1) ((0:Int),b,())
def ZcX (b:Zz) (a:Zg):Option Bool:=
(Zcc b).bind λd=>
if d then
(Vh a).bind λc=>
if c then
Zp ((0:Int)<=((KI a).length:Int))<|
Zp (((KI a).length:Int)<=((KI a).length:Int))<|
Zp (((KI a).length:Int)<=(4611686018427387904:Int))<|
Zp (((8:Nat):Int)*((KI a).length:Int)<=(281474976710656:Int))<|
Zr (λv=>VF b a v.1 v.2.1) ((0:Int),List.replicate (Int.toNat ((KI a).length:Int)) (0:Int),())
else
some false
else
some false
def c78:Ctr:=D2 (Qf) (XZ) (.bool) ZcX
def Vp (d:Int) (c:Zo) (a:List YL) (b:Int):Option (((List YL)×Int×Unit) ⊕ (((List YL)×Int×Unit) ⊕ List YL)):=
if b<((KM c).length:Int) then
(atI (KM c) b).bind λe=>
Zp ((a.length+[(d,b,e,decide (b=Wq (((KM c).length:Int)-(1:Int))),())].length)*(32:Nat)<=(140737488355328:Nat))<|
some (.inl (a++[(d,b,e,decide (b=Wq (((KM c).length:Int)-1)),())],Wq (b+1),()))
else
some (.inr (.inl (a,Wq (d+1),())))
def Vq (d:Zg) (a:List YL) (b:Int):Option (((List YL)×Int×Unit) ⊕ (((List YL)×Int×Unit) ⊕ List YL)):=
if b<((KB d).length:Int) then
(atI (KB d) b).bind λc=>
Zp ((a.length+[((-1:Int),b,K2 c,decide (KX c=(1:Int)),())].length)*(32:Nat)<=(140737488355328:Nat))<|
some (.inl (a++[((-1:Int),b,K2 c,decide (KX c=1),())],Wq (b+1),()))
else
some (.inr (.inr a))
def Vr (b:Zg) (a:List YL) (c:Int):Option (((List YL)×Int×Unit) ⊕ List YL):=
if c<((Kr b).length:Int) then
(atI (Kr b) c).bind λd=>
Zr (λv=>Vp c d v.1 v.2.1) (a,(0:Int),())
else
Zr (λv=>Vq b v.1 v.2.1) (a,(0:Int),())
def Xg (a:Zg):Option (List YL):=
Zr (λv=>Vr a v.1 v.2.1) (([]:List YL),(0:Int),())
def c79:Ctr:=⟨[.dat (XZ)],[.own (.ol 105 (.flat (Zho)))],λa K=>splitK a λb a=>Qp (Xg b) λr=>K (r,()) ()⟩
def V5 (b:ZH) (a:Int):Option ((Int×Unit) ⊕ Bool):=
if a<((Kw b).length:Int) then
(atI (Kw b) a).bind λc=>
if a=0 then
if c=(-1) then
(atI (K3 b) 0).bind λe=>
if e=0 then
if 0<a then
(ZT c 0 (Wq (a-1))).bind λd=>
if d then
some (.inl (Wq (a+1),()))
else
some (.inr false)
else
some (.inl (Wq (a+1),()))
else
some (.inr false)
else
some (.inr false)
else
if 0<a then
(ZT c 0 (Wq (a-1))).bind λd=>
if d then
some (.inl (Wq (a+1),()))
else
some (.inr false)
else
some (.inl (Wq (a+1),()))
else
some (.inr true)
def Zar (a:ZH):Option Bool:=
Zr (λv=>V5 a v.1) ((0:Int),())
def c80:Ctr:=D1 (ZiL) (.bool) Zar
def Zei (a:ZH) (b:Int):Option Bool:=
(Y6 (Kw a)).bind λc=>
(ZT c 1 8).bind λf=>
if f then
(Y6 (K3 a)).bind λj=>
if j=c then
(Y6 (Gj a)).bind λe=>
if e=c then
(Zar a).bind λd=>
if d then
(Y1 (K3 a) 0 1000).bind λg=>
if g then
(Y1 (Gj a) 0 500).bind λh=>
if h then
(Y6 (K5 a)).bind λk=>
if k=b then
(Y1 (K5 a) 0 (Wq (c-1))).bind λi=>
some i
else
some false
else
some false
else
some false
else
some false
else
some false
else
some false
else
some false
def c81:Ctr:=D2 (ZiL) Iq (.bool) Zei
def Zbe (b:Zi) (c:List Int) (a:Int):Option ((Int×Unit) ⊕ ((Int×(List Int)×Unit) ⊕ Bool)):=
if a<((KN b).length:Int) then
(atI (KN b) a).bind λd=>
(atI c a).bind λe=>
(Zei d e).bind λf=>
if f then
some (.inl (Wq (a+1),()))
else
some (.inr (.inr false))
else
some (.inr (.inr true))
def Jb (f:Zi) (a:List YL) (c:Int) (b:List Int):Option ((Int×(List Int)×Unit) ⊕ Bool):=
if c<(a.length:Int) then
(atI a c).bind λd=>
if (GJ d)=true then
some (.inl (Wq (c+1),b,()))
else
(atI b (YL.net d)).bind λe=>
some (.inl (Wq (c+1),List.set b (Int.toNat (YL.net d)) (Wq (e+1)),()))
else
Zr (λv=>Zbe f b v.1) ((0:Int),())
def ZaT (a:Zi):Option Bool:=
(ZcX (Gm a) (Kq a)).bind λc=>
if c then
if ((KN a).length:Int)=((KI (Kq a)).length:Int) then
Zp ((0:Int)<=((KN a).length:Int))<|
Zp (((KN a).length:Int)<=((KN a).length:Int))<|
Zp (((KN a).length:Int)<=(4611686018427387904:Int))<|
Zp (((8:Nat):Int)*((KN a).length:Int)<=(281474976710656:Int))<|
(Xg (Kq a)).bind λb=>
Zr (λv=>Jb a b v.1 v.2.1) ((0:Int),List.replicate (Int.toNat ((KN a).length:Int)) (0:Int),())
else
some false
else
some false
def c82:Ctr:=D1 (Vu) (.bool) ZaT
def Ve (a:ZL):Option (List (Int×Int×Unit)):=
if Kx a=2 then
some ([((0:Int),(0:Int),()),((0:Int),(1:Int),())])
else
if Kx a=3 then
some ([((1:Int),(0:Int),()),((1:Int),(1:Int),())])
else
if Kx a=1 then
if KZ a=1 then
some ([((0:Int),(0:Int),()),((1:Int),(1:Int),())])
else
if KZ a=2 then
some ([((0:Int),(1:Int),()),((1:Int),(0:Int),())])
else
some ([((0:Int),(0:Int),()),((0:Int),(1:Int),()),((1:Int),(0:Int),()),((1:Int),(1:Int),())])
else
some []
def c83:Ctr:=⟨[.dat (ZkI)],[.own (.ol 121 (.flat (.pair Iq (.pair Iq (.unit)))))],λa K=>splitK a λb a=>Qp (Ve b) λr=>K (r,()) ()⟩
def Xu (b g:Int) (d:ZL) (a:List (Int×Int×Unit)) (c:List Vm) (f:Int):Option (((List Vm)×Int×Unit) ⊕ (((List Vm)×Int×Unit) ⊕ List Vm)):=
if f<(a.length:Int) then
(atI a f).bind λe=>
Zp ((c.length+[(Wq (Wq ((2:Int)*Wq (b+KJ d))+e.1),Wq (Wq ((2:Int)*Wq (b+KO d))+e.2.1),(1:Int),g,())].length)*(32:Nat)<=(140737488355328:Nat))<|
some (.inl (c++[(Wq (Wq ((2:Int)*Wq (b+KJ d))+e.1),Wq (Wq ((2:Int)*Wq (b+KO d))+e.2.1),(1:Int),g,())],Wq (f+1),()))
else
some (.inr (.inl (c,Wq (g+1),())))
def QE (b:Int) (e:Zl) (a:List Vm) (c:Int):Option (((List Vm)×Int×Unit) ⊕ List Vm):=
if c<((KD e).length:Int) then
(atI (KD e) c).bind λd=>
(Ve d).bind λf=>
Zr (λv=>Xu b c d f v.1 v.2.1) (a,(0:Int),())
else
some (.inr a)
def Vf (d:Zi) (b:Zo) (a:Int):Option (List Vm):=
(atI (KE (Gm d)) (Gh b)).bind λc=>
Zr (λv=>QE a c v.1 v.2.1) (([]:List Vm),(0:Int),())
def c84:Ctr:=⟨[.dat (Vu),.dat (ZcC),.dat Iq],[.own (.ol 157 (.flat (Zkg)))],λa K=>splitK a λc a=>splitK a λd a=>splitK a λb a=>Qp (Vf c d b) λr=>K (r,()) ()⟩
def Va (a:List Int):Option (List Int):=
Zp ((([]:List Int).length+a.length)*(8:Nat)<=(140737488355328:Nat))<|
some (([]:List Int)++a)
def c85:Ctr:=⟨[.dat (.sl Iq)],[.own (.ol 2 (.flat Iq))],λa K=>splitK a λb a=>Qp (Va b) λr=>K (r,()) ()⟩
def VE (d:Int) (b:List YL) (a:List Int) (c:Int):Option (((List Int)×Int×Unit) ⊕ List Int):=
if c<(b.length:Int) then
(atI b c).bind λe=>
if YL.net e=d then
if (GJ e)=true then
some (.inl (a,Wq (c+1),()))
else
Zp ((a.length+[c].length)*(8:Nat)<=(140737488355328:Nat))<|
some (.inl (a++[c],Wq (c+1),()))
else
some (.inl (a,Wq (c+1),()))
else
some (.inr a)
def JU (c:Zg) (a:Int):Option (List Int):=
(Xg c).bind λb=>
Zr (λv=>VE a b v.1 v.2.1) (([]:List Int),(0:Int),())
def c86:Ctr:=⟨[.dat (XZ),.dat Iq],[.own (.ol 2 (.flat Iq))],λa K=>splitK a λc a=>splitK a λb a=>Qp (JU c b) λr=>K (r,()) ()⟩
def JR (d:Zg) (c:Zz) (a:YL):Option Int:=
if GE a<0 then
some 0
else
(atI (Kr d) (GE a)).bind λe=>
(atI (KE c) (Gh e)).bind λf=>
(atI (Ks f) (YL.pin a)).bind λb=>
some (Gx b)
def c87:Ctr:=D3 (XZ) (Qf) (Zho) Iq JR
def QF (f:ZH) (a:Int) (b:List Int):Option ((Int×(List Int)×Unit) ⊕ ((Int×(List Int)×Unit) ⊕ List Int)):=
if 0<a then
(atI (Kw f) a).bind λc=>
(atI b c).bind λd=>
(atI b a).bind λe=>
some (.inl (Wq (a-1),List.set b (Int.toNat c) (Wq (d+e)),()))
else
some (.inr (.inr b))
def QG (g:Zi) (f:ZH) (b:List YL) (a:List Int) (d:Int) (c:List Int):Option ((Int×(List Int)×Unit) ⊕ List Int):=
if d<(a.length:Int) then
(atI a d).bind λh=>
(atI (K5 f) d).bind λe=>
(atI c e).bind λj=>
(atI b h).bind λk=>
(JR (Kq g) (Gm g) k).bind λi=>
some (.inl (Wq (d+1),List.set c (Int.toNat e) (Wq (j+i)),()))
else
Zr (λv=>QF f v.1 v.2.1) (Wq ((c.length:Int)-1),c,())
def X0 (a:Zi) (b:Int):Option (List Int):=
(atI (KN a) b).bind λc=>
(Va (Gj c)).bind λe=>
(Xg (Kq a)).bind λd=>
(JU (Kq a) b).bind λf=>
Zr (λv=>QG a c d f v.1 v.2.1) ((0:Int),e,())
def c88:Ctr:=⟨[.dat (Vu),.dat Iq],[.own (.ol 2 (.flat Iq))],λa K=>splitK a λb a=>splitK a λc a=>Qp (X0 b c) λr=>K (r,()) ()⟩
def Qq (d:ZH) (a:List Int) (b:Int) (c:List Int):Option ((Int×(List Int)×Unit) ⊕ List Int):=
if b<(c.length:Int) then
(atI (Kw d) b).bind λf=>
(atI c f).bind λe=>
(atI (K3 d) b).bind λg=>
(atI a b).bind λh=>
(atI c b).bind λi=>
some (.inl (Wq (b+1),List.set c (Int.toNat b) (Wq (e+Wq (g*h))),()))
else
some (.inr c)
def QT (c:Zi) (b:Int):Option (List Int):=
(atI (KN c) b).bind λd=>
(X0 c b).bind λa=>
Zp ((0:Int)<=(a.length:Int))<|
Zp ((a.length:Int)<=(a.length:Int))<|
Zp ((a.length:Int)<=(4611686018427387904:Int))<|
Zp (((8:Nat):Int)*(a.length:Int)<=(281474976710656:Int))<|
Zr (λv=>Qq d a v.1 v.2.1) ((1:Int),List.replicate (Int.toNat (a.length:Int)) (0:Int),())
def c89:Ctr:=⟨[.dat (Vu),.dat Iq],[.own (.ol 2 (.flat Iq))],λa K=>splitK a λc a=>splitK a λb a=>Qp (QT c b) λr=>K (r,()) ()⟩
def Qb (a:List Int) (e:ZH) (b:List Int) (c:Int):Option (((List Int)×Int×Unit) ⊕ List Int):=
if c<((K5 e).length:Int) then
(atI (K5 e) c).bind λf=>
(atI a f).bind λd=>
Zp ((b.length+[d].length)*(8:Nat)<=(140737488355328:Nat))<|
some (.inl (b++[d],Wq (c+1),()))
else
some (.inr b)
def Qz (b:Zi) (a:Int):Option (List Int):=
(QT b a).bind λd=>
(atI (KN b) a).bind λc=>
Zr (λv=>Qb d c v.1 v.2.1) (([]:List Int),(0:Int),())
def c90:Ctr:=⟨[.dat (Vu),.dat Iq],[.own (.ol 2 (.flat Iq))],λa K=>splitK a λc a=>splitK a λb a=>Qp (Qz c b) λr=>K (r,()) ()⟩
def Jd (f:List Int) (g b d a:Int) (c:List Vm):Option ((Int×(List Vm)×Unit) ⊕ ((Int×(List Vm)×Unit) ⊕ ((Int×(List Int)×(List (List Int))×(List Vm)×(List (List Int))×Unit) ⊕ ((Int×(List Int)×(List (List Int))×Unit) ⊕ ((Int×Int×(List Vm)×Unit) ⊕ Yr))))):=
if a<2 then
(atI f g).bind λe=>
Zp ((c.length+[(Wq (Wq ((2:Int)*e)+a),Wq (Wq ((2:Int)*d)+a),(2:Int),b,())].length)*(32:Nat)<=(140737488355328:Nat))<|
some (.inl (Wq (a+1),c++[(Wq (Wq ((2:Int)*e)+a),Wq (Wq ((2:Int)*d)+a),(2:Int),b,())],()))
else
some (.inr (.inl (Wq (b+1),c,())))
def Je (h:List Int) (c:Int) (g:List Int) (k i:List (List Int)) (j:Int) (a d:List Int) (b:Int) (e:List Vm):Option ((Int×(List Vm)×Unit) ⊕ ((Int×(List Int)×(List (List Int))×(List Vm)×(List (List Int))×Unit) ⊕ ((Int×(List Int)×(List (List Int))×Unit) ⊕ ((Int×Int×(List Vm)×Unit) ⊕ Yr)))):=
if b<(d.length:Int) then
(atI d b).bind λf=>
Zr (λv=>Jd h c b f v.1 v.2.1) ((0:Int),e,())
else
some (.inr (.inl (Wq (c+1),g++[j],k++[a],e,List.set i (Int.toNat c) d,())))
def Jf (c:Zi) (a:List YL) (j:List Int) (b:Int) (d:List Int) (e:List (List Int)) (f:List Vm) (h:List (List Int)):Option ((Int×(List Int)×(List (List Int))×(List Vm)×(List (List Int))×Unit) ⊕ ((Int×(List Int)×(List (List Int))×Unit) ⊕ ((Int×Int×(List Vm)×Unit) ⊕ Yr))):=
if b<((KN c).length:Int) then
(X0 c b).bind λl=>
(atI l 0).bind λi=>
Zp ((d.length+[i].length)*(8:Nat)<=(140737488355328:Nat))<|
(Qz c b).bind λg=>
Zp ((e.length+[g].length)*(24:Nat)<=(140737488355328:Nat))<|
(atI h b).bind λk=>
Zr (λv=>Je j b d e h i g k v.1 v.2.1) ((0:Int),f,())
else
some (.inr (.inr (.inr (c,a,f,d,e,([]:List Int),()))))
def Jg (h:Zi) (a:List YL) (g:List Vm) (b:Int) (d:List Int) (e:List (List Int)):Option ((Int×(List Int)×(List (List Int))×Unit) ⊕ ((Int×Int×(List Vm)×Unit) ⊕ Yr)):=
if b<(a.length:Int) then
(atI a b).bind λc=>
if (GJ c)=true then
(atI d (YL.net c)).bind λf=>
some (.inl (Wq (b+1),List.set d (Int.toNat (YL.net c)) b,e,()))
else
(atI e (YL.net c)).bind λf=>
Zp ((f.length+[b].length)*(8:Nat)<=(140737488355328:Nat))<|
some (.inl (Wq (b+1),d,List.set e (Int.toNat (YL.net c)) (f++[b]),()))
else
Zr (λv=>Jf h a d v.1 v.2.1 v.2.2.1 v.2.2.2.1 v.2.2.2.2.1) ((0:Int),([]:List Int),([]:List (List Int)),g,e,())
def Zbg (a:Zi) (b:List YL) (g d:Int) (c:List Vm):Option ((Int×Int×(List Vm)×Unit) ⊕ Yr):=
if d<((Kr (Kq a)).length:Int) then
(atI (Kr (Kq a)) d).bind λe=>
(Vf a e g).bind λf=>
Zp ((c.length+f.length)*(32:Nat)<=(140737488355328:Nat))<|
(Y6 (KM e)).bind λh=>
some (.inl (Wq (g+h),Wq (d+1),c++f,()))
else
Zp ((0:Int)<=((KN a).length:Int))<|
Zp (((KN a).length:Int)<=((KN a).length:Int))<|
Zp (((KN a).length:Int)<=(4611686018427387904:Int))<|
Zp (((8:Nat):Int)*((KN a).length:Int)<=(281474976710656:Int))<|
Zp (((24:Nat):Int)*((KN a).length:Int)<=(281474976710656:Int))<|
Zr (λv=>Jg a b c v.1 v.2.1 v.2.2.1) ((0:Int),List.replicate (Int.toNat ((KN a).length:Int)) (0:Int),List.replicate (Int.toNat ((KN a).length:Int)) (([]:List Int)),())
def ZaU (a:Zi):Option Yr:=
(Xg (Kq a)).bind λb=>
Zr (λv=>Zbg a b v.1 v.2.1 v.2.2.1) ((0:Int),(0:Int),([]:List Vm),())
def c91:Ctr:=D1 (Vu) (.ptr (Zfn)) ZaU
def V6 (a:List Zd):Option Int:=
some (a.length:Int)
def c92:Ctr:=D1 (.sl (Jr)) Iq V6
def Vg (a:Zd):Option Bool:=
(ZT (Gd a) 2 100000).bind λc=>
if c then
(ZT (K9 a) 0 (Wq (Gd a-1))).bind λb=>
if b then
(ZT (Ge a) 0 (Wq (Gd a-1))).bind λd=>
if d then
if K9 a=Ge a then
some false
else
if KS a=1 then
some (!Gy a)
else
some false
else
some false
else
some false
else
some false
def c93:Ctr:=D1 (Jr) (.bool) Vg
def VU (d:(List Zd)->Int->Option Q7) (c:List Zd) (e:Int):Option Q7:=
(atI c e).bind λa=>
if KC a<0 then
some (Gd a,(K9 a,Ge a,()),())
else
(d c (KC a)).bind λb=>
if 1<KS a then
if (Gy a)=true then
some (Wq (KS a*Q7.period b),(Wq ((K7 b).1+Wq (Wq (Int.tdiv (KS a) 2)*Q7.period b)),(K7 b).1,()),())
else
some (Wq (KS a*Q7.period b),((K7 b).1,Wq ((K7 b).1+Wq (Wq (Int.tdiv (KS a) 2)*Q7.period b)),()),())
else
if (Gy a)=true then
some (Q7.period b,((K7 b).2.1,(K7 b).1,()),())
else
some b
def VI:Nat->(List Zd)->Int->Option Q7
| 0=>λ_ _=>none
| n+1=>VU (VI n)
def ZaD (a:List Zd) (b:Int):Option Q7:=Zsl (λn=>VI n a b)
def Zb8 (c:(List Zd)->Int->Option Q7):Ctr:=⟨[.dat (.sl (Jr)),.dat Iq],[.dat (ZtE)],λa K=>splitK a λb a=>splitK a λd a=>Qp (c b d) λr=>K (r,()) ()⟩
def c94:Ctr:=Zb8 ZaD
def ZdE (c:List Zd) (b:Int):Option Bool:=
(atI c b).bind λa=>
if KH a<0 then
some false
else
if Gi a<0 then
some false
else
if Gq a<Gi a then
some false
else
if 100000<Gq a then
some false
else
(ZT (Gg a) 0 100000).bind λg=>
if g then
if KC a=(-1) then
(Vg a).bind λf=>
some f
else
(ZT (KC a) 0 (Wq (b-1))).bind λh=>
if h then
(ZT (KS a) 1 8).bind λe=>
if e then
if Gd a=0 then
if K9 a=0 then
if Ge a=0 then
(ZaD c b).bind λd=>
some (decide (Q7.period d<=100000))
else
some false
else
some false
else
some false
else
some false
else
some false
else
some false
def c95:Ctr:=D2 (.sl (Jr)) Iq (.bool) ZdE
def Zaz (b:List Zd) (a:List (List UInt8)) (c:Int):Option (((List (List UInt8))×Int×Unit) ⊕ Bool):=
if c<(b.length:Int) then
(atI b c).bind λd=>
(ZdE b c).bind λf=>
if f then
Zp ((a.length+[KQ d].length)*(16:Nat)<=(140737488355328:Nat))<|
some (.inl (a++[KQ d],Wq (c+1),()))
else
some (.inr false)
else
(XE a).bind λe=>
some (.inr e)
def ZcV (a:List Zd):Option Bool:=
if 6<(a.length:Int) then
some false
else
Zr (λv=>Zaz a v.1 v.2.1) (([]:List (List UInt8)),(0:Int),())
def c96:Ctr:=D1 (.sl (Jr)) (.bool) ZcV
def YB (a:List YL):Option Int:=
some (a.length:Int)
def c97:Ctr:=D1 (.sl (Zho)) Iq YB
def Qn (d:Yr) (a:Int):Option Bool:=
(YB (KG d)).bind λc=>
(ZT a 0 (Wq (c-1))).bind λb=>
some b
def c98:Ctr:=D2 (.ptr (Zfn)) Iq (.bool) Qn
def X6 (b:Zd) (a:Yr):Option Bool:=
(Qn a (KH b)).bind λc=>
some !c
def c99:Ctr:=D2 (Jr) (.ptr (.ptr (Zfn))) (.bool) X6
def Z4 (b:List Zd) (c:Yr×Unit) (a:Int):Option ((Int×Unit) ⊕ Int):=
if a<(b.length:Int) then
(atI b a).bind λd=>
(X6 d c.1).bind λe=>
if e then
some (.inr a)
else
some (.inl (Wq (a+1),()))
else
some (.inr (-1))
def ZK (a:List Zd) (b:Yr×Unit):Option Int:=
Zr (λv=>Z4 a b v.1) ((0:Int),())
def Zt8:Ctr:=D2 (.sl (Jr)) (.fn 103 (.pair (.ptr (.ptr (Zfn))) (.unit))) Iq ZK
def ZI (a:List Zd) (b:Yr×Unit):Option Bool:=
(ZK a b).bind λc=>
some (decide (0<=c))
def Zt9:Ctr:=D2 (.sl (Jr)) (.fn 103 (.pair (.ptr (.ptr (Zfn))) (.unit))) (.bool) ZI
def ZaC (a:Int):Option Bool:=
(ZT a (-1000000000) 1000000000).bind λb=>
some b
def ZtK:Ctr:=D1 Iq (.bool) ZaC
def ZaA (a:ZC):Option Bool:=
(ZaC (KA a)).bind λc=>
if c then
(ZaC (KF a)).bind λb=>
if b then
some (decide (KA a<=KF a))
else
some false
else
some false
def ZsI:Ctr:=D1 (Zh7) (.bool) ZaA
def Zej (a:Int):Option Bool:=
(ZT a 0 1000000).bind λb=>
some b
def Zua:Ctr:=D1 Iq (.bool) Zej
def JW (a:ZC):Option Bool:=
(ZaA a).bind λc=>
if c then
(Zej (KA a)).bind λb=>
if b then
(Zej (KF a)).bind λd=>
some d
else
some false
else
some false
def c105:Ctr:=D1 (Zh7) (.bool) JW
def Qd (h:Yr) (f:List Zb) (c:Bool) (j b:Int):Option ((Int×Unit) ⊕ Bool):=
if b<(f.length:Int) then
(atI f b).bind λa=>
(Qn h (Kv a)).bind λl=>
if l then
(atI (KG h) (Kv a)).bind λi=>
if 0<=GE i then
some (.inr false)
else
if (GJ i == c)=true then
if 0<b then
(atI f (Wq (b-1))).bind λk=>
if Kv a<=Kv k then
some (.inr false)
else
(ZT (KL a) 0 (Wq (j-1))).bind λd=>
if d then
(ZaA (Kz a)).bind λg=>
if g then
if KA (Kz a)<(-100000) then
some (.inr false)
else
if 100000<KF (Kz a) then
some (.inr false)
else
if c then
(JW (Gc a)).bind λe=>
if e then
if c then
some (.inl (Wq (b+1),()))
else
if (decide (KA (Gc a)=0)&&decide (KF (Gc a)=0))=true then
some (.inl (Wq (b+1),()))
else
some (.inr false)
else
some (.inr false)
else
if c then
some (.inl (Wq (b+1),()))
else
if (decide (KA (Gc a)=0)&&decide (KF (Gc a)=0))=true then
some (.inl (Wq (b+1),()))
else
some (.inr false)
else
some (.inr false)
else
some (.inr false)
else
(ZT (KL a) 0 (Wq (j-1))).bind λd=>
if d then
(ZaA (Kz a)).bind λg=>
if g then
if KA (Kz a)<(-100000) then
some (.inr false)
else
if 100000<KF (Kz a) then
some (.inr false)
else
if c then
(JW (Gc a)).bind λe=>
if e then
if c then
some (.inl (Wq (b+1),()))
else
if (decide (KA (Gc a)=0)&&decide (KF (Gc a)=0))=true then
some (.inl (Wq (b+1),()))
else
some (.inr false)
else
some (.inr false)
else
if c then
some (.inl (Wq (b+1),()))
else
if (decide (KA (Gc a)=0)&&decide (KF (Gc a)=0))=true then
some (.inl (Wq (b+1),()))
else
some (.inr false)
else
some (.inr false)
else
some (.inr false)
else
some (.inr false)
else
some (.inr false)
else
some (.inr true)
def Xw (b:Yr) (d:List Zb) (a:Bool) (c:Int):Option Bool:=
Zr (λv=>Qd b d a c v.1) ((0:Int),())
def Zub:Ctr:=D4 (.ptr (Zfn)) (.sl (Qy)) (.bool) Iq (.bool) Xw
def ZdF (b a:Int):Option Bool:=
if b=1 then
some (decide (a=0))
else
if b=2 then
(ZT a 1 10).bind λc=>
some c
else
if b=3 then
if b=3 then
(ZT a 0 1000000000).bind λc=>
some c
else
some false
else
if b=4 then
(ZT a 0 1000000000).bind λc=>
some c
else
some false
def c107:Ctr:=D2 Iq Iq (.bool) ZdF
def Qs (h:Yr) (a:Zk) (b:Int):Option ((Int×Unit) ⊕ Bool):=
if b<(([Gp a,Gn a,Gz a].length):Int) then
(atI ([Gp a,Gn a,Gz a]) b).bind λc=>
if 4<(c.length:Int) then
some (.inr false)
else
(YB (KG h)).bind λg=>
(Y1 c 0 (Wq (g-1))).bind λf=>
if f then
some (.inl (Wq (b+1),()))
else
some (.inr false)
else
(ZdF (Gk a) (Gu a)).bind λi=>
if i then
(Qm (Gp a)).bind λe=>
if e then
(Qm (Gz a)).bind λd=>
some (.inr d)
else
some (.inr false)
else
some (.inr false)
def XI (b:Yr) (a:Zk):Option Bool:=
Zr (λv=>Qs b a v.1) ((0:Int),())
def Zuc:Ctr:=D2 (.ptr (Zfn)) (Qo) (.bool) XI
def X7 (b:Zk) (a:Yr):Option Bool:=
(XI a b).bind λc=>
some !c
def c109:Ctr:=D2 (Qo) (.ptr (.ptr (Zfn))) (.bool) X7
def ZN (b:List Zk) (c:Yr×Unit) (a:Int):Option ((Int×Unit) ⊕ Int):=
if a<(b.length:Int) then
(atI b a).bind λd=>
(X7 d c.1).bind λe=>
if e then
some (.inr a)
else
some (.inl (Wq (a+1),()))
else
some (.inr (-1))
def ZG (a:List Zk) (b:Yr×Unit):Option Int:=
Zr (λv=>ZN a b v.1) ((0:Int),())
def Zud:Ctr:=D2 (.sl (Qo)) (.fn 107 (.pair (.ptr (.ptr (Zfn))) (.unit))) Iq ZG
def ZE (a:List Zk) (b:Yr×Unit):Option Bool:=
(ZG a b).bind λc=>
some (decide (0<=c))
def Zue:Ctr:=D2 (.sl (Qo)) (.fn 107 (.pair (.ptr (.ptr (Zfn))) (.unit))) (.bool) ZE
def Jv (a b:Int):Option Bool:=
if 100<=a then
if a<=b then
some (decide (b<=5000))
else
some false
else
some false
def Zuf:Ctr:=D2 Iq Iq (.bool) Jv
def ZcW (a:ZB):Option Bool:=
(ZbY (KW a)).bind λc=>
if c then
(Jv (GB a) (GC a)).bind λb=>
if b then
(Jv (GH a) (GI a)).bind λd=>
some d
else
some false
else
some false
def Zug:Ctr:=D1 (Zaj) (.bool) ZcW
def VG (a:List ZB):Option Int:=
some (a.length:Int)
def Zuh:Ctr:=D1 (.sl (Zaj)) Iq VG
def Xh (b:List ZB) (a:List (List UInt8)) (c:Int):Option (((List (List UInt8))×Int×Unit) ⊕ Bool):=
if c<(b.length:Int) then
(atI b c).bind λd=>
(ZcW d).bind λg=>
if g then
Zp ((a.length+[KW d].length)*(16:Nat)<=(140737488355328:Nat))<|
some (.inl (a++[KW d],Wq (c+1),()))
else
some (.inr false)
else
(VG b).bind λf=>
(ZT f 1 4).bind λh=>
if h then
(XE a).bind λe=>
some (.inr e)
else
some (.inr false)
def JV (a:List ZB):Option Bool:=
Zr (λv=>Xh a v.1 v.2.1) (([]:List (List UInt8)),(0:Int),())
def Zui:Ctr:=D1 (.sl (Zaj)) (.bool) JV
def JZ (b:Yr) (a:Zh):Option Bool:=
(V6 (Kt a)).bind λc=>
(ZcV (Kt a)).bind λf=>
if f then
(ZI (Kt a) (b,())).bind λi=>
if i then
some false
else
(Xw b (K1 a) true c).bind λe=>
if e then
(Xw b (K8 a) false c).bind λd=>
if d then
if 6<((KP a).length:Int) then
some false
else
(ZE (KP a) (b,())).bind λg=>
if g then
some false
else
if ((Gr a).length:Int)=0 then
some true
else
(JV (Gr a)).bind λh=>
some h
else
some false
else
some false
else
some false
def c116:Ctr:=D2 (.ptr (Zfn)) (ZbO) (.bool) JZ
def Zcs (a:Zi) (c:Zh):Option Bool:=
(ZaT a).bind λe=>
if e then
(ZaU a).bind λd=>
(JZ d c).bind λb=>
some b
else
some false
def c117:Ctr:=D2 (Vu) (ZbO) (.bool) Zcs
def YF (c:Zd) (a:Q7) (b:List Zm) (d:Int):Option (((List Zm)×Int×Unit) ⊕ List Zm):=
if d<2 then
(atI ([(K7 a).1,(K7 a).2.1]) d).bind λe=>
Zp ((b.length+[(Wq (Wq ((2:Int)*KH c)+d),(Wq (e+Gi c),Wq (e+Gq c),()),((0:Int),(0:Int),()),())].length)*(40:Nat)<=(140737488355328:Nat))<|
some (.inl (b++[(Wq (Wq ((2:Int)*KH c)+d),(Wq (e+Gi c),Wq (e+Gq c),()),((0:Int),(0:Int),()),())],Wq (d+1),()))
else
some (.inr b)
def JY (a:List Zd) (b:Int):Option (List Zm):=
(atI a b).bind λc=>
(ZaD a b).bind λd=>
Zr (λv=>YF c d v.1 v.2.1) (([]:List Zm),(0:Int),())
def Zuj:Ctr:=⟨[.dat (.sl (Jr)),.dat Iq],[.own (.ol 116 (.flat (Xt)))],λa K=>splitK a λb a=>splitK a λc a=>Qp (JY b c) λr=>K (r,()) ()⟩
def ZcG (b:Zm) (a:Int):Option Bool:=
some (decide (Ku b=a))
def c119:Ctr:=D2 (Xt) (.ptr Iq) (.bool) ZcG
def Z7 (b:List Zm) (c:Int×Unit) (a:Int):Option ((Int×Unit) ⊕ Int):=
if a<(b.length:Int) then
(atI b a).bind λd=>
(ZcG d c.1).bind λe=>
if e then
some (.inr a)
else
some (.inl (Wq (a+1),()))
else
some (.inr (-1))
def ZQ (a:List Zm) (b:Int×Unit):Option Int:=
Zr (λv=>Z7 a b v.1) ((0:Int),())
def Zuk:Ctr:=D2 (.sl (Xt)) (.fn 111 (.pair (.ptr Iq) (.unit))) Iq ZQ
def VH (a:List Zm) (b:Int):Option (Zm×Bool):=
(ZQ a (b,())).bind λc=>
if 0<=c then
(atI a c).bind λd=>
some (d,true)
else
some ((0,(0,0,()),(0,0,()),()),false)
def Zul:Ctr:=⟨[.dat (.sl (Xt)),.dat Iq],[.dat (Xt),.dat (.bool)],λa K=>splitK a λb a=>splitK a λc a=>Qp (VH b c) λr=>K (r.1,r.2,()) ()⟩
def X4 (e:Zh) (d:Int) (c:List Zm):Option ((Int×(List Zm)×Unit) ⊕ ((Int×(List Zm)×Unit) ⊕ List Zm)):=
if d<((K1 e).length:Int) then
(atI (K1 e) d).bind λa=>
(ZaD (Kt e) (KL a)).bind λf=>
(atI ([(K7 f).1,(K7 f).2.1]) (0:Int)).bind λb=>
(atI ([(Wq ((2:Int)*Kv a),(Wq (KA (Kz a)+b),Wq (KF (Kz a)+b),()),a.2.2.2),(Wq (Wq ((2:Int)*Kv a)+1),(Wq (KA (Kz a)+b),Wq (KF (Kz a)+b),()),a.2.2.2)]) (0:Int)).bind λg=>
(VH c g.1).bind λh=>
if h.2 then
some (.inl (Wq (d+1),c,()))
else
Zp ((c.length+[(Wq ((2:Int)*Kv a),(Wq (KA (Kz a)+b),Wq (KF (Kz a)+b),()),a.2.2.2),(Wq (Wq ((2:Int)*Kv a)+(1:Int)),(Wq (KA (Kz a)+b),Wq (KF (Kz a)+b),()),a.2.2.2)].length)*(40:Nat)<=(140737488355328:Nat))<|
some (.inl (Wq (d+1),c++[(Wq ((2:Int)*Kv a),(Wq (KA (Kz a)+b),Wq (KF (Kz a)+b),()),a.2.2.2),(Wq (Wq ((2:Int)*Kv a)+1),(Wq (KA (Kz a)+b),Wq (KF (Kz a)+b),()),a.2.2.2)],()))
else
(ZpC (λx=>Ku x) c).bind λi=>
some (.inr (.inr i))
def X5 (c:Zh) (b:Int) (a:List Zm):Option ((Int×(List Zm)×Unit) ⊕ List Zm):=
if b<((Kt c).length:Int) then
(JY (Kt c) b).bind λd=>
(atI d 0).bind λe=>
(VH a (Ku e)).bind λf=>
if f.2 then
some (.inl (Wq (b+1),a,()))
else
Zp ((a.length+d.length)*(40:Nat)<=(140737488355328:Nat))<|
some (.inl (Wq (b+1),a++d,()))
else
Zr (λv=>X4 c v.1 v.2.1) ((0:Int),a,())
def Zcf (a:Zh):Option (List Zm):=
Zr (λv=>X5 a v.1 v.2.1) ((0:Int),([]:List Zm),())
def Zum:Ctr:=⟨[.dat (ZbO)],[.own (.ol 116 (.flat (Xt)))],λa K=>splitK a λb a=>Qp (Zcf b) λr=>K (r,()) ()⟩
def ZbT (c:Zi) (a:Zh):Option ((List Zm)×Int):=
(Zcs c a).bind λd=>
if d then
(Zcf a).bind λb=>
some (b,0)
else
some ([],1)
def Zun:Ctr:=⟨[.dat (Vu),.dat (ZbO)],[.own (.ol 116 (.flat (Xt))),.dat Iq],λa K=>splitK a λc a=>splitK a λb a=>Qp (ZbT c b) λr=>K (r.1,r.2,()) ()⟩
def Jc (d:Zh) (f:List Yz) (e:Int):Option (((List Yz)×Int×Unit) ⊕ List Yz):=
if e<((K8 d).length:Int) then
(atI (K8 d) e).bind λa=>
(ZaD (Kt d) (KL a)).bind λb=>
(atI (Kt d) (KL a)).bind λc=>
Zp ((f.length+[(Wq ((2:Int)*Kv a),(Wq (Wq ((K7 b).1-KA (Kz a))+Gg c),Wq (Wq (Wq ((K7 b).1+Q7.period b)-KF (Kz a))-Gg c),()),()),(Wq (Wq ((2:Int)*Kv a)+(1:Int)),(Wq (Wq ((K7 b).1-KA (Kz a))+Gg c),Wq (Wq (Wq ((K7 b).1+Q7.period b)-KF (Kz a))-Gg c),()),())].length)*(24:Nat)<=(140737488355328:Nat))<|
some (.inl (f++[(Wq ((2:Int)*Kv a),(Wq (Wq ((K7 b).1-KA (Kz a))+Gg c),Wq (Wq (Wq ((K7 b).1+Q7.period b)-KF (Kz a))-Gg c),()),()),(Wq (Wq ((2:Int)*Kv a)+1),(Wq (Wq ((K7 b).1-KA (Kz a))+Gg c),Wq (Wq (Wq ((K7 b).1+Q7.period b)-KF (Kz a))-Gg c),()),())],Wq (e+1),()))
else
some (.inr f)
def ZdC (a:Zh):Option (List Yz):=
Zr (λv=>Jc a v.1 v.2.1) (([]:List Yz),(0:Int),())
def c124:Ctr:=⟨[.dat (ZbO)],[.own (.ol 129 (.flat (Zgk)))],λa K=>splitK a λb a=>Qp (ZdC b) λr=>K (r,()) ()⟩
def ZbU (c:Zi) (a:Zh):Option ((List Yz)×Int):=
(Zcs c a).bind λd=>
if d then
(ZdC a).bind λb=>
some (b,0)
else
some ([],1)
def Zuo:Ctr:=⟨[.dat (Vu),.dat (ZbO)],[.own (.ol 129 (.flat (Zgk))),.dat Iq],λa K=>splitK a λc a=>splitK a λb a=>Qp (ZbU c b) λr=>K (r.1,r.2,()) ()⟩
def XT (d:Zl) (c a:Int) (b:YO) (e:Int):Option ((Int×Unit) ⊕ ((Int×Int×Unit) ⊕ (Int×Bool))):=
if e<a then
(atI (Ks d) e).bind λf=>
if KV f=KV b then
some (.inr (.inr (0,false)))
else
some (.inl (Wq (e+1),()))
else
(Vy (KV b)).bind λh=>
if h then
(ZX (Gx b) 0 500).bind λg=>
if g then
if a=Wq (((Ks d).length:Int)-1) then
if GA b=2 then
if Gx b=0 then
if (Ky b)=true then
some (.inr (.inr (0,false)))
else
if a<Wq (((Ks d).length:Int)-1) then
if GA b=1 then
if (Ky b)=true then
some (.inr (.inl (Wq (c+1),Wq (a+1),())))
else
some (.inr (.inl (c,Wq (a+1),())))
else
some (.inr (.inr (0,false)))
else
if (Ky b)=true then
some (.inr (.inl (Wq (c+1),Wq (a+1),())))
else
some (.inr (.inl (c,Wq (a+1),())))
else
some (.inr (.inr (0,false)))
else
some (.inr (.inr (0,false)))
else
if a<Wq (((Ks d).length:Int)-1) then
if GA b=1 then
if (Ky b)=true then
some (.inr (.inl (Wq (c+1),Wq (a+1),())))
else
some (.inr (.inl (c,Wq (a+1),())))
else
some (.inr (.inr (0,false)))
else
if (Ky b)=true then
some (.inr (.inl (Wq (c+1),Wq (a+1),())))
else
some (.inr (.inl (c,Wq (a+1),())))
else
some (.inr (.inr (0,false)))
else
some (.inr (.inr (0,false)))
def Q0 (a:Zl) (c b:Int):Option ((Int×Int×Unit) ⊕ (Int×Bool)):=
if b<((Ks a).length:Int) then
(atI (Ks a) b).bind λd=>
Zr (λv=>XT a c b d v.1) ((0:Int),())
else
some (.inr (c,true))
def ZdO (a:Zl):Option (Int×Bool):=
if ((Ks a).length:Int)<2 then
some (0,false)
else
if 5<((Ks a).length:Int) then
some (0,false)
else
Zr (λv=>Q0 a v.1 v.2.1) ((0:Int),(0:Int),())
def Zup:Ctr:=⟨[.dat (Zdq)],[.dat Iq,.dat (.bool)],λa K=>splitK a λb a=>Qp (ZdO b) λr=>K (r.1,r.2,()) ()⟩
def Zbv (a:List Int) (b:Int):Option ((Int×Unit) ⊕ Bool):=
if b<(a.length:Int) then
(atI a b).bind λc=>
(ZX c 0 100000).bind λe=>
if e then
if 0<b then
(atI a (Wq (b-1))).bind λd=>
if c<=d then
some (.inr false)
else
some (.inl (Wq (b+1),()))
else
some (.inl (Wq (b+1),()))
else
some (.inr false)
else
if 1<=(a.length:Int) then
some (.inr (decide ((a.length:Int)<=4)))
else
some (.inr false)
def Zcy (a:List Int):Option Bool:=
Zr (λv=>Zbv a v.1) ((0:Int),())
def c127:Ctr:=D1 (.sl Iq) (.bool) Zcy
def Zbt (b:ZY) (a:Int):Option ((Int×Unit) ⊕ Bool):=
if a<((KT b).length:Int) then
(atI (KT b) a).bind λc=>
(ZX c (-1000000) 1000000).bind λd=>
if d then
some (.inl (Wq (a+1),()))
else
some (.inr false)
else
some (.inr true)
def ZdM (a:ZY):Option Bool:=
(Zcy (Gv a)).bind λc=>
if c then
(Zcy (Gl a)).bind λb=>
if b then
if ((KT a).length:Int)=Wq (((Gv a).length:Int)*((Gl a).length:Int)) then
Zr (λv=>Zbt a v.1) ((0:Int),())
else
some false
else
some false
else
some false
def Zuq:Ctr:=D1 (JI) (.bool) ZdM
def QC (d:ZY) (a e b:Int):Option ((Int×Int×Int×Unit) ⊕ (ZC×Int)):=
if a<((KT d).length:Int) then
(atI (KT d) a).bind λc=>
some (.inl (Wq (a+1),Min.min e c,Max.max b c,()))
else
some (.inr ((e,b,()),0))
def Zat (a:ZY):Option (ZC×Int):=
(ZdM a).bind λc=>
if c then
(atI (KT a) 0).bind λb=>
Zr (λv=>QC a v.1 v.2.1 v.2.2.1) ((1:Int),b,b,())
else
some ((0,0,()),1)
def Zur:Ctr:=⟨[.dat (JI)],[.dat (Zh7),.dat Iq],λa K=>splitK a λb a=>Qp (Zat b) λr=>K (r.1,r.2,()) ()⟩
def Zae (b:List ZY) (a:Bool) (c:Int):Option ((Int×Unit) ⊕ Bool):=
if c<2 then
(atI b c).bind λe=>
(Zat e).bind λd=>
if d.2=0 then
if a then
if d.1.1<0 then
some (.inr false)
else
some (.inl (Wq (c+1),()))
else
some (.inl (Wq (c+1),()))
else
some (.inr false)
else
some (.inr true)
def Yp (b:List ZY) (a:Bool):Option Bool:=
if (b.length:Int)=2 then
Zr (λv=>Zae b a v.1) ((0:Int),())
else
some false
def c130:Ctr:=D2 (.sl (JI)) (.bool) (.bool) Yp
def Zex (b:Zl) (a:ZL):Option Bool:=
(ZX (KJ a) 0 (Wq (Wq (((Ks b).length:Int)-1)-1))).bind λh=>
if h then
(ZX (KO a) 0 (Wq (((Ks b).length:Int)-1))).bind λg=>
if g then
(atI (Ks b) (KJ a)).bind λe=>
if Kx a=1 then
if (Ky e)=true then
some false
else
if KO a=Wq (((Ks b).length:Int)-1) then
(ZX (KZ a) 1 3).bind λi=>
if i then
(Yp (KU a) true).bind λc=>
if c then
(Yp (K4 a) true).bind λf=>
some f
else
some false
else
some false
else
some false
else
if Kx a=2 then
if Kx a=2 then
if (Ky e)=true then
if KO a=Wq (((Ks b).length:Int)-1) then
if KZ a=0 then
(Yp (KU a) true).bind λc=>
if c then
(Yp (K4 a) true).bind λf=>
some f
else
some false
else
some false
else
some false
else
some false
else
if Kx a=4 then
if Kx a=4 then
if (Ky e)=true then
if KO a<Wq (((Ks b).length:Int)-1) then
(atI (Ks b) (KO a)).bind λd=>
if (Ky d)=true then
some false
else
if KZ a=0 then
(Yp (KU a) false).bind λc=>
if c then
some (decide (((K4 a).length:Int)=0))
else
some false
else
some false
else
some false
else
some false
else
some false
else
if Kx a=5 then
if (Ky e)=true then
if KO a<Wq (((Ks b).length:Int)-1) then
(atI (Ks b) (KO a)).bind λd=>
if (Ky d)=true then
some false
else
if KZ a=0 then
(Yp (KU a) false).bind λc=>
if c then
some (decide (((K4 a).length:Int)=0))
else
some false
else
some false
else
some false
else
some false
else
some false
else
if Kx a=3 then
if (Ky e)=true then
if KO a=Wq (((Ks b).length:Int)-1) then
if KZ a=0 then
(Yp (KU a) true).bind λc=>
if c then
(Yp (K4 a) true).bind λf=>
some f
else
some false
else
some false
else
some false
else
some false
else
if Kx a=4 then
if Kx a=4 then
if (Ky e)=true then
if KO a<Wq (((Ks b).length:Int)-1) then
(atI (Ks b) (KO a)).bind λd=>
if (Ky d)=true then
some false
else
if KZ a=0 then
(Yp (KU a) false).bind λc=>
if c then
some (decide (((K4 a).length:Int)=0))
else
some false
else
some false
else
some false
else
some false
else
some false
else
if Kx a=5 then
if (Ky e)=true then
if KO a<Wq (((Ks b).length:Int)-1) then
(atI (Ks b) (KO a)).bind λd=>
if (Ky d)=true then
some false
else
if KZ a=0 then
(Yp (KU a) false).bind λc=>
if c then
some (decide (((K4 a).length:Int)=0))
else
some false
else
some false
else
some false
else
some false
else
some false
else
some false
else
some false
def c131:Ctr:=D2 (Zdq) (ZkI) (.bool) Zex
def VN (d:Zl) (b:Int) (a:List Int):Option ((Int×(List Int)×Unit) ⊕ List Int):=
if b<((KD d).length:Int) then
(atI (KD d) b).bind λc=>
(atI a (Kx c)).bind λe=>
some (.inl (Wq (b+1),List.set a (Int.toNat (Kx c)) (Wq (e+1)),()))
else
some (.inr a)
def Zc1 (a:Zl):Option (List Int):=
Zr (λv=>VN a v.1 v.2.1) ((0:Int),List.replicate (Int.toNat (6:Int)) (0:Int),())
def Zus:Ctr:=⟨[.dat (Zdq)],[.own (.ol 2 (.flat Iq))],λa K=>splitK a λb a=>Qp (Zc1 b) λr=>K (r,()) ()⟩
def J3 (e:Zl) (d:Int) (c:ZL) (a:Int):Option ((Int×Unit) ⊕ ((Int×Unit) ⊕ Bool)):=
if a<d then
(atI (KD e) a).bind λb=>
if Kx b=Kx c then
if KJ b=KJ c then
if KO b=KO c then
some (.inr (.inr false))
else
some (.inl (Wq (a+1),()))
else
some (.inl (Wq (a+1),()))
else
some (.inl (Wq (a+1),()))
else
some (.inr (.inl (Wq (d+1),())))
def J4 (b:Zl) (a:Int×Bool) (c:Int):Option ((Int×Unit) ⊕ ((Int×Unit) ⊕ Bool)):=
if c<((KK b).length:Int) then
(atI (KK b) c).bind λd=>
(ZX d 0 1).bind λe=>
if e then
some (.inl (Wq (c+1),()))
else
some (.inr (.inr false))
else
if a.1=0 then
Zp ((0:Int)<=IntKind.wrap IntKind.u64 (Wq (((Ks b).length:Int)-(1:Int))))<|
some (.inr (.inr (decide (((KK b).length:Int)=Wq (1*2 ^ Min.min (Int.toNat (IntKind.wrap IntKind.u64 (Wq (((Ks b).length:Int)-1)))) (IntKind.bits IntKind.i64))))))
else
some (.inr (.inr false))
def Zb2 (b:Zl) (a:Int×Bool) (g:Int):Option ((Int×Unit) ⊕ Bool):=
if g<((KD b).length:Int) then
(atI (KD b) g).bind λd=>
(Zex b d).bind λh=>
if h then
Zr (λv=>J3 b g d v.1) ((0:Int),())
else
some (.inr false)
else
(Zc1 b).bind λc=>
if Gb b=1 then
Zr (λv=>J4 b a v.1) ((0:Int),())
else
if Gb b=2 then
if a.1=1 then
(atI c 1).bind λd=>
if d=0 then
(atI c 2).bind λf=>
(atI c 3).bind λe=>
if (decide (0<f) == decide (0<e))=true then
some (.inr false)
else
some (.inr (decide (((KK b).length:Int)=0)))
else
some (.inr false)
else
some (.inr false)
else
if Gb b=3 then
if a.1=1 then
(atI c 1).bind λd=>
if 0<d then
(atI c 2).bind λf=>
if 0<f then
(atI c 3).bind λe=>
if e=0 then
some (.inr (decide (((KK b).length:Int)=0)))
else
some (.inr false)
else
some (.inr false)
else
some (.inr false)
else
some (.inr false)
else
some (.inr false)
def Zev (a:Zl):Option Bool:=
(ZdO a).bind λb=>
if b.2 then
(Vy (Gf a)).bind λd=>
if d then
if 8<((KD a).length:Int) then
some false
else
(ZX (GF a) 0 100000).bind λe=>
if e then
(ZX (GG a) 0 100000).bind λc=>
if c then
Zr (λv=>Zb2 a b v.1) ((0:Int),())
else
some false
else
some false
else
some false
else
some false
def Zut:Ctr:=D1 (Zdq) (.bool) Zev
def Zac (c:Zz) (b:Int) (e:Zl) (a:Int):Option ((Int×Unit) ⊕ ((Int×Unit) ⊕ Bool)):=
if a<b then
(atI (KE c) a).bind λd=>
if Gf d=Gf e then
some (.inr (.inr false))
else
some (.inl (Wq (a+1),()))
else
some (.inr (.inl (Wq (b+1),())))
def Zad (a:Zz) (b:Int):Option ((Int×Unit) ⊕ Bool):=
if b<((KE a).length:Int) then
(atI (KE a) b).bind λc=>
(Zev c).bind λd=>
if d then
Zr (λv=>Zac a b c v.1) ((0:Int),())
else
some (.inr false)
else
some (.inr (decide (((KE a).length:Int)<=8)))
def Zci (a:Zz):Option Bool:=
Zr (λv=>Zad a v.1) ((0:Int),())
def Zuu:Ctr:=D1 (Qf) (.bool) Zci
def ZaO (d:Zg) (f:Int) (b:Zo) (a:Int):Option ((Int×Unit) ⊕ ((Int×Unit) ⊕ Bool)):=
if a<((KM b).length:Int) then
(atI (KM b) a).bind λc=>
(ZX c 0 (Wq (((KI d).length:Int)-1))).bind λe=>
if e then
some (.inl (Wq (a+1),()))
else
some (.inr (.inr false))
else
some (.inr (.inl (Wq (f+1),())))
def ZaP (b:Zg) (a:Int):Option ((Int×Unit) ⊕ ((Int×Unit) ⊕ Bool)):=
if a<((KB b).length:Int) then
(atI (KB b) a).bind λc=>
(ZX (KX c) 1 2).bind λe=>
if e then
(ZX (K2 c) 0 (Wq (((KI b).length:Int)-1))).bind λd=>
if d then
some (.inl (Wq (a+1),()))
else
some (.inr (.inr false))
else
some (.inr (.inr false))
else
some (.inr (.inr true))
def ZaQ (d:Zz) (b:Zg) (c:Int):Option ((Int×Unit) ⊕ Bool):=
if c<((Kr b).length:Int) then
(atI (Kr b) c).bind λa=>
(ZX (Gh a) 0 (Wq (((KE d).length:Int)-1))).bind λf=>
if f then
(atI (KE d) (Gh a)).bind λe=>
if ((KM a).length:Int)=((Ks e).length:Int) then
Zr (λv=>ZaO b c a v.1) ((0:Int),())
else
some (.inr false)
else
some (.inr false)
else
Zr (λv=>ZaP b v.1) ((0:Int),())
def Zc2 (a:Zz) (b:Zg):Option Bool:=
Zr (λv=>ZaQ a b v.1) ((0:Int),())
def Zuv:Ctr:=D2 (Qf) (XZ) (.bool) Zc2
def ZaM (a:List (List UInt8)) (c:Int) (d:List UInt8) (b:Int):Option ((Int×Unit) ⊕ ((Int×Unit) ⊕ Bool)):=
if b<c then
(atI a b).bind λe=>
if e=d then
some (.inr (.inr false))
else
some (.inl (Wq (b+1),()))
else
some (.inr (.inl (Wq (c+1),())))
def ZaN (a:List (List UInt8)) (b:Int):Option ((Int×Unit) ⊕ Bool):=
if b<(a.length:Int) then
(atI a b).bind λc=>
(Vy c).bind λd=>
if d then
Zr (λv=>ZaM a b c v.1) ((0:Int),())
else
some (.inr false)
else
some (.inr true)
def J7 (a:List (List UInt8)):Option Bool:=
Zr (λv=>ZaN a v.1) ((0:Int),())
def Zuw:Ctr:=D1 (.sl (.str)) (.bool) J7
def ZaI (b:List Int) (a:Int):Option ((Int×Unit) ⊕ ((Int×(List Int)×Unit) ⊕ ((Int×(List Int)×Unit) ⊕ (((List (List UInt8))×Int×Unit) ⊕ (((List (List UInt8))×Int×Unit) ⊕ Bool))))):=
if a<(b.length:Int) then
(atI b a).bind λc=>
if c=1 then
some (.inl (Wq (a+1),()))
else
some (.inr (.inr (.inr (.inr (.inr false)))))
else
some (.inr (.inr (.inr (.inr (.inr true)))))
def Qw (d:Zg) (a:Int) (b:List Int):Option ((Int×(List Int)×Unit) ⊕ ((Int×(List Int)×Unit) ⊕ (((List (List UInt8))×Int×Unit) ⊕ (((List (List UInt8))×Int×Unit) ⊕ Bool)))):=
if a<((KB d).length:Int) then
(atI (KB d) a).bind λc=>
if KX c=1 then
(atI b (K2 c)).bind λe=>
some (.inl (Wq (a+1),List.set b (Int.toNat (K2 c)) (Wq (e+1)),()))
else
some (.inl (Wq (a+1),b,()))
else
Zr (λv=>ZaI b v.1) ((0:Int),())
def Qx (c:Zg) (a:Int) (b:List Int):Option ((Int×(List Int)×Unit) ⊕ (((List (List UInt8))×Int×Unit) ⊕ (((List (List UInt8))×Int×Unit) ⊕ Bool))):=
if a<((Kr c).length:Int) then
(atI (Kr c) a).bind λd=>
(atI (KM d) (Wq (((KM d).length:Int)-1))).bind λe=>
(atI b e).bind λf=>
some (.inl (Wq (a+1),List.set b (Int.toNat e) (Wq (f+1)),()))
else
Zr (λv=>Qw c v.1 v.2.1) ((0:Int),b,())
def ZaJ (a:Zg) (g c:List (List UInt8)) (b:Int):Option (((List (List UInt8))×Int×Unit) ⊕ (((List (List UInt8))×Int×Unit) ⊕ Bool)):=
if b<((KB a).length:Int) then
(atI (KB a) b).bind λd=>
Zp ((c.length+[Gt d].length)*(16:Nat)<=(140737488355328:Nat))<|
some (.inl (c++[Gt d],Wq (b+1),()))
else
(J7 g).bind λf=>
if f then
(J7 c).bind λe=>
if e then
(J7 (KI a)).bind λh=>
if h then
Zp ((0:Int)<=((KI a).length:Int))<|
Zp (((KI a).length:Int)<=((KI a).length:Int))<|
Zp (((KI a).length:Int)<=(4611686018427387904:Int))<|
Zp (((8:Nat):Int)*((KI a).length:Int)<=(281474976710656:Int))<|
Zr (λv=>Qx a v.1 v.2.1) ((0:Int),List.replicate (Int.toNat ((KI a).length:Int)) (0:Int),())
else
some (.inr (.inr false))
else
some (.inr (.inr false))
else
some (.inr (.inr false))
def ZaK (b:Zg) (c:List (List UInt8)) (a:Int):Option (((List (List UInt8))×Int×Unit) ⊕ Bool):=
if a<((Kr b).length:Int) then
(atI (Kr b) a).bind λd=>
Zp ((c.length+[Gs d].length)*(16:Nat)<=(140737488355328:Nat))<|
some (.inl (c++[Gs d],Wq (a+1),()))
else
Zr (λv=>ZaJ b c v.1 v.2.1) (([]:List (List UInt8)),(0:Int),())
def Zc0 (b:Zz) (a:Zg):Option Bool:=
(Zci b).bind λd=>
if d then
if 14<((Kr a).length:Int) then
some false
else
if 30<((KI a).length:Int) then
some false
else
if 8<((KB a).length:Int) then
some false
else
(Zc2 b a).bind λc=>
if c then
Zr (λv=>ZaK a v.1 v.2.1) (([]:List (List UInt8)),(0:Int),())
else
some false
else
some false
def Zux:Ctr:=D2 (Qf) (XZ) (.bool) Zc0
def Zb3 (a:ZH) (b:Int):Option ((Int×Unit) ⊕ ((Int×Unit) ⊕ Bool)):=
if b<((K5 a).length:Int) then
(atI (K5 a) b).bind λc=>
(ZX c 0 (Wq (((Kw a).length:Int)-1))).bind λd=>
if d then
some (.inl (Wq (b+1),()))
else
some (.inr (.inr false))
else
some (.inr (.inr true))
def Zb4 (b:ZH) (a:Int):Option ((Int×Unit) ⊕ Bool):=
if a<((Kw b).length:Int) then
(atI (Gj b) a).bind λh=>
(ZX h 0 500).bind λg=>
if g then
(atI (K3 b) a).bind λe=>
(ZX e 0 1000).bind λf=>
if f then
if a=0 then
(atI (Kw b) a).bind λc=>
if c=(-1) then
if e=0 then
if 0<a then
(ZX c 0 (Wq (a-1))).bind λd=>
if d then
some (.inl (Wq (a+1),()))
else
some (.inr false)
else
some (.inl (Wq (a+1),()))
else
some (.inr false)
else
some (.inr false)
else
if 0<a then
(atI (Kw b) a).bind λc=>
(ZX c 0 (Wq (a-1))).bind λd=>
if d then
some (.inl (Wq (a+1),()))
else
some (.inr false)
else
some (.inl (Wq (a+1),()))
else
some (.inr false)
else
some (.inr false)
else
Zr (λv=>Zb3 b v.1) ((0:Int),())
def Zew (a:ZH) (b:Int):Option Bool:=
if ((Kw a).length:Int)<1 then
some false
else
if 8<((Kw a).length:Int) then
some false
else
if ((K3 a).length:Int)=((Kw a).length:Int) then
if ((Gj a).length:Int)=((Kw a).length:Int) then
if ((K5 a).length:Int)=b then
Zr (λv=>Zb4 a v.1) ((0:Int),())
else
some false
else
some false
else
some false
def c138:Ctr:=D2 (ZiL) Iq (.bool) Zew
def Zbq (b:Zi) (a:Int):Option ((Int×Unit) ⊕ Bool):=
if a<((KN b).length:Int) then
(atI (KN b) a).bind λc=>
(ZbE (Kq b) a).bind λe=>
(Zew c (e.length:Int)).bind λd=>
if d then
some (.inl (Wq (a+1),()))
else
some (.inr false)
else
some (.inr true)
def Zcv (a:Zi):Option Bool:=
(Zc0 (Gm a) (Kq a)).bind λb=>
if b then
if ((KN a).length:Int)=((KI (Kq a)).length:Int) then
Zr (λv=>Zbq a v.1) ((0:Int),())
else
some false
else
some false
def c139:Ctr:=D1 (Vu) (.bool) Zcv
def ZaH (a:ZB) (b:Int):Option ((Int×Unit) ⊕ Bool):=
if b<(([GB a,GC a,GH a,GI a].length):Int) then
(atI ([GB a,GC a,GH a,GI a]) b).bind λc=>
(ZX c 100 5000).bind λe=>
if e then
some (.inl (Wq (b+1),()))
else
some (.inr false)
else
(Vy (KW a)).bind λd=>
if d then
if GB a<=GC a then
some (.inr (decide (GH a<=GI a)))
else
some (.inr false)
else
some (.inr false)
def ZcZ (a:ZB):Option Bool:=
Zr (λv=>ZaH a v.1) ((0:Int),())
def Zuy:Ctr:=D1 (Zaj) (.bool) ZcZ
def JG (a:List ZB) (c:Int) (d:ZB) (b:Int):Option ((Int×Unit) ⊕ ((Int×Unit) ⊕ Bool)):=
if b<c then
(atI a b).bind λe=>
if KW e=KW d then
some (.inr (.inr false))
else
some (.inl (Wq (b+1),()))
else
some (.inr (.inl (Wq (c+1),())))
def JH (a:List ZB) (b:Int):Option ((Int×Unit) ⊕ Bool):=
if b<(a.length:Int) then
(atI a b).bind λc=>
(ZcZ c).bind λd=>
if d then
Zr (λv=>JG a b c v.1) ((0:Int),())
else
some (.inr false)
else
some (.inr (decide ((a.length:Int)<=4)))
def ZbK (a:List ZB):Option Bool:=
Zr (λv=>JH a v.1) ((0:Int),())
def c141:Ctr:=D1 (.sl (Zaj)) (.bool) ZbK
def Zc4 (a:Zi):Option Int:=
(Xf (Kq a)).bind λb=>
some (b.length:Int)
def Zuz:Ctr:=D1 (Vu) Iq Zc4
def Zai (g:Zi) (a:List Int) (c:Bool) (b:Int):Option ((Int×Unit) ⊕ Bool):=
if b<(a.length:Int) then
(atI a b).bind λd=>
(Zc4 g).bind λh=>
(ZX d 0 (Wq (h-1))).bind λf=>
if f then
if c then
if 0<b then
(atI a (Wq (b-1))).bind λe=>
if d<=e then
some (.inr false)
else
some (.inl (Wq (b+1),()))
else
some (.inl (Wq (b+1),()))
else
some (.inl (Wq (b+1),()))
else
some (.inr false)
else
some (.inr (decide ((a.length:Int)<=4)))
def V4 (c:Zi) (b:List Int) (a:Bool):Option Bool:=
Zr (λv=>Zai c b a v.1) ((0:Int),())
def c143:Ctr:=D3 (Vu) (.sl Iq) (.bool) (.bool) V4
def Zas (c:Zi) (a:Zk):Option Bool:=
(Zcv c).bind λf=>
if f then
(V4 c (Gp a) true).bind λe=>
if e then
(V4 c (Gn a) false).bind λg=>
if g then
(V4 c (Gz a) true).bind λd=>
if d then
if Gk a=1 then
some (decide (Gu a=0))
else
if Gk a=2 then
(ZX (Gu a) 1 10).bind λb=>
some b
else
if Gk a=3 then
if Gk a=3 then
(ZX (Gu a) 0 1000000000).bind λb=>
some b
else
some false
else
if Gk a=4 then
(ZX (Gu a) 0 1000000000).bind λb=>
some b
else
some false
else
some false
else
some false
else
some false
else
some false
def ZuA:Ctr:=D2 (Vu) (Qo) (.bool) Zas
def ZbG (a:ZC):Option Bool:=
if 0<=KA a then
if KA a<=KF a then
some (decide (KF a<=1000000))
else
some false
else
some false
def c145:Ctr:=D1 (Zh7) (.bool) ZbG
def VQ (j:Zh) (g:List Zb) (e:Bool) (b:List Zx) (c:Int):Option ((Int×Unit) ⊕ Bool):=
if c<(g.length:Int) then
(atI g c).bind λa=>
(ZX (Kv a) 0 (Wq ((b.length:Int)-1))).bind λk=>
if k then
if 0<c then
(atI g (Wq (c-1))).bind λd=>
if Kv a<=Kv d then
some (.inr false)
else
(ZX (KL a) 0 (Wq (((Kt j).length:Int)-1))).bind λf=>
if f then
(atI b (Kv a)).bind λi=>
if 0<=GK i then
some (.inr false)
else
if (KY i == e)=true then
if KF (Kz a)<KA (Kz a) then
some (.inr false)
else
if KA (Kz a)<(-100000) then
some (.inr false)
else
if 100000<KF (Kz a) then
some (.inr false)
else
(ZbG (Gc a)).bind λh=>
if h then
if e then
some (.inl (Wq (c+1),()))
else
if (decide (KA (Gc a)=0)&&decide (KF (Gc a)=0))=true then
some (.inl (Wq (c+1),()))
else
some (.inr false)
else
some (.inr false)
else
some (.inr false)
else
some (.inr false)
else
(ZX (KL a) 0 (Wq (((Kt j).length:Int)-1))).bind λf=>
if f then
(atI b (Kv a)).bind λd=>
if 0<=GK d then
some (.inr false)
else
if (KY d == e)=true then
if KF (Kz a)<KA (Kz a) then
some (.inr false)
else
if KA (Kz a)<(-100000) then
some (.inr false)
else
if 100000<KF (Kz a) then
some (.inr false)
else
(ZbG (Gc a)).bind λh=>
if h then
if e then
some (.inl (Wq (c+1),()))
else
if (decide (KA (Gc a)=0)&&decide (KF (Gc a)=0))=true then
some (.inl (Wq (c+1),()))
else
some (.inr false)
else
some (.inr false)
else
some (.inr false)
else
some (.inr false)
else
some (.inr false)
else
some (.inr true)
def Vt (b:Zi) (d:Zh) (a:List Zb) (c:Bool):Option Bool:=
(Xf (Kq b)).bind λe=>
Zr (λv=>VQ d a c e v.1) ((0:Int),())
def c146:Ctr:=D4 (Vu) (ZbO) (.sl (Qy)) (.bool) (.bool) Vt
def Zbr (b:Zi) (a:Zh) (c:Int):Option ((Int×Unit) ⊕ ((Int×Unit) ⊕ Bool)):=
if c<((KP a).length:Int) then
(atI (KP a) c).bind λe=>
(Zas b e).bind λg=>
if g then
some (.inl (Wq (c+1),()))
else
some (.inr (.inr false))
else
(Vt b a (K1 a) true).bind λf=>
if f then
(Vt b a (K8 a) false).bind λd=>
some (.inr (.inr d))
else
some (.inr (.inr false))
def Zbs (c:Zi) (a:Zh) (b:Int):Option ((Int×Unit) ⊕ Bool):=
if b<((Kt a).length:Int) then
(atI (Kt a) b).bind λd=>
(Xf (Kq c)).bind λe=>
if (e.length:Int)<=KH d then
some (.inr false)
else
some (.inl (Wq (b+1),()))
else
Zr (λv=>Zbr c a v.1) ((0:Int),())
def Zcw (b:Zi) (a:Zh):Option Bool:=
(Zcv b).bind λe=>
if e then
(J5 (Kt a)).bind λd=>
if d then
if 6<((KP a).length:Int) then
some false
else
(ZbK (Gr a)).bind λc=>
if c then
Zr (λv=>Zbs b a v.1) ((0:Int),())
else
some false
else
some false
else
some false
def ZtL:Ctr:=D2 (Vu) (ZbO) (.bool) Zcw
def J8 (a:List Zm) (c d:Zm) (b:Int):Option ((Int×Unit) ⊕ List Zm):=
if b<(a.length:Int) then
(atI a b).bind λe=>
if Ku e<Ku c then
some (.inl (Wq (b+1),()))
else
if b<(a.length:Int) then
if Ku e=Ku c then
some (.inr a)
else
Zp ((0:Int)<=b)<|
Zp (b<=(a.length:Int))<|
Zp ((a.length:Int)<=(a.length:Int))<|
Zp (([c,d].length+(List.take (Int.toNat (a.length:Int)-Int.toNat b) (List.drop (Int.toNat b) a)).length)*(40:Nat)<=(140737488355328:Nat))<|
Zp ((([]:List (Int×ZC×ZC×Unit)).length+(List.take (Int.toNat b-Int.toNat (0:Int)) (List.drop (Int.toNat (0:Int)) a)).length)*(40:Nat)<=(140737488355328:Nat))<|
Zp (((([]:List (Int×ZC×ZC×Unit))++List.take (Int.toNat b-Int.toNat (0:Int)) (List.drop (Int.toNat (0:Int)) a)).length+([c,d]++List.take (Int.toNat (a.length:Int)-Int.toNat b) (List.drop (Int.toNat b) a)).length)*(40:Nat)<=(140737488355328:Nat))<|
some (.inr (([]:List (Int×ZC×ZC×Unit))++List.take (Int.toNat b-Int.toNat (0:Int)) (List.drop (Int.toNat (0:Int)) a)++([c,d]++List.take (Int.toNat (a.length:Int)-Int.toNat b) (List.drop (Int.toNat b) a))))
else
Zp ((0:Int)<=b)<|
Zp (b<=(a.length:Int))<|
Zp ((a.length:Int)<=(a.length:Int))<|
Zp (([c,d].length+(List.take (Int.toNat (a.length:Int)-Int.toNat b) (List.drop (Int.toNat b) a)).length)*(40:Nat)<=(140737488355328:Nat))<|
Zp ((([]:List (Int×ZC×ZC×Unit)).length+(List.take (Int.toNat b-Int.toNat (0:Int)) (List.drop (Int.toNat (0:Int)) a)).length)*(40:Nat)<=(140737488355328:Nat))<|
Zp (((([]:List (Int×ZC×ZC×Unit))++List.take (Int.toNat b-Int.toNat (0:Int)) (List.drop (Int.toNat (0:Int)) a)).length+([c,d]++List.take (Int.toNat (a.length:Int)-Int.toNat b) (List.drop (Int.toNat b) a)).length)*(40:Nat)<=(140737488355328:Nat))<|
some (.inr (([]:List (Int×ZC×ZC×Unit))++List.take (Int.toNat b-Int.toNat (0:Int)) (List.drop (Int.toNat (0:Int)) a)++([c,d]++List.take (Int.toNat (a.length:Int)-Int.toNat b) (List.drop (Int.toNat b) a))))
else
if b<(a.length:Int) then
(atI a b).bind λe=>
if Ku e=Ku c then
some (.inr a)
else
Zp ((0:Int)<=b)<|
Zp (b<=(a.length:Int))<|
Zp ((a.length:Int)<=(a.length:Int))<|
Zp (([c,d].length+(List.take (Int.toNat (a.length:Int)-Int.toNat b) (List.drop (Int.toNat b) a)).length)*(40:Nat)<=(140737488355328:Nat))<|
Zp ((([]:List (Int×ZC×ZC×Unit)).length+(List.take (Int.toNat b-Int.toNat (0:Int)) (List.drop (Int.toNat (0:Int)) a)).length)*(40:Nat)<=(140737488355328:Nat))<|
Zp (((([]:List (Int×ZC×ZC×Unit))++List.take (Int.toNat b-Int.toNat (0:Int)) (List.drop (Int.toNat (0:Int)) a)).length+([c,d]++List.take (Int.toNat (a.length:Int)-Int.toNat b) (List.drop (Int.toNat b) a)).length)*(40:Nat)<=(140737488355328:Nat))<|
some (.inr (([]:List (Int×ZC×ZC×Unit))++List.take (Int.toNat b-Int.toNat (0:Int)) (List.drop (Int.toNat (0:Int)) a)++([c,d]++List.take (Int.toNat (a.length:Int)-Int.toNat b) (List.drop (Int.toNat b) a))))
else
Zp ((0:Int)<=b)<|
Zp (b<=(a.length:Int))<|
Zp ((a.length:Int)<=(a.length:Int))<|
Zp (([c,d].length+(List.take (Int.toNat (a.length:Int)-Int.toNat b) (List.drop (Int.toNat b) a)).length)*(40:Nat)<=(140737488355328:Nat))<|
Zp ((([]:List (Int×ZC×ZC×Unit)).length+(List.take (Int.toNat b-Int.toNat (0:Int)) (List.drop (Int.toNat (0:Int)) a)).length)*(40:Nat)<=(140737488355328:Nat))<|
Zp (((([]:List (Int×ZC×ZC×Unit))++List.take (Int.toNat b-Int.toNat (0:Int)) (List.drop (Int.toNat (0:Int)) a)).length+([c,d]++List.take (Int.toNat (a.length:Int)-Int.toNat b) (List.drop (Int.toNat b) a)).length)*(40:Nat)<=(140737488355328:Nat))<|
some (.inr (([]:List (Int×ZC×ZC×Unit))++List.take (Int.toNat b-Int.toNat (0:Int)) (List.drop (Int.toNat (0:Int)) a)++([c,d]++List.take (Int.toNat (a.length:Int)-Int.toNat b) (List.drop (Int.toNat b) a))))
def ZaS (a:List Zm) (b c:Zm):Option (List Zm):=
Zr (λv=>J8 a b c v.1) ((0:Int),())
def c148:Ctr:=D3 (.sl (Xt)) (Xt) (Xt) (.sl (Xt)) ZaS
def XL (c:Zh) (e:List Zm) (d:Int):Option (((List Zm)×Int×Unit) ⊕ (((List Zm)×Int×Unit) ⊕ List Zm)):=
if d<((K1 c).length:Int) then
(atI (K1 c) d).bind λa=>
(Zda (Kt c) (KL a)).bind λb=>
(ZaS e (Wq (2*Kv a),(Wq (Yu.rise b+KA (Kz a)),Wq (Yu.rise b+KF (Kz a)),()),a.2.2.2) (Wq (Wq (2*Kv a)+1),(Wq (Yu.rise b+KA (Kz a)),Wq (Yu.rise b+KF (Kz a)),()),a.2.2.2)).bind λf=>
some (.inl (f,Wq (d+1),()))
else
some (.inr (.inr e))
def XM (b:Zh) (e:List Zm) (c:Int):Option (((List Zm)×Int×Unit) ⊕ List Zm):=
if c<((Kt b).length:Int) then
(atI (Kt b) c).bind λa=>
(Zda (Kt b) c).bind λd=>
(ZaS e (Wq (2*KH a),(Wq (Yu.rise d+Gi a),Wq (Yu.rise d+Gq a),()),(0,0,()),()) (Wq (Wq (2*KH a)+1),(Wq (Yu.fall d+Gi a),Wq (Yu.fall d+Gq a),()),(0,0,()),())).bind λf=>
some (.inl (f,Wq (c+1),()))
else
Zr (λv=>XL b v.1 v.2.1) (e,(0:Int),())
def ZbM (a:Zh):Option (List Zm):=
Zr (λv=>XM a v.1 v.2.1) (([]:List (Int×ZC×ZC×Unit)),(0:Int),())
def ZuB:Ctr:=D1 (ZbO) (.sl (Xt)) ZbM
def J6 (c:Zi) (a:Zh):Option ((List Zm)×Int):=
(Zcw c a).bind λd=>
if d then
(ZbM a).bind λb=>
some (b,0)
else
some ([],1)
def ZuC:Ctr:=⟨[.dat (Vu),.dat (ZbO)],[.dat (.sl (Xt)),.dat Iq],λa K=>splitK a λc a=>splitK a λb a=>Qp (J6 c b) λr=>K (r.1,r.2,()) ()⟩
def Zbh (b:Yr):Option Int:=
(YB (KG b)).bind λa=>
some (Wq (2*a))
def ZuD:Ctr:=D1 (.ptr (Zfn)) Iq Zbh
def XV (d:Yr) (a:Int):Option Bool:=
(Zbh d).bind λc=>
(ZT a 0 (Wq (c-1))).bind λb=>
some b
def c152:Ctr:=D2 (.ptr (Zfn)) Iq (.bool) XV
def Xv (g:Yr) (a:List Zm) (b:Int):Option ((Int×Unit) ⊕ Bool):=
if b<(a.length:Int) then
(atI a b).bind λc=>
(XV g (Ku c)).bind λf=>
if f then
(ZaA (GM c)).bind λe=>
if e then
(JW (GN c)).bind λh=>
if h then
if 0<b then
(atI a (Wq (b-1))).bind λd=>
if Ku c<=Ku d then
some (.inr false)
else
some (.inl (Wq (b+1),()))
else
some (.inl (Wq (b+1),()))
else
some (.inr false)
else
some (.inr false)
else
some (.inr false)
else
some (.inr true)
def Vj (b:Yr) (a:List Zm):Option Bool:=
Zr (λv=>Xv b a v.1) ((0:Int),())
def ZuE:Ctr:=D2 (.ptr (Zfn)) (.sl (Xt)) (.bool) Vj
def Zcd (b:Zi) (a:List Zm):Option Bool:=
(ZaT b).bind λe=>
if e then
(ZaU b).bind λd=>
(Vj d a).bind λc=>
some c
else
some false
def c154:Ctr:=D2 (Vu) (.sl (Xt)) (.bool) Zcd
def ZcY (a:ZC):Option Bool:=
(ZaC (KA a)).bind λc=>
if c then
(ZaC (KF a)).bind λb=>
some b
else
some false
def ZuF:Ctr:=D1 (Zh7) (.bool) ZcY
def QJ (g:Yr) (a:List Yz) (b:Int):Option ((Int×Unit) ⊕ Bool):=
if b<(a.length:Int) then
(atI a b).bind λc=>
(XV g (Gw c)).bind λf=>
if f then
(ZcY (Ga c)).bind λe=>
if e then
if 0<b then
(atI a (Wq (b-1))).bind λd=>
if Gw c<=Gw d then
some (.inr false)
else
some (.inl (Wq (b+1),()))
else
some (.inl (Wq (b+1),()))
else
some (.inr false)
else
some (.inr false)
else
some (.inr true)
def Vk (b:Yr) (a:List Yz):Option Bool:=
Zr (λv=>QJ b a v.1) ((0:Int),())
def c156:Ctr:=D2 (.ptr (Zfn)) (.sl (Zgk)) (.bool) Vk
def Zce (b:Zi) (a:List Yz):Option Bool:=
(ZaT b).bind λe=>
if e then
(ZaU b).bind λd=>
(Vk d a).bind λc=>
some c
else
some false
def c157:Ctr:=D2 (Vu) (.sl (Zgk)) (.bool) Zce
def Qt (d:List Int):Option Bool:=
(Zla d).bind λg=>
if g then
some true
else
(QY d).bind λa=>
(ZbT a.1 a.2).bind λc=>
(ZbU a.1 a.2).bind λb=>
(Zcw a.1 a.2).bind λe=>
if e then
(J6 a.1 a.2).bind λf=>
if c.2=0 then
if b.2=0 then
if (c.1.length:Int)=(f.1.length:Int) then
(Zcd a.1 c.1).bind λh=>
if h then
if (b.1.length:Int)=Wq (2*(a.2.2.2.1.length:Int)) then
(Zce a.1 b.1).bind λi=>
some i
else
some false
else
some false
else
some false
else
some false
else
some false
else
if c.2=1 then
some (decide (b.2=1))
else
some false
def Zcq:Ctr:=⟨[.dat (.sl (.int .u8))],[.dat (.bool)],λa K=>splitK a λb a=>Qp (Qt b) λr=>K (r,()) ()⟩
end
end Go.Proofs.YtmihfdfjccociaaGreatDoor
