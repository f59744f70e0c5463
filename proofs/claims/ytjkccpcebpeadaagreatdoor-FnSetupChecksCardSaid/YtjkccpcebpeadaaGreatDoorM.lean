/-
 The models of the functions and their contracts. Printed by program.
-/
import Derived.KernelRfl
import Derived.Test.YtjkccpcebpeadaaGreatDoorSxTab
import Derived.Test.YtjkccpcebpeadaaGreatDoorSxS0
import Derived.Test.YtjkccpcebpeadaaGreatDoorSxLib
import Derived.Test.YtjkccpcebpeadaaGreatDoorSxLibS
import Derived.Test.YtjkccpcebpeadaaGreatDoorSxLibF
namespace Go.Proofs.YtjkccpcebpeadaaGreatDoor
open Go Go.Sx
set_option maxRecDepth 100000
set_option maxHeartbeats 100000000
set_option linter.unusedVariables false
set_option linter.unusedSimpArgs false
noncomputable section
theorem HK {Δ:Tab} (hΔ:Δ.ok Tryz.prog) {Γ:Gam} (hΓ:Γ.ok Tryz.prog) (A:Ann) {f:FuncId} {fn:Func} (hf:Tryz.prog.funcs[f]?=some fn) {C:Ctr} (hv:∀vs K,C.tr vs K->fnK Δ Γ A C fn vs K) (h1:(fn.name == "runtime.NumGoroutine")=false:=by kernel_rfl) (h2:fn.body.isNone=false:=by kernel_rfl):Za Tryz.prog f C:=Zg hΔ hΓ mixed A hf h1 h2 hv
abbrev Iq:Ty:=.int .i64
abbrev Wq:=IntKind.wrap IntKind.i64
abbrev Sq:=Za Tryz.prog
theorem Bq {α β:Type} (x:α) (f:α->Option β):(some x).bind f=f x:=rfl
def Zqk (a:List Int):Option Bool:=
some (decide (4096<(a.length:Int)))
def c0:Ctr:=D1 (.sl (.int .u8)) (.bool) Zqk
def Zen (a:List Int) (b c:Int):Option ((Int×Int×Unit)⊕Zd):=
if b<(a.length:Int)then
if b<64 then
(atI a b).bind λd=>
some (.inl (Wq (b+1),Int.tmod (Wq (Wq (c*31)+Wq d)) 2147483647,()))
else
some (.inr (a,0,c,()))
else
some (.inr (a,0,c,()))
def Zfr (a:List Int):Option Zd:=
Zt (λv=>Zen a v.1 v.2.1) ((0:Int),(12345:Int),())
def c1:Ctr:=⟨[.dat (.sl (.int .u8))],[.io (.flat (Q6))],λa K=>Zx a λb a=>YR (Zfr b) λr=>K (r,()) ()⟩
def Zi (a:Zd) (b:Int):Option (Int×Zd):=
if b<=1 then
some (0,a)
else
if Zd.at a<((Hq a).length:Int)then
(atI (Hq a) (Zd.at a)).bind λc=>
if b<=256 then
Zw (b≠0)<|
some (Int.tmod (Wq c) b,(Hq a,Wq (Zd.at a+1),a.2.2))
else
Zw (b≠0)<|
some (Int.tmod (Int.tmod (Wq (Wq (Wq (GP a*48271)+Wq c)+1)) 2147483647) b,(Hq a,Wq (Zd.at a+1),Int.tmod (Wq (Wq (Wq (GP a*48271)+Wq c)+1)) 2147483647,()))
else
Zw (b≠0)<|
some (Int.tmod (Wq (Int.tdiv (Int.tmod (Wq (Wq (GP a*48271)+11)) 2147483647) 7)) b,(Hq a,Zd.at a,Int.tmod (Wq (Wq (GP a*48271)+11)) 2147483647,()))
def c2:Ctr:=⟨[.io (.flat (Q6)),.dat Iq],[.dat Iq],λa K=>Zx a λc a=>Zx a λb a=>YR (Zi c b) λr=>K (r.1,()) (r.2,())⟩
def Zdx (g:Zq) (d:Int) (b a:Bool) (c:Int):Option ((Bool×Bool×Int×Unit)⊕Int):=
if c<((Gw g).length:Int)then
if Go.bits Go.BinOp.and IntKind.i64 c (Wq (1*2^Min.min (Int.toNat (IntKind.wrap IntKind.u64 d)) (IntKind.bits IntKind.i64)))=0 then
if b then
if a then
some (.inl (true,true,Wq (c+1),()))
else
(atI (Gw g) c).bind λe=>
(atI (Gw g) (Wq (c+Wq (1*2^Min.min (Int.toNat (IntKind.wrap IntKind.u64 d)) (IntKind.bits IntKind.i64))))).bind λf=>
some (.inl (true,decide (f<e),Wq (c+1),()))
else
(atI (Gw g) c).bind λe=>
(atI (Gw g) (Wq (c+Wq (1*2^Min.min (Int.toNat (IntKind.wrap IntKind.u64 d)) (IntKind.bits IntKind.i64))))).bind λf=>
if a then
some (.inl (decide (e<f),true,Wq (c+1),()))
else
some (.inl (decide (e<f),decide (f<e),Wq (c+1),()))
else
some (.inl (b,a,Wq (c+1),()))
else
if b then
if a then
some (.inr 3)
else
if b then
some (.inr 1)
else
if a then
some (.inr 2)
else
some (.inr 0)
else
if b then
some (.inr 1)
else
if a then
some (.inr 2)
else
some (.inr 0)
def Zet (b:Zq) (a:Int):Option Int:=
Zw ((0:Int)<=IntKind.wrap IntKind.u64 a)<|
Zt (λv=>Zdx b a v.1 v.2.1 v.2.2.1) (false,false,(0:Int),())
def c3:Ctr:=D2 (ZgA) Iq Iq Zet
def Zbu (d:Int) (a:List Int) (b g:Int) (f:List Int) (h e:Int):Option (((List Int)×Int×Int×(List Int)×Int×Int×Unit)⊕((List Int)×Zd)):=
if 0<g then
Zw ((a.length+[b].length)*8<=140737488355328)<|
(Zi (f,h,e,()) d).bind λc=>
some (.inl (a++[b],Wq (Wq (b+1)+c.1),Wq (g-1),c.2.1,c.2.2.1,c.2.2.2.1,()))
else
some (.inr (a,(f,h,e,())))
def Zbg (d:Zd) (a:Int):Option ((List Int)×Zd):=
(Zi d a).bind λc=>
(Zi c.2 3).bind λb=>
Zt (λv=>Zbu a v.1 v.2.1 v.2.2.1 v.2.2.2.1 v.2.2.2.2.1 v.2.2.2.2.2.1) (([]:List Int),c.1,Wq ((1:Int)+b.1),b.2.1,b.2.2.1,b.2.2.2.1,())
def c4:Ctr:=⟨[.io (.flat (Q6)),.dat Iq],[.own (.ol 2 (.flat Iq))],λa K=>Zx a λc a=>Zx a λb a=>YR (Zbg c b) λr=>K (r.1,()) (r.2,())⟩
def Zep (g:Int) (b a:List Int×Zd) (e:List Int) (f:Int) (k:List Int) (m j:Int):Option (((List Int)×Int×(List Int)×Int×Int×Unit)⊕(ZH×Zd)):=
if f<Wq ((b.1.length:Int)*(a.1.length:Int))then
(Zi (k,m,j,()) 10).bind λd=>
Zw ((a.1.length:Int)≠0)<|
if 0<Int.tmod f (a.1.length:Int)then
(atI e (Wq (f-1))).bind λh=>
(Zi d.2 20).bind λc=>
if(a.1.length:Int)<=f then
(atI e (Wq (f-(a.1.length:Int)))).bind λl=>
(Zi c.2 20).bind λi=>
Zw ((e.length+[Max.max (Max.max (Wq (g+d.1)) (Wq (h+c.1))) (Wq (l+i.1))].length)*8<=140737488355328)<|
some (.inl (e++[Max.max (Max.max (Wq (g+d.1)) (Wq (h+c.1))) (Wq (l+i.1))],Wq (f+1),i.2.1,i.2.2.1,i.2.2.2.1,()))
else
Zw ((e.length+[Max.max (Wq (g+d.1)) (Wq (h+c.1))].length)*8<=140737488355328)<|
some (.inl (e++[Max.max (Wq (g+d.1)) (Wq (h+c.1))],Wq (f+1),c.2.1,c.2.2.1,c.2.2.2.1,()))
else
if(a.1.length:Int)<=f then
(atI e (Wq (f-(a.1.length:Int)))).bind λh=>
(Zi d.2 20).bind λc=>
Zw ((e.length+[Max.max (Wq (g+d.1)) (Wq (h+c.1))].length)*8<=140737488355328)<|
some (.inl (e++[Max.max (Wq (g+d.1)) (Wq (h+c.1))],Wq (f+1),c.2.1,c.2.2.1,c.2.2.2.1,()))
else
Zw ((e.length+[Wq (g+d.1)].length)*8<=140737488355328)<|
some (.inl (e++[Wq (g+d.1)],Wq (f+1),d.2.1,d.2.2.1,d.2.2.2.1,()))
else
some (.inr ((b.1,a.1,e,()),(k,m,j,())))
def Zft (c:Zd) (d:Int):Option (ZH×Zd):=
(Zbg c 60).bind λb=>
(Zbg b.2 40).bind λa=>
Zt (λv=>Zep d b a v.1 v.2.1 v.2.2.1 v.2.2.2.1 v.2.2.2.2.1) (([]:List Int),(0:Int),a.2.1,a.2.2.1,a.2.2.2.1,())
def c5:Ctr:=⟨[.io (.flat (Q6)),.dat Iq],[.own (Zph)],λa K=>Zx a λc a=>Zx a λb a=>YR (Zft c b) λr=>K (r.1,()) (r.2,())⟩
def VG (d:Zd) (a:Int):Option ((List ZH)×Zd):=
(Zft d a).bind λb=>
(Zft b.2 a).bind λc=>
some ([b.1,c.1],c.2)
def c6:Ctr:=⟨[.io (.flat (Q6)),.dat Iq],[.own (.ol 267 (Zph))],λa K=>Zx a λc a=>Zx a λb a=>YR (VG c b) λr=>K (r.1,()) (r.2,())⟩
def Vz (g:Zd) (a b f d:Int):Option (ZL×Zd):=
if 4<=a then
(Zi g 10).bind λc=>
(VG c.2 (Wq (5-c.1))).bind λe=>
some ((a,b,f,0,e.1,[],()),e.2)
else
(Zi g 20).bind λc=>
(VG c.2 (Wq (5+c.1))).bind λe=>
(VG e.2 10).bind λh=>
some ((a,b,f,d,e.1,h.1,()),h.2)
def c7:Ctr:=⟨[.io (.flat (Q6)),.dat Iq,.dat Iq,.dat Iq,.dat Iq],[.own (ZB5)],λa K=>Zx a λf a=>Zx a λc a=>Zx a λd a=>Zx a λe a=>Zx a λb a=>YR (Vz f c d e b) λr=>K (r.1,()) (r.2,())⟩
def Zeq (k:List UInt8) (l:List Int) (b a:Int×Zd) (f:List XI) (e:List ZL) (c:Int) (g:List Int) (i h:Int):Option (((List ZL)×Int×(List Int)×Int×Int×Unit)⊕(((List XI)×Int×(List Int)×Int×Int×Unit)⊕(Zq×Zd))):=
if c<(f.length:Int)then
(Zet (k,(1:Int),f++[([(121:UInt8)],(2:Int),(0:Int),false,())],([]:List ZL),l,b.1,a.1,()) c).bind λj=>
if j=0 then
some (.inl (e,Wq (c+1),g,i,h,()))
else
(Vz (g,i,h,()) 1 c (f.length:Int) j).bind λd=>
Zw ((e.length+[d.1].length)*80<=140737488355328)<|
some (.inl (e++[d.1],Wq (c+1),d.2.1,d.2.2.1,d.2.2.2.1,()))
else
some (.inr (.inr ((k,(1:Int),f++[([(121:UInt8)],(2:Int),(0:Int),false,())],e,l,b.1,a.1,()),(g,i,h,()))))
def Zer (k:List UInt8) (g:List Int) (b a:Int×Zd) (d:List XI) (h:Int) (i:List Int) (j f:Int):Option (((List XI)×Int×(List Int)×Int×Int×Unit)⊕(Zq×Zd)):=
if h<(g.length:Int)then
(atI ([[(97:UInt8)],[(98:UInt8)],[(99:UInt8)],[(100:UInt8)]]) (d.length:Int)).bind λe=>
(Zi (i,j,f,()) 9).bind λc=>
Zw ((d.length+[(e,(1:Int),Wq ((1:Int)+c.1),false,())].length)*40<=140737488355328)<|
some (.inl (d++[(e,(1:Int),Wq ((1:Int)+c.1),false,())],Wq ((2:Int)*h),c.2.1,c.2.2.1,c.2.2.2.1,()))
else
Zw ((d.length+[([(121:UInt8)],(2:Int),(0:Int),false,())].length)*40<=140737488355328)<|
Zt (λv=>Zeq k g b a d v.1 v.2.1 v.2.2.1 v.2.2.2.1 v.2.2.2.2.1) (([]:List ZL),(0:Int),i,j,f,())
def ZaM (c:Zd) (d:List UInt8) (e:List Int):Option (Zq×Zd):=
(Zi c 50).bind λb=>
(Zi b.2 80).bind λa=>
Zt (λv=>Zer d e b a v.1 v.2.1 v.2.2.1 v.2.2.2.1 v.2.2.2.2.1) (([]:List (List UInt8×Int×Int×Bool×Unit)),(1:Int),a.2.1,a.2.2.1,a.2.2.2.1,())
def c8:Ctr:=⟨[.io (.flat (Q6)),.dat (.str),.own (.ol 2 (.flat Iq))],[.own (ZvX)],λa K=>Zx a λb a=>Zx a λc a=>Zx a λd a=>YR (ZaM b c d) λr=>K (r.1,()) (r.2,())⟩
def JI (l:Zd) (b:List UInt8) (a f:Int):Option (Zq×Zd):=
(Zi l 50).bind λg=>
(Zi g.2 80).bind λj=>
(Zi j.2 9).bind λk=>
(Zi k.2 9).bind λi=>
(Vz i.2 f 1 2 0).bind λd=>
(Vz d.2 4 1 0 0).bind λe=>
(Vz e.2 5 1 0 0).bind λc=>
if a=3 then
(Vz c.2 1 0 2 1).bind λh=>
Zw (([d.1,e.1,c.1].length+[h.1].length)*80<=140737488355328)<|
some ((b,a,[([(100:UInt8)],(1:Int),Wq ((1:Int)+k.1),false,()),([(99:UInt8),107],(1:Int),Wq ((1:Int)+i.1),true,()),([(113:UInt8)],(2:Int),(0:Int),false,())],[d.1,e.1,c.1]++[h.1],[],g.1,j.1,()),h.2)
else
some ((b,a,[([(100:UInt8)],(1:Int),Wq ((1:Int)+k.1),false,()),([(99:UInt8),107],(1:Int),Wq ((1:Int)+i.1),true,()),([(113:UInt8)],(2:Int),(0:Int),false,())],[d.1,e.1,c.1],[],g.1,j.1,()),c.2)
def c9:Ctr:=⟨[.io (.flat (Q6)),.dat (.str),.dat Iq,.dat Iq],[.own (ZvX)],λa K=>Zx a λe a=>Zx a λc a=>Zx a λb a=>Zx a λd a=>YR (JI e c b d) λr=>K (r.1,()) (r.2,())⟩
def Zg4 (i:Zd):Option (ZI×Zd):=
(ZaM i [(105:UInt8),110,118] [(1:Int),0]).bind λa=>
(ZaM a.2 [(98:UInt8),117,102] [(0:Int),1]).bind λf=>
(ZaM f.2 [(110:UInt8),97,110,100] [(1:Int),1,1,0]).bind λg=>
(ZaM g.2 [(120:UInt8),111,114] [(0:Int),1,1,0]).bind λe=>
(ZaM e.2 [(109:UInt8),117,120] [(0:Int),1,0,1,0,0,1,1]).bind λd=>
(JI d.2 [(102:UInt8),108,111,112] (2:Int) (2:Int)).bind λh=>
(JI h.2 [(102:UInt8),108,111,112,110] (2:Int) (3:Int)).bind λb=>
(JI b.2 [(108:UInt8),97,116,99,104] (3:Int) (2:Int)).bind λc=>
some (([a.1,f.1,g.1,e.1,d.1,h.1,b.1,c.1],()),c.2)
def c10:Ctr:=⟨[.io (.flat (Q6))],[.own (Zts)],λa K=>Zx a λb a=>YR (Zg4 b) λr=>K (r.1,()) (r.2,())⟩
def Xb (b:Int->Option (List UInt8)) (a:Int):Option (List UInt8):=
if a<0 then
(b (Wq (0-a))).bind λc=>
Zw ((([(45:UInt8)].length):Int)+(c.length:Int)<=9223372036854775807)<|
some ([(45:UInt8)]++c)
else
if a<10 then
some (bytesOf [IntKind.wrap IntKind.u8 (Wq ((48:Int)+a))])
else
(b (Wq (Int.tdiv a 10))).bind λc=>
Zw ((c.length:Int)+(((bytesOf [IntKind.wrap IntKind.u8 (Wq ((48:Int)+Int.tmod a (10:Int)))]).length):Int)<=9223372036854775807)<|
some (c++bytesOf [IntKind.wrap IntKind.u8 (Wq ((48:Int)+Int.tmod a (10:Int)))])
def Q9:Nat->Int->Option (List UInt8)
|0=>λ_=>none
|n+1=>Xb (Q9 n)
def Zaf (a:Int):Option (List UInt8):=ZAD (λn=>Q9 n a)
def Zcn (b:Int->Option (List UInt8)):Ctr:=⟨[.dat Iq],[.dat (.str)],λa K=>Zx a λc a=>YR (b c) λr=>K (r,()) ()⟩
def c11:Ctr:=Zcn Zaf
def Zeu (k:List Zp) (d:List (List UInt8)) (m g:Int) (c:List UInt8) (e:Int) (i:List Int) (l j:Int) (a:List Int):Option ((Int×(List Int)×Int×Int×(List Int)×Unit)⊕(((List Zp)×(List (List UInt8))×Int×(List Int)×Int×Int×Unit)⊕(Ze×Zd))):=
(atI ([(2:Int),2,3,3,4,3,3,3]) g).bind λn=>
if e<Wq (n-1)then
(Zi (i,l,j,()) (Wq ((d.length:Int)-1))).bind λf=>
(Zi f.2 3).bind λb=>
if b.1=0 then
if 5<=g then
if e=1 then
Zw ((([]:List Int).length+a.length)*8<=140737488355328)<|
Zw (((([]:List Int)++a).length+[(0:Int)].length)*8<=140737488355328)<|
some (.inl (Wq (e+1),b.2.1,b.2.2.1,b.2.2.2.1,([]:List Int)++a++[(0:Int)],()))
else
Zw ((([]:List Int).length+a.length)*8<=140737488355328)<|
Zw (((([]:List Int)++a).length+[Wq ((d.length:Int)-1)].length)*8<=140737488355328)<|
some (.inl (Wq (e+1),b.2.1,b.2.2.1,b.2.2.2.1,([]:List Int)++a++[Wq ((d.length:Int)-1)],()))
else
Zw ((([]:List Int).length+a.length)*8<=140737488355328)<|
Zw (((([]:List Int)++a).length+[Wq ((d.length:Int)-1)].length)*8<=140737488355328)<|
some (.inl (Wq (e+1),b.2.1,b.2.2.1,b.2.2.2.1,([]:List Int)++a++[Wq ((d.length:Int)-1)],()))
else
if 5<=g then
if e=1 then
Zw ((([]:List Int).length+a.length)*8<=140737488355328)<|
Zw (((([]:List Int)++a).length+[(0:Int)].length)*8<=140737488355328)<|
some (.inl (Wq (e+1),b.2.1,b.2.2.1,b.2.2.2.1,([]:List Int)++a++[(0:Int)],()))
else
Zw ((([]:List Int).length+a.length)*8<=140737488355328)<|
Zw (((([]:List Int)++a).length+[Wq ((1:Int)+f.1)].length)*8<=140737488355328)<|
some (.inl (Wq (e+1),b.2.1,b.2.2.1,b.2.2.2.1,([]:List Int)++a++[Wq ((1:Int)+f.1)],()))
else
Zw ((([]:List Int).length+a.length)*8<=140737488355328)<|
Zw (((([]:List Int)++a).length+[Wq ((1:Int)+f.1)].length)*8<=140737488355328)<|
some (.inl (Wq (e+1),b.2.1,b.2.2.1,b.2.2.2.1,([]:List Int)++a++[Wq ((1:Int)+f.1)],()))
else
Zw ((([]:List Int).length+a.length)*8<=140737488355328)<|
Zw (((([]:List Int)++a).length+[(d.length:Int)].length)*8<=140737488355328)<|
(Zaf (d.length:Int)).bind λh=>
Zw ((([(110:UInt8)].length):Int)+(h.length:Int)<=9223372036854775807)<|
Zw ((d.length+[[(110:UInt8)]++h].length)*16<=140737488355328)<|
Zw ((k.length+[([(117:UInt8)]++c,g,([]:List Int)++a++[(d.length:Int)],())].length)*48<=140737488355328)<|
some (.inr (.inl (k++[([(117:UInt8)]++c,g,([]:List Int)++a++[(d.length:Int)],())],d++[[(110:UInt8)]++h],Wq (m-1),i,l,j,())))
def Zev (k:Bool) (e:List (List UInt8)) (d:Int) (g:List Int) (j h:Int) (f:List (List UInt8×Int×List Int×Unit)):Option ((Int×(List Int)×Int×Int×(List (List UInt8×Int×List Int×Unit))×Unit)⊕(((List Zp)×(List (List UInt8))×Int×(List Int)×Int×Int×Unit)⊕(Ze×Zd))):=
if d<(f.length:Int)then
(Zi (g,j,h,()) 4).bind λc=>
if c.1=0 then
(atI f d).bind λb=>
if b.2.1=5 then
(Zi c.2 (Wq ((e.length:Int)-1))).bind λa=>
(atI b.2.2.1 0).bind λi=>
some (.inl (Wq (d+1),a.2.1,a.2.2.1,a.2.2.2.1,List.set f (Int.toNat d) (b.1,b.2.1,List.set b.2.2.1 (Int.toNat 0) (Wq (1+a.1)),()),()))
else
if b.2.1=6 then
(Zi c.2 (Wq ((e.length:Int)-1))).bind λa=>
(atI b.2.2.1 0).bind λi=>
some (.inl (Wq (d+1),a.2.1,a.2.2.1,a.2.2.2.1,List.set f (Int.toNat d) (b.1,b.2.1,List.set b.2.2.1 (Int.toNat 0) (Wq (1+a.1)),()),()))
else
if k then
(Zi c.2 (Wq ((e.length:Int)-1))).bind λa=>
(atI b.2.2.1 0).bind λi=>
some (.inl (Wq (d+1),a.2.1,a.2.2.1,a.2.2.2.1,List.set f (Int.toNat d) (b.1,b.2.1,List.set b.2.2.1 (Int.toNat 0) (Wq (1+a.1)),()),()))
else
some (.inl (Wq (d+1),c.2.1,c.2.2.1,c.2.2.2.1,List.set f (Int.toNat d) b,()))
else
some (.inl (Wq (d+1),c.2.1,c.2.2.1,c.2.2.2.1,f,()))
else
Zw (((([]:List (List UInt8×Int×Int×Unit))++[([(99:UInt8),107],(1:Int),(0:Int),()),([(97:UInt8)],(1:Int),(1:Int),()),([(98:UInt8)],(1:Int),(2:Int),())]).length+[([(121:UInt8)],(2:Int),Wq ((e.length:Int)-1),())].length)*32<=140737488355328)<|
(Zi (g,j,h,()) 2).bind λc=>
if c.1=0 then
(Zi c.2 (Wq ((e.length:Int)-1))).bind λa=>
Zw (((([]:List (List UInt8×Int×Int×Unit))++[([(99:UInt8),107],(1:Int),(0:Int),()),([(97:UInt8)],(1:Int),(1:Int),()),([(98:UInt8)],(1:Int),(2:Int),())]++[([(121:UInt8)],(2:Int),Wq ((e.length:Int)-1),())]).length+[([(122:UInt8)],(2:Int),Wq ((1:Int)+a.1),())].length)*32<=140737488355328)<|
some (.inr (.inr ((f,e,([]:List (List UInt8×Int×Int×Unit))++[([(99:UInt8),107],(1:Int),(0:Int),()),([(97:UInt8)],(1:Int),(1:Int),()),([(98:UInt8)],(1:Int),(2:Int),())]++[([(121:UInt8)],(2:Int),Wq ((e.length:Int)-1),())]++[([(122:UInt8)],(2:Int),Wq ((1:Int)+a.1),())],()),a.2)))
else
some (.inr (.inr ((f,e,([]:List (List UInt8×Int×Int×Unit))++[([(99:UInt8),107],(1:Int),(0:Int),()),([(97:UInt8)],(1:Int),(1:Int),()),([(98:UInt8)],(1:Int),(2:Int),())]++[([(121:UInt8)],(2:Int),Wq ((e.length:Int)-1),())],()),c.2)))
def Zew (j:Bool) (b:List Zp) (f:List (List UInt8)) (e:Int) (d:List Int) (h c:Int):Option (((List Zp)×(List (List UInt8))×Int×(List Int)×Int×Int×Unit)⊕(Ze×Zd)):=
if 0<e then
(Zi (d,h,c,()) 12).bind λa=>
(atI ([(0:Int),1,2,2,3,4,5,5,5,6,7,1]) a.1).bind λi=>
(Zaf (b.length:Int)).bind λg=>
Zw ((([(117:UInt8)].length):Int)+(g.length:Int)<=9223372036854775807)<|
Zt (λv=>Zeu b f e i g v.1 v.2.1 v.2.2.1 v.2.2.2.1 v.2.2.2.2.1) ((0:Int),a.2.1,a.2.2.1,a.2.2.2.1,([]:List Int),())
else
Zt (λv=>Zev j f v.1 v.2.1 v.2.2.1 v.2.2.2.1 v.2.2.2.2.1) ((0:Int),d,h,c,b,())
def Zg6 (b:Zd) (c:Int) (d:Bool):Option (Ze×Zd):=
(Zi b (Wq (c-1))).bind λa=>
Zt (λv=>Zew d v.1 v.2.1 v.2.2.1 v.2.2.2.1 v.2.2.2.2.1 v.2.2.2.2.2.1) (([]:List Zp),([]:List (List UInt8))++[[(110:UInt8),99,107],[(110:UInt8),97],[(110:UInt8),98]],Wq ((2:Int)+a.1),a.2.1,a.2.2.1,a.2.2.2.1,())
def c12:Ctr:=⟨[.io (.flat (Q6)),.dat Iq,.dat (.bool)],[.own (ZvY)],λa K=>Zx a λb a=>Zx a λc a=>Zx a λd a=>YR (Zg6 b c d) λr=>K (r.1,()) (r.2,())⟩
def ZcL (d:Int) (b:Zp) (c:List ZF) (a:Int):Option (((List ZF)×Int×Unit)⊕(((List ZF)×Int×Unit)⊕List ZF)):=
if a<((Gu b).length:Int)then
(atI (Gu b) a).bind λe=>
Zw ((c.length+[(d,a,e,decide (a=Wq (((Gu b).length:Int)-1)),())].length)*32<=140737488355328)<|
some (.inl (c++[(d,a,e,decide (a=Wq (((Gu b).length:Int)-1)),())],Wq (a+1),()))
else
some (.inr (.inl (c,Wq (d+1),())))
def ZcM (d:Ze) (c:List ZF) (a:Int):Option (((List ZF)×Int×Unit)⊕(((List ZF)×Int×Unit)⊕List ZF)):=
if a<((Gk d).length:Int)then
(atI (Gk d) a).bind λb=>
Zw ((c.length+[((-1:Int),a,GM b,decide (GD b=1),())].length)*32<=140737488355328)<|
some (.inl (c++[((-1:Int),a,GM b,decide (GD b=1),())],Wq (a+1),()))
else
some (.inr (.inr c))
def ZcN (b:Ze) (c:List ZF) (a:Int):Option (((List ZF)×Int×Unit)⊕List ZF):=
if a<((K4 b).length:Int)then
(atI (K4 b) a).bind λd=>
Zt (λv=>ZcL a d v.1 v.2.1) (c,(0:Int),())
else
Zt (λv=>ZcM b v.1 v.2.1) (c,(0:Int),())
def YU (a:Ze):Option (List ZF):=
Zt (λv=>ZcN a v.1 v.2.1) (([]:List (Int×Int×Int×Bool×Unit)),(0:Int),())
def c13:Ctr:=⟨[.dat (Qv)],[.own (.ol 205 (.flat (ZgB)))],λa K=>Zx a λb a=>YR (YU b) λr=>K (r,()) ()⟩
def ZdD (d:Int) (a:List ZF) (b:List Int) (c:Int):Option (((List Int)×Int×Unit)⊕List Int):=
if c<(a.length:Int)then
(atI a c).bind λe=>
if ZF.net e=d then
if(GI e)=true then
some (.inl (b,Wq (c+1),()))
else
Zw ((b.length+[c].length)*8<=140737488355328)<|
some (.inl (b++[c],Wq (c+1),()))
else
some (.inl (b,Wq (c+1),()))
else
some (.inr b)
def Za4 (c:Ze) (a:Int):Option (List Int):=
(YU c).bind λb=>
Zt (λv=>ZdD a b v.1 v.2.1) (([]:List Int),(0:Int),())
def c14:Ctr:=⟨[.dat (Qv),.dat Iq],[.own (.ol 2 (.flat Iq))],λa K=>Zx a λc a=>Zx a λb a=>YR (Za4 c b) λr=>K (r,()) ()⟩
def Zfh (a b:Int):Option ZC:=
Zw ((0:Int)<=a)<|
Zw (a<=a)<|
Zw (a<=4611686018427387904)<|
Zw (((8:Nat):Int)*a<=281474976710656)<|
some ([(-1:Int)],[(0:Int)],[b],List.replicate (Int.toNat a) (0:Int),())
def c15:Ctr:=⟨[.dat Iq,.dat Iq],[.own (ZuB)],λa K=>Zx a λb a=>Zx a λc a=>YR (Zfh b c) λr=>K (r,()) ()⟩
def ZaL (a:List Int):Option (List Int):=
Zw ((([]:List Int).length+a.length)*8<=140737488355328)<|
some (([]:List Int)++a)
def c16:Ctr:=⟨[.dat (.sl Iq)],[.own (.ol 2 (.flat Iq))],λa K=>Zx a λb a=>YR (ZaL b) λr=>K (r,()) ()⟩
def Zbv (g i h:List Int) (b:Int) (e:List Int) (f d:Int) (c:List Int):Option ((Int×(List Int)×Int×Int×(List Int)×Unit)⊕((Int×(List Int)×Int×Int×(List Int)×(List Int)×(List Int)×(List Int)×Unit)⊕(ZC×Zd))):=
if b<(c.length:Int)then
(Zi (e,f,d,()) (g.length:Int)).bind λa=>
(atI c b).bind λj=>
some (.inl (Wq (b+1),a.2.1,a.2.2.1,a.2.2.2.1,List.set c (Int.toNat b) a.1,()))
else
some (.inr (.inr ((g,i,h,c,()),(e,f,d,()))))
def Zbw (n:Int) (i:List Int) (l f:Int) (c h j k:List Int):Option ((Int×(List Int)×Int×Int×(List Int)×(List Int)×(List Int)×(List Int)×Unit)⊕(ZC×Zd)):=
if 0<n then
(ZaL c).bind λe=>
(Zi (i,l,f,()) (c.length:Int)).bind λd=>
Zw ((e.length+[d.1].length)*8<=140737488355328)<|
(ZaL h).bind λm=>
(Zi d.2 400).bind λb=>
Zw ((m.length+[b.1].length)*8<=140737488355328)<|
(ZaL j).bind λg=>
(Zi b.2 8).bind λa=>
Zw ((g.length+[a.1].length)*8<=140737488355328)<|
some (.inl (Wq (n-1),a.2.1,a.2.2.1,a.2.2.2.1,e++[d.1],m++[b.1],g++[a.1],k,()))
else
Zt (λv=>Zbv c h j v.1 v.2.1 v.2.2.1 v.2.2.2.1 v.2.2.2.2.1) ((0:Int),i,l,f,k,())
def Zdg (e:Zd) (a:Int):Option (ZC×Zd):=
(Zi e 6).bind λd=>
(Zfh a d.1).bind λb=>
(Zi d.2 4).bind λc=>
Zt (λv=>Zbw v.1 v.2.1 v.2.2.1 v.2.2.2.1 v.2.2.2.2.1 v.2.2.2.2.2.1 v.2.2.2.2.2.2.1 v.2.2.2.2.2.2.2.1) (c.1,c.2.1,c.2.2.1,c.2.2.2.1,K5 b,GC b,GU b,Gv b,())
def c17:Ctr:=⟨[.io (.flat (Q6)),.dat Iq],[.own (ZuB)],λa K=>Zx a λc a=>Zx a λb a=>YR (Zdg c b) λr=>K (r.1,()) (r.2,())⟩
def Zey (c:ZI×Zd) (a:Ze×Zd) (b:List ZC) (d:Int) (g:List Int) (h f:Int):Option (((List ZC)×Int×(List Int)×Int×Int×Unit)⊕(Zc×Zd)):=
if d<(a.1.2.1.length:Int)then
(Za4 a.1 d).bind λi=>
(Zdg (g,h,f,()) (i.length:Int)).bind λe=>
Zw ((b.length+[e.1].length)*96<=140737488355328)<|
some (.inl (b++[e.1],Wq (d+1),e.2.1,e.2.2.1,e.2.2.2.1,()))
else
some (.inr ((c.1,a.1,b,()),(g,h,f,())))
def Zfu (e:Zd) (c:Int) (a:Bool):Option (Zc×Zd):=
(Zg4 e).bind λd=>
(Zg6 d.2 c a).bind λb=>
Zt (λv=>Zey d b v.1 v.2.1 v.2.2.1 v.2.2.2.1 v.2.2.2.2.1) (([]:List ZC),(0:Int),b.2.1,b.2.2.1,b.2.2.2.1,())
def c18:Ctr:=⟨[.io (.flat (Q6)),.dat Iq,.dat (.bool)],[.own (Ztr)],λa K=>Zx a λd a=>Zx a λc a=>Zx a λb a=>YR (Zfu d c b) λr=>K (r.1,()) (r.2,())⟩
def ZeE (a:Int×Zd) (b:List Zf):Option (((List Zf)×Unit)⊕(((List Zf)×Int×(List Int)×Int×Int×Unit)⊕((List Zf)×Zd))):=
if(b.length:Int)<7 then
(atI b 0).bind λd=>
(Zaf (b.length:Int)).bind λc=>
Zw ((([(120:UInt8)].length):Int)+(c.length:Int)<=9223372036854775807)<|
Zw ((b.length+[([(120:UInt8)]++c,d.2)].length)*96<=140737488355328)<|
some (.inl (b++[([(120:UInt8)]++c,d.2)],()))
else
some (.inr (.inr (b,a.2)))
def ZeF (c:List Zf) (l:Int) (n:List Int) (o m:Int):Option (((List Zf)×Int×(List Int)×Int×Int×Unit)⊕((List Zf)×Zd)):=
if 0<l then
(Zi (n,o,m,()) 30).bind λb=>
(Zaf (c.length:Int)).bind λj=>
Zw ((([(99:UInt8)].length):Int)+(j.length:Int)<=9223372036854775807)<|
(Zi b.2 20).bind λd=>
(Zi d.2 20).bind λf=>
(Zi f.2 8).bind λi=>
if(c.length:Int)=0 then
(Zi i.2 7).bind λk=>
(atI ([(10:Int),12,20,30,100,7,2]) k.1).bind λa=>
(Zi k.2 a).bind λg=>
(Zi g.2 (Wq (a-1))).bind λe=>
Zw (a≠0)<|
Zw ((c.length+[([(99:UInt8)]++j,d.1,a,g.1,Int.tmod (Wq (Wq (g.1+1)+e.1)) a,(-1:Int),(1:Int),false,b.1,Wq (b.1+f.1),i.1,())].length)*96<=140737488355328)<|
some (.inl (c++[([(99:UInt8)]++j,d.1,a,g.1,Int.tmod (Wq (Wq (g.1+1)+e.1)) a,(-1:Int),(1:Int),false,b.1,Wq (b.1+f.1),i.1,())],Wq (l-1),e.2.1,e.2.2.1,e.2.2.2.1,()))
else
(Zi i.2 3).bind λk=>
if k.1=0 then
(Zi k.2 7).bind λg=>
(atI ([(10:Int),12,20,30,100,7,2]) g.1).bind λa=>
(Zi g.2 a).bind λe=>
(Zi e.2 (Wq (a-1))).bind λh=>
Zw (a≠0)<|
Zw ((c.length+[([(99:UInt8)]++j,d.1,a,e.1,Int.tmod (Wq (Wq (e.1+1)+h.1)) a,(-1:Int),(1:Int),false,b.1,Wq (b.1+f.1),i.1,())].length)*96<=140737488355328)<|
some (.inl (c++[([(99:UInt8)]++j,d.1,a,e.1,Int.tmod (Wq (Wq (e.1+1)+h.1)) a,(-1:Int),(1:Int),false,b.1,Wq (b.1+f.1),i.1,())],Wq (l-1),h.2.1,h.2.2.1,h.2.2.2.1,()))
else
(Zi k.2 (c.length:Int)).bind λg=>
(Zi g.2 4).bind λe=>
(Zi e.2 3).bind λh=>
Zw ((c.length+[([(99:UInt8)]++j,d.1,(0:Int),(0:Int),(0:Int),g.1,Wq ((1:Int)+e.1),decide (h.1=0),b.1,Wq (b.1+f.1),i.1,())].length)*96<=140737488355328)<|
some (.inl (c++[([(99:UInt8)]++j,d.1,(0:Int),(0:Int),(0:Int),g.1,Wq ((1:Int)+e.1),decide (h.1=0),b.1,Wq (b.1+f.1),i.1,())],Wq (l-1),h.2.1,h.2.2.1,h.2.2.2.1,()))
else
(Zi (n,o,m,()) (c.length:Int)).bind λb=>
(Zi b.2 30).bind λd=>
if d.1=0 then
(Zi d.2 2).bind λf=>
(atI c b.1).bind λa=>
some (.inr (List.set c (Int.toNat b.1) (GA a,Gs a,GS a,GW a,GY a,Gm a,Wq (9*f.1),a.2.2.2.2.2.2.2),f.2))
else
if d.1=1 then
(atI c b.1).bind λa=>
some (.inr (List.set c (Int.toNat b.1) (GA a,Gs a,GS a,GW a,GW a,a.2.2.2.2.2),d.2))
else
if d.1=2 then
(atI c 0).bind λa=>
(atI c b.1).bind λp=>
some (.inr (List.set c (Int.toNat b.1) (GA a,p.2),d.2))
else
if d.1=3 then
(atI c b.1).bind λa=>
some (.inr (List.set c (Int.toNat b.1) (GA a,Gs a,GS a,GW a,GY a,b.1,a.2.2.2.2.2.2),d.2))
else
if d.1=4 then
(atI c b.1).bind λa=>
some (.inr (List.set c (Int.toNat b.1) (GA a,Gs a,GS a,GW a,GY a,Gm a,GB a,Hm a,G2 a,Wq (G2 a-1),a.2.2.2.2.2.2.2.2.2.2),d.2))
else
if d.1=5 then
(Zi d.2 2).bind λf=>
(atI c 0).bind λa=>
some (.inr (List.set c (Int.toNat 0) (GA a,Gs a,Wq (100000+f.1),a.2.2.2),f.2))
else
if d.1=6 then
Zt (λv=>ZeE d v.1) (c,())
else
some (.inr (c,d.2))
def Zfy (b:Zd):Option ((List Zf)×Zd):=
(Zi b 5).bind λa=>
Zt (λv=>ZeF v.1 v.2.1 v.2.2.1 v.2.2.2.1 v.2.2.2.2.1) (([]:List (List UInt8×Int×Int×Int×Int×Int×Int×Bool×Int×Int×Int×Unit)),Wq ((1:Int)+a.1),a.2.1,a.2.2.1,a.2.2.2.1,())
def c19:Ctr:=⟨[.io (.flat (Q6))],[.own (.ol 114 (.flat (ZbL)))],λa K=>Zx a λb a=>YR (Zfy b) λr=>K (r.1,()) (r.2,())⟩
def Zes (c:List UInt8) (a:Int):Option ((Int×Unit)⊕Bool):=
if a<(c.length:Int)then
(atI c a).bind λb=>
if 97<=((UInt8.toNat b):Int)then
if 48<=((UInt8.toNat b):Int)then
if((UInt8.toNat b):Int)<=122 then
some (.inl (Wq (a+1),()))
else
if((UInt8.toNat b):Int)<=57 then
if 0<a then
some (.inl (Wq (a+1),()))
else
some (.inr false)
else
some (.inr false)
else
if((UInt8.toNat b):Int)<=122 then
some (.inl (Wq (a+1),()))
else
some (.inr false)
else
if 48<=((UInt8.toNat b):Int)then
if((UInt8.toNat b):Int)<=57 then
if 0<a then
some (.inl (Wq (a+1),()))
else
some (.inr false)
else
some (.inr false)
else
some (.inr false)
else
if 1<=(c.length:Int)then
some (.inr (decide ((c.length:Int)<=8)))
else
some (.inr false)
def ZaN (a:List UInt8):Option Bool:=
Zt (λv=>Zes a v.1) ((0:Int),())
def c20:Ctr:=D1 (.str) (.bool) ZaN
def ZV (c b a:Int):Option Bool:=
if b<=c then
some (decide (c<=a))
else
some false
def c21:Ctr:=D3 Iq Iq Iq (.bool) ZV
def Zf6 (a:Zf):Option Bool:=
(ZaN (GA a)).bind λb=>
if b then
if 0<=Gs a then
(ZV (G2 a) 0 100000).bind λd=>
if d then
(ZV (G8 a) (G2 a) 100000).bind λe=>
if e then
(ZV (Ht a) 0 100000).bind λc=>
some c
else
some false
else
some false
else
some false
else
some false
def c22:Ctr:=D1 (ZbL) (.bool) Zf6
def ZeG (a:Zf):Option Bool:=
(ZV (GS a) 2 100000).bind λb=>
if b then
(ZV (GW a) 0 (Wq (GS a-1))).bind λc=>
if c then
(ZV (GY a) 0 (Wq (GS a-1))).bind λd=>
if d then
if GW a=GY a then
some false
else
if GB a=1 then
some (!Hm a)
else
some false
else
some false
else
some false
else
some false
def c23:Ctr:=D1 (ZbL) (.bool) ZeG
def Zch (d:(List Zf)->Int->Option YX) (c:List Zf) (e:Int):Option YX:=
(atI c e).bind λa=>
if Gm a<0 then
some (GS a,GW a,GY a,())
else
(d c (Gm a)).bind λb=>
if 1<GB a then
if(Hm a)=true then
some (Wq (YX.period b*GB a),Wq (YX.rise b+Wq (Wq (Int.tdiv (GB a) 2)*YX.period b)),YX.rise b,())
else
some (Wq (YX.period b*GB a),YX.rise b,Wq (YX.rise b+Wq (Wq (Int.tdiv (GB a) 2)*YX.period b)),())
else
if(Hm a)=true then
some (YX.period b,YX.fall b,YX.rise b,())
else
some b
def Zci:Nat->(List Zf)->Int->Option YX
|0=>λ_ _=>none
|n+1=>Zch (Zci n)
def Zgd (a:List Zf) (b:Int):Option YX:=ZAD (λn=>Zci n a b)
def ZfU (c:(List Zf)->Int->Option YX):Ctr:=⟨[.dat (.sl (ZbL)),.dat Iq],[.dat (Zup)],λa K=>Zx a λb a=>Zx a λd a=>YR (c b d) λr=>K (r,()) ()⟩
def c24:Ctr:=ZfU Zgd
def Za2 (d:List Zf) (b:Int) (a:Zf) (c:Int):Option ((Int×Unit)⊕((Int×Unit)⊕Bool)):=
if c<b then
(atI d c).bind λg=>
if GA g=GA a then
some (.inr (.inr false))
else
some (.inl (Wq (c+1),()))
else
if Gm a=(-1)then
(ZeG a).bind λe=>
if e then
some (.inr (.inl (Wq (b+1),())))
else
some (.inr (.inr false))
else
(ZV (Gm a) 0 (Wq (b-1))).bind λh=>
if h then
(ZV (GB a) 1 8).bind λi=>
if i then
if GS a=0 then
if GW a=0 then
if GY a=0 then
(Zgd d b).bind λf=>
if 100000<YX.period f then
some (.inr (.inr false))
else
some (.inr (.inl (Wq (b+1),())))
else
some (.inr (.inr false))
else
some (.inr (.inr false))
else
some (.inr (.inr false))
else
some (.inr (.inr false))
else
some (.inr (.inr false))
def Zds (a:List Zf) (b:Int):Option ((Int×Unit)⊕Bool):=
if b<(a.length:Int)then
if(a.length:Int)<=6 then
(atI a b).bind λc=>
(Zf6 c).bind λd=>
if d then
Zt (λv=>Za2 a b c v.1) ((0:Int),())
else
some (.inr false)
else
some (.inr (decide ((a.length:Int)<=6)))
else
some (.inr (decide ((a.length:Int)<=6)))
def ZcA (a:List Zf):Option Bool:=
Zt (λv=>Zds a v.1) ((0:Int),())
def c25:Ctr:=D1 (.sl (ZbL)) (.bool) ZcA
def ZbD (c:Zc×Zd) (b:List ZF) (j:List Zf) (m k:List Zh) (f:List Zu) (h:Int) (l:List Int) (n i:Int):Option (((List Zu)×Int×(List Int)×Int×Int×Unit)⊕(((List Zh)×(List Zh)×Int×(List Int)×Int×Int×Unit)⊕((Int×(List Int)×Int×Int×(List Zf)×Unit)⊕(Zc×Zo×Zd)))):=
if 0<h then
(Zi (l,n,i,()) 4).bind λa=>
if Wq (1+a.1)=1 then
(Zi a.2 2).bind λd=>
if d.1=0 then
(Zi d.2 (b.length:Int)).bind λe=>
Zw ((f.length+[(Wq ((1:Int)+a.1),(0:Int),([]:List Int),([]:List Int),[e.1],())].length)*88<=140737488355328)<|
some (.inl (f++[(Wq ((1:Int)+a.1),(0:Int),([]:List Int),([]:List Int),[e.1],())],Wq (h-1),e.2.1,e.2.2.1,e.2.2.2.1,()))
else
Zw ((f.length+[(Wq ((1:Int)+a.1),(0:Int),([]:List Int),([]:List Int),([]:List Int),())].length)*88<=140737488355328)<|
some (.inl (f++[(Wq ((1:Int)+a.1),(0:Int),([]:List Int),([]:List Int),([]:List Int),())],Wq (h-1),d.2.1,d.2.2.1,d.2.2.2.1,()))
else
(Zi a.2 9).bind λd=>
(Zi d.2 2).bind λe=>
if e.1=0 then
(Zi e.2 (b.length:Int)).bind λg=>
Zw ((f.length+[(Wq ((1:Int)+a.1),Wq ((1:Int)+d.1),([]:List Int),([]:List Int),[g.1],())].length)*88<=140737488355328)<|
some (.inl (f++[(Wq ((1:Int)+a.1),Wq ((1:Int)+d.1),([]:List Int),([]:List Int),[g.1],())],Wq (h-1),g.2.1,g.2.2.1,g.2.2.2.1,()))
else
Zw ((f.length+[(Wq ((1:Int)+a.1),Wq ((1:Int)+d.1),([]:List Int),([]:List Int),([]:List Int),())].length)*88<=140737488355328)<|
some (.inl (f++[(Wq ((1:Int)+a.1),Wq ((1:Int)+d.1),([]:List Int),([]:List Int),([]:List Int),())],Wq (h-1),e.2.1,e.2.2.1,e.2.2.2.1,()))
else
(Zi (l,n,i,()) 2).bind λa=>
if a.1=0 then
some (.inr (.inr (.inr (c.1,(j,m,k,f,[([(116:UInt8),121,112],(1000:Int),(1000:Int),(1000:Int),(1000:Int),())]++[([(115:UInt8),108,111,119],(1100:Int),(1300:Int),(1000:Int),(1200:Int),())],()),a.2))))
else
some (.inr (.inr (.inr (c.1,(j,m,k,f,[([(116:UInt8),121,112],(1000:Int),(1000:Int),(1000:Int),(1000:Int),())],()),a.2))))
def ZbE (i:Zc×Zd) (a:List ZF) (k:Int×Zd) (q:List Zf) (h f:List Zh) (d:Int) (o:List Int) (n p:Int):Option (((List Zh)×(List Zh)×Int×(List Int)×Int×Int×Unit)⊕((Int×(List Int)×Int×Int×(List Zf)×Unit)⊕(Zc×Zo×Zd))):=
if d<(a.length:Int)then
(Zi (o,n,p,()) 60).bind λb=>
(Zi b.2 (([([(109:UInt8),97,105,110],(0:Int),Wq ((100:Int)+k.1),(0:Int),(50:Int),(-1:Int),(1:Int),false,(0:Int),(0:Int),(0:Int),())].length):Int)).bind λj=>
(Zi j.2 30).bind λe=>
(atI a d).bind λm=>
if(GI m)=true then
if d=Wq ((a.length:Int)-(i.1.2.1.2.2.1.length:Int))then
if(GI m)=true then
some (.inl (h,f,Wq (d+1),e.2.1,e.2.2.1,e.2.2.2.1,()))
else
(Zi e.2 8).bind λc=>
if 0<c.1 then
Zw ((f.length+[(d,j.1,(Wq (b.1-20),Wq (Wq (b.1-20)+e.1),()),((0:Int),(0:Int),()),())].length)*48<=140737488355328)<|
some (.inl (h,f++[(d,j.1,(Wq (b.1-20),Wq (Wq (b.1-20)+e.1),()),((0:Int),(0:Int),()),())],Wq (d+1),c.2.1,c.2.2.1,c.2.2.2.1,()))
else
some (.inl (h,f,Wq (d+1),c.2.1,c.2.2.1,c.2.2.2.1,()))
else
(Zi e.2 8).bind λc=>
if 0<c.1 then
(Zi c.2 20).bind λg=>
(Zi g.2 10).bind λl=>
Zw ((h.length+[(d,j.1,(Wq (b.1-20),Wq (Wq (b.1-20)+e.1),()),(g.1,Wq (g.1+l.1),()),())].length)*48<=140737488355328)<|
some (.inl (h++[(d,j.1,(Wq (b.1-20),Wq (Wq (b.1-20)+e.1),()),(g.1,Wq (g.1+l.1),()),())],f,Wq (d+1),l.2.1,l.2.2.1,l.2.2.2.1,()))
else
if(GI m)=true then
some (.inl (h,f,Wq (d+1),c.2.1,c.2.2.1,c.2.2.2.1,()))
else
(Zi c.2 8).bind λg=>
if 0<g.1 then
Zw ((f.length+[(d,j.1,(Wq (b.1-20),Wq (Wq (b.1-20)+e.1),()),((0:Int),(0:Int),()),())].length)*48<=140737488355328)<|
some (.inl (h,f++[(d,j.1,(Wq (b.1-20),Wq (Wq (b.1-20)+e.1),()),((0:Int),(0:Int),()),())],Wq (d+1),g.2.1,g.2.2.1,g.2.2.2.1,()))
else
some (.inl (h,f,Wq (d+1),g.2.1,g.2.2.1,g.2.2.2.1,()))
else
if(GI m)=true then
some (.inl (h,f,Wq (d+1),e.2.1,e.2.2.1,e.2.2.2.1,()))
else
(Zi e.2 8).bind λc=>
if 0<c.1 then
Zw ((f.length+[(d,j.1,(Wq (b.1-20),Wq (Wq (b.1-20)+e.1),()),((0:Int),(0:Int),()),())].length)*48<=140737488355328)<|
some (.inl (h,f++[(d,j.1,(Wq (b.1-20),Wq (Wq (b.1-20)+e.1),()),((0:Int),(0:Int),()),())],Wq (d+1),c.2.1,c.2.2.1,c.2.2.2.1,()))
else
some (.inl (h,f,Wq (d+1),c.2.1,c.2.2.1,c.2.2.2.1,()))
else
(Zi (o,n,p,()) 3).bind λb=>
Zt (λv=>ZbD i a q h f v.1 v.2.1 v.2.2.1 v.2.2.2.1 v.2.2.2.2.1) (([]:List Zu),b.1,b.2.1,b.2.2.1,b.2.2.2.1,())
def J9 (b:Zc×Zd) (a:List ZF) (c:Int×Zd) (g:Int) (i:List Int) (j h:Int) (e:List Zf):Option ((Int×(List Int)×Int×Int×(List Zf)×Unit)⊕(Zc×Zo×Zd)):=
if g<(([([(109:UInt8),97,105,110],(0:Int),Wq ((100:Int)+c.1),(0:Int),(50:Int),(-1:Int),(1:Int),false,(0:Int),(0:Int),(0:Int),())].length):Int)then
(atI ([([(109:UInt8),97,105,110],(0:Int),Wq ((100:Int)+c.1),(0:Int),(50:Int),(-1:Int),(1:Int),false,(0:Int),(0:Int),(0:Int),())]) g).bind λd=>
if 0<g then
(Zi (i,j,h,()) (a.length:Int)).bind λf=>
Zw ((([]:List (List UInt8×Int×Int×Int×Int×Int×Int×Bool×Int×Int×Int×Unit)).length+e.length)*96<=140737488355328)<|
Zw (((([]:List (List UInt8×Int×Int×Int×Int×Int×Int×Bool×Int×Int×Int×Unit))++e).length+[(d.1,f.1,d.2.2)].length)*96<=140737488355328)<|
some (.inl (Wq (g+1),f.2.1,f.2.2.1,f.2.2.2.1,([]:List (List UInt8×Int×Int×Int×Int×Int×Int×Bool×Int×Int×Int×Unit))++e++[(d.1,f.1,d.2.2)],()))
else
Zw ((([]:List (List UInt8×Int×Int×Int×Int×Int×Int×Bool×Int×Int×Int×Unit)).length+e.length)*96<=140737488355328)<|
Zw (((([]:List (List UInt8×Int×Int×Int×Int×Int×Int×Bool×Int×Int×Int×Unit))++e).length+[(d.1,Wq ((a.length:Int)-(b.1.2.1.2.2.1.length:Int)),d.2.2)].length)*96<=140737488355328)<|
some (.inl (Wq (g+1),i,j,h,([]:List (List UInt8×Int×Int×Int×Int×Int×Int×Bool×Int×Int×Int×Unit))++e++[(d.1,Wq ((a.length:Int)-(b.1.2.1.2.2.1.length:Int)),d.2.2)],()))
else
Zt (λv=>ZbE b a c e v.1 v.2.1 v.2.2.1 v.2.2.2.1 v.2.2.2.2.1 v.2.2.2.2.2.1) (([]:List (Int×Int×Zz×Zz×Unit)),([]:List (Int×Int×Zz×Zz×Unit)),Wq ((a.length:Int)-(b.1.2.1.2.2.1.length:Int)),i,j,h,())
def ZbF (c:Zc×Zd) (b:List ZF) (j:List Zf) (m k:List Zh) (f:List Zu) (h:Int) (l:List Int) (n i:Int):Option (((List Zu)×Int×(List Int)×Int×Int×Unit)⊕(((List Zh)×(List Zh)×Int×(List Int)×Int×Int×Unit)⊕((Int×(List Int)×Int×Int×(List Zf)×Unit)⊕(Zc×Zo×Zd)))):=
if 0<h then
(Zi (l,n,i,()) 4).bind λa=>
if Wq (1+a.1)=1 then
(Zi a.2 2).bind λd=>
if d.1=0 then
(Zi d.2 (b.length:Int)).bind λe=>
Zw ((f.length+[(Wq ((1:Int)+a.1),(0:Int),([]:List Int),([]:List Int),[e.1],())].length)*88<=140737488355328)<|
some (.inl (f++[(Wq ((1:Int)+a.1),(0:Int),([]:List Int),([]:List Int),[e.1],())],Wq (h-1),e.2.1,e.2.2.1,e.2.2.2.1,()))
else
Zw ((f.length+[(Wq ((1:Int)+a.1),(0:Int),([]:List Int),([]:List Int),([]:List Int),())].length)*88<=140737488355328)<|
some (.inl (f++[(Wq ((1:Int)+a.1),(0:Int),([]:List Int),([]:List Int),([]:List Int),())],Wq (h-1),d.2.1,d.2.2.1,d.2.2.2.1,()))
else
(Zi a.2 9).bind λd=>
(Zi d.2 2).bind λe=>
if e.1=0 then
(Zi e.2 (b.length:Int)).bind λg=>
Zw ((f.length+[(Wq ((1:Int)+a.1),Wq ((1:Int)+d.1),([]:List Int),([]:List Int),[g.1],())].length)*88<=140737488355328)<|
some (.inl (f++[(Wq ((1:Int)+a.1),Wq ((1:Int)+d.1),([]:List Int),([]:List Int),[g.1],())],Wq (h-1),g.2.1,g.2.2.1,g.2.2.2.1,()))
else
Zw ((f.length+[(Wq ((1:Int)+a.1),Wq ((1:Int)+d.1),([]:List Int),([]:List Int),([]:List Int),())].length)*88<=140737488355328)<|
some (.inl (f++[(Wq ((1:Int)+a.1),Wq ((1:Int)+d.1),([]:List Int),([]:List Int),([]:List Int),())],Wq (h-1),e.2.1,e.2.2.1,e.2.2.2.1,()))
else
(Zi (l,n,i,()) 2).bind λa=>
if a.1=0 then
some (.inr (.inr (.inr (c.1,(j,m,k,f,[([(116:UInt8),121,112],(1000:Int),(1000:Int),(1000:Int),(1000:Int),())]++[([(115:UInt8),108,111,119],(1100:Int),(1300:Int),(1000:Int),(1200:Int),())],()),a.2))))
else
some (.inr (.inr (.inr (c.1,(j,m,k,f,[([(116:UInt8),121,112],(1000:Int),(1000:Int),(1000:Int),(1000:Int),())],()),a.2))))
def ZbG (i:Zc×Zd) (a:List ZF) (k:List Zf×Zd) (q:List Zf) (h f:List Zh) (d:Int) (o:List Int) (n p:Int):Option (((List Zh)×(List Zh)×Int×(List Int)×Int×Int×Unit)⊕((Int×(List Int)×Int×Int×(List Zf)×Unit)⊕(Zc×Zo×Zd))):=
if d<(a.length:Int)then
(Zi (o,n,p,()) 60).bind λb=>
(Zi b.2 (k.1.length:Int)).bind λj=>
(Zi j.2 30).bind λe=>
(atI a d).bind λm=>
if(GI m)=true then
if d=Wq ((a.length:Int)-(i.1.2.1.2.2.1.length:Int))then
if(GI m)=true then
some (.inl (h,f,Wq (d+1),e.2.1,e.2.2.1,e.2.2.2.1,()))
else
(Zi e.2 8).bind λc=>
if 0<c.1 then
Zw ((f.length+[(d,j.1,(Wq (b.1-20),Wq (Wq (b.1-20)+e.1),()),((0:Int),(0:Int),()),())].length)*48<=140737488355328)<|
some (.inl (h,f++[(d,j.1,(Wq (b.1-20),Wq (Wq (b.1-20)+e.1),()),((0:Int),(0:Int),()),())],Wq (d+1),c.2.1,c.2.2.1,c.2.2.2.1,()))
else
some (.inl (h,f,Wq (d+1),c.2.1,c.2.2.1,c.2.2.2.1,()))
else
(Zi e.2 8).bind λc=>
if 0<c.1 then
(Zi c.2 20).bind λg=>
(Zi g.2 10).bind λl=>
Zw ((h.length+[(d,j.1,(Wq (b.1-20),Wq (Wq (b.1-20)+e.1),()),(g.1,Wq (g.1+l.1),()),())].length)*48<=140737488355328)<|
some (.inl (h++[(d,j.1,(Wq (b.1-20),Wq (Wq (b.1-20)+e.1),()),(g.1,Wq (g.1+l.1),()),())],f,Wq (d+1),l.2.1,l.2.2.1,l.2.2.2.1,()))
else
if(GI m)=true then
some (.inl (h,f,Wq (d+1),c.2.1,c.2.2.1,c.2.2.2.1,()))
else
(Zi c.2 8).bind λg=>
if 0<g.1 then
Zw ((f.length+[(d,j.1,(Wq (b.1-20),Wq (Wq (b.1-20)+e.1),()),((0:Int),(0:Int),()),())].length)*48<=140737488355328)<|
some (.inl (h,f++[(d,j.1,(Wq (b.1-20),Wq (Wq (b.1-20)+e.1),()),((0:Int),(0:Int),()),())],Wq (d+1),g.2.1,g.2.2.1,g.2.2.2.1,()))
else
some (.inl (h,f,Wq (d+1),g.2.1,g.2.2.1,g.2.2.2.1,()))
else
if(GI m)=true then
some (.inl (h,f,Wq (d+1),e.2.1,e.2.2.1,e.2.2.2.1,()))
else
(Zi e.2 8).bind λc=>
if 0<c.1 then
Zw ((f.length+[(d,j.1,(Wq (b.1-20),Wq (Wq (b.1-20)+e.1),()),((0:Int),(0:Int),()),())].length)*48<=140737488355328)<|
some (.inl (h,f++[(d,j.1,(Wq (b.1-20),Wq (Wq (b.1-20)+e.1),()),((0:Int),(0:Int),()),())],Wq (d+1),c.2.1,c.2.2.1,c.2.2.2.1,()))
else
some (.inl (h,f,Wq (d+1),c.2.1,c.2.2.1,c.2.2.2.1,()))
else
(Zi (o,n,p,()) 3).bind λb=>
Zt (λv=>ZbF i a q h f v.1 v.2.1 v.2.2.1 v.2.2.2.1 v.2.2.2.2.1) (([]:List Zu),b.1,b.2.1,b.2.2.1,b.2.2.2.1,())
def ZbH (b:Zc×Zd) (a:List ZF) (c:List Zf×Zd) (g:Int) (i:List Int) (j h:Int) (e:List Zf):Option ((Int×(List Int)×Int×Int×(List Zf)×Unit)⊕(Zc×Zo×Zd)):=
if g<(c.1.length:Int)then
(atI c.1 g).bind λd=>
if 0<g then
(Zi (i,j,h,()) (a.length:Int)).bind λf=>
Zw ((([]:List (List UInt8×Int×Int×Int×Int×Int×Int×Bool×Int×Int×Int×Unit)).length+e.length)*96<=140737488355328)<|
Zw (((([]:List (List UInt8×Int×Int×Int×Int×Int×Int×Bool×Int×Int×Int×Unit))++e).length+[(GA d,f.1,d.2.2)].length)*96<=140737488355328)<|
some (.inl (Wq (g+1),f.2.1,f.2.2.1,f.2.2.2.1,([]:List (List UInt8×Int×Int×Int×Int×Int×Int×Bool×Int×Int×Int×Unit))++e++[(GA d,f.1,d.2.2)],()))
else
Zw ((([]:List (List UInt8×Int×Int×Int×Int×Int×Int×Bool×Int×Int×Int×Unit)).length+e.length)*96<=140737488355328)<|
Zw (((([]:List (List UInt8×Int×Int×Int×Int×Int×Int×Bool×Int×Int×Int×Unit))++e).length+[(GA d,Wq ((a.length:Int)-(b.1.2.1.2.2.1.length:Int)),d.2.2)].length)*96<=140737488355328)<|
some (.inl (Wq (g+1),i,j,h,([]:List (List UInt8×Int×Int×Int×Int×Int×Int×Bool×Int×Int×Int×Unit))++e++[(GA d,Wq ((a.length:Int)-(b.1.2.1.2.2.1.length:Int)),d.2.2)],()))
else
Zt (λv=>ZbG b a c e v.1 v.2.1 v.2.2.1 v.2.2.2.1 v.2.2.2.2.1 v.2.2.2.2.2.1) (([]:List (Int×Int×Zz×Zz×Unit)),([]:List (Int×Int×Zz×Zz×Unit)),Wq ((a.length:Int)-(b.1.2.1.2.2.1.length:Int)),i,j,h,())
def ZbI (c:Zc×Zd) (b:List ZF) (j:List Zf) (l k:List Zh) (f:List Zu) (h:Int) (m:List Int) (n i:Int):Option (((List Zu)×Int×(List Int)×Int×Int×Unit)⊕(((List Zh)×(List Zh)×Int×(List Int)×Int×Int×Unit)⊕((Int×(List Int)×Int×Int×(List Zf)×Unit)⊕(Zc×Zo×Zd)))):=
if 0<h then
(Zi (m,n,i,()) 4).bind λa=>
if Wq (1+a.1)=1 then
(Zi a.2 2).bind λd=>
if d.1=0 then
(Zi d.2 (b.length:Int)).bind λe=>
Zw ((f.length+[(Wq ((1:Int)+a.1),(0:Int),([]:List Int),([]:List Int),[e.1],())].length)*88<=140737488355328)<|
some (.inl (f++[(Wq ((1:Int)+a.1),(0:Int),([]:List Int),([]:List Int),[e.1],())],Wq (h-1),e.2.1,e.2.2.1,e.2.2.2.1,()))
else
Zw ((f.length+[(Wq ((1:Int)+a.1),(0:Int),([]:List Int),([]:List Int),([]:List Int),())].length)*88<=140737488355328)<|
some (.inl (f++[(Wq ((1:Int)+a.1),(0:Int),([]:List Int),([]:List Int),([]:List Int),())],Wq (h-1),d.2.1,d.2.2.1,d.2.2.2.1,()))
else
(Zi a.2 9).bind λd=>
(Zi d.2 2).bind λe=>
if e.1=0 then
(Zi e.2 (b.length:Int)).bind λg=>
Zw ((f.length+[(Wq ((1:Int)+a.1),Wq ((1:Int)+d.1),([]:List Int),([]:List Int),[g.1],())].length)*88<=140737488355328)<|
some (.inl (f++[(Wq ((1:Int)+a.1),Wq ((1:Int)+d.1),([]:List Int),([]:List Int),[g.1],())],Wq (h-1),g.2.1,g.2.2.1,g.2.2.2.1,()))
else
Zw ((f.length+[(Wq ((1:Int)+a.1),Wq ((1:Int)+d.1),([]:List Int),([]:List Int),([]:List Int),())].length)*88<=140737488355328)<|
some (.inl (f++[(Wq ((1:Int)+a.1),Wq ((1:Int)+d.1),([]:List Int),([]:List Int),([]:List Int),())],Wq (h-1),e.2.1,e.2.2.1,e.2.2.2.1,()))
else
(Zi (m,n,i,()) 2).bind λa=>
if a.1=0 then
some (.inr (.inr (.inr (c.1,(j,l,k,f,[([(116:UInt8),121,112],(1000:Int),(1000:Int),(1000:Int),(1000:Int),())]++[([(115:UInt8),108,111,119],(1100:Int),(1300:Int),(1000:Int),(1200:Int),())],()),a.2))))
else
some (.inr (.inr (.inr (c.1,(j,l,k,f,[([(116:UInt8),121,112],(1000:Int),(1000:Int),(1000:Int),(1000:Int),())],()),a.2))))
def ZbJ (i:Zc×Zd) (a:List ZF) (k:Int×Zd) (q:List Zf) (h f:List Zh) (d:Int) (o:List Int) (n p:Int):Option (((List Zh)×(List Zh)×Int×(List Int)×Int×Int×Unit)⊕((Int×(List Int)×Int×Int×(List Zf)×Unit)⊕(Zc×Zo×Zd))):=
if d<(a.length:Int)then
(Zi (o,n,p,()) 60).bind λb=>
(Zi b.2 (([([(109:UInt8),97,105,110],(0:Int),Wq ((100:Int)+k.1),(0:Int),(50:Int),(-1:Int),(1:Int),false,(0:Int),(0:Int),(0:Int),())].length):Int)).bind λj=>
(Zi j.2 30).bind λe=>
(atI a d).bind λm=>
if(GI m)=true then
if d=Wq ((a.length:Int)-(i.1.2.1.2.2.1.length:Int))then
if(GI m)=true then
some (.inl (h,f,Wq (d+1),e.2.1,e.2.2.1,e.2.2.2.1,()))
else
(Zi e.2 8).bind λc=>
if 0<c.1 then
Zw ((f.length+[(d,j.1,(Wq (b.1-20),Wq (Wq (b.1-20)+e.1),()),((0:Int),(0:Int),()),())].length)*48<=140737488355328)<|
some (.inl (h,f++[(d,j.1,(Wq (b.1-20),Wq (Wq (b.1-20)+e.1),()),((0:Int),(0:Int),()),())],Wq (d+1),c.2.1,c.2.2.1,c.2.2.2.1,()))
else
some (.inl (h,f,Wq (d+1),c.2.1,c.2.2.1,c.2.2.2.1,()))
else
(Zi e.2 8).bind λc=>
if 0<c.1 then
(Zi c.2 20).bind λg=>
(Zi g.2 10).bind λl=>
Zw ((h.length+[(d,j.1,(Wq (b.1-20),Wq (Wq (b.1-20)+e.1),()),(g.1,Wq (g.1+l.1),()),())].length)*48<=140737488355328)<|
some (.inl (h++[(d,j.1,(Wq (b.1-20),Wq (Wq (b.1-20)+e.1),()),(g.1,Wq (g.1+l.1),()),())],f,Wq (d+1),l.2.1,l.2.2.1,l.2.2.2.1,()))
else
if(GI m)=true then
some (.inl (h,f,Wq (d+1),c.2.1,c.2.2.1,c.2.2.2.1,()))
else
(Zi c.2 8).bind λg=>
if 0<g.1 then
Zw ((f.length+[(d,j.1,(Wq (b.1-20),Wq (Wq (b.1-20)+e.1),()),((0:Int),(0:Int),()),())].length)*48<=140737488355328)<|
some (.inl (h,f++[(d,j.1,(Wq (b.1-20),Wq (Wq (b.1-20)+e.1),()),((0:Int),(0:Int),()),())],Wq (d+1),g.2.1,g.2.2.1,g.2.2.2.1,()))
else
some (.inl (h,f,Wq (d+1),g.2.1,g.2.2.1,g.2.2.2.1,()))
else
if(GI m)=true then
some (.inl (h,f,Wq (d+1),e.2.1,e.2.2.1,e.2.2.2.1,()))
else
(Zi e.2 8).bind λc=>
if 0<c.1 then
Zw ((f.length+[(d,j.1,(Wq (b.1-20),Wq (Wq (b.1-20)+e.1),()),((0:Int),(0:Int),()),())].length)*48<=140737488355328)<|
some (.inl (h,f++[(d,j.1,(Wq (b.1-20),Wq (Wq (b.1-20)+e.1),()),((0:Int),(0:Int),()),())],Wq (d+1),c.2.1,c.2.2.1,c.2.2.2.1,()))
else
some (.inl (h,f,Wq (d+1),c.2.1,c.2.2.1,c.2.2.2.1,()))
else
(Zi (o,n,p,()) 3).bind λb=>
Zt (λv=>ZbI i a q h f v.1 v.2.1 v.2.2.1 v.2.2.2.1 v.2.2.2.2.1) (([]:List Zu),b.1,b.2.1,b.2.2.1,b.2.2.2.1,())
def Zaa (b:Zc×Zd) (a:List ZF) (c:Int×Zd) (g:Int) (i:List Int) (j h:Int) (e:List Zf):Option ((Int×(List Int)×Int×Int×(List Zf)×Unit)⊕(Zc×Zo×Zd)):=
if g<(([([(109:UInt8),97,105,110],(0:Int),Wq ((100:Int)+c.1),(0:Int),(50:Int),(-1:Int),(1:Int),false,(0:Int),(0:Int),(0:Int),())].length):Int)then
(atI ([([(109:UInt8),97,105,110],(0:Int),Wq ((100:Int)+c.1),(0:Int),(50:Int),(-1:Int),(1:Int),false,(0:Int),(0:Int),(0:Int),())]) g).bind λd=>
if 0<g then
(Zi (i,j,h,()) (a.length:Int)).bind λf=>
Zw ((([]:List (List UInt8×Int×Int×Int×Int×Int×Int×Bool×Int×Int×Int×Unit)).length+e.length)*96<=140737488355328)<|
Zw (((([]:List (List UInt8×Int×Int×Int×Int×Int×Int×Bool×Int×Int×Int×Unit))++e).length+[(d.1,f.1,d.2.2)].length)*96<=140737488355328)<|
some (.inl (Wq (g+1),f.2.1,f.2.2.1,f.2.2.2.1,([]:List (List UInt8×Int×Int×Int×Int×Int×Int×Bool×Int×Int×Int×Unit))++e++[(d.1,f.1,d.2.2)],()))
else
Zw ((([]:List (List UInt8×Int×Int×Int×Int×Int×Int×Bool×Int×Int×Int×Unit)).length+e.length)*96<=140737488355328)<|
Zw (((([]:List (List UInt8×Int×Int×Int×Int×Int×Int×Bool×Int×Int×Int×Unit))++e).length+[(d.1,Wq ((a.length:Int)-(b.1.2.1.2.2.1.length:Int)),d.2.2)].length)*96<=140737488355328)<|
some (.inl (Wq (g+1),i,j,h,([]:List (List UInt8×Int×Int×Int×Int×Int×Int×Bool×Int×Int×Int×Unit))++e++[(d.1,Wq ((a.length:Int)-(b.1.2.1.2.2.1.length:Int)),d.2.2)],()))
else
Zt (λv=>ZbJ b a c e v.1 v.2.1 v.2.2.1 v.2.2.2.1 v.2.2.2.2.1 v.2.2.2.2.2.1) (([]:List (Int×Int×Zz×Zz×Unit)),([]:List (Int×Int×Zz×Zz×Unit)),Wq ((a.length:Int)-(b.1.2.1.2.2.1.length:Int)),i,j,h,())
def ZbK (c:Zc×Zd) (b:List ZF) (j:List Zf) (l k:List Zh) (f:List Zu) (h:Int) (m:List Int) (n i:Int):Option (((List Zu)×Int×(List Int)×Int×Int×Unit)⊕(((List Zh)×(List Zh)×Int×(List Int)×Int×Int×Unit)⊕((Int×(List Int)×Int×Int×(List Zf)×Unit)⊕(Zc×Zo×Zd)))):=
if 0<h then
(Zi (m,n,i,()) 4).bind λa=>
if Wq (1+a.1)=1 then
(Zi a.2 2).bind λd=>
if d.1=0 then
(Zi d.2 (b.length:Int)).bind λe=>
Zw ((f.length+[(Wq ((1:Int)+a.1),(0:Int),([]:List Int),([]:List Int),[e.1],())].length)*88<=140737488355328)<|
some (.inl (f++[(Wq ((1:Int)+a.1),(0:Int),([]:List Int),([]:List Int),[e.1],())],Wq (h-1),e.2.1,e.2.2.1,e.2.2.2.1,()))
else
Zw ((f.length+[(Wq ((1:Int)+a.1),(0:Int),([]:List Int),([]:List Int),([]:List Int),())].length)*88<=140737488355328)<|
some (.inl (f++[(Wq ((1:Int)+a.1),(0:Int),([]:List Int),([]:List Int),([]:List Int),())],Wq (h-1),d.2.1,d.2.2.1,d.2.2.2.1,()))
else
(Zi a.2 9).bind λd=>
(Zi d.2 2).bind λe=>
if e.1=0 then
(Zi e.2 (b.length:Int)).bind λg=>
Zw ((f.length+[(Wq ((1:Int)+a.1),Wq ((1:Int)+d.1),([]:List Int),([]:List Int),[g.1],())].length)*88<=140737488355328)<|
some (.inl (f++[(Wq ((1:Int)+a.1),Wq ((1:Int)+d.1),([]:List Int),([]:List Int),[g.1],())],Wq (h-1),g.2.1,g.2.2.1,g.2.2.2.1,()))
else
Zw ((f.length+[(Wq ((1:Int)+a.1),Wq ((1:Int)+d.1),([]:List Int),([]:List Int),([]:List Int),())].length)*88<=140737488355328)<|
some (.inl (f++[(Wq ((1:Int)+a.1),Wq ((1:Int)+d.1),([]:List Int),([]:List Int),([]:List Int),())],Wq (h-1),e.2.1,e.2.2.1,e.2.2.2.1,()))
else
(Zi (m,n,i,()) 2).bind λa=>
if a.1=0 then
some (.inr (.inr (.inr (c.1,(j,l,k,f,[([(116:UInt8),121,112],(1000:Int),(1000:Int),(1000:Int),(1000:Int),())]++[([(115:UInt8),108,111,119],(1100:Int),(1300:Int),(1000:Int),(1200:Int),())],()),a.2))))
else
some (.inr (.inr (.inr (c.1,(j,l,k,f,[([(116:UInt8),121,112],(1000:Int),(1000:Int),(1000:Int),(1000:Int),())],()),a.2))))
def Za9 (i:Zc×Zd) (a:List ZF) (k:List Zf×Zd) (q:List Zf) (h f:List Zh) (d:Int) (p:List Int) (n o:Int):Option (((List Zh)×(List Zh)×Int×(List Int)×Int×Int×Unit)⊕((Int×(List Int)×Int×Int×(List Zf)×Unit)⊕(Zc×Zo×Zd))):=
if d<(a.length:Int)then
(Zi (p,n,o,()) 60).bind λb=>
(Zi b.2 (k.1.length:Int)).bind λj=>
(Zi j.2 30).bind λe=>
(atI a d).bind λm=>
if(GI m)=true then
if d=Wq ((a.length:Int)-(i.1.2.1.2.2.1.length:Int))then
if(GI m)=true then
some (.inl (h,f,Wq (d+1),e.2.1,e.2.2.1,e.2.2.2.1,()))
else
(Zi e.2 8).bind λc=>
if 0<c.1 then
Zw ((f.length+[(d,j.1,(Wq (b.1-20),Wq (Wq (b.1-20)+e.1),()),((0:Int),(0:Int),()),())].length)*48<=140737488355328)<|
some (.inl (h,f++[(d,j.1,(Wq (b.1-20),Wq (Wq (b.1-20)+e.1),()),((0:Int),(0:Int),()),())],Wq (d+1),c.2.1,c.2.2.1,c.2.2.2.1,()))
else
some (.inl (h,f,Wq (d+1),c.2.1,c.2.2.1,c.2.2.2.1,()))
else
(Zi e.2 8).bind λc=>
if 0<c.1 then
(Zi c.2 20).bind λg=>
(Zi g.2 10).bind λl=>
Zw ((h.length+[(d,j.1,(Wq (b.1-20),Wq (Wq (b.1-20)+e.1),()),(g.1,Wq (g.1+l.1),()),())].length)*48<=140737488355328)<|
some (.inl (h++[(d,j.1,(Wq (b.1-20),Wq (Wq (b.1-20)+e.1),()),(g.1,Wq (g.1+l.1),()),())],f,Wq (d+1),l.2.1,l.2.2.1,l.2.2.2.1,()))
else
if(GI m)=true then
some (.inl (h,f,Wq (d+1),c.2.1,c.2.2.1,c.2.2.2.1,()))
else
(Zi c.2 8).bind λg=>
if 0<g.1 then
Zw ((f.length+[(d,j.1,(Wq (b.1-20),Wq (Wq (b.1-20)+e.1),()),((0:Int),(0:Int),()),())].length)*48<=140737488355328)<|
some (.inl (h,f++[(d,j.1,(Wq (b.1-20),Wq (Wq (b.1-20)+e.1),()),((0:Int),(0:Int),()),())],Wq (d+1),g.2.1,g.2.2.1,g.2.2.2.1,()))
else
some (.inl (h,f,Wq (d+1),g.2.1,g.2.2.1,g.2.2.2.1,()))
else
if(GI m)=true then
some (.inl (h,f,Wq (d+1),e.2.1,e.2.2.1,e.2.2.2.1,()))
else
(Zi e.2 8).bind λc=>
if 0<c.1 then
Zw ((f.length+[(d,j.1,(Wq (b.1-20),Wq (Wq (b.1-20)+e.1),()),((0:Int),(0:Int),()),())].length)*48<=140737488355328)<|
some (.inl (h,f++[(d,j.1,(Wq (b.1-20),Wq (Wq (b.1-20)+e.1),()),((0:Int),(0:Int),()),())],Wq (d+1),c.2.1,c.2.2.1,c.2.2.2.1,()))
else
some (.inl (h,f,Wq (d+1),c.2.1,c.2.2.1,c.2.2.2.1,()))
else
(Zi (p,n,o,()) 3).bind λb=>
Zt (λv=>ZbK i a q h f v.1 v.2.1 v.2.2.1 v.2.2.2.1 v.2.2.2.2.1) (([]:List Zu),b.1,b.2.1,b.2.2.1,b.2.2.2.1,())
def Zba (b:Zc×Zd) (a:List ZF) (c:List Zf×Zd) (g:Int) (i:List Int) (j h:Int) (e:List Zf):Option ((Int×(List Int)×Int×Int×(List Zf)×Unit)⊕(Zc×Zo×Zd)):=
if g<(c.1.length:Int)then
(atI c.1 g).bind λd=>
if 0<g then
(Zi (i,j,h,()) (a.length:Int)).bind λf=>
Zw ((([]:List (List UInt8×Int×Int×Int×Int×Int×Int×Bool×Int×Int×Int×Unit)).length+e.length)*96<=140737488355328)<|
Zw (((([]:List (List UInt8×Int×Int×Int×Int×Int×Int×Bool×Int×Int×Int×Unit))++e).length+[(GA d,f.1,d.2.2)].length)*96<=140737488355328)<|
some (.inl (Wq (g+1),f.2.1,f.2.2.1,f.2.2.2.1,([]:List (List UInt8×Int×Int×Int×Int×Int×Int×Bool×Int×Int×Int×Unit))++e++[(GA d,f.1,d.2.2)],()))
else
Zw ((([]:List (List UInt8×Int×Int×Int×Int×Int×Int×Bool×Int×Int×Int×Unit)).length+e.length)*96<=140737488355328)<|
Zw (((([]:List (List UInt8×Int×Int×Int×Int×Int×Int×Bool×Int×Int×Int×Unit))++e).length+[(GA d,Wq ((a.length:Int)-(b.1.2.1.2.2.1.length:Int)),d.2.2)].length)*96<=140737488355328)<|
some (.inl (Wq (g+1),i,j,h,([]:List (List UInt8×Int×Int×Int×Int×Int×Int×Bool×Int×Int×Int×Unit))++e++[(GA d,Wq ((a.length:Int)-(b.1.2.1.2.2.1.length:Int)),d.2.2)],()))
else
Zt (λv=>Za9 b a c e v.1 v.2.1 v.2.2.1 v.2.2.2.1 v.2.2.2.2.1 v.2.2.2.2.2.1) (([]:List (Int×Int×Zz×Zz×Unit)),([]:List (Int×Int×Zz×Zz×Unit)),Wq ((a.length:Int)-(b.1.2.1.2.2.1.length:Int)),i,j,h,())
def Zg8 (h:Zd):Option (Zc×Zo×Zd):=
(Zfu h 4 false).bind λd=>
(Zi d.2 6).bind λg=>
if g.1=0 then
(Zfu g.2 5 true).bind λe=>
(YU e.1.2.1).bind λc=>
(Zfy e.2).bind λb=>
if(b.1.length:Int)=0 then
(Zi b.2 400).bind λa=>
Zt (λv=>J9 e c a v.1 v.2.1 v.2.2.1 v.2.2.2.1 v.2.2.2.2.1) ((0:Int),a.2.1,a.2.2.1,a.2.2.2.1,([]:List Zf),())
else
(ZcA b.1).bind λf=>
if f then
Zt (λv=>ZbH e c b v.1 v.2.1 v.2.2.1 v.2.2.2.1 v.2.2.2.2.1) ((0:Int),b.2.1,b.2.2.1,b.2.2.2.1,([]:List Zf),())
else
(Zi b.2 400).bind λa=>
Zt (λv=>J9 e c a v.1 v.2.1 v.2.2.1 v.2.2.2.1 v.2.2.2.2.1) ((0:Int),a.2.1,a.2.2.1,a.2.2.2.1,([]:List Zf),())
else
(YU d.1.2.1).bind λc=>
(Zfy g.2).bind λb=>
if(b.1.length:Int)=0 then
(Zi b.2 400).bind λa=>
Zt (λv=>Zaa d c a v.1 v.2.1 v.2.2.1 v.2.2.2.1 v.2.2.2.2.1) ((0:Int),a.2.1,a.2.2.1,a.2.2.2.1,([]:List Zf),())
else
(ZcA b.1).bind λf=>
if f then
Zt (λv=>Zba d c b v.1 v.2.1 v.2.2.1 v.2.2.2.1 v.2.2.2.2.1) ((0:Int),b.2.1,b.2.2.1,b.2.2.2.1,([]:List Zf),())
else
(Zi b.2 400).bind λa=>
Zt (λv=>Zaa d c a v.1 v.2.1 v.2.2.1 v.2.2.2.1 v.2.2.2.2.1) ((0:Int),a.2.1,a.2.2.1,a.2.2.2.1,([]:List Zf),())
def c26:Ctr:=⟨[.io (.flat (Q6))],[.own (Ztr),.own (ZvZ)],λa K=>Zx a λb a=>YR (Zg8 b) λr=>K (r.1,r.2.1,()) (r.2.2,())⟩
def ZeI (f:Zd):Option (Zc×Zo×Zd):=
(Zg8 f).bind λa=>
(Zi a.2.2 24).bind λb=>
if b.1=0 then
(Zi b.2 2).bind λe=>
(atI ([(-1:Int),1000]) e.1).bind λc=>
(atI a.2.1.1 0).bind λd=>
some (a.1,(List.set a.2.1.1 (Int.toNat 0) (GA d,c,d.2.2),a.2.1.2),e.2)
else
if b.1=1 then
if 0<(a.2.1.2.1.length:Int)then
(Zi b.2 2).bind λe=>
(atI ([(-1:Int),6]) e.1).bind λc=>
(atI a.2.1.2.1 0).bind λd=>
some (a.1,(a.2.1.1,List.set a.2.1.2.1 (Int.toNat 0) (Gj d,c,d.2.2),a.2.1.2.2),e.2)
else
some (a.1,a.2.1,b.2)
else
if b.1=2 then
if 0<(a.2.1.2.1.length:Int)then
(atI a.2.1.2.1 0).bind λc=>
some (a.1,(a.2.1.1,List.set a.2.1.2.1 (Int.toNat 0) (Gj c,GQ c,(Wq (Ga (Gt c)+1),(Gt c).2),c.2.2.2),a.2.1.2.2),b.2)
else
some (a.1,a.2.1,b.2)
else
if b.1=3 then
if 0<(a.2.1.2.2.1.length:Int)then
(atI a.2.1.2.2.1 0).bind λc=>
some (a.1,(a.2.1.1,a.2.1.2.1,List.set a.2.1.2.2.1 (Int.toNat 0) (Gj c,GQ c,Gt c,(K8 (G3 c),1,()),()),a.2.1.2.2.2),b.2)
else
some (a.1,a.2.1,b.2)
else
if b.1=4 then
(atI a.2.1.2.2.2.2.1 0).bind λc=>
Zw ((a.2.1.2.2.2.2.1.length+[c].length)*48<=140737488355328)<|
some (a.1,(a.2.1.1,a.2.1.2.1,a.2.1.2.2.1,a.2.1.2.2.2.1,a.2.1.2.2.2.2.1++[c],()),b.2)
else
if b.1=5 then
Zw ((a.2.1.2.2.2.1.length+[((0:Int),(0:Int),([]:List Int),([]:List Int),([]:List Int),())].length)*88<=140737488355328)<|
some (a.1,(a.2.1.1,a.2.1.2.1,a.2.1.2.2.1,a.2.1.2.2.2.1++[((0:Int),(0:Int),([]:List Int),([]:List Int),([]:List Int),())],a.2.1.2.2.2.2),b.2)
else
if b.1=6 then
if 0<(a.2.1.2.2.1.length:Int)then
(atI a.2.1.2.2.1 0).bind λc=>
Zw ((a.2.1.2.1.length+[c].length)*48<=140737488355328)<|
some (a.1,(a.2.1.1,a.2.1.2.1++[c],a.2.1.2.2),b.2)
else
some (a.1,a.2.1,b.2)
else
if b.1=7 then
some (a.1,([],[],[],[],[],()),b.2)
else
some (a.1,a.2.1,b.2)
def c27:Ctr:=⟨[.io (.flat (Q6))],[.own (Ztr),.own (ZvZ)],λa K=>Zx a λb a=>YR (ZeI b) λr=>K (r.1,r.2.1,()) (r.2.2,())⟩
def ZIM (b:List Int):Option (Zc×Zo×Int×Int):=
(Zfr b).bind λf=>
(ZeI f).bind λa=>
(Zi a.2.2 (Max.max (a.2.1.2.2.2.2.1.length:Int) 1)).bind λe=>
(Zi e.2 8).bind λd=>
(Zi d.2 (Max.max (a.2.1.1.length:Int) 1)).bind λc=>
(Zi c.2 8).bind λg=>
some (a.1,a.2.1,Wq (e.1+Wq (Int.tdiv d.1 7)),Wq (c.1+Wq (Int.tdiv g.1 7)))
def c28:Ctr:=⟨[.dat (.sl (.int .u8))],[.own (Ztr),.own (ZvZ),.dat Iq,.dat Iq],λa K=>Zx a λb a=>YR (ZIM b) λr=>K (r.1,r.2.1,r.2.2.1,r.2.2.2,()) ()⟩
def Z6 (c b a:Int):Option Bool:=
if b<=c then
some (decide (c<=a))
else
some false
def c29:Ctr:=D3 Iq Iq Iq (.bool) Z6
def ZeS (a:List UInt8):Option Bool:=
(Z6 (a.length:Int) 1 8).bind λb=>
if b then
Zw (a.length<=1000000)<|
if Go.Lib.trimS a [(97:UInt8),98,99,100,101,102,103,104,105,106,107,108,109,110,111,112,113,114,115,116,117,118,119,120,121,122,48,49,50,51,52,53,54,55,56,57]=([]:List UInt8)then
(atI a 0).bind λc=>
some (decide ((0:Int)<=Go.Lib.indexByte [(97:UInt8),98,99,100,101,102,103,104,105,106,107,108,109,110,111,112,113,114,115,116,117,118,119,120,121,122] (Nat.toUInt8 (Int.toNat ((UInt8.toNat c):Int)))))
else
some false
else
some false
def c30:Ctr:=D1 (.str) (.bool) ZeS
def Zan (a:List XI):Option Int:=
some (a.length:Int)
def c31:Ctr:=D1 (.sl (ZqP)) Iq Zan
def QX (b:List (List UInt8)) (d:List UInt8) (a:Int):Option ((Int×Unit)⊕Int):=
if a<(b.length:Int)then
(atI b a).bind λc=>
if d=c then
some (.inr a)
else
some (.inl (Wq (a+1),()))
else
some (.inr (-1))
def QW (a:List (List UInt8)) (b:List UInt8):Option Int:=
Zt (λv=>QX a b v.1) ((0:Int),())
def c32:Ctr:=D2 (.sl (.str)) (.str) Iq QW
def Qj (b:List (List UInt8)) (c:List UInt8):Option Bool:=
(QW b c).bind λa=>
some (decide (0<=a))
def c33:Ctr:=D2 (.sl (.str)) (.str) (.bool) Qj
def Zdm (a:List (List UInt8)) (b:Int):Option ((Int×Unit)⊕Bool):=
if b<(a.length:Int)then
(atI a b).bind λc=>
(ZeS c).bind λd=>
if d then
Zw ((0:Int)<=b)<|
Zw (b<=(a.length:Int))<|
(Qj (List.take (Int.toNat b-Int.toNat 0) (List.drop (Int.toNat 0) a)) c).bind λe=>
if e then
some (.inr false)
else
some (.inl (Wq (b+1),()))
else
some (.inr false)
else
some (.inr true)
def Vs (a:List (List UInt8)):Option Bool:=
Zt (λv=>Zdm a v.1) ((0:Int),())
def c34:Ctr:=D1 (.sl (.str)) (.bool) Vs
def JN (b:List XI) (a:List (List UInt8)) (d:Int):Option (((List (List UInt8))×Int×Unit)⊕Bool):=
if d<(b.length:Int)then
(atI b d).bind λc=>
Zw ((a.length+[GE c].length)*16<=140737488355328)<|
if d=Wq ((b.length:Int)-1)then
if Hp c=2 then
if Hg c=0 then
if(Gg c)=true then
some (.inr false)
else
some (.inl (a++[GE c],Wq (d+1),()))
else
some (.inr false)
else
some (.inr false)
else
if Hp c=1 then
(Z6 (Hg c) 0 500).bind λe=>
if e then
some (.inl (a++[GE c],Wq (d+1),()))
else
some (.inr false)
else
some (.inr false)
else
(Zan b).bind λf=>
(Z6 f 2 5).bind λe=>
if e then
(Vs a).bind λg=>
some (.inr g)
else
some (.inr false)
def ZgP (a:List XI):Option Bool:=
Zt (λv=>JN a v.1 v.2.1) (([]:List (List UInt8)),(0:Int),())
def c35:Ctr:=D1 (.sl (ZqP)) (.bool) ZgP
def ZgR (a:Int):Option Bool:=
if a=4 then
some true
else
some (decide (a=5))
def c36:Ctr:=D1 Iq (.bool) ZgR
def QA (a:List Int):Option Int:=
some (a.length:Int)
def c37:Ctr:=D1 (.sl Iq) Iq QA
def ZeQ (b d c:Int):Option Bool:=
(Z6 b d c).bind λa=>
some !a
def c38:Ctr:=D3 Iq (.ptr Iq) (.ptr Iq) (.bool) ZeQ
def Yz (b:List Int) (c:Int×Int×Unit) (a:Int):Option ((Int×Unit)⊕Int):=
if a<(b.length:Int)then
(atI b a).bind λe=>
(ZeQ e c.1 c.2.1).bind λd=>
if d then
some (.inr a)
else
some (.inl (Wq (a+1),()))
else
some (.inr (-1))
def Yp (a:List Int) (b:Int×Int×Unit):Option Int:=
Zt (λv=>Yz a b v.1) ((0:Int),())
def c39:Ctr:=D2 (.sl Iq) (.fn 225 (.pair (.ptr Iq) (.pair (.ptr Iq) (.unit)))) Iq Yp
def YJ (b:List Int) (c:Int×Int×Unit):Option Bool:=
(Yp b c).bind λa=>
some (decide (0<=a))
def c40:Ctr:=D2 (.sl Iq) (.fn 225 (.pair (.ptr Iq) (.pair (.ptr Iq) (.unit)))) (.bool) YJ
def Xy (a:List Int) (c b:Int):Option Bool:=
(YJ a (c,b,())).bind λd=>
some !d
def c41:Ctr:=D3 (.sl Iq) Iq Iq (.bool) Xy
def QK (a:List Int) (b:Int):Option ((Int×Unit)⊕Bool):=
if b<(a.length:Int)then
(atI a (Wq (b-1))).bind λc=>
(atI a b).bind λd=>
if d<=c then
some (.inr false)
else
some (.inl (Wq (b+1),()))
else
some (.inr true)
def Qz (a:List Int):Option Bool:=
Zt (λv=>QK a v.1) ((1:Int),())
def c42:Ctr:=D1 (.sl Iq) (.bool) Qz
def Zgm (a:List Int):Option Bool:=
(QA a).bind λb=>
(Z6 b 1 4).bind λd=>
if d then
(Xy a 0 100000).bind λe=>
if e then
(Qz a).bind λc=>
some c
else
some false
else
some false
def c43:Ctr:=D1 (.sl Iq) (.bool) Zgm
def ZgO (a:ZH):Option Bool:=
(Zgm (GT a)).bind λb=>
if b then
(Zgm (Gq a)).bind λc=>
if c then
if((Gr a).length:Int)=Wq (((GT a).length:Int)*((Gq a).length:Int))then
(Xy (Gr a) (-1000000) 1000000).bind λd=>
some d
else
some false
else
some false
else
some false
def c44:Ctr:=D1 (Zbi) (.bool) ZgO
def VO (b:List Int) (c a:Int):Option ((Int×Int×Unit)⊕Int):=
if a<(b.length:Int)then
(atI b a).bind λd=>
some (.inl (Min.min c d,Wq (a+1),()))
else
some (.inr c)
def V7 (a:List Int):Option Int:=
if(a.length:Int)<1 then
none
else
(atI a 0).bind λb=>
Zt (λv=>VO a v.1 v.2.1) (b,(1:Int),())
def c45:Ctr:=D1 (.sl Iq) Iq V7
def Jf (a:ZH) (d:Bool):Option Bool:=
(ZgO a).bind λb=>
if b then
if d then
(V7 (Gr a)).bind λc=>
some (decide (c<0))
else
some false
else
some true
def c46:Ctr:=D2 (Zbi) (.ptr (.bool)) (.bool) Jf
def Yi (b:List ZH) (e:Bool×Unit) (a:Int):Option ((Int×Unit)⊕Int):=
if a<(b.length:Int)then
(atI b a).bind λd=>
(Jf d e.1).bind λc=>
if c then
some (.inr a)
else
some (.inl (Wq (a+1),()))
else
some (.inr (-1))
def Z7 (a:List ZH) (b:Bool×Unit):Option Int:=
Zt (λv=>Yi a b v.1) ((0:Int),())
def c47:Ctr:=D2 (.sl (Zbi)) (.fn 338 (.pair (.ptr (.bool)) (.unit))) Iq Z7
def ZW (b:List ZH) (c:Bool×Unit):Option Bool:=
(Z7 b c).bind λa=>
some (decide (0<=a))
def c48:Ctr:=D2 (.sl (Zbi)) (.fn 338 (.pair (.ptr (.bool)) (.unit))) (.bool) ZW
def Zbm (b:List ZH) (a:Bool):Option Bool:=
if(b.length:Int)=2 then
(ZW b (a,())).bind λc=>
some !c
else
some false
def c49:Ctr:=D2 (.sl (Zbi)) (.bool) (.bool) Zbm
def Zd0 (a:XI):Option Bool:=
some (Gg a)
def c50:Ctr:=D1 (ZqP) (.bool) Zd0
def Ym (b:List XI) (a:Int):Option ((Int×Unit)⊕Int):=
if a<(b.length:Int)then
(atI b a).bind λd=>
(Zd0 d).bind λc=>
if c then
some (.inr a)
else
some (.inl (Wq (a+1),()))
else
some (.inr (-1))
def Yb (a:List XI) (b:Unit):Option Int:=
Zt (λv=>Ym a v.1) ((0:Int),())
def c51:Ctr:=D2 (.sl (ZqP)) (.fn 342 (.unit)) Iq Yb
def ZdZ (b:Zq):Option Int:=
(Yb (K6 b) ()).bind λa=>
some a
def c52:Ctr:=D1 (ZgA) Iq ZdZ
def Zbd (b:Zq):Option Int:=
(Zan (K6 b)).bind λa=>
some (Wq (a-1))
def c53:Ctr:=D1 (ZgA) Iq Zbd
def Zat (d:Zq) (a:Int):Option Bool:=
(Zbd d).bind λb=>
(Z6 a 0 (Wq (b-1))).bind λc=>
some c
def c54:Ctr:=D2 (ZgA) Iq (.bool) Zat
def Zd1 (b:Zq) (a:ZL):Option Bool:=
(ZgR (K9 a)).bind λf=>
if f then
if Gx a=0 then
if((GO a).length:Int)=0 then
(Zbm (Gy a) false).bind λe=>
if e then
(ZdZ b).bind λi=>
if Gi a=i then
if 0<=Gi a then
(Zat b (Gn a)).bind λd=>
if d then
some (!decide (Gn a=Gi a))
else
some false
else
some false
else
some false
else
some false
else
some false
else
some false
else
(Zbm (Gy a) true).bind λe=>
if e then
(Zbm (GO a) true).bind λh=>
if h then
(Zbd b).bind λj=>
if Gn a=j then
(Zat b (Gi a)).bind λd=>
if d then
if K9 a=1 then
(atI (K6 b) (Gi a)).bind λc=>
if(Gg c)=true then
some false
else
(Z6 (Gx a) 1 3).bind λg=>
some g
else
if K9 a=2 then
if K9 a=2 then
(atI (K6 b) (Gi a)).bind λc=>
if(Gg c)=true then
some (decide (Gx a=0))
else
some false
else
some false
else
if K9 a=3 then
(atI (K6 b) (Gi a)).bind λc=>
if(Gg c)=true then
some (decide (Gx a=0))
else
some false
else
some false
else
some false
else
some false
else
some false
else
some false
def c55:Ctr:=D2 (ZgA) (Zow) (.bool) Zd1
def Q5 (b a:ZL):Option Bool:=
if K9 b=K9 a then
if Gi b=Gi a then
some (decide (Gn b=Gn a))
else
some false
else
some false
def c56:Ctr:=D2 (Zow) (.ptr (Zow)) (.bool) Q5
def Yj (b:List ZL) (e:ZL×Unit) (a:Int):Option ((Int×Unit)⊕Int):=
if a<(b.length:Int)then
(atI b a).bind λd=>
(Q5 d e.1).bind λc=>
if c then
some (.inr a)
else
some (.inl (Wq (a+1),()))
else
some (.inr (-1))
def Z8 (a:List ZL) (b:ZL×Unit):Option Int:=
Zt (λv=>Yj a b v.1) ((0:Int),())
def c57:Ctr:=D2 (.sl (Zow)) (.fn 311 (.pair (.ptr (Zow)) (.unit))) Iq Z8
def Z0 (b:List ZL) (c:ZL×Unit):Option Bool:=
(Z8 b c).bind λa=>
some (decide (0<=a))
def c58:Ctr:=D2 (.sl (Zow)) (.fn 311 (.pair (.ptr (Zow)) (.unit))) (.bool) Z0
def ZaT (b:Zq) (a:Int):Option ((Int×Unit)⊕Bool):=
if a<((Ge b).length:Int)then
(atI (Ge b) a).bind λc=>
(Zd1 b c).bind λd=>
if d then
Zw ((0:Int)<=a)<|
Zw (a<=((Ge b).length:Int))<|
(Z0 (List.take (Int.toNat a-Int.toNat 0) (List.drop (Int.toNat 0) (Ge b))) (c,())).bind λe=>
if e then
some (.inr false)
else
some (.inl (Wq (a+1),()))
else
some (.inr false)
else
some (.inr (decide (((Ge b).length:Int)<=8)))
def Zcs (a:Zq):Option Bool:=
Zt (λv=>ZaT a v.1) ((0:Int),())
def c59:Ctr:=D1 (ZgA) (.bool) Zcs
def Zc8 (b:ZL) (a:Int):Option Bool:=
some (decide (K9 b=a))
def c60:Ctr:=D2 (Zow) (.ptr Iq) (.bool) Zc8
def Yq (b:List ZL) (e:Int×Unit) (a:Int):Option ((Int×Unit)⊕Int):=
if a<(b.length:Int)then
(atI b a).bind λd=>
(Zc8 d e.1).bind λc=>
if c then
some (.inr a)
else
some (.inl (Wq (a+1),()))
else
some (.inr (-1))
def Ye (a:List ZL) (b:Int×Unit):Option Int:=
Zt (λv=>Yq a b v.1) ((0:Int),())
def c61:Ctr:=D2 (.sl (Zow)) (.fn 320 (.pair (.ptr Iq) (.unit))) Iq Ye
def Z9 (b:List ZL) (c:Int×Unit):Option Bool:=
(Ye b c).bind λa=>
some (decide (0<=a))
def c62:Ctr:=D2 (.sl (Zow)) (.fn 320 (.pair (.ptr Iq) (.unit))) (.bool) Z9
def V5 (c:Zq) (a:Int):Option Bool:=
(Z9 (Ge c) (a,())).bind λb=>
some b
def c63:Ctr:=D2 (ZgA) Iq (.bool) V5
def Qy (a:Zq) (b c:Int):Option ((Int×Int×Unit)⊕Bool):=
if c<((K6 a).length:Int)then
(atI (K6 a) c).bind λh=>
if(Gg h)=true then
some (.inl (Wq (b+1),Wq (c+1),()))
else
some (.inl (b,Wq (c+1),()))
else
if GX a=1 then
if b=0 then
(Zbd a).bind λg=>
Zw ((0:Int)<=g)<|
if((Gw a).length:Int)=Wq (1*2^Min.min (Int.toNat g) (IntKind.bits IntKind.i64))then
(Xy (Gw a) 0 1).bind λi=>
some (.inr i)
else
some (.inr false)
else
some (.inr false)
else
if GX a=2 then
if b=1 then
if((Gw a).length:Int)=0 then
(V5 a 1).bind λf=>
if f then
some (.inr false)
else
(V5 a 2).bind λe=>
(V5 a 3).bind λd=>
some (.inr (!e==d))
else
some (.inr false)
else
some (.inr false)
else
if GX a=3 then
if b=1 then
if((Gw a).length:Int)=0 then
(V5 a 1).bind λf=>
if f then
(V5 a 2).bind λe=>
if e then
(V5 a 3).bind λd=>
some (.inr !d)
else
some (.inr false)
else
some (.inr false)
else
some (.inr false)
else
some (.inr false)
else
some (.inr false)
def Zby (a:Zq):Option Bool:=
Zt (λv=>Qy a v.1 v.2.1) ((0:Int),(0:Int),())
def c64:Ctr:=D1 (ZgA) (.bool) Zby
def ZhN (a:Zq):Option Bool:=
(ZeS (G0 a)).bind λb=>
if b then
(ZgP (K6 a)).bind λe=>
if e then
(Zcs a).bind λf=>
if f then
(Z6 (Hr a) 0 100000).bind λd=>
if d then
(Z6 (Hs a) 0 100000).bind λc=>
if c then
(Zby a).bind λg=>
some g
else
some false
else
some false
else
some false
else
some false
else
some false
def c65:Ctr:=D1 (ZgA) (.bool) ZhN
def VQ (d:ZI) (a:List (List UInt8)) (c:Int):Option (((List (List UInt8))×Int×Unit)⊕Bool):=
if c<((Gh d).length:Int)then
(atI (Gh d) c).bind λb=>
(ZhN b).bind λe=>
if e then
Zw ((a.length+[G0 b].length)*16<=140737488355328)<|
some (.inl (a++[G0 b],Wq (c+1),()))
else
some (.inr false)
else
if((Gh d).length:Int)<=8 then
(Vs a).bind λf=>
some (.inr f)
else
some (.inr false)
def Zfb (a:ZI):Option Bool:=
Zt (λv=>VQ a v.1 v.2.1) (([]:List (List UInt8)),(0:Int),())
def c66:Ctr:=D1 (VI) (.bool) Zfb
def JF (c:Ze) (a b:List (List UInt8)) (d:Int):Option (((List (List UInt8))×Int×Unit)⊕(((List (List UInt8))×Int×Unit)⊕Bool)):=
if d<((Gk c).length:Int)then
(atI (Gk c) d).bind λe=>
Zw ((b.length+[Hc e].length)*16<=140737488355328)<|
some (.inl (b++[Hc e],Wq (d+1),()))
else
if(a.length:Int)<=14 then
if((Gp c).length:Int)<=30 then
if(b.length:Int)<=8 then
(Vs a).bind λf=>
if f then
(Vs (Gp c)).bind λg=>
if g then
(Vs b).bind λh=>
some (.inr (.inr h))
else
some (.inr (.inr false))
else
some (.inr (.inr false))
else
some (.inr (.inr false))
else
some (.inr (.inr false))
else
some (.inr (.inr false))
def JG (b:Ze) (a:List (List UInt8)) (c:Int):Option (((List (List UInt8))×Int×Unit)⊕Bool):=
if c<((K4 b).length:Int)then
(atI (K4 b) c).bind λd=>
Zw ((a.length+[Hb d].length)*16<=140737488355328)<|
some (.inl (a++[Hb d],Wq (c+1),()))
else
Zt (λv=>JF b a v.1 v.2.1) (([]:List (List UInt8)),(0:Int),())
def Zal (a:Ze):Option Bool:=
Zt (λv=>JG a v.1 v.2.1) (([]:List (List UInt8)),(0:Int),())
def c67:Ctr:=D1 (Qv) (.bool) Zal
def Zb0 (a:List Zq):Option Int:=
some (a.length:Int)
def c68:Ctr:=D1 (.sl (ZgA)) Iq Zb0
def Zd7 (a:List (List UInt8)):Option Int:=
some (a.length:Int)
def c69:Ctr:=D1 (.sl (.str)) Iq Zd7
def Vm (d:Ze) (a:Int):Option Bool:=
(Zd7 (Gp d)).bind λb=>
(Z6 a 0 (Wq (b-1))).bind λc=>
some c
def c70:Ctr:=D2 (Qv) Iq (.bool) Vm
def Qq (a:Int) (c:Ze):Option Bool:=
(Vm c a).bind λb=>
some !b
def c71:Ctr:=D2 Iq (.ptr (Qv)) (.bool) Qq
def Yl (b:List Int) (e:Ze×Unit) (a:Int):Option ((Int×Unit)⊕Int):=
if a<(b.length:Int)then
(atI b a).bind λd=>
(Qq d e.1).bind λc=>
if c then
some (.inr a)
else
some (.inl (Wq (a+1),()))
else
some (.inr (-1))
def Ya (a:List Int) (b:Ze×Unit):Option Int:=
Zt (λv=>Yl a b v.1) ((0:Int),())
def c72:Ctr:=D2 (.sl Iq) (.fn 222 (.pair (.ptr (Qv)) (.unit))) Iq Ya
def Z4 (b:List Int) (c:Ze×Unit):Option Bool:=
(Ya b c).bind λa=>
some (decide (0<=a))
def c73:Ctr:=D2 (.sl Iq) (.fn 222 (.pair (.ptr (Qv)) (.unit))) (.bool) Z4
def JB (d:Ze) (b:ZI) (a:Zp):Option Bool:=
(Zb0 (Gh b)).bind λc=>
(Z6 (GJ a) 0 (Wq (c-1))).bind λf=>
if f then
(atI (Gh b) (GJ a)).bind λe=>
if((Gu a).length:Int)=((K6 e).length:Int)then
(Z4 (Gu a) (d,())).bind λg=>
some !g
else
some false
else
some false
def c74:Ctr:=D3 (Qv) (VI) (Zfz) (.bool) JB
def Zc9 (a:Int):Option Bool:=
some (!decide (a=1))
def c75:Ctr:=D1 Iq (.bool) Zc9
def YQ (b:List Int) (a:Int):Option ((Int×Unit)⊕Int):=
if a<(b.length:Int)then
(atI b a).bind λd=>
(Zc9 d).bind λc=>
if c then
some (.inr a)
else
some (.inl (Wq (a+1),()))
else
some (.inr (-1))
def YB (a:List Int) (b:Unit):Option Int:=
Zt (λv=>YQ a v.1) ((0:Int),())
def c76:Ctr:=D2 (.sl Iq) (.fn 153 (.unit)) Iq YB
def Yu (b:List Int) (c:Unit):Option Bool:=
(YB b ()).bind λa=>
some (decide (0<=a))
def c77:Ctr:=D2 (.sl Iq) (.fn 153 (.unit)) (.bool) Yu
def Jl (d:Ze) (c:Int) (b:List Int):Option ((Int×(List Int)×Unit)⊕((Int×(List Int)×Unit)⊕Bool)):=
if c<((Gk d).length:Int)then
(atI (Gk d) c).bind λa=>
if GD a=1 then
(Vm d (GM a)).bind λe=>
if e then
if GD a=1 then
(atI b (GM a)).bind λf=>
some (.inl (Wq (c+1),List.set b (Int.toNat (GM a)) (Wq (f+1)),()))
else
some (.inl (Wq (c+1),b,()))
else
some (.inr (.inr false))
else
if GD a=2 then
(Vm d (GM a)).bind λe=>
if e then
if GD a=1 then
(atI b (GM a)).bind λf=>
some (.inl (Wq (c+1),List.set b (Int.toNat (GM a)) (Wq (f+1)),()))
else
some (.inl (Wq (c+1),b,()))
else
some (.inr (.inr false))
else
some (.inr (.inr false))
else
(Yu b ()).bind λg=>
some (.inr (.inr !g))
def ZaV (g:ZI) (a:Ze) (d:Int) (c:List Int):Option ((Int×(List Int)×Unit)⊕Bool):=
if d<((K4 a).length:Int)then
(atI (K4 a) d).bind λb=>
(JB a g b).bind λf=>
if f then
(atI (Gu b) (Wq (((Gu b).length:Int)-1))).bind λe=>
(atI c e).bind λh=>
some (.inl (Wq (d+1),List.set c (Int.toNat e) (Wq (h+1)),()))
else
some (.inr false)
else
Zt (λv=>Jl a v.1 v.2.1) ((0:Int),c,())
def ZfW (b:ZI) (a:Ze):Option Bool:=
(Zfb b).bind λc=>
if c then
(Zal a).bind λd=>
if d then
Zw ((0:Int)<=((Gp a).length:Int))<|
Zw (((Gp a).length:Int)<=((Gp a).length:Int))<|
Zw (((Gp a).length:Int)<=4611686018427387904)<|
Zw (((8:Nat):Int)*((Gp a).length:Int)<=281474976710656)<|
Zt (λv=>ZaV b a v.1 v.2.1) ((0:Int),List.replicate (Int.toNat ((Gp a).length:Int)) (0:Int),())
else
some false
else
some false
def c78:Ctr:=D2 (VI) (Qv) (.bool) ZfW
def Zau (d:Int) (c:Zp) (a:List Y6) (b:Int):Option (((List Y6)×Int×Unit)⊕(((List Y6)×Int×Unit)⊕List Y6)):=
if b<((Gu c).length:Int)then
(atI (Gu c) b).bind λe=>
Zw ((a.length+[(d,b,e,decide (b=Wq (((Gu c).length:Int)-1)),())].length)*32<=140737488355328)<|
some (.inl (a++[(d,b,e,decide (b=Wq (((Gu c).length:Int)-1)),())],Wq (b+1),()))
else
some (.inr (.inl (a,Wq (d+1),())))
def Zav (d:Ze) (a:List Y6) (b:Int):Option (((List Y6)×Int×Unit)⊕(((List Y6)×Int×Unit)⊕List Y6)):=
if b<((Gk d).length:Int)then
(atI (Gk d) b).bind λc=>
Zw ((a.length+[((-1:Int),b,GM c,decide (GD c=1),())].length)*32<=140737488355328)<|
some (.inl (a++[((-1:Int),b,GM c,decide (GD c=1),())],Wq (b+1),()))
else
some (.inr (.inr a))
def Zaw (b:Ze) (a:List Y6) (c:Int):Option (((List Y6)×Int×Unit)⊕List Y6):=
if c<((K4 b).length:Int)then
(atI (K4 b) c).bind λd=>
Zt (λv=>Zau c d v.1 v.2.1) (a,(0:Int),())
else
Zt (λv=>Zav b v.1 v.2.1) (a,(0:Int),())
def Qh (a:Ze):Option (List Y6):=
Zt (λv=>Zaw a v.1 v.2.1) (([]:List Y6),(0:Int),())
def c79:Ctr:=⟨[.dat (Qv)],[.own (.ol 98 (.flat (Zk7)))],λa K=>Zx a λb a=>YR (Qh b) λr=>K (r,()) ()⟩
def Zbp (d:ZC) (a:Int):Option ((Int×Unit)⊕Bool):=
if a<((K5 d).length:Int)then
(atI (K5 d) a).bind λc=>
if a=0 then
if c=(-1)then
(atI (GC d) 0).bind λe=>
if e=0 then
if 0<a then
(Z6 c 0 (Wq (a-1))).bind λb=>
if b then
some (.inl (Wq (a+1),()))
else
some (.inr false)
else
some (.inl (Wq (a+1),()))
else
some (.inr false)
else
some (.inr false)
else
if 0<a then
(Z6 c 0 (Wq (a-1))).bind λb=>
if b then
some (.inl (Wq (a+1),()))
else
some (.inr false)
else
some (.inl (Wq (a+1),()))
else
some (.inr true)
def Zda (a:ZC):Option Bool:=
Zt (λv=>Zbp a v.1) ((0:Int),())
def c80:Ctr:=D1 (Zm2) (.bool) Zda
def ZhO (a:ZC) (b:Int):Option Bool:=
(QA (K5 a)).bind λc=>
(Z6 c 1 8).bind λh=>
if h then
(QA (GC a)).bind λi=>
if i=c then
(QA (GU a)).bind λg=>
if g=c then
(Zda a).bind λf=>
if f then
(Xy (GC a) 0 1000).bind λj=>
if j then
(Xy (GU a) 0 500).bind λd=>
if d then
(QA (Gv a)).bind λe=>
if e=b then
(Xy (Gv a) 0 (Wq (c-1))).bind λk=>
some k
else
some false
else
some false
else
some false
else
some false
else
some false
else
some false
else
some false
def c81:Ctr:=D2 (Zm2) Iq (.bool) ZhO
def Zd2 (b:Zc) (f:List Int) (a:Int):Option ((Int×Unit)⊕((Int×(List Int)×Unit)⊕Bool)):=
if a<((Gl b).length:Int)then
(atI (Gl b) a).bind λd=>
(atI f a).bind λe=>
(ZhO d e).bind λc=>
if c then
some (.inl (Wq (a+1),()))
else
some (.inr (.inr false))
else
some (.inr (.inr true))
def Zbz (f:Zc) (a:List Y6) (b:Int) (c:List Int):Option ((Int×(List Int)×Unit)⊕Bool):=
if b<(a.length:Int)then
(atI a b).bind λd=>
if(Hu d)=true then
some (.inl (Wq (b+1),c,()))
else
(atI c (Y6.net d)).bind λe=>
some (.inl (Wq (b+1),List.set c (Int.toNat (Y6.net d)) (Wq (e+1)),()))
else
Zt (λv=>Zd2 f c v.1) ((0:Int),())
def ZbW (a:Zc):Option Bool:=
(ZfW (GG a) (K3 a)).bind λb=>
if b then
if((Gl a).length:Int)=((Gp (K3 a)).length:Int)then
Zw ((0:Int)<=((Gl a).length:Int))<|
Zw (((Gl a).length:Int)<=((Gl a).length:Int))<|
Zw (((Gl a).length:Int)<=4611686018427387904)<|
Zw (((8:Nat):Int)*((Gl a).length:Int)<=281474976710656)<|
(Qh (K3 a)).bind λc=>
Zt (λv=>Zbz a c v.1 v.2.1) ((0:Int),List.replicate (Int.toNat ((Gl a).length:Int)) (0:Int),())
else
some false
else
some false
def c82:Ctr:=D1 (Xi) (.bool) ZbW
def QZ (a:ZL):Option (List (Int×Int×Unit)):=
if K9 a=2 then
some ([((0:Int),(0:Int),()),((0:Int),(1:Int),())])
else
if K9 a=3 then
some ([((1:Int),(0:Int),()),((1:Int),(1:Int),())])
else
if K9 a=1 then
if Gx a=1 then
some ([((0:Int),(0:Int),()),((1:Int),(1:Int),())])
else
if Gx a=2 then
some ([((0:Int),(1:Int),()),((1:Int),(0:Int),())])
else
some ([((0:Int),(0:Int),()),((0:Int),(1:Int),()),((1:Int),(0:Int),()),((1:Int),(1:Int),())])
else
some []
def c83:Ctr:=⟨[.dat (Zow)],[.own (.ol 105 (.flat (.pair Iq (.pair Iq (.unit)))))],λa K=>Zx a λb a=>YR (QZ b) λr=>K (r,()) ()⟩
def Xn (b g:Int) (e:ZL) (a:List (Int×Int×Unit)) (c:List Zn) (f:Int):Option (((List Zn)×Int×Unit)⊕(((List Zn)×Int×Unit)⊕List Zn)):=
if f<(a.length:Int)then
(atI a f).bind λd=>
Zw ((c.length+[(Wq (Wq ((2:Int)*Wq (b+Gi e))+d.1),Wq (Wq ((2:Int)*Wq (b+Gn e))+d.2.1),(1:Int),g,())].length)*32<=140737488355328)<|
some (.inl (c++[(Wq (Wq ((2:Int)*Wq (b+Gi e))+d.1),Wq (Wq ((2:Int)*Wq (b+Gn e))+d.2.1),(1:Int),g,())],Wq (f+1),()))
else
some (.inr (.inl (c,Wq (g+1),())))
def X6 (b:Int) (d:Zq) (a:List Zn) (c:Int):Option (((List Zn)×Int×Unit)⊕List Zn):=
if c<((Ge d).length:Int)then
(atI (Ge d) c).bind λe=>
(QZ e).bind λf=>
Zt (λv=>Xn b c e f v.1 v.2.1) (a,(0:Int),())
else
some (.inr a)
def Q0 (d:Zc) (b:Zp) (a:Int):Option (List Zn):=
(atI (Gh (GG d)) (GJ b)).bind λc=>
Zt (λv=>X6 a c v.1 v.2.1) (([]:List Zn),(0:Int),())
def c84:Ctr:=⟨[.dat (Xi),.dat (Zfz),.dat Iq],[.own (.ol 143 (.flat (Zaj)))],λa K=>Zx a λd a=>Zx a λc a=>Zx a λb a=>YR (Q0 d c b) λr=>K (r,()) ()⟩
def Xa (a:List Int):Option (List Int):=
Zw ((([]:List Int).length+a.length)*8<=140737488355328)<|
some (([]:List Int)++a)
def c85:Ctr:=⟨[.dat (.sl Iq)],[.own (.ol 2 (.flat Iq))],λa K=>Zx a λb a=>YR (Xa b) λr=>K (r,()) ()⟩
def ZaU (d:Int) (b:List Y6) (a:List Int) (c:Int):Option (((List Int)×Int×Unit)⊕List Int):=
if c<(b.length:Int)then
(atI b c).bind λe=>
if Y6.net e=d then
if(Hu e)=true then
some (.inl (a,Wq (c+1),()))
else
Zw ((a.length+[c].length)*8<=140737488355328)<|
some (.inl (a++[c],Wq (c+1),()))
else
some (.inl (a,Wq (c+1),()))
else
some (.inr a)
def Zct (c:Ze) (a:Int):Option (List Int):=
(Qh c).bind λb=>
Zt (λv=>ZaU a b v.1 v.2.1) (([]:List Int),(0:Int),())
def c86:Ctr:=⟨[.dat (Qv),.dat Iq],[.own (.ol 2 (.flat Iq))],λa K=>Zx a λc a=>Zx a λb a=>YR (Zct c b) λr=>K (r,()) ()⟩
def Je (c:Ze) (e:ZI) (a:Y6):Option Int:=
if G9 a<0 then
some 0
else
(atI (K4 c) (G9 a)).bind λb=>
(atI (Gh e) (GJ b)).bind λd=>
(atI (K6 d) (Y6.pin a)).bind λf=>
some (Hg f)
def c87:Ctr:=D3 (Qv) (VI) (Zk7) Iq Je
def X7 (d:ZC) (a:Int) (b:List Int):Option ((Int×(List Int)×Unit)⊕((Int×(List Int)×Unit)⊕List Int)):=
if 0<a then
(atI (K5 d) a).bind λc=>
(atI b c).bind λf=>
(atI b a).bind λe=>
some (.inl (Wq (a-1),List.set b (Int.toNat c) (Wq (f+e)),()))
else
some (.inr (.inr b))
def Xo (f:Zc) (e:ZC) (b:List Y6) (a:List Int) (d:Int) (c:List Int):Option ((Int×(List Int)×Unit)⊕List Int):=
if d<(a.length:Int)then
(atI a d).bind λj=>
(atI (Gv e) d).bind λg=>
(atI c g).bind λk=>
(atI b j).bind λi=>
(Je (K3 f) (GG f) i).bind λh=>
some (.inl (Wq (d+1),List.set c (Int.toNat g) (Wq (k+h)),()))
else
Zt (λv=>X7 e v.1 v.2.1) (Wq ((c.length:Int)-1),c,())
def YE (a:Zc) (c:Int):Option (List Int):=
(atI (Gl a) c).bind λb=>
(Xa (GU b)).bind λd=>
(Qh (K3 a)).bind λe=>
(Zct (K3 a) c).bind λf=>
Zt (λv=>Xo a b e f v.1 v.2.1) ((0:Int),d,())
def c88:Ctr:=⟨[.dat (Xi),.dat Iq],[.own (.ol 2 (.flat Iq))],λa K=>Zx a λc a=>Zx a λb a=>YR (YE c b) λr=>K (r,()) ()⟩
def XM (d:ZC) (a:List Int) (b:Int) (c:List Int):Option ((Int×(List Int)×Unit)⊕List Int):=
if b<(c.length:Int)then
(atI (K5 d) b).bind λf=>
(atI c f).bind λh=>
(atI (GC d) b).bind λg=>
(atI a b).bind λe=>
(atI c b).bind λi=>
some (.inl (Wq (b+1),List.set c (Int.toNat b) (Wq (h+Wq (g*e))),()))
else
some (.inr c)
def Qx (c:Zc) (b:Int):Option (List Int):=
(atI (Gl c) b).bind λd=>
(YE c b).bind λa=>
Zw ((0:Int)<=(a.length:Int))<|
Zw ((a.length:Int)<=(a.length:Int))<|
Zw ((a.length:Int)<=4611686018427387904)<|
Zw (((8:Nat):Int)*(a.length:Int)<=281474976710656)<|
Zt (λv=>XM d a v.1 v.2.1) ((1:Int),List.replicate (Int.toNat (a.length:Int)) (0:Int),())
def c89:Ctr:=⟨[.dat (Xi),.dat Iq],[.own (.ol 2 (.flat Iq))],λa K=>Zx a λc a=>Zx a λb a=>YR (Qx c b) λr=>K (r,()) ()⟩
def XE (a:List Int) (d:ZC) (b:List Int) (c:Int):Option (((List Int)×Int×Unit)⊕List Int):=
if c<((Gv d).length:Int)then
(atI (Gv d) c).bind λf=>
(atI a f).bind λe=>
Zw ((b.length+[e].length)*8<=140737488355328)<|
some (.inl (b++[e],Wq (c+1),()))
else
some (.inr b)
def XC (b:Zc) (a:Int):Option (List Int):=
(Qx b a).bind λc=>
(atI (Gl b) a).bind λd=>
Zt (λv=>XE c d v.1 v.2.1) (([]:List Int),(0:Int),())
def c90:Ctr:=⟨[.dat (Xi),.dat Iq],[.own (.ol 2 (.flat Iq))],λa K=>Zx a λc a=>Zx a λb a=>YR (XC c b) λr=>K (r,()) ()⟩
def Qi (f:List Int) (g c e a:Int) (b:List Zn):Option ((Int×(List Zn)×Unit)⊕((Int×(List Zn)×Unit)⊕((Int×(List Int)×(List (List Int))×(List Zn)×(List (List Int))×Unit)⊕((Int×(List Int)×(List (List Int))×Unit)⊕((Int×Int×(List Zn)×Unit)⊕ZG))))):=
if a<2 then
(atI f g).bind λd=>
Zw ((b.length+[(Wq (Wq ((2:Int)*d)+a),Wq (Wq ((2:Int)*e)+a),(2:Int),c,())].length)*32<=140737488355328)<|
some (.inl (Wq (a+1),b++[(Wq (Wq ((2:Int)*d)+a),Wq (Wq ((2:Int)*e)+a),(2:Int),c,())],()))
else
some (.inr (.inl (Wq (c+1),b,())))
def QM (h:List Int) (b:Int) (k:List Int) (f i:List (List Int)) (g:Int) (a c:List Int) (d:Int) (e:List Zn):Option ((Int×(List Zn)×Unit)⊕((Int×(List Int)×(List (List Int))×(List Zn)×(List (List Int))×Unit)⊕((Int×(List Int)×(List (List Int))×Unit)⊕((Int×Int×(List Zn)×Unit)⊕ZG)))):=
if d<(c.length:Int)then
(atI c d).bind λj=>
Zt (λv=>Qi h b d j v.1 v.2.1) ((0:Int),e,())
else
some (.inr (.inl (Wq (b+1),k++[g],f++[a],e,List.set i (Int.toNat b) c,())))
def QN (c:Zc) (a:List Y6) (k:List Int) (b:Int) (e:List Int) (d:List (List Int)) (h:List Zn) (g:List (List Int)):Option ((Int×(List Int)×(List (List Int))×(List Zn)×(List (List Int))×Unit)⊕((Int×(List Int)×(List (List Int))×Unit)⊕((Int×Int×(List Zn)×Unit)⊕ZG))):=
if b<((Gl c).length:Int)then
(YE c b).bind λj=>
(atI j 0).bind λf=>
Zw ((e.length+[f].length)*8<=140737488355328)<|
(XC c b).bind λi=>
Zw ((d.length+[i].length)*24<=140737488355328)<|
(atI g b).bind λl=>
Zt (λv=>QM k b e d g f i l v.1 v.2.1) ((0:Int),h,())
else
some (.inr (.inr (.inr (c,a,h,e,d,([]:List Int),()))))
def QO (g:Zc) (a:List Y6) (h:List Zn) (b:Int) (d:List Int) (e:List (List Int)):Option ((Int×(List Int)×(List (List Int))×Unit)⊕((Int×Int×(List Zn)×Unit)⊕ZG)):=
if b<(a.length:Int)then
(atI a b).bind λc=>
if(Hu c)=true then
(atI d (Y6.net c)).bind λf=>
some (.inl (Wq (b+1),List.set d (Int.toNat (Y6.net c)) b,e,()))
else
(atI e (Y6.net c)).bind λf=>
Zw ((f.length+[b].length)*8<=140737488355328)<|
some (.inl (Wq (b+1),d,List.set e (Int.toNat (Y6.net c)) (f++[b]),()))
else
Zt (λv=>QN g a d v.1 v.2.1 v.2.2.1 v.2.2.2.1 v.2.2.2.2.1) ((0:Int),([]:List Int),([]:List (List Int)),h,e,())
def JO (a:Zc) (b:List Y6) (g d:Int) (c:List Zn):Option ((Int×Int×(List Zn)×Unit)⊕ZG):=
if d<((K4 (K3 a)).length:Int)then
(atI (K4 (K3 a)) d).bind λf=>
(Q0 a f g).bind λe=>
Zw ((c.length+e.length)*32<=140737488355328)<|
(QA (Gu f)).bind λh=>
some (.inl (Wq (g+h),Wq (d+1),c++e,()))
else
Zw ((0:Int)<=((Gl a).length:Int))<|
Zw (((Gl a).length:Int)<=((Gl a).length:Int))<|
Zw (((Gl a).length:Int)<=4611686018427387904)<|
Zw (((8:Nat):Int)*((Gl a).length:Int)<=281474976710656)<|
Zw (((24:Nat):Int)*((Gl a).length:Int)<=281474976710656)<|
Zt (λv=>QO a b c v.1 v.2.1 v.2.2.1) ((0:Int),List.replicate (Int.toNat ((Gl a).length:Int)) (0:Int),List.replicate (Int.toNat ((Gl a).length:Int)) (([]:List Int)),())
def Vx (a:Zc):Option ZG:=
(Qh (K3 a)).bind λb=>
Zt (λv=>JO a b v.1 v.2.1 v.2.2.1) ((0:Int),(0:Int),([]:List Zn),())
def c91:Ctr:=D1 (Xi) (.ptr (ZfA)) Vx
def Zbt (a:List Zf):Option Int:=
some (a.length:Int)
def c92:Ctr:=D1 (.sl (ZbL)) Iq Zbt
def Zak (a:Zf):Option Bool:=
(Z6 (GS a) 2 100000).bind λb=>
if b then
(Z6 (GW a) 0 (Wq (GS a-1))).bind λc=>
if c then
(Z6 (GY a) 0 (Wq (GS a-1))).bind λd=>
if d then
if GW a=GY a then
some false
else
if GB a=1 then
some (!Hm a)
else
some false
else
some false
else
some false
else
some false
def c93:Ctr:=D1 (ZbL) (.bool) Zak
def Zbf (d:(List Zf)->Int->Option ZcF) (c:List Zf) (e:Int):Option ZcF:=
(atI c e).bind λa=>
if Gm a<0 then
some (GS a,(GW a,GY a,()),())
else
(d c (Gm a)).bind λb=>
if 1<GB a then
if(Hm a)=true then
some (Wq (GB a*ZcF.period b),(Wq ((G6 b).1+Wq (Wq (Int.tdiv (GB a) 2)*ZcF.period b)),(G6 b).1,()),())
else
some (Wq (GB a*ZcF.period b),((G6 b).1,Wq ((G6 b).1+Wq (Wq (Int.tdiv (GB a) 2)*ZcF.period b)),()),())
else
if(Hm a)=true then
some (ZcF.period b,((G6 b).2.1,(G6 b).1,()),())
else
some b
def ZaZ:Nat->(List Zf)->Int->Option ZcF
|0=>λ_ _=>none
|n+1=>Zbf (ZaZ n)
def ZeT (a:List Zf) (b:Int):Option ZcF:=ZAD (λn=>ZaZ n a b)
def Ze6 (c:(List Zf)->Int->Option ZcF):Ctr:=⟨[.dat (.sl (ZbL)),.dat Iq],[.dat (Zzb)],λa K=>Zx a λb a=>Zx a λd a=>YR (c b d) λr=>K (r,()) ()⟩
def c94:Ctr:=Ze6 ZeT
def ZgS (c:List Zf) (b:Int):Option Bool:=
(atI c b).bind λa=>
if Gs a<0 then
some false
else
if G2 a<0 then
some false
else
if G8 a<G2 a then
some false
else
if 100000<G8 a then
some false
else
(Z6 (Ht a) 0 100000).bind λd=>
if d then
if Gm a=(-1)then
(Zak a).bind λg=>
some g
else
(Z6 (Gm a) 0 (Wq (b-1))).bind λh=>
if h then
(Z6 (GB a) 1 8).bind λf=>
if f then
if GS a=0 then
if GW a=0 then
if GY a=0 then
(ZeT c b).bind λe=>
some (decide (ZcF.period e<=100000))
else
some false
else
some false
else
some false
else
some false
else
some false
else
some false
def c95:Ctr:=D2 (.sl (ZbL)) Iq (.bool) ZgS
def Zdl (b:List Zf) (a:List (List UInt8)) (c:Int):Option (((List (List UInt8))×Int×Unit)⊕Bool):=
if c<(b.length:Int)then
(atI b c).bind λd=>
(ZgS b c).bind λe=>
if e then
Zw ((a.length+[GA d].length)*16<=140737488355328)<|
some (.inl (a++[GA d],Wq (c+1),()))
else
some (.inr false)
else
(Vs a).bind λf=>
some (.inr f)
def ZfV (a:List Zf):Option Bool:=
if 6<(a.length:Int)then
some false
else
Zt (λv=>Zdl a v.1 v.2.1) (([]:List (List UInt8)),(0:Int),())
def c96:Ctr:=D1 (.sl (ZbL)) (.bool) ZfV
def Yt (a:List Y6):Option Int:=
some (a.length:Int)
def c97:Ctr:=D1 (.sl (Zk7)) Iq Yt
def Jg (d:ZG) (a:Int):Option Bool:=
(Yt (ZG.ZB d)).bind λb=>
(Z6 a 0 (Wq (b-1))).bind λc=>
some c
def c98:Ctr:=D2 (.ptr (ZfA)) Iq (.bool) Jg
def VX (b:Zf) (c:ZG):Option Bool:=
(Jg c (Gs b)).bind λa=>
some !a
def c99:Ctr:=D2 (ZbL) (.ptr (.ptr (ZfA))) (.bool) VX
def Yd (b:List Zf) (e:ZG×Unit) (a:Int):Option ((Int×Unit)⊕Int):=
if a<(b.length:Int)then
(atI b a).bind λd=>
(VX d e.1).bind λc=>
if c then
some (.inr a)
else
some (.inl (Wq (a+1),()))
else
some (.inr (-1))
def ZX (a:List Zf) (b:ZG×Unit):Option Int:=
Zt (λv=>Yd a b v.1) ((0:Int),())
def ZDH:Ctr:=D2 (.sl (ZbL)) (.fn 136 (.pair (.ptr (.ptr (ZfA))) (.unit))) Iq ZX
def ZU (b:List Zf) (c:ZG×Unit):Option Bool:=
(ZX b c).bind λa=>
some (decide (0<=a))
def ZDI:Ctr:=D2 (.sl (ZbL)) (.fn 136 (.pair (.ptr (.ptr (ZfA))) (.unit))) (.bool) ZU
def ZhQ (b:Int):Option Bool:=
(Z6 b (-1000000000) 1000000000).bind λa=>
some a
def ZDJ:Ctr:=D1 Iq (.bool) ZhQ
def Jm (a:Zz):Option Bool:=
(ZhQ (K8 a)).bind λb=>
if b then
(ZhQ (Ga a)).bind λc=>
if c then
some (decide (K8 a<=Ga a))
else
some false
else
some false
def ZzV:Ctr:=D1 (Zag) (.bool) Jm
def ZhP (b:Int):Option Bool:=
(Z6 b 0 1000000).bind λa=>
some a
def ZDK:Ctr:=D1 Iq (.bool) ZhP
def ZaW (a:Zz):Option Bool:=
(Jm a).bind λb=>
if b then
(ZhP (K8 a)).bind λc=>
if c then
(ZhP (Ga a)).bind λd=>
some d
else
some false
else
some false
def c105:Ctr:=D1 (Zag) (.bool) ZaW
def V6 (h:ZG) (e:List Zh) (c:Bool) (j b:Int):Option ((Int×Unit)⊕Bool):=
if b<(e.length:Int)then
(atI e b).bind λa=>
(Jg h (Gj a)).bind λk=>
if k then
(atI (ZG.ZB h) (Gj a)).bind λi=>
if 0<=G9 i then
some (.inr false)
else
if(Hu i==c)=true then
if 0<b then
(atI e (Wq (b-1))).bind λl=>
if Gj a<=Gj l then
some (.inr false)
else
(Z6 (GQ a) 0 (Wq (j-1))).bind λg=>
if g then
(Jm (Gt a)).bind λf=>
if f then
if K8 (Gt a)<(-100000)then
some (.inr false)
else
if 100000<Ga (Gt a)then
some (.inr false)
else
if c then
(ZaW (G3 a)).bind λd=>
if d then
if c then
some (.inl (Wq (b+1),()))
else
if(decide (K8 (G3 a)=0)&&decide (Ga (G3 a)=0))=true then
some (.inl (Wq (b+1),()))
else
some (.inr false)
else
some (.inr false)
else
if c then
some (.inl (Wq (b+1),()))
else
if(decide (K8 (G3 a)=0)&&decide (Ga (G3 a)=0))=true then
some (.inl (Wq (b+1),()))
else
some (.inr false)
else
some (.inr false)
else
some (.inr false)
else
(Z6 (GQ a) 0 (Wq (j-1))).bind λg=>
if g then
(Jm (Gt a)).bind λf=>
if f then
if K8 (Gt a)<(-100000)then
some (.inr false)
else
if 100000<Ga (Gt a)then
some (.inr false)
else
if c then
(ZaW (G3 a)).bind λd=>
if d then
if c then
some (.inl (Wq (b+1),()))
else
if(decide (K8 (G3 a)=0)&&decide (Ga (G3 a)=0))=true then
some (.inl (Wq (b+1),()))
else
some (.inr false)
else
some (.inr false)
else
if c then
some (.inl (Wq (b+1),()))
else
if(decide (K8 (G3 a)=0)&&decide (Ga (G3 a)=0))=true then
some (.inl (Wq (b+1),()))
else
some (.inr false)
else
some (.inr false)
else
some (.inr false)
else
some (.inr false)
else
some (.inr false)
else
some (.inr true)
def Vi (a:ZG) (c:List Zh) (d:Bool) (b:Int):Option Bool:=
Zt (λv=>V6 a c d b v.1) ((0:Int),())
def ZDL:Ctr:=D4 (.ptr (ZfA)) (.sl (Jz)) (.bool) Iq (.bool) Vi
def ZgT (b a:Int):Option Bool:=
if b=1 then
some (decide (a=0))
else
if b=2 then
(Z6 a 1 10).bind λc=>
some c
else
if b=3 then
if b=3 then
(Z6 a 0 1000000000).bind λc=>
some c
else
some false
else
if b=4 then
(Z6 a 0 1000000000).bind λc=>
some c
else
some false
def c107:Ctr:=D2 Iq Iq (.bool) ZgT
def Jp (g:ZG) (a:Zu) (b:Int):Option ((Int×Unit)⊕Bool):=
if b<(([G7 a,G5 a,Ho a].length):Int)then
(atI ([G7 a,G5 a,Ho a]) b).bind λc=>
if 4<(c.length:Int)then
some (.inr false)
else
(Yt (ZG.ZB g)).bind λd=>
(Xy c 0 (Wq (d-1))).bind λh=>
if h then
some (.inl (Wq (b+1),()))
else
some (.inr false)
else
(ZgT (G4 a) (Hd a)).bind λi=>
if i then
(Qz (G7 a)).bind λf=>
if f then
(Qz (Ho a)).bind λe=>
some (.inr e)
else
some (.inr false)
else
some (.inr false)
def Vy (b:ZG) (a:Zu):Option Bool:=
Zt (λv=>Jp b a v.1) ((0:Int),())
def ZDM:Ctr:=D2 (.ptr (ZfA)) (Jj) (.bool) Vy
def VY (b:Zu) (c:ZG):Option Bool:=
(Vy c b).bind λa=>
some !a
def c109:Ctr:=D2 (Jj) (.ptr (.ptr (ZfA))) (.bool) VY
def ZY (b:List Zu) (e:ZG×Unit) (a:Int):Option ((Int×Unit)⊕Int):=
if a<(b.length:Int)then
(atI b a).bind λd=>
(VY d e.1).bind λc=>
if c then
some (.inr a)
else
some (.inl (Wq (a+1),()))
else
some (.inr (-1))
def ZP (a:List Zu) (b:ZG×Unit):Option Int:=
Zt (λv=>ZY a b v.1) ((0:Int),())
def ZDN:Ctr:=D2 (.sl (Jj)) (.fn 140 (.pair (.ptr (.ptr (ZfA))) (.unit))) Iq ZP
def ZN (b:List Zu) (c:ZG×Unit):Option Bool:=
(ZP b c).bind λa=>
some (decide (0<=a))
def ZDO:Ctr:=D2 (.sl (Jj)) (.fn 140 (.pair (.ptr (.ptr (ZfA))) (.unit))) (.bool) ZN
def ZbY (a b:Int):Option Bool:=
if 100<=a then
if a<=b then
some (decide (b<=5000))
else
some false
else
some false
def ZDP:Ctr:=D2 Iq Iq (.bool) ZbY
def Zd3 (a:ZA):Option Bool:=
(ZeS (GK a)).bind λb=>
if b then
(ZbY (Hj a) (Hi a)).bind λc=>
if c then
(ZbY (Hk a) (Hl a)).bind λd=>
some d
else
some false
else
some false
def ZC5:Ctr:=D1 (Qf) (.bool) Zd3
def QL (a:List ZA):Option Int:=
some (a.length:Int)
def ZC6:Ctr:=D1 (.sl (Qf)) Iq QL
def QJ (b:List ZA) (a:List (List UInt8)) (d:Int):Option (((List (List UInt8))×Int×Unit)⊕Bool):=
if d<(b.length:Int)then
(atI b d).bind λc=>
(Zd3 c).bind λe=>
if e then
Zw ((a.length+[GK c].length)*16<=140737488355328)<|
some (.inl (a++[GK c],Wq (d+1),()))
else
some (.inr false)
else
(QL b).bind λg=>
(Z6 g 1 4).bind λh=>
if h then
(Vs a).bind λf=>
some (.inr f)
else
some (.inr false)
def Zcu (a:List ZA):Option Bool:=
Zt (λv=>QJ a v.1 v.2.1) (([]:List (List UInt8)),(0:Int),())
def ZDQ:Ctr:=D1 (.sl (Qf)) (.bool) Zcu
def Zcx (b:ZG) (a:Zo):Option Bool:=
(Zbt (Gb a)).bind λc=>
(ZfV (Gb a)).bind λg=>
if g then
(ZU (Gb a) (b,())).bind λh=>
if h then
some false
else
(Vi b (GN a) true c).bind λf=>
if f then
(Vi b (Hn a) false c).bind λe=>
if e then
if 6<((Gz a).length:Int)then
some false
else
(ZN (Gz a) (b,())).bind λi=>
if i then
some false
else
if((GV a).length:Int)=0 then
some true
else
(Zcu (GV a)).bind λd=>
some d
else
some false
else
some false
else
some false
def c116:Ctr:=D2 (.ptr (ZfA)) (Zc4) (.bool) Zcx
def Zfm (a:Zc) (c:Zo):Option Bool:=
(ZbW a).bind λb=>
if b then
(Vx a).bind λd=>
(Zcx d c).bind λe=>
some e
else
some false
def c117:Ctr:=D2 (Xi) (Zc4) (.bool) Zfm
def YP (b:ZG):Option Int:=
(Yt (ZG.ZB b)).bind λa=>
some (Wq (2*a))
def Zzq:Ctr:=D1 (.ptr (ZfA)) Iq YP
def Zdn (a:Zn):Option Bool:=
some true
def c119:Ctr:=D1 (Zaj) (.bool) Zdn
def Yx (c:ZM) (a:List Int) (b:Int):Option (((List Int)×Int×Unit)⊕List Int):=
if b<((ZG.links (ZM.view c)).length:Int)then
(atI (ZG.links (ZM.view c)) b).bind λe=>
(atI (ZM.live c) b).bind λf=>
if f then
(Zdn e).bind λd=>
if d then
Zw ((a.length+[b].length)*8<=140737488355328)<|
some (.inl (a++[b],Wq (b+1),()))
else
some (.inl (a,Wq (b+1),()))
else
some (.inl (a,Wq (b+1),()))
else
some (.inr a)
def YZ (a:ZM) (b:Unit):Option (List Int):=
Zt (λv=>Yx a v.1 v.2.1) (([]:List Int),(0:Int),())
def ZDR:Ctr:=⟨[.dat (.ptr (ZeL)),.dat (.fn 110 (.unit))],[.own (.ol 2 (.flat Iq))],λa K=>Zx a λc a=>Zx a λb a=>YR (YZ c b) λr=>K (r,()) ()⟩
def XP (b:List Int) (d a:Int):Option ((Int×Unit)⊕Int):=
if a<(b.length:Int)then
(atI b a).bind λc=>
if d=c then
some (.inr a)
else
some (.inl (Wq (a+1),()))
else
some (.inr (-1))
def JW (a:List Int) (b:Int):Option Int:=
Zt (λv=>XP a b v.1) ((0:Int),())
def ZDS:Ctr:=D2 (.sl Iq) Iq Iq JW
def Zd5 (b:Zn) (a:Int):Option Bool:=
some (decide (Gc b=a))
def ZDT:Ctr:=D2 (Zaj) (.ptr Iq) (.bool) Zd5
def YA (c:ZM) (d:Int×Unit) (a:List Int) (b:Int):Option (((List Int)×Int×Unit)⊕List Int):=
if b<((ZG.links (ZM.view c)).length:Int)then
(atI (ZG.links (ZM.view c)) b).bind λf=>
(atI (ZM.live c) b).bind λg=>
if g then
(Zd5 f d.1).bind λe=>
if e then
Zw ((a.length+[b].length)*8<=140737488355328)<|
some (.inl (a++[b],Wq (b+1),()))
else
some (.inl (a,Wq (b+1),()))
else
some (.inl (a,Wq (b+1),()))
else
some (.inr a)
def XO (b:ZM) (a:Int×Unit):Option (List Int):=
Zt (λv=>YA b a v.1 v.2.1) (([]:List Int),(0:Int),())
def ZDU:Ctr:=⟨[.dat (.ptr (ZeL)),.dat (.fn 194 (.pair (.ptr Iq) (.unit)))],[.own (.ol 2 (.flat Iq))],λa K=>Zx a λc a=>Zx a λb a=>YR (XO c b) λr=>K (r,()) ()⟩
def Zd4 (c:ZM) (a:Int):Option (List Int):=
(XO c (a,())).bind λb=>
some b
def c124:Ctr:=⟨[.dat (.ptr (ZeL)),.dat Iq],[.own (.ol 2 (.flat Iq))],λa K=>Zx a λc a=>Zx a λb a=>YR (Zd4 c b) λr=>K (r,()) ()⟩
def Qm (f:ZM) (h:List Int) (g b:Int) (a:List Int) (d:Int) (c:List Int):Option ((Int×(List Int)×Unit)⊕(((List Int)×Int×(List Int)×Unit)⊕((Int×(List Int)×Unit)⊕((List Int)×Bool)))):=
if d<(a.length:Int)then
(atI a d).bind λi=>
(atI (ZG.links (ZM.view f)) i).bind λe=>
(atI c (Gf e)).bind λj=>
some (.inl (Wq (d+1),List.set c (Int.toNat (Gf e)) (Wq (j-1)),()))
else
some (.inr (.inl (h++[b],Wq (g+1),c,())))
def YS (d:ZM) (f c:List Int) (e:Int) (b:List Int):Option (((List Int)×Int×(List Int)×Unit)⊕((Int×(List Int)×Unit)⊕((List Int)×Bool))):=
if e<(f.length:Int)then
(JW b 0).bind λa=>
if a<0 then
some (.inr (.inr (([]:List Int),false)))
else
(atI b a).bind λh=>
Zw ((c.length+[a].length)*8<=140737488355328)<|
(Zd4 d a).bind λg=>
Zt (λv=>Qm d c e a g v.1 v.2.1) ((0:Int),List.set b (Int.toNat a) (-1:Int),())
else
some (.inr (.inr (c,true)))
def Qn (e:ZM) (a:List Int) (c:Int) (b:List Int):Option ((Int×(List Int)×Unit)⊕((List Int)×Bool)):=
if c<(a.length:Int)then
(atI a c).bind λf=>
(atI (ZG.links (ZM.view e)) f).bind λd=>
(atI b (Gf d)).bind λg=>
some (.inl (Wq (c+1),List.set b (Int.toNat (Gf d)) (Wq (g+1)),()))
else
Zt (λv=>YS e b v.1 v.2.1 v.2.2.1) (([]:List Int),(0:Int),b,())
def Q8 (b:ZM):Option ((List Int)×Bool):=
(YP (ZM.view b)).bind λa=>
Zw ((0:Int)<=a)<|
Zw (a<=a)<|
Zw (a<=4611686018427387904)<|
Zw (((8:Nat):Int)*a<=281474976710656)<|
(YZ b ()).bind λc=>
Zt (λv=>Qn b c v.1 v.2.1) ((0:Int),List.replicate (Int.toNat a) (0:Int),())
def ZBX:Ctr:=⟨[.dat (.ptr (ZeL))],[.own (.ol 2 (.flat Iq)),.dat (.bool)],λa K=>Zx a λb a=>YR (Q8 b) λr=>K (r.1,r.2,()) ()⟩
def ZbA (b:ZM):Option Bool:=
(Q8 b).bind λa=>
some !a.2
def ZDV:Ctr:=D1 (.ptr (ZeL)) (.bool) ZbA
def ZiI (a:Zn):Option (Int×Int):=
some (Gc a,Gf a)
def c127:Ctr:=⟨[.dat (Zaj)],[.dat Iq,.dat Iq],λa K=>Zx a λb a=>YR (ZiI b) λr=>K (r.1,r.2,()) ()⟩
def XW (a:List Int) (d:List (List Int)) (c:List Bool):Option (((List Int)×(List (List Int))×(List Bool)×Unit)⊕((Int×(List (List Int))×Unit)⊕List Bool)):=
if 0<(a.length:Int)then
(atI a 0).bind λb=>
Zw ((1:Int)<=(a.length:Int))<|
Zw ((a.length:Int)<=(a.length:Int))<|
(atI c b).bind λf=>
if f then
some (.inl (List.take (Int.toNat (a.length:Int)-Int.toNat 1) (List.drop (Int.toNat 1) a),d,c,()))
else
(atI d b).bind λe=>
Zw (((List.take (Int.toNat (a.length:Int)-Int.toNat (1:Int)) (List.drop (Int.toNat (1:Int)) a)).length+e.length)*8<=140737488355328)<|
some (.inl (List.take (Int.toNat (a.length:Int)-Int.toNat 1) (List.drop (Int.toNat 1) a)++e,List.set d (Int.toNat b) e,List.set c (Int.toNat b) true,()))
else
some (.inr (.inr c))
def XY (e:ZM) (h:List Int) (a b:Int) (d:List (List Int)):Option ((Int×(List (List Int))×Unit)⊕List Bool):=
if b<((ZG.links (ZM.view e)).length:Int)then
(atI (ZG.links (ZM.view e)) b).bind λg=>
(ZiI g).bind λc=>
(atI (ZM.live e) b).bind λi=>
if i then
(atI d c.1).bind λf=>
Zw ((f.length+[c.2].length)*8<=140737488355328)<|
some (.inl (Wq (b+1),List.set d (Int.toNat c.1) (f++[c.2]),()))
else
some (.inl (Wq (b+1),d,()))
else
Zw (((1:Nat):Int)*a<=281474976710656)<|
(Xa h).bind λj=>
Zt (λv=>XW v.1 v.2.1 v.2.2.1) (j,d,List.replicate (Int.toNat a) false,())
def XJ (b:ZM) (c:List Int) (d:Unit):Option (List Bool):=
(YP (ZM.view b)).bind λa=>
Zw ((0:Int)<=a)<|
Zw (a<=a)<|
Zw (a<=4611686018427387904)<|
Zw (((24:Nat):Int)*a<=281474976710656)<|
Zt (λv=>XY b c a v.1 v.2.1) ((0:Int),List.replicate (Int.toNat a) (([]:List Int)),())
def ZDW:Ctr:=⟨[.dat (.ptr (ZeL)),.dat (.sl Iq),.dat (.fn 162 (.unit))],[.own (.ol 4 (.flat (.bool)))],λa K=>Zx a λb a=>Zx a λc a=>Zx a λd a=>YR (XJ b c d) λr=>K (r,()) ()⟩
def Zac (b:Zn) (a:Int):Option Bool:=
if Gc b=a then
some (decide (Gf b=a))
else
some false
def ZDX:Ctr:=D2 (Zaj) (.ptr Iq) (.bool) Zac
def Yk (c:ZM) (d:Int×Unit) (a:List Int) (b:Int):Option (((List Int)×Int×Unit)⊕List Int):=
if b<((ZG.links (ZM.view c)).length:Int)then
(atI (ZG.links (ZM.view c)) b).bind λf=>
(atI (ZM.live c) b).bind λg=>
if g then
(Zac f d.1).bind λe=>
if e then
Zw ((a.length+[b].length)*8<=140737488355328)<|
some (.inl (a++[b],Wq (b+1),()))
else
some (.inl (a,Wq (b+1),()))
else
some (.inl (a,Wq (b+1),()))
else
some (.inr a)
def Xe (b:ZM) (a:Int×Unit):Option (List Int):=
Zt (λv=>Yk b a v.1 v.2.1) (([]:List Int),(0:Int),())
def c130:Ctr:=⟨[.dat (.ptr (ZeL)),.dat (.fn 226 (.pair (.ptr Iq) (.unit)))],[.own (.ol 2 (.flat Iq))],λa K=>Zx a λc a=>Zx a λb a=>YR (Xe c b) λr=>K (r,()) ()⟩
def JC (c:ZM) (a:Int):Option Bool:=
(Xe c (a,())).bind λb=>
some (decide (0<(b.length:Int)))
def c131:Ctr:=D2 (.ptr (ZeL)) Iq (.bool) JC
def Vh (d:List (List Int)) (g:Int) (a:List Int) (f:List (List Bool)) (b:Int) (c:List Bool):Option ((Int×(List Bool)×Unit)⊕(((List Int)×Int×(List (List Bool))×Unit)⊕(((List (List Int))×Int×(List (List Bool))×(List Bool)×Unit)⊕(((List (List Bool))×Int×Unit)⊕List (List Int))))):=
if b<(a.length:Int)then
(atI a b).bind λe=>
(atI c e).bind λh=>
some (.inl (Wq (b+1),List.set c (Int.toNat e) true,()))
else
Zw ((d.length+[a].length)*24<=140737488355328)<|
some (.inr (.inr (.inl (d++[a],Wq (g+1),f,c,()))))
def Zbq (k:ZM) (e:Int) (i:List (List Int)) (b:Int) (g:List Bool) (d:List Int) (a:Int) (c:List (List Bool)):Option (((List Int)×Int×(List (List Bool))×Unit)⊕(((List (List Int))×Int×(List (List Bool))×(List Bool)×Unit)⊕(((List (List Bool))×Int×Unit)⊕List (List Int)))):=
if a<e then
(atI c b).bind λf=>
(atI f a).bind λl=>
if l then
(atI c a).bind λn=>
(atI (List.set c (Int.toNat b) f) a).bind λh=>
(atI h b).bind λm=>
if m then
Zw ((d.length+[a].length)*8<=140737488355328)<|
some (.inl (d++[a],Wq (a+1),List.set (List.set c (Int.toNat b) f) (Int.toNat a) h,()))
else
some (.inl (d,Wq (a+1),List.set (List.set c (Int.toNat b) f) (Int.toNat a) h,()))
else
some (.inl (d,Wq (a+1),List.set c (Int.toNat b) f,()))
else
if(d.length:Int)<2 then
(JC k b).bind λj=>
if j then
Zt (λv=>Vh i b d c v.1 v.2.1) ((0:Int),g,())
else
some (.inr (.inl (i,Wq (b+1),c,g,())))
else
Zt (λv=>Vh i b d c v.1 v.2.1) ((0:Int),g,())
def Zbr (g:ZM) (a:Int) (c:List (List Int)) (b:Int) (e:List (List Bool)) (d:List Bool):Option (((List (List Int))×Int×(List (List Bool))×(List Bool)×Unit)⊕(((List (List Bool))×Int×Unit)⊕List (List Int))):=
if b<a then
(atI d b).bind λf=>
if f then
some (.inl (c,Wq (b+1),e,d,()))
else
Zt (λv=>Zbq g a c b d v.1 v.2.1 v.2.2.1) (([]:List Int),(0:Int),e,())
else
some (.inr (.inr c))
def Zbs (e:ZM) (a:Int) (c:List (List Bool)) (b:Int):Option (((List (List Bool))×Int×Unit)⊕List (List Int)):=
if b<a then
(XJ e [b] ()).bind λd=>
Zw ((c.length+[d].length)*24<=140737488355328)<|
some (.inl (c++[d],Wq (b+1),()))
else
Zw ((0:Int)<=a)<|
Zw (a<=a)<|
Zw (a<=4611686018427387904)<|
Zw (((1:Nat):Int)*a<=281474976710656)<|
Zt (λv=>Zbr e a v.1 v.2.1 v.2.2.1 v.2.2.2.1) (([]:List (List Int)),(0:Int),c,List.replicate (Int.toNat a) false,())
def Zdb (a:ZM):Option (List (List Int)):=
(YP (ZM.view a)).bind λb=>
Zt (λv=>Zbs a b v.1 v.2.1) (([]:List (List Bool)),(0:Int),())
def ZDY:Ctr:=⟨[.dat (.ptr (ZeL))],[.own (.ol 52 (.ol 2 (.flat Iq)))],λa K=>Zx a λb a=>YR (Zdb b) λr=>K (r,()) ()⟩
def Xg (b:List Int) (d a:Int):Option ((Int×Unit)⊕Int):=
if a<(b.length:Int)then
(atI b a).bind λc=>
if d=c then
some (.inr a)
else
some (.inl (Wq (a+1),()))
else
some (.inr (-1))
def Xz (a:List Int) (b:Int):Option Int:=
Zt (λv=>Xg a b v.1) ((0:Int),())
def ZDZ:Ctr:=D2 (.sl Iq) Iq Iq Xz
def YK (b:List Int) (c:Int):Option Bool:=
(Xz b c).bind λa=>
some (decide (0<=a))
def ZD0:Ctr:=D2 (.sl Iq) Iq (.bool) YK
def ZaX (a:Zn) (b:List Int):Option Bool:=
if GH a=1 then
(YK b (Gc a)).bind λc=>
if c then
(YK b (Gf a)).bind λd=>
some d
else
some false
else
some false
def ZD1:Ctr:=D2 (Zaj) (.ptr (.sl Iq)) (.bool) ZaX
def Yn (c:ZM) (d:List Int×Unit) (a:List Int) (b:Int):Option (((List Int)×Int×Unit)⊕List Int):=
if b<((ZG.links (ZM.view c)).length:Int)then
(atI (ZG.links (ZM.view c)) b).bind λf=>
(atI (ZM.live c) b).bind λg=>
if g then
(ZaX f d.1).bind λe=>
if e then
Zw ((a.length+[b].length)*8<=140737488355328)<|
some (.inl (a++[b],Wq (b+1),()))
else
some (.inl (a,Wq (b+1),()))
else
some (.inl (a,Wq (b+1),()))
else
some (.inr a)
def YD (b:ZM) (a:List Int×Unit):Option (List Int):=
Zt (λv=>Yn b a v.1 v.2.1) (([]:List Int),(0:Int),())
def ZD2:Ctr:=⟨[.dat (.ptr (ZeL)),.dat (.fn 82 (.pair (.ptr (.sl Iq)) (.unit)))],[.own (.ol 2 (.flat Iq))],λa K=>Zx a λc a=>Zx a λb a=>YR (YD c b) λr=>K (r,()) ()⟩
def Y1 (d:ZG) (a:List Int) (b:List Bool):Option (((List Int)×(List Bool)×Unit)⊕((Int×Unit)⊕((Int×(List Bool)×Unit)⊕List Int))):=
(ZbA (d,b,())).bind λf=>
if f then
(Zdb (d,b,())).bind λi=>
(atI i 0).bind λg=>
(YD (d,b,()) (g,())).bind λe=>
(atI e (Wq ((e.length:Int)-1))).bind λc=>
(atI b c).bind λj=>
Zw ((a.length+[c].length)*8<=140737488355328)<|
some (.inl (a++[c],List.set b (Int.toNat c) false,()))
else
(ZAR a).bind λh=>
some (.inr (.inr (.inr h)))
def X8 (b:ZG) (c:List Bool) (a:Int):Option ((Int×Unit)⊕((Int×(List Bool)×Unit)⊕List Int)):=
if a<0 then
none
else
Zt (λv=>Y1 b v.1 v.2.1) (([]:List Int),c,())
def Vg (c:ZG) (a:Int) (b:List Bool):Option ((Int×(List Bool)×Unit)⊕List Int):=
if a<(((List.replicate (Int.toNat ((ZG.links c).length:Int)) false).length):Int)then
(atI b a).bind λd=>
some (.inl (Wq (a+1),List.set b (Int.toNat a) true,()))
else
Zt (λv=>X8 c b v.1) ((0:Int),())
def VW (a:ZG):Option (List Int):=
Zw ((0:Int)<=((ZG.links a).length:Int))<|
Zw (((ZG.links a).length:Int)<=((ZG.links a).length:Int))<|
Zw (((ZG.links a).length:Int)<=4611686018427387904)<|
Zw (((1:Nat):Int)*((ZG.links a).length:Int)<=281474976710656)<|
Zt (λv=>Vg a v.1 v.2.1) ((0:Int),List.replicate (Int.toNat ((ZG.links a).length:Int)) false,())
def ZC7:Ctr:=⟨[.dat (.ptr (ZfA))],[.own (.ol 2 (.flat Iq))],λa K=>Zx a λb a=>YR (VW b) λr=>K (r,()) ()⟩
def QS (e:ZG) (a:List Int) (b:Int) (c:List Bool):Option ((Int×(List Bool)×Unit)⊕((Int×(List Bool)×Unit)⊕ZM)):=
if b<(a.length:Int)then
(atI a b).bind λd=>
(atI c d).bind λf=>
some (.inl (Wq (b+1),List.set c (Int.toNat d) false,()))
else
some (.inr (.inr (e,c,())))
def ZaY (d:ZG) (a:List Int) (b:Int) (c:List Bool):Option ((Int×(List Bool)×Unit)⊕ZM):=
if b<(((List.replicate (Int.toNat ((ZG.links d).length:Int)) false).length):Int)then
(atI c b).bind λe=>
some (.inl (Wq (b+1),List.set c (Int.toNat b) true,()))
else
Zt (λv=>QS d a v.1 v.2.1) ((0:Int),c,())
def Vn (a:ZG) (b:List Int):Option ZM:=
Zw ((0:Int)<=((ZG.links a).length:Int))<|
Zw (((ZG.links a).length:Int)<=((ZG.links a).length:Int))<|
Zw (((ZG.links a).length:Int)<=4611686018427387904)<|
Zw (((1:Nat):Int)*((ZG.links a).length:Int)<=281474976710656)<|
Zt (λv=>ZaY a b v.1 v.2.1) ((0:Int),List.replicate (Int.toNat ((ZG.links a).length:Int)) false,())
def c138:Ctr:=D2 (.ptr (ZfA)) (.sl Iq) (.ptr (ZeL)) Vn
def Xq (c:Zf) (a:ZcF) (b:List Zj) (d:Int):Option (((List Zj)×Int×Unit)⊕List Zj):=
if d<2 then
(atI ([(G6 a).1,(G6 a).2.1]) d).bind λe=>
Zw ((b.length+[(Wq (Wq ((2:Int)*Gs c)+d),(Wq (e+G2 c),Wq (e+G8 c),()),((0:Int),(0:Int),()),())].length)*40<=140737488355328)<|
some (.inl (b++[(Wq (Wq ((2:Int)*Gs c)+d),(Wq (e+G2 c),Wq (e+G8 c),()),((0:Int),(0:Int),()),())],Wq (d+1),()))
else
some (.inr b)
def Zcw (a:List Zf) (b:Int):Option (List Zj):=
(atI a b).bind λd=>
(ZeT a b).bind λc=>
Zt (λv=>Xq d c v.1 v.2.1) (([]:List Zj),(0:Int),())
def c139:Ctr:=⟨[.dat (.sl (ZbL)),.dat Iq],[.own (.ol 149 (.flat (Xv)))],λa K=>Zx a λb a=>Zx a λc a=>YR (Zcw b c) λr=>K (r,()) ()⟩
def ZfF (a:Zj) (b:Int):Option Bool:=
some (decide (K7 a=b))
def ZD3:Ctr:=D2 (Xv) (.ptr Iq) (.bool) ZfF
def Yg (b:List Zj) (e:Int×Unit) (a:Int):Option ((Int×Unit)⊕Int):=
if a<(b.length:Int)then
(atI b a).bind λd=>
(ZfF d e.1).bind λc=>
if c then
some (.inr a)
else
some (.inl (Wq (a+1),()))
else
some (.inr (-1))
def Z5 (a:List Zj) (b:Int×Unit):Option Int:=
Zt (λv=>Yg a b v.1) ((0:Int),())
def c141:Ctr:=D2 (.sl (Xv)) (.fn 144 (.pair (.ptr Iq) (.unit))) Iq Z5
def Vt (a:List Zj) (b:Int):Option (Zj×Bool):=
(Z5 a (b,())).bind λc=>
if 0<=c then
(atI a c).bind λd=>
some (d,true)
else
some ((0,(0,0,()),(0,0,()),()),false)
def ZC8:Ctr:=⟨[.dat (.sl (Xv)),.dat Iq],[.dat (Xv),.dat (.bool)],λa K=>Zx a λc a=>Zx a λb a=>YR (Vt c b) λr=>K (r.1,r.2,()) ()⟩
def VR (e:Zo) (d:Int) (c:List Zj):Option ((Int×(List Zj)×Unit)⊕((Int×(List Zj)×Unit)⊕List Zj)):=
if d<((GN e).length:Int)then
(atI (GN e) d).bind λa=>
(ZeT (Gb e) (GQ a)).bind λf=>
(atI ([(G6 f).1,(G6 f).2.1]) (0:Int)).bind λb=>
(atI ([(Wq ((2:Int)*Gj a),(Wq (K8 (Gt a)+b),Wq (Ga (Gt a)+b),()),a.2.2.2),(Wq (Wq ((2:Int)*Gj a)+1),(Wq (K8 (Gt a)+b),Wq (Ga (Gt a)+b),()),a.2.2.2)]) (0:Int)).bind λi=>
(Vt c i.1).bind λh=>
if h.2 then
some (.inl (Wq (d+1),c,()))
else
Zw ((c.length+[(Wq ((2:Int)*Gj a),(Wq (K8 (Gt a)+b),Wq (Ga (Gt a)+b),()),a.2.2.2),(Wq (Wq ((2:Int)*Gj a)+1),(Wq (K8 (Gt a)+b),Wq (Ga (Gt a)+b),()),a.2.2.2)].length)*40<=140737488355328)<|
some (.inl (Wq (d+1),c++[(Wq ((2:Int)*Gj a),(Wq (K8 (Gt a)+b),Wq (Ga (Gt a)+b),()),a.2.2.2),(Wq (Wq ((2:Int)*Gj a)+1),(Wq (K8 (Gt a)+b),Wq (Ga (Gt a)+b),()),a.2.2.2)],()))
else
(ZwI (λx=>K7 x) c).bind λg=>
some (.inr (.inr g))
def VT (d:Zo) (b:Int) (a:List Zj):Option ((Int×(List Zj)×Unit)⊕List Zj):=
if b<((Gb d).length:Int)then
(Zcw (Gb d) b).bind λc=>
(atI c 0).bind λe=>
(Vt a (K7 e)).bind λf=>
if f.2 then
some (.inl (Wq (b+1),a,()))
else
Zw ((a.length+c.length)*40<=140737488355328)<|
some (.inl (Wq (b+1),a++c,()))
else
Zt (λv=>VR d v.1 v.2.1) ((0:Int),a,())
def ZcX (a:Zo):Option (List Zj):=
Zt (λv=>VT a v.1 v.2.1) ((0:Int),([]:List Zj),())
def c143:Ctr:=⟨[.dat (Zc4)],[.own (.ol 149 (.flat (Xv)))],λa K=>Zx a λb a=>YR (ZcX b) λr=>K (r,()) ()⟩
def Zdo (b:ZG):Option Zr:=
(YP b).bind λa=>
Zw ((0:Int)<=a)<|
Zw (a<=a)<|
Zw (a<=4611686018427387904)<|
Zw (((1:Nat):Int)*a<=281474976710656)<|
Zw (((16:Nat):Int)*a<=281474976710656)<|
some (List.replicate (Int.toNat a) false,List.replicate (Int.toNat a) ((0:Int),(0:Int),()),List.replicate (Int.toNat a) ((0:Int),(0:Int),()),())
def ZD4:Ctr:=⟨[.dat (.ptr (ZfA))],[.own (ZjU)],λa K=>Zx a λb a=>YR (Zdo b) λr=>K (r,()) ()⟩
def Zhb (a b:Zz):Option Zz:=
some (Min.min (K8 a) (K8 b),Max.max (Ga a) (Ga b),())
def c145:Ctr:=D2 (Zag) (Zag) (Zag) Zhb
def JH (d:Zj) (a:Bool) (b c:Zz):Option (Zj×Bool):=
if a then
(Zhb (GR d) b).bind λe=>
(Zhb (GZ d) c).bind λf=>
some ((K7 d,e,f,()),a)
else
some ((K7 d,b,c,()),true)
def c146:Ctr:=⟨[.io (.flat (Xv)),.io (.flat (.bool)),.dat (Zag),.dat (Zag)],[],λa K=>Zx a λe a=>Zx a λc a=>Zx a λb a=>Zx a λd a=>YR (JH e c b d) λr=>K () (r.1,r.2,())⟩
def ZfE (b:Zn) (a:Int):Option Bool:=
some (decide (Gf b=a))
def ZD5:Ctr:=D2 (Zaj) (.ptr Iq) (.bool) ZfE
def YI (c:ZM) (d:Int×Unit) (a:List Int) (b:Int):Option (((List Int)×Int×Unit)⊕List Int):=
if b<((ZG.links (ZM.view c)).length:Int)then
(atI (ZG.links (ZM.view c)) b).bind λf=>
(atI (ZM.live c) b).bind λg=>
if g then
(ZfE f d.1).bind λe=>
if e then
Zw ((a.length+[b].length)*8<=140737488355328)<|
some (.inl (a++[b],Wq (b+1),()))
else
some (.inl (a,Wq (b+1),()))
else
some (.inl (a,Wq (b+1),()))
else
some (.inr a)
def Qc (b:ZM) (a:Int×Unit):Option (List Int):=
Zt (λv=>YI b a v.1 v.2.1) (([]:List Int),(0:Int),())
def c148:Ctr:=⟨[.dat (.ptr (ZeL)),.dat (.fn 240 (.pair (.ptr Iq) (.unit)))],[.own (.ol 2 (.flat Iq))],λa K=>Zx a λc a=>Zx a λb a=>YR (Qc c b) λr=>K (r,()) ()⟩
def Zd6 (c:ZM) (a:Int):Option (List Int):=
(Qc c (a,())).bind λb=>
some b
def ZD6:Ctr:=⟨[.dat (.ptr (ZeL)),.dat Iq],[.own (.ol 2 (.flat Iq))],λa K=>Zx a λc a=>Zx a λb a=>YR (Zd6 c b) λr=>K (r,()) ()⟩
def Zaz (b:ZG) (c:Zn):Option Int:=
(atI (ZG.ZB b) (Wq (Int.tdiv (Gf c) 2))).bind λa=>
some (Y6.net a)
def ZBY:Ctr:=D2 (.ptr (ZfA)) (Zaj) Iq Zaz
def Zb5 (a:ZG) (b:Zn):Option ZL:=
(atI (ZG.ZB a) (Wq (Int.tdiv (Gf b) 2))).bind λc=>
(atI (K4 (K3 (Hf a))) (G9 c)).bind λd=>
(atI (Gh (GG (Hf a))) (GJ d)).bind λf=>
(atI (Ge f) (He b)).bind λe=>
some e
def ZC9:Ctr:=D2 (.ptr (ZfA)) (Zaj) (Zow) Zb5
def ZdU (a:Int):Option Bool:=
some (!decide (a=a))
def c152:Ctr:=D1 Iq (.bool) ZdU
def Ze7 (b a:Int):Option Bool:=
(ZdU b).bind λc=>
if c then
(ZdU a).bind λd=>
if d then
some (decide (b<a))
else
some true
else
some (decide (b<a))
def ZD7:Ctr:=D2 Iq Iq (.bool) Ze7
def JX (a:Int):Option Bool:=
some (!decide (a=a))
def c154:Ctr:=D1 Iq (.bool) JX
def X5 (f:List Int) (a b c:Int):Option ((Int×Int×Unit)⊕(Int×Bool)):=
if b<c then
(atI f (Wq (Int.fdiv (IntKind.wrap IntKind.u64 (Wq (b+c))) (2^Min.min (Int.toNat 1) (IntKind.bits IntKind.u64))))).bind λd=>
(Ze7 d a).bind λe=>
if e then
some (.inl (Wq (Wq (Int.fdiv (IntKind.wrap IntKind.u64 (Wq (b+c))) (2^Min.min (Int.toNat 1) (IntKind.bits IntKind.u64)))+1),c,()))
else
some (.inl (b,Wq (Int.fdiv (IntKind.wrap IntKind.u64 (Wq (b+c))) (2^Min.min (Int.toNat 1) (IntKind.bits IntKind.u64))),()))
else
if b<(f.length:Int)then
(atI f b).bind λd=>
if d=a then
some (.inr (b,true))
else
(JX d).bind λe=>
if e then
(JX a).bind λg=>
some (.inr (b,g))
else
some (.inr (b,false))
else
some (.inr (b,false))
def XK (b:List Int) (a:Int):Option (Int×Bool):=
Zt (λv=>X5 b a v.1 v.2.1) ((0:Int),(b.length:Int),())
def ZD8:Ctr:=⟨[.dat (.sl Iq),.dat Iq],[.dat Iq,.dat (.bool)],λa K=>Zx a λc a=>Zx a λb a=>YR (XK c b) λr=>K (r.1,r.2,()) ()⟩
def Zfn (a:List Int) (c:Int):Option ((List Zbo)×Int):=
(atI a 0).bind λd=>
(atI a (Wq ((a.length:Int)-1))).bind λe=>
(XK a (Min.min (Max.max c d) e)).bind λb=>
if b.2 then
some ([(b.1,(1:Int),())],1)
else
(atI a b.1).bind λg=>
(atI a (Wq (b.1-1))).bind λf=>
some ([(Wq (b.1-1),Wq (g-Min.min (Max.max c d) e),()),(b.1,Wq (Min.min (Max.max c d) e-f),())],Wq (g-f))
def c156:Ctr:=⟨[.dat (.sl Iq),.dat Iq],[.own (.ol 320 (.flat (Zta))),.dat Iq],λa K=>Zx a λb a=>Zx a λc a=>YR (Zfn b c) λr=>K (r.1,r.2,()) ()⟩
def ZbZ (b a c:Int):Option Int:=
Zw (a≠0)<|
if c=0 then
if Int.tmod b a<0 then
some (Wq (Wq (Int.tdiv b a)-1))
else
if c=1 then
if 0<Int.tmod b a then
some (Wq (Wq (Int.tdiv b a)+1))
else
some (Wq (Int.tdiv b a))
else
some (Wq (Int.tdiv b a))
else
if c=1 then
if 0<Int.tmod b a then
some (Wq (Wq (Int.tdiv b a)+1))
else
some (Wq (Int.tdiv b a))
else
some (Wq (Int.tdiv b a))
def c157:Ctr:=D3 Iq Iq Iq Iq ZbZ
def XV (e:ZH) (a:List Zbo×Int) (g:Int) (d:Zbo) (c b:Int):Option ((Int×Int×Unit)⊕((Int×Int×Unit)⊕Int)):=
if b<(a.1.length:Int)then
(atI a.1 b).bind λf=>
(atI (Gr e) (Wq (Wq (Zbo.index d*((Gq e).length:Int))+Zbo.index f))).bind λh=>
some (.inl (Wq (c+Wq (Wq (h*Zbo.part d)*Zbo.part f)),Wq (b+1),()))
else
some (.inr (.inl (c,Wq (g+1),())))
def YH (g:ZH) (h:Int) (a b:List Zbo×Int) (d c:Int):Option ((Int×Int×Unit)⊕Int):=
if c<(a.1.length:Int)then
(atI a.1 c).bind λf=>
Zt (λv=>XV g b c f v.1 v.2.1) (d,(0:Int),())
else
(ZbZ d (Wq (a.2*b.2)) h).bind λe=>
some (.inr e)
def Zay (a:ZH) (e f c:Int):Option Int:=
(Zfn (GT a) e).bind λb=>
(Zfn (Gq a) f).bind λd=>
Zt (λv=>YH a c b d v.1 v.2.1) ((0:Int),(0:Int),())
def ZDa:Ctr:=D4 (Zbi) Iq Iq Iq Iq Zay
def JM (c:ZA) (b a:Int):Option Int:=
if b=1 then
if a=0 then
some (Hj c)
else
if b=1 then
some (Hi c)
else
if a=0 then
some (Hk c)
else
some (Hl c)
else
if b=1 then
some (Hi c)
else
if a=0 then
some (Hk c)
else
some (Hl c)
def c159:Ctr:=D3 (Qf) Iq Iq Iq JM
def Zhq (d a b:Int):Option Int:=
(ZbZ (Wq (d*a)) 1000 b).bind λc=>
some c
def c160:Ctr:=D3 Iq Iq Iq Iq Zhq
def Jo (c:ZG) (i:ZA) (j k b:Int):Option Int:=
(atI (ZG.links c) j).bind λa=>
(Zaz c a).bind λh=>
if GH a=1 then
(atI (ZG.loads c) h).bind λf=>
(Zb5 c a).bind λm=>
(atI (Gy m) (Int.tmod (Gf a) 2)).bind λg=>
(Zay g k f b).bind λl=>
(JM i (GH a) b).bind λe=>
(Zhq l e b).bind λd=>
some d
else
(atI (ZG.Zii c) h).bind λf=>
(atI f (He a)).bind λg=>
(ZbZ g 1000 b).bind λn=>
(JM i (GH a) b).bind λe=>
(Zhq n e b).bind λd=>
some d
def ZD9:Ctr:=⟨[.dat (.ptr (ZfA)),.dat (Qf),.dat Iq,.dat Iq,.dat Iq],[.dat Iq],λa K=>Zx a λc a=>Zx a λd a=>Zx a λe a=>Zx a λf a=>Zx a λb a=>YR (Jo c d e f b) λr=>K (r,()) ()⟩
def Zb3 (c b a:Int):Option ((Int×Int×Unit)⊕Int):=
if b<a then
if Wq (Wq (Int.tdiv (Wq (Wq (b+a)+1)) 2)*Wq (Int.tdiv (Wq (Wq (b+a)+1)) 2))<=c then
some (.inl (Wq (Int.tdiv (Wq (Wq (b+a)+1)) 2),a,()))
else
some (.inl (b,Wq (Wq (Int.tdiv (Wq (Wq (b+a)+1)) 2)-1),()))
else
some (.inr b)
def ZkO (a:Int):Option Int:=
Zt (λv=>Zb3 a v.1 v.2.1) ((0:Int),(3000000000:Int),())
def c162:Ctr:=D1 Iq Iq ZkO
def ZfX (b a c:Int):Option Int:=
(ZkO (Wq (Wq (Wq (Wq (500*b)*500)*b)+Wq (a*a)))).bind λd=>
if c=1 then
if Wq (d*d)<Wq (Wq (Wq (Wq (500*b)*500)*b)+Wq (a*a))then
some (Wq (Wq (Int.tdiv d 500)+1))
else
(ZbZ d 500 c).bind λe=>
some e
else
(ZbZ d 500 c).bind λe=>
some e
def ZEa:Ctr:=D3 Iq Iq Iq Iq ZfX
def Y9 (d:ZG) (e a b:Int):Option Int:=
(atI (ZG.links d) e).bind λc=>
(Zaz d c).bind λh=>
if GH c=1 then
(atI (ZG.loads d) h).bind λf=>
(Zb5 d c).bind λk=>
(atI (GO k) (Int.tmod (Gf c) 2)).bind λg=>
(Zay g a f b).bind λj=>
some (Min.min j 1000000)
else
(atI (ZG.Zii d) h).bind λf=>
(atI f (He c)).bind λg=>
(ZfX a g b).bind λi=>
some (Min.min i 1000000)
def c164:Ctr:=D4 (.ptr (ZfA)) Iq Iq Iq Iq Y9
def ZaA (a:ZG) (h:ZA) (b:Int) (c:Zz):Option (Zz×Zz):=
(Jo a h b (K8 c) 0).bind λi=>
(Jo a h b (Ga c) 0).bind λk=>
(Jo a h b (K8 c) 1).bind λl=>
(Jo a h b (Ga c) 1).bind λj=>
(atI (ZG.links a) b).bind λm=>
if 0<((ZG.extras a).length:Int)then
if GH m=2 then
(Zaz a m).bind λo=>
(atI (ZG.extras a) o).bind λn=>
(Y9 a b (K8 c) 0).bind λf=>
(Y9 a b (Ga c) 0).bind λd=>
(Y9 a b (K8 c) 1).bind λe=>
(Y9 a b (Ga c) 1).bind λg=>
some ((Wq (Min.min i k-n),Wq (Max.max l j+n),()),(Min.min f d,Max.max e g,()))
else
(Y9 a b (K8 c) 0).bind λf=>
(Y9 a b (Ga c) 0).bind λd=>
(Y9 a b (K8 c) 1).bind λe=>
(Y9 a b (Ga c) 1).bind λg=>
some ((Min.min i k,Max.max l j,()),(Min.min f d,Max.max e g,()))
else
(Y9 a b (K8 c) 0).bind λf=>
(Y9 a b (Ga c) 0).bind λd=>
(Y9 a b (K8 c) 1).bind λe=>
(Y9 a b (Ga c) 1).bind λg=>
some ((Min.min i k,Max.max l j,()),(Min.min f d,Max.max e g,()))
def ZEb:Ctr:=⟨[.dat (.ptr (ZfA)),.dat (Qf),.dat Iq,.dat (Zag)],[.dat (Zag),.dat (Zag)],λa K=>Zx a λb a=>Zx a λc a=>Zx a λd a=>Zx a λe a=>YR (ZaA b c d e) λr=>K (r.1,r.2,()) ()⟩
def Zhc (a b:Zz):Option Zz:=
some (Wq (K8 a+K8 b),Wq (Ga a+Ga b),())
def ZEc:Ctr:=D2 (Zag) (Zag) (Zag) Zhc
def ZgE (n:ZM) (s:ZA) (h:Zr) (c:List Int) (b j k d e i:Int) (f:Bool):Option ((Int×Int×Int×Int×Int×Int×Bool×Unit)⊕(Bool×Zj)):=
if b<(c.length:Int)then
(atI c b).bind λl=>
(atI (ZG.links (ZM.view n)) l).bind λg=>
(atI (Gd h) (Gc g)).bind λr=>
if r then
(atI (GF h) (Gc g)).bind λp=>
(ZaA (ZM.view n) s l p).bind λm=>
(atI (GL h) (Gc g)).bind λo=>
(Zhc o m.1).bind λq=>
(JH (j,(k,d,()),(e,i,()),()) f q m.2).bind λa=>
some (.inl (Wq (b+1),a.1.1,a.1.2.1.1,a.1.2.1.2.1,a.1.2.2.1.1,a.1.2.2.1.2.1,a.2,()))
else
some (.inl (Wq (b+1),j,k,d,e,i,f,()))
else
if f then
some (.inr (true,(j,(k,d,()),(e,i,()),())))
else
some (.inr (false,(0,(0,0,()),(0,0,()),())))
def Xp (n:ZM) (s:ZA) (h:Zr) (c:List Int) (b j k d e i:Int) (f:Bool):Option ((Int×Int×Int×Int×Int×Int×Bool×Unit)⊕(Bool×Zj)):=
if b<(c.length:Int)then
(atI c b).bind λl=>
(atI (ZG.links (ZM.view n)) l).bind λg=>
(atI (Gd h) (Gc g)).bind λr=>
if r then
(atI (GF h) (Gc g)).bind λp=>
(ZaA (ZM.view n) s l p).bind λm=>
(atI (GL h) (Gc g)).bind λo=>
(Zhc o m.1).bind λq=>
(JH (j,(k,d,()),(e,i,()),()) f q m.2).bind λa=>
some (.inl (Wq (b+1),a.1.1,a.1.2.1.1,a.1.2.1.2.1,a.1.2.2.1.1,a.1.2.2.1.2.1,a.2,()))
else
some (.inl (Wq (b+1),j,k,d,e,i,f,()))
else
if f then
some (.inr (true,(j,(k,d,()),(e,i,()),())))
else
some (.inr (false,(0,(0,0,()),(0,0,()),())))
def Qb (c:ZM) (f:ZA) (h:List Zj) (g:Zr) (b:Int):Option (Bool×Zj):=
(Vt h b).bind λd=>
if d.2 then
(JH (b,(0,0,()),(0,0,()),()) false d.1.2.1 d.1.2.2.1).bind λa=>
(Zd6 c b).bind λe=>
Zt (λv=>ZgE c f g e v.1 v.2.1 v.2.2.1 v.2.2.2.1 v.2.2.2.2.1 v.2.2.2.2.2.1 v.2.2.2.2.2.2.1) ((0:Int),a.1.1,a.1.2.1.1,a.1.2.1.2.1,a.1.2.2.1.1,a.1.2.2.1.2.1,a.2,())
else
(Zd6 c b).bind λe=>
Zt (λv=>Xp c f g e v.1 v.2.1 v.2.2.1 v.2.2.2.1 v.2.2.2.2.1 v.2.2.2.2.2.1 v.2.2.2.2.2.2.1) ((0:Int),b,(0:Int),(0:Int),(0:Int),(0:Int),false,())
def c167:Ctr:=⟨[.dat (.ptr (ZeL)),.dat (Qf),.dat (.sl (Xv)),.dat (Zib),.dat Iq],[.dat (.bool),.dat (Xv)],λa K=>Zx a λc a=>Zx a λd a=>Zx a λe a=>Zx a λf a=>Zx a λb a=>YR (Qb c d e f b) λr=>K (r.1,r.2,()) ()⟩
def Yh (m:ZM) (l:ZA) (d:List Zj) (c:List Int) (h:Int) (k:List Bool) (i j:List Zz) (e:List Bool) (f g:List Zz):Option ((Int×(List Bool)×(List Zz)×(List Zz)×(List Bool)×(List Zz)×(List Zz)×Unit)⊕(Zr×Bool)):=
if h<(c.length:Int)then
(atI c h).bind λa=>
(Qb m l d (e,f,g,()) a).bind λb=>
if b.1 then
(Jm b.2.2.1).bind λp=>
if p then
(atI e a).bind λn=>
(atI f a).bind λq=>
(atI g a).bind λo=>
some (.inl (Wq (h+1),k,i,j,List.set e (Int.toNat a) b.1,List.set f (Int.toNat a) b.2.2.1,List.set g (Int.toNat a) b.2.2.2.1,()))
else
some (.inr ((([]:List Bool),([]:List Zz),([]:List Zz),()),false))
else
(atI e a).bind λn=>
(atI f a).bind λq=>
(atI g a).bind λo=>
some (.inl (Wq (h+1),k,i,j,List.set e (Int.toNat a) b.1,List.set f (Int.toNat a) b.2.2.1,List.set g (Int.toNat a) b.2.2.2.1,()))
else
some (.inr ((e,f,g,()),true))
def Qd (d:ZM) (e:ZA) (a:List Zj) (b:List Int):Option (Zr×Bool):=
(Zdo (ZM.view d)).bind λc=>
Zt (λv=>Yh d e a b v.1 v.2.1 v.2.2.1 v.2.2.2.1 v.2.2.2.2.1 v.2.2.2.2.2.1 v.2.2.2.2.2.2.1) ((0:Int),([]:List Bool),([]:List Zz),([]:List Zz),Gd c,GL c,GF c,())
def c168:Ctr:=⟨[.dat (.ptr (ZeL)),.dat (Qf),.dat (.sl (Xv)),.dat (.sl Iq)],[.own (ZjU),.dat (.bool)],λa K=>Zx a λd a=>Zx a λe a=>Zx a λb a=>Zx a λc a=>YR (Qd d e b c) λr=>K (r.1,r.2,()) ()⟩
def Zb4 (f:Zc) (a:Zo) (h:Int):Option ((Option ZcU)×Int):=
(Zfm f a).bind λj=>
if j then
(QL (GV a)).bind λl=>
(Z6 h 0 (Wq (l-1))).bind λm=>
if m then
(Vx f).bind λg=>
(atI (GV a) h).bind λc=>
(VW g).bind λk=>
(Vn g k).bind λb=>
(ZcX a).bind λd=>
(Q8 b).bind λe=>
if e.2 then
(Qd b c d e.1).bind λi=>
if i.2 then
some (Option.some (b,c,d,i.1,()),0)
else
some (Option.none,3)
else
some (Option.none,7)
else
some (Option.none,4)
else
some (Option.none,1)
def ZEd:Ctr:=⟨[.dat (Xi),.dat (Zc4),.dat Iq],[.dat (.nptr (Zsd)),.dat Iq],λa K=>Zx a λb a=>Zx a λc a=>Zx a λd a=>YR (Zb4 b c d) λr=>K (r.1,r.2,()) ()⟩
def ZJh (a:List Zf) (b:List Int):Option Int:=
(ZfV a).bind λc=>
if c then
(Zbt a).bind λd=>
(Xy b 0 (Wq (d-1))).bind λe=>
if e then
some 0
else
some 4
else
some 1
def ZEe:Ctr:=D2 (.sl (ZbL)) (.sl Iq) Iq ZJh
def ZIP (a:Int):Option Bool:=
if a=0 then
some true
else
some (decide (a=1))
def c171:Ctr:=D1 Iq (.bool) ZIP
def ZJA (a:List Zf) (b:Int):Option ((Int×Unit)⊕Int):=
(atI a b).bind λc=>
if 0<=Gm c then
some (.inl (Gm c,()))
else
some (.inr b)
def ZJq (a:List Zf) (b:Int):Option Int:=
Zt (λv=>ZJA a v.1) (b,())
def ZEf:Ctr:=D2 (.sl (ZbL)) Iq Iq ZJq
def ZJX (b a:Int):Option ((Int×Int×Unit)⊕Int):=
if a=0 then
some (.inr b)
else
Zw (a≠0)<|
some (.inl (a,Int.tmod b a,()))
def ZKR (b a:Int):Option Int:=
Zt (λv=>ZJX v.1 v.2.1) (b,a,())
def c173:Ctr:=D2 Iq Iq Iq ZKR
def ZJa (a:List Zf) (e f:Int):Option Int:=
(ZeT a e).bind λb=>
(ZeT a f).bind λc=>
(ZKR (ZcF.period b) (ZcF.period c)).bind λd=>
Zw (d≠0)<|
some (Wq (Wq (Int.tdiv (ZcF.period b) d)*ZcF.period c))
def ZEg:Ctr:=D3 (.sl (ZbL)) Iq Iq Iq ZJa
def ZJt (a:List Zf) (b h c g:Int):Option (Zjt×Int):=
(ZJh a [b,c]).bind λf=>
if f=0 then
(ZIP h).bind λl=>
if l then
(ZIP g).bind λm=>
if m then
(ZJq a b).bind λk=>
(ZJq a c).bind λj=>
if k=j then
(ZeT a b).bind λe=>
(ZeT a c).bind λi=>
(ZJa a b c).bind λd=>
if 100000000<d then
some (((0,(0,0,()),()),(0,(0,0,()),()),0,0,0,()),3)
else
Zw (ZcF.period e≠0)<|
if 200<Wq (Int.tdiv d (ZcF.period e))then
some (((0,(0,0,()),()),(0,(0,0,()),()),0,0,0,()),3)
else
some ((e,i,h,g,d,()),0)
else
some (((0,(0,0,()),()),(0,(0,0,()),()),0,0,0,()),5)
else
some (((0,(0,0,()),()),(0,(0,0,()),()),0,0,0,()),2)
else
some (((0,(0,0,()),()),(0,(0,0,()),()),0,0,0,()),2)
else
some (((0,(0,0,()),()),(0,(0,0,()),()),0,0,0,()),f)
def c175:Ctr:=⟨[.dat (.sl (ZbL)),.dat Iq,.dat Iq,.dat Iq,.dat Iq],[.dat (ZCF),.dat Iq],λa K=>Zx a λc a=>Zx a λd a=>Zx a λe a=>Zx a λf a=>Zx a λb a=>YR (ZJt c d e f b) λr=>K (r.1,r.2,()) ()⟩
def ZJC (b a:Int):Option Int:=
Zw (a≠0)<|
some (Int.tmod (Wq (Int.tmod b a+a)) a)
def ZEh:Ctr:=D2 Iq Iq Iq ZJC
def ZJi (c:ZcF) (b a:Int):Option Int:=
Zw ((0:Int)<=b)<|
Zw (b<((2:Nat):Int))<|
if b=0 then
(ZJC (Wq ((G6 c).1-a)) (ZcF.period c)).bind λd=>
some (Wq (a+d))
else
if b=1 then
(ZJC (Wq ((G6 c).2.1-a)) (ZcF.period c)).bind λd=>
some (Wq (a+d))
else
none
def ZEi:Ctr:=D3 (Zzb) Iq Iq Iq ZJi
def ZIF (c:Zjt) (a:List (List Int)) (b:Int):Option (((List (List Int))×Int×Unit)⊕List (List Int)):=
if b<HJ c then
(ZJi (HF c) (Zjt.eb c) (Wq (b+1))).bind λd=>
Zw ((a.length+[[b,d]].length)*24<=140737488355328)<|
some (.inl (a++[[b,d]],Wq (b+ZcF.period (HC c)),()))
else
some (.inr a)
def ZIX (a:Zjt):Option (List (List Int)):=
Zw ((0:Int)<=Zjt.ea a)<|
Zw (Zjt.ea a<((2:Nat):Int))<|
if Zjt.ea a=0 then
Zt (λv=>ZIF a v.1 v.2.1) (([]:List (List Int)),(G6 (HC a)).1,())
else
if Zjt.ea a=1 then
Zt (λv=>ZIF a v.1 v.2.1) (([]:List (List Int)),(G6 (HC a)).2.1,())
else
none
def ZEj:Ctr:=⟨[.dat (ZCF)],[.own (.ol 52 (.ol 2 (.flat Iq)))],λa K=>Zx a λb a=>YR (ZIX b) λr=>K (r,()) ()⟩
def ZJJ (b:List (List Int)) (a c:Int) (e:List (List Int)):Option ((Int×Int×(List (List Int))×Unit)⊕Int):=
if c<(b.length:Int)then
(atI e c).bind λd=>
(atI d 1).bind λg=>
(atI d 0).bind λf=>
some (.inl (Min.min a (Wq (g-f)),Wq (c+1),List.set e (Int.toNat c) d,()))
else
some (.inr a)
def ZI9 (b:Zjt):Option Int:=
(ZIX b).bind λa=>
Zt (λv=>ZJJ a v.1 v.2.1 v.2.2.1) (ZcF.period (HF b),(0:Int),a,())
def ZEk:Ctr:=D1 (ZCF) Iq ZI9
def ZJj (e:Zjt) (b:List (List Int)) (a c:Int) (f:List (List Int)):Option ((Int×Int×(List (List Int))×Unit)⊕Int):=
if c<(b.length:Int)then
(atI f c).bind λd=>
(atI d 1).bind λh=>
(atI d 0).bind λg=>
some (.inl (Max.max a (Wq (Wq (h-g)-Min.min (ZcF.period (HF e)) (ZcF.period (HC e)))),Wq (c+1),List.set f (Int.toNat c) d,()))
else
some (.inr a)
def ZJb (a:Zjt):Option Int:=
(ZIX a).bind λb=>
Zt (λv=>ZJj a b v.1 v.2.1 v.2.2.1) (Wq (Wq ((0:Int)-ZcF.period (HF a))-ZcF.period (HC a)),(0:Int),b,())
def ZEl:Ctr:=D1 (ZCF) Iq ZJb
def ZIO (d:Zo) (a c:Int):Option (Zhl×Int):=
(ZJt (Gb d) a 0 c 0).bind λb=>
if b.2=0 then
(atI (Gb d) a).bind λe=>
(atI (Gb d) c).bind λf=>
(ZI9 b.1).bind λg=>
(ZJb b.1).bind λh=>
some ((g,h,Max.max (Ht e) (Ht f),()),0)
else
some ((0,0,0,()),b.2)
def ZEm:Ctr:=⟨[.dat (Zc4),.dat Iq,.dat Iq],[.dat (ZxB),.dat Iq],λa K=>Zx a λd a=>Zx a λb a=>Zx a λc a=>YR (ZIO d b c) λr=>K (r.1,r.2,()) ()⟩
def ZIC (c:Int) (d:Zq) (a:List Zmj) (b:Int):Option (((List Zmj)×Int×Unit)⊕(((List Zmj)×Int×Unit)⊕List Zmj)):=
if b<((Ge d).length:Int)then
(atI (Ge d) b).bind λf=>
(ZgR (K9 f)).bind λe=>
if e then
Zw ((a.length+[(c,b,(0:Int),(0:Int),()),(c,b,(1:Int),(0:Int),())].length)*32<=140737488355328)<|
some (.inl (a++[(c,b,(0:Int),(0:Int),()),(c,b,(1:Int),(0:Int),())],Wq (b+1),()))
else
some (.inl (a,Wq (b+1),()))
else
some (.inr (.inl (a,Wq (c+1),())))
def ZID (c:Zc) (a:List Zmj) (b:Int):Option (((List Zmj)×Int×Unit)⊕List Zmj):=
if b<((K4 (K3 c)).length:Int)then
(atI (K4 (K3 c)) b).bind λd=>
(atI (Gh (GG c)) (GJ d)).bind λe=>
Zt (λv=>ZIC b e v.1 v.2.1) (a,(0:Int),())
else
some (.inr a)
def ZI8 (a:Zc):Option (List Zmj):=
Zt (λv=>ZID a v.1 v.2.1) (([]:List Zmj),(0:Int),())
def c182:Ctr:=⟨[.dat (Xi)],[.own (.ol 71 (.flat (ZCE)))],λa K=>Zx a λb a=>YR (ZI8 b) λr=>K (r,()) ()⟩
def ZIE (a:Y6) (c b:Int):Option Bool:=
if G9 a=c then
some (decide (Y6.pin a=b))
else
some false
def c183:Ctr:=D3 (Zk7) (.ptr Iq) (.ptr Iq) (.bool) ZIE
def ZIs (b:List Y6) (c:Int×Int×Unit) (a:Int):Option ((Int×Unit)⊕Int):=
if a<(b.length:Int)then
(atI b a).bind λe=>
(ZIE e c.1 c.2.1).bind λd=>
if d then
some (.inr a)
else
some (.inl (Wq (a+1),()))
else
some (.inr (-1))
def ZIr (a:List Y6) (b:Int×Int×Unit):Option Int:=
Zt (λv=>ZIs a b v.1) ((0:Int),())
def ZBF:Ctr:=D2 (.sl (Zk7)) (.fn 291 (.pair (.ptr Iq) (.pair (.ptr Iq) (.unit)))) Iq ZIr
def ZIT (d:Ze) (a b:Int):Option Int:=
(Qh d).bind λc=>
(ZIr c (a,b,())).bind λe=>
some e
def ZDb:Ctr:=D3 (Qv) Iq Iq Iq ZIT
def ZIy (a:Zq):Option Int:=
if GX a=1 then
some (-1)
else
if GX a=2 then
(V5 a 2).bind λb=>
if b then
some 0
else
some 1
else
some 1
def ZEn:Ctr:=D1 (ZgA) Iq ZIy
def ZII (b:ZG) (a:Zmj):Option (Int×Int):=
(atI (K4 (K3 (Hf b))) (HA a)).bind λf=>
(atI (Gh (GG (Hf b))) (GJ f)).bind λe=>
(atI (Ge e) (HB a)).bind λd=>
(ZIT (K3 (Hf b)) (HA a) 0).bind λc=>
(ZIy e).bind λg=>
some (Wq (Wq (2*Wq (c+Gn d))+Hz a),Wq (Wq (2*Wq (c+Gi d))+g))
def ZEo:Ctr:=⟨[.dat (.ptr (ZfA)),.dat (ZCE)],[.dat Iq,.dat Iq],λa K=>Zx a λc a=>Zx a λb a=>YR (ZII c b) λr=>K (r.1,r.2,()) ()⟩
def ZIL (a:List Zp):Option Int:=
some (a.length:Int)
def ZEp:Ctr:=D1 (.sl (Zfz)) Iq ZIL
def ZI3 (a:List ZL):Option Int:=
some (a.length:Int)
def ZEq:Ctr:=D1 (.sl (Zow)) Iq ZI3
def ZIS (c:Zc) (a b:Int):Option (ZL×Bool):=
(ZIL (K4 (K3 c))).bind λf=>
(Z6 a 0 (Wq (f-1))).bind λj=>
if j then
(atI (K4 (K3 c)) a).bind λg=>
(atI (Gh (GG c)) (GJ g)).bind λe=>
(ZI3 (Ge e)).bind λk=>
(Z6 b 0 (Wq (k-1))).bind λi=>
if i then
(atI (Ge e) b).bind λd=>
(ZgR (K9 d)).bind λh=>
if h then
some (d,true)
else
some ((0,0,0,0,[],[],()),false)
else
some ((0,0,0,0,[],[],()),false)
else
some ((0,0,0,0,[],[],()),false)
def ZDc:Ctr:=⟨[.dat (Xi),.dat Iq,.dat Iq],[.dat (Zow),.dat (.bool)],λa K=>Zx a λd a=>Zx a λb a=>Zx a λc a=>YR (ZIS d b c) λr=>K (r.1,r.2,()) ()⟩
def ZIw (g:ZG) (b:Zr) (c:Zhl) (d:Zmj):Option (Int×Bool):=
(ZII g d).bind λa=>
(atI (Gd b) a.1).bind λj=>
if j then
(atI (Gd b) a.2).bind λl=>
if l then
(ZIS (Hf g) (HA d) (HB d)).bind λi=>
(atI i.1.2.2.2.2.1 (Hz d)).bind λn=>
(atI (GF b) a.1).bind λm=>
(atI (GF b) a.2).bind λk=>
(Zay n (Ga m) (Ga k) 1).bind λh=>
if i.1.1=4 then
(atI (GL b) a.2).bind λf=>
(atI (GL b) a.1).bind λe=>
some (Wq (Wq (Wq (Wq (HE c+K8 f)-h)-HD c)-Ga e),true)
else
(atI (GL b) a.1).bind λf=>
(atI (GL b) a.2).bind λe=>
some (Wq (K8 f-Wq (Wq (Wq (HH c+Ga e)+h)+HD c)),true)
else
some (0,false)
else
some (0,false)
def ZEr:Ctr:=⟨[.dat (.ptr (ZfA)),.dat (Zib),.dat (ZxB),.dat (ZCE)],[.dat Iq,.dat (.bool)],λa K=>Zx a λb a=>Zx a λc a=>Zx a λd a=>Zx a λe a=>YR (ZIw b c d e) λr=>K (r.1,r.2,()) ()⟩
def ZIH (g:ZG) (h:Zr) (f:Zhl) (b a:List Zmj) (d:Int):Option (((List Zmj)×Int×Unit)⊕List Zmj):=
if d<(b.length:Int)then
(atI b d).bind λc=>
(ZIw g h f c).bind λe=>
if e.2 then
Zw ((a.length+[(HA c,HB c,Hz c,e.1,())].length)*32<=140737488355328)<|
some (.inl (a++[(HA c,HB c,Hz c,e.1,())],Wq (d+1),()))
else
some (.inl (a,Wq (d+1),()))
else
some (.inr a)
def ZIJ (b:ZG) (d:Zr) (a:Zhl):Option (List Zmj):=
(ZI8 (Hf b)).bind λc=>
Zt (λv=>ZIH b d a c v.1 v.2.1) (([]:List Zmj),(0:Int),())
def ZEs:Ctr:=⟨[.dat (.ptr (ZfA)),.dat (Zib),.dat (ZxB)],[.own (.ol 71 (.flat (ZCE)))],λa K=>Zx a λc a=>Zx a λd a=>Zx a λb a=>YR (ZIJ c d b) λr=>K (r,()) ()⟩
def ZIu (h:Zc) (e:Zo) (b a:Int):Option ((List Zmj)×Int):=
(Zb4 h e b).bind λc=>
if c.2=0 then
(ZIO e a a).bind λd=>
if d.2=0 then
(c.1).bind λf=>
(ZIJ (ZM.view (HI f)) (Hv f) d.1).bind λg=>
some (g,0)
else
some ([],d.2)
else
some ([],c.2)
def c193:Ctr:=⟨[.dat (Xi),.dat (Zc4),.dat Iq,.dat Iq],[.own (.ol 71 (.flat (ZCE))),.dat Iq],λa K=>Zx a λd a=>Zx a λe a=>Zx a λb a=>Zx a λc a=>YR (ZIu d e b c) λr=>K (r.1,r.2,()) ()⟩
def VH (d:Zq) (c b:Int) (a:XI) (e:Int):Option ((Int×Unit)⊕((Int×Int×Unit)⊕(Int×Bool))):=
if e<b then
(atI (K6 d) e).bind λg=>
if GE g=GE a then
some (.inr (.inr (0,false)))
else
some (.inl (Wq (e+1),()))
else
(ZaN (GE a)).bind λf=>
if f then
(ZV (Hg a) 0 500).bind λh=>
if h then
if b=Wq (((K6 d).length:Int)-1)then
if Hp a=2 then
if Hg a=0 then
if(Gg a)=true then
some (.inr (.inr (0,false)))
else
if b<Wq (((K6 d).length:Int)-1)then
if Hp a=1 then
if(Gg a)=true then
some (.inr (.inl (Wq (c+1),Wq (b+1),())))
else
some (.inr (.inl (c,Wq (b+1),())))
else
some (.inr (.inr (0,false)))
else
if(Gg a)=true then
some (.inr (.inl (Wq (c+1),Wq (b+1),())))
else
some (.inr (.inl (c,Wq (b+1),())))
else
some (.inr (.inr (0,false)))
else
some (.inr (.inr (0,false)))
else
if b<Wq (((K6 d).length:Int)-1)then
if Hp a=1 then
if(Gg a)=true then
some (.inr (.inl (Wq (c+1),Wq (b+1),())))
else
some (.inr (.inl (c,Wq (b+1),())))
else
some (.inr (.inr (0,false)))
else
if(Gg a)=true then
some (.inr (.inl (Wq (c+1),Wq (b+1),())))
else
some (.inr (.inl (c,Wq (b+1),())))
else
some (.inr (.inr (0,false)))
else
some (.inr (.inr (0,false)))
def J3 (b:Zq) (c a:Int):Option ((Int×Int×Unit)⊕(Int×Bool)):=
if a<((K6 b).length:Int)then
(atI (K6 b) a).bind λd=>
Zt (λv=>VH b c a d v.1) ((0:Int),())
else
some (.inr (c,true))
def Zg5 (a:Zq):Option (Int×Bool):=
if((K6 a).length:Int)<2 then
some (0,false)
else
if 5<((K6 a).length:Int)then
some (0,false)
else
Zt (λv=>J3 a v.1 v.2.1) ((0:Int),(0:Int),())
def c194:Ctr:=⟨[.dat (ZgA)],[.dat Iq,.dat (.bool)],λa K=>Zx a λb a=>YR (Zg5 b) λr=>K (r.1,r.2,()) ()⟩
def Zeo (a:List Int) (b:Int):Option ((Int×Unit)⊕Bool):=
if b<(a.length:Int)then
(atI a b).bind λc=>
(ZV c 0 100000).bind λd=>
if d then
if 0<b then
(atI a (Wq (b-1))).bind λe=>
if c<=e then
some (.inr false)
else
some (.inl (Wq (b+1),()))
else
some (.inl (Wq (b+1),()))
else
some (.inr false)
else
if 1<=(a.length:Int)then
some (.inr (decide ((a.length:Int)<=4)))
else
some (.inr false)
def Zfs (a:List Int):Option Bool:=
Zt (λv=>Zeo a v.1) ((0:Int),())
def ZEt:Ctr:=D1 (.sl Iq) (.bool) Zfs
def Zem (b:ZH) (a:Int):Option ((Int×Unit)⊕Bool):=
if a<((Gr b).length:Int)then
(atI (Gr b) a).bind λd=>
(ZV d (-1000000) 1000000).bind λc=>
if c then
some (.inl (Wq (a+1),()))
else
some (.inr false)
else
some (.inr true)
def Zg3 (a:ZH):Option Bool:=
(Zfs (GT a)).bind λb=>
if b then
(Zfs (Gq a)).bind λc=>
if c then
if((Gr a).length:Int)=Wq (((GT a).length:Int)*((Gq a).length:Int))then
Zt (λv=>Zem a v.1) ((0:Int),())
else
some false
else
some false
else
some false
def c196:Ctr:=D1 (Zbi) (.bool) Zg3
def JD (e:ZH) (a c d:Int):Option ((Int×Int×Int×Unit)⊕(Zz×Int)):=
if a<((Gr e).length:Int)then
(atI (Gr e) a).bind λb=>
some (.inl (Wq (a+1),Min.min c b,Max.max d b,()))
else
some (.inr ((c,d,()),0))
def Zde (a:ZH):Option (Zz×Int):=
(Zg3 a).bind λc=>
if c then
(atI (Gr a) 0).bind λb=>
Zt (λv=>JD a v.1 v.2.1 v.2.2.1) ((1:Int),b,b,())
else
some ((0,0,()),1)
def ZBG:Ctr:=⟨[.dat (Zbi)],[.dat (Zag),.dat Iq],λa K=>Zx a λb a=>YR (Zde b) λr=>K (r.1,r.2,()) ()⟩
def ZcJ (c:List ZH) (a:Bool) (b:Int):Option ((Int×Unit)⊕Bool):=
if b<2 then
(atI c b).bind λe=>
(Zde e).bind λd=>
if d.2=0 then
if a then
if d.1.1<0 then
some (.inr false)
else
some (.inl (Wq (b+1),()))
else
some (.inl (Wq (b+1),()))
else
some (.inr false)
else
some (.inr true)
def YN (b:List ZH) (a:Bool):Option Bool:=
if(b.length:Int)=2 then
Zt (λv=>ZcJ b a v.1) ((0:Int),())
else
some false
def c198:Ctr:=D2 (.sl (Zbi)) (.bool) (.bool) YN
def Zh6 (b:Zq) (a:ZL):Option Bool:=
(ZV (Gi a) 0 (Wq (Wq (((K6 b).length:Int)-1)-1))).bind λg=>
if g then
(ZV (Gn a) 0 (Wq (((K6 b).length:Int)-1))).bind λh=>
if h then
(atI (K6 b) (Gi a)).bind λd=>
if K9 a=1 then
if(Gg d)=true then
some false
else
if Gn a=Wq (((K6 b).length:Int)-1)then
(ZV (Gx a) 1 3).bind λi=>
if i then
(YN (Gy a) true).bind λc=>
if c then
(YN (GO a) true).bind λf=>
some f
else
some false
else
some false
else
some false
else
if K9 a=2 then
if K9 a=2 then
if(Gg d)=true then
if Gn a=Wq (((K6 b).length:Int)-1)then
if Gx a=0 then
(YN (Gy a) true).bind λc=>
if c then
(YN (GO a) true).bind λf=>
some f
else
some false
else
some false
else
some false
else
some false
else
if K9 a=4 then
if K9 a=4 then
if(Gg d)=true then
if Gn a<Wq (((K6 b).length:Int)-1)then
(atI (K6 b) (Gn a)).bind λe=>
if(Gg e)=true then
some false
else
if Gx a=0 then
(YN (Gy a) false).bind λc=>
if c then
some (decide (((GO a).length:Int)=0))
else
some false
else
some false
else
some false
else
some false
else
some false
else
if K9 a=5 then
if(Gg d)=true then
if Gn a<Wq (((K6 b).length:Int)-1)then
(atI (K6 b) (Gn a)).bind λe=>
if(Gg e)=true then
some false
else
if Gx a=0 then
(YN (Gy a) false).bind λc=>
if c then
some (decide (((GO a).length:Int)=0))
else
some false
else
some false
else
some false
else
some false
else
some false
else
if K9 a=3 then
if(Gg d)=true then
if Gn a=Wq (((K6 b).length:Int)-1)then
if Gx a=0 then
(YN (Gy a) true).bind λc=>
if c then
(YN (GO a) true).bind λf=>
some f
else
some false
else
some false
else
some false
else
some false
else
if K9 a=4 then
if K9 a=4 then
if(Gg d)=true then
if Gn a<Wq (((K6 b).length:Int)-1)then
(atI (K6 b) (Gn a)).bind λe=>
if(Gg e)=true then
some false
else
if Gx a=0 then
(YN (Gy a) false).bind λc=>
if c then
some (decide (((GO a).length:Int)=0))
else
some false
else
some false
else
some false
else
some false
else
some false
else
if K9 a=5 then
if(Gg d)=true then
if Gn a<Wq (((K6 b).length:Int)-1)then
(atI (K6 b) (Gn a)).bind λe=>
if(Gg e)=true then
some false
else
if Gx a=0 then
(YN (Gy a) false).bind λc=>
if c then
some (decide (((GO a).length:Int)=0))
else
some false
else
some false
else
some false
else
some false
else
some false
else
some false
else
some false
def ZBZ:Ctr:=D2 (ZgA) (Zow) (.bool) Zh6
def Za3 (d:Zq) (a:Int) (b:List Int):Option ((Int×(List Int)×Unit)⊕List Int):=
if a<((Ge d).length:Int)then
(atI (Ge d) a).bind λc=>
(atI b (K9 c)).bind λe=>
some (.inl (Wq (a+1),List.set b (Int.toNat (K9 c)) (Wq (e+1)),()))
else
some (.inr b)
def Zf2 (a:Zq):Option (List Int):=
Zt (λv=>Za3 a v.1 v.2.1) ((0:Int),List.replicate (Int.toNat (6:Int)) (0:Int),())
def ZBH:Ctr:=⟨[.dat (ZgA)],[.own (.ol 2 (.flat Iq))],λa K=>Zx a λb a=>YR (Zf2 b) λr=>K (r,()) ()⟩
def Zcy (e:Zq) (d:Int) (b:ZL) (a:Int):Option ((Int×Unit)⊕((Int×Unit)⊕Bool)):=
if a<d then
(atI (Ge e) a).bind λc=>
if K9 c=K9 b then
if Gi c=Gi b then
if Gn c=Gn b then
some (.inr (.inr false))
else
some (.inl (Wq (a+1),()))
else
some (.inl (Wq (a+1),()))
else
some (.inl (Wq (a+1),()))
else
some (.inr (.inl (Wq (d+1),())))
def Zcz (b:Zq) (a:Int×Bool) (c:Int):Option ((Int×Unit)⊕((Int×Unit)⊕Bool)):=
if c<((Gw b).length:Int)then
(atI (Gw b) c).bind λe=>
(ZV e 0 1).bind λd=>
if d then
some (.inl (Wq (c+1),()))
else
some (.inr (.inr false))
else
if a.1=0 then
Zw ((0:Int)<=IntKind.wrap IntKind.u64 (Wq (((K6 b).length:Int)-1)))<|
some (.inr (.inr (decide (((Gw b).length:Int)=Wq (1*2^Min.min (Int.toNat (IntKind.wrap IntKind.u64 (Wq (((K6 b).length:Int)-1)))) (IntKind.bits IntKind.i64))))))
else
some (.inr (.inr false))
def ZeY (b:Zq) (a:Int×Bool) (f:Int):Option ((Int×Unit)⊕Bool):=
if f<((Ge b).length:Int)then
(atI (Ge b) f).bind λc=>
(Zh6 b c).bind λh=>
if h then
Zt (λv=>Zcy b f c v.1) ((0:Int),())
else
some (.inr false)
else
(Zf2 b).bind λd=>
if GX b=1 then
Zt (λv=>Zcz b a v.1) ((0:Int),())
else
if GX b=2 then
if a.1=1 then
(atI d 1).bind λc=>
if c=0 then
(atI d 2).bind λe=>
(atI d 3).bind λg=>
if(decide (0<e)==decide (0<g))=true then
some (.inr false)
else
some (.inr (decide (((Gw b).length:Int)=0)))
else
some (.inr false)
else
some (.inr false)
else
if GX b=3 then
if a.1=1 then
(atI d 1).bind λc=>
if 0<c then
(atI d 2).bind λe=>
if 0<e then
(atI d 3).bind λg=>
if g=0 then
some (.inr (decide (((Gw b).length:Int)=0)))
else
some (.inr false)
else
some (.inr false)
else
some (.inr false)
else
some (.inr false)
else
some (.inr false)
def Zh4 (a:Zq):Option Bool:=
(Zg5 a).bind λb=>
if b.2 then
(ZaN (G0 a)).bind λd=>
if d then
if 8<((Ge a).length:Int)then
some false
else
(ZV (Hr a) 0 100000).bind λe=>
if e then
(ZV (Hs a) 0 100000).bind λc=>
if c then
Zt (λv=>ZeY a b v.1) ((0:Int),())
else
some false
else
some false
else
some false
else
some false
def c201:Ctr:=D1 (ZgA) (.bool) Zh4
def ZcH (e:ZI) (b:Int) (c:Zq) (a:Int):Option ((Int×Unit)⊕((Int×Unit)⊕Bool)):=
if a<b then
(atI (Gh e) a).bind λd=>
if G0 d=G0 c then
some (.inr (.inr false))
else
some (.inl (Wq (a+1),()))
else
some (.inr (.inl (Wq (b+1),())))
def ZcI (a:ZI) (b:Int):Option ((Int×Unit)⊕Bool):=
if b<((Gh a).length:Int)then
(atI (Gh a) b).bind λc=>
(Zh4 c).bind λd=>
if d then
Zt (λv=>ZcH a b c v.1) ((0:Int),())
else
some (.inr false)
else
some (.inr (decide (((Gh a).length:Int)<=8)))
def Zfg (a:ZI):Option Bool:=
Zt (λv=>ZcI a v.1) ((0:Int),())
def ZEu:Ctr:=D1 (VI) (.bool) Zfg
def ZdA (e:Ze) (d:Int) (b:Zp) (a:Int):Option ((Int×Unit)⊕((Int×Unit)⊕Bool)):=
if a<((Gu b).length:Int)then
(atI (Gu b) a).bind λf=>
(ZV f 0 (Wq (((Gp e).length:Int)-1))).bind λc=>
if c then
some (.inl (Wq (a+1),()))
else
some (.inr (.inr false))
else
some (.inr (.inl (Wq (d+1),())))
def ZdB (b:Ze) (a:Int):Option ((Int×Unit)⊕((Int×Unit)⊕Bool)):=
if a<((Gk b).length:Int)then
(atI (Gk b) a).bind λc=>
(ZV (GD c) 1 2).bind λd=>
if d then
(ZV (GM c) 0 (Wq (((Gp b).length:Int)-1))).bind λe=>
if e then
some (.inl (Wq (a+1),()))
else
some (.inr (.inr false))
else
some (.inr (.inr false))
else
some (.inr (.inr true))
def ZdC (d:ZI) (b:Ze) (c:Int):Option ((Int×Unit)⊕Bool):=
if c<((K4 b).length:Int)then
(atI (K4 b) c).bind λa=>
(ZV (GJ a) 0 (Wq (((Gh d).length:Int)-1))).bind λe=>
if e then
(atI (Gh d) (GJ a)).bind λf=>
if((Gu a).length:Int)=((K6 f).length:Int)then
Zt (λv=>ZdA b c a v.1) ((0:Int),())
else
some (.inr false)
else
some (.inr false)
else
Zt (λv=>ZdB b v.1) ((0:Int),())
def Zf3 (b:ZI) (a:Ze):Option Bool:=
Zt (λv=>ZdC b a v.1) ((0:Int),())
def c203:Ctr:=D2 (VI) (Qv) (.bool) Zf3
def Zdy (a:List (List UInt8)) (c:Int) (d:List UInt8) (b:Int):Option ((Int×Unit)⊕((Int×Unit)⊕Bool)):=
if b<c then
(atI a b).bind λe=>
if e=d then
some (.inr (.inr false))
else
some (.inl (Wq (b+1),()))
else
some (.inr (.inl (Wq (c+1),())))
def Zdz (a:List (List UInt8)) (b:Int):Option ((Int×Unit)⊕Bool):=
if b<(a.length:Int)then
(atI a b).bind λc=>
(ZaN c).bind λd=>
if d then
Zt (λv=>Zdy a b c v.1) ((0:Int),())
else
some (.inr false)
else
some (.inr true)
def ZcB (a:List (List UInt8)):Option Bool:=
Zt (λv=>Zdz a v.1) ((0:Int),())
def ZEv:Ctr:=D1 (.sl (.str)) (.bool) ZcB
def Zdu (b:List Int) (a:Int):Option ((Int×Unit)⊕((Int×(List Int)×Unit)⊕((Int×(List Int)×Unit)⊕(((List (List UInt8))×Int×Unit)⊕(((List (List UInt8))×Int×Unit)⊕Bool))))):=
if a<(b.length:Int)then
(atI b a).bind λc=>
if c=1 then
some (.inl (Wq (a+1),()))
else
some (.inr (.inr (.inr (.inr (.inr false)))))
else
some (.inr (.inr (.inr (.inr (.inr true)))))
def Jt (d:Ze) (a:Int) (b:List Int):Option ((Int×(List Int)×Unit)⊕((Int×(List Int)×Unit)⊕(((List (List UInt8))×Int×Unit)⊕(((List (List UInt8))×Int×Unit)⊕Bool)))):=
if a<((Gk d).length:Int)then
(atI (Gk d) a).bind λc=>
if GD c=1 then
(atI b (GM c)).bind λe=>
some (.inl (Wq (a+1),List.set b (Int.toNat (GM c)) (Wq (e+1)),()))
else
some (.inl (Wq (a+1),b,()))
else
Zt (λv=>Zdu b v.1) ((0:Int),())
def Ju (c:Ze) (a:Int) (b:List Int):Option ((Int×(List Int)×Unit)⊕(((List (List UInt8))×Int×Unit)⊕(((List (List UInt8))×Int×Unit)⊕Bool))):=
if a<((K4 c).length:Int)then
(atI (K4 c) a).bind λd=>
(atI (Gu d) (Wq (((Gu d).length:Int)-1))).bind λe=>
(atI b e).bind λf=>
some (.inl (Wq (a+1),List.set b (Int.toNat e) (Wq (f+1)),()))
else
Zt (λv=>Jt c v.1 v.2.1) ((0:Int),b,())
def Zdv (a:Ze) (f c:List (List UInt8)) (b:Int):Option (((List (List UInt8))×Int×Unit)⊕(((List (List UInt8))×Int×Unit)⊕Bool)):=
if b<((Gk a).length:Int)then
(atI (Gk a) b).bind λd=>
Zw ((c.length+[Hc d].length)*16<=140737488355328)<|
some (.inl (c++[Hc d],Wq (b+1),()))
else
(ZcB f).bind λe=>
if e then
(ZcB c).bind λg=>
if g then
(ZcB (Gp a)).bind λh=>
if h then
Zw ((0:Int)<=((Gp a).length:Int))<|
Zw (((Gp a).length:Int)<=((Gp a).length:Int))<|
Zw (((Gp a).length:Int)<=4611686018427387904)<|
Zw (((8:Nat):Int)*((Gp a).length:Int)<=281474976710656)<|
Zt (λv=>Ju a v.1 v.2.1) ((0:Int),List.replicate (Int.toNat ((Gp a).length:Int)) (0:Int),())
else
some (.inr (.inr false))
else
some (.inr (.inr false))
else
some (.inr (.inr false))
def Zdw (c:Ze) (b:List (List UInt8)) (a:Int):Option (((List (List UInt8))×Int×Unit)⊕Bool):=
if a<((K4 c).length:Int)then
(atI (K4 c) a).bind λd=>
Zw ((b.length+[Hb d].length)*16<=140737488355328)<|
some (.inl (b++[Hb d],Wq (a+1),()))
else
Zt (λv=>Zdv c b v.1 v.2.1) (([]:List (List UInt8)),(0:Int),())
def Zf1 (b:ZI) (a:Ze):Option Bool:=
(Zfg b).bind λc=>
if c then
if 14<((K4 a).length:Int)then
some false
else
if 30<((Gp a).length:Int)then
some false
else
if 8<((Gk a).length:Int)then
some false
else
(Zf3 b a).bind λd=>
if d then
Zt (λv=>Zdw a v.1 v.2.1) (([]:List (List UInt8)),(0:Int),())
else
some false
else
some false
def ZEw:Ctr:=D2 (VI) (Qv) (.bool) Zf1
def ZeZ (b:ZC) (a:Int):Option ((Int×Unit)⊕((Int×Unit)⊕Bool)):=
if a<((Gv b).length:Int)then
(atI (Gv b) a).bind λd=>
(ZV d 0 (Wq (((K5 b).length:Int)-1))).bind λc=>
if c then
some (.inl (Wq (a+1),()))
else
some (.inr (.inr false))
else
some (.inr (.inr true))
def Ze0 (b:ZC) (a:Int):Option ((Int×Unit)⊕Bool):=
if a<((K5 b).length:Int)then
(atI (GU b) a).bind λg=>
(ZV g 0 500).bind λf=>
if f then
(atI (GC b) a).bind λe=>
(ZV e 0 1000).bind λh=>
if h then
if a=0 then
(atI (K5 b) a).bind λc=>
if c=(-1)then
if e=0 then
if 0<a then
(ZV c 0 (Wq (a-1))).bind λd=>
if d then
some (.inl (Wq (a+1),()))
else
some (.inr false)
else
some (.inl (Wq (a+1),()))
else
some (.inr false)
else
some (.inr false)
else
if 0<a then
(atI (K5 b) a).bind λc=>
(ZV c 0 (Wq (a-1))).bind λd=>
if d then
some (.inl (Wq (a+1),()))
else
some (.inr false)
else
some (.inl (Wq (a+1),()))
else
some (.inr false)
else
some (.inr false)
else
Zt (λv=>ZeZ b v.1) ((0:Int),())
def Zh5 (a:ZC) (b:Int):Option Bool:=
if((K5 a).length:Int)<1 then
some false
else
if 8<((K5 a).length:Int)then
some false
else
if((GC a).length:Int)=((K5 a).length:Int)then
if((GU a).length:Int)=((K5 a).length:Int)then
if((Gv a).length:Int)=b then
Zt (λv=>Ze0 a v.1) ((0:Int),())
else
some false
else
some false
else
some false
def c206:Ctr:=D2 (Zm2) Iq (.bool) Zh5
def Zei (b:Zc) (a:Int):Option ((Int×Unit)⊕Bool):=
if a<((Gl b).length:Int)then
(atI (Gl b) a).bind λd=>
(Za4 (K3 b) a).bind λc=>
(Zh5 d (c.length:Int)).bind λe=>
if e then
some (.inl (Wq (a+1),()))
else
some (.inr false)
else
some (.inr true)
def Zcb (a:Zc):Option Bool:=
(Zf1 (GG a) (K3 a)).bind λb=>
if b then
if((Gl a).length:Int)=((Gp (K3 a)).length:Int)then
Zt (λv=>Zei a v.1) ((0:Int),())
else
some false
else
some false
def ZEx:Ctr:=D1 (Xi) (.bool) Zcb
def Zdt (a:ZA) (b:Int):Option ((Int×Unit)⊕Bool):=
if b<(([Hj a,Hi a,Hk a,Hl a].length):Int)then
(atI ([Hj a,Hi a,Hk a,Hl a]) b).bind λd=>
(ZV d 100 5000).bind λc=>
if c then
some (.inl (Wq (b+1),()))
else
some (.inr false)
else
(ZaN (GK a)).bind λe=>
if e then
if Hj a<=Hi a then
some (.inr (decide (Hk a<=Hl a)))
else
some (.inr false)
else
some (.inr false)
def Zej (a:ZA):Option Bool:=
Zt (λv=>Zdt a v.1) ((0:Int),())
def c208:Ctr:=D1 (Qf) (.bool) Zej
def Zcj (a:List ZA) (c:Int) (d:ZA) (b:Int):Option ((Int×Unit)⊕((Int×Unit)⊕Bool)):=
if b<c then
(atI a b).bind λe=>
if GK e=GK d then
some (.inr (.inr false))
else
some (.inl (Wq (b+1),()))
else
some (.inr (.inl (Wq (c+1),())))
def Zck (a:List ZA) (b:Int):Option ((Int×Unit)⊕Bool):=
if b<(a.length:Int)then
(atI a b).bind λc=>
(Zej c).bind λd=>
if d then
Zt (λv=>Zcj a b c v.1) ((0:Int),())
else
some (.inr false)
else
some (.inr (decide ((a.length:Int)<=4)))
def ZeH (a:List ZA):Option Bool:=
Zt (λv=>Zck a v.1) ((0:Int),())
def ZDd:Ctr:=D1 (.sl (Qf)) (.bool) ZeH
def Zf7 (b:Zc):Option Int:=
(YU (K3 b)).bind λa=>
some (a.length:Int)
def c210:Ctr:=D1 (Xi) Iq Zf7
def ZcQ (h:Zc) (a:List Int) (c:Bool) (b:Int):Option ((Int×Unit)⊕Bool):=
if b<(a.length:Int)then
(atI a b).bind λd=>
(Zf7 h).bind λe=>
(ZV d 0 (Wq (e-1))).bind λg=>
if g then
if c then
if 0<b then
(atI a (Wq (b-1))).bind λf=>
if d<=f then
some (.inr false)
else
some (.inl (Wq (b+1),()))
else
some (.inl (Wq (b+1),()))
else
some (.inl (Wq (b+1),()))
else
some (.inr false)
else
some (.inr (decide ((a.length:Int)<=4)))
def Zbn (c:Zc) (b:List Int) (a:Bool):Option Bool:=
Zt (λv=>ZcQ c b a v.1) ((0:Int),())
def ZEy:Ctr:=D3 (Xi) (.sl Iq) (.bool) (.bool) Zbn
def Zdd (c:Zc) (a:Zu):Option Bool:=
(Zcb c).bind λd=>
if d then
(Zbn c (G7 a) true).bind λf=>
if f then
(Zbn c (G5 a) false).bind λg=>
if g then
(Zbn c (Ho a) true).bind λe=>
if e then
if G4 a=1 then
some (decide (Hd a=0))
else
if G4 a=2 then
(ZV (Hd a) 1 10).bind λb=>
some b
else
if G4 a=3 then
if G4 a=3 then
(ZV (Hd a) 0 1000000000).bind λb=>
some b
else
some false
else
if G4 a=4 then
(ZV (Hd a) 0 1000000000).bind λb=>
some b
else
some false
else
some false
else
some false
else
some false
else
some false
def c212:Ctr:=D2 (Xi) (Jj) (.bool) Zdd
def Za8 (a:Zz):Option Bool:=
if 0<=K8 a then
if K8 a<=Ga a then
some (decide (Ga a<=1000000))
else
some false
else
some false
def c213:Ctr:=D1 (Zag) (.bool) Za8
def Zbb (i:Zo) (f:List Zh) (e:Bool) (b:List ZF) (c:Int):Option ((Int×Unit)⊕Bool):=
if c<(f.length:Int)then
(atI f c).bind λa=>
(ZV (Gj a) 0 (Wq ((b.length:Int)-1))).bind λk=>
if k then
if 0<c then
(atI f (Wq (c-1))).bind λd=>
if Gj a<=Gj d then
some (.inr false)
else
(ZV (GQ a) 0 (Wq (((Gb i).length:Int)-1))).bind λh=>
if h then
(atI b (Gj a)).bind λj=>
if 0<=Ha j then
some (.inr false)
else
if(GI j==e)=true then
if Ga (Gt a)<K8 (Gt a)then
some (.inr false)
else
if K8 (Gt a)<(-100000)then
some (.inr false)
else
if 100000<Ga (Gt a)then
some (.inr false)
else
(Za8 (G3 a)).bind λg=>
if g then
if e then
some (.inl (Wq (c+1),()))
else
if(decide (K8 (G3 a)=0)&&decide (Ga (G3 a)=0))=true then
some (.inl (Wq (c+1),()))
else
some (.inr false)
else
some (.inr false)
else
some (.inr false)
else
some (.inr false)
else
(ZV (GQ a) 0 (Wq (((Gb i).length:Int)-1))).bind λh=>
if h then
(atI b (Gj a)).bind λd=>
if 0<=Ha d then
some (.inr false)
else
if(GI d==e)=true then
if Ga (Gt a)<K8 (Gt a)then
some (.inr false)
else
if K8 (Gt a)<(-100000)then
some (.inr false)
else
if 100000<Ga (Gt a)then
some (.inr false)
else
(Za8 (G3 a)).bind λg=>
if g then
if e then
some (.inl (Wq (c+1),()))
else
if(decide (K8 (G3 a)=0)&&decide (Ga (G3 a)=0))=true then
some (.inl (Wq (c+1),()))
else
some (.inr false)
else
some (.inr false)
else
some (.inr false)
else
some (.inr false)
else
some (.inr false)
else
some (.inr true)
def ZaF (b:Zc) (d:Zo) (e:List Zh) (c:Bool):Option Bool:=
(YU (K3 b)).bind λa=>
Zt (λv=>Zbb d e c a v.1) ((0:Int),())
def ZEz:Ctr:=D4 (Xi) (Zc4) (.sl (Jz)) (.bool) (.bool) ZaF
def Zek (c:Zc) (a:Zo) (b:Int):Option ((Int×Unit)⊕((Int×Unit)⊕Bool)):=
if b<((Gz a).length:Int)then
(atI (Gz a) b).bind λe=>
(Zdd c e).bind λd=>
if d then
some (.inl (Wq (b+1),()))
else
some (.inr (.inr false))
else
(ZaF c a (GN a) true).bind λf=>
if f then
(ZaF c a (Hn a) false).bind λg=>
some (.inr (.inr g))
else
some (.inr (.inr false))
def Zel (c:Zc) (b:Zo) (a:Int):Option ((Int×Unit)⊕Bool):=
if a<((Gb b).length:Int)then
(atI (Gb b) a).bind λe=>
(YU (K3 c)).bind λd=>
if(d.length:Int)<=Gs e then
some (.inr false)
else
some (.inl (Wq (a+1),()))
else
Zt (λv=>Zek c b v.1) ((0:Int),())
def Zg2 (b:Zc) (a:Zo):Option Bool:=
(Zcb b).bind λc=>
if c then
(ZcA (Gb a)).bind λd=>
if d then
if 6<((Gz a).length:Int)then
some false
else
(ZeH (GV a)).bind λe=>
if e then
Zt (λv=>Zel b a v.1) ((0:Int),())
else
some false
else
some false
else
some false
def ZEA:Ctr:=D2 (Xi) (Zc4) (.bool) Zg2
def Zex (b d:Int) (a:List ZF) (c:Int):Option ((Int×Unit)⊕Int):=
if c<(a.length:Int)then
(atI a c).bind λe=>
if Ha e=b then
if ZF.pin e=d then
some (.inr c)
else
some (.inl (Wq (c+1),()))
else
some (.inl (Wq (c+1),()))
else
some (.inr (-1))
def ZdO (d:Ze) (a b:Int):Option Int:=
(YU d).bind λc=>
Zt (λv=>Zex a b c v.1) ((0:Int),())
def ZDe:Ctr:=D3 (Qv) Iq Iq Iq ZdO
def J5 (d:List Zn) (b e f g c a:Int):Option (List Zn):=
Zw ((d.length+[(Wq (Wq ((2:Int)*b)+f),Wq (Wq ((2:Int)*e)+g),c,a,())].length)*32<=140737488355328)<|
some (d++[(Wq (Wq ((2:Int)*b)+f),Wq (Wq ((2:Int)*e)+g),c,a,())])
def ZDf:Ctr:=⟨[.own (.ol 143 (.flat (Zaj))),.dat Iq,.dat Iq,.dat Iq,.dat Iq,.dat Iq,.dat Iq],[.own (.ol 143 (.flat (Zaj)))],λa K=>Zx a λe a=>Zx a λc a=>Zx a λf a=>Zx a λg a=>Zx a λh a=>Zx a λd a=>Zx a λb a=>YR (J5 e c f g h d b) λr=>K (r,()) ()⟩
def ZaE (e:ZL) (d h b f:Int) (a:List Zn) (c:Int):Option (((List Zn)×Int×Unit)⊕(((List Zn)×Int×Unit)⊕List Zn)):=
if c<=1 then
if K9 e=1 then
if Gx e=3 then
(J5 a d h f c 1 b).bind λg=>
some (.inl (g,Wq (c+1),()))
else
if(decide (Gx e=1)==decide (f=c))=true then
(J5 a d h f c 1 b).bind λg=>
some (.inl (g,Wq (c+1),()))
else
some (.inl (a,Wq (c+1),()))
else
if K9 e=2 then
if f=0 then
(J5 a d h f c 1 b).bind λg=>
some (.inl (g,Wq (c+1),()))
else
some (.inl (a,Wq (c+1),()))
else
if K9 e=3 then
if f=1 then
(J5 a d h f c 1 b).bind λg=>
some (.inl (g,Wq (c+1),()))
else
some (.inl (a,Wq (c+1),()))
else
some (.inl (a,Wq (c+1),()))
else
some (.inr (.inl (a,Wq (f+1),())))
def Ji (d:ZL) (c e b:Int) (a:List Zn) (f:Int):Option (((List Zn)×Int×Unit)⊕List Zn):=
if f<=1 then
Zt (λv=>ZaE d c e b f v.1 v.2.1) (a,(0:Int),())
else
some (.inr a)
def Zh7 (c:List Zn) (d:ZL) (b e a:Int):Option (List Zn):=
Zt (λv=>Ji d b e a v.1 v.2.1) (c,(0:Int),())
def c218:Ctr:=⟨[.own (.ol 143 (.flat (Zaj))),.dat (Zow),.dat Iq,.dat Iq,.dat Iq],[.own (.ol 143 (.flat (Zaj)))],λa K=>Zx a λd a=>Zx a λe a=>Zx a λc a=>Zx a λf a=>Zx a λb a=>YR (Zh7 d e c f b) λr=>K (r,()) ()⟩
def ZcK (c:Int) (a:List ZF) (b:Int):Option ((Int×Unit)⊕Int):=
if b<(a.length:Int)then
(atI a b).bind λd=>
if ZF.net d=c then
if(GI d)=true then
some (.inr b)
else
some (.inl (Wq (b+1),()))
else
some (.inl (Wq (b+1),()))
else
some (.inr (-1))
def Zc1 (c:Ze) (a:Int):Option Int:=
(YU c).bind λb=>
Zt (λv=>ZcK a b v.1) ((0:Int),())
def ZBI:Ctr:=D2 (Qv) Iq Iq Zc1
def Za6 (e:Zc) (d:Int) (f:Zq) (c:List Zn) (a:Int):Option (((List Zn)×Int×Unit)⊕(((List Zn)×Int×Unit)⊕List Zn)):=
if a<((Ge f).length:Int)then
(atI (Ge f) a).bind λb=>
if K9 b<=3 then
(ZdO (K3 e) d (Gi b)).bind λg=>
(ZdO (K3 e) d (Gn b)).bind λh=>
(Zh7 c b g h a).bind λi=>
some (.inl (i,Wq (a+1),()))
else
some (.inl (c,Wq (a+1),()))
else
some (.inr (.inl (c,Wq (d+1),())))
def ZdE (h a:Int) (b:List Int) (e:List Zn) (c:Int):Option (((List Zn)×Int×Unit)⊕(((List Zn)×Int×Unit)⊕(((List Zn)×Int×Unit)⊕List Zn))):=
if c<(b.length:Int)then
(atI b c).bind λd=>
(J5 e a d 0 0 2 c).bind λf=>
(J5 f a d 1 1 2 c).bind λg=>
some (.inl (g,Wq (c+1),()))
else
some (.inr (.inl (e,Wq (h+1),())))
def ZdF (b:Zc) (c:List Zn) (a:Int):Option (((List Zn)×Int×Unit)⊕(((List Zn)×Int×Unit)⊕List Zn)):=
if a<((Gp (K3 b)).length:Int)then
(Zc1 (K3 b) a).bind λd=>
(Za4 (K3 b) a).bind λe=>
Zt (λv=>ZdE a d e v.1 v.2.1) (c,(0:Int),())
else
some (.inr (.inr c))
def ZdG (a:Zc) (c:List Zn) (b:Int):Option (((List Zn)×Int×Unit)⊕List Zn):=
if b<((K4 (K3 a)).length:Int)then
(atI (K4 (K3 a)) b).bind λd=>
(atI (Gh (GG a)) (GJ d)).bind λe=>
Zt (λv=>Za6 a b e v.1 v.2.1) (c,(0:Int),())
else
Zt (λv=>ZdF a v.1 v.2.1) (c,(0:Int),())
def Za5 (a:Zc):Option (List Zn):=
Zt (λv=>ZdG a v.1 v.2.1) (([]:List (Int×Int×Int×Int×Unit)),(0:Int),())
def ZDg:Ctr:=⟨[.dat (Xi)],[.own (.ol 143 (.flat (Zaj)))],λa K=>Zx a λb a=>YR (Za5 b) λr=>K (r,()) ()⟩
def Ze3 (a:List Int) (c b:Int):Option ((Int×Unit)⊕Bool):=
if b<(a.length:Int)then
(atI a b).bind λd=>
if d=c then
some (.inr true)
else
some (.inl (Wq (b+1),()))
else
some (.inr false)
def Ze2 (a:List Int) (b:Int):Option Bool:=
Zt (λv=>Ze3 a b v.1) ((0:Int),())
def ZDh:Ctr:=D2 (.sl Iq) Iq (.bool) Ze2
def Zez (c:List Zn) (b:List Int) (a:List Bool) (d:Int):Option (((List Bool)×Int×Unit)⊕List Bool):=
if d<(c.length:Int)then
(Ze2 b d).bind λe=>
Zw ((a.length+[!e].length)*1<=140737488355328)<|
some (.inl (a++[!e],Wq (d+1),()))
else
some (.inr a)
def ZdP (b:List Zn) (a:List Int):Option (List Bool):=
Zt (λv=>Zez b a v.1 v.2.1) (([]:List Bool),(0:Int),())
def c222:Ctr:=⟨[.dat (.sl (Zaj)),.dat (.sl Iq)],[.own (.ol 4 (.flat (.bool)))],λa K=>Zx a λc a=>Zx a λb a=>YR (ZdP c b) λr=>K (r,()) ()⟩
def V8 (b:Zc):Option Int:=
(YU (K3 b)).bind λa=>
some (Wq (2*(a.length:Int)))
def ZEB:Ctr:=D1 (Xi) Iq V8
def XQ (d:List Zn) (f:List Bool) (e a:Bool) (c:Int) (b:List Bool):Option ((Bool×Int×(List Bool)×Unit)⊕((Bool×(List Bool)×Unit)⊕List Bool)):=
if c<(d.length:Int)then
(atI d c).bind λg=>
if e then
(atI f c).bind λj=>
if j then
(atI b (Gc g)).bind λi=>
if i then
(atI b (Gf g)).bind λh=>
if h then
some (.inl (a,Wq (c+1),b,()))
else
some (.inl (true,Wq (c+1),List.set b (Int.toNat (Gf g)) true,()))
else
some (.inl (a,Wq (c+1),b,()))
else
some (.inl (a,Wq (c+1),b,()))
else
(atI f c).bind λj=>
if j then
(atI b (Gf g)).bind λi=>
if i then
(atI b (Gc g)).bind λh=>
if h then
some (.inl (a,Wq (c+1),b,()))
else
some (.inl (true,Wq (c+1),List.set b (Int.toNat (Gc g)) true,()))
else
some (.inl (a,Wq (c+1),b,()))
else
some (.inl (a,Wq (c+1),b,()))
else
some (.inr (.inl (a,b,())))
def Vq (c:List Zn) (d:List Bool) (a b:Bool) (e:List Bool):Option ((Bool×(List Bool)×Unit)⊕List Bool):=
if b then
Zt (λv=>XQ c d a v.1 v.2.1 v.2.2.1) (false,(0:Int),e,())
else
some (.inr e)
def J6 (b:Int) (d:List Zn) (e:List Bool) (c:Int) (a:Bool):Option (List Bool):=
Zw ((0:Int)<=b)<|
Zw (b<=b)<|
Zw (b<=4611686018427387904)<|
Zw (((1:Nat):Int)*b<=281474976710656)<|
(atI (List.replicate (Int.toNat b) false) c).bind λf=>
Zt (λv=>Vq d e a v.1 v.2.1) (true,List.set (List.replicate (Int.toNat b) false) (Int.toNat c) true,())
def ZEC:Ctr:=⟨[.dat Iq,.dat (.sl (Zaj)),.dat (.sl (.bool)),.dat Iq,.dat (.bool)],[.own (.ol 4 (.flat (.bool)))],λa K=>Zx a λf a=>Zx a λc a=>Zx a λd a=>Zx a λe a=>Zx a λb a=>YR (J6 f c d e b) λr=>K (r,()) ()⟩
def ZeB (a:List Zn) (c:List Bool) (e b:Int):Option ((Int×Unit)⊕Bool):=
if b<(a.length:Int)then
(atI c b).bind λf=>
if f then
(atI a b).bind λd=>
if Gc d=e then
if Gf d=e then
some (.inr true)
else
some (.inl (Wq (b+1),()))
else
some (.inl (Wq (b+1),()))
else
some (.inl (Wq (b+1),()))
else
some (.inr false)
def Zg7 (a:List Zn) (b:List Bool) (c:Int):Option Bool:=
Zt (λv=>ZeB a b c v.1) ((0:Int),())
def ZED:Ctr:=D3 (.sl (Zaj)) (.sl (.bool)) Iq (.bool) Zg7
def ZdH (i:Int) (j:List Zn) (k:List Bool) (f:List (List Int)) (g:Int) (d c:List Bool) (b:List Int) (a:Int) (e:List Bool):Option (((List Int)×Int×(List Bool)×Unit)⊕(((List (List Int))×Int×(List Bool)×Unit)⊕List (List Int))):=
if a<i then
(atI d a).bind λl=>
if l then
(atI c a).bind λm=>
if m then
Zw ((b.length+[a].length)*8<=140737488355328)<|
(atI e a).bind λn=>
some (.inl (b++[a],Wq (a+1),List.set e (Int.toNat a) true,()))
else
some (.inl (b,Wq (a+1),e,()))
else
some (.inl (b,Wq (a+1),e,()))
else
if 1<(b.length:Int)then
Zw ((f.length+[b].length)*24<=140737488355328)<|
some (.inr (.inl (f++[b],Wq (g+1),e,())))
else
(Zg7 j k g).bind λh=>
if h then
Zw ((f.length+[b].length)*24<=140737488355328)<|
some (.inr (.inl (f++[b],Wq (g+1),e,())))
else
some (.inr (.inl (f,Wq (g+1),e,())))
def ZdI (b:Int) (d:List Zn) (e:List Bool) (f:List (List Int)) (a:Int) (c:List Bool):Option (((List (List Int))×Int×(List Bool)×Unit)⊕List (List Int)):=
if a<b then
(atI c a).bind λh=>
if h then
some (.inl (f,Wq (a+1),c,()))
else
(J6 b d e a true).bind λg=>
(J6 b d e a false).bind λi=>
Zt (λv=>ZdH b d e f a g i v.1 v.2.1 v.2.2.1) (([]:List Int),(0:Int),c,())
else
some (.inr f)
def Zf5 (a:Int) (b:List Zn) (c:List Bool):Option (List (List Int)):=
Zw ((0:Int)<=a)<|
Zw (a<=a)<|
Zw (a<=4611686018427387904)<|
Zw (((1:Nat):Int)*a<=281474976710656)<|
Zt (λv=>ZdI a b c v.1 v.2.1 v.2.2.1) (([]:List (List Int)),(0:Int),List.replicate (Int.toNat a) false,())
def c226:Ctr:=⟨[.dat Iq,.dat (.sl (Zaj)),.dat (.sl (.bool))],[.own (.ol 52 (.ol 2 (.flat Iq)))],λa K=>Zx a λb a=>Zx a λc a=>Zx a λd a=>YR (Zf5 b c d) λr=>K (r,()) ()⟩
def Jw (c:List Bool) (b:List Int) (a:Int):Option (((List Int)×Int×Unit)⊕(((List Bool)×Unit)⊕List Int)):=
if a<(c.length:Int)then
(atI c a).bind λd=>
if d then
some (.inl (b,Wq (a+1),()))
else
Zw ((b.length+[a].length)*8<=140737488355328)<|
some (.inl (b++[a],Wq (a+1),()))
else
some (.inr (.inr b))
def Jy (a:List Zn) (f:List Bool) (d b:Int) (c:List (List Int)):Option ((Int×Int×(List (List Int))×Unit)⊕(((List Bool)×Unit)⊕List Int)):=
if b<(a.length:Int)then
(atI f b).bind λh=>
if h then
(atI a b).bind λg=>
if GH g=1 then
(atI c 0).bind λe=>
(Ze2 e (Gc g)).bind λi=>
if i then
(Ze2 e (Gf g)).bind λj=>
if j then
some (.inl (b,Wq (b+1),List.set c (Int.toNat 0) e,()))
else
some (.inl (d,Wq (b+1),List.set c (Int.toNat 0) e,()))
else
some (.inl (d,Wq (b+1),List.set c (Int.toNat 0) e,()))
else
some (.inl (d,Wq (b+1),c,()))
else
some (.inl (d,Wq (b+1),c,()))
else
(atI f d).bind λh=>
some (.inr (.inl (List.set f (Int.toNat d) false,())))
def XR (a:List Zn) (b:Int) (c:List Bool):Option (((List Bool)×Unit)⊕List Int):=
(Zf5 b a c).bind λd=>
if(d.length:Int)=0 then
Zt (λv=>Jw c v.1 v.2.1) (([]:List Int),(0:Int),())
else
Zt (λv=>Jy a c v.1 v.2.1 v.2.2.1) ((-1:Int),(0:Int),d,())
def ZeA (b:Zc):Option (List Int):=
(Za5 b).bind λa=>
(ZdP a (([]:List Int))).bind λc=>
(V8 b).bind λd=>
Zt (λv=>XR a d v.1) (c,())
def c227:Ctr:=⟨[.dat (Xi)],[.own (.ol 2 (.flat Iq))],λa K=>Zx a λb a=>YR (ZeA b) λr=>K (r,()) ()⟩
def ZcD (a:List Zj) (c d:Zj) (b:Int):Option ((Int×Unit)⊕List Zj):=
if b<(a.length:Int)then
(atI a b).bind λe=>
if K7 e<K7 c then
some (.inl (Wq (b+1),()))
else
if b<(a.length:Int)then
if K7 e=K7 c then
some (.inr a)
else
Zw ((0:Int)<=b)<|
Zw (b<=(a.length:Int))<|
Zw ((a.length:Int)<=(a.length:Int))<|
Zw (([c,d].length+(List.take (Int.toNat (a.length:Int)-Int.toNat b) (List.drop (Int.toNat b) a)).length)*40<=140737488355328)<|
Zw ((([]:List (Int×Zz×Zz×Unit)).length+(List.take (Int.toNat b-Int.toNat (0:Int)) (List.drop (Int.toNat (0:Int)) a)).length)*40<=140737488355328)<|
Zw (((([]:List (Int×Zz×Zz×Unit))++List.take (Int.toNat b-Int.toNat (0:Int)) (List.drop (Int.toNat (0:Int)) a)).length+([c,d]++List.take (Int.toNat (a.length:Int)-Int.toNat b) (List.drop (Int.toNat b) a)).length)*40<=140737488355328)<|
some (.inr (([]:List (Int×Zz×Zz×Unit))++List.take (Int.toNat b-Int.toNat (0:Int)) (List.drop (Int.toNat (0:Int)) a)++([c,d]++List.take (Int.toNat (a.length:Int)-Int.toNat b) (List.drop (Int.toNat b) a))))
else
Zw ((0:Int)<=b)<|
Zw (b<=(a.length:Int))<|
Zw ((a.length:Int)<=(a.length:Int))<|
Zw (([c,d].length+(List.take (Int.toNat (a.length:Int)-Int.toNat b) (List.drop (Int.toNat b) a)).length)*40<=140737488355328)<|
Zw ((([]:List (Int×Zz×Zz×Unit)).length+(List.take (Int.toNat b-Int.toNat (0:Int)) (List.drop (Int.toNat (0:Int)) a)).length)*40<=140737488355328)<|
Zw (((([]:List (Int×Zz×Zz×Unit))++List.take (Int.toNat b-Int.toNat (0:Int)) (List.drop (Int.toNat (0:Int)) a)).length+([c,d]++List.take (Int.toNat (a.length:Int)-Int.toNat b) (List.drop (Int.toNat b) a)).length)*40<=140737488355328)<|
some (.inr (([]:List (Int×Zz×Zz×Unit))++List.take (Int.toNat b-Int.toNat (0:Int)) (List.drop (Int.toNat (0:Int)) a)++([c,d]++List.take (Int.toNat (a.length:Int)-Int.toNat b) (List.drop (Int.toNat b) a))))
else
if b<(a.length:Int)then
(atI a b).bind λe=>
if K7 e=K7 c then
some (.inr a)
else
Zw ((0:Int)<=b)<|
Zw (b<=(a.length:Int))<|
Zw ((a.length:Int)<=(a.length:Int))<|
Zw (([c,d].length+(List.take (Int.toNat (a.length:Int)-Int.toNat b) (List.drop (Int.toNat b) a)).length)*40<=140737488355328)<|
Zw ((([]:List (Int×Zz×Zz×Unit)).length+(List.take (Int.toNat b-Int.toNat (0:Int)) (List.drop (Int.toNat (0:Int)) a)).length)*40<=140737488355328)<|
Zw (((([]:List (Int×Zz×Zz×Unit))++List.take (Int.toNat b-Int.toNat (0:Int)) (List.drop (Int.toNat (0:Int)) a)).length+([c,d]++List.take (Int.toNat (a.length:Int)-Int.toNat b) (List.drop (Int.toNat b) a)).length)*40<=140737488355328)<|
some (.inr (([]:List (Int×Zz×Zz×Unit))++List.take (Int.toNat b-Int.toNat (0:Int)) (List.drop (Int.toNat (0:Int)) a)++([c,d]++List.take (Int.toNat (a.length:Int)-Int.toNat b) (List.drop (Int.toNat b) a))))
else
Zw ((0:Int)<=b)<|
Zw (b<=(a.length:Int))<|
Zw ((a.length:Int)<=(a.length:Int))<|
Zw (([c,d].length+(List.take (Int.toNat (a.length:Int)-Int.toNat b) (List.drop (Int.toNat b) a)).length)*40<=140737488355328)<|
Zw ((([]:List (Int×Zz×Zz×Unit)).length+(List.take (Int.toNat b-Int.toNat (0:Int)) (List.drop (Int.toNat (0:Int)) a)).length)*40<=140737488355328)<|
Zw (((([]:List (Int×Zz×Zz×Unit))++List.take (Int.toNat b-Int.toNat (0:Int)) (List.drop (Int.toNat (0:Int)) a)).length+([c,d]++List.take (Int.toNat (a.length:Int)-Int.toNat b) (List.drop (Int.toNat b) a)).length)*40<=140737488355328)<|
some (.inr (([]:List (Int×Zz×Zz×Unit))++List.take (Int.toNat b-Int.toNat (0:Int)) (List.drop (Int.toNat (0:Int)) a)++([c,d]++List.take (Int.toNat (a.length:Int)-Int.toNat b) (List.drop (Int.toNat b) a))))
def ZdJ (a:List Zj) (c b:Zj):Option (List Zj):=
Zt (λv=>ZcD a c b v.1) ((0:Int),())
def c228:Ctr:=D3 (.sl (Xv)) (Xv) (Xv) (.sl (Xv)) ZdJ
def VA (c:Zo) (e:List Zj) (d:Int):Option (((List Zj)×Int×Unit)⊕(((List Zj)×Int×Unit)⊕List Zj)):=
if d<((GN c).length:Int)then
(atI (GN c) d).bind λa=>
(Zgd (Gb c) (GQ a)).bind λb=>
(ZdJ e (Wq (2*Gj a),(Wq (YX.rise b+K8 (Gt a)),Wq (YX.rise b+Ga (Gt a)),()),a.2.2.2) (Wq (Wq (2*Gj a)+1),(Wq (YX.rise b+K8 (Gt a)),Wq (YX.rise b+Ga (Gt a)),()),a.2.2.2)).bind λf=>
some (.inl (f,Wq (d+1),()))
else
some (.inr (.inr e))
def VB (d:Zo) (e:List Zj) (c:Int):Option (((List Zj)×Int×Unit)⊕List Zj):=
if c<((Gb d).length:Int)then
(atI (Gb d) c).bind λa=>
(Zgd (Gb d) c).bind λb=>
(ZdJ e (Wq (2*Gs a),(Wq (YX.rise b+G2 a),Wq (YX.rise b+G8 a),()),(0,0,()),()) (Wq (Wq (2*Gs a)+1),(Wq (YX.fall b+G2 a),Wq (YX.fall b+G8 a),()),(0,0,()),())).bind λf=>
some (.inl (f,Wq (c+1),()))
else
Zt (λv=>VA d v.1 v.2.1) (e,(0:Int),())
def ZeJ (a:Zo):Option (List Zj):=
Zt (λv=>VB a v.1 v.2.1) (([]:List (Int×Zz×Zz×Unit)),(0:Int),())
def c229:Ctr:=D1 (Zc4) (.sl (Xv)) ZeJ
def ZcP (a:List Int) (f b:Int):Option ((Int×Unit)⊕Bool):=
if b<(a.length:Int)then
(atI a b).bind λc=>
(ZV c 0 (Wq (f-1))).bind λd=>
if d then
if 0<b then
(atI a (Wq (b-1))).bind λe=>
if c<=e then
some (.inr false)
else
some (.inl (Wq (b+1),()))
else
some (.inl (Wq (b+1),()))
else
some (.inr false)
else
some (.inr true)
def Zfi (a:List Int) (b:Int):Option Bool:=
Zt (λv=>ZcP a b v.1) ((0:Int),())
def ZEE:Ctr:=D2 (.sl Iq) Iq (.bool) Zfi
def Zfw (b:Zc) (a:List Int):Option Int:=
(Zcb b).bind λc=>
if c then
(Za5 b).bind λd=>
(Zfi a (d.length:Int)).bind λe=>
if e then
some 0
else
some 2
else
some 1
def ZEF:Ctr:=D2 (Xi) (.sl Iq) Iq Zfw
def Zcc (a:Zz):Option Bool:=
(ZV (K8 a) (-1000000000) 1000000000).bind λb=>
if b then
(ZV (Ga a) (-1000000000) 1000000000).bind λc=>
if c then
some (decide (K8 a<=Ga a))
else
some false
else
some false
def c232:Ctr:=D1 (Zag) (.bool) Zcc
def J8 (a:List Zj) (b d:Int):Option ((Int×Unit)⊕Bool):=
if d<(a.length:Int)then
(atI a d).bind λc=>
(ZV (K7 c) 0 (Wq (b-1))).bind λg=>
if g then
if 0<d then
(atI a (Wq (d-1))).bind λh=>
if K7 c<=K7 h then
some (.inr false)
else
(Zcc (GR c)).bind λe=>
if e then
(Za8 (GZ c)).bind λf=>
if f then
some (.inl (Wq (d+1),()))
else
some (.inr false)
else
some (.inr false)
else
(Zcc (GR c)).bind λe=>
if e then
(Za8 (GZ c)).bind λf=>
if f then
some (.inl (Wq (d+1),()))
else
some (.inr false)
else
some (.inr false)
else
some (.inr false)
else
some (.inr true)
def ZeC (c:Zc) (a:List Zj):Option Bool:=
(V8 c).bind λb=>
Zt (λv=>J8 a b v.1) ((0:Int),())
def c233:Ctr:=D2 (Xi) (.sl (Xv)) (.bool) ZeC
def Xt (d:Int) (b:List Int) (c g:List Bool) (a:Int):Option ((Int×Unit)⊕((Int×(List Bool)×Unit)⊕(((List Int)×(List Bool)×Unit)⊕((List Int)×Bool)))):=
if a<d then
(atI c a).bind λe=>
if e then
some (.inl (Wq (a+1),()))
else
(atI g a).bind λf=>
if f then
some (.inl (Wq (a+1),()))
else
if a=d then
some (.inr (.inr (.inr (([]:List Int),false))))
else
Zw ((b.length+[a].length)*8<=140737488355328)<|
some (.inr (.inr (.inl (b++[a],List.set c (Int.toNat a) true,()))))
else
if a=d then
some (.inr (.inr (.inr (([]:List Int),false))))
else
(atI c a).bind λe=>
Zw ((b.length+[a].length)*8<=140737488355328)<|
some (.inr (.inr (.inl (b++[a],List.set c (Int.toNat a) true,()))))
def Jv (g:Int) (e:List Zn) (h:List Bool) (i:List Int) (d:List Bool) (a:Int) (b:List Bool):Option ((Int×(List Bool)×Unit)⊕(((List Int)×(List Bool)×Unit)⊕((List Int)×Bool))):=
if a<(e.length:Int)then
(atI h a).bind λf=>
if f then
(atI e a).bind λc=>
(atI d (Gc c)).bind λj=>
if j then
some (.inl (Wq (a+1),b,()))
else
(atI b (Gf c)).bind λk=>
some (.inl (Wq (a+1),List.set b (Int.toNat (Gf c)) true,()))
else
some (.inl (Wq (a+1),b,()))
else
Zt (λv=>Xt g i d b v.1) ((0:Int),())
def Vp (a:Int) (d:List Zn) (e:List Bool) (b:List Int) (c:List Bool):Option (((List Int)×(List Bool)×Unit)⊕((List Int)×Bool)):=
if(b.length:Int)<a then
Zt (λv=>Jv a d e b c v.1 v.2.1) ((0:Int),List.replicate (Int.toNat a) false,())
else
some (.inr (b,true))
def Zf4 (a:Int) (b:List Zn) (c:List Bool):Option ((List Int)×Bool):=
Zw ((0:Int)<=a)<|
Zw (a<=a)<|
Zw (a<=4611686018427387904)<|
Zw (((1:Nat):Int)*a<=281474976710656)<|
Zt (λv=>Vp a b c v.1 v.2.1) (([]:List Int),List.replicate (Int.toNat a) false,())
def c234:Ctr:=⟨[.dat Iq,.dat (.sl (Zaj)),.dat (.sl (.bool))],[.own (.ol 2 (.flat Iq)),.dat (.bool)],λa K=>Zx a λb a=>Zx a λc a=>Zx a λd a=>YR (Zf4 b c d) λr=>K (r.1,r.2,()) ()⟩
def JY (b:Zc) (a:List Int):Option ((List Int)×Int):=
(Zfw b a).bind λc=>
if c=0 then
(Za5 b).bind λe=>
(V8 b).bind λg=>
(ZdP e a).bind λf=>
(Zf4 g e f).bind λd=>
if d.2 then
some (d.1,0)
else
some ([],7)
else
some ([],c)
def ZEG:Ctr:=⟨[.dat (Xi),.dat (.sl Iq)],[.own (.ol 2 (.flat Iq)),.dat Iq],λa K=>Zx a λc a=>Zx a λb a=>YR (JY c b) λr=>K (r.1,r.2,()) ()⟩
def Zfx (c:Zc) (g:ZA) (a:List Int) (b:List Zj):Option ((List Int)×Int):=
(Zcb c).bind λe=>
if e then
(Zej g).bind λh=>
if h then
(Zfw c a).bind λi=>
if i=0 then
(ZeC c b).bind λf=>
if f then
(JY c a).bind λd=>
some (d.1,d.2)
else
some ([],2)
else
some ([],2)
else
some ([],1)
else
some ([],1)
def c236:Ctr:=⟨[.dat (Xi),.dat (Qf),.dat (.sl Iq),.dat (.sl (Xv))],[.own (.ol 2 (.flat Iq)),.dat Iq],λa K=>Zx a λd a=>Zx a λe a=>Zx a λc a=>Zx a λb a=>YR (Zfx d e c b) λr=>K (r.1,r.2,()) ()⟩
def Zh8 (a:Int):Option Zr:=
Zw ((0:Int)<=a)<|
Zw (a<=a)<|
Zw (a<=4611686018427387904)<|
Zw (((1:Nat):Int)*a<=281474976710656)<|
Zw (((16:Nat):Int)*a<=281474976710656)<|
some (List.replicate (Int.toNat a) false,List.replicate (Int.toNat a) ((0:Int),(0:Int),()),List.replicate (Int.toNat a) ((0:Int),(0:Int),()),())
def ZEH:Ctr:=⟨[.dat Iq],[.own (ZjU)],λa K=>Zx a λb a=>YR (Zh8 b) λr=>K (r,()) ()⟩
def Zop (e:ZI) (c:Ze) (a:ZF):Option Int:=
if Ha a<0 then
some 0
else
(atI (K4 c) (Ha a)).bind λb=>
(atI (Gh e) (GJ b)).bind λd=>
(atI (K6 d) (ZF.pin a)).bind λf=>
some (Hg f)
def ZEI:Ctr:=D3 (VI) (Qv) (ZgB) Iq Zop
def Zkg (d:ZC) (a:Int) (b:List Int):Option ((Int×(List Int)×Unit)⊕((Int×(List Int)×Unit)⊕List Int)):=
if 0<a then
(atI (K5 d) a).bind λc=>
(atI b c).bind λf=>
(atI b a).bind λe=>
some (.inl (Wq (a-1),List.set b (Int.toNat c) (Wq (f+e)),()))
else
some (.inr (.inr b))
def Zgt (f:Zc) (e:ZC) (b:List ZF) (a:List Int) (d:Int) (c:List Int):Option ((Int×(List Int)×Unit)⊕List Int):=
if d<(a.length:Int)then
(atI (Gv e) d).bind λg=>
(atI c g).bind λk=>
(atI a d).bind λj=>
(atI b j).bind λi=>
(Zop (GG f) (K3 f) i).bind λh=>
some (.inl (Wq (d+1),List.set c (Int.toNat g) (Wq (k+h)),()))
else
Zt (λv=>Zkg e v.1 v.2.1) (Wq ((c.length:Int)-1),c,())
def ZcC (a:Zc) (c:Int):Option (List Int):=
(atI (Gl a) c).bind λb=>
(ZaL (GU b)).bind λd=>
(YU (K3 a)).bind λe=>
(Za4 (K3 a) c).bind λf=>
Zt (λv=>Zgt a b e f v.1 v.2.1) ((0:Int),d,())
def ZEJ:Ctr:=⟨[.dat (Xi),.dat Iq],[.own (.ol 2 (.flat Iq))],λa K=>Zx a λc a=>Zx a λb a=>YR (ZcC c b) λr=>K (r,()) ()⟩
def Zgv (a:Zc) (b:Zn):Option (ZL×Int):=
(YU (K3 a)).bind λd=>
(atI d (Wq (Int.tdiv (Gf b) 2))).bind λc=>
(atI (K4 (K3 a)) (Ha c)).bind λh=>
(atI (Gh (GG a)) (GJ h)).bind λf=>
(atI (Ge f) (He b)).bind λe=>
(ZcC a (ZF.net c)).bind λg=>
(atI g 0).bind λi=>
some (e,i)
def ZEK:Ctr:=⟨[.dat (Xi),.dat (Zaj)],[.dat (Zow),.dat Iq],λa K=>Zx a λb a=>Zx a λc a=>YR (Zgv b c) λr=>K (r.1,r.2,()) ()⟩
def J2 (a:List Int) (c d e b:Int):Option ((Int×Unit)⊕(Int×Int×Int)):=
if 0<=b then
(atI a b).bind λf=>
if Min.min (Max.max c d) e=f then
some (.inr (b,1,0))
else
if f<Min.min (Max.max c d) e then
(atI a (Wq (b+1))).bind λg=>
some (.inr (b,Wq (g-Min.min (Max.max c d) e),Wq (Min.min (Max.max c d) e-f)))
else
some (.inl (Wq (b-1),()))
else
some (.inr (0,1,0))
def Zce (a:List Int) (b:Int):Option (Int×Int×Int):=
(atI a 0).bind λc=>
(atI a (Wq ((a.length:Int)-1))).bind λd=>
Zt (λv=>J2 a b c d v.1) (Wq ((a.length:Int)-1),())
def ZEL:Ctr:=⟨[.dat (.sl Iq),.dat Iq],[.dat Iq,.dat Iq,.dat Iq],λa K=>Zx a λb a=>Zx a λc a=>YR (Zce b c) λr=>K (r.1,r.2.1,r.2.2,()) ()⟩
def Y3 (b a c:Int):Option Int:=
Zw (a≠0)<|
if Int.tmod b a<0 then
if c=0 then
some (Wq (Wq (Int.tdiv b a)-1))
else
if 0<Int.tmod b a then
if c=1 then
some (Wq (Wq (Int.tdiv b a)+1))
else
some (Wq (Int.tdiv b a))
else
some (Wq (Int.tdiv b a))
else
if 0<Int.tmod b a then
if c=1 then
some (Wq (Wq (Int.tdiv b a)+1))
else
some (Wq (Int.tdiv b a))
else
some (Wq (Int.tdiv b a))
def ZEM:Ctr:=D3 Iq Iq Iq Iq Y3
def Qk (e:ZH) (b a:Int×Int×Int) (g d c:Int):Option ((Int×Int×Unit)⊕((Int×Int×Unit)⊕Int)):=
if c<2 then
if g=1 then
if c=0 then
if 0<Wq (b.2.2*a.2.1)then
(atI (Gr e) (Wq (Wq (Wq (Wq (b.1+g)*((Gq e).length:Int))+a.1)+c))).bind λf=>
some (.inl (Wq (d+Wq (Wq (b.2.2*a.2.1)*f)),Wq (c+1),()))
else
some (.inl (d,Wq (c+1),()))
else
if 0<Wq (b.2.2*a.2.2)then
(atI (Gr e) (Wq (Wq (Wq (Wq (b.1+g)*((Gq e).length:Int))+a.1)+c))).bind λf=>
some (.inl (Wq (d+Wq (Wq (b.2.2*a.2.2)*f)),Wq (c+1),()))
else
some (.inl (d,Wq (c+1),()))
else
if c=0 then
if 0<Wq (b.2.1*a.2.1)then
(atI (Gr e) (Wq (Wq (Wq (Wq (b.1+g)*((Gq e).length:Int))+a.1)+c))).bind λf=>
some (.inl (Wq (d+Wq (Wq (b.2.1*a.2.1)*f)),Wq (c+1),()))
else
some (.inl (d,Wq (c+1),()))
else
if 0<Wq (b.2.1*a.2.2)then
(atI (Gr e) (Wq (Wq (Wq (Wq (b.1+g)*((Gq e).length:Int))+a.1)+c))).bind λf=>
some (.inl (Wq (d+Wq (Wq (b.2.1*a.2.2)*f)),Wq (c+1),()))
else
some (.inl (d,Wq (c+1),()))
else
some (.inr (.inl (d,Wq (g+1),())))
def QY (f:ZH) (g:Int) (b a:Int×Int×Int) (d c:Int):Option ((Int×Int×Unit)⊕Int):=
if c<2 then
Zt (λv=>Qk f b a c v.1 v.2.1) (d,(0:Int),())
else
(Y3 d (Wq (Wq (b.2.1+b.2.2)*Wq (a.2.1+a.2.2))) g).bind λe=>
some (.inr e)
def Zcd (a:ZH) (e f c:Int):Option Int:=
(Zce (GT a) e).bind λb=>
(Zce (Gq a) f).bind λd=>
Zt (λv=>QY a c b d v.1 v.2.1) ((0:Int),(0:Int),())
def ZEN:Ctr:=D4 (Zbi) Iq Iq Iq Iq Zcd
def Zgw (b:Zc) (c:Zn):Option Int:=
(YU (K3 b)).bind λa=>
(atI a (Wq (Int.tdiv (Gf c) 2))).bind λd=>
some (ZF.net d)
def ZEO:Ctr:=D2 (Xi) (Zaj) Iq Zgw
def ZcO (d:ZC) (a b:List Int) (c:Int):Option (((List Int)×Int×Unit)⊕List Int):=
if c<(a.length:Int)then
(atI (K5 d) c).bind λh=>
(atI b h).bind λf=>
(atI (GC d) c).bind λe=>
(atI a c).bind λg=>
Zw ((b.length+[Wq (f+Wq (e*g))].length)*8<=140737488355328)<|
some (.inl (b++[Wq (f+Wq (e*g))],Wq (c+1),()))
else
some (.inr b)
def Zc2 (b:Zc) (a:Int):Option (List Int):=
(atI (Gl b) a).bind λd=>
(ZcC b a).bind λc=>
Zt (λv=>ZcO d c v.1 v.2.1) ([(0:Int)],(1:Int),())
def ZEP:Ctr:=⟨[.dat (Xi),.dat Iq],[.own (.ol 2 (.flat Iq))],λa K=>Zx a λc a=>Zx a λb a=>YR (Zc2 c b) λr=>K (r,()) ()⟩
def ZaD (h:Zc) (e c:Int) (a b:List Int) (d:Int):Option (((List Int)×Int×Unit)⊕List Int):=
(atI (Gl h) e).bind λg=>
if d<((Gv g).length:Int)then
(atI (Gv g) d).bind λi=>
(atI a i).bind λj=>
(Y3 j 1000 c).bind λf=>
Zw ((b.length+[f].length)*8<=140737488355328)<|
some (.inl (b++[f],Wq (d+1),()))
else
some (.inr b)
def ZbC (c:Zc) (a b:Int):Option (List Int):=
(Zc2 c a).bind λd=>
Zt (λv=>ZaD c a b d v.1 v.2.1) (([]:List Int),(0:Int),())
def ZEQ:Ctr:=⟨[.dat (Xi),.dat Iq,.dat Iq],[.own (.ol 2 (.flat Iq))],λa K=>Zx a λd a=>Zx a λc a=>Zx a λb a=>YR (ZbC d c b) λr=>K (r,()) ()⟩
def Zc3 (b:ZA) (c a:Int):Option Int:=
if c=1 then
if a=0 then
some (Hj b)
else
some (Hi b)
else
if a=0 then
some (Hk b)
else
some (Hl b)
def ZER:Ctr:=D3 (Qf) Iq Iq Iq Zc3
def Za7 (e:Zc) (i:ZA) (b:Zn) (c a:Int):Option Int:=
if GH b=1 then
(Zgv e b).bind λh=>
(atI h.1.2.2.2.2.1 (Int.tmod (Gf b) 2)).bind λf=>
(Zcd f c h.2 a).bind λk=>
(Zc3 i (GH b) a).bind λg=>
(Y3 (Wq (k*g)) 1000 a).bind λd=>
some d
else
(Zgw e b).bind λj=>
(ZbC e j a).bind λl=>
(atI l (He b)).bind λf=>
(Zc3 i (GH b) a).bind λg=>
(Y3 (Wq (f*g)) 1000 a).bind λd=>
some d
def ZES:Ctr:=⟨[.dat (Xi),.dat (Qf),.dat (Zaj),.dat Iq,.dat Iq],[.dat Iq],λa K=>Zx a λe a=>Zx a λf a=>Zx a λd a=>Zx a λb a=>Zx a λc a=>YR (Za7 e f d b c) λr=>K (r,()) ()⟩
def J4 (d c a b:Int):Option ((Int×Int×Unit)⊕Int):=
if a<b then
if Wq (Wq (Int.tdiv (Wq (Wq (a+b)+1)) 2)*Wq (Int.tdiv (Wq (Wq (a+b)+1)) 2))<=d then
some (.inl (Wq (Int.tdiv (Wq (Wq (a+b)+1)) 2),b,()))
else
some (.inl (a,Wq (Wq (Int.tdiv (Wq (Wq (a+b)+1)) 2)-1),()))
else
if c=1 then
if Wq (a*a)<d then
some (.inr (Wq (a+1)))
else
some (.inr a)
else
some (.inr a)
def Zfv (b a:Int):Option Int:=
Zt (λv=>J4 b a v.1 v.2.1) ((0:Int),(2000000000:Int),())
def ZMf:Ctr:=D2 Iq Iq Iq Zfv
def Zi1 (e:Zc) (c d a b:Int):Option Int:=
(atI (Gl e) c).bind λh=>
(atI (Gv h) d).bind λi=>
(Zc2 e c).bind λg=>
(atI g i).bind λf=>
(Zfv (Wq (Wq (Wq (1000000*a)*a)+Wq (Wq (4*f)*f))) b).bind λk=>
(Y3 k 1000 b).bind λj=>
some j
def ZMg:Ctr:=⟨[.dat (Xi),.dat Iq,.dat Iq,.dat Iq,.dat Iq],[.dat Iq],λa K=>Zx a λf a=>Zx a λe a=>Zx a λb a=>Zx a λc a=>Zx a λd a=>YR (Zi1 f e b c d) λr=>K (r,()) ()⟩
def Zcg (d:Zc) (c:Zn) (a b:Int):Option Int:=
if GH c=1 then
(Zgv d c).bind λe=>
(atI e.1.2.2.2.2.2.1 (Int.tmod (Gf c) 2)).bind λg=>
(Zcd g a e.2 b).bind λh=>
some h
else
(Zgw d c).bind λi=>
(Zi1 d i (He c) a b).bind λf=>
some (Min.min 1000000 f)
def ZMh:Ctr:=D4 (Xi) (Zaj) Iq Iq Iq Zcg
def ZeD (a:Zc) (d:ZA) (b:Zn) (c:Zz):Option (Zz×Zz):=
(Za7 a d b (K8 c) 0).bind λe=>
(Za7 a d b (K8 c) 1).bind λj=>
(Zcg a b (K8 c) 0).bind λk=>
(Zcg a b (K8 c) 1).bind λi=>
(Za7 a d b (Ga c) 0).bind λh=>
(Za7 a d b (Ga c) 1).bind λl=>
(Zcg a b (Ga c) 0).bind λf=>
(Zcg a b (Ga c) 1).bind λg=>
some ((Min.min e h,Max.max j l,()),(Min.min k f,Max.max i g,()))
def ZMi:Ctr:=⟨[.dat (Xi),.dat (Qf),.dat (Zaj),.dat (Zag)],[.dat (Zag),.dat (Zag)],λa K=>Zx a λb a=>Zx a λc a=>Zx a λd a=>Zx a λe a=>YR (ZeD b c d e) λr=>K (r.1,r.2,()) ()⟩
def Zi2 (b a:Zz):Option Zz:=
some (Min.min (K8 b) (K8 a),Max.max (Ga b) (Ga a),())
def ZMj:Ctr:=D2 (Zag) (Zag) (Zag) Zi2
def Ql (r:Zc) (s:ZA) (n:List Zn) (u:List Bool) (l:Zr) (k:Int) (d:Bool) (a j h g e f:Int):Option ((Bool×Int×Int×Int×Int×Int×Int×Unit)⊕((Bool×Int×Int×Int×Int×Int×Int×Unit)⊕(Bool×Zj))):=
if a<(n.length:Int)then
(atI n a).bind λc=>
(atI u a).bind λt=>
if t then
if Gf c=k then
(atI (Gd l) (Gc c)).bind λq=>
if q then
(atI (GF l) (Gc c)).bind λp=>
(ZeD r s c p).bind λb=>
(atI (GL l) (Gc c)).bind λi=>
if d then
(Zi2 (Wq (K8 i+b.1.1),Wq (Ga i+b.1.2.1),()) (h,g,())).bind λm=>
(Zi2 b.2 (e,f,())).bind λo=>
some (.inl (true,Wq (a+1),k,K8 m,Ga m,K8 o,Ga o,()))
else
some (.inl (true,Wq (a+1),k,Wq (K8 i+b.1.1),Wq (Ga i+b.1.2.1),b.2.1,b.2.2.1,()))
else
some (.inl (d,Wq (a+1),j,h,g,e,f,()))
else
some (.inl (d,Wq (a+1),j,h,g,e,f,()))
else
some (.inl (d,Wq (a+1),j,h,g,e,f,()))
else
some (.inr (.inr (d,(j,(h,g,()),(e,f,()),()))))
def J7 (k:Zc) (l:ZA) (m:List Zn) (n:List Bool) (c:List Zj) (o:Zr) (j:Int) (g:Bool) (b h i d f e:Int):Option ((Bool×Int×Int×Int×Int×Int×Int×Unit)⊕(Bool×Zj)):=
if b<(c.length:Int)then
(atI c b).bind λa=>
if K7 a=j then
some (.inl (true,Wq (b+1),K7 a,K8 (GR a),Ga (GR a),K8 (GZ a),Ga (GZ a),()))
else
some (.inl (g,Wq (b+1),h,i,d,f,e,()))
else
Zt (λv=>Ql k l m n o j v.1 v.2.1 v.2.2.1 v.2.2.2.1 v.2.2.2.2.1 v.2.2.2.2.2.1 v.2.2.2.2.2.2.1) (g,(0:Int),h,i,d,f,e,())
def ZaO (b:Zc) (d:ZA) (f:List Zn) (c:List Bool) (a:List Zj) (e:Zr) (g:Int):Option (Bool×Zj):=
Zt (λv=>J7 b d f c a e g v.1 v.2.1 v.2.2.1 v.2.2.2.1 v.2.2.2.2.1 v.2.2.2.2.2.1 v.2.2.2.2.2.2.1) (false,(0:Int),(0:Int),(0:Int),(0:Int),(0:Int),(0:Int),())
def ZMk:Ctr:=⟨[.dat (Xi),.dat (Qf),.dat (.sl (Zaj)),.dat (.sl (.bool)),.dat (.sl (Xv)),.dat (Zib),.dat Iq],[.dat (.bool),.dat (Xv)],λa K=>Zx a λc a=>Zx a λd a=>Zx a λe a=>Zx a λf a=>Zx a λb a=>Zx a λg a=>Zx a λh a=>YR (ZaO c d e f b g h) λr=>K (r.1,r.2,()) ()⟩
def XA (m:Zc) (n:ZA) (o:List Zn) (p:List Bool) (k:List Zj) (i:List Int) (f:Int) (h:List Bool) (j g:List Zz) (b:List Bool) (c d:List Zz):Option ((Int×(List Bool)×(List Zz)×(List Zz)×(List Bool)×(List Zz)×(List Zz)×Unit)⊕(Zr×Bool)):=
if f<(i.length:Int)then
(atI i f).bind λa=>
(ZaO m n o p k (b,c,d,()) a).bind λe=>
if e.1 then
(Zcc e.2.2.1).bind λl=>
if l then
(atI b a).bind λs=>
(atI c a).bind λr=>
(atI d a).bind λq=>
some (.inl (Wq (f+1),h,j,g,List.set b (Int.toNat a) true,List.set c (Int.toNat a) e.2.2.1,List.set d (Int.toNat a) e.2.2.2.1,()))
else
some (.inr ((([]:List Bool),([]:List Zz),([]:List Zz),()),false))
else
some (.inl (Wq (f+1),h,j,g,b,c,d,()))
else
some (.inr ((b,c,d,()),true))
def Zgx (b:Zc) (e:ZA) (f:List Zn) (g:List Bool) (d:List Zj) (h:List Int):Option (Zr×Bool):=
(V8 b).bind λc=>
(Zh8 c).bind λa=>
Zt (λv=>XA b e f g d h v.1 v.2.1 v.2.2.1 v.2.2.2.1 v.2.2.2.2.1 v.2.2.2.2.2.1 v.2.2.2.2.2.2.1) ((0:Int),([]:List Bool),([]:List Zz),([]:List Zz),Gd a,GL a,GF a,())
def ZMl:Ctr:=⟨[.dat (Xi),.dat (Qf),.dat (.sl (Zaj)),.dat (.sl (.bool)),.dat (.sl (Xv)),.dat (.sl Iq)],[.own (ZjU),.dat (.bool)],λa K=>Zx a λc a=>Zx a λd a=>Zx a λe a=>Zx a λf a=>Zx a λb a=>Zx a λg a=>YR (Zgx c d e f b g) λr=>K (r.1,r.2,()) ()⟩
def Zaq (d:Zc) (e:ZA) (b:List Int) (a:List Zj):Option (Zr×Int):=
(Zfx d e b a).bind λc=>
if c.2=0 then
(Za5 d).bind λg=>
(ZdP g b).bind λh=>
(Zgx d e g h a c.1).bind λf=>
if f.2 then
some (f.1,0)
else
some (([],[],[],()),3)
else
some (([],[],[],()),c.2)
def ZMm:Ctr:=⟨[.dat (Xi),.dat (Qf),.dat (.sl Iq),.dat (.sl (Xv))],[.own (ZjU),.dat Iq],λa K=>Zx a λd a=>Zx a λe a=>Zx a λc a=>Zx a λb a=>YR (Zaq d e c b) λr=>K (r.1,r.2,()) ()⟩
def VP (c:Zc) (b:Zo) (a:Int):Option (Zr×Int):=
(Zg2 c b).bind λe=>
if e then
(ZV a 0 (Wq (((GV b).length:Int)-1))).bind λh=>
if h then
(atI (GV b) a).bind λf=>
(ZeA c).bind λi=>
(ZeJ b).bind λg=>
(Zaq c f i g).bind λd=>
some (d.1,d.2)
else
some (([],[],[],()),4)
else
some (([],[],[],()),1)
def ZMn:Ctr:=⟨[.dat (Xi),.dat (Zc4),.dat Iq],[.own (ZjU),.dat Iq],λa K=>Zx a λc a=>Zx a λd a=>Zx a λb a=>YR (VP c d b) λr=>K (r.1,r.2,()) ()⟩
def ZJv (a:List Zf) (b:Int):Option ((Int×Unit)⊕Int):=
(atI a b).bind λc=>
if 0<=Gm c then
some (.inl (Gm c,()))
else
some (.inr b)
def ZJl (a:List Zf) (b:Int):Option Int:=
Zt (λv=>ZJv a v.1) (b,())
def ZMo:Ctr:=D2 (.sl (ZbL)) Iq Iq ZJl
def ZJB (b a:Int):Option ((Int×Int×Unit)⊕Int):=
if 0<a then
Zw (a≠0)<|
some (.inl (a,Int.tmod b a,()))
else
some (.inr b)
def ZJF (b a:Int):Option Int:=
Zt (λv=>ZJB v.1 v.2.1) (b,a,())
def ZMp:Ctr:=D2 Iq Iq Iq ZJF
def ZJe (a:List Zf) (e f:Int):Option Int:=
(Zgd a e).bind λb=>
(Zgd a f).bind λc=>
(ZJF (YX.period b) (YX.period c)).bind λd=>
Zw (d≠0)<|
some (Wq (Wq (Int.tdiv (YX.period b) d)*YX.period c))
def ZMa:Ctr:=D3 (.sl (ZbL)) Iq Iq Iq ZJe
def ZJm (a:List Zf) (b f c d:Int):Option Int:=
(ZcA a).bind λh=>
if h then
(ZV b 0 (Wq ((a.length:Int)-1))).bind λl=>
if l then
(ZV c 0 (Wq ((a.length:Int)-1))).bind λm=>
if m then
(ZV f 0 1).bind λk=>
if k then
(ZV d 0 1).bind λj=>
if j then
(ZJl a b).bind λn=>
(ZJl a c).bind λi=>
if n=i then
(ZJe a b c).bind λe=>
if 100000000<e then
some 3
else
(Zgd a b).bind λg=>
Zw (YX.period g≠0)<|
if 200<Wq (Int.tdiv e (YX.period g))then
some 3
else
some 0
else
some 5
else
some 2
else
some 2
else
some 4
else
some 4
else
some 1
def ZMb:Ctr:=⟨[.dat (.sl (ZbL)),.dat Iq,.dat Iq,.dat Iq,.dat Iq],[.dat Iq],λa K=>Zx a λb a=>Zx a λe a=>Zx a λd a=>Zx a λf a=>Zx a λc a=>YR (ZJm b e d f c) λr=>K (r,()) ()⟩
def ZJu (b:YX) (a:Int):Option Int:=
if a=0 then
some (YX.rise b)
else
some (YX.fall b)
def ZMq:Ctr:=D2 (Zup) Iq Iq ZJu
def ZJd (b:YX) (c a:Int):Option Int:=
(ZJu b c).bind λd=>
Zw (YX.period b≠0)<|
some (Wq (a+Int.tmod (Wq (Int.tmod (Wq (d-a)) (YX.period b)+YX.period b)) (YX.period b)))
def ZMr:Ctr:=D3 (Zup) Iq Iq Iq ZJd
def ZJr (g b:Int) (d e:YX) (c:List (List Int)) (a:Int):Option (((List (List Int))×Int×Unit)⊕List (List Int)):=
if a<b then
(ZJd e g (Wq (a+1))).bind λf=>
Zw ((c.length+[[a,f]].length)*24<=140737488355328)<|
some (.inl (c++[[a,f]],Wq (a+YX.period d),()))
else
some (.inr c)
def ZJf (a:List Zf) (c d e b:Int):Option (List (List Int)):=
(ZJe a c e).bind λg=>
(Zgd a c).bind λf=>
(Zgd a e).bind λi=>
(ZJd f d 0).bind λh=>
Zt (λv=>ZJr b g f i v.1 v.2.1) (([]:List (List Int)),h,())
def ZMc:Ctr:=⟨[.dat (.sl (ZbL)),.dat Iq,.dat Iq,.dat Iq,.dat Iq],[.own (.ol 52 (.ol 2 (.flat Iq)))],λa K=>Zx a λb a=>Zx a λe a=>Zx a λd a=>Zx a λf a=>Zx a λc a=>YR (ZJf b e d f c) λr=>K (r,()) ()⟩
def ZJs (a b:Int) (d:List (List Int)):Option ((Int×Int×(List (List Int))×Unit)⊕(Int×Int)):=
if b<(d.length:Int)then
(atI d b).bind λc=>
(atI c 1).bind λf=>
(atI c 0).bind λe=>
some (.inl (Min.min a (Wq (f-e)),Wq (b+1),List.set d (Int.toNat b) c,()))
else
some (.inr (a,0))
def ZIN (a:List Zf) (f c g b:Int):Option (Int×Int):=
(ZJm a f c g b).bind λe=>
if e=0 then
(ZJf a f c g b).bind λh=>
(atI h 0).bind λd=>
(atI d 1).bind λi=>
(atI d 0).bind λj=>
Zt (λv=>ZJs v.1 v.2.1 v.2.2.1) (Wq (i-j),(0:Int),List.set h (Int.toNat (0:Int)) d,())
else
some (0,e)
def ZMs:Ctr:=⟨[.dat (.sl (ZbL)),.dat Iq,.dat Iq,.dat Iq,.dat Iq],[.dat Iq,.dat Iq],λa K=>Zx a λb a=>Zx a λe a=>Zx a λd a=>Zx a λf a=>Zx a λc a=>YR (ZIN b e d f c) λr=>K (r.1,r.2,()) ()⟩
def ZI7 (a b:YX) (f c:Int) (e:List (List Int)):Option ((Int×Int×(List (List Int))×Unit)⊕(Int×Int)):=
if c<(e.length:Int)then
(atI e c).bind λd=>
(atI d 1).bind λg=>
(atI d 0).bind λh=>
some (.inl (Max.max f (Wq (Wq (g-h)-Min.min (YX.period a) (YX.period b))),Wq (c+1),List.set e (Int.toNat c) d,()))
else
some (.inr (f,0))
def ZIU (a:List Zf) (c h d f:Int):Option (Int×Int):=
(ZJm a c h d f).bind λe=>
if e=0 then
(ZJf a c h d f).bind λi=>
(Zgd a c).bind λj=>
(Zgd a d).bind λg=>
(atI i 0).bind λb=>
(atI b 1).bind λl=>
(atI b 0).bind λk=>
Zt (λv=>ZI7 j g v.1 v.2.1 v.2.2.1) (Wq (Wq (l-k)-Min.min (YX.period j) (YX.period g)),(0:Int),List.set i (Int.toNat (0:Int)) b,())
else
some (0,e)
def ZMt:Ctr:=⟨[.dat (.sl (ZbL)),.dat Iq,.dat Iq,.dat Iq,.dat Iq],[.dat Iq,.dat Iq],λa K=>Zx a λc a=>Zx a λd a=>Zx a λe a=>Zx a λf a=>Zx a λb a=>YR (ZIU c d e f b) λr=>K (r.1,r.2,()) ()⟩
def ZJk (a:List Zf) (d:Int):Option Int:=
(ZcA a).bind λb=>
if b then
(ZV d 0 (Wq ((a.length:Int)-1))).bind λc=>
if c then
some 0
else
some 4
else
some 1
def ZMu:Ctr:=D2 (.sl (ZbL)) Iq Iq ZJk
def ZIY (a:List Zf) (c e:Int):Option (Int×Int):=
(ZJk a c).bind λb=>
if b=0 then
(ZJk a e).bind λd=>
if d=0 then
(atI a c).bind λf=>
(atI a e).bind λg=>
some (Max.max (Ht f) (Ht g),0)
else
some (0,d)
else
some (0,b)
def ZMv:Ctr:=⟨[.dat (.sl (ZbL)),.dat Iq,.dat Iq],[.dat Iq,.dat Iq],λa K=>Zx a λb a=>Zx a λc a=>Zx a λd a=>YR (ZIY b c d) λr=>K (r.1,r.2,()) ()⟩
def ZJc (d:Zo) (a b:Int):Option (Zhl×Int):=
(ZIN (Gb d) a 0 b 0).bind λc=>
if c.2=0 then
(ZIU (Gb d) a 0 b 0).bind λe=>
(ZIY (Gb d) a b).bind λf=>
some ((c.1,e.1,f.1,()),0)
else
some ((0,0,0,()),c.2)
def ZMw:Ctr:=⟨[.dat (Zc4),.dat Iq,.dat Iq],[.dat (ZxB),.dat Iq],λa K=>Zx a λd a=>Zx a λb a=>Zx a λc a=>YR (ZJc d b c) λr=>K (r.1,r.2,()) ()⟩
def ZIV (c:Int) (d:Zq) (a:List (List Int)) (b:Int):Option (((List (List Int))×Int×Unit)⊕(((List (List Int))×Int×Unit)⊕List (List Int))):=
if b<((Ge d).length:Int)then
(atI (Ge d) b).bind λe=>
if K9 e=4 then
Zw ((a.length+[[c,b,(0:Int)],[c,b,(1:Int)]].length)*24<=140737488355328)<|
some (.inl (a++[[c,b,(0:Int)],[c,b,(1:Int)]],Wq (b+1),()))
else
if K9 e=5 then
Zw ((a.length+[[c,b,(0:Int)],[c,b,(1:Int)]].length)*24<=140737488355328)<|
some (.inl (a++[[c,b,(0:Int)],[c,b,(1:Int)]],Wq (b+1),()))
else
some (.inl (a,Wq (b+1),()))
else
some (.inr (.inl (a,Wq (c+1),())))
def ZIW (c:Zc) (a:List (List Int)) (b:Int):Option (((List (List Int))×Int×Unit)⊕List (List Int)):=
if b<((K4 (K3 c)).length:Int)then
(atI (K4 (K3 c)) b).bind λd=>
(atI (Gh (GG c)) (GJ d)).bind λe=>
Zt (λv=>ZIV b e v.1 v.2.1) (a,(0:Int),())
else
some (.inr a)
def ZJo (a:Zc):Option (List (List Int)):=
Zt (λv=>ZIW a v.1 v.2.1) (([]:List (List Int)),(0:Int),())
def ZMx:Ctr:=⟨[.dat (Xi)],[.own (.ol 52 (.ol 2 (.flat Iq)))],λa K=>Zx a λb a=>YR (ZJo b) λr=>K (r,()) ()⟩
def ZIz (b:Zq) (a:Int):Option ((Int×Unit)⊕Int):=
if a<((Ge b).length:Int)then
(atI (Ge b) a).bind λc=>
if K9 c=3 then
some (.inr 1)
else
some (.inl (Wq (a+1),()))
else
some (.inr 0)
def ZI0 (a:Zq):Option Int:=
if GX a=3 then
some 1
else
if GX a=2 then
Zt (λv=>ZIz a v.1) ((0:Int),())
else
some (-1)
def ZMy:Ctr:=D1 (ZgA) Iq ZI0
def ZJg (b:Zc) (a:List Int):Option (Int×Int):=
(atI a 0).bind λc=>
(atI (K4 (K3 b)) c).bind λg=>
(atI (Gh (GG b)) (GJ g)).bind λe=>
(atI a 1).bind λh=>
(atI (Ge e) h).bind λd=>
(atI a 2).bind λk=>
(ZdO (K3 b) c (Gn d)).bind λf=>
(ZdO (K3 b) c (Gi d)).bind λj=>
(ZI0 e).bind λi=>
some (Wq (Wq (2*f)+k),Wq (Wq (2*j)+i))
def ZMd:Ctr:=⟨[.dat (Xi),.dat (.sl Iq)],[.dat Iq,.dat Iq],λa K=>Zx a λc a=>Zx a λb a=>YR (ZJg c b) λr=>K (r.1,r.2,()) ()⟩
def ZI1 (f:Zc) (c:Zr) (a:List Int):Option Bool:=
(ZJg f a).bind λb=>
(atI (Gd c) b.1).bind λd=>
if d then
(atI (Gd c) b.2).bind λe=>
some e
else
some false
def ZMz:Ctr:=D3 (Xi) (Zib) (.sl Iq) (.bool) ZI1
def ZJp (f:Zc) (b:Zr) (c:Zhl) (d:List Int):Option Int:=
(atI d 0).bind λj=>
(atI (K4 (K3 f)) j).bind λm=>
(atI (Gh (GG f)) (GJ m)).bind λp=>
(atI d 1).bind λn=>
(atI (Ge p) n).bind λh=>
(ZJg f d).bind λa=>
(atI d 2).bind λq=>
(atI (Gy h) q).bind λl=>
(atI (GF b) a.1).bind λo=>
(atI (GF b) a.2).bind λk=>
(Zcd l (Ga o) (Ga k) 1).bind λi=>
if K9 h=4 then
(atI (GL b) a.2).bind λe=>
(atI (GL b) a.1).bind λg=>
some (Wq (Wq (Wq (Wq (HE c+K8 e)-i)-HD c)-Ga g))
else
(atI (GL b) a.1).bind λe=>
(atI (GL b) a.2).bind λg=>
some (Wq (K8 e-Wq (Wq (Wq (HH c+Ga g)+i)+HD c)))
def ZMA:Ctr:=D4 (Xi) (Zib) (ZxB) (.sl Iq) Iq ZJp
def ZI2 (e:Zc) (k:Zr) (f:Zhl) (a:List Zmj) (c:Int) (d:List (List Int)):Option (((List Zmj)×Int×(List (List Int))×Unit)⊕List Zmj):=
if c<(d.length:Int)then
(atI d c).bind λb=>
(ZI1 e k b).bind λl=>
if l then
(atI b 0).bind λg=>
(atI b 1).bind λj=>
(atI b 2).bind λh=>
(ZJp e k f b).bind λi=>
Zw ((a.length+[(g,j,h,i,())].length)*32<=140737488355328)<|
some (.inl (a++[(g,j,h,i,())],Wq (c+1),List.set d (Int.toNat c) b,()))
else
some (.inl (a,Wq (c+1),List.set d (Int.toNat c) b,()))
else
some (.inr a)
def ZJG (b:Zc) (d:Zr) (a:Zhl):Option (List Zmj):=
(ZJo b).bind λc=>
Zt (λv=>ZI2 b d a v.1 v.2.1 v.2.2.1) (([]:List (Int×Int×Int×Int×Unit)),(0:Int),c,())
def ZMB:Ctr:=⟨[.dat (Xi),.dat (Zib),.dat (ZxB)],[.own (.ol 71 (.flat (ZCE)))],λa K=>Zx a λc a=>Zx a λd a=>Zx a λb a=>YR (ZJG c d b) λr=>K (r,()) ()⟩
def ZIv (f:Zc) (e:Zo) (b a:Int):Option ((List Zmj)×Int):=
(VP f e b).bind λc=>
if c.2=0 then
(ZJc e a a).bind λd=>
if d.2=0 then
(ZJG f c.1 d.1).bind λg=>
some (g,0)
else
some ([],d.2)
else
some ([],c.2)
def ZMC:Ctr:=⟨[.dat (Xi),.dat (Zc4),.dat Iq,.dat Iq],[.own (.ol 71 (.flat (ZCE))),.dat Iq],λa K=>Zx a λd a=>Zx a λe a=>Zx a λb a=>Zx a λc a=>YR (ZIv d e b c) λr=>K (r.1,r.2,()) ()⟩
def Zbe (e:Zc) (c:Zo) (a:Int):Option (Zr×Int):=
(Zb4 e c a).bind λb=>
if b.2=0 then
(b.1).bind λd=>
some (Hv d,0)
else
some (([],[],[],()),b.2)
def ZMD:Ctr:=⟨[.dat (Xi),.dat (Zc4),.dat Iq],[.dat (Zib),.dat Iq],λa K=>Zx a λc a=>Zx a λd a=>Zx a λb a=>YR (Zbe c d b) λr=>K (r.1,r.2,()) ()⟩
def Zil (a:List Bool):Option Int:=
some (a.length:Int)
def ZME:Ctr:=D1 (.sl (.bool)) Iq Zil
def Zb2 (a:List Zz):Option Int:=
some (a.length:Int)
def ZMF:Ctr:=D1 (.sl (Zag)) Iq Zb2
def Zht (b:Zr) (a:Int):Option ((Int×Unit)⊕Bool):=
if a<((Gd b).length:Int)then
(atI (Gd b) a).bind λf=>
(atI (GL b) a).bind λc=>
(Jm c).bind λe=>
if e then
(atI (GF b) a).bind λd=>
(ZaW d).bind λg=>
if g then
if f then
some (.inl (Wq (a+1),()))
else
if(decide (K8 c=0)&&decide (Ga c=0))=true then
if(decide (K8 d=0)&&decide (Ga d=0))=true then
some (.inl (Wq (a+1),()))
else
some (.inr false)
else
some (.inr false)
else
some (.inr false)
else
some (.inr false)
else
some (.inr true)
def ZgU (c:ZG) (a:Zr):Option Bool:=
(YP c).bind λb=>
(Zil (Gd a)).bind λe=>
if e=b then
(Zb2 (GL a)).bind λf=>
if f=b then
(Zb2 (GF a)).bind λd=>
if d=b then
Zt (λv=>Zht a v.1) ((0:Int),())
else
some false
else
some false
else
some false
def ZMG:Ctr:=D2 (.ptr (ZfA)) (Zib) (.bool) ZgU
def ZJy (b:Zc) (e:Zr):Option ((Option ZG)×Int):=
(ZbW b).bind λc=>
if c then
(Vx b).bind λa=>
(ZgU a e).bind λd=>
if d then
some (Option.some a,0)
else
some (Option.none,1)
else
some (Option.none,1)
def ZMH:Ctr:=⟨[.dat (Xi),.dat (Zib)],[.dat (.nptr (ZfA)),.dat Iq],λa K=>Zx a λb a=>Zx a λc a=>YR (ZJy b c) λr=>K (r.1,r.2,()) ()⟩
def ZIZ (a:Zhl):Option Bool:=
(ZhQ (HE a)).bind λb=>
if b then
(ZhQ (HH a)).bind λc=>
if c then
(Z6 (HD a) 0 1000000000).bind λd=>
some d
else
some false
else
some false
def ZMI:Ctr:=D1 (ZxB) (.bool) ZIZ
def ZJx (c:Zc) (e:Zr) (b:Zhl):Option ((Option ZG)×Int):=
(ZJy c e).bind λa=>
if a.2=0 then
(ZIZ b).bind λd=>
if d then
some (a.1,0)
else
some (Option.none,2)
else
some (Option.none,a.2)
def ZMJ:Ctr:=⟨[.dat (Xi),.dat (Zib),.dat (ZxB)],[.dat (.nptr (ZfA)),.dat Iq],λa K=>Zx a λc a=>Zx a λd a=>Zx a λb a=>YR (ZJx c d b) λr=>K (r.1,r.2,()) ()⟩
def ZI6 (f:Zc) (c:Zr) (a:Zhl):Option ((List Zmj)×Int):=
(ZJx f c a).bind λb=>
if b.2=0 then
(b.1).bind λd=>
(ZIJ d c a).bind λe=>
some (e,0)
else
some ([],b.2)
def ZMK:Ctr:=⟨[.dat (Xi),.dat (Zib),.dat (ZxB)],[.own (.ol 71 (.flat (ZCE))),.dat Iq],λa K=>Zx a λc a=>Zx a λd a=>Zx a λb a=>YR (ZI6 c d b) λr=>K (r.1,r.2,()) ()⟩
def ZIt (a b:List Zmj×Int) (e:Int):Option ((Int×Unit)⊕Bool):=
if e<(a.1.length:Int)then
(atI a.1 e).bind λc=>
(atI b.1 e).bind λd=>
if(decide (HA c=HA d)&&(decide (HB c=HB d)&&(decide (Hz c=Hz d)&&decide (HG c=HG d))))=true then
some (.inl (Wq (e+1),()))
else
some (.inr false)
else
some (.inr true)
def ZIK (d:List Int):Option Bool:=
(Zqk d).bind λf=>
if f then
some true
else
(ZIM d).bind λa=>
(ZIu a.1 a.2.1 a.2.2.1 a.2.2.2).bind λb=>
(ZIv a.1 a.2.1 a.2.2.1 a.2.2.2).bind λe=>
if b.2=e.2 then
if(b.1.length:Int)=(e.1.length:Int)then
if b.2=0 then
(Zbe a.1 a.2.1 a.2.2.1).bind λg=>
(ZIO a.2.1 a.2.2.2 a.2.2.2).bind λh=>
(ZI6 a.1 g.1 h.1).bind λc=>
if c.2=0 then
if(c.1.length:Int)=(b.1.length:Int)then
Zt (λv=>ZIt b c v.1) ((0:Int),())
else
some false
else
some false
else
some true
else
some false
else
some false
def ZJn:Ctr:=⟨[.dat (.sl (.int .u8))],[.dat (.bool)],λa K=>Zx a λb a=>YR (ZIK b) λr=>K (r,()) ()⟩
def Zb1 (a:List Zn):Option Int:=
some (a.length:Int)
def JQ (c:ZG) (a:List Int):Option Bool:=
(Zb1 (ZG.links c)).bind λb=>
(Xy a 0 (Wq (b-1))).bind λd=>
if d then
(Qz a).bind λe=>
some e
else
some false
def Zdc (d:ZG) (a:Int):Option Bool:=
(YP d).bind λb=>
(Z6 a 0 (Wq (b-1))).bind λc=>
some c
def Vf (f:ZG) (a:List Zj) (b:Int):Option ((Int×Unit)⊕Bool):=
if b<(a.length:Int)then
(atI a b).bind λc=>
(Zdc f (K7 c)).bind λd=>
if d then
(Jm (GR c)).bind λg=>
if g then
(ZaW (GZ c)).bind λh=>
if h then
if 0<b then
(atI a (Wq (b-1))).bind λe=>
if K7 c<=K7 e then
some (.inr false)
else
some (.inl (Wq (b+1),()))
else
some (.inl (Wq (b+1),()))
else
some (.inr false)
else
some (.inr false)
else
some (.inr false)
else
some (.inr true)
def VU (b:ZG) (a:List Zj):Option Bool:=
Zt (λv=>Vf b a v.1) ((0:Int),())
def VL (h:Zc) (l:ZA) (a:List Int) (b:List Zj) (i:Option Zr):Option ((Option ZM)×(List Int)×Int):=
(ZbW h).bind λj=>
if j then
(Zd3 l).bind λn=>
if n then
(Vx h).bind λc=>
if(Option.isNone i)=true then
(JQ c a).bind λg=>
if g then
(VU c b).bind λf=>
if f then
(Vn c a).bind λe=>
(Q8 e).bind λd=>
if d.2 then
some (Option.some e,d.1,0)
else
some (Option.none,[],7)
else
some (Option.none,[],2)
else
some (Option.none,[],2)
else
(i).bind λm=>
(ZgU c m).bind λk=>
if k then
(JQ c a).bind λg=>
if g then
(VU c b).bind λf=>
if f then
(Vn c a).bind λe=>
(Q8 e).bind λd=>
if d.2 then
some (Option.some e,d.1,0)
else
some (Option.none,[],7)
else
some (Option.none,[],2)
else
some (Option.none,[],2)
else
some (Option.none,[],1)
else
some (Option.none,[],1)
else
some (Option.none,[],1)
def Qa (g:Zc) (d:ZA) (b:List Int) (a:List Zj):Option (Zr×Int):=
(VL g d b a Option.none).bind λc=>
if c.2.2=0 then
(c.1).bind λf=>
(Qd f d a c.2.1).bind λe=>
if e.2 then
some (e.1,0)
else
some (([],[],[],()),3)
else
some (([],[],[],()),c.2.2)
end
end Go.Proofs.YtjkccpcebpeadaaGreatDoor
