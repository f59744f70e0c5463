/-
 The models of the functions and their contracts. Printed by program.
-/
import Derived.KernelRfl
import Derived.Test.YtcjminfjgckdlaaGreatDoorSxTab
import Derived.Test.YtcjminfjgckdlaaGreatDoorSxS0
import Derived.Test.YtcjminfjgckdlaaGreatDoorSxLib
import Derived.Test.YtcjminfjgckdlaaGreatDoorSxLibS
namespace Go.Proofs.YtcjminfjgckdlaaGreatDoor
open Go Go.Sx
set_option maxRecDepth 100000
set_option maxHeartbeats 100000000
set_option linter.unusedVariables false
set_option linter.unusedSimpArgs false
noncomputable section
theorem G8 {Δ:Tab} (hΔ:Δ.ok Tryz.prog) {Γ:Gam} (hΓ:Γ.ok Tryz.prog) (A:Ann) {f:FuncId} {fn:Func} (hf:Tryz.prog.funcs[f]?=some fn) {C:Ctr} (hv:∀vs K,C.tr vs K->fnK Δ Γ A C fn vs K) (h1:(fn.name == "runtime.NumGoroutine")=false:=by kernel_rfl) (h2:fn.body.isNone=false:=by kernel_rfl):Zc Tryz.prog f C:=Zh hΔ hΓ mixed A hf h1 h2 hv
abbrev Iq:Ty:=.int .i64
abbrev Wq:=IntKind.wrap IntKind.i64
abbrev Sq:=Zc Tryz.prog
theorem Bq {α β:Type} (x:α) (f:α->Option β):(some x).bind f=f x:=rfl
def ZsD (a:List Int):Option Bool:=
some (decide (4096<(a.length:Int)))
def c0:Ctr:=D1 (.sl (.int .u8)) (.bool) ZsD
def ZfA (a:List Int) (b c:Int):Option ((Int×Int×Unit)⊕Zk):=
if b<(a.length:Int)then
if b<64 then
(atI a b).bind λd=>
some (.inl (Wq (b+1),Int.tmod (Wq (Wq (c*31)+Wq d)) 2147483647,()))
else
some (.inr (a,0,c,()))
else
some (.inr (a,0,c,()))
def Zik (a:List Int):Option Zk:=
Zx (λv=>ZfA a v.1 v.2.1) ((0:Int),(12345:Int),())
def c1:Ctr:=⟨[.dat (.sl (.int .u8))],[.io (.flat (XE))],λa K=>splitK a λb a=>Yf (Zik b) λr=>K (r,()) ()⟩
def Zl (a:Zk) (b:Int):Option (Int×Zk):=
if b<=1 then
some (0,a)
else
if Zk.at a<((G4 a).length:Int)then
(atI (G4 a) (Zk.at a)).bind λc=>
if b<=256 then
Zt (b≠0)<|
some (Int.tmod (Wq c) b,(G4 a,Wq (Zk.at a+1),a.2.2))
else
Zt (b≠0)<|
some (Int.tmod (Int.tmod (Wq (Wq (Wq (GP a*48271)+Wq c)+1)) 2147483647) b,(G4 a,Wq (Zk.at a+1),Int.tmod (Wq (Wq (Wq (GP a*48271)+Wq c)+1)) 2147483647,()))
else
Zt (b≠0)<|
some (Int.tmod (Wq (Int.tdiv (Int.tmod (Wq (Wq (GP a*48271)+11)) 2147483647) 7)) b,(G4 a,Zk.at a,Int.tmod (Wq (Wq (GP a*48271)+11)) 2147483647,()))
def c2:Ctr:=⟨[.io (.flat (XE)),.dat Iq],[.dat Iq],λa K=>splitK a λc a=>splitK a λb a=>Yf (Zl c b) λr=>K (r.1,()) (r.2,())⟩
def ZeB (e:Zn) (d:Int) (b a:Bool) (c:Int):Option ((Bool×Bool×Int×Unit)⊕Int):=
if c<((Gy e).length:Int)then
if Go.bits Go.BinOp.and IntKind.i64 c (Wq (1*2^Min.min (Int.toNat (IntKind.wrap IntKind.u64 d)) (IntKind.bits IntKind.i64)))=0 then
if b then
if a then
some (.inl (true,true,Wq (c+1),()))
else
(atI (Gy e) c).bind λf=>
(atI (Gy e) (Wq (c+Wq (1*2^Min.min (Int.toNat (IntKind.wrap IntKind.u64 d)) (IntKind.bits IntKind.i64))))).bind λg=>
some (.inl (true,decide (g<f),Wq (c+1),()))
else
(atI (Gy e) c).bind λf=>
(atI (Gy e) (Wq (c+Wq (1*2^Min.min (Int.toNat (IntKind.wrap IntKind.u64 d)) (IntKind.bits IntKind.i64))))).bind λg=>
if a then
some (.inl (decide (f<g),true,Wq (c+1),()))
else
some (.inl (decide (f<g),decide (g<f),Wq (c+1),()))
else
some (.inl (b,a,Wq (c+1),()))
else
if b then
if a then
some (.inr 3)
else
if b then
some (.inr 1)
else
if a then
some (.inr 2)
else
some (.inr 0)
else
if b then
some (.inr 1)
else
if a then
some (.inr 2)
else
some (.inr 0)
def ZfH (b:Zn) (a:Int):Option Int:=
Zt ((0:Int)<=IntKind.wrap IntKind.u64 a)<|
Zx (λv=>ZeB b a v.1 v.2.1 v.2.2.1) (false,false,(0:Int),())
def c3:Ctr:=D2 (ZcQ) Iq Iq ZfH
def ZcM (d:Int) (a:List Int) (b e:Int) (f:List Int) (g h:Int):Option (((List Int)×Int×Int×(List Int)×Int×Int×Unit)⊕((List Int)×Zk)):=
if 0<e then
Zt ((a.length+[b].length)*8<=140737488355328)<|
(Zl (f,g,h,()) d).bind λc=>
some (.inl (a++[b],Wq (Wq (b+1)+c.1),Wq (e-1),c.2.1,c.2.2.1,c.2.2.2.1,()))
else
some (.inr (a,(f,g,h,())))
def Zcy (d:Zk) (a:Int):Option ((List Int)×Zk):=
(Zl d a).bind λc=>
(Zl c.2 3).bind λb=>
Zx (λv=>ZcM a v.1 v.2.1 v.2.2.1 v.2.2.2.1 v.2.2.2.2.1 v.2.2.2.2.2.1) (([]:List Int),c.1,Wq ((1:Int)+b.1),b.2.1,b.2.2.1,b.2.2.2.1,())
def c4:Ctr:=⟨[.io (.flat (XE)),.dat Iq],[.own (.ol 2 (.flat Iq))],λa K=>splitK a λc a=>splitK a λb a=>Yf (Zcy c b) λr=>K (r.1,()) (r.2,())⟩
def ZfD (g:Int) (b a:List Int×Zk) (e:List Int) (f:Int) (j:List Int) (k l:Int):Option (((List Int)×Int×(List Int)×Int×Int×Unit)⊕(ZB×Zk)):=
if f<Wq ((b.1.length:Int)*(a.1.length:Int))then
(Zl (j,k,l,()) 10).bind λd=>
Zt ((a.1.length:Int)≠0)<|
if 0<Int.tmod f (a.1.length:Int)then
(atI e (Wq (f-1))).bind λh=>
(Zl d.2 20).bind λc=>
if(a.1.length:Int)<=f then
(atI e (Wq (f-(a.1.length:Int)))).bind λm=>
(Zl c.2 20).bind λi=>
Zt ((e.length+[Max.max (Max.max (Wq (g+d.1)) (Wq (h+c.1))) (Wq (m+i.1))].length)*8<=140737488355328)<|
some (.inl (e++[Max.max (Max.max (Wq (g+d.1)) (Wq (h+c.1))) (Wq (m+i.1))],Wq (f+1),i.2.1,i.2.2.1,i.2.2.2.1,()))
else
Zt ((e.length+[Max.max (Wq (g+d.1)) (Wq (h+c.1))].length)*8<=140737488355328)<|
some (.inl (e++[Max.max (Wq (g+d.1)) (Wq (h+c.1))],Wq (f+1),c.2.1,c.2.2.1,c.2.2.2.1,()))
else
if(a.1.length:Int)<=f then
(atI e (Wq (f-(a.1.length:Int)))).bind λh=>
(Zl d.2 20).bind λc=>
Zt ((e.length+[Max.max (Wq (g+d.1)) (Wq (h+c.1))].length)*8<=140737488355328)<|
some (.inl (e++[Max.max (Wq (g+d.1)) (Wq (h+c.1))],Wq (f+1),c.2.1,c.2.2.1,c.2.2.2.1,()))
else
Zt ((e.length+[Wq (g+d.1)].length)*8<=140737488355328)<|
some (.inl (e++[Wq (g+d.1)],Wq (f+1),d.2.1,d.2.2.1,d.2.2.2.1,()))
else
some (.inr ((b.1,a.1,e,()),(j,k,l,())))
def ZgF (d:Zk) (c:Int):Option (ZB×Zk):=
(Zcy d 60).bind λb=>
(Zcy b.2 40).bind λa=>
Zx (λv=>ZfD c b a v.1 v.2.1 v.2.2.1 v.2.2.2.1 v.2.2.2.2.1) (([]:List Int),(0:Int),a.2.1,a.2.2.1,a.2.2.2.1,())
def c5:Ctr:=⟨[.io (.flat (XE)),.dat Iq],[.own (Zj7)],λa K=>splitK a λc a=>splitK a λb a=>Yf (ZgF c b) λr=>K (r.1,()) (r.2,())⟩
def JD (d:Zk) (a:Int):Option ((List ZB)×Zk):=
(ZgF d a).bind λb=>
(ZgF b.2 a).bind λc=>
some ([b.1,c.1],c.2)
def c6:Ctr:=⟨[.io (.flat (XE)),.dat Iq],[.own (.ol 336 (Zj7))],λa K=>splitK a λc a=>splitK a λb a=>Yf (JD c b) λr=>K (r.1,()) (r.2,())⟩
def Jq (g:Zk) (a b f d:Int):Option (ZH×Zk):=
if 4<=a then
(Zl g 10).bind λc=>
(JD c.2 (Wq (5-c.1))).bind λe=>
some ((a,b,f,0,e.1,[],()),e.2)
else
(Zl g 20).bind λc=>
(JD c.2 (Wq (5+c.1))).bind λe=>
(JD e.2 10).bind λh=>
some ((a,b,f,d,e.1,h.1,()),h.2)
def c7:Ctr:=⟨[.io (.flat (XE)),.dat Iq,.dat Iq,.dat Iq,.dat Iq],[.own (ZDh)],λa K=>splitK a λf a=>splitK a λd a=>splitK a λc a=>splitK a λe a=>splitK a λb a=>Yf (Jq f d c e b) λr=>K (r.1,()) (r.2,())⟩
def ZfE (l:List UInt8) (k:List Int) (a b:Int×Zk) (f:List XF) (e:List ZH) (c:Int) (g:List Int) (i h:Int):Option (((List ZH)×Int×(List Int)×Int×Int×Unit)⊕(((List XF)×Int×(List Int)×Int×Int×Unit)⊕(Zn×Zk))):=
if c<(f.length:Int)then
(ZfH (l,(1:Int),f++[([(121:UInt8)],(2:Int),(0:Int),false,())],([]:List ZH),k,a.1,b.1,()) c).bind λj=>
if j=0 then
some (.inl (e,Wq (c+1),g,i,h,()))
else
(Jq (g,i,h,()) 1 c (f.length:Int) j).bind λd=>
Zt ((e.length+[d.1].length)*80<=140737488355328)<|
some (.inl (e++[d.1],Wq (c+1),d.2.1,d.2.2.1,d.2.2.2.1,()))
else
some (.inr (.inr ((l,(1:Int),f++[([(121:UInt8)],(2:Int),(0:Int),false,())],e,k,a.1,b.1,()),(g,i,h,()))))
def ZfF (k:List UInt8) (i:List Int) (a b:Int×Zk) (d:List XF) (e:Int) (f:List Int) (g h:Int):Option (((List XF)×Int×(List Int)×Int×Int×Unit)⊕(Zn×Zk)):=
if e<(i.length:Int)then
(atI ([[(97:UInt8)],[(98:UInt8)],[(99:UInt8)],[(100:UInt8)]]) (d.length:Int)).bind λj=>
(Zl (f,g,h,()) 9).bind λc=>
Zt ((d.length+[(j,(1:Int),Wq ((1:Int)+c.1),false,())].length)*40<=140737488355328)<|
some (.inl (d++[(j,(1:Int),Wq ((1:Int)+c.1),false,())],Wq ((2:Int)*e),c.2.1,c.2.2.1,c.2.2.2.1,()))
else
Zt ((d.length+[([(121:UInt8)],(2:Int),(0:Int),false,())].length)*40<=140737488355328)<|
Zx (λv=>ZfE k i a b d v.1 v.2.1 v.2.2.1 v.2.2.2.1 v.2.2.2.2.1) (([]:List ZH),(0:Int),f,g,h,())
def Zb2 (e:Zk) (d:List UInt8) (c:List Int):Option (Zn×Zk):=
(Zl e 50).bind λb=>
(Zl b.2 80).bind λa=>
Zx (λv=>ZfF d c b a v.1 v.2.1 v.2.2.1 v.2.2.2.1 v.2.2.2.2.1) (([]:List (List UInt8×Int×Int×Bool×Unit)),(1:Int),a.2.1,a.2.2.1,a.2.2.2.1,())
def c8:Ctr:=⟨[.io (.flat (XE)),.dat (.str),.own (.ol 2 (.flat Iq))],[.own (Zsg)],λa K=>splitK a λb a=>splitK a λd a=>splitK a λc a=>Yf (Zb2 b d c) λr=>K (r.1,()) (r.2,())⟩
def ZaS (l:Zk) (b:List UInt8) (a f:Int):Option (Zn×Zk):=
(Zl l 50).bind λi=>
(Zl i.2 80).bind λk=>
(Zl k.2 9).bind λj=>
(Zl j.2 9).bind λg=>
(Jq g.2 f 1 2 0).bind λe=>
(Jq e.2 4 1 0 0).bind λd=>
(Jq d.2 5 1 0 0).bind λc=>
if a=3 then
(Jq c.2 1 0 2 1).bind λh=>
Zt (([e.1,d.1,c.1].length+[h.1].length)*80<=140737488355328)<|
some ((b,a,[([(100:UInt8)],(1:Int),Wq ((1:Int)+j.1),false,()),([(99:UInt8),107],(1:Int),Wq ((1:Int)+g.1),true,()),([(113:UInt8)],(2:Int),(0:Int),false,())],[e.1,d.1,c.1]++[h.1],[],i.1,k.1,()),h.2)
else
some ((b,a,[([(100:UInt8)],(1:Int),Wq ((1:Int)+j.1),false,()),([(99:UInt8),107],(1:Int),Wq ((1:Int)+g.1),true,()),([(113:UInt8)],(2:Int),(0:Int),false,())],[e.1,d.1,c.1],[],i.1,k.1,()),c.2)
def c9:Ctr:=⟨[.io (.flat (XE)),.dat (.str),.dat Iq,.dat Iq],[.own (Zsg)],λa K=>splitK a λe a=>splitK a λd a=>splitK a λb a=>splitK a λc a=>Yf (ZaS e d b c) λr=>K (r.1,()) (r.2,())⟩
def Zil (i:Zk):Option (Zr×Zk):=
(Zb2 i [(105:UInt8),110,118] [(1:Int),0]).bind λd=>
(Zb2 d.2 [(98:UInt8),117,102] [(0:Int),1]).bind λh=>
(Zb2 h.2 [(110:UInt8),97,110,100] [(1:Int),1,1,0]).bind λf=>
(Zb2 f.2 [(120:UInt8),111,114] [(0:Int),1,1,0]).bind λa=>
(Zb2 a.2 [(109:UInt8),117,120] [(0:Int),1,0,1,0,0,1,1]).bind λg=>
(ZaS g.2 [(102:UInt8),108,111,112] (2:Int) (2:Int)).bind λc=>
(ZaS c.2 [(102:UInt8),108,111,112,110] (2:Int) (3:Int)).bind λe=>
(ZaS e.2 [(108:UInt8),97,116,99,104] (3:Int) (2:Int)).bind λb=>
some (([d.1,h.1,f.1,a.1,g.1,c.1,e.1,b.1],()),b.2)
def c10:Ctr:=⟨[.io (.flat (XE))],[.own (Zpa)],λa K=>splitK a λb a=>Yf (Zil b) λr=>K (r.1,()) (r.2,())⟩
def XA (b:Int->Option (List UInt8)) (a:Int):Option (List UInt8):=
if a<0 then
(b (Wq (0-a))).bind λc=>
Zt ((([(45:UInt8)].length):Int)+(c.length:Int)<=9223372036854775807)<|
some ([(45:UInt8)]++c)
else
if a<10 then
some (bytesOf [IntKind.wrap IntKind.u8 (Wq ((48:Int)+a))])
else
(b (Wq (Int.tdiv a 10))).bind λc=>
Zt ((c.length:Int)+(((bytesOf [IntKind.wrap IntKind.u8 (Wq ((48:Int)+Int.tmod a (10:Int)))]).length):Int)<=9223372036854775807)<|
some (c++bytesOf [IntKind.wrap IntKind.u8 (Wq ((48:Int)+Int.tmod a (10:Int)))])
def VJ:Nat->Int->Option (List UInt8)
|0=>λ_=>none
|n+1=>XA (VJ n)
def Vh (a:Int):Option (List UInt8):=ZF9 (λn=>VJ n a)
def Zds (b:Int->Option (List UInt8)):Ctr:=⟨[.dat Iq],[.dat (.str)],λa K=>splitK a λc a=>Yf (b c) λr=>K (r,()) ()⟩
def c11:Ctr:=Zds Vh
def ZfI (l:List Ze) (d:List (List UInt8)) (m g:Int) (c:List UInt8) (e:Int) (i:List Int) (j k:Int) (a:List Int):Option ((Int×(List Int)×Int×Int×(List Int)×Unit)⊕(((List Ze)×(List (List UInt8))×Int×(List Int)×Int×Int×Unit)⊕(Zb×Zk))):=
(atI ([(2:Int),2,3,3,4,3,3,3]) g).bind λn=>
if e<Wq (n-1)then
(Zl (i,j,k,()) (Wq ((d.length:Int)-1))).bind λf=>
(Zl f.2 3).bind λb=>
if b.1=0 then
if 5<=g then
if e=1 then
Zt ((([]:List Int).length+a.length)*8<=140737488355328)<|
Zt (((([]:List Int)++a).length+[(0:Int)].length)*8<=140737488355328)<|
some (.inl (Wq (e+1),b.2.1,b.2.2.1,b.2.2.2.1,([]:List Int)++a++[(0:Int)],()))
else
Zt ((([]:List Int).length+a.length)*8<=140737488355328)<|
Zt (((([]:List Int)++a).length+[Wq ((d.length:Int)-1)].length)*8<=140737488355328)<|
some (.inl (Wq (e+1),b.2.1,b.2.2.1,b.2.2.2.1,([]:List Int)++a++[Wq ((d.length:Int)-1)],()))
else
Zt ((([]:List Int).length+a.length)*8<=140737488355328)<|
Zt (((([]:List Int)++a).length+[Wq ((d.length:Int)-1)].length)*8<=140737488355328)<|
some (.inl (Wq (e+1),b.2.1,b.2.2.1,b.2.2.2.1,([]:List Int)++a++[Wq ((d.length:Int)-1)],()))
else
if 5<=g then
if e=1 then
Zt ((([]:List Int).length+a.length)*8<=140737488355328)<|
Zt (((([]:List Int)++a).length+[(0:Int)].length)*8<=140737488355328)<|
some (.inl (Wq (e+1),b.2.1,b.2.2.1,b.2.2.2.1,([]:List Int)++a++[(0:Int)],()))
else
Zt ((([]:List Int).length+a.length)*8<=140737488355328)<|
Zt (((([]:List Int)++a).length+[Wq ((1:Int)+f.1)].length)*8<=140737488355328)<|
some (.inl (Wq (e+1),b.2.1,b.2.2.1,b.2.2.2.1,([]:List Int)++a++[Wq ((1:Int)+f.1)],()))
else
Zt ((([]:List Int).length+a.length)*8<=140737488355328)<|
Zt (((([]:List Int)++a).length+[Wq ((1:Int)+f.1)].length)*8<=140737488355328)<|
some (.inl (Wq (e+1),b.2.1,b.2.2.1,b.2.2.2.1,([]:List Int)++a++[Wq ((1:Int)+f.1)],()))
else
Zt ((([]:List Int).length+a.length)*8<=140737488355328)<|
Zt (((([]:List Int)++a).length+[(d.length:Int)].length)*8<=140737488355328)<|
(Vh (d.length:Int)).bind λh=>
Zt ((([(110:UInt8)].length):Int)+(h.length:Int)<=9223372036854775807)<|
Zt ((d.length+[[(110:UInt8)]++h].length)*16<=140737488355328)<|
Zt ((l.length+[([(117:UInt8)]++c,g,([]:List Int)++a++[(d.length:Int)],())].length)*48<=140737488355328)<|
some (.inr (.inl (l++[([(117:UInt8)]++c,g,([]:List Int)++a++[(d.length:Int)],())],d++[[(110:UInt8)]++h],Wq (m-1),i,j,k,())))
def ZfJ (k:Bool) (e:List (List UInt8)) (d:Int) (g:List Int) (h i:Int) (f:List (List UInt8×Int×List Int×Unit)):Option ((Int×(List Int)×Int×Int×(List (List UInt8×Int×List Int×Unit))×Unit)⊕(((List Ze)×(List (List UInt8))×Int×(List Int)×Int×Int×Unit)⊕(Zb×Zk))):=
if d<(f.length:Int)then
(Zl (g,h,i,()) 4).bind λc=>
if c.1=0 then
(atI f d).bind λb=>
if b.2.1=5 then
(Zl c.2 (Wq ((e.length:Int)-1))).bind λa=>
(atI b.2.2.1 0).bind λj=>
some (.inl (Wq (d+1),a.2.1,a.2.2.1,a.2.2.2.1,List.set f (Int.toNat d) (b.1,b.2.1,List.set b.2.2.1 (Int.toNat 0) (Wq (1+a.1)),()),()))
else
if b.2.1=6 then
(Zl c.2 (Wq ((e.length:Int)-1))).bind λa=>
(atI b.2.2.1 0).bind λj=>
some (.inl (Wq (d+1),a.2.1,a.2.2.1,a.2.2.2.1,List.set f (Int.toNat d) (b.1,b.2.1,List.set b.2.2.1 (Int.toNat 0) (Wq (1+a.1)),()),()))
else
if k then
(Zl c.2 (Wq ((e.length:Int)-1))).bind λa=>
(atI b.2.2.1 0).bind λj=>
some (.inl (Wq (d+1),a.2.1,a.2.2.1,a.2.2.2.1,List.set f (Int.toNat d) (b.1,b.2.1,List.set b.2.2.1 (Int.toNat 0) (Wq (1+a.1)),()),()))
else
some (.inl (Wq (d+1),c.2.1,c.2.2.1,c.2.2.2.1,List.set f (Int.toNat d) b,()))
else
some (.inl (Wq (d+1),c.2.1,c.2.2.1,c.2.2.2.1,f,()))
else
Zt (((([]:List (List UInt8×Int×Int×Unit))++[([(99:UInt8),107],(1:Int),(0:Int),()),([(97:UInt8)],(1:Int),(1:Int),()),([(98:UInt8)],(1:Int),(2:Int),())]).length+[([(121:UInt8)],(2:Int),Wq ((e.length:Int)-1),())].length)*32<=140737488355328)<|
(Zl (g,h,i,()) 2).bind λc=>
if c.1=0 then
(Zl c.2 (Wq ((e.length:Int)-1))).bind λa=>
Zt (((([]:List (List UInt8×Int×Int×Unit))++[([(99:UInt8),107],(1:Int),(0:Int),()),([(97:UInt8)],(1:Int),(1:Int),()),([(98:UInt8)],(1:Int),(2:Int),())]++[([(121:UInt8)],(2:Int),Wq ((e.length:Int)-1),())]).length+[([(122:UInt8)],(2:Int),Wq ((1:Int)+a.1),())].length)*32<=140737488355328)<|
some (.inr (.inr ((f,e,([]:List (List UInt8×Int×Int×Unit))++[([(99:UInt8),107],(1:Int),(0:Int),()),([(97:UInt8)],(1:Int),(1:Int),()),([(98:UInt8)],(1:Int),(2:Int),())]++[([(121:UInt8)],(2:Int),Wq ((e.length:Int)-1),())]++[([(122:UInt8)],(2:Int),Wq ((1:Int)+a.1),())],()),a.2)))
else
some (.inr (.inr ((f,e,([]:List (List UInt8×Int×Int×Unit))++[([(99:UInt8),107],(1:Int),(0:Int),()),([(97:UInt8)],(1:Int),(1:Int),()),([(98:UInt8)],(1:Int),(2:Int),())]++[([(121:UInt8)],(2:Int),Wq ((e.length:Int)-1),())],()),c.2)))
def ZfK (i:Bool) (b:List Ze) (c:List (List UInt8)) (f:Int) (d:List Int) (e g:Int):Option (((List Ze)×(List (List UInt8))×Int×(List Int)×Int×Int×Unit)⊕(Zb×Zk)):=
if 0<f then
(Zl (d,e,g,()) 12).bind λa=>
(atI ([(0:Int),1,2,2,3,4,5,5,5,6,7,1]) a.1).bind λj=>
(Vh (b.length:Int)).bind λh=>
Zt ((([(117:UInt8)].length):Int)+(h.length:Int)<=9223372036854775807)<|
Zx (λv=>ZfI b c f j h v.1 v.2.1 v.2.2.1 v.2.2.2.1 v.2.2.2.2.1) ((0:Int),a.2.1,a.2.2.1,a.2.2.2.1,([]:List Int),())
else
Zx (λv=>ZfJ i c v.1 v.2.1 v.2.2.1 v.2.2.2.1 v.2.2.2.2.1) ((0:Int),d,e,g,b,())
def Zin (d:Zk) (c:Int) (b:Bool):Option (Zb×Zk):=
(Zl d (Wq (c-1))).bind λa=>
Zx (λv=>ZfK b v.1 v.2.1 v.2.2.1 v.2.2.2.1 v.2.2.2.2.1 v.2.2.2.2.2.1) (([]:List Ze),([]:List (List UInt8))++[[(110:UInt8),99,107],[(110:UInt8),97],[(110:UInt8),98]],Wq ((2:Int)+a.1),a.2.1,a.2.2.1,a.2.2.2.1,())
def c12:Ctr:=⟨[.io (.flat (XE)),.dat Iq,.dat (.bool)],[.own (ZpD)],λa K=>splitK a λb a=>splitK a λd a=>splitK a λc a=>Yf (Zin b d c) λr=>K (r.1,()) (r.2,())⟩
def ZdZ (c:Int) (b:Ze) (d:List ZC) (a:Int):Option (((List ZC)×Int×Unit)⊕(((List ZC)×Int×Unit)⊕List ZC)):=
if a<((K7 b).length:Int)then
(atI (K7 b) a).bind λe=>
Zt ((d.length+[(c,a,e,decide (a=Wq (((K7 b).length:Int)-1)),())].length)*32<=140737488355328)<|
some (.inl (d++[(c,a,e,decide (a=Wq (((K7 b).length:Int)-1)),())],Wq (a+1),()))
else
some (.inr (.inl (d,Wq (c+1),())))
def Zd0 (d:Zb) (c:List ZC) (a:Int):Option (((List ZC)×Int×Unit)⊕(((List ZC)×Int×Unit)⊕List ZC)):=
if a<((Ga d).length:Int)then
(atI (Ga d) a).bind λb=>
Zt ((c.length+[((-1:Int),a,GH b,decide (GC b=1),())].length)*32<=140737488355328)<|
some (.inl (c++[((-1:Int),a,GH b,decide (GC b=1),())],Wq (a+1),()))
else
some (.inr (.inr c))
def Zd1 (b:Zb) (c:List ZC) (a:Int):Option (((List ZC)×Int×Unit)⊕List ZC):=
if a<((KY b).length:Int)then
(atI (KY b) a).bind λd=>
Zx (λv=>ZdZ a d v.1 v.2.1) (c,(0:Int),())
else
Zx (λv=>Zd0 b v.1 v.2.1) (c,(0:Int),())
def YK (a:Zb):Option (List ZC):=
Zx (λv=>Zd1 a v.1 v.2.1) (([]:List (Int×Int×Int×Bool×Unit)),(0:Int),())
def c13:Ctr:=⟨[.dat (Y8)],[.own (.ol 154 (.flat (ZgK)))],λa K=>splitK a λb a=>Yf (YK b) λr=>K (r,()) ()⟩
def ZeI (d:Int) (a:List ZC) (b:List Int) (c:Int):Option (((List Int)×Int×Unit)⊕List Int):=
if c<(a.length:Int)then
(atI a c).bind λe=>
if ZC.net e=d then
if(GT e)=true then
some (.inl (b,Wq (c+1),()))
else
Zt ((b.length+[c].length)*8<=140737488355328)<|
some (.inl (b++[c],Wq (c+1),()))
else
some (.inl (b,Wq (c+1),()))
else
some (.inr b)
def Xg (c:Zb) (a:Int):Option (List Int):=
(YK c).bind λb=>
Zx (λv=>ZeI a b v.1 v.2.1) (([]:List Int),(0:Int),())
def c14:Ctr:=⟨[.dat (Y8),.dat Iq],[.own (.ol 2 (.flat Iq))],λa K=>splitK a λc a=>splitK a λb a=>Yf (Xg c b) λr=>K (r,()) ()⟩
def Zab (a b:Int):Option Zq:=
Zt ((0:Int)<=a)<|
Zt (a<=a)<|
Zt (a<=4611686018427387904)<|
Zt (((8:Nat):Int)*a<=281474976710656)<|
some ([(-1:Int)],[(0:Int)],[b],List.replicate (Int.toNat a) (0:Int),())
def c15:Ctr:=⟨[.dat Iq,.dat Iq],[.own (ZoD)],λa K=>splitK a λb a=>splitK a λc a=>Yf (Zab b c) λr=>K (r,()) ()⟩
def Y3 (a:List Int):Option (List Int):=
Zt ((([]:List Int).length+a.length)*8<=140737488355328)<|
some (([]:List Int)++a)
def c16:Ctr:=⟨[.dat (.sl Iq)],[.own (.ol 2 (.flat Iq))],λa K=>splitK a λb a=>Yf (Y3 b) λr=>K (r,()) ()⟩
def ZcN (e h i:List Int) (a:Int) (g:List Int) (f d:Int) (c:List Int):Option ((Int×(List Int)×Int×Int×(List Int)×Unit)⊕((Int×(List Int)×Int×Int×(List Int)×(List Int)×(List Int)×(List Int)×Unit)⊕(Zq×Zk))):=
if a<(c.length:Int)then
(Zl (g,f,d,()) (e.length:Int)).bind λb=>
(atI c a).bind λj=>
some (.inl (Wq (a+1),b.2.1,b.2.2.1,b.2.2.2.1,List.set c (Int.toNat a) b.1,()))
else
some (.inr (.inr ((e,h,i,c,()),(g,f,d,()))))
def ZcO (e:Int) (f:List Int) (h i:Int) (b k n g:List Int):Option ((Int×(List Int)×Int×Int×(List Int)×(List Int)×(List Int)×(List Int)×Unit)⊕(Zq×Zk)):=
if 0<e then
(Y3 b).bind λj=>
(Zl (f,h,i,()) (b.length:Int)).bind λd=>
Zt ((j.length+[d.1].length)*8<=140737488355328)<|
(Y3 k).bind λl=>
(Zl d.2 400).bind λc=>
Zt ((l.length+[c.1].length)*8<=140737488355328)<|
(Y3 n).bind λm=>
(Zl c.2 8).bind λa=>
Zt ((m.length+[a.1].length)*8<=140737488355328)<|
some (.inl (Wq (e-1),a.2.1,a.2.2.1,a.2.2.2.1,j++[d.1],l++[c.1],m++[a.1],g,()))
else
Zx (λv=>ZcN b k n v.1 v.2.1 v.2.2.1 v.2.2.2.1 v.2.2.2.2.1) ((0:Int),f,h,i,g,())
def QV (e:Zk) (a:Int):Option (Zq×Zk):=
(Zl e 6).bind λd=>
(Zab a d.1).bind λc=>
(Zl d.2 4).bind λb=>
Zx (λv=>ZcO v.1 v.2.1 v.2.2.1 v.2.2.2.1 v.2.2.2.2.1 v.2.2.2.2.2.1 v.2.2.2.2.2.2.1 v.2.2.2.2.2.2.2.1) (b.1,b.2.1,b.2.2.1,b.2.2.2.1,K3 c,Gx c,GD c,Gm c,())
def c17:Ctr:=⟨[.io (.flat (XE)),.dat Iq],[.own (ZoD)],λa K=>splitK a λc a=>splitK a λb a=>Yf (QV c b) λr=>K (r.1,()) (r.2,())⟩
def ZfM (c:Zr×Zk) (a:Zb×Zk) (b:List Zq) (d:Int) (f:List Int) (g h:Int):Option (((List Zq)×Int×(List Int)×Int×Int×Unit)⊕(Za×Zk)):=
if d<(a.1.2.1.length:Int)then
(Xg a.1 d).bind λi=>
(QV (f,g,h,()) (i.length:Int)).bind λe=>
Zt ((b.length+[e.1].length)*96<=140737488355328)<|
some (.inl (b++[e.1],Wq (d+1),e.2.1,e.2.2.1,e.2.2.2.1,()))
else
some (.inr ((c.1,a.1,b,()),(f,g,h,())))
def Zaa (e:Zk) (a:Int) (c:Bool):Option (Za×Zk):=
(Zil e).bind λd=>
(Zin d.2 a c).bind λb=>
Zx (λv=>ZfM d b v.1 v.2.1 v.2.2.1 v.2.2.2.1 v.2.2.2.2.1) (([]:List Zq),(0:Int),b.2.1,b.2.2.1,b.2.2.2.1,())
def c18:Ctr:=⟨[.io (.flat (XE)),.dat Iq,.dat (.bool)],[.own (ZeV)],λa K=>splitK a λd a=>splitK a λc a=>splitK a λb a=>Yf (Zaa d c b) λr=>K (r.1,()) (r.2,())⟩
def ZfL (i:Zk):Option (Za×Zk):=
(Zl i 3).bind λg=>
(Zaa g.2 6 (decide (g.1=0))).bind λa=>
(Zl a.2 (a.1.2.2.1.length:Int)).bind λd=>
(Zl d.2 20).bind λc=>
if c.1=0 then
Zt ((1:Int)<=(a.1.2.2.1.length:Int))<|
Zt ((a.1.2.2.1.length:Int)<=(a.1.2.2.1.length:Int))<|
some ((a.1.1,a.1.2.1,List.take (Int.toNat (a.1.2.2.1.length:Int)-Int.toNat 1) (List.drop (Int.toNat 1) a.1.2.2.1),()),c.2)
else
if c.1=1 then
(atI a.1.2.2.1 d.1).bind λb=>
(Y3 b.2.2.2.1).bind λh=>
Zt ((h.length+[(0:Int)].length)*8<=140737488355328)<|
some ((a.1.1,a.1.2.1,List.set a.1.2.2.1 (Int.toNat d.1) (b.1,b.2.1,b.2.2.1,h++[(0:Int)],()),()),c.2)
else
if c.1=2 then
(atI a.1.2.2.1 d.1).bind λb=>
(atI b.2.1 0).bind λf=>
some ((a.1.1,a.1.2.1,List.set a.1.2.2.1 (Int.toNat d.1) (b.1,List.set b.2.1 (Int.toNat 0) 1,b.2.2),()),c.2)
else
if c.1=3 then
(atI a.1.2.2.1 d.1).bind λb=>
(Zl c.2 3).bind λe=>
(atI ([(-1:Int),500,501]) e.1).bind λf=>
(atI b.2.2.1 0).bind λj=>
some ((a.1.1,a.1.2.1,List.set a.1.2.2.1 (Int.toNat d.1) (b.1,b.2.1,List.set b.2.2.1 (Int.toNat 0) f,b.2.2.2),()),e.2)
else
if c.1=4 then
(atI a.1.2.2.1 d.1).bind λb=>
(Zl c.2 5).bind λe=>
(atI b.1 (Wq ((b.1.length:Int)-1))).bind λf=>
some ((a.1.1,a.1.2.1,List.set a.1.2.2.1 (Int.toNat d.1) (List.set b.1 (Int.toNat (Wq ((b.1.length:Int)-1))) (Wq (e.1-1)),b.2),()),e.2)
else
if c.1=5 then
(atI a.1.2.1.2.2.1 0).bind λb=>
some ((a.1.1,(a.1.2.1.1,a.1.2.1.2.1,List.set a.1.2.1.2.2.1 (Int.toNat 0) (GQ b,3,b.2.2),()),a.1.2.2),c.2)
else
some (a.1,c.2)
def c19:Ctr:=⟨[.io (.flat (XE))],[.own (ZeV)],λa K=>splitK a λb a=>Yf (ZfL b) λr=>K (r.1,()) (r.2,())⟩
def ZdN (d:Zk):Option (Za×Zk):=
(Zl d 12).bind λb=>
if b.1=0 then
(ZfL b.2).bind λc=>
some (c.1,c.2)
else
if b.1=1 then
if b.1=1 then
(Zaa b.2 6 true).bind λa=>
some (a.1,a.2)
else
(Zaa b.2 6 false).bind λa=>
some (a.1,a.2)
else
if b.1=2 then
(Zaa b.2 6 true).bind λa=>
some (a.1,a.2)
else
(Zaa b.2 6 false).bind λa=>
some (a.1,a.2)
def c20:Ctr:=⟨[.io (.flat (XE))],[.own (ZeV)],λa K=>splitK a λb a=>Yf (ZdN b) λr=>K (r.1,()) (r.2,())⟩
def JH (i:Zk):Option (Zz×Zk):=
(Zl i 3).bind λh=>
(atI ([[(115:UInt8),108,111,119],[(102:UInt8),97,115,116],[(116:UInt8),121,112]]) h.1).bind λg=>
(Zl h.2 20).bind λa=>
(Zl a.2 20).bind λc=>
(Zl c.2 60).bind λd=>
(Zl d.2 40).bind λf=>
(Zl f.2 30).bind λb=>
if b.1=0 then
some ((g,Wq (800+Wq (10*a.1)),Wq (Wq (800+Wq (10*a.1))-1),Wq (900+Wq (10*c.1)),Wq (Wq (900+Wq (10*c.1))+Wq (9*f.1)),()),b.2)
else
if b.1=1 then
(Zl b.2 3).bind λe=>
(atI ([(99:Int),100,-1]) e.1).bind λj=>
some ((g,Wq (800+Wq (10*a.1)),Wq (Wq (800+Wq (10*a.1))+Wq (7*d.1)),j,Wq (Wq (900+Wq (10*c.1))+Wq (9*f.1)),()),e.2)
else
if b.1=2 then
(Zl b.2 2).bind λe=>
some ((g,Wq (800+Wq (10*a.1)),Wq (Wq (800+Wq (10*a.1))+Wq (7*d.1)),Wq (900+Wq (10*c.1)),Wq (5000+e.1),()),e.2)
else
if b.1=3 then
some (([],Wq ((800:Int)+Wq ((10:Int)*a.1)),Wq (Wq ((800:Int)+Wq ((10:Int)*a.1))+Wq ((7:Int)*d.1)),Wq ((900:Int)+Wq ((10:Int)*c.1)),Wq (Wq ((900:Int)+Wq ((10:Int)*c.1))+Wq ((9:Int)*f.1)),()),b.2)
else
some ((g,Wq (800+Wq (10*a.1)),Wq (Wq (800+Wq (10*a.1))+Wq (7*d.1)),Wq (900+Wq (10*c.1)),Wq (Wq (900+Wq (10*c.1))+Wq (9*f.1)),()),b.2)
def c21:Ctr:=⟨[.io (.flat (XE))],[.dat (XP)],λa K=>splitK a λb a=>Yf (JH b) λr=>K (r.1,()) (r.2,())⟩
def ZfG (c:List UInt8) (a:Int):Option ((Int×Unit)⊕Bool):=
if a<(c.length:Int)then
(atI c a).bind λb=>
if 97<=((UInt8.toNat b):Int)then
if 48<=((UInt8.toNat b):Int)then
if((UInt8.toNat b):Int)<=122 then
some (.inl (Wq (a+1),()))
else
if((UInt8.toNat b):Int)<=57 then
if 0<a then
some (.inl (Wq (a+1),()))
else
some (.inr false)
else
some (.inr false)
else
if((UInt8.toNat b):Int)<=122 then
some (.inl (Wq (a+1),()))
else
some (.inr false)
else
if 48<=((UInt8.toNat b):Int)then
if((UInt8.toNat b):Int)<=57 then
if 0<a then
some (.inl (Wq (a+1),()))
else
some (.inr false)
else
some (.inr false)
else
some (.inr false)
else
if 1<=(c.length:Int)then
some (.inr (decide ((c.length:Int)<=8)))
else
some (.inr false)
def Zb3 (a:List UInt8):Option Bool:=
Zx (λv=>ZfG a v.1) ((0:Int),())
def c22:Ctr:=D1 (.str) (.bool) Zb3
def ZY (c b a:Int):Option Bool:=
if b<=c then
some (decide (c<=a))
else
some false
def c23:Ctr:=D3 Iq Iq Iq (.bool) ZY
def JF (d:Zn) (c a:Int) (b:XF) (e:Int):Option ((Int×Unit)⊕((Int×Int×Unit)⊕(Int×Bool))):=
if e<a then
(atI (K5 d) e).bind λh=>
if GK h=GK b then
some (.inr (.inr (0,false)))
else
some (.inl (Wq (e+1),()))
else
(Zb3 (GK b)).bind λf=>
if f then
(ZY (GX b) 0 500).bind λg=>
if g then
if a=Wq (((K5 d).length:Int)-1)then
if G5 b=2 then
if GX b=0 then
if(Gj b)=true then
some (.inr (.inr (0,false)))
else
if a<Wq (((K5 d).length:Int)-1)then
if G5 b=1 then
if(Gj b)=true then
some (.inr (.inl (Wq (c+1),Wq (a+1),())))
else
some (.inr (.inl (c,Wq (a+1),())))
else
some (.inr (.inr (0,false)))
else
if(Gj b)=true then
some (.inr (.inl (Wq (c+1),Wq (a+1),())))
else
some (.inr (.inl (c,Wq (a+1),())))
else
some (.inr (.inr (0,false)))
else
some (.inr (.inr (0,false)))
else
if a<Wq (((K5 d).length:Int)-1)then
if G5 b=1 then
if(Gj b)=true then
some (.inr (.inl (Wq (c+1),Wq (a+1),())))
else
some (.inr (.inl (c,Wq (a+1),())))
else
some (.inr (.inr (0,false)))
else
if(Gj b)=true then
some (.inr (.inl (Wq (c+1),Wq (a+1),())))
else
some (.inr (.inl (c,Wq (a+1),())))
else
some (.inr (.inr (0,false)))
else
some (.inr (.inr (0,false)))
def Zbd (b:Zn) (c a:Int):Option ((Int×Int×Unit)⊕(Int×Bool)):=
if a<((K5 b).length:Int)then
(atI (K5 b) a).bind λd=>
Zx (λv=>JF b c a d v.1) ((0:Int),())
else
some (.inr (c,true))
def Zim (a:Zn):Option (Int×Bool):=
if((K5 a).length:Int)<2 then
some (0,false)
else
if 5<((K5 a).length:Int)then
some (0,false)
else
Zx (λv=>Zbd a v.1 v.2.1) ((0:Int),(0:Int),())
def c24:Ctr:=⟨[.dat (ZcQ)],[.dat Iq,.dat (.bool)],λa K=>splitK a λb a=>Yf (Zim b) λr=>K (r.1,r.2,()) ()⟩
def ZfC (a:List Int) (b:Int):Option ((Int×Unit)⊕Bool):=
if b<(a.length:Int)then
(atI a b).bind λc=>
(ZY c 0 100000).bind λd=>
if d then
if 0<b then
(atI a (Wq (b-1))).bind λe=>
if c<=e then
some (.inr false)
else
some (.inl (Wq (b+1),()))
else
some (.inl (Wq (b+1),()))
else
some (.inr false)
else
if 1<=(a.length:Int)then
some (.inr (decide ((a.length:Int)<=4)))
else
some (.inr false)
def ZgE (a:List Int):Option Bool:=
Zx (λv=>ZfC a v.1) ((0:Int),())
def c25:Ctr:=D1 (.sl Iq) (.bool) ZgE
def Zfz (b:ZB) (a:Int):Option ((Int×Unit)⊕Bool):=
if a<((Gr b).length:Int)then
(atI (Gr b) a).bind λd=>
(ZY d (-1000000) 1000000).bind λc=>
if c then
some (.inl (Wq (a+1),()))
else
some (.inr false)
else
some (.inr true)
def Zij (a:ZB):Option Bool:=
(ZgE (GO a)).bind λb=>
if b then
(ZgE (Gt a)).bind λc=>
if c then
if((Gr a).length:Int)=Wq (((GO a).length:Int)*((Gt a).length:Int))then
Zx (λv=>Zfz a v.1) ((0:Int),())
else
some false
else
some false
else
some false
def c26:Ctr:=D1 (Zac) (.bool) Zij
def ZaG (c:ZB) (a b d:Int):Option ((Int×Int×Int×Unit)⊕(ZA×Int)):=
if a<((Gr c).length:Int)then
(atI (Gr c) a).bind λe=>
some (.inl (Wq (a+1),Min.min b e,Max.max d e,()))
else
some (.inr ((b,d,()),0))
def Zen (a:ZB):Option (ZA×Int):=
(Zij a).bind λc=>
if c then
(atI (Gr a) 0).bind λb=>
Zx (λv=>ZaG a v.1 v.2.1 v.2.2.1) ((1:Int),b,b,())
else
some ((0,0,()),1)
def c27:Ctr:=⟨[.dat (Zac)],[.dat (ZaA),.dat Iq],λa K=>splitK a λb a=>Yf (Zen b) λr=>K (r.1,r.2,()) ()⟩
def ZdX (c:List ZB) (a:Bool) (b:Int):Option ((Int×Unit)⊕Bool):=
if b<2 then
(atI c b).bind λe=>
(Zen e).bind λd=>
if d.2=0 then
if a then
if d.1.1<0 then
some (.inr false)
else
some (.inl (Wq (b+1),()))
else
some (.inl (Wq (b+1),()))
else
some (.inr false)
else
some (.inr true)
def Y9 (b:List ZB) (a:Bool):Option Bool:=
if(b.length:Int)=2 then
Zx (λv=>ZdX b a v.1) ((0:Int),())
else
some false
def c28:Ctr:=D2 (.sl (Zac)) (.bool) (.bool) Y9
def Zjy (b:Zn) (a:ZH):Option Bool:=
(ZY (Gk a) 0 (Wq (Wq (((K5 b).length:Int)-1)-1))).bind λg=>
if g then
(ZY (Gp a) 0 (Wq (((K5 b).length:Int)-1))).bind λi=>
if i then
(atI (K5 b) (Gk a)).bind λd=>
if Gb a=1 then
if(Gj d)=true then
some false
else
if Gp a=Wq (((K5 b).length:Int)-1)then
(ZY (GE a) 1 3).bind λh=>
if h then
(Y9 (GF a) true).bind λc=>
if c then
(Y9 (GM a) true).bind λf=>
some f
else
some false
else
some false
else
some false
else
if Gb a=2 then
if Gb a=2 then
if(Gj d)=true then
if Gp a=Wq (((K5 b).length:Int)-1)then
if GE a=0 then
(Y9 (GF a) true).bind λc=>
if c then
(Y9 (GM a) true).bind λf=>
some f
else
some false
else
some false
else
some false
else
some false
else
if Gb a=4 then
if Gb a=4 then
if(Gj d)=true then
if Gp a<Wq (((K5 b).length:Int)-1)then
(atI (K5 b) (Gp a)).bind λe=>
if(Gj e)=true then
some false
else
if GE a=0 then
(Y9 (GF a) false).bind λc=>
if c then
some (decide (((GM a).length:Int)=0))
else
some false
else
some false
else
some false
else
some false
else
some false
else
if Gb a=5 then
if(Gj d)=true then
if Gp a<Wq (((K5 b).length:Int)-1)then
(atI (K5 b) (Gp a)).bind λe=>
if(Gj e)=true then
some false
else
if GE a=0 then
(Y9 (GF a) false).bind λc=>
if c then
some (decide (((GM a).length:Int)=0))
else
some false
else
some false
else
some false
else
some false
else
some false
else
if Gb a=3 then
if(Gj d)=true then
if Gp a=Wq (((K5 b).length:Int)-1)then
if GE a=0 then
(Y9 (GF a) true).bind λc=>
if c then
(Y9 (GM a) true).bind λf=>
some f
else
some false
else
some false
else
some false
else
some false
else
if Gb a=4 then
if Gb a=4 then
if(Gj d)=true then
if Gp a<Wq (((K5 b).length:Int)-1)then
(atI (K5 b) (Gp a)).bind λe=>
if(Gj e)=true then
some false
else
if GE a=0 then
(Y9 (GF a) false).bind λc=>
if c then
some (decide (((GM a).length:Int)=0))
else
some false
else
some false
else
some false
else
some false
else
some false
else
if Gb a=5 then
if(Gj d)=true then
if Gp a<Wq (((K5 b).length:Int)-1)then
(atI (K5 b) (Gp a)).bind λe=>
if(Gj e)=true then
some false
else
if GE a=0 then
(Y9 (GF a) false).bind λc=>
if c then
some (decide (((GM a).length:Int)=0))
else
some false
else
some false
else
some false
else
some false
else
some false
else
some false
else
some false
def c29:Ctr:=D2 (ZcQ) (Zn7) (.bool) Zjy
def Zcl (c:Zn) (a:Int) (b:List Int):Option ((Int×(List Int)×Unit)⊕List Int):=
if a<((Gh c).length:Int)then
(atI (Gh c) a).bind λd=>
(atI b (Gb d)).bind λe=>
some (.inl (Wq (a+1),List.set b (Int.toNat (Gb d)) (Wq (e+1)),()))
else
some (.inr b)
def Zhh (a:Zn):Option (List Int):=
Zx (λv=>Zcl a v.1 v.2.1) ((0:Int),List.replicate (Int.toNat (6:Int)) (0:Int),())
def c30:Ctr:=⟨[.dat (ZcQ)],[.own (.ol 2 (.flat Iq))],λa K=>splitK a λb a=>Yf (Zhh b) λr=>K (r,()) ()⟩
def ZdE (e:Zn) (d:Int) (b:ZH) (a:Int):Option ((Int×Unit)⊕((Int×Unit)⊕Bool)):=
if a<d then
(atI (Gh e) a).bind λc=>
if Gb c=Gb b then
if Gk c=Gk b then
if Gp c=Gp b then
some (.inr (.inr false))
else
some (.inl (Wq (a+1),()))
else
some (.inl (Wq (a+1),()))
else
some (.inl (Wq (a+1),()))
else
some (.inr (.inl (Wq (d+1),())))
def ZdF (b:Zn) (a:Int×Bool) (c:Int):Option ((Int×Unit)⊕((Int×Unit)⊕Bool)):=
if c<((Gy b).length:Int)then
(atI (Gy b) c).bind λe=>
(ZY e 0 1).bind λd=>
if d then
some (.inl (Wq (c+1),()))
else
some (.inr (.inr false))
else
if a.1=0 then
Zt ((0:Int)<=IntKind.wrap IntKind.u64 (Wq (((K5 b).length:Int)-1)))<|
some (.inr (.inr (decide (((Gy b).length:Int)=Wq (1*2^Min.min (Int.toNat (IntKind.wrap IntKind.u64 (Wq (((K5 b).length:Int)-1)))) (IntKind.bits IntKind.i64))))))
else
some (.inr (.inr false))
def Zgc (b:Zn) (a:Int×Bool) (g:Int):Option ((Int×Unit)⊕Bool):=
if g<((Gh b).length:Int)then
(atI (Gh b) g).bind λc=>
(Zjy b c).bind λh=>
if h then
Zx (λv=>ZdE b g c v.1) ((0:Int),())
else
some (.inr false)
else
(Zhh b).bind λd=>
if GG b=1 then
Zx (λv=>ZdF b a v.1) ((0:Int),())
else
if GG b=2 then
if a.1=1 then
(atI d 1).bind λc=>
if c=0 then
(atI d 2).bind λe=>
(atI d 3).bind λf=>
if(decide (0<e)==decide (0<f))=true then
some (.inr false)
else
some (.inr (decide (((Gy b).length:Int)=0)))
else
some (.inr false)
else
some (.inr false)
else
if GG b=3 then
if a.1=1 then
(atI d 1).bind λc=>
if 0<c then
(atI d 2).bind λe=>
if 0<e then
(atI d 3).bind λf=>
if f=0 then
some (.inr (decide (((Gy b).length:Int)=0)))
else
some (.inr false)
else
some (.inr false)
else
some (.inr false)
else
some (.inr false)
else
some (.inr false)
def Zjw (a:Zn):Option Bool:=
(Zim a).bind λb=>
if b.2 then
(Zb3 (GR a)).bind λe=>
if e then
if 8<((Gh a).length:Int)then
some false
else
(ZY (G6 a) 0 100000).bind λd=>
if d then
(ZY (G7 a) 0 100000).bind λc=>
if c then
Zx (λv=>Zgc a b v.1) ((0:Int),())
else
some false
else
some false
else
some false
else
some false
def c31:Ctr:=D1 (ZcQ) (.bool) Zjw
def ZdV (e:Zr) (b:Int) (c:Zn) (a:Int):Option ((Int×Unit)⊕((Int×Unit)⊕Bool)):=
if a<b then
(atI (K9 e) a).bind λd=>
if GR d=GR c then
some (.inr (.inr false))
else
some (.inl (Wq (a+1),()))
else
some (.inr (.inl (Wq (b+1),())))
def ZdW (a:Zr) (b:Int):Option ((Int×Unit)⊕Bool):=
if b<((K9 a).length:Int)then
(atI (K9 a) b).bind λc=>
(Zjw c).bind λd=>
if d then
Zx (λv=>ZdV a b c v.1) ((0:Int),())
else
some (.inr false)
else
some (.inr (decide (((K9 a).length:Int)<=8)))
def Zgv (a:Zr):Option Bool:=
Zx (λv=>ZdW a v.1) ((0:Int),())
def c32:Ctr:=D1 (QW) (.bool) Zgv
def ZeF (d:Zb) (f:Int) (b:Ze) (a:Int):Option ((Int×Unit)⊕((Int×Unit)⊕Bool)):=
if a<((K7 b).length:Int)then
(atI (K7 b) a).bind λe=>
(ZY e 0 (Wq (((K1 d).length:Int)-1))).bind λc=>
if c then
some (.inl (Wq (a+1),()))
else
some (.inr (.inr false))
else
some (.inr (.inl (Wq (f+1),())))
def ZeG (b:Zb) (a:Int):Option ((Int×Unit)⊕((Int×Unit)⊕Bool)):=
if a<((Ga b).length:Int)then
(atI (Ga b) a).bind λc=>
(ZY (GC c) 1 2).bind λd=>
if d then
(ZY (GH c) 0 (Wq (((K1 b).length:Int)-1))).bind λe=>
if e then
some (.inl (Wq (a+1),()))
else
some (.inr (.inr false))
else
some (.inr (.inr false))
else
some (.inr (.inr true))
def ZeH (d:Zr) (b:Zb) (c:Int):Option ((Int×Unit)⊕Bool):=
if c<((KY b).length:Int)then
(atI (KY b) c).bind λa=>
(ZY (Gq a) 0 (Wq (((K9 d).length:Int)-1))).bind λe=>
if e then
(atI (K9 d) (Gq a)).bind λf=>
if((K7 a).length:Int)=((K5 f).length:Int)then
Zx (λv=>ZeF b c a v.1) ((0:Int),())
else
some (.inr false)
else
some (.inr false)
else
Zx (λv=>ZeG b v.1) ((0:Int),())
def Zhi (b:Zr) (a:Zb):Option Bool:=
Zx (λv=>ZeH b a v.1) ((0:Int),())
def c33:Ctr:=D2 (QW) (Y8) (.bool) Zhi
def ZeD (a:List (List UInt8)) (c:Int) (d:List UInt8) (b:Int):Option ((Int×Unit)⊕((Int×Unit)⊕Bool)):=
if b<c then
(atI a b).bind λe=>
if e=d then
some (.inr (.inr false))
else
some (.inl (Wq (b+1),()))
else
some (.inr (.inl (Wq (c+1),())))
def ZeE (a:List (List UInt8)) (b:Int):Option ((Int×Unit)⊕Bool):=
if b<(a.length:Int)then
(atI a b).bind λc=>
(Zb3 c).bind λd=>
if d then
Zx (λv=>ZeD a b c v.1) ((0:Int),())
else
some (.inr false)
else
some (.inr true)
def ZdH (a:List (List UInt8)):Option Bool:=
Zx (λv=>ZeE a v.1) ((0:Int),())
def c34:Ctr:=D1 (.sl (.str)) (.bool) ZdH
def Zey (b:List Int) (a:Int):Option ((Int×Unit)⊕((Int×(List Int)×Unit)⊕((Int×(List Int)×Unit)⊕(((List (List UInt8))×Int×Unit)⊕(((List (List UInt8))×Int×Unit)⊕Bool))))):=
if a<(b.length:Int)then
(atI b a).bind λc=>
if c=1 then
some (.inl (Wq (a+1),()))
else
some (.inr (.inr (.inr (.inr (.inr false)))))
else
some (.inr (.inr (.inr (.inr (.inr true)))))
def Zaw (d:Zb) (a:Int) (b:List Int):Option ((Int×(List Int)×Unit)⊕((Int×(List Int)×Unit)⊕(((List (List UInt8))×Int×Unit)⊕(((List (List UInt8))×Int×Unit)⊕Bool)))):=
if a<((Ga d).length:Int)then
(atI (Ga d) a).bind λc=>
if GC c=1 then
(atI b (GH c)).bind λe=>
some (.inl (Wq (a+1),List.set b (Int.toNat (GH c)) (Wq (e+1)),()))
else
some (.inl (Wq (a+1),b,()))
else
Zx (λv=>Zey b v.1) ((0:Int),())
def Zax (a:Zb) (b:Int) (c:List Int):Option ((Int×(List Int)×Unit)⊕(((List (List UInt8))×Int×Unit)⊕(((List (List UInt8))×Int×Unit)⊕Bool))):=
if b<((KY a).length:Int)then
(atI (KY a) b).bind λd=>
(atI (K7 d) (Wq (((K7 d).length:Int)-1))).bind λe=>
(atI c e).bind λf=>
some (.inl (Wq (b+1),List.set c (Int.toNat e) (Wq (f+1)),()))
else
Zx (λv=>Zaw a v.1 v.2.1) ((0:Int),c,())
def Zez (a:Zb) (h c:List (List UInt8)) (b:Int):Option (((List (List UInt8))×Int×Unit)⊕(((List (List UInt8))×Int×Unit)⊕Bool)):=
if b<((Ga a).length:Int)then
(atI (Ga a) b).bind λd=>
Zt ((c.length+[GQ d].length)*16<=140737488355328)<|
some (.inl (c++[GQ d],Wq (b+1),()))
else
(ZdH h).bind λe=>
if e then
(ZdH c).bind λg=>
if g then
(ZdH (K1 a)).bind λf=>
if f then
Zt ((0:Int)<=((K1 a).length:Int))<|
Zt (((K1 a).length:Int)<=((K1 a).length:Int))<|
Zt (((K1 a).length:Int)<=4611686018427387904)<|
Zt (((8:Nat):Int)*((K1 a).length:Int)<=281474976710656)<|
Zx (λv=>Zax a v.1 v.2.1) ((0:Int),List.replicate (Int.toNat ((K1 a).length:Int)) (0:Int),())
else
some (.inr (.inr false))
else
some (.inr (.inr false))
else
some (.inr (.inr false))
def ZeA (b:Zb) (c:List (List UInt8)) (a:Int):Option (((List (List UInt8))×Int×Unit)⊕Bool):=
if a<((KY b).length:Int)then
(atI (KY b) a).bind λd=>
Zt ((c.length+[Gv d].length)*16<=140737488355328)<|
some (.inl (c++[Gv d],Wq (a+1),()))
else
Zx (λv=>Zez b c v.1 v.2.1) (([]:List (List UInt8)),(0:Int),())
def Zhf (b:Zr) (a:Zb):Option Bool:=
(Zgv b).bind λc=>
if c then
if 14<((KY a).length:Int)then
some false
else
if 30<((K1 a).length:Int)then
some false
else
if 8<((Ga a).length:Int)then
some false
else
(Zhi b a).bind λd=>
if d then
Zx (λv=>ZeA a v.1 v.2.1) (([]:List (List UInt8)),(0:Int),())
else
some false
else
some false
def c35:Ctr:=D2 (QW) (Y8) (.bool) Zhf
def Zgd (b:Zq) (a:Int):Option ((Int×Unit)⊕((Int×Unit)⊕Bool)):=
if a<((Gm b).length:Int)then
(atI (Gm b) a).bind λd=>
(ZY d 0 (Wq (((K3 b).length:Int)-1))).bind λc=>
if c then
some (.inl (Wq (a+1),()))
else
some (.inr (.inr false))
else
some (.inr (.inr true))
def Zge (b:Zq) (a:Int):Option ((Int×Unit)⊕Bool):=
if a<((K3 b).length:Int)then
(atI (GD b) a).bind λg=>
(ZY g 0 500).bind λf=>
if f then
(atI (Gx b) a).bind λe=>
(ZY e 0 1000).bind λh=>
if h then
if a=0 then
(atI (K3 b) a).bind λc=>
if c=(-1)then
if e=0 then
if 0<a then
(ZY c 0 (Wq (a-1))).bind λd=>
if d then
some (.inl (Wq (a+1),()))
else
some (.inr false)
else
some (.inl (Wq (a+1),()))
else
some (.inr false)
else
some (.inr false)
else
if 0<a then
(atI (K3 b) a).bind λc=>
(ZY c 0 (Wq (a-1))).bind λd=>
if d then
some (.inl (Wq (a+1),()))
else
some (.inr false)
else
some (.inl (Wq (a+1),()))
else
some (.inr false)
else
some (.inr false)
else
Zx (λv=>Zgd b v.1) ((0:Int),())
def ZhM (a:Zq) (b:Int):Option Bool:=
if((K3 a).length:Int)<1 then
some false
else
if 8<((K3 a).length:Int)then
some false
else
if((Gx a).length:Int)=((K3 a).length:Int)then
if((GD a).length:Int)=((K3 a).length:Int)then
if((Gm a).length:Int)=b then
Zx (λv=>Zge a v.1) ((0:Int),())
else
some false
else
some false
else
some false
def c36:Ctr:=D2 (ZcR) Iq (.bool) ZhM
def Zfy (b:Za) (a:Int):Option ((Int×Unit)⊕Bool):=
if a<((KZ b).length:Int)then
(atI (KZ b) a).bind λd=>
(Xg (KX b) a).bind λc=>
(ZhM d (c.length:Int)).bind λe=>
if e then
some (.inl (Wq (a+1),()))
else
some (.inr false)
else
some (.inr true)
def QI (a:Za):Option Bool:=
(Zhf (K4 a) (KX a)).bind λb=>
if b then
if((KZ a).length:Int)=((K1 (KX a)).length:Int)then
Zx (λv=>Zfy a v.1) ((0:Int),())
else
some false
else
some false
def c37:Ctr:=D1 (Yg) (.bool) QI
def Zbe (b d:Int) (a:List ZC) (c:Int):Option ((Int×Unit)⊕Int):=
if c<(a.length:Int)then
(atI a c).bind λe=>
if GI e=b then
if ZC.pin e=d then
some (.inr c)
else
some (.inl (Wq (c+1),()))
else
some (.inl (Wq (c+1),()))
else
some (.inr (-1))
def Jr (d:Zb) (a b:Int):Option Int:=
(YK d).bind λc=>
Zx (λv=>Zbe a b c v.1) ((0:Int),())
def c38:Ctr:=D3 (Y8) Iq Iq Iq Jr
def Zbi (d:List Zp) (b e f g c a:Int):Option (List Zp):=
Zt ((d.length+[(Wq (Wq ((2:Int)*b)+f),Wq (Wq ((2:Int)*e)+g),c,a,())].length)*32<=140737488355328)<|
some (d++[(Wq (Wq ((2:Int)*b)+f),Wq (Wq ((2:Int)*e)+g),c,a,())])
def c39:Ctr:=⟨[.own (.ol 209 (.flat (ZbZ))),.dat Iq,.dat Iq,.dat Iq,.dat Iq,.dat Iq,.dat Iq],[.own (.ol 209 (.flat (ZbZ)))],λa K=>splitK a λe a=>splitK a λc a=>splitK a λf a=>splitK a λg a=>splitK a λh a=>splitK a λd a=>splitK a λb a=>Yf (Zbi e c f g h d b) λr=>K (r,()) ()⟩
def ZbV (e:ZH) (d h b f:Int) (a:List Zp) (c:Int):Option (((List Zp)×Int×Unit)⊕(((List Zp)×Int×Unit)⊕List Zp)):=
if c<=1 then
if Gb e=1 then
if GE e=3 then
(Zbi a d h f c 1 b).bind λg=>
some (.inl (g,Wq (c+1),()))
else
if(decide (GE e=1)==decide (f=c))=true then
(Zbi a d h f c 1 b).bind λg=>
some (.inl (g,Wq (c+1),()))
else
some (.inl (a,Wq (c+1),()))
else
if Gb e=2 then
if f=0 then
(Zbi a d h f c 1 b).bind λg=>
some (.inl (g,Wq (c+1),()))
else
some (.inl (a,Wq (c+1),()))
else
if Gb e=3 then
if f=1 then
(Zbi a d h f c 1 b).bind λg=>
some (.inl (g,Wq (c+1),()))
else
some (.inl (a,Wq (c+1),()))
else
some (.inl (a,Wq (c+1),()))
else
some (.inr (.inl (a,Wq (f+1),())))
def Zal (d:ZH) (c f b:Int) (a:List Zp) (e:Int):Option (((List Zp)×Int×Unit)⊕List Zp):=
if e<=1 then
Zx (λv=>ZbV d c f b e v.1 v.2.1) (a,(0:Int),())
else
some (.inr a)
def ZjC (c:List Zp) (d:ZH) (b e a:Int):Option (List Zp):=
Zx (λv=>Zal d b e a v.1 v.2.1) (c,(0:Int),())
def c40:Ctr:=⟨[.own (.ol 209 (.flat (ZbZ))),.dat (Zn7),.dat Iq,.dat Iq,.dat Iq],[.own (.ol 209 (.flat (ZbZ)))],λa K=>splitK a λd a=>splitK a λe a=>splitK a λc a=>splitK a λf a=>splitK a λb a=>Yf (ZjC d e c f b) λr=>K (r,()) ()⟩
def ZdY (c:Int) (a:List ZC) (b:Int):Option ((Int×Unit)⊕Int):=
if b<(a.length:Int)then
(atI a b).bind λd=>
if ZC.net d=c then
if(GT d)=true then
some (.inr b)
else
some (.inl (Wq (b+1),()))
else
some (.inl (Wq (b+1),()))
else
some (.inr (-1))
def Zeb (c:Zb) (a:Int):Option Int:=
(YK c).bind λb=>
Zx (λv=>ZdY a b v.1) ((0:Int),())
def c41:Ctr:=D2 (Y8) Iq Iq Zeb
def Zco (e:Za) (c:Int) (f:Zn) (d:List Zp) (a:Int):Option (((List Zp)×Int×Unit)⊕(((List Zp)×Int×Unit)⊕List Zp)):=
if a<((Gh f).length:Int)then
(atI (Gh f) a).bind λb=>
if Gb b<=3 then
(Jr (KX e) c (Gk b)).bind λg=>
(Jr (KX e) c (Gp b)).bind λi=>
(ZjC d b g i a).bind λh=>
some (.inl (h,Wq (a+1),()))
else
some (.inl (d,Wq (a+1),()))
else
some (.inr (.inl (d,Wq (c+1),())))
def ZeL (h a:Int) (b:List Int) (e:List Zp) (c:Int):Option (((List Zp)×Int×Unit)⊕(((List Zp)×Int×Unit)⊕(((List Zp)×Int×Unit)⊕List Zp))):=
if c<(b.length:Int)then
(atI b c).bind λd=>
(Zbi e a d 0 0 2 c).bind λf=>
(Zbi f a d 1 1 2 c).bind λg=>
some (.inl (g,Wq (c+1),()))
else
some (.inr (.inl (e,Wq (h+1),())))
def ZeM (b:Za) (c:List Zp) (a:Int):Option (((List Zp)×Int×Unit)⊕(((List Zp)×Int×Unit)⊕List Zp)):=
if a<((K1 (KX b)).length:Int)then
(Zeb (KX b) a).bind λd=>
(Xg (KX b) a).bind λe=>
Zx (λv=>ZeL a d e v.1 v.2.1) (c,(0:Int),())
else
some (.inr (.inr c))
def ZeN (a:Za) (c:List Zp) (b:Int):Option (((List Zp)×Int×Unit)⊕List Zp):=
if b<((KY (KX a)).length:Int)then
(atI (KY (KX a)) b).bind λd=>
(atI (K9 (K4 a)) (Gq d)).bind λe=>
Zx (λv=>Zco a b e v.1 v.2.1) (c,(0:Int),())
else
Zx (λv=>ZeM a v.1 v.2.1) (c,(0:Int),())
def Zbh (a:Za):Option (List Zp):=
Zx (λv=>ZeN a v.1 v.2.1) (([]:List (Int×Int×Int×Int×Unit)),(0:Int),())
def c42:Ctr:=⟨[.dat (Yg)],[.own (.ol 209 (.flat (ZbZ)))],λa K=>splitK a λb a=>Yf (Zbh b) λr=>K (r,()) ()⟩
def ZbW (a:List Zp) (d:Int×Zk) (b:List Int) (e:Int) (g:List Int) (h i:Int):Option (((List Int)×Int×(List Int)×Int×Int×Unit)⊕((List Int)×Zk)):=
if e<(a.length:Int)then
Zt ((b.length+[e].length)*8<=140737488355328)<|
(Zl (g,h,i,()) (Wq (1+d.1))).bind λc=>
some (.inl (b++[e],Wq (e+Wq ((1:Int)+c.1)),c.2.1,c.2.2.1,c.2.2.2.1,()))
else
(Zl (g,h,i,()) 12).bind λc=>
if c.1=0 then
(Zl c.2 2).bind λf=>
Zt ((b.length+[Wq ((a.length:Int)*f.1)].length)*8<=140737488355328)<|
some (.inr (b++[Wq ((a.length:Int)*f.1)],f.2))
else
some (.inr (b,c.2))
def JG (d:Zk) (e:Za):Option ((List Int)×Zk):=
(QI e).bind λf=>
if f then
(Zl d 3).bind λc=>
if 0<c.1 then
some ([],c.2)
else
(Zbh e).bind λg=>
(Zl c.2 8).bind λb=>
(Zl b.2 (Wq (1+b.1))).bind λa=>
Zx (λv=>ZbW g b v.1 v.2.1 v.2.2.1 v.2.2.2.1 v.2.2.2.2.1) (([]:List Int),a.1,a.2.1,a.2.2.1,a.2.2.2.1,())
else
some ([],d)
def c43:Ctr:=⟨[.io (.flat (XE)),.dat (Yg)],[.own (.ol 2 (.flat Iq))],λa K=>splitK a λb a=>splitK a λc a=>Yf (JG b c) λr=>K (r.1,()) (r.2,())⟩
def Zgh (a:List Int) (d b:Int):Option ((Int×Unit)⊕Bool):=
if b<(a.length:Int)then
(atI a b).bind λc=>
if c=d then
some (.inr true)
else
some (.inl (Wq (b+1),()))
else
some (.inr false)
def Zgg (a:List Int) (b:Int):Option Bool:=
Zx (λv=>Zgh a b v.1) ((0:Int),())
def c44:Ctr:=D2 (.sl Iq) Iq (.bool) Zgg
def ZfO (c:List Zp) (b:List Int) (a:List Bool) (d:Int):Option (((List Bool)×Int×Unit)⊕List Bool):=
if d<(c.length:Int)then
(Zgg b d).bind λe=>
Zt ((a.length+[!e].length)*1<=140737488355328)<|
some (.inl (a++[!e],Wq (d+1),()))
else
some (.inr a)
def Ze3 (b:List Zp) (a:List Int):Option (List Bool):=
Zx (λv=>ZfO b a v.1 v.2.1) (([]:List Bool),(0:Int),())
def c45:Ctr:=⟨[.dat (.sl (ZbZ)),.dat (.sl Iq)],[.own (.ol 4 (.flat (.bool)))],λa K=>splitK a λc a=>splitK a λb a=>Yf (Ze3 c b) λr=>K (r,()) ()⟩
def Vy (b:Za):Option Int:=
(YK (KX b)).bind λa=>
some (Wq (2*(a.length:Int)))
def c46:Ctr:=D1 (Yg) Iq Vy
def Qg (d:List Zp) (f:List Bool) (e a:Bool) (c:Int) (b:List Bool):Option ((Bool×Int×(List Bool)×Unit)⊕((Bool×(List Bool)×Unit)⊕List Bool)):=
if c<(d.length:Int)then
(atI d c).bind λg=>
if e then
(atI f c).bind λi=>
if i then
(atI b (Gd g)).bind λj=>
if j then
(atI b (Gf g)).bind λh=>
if h then
some (.inl (a,Wq (c+1),b,()))
else
some (.inl (true,Wq (c+1),List.set b (Int.toNat (Gf g)) true,()))
else
some (.inl (a,Wq (c+1),b,()))
else
some (.inl (a,Wq (c+1),b,()))
else
(atI f c).bind λi=>
if i then
(atI b (Gf g)).bind λj=>
if j then
(atI b (Gd g)).bind λh=>
if h then
some (.inl (a,Wq (c+1),b,()))
else
some (.inl (true,Wq (c+1),List.set b (Int.toNat (Gd g)) true,()))
else
some (.inl (a,Wq (c+1),b,()))
else
some (.inl (a,Wq (c+1),b,()))
else
some (.inr (.inl (a,b,())))
def Jd (c:List Zp) (d:List Bool) (a b:Bool) (e:List Bool):Option ((Bool×(List Bool)×Unit)⊕List Bool):=
if b then
Zx (λv=>Qg c d a v.1 v.2.1 v.2.2.1) (false,(0:Int),e,())
else
some (.inr e)
def Zbj (a:Int) (d:List Zp) (e:List Bool) (c:Int) (b:Bool):Option (List Bool):=
Zt ((0:Int)<=a)<|
Zt (a<=a)<|
Zt (a<=4611686018427387904)<|
Zt (((1:Nat):Int)*a<=281474976710656)<|
(atI (List.replicate (Int.toNat a) false) c).bind λf=>
Zx (λv=>Jd d e b v.1 v.2.1) (true,List.set (List.replicate (Int.toNat a) false) (Int.toNat c) true,())
def c47:Ctr:=⟨[.dat Iq,.dat (.sl (ZbZ)),.dat (.sl (.bool)),.dat Iq,.dat (.bool)],[.own (.ol 4 (.flat (.bool)))],λa K=>splitK a λf a=>splitK a λc a=>splitK a λd a=>splitK a λe a=>splitK a λb a=>Yf (Zbj f c d e b) λr=>K (r,()) ()⟩
def ZfP (a:List Zp) (c:List Bool) (e b:Int):Option ((Int×Unit)⊕Bool):=
if b<(a.length:Int)then
(atI c b).bind λf=>
if f then
(atI a b).bind λd=>
if Gd d=e then
if Gf d=e then
some (.inr true)
else
some (.inl (Wq (b+1),()))
else
some (.inl (Wq (b+1),()))
else
some (.inl (Wq (b+1),()))
else
some (.inr false)
def Ziq (a:List Zp) (b:List Bool) (c:Int):Option Bool:=
Zx (λv=>ZfP a b c v.1) ((0:Int),())
def c48:Ctr:=D3 (.sl (ZbZ)) (.sl (.bool)) Iq (.bool) Ziq
def ZeR (h:Int) (k:List Zp) (j:List Bool) (f:List (List Int)) (g:Int) (d c:List Bool) (b:List Int) (a:Int) (e:List Bool):Option (((List Int)×Int×(List Bool)×Unit)⊕(((List (List Int))×Int×(List Bool)×Unit)⊕List (List Int))):=
if a<h then
(atI d a).bind λl=>
if l then
(atI c a).bind λm=>
if m then
Zt ((b.length+[a].length)*8<=140737488355328)<|
(atI e a).bind λn=>
some (.inl (b++[a],Wq (a+1),List.set e (Int.toNat a) true,()))
else
some (.inl (b,Wq (a+1),e,()))
else
some (.inl (b,Wq (a+1),e,()))
else
if 1<(b.length:Int)then
Zt ((f.length+[b].length)*24<=140737488355328)<|
some (.inr (.inl (f++[b],Wq (g+1),e,())))
else
(Ziq k j g).bind λi=>
if i then
Zt ((f.length+[b].length)*24<=140737488355328)<|
some (.inr (.inl (f++[b],Wq (g+1),e,())))
else
some (.inr (.inl (f,Wq (g+1),e,())))
def ZeS (b:Int) (d:List Zp) (c:List Bool) (f:List (List Int)) (a:Int) (e:List Bool):Option (((List (List Int))×Int×(List Bool)×Unit)⊕List (List Int)):=
if a<b then
(atI e a).bind λh=>
if h then
some (.inl (f,Wq (a+1),e,()))
else
(Zbj b d c a true).bind λg=>
(Zbj b d c a false).bind λi=>
Zx (λv=>ZeR b d c f a g i v.1 v.2.1 v.2.2.1) (([]:List Int),(0:Int),e,())
else
some (.inr f)
def Zhm (a:Int) (c:List Zp) (b:List Bool):Option (List (List Int)):=
Zt ((0:Int)<=a)<|
Zt (a<=a)<|
Zt (a<=4611686018427387904)<|
Zt (((1:Nat):Int)*a<=281474976710656)<|
Zx (λv=>ZeS a c b v.1 v.2.1 v.2.2.1) (([]:List (List Int)),(0:Int),List.replicate (Int.toNat a) false,())
def c49:Ctr:=⟨[.dat Iq,.dat (.sl (ZbZ)),.dat (.sl (.bool))],[.own (.ol 38 (.ol 2 (.flat Iq)))],λa K=>splitK a λb a=>splitK a λd a=>splitK a λc a=>Yf (Zhm b d c) λr=>K (r,()) ()⟩
def ZeO (c:List Bool) (b:List Int) (a:Int):Option (((List Int)×Int×Unit)⊕(((List Bool)×Unit)⊕List Int)):=
if a<(c.length:Int)then
(atI c a).bind λd=>
if d then
some (.inl (b,Wq (a+1),()))
else
Zt ((b.length+[a].length)*8<=140737488355328)<|
some (.inl (b++[a],Wq (a+1),()))
else
some (.inr (.inr b))
def ZeP (a:List Zp) (g:List Bool) (d b:Int) (c:List (List Int)):Option ((Int×Int×(List (List Int))×Unit)⊕(((List Bool)×Unit)⊕List Int)):=
if b<(a.length:Int)then
(atI g b).bind λh=>
if h then
(atI a b).bind λf=>
if GL f=1 then
(atI c 0).bind λe=>
(Zgg e (Gd f)).bind λi=>
if i then
(Zgg e (Gf f)).bind λj=>
if j then
some (.inl (b,Wq (b+1),List.set c (Int.toNat 0) e,()))
else
some (.inl (d,Wq (b+1),List.set c (Int.toNat 0) e,()))
else
some (.inl (d,Wq (b+1),List.set c (Int.toNat 0) e,()))
else
some (.inl (d,Wq (b+1),c,()))
else
some (.inl (d,Wq (b+1),c,()))
else
(atI g d).bind λh=>
some (.inr (.inl (List.set g (Int.toNat d) false,())))
def ZeQ (a:List Zp) (b:Int) (c:List Bool):Option (((List Bool)×Unit)⊕List Int):=
(Zhm b a c).bind λd=>
if(d.length:Int)=0 then
Zx (λv=>ZeO c v.1 v.2.1) (([]:List Int),(0:Int),())
else
Zx (λv=>ZeP a c v.1 v.2.1 v.2.2.1) ((-1:Int),(0:Int),d,())
def ZdO (b:Za):Option (List Int):=
(Zbh b).bind λa=>
(Ze3 a (([]:List Int))).bind λd=>
(Vy b).bind λc=>
Zx (λv=>ZeQ a c v.1) (d,())
def c50:Ctr:=⟨[.dat (Yg)],[.own (.ol 2 (.flat Iq))],λa K=>splitK a λb a=>Yf (ZdO b) λr=>K (r,()) ()⟩
def Zbr (h:Int) (m:ZC) (f:List Zj) (e:Int) (j:List Int) (k l:Int):Option (((List Zj)×Int×(List Int)×Int×Int×Unit)⊕(((List Zj)×Int×(List Int)×Int×Int×Unit)⊕((List Zj)×Zk))):=
if e<2 then
if(GT m)=true then
(Zl (j,k,l,()) 8).bind λg=>
if 0<g.1 then
(Zl g.2 200).bind λb=>
(Zl b.2 30).bind λa=>
(Zl a.2 40).bind λd=>
(Zl d.2 12).bind λc=>
Zt ((f.length+[(Wq (Wq ((2:Int)*h)+e),(Wq (b.1-50),Wq (Wq (b.1-50)+d.1),()),(a.1,Wq (a.1+c.1),()),())].length)*40<=140737488355328)<|
some (.inl (f++[(Wq (Wq ((2:Int)*h)+e),(Wq (b.1-50),Wq (Wq (b.1-50)+d.1),()),(a.1,Wq (a.1+c.1),()),())],Wq (e+1),c.2.1,c.2.2.1,c.2.2.2.1,()))
else
(Zl g.2 24).bind λb=>
if b.1=0 then
(Zl b.2 200).bind λa=>
(Zl a.2 30).bind λd=>
(Zl d.2 40).bind λc=>
(Zl c.2 12).bind λi=>
Zt ((f.length+[(Wq (Wq ((2:Int)*h)+e),(Wq (a.1-50),Wq (Wq (a.1-50)+c.1),()),(d.1,Wq (d.1+i.1),()),())].length)*40<=140737488355328)<|
some (.inl (f++[(Wq (Wq ((2:Int)*h)+e),(Wq (a.1-50),Wq (Wq (a.1-50)+c.1),()),(d.1,Wq (d.1+i.1),()),())],Wq (e+1),i.2.1,i.2.2.1,i.2.2.2.1,()))
else
some (.inl (f,Wq (e+1),b.2.1,b.2.2.1,b.2.2.2.1,()))
else
(Zl (j,k,l,()) 24).bind λg=>
if g.1=0 then
(Zl g.2 200).bind λb=>
(Zl b.2 30).bind λa=>
(Zl a.2 40).bind λd=>
(Zl d.2 12).bind λc=>
Zt ((f.length+[(Wq (Wq ((2:Int)*h)+e),(Wq (b.1-50),Wq (Wq (b.1-50)+d.1),()),(a.1,Wq (a.1+c.1),()),())].length)*40<=140737488355328)<|
some (.inl (f++[(Wq (Wq ((2:Int)*h)+e),(Wq (b.1-50),Wq (Wq (b.1-50)+d.1),()),(a.1,Wq (a.1+c.1),()),())],Wq (e+1),c.2.1,c.2.2.1,c.2.2.2.1,()))
else
some (.inl (f,Wq (e+1),g.2.1,g.2.2.1,g.2.2.2.1,()))
else
some (.inr (.inl (f,Wq (h+1),j,k,l,())))
def Zbs (g:Int) (f:List Zj) (a:Int) (i:List Int) (j k:Int):Option (((List Zj)×Int×(List Int)×Int×Int×Unit)⊕(((List Zj)×Int×(List Int)×Int×Int×Unit)⊕((List Zj)×Zk))):=
if a<2 then
(Zl (i,j,k,()) 24).bind λb=>
if b.1=0 then
(Zl b.2 200).bind λe=>
(Zl e.2 30).bind λc=>
(Zl c.2 40).bind λh=>
(Zl h.2 12).bind λd=>
Zt ((f.length+[(Wq (Wq ((2:Int)*g)+a),(Wq (e.1-50),Wq (Wq (e.1-50)+h.1),()),(c.1,Wq (c.1+d.1),()),())].length)*40<=140737488355328)<|
some (.inl (f++[(Wq (Wq ((2:Int)*g)+a),(Wq (e.1-50),Wq (Wq (e.1-50)+h.1),()),(c.1,Wq (c.1+d.1),()),())],Wq (a+1),d.2.1,d.2.2.1,d.2.2.2.1,()))
else
some (.inl (f,Wq (a+1),b.2.1,b.2.2.1,b.2.2.2.1,()))
else
some (.inr (.inl (f,Wq (g+1),i,j,k,())))
def Zbt (c:List ZC) (b:List Zj) (f:Int) (g:List Int) (h i:Int):Option (((List Zj)×Int×(List Int)×Int×Int×Unit)⊕((List Zj)×Zk)):=
if f<(c.length:Int)then
(atI c f).bind λa=>
if GI a<0 then
Zx (λv=>Zbr f a v.1 v.2.1 v.2.2.1 v.2.2.2.1 v.2.2.2.2.1) (b,(0:Int),g,h,i,())
else
Zx (λv=>Zbs f v.1 v.2.1 v.2.2.1 v.2.2.2.1 v.2.2.2.2.1) (b,(0:Int),g,h,i,())
else
if 0<(b.length:Int)then
(Zl (g,h,i,()) (b.length:Int)).bind λd=>
(Zl d.2 30).bind λe=>
if e.1=0 then
(atI b 0).bind λa=>
(atI b d.1).bind λj=>
some (.inr (List.set b (Int.toNat d.1) (Ge a,j.2),e.2))
else
if e.1=1 then
(atI b d.1).bind λa=>
some (.inr (List.set b (Int.toNat d.1) (Ge a,(Wq (Gg (GJ a)+1),(GJ a).2),a.2.2),e.2))
else
if e.1=2 then
(atI b d.1).bind λa=>
some (.inr (List.set b (Int.toNat d.1) (Ge a,GJ a,((-1),(GN a).2),()),e.2))
else
if e.1=3 then
(atI b d.1).bind λa=>
some (.inr (List.set b (Int.toNat d.1) (Ge a,(Gc (GJ a),1000000000,()),a.2.2),e.2))
else
some (.inr (b,e.2))
else
some (.inr (b,(g,h,i,())))
def Yc (a:Zk) (b:Za):Option ((List Zj)×Zk):=
(QI b).bind λc=>
if c then
(YK (KX b)).bind λd=>
Zx (λv=>Zbt d v.1 v.2.1 v.2.2.1 v.2.2.2.1 v.2.2.2.2.1) (([]:List (Int×ZA×ZA×Unit)),(0:Int),G4 a,Zk.at a,GP a,())
else
some ([],a)
def c51:Ctr:=⟨[.io (.flat (XE)),.dat (Yg)],[.own (.ol 87 (.flat (XQ)))],λa K=>splitK a λc a=>splitK a λb a=>Yf (Yc c b) λr=>K (r.1,()) (r.2,())⟩
def ZaT (j:Zk):Option (Za×Zz×(List Int)×(List Zj)×Zk):=
(ZdN j).bind λd=>
(JH d.2).bind λe=>
(Zl e.2 3).bind λi=>
if i.1=0 then
(Zaa i.2 5 true).bind λc=>
(JG c.2 c.1).bind λb=>
(QI c.1).bind λh=>
if h then
if(b.1.length:Int)=0 then
(Zl b.2 6).bind λf=>
if 0<f.1 then
(ZdO c.1).bind λg=>
(Yc f.2 c.1).bind λa=>
some (c.1,e.1,g,a.1,a.2)
else
(Yc f.2 c.1).bind λa=>
some (c.1,e.1,b.1,a.1,a.2)
else
(Yc b.2 c.1).bind λa=>
some (c.1,e.1,b.1,a.1,a.2)
else
(Yc b.2 c.1).bind λa=>
some (c.1,e.1,b.1,a.1,a.2)
else
(JG i.2 d.1).bind λb=>
(QI d.1).bind λh=>
if h then
if(b.1.length:Int)=0 then
(Zl b.2 6).bind λf=>
if 0<f.1 then
(ZdO d.1).bind λg=>
(Yc f.2 d.1).bind λa=>
some (d.1,e.1,g,a.1,a.2)
else
(Yc f.2 d.1).bind λa=>
some (d.1,e.1,b.1,a.1,a.2)
else
(Yc b.2 d.1).bind λa=>
some (d.1,e.1,b.1,a.1,a.2)
else
(Yc b.2 d.1).bind λa=>
some (d.1,e.1,b.1,a.1,a.2)
def c52:Ctr:=⟨[.io (.flat (XE))],[.dat (Yg),.dat (XP),.own (.ol 2 (.flat Iq)),.own (.ol 87 (.flat (XQ)))],λa K=>splitK a λb a=>Yf (ZaT b) λr=>K (r.1,r.2.1,r.2.2.1,r.2.2.2.1,()) (r.2.2.2.2,())⟩
def ZcP (a:List ZC) (b:Int×Zk) (e f:Int):Option ((Int×Int×Unit)⊕(Int×Zk)):=
if f<(a.length:Int)then
(atI a e).bind λg=>
if(GT g)=true then
Zt ((a.length:Int)≠0)<|
some (.inl (Int.tmod (Wq (e+1)) (a.length:Int),Wq (f+1),()))
else
(Zl b.2 12).bind λc=>
if c.1=0 then
(Zl c.2 (Wq ((a.length:Int)+2))).bind λd=>
some (.inr (Wq (d.1-1),d.2))
else
some (.inr (e,c.2))
else
(Zl b.2 12).bind λc=>
if c.1=0 then
(Zl c.2 (Wq ((a.length:Int)+2))).bind λd=>
some (.inr (Wq (d.1-1),d.2))
else
some (.inr (e,c.2))
def Xq (c:Zk) (d:Za):Option (Int×Zk):=
(YK (KX d)).bind λa=>
(Zl c (a.length:Int)).bind λb=>
Zx (λv=>ZcP a b v.1 v.2.1) (b.1,(0:Int),())
def c53:Ctr:=⟨[.io (.flat (XE)),.dat (Yg)],[.dat Iq],λa K=>splitK a λb a=>splitK a λc a=>Yf (Xq b c) λr=>K (r.1,()) (r.2,())⟩
@[reducible] def Y2 (a1:Za) (l05Places0:List ZC) (k p c n d:Int) (nm:List UInt8) (w:Zq) (s:Zk):Option (Zg×Zk):=
(Zl s (30:Int)).bind λy0=>
if y0.1=0 then
(Zl y0.2 (7:Int)).bind λy1=>
some ((y1.1,p,c,n,d,nm,w,()),y1.2)
else
if y0.1=1 then
(Zl y0.2 (10:Int)).bind λy1=>
some ((k,p,Wq (y1.1-1),n,d,nm,w,()),y1.2)
else
if y0.1=2 then
(Zl y0.2 (Wq (((KZ a1).length:Int)+2))).bind λy1=>
some ((k,p,c,Wq (y1.1-1),d,nm,w,()),y1.2)
else
if y0.1=3 then
(Zl y0.2 (Wq ((l05Places0.length:Int)+2))).bind λy1=>
some ((k,Wq (y1.1-1),c,n,d,nm,w,()),y1.2)
else
if y0.1=4 then
some ((k,p,c,n,d,[(66:UInt8),97,100],w,()),y0.2)
else
some ((k,p,c,n,d,nm,w,()),y0.2)
def Zb4 (k:Zk) (b:Za):Option (Zg×Zk):=
(QI b).bind λn=>
if n then
if((KZ b).length:Int)=0 then
some ((3,0,0,0,0,[],([],[],[],[],()),()),k)
else
(YK (KX b)).bind λf=>
(Zl k (8:Int)).bind λc=>
if c.1=0 then
if c.1=0 then
(Zl c.2 ((KY (KX b)).length:Int)).bind λa=>
(atI (KY (KX b)) a.1).bind λg=>
(Jr (KX b) a.1 (Wq (((K7 g).length:Int)-1))).bind λl=>
(atI ([(1:Int),0,3,2,4,6,5,7]) (Int.tmod (Gq g) (8:Int))).bind λm=>
Y2 b f (1:Int) l m (0:Int) (0:Int) ([]:List UInt8) (([]:List Int),([]:List Int),([]:List Int),([]:List Int),()) a.2
else
if c.1=2 then
if c.1=2 then
(Xq c.2 b).bind λd=>
(Zl d.2 (2:Int)).bind λa=>
(Zl a.2 (3:Int)).bind λe=>
(Vh e.1).bind λi=>
Zt ((([(120:UInt8)].length):Int)+(i.length:Int)<=9223372036854775807)<|
Y2 b f (2:Int) d.1 a.1 (0:Int) (0:Int) ([(120:UInt8)]++i) (([]:List Int),([]:List Int),([]:List Int),([]:List Int),()) e.2
else
if c.1=4 then
Y2 b f (3:Int) (0:Int) (0:Int) (0:Int) (0:Int) ([]:List UInt8) (([]:List Int),([]:List Int),([]:List Int),([]:List Int),()) c.2
else
if c.1=5 then
(Xq c.2 b).bind λd=>
(Zl d.2 ((KZ b).length:Int)).bind λa=>
(atI (KZ b) a.1).bind λg=>
(Zl a.2 ((K3 g).length:Int)).bind λe=>
Y2 b f (4:Int) d.1 (0:Int) a.1 e.1 ([]:List UInt8) (([]:List Int),([]:List Int),([]:List Int),([]:List Int),()) e.2
else
(Zl c.2 ((KZ b).length:Int)).bind λa=>
(Xg (KX b) a.1).bind λj=>
(QV a.2 (j.length:Int)).bind λh=>
Y2 b f (5:Int) (0:Int) (0:Int) a.1 (0:Int) ([]:List UInt8) h.1 h.2
else
if c.1=3 then
(Xq c.2 b).bind λd=>
(Zl d.2 (2:Int)).bind λa=>
(Zl a.2 (3:Int)).bind λe=>
(Vh e.1).bind λi=>
Zt ((([(120:UInt8)].length):Int)+(i.length:Int)<=9223372036854775807)<|
Y2 b f (2:Int) d.1 a.1 (0:Int) (0:Int) ([(120:UInt8)]++i) (([]:List Int),([]:List Int),([]:List Int),([]:List Int),()) e.2
else
if c.1=4 then
Y2 b f (3:Int) (0:Int) (0:Int) (0:Int) (0:Int) ([]:List UInt8) (([]:List Int),([]:List Int),([]:List Int),([]:List Int),()) c.2
else
if c.1=5 then
(Xq c.2 b).bind λd=>
(Zl d.2 ((KZ b).length:Int)).bind λa=>
(atI (KZ b) a.1).bind λg=>
(Zl a.2 ((K3 g).length:Int)).bind λe=>
Y2 b f (4:Int) d.1 (0:Int) a.1 e.1 ([]:List UInt8) (([]:List Int),([]:List Int),([]:List Int),([]:List Int),()) e.2
else
(Zl c.2 ((KZ b).length:Int)).bind λa=>
(Xg (KX b) a.1).bind λj=>
(QV a.2 (j.length:Int)).bind λh=>
Y2 b f (5:Int) (0:Int) (0:Int) a.1 (0:Int) ([]:List UInt8) h.1 h.2
else
if c.1=1 then
(Zl c.2 ((KY (KX b)).length:Int)).bind λa=>
(atI (KY (KX b)) a.1).bind λg=>
(Jr (KX b) a.1 (Wq (((K7 g).length:Int)-1))).bind λl=>
(atI ([(1:Int),0,3,2,4,6,5,7]) (Int.tmod (Gq g) (8:Int))).bind λm=>
Y2 b f (1:Int) l m (0:Int) (0:Int) ([]:List UInt8) (([]:List Int),([]:List Int),([]:List Int),([]:List Int),()) a.2
else
if c.1=2 then
if c.1=2 then
(Xq c.2 b).bind λd=>
(Zl d.2 (2:Int)).bind λa=>
(Zl a.2 (3:Int)).bind λe=>
(Vh e.1).bind λi=>
Zt ((([(120:UInt8)].length):Int)+(i.length:Int)<=9223372036854775807)<|
Y2 b f (2:Int) d.1 a.1 (0:Int) (0:Int) ([(120:UInt8)]++i) (([]:List Int),([]:List Int),([]:List Int),([]:List Int),()) e.2
else
if c.1=4 then
Y2 b f (3:Int) (0:Int) (0:Int) (0:Int) (0:Int) ([]:List UInt8) (([]:List Int),([]:List Int),([]:List Int),([]:List Int),()) c.2
else
if c.1=5 then
(Xq c.2 b).bind λd=>
(Zl d.2 ((KZ b).length:Int)).bind λa=>
(atI (KZ b) a.1).bind λg=>
(Zl a.2 ((K3 g).length:Int)).bind λe=>
Y2 b f (4:Int) d.1 (0:Int) a.1 e.1 ([]:List UInt8) (([]:List Int),([]:List Int),([]:List Int),([]:List Int),()) e.2
else
(Zl c.2 ((KZ b).length:Int)).bind λa=>
(Xg (KX b) a.1).bind λj=>
(QV a.2 (j.length:Int)).bind λh=>
Y2 b f (5:Int) (0:Int) (0:Int) a.1 (0:Int) ([]:List UInt8) h.1 h.2
else
if c.1=3 then
(Xq c.2 b).bind λd=>
(Zl d.2 (2:Int)).bind λa=>
(Zl a.2 (3:Int)).bind λe=>
(Vh e.1).bind λi=>
Zt ((([(120:UInt8)].length):Int)+(i.length:Int)<=9223372036854775807)<|
Y2 b f (2:Int) d.1 a.1 (0:Int) (0:Int) ([(120:UInt8)]++i) (([]:List Int),([]:List Int),([]:List Int),([]:List Int),()) e.2
else
if c.1=4 then
Y2 b f (3:Int) (0:Int) (0:Int) (0:Int) (0:Int) ([]:List UInt8) (([]:List Int),([]:List Int),([]:List Int),([]:List Int),()) c.2
else
if c.1=5 then
(Xq c.2 b).bind λd=>
(Zl d.2 ((KZ b).length:Int)).bind λa=>
(atI (KZ b) a.1).bind λg=>
(Zl a.2 ((K3 g).length:Int)).bind λe=>
Y2 b f (4:Int) d.1 (0:Int) a.1 e.1 ([]:List UInt8) (([]:List Int),([]:List Int),([]:List Int),([]:List Int),()) e.2
else
(Zl c.2 ((KZ b).length:Int)).bind λa=>
(Xg (KX b) a.1).bind λj=>
(QV a.2 (j.length:Int)).bind λh=>
Y2 b f (5:Int) (0:Int) (0:Int) a.1 (0:Int) ([]:List UInt8) h.1 h.2
else
some ((3,0,0,0,0,[],([],[],[],[],()),()),k)
def c54:Ctr:=⟨[.io (.flat (XE)),.dat (Yg)],[.own (ZuY)],λa K=>splitK a λc a=>splitK a λb a=>Yf (Zb4 c b) λr=>K (r.1,()) (r.2,())⟩
def Zhj (a:Zg):Option Bool:=
if K2 a=1 then
if Gl a=0 then
if Gz a=0 then
if Gi a=([]:List UInt8)then
some (decide (Wq (Wq (Wq (((K3 (GA a)).length:Int)+((Gx (GA a)).length:Int))+((GD (GA a)).length:Int))+((Gm (GA a)).length:Int))=0))
else
some false
else
some false
else
some false
else
if K2 a=2 then
if Gl a=0 then
if Gz a=0 then
some (decide (Wq (Wq (Wq (((K3 (GA a)).length:Int)+((Gx (GA a)).length:Int))+((GD (GA a)).length:Int))+((Gm (GA a)).length:Int))=0))
else
some false
else
some false
else
if K2 a=3 then
if K8 a=0 then
if Gw a=0 then
if Gl a=0 then
if Gz a=0 then
if Gi a=([]:List UInt8)then
some (decide (Wq (Wq (Wq (((K3 (GA a)).length:Int)+((Gx (GA a)).length:Int))+((GD (GA a)).length:Int))+((Gm (GA a)).length:Int))=0))
else
some false
else
some false
else
some false
else
some false
else
some false
else
if K2 a=4 then
if Gw a=0 then
if Gi a=([]:List UInt8)then
some (decide (Wq (Wq (Wq (((K3 (GA a)).length:Int)+((Gx (GA a)).length:Int))+((GD (GA a)).length:Int))+((Gm (GA a)).length:Int))=0))
else
some false
else
some false
else
if K2 a=5 then
if K8 a=0 then
if Gw a=0 then
if Gz a=0 then
some (decide (Gi a=([]:List UInt8)))
else
some false
else
some false
else
some false
else
some false
def c55:Ctr:=D1 (Qh) (.bool) Zhj
def Zhk (c:Za) (a:Zg):Option Bool:=
(YK (KX c)).bind λe=>
if K2 a=1 then
if K2 a=1 then
(ZY (K8 a) 0 (Wq ((e.length:Int)-1))).bind λb=>
if b then
(ZY (Gw a) 0 (Wq (((K9 (K4 c)).length:Int)-1))).bind λd=>
some d
else
some false
else
if K2 a=4 then
(ZY (K8 a) 0 (Wq ((e.length:Int)-1))).bind λb=>
if b then
(ZY (Gl a) 0 (Wq (((KZ c).length:Int)-1))).bind λd=>
if d then
(atI (KZ c) (Gl a)).bind λg=>
(ZY (Gz a) 0 (Wq (((K3 g).length:Int)-1))).bind λf=>
some f
else
some false
else
some false
else
if K2 a=5 then
(ZY (Gl a) 0 (Wq (((KZ c).length:Int)-1))).bind λb=>
some b
else
some true
else
if K2 a=2 then
(ZY (K8 a) 0 (Wq ((e.length:Int)-1))).bind λb=>
if b then
(ZY (Gw a) 0 (Wq (((K9 (K4 c)).length:Int)-1))).bind λd=>
some d
else
some false
else
if K2 a=4 then
(ZY (K8 a) 0 (Wq ((e.length:Int)-1))).bind λb=>
if b then
(ZY (Gl a) 0 (Wq (((KZ c).length:Int)-1))).bind λd=>
if d then
(atI (KZ c) (Gl a)).bind λg=>
(ZY (Gz a) 0 (Wq (((K3 g).length:Int)-1))).bind λf=>
some f
else
some false
else
some false
else
if K2 a=5 then
(ZY (Gl a) 0 (Wq (((KZ c).length:Int)-1))).bind λb=>
some b
else
some true
def c56:Ctr:=D2 (Yg) (Qh) (.bool) Zhk
def Zcm (b e:Zn) (a:Int):Option ((Int×Unit)⊕Bool):=
if a<((K5 b).length:Int)then
(atI (K5 b) a).bind λc=>
(atI (K5 e) a).bind λd=>
if(Gj c==Gj d)=true then
some (.inl (Wq (a+1),()))
else
some (.inr false)
else
some (.inr true)
def Zbg (b a:Zn):Option Bool:=
if GG b=GG a then
if((K5 b).length:Int)=((K5 a).length:Int)then
Zx (λv=>Zcm b a v.1) ((0:Int),())
else
some false
else
some false
def c57:Ctr:=D2 (ZcQ) (ZcQ) (.bool) Zbg
def Jh (a:Zn):Option Bool:=
if GG a=1 then
some (decide (((K5 a).length:Int)=2))
else
some false
def c58:Ctr:=D1 (ZcQ) (.bool) Jh
def ZbR (c:Zb) (b:List UInt8) (a:Int):Option ((Int×Unit)⊕Int):=
if a<((KY c).length:Int)then
(atI (KY c) a).bind λd=>
if Gv d=b then
some (.inr a)
else
some (.inl (Wq (a+1),()))
else
some (.inr (-1))
def ZcY (b:Zb) (a:List UInt8):Option Int:=
Zx (λv=>ZbR b a v.1) ((0:Int),())
def c59:Ctr:=D2 (Y8) (.str) Iq ZcY
def ZeC (a:List (List UInt8)) (c:List UInt8) (b:Int):Option ((Int×Unit)⊕Int):=
if b<(a.length:Int)then
(atI a b).bind λd=>
if d=c then
some (.inr b)
else
some (.inl (Wq (b+1),()))
else
some (.inr (-1))
def ZjA (b:List (List UInt8)) (a:List UInt8):Option Int:=
Zx (λv=>ZeC b a v.1) ((0:Int),())
def c60:Ctr:=D2 (.sl (.str)) (.str) Iq ZjA
def Zhg (c:Zb) (a:List UInt8):Option Int:=
(ZjA (K1 c) a).bind λb=>
some b
def c61:Ctr:=D2 (Y8) (.str) Iq Zhg
def Zio (a:Zq):Option Bool:=
if((K3 a).length:Int)=1 then
(atI (GD a) 0).bind λb=>
some (decide (b=0))
else
some false
def c62:Ctr:=D1 (ZcR) (.bool) Zio
def Ze2 (a:Za):Option Bool:=
if Wq (((KY (KX a)).length:Int)-1)<0 then
some false
else
(atI (KY (KX a)) (Wq (((KY (KX a)).length:Int)-1))).bind λb=>
(atI (K9 (K4 a)) (Gq b)).bind λh=>
(Jh h).bind λe=>
if e then
(atI (K7 b) 1).bind λi=>
if i=Wq (((KZ a).length:Int)-1)then
(atI (K1 (KX a)) (Wq (((KZ a).length:Int)-1))).bind λj=>
if j=Gv b then
(atI (K7 b) 0).bind λc=>
if c=Wq (((KZ a).length:Int)-1)then
some false
else
(Xg (KX a) (Wq (((KZ a).length:Int)-1))).bind λg=>
if(g.length:Int)=1 then
(atI (KZ a) (Wq (((KZ a).length:Int)-1))).bind λd=>
(Zio d).bind λf=>
some f
else
some false
else
some false
else
some false
else
some false
def c63:Ctr:=D1 (Yg) (.bool) Ze2
def ZdM (b:Za) (a:Zg):Option Bool:=
(YK (KX b)).bind λd=>
if K2 a=1 then
(atI d (K8 a)).bind λc=>
if 0<=GI c then
if(GT c)=true then
(atI (KY (KX b)) (GI c)).bind λe=>
(atI (K9 (K4 b)) (Gq e)).bind λn=>
(atI (K9 (K4 b)) (Gw a)).bind λo=>
(Zbg n o).bind λm=>
some m
else
some false
else
some false
else
if K2 a=2 then
(atI d (K8 a)).bind λc=>
if(GT c)=true then
some false
else
(atI (K9 (K4 b)) (Gw a)).bind λe=>
(Jh e).bind λk=>
if k then
(Zb3 (Gi a)).bind λf=>
if f then
(ZcY (KX b) (Gi a)).bind λl=>
if l<0 then
(Zhg (KX b) (Gi a)).bind λi=>
some (decide (i<0))
else
some false
else
some false
else
some false
else
if K2 a=3 then
(Ze2 b).bind λj=>
some j
else
if K2 a=4 then
(atI d (K8 a)).bind λc=>
if(GT c)=true then
some false
else
some (!decide (ZC.net c=Gl a))
else
(Xg (KX b) (Gl a)).bind λg=>
(ZhM (GA a) (g.length:Int)).bind λh=>
some h
def c64:Ctr:=D2 (Yg) (Qh) (.bool) ZdM
def QU (a:Za) (b:Zg):Option Int:=
(QI a).bind λc=>
if c then
(Zhj b).bind λe=>
if e then
(Zhk a b).bind λd=>
if d then
(ZdM a b).bind λf=>
if f then
if K2 b=2 then
if((KY (KX a)).length:Int)=14 then
some 3
else
if((KZ a).length:Int)=30 then
some 3
else
some 0
else
some 0
else
some 5
else
some 2
else
some 2
else
some 1
def c65:Ctr:=D2 (Yg) (Qh) Iq QU
def Zjx (a:ZB):Option ZB:=
(Y3 (GO a)).bind λb=>
(Y3 (Gt a)).bind λd=>
(Y3 (Gr a)).bind λc=>
some (b,d,c,())
def c66:Ctr:=⟨[.dat (Zac)],[.own (Zj7)],λa K=>splitK a λb a=>Yf (Zjx b) λr=>K (r,()) ()⟩
def J4 (b a:List ZB) (c:Int):Option (((List ZB)×Int×Unit)⊕List ZB):=
if c<(b.length:Int)then
(atI b c).bind λe=>
(Zjx e).bind λd=>
Zt ((a.length+[d].length)*72<=140737488355328)<|
some (.inl (a++[d],Wq (c+1),()))
else
some (.inr a)
def ZbT (a:List ZB):Option (List ZB):=
Zx (λv=>J4 a v.1 v.2.1) (([]:List ZB),(0:Int),())
def c67:Ctr:=⟨[.dat (.sl (Zac))],[.own (.ol 336 (Zj7))],λa K=>splitK a λb a=>Yf (ZbT b) λr=>K (r,()) ()⟩
def ZdG (c:Zn) (b:List Int) (d:Int) (e:List ZH):Option ((Int×(List ZH)×Unit)⊕Zn):=
if d<((Gh c).length:Int)then
(atI (Gh c) d).bind λa=>
(ZbT (GF a)).bind λf=>
(ZbT (GM a)).bind λg=>
Zt ((e.length+[(Gb a,Gk a,Gp a,GE a,f,g,())].length)*80<=140737488355328)<|
some (.inl (Wq (d+1),e++[(Gb a,Gk a,Gp a,GE a,f,g,())],()))
else
some (.inr (GR c,GG c,([]:List (List UInt8×Int×Int×Bool×Unit))++K5 c,e,b,c.2.2.2.2.2))
def Zjz (a:Zn):Option Zn:=
Zt ((([]:List (List UInt8×Int×Int×Bool×Unit)).length+(K5 a).length)*40<=140737488355328)<|
(Y3 (Gy a)).bind λb=>
Zx (λv=>ZdG a b v.1 v.2.1) ((0:Int),([]:List ZH),())
def c68:Ctr:=⟨[.dat (ZcQ)],[.own (Zsg)],λa K=>splitK a λb a=>Yf (Zjz b) λr=>K (r,()) ()⟩
def JE (d:Zr) (a:Int) (b:List Zn):Option ((Int×(List Zn)×Unit)⊕Zr):=
if a<((K9 d).length:Int)then
(atI (K9 d) a).bind λe=>
(Zjz e).bind λc=>
Zt ((b.length+[c].length)*112<=140737488355328)<|
some (.inl (Wq (a+1),b++[c],()))
else
some (.inr (b,()))
def ZcZ (a:Zr):Option Zr:=
Zx (λv=>JE a v.1 v.2.1) ((0:Int),([]:List Zn),())
def c69:Ctr:=⟨[.dat (QW)],[.own (Zpa)],λa K=>splitK a λb a=>Yf (ZcZ b) λr=>K (r,()) ()⟩
def ZdI (b:Zb) (c:Int) (d:List Ze):Option ((Int×(List Ze)×Unit)⊕Zb):=
if c<((KY b).length:Int)then
(atI (KY b) c).bind λa=>
(Y3 (K7 a)).bind λe=>
Zt ((d.length+[(Gv a,Gq a,e,())].length)*48<=140737488355328)<|
some (.inl (Wq (c+1),d++[(Gv a,Gq a,e,())],()))
else
some (.inr (d,([]:List (List UInt8))++K1 b,([]:List (List UInt8×Int×Int×Unit))++Ga b,()))
def ZjB (a:Zb):Option Zb:=
Zt ((([]:List (List UInt8)).length+(K1 a).length)*16<=140737488355328)<|
Zt ((([]:List (List UInt8×Int×Int×Unit)).length+(Ga a).length)*32<=140737488355328)<|
Zx (λv=>ZdI a v.1 v.2.1) ((0:Int),([]:List Ze),())
def c70:Ctr:=⟨[.dat (Y8)],[.own (ZpD)],λa K=>splitK a λb a=>Yf (ZjB b) λr=>K (r,()) ()⟩
def Zdk (a:Zq):Option Zq:=
(Y3 (K3 a)).bind λb=>
(Y3 (Gx a)).bind λd=>
(Y3 (GD a)).bind λc=>
(Y3 (Gm a)).bind λe=>
some (b,d,c,e,())
def c71:Ctr:=⟨[.dat (ZcR)],[.own (ZoD)],λa K=>splitK a λb a=>Yf (Zdk b) λr=>K (r,()) ()⟩
def ZdJ (f:Za) (a:Zr) (b:Zb) (c:Int) (d:List Zq):Option ((Int×(List Zq)×Unit)⊕Za):=
if c<((KZ f).length:Int)then
(atI (KZ f) c).bind λg=>
(Zdk g).bind λe=>
Zt ((d.length+[e].length)*96<=140737488355328)<|
some (.inl (Wq (c+1),d++[e],()))
else
some (.inr (a,b,d,()))
def ZhP (a:Za):Option Za:=
(ZcZ (K4 a)).bind λb=>
(ZjB (KX a)).bind λc=>
Zx (λv=>ZdJ a b c v.1 v.2.1) ((0:Int),([]:List Zq),())
def c72:Ctr:=⟨[.dat (Yg)],[.own (ZeV)],λa K=>splitK a λb a=>Yf (ZhP b) λr=>K (r,()) ()⟩
def ZeJ (h:Za) (b:Int) (a:List Int) (c:Int) (d:List Int):Option ((Int×(List Int)×Unit)⊕((Int×(List Int)×Unit)⊕List Int)):=
if c<(a.length:Int)then
(atI a c).bind λe=>
(atI (KZ h) b).bind λg=>
(atI (Gm g) c).bind λf=>
(atI d e).bind λi=>
some (.inl (Wq (c+1),List.set d (Int.toNat e) f,()))
else
some (.inr (.inl (Wq (b+1),d,())))
def ZeK (b:Za) (a:Int) (c:List Int):Option ((Int×(List Int)×Unit)⊕List Int):=
if a<((KZ b).length:Int)then
(Xg (KX b) a).bind λd=>
Zx (λv=>ZeJ b a d v.1 v.2.1) ((0:Int),c,())
else
some (.inr c)
def ZdL (b:Za):Option (List Int):=
(YK (KX b)).bind λa=>
Zt ((0:Int)<=(a.length:Int))<|
Zt ((a.length:Int)<=(a.length:Int))<|
Zt ((a.length:Int)<=4611686018427387904)<|
Zt (((8:Nat):Int)*(a.length:Int)<=281474976710656)<|
Zx (λv=>ZeK b v.1 v.2.1) ((0:Int),List.replicate (Int.toNat (a.length:Int)) (0:Int),())
def c73:Ctr:=⟨[.dat (Yg)],[.own (.ol 2 (.flat Iq))],λa K=>splitK a λb a=>Yf (ZdL b) λr=>K (r,()) ()⟩
def ZbU (a:Zb) (c:ZC) (d:Int):Option Zb:=
if GI c<0 then
(atI (Ga a) (ZC.pin c)).bind λb=>
some (KY a,K1 a,List.set (Ga a) (Int.toNat (ZC.pin c)) (GQ b,GC b,d,()),())
else
(atI (KY a) (GI c)).bind λb=>
(atI b.2.2.1 (ZC.pin c)).bind λe=>
some (List.set (KY a) (Int.toNat (GI c)) (b.1,b.2.1,List.set b.2.2.1 (Int.toNat (ZC.pin c)) d,()),a.2)
def c74:Ctr:=⟨[.back (ZpD),.dat (ZgK),.dat Iq],[],λa K=>splitK a λd a=>splitK a λc a=>splitK a λb a=>Yf (ZbU d c b) λr=>K () (r,())⟩
def Zd3 (e:List Int) (c:Int) (h:List (List Int×List Int×List Int×List Int×Unit)) (a b:List Int) (f:Int):Option (((List Int)×Int×Unit)⊕((Int×(List (List Int×List Int×List Int×List Int×Unit))×Unit)⊕Za)):=
if f<(a.length:Int)then
(atI a f).bind λd=>
(atI e d).bind λg=>
Zt ((b.length+[g].length)*8<=140737488355328)<|
some (.inl (b++[g],Wq (f+1),()))
else
(atI h c).bind λd=>
some (.inr (.inl (Wq (c+1),List.set h (Int.toNat c) (d.1,d.2.1,d.2.2.1,b,()),())))
def ZbA (c:Za) (b:List Int) (a:Int) (d:List (List Int×List Int×List Int×List Int×Unit)):Option ((Int×(List (List Int×List Int×List Int×List Int×Unit))×Unit)⊕Za):=
if a<(d.length:Int)then
(Xg (KX c) a).bind λe=>
Zx (λv=>Zd3 b a d e v.1 v.2.1) (([]:List Int),(0:Int),())
else
some (.inr (K4 c,KX c,d,()))
def Jg (b:Za) (a:List Int):Option Za:=
Zx (λv=>ZbA b a v.1 v.2.1) ((0:Int),KZ b,())
def c75:Ctr:=⟨[.own (ZeV),.dat (.sl Iq)],[.own (ZeV)],λa K=>splitK a λc a=>splitK a λb a=>Yf (Jg c b) λr=>K (r,()) ()⟩
def ZcI (b:Za) (c:Zg):Option Za:=
(YK (KX b)).bind λj=>
(atI j (K8 c)).bind λg=>
(ZdL b).bind λa=>
(atI a (K8 c)).bind λf=>
Zt ((0:Int)<=Wq ((a.length:Int)-((Ga (KX b)).length:Int)))<|
Zt (Wq ((a.length:Int)-((Ga (KX b)).length:Int))<=(a.length:Int))<|
(Y3 (List.take (Int.toNat (Wq ((a.length:Int)-((Ga (KX b)).length:Int)))-Int.toNat 0) (List.drop (Int.toNat 0) a))).bind λe=>
Zt ((e.length+[f,(0:Int)].length)*8<=140737488355328)<|
Zt ((a.length:Int)<=(a.length:Int))<|
Zt (((e++[f,(0:Int)]).length+(List.take (Int.toNat (a.length:Int)-Int.toNat (Wq ((a.length:Int)-((Ga (KX b)).length:Int)))) (List.drop (Int.toNat (Wq ((a.length:Int)-((Ga (KX b)).length:Int)))) a)).length)*8<=140737488355328)<|
(ZbU (KX b) g ((KZ b).length:Int)).bind λd=>
if Wq ((a.length:Int)-((Ga (KX b)).length:Int))<=K8 c then
(atI (e++[f,(0:Int)]++List.take (Int.toNat (a.length:Int)-Int.toNat (Wq ((a.length:Int)-((Ga (KX b)).length:Int)))) (List.drop (Int.toNat (Wq ((a.length:Int)-((Ga (KX b)).length:Int)))) a)) (Wq (K8 c+2))).bind λk=>
Zt (((KY d).length+[(Gi c,Gw c,[ZC.net g,((KZ b).length:Int)],())].length)*48<=140737488355328)<|
Zt (((K1 d).length+[Gi c].length)*16<=140737488355328)<|
(Zab 1 0).bind λh=>
Zt (((KZ b).length+[h].length)*96<=140737488355328)<|
(Jg (K4 b,(KY d++[(Gi c,Gw c,[ZC.net g,((KZ b).length:Int)],())],K1 d++[Gi c],d.2.2),KZ b++[h],()) (List.set (e++[f,(0:Int)]++List.take (Int.toNat (a.length:Int)-Int.toNat (Wq ((a.length:Int)-((Ga (KX b)).length:Int)))) (List.drop (Int.toNat (Wq ((a.length:Int)-((Ga (KX b)).length:Int)))) a)) (Int.toNat (Wq (K8 c+2))) (0:Int))).bind λi=>
some i
else
(atI (e++[f,(0:Int)]++List.take (Int.toNat (a.length:Int)-Int.toNat (Wq ((a.length:Int)-((Ga (KX b)).length:Int)))) (List.drop (Int.toNat (Wq ((a.length:Int)-((Ga (KX b)).length:Int)))) a)) (K8 c)).bind λk=>
Zt (((KY d).length+[(Gi c,Gw c,[ZC.net g,((KZ b).length:Int)],())].length)*48<=140737488355328)<|
Zt (((K1 d).length+[Gi c].length)*16<=140737488355328)<|
(Zab 1 0).bind λh=>
Zt (((KZ b).length+[h].length)*96<=140737488355328)<|
(Jg (K4 b,(KY d++[(Gi c,Gw c,[ZC.net g,((KZ b).length:Int)],())],K1 d++[Gi c],d.2.2),KZ b++[h],()) (List.set (e++[f,(0:Int)]++List.take (Int.toNat (a.length:Int)-Int.toNat (Wq ((a.length:Int)-((Ga (KX b)).length:Int)))) (List.drop (Int.toNat (Wq ((a.length:Int)-((Ga (KX b)).length:Int)))) a)) (Int.toNat (K8 c)) (0:Int))).bind λi=>
some i
def c76:Ctr:=⟨[.own (ZeV),.dat (Qh)],[.own (ZeV)],λa K=>splitK a λc a=>splitK a λb a=>Yf (ZcI c b) λr=>K (r,()) ()⟩
def Zgw (a:Za):Option Za:=
(ZdL a).bind λb=>
(Xg (KX a) (Wq (((KZ a).length:Int)-1))).bind λl=>
(atI l 0).bind λc=>
(atI b (Wq (Wq ((b.length:Int)-((Ga (KX a)).length:Int))-2))).bind λd=>
(atI b c).bind λm=>
(atI (KY (KX a)) (Wq (((KY (KX a)).length:Int)-1))).bind λf=>
(atI f.2.2.1 0).bind λi=>
(YK (List.set (KY (KX a)) (Int.toNat (Wq (((KY (KX a)).length:Int)-1))) f,(KX a).2)).bind λk=>
(atI k c).bind λj=>
(ZbU (List.set (KY (KX a)) (Int.toNat (Wq (((KY (KX a)).length:Int)-1))) f,(KX a).2) j i).bind λe=>
Zt ((0:Int)<=Wq (Wq ((b.length:Int)-((Ga (KX a)).length:Int))-2))<|
Zt (Wq (Wq ((b.length:Int)-((Ga (KX a)).length:Int))-2)<=((List.set b (Int.toNat c) d).length:Int))<|
(Y3 (List.take (Int.toNat (Wq (Wq ((b.length:Int)-((Ga (KX a)).length:Int))-2))-Int.toNat 0) (List.drop (Int.toNat 0) (List.set b (Int.toNat c) d)))).bind λg=>
Zt ((0:Int)<=Wq ((b.length:Int)-((Ga (KX a)).length:Int)))<|
Zt (Wq ((b.length:Int)-((Ga (KX a)).length:Int))<=((List.set b (Int.toNat c) d).length:Int))<|
Zt (((List.set b (Int.toNat c) d).length:Int)<=((List.set b (Int.toNat c) d).length:Int))<|
Zt ((g.length+(List.take (Int.toNat ((List.set b (Int.toNat c) d).length:Int)-Int.toNat (Wq ((b.length:Int)-((Ga (KX a)).length:Int)))) (List.drop (Int.toNat (Wq ((b.length:Int)-((Ga (KX a)).length:Int)))) (List.set b (Int.toNat c) d))).length)*8<=140737488355328)<|
Zt ((0:Int)<=Wq (((KY (KX a)).length:Int)-1))<|
Zt (Wq (((KY (KX a)).length:Int)-1)<=((KY e).length:Int))<|
Zt ((0:Int)<=Wq (((KZ a).length:Int)-1))<|
Zt (Wq (((KZ a).length:Int)-1)<=((K1 e).length:Int))<|
Zt (Wq (((KZ a).length:Int)-1)<=((KZ a).length:Int))<|
(Jg (K4 a,(List.take (Int.toNat (Wq (((KY (KX a)).length:Int)-1))-Int.toNat 0) (List.drop (Int.toNat 0) (KY e)),List.take (Int.toNat (Wq (((KZ a).length:Int)-1))-Int.toNat 0) (List.drop (Int.toNat 0) (K1 e)),e.2.2),List.take (Int.toNat (Wq (((KZ a).length:Int)-1))-Int.toNat 0) (List.drop (Int.toNat 0) (KZ a)),()) (g++List.take (Int.toNat ((List.set b (Int.toNat c) d).length:Int)-Int.toNat (Wq ((b.length:Int)-((Ga (KX a)).length:Int)))) (List.drop (Int.toNat (Wq ((b.length:Int)-((Ga (KX a)).length:Int)))) (List.set b (Int.toNat c) d)))).bind λh=>
some h
def c77:Ctr:=⟨[.own (ZeV)],[.own (ZeV)],λa K=>splitK a λb a=>Yf (Zgw b) λr=>K (r,()) ()⟩
def ZfN (g:Za) (b:Zg):Option Za:=
(ZhP g).bind λa=>
(YK (KX a)).bind λf=>
if K2 b=1 then
(atI f (K8 b)).bind λc=>
(atI (KY (KX a)) (GI c)).bind λd=>
some (K4 a,(List.set (KY (KX a)) (Int.toNat (GI c)) (d.1,Gw b,d.2.2),(KX a).2),a.2.2)
else
if K2 b=2 then
(ZcI a b).bind λl=>
some l
else
if K2 b=3 then
(Zgw a).bind λh=>
some h
else
if K2 b=4 then
(ZdL a).bind λe=>
(atI e (K8 b)).bind λc=>
(atI f (K8 b)).bind λd=>
(ZbU (KX a) d (Gl b)).bind λj=>
(Jg (K4 a,j,a.2.2) (List.set e (Int.toNat (K8 b)) (Gz b))).bind λk=>
some k
else
if K2 b=5 then
(Zdk (GA b)).bind λi=>
(atI (KZ a) (Gl b)).bind λc=>
some (K4 a,KX a,List.set (KZ a) (Int.toNat (Gl b)) i,())
else
some a
def c78:Ctr:=⟨[.dat (Yg),.dat (Qh)],[.own (ZeV)],λa K=>splitK a λc a=>splitK a λb a=>Yf (ZfN c b) λr=>K (r,()) ()⟩
def Zbq (c:Za) (b:Zg):Option (Za×Int):=
(QU c b).bind λa=>
if a=0 then
(ZfN c b).bind λd=>
some (d,0)
else
some ((([],()),([],[],[],()),[],()),a)
def c79:Ctr:=⟨[.dat (Yg),.dat (Qh)],[.own (ZeV),.dat Iq],λa K=>splitK a λc a=>splitK a λb a=>Yf (Zbq c b) λr=>K (r.1,r.2,()) ()⟩
def Zcn (a:List Zg) (d:Int) (j:List Int) (k l:Int) (e:List Zn) (g:List Ze) (i:List (List UInt8)) (f:List Z8) (h:List Zq):Option (((List Zg)×Int×(List Int)×Int×Int×(List Zn)×(List Ze)×(List (List UInt8))×(List Z8)×(List Zq)×Unit)⊕((List Zg)×Zk)):=
if 0<d then
(Zb4 (j,k,l,()) ((e,()),(g,i,f,()),h,())).bind λb=>
(Zbq ((e,()),(g,i,f,()),h,()) b.1).bind λc=>
if c.2=0 then
Zt ((a.length+[b.1].length)*152<=140737488355328)<|
some (.inl (a++[b.1],Wq (d-1),b.2.1,b.2.2.1,b.2.2.2.1,c.1.1.1,c.1.2.1.1,c.1.2.1.2.1,c.1.2.1.2.2.1,c.1.2.2.1,()))
else
some (.inl (a,Wq (d-1),b.2.1,b.2.2.1,b.2.2.2.1,e,g,i,f,h,()))
else
some (.inr (a,(j,k,l,())))
def ZdK (d:Zk) (a:Za) (c:Int):Option ((List Zg)×Zk):=
(Zl d (Wq (c+1))).bind λb=>
Zx (λv=>Zcn v.1 v.2.1 v.2.2.1 v.2.2.2.1 v.2.2.2.2.1 v.2.2.2.2.2.1 v.2.2.2.2.2.2.1 v.2.2.2.2.2.2.2.1 v.2.2.2.2.2.2.2.2.1 v.2.2.2.2.2.2.2.2.2.1) (([]:List Zg),b.1,b.2.1,b.2.2.1,b.2.2.2.1,K9 (K4 a),KY (KX a),K1 (KX a),Ga (KX a),KZ a,())
def c80:Ctr:=⟨[.io (.flat (XE)),.dat (Yg),.dat Iq],[.own (.ol 42 (ZuY))],λa K=>splitK a λc a=>splitK a λd a=>splitK a λb a=>Yf (ZdK c d b) λr=>K (r.1,()) (r.2,())⟩
def Zdh (b:List Zg) (c:Int) (i:List Zn) (k:List Ze) (l:List (List UInt8)) (j:List Z8) (m:List Zq) (h:List (List UInt8×Int×List XF×List ZH×List Int×Int×Int×Unit)) (e:List (List UInt8×Int×List Int×Unit)) (g:List (List UInt8)) (f:List Z8) (d:List (List Int×List Int×List Int×List Int×Unit)):Option ((Int×(List Zn)×(List Ze)×(List (List UInt8))×(List Z8)×(List Zq)×(List (List UInt8×Int×List XF×List ZH×List Int×Int×Int×Unit))×(List (List UInt8×Int×List Int×Unit))×(List (List UInt8))×(List Z8)×(List (List Int×List Int×List Int×List Int×Unit))×Unit)⊕(Za×Int×Int)):=
if c<(b.length:Int)then
(atI b c).bind λn=>
(Zbq ((h,()),(e,g,f,()),d,()) n).bind λa=>
if a.2=0 then
some (.inl (Wq (c+1),i,k,l,j,m,a.1.1.1,a.1.2.1.1,a.1.2.1.2.1,a.1.2.1.2.2.1,a.1.2.2.1,()))
else
some (.inr (((([]:List Zn),()),(([]:List Ze),([]:List (List UInt8)),([]:List Z8),()),([]:List Zq),()),a.2,c))
else
some (.inr (((h,()),(e,g,f,()),d,()),0,(-1)))
def Zfx (c:Za) (a:List Zg):Option (Za×Int×Int):=
(QI c).bind λd=>
if d then
if 20<(a.length:Int)then
some ((([],()),([],[],[],()),[],()),3,-1)
else
(ZhP c).bind λb=>
Zx (λv=>Zdh a v.1 v.2.1 v.2.2.1 v.2.2.2.1 v.2.2.2.2.1 v.2.2.2.2.2.1 v.2.2.2.2.2.2.1 v.2.2.2.2.2.2.2.1 v.2.2.2.2.2.2.2.2.1 v.2.2.2.2.2.2.2.2.2.1 v.2.2.2.2.2.2.2.2.2.2.1) ((0:Int),([]:List Zn),([]:List Ze),([]:List (List UInt8)),([]:List Z8),([]:List Zq),K9 (K4 b),KY (KX b),K1 (KX b),Ga (KX b),KZ b,())
else
some ((([],()),([],[],[],()),[],()),1,-1)
def c81:Ctr:=⟨[.dat (Yg),.dat (.sl (Qh))],[.own (ZeV),.dat Iq,.dat Iq],λa K=>splitK a λc a=>splitK a λb a=>Yf (Zfx c b) λr=>K (r.1,r.2.1,r.2.2,()) ()⟩
def Zex (a:Zz) (b:Int):Option ((Int×Unit)⊕Bool):=
if b<(([GZ a,GY a,G0 a,G2 a].length):Int)then
(atI ([GZ a,GY a,G0 a,G2 a]) b).bind λd=>
(ZY d 100 5000).bind λc=>
if c then
some (.inl (Wq (b+1),()))
else
some (.inr false)
else
(Zb3 (GW a)).bind λe=>
if e then
if GZ a<=GY a then
some (.inr (decide (G0 a<=G2 a)))
else
some (.inr false)
else
some (.inr false)
def Zhe (a:Zz):Option Bool:=
Zx (λv=>Zex a v.1) ((0:Int),())
def c82:Ctr:=D1 (XP) (.bool) Zhe
def Zd4 (a:List Int) (e b:Int):Option ((Int×Unit)⊕Bool):=
if b<(a.length:Int)then
(atI a b).bind λc=>
(ZY c 0 (Wq (e-1))).bind λd=>
if d then
if 0<b then
(atI a (Wq (b-1))).bind λf=>
if c<=f then
some (.inr false)
else
some (.inl (Wq (b+1),()))
else
some (.inl (Wq (b+1),()))
else
some (.inr false)
else
some (.inr true)
def Zgx (a:List Int) (b:Int):Option Bool:=
Zx (λv=>Zd4 a b v.1) ((0:Int),())
def c83:Ctr:=D2 (.sl Iq) Iq (.bool) Zgx
def ZgG (b:Za) (a:List Int):Option Int:=
(QI b).bind λc=>
if c then
(Zbh b).bind λe=>
(Zgx a (e.length:Int)).bind λd=>
if d then
some 0
else
some 2
else
some 1
def c84:Ctr:=D2 (Yg) (.sl Iq) Iq ZgG
def Zdi (a:ZA):Option Bool:=
(ZY (Gc a) (-1000000000) 1000000000).bind λb=>
if b then
(ZY (Gg a) (-1000000000) 1000000000).bind λc=>
if c then
some (decide (Gc a<=Gg a))
else
some false
else
some false
def c85:Ctr:=D1 (ZaA) (.bool) Zdi
def ZfQ (a:ZA):Option Bool:=
if 0<=Gc a then
if Gc a<=Gg a then
some (decide (Gg a<=1000000))
else
some false
else
some false
def c86:Ctr:=D1 (ZaA) (.bool) ZfQ
def Zbl (a:List Zj) (b c:Int):Option ((Int×Unit)⊕Bool):=
if c<(a.length:Int)then
(atI a c).bind λd=>
(ZY (Ge d) 0 (Wq (b-1))).bind λg=>
if g then
if 0<c then
(atI a (Wq (c-1))).bind λh=>
if Ge d<=Ge h then
some (.inr false)
else
(Zdi (GJ d)).bind λf=>
if f then
(ZfQ (GN d)).bind λe=>
if e then
some (.inl (Wq (c+1),()))
else
some (.inr false)
else
some (.inr false)
else
(Zdi (GJ d)).bind λf=>
if f then
(ZfQ (GN d)).bind λe=>
if e then
some (.inl (Wq (c+1),()))
else
some (.inr false)
else
some (.inr false)
else
some (.inr false)
else
some (.inr true)
def Zdo (c:Za) (a:List Zj):Option Bool:=
(Vy c).bind λb=>
Zx (λv=>Zbl a b v.1) ((0:Int),())
def c87:Ctr:=D2 (Yg) (.sl (XQ)) (.bool) Zdo
def XL (d:Int) (c:List Int) (b f:List Bool) (a:Int):Option ((Int×Unit)⊕((Int×(List Bool)×Unit)⊕(((List Int)×(List Bool)×Unit)⊕((List Int)×Bool)))):=
if a<d then
(atI b a).bind λe=>
if e then
some (.inl (Wq (a+1),()))
else
(atI f a).bind λg=>
if g then
some (.inl (Wq (a+1),()))
else
if a=d then
some (.inr (.inr (.inr (([]:List Int),false))))
else
Zt ((c.length+[a].length)*8<=140737488355328)<|
some (.inr (.inr (.inl (c++[a],List.set b (Int.toNat a) true,()))))
else
if a=d then
some (.inr (.inr (.inr (([]:List Int),false))))
else
(atI b a).bind λe=>
Zt ((c.length+[a].length)*8<=140737488355328)<|
some (.inr (.inr (.inl (c++[a],List.set b (Int.toNat a) true,()))))
def Zaz (f:Int) (d:List Zp) (g:List Bool) (j:List Int) (e:List Bool) (a:Int) (b:List Bool):Option ((Int×(List Bool)×Unit)⊕(((List Int)×(List Bool)×Unit)⊕((List Int)×Bool))):=
if a<(d.length:Int)then
(atI g a).bind λh=>
if h then
(atI d a).bind λc=>
(atI e (Gd c)).bind λi=>
if i then
some (.inl (Wq (a+1),b,()))
else
(atI b (Gf c)).bind λk=>
some (.inl (Wq (a+1),List.set b (Int.toNat (Gf c)) true,()))
else
some (.inl (Wq (a+1),b,()))
else
Zx (λv=>XL f j e b v.1) ((0:Int),())
def Jc (a:Int) (d:List Zp) (c:List Bool) (b:List Int) (e:List Bool):Option (((List Int)×(List Bool)×Unit)⊕((List Int)×Bool)):=
if(b.length:Int)<a then
Zx (λv=>Zaz a d c b e v.1 v.2.1) ((0:Int),List.replicate (Int.toNat a) false,())
else
some (.inr (b,true))
def Zhl (a:Int) (c:List Zp) (b:List Bool):Option ((List Int)×Bool):=
Zt ((0:Int)<=a)<|
Zt (a<=a)<|
Zt (a<=4611686018427387904)<|
Zt (((1:Nat):Int)*a<=281474976710656)<|
Zx (λv=>Jc a c b v.1 v.2.1) (([]:List Int),List.replicate (Int.toNat a) false,())
def c88:Ctr:=⟨[.dat Iq,.dat (.sl (ZbZ)),.dat (.sl (.bool))],[.own (.ol 2 (.flat Iq)),.dat (.bool)],λa K=>splitK a λb a=>splitK a λd a=>splitK a λc a=>Yf (Zhl b d c) λr=>K (r.1,r.2,()) ()⟩
def Zbb (b:Za) (a:List Int):Option ((List Int)×Int):=
(ZgG b a).bind λc=>
if c=0 then
(Zbh b).bind λe=>
(Vy b).bind λg=>
(Ze3 e a).bind λf=>
(Zhl g e f).bind λd=>
if d.2 then
some (d.1,0)
else
some ([],7)
else
some ([],c)
def c89:Ctr:=⟨[.dat (Yg),.dat (.sl Iq)],[.own (.ol 2 (.flat Iq)),.dat Iq],λa K=>splitK a λc a=>splitK a λb a=>Yf (Zbb c b) λr=>K (r.1,r.2,()) ()⟩
def ZgH (c:Za) (e:Zz) (a:List Int) (b:List Zj):Option ((List Int)×Int):=
(QI c).bind λg=>
if g then
(Zhe e).bind λi=>
if i then
(ZgG c a).bind λh=>
if h=0 then
(Zdo c b).bind λf=>
if f then
(Zbb c a).bind λd=>
some (d.1,d.2)
else
some ([],2)
else
some ([],2)
else
some ([],1)
else
some ([],1)
def c90:Ctr:=⟨[.dat (Yg),.dat (XP),.dat (.sl Iq),.dat (.sl (XQ))],[.own (.ol 2 (.flat Iq)),.dat Iq],λa K=>splitK a λe a=>splitK a λd a=>splitK a λc a=>splitK a λb a=>Yf (ZgH e d c b) λr=>K (r.1,r.2,()) ()⟩
def ZjD (a:Int):Option Zf:=
Zt ((0:Int)<=a)<|
Zt (a<=a)<|
Zt (a<=4611686018427387904)<|
Zt (((1:Nat):Int)*a<=281474976710656)<|
Zt (((16:Nat):Int)*a<=281474976710656)<|
some (List.replicate (Int.toNat a) false,List.replicate (Int.toNat a) ((0:Int),(0:Int),()),List.replicate (Int.toNat a) ((0:Int),(0:Int),()),())
def c91:Ctr:=⟨[.dat Iq],[.own (Zfb)],λa K=>splitK a λb a=>Yf (ZjD b) λr=>K (r,()) ()⟩
def ZhO (f:Zr) (b:Zb) (a:ZC):Option Int:=
if GI a<0 then
some 0
else
(atI (KY b) (GI a)).bind λc=>
(atI (K9 f) (Gq c)).bind λd=>
(atI (K5 d) (ZC.pin a)).bind λe=>
some (GX e)
def c92:Ctr:=D3 (QW) (Y8) (ZgK) Iq ZhO
def ZlW (d:Zq) (a:Int) (b:List Int):Option ((Int×(List Int)×Unit)⊕((Int×(List Int)×Unit)⊕List Int)):=
if 0<a then
(atI (K3 d) a).bind λc=>
(atI b c).bind λe=>
(atI b a).bind λf=>
some (.inl (Wq (a-1),List.set b (Int.toNat c) (Wq (e+f)),()))
else
some (.inr (.inr b))
def Zay (e:Za) (f:Zq) (b:List ZC) (a:List Int) (d:Int) (c:List Int):Option ((Int×(List Int)×Unit)⊕List Int):=
if d<(a.length:Int)then
(atI (Gm f) d).bind λg=>
(atI c g).bind λj=>
(atI a d).bind λk=>
(atI b k).bind λh=>
(ZhO (K4 e) (KX e) h).bind λi=>
some (.inl (Wq (d+1),List.set c (Int.toNat g) (Wq (j+i)),()))
else
Zx (λv=>ZlW f v.1 v.2.1) (Wq ((c.length:Int)-1),c,())
def J5 (a:Za) (c:Int):Option (List Int):=
(atI (KZ a) c).bind λb=>
(Y3 (GD b)).bind λd=>
(YK (KX a)).bind λf=>
(Xg (KX a) c).bind λe=>
Zx (λv=>Zay a b f e v.1 v.2.1) ((0:Int),d,())
def c93:Ctr:=⟨[.dat (Yg),.dat Iq],[.own (.ol 2 (.flat Iq))],λa K=>splitK a λc a=>splitK a λb a=>Yf (J5 c b) λr=>K (r,()) ()⟩
def Zdm (a:Za) (b:Zp):Option (ZH×Int):=
(YK (KX a)).bind λf=>
(atI f (Wq (Int.tdiv (Gf b) 2))).bind λc=>
(atI (KY (KX a)) (GI c)).bind λh=>
(atI (K9 (K4 a)) (Gq h)).bind λi=>
(atI (Gh i) (GU b)).bind λd=>
(J5 a (ZC.net c)).bind λg=>
(atI g 0).bind λe=>
some (d,e)
def c94:Ctr:=⟨[.dat (Yg),.dat (ZbZ)],[.dat (Zn7),.dat Iq],λa K=>splitK a λb a=>splitK a λc a=>Yf (Zdm b c) λr=>K (r.1,r.2,()) ()⟩
def Zbc (a:List Int) (c d e b:Int):Option ((Int×Unit)⊕(Int×Int×Int)):=
if 0<=b then
(atI a b).bind λf=>
if Min.min (Max.max c d) e=f then
some (.inr (b,1,0))
else
if f<Min.min (Max.max c d) e then
(atI a (Wq (b+1))).bind λg=>
some (.inr (b,Wq (g-Min.min (Max.max c d) e),Wq (Min.min (Max.max c d) e-f)))
else
some (.inl (Wq (b-1),()))
else
some (.inr (0,1,0))
def Zdj (a:List Int) (b:Int):Option (Int×Int×Int):=
(atI a 0).bind λc=>
(atI a (Wq ((a.length:Int)-1))).bind λd=>
Zx (λv=>Zbc a b c d v.1) (Wq ((a.length:Int)-1),())
def c95:Ctr:=⟨[.dat (.sl Iq),.dat Iq],[.dat Iq,.dat Iq,.dat Iq],λa K=>splitK a λb a=>splitK a λc a=>Yf (Zdj b c) λr=>K (r.1,r.2.1,r.2.2,()) ()⟩
def Yq (b a c:Int):Option Int:=
Zt (a≠0)<|
if Int.tmod b a<0 then
if c=0 then
some (Wq (Wq (Int.tdiv b a)-1))
else
if 0<Int.tmod b a then
if c=1 then
some (Wq (Wq (Int.tdiv b a)+1))
else
some (Wq (Int.tdiv b a))
else
some (Wq (Int.tdiv b a))
else
if 0<Int.tmod b a then
if c=1 then
some (Wq (Wq (Int.tdiv b a)+1))
else
some (Wq (Int.tdiv b a))
else
some (Wq (Int.tdiv b a))
def c96:Ctr:=D3 Iq Iq Iq Iq Yq
def QJ (e:ZB) (b a:Int×Int×Int) (g d c:Int):Option ((Int×Int×Unit)⊕((Int×Int×Unit)⊕Int)):=
if c<2 then
if g=1 then
if c=0 then
if 0<Wq (b.2.2*a.2.1)then
(atI (Gr e) (Wq (Wq (Wq (Wq (b.1+g)*((Gt e).length:Int))+a.1)+c))).bind λf=>
some (.inl (Wq (d+Wq (Wq (b.2.2*a.2.1)*f)),Wq (c+1),()))
else
some (.inl (d,Wq (c+1),()))
else
if 0<Wq (b.2.2*a.2.2)then
(atI (Gr e) (Wq (Wq (Wq (Wq (b.1+g)*((Gt e).length:Int))+a.1)+c))).bind λf=>
some (.inl (Wq (d+Wq (Wq (b.2.2*a.2.2)*f)),Wq (c+1),()))
else
some (.inl (d,Wq (c+1),()))
else
if c=0 then
if 0<Wq (b.2.1*a.2.1)then
(atI (Gr e) (Wq (Wq (Wq (Wq (b.1+g)*((Gt e).length:Int))+a.1)+c))).bind λf=>
some (.inl (Wq (d+Wq (Wq (b.2.1*a.2.1)*f)),Wq (c+1),()))
else
some (.inl (d,Wq (c+1),()))
else
if 0<Wq (b.2.1*a.2.2)then
(atI (Gr e) (Wq (Wq (Wq (Wq (b.1+g)*((Gt e).length:Int))+a.1)+c))).bind λf=>
some (.inl (Wq (d+Wq (Wq (b.2.1*a.2.2)*f)),Wq (c+1),()))
else
some (.inl (d,Wq (c+1),()))
else
some (.inr (.inl (d,Wq (g+1),())))
def YO (f:ZB) (g:Int) (b a:Int×Int×Int) (d c:Int):Option ((Int×Int×Unit)⊕Int):=
if c<2 then
Zx (λv=>QJ f b a c v.1 v.2.1) (d,(0:Int),())
else
(Yq d (Wq (Wq (b.2.1+b.2.2)*Wq (a.2.1+a.2.2))) g).bind λe=>
some (.inr e)
def Q9 (a:ZB) (d c f:Int):Option Int:=
(Zdj (GO a) d).bind λb=>
(Zdj (Gt a) c).bind λe=>
Zx (λv=>YO a f b e v.1 v.2.1) ((0:Int),(0:Int),())
def c97:Ctr:=D4 (Zac) Iq Iq Iq Iq Q9
def Zdn (c:Za) (d:Zp):Option Int:=
(YK (KX c)).bind λa=>
(atI a (Wq (Int.tdiv (Gf d) 2))).bind λb=>
some (ZC.net b)
def c98:Ctr:=D2 (Yg) (ZbZ) Iq Zdn
def Zd2 (d:Zq) (a b:List Int) (c:Int):Option (((List Int)×Int×Unit)⊕List Int):=
if c<(a.length:Int)then
(atI (K3 d) c).bind λh=>
(atI b h).bind λe=>
(atI (Gx d) c).bind λg=>
(atI a c).bind λf=>
Zt ((b.length+[Wq (e+Wq (g*f))].length)*8<=140737488355328)<|
some (.inl (b++[Wq (e+Wq (g*f))],Wq (c+1),()))
else
some (.inr b)
def J9 (b:Za) (a:Int):Option (List Int):=
(atI (KZ b) a).bind λd=>
(J5 b a).bind λc=>
Zx (λv=>Zd2 d c v.1 v.2.1) ([(0:Int)],(1:Int),())
def c99:Ctr:=⟨[.dat (Yg),.dat Iq],[.own (.ol 2 (.flat Iq))],λa K=>splitK a λc a=>splitK a λb a=>Yf (J9 c b) λr=>K (r,()) ()⟩
def X9 (j:Za) (e c:Int) (a b:List Int) (d:Int):Option (((List Int)×Int×Unit)⊕List Int):=
(atI (KZ j) e).bind λg=>
if d<((Gm g).length:Int)then
(atI (Gm g) d).bind λi=>
(atI a i).bind λh=>
(Yq h 1000 c).bind λf=>
Zt ((b.length+[f].length)*8<=140737488355328)<|
some (.inl (b++[f],Wq (d+1),()))
else
some (.inr b)
def Vx (c:Za) (a b:Int):Option (List Int):=
(J9 c a).bind λd=>
Zx (λv=>X9 c a b d v.1 v.2.1) (([]:List Int),(0:Int),())
def ZHJ:Ctr:=⟨[.dat (Yg),.dat Iq,.dat Iq],[.own (.ol 2 (.flat Iq))],λa K=>splitK a λd a=>splitK a λc a=>splitK a λb a=>Yf (Vx d c b) λr=>K (r,()) ()⟩
def Zec (b:Zz) (c a:Int):Option Int:=
if c=1 then
if a=0 then
some (GZ b)
else
some (GY b)
else
if a=0 then
some (G0 b)
else
some (G2 b)
def ZHK:Ctr:=D3 (XP) Iq Iq Iq Zec
def Ji (g:Za) (h:Zz) (b:Zp) (c a:Int):Option Int:=
if GL b=1 then
(Zdm g b).bind λi=>
(atI i.1.2.2.2.2.1 (Int.tmod (Gf b) 2)).bind λf=>
(Q9 f c i.2 a).bind λl=>
(Zec h (GL b) a).bind λe=>
(Yq (Wq (l*e)) 1000 a).bind λd=>
some d
else
(Zdn g b).bind λk=>
(Vx g k a).bind λj=>
(atI j (GU b)).bind λf=>
(Zec h (GL b) a).bind λe=>
(Yq (Wq (f*e)) 1000 a).bind λd=>
some d
def ZHL:Ctr:=⟨[.dat (Yg),.dat (XP),.dat (ZbZ),.dat Iq,.dat Iq],[.dat Iq],λa K=>splitK a λf a=>splitK a λd a=>splitK a λe a=>splitK a λb a=>splitK a λc a=>Yf (Ji f d e b c) λr=>K (r,()) ()⟩
def Zbf (d c a b:Int):Option ((Int×Int×Unit)⊕Int):=
if a<b then
if Wq (Wq (Int.tdiv (Wq (Wq (a+b)+1)) 2)*Wq (Int.tdiv (Wq (Wq (a+b)+1)) 2))<=d then
some (.inl (Wq (Int.tdiv (Wq (Wq (a+b)+1)) 2),b,()))
else
some (.inl (a,Wq (Wq (Int.tdiv (Wq (Wq (a+b)+1)) 2)-1),()))
else
if c=1 then
if Wq (a*a)<d then
some (.inr (Wq (a+1)))
else
some (.inr a)
else
some (.inr a)
def Ze1 (b a:Int):Option Int:=
Zx (λv=>Zbf b a v.1 v.2.1) ((0:Int),(2000000000:Int),())
def ZHM:Ctr:=D2 Iq Iq Iq Ze1
def Zdl (e:Za) (c d a b:Int):Option Int:=
(atI (KZ e) c).bind λh=>
(atI (Gm h) d).bind λk=>
(J9 e c).bind λg=>
(atI g k).bind λf=>
(Ze1 (Wq (Wq (Wq (1000000*a)*a)+Wq (Wq (4*f)*f))) b).bind λj=>
(Yq j 1000 b).bind λi=>
some i
def ZHN:Ctr:=⟨[.dat (Yg),.dat Iq,.dat Iq,.dat Iq,.dat Iq],[.dat Iq],λa K=>splitK a λf a=>splitK a λe a=>splitK a λc a=>splitK a λb a=>splitK a λd a=>Yf (Zdl f e c b d) λr=>K (r,()) ()⟩
def XY (d:Za) (c:Zp) (a b:Int):Option Int:=
if GL c=1 then
(Zdm d c).bind λe=>
(atI e.1.2.2.2.2.2.1 (Int.tmod (Gf c) 2)).bind λi=>
(Q9 i a e.2 b).bind λh=>
some h
else
(Zdn d c).bind λg=>
(Zdl d g (GU c) a b).bind λf=>
some (Min.min 1000000 f)
def c105:Ctr:=D4 (Yg) (ZbZ) Iq Iq Iq XY
def Zbm (a:Za) (d:Zz) (c:Zp) (b:ZA):Option (ZA×ZA):=
(Ji a d c (Gc b) 0).bind λh=>
(Ji a d c (Gc b) 1).bind λl=>
(XY a c (Gc b) 0).bind λj=>
(XY a c (Gc b) 1).bind λe=>
(Ji a d c (Gg b) 0).bind λk=>
(Ji a d c (Gg b) 1).bind λg=>
(XY a c (Gg b) 0).bind λi=>
(XY a c (Gg b) 1).bind λf=>
some ((Min.min h k,Max.max l g,()),(Min.min j i,Max.max e f,()))
def ZHO:Ctr:=⟨[.dat (Yg),.dat (XP),.dat (ZbZ),.dat (ZaA)],[.dat (ZaA),.dat (ZaA)],λa K=>splitK a λb a=>splitK a λe a=>splitK a λd a=>splitK a λc a=>Yf (Zbm b e d c) λr=>K (r.1,r.2,()) ()⟩
def Zkw (b a:ZA):Option ZA:=
some (Min.min (Gc b) (Gc a),Max.max (Gg b) (Gg a),())
def c107:Ctr:=D2 (ZaA) (ZaA) (ZaA) Zkw
def QK (p:Za) (t:Zz) (m:List Zp) (q:List Bool) (k:Zf) (l:Int) (d:Bool) (a i c e g f:Int):Option ((Bool×Int×Int×Int×Int×Int×Int×Unit)⊕((Bool×Int×Int×Int×Int×Int×Int×Unit)⊕(Bool×Zj))):=
if a<(m.length:Int)then
(atI m a).bind λh=>
(atI q a).bind λr=>
if r then
if Gf h=l then
(atI (K6 k) (Gd h)).bind λu=>
if u then
(atI (Gs k) (Gd h)).bind λs=>
(Zbm p t h s).bind λb=>
(atI (Gu k) (Gd h)).bind λj=>
if d then
(Zkw (Wq (Gc j+b.1.1),Wq (Gg j+b.1.2.1),()) (c,e,())).bind λo=>
(Zkw b.2 (g,f,())).bind λn=>
some (.inl (true,Wq (a+1),l,Gc o,Gg o,Gc n,Gg n,()))
else
some (.inl (true,Wq (a+1),l,Wq (Gc j+b.1.1),Wq (Gg j+b.1.2.1),b.2.1,b.2.2.1,()))
else
some (.inl (d,Wq (a+1),i,c,e,g,f,()))
else
some (.inl (d,Wq (a+1),i,c,e,g,f,()))
else
some (.inl (d,Wq (a+1),i,c,e,g,f,()))
else
some (.inr (.inr (d,(i,(c,e,()),(g,f,()),()))))
def Zbk (k:Za) (o:Zz) (n:List Zp) (m:List Bool) (h:List Zj) (l:Zf) (i:Int) (j:Bool) (b c e f d g:Int):Option ((Bool×Int×Int×Int×Int×Int×Int×Unit)⊕(Bool×Zj)):=
if b<(h.length:Int)then
(atI h b).bind λa=>
if Ge a=i then
some (.inl (true,Wq (b+1),Ge a,Gc (GJ a),Gg (GJ a),Gc (GN a),Gg (GN a),()))
else
some (.inl (j,Wq (b+1),c,e,f,d,g,()))
else
Zx (λv=>QK k o n m l i v.1 v.2.1 v.2.2.1 v.2.2.2.1 v.2.2.2.2.1 v.2.2.2.2.2.1 v.2.2.2.2.2.2.1) (j,(0:Int),c,e,f,d,g,())
def Zb5 (d:Za) (c:Zz) (a:List Zp) (f:List Bool) (b:List Zj) (e:Zf) (g:Int):Option (Bool×Zj):=
Zx (λv=>Zbk d c a f b e g v.1 v.2.1 v.2.2.1 v.2.2.2.1 v.2.2.2.2.1 v.2.2.2.2.2.1 v.2.2.2.2.2.2.1) (false,(0:Int),(0:Int),(0:Int),(0:Int),(0:Int),(0:Int),())
def ZHP:Ctr:=⟨[.dat (Yg),.dat (XP),.dat (.sl (ZbZ)),.dat (.sl (.bool)),.dat (.sl (XQ)),.dat (ZgU),.dat Iq],[.dat (.bool),.dat (XQ)],λa K=>splitK a λb a=>splitK a λf a=>splitK a λe a=>splitK a λd a=>splitK a λg a=>splitK a λc a=>splitK a λh a=>Yf (Zb5 b f e d g c h) λr=>K (r.1,r.2,()) ()⟩
def XU (k:Za) (o:Zz) (m:List Zp) (l:List Bool) (n:List Zj) (i:List Int) (f:Int) (g:List Bool) (h j:List ZA) (d:List Bool) (b c:List ZA):Option ((Int×(List Bool)×(List ZA)×(List ZA)×(List Bool)×(List ZA)×(List ZA)×Unit)⊕(Zf×Bool)):=
if f<(i.length:Int)then
(atI i f).bind λa=>
(Zb5 k o m l n (d,b,c,()) a).bind λe=>
if e.1 then
(Zdi e.2.2.1).bind λp=>
if p then
(atI d a).bind λq=>
(atI b a).bind λs=>
(atI c a).bind λr=>
some (.inl (Wq (f+1),g,h,j,List.set d (Int.toNat a) true,List.set b (Int.toNat a) e.2.2.1,List.set c (Int.toNat a) e.2.2.2.1,()))
else
some (.inr ((([]:List Bool),([]:List ZA),([]:List ZA),()),false))
else
some (.inl (Wq (f+1),g,h,j,d,b,c,()))
else
some (.inr ((d,b,c,()),true))
def ZhR (b:Za) (g:Zz) (f:List Zp) (d:List Bool) (h:List Zj) (c:List Int):Option (Zf×Bool):=
(Vy b).bind λe=>
(ZjD e).bind λa=>
Zx (λv=>XU b g f d h c v.1 v.2.1 v.2.2.1 v.2.2.2.1 v.2.2.2.2.1 v.2.2.2.2.2.1 v.2.2.2.2.2.2.1) ((0:Int),([]:List Bool),([]:List ZA),([]:List ZA),K6 a,Gu a,Gs a,())
def c109:Ctr:=⟨[.dat (Yg),.dat (XP),.dat (.sl (ZbZ)),.dat (.sl (.bool)),.dat (.sl (XQ)),.dat (.sl Iq)],[.own (Zfb),.dat (.bool)],λa K=>splitK a λb a=>splitK a λf a=>splitK a λe a=>splitK a λd a=>splitK a λg a=>splitK a λc a=>Yf (ZhR b f e d g c) λr=>K (r.1,r.2,()) ()⟩
def YF (d:Za) (e:Zz) (b:List Int) (a:List Zj):Option (Zf×Int):=
(ZgH d e b a).bind λc=>
if c.2=0 then
(Zbh d).bind λf=>
(Ze3 f b).bind λh=>
(ZhR d e f h a c.1).bind λg=>
if g.2 then
some (g.1,0)
else
some (([],[],[],()),3)
else
some (([],[],[],()),c.2)
def ZGE:Ctr:=⟨[.dat (Yg),.dat (XP),.dat (.sl Iq),.dat (.sl (XQ))],[.own (Zfb),.dat Iq],λa K=>splitK a λe a=>splitK a λd a=>splitK a λc a=>splitK a λb a=>Yf (YF e d c b) λr=>K (r.1,r.2,()) ()⟩
def Ze4 (j:Zk):Option (Za×Zg×Zz×(List Zj)×Zf×Zk):=
(ZaT j).bind λa=>
(QI a.1).bind λk=>
if k then
(Zl a.2.2.2.2 3).bind λe=>
if e.1=0 then
(ZdK e.2 a.1 1).bind λi=>
(Zfx a.1 i.1).bind λf=>
(Yc i.2 f.1).bind λg=>
(Zb4 g.2 f.1).bind λb=>
(YF f.1 a.2.1 (([]:List Int)) g.1).bind λc=>
(Zl b.2 8).bind λd=>
if d.1=0 then
if 0<0 then
some (f.1,b.1,a.2.1,g.1,c.1,d.2)
else
some (f.1,b.1,a.2.1,g.1,c.1,d.2)
else
some (f.1,b.1,a.2.1,g.1,c.1,d.2)
else
(Zb4 e.2 a.1).bind λb=>
(YF a.1 a.2.1 (([]:List Int)) a.2.2.2.1).bind λc=>
(Zl b.2 8).bind λd=>
if d.1=0 then
if 0<(a.2.2.1.length:Int)then
(YF a.1 a.2.1 a.2.2.1 a.2.2.2.1).bind λh=>
some (a.1,b.1,a.2.1,a.2.2.2.1,h.1,d.2)
else
some (a.1,b.1,a.2.1,a.2.2.2.1,c.1,d.2)
else
some (a.1,b.1,a.2.1,a.2.2.2.1,c.1,d.2)
else
(Zb4 a.2.2.2.2 a.1).bind λb=>
(YF a.1 a.2.1 (([]:List Int)) a.2.2.2.1).bind λc=>
(Zl b.2 8).bind λe=>
if e.1=0 then
if 0<(a.2.2.1.length:Int)then
(YF a.1 a.2.1 a.2.2.1 a.2.2.2.1).bind λh=>
some (a.1,b.1,a.2.1,a.2.2.2.1,h.1,e.2)
else
some (a.1,b.1,a.2.1,a.2.2.2.1,c.1,e.2)
else
some (a.1,b.1,a.2.1,a.2.2.2.1,c.1,e.2)
def ZHQ:Ctr:=⟨[.io (.flat (XE))],[.dat (Yg),.own (ZuY),.dat (XP),.own (.ol 87 (.flat (XQ))),.own (Zfb)],λa K=>splitK a λb a=>Yf (Ze4 b) λr=>K (r.1,r.2.1,r.2.2.1,r.2.2.2.1,r.2.2.2.2.1,()) (r.2.2.2.2.2,())⟩
def VP (b:List Int):Option (Za×Zg×Zz×(List Zj)×Zf):=
(Zik b).bind λc=>
(Ze4 c).bind λa=>
some (a.1,a.2.1,a.2.2.1,a.2.2.2.1,a.2.2.2.2.1)
def ZHR:Ctr:=⟨[.dat (.sl (.int .u8))],[.dat (Yg),.own (ZuY),.dat (XP),.own (.ol 87 (.flat (XQ))),.own (Zfb)],λa K=>splitK a λb a=>Yf (VP b) λr=>K (r.1,r.2.1,r.2.2.1,r.2.2.2.1,r.2.2.2.2,()) ()⟩
def Yy (c b a:Int):Option Bool:=
if b<=c then
some (decide (c<=a))
else
some false
def Ztz:Ctr:=D3 Iq Iq Iq (.bool) Yy
def Zes (a:List UInt8):Option Bool:=
(Yy (a.length:Int) 1 8).bind λb=>
if b then
Zt (a.length<=1000000)<|
if Go.Lib.trimS a [(97:UInt8),98,99,100,101,102,103,104,105,106,107,108,109,110,111,112,113,114,115,116,117,118,119,120,121,122,48,49,50,51,52,53,54,55,56,57]=([]:List UInt8)then
(atI a 0).bind λc=>
some (decide ((0:Int)<=Go.Lib.indexByte [(97:UInt8),98,99,100,101,102,103,104,105,106,107,108,109,110,111,112,113,114,115,116,117,118,119,120,121,122] (Nat.toUInt8 (Int.toNat ((UInt8.toNat c):Int)))))
else
some false
else
some false
def ZFg:Ctr:=D1 (.str) (.bool) Zes
def Zbz (a:List XF):Option Int:=
some (a.length:Int)
def ZGF:Ctr:=D1 (.sl (ZmU)) Iq Zbz
def Xt (b:List (List UInt8)) (d:List UInt8) (a:Int):Option ((Int×Unit)⊕Int):=
if a<(b.length:Int)then
(atI b a).bind λc=>
if d=c then
some (.inr a)
else
some (.inl (Wq (a+1),()))
else
some (.inr (-1))
def Xe (a:List (List UInt8)) (b:List UInt8):Option Int:=
Zx (λv=>Xt a b v.1) ((0:Int),())
def c116:Ctr:=D2 (.sl (.str)) (.str) Iq Xe
def QH (b:List (List UInt8)) (c:List UInt8):Option Bool:=
(Xe b c).bind λa=>
some (decide (0<=a))
def c117:Ctr:=D2 (.sl (.str)) (.str) (.bool) QH
def Zeq (a:List (List UInt8)) (b:Int):Option ((Int×Unit)⊕Bool):=
if b<(a.length:Int)then
(atI a b).bind λc=>
(Zes c).bind λd=>
if d then
Zt ((0:Int)<=b)<|
Zt (b<=(a.length:Int))<|
(QH (List.take (Int.toNat b-Int.toNat 0) (List.drop (Int.toNat 0) a)) c).bind λe=>
if e then
some (.inr false)
else
some (.inl (Wq (b+1),()))
else
some (.inr false)
else
some (.inr true)
def ZaZ (a:List (List UInt8)):Option Bool:=
Zx (λv=>Zeq a v.1) ((0:Int),())
def ZFF:Ctr:=D1 (.sl (.str)) (.bool) ZaZ
def Za0 (b:List XF) (a:List (List UInt8)) (d:Int):Option (((List (List UInt8))×Int×Unit)⊕Bool):=
if d<(b.length:Int)then
(atI b d).bind λc=>
Zt ((a.length+[GK c].length)*16<=140737488355328)<|
if d=Wq ((b.length:Int)-1)then
if G5 c=2 then
if GX c=0 then
if(Gj c)=true then
some (.inr false)
else
some (.inl (a++[GK c],Wq (d+1),()))
else
some (.inr false)
else
some (.inr false)
else
if G5 c=1 then
(Yy (GX c) 0 500).bind λe=>
if e then
some (.inl (a++[GK c],Wq (d+1),()))
else
some (.inr false)
else
some (.inr false)
else
(Zbz b).bind λg=>
(Yy g 2 5).bind λe=>
if e then
(ZaZ a).bind λf=>
some (.inr f)
else
some (.inr false)
def Zia (a:List XF):Option Bool:=
Zx (λv=>Za0 a v.1 v.2.1) (([]:List (List UInt8)),(0:Int),())
def c119:Ctr:=D1 (.sl (ZmU)) (.bool) Zia
def Zib (a:Int):Option Bool:=
if a=4 then
some true
else
some (decide (a=5))
def ZHS:Ctr:=D1 Iq (.bool) Zib
def Xp (a:List Int):Option Int:=
some (a.length:Int)
def ZDW:Ctr:=D1 (.sl Iq) Iq Xp
def Zf0 (b d c:Int):Option Bool:=
(Yy b d c).bind λa=>
some !a
def ZHT:Ctr:=D3 Iq (.ptr Iq) (.ptr Iq) (.bool) Zf0
def YX (b:List Int) (c:Int×Int×Unit) (a:Int):Option ((Int×Unit)⊕Int):=
if a<(b.length:Int)then
(atI b a).bind λe=>
(Zf0 e c.1 c.2.1).bind λd=>
if d then
some (.inr a)
else
some (.inl (Wq (a+1),()))
else
some (.inr (-1))
def YI (a:List Int) (b:Int×Int×Unit):Option Int:=
Zx (λv=>YX a b v.1) ((0:Int),())
def ZHU:Ctr:=D2 (.sl Iq) (.fn 209 (.pair (.ptr Iq) (.pair (.ptr Iq) (.unit)))) Iq YI
def Y7 (c:List Int) (b:Int×Int×Unit):Option Bool:=
(YI c b).bind λa=>
some (decide (0<=a))
def c124:Ctr:=D2 (.sl Iq) (.fn 209 (.pair (.ptr Iq) (.pair (.ptr Iq) (.unit)))) (.bool) Y7
def XT (a:List Int) (c b:Int):Option Bool:=
(Y7 a (c,b,())).bind λd=>
some !d
def ZDd:Ctr:=D3 (.sl Iq) Iq Iq (.bool) XT
def Vp (a:List Int) (b:Int):Option ((Int×Unit)⊕Bool):=
if b<(a.length:Int)then
(atI a (Wq (b-1))).bind λd=>
(atI a b).bind λc=>
if c<=d then
some (.inr false)
else
some (.inl (Wq (b+1),()))
else
some (.inr true)
def VX (a:List Int):Option Bool:=
Zx (λv=>Vp a v.1) ((1:Int),())
def ZFG:Ctr:=D1 (.sl Iq) (.bool) VX
def ZhF (a:List Int):Option Bool:=
(Xp a).bind λb=>
(Yy b 1 4).bind λd=>
if d then
(XT a 0 100000).bind λc=>
if c then
(VX a).bind λe=>
some e
else
some false
else
some false
def c127:Ctr:=D1 (.sl Iq) (.bool) ZhF
def Zh9 (a:ZB):Option Bool:=
(ZhF (GO a)).bind λb=>
if b then
(ZhF (Gt a)).bind λd=>
if d then
if((Gr a).length:Int)=Wq (((GO a).length:Int)*((Gt a).length:Int))then
(XT (Gr a) (-1000000) 1000000).bind λc=>
some c
else
some false
else
some false
else
some false
def ZHV:Ctr:=D1 (Zac) (.bool) Zh9
def JL (b:List Int) (c a:Int):Option ((Int×Int×Unit)⊕Int):=
if a<(b.length:Int)then
(atI b a).bind λd=>
some (.inl (Min.min c d,Wq (a+1),()))
else
some (.inr c)
def J3 (a:List Int):Option Int:=
if(a.length:Int)<1 then
none
else
(atI a 0).bind λb=>
Zx (λv=>JL a v.1 v.2.1) (b,(1:Int),())
def ZHW:Ctr:=D1 (.sl Iq) Iq J3
def Zai (a:ZB) (c:Bool):Option Bool:=
(Zh9 a).bind λb=>
if b then
if c then
(J3 (Gr a)).bind λd=>
some (decide (d<0))
else
some false
else
some true
def c130:Ctr:=D2 (Zac) (.ptr (.bool)) (.bool) Zai
def Yu (b:List ZB) (d:Bool×Unit) (a:Int):Option ((Int×Unit)⊕Int):=
if a<(b.length:Int)then
(atI b a).bind λe=>
(Zai e d.1).bind λc=>
if c then
some (.inr a)
else
some (.inl (Wq (a+1),()))
else
some (.inr (-1))
def Yd (a:List ZB) (b:Bool×Unit):Option Int:=
Zx (λv=>Yu a b v.1) ((0:Int),())
def c131:Ctr:=D2 (.sl (Zac)) (.fn 371 (.pair (.ptr (.bool)) (.unit))) Iq Yd
def Z5 (c:List ZB) (b:Bool×Unit):Option Bool:=
(Yd c b).bind λa=>
some (decide (0<=a))
def ZHX:Ctr:=D2 (.sl (Zac)) (.fn 371 (.pair (.ptr (.bool)) (.unit))) (.bool) Z5
def ZcF (b:List ZB) (a:Bool):Option Bool:=
if(b.length:Int)=2 then
(Z5 b (a,())).bind λc=>
some !c
else
some false
def ZHY:Ctr:=D2 (.sl (Zac)) (.bool) (.bool) ZcF
def Zfh (a:XF):Option Bool:=
some (Gj a)
def ZHZ:Ctr:=D1 (ZmU) (.bool) Zfh
def YD (b:List XF) (a:Int):Option ((Int×Unit)⊕Int):=
if a<(b.length:Int)then
(atI b a).bind λd=>
(Zfh d).bind λc=>
if c then
some (.inr a)
else
some (.inl (Wq (a+1),()))
else
some (.inr (-1))
def Yl (a:List XF) (b:Unit):Option Int:=
Zx (λv=>YD a v.1) ((0:Int),())
def ZH0:Ctr:=D2 (.sl (ZmU)) (.fn 375 (.unit)) Iq Yl
def Zfg (b:Zn):Option Int:=
(Yl (K5 b) ()).bind λa=>
some a
def ZH1:Ctr:=D1 (ZcQ) Iq Zfg
def Zcs (b:Zn):Option Int:=
(Zbz (K5 b)).bind λa=>
some (Wq (a-1))
def ZFH:Ctr:=D1 (ZcQ) Iq Zcs
def ZbI (c:Zn) (a:Int):Option Bool:=
(Zcs c).bind λb=>
(Yy a 0 (Wq (b-1))).bind λd=>
some d
def c138:Ctr:=D2 (ZcQ) Iq (.bool) ZbI
def Zfi (b:Zn) (a:ZH):Option Bool:=
(Zib (Gb a)).bind λg=>
if g then
if GE a=0 then
if((GM a).length:Int)=0 then
(ZcF (GF a) false).bind λe=>
if e then
(Zfg b).bind λi=>
if Gk a=i then
if 0<=Gk a then
(ZbI b (Gp a)).bind λd=>
if d then
some (!decide (Gp a=Gk a))
else
some false
else
some false
else
some false
else
some false
else
some false
else
some false
else
(ZcF (GF a) true).bind λe=>
if e then
(ZcF (GM a) true).bind λj=>
if j then
(Zcs b).bind λf=>
if Gp a=f then
(ZbI b (Gk a)).bind λd=>
if d then
if Gb a=1 then
(atI (K5 b) (Gk a)).bind λc=>
if(Gj c)=true then
some false
else
(Yy (GE a) 1 3).bind λh=>
some h
else
if Gb a=2 then
if Gb a=2 then
(atI (K5 b) (Gk a)).bind λc=>
if(Gj c)=true then
some (decide (GE a=0))
else
some false
else
some false
else
if Gb a=3 then
(atI (K5 b) (Gk a)).bind λc=>
if(Gj c)=true then
some (decide (GE a=0))
else
some false
else
some false
else
some false
else
some false
else
some false
else
some false
def c139:Ctr:=D2 (ZcQ) (Zn7) (.bool) Zfi
def VB (a b:ZH):Option Bool:=
if Gb a=Gb b then
if Gk a=Gk b then
some (decide (Gp a=Gp b))
else
some false
else
some false
def ZH2:Ctr:=D2 (Zn7) (.ptr (Zn7)) (.bool) VB
def Yz (b:List ZH) (d:ZH×Unit) (a:Int):Option ((Int×Unit)⊕Int):=
if a<(b.length:Int)then
(atI b a).bind λe=>
(VB e d.1).bind λc=>
if c then
some (.inr a)
else
some (.inl (Wq (a+1),()))
else
some (.inr (-1))
def Yh (a:List ZH) (b:ZH×Unit):Option Int:=
Zx (λv=>Yz a b v.1) ((0:Int),())
def c141:Ctr:=D2 (.sl (Zn7)) (.fn 347 (.pair (.ptr (Zn7)) (.unit))) Iq Yh
def Z7 (c:List ZH) (b:ZH×Unit):Option Bool:=
(Yh c b).bind λa=>
some (decide (0<=a))
def ZH3:Ctr:=D2 (.sl (Zn7)) (.fn 347 (.pair (.ptr (Zn7)) (.unit))) (.bool) Z7
def Zca (a:Zn) (b:Int):Option ((Int×Unit)⊕Bool):=
if b<((Gh a).length:Int)then
(atI (Gh a) b).bind λc=>
(Zfi a c).bind λd=>
if d then
Zt ((0:Int)<=b)<|
Zt (b<=((Gh a).length:Int))<|
(Z7 (List.take (Int.toNat b-Int.toNat 0) (List.drop (Int.toNat 0) (Gh a))) (c,())).bind λe=>
if e then
some (.inr false)
else
some (.inl (Wq (b+1),()))
else
some (.inr false)
else
some (.inr (decide (((Gh a).length:Int)<=8)))
def Zdy (a:Zn):Option Bool:=
Zx (λv=>Zca a v.1) ((0:Int),())
def c143:Ctr:=D1 (ZcQ) (.bool) Zdy
def Zei (b:ZH) (a:Int):Option Bool:=
some (decide (Gb b=a))
def ZH4:Ctr:=D2 (Zn7) (.ptr Iq) (.bool) Zei
def YJ (b:List ZH) (d:Int×Unit) (a:Int):Option ((Int×Unit)⊕Int):=
if a<(b.length:Int)then
(atI b a).bind λe=>
(Zei e d.1).bind λc=>
if c then
some (.inr a)
else
some (.inl (Wq (a+1),()))
else
some (.inr (-1))
def Yn (a:List ZH) (b:Int×Unit):Option Int:=
Zx (λv=>YJ a b v.1) ((0:Int),())
def c145:Ctr:=D2 (.sl (Zn7)) (.fn 364 (.pair (.ptr Iq) (.unit))) Iq Yn
def Yi (c:List ZH) (b:Int×Unit):Option Bool:=
(Yn c b).bind λa=>
some (decide (0<=a))
def c146:Ctr:=D2 (.sl (Zn7)) (.fn 364 (.pair (.ptr Iq) (.unit))) (.bool) Yi
def JX (c:Zn) (a:Int):Option Bool:=
(Yi (Gh c) (a,())).bind λb=>
some b
def ZH5:Ctr:=D2 (ZcQ) Iq (.bool) JX
def Q6 (a:Zn) (b c:Int):Option ((Int×Int×Unit)⊕Bool):=
if c<((K5 a).length:Int)then
(atI (K5 a) c).bind λh=>
if(Gj h)=true then
some (.inl (Wq (b+1),Wq (c+1),()))
else
some (.inl (b,Wq (c+1),()))
else
if GG a=1 then
if b=0 then
(Zcs a).bind λg=>
Zt ((0:Int)<=g)<|
if((Gy a).length:Int)=Wq (1*2^Min.min (Int.toNat g) (IntKind.bits IntKind.i64))then
(XT (Gy a) 0 1).bind λi=>
some (.inr i)
else
some (.inr false)
else
some (.inr false)
else
if GG a=2 then
if b=1 then
if((Gy a).length:Int)=0 then
(JX a 1).bind λe=>
if e then
some (.inr false)
else
(JX a 2).bind λd=>
(JX a 3).bind λf=>
some (.inr (!d==f))
else
some (.inr false)
else
some (.inr false)
else
if GG a=3 then
if b=1 then
if((Gy a).length:Int)=0 then
(JX a 1).bind λe=>
if e then
(JX a 2).bind λd=>
if d then
(JX a 3).bind λf=>
some (.inr !f)
else
some (.inr false)
else
some (.inr false)
else
some (.inr false)
else
some (.inr false)
else
some (.inr false)
def ZcU (a:Zn):Option Bool:=
Zx (λv=>Q6 a v.1 v.2.1) ((0:Int),(0:Int),())
def c148:Ctr:=D1 (ZcQ) (.bool) ZcU
def Zjf (a:Zn):Option Bool:=
(Zes (GR a)).bind λd=>
if d then
(Zia (K5 a)).bind λg=>
if g then
(Zdy a).bind λe=>
if e then
(Yy (G6 a) 0 100000).bind λb=>
if b then
(Yy (G7 a) 0 100000).bind λf=>
if f then
(ZcU a).bind λc=>
some c
else
some false
else
some false
else
some false
else
some false
else
some false
def ZH6:Ctr:=D1 (ZcQ) (.bool) Zjf
def JN (c:Zr) (a:List (List UInt8)) (d:Int):Option (((List (List UInt8))×Int×Unit)⊕Bool):=
if d<((K9 c).length:Int)then
(atI (K9 c) d).bind λb=>
(Zjf b).bind λe=>
if e then
Zt ((a.length+[GR b].length)*16<=140737488355328)<|
some (.inl (a++[GR b],Wq (d+1),()))
else
some (.inr false)
else
if((K9 c).length:Int)<=8 then
(ZaZ a).bind λf=>
some (.inr f)
else
some (.inr false)
def Zgn (a:Zr):Option Bool:=
Zx (λv=>JN a v.1 v.2.1) (([]:List (List UInt8)),(0:Int),())
def ZH7:Ctr:=D1 (QW) (.bool) Zgn
def ZaO (c:Zb) (b a:List (List UInt8)) (d:Int):Option (((List (List UInt8))×Int×Unit)⊕(((List (List UInt8))×Int×Unit)⊕Bool)):=
if d<((Ga c).length:Int)then
(atI (Ga c) d).bind λe=>
Zt ((a.length+[GQ e].length)*16<=140737488355328)<|
some (.inl (a++[GQ e],Wq (d+1),()))
else
if(b.length:Int)<=14 then
if((K1 c).length:Int)<=30 then
if(a.length:Int)<=8 then
(ZaZ b).bind λf=>
if f then
(ZaZ (K1 c)).bind λh=>
if h then
(ZaZ a).bind λg=>
some (.inr (.inr g))
else
some (.inr (.inr false))
else
some (.inr (.inr false))
else
some (.inr (.inr false))
else
some (.inr (.inr false))
else
some (.inr (.inr false))
def ZaP (b:Zb) (a:List (List UInt8)) (c:Int):Option (((List (List UInt8))×Int×Unit)⊕Bool):=
if c<((KY b).length:Int)then
(atI (KY b) c).bind λd=>
Zt ((a.length+[Gv d].length)*16<=140737488355328)<|
some (.inl (a++[Gv d],Wq (c+1),()))
else
Zx (λv=>ZaO b a v.1 v.2.1) (([]:List (List UInt8)),(0:Int),())
def Zbv (a:Zb):Option Bool:=
Zx (λv=>ZaP a v.1 v.2.1) (([]:List (List UInt8)),(0:Int),())
def ZH8:Ctr:=D1 (Y8) (.bool) Zbv
def Q7 (a:List Zn):Option Int:=
some (a.length:Int)
def c152:Ctr:=D1 (.sl (ZcQ)) Iq Q7
def Xr (a:List (List UInt8)):Option Int:=
some (a.length:Int)
def ZDX:Ctr:=D1 (.sl (.str)) Iq Xr
def Xo (c:Zb) (a:Int):Option Bool:=
(Xr (K1 c)).bind λb=>
(Yy a 0 (Wq (b-1))).bind λd=>
some d
def c154:Ctr:=D2 (Y8) Iq (.bool) Xo
def QO (a:Int) (c:Zb):Option Bool:=
(Xo c a).bind λb=>
some !b
def ZH9:Ctr:=D2 Iq (.ptr (Y8)) (.bool) QO
def YB (b:List Int) (d:Zb×Unit) (a:Int):Option ((Int×Unit)⊕Int):=
if a<(b.length:Int)then
(atI b a).bind λe=>
(QO e d.1).bind λc=>
if c then
some (.inr a)
else
some (.inl (Wq (a+1),()))
else
some (.inr (-1))
def Yk (a:List Int) (b:Zb×Unit):Option Int:=
Zx (λv=>YB a b v.1) ((0:Int),())
def c156:Ctr:=D2 (.sl Iq) (.fn 273 (.pair (.ptr (Y8)) (.unit))) Iq Yk
def Ya (c:List Int) (b:Zb×Unit):Option Bool:=
(Yk c b).bind λa=>
some (decide (0<=a))
def c157:Ctr:=D2 (.sl Iq) (.fn 273 (.pair (.ptr (Y8)) (.unit))) (.bool) Ya
def ZaE (d:Zb) (b:Zr) (a:Ze):Option Bool:=
(Q7 (K9 b)).bind λc=>
(Yy (Gq a) 0 (Wq (c-1))).bind λf=>
if f then
(atI (K9 b) (Gq a)).bind λg=>
if((K7 a).length:Int)=((K5 g).length:Int)then
(Ya (K7 a) (d,())).bind λe=>
some !e
else
some false
else
some false
def ZIa:Ctr:=D3 (Y8) (QW) (Js) (.bool) ZaE
def Zej (a:Int):Option Bool:=
some (!decide (a=1))
def c159:Ctr:=D1 Iq (.bool) Zej
def Xd (b:List Int) (a:Int):Option ((Int×Unit)⊕Int):=
if a<(b.length:Int)then
(atI b a).bind λd=>
(Zej d).bind λc=>
if c then
some (.inr a)
else
some (.inl (Wq (a+1),()))
else
some (.inr (-1))
def Y0 (a:List Int) (b:Unit):Option Int:=
Zx (λv=>Xd a v.1) ((0:Int),())
def c160:Ctr:=D2 (.sl Iq) (.fn 228 (.unit)) Iq Y0
def YN (b:List Int) (c:Unit):Option Bool:=
(Y0 b ()).bind λa=>
some (decide (0<=a))
def ZIb:Ctr:=D2 (.sl Iq) (.fn 228 (.unit)) (.bool) YN
def Zaq (d:Zb) (c:Int) (b:List Int):Option ((Int×(List Int)×Unit)⊕((Int×(List Int)×Unit)⊕Bool)):=
if c<((Ga d).length:Int)then
(atI (Ga d) c).bind λa=>
if GC a=1 then
(Xo d (GH a)).bind λe=>
if e then
if GC a=1 then
(atI b (GH a)).bind λf=>
some (.inl (Wq (c+1),List.set b (Int.toNat (GH a)) (Wq (f+1)),()))
else
some (.inl (Wq (c+1),b,()))
else
some (.inr (.inr false))
else
if GC a=2 then
(Xo d (GH a)).bind λe=>
if e then
if GC a=1 then
(atI b (GH a)).bind λf=>
some (.inl (Wq (c+1),List.set b (Int.toNat (GH a)) (Wq (f+1)),()))
else
some (.inl (Wq (c+1),b,()))
else
some (.inr (.inr false))
else
some (.inr (.inr false))
else
(YN b ()).bind λg=>
some (.inr (.inr !g))
def Zcd (f:Zr) (a:Zb) (d:Int) (c:List Int):Option ((Int×(List Int)×Unit)⊕Bool):=
if d<((KY a).length:Int)then
(atI (KY a) d).bind λb=>
(ZaE a f b).bind λg=>
if g then
(atI (K7 b) (Wq (((K7 b).length:Int)-1))).bind λe=>
(atI c e).bind λh=>
some (.inl (Wq (d+1),List.set c (Int.toNat e) (Wq (h+1)),()))
else
some (.inr false)
else
Zx (λv=>Zaq a v.1 v.2.1) ((0:Int),c,())
def Zg4 (b:Zr) (a:Zb):Option Bool:=
(Zgn b).bind λc=>
if c then
(Zbv a).bind λd=>
if d then
Zt ((0:Int)<=((K1 a).length:Int))<|
Zt (((K1 a).length:Int)<=((K1 a).length:Int))<|
Zt (((K1 a).length:Int)<=4611686018427387904)<|
Zt (((8:Nat):Int)*((K1 a).length:Int)<=281474976710656)<|
Zx (λv=>Zcd b a v.1 v.2.1) ((0:Int),List.replicate (Int.toNat ((K1 a).length:Int)) (0:Int),())
else
some false
else
some false
def c162:Ctr:=D2 (QW) (Y8) (.bool) Zg4
def ZbJ (d:Int) (c:Ze) (a:List ZL) (b:Int):Option (((List ZL)×Int×Unit)⊕(((List ZL)×Int×Unit)⊕List ZL)):=
if b<((K7 c).length:Int)then
(atI (K7 c) b).bind λe=>
Zt ((a.length+[(d,b,e,decide (b=Wq (((K7 c).length:Int)-1)),())].length)*32<=140737488355328)<|
some (.inl (a++[(d,b,e,decide (b=Wq (((K7 c).length:Int)-1)),())],Wq (b+1),()))
else
some (.inr (.inl (a,Wq (d+1),())))
def ZbK (d:Zb) (a:List ZL) (b:Int):Option (((List ZL)×Int×Unit)⊕(((List ZL)×Int×Unit)⊕List ZL)):=
if b<((Ga d).length:Int)then
(atI (Ga d) b).bind λc=>
Zt ((a.length+[((-1:Int),b,GH c,decide (GC c=1),())].length)*32<=140737488355328)<|
some (.inl (a++[((-1:Int),b,GH c,decide (GC c=1),())],Wq (b+1),()))
else
some (.inr (.inr a))
def ZbL (b:Zb) (a:List ZL) (c:Int):Option (((List ZL)×Int×Unit)⊕List ZL):=
if c<((KY b).length:Int)then
(atI (KY b) c).bind λd=>
Zx (λv=>ZbJ c d v.1 v.2.1) (a,(0:Int),())
else
Zx (λv=>ZbK b v.1 v.2.1) (a,(0:Int),())
def Z0 (a:Zb):Option (List ZL):=
Zx (λv=>ZbL a v.1 v.2.1) (([]:List ZL),(0:Int),())
def ZuI:Ctr:=⟨[.dat (Y8)],[.own (.ol 190 (.flat (ZmQ)))],λa K=>splitK a λb a=>Yf (Z0 b) λr=>K (r,()) ()⟩
def ZcL (d:Zq) (a:Int):Option ((Int×Unit)⊕Bool):=
if a<((K3 d).length:Int)then
(atI (K3 d) a).bind λc=>
if a=0 then
if c=(-1)then
(atI (Gx d) 0).bind λe=>
if e=0 then
if 0<a then
(Yy c 0 (Wq (a-1))).bind λb=>
if b then
some (.inl (Wq (a+1),()))
else
some (.inr false)
else
some (.inl (Wq (a+1),()))
else
some (.inr false)
else
some (.inr false)
else
if 0<a then
(Yy c 0 (Wq (a-1))).bind λb=>
if b then
some (.inl (Wq (a+1),()))
else
some (.inr false)
else
some (.inl (Wq (a+1),()))
else
some (.inr true)
def Zel (a:Zq):Option Bool:=
Zx (λv=>ZcL a v.1) ((0:Int),())
def c164:Ctr:=D1 (ZcR) (.bool) Zel
def ZhC (a:Zq) (b:Int):Option Bool:=
(Xp (K3 a)).bind λc=>
(Yy c 1 8).bind λk=>
if k then
(Xp (Gx a)).bind λi=>
if i=c then
(Xp (GD a)).bind λd=>
if d=c then
(Zel a).bind λj=>
if j then
(XT (Gx a) 0 1000).bind λg=>
if g then
(XT (GD a) 0 500).bind λh=>
if h then
(Xp (Gm a)).bind λe=>
if e=b then
(XT (Gm a) 0 (Wq (c-1))).bind λf=>
some f
else
some false
else
some false
else
some false
else
some false
else
some false
else
some false
else
some false
def ZGG:Ctr:=D2 (ZcR) Iq (.bool) ZhC
def Zfj (b:Za) (f:List Int) (a:Int):Option ((Int×Unit)⊕((Int×(List Int)×Unit)⊕Bool)):=
if a<((KZ b).length:Int)then
(atI (KZ b) a).bind λd=>
(atI f a).bind λe=>
(ZhC d e).bind λc=>
if c then
some (.inl (Wq (a+1),()))
else
some (.inr (.inr false))
else
some (.inr (.inr true))
def ZcW (f:Za) (a:List ZL) (c:Int) (b:List Int):Option ((Int×(List Int)×Unit)⊕Bool):=
if c<(a.length:Int)then
(atI a c).bind λd=>
if(GS d)=true then
some (.inl (Wq (c+1),b,()))
else
(atI b (ZL.net d)).bind λe=>
some (.inl (Wq (c+1),List.set b (Int.toNat (ZL.net d)) (Wq (e+1)),()))
else
Zx (λv=>Zfj f b v.1) ((0:Int),())
def ZeW (a:Za):Option Bool:=
(Zg4 (K4 a) (KX a)).bind λb=>
if b then
if((KZ a).length:Int)=((K1 (KX a)).length:Int)then
Zt ((0:Int)<=((KZ a).length:Int))<|
Zt (((KZ a).length:Int)<=((KZ a).length:Int))<|
Zt (((KZ a).length:Int)<=4611686018427387904)<|
Zt (((8:Nat):Int)*((KZ a).length:Int)<=281474976710656)<|
(Z0 (KX a)).bind λc=>
Zx (λv=>ZcW a c v.1 v.2.1) ((0:Int),List.replicate (Int.toNat ((KZ a).length:Int)) (0:Int),())
else
some false
else
some false
def ZFI:Ctr:=D1 (Yg) (.bool) ZeW
def Zc9 (a b:Int):Option Bool:=
if 100<=a then
if a<=b then
some (decide (b<=5000))
else
some false
else
some false
def c167:Ctr:=D2 Iq Iq (.bool) Zc9
def Zg3 (a:Zz):Option Bool:=
(Zes (GW a)).bind λb=>
if b then
(Zc9 (GZ a) (GY a)).bind λd=>
if d then
(Zc9 (G0 a) (G2 a)).bind λc=>
some c
else
some false
else
some false
def c168:Ctr:=D1 (XP) (.bool) Zg3
def Vz (a:ZH):Option (List (Int×Int×Unit)):=
if Gb a=2 then
some ([((0:Int),(0:Int),()),((0:Int),(1:Int),())])
else
if Gb a=3 then
some ([((1:Int),(0:Int),()),((1:Int),(1:Int),())])
else
if Gb a=1 then
if GE a=1 then
some ([((0:Int),(0:Int),()),((1:Int),(1:Int),())])
else
if GE a=2 then
some ([((0:Int),(1:Int),()),((1:Int),(0:Int),())])
else
some ([((0:Int),(0:Int),()),((0:Int),(1:Int),()),((1:Int),(0:Int),()),((1:Int),(1:Int),())])
else
some []
def ZIc:Ctr:=⟨[.dat (Zn7)],[.own (.ol 269 (.flat (.pair Iq (.pair Iq (.unit)))))],λa K=>splitK a λb a=>Yf (Vz b) λr=>K (r,()) ()⟩
def XH (b g:Int) (d:ZH) (a:List (Int×Int×Unit)) (c:List Zp) (f:Int):Option (((List Zp)×Int×Unit)⊕(((List Zp)×Int×Unit)⊕List Zp)):=
if f<(a.length:Int)then
(atI a f).bind λe=>
Zt ((c.length+[(Wq (Wq ((2:Int)*Wq (b+Gk d))+e.1),Wq (Wq ((2:Int)*Wq (b+Gp d))+e.2.1),(1:Int),g,())].length)*32<=140737488355328)<|
some (.inl (c++[(Wq (Wq ((2:Int)*Wq (b+Gk d))+e.1),Wq (Wq ((2:Int)*Wq (b+Gp d))+e.2.1),(1:Int),g,())],Wq (f+1),()))
else
some (.inr (.inl (c,Wq (g+1),())))
def Qw (b:Int) (d:Zn) (a:List Zp) (c:Int):Option (((List Zp)×Int×Unit)⊕List Zp):=
if c<((Gh d).length:Int)then
(atI (Gh d) c).bind λe=>
(Vz e).bind λf=>
Zx (λv=>XH b c e f v.1 v.2.1) (a,(0:Int),())
else
some (.inr a)
def VA (d:Za) (b:Ze) (a:Int):Option (List Zp):=
(atI (K9 (K4 d)) (Gq b)).bind λc=>
Zx (λv=>Qw a c v.1 v.2.1) (([]:List Zp),(0:Int),())
def ZId:Ctr:=⟨[.dat (Yg),.dat (Js),.dat Iq],[.own (.ol 209 (.flat (ZbZ)))],λa K=>splitK a λd a=>splitK a λc a=>splitK a λb a=>Yf (VA d c b) λr=>K (r,()) ()⟩
def ZG (a:List Int):Option (List Int):=
Zt ((([]:List Int).length+a.length)*8<=140737488355328)<|
some (([]:List Int)++a)
def c171:Ctr:=⟨[.dat (.sl Iq)],[.own (.ol 2 (.flat Iq))],λa K=>splitK a λb a=>Yf (ZG b) λr=>K (r,()) ()⟩
def Zcb (d:Int) (b:List ZL) (a:List Int) (c:Int):Option (((List Int)×Int×Unit)⊕List Int):=
if c<(b.length:Int)then
(atI b c).bind λe=>
if ZL.net e=d then
if(GS e)=true then
some (.inl (a,Wq (c+1),()))
else
Zt ((a.length+[c].length)*8<=140737488355328)<|
some (.inl (a++[c],Wq (c+1),()))
else
some (.inl (a,Wq (c+1),()))
else
some (.inr a)
def ZbM (c:Zb) (a:Int):Option (List Int):=
(Z0 c).bind λb=>
Zx (λv=>Zcb a b v.1 v.2.1) (([]:List Int),(0:Int),())
def ZGH:Ctr:=⟨[.dat (Y8),.dat Iq],[.own (.ol 2 (.flat Iq))],λa K=>splitK a λc a=>splitK a λb a=>Yf (ZbM c b) λr=>K (r,()) ()⟩
def Zaf (b:Zb) (f:Zr) (a:ZL):Option Int:=
if Gn a<0 then
some 0
else
(atI (KY b) (Gn a)).bind λc=>
(atI (K9 f) (Gq c)).bind λd=>
(atI (K5 d) (ZL.pin a)).bind λe=>
some (GX e)
def c173:Ctr:=D3 (Y8) (QW) (ZmQ) Iq Zaf
def Qx (d:Zq) (a:Int) (b:List Int):Option ((Int×(List Int)×Unit)⊕((Int×(List Int)×Unit)⊕List Int)):=
if 0<a then
(atI (K3 d) a).bind λc=>
(atI b c).bind λe=>
(atI b a).bind λf=>
some (.inl (Wq (a-1),List.set b (Int.toNat c) (Wq (e+f)),()))
else
some (.inr (.inr b))
def XI (e:Za) (f:Zq) (b:List ZL) (a:List Int) (c:Int) (d:List Int):Option ((Int×(List Int)×Unit)⊕List Int):=
if c<(a.length:Int)then
(atI a c).bind λj=>
(atI (Gm f) c).bind λg=>
(atI d g).bind λk=>
(atI b j).bind λh=>
(Zaf (KX e) (K4 e) h).bind λi=>
some (.inl (Wq (c+1),List.set d (Int.toNat g) (Wq (k+i)),()))
else
Zx (λv=>Qx f v.1 v.2.1) (Wq ((d.length:Int)-1),d,())
def Y4 (a:Za) (c:Int):Option (List Int):=
(atI (KZ a) c).bind λb=>
(ZG (GD b)).bind λd=>
(Z0 (KX a)).bind λf=>
(ZbM (KX a) c).bind λe=>
Zx (λv=>XI a b f e v.1 v.2.1) ((0:Int),d,())
def ZGI:Ctr:=⟨[.dat (Yg),.dat Iq],[.own (.ol 2 (.flat Iq))],λa K=>splitK a λc a=>splitK a λb a=>Yf (Y4 c b) λr=>K (r,()) ()⟩
def Qc (d:Zq) (a:List Int) (b:Int) (c:List Int):Option ((Int×(List Int)×Unit)⊕List Int):=
if b<(c.length:Int)then
(atI (K3 d) b).bind λf=>
(atI c f).bind λg=>
(atI (Gx d) b).bind λh=>
(atI a b).bind λe=>
(atI c b).bind λi=>
some (.inl (Wq (b+1),List.set c (Int.toNat b) (Wq (g+Wq (h*e))),()))
else
some (.inr c)
def Q5 (c:Za) (b:Int):Option (List Int):=
(atI (KZ c) b).bind λd=>
(Y4 c b).bind λa=>
Zt ((0:Int)<=(a.length:Int))<|
Zt ((a.length:Int)<=(a.length:Int))<|
Zt ((a.length:Int)<=4611686018427387904)<|
Zt (((8:Nat):Int)*(a.length:Int)<=281474976710656)<|
Zx (λv=>Qc d a v.1 v.2.1) ((1:Int),List.replicate (Int.toNat (a.length:Int)) (0:Int),())
def c175:Ctr:=⟨[.dat (Yg),.dat Iq],[.own (.ol 2 (.flat Iq))],λa K=>splitK a λc a=>splitK a λb a=>Yf (Q5 c b) λr=>K (r,()) ()⟩
def X6 (a:List Int) (e:Zq) (b:List Int) (c:Int):Option (((List Int)×Int×Unit)⊕List Int):=
if c<((Gm e).length:Int)then
(atI (Gm e) c).bind λf=>
(atI a f).bind λd=>
Zt ((b.length+[d].length)*8<=140737488355328)<|
some (.inl (b++[d],Wq (c+1),()))
else
some (.inr b)
def XZ (b:Za) (a:Int):Option (List Int):=
(Q5 b a).bind λc=>
(atI (KZ b) a).bind λd=>
Zx (λv=>X6 c d v.1 v.2.1) (([]:List Int),(0:Int),())
def ZIe:Ctr:=⟨[.dat (Yg),.dat Iq],[.own (.ol 2 (.flat Iq))],λa K=>splitK a λc a=>splitK a λb a=>Yf (XZ c b) λr=>K (r,()) ()⟩
def QF (g:List Int) (f b e a:Int) (c:List Zp):Option ((Int×(List Zp)×Unit)⊕((Int×(List Zp)×Unit)⊕((Int×(List Int)×(List (List Int))×(List Zp)×(List (List Int))×Unit)⊕((Int×(List Int)×(List (List Int))×Unit)⊕((Int×Int×(List Zp)×Unit)⊕ZM))))):=
if a<2 then
(atI g f).bind λd=>
Zt ((c.length+[(Wq (Wq ((2:Int)*d)+a),Wq (Wq ((2:Int)*e)+a),(2:Int),b,())].length)*32<=140737488355328)<|
some (.inl (Wq (a+1),c++[(Wq (Wq ((2:Int)*d)+a),Wq (Wq ((2:Int)*e)+a),(2:Int),b,())],()))
else
some (.inr (.inl (Wq (b+1),c,())))
def Vq (k:List Int) (b:Int) (f:List Int) (h g:List (List Int)) (i:Int) (a d:List Int) (c:Int) (e:List Zp):Option ((Int×(List Zp)×Unit)⊕((Int×(List Int)×(List (List Int))×(List Zp)×(List (List Int))×Unit)⊕((Int×(List Int)×(List (List Int))×Unit)⊕((Int×Int×(List Zp)×Unit)⊕ZM)))):=
if c<(d.length:Int)then
(atI d c).bind λj=>
Zx (λv=>QF k b c j v.1 v.2.1) ((0:Int),e,())
else
some (.inr (.inl (Wq (b+1),f++[i],h++[a],e,List.set g (Int.toNat b) d,())))
def Vr (c:Za) (a:List ZL) (l:List Int) (b:Int) (d:List Int) (e:List (List Int)) (f:List Zp) (g:List (List Int)):Option ((Int×(List Int)×(List (List Int))×(List Zp)×(List (List Int))×Unit)⊕((Int×(List Int)×(List (List Int))×Unit)⊕((Int×Int×(List Zp)×Unit)⊕ZM))):=
if b<((KZ c).length:Int)then
(Y4 c b).bind λj=>
(atI j 0).bind λh=>
Zt ((d.length+[h].length)*8<=140737488355328)<|
(XZ c b).bind λi=>
Zt ((e.length+[i].length)*24<=140737488355328)<|
(atI g b).bind λk=>
Zx (λv=>Vq l b d e g h i k v.1 v.2.1) ((0:Int),f,())
else
some (.inr (.inr (.inr (c,a,f,d,e,([]:List Int),()))))
def Vs (h:Za) (a:List ZL) (g:List Zp) (b:Int) (e:List Int) (d:List (List Int)):Option ((Int×(List Int)×(List (List Int))×Unit)⊕((Int×Int×(List Zp)×Unit)⊕ZM)):=
if b<(a.length:Int)then
(atI a b).bind λc=>
if(GS c)=true then
(atI e (ZL.net c)).bind λf=>
some (.inl (Wq (b+1),List.set e (Int.toNat (ZL.net c)) b,d,()))
else
(atI d (ZL.net c)).bind λf=>
Zt ((f.length+[b].length)*8<=140737488355328)<|
some (.inl (Wq (b+1),e,List.set d (Int.toNat (ZL.net c)) (f++[b]),()))
else
Zx (λv=>Vr h a e v.1 v.2.1 v.2.2.1 v.2.2.2.1 v.2.2.2.2.1) ((0:Int),([]:List Int),([]:List (List Int)),g,d,())
def Za2 (a:Za) (b:List ZL) (g c:Int) (d:List Zp):Option ((Int×Int×(List Zp)×Unit)⊕ZM):=
if c<((KY (KX a)).length:Int)then
(atI (KY (KX a)) c).bind λf=>
(VA a f g).bind λe=>
Zt ((d.length+e.length)*32<=140737488355328)<|
(Xp (K7 f)).bind λh=>
some (.inl (Wq (g+h),Wq (c+1),d++e,()))
else
Zt ((0:Int)<=((KZ a).length:Int))<|
Zt (((KZ a).length:Int)<=((KZ a).length:Int))<|
Zt (((KZ a).length:Int)<=4611686018427387904)<|
Zt (((8:Nat):Int)*((KZ a).length:Int)<=281474976710656)<|
Zt (((24:Nat):Int)*((KZ a).length:Int)<=281474976710656)<|
Zx (λv=>Vs a b d v.1 v.2.1 v.2.2.1) ((0:Int),List.replicate (Int.toNat ((KZ a).length:Int)) (0:Int),List.replicate (Int.toNat ((KZ a).length:Int)) (([]:List Int)),())
def VI (a:Za):Option ZM:=
(Z0 (KX a)).bind λb=>
Zx (λv=>Za2 a b v.1 v.2.1 v.2.2.1) ((0:Int),(0:Int),([]:List Zp),())
def ZDY:Ctr:=D1 (Yg) (.ptr (Zk2)) VI
def Y1 (a:List ZL):Option Int:=
some (a.length:Int)
def ZGJ:Ctr:=D1 (.sl (ZmQ)) Iq Y1
def YC (b:ZM):Option Int:=
(Y1 (ZM.places b)).bind λa=>
some (Wq (2*a))
def ZA3:Ctr:=D1 (.ptr (Zk2)) Iq YC
def Zcv (a:List Bool):Option Int:=
some (a.length:Int)
def ZGK:Ctr:=D1 (.sl (.bool)) Iq Zcv
def Jp (a:List ZA):Option Int:=
some (a.length:Int)
def ZIf:Ctr:=D1 (.sl (ZaA)) Iq Jp
def Zjh (b:Int):Option Bool:=
(Yy b (-1000000000) 1000000000).bind λa=>
some a
def c182:Ctr:=D1 Iq (.bool) Zjh
def JJ (a:ZA):Option Bool:=
(Zjh (Gc a)).bind λb=>
if b then
(Zjh (Gg a)).bind λc=>
if c then
some (decide (Gc a<=Gg a))
else
some false
else
some false
def c183:Ctr:=D1 (ZaA) (.bool) JJ
def Zjg (b:Int):Option Bool:=
(Yy b 0 1000000).bind λa=>
some a
def ZIg:Ctr:=D1 Iq (.bool) Zjg
def Zfl (a:ZA):Option Bool:=
(JJ a).bind λb=>
if b then
(Zjg (Gc a)).bind λd=>
if d then
(Zjg (Gg a)).bind λc=>
some c
else
some false
else
some false
def ZGL:Ctr:=D1 (ZaA) (.bool) Zfl
def JA (b:Zf) (a:Int):Option ((Int×Unit)⊕Bool):=
if a<((K6 b).length:Int)then
(atI (K6 b) a).bind λf=>
(atI (Gu b) a).bind λc=>
(JJ c).bind λe=>
if e then
(atI (Gs b) a).bind λd=>
(Zfl d).bind λg=>
if g then
if f then
some (.inl (Wq (a+1),()))
else
if(decide (Gc c=0)&&decide (Gg c=0))=true then
if(decide (Gc d=0)&&decide (Gg d=0))=true then
some (.inl (Wq (a+1),()))
else
some (.inr false)
else
some (.inr false)
else
some (.inr false)
else
some (.inr false)
else
some (.inr true)
def Za3 (c:ZM) (a:Zf):Option Bool:=
(YC c).bind λb=>
(Zcv (K6 a)).bind λf=>
if f=b then
(Jp (Gu a)).bind λe=>
if e=b then
(Jp (Gs a)).bind λd=>
if d=b then
Zx (λv=>JA a v.1) ((0:Int),())
else
some false
else
some false
else
some false
def ZGM:Ctr:=D2 (.ptr (Zk2)) (ZgU) (.bool) Za3
def Za1 (a:List Zp):Option Int:=
some (a.length:Int)
def ZIh:Ctr:=D1 (.sl (ZbZ)) Iq Za1
def QG (e:ZM) (a:List Int):Option Bool:=
(Za1 (ZM.links e)).bind λb=>
(XT a 0 (Wq (b-1))).bind λd=>
if d then
(VX a).bind λc=>
some c
else
some false
def ZGN:Ctr:=D2 (.ptr (Zk2)) (.sl Iq) (.bool) QG
def Zem (c:ZM) (a:Int):Option Bool:=
(YC c).bind λb=>
(Yy a 0 (Wq (b-1))).bind λd=>
some d
def ZIi:Ctr:=D2 (.ptr (Zk2)) Iq (.bool) Zem
def VN (h:ZM) (a:List Zj) (b:Int):Option ((Int×Unit)⊕Bool):=
if b<(a.length:Int)then
(atI a b).bind λc=>
(Zem h (Ge c)).bind λd=>
if d then
(JJ (GJ c)).bind λf=>
if f then
(Zfl (GN c)).bind λe=>
if e then
if 0<b then
(atI a (Wq (b-1))).bind λg=>
if Ge c<=Ge g then
some (.inr false)
else
some (.inl (Wq (b+1),()))
else
some (.inl (Wq (b+1),()))
else
some (.inr false)
else
some (.inr false)
else
some (.inr false)
else
some (.inr true)
def VF (b:ZM) (a:List Zj):Option Bool:=
Zx (λv=>VN b a v.1) ((0:Int),())
def ZGO:Ctr:=D2 (.ptr (Zk2)) (.sl (XQ)) (.bool) VF
def Vt (e:ZM) (a:List Int) (b:Int) (c:List Bool):Option ((Int×(List Bool)×Unit)⊕((Int×(List Bool)×Unit)⊕ZO)):=
if b<(a.length:Int)then
(atI a b).bind λd=>
(atI c d).bind λf=>
some (.inl (Wq (b+1),List.set c (Int.toNat d) false,()))
else
some (.inr (.inr (e,c,())))
def Zcf (d:ZM) (a:List Int) (b:Int) (c:List Bool):Option ((Int×(List Bool)×Unit)⊕ZO):=
if b<(((List.replicate (Int.toNat ((ZM.links d).length:Int)) false).length):Int)then
(atI c b).bind λe=>
some (.inl (Wq (b+1),List.set c (Int.toNat b) true,()))
else
Zx (λv=>Vt d a v.1 v.2.1) ((0:Int),c,())
def VY (a:ZM) (b:List Int):Option ZO:=
Zt ((0:Int)<=((ZM.links a).length:Int))<|
Zt (((ZM.links a).length:Int)<=((ZM.links a).length:Int))<|
Zt (((ZM.links a).length:Int)<=4611686018427387904)<|
Zt (((1:Nat):Int)*((ZM.links a).length:Int)<=281474976710656)<|
Zx (λv=>Zcf a b v.1 v.2.1) ((0:Int),List.replicate (Int.toNat ((ZM.links a).length:Int)) false,())
def ZGP:Ctr:=D2 (.ptr (Zk2)) (.sl Iq) (.ptr (ZgJ)) VY
def Zer (a:Zp):Option Bool:=
some true
def ZIj:Ctr:=D1 (ZbZ) (.bool) Zer
def YU (c:ZO) (a:List Int) (b:Int):Option (((List Int)×Int×Unit)⊕List Int):=
if b<((ZM.links (GB c)).length:Int)then
(atI (ZM.links (GB c)) b).bind λe=>
(atI (ZO.live c) b).bind λf=>
if f then
(Zer e).bind λd=>
if d then
Zt ((a.length+[b].length)*8<=140737488355328)<|
some (.inl (a++[b],Wq (b+1),()))
else
some (.inl (a,Wq (b+1),()))
else
some (.inl (a,Wq (b+1),()))
else
some (.inr a)
def Xl (a:ZO) (b:Unit):Option (List Int):=
Zx (λv=>YU a v.1 v.2.1) (([]:List Int),(0:Int),())
def c193:Ctr:=⟨[.dat (.ptr (ZgJ)),.dat (.fn 172 (.unit))],[.own (.ol 2 (.flat Iq))],λa K=>splitK a λc a=>splitK a λb a=>Yf (Xl c b) λr=>K (r,()) ()⟩
def Qf (b:List Int) (d a:Int):Option ((Int×Unit)⊕Int):=
if a<(b.length:Int)then
(atI b a).bind λc=>
if d=c then
some (.inr a)
else
some (.inl (Wq (a+1),()))
else
some (.inr (-1))
def Za8 (a:List Int) (b:Int):Option Int:=
Zx (λv=>Qf a b v.1) ((0:Int),())
def c194:Ctr:=D2 (.sl Iq) Iq Iq Za8
def Zfo (b:Zp) (a:Int):Option Bool:=
some (decide (Gd b=a))
def ZIk:Ctr:=D2 (ZbZ) (.ptr Iq) (.bool) Zfo
def YZ (c:ZO) (d:Int×Unit) (a:List Int) (b:Int):Option (((List Int)×Int×Unit)⊕List Int):=
if b<((ZM.links (GB c)).length:Int)then
(atI (ZM.links (GB c)) b).bind λf=>
(atI (ZO.live c) b).bind λg=>
if g then
(Zfo f d.1).bind λe=>
if e then
Zt ((a.length+[b].length)*8<=140737488355328)<|
some (.inl (a++[b],Wq (b+1),()))
else
some (.inl (a,Wq (b+1),()))
else
some (.inl (a,Wq (b+1),()))
else
some (.inr a)
def Qd (b:ZO) (a:Int×Unit):Option (List Int):=
Zx (λv=>YZ b a v.1 v.2.1) (([]:List Int),(0:Int),())
def c196:Ctr:=⟨[.dat (.ptr (ZgJ)),.dat (.fn 232 (.pair (.ptr Iq) (.unit)))],[.own (.ol 2 (.flat Iq))],λa K=>splitK a λc a=>splitK a λb a=>Yf (Qd c b) λr=>K (r,()) ()⟩
def Zfn (c:ZO) (a:Int):Option (List Int):=
(Qd c (a,())).bind λb=>
some b
def ZIl:Ctr:=⟨[.dat (.ptr (ZgJ)),.dat Iq],[.own (.ol 2 (.flat Iq))],λa K=>splitK a λc a=>splitK a λb a=>Yf (Zfn c b) λr=>K (r,()) ()⟩
def QL (g:ZO) (f:List Int) (h d:Int) (a:List Int) (b:Int) (c:List Int):Option ((Int×(List Int)×Unit)⊕(((List Int)×Int×(List Int)×Unit)⊕((Int×(List Int)×Unit)⊕((List Int)×Bool)))):=
if b<(a.length:Int)then
(atI a b).bind λi=>
(atI (ZM.links (GB g)) i).bind λe=>
(atI c (Gf e)).bind λj=>
some (.inl (Wq (b+1),List.set c (Int.toNat (Gf e)) (Wq (j-1)),()))
else
some (.inr (.inl (f++[d],Wq (h+1),c,())))
def Xf (d:ZO) (g b:List Int) (e:Int) (c:List Int):Option (((List Int)×Int×(List Int)×Unit)⊕((Int×(List Int)×Unit)⊕((List Int)×Bool))):=
if e<(g.length:Int)then
(Za8 c 0).bind λa=>
if a<0 then
some (.inr (.inr (([]:List Int),false)))
else
(atI c a).bind λh=>
Zt ((b.length+[a].length)*8<=140737488355328)<|
(Zfn d a).bind λf=>
Zx (λv=>QL d b e a f v.1 v.2.1) ((0:Int),List.set c (Int.toNat a) (-1:Int),())
else
some (.inr (.inr (b,true)))
def QM (d:ZO) (a:List Int) (c:Int) (b:List Int):Option ((Int×(List Int)×Unit)⊕((List Int)×Bool)):=
if c<(a.length:Int)then
(atI a c).bind λf=>
(atI (ZM.links (GB d)) f).bind λe=>
(atI b (Gf e)).bind λg=>
some (.inl (Wq (c+1),List.set b (Int.toNat (Gf e)) (Wq (g+1)),()))
else
Zx (λv=>Xf d b v.1 v.2.1 v.2.2.1) (([]:List Int),(0:Int),b,())
def ZaR (b:ZO):Option ((List Int)×Bool):=
(YC (GB b)).bind λa=>
Zt ((0:Int)<=a)<|
Zt (a<=a)<|
Zt (a<=4611686018427387904)<|
Zt (((8:Nat):Int)*a<=281474976710656)<|
(Xl b ()).bind λc=>
Zx (λv=>QM b c v.1 v.2.1) ((0:Int),List.replicate (Int.toNat a) (0:Int),())
def c198:Ctr:=⟨[.dat (.ptr (ZgJ))],[.own (.ol 2 (.flat Iq)),.dat (.bool)],λa K=>splitK a λb a=>Yf (ZaR b) λr=>K (r.1,r.2,()) ()⟩
def QT (i:Za) (j:Zz) (a:List Int) (b:List Zj) (h:Option Zf):Option ((Option ZO)×(List Int)×Int):=
(ZeW i).bind λm=>
if m then
(Zg3 j).bind λn=>
if n then
(VI i).bind λc=>
if(Option.isNone h)=true then
(QG c a).bind λf=>
if f then
(VF c b).bind λg=>
if g then
(VY c a).bind λd=>
(ZaR d).bind λe=>
if e.2 then
some (Option.some d,e.1,0)
else
some (Option.none,[],7)
else
some (Option.none,[],2)
else
some (Option.none,[],2)
else
(h).bind λl=>
(Za3 c l).bind λk=>
if k then
(QG c a).bind λf=>
if f then
(VF c b).bind λg=>
if g then
(VY c a).bind λd=>
(ZaR d).bind λe=>
if e.2 then
some (Option.some d,e.1,0)
else
some (Option.none,[],7)
else
some (Option.none,[],2)
else
some (Option.none,[],2)
else
some (Option.none,[],1)
else
some (Option.none,[],1)
else
some (Option.none,[],1)
def ZGQ:Ctr:=⟨[.dat (Yg),.dat (XP),.dat (.sl Iq),.dat (.sl (XQ)),.dat (.nptr (ZgU))],[.dat (.nptr (ZgJ)),.own (.ol 2 (.flat Iq)),.dat Iq],λa K=>splitK a λf a=>splitK a λd a=>splitK a λc a=>splitK a λb a=>splitK a λe a=>Yf (QT f d c b e) λr=>K (r.1,r.2.1,r.2.2,()) ()⟩
def VZ (b:ZM):Option Zf:=
(YC b).bind λa=>
Zt ((0:Int)<=a)<|
Zt (a<=a)<|
Zt (a<=4611686018427387904)<|
Zt (((1:Nat):Int)*a<=281474976710656)<|
Zt (((16:Nat):Int)*a<=281474976710656)<|
some (List.replicate (Int.toNat a) false,List.replicate (Int.toNat a) ((0:Int),(0:Int),()),List.replicate (Int.toNat a) ((0:Int),(0:Int),()),())
def ZGR:Ctr:=⟨[.dat (.ptr (Zk2))],[.own (Zfb)],λa K=>splitK a λb a=>Yf (VZ b) λr=>K (r,()) ()⟩
def ZgQ (a:Zj) (b:Int):Option Bool:=
some (decide (Ge a=b))
def c201:Ctr:=D2 (XQ) (.ptr Iq) (.bool) ZgQ
def Yp (b:List Zj) (d:Int×Unit) (a:Int):Option ((Int×Unit)⊕Int):=
if a<(b.length:Int)then
(atI b a).bind λe=>
(ZgQ e d.1).bind λc=>
if c then
some (.inr a)
else
some (.inl (Wq (a+1),()))
else
some (.inr (-1))
def Yb (a:List Zj) (b:Int×Unit):Option Int:=
Zx (λv=>Yp a b v.1) ((0:Int),())
def ZIm:Ctr:=D2 (.sl (XQ)) (.fn 234 (.pair (.ptr Iq) (.unit))) Iq Yb
def Zg8 (a:List Zj) (b:Int):Option (Zj×Bool):=
(Yb a (b,())).bind λc=>
if 0<=c then
(atI a c).bind λd=>
some (d,true)
else
some ((0,(0,0,()),(0,0,()),()),false)
def c203:Ctr:=⟨[.dat (.sl (XQ)),.dat Iq],[.dat (XQ),.dat (.bool)],λa K=>splitK a λc a=>splitK a λb a=>Yf (Zg8 c b) λr=>K (r.1,r.2,()) ()⟩
def Ziy (a b:ZA):Option ZA:=
some (Min.min (Gc a) (Gc b),Max.max (Gg a) (Gg b),())
def ZIn:Ctr:=D2 (ZaA) (ZaA) (ZaA) Ziy
def ZaQ (d:Zj) (a:Bool) (b c:ZA):Option (Zj×Bool):=
if a then
(Ziy (GJ d) b).bind λe=>
(Ziy (GN d) c).bind λf=>
some ((Ge d,e,f,()),a)
else
some ((Ge d,b,c,()),true)
def ZIo:Ctr:=⟨[.io (.flat (XQ)),.io (.flat (.bool)),.dat (ZaA),.dat (ZaA)],[],λa K=>splitK a λe a=>splitK a λb a=>splitK a λc a=>splitK a λd a=>Yf (ZaQ e b c d) λr=>K () (r.1,r.2,())⟩
def ZgP (b:Zp) (a:Int):Option Bool:=
some (decide (Gf b=a))
def c206:Ctr:=D2 (ZbZ) (.ptr Iq) (.bool) ZgP
def Y6 (c:ZO) (d:Int×Unit) (a:List Int) (b:Int):Option (((List Int)×Int×Unit)⊕List Int):=
if b<((ZM.links (GB c)).length:Int)then
(atI (ZM.links (GB c)) b).bind λf=>
(atI (ZO.live c) b).bind λg=>
if g then
(ZgP f d.1).bind λe=>
if e then
Zt ((a.length+[b].length)*8<=140737488355328)<|
some (.inl (a++[b],Wq (b+1),()))
else
some (.inl (a,Wq (b+1),()))
else
some (.inl (a,Wq (b+1),()))
else
some (.inr a)
def QA (b:ZO) (a:Int×Unit):Option (List Int):=
Zx (λv=>Y6 b a v.1 v.2.1) (([]:List Int),(0:Int),())
def ZIp:Ctr:=⟨[.dat (.ptr (ZgJ)),.dat (.fn 236 (.pair (.ptr Iq) (.unit)))],[.own (.ol 2 (.flat Iq))],λa K=>splitK a λc a=>splitK a λb a=>Yf (QA c b) λr=>K (r,()) ()⟩
def Zce (c:ZO) (a:Int):Option (List Int):=
(QA c (a,())).bind λb=>
some b
def c208:Ctr:=⟨[.dat (.ptr (ZgJ)),.dat Iq],[.own (.ol 2 (.flat Iq))],λa K=>splitK a λc a=>splitK a λb a=>Yf (Zce c b) λr=>K (r,()) ()⟩
def ZbO (c:ZM) (b:Zp):Option Int:=
(atI (ZM.places c) (Wq (Int.tdiv (Gf b) 2))).bind λa=>
some (ZL.net a)
def ZFJ:Ctr:=D2 (.ptr (Zk2)) (ZbZ) Iq ZbO
def Zdc (a:ZM) (b:Zp):Option ZH:=
(atI (ZM.places a) (Wq (Int.tdiv (Gf b) 2))).bind λc=>
(atI (KY (KX (GV a))) (Gn c)).bind λd=>
(atI (K9 (K4 (GV a))) (Gq d)).bind λe=>
(atI (Gh e) (GU b)).bind λf=>
some f
def c210:Ctr:=D2 (.ptr (Zk2)) (ZbZ) (Zn7) Zdc
def Zfa (a:Int):Option Bool:=
some (!decide (a=a))
def ZIq:Ctr:=D1 Iq (.bool) Zfa
def Zgj (b a:Int):Option Bool:=
(Zfa b).bind λd=>
if d then
(Zfa a).bind λc=>
if c then
some (decide (b<a))
else
some true
else
some (decide (b<a))
def c212:Ctr:=D2 Iq Iq (.bool) Zgj
def Za9 (a:Int):Option Bool:=
some (!decide (a=a))
def c213:Ctr:=D1 Iq (.bool) Za9
def Qt (f:List Int) (a b c:Int):Option ((Int×Int×Unit)⊕(Int×Bool)):=
if b<c then
(atI f (Wq (Int.fdiv (IntKind.wrap IntKind.u64 (Wq (b+c))) (2^Min.min (Int.toNat 1) (IntKind.bits IntKind.u64))))).bind λd=>
(Zgj d a).bind λe=>
if e then
some (.inl (Wq (Wq (Int.fdiv (IntKind.wrap IntKind.u64 (Wq (b+c))) (2^Min.min (Int.toNat 1) (IntKind.bits IntKind.u64)))+1),c,()))
else
some (.inl (b,Wq (Int.fdiv (IntKind.wrap IntKind.u64 (Wq (b+c))) (2^Min.min (Int.toNat 1) (IntKind.bits IntKind.u64))),()))
else
if b<(f.length:Int)then
(atI f b).bind λd=>
if d=a then
some (.inr (b,true))
else
(Za9 d).bind λe=>
if e then
(Za9 a).bind λg=>
some (.inr (b,g))
else
some (.inr (b,false))
else
some (.inr (b,false))
def Qb (b:List Int) (a:Int):Option (Int×Bool):=
Zx (λv=>Qt b a v.1 v.2.1) ((0:Int),(b.length:Int),())
def ZIr:Ctr:=⟨[.dat (.sl Iq),.dat Iq],[.dat Iq,.dat (.bool)],λa K=>splitK a λc a=>splitK a λb a=>Yf (Qb c b) λr=>K (r.1,r.2,()) ()⟩
def ZgB (a:List Int) (c:Int):Option ((List ZcJ)×Int):=
(atI a 0).bind λd=>
(atI a (Wq ((a.length:Int)-1))).bind λe=>
(Qb a (Min.min (Max.max c d) e)).bind λb=>
if b.2 then
some ([(b.1,(1:Int),())],1)
else
(atI a b.1).bind λg=>
(atI a (Wq (b.1-1))).bind λf=>
some ([(Wq (b.1-1),Wq (g-Min.min (Max.max c d) e),()),(b.1,Wq (Min.min (Max.max c d) e-f),())],Wq (g-f))
def ZIs:Ctr:=⟨[.dat (.sl Iq),.dat Iq],[.own (.ol 374 (.flat (ZvR))),.dat Iq],λa K=>splitK a λb a=>splitK a λc a=>Yf (ZgB b c) λr=>K (r.1,r.2,()) ()⟩
def Zda (b a c:Int):Option Int:=
Zt (a≠0)<|
if c=0 then
if Int.tmod b a<0 then
some (Wq (Wq (Int.tdiv b a)-1))
else
if c=1 then
if 0<Int.tmod b a then
some (Wq (Wq (Int.tdiv b a)+1))
else
some (Wq (Int.tdiv b a))
else
some (Wq (Int.tdiv b a))
else
if c=1 then
if 0<Int.tmod b a then
some (Wq (Wq (Int.tdiv b a)+1))
else
some (Wq (Int.tdiv b a))
else
some (Wq (Int.tdiv b a))
def ZFh:Ctr:=D3 Iq Iq Iq Iq Zda
def Qk (d:ZB) (a:List ZcJ×Int) (g:Int) (c:ZcJ) (f b:Int):Option ((Int×Int×Unit)⊕((Int×Int×Unit)⊕Int)):=
if b<(a.1.length:Int)then
(atI a.1 b).bind λe=>
(atI (Gr d) (Wq (Wq (ZcJ.index c*((Gt d).length:Int))+ZcJ.index e))).bind λh=>
some (.inl (Wq (f+Wq (Wq (h*ZcJ.part c)*ZcJ.part e)),Wq (b+1),()))
else
some (.inr (.inl (f,Wq (g+1),())))
def Y5 (e:ZB) (f:Int) (a b:List ZcJ×Int) (d c:Int):Option ((Int×Int×Unit)⊕Int):=
if c<(a.1.length:Int)then
(atI a.1 c).bind λh=>
Zx (λv=>Qk e b c h v.1 v.2.1) (d,(0:Int),())
else
(Zda d (Wq (a.2*b.2)) f).bind λg=>
some (.inr g)
def ZbN (a:ZB) (d c f:Int):Option Int:=
(ZgB (GO a) d).bind λb=>
(ZgB (Gt a) c).bind λe=>
Zx (λv=>Y5 a f b e v.1 v.2.1) ((0:Int),(0:Int),())
def ZGS:Ctr:=D4 (Zac) Iq Iq Iq Iq ZbN
def ZaX (c:Zz) (b a:Int):Option Int:=
if b=1 then
if a=0 then
some (GZ c)
else
if b=1 then
some (GY c)
else
if a=0 then
some (G0 c)
else
some (G2 c)
else
if b=1 then
some (GY c)
else
if a=0 then
some (G0 c)
else
some (G2 c)
def c218:Ctr:=D3 (XP) Iq Iq Iq ZaX
def ZiO (d a b:Int):Option Int:=
(Zda (Wq (d*a)) 1000 b).bind λc=>
some c
def ZIt:Ctr:=D3 Iq Iq Iq Iq ZiO
def Zar (c:ZM) (i:Zz) (l k b:Int):Option Int:=
(atI (ZM.links c) l).bind λa=>
(ZbO c a).bind λh=>
if GL a=1 then
(atI (ZM.loads c) h).bind λf=>
(Zdc c a).bind λn=>
(atI (GF n) (Int.tmod (Gf a) 2)).bind λg=>
(ZbN g k f b).bind λm=>
(ZaX i (GL a) b).bind λd=>
(ZiO m d b).bind λe=>
some e
else
(atI (ZM.ZiM c) h).bind λf=>
(atI f (GU a)).bind λg=>
(Zda g 1000 b).bind λj=>
(ZaX i (GL a) b).bind λd=>
(ZiO j d b).bind λe=>
some e
def ZIu:Ctr:=⟨[.dat (.ptr (Zk2)),.dat (XP),.dat Iq,.dat Iq,.dat Iq],[.dat Iq],λa K=>splitK a λb a=>splitK a λe a=>splitK a λd a=>splitK a λc a=>splitK a λf a=>Yf (Zar b e d c f) λr=>K (r,()) ()⟩
def Zdb (c b a:Int):Option ((Int×Int×Unit)⊕Int):=
if b<a then
if Wq (Wq (Int.tdiv (Wq (Wq (b+a)+1)) 2)*Wq (Int.tdiv (Wq (Wq (b+a)+1)) 2))<=c then
some (.inl (Wq (Int.tdiv (Wq (Wq (b+a)+1)) 2),a,()))
else
some (.inl (b,Wq (Wq (Int.tdiv (Wq (Wq (b+a)+1)) 2)-1),()))
else
some (.inr b)
def Zmq (a:Int):Option Int:=
Zx (λv=>Zdb a v.1 v.2.1) ((0:Int),(3000000000:Int),())
def ZIv:Ctr:=D1 Iq Iq Zmq
def Zg9 (b a c:Int):Option Int:=
(Zmq (Wq (Wq (Wq (Wq (500*b)*500)*b)+Wq (a*a)))).bind λd=>
if c=1 then
if Wq (d*d)<Wq (Wq (Wq (Wq (500*b)*500)*b)+Wq (a*a))then
some (Wq (Wq (Int.tdiv d 500)+1))
else
(Zda d 500 c).bind λe=>
some e
else
(Zda d 500 c).bind λe=>
some e
def c222:Ctr:=D3 Iq Iq Iq Iq Zg9
def Xw (d:ZM) (e a b:Int):Option Int:=
(atI (ZM.links d) e).bind λc=>
(ZbO d c).bind λh=>
if GL c=1 then
(atI (ZM.loads d) h).bind λf=>
(Zdc d c).bind λk=>
(atI (GM k) (Int.tmod (Gf c) 2)).bind λg=>
(ZbN g a f b).bind λj=>
some (Min.min j 1000000)
else
(atI (ZM.ZiM d) h).bind λf=>
(atI f (GU c)).bind λg=>
(Zg9 a g b).bind λi=>
some (Min.min i 1000000)
def ZIw:Ctr:=D4 (.ptr (Zk2)) Iq Iq Iq Iq Xw
def ZbP (a:ZM) (h:Zz) (b:Int) (c:ZA):Option (ZA×ZA):=
(Zar a h b (Gc c) 0).bind λj=>
(Zar a h b (Gg c) 0).bind λl=>
(Zar a h b (Gc c) 1).bind λk=>
(Zar a h b (Gg c) 1).bind λi=>
(atI (ZM.links a) b).bind λm=>
if 0<((ZM.extras a).length:Int)then
if GL m=2 then
(ZbO a m).bind λo=>
(atI (ZM.extras a) o).bind λn=>
(Xw a b (Gc c) 0).bind λf=>
(Xw a b (Gg c) 0).bind λg=>
(Xw a b (Gc c) 1).bind λd=>
(Xw a b (Gg c) 1).bind λe=>
some ((Wq (Min.min j l-n),Wq (Max.max k i+n),()),(Min.min f g,Max.max d e,()))
else
(Xw a b (Gc c) 0).bind λf=>
(Xw a b (Gg c) 0).bind λg=>
(Xw a b (Gc c) 1).bind λd=>
(Xw a b (Gg c) 1).bind λe=>
some ((Min.min j l,Max.max k i,()),(Min.min f g,Max.max d e,()))
else
(Xw a b (Gc c) 0).bind λf=>
(Xw a b (Gg c) 0).bind λg=>
(Xw a b (Gc c) 1).bind λd=>
(Xw a b (Gg c) 1).bind λe=>
some ((Min.min j l,Max.max k i,()),(Min.min f g,Max.max d e,()))
def ZIx:Ctr:=⟨[.dat (.ptr (Zk2)),.dat (XP),.dat Iq,.dat (ZaA)],[.dat (ZaA),.dat (ZaA)],λa K=>splitK a λb a=>splitK a λe a=>splitK a λd a=>splitK a λc a=>Yf (ZbP b e d c) λr=>K (r.1,r.2,()) ()⟩
def Ziz (a b:ZA):Option ZA:=
some (Wq (Gc a+Gc b),Wq (Gg a+Gg b),())
def ZIy:Ctr:=D2 (ZaA) (ZaA) (ZaA) Ziz
def ZhX (l:ZO) (p:Zz) (f:Zf) (c:List Int) (b d e k j g:Int) (h:Bool):Option ((Int×Int×Int×Int×Int×Int×Bool×Unit)⊕(Bool×Zj)):=
if b<(c.length:Int)then
(atI c b).bind λn=>
(atI (ZM.links (GB l)) n).bind λi=>
(atI (K6 f) (Gd i)).bind λr=>
if r then
(atI (Gs f) (Gd i)).bind λs=>
(ZbP (GB l) p n s).bind λm=>
(atI (Gu f) (Gd i)).bind λo=>
(Ziz o m.1).bind λq=>
(ZaQ (d,(e,k,()),(j,g,()),()) h q m.2).bind λa=>
some (.inl (Wq (b+1),a.1.1,a.1.2.1.1,a.1.2.1.2.1,a.1.2.2.1.1,a.1.2.2.1.2.1,a.2,()))
else
some (.inl (Wq (b+1),d,e,k,j,g,h,()))
else
if h then
some (.inr (true,(d,(e,k,()),(j,g,()),())))
else
some (.inr (false,(0,(0,0,()),(0,0,()),())))
def XJ (l:ZO) (p:Zz) (f:Zf) (c:List Int) (b d e k j g:Int) (h:Bool):Option ((Int×Int×Int×Int×Int×Int×Bool×Unit)⊕(Bool×Zj)):=
if b<(c.length:Int)then
(atI c b).bind λn=>
(atI (ZM.links (GB l)) n).bind λi=>
(atI (K6 f) (Gd i)).bind λr=>
if r then
(atI (Gs f) (Gd i)).bind λs=>
(ZbP (GB l) p n s).bind λm=>
(atI (Gu f) (Gd i)).bind λo=>
(Ziz o m.1).bind λq=>
(ZaQ (d,(e,k,()),(j,g,()),()) h q m.2).bind λa=>
some (.inl (Wq (b+1),a.1.1,a.1.2.1.1,a.1.2.1.2.1,a.1.2.2.1.1,a.1.2.2.1.2.1,a.2,()))
else
some (.inl (Wq (b+1),d,e,k,j,g,h,()))
else
if h then
some (.inr (true,(d,(e,k,()),(j,g,()),())))
else
some (.inr (false,(0,(0,0,()),(0,0,()),())))
def Xj (c:ZO) (g:Zz) (h:List Zj) (f:Zf) (b:Int):Option (Bool×Zj):=
(Zg8 h b).bind λd=>
if d.2 then
(ZaQ (b,(0,0,()),(0,0,()),()) false d.1.2.1 d.1.2.2.1).bind λa=>
(Zce c b).bind λe=>
Zx (λv=>ZhX c g f e v.1 v.2.1 v.2.2.1 v.2.2.2.1 v.2.2.2.2.1 v.2.2.2.2.2.1 v.2.2.2.2.2.2.1) ((0:Int),a.1.1,a.1.2.1.1,a.1.2.1.2.1,a.1.2.2.1.1,a.1.2.2.1.2.1,a.2,())
else
(Zce c b).bind λe=>
Zx (λv=>XJ c g f e v.1 v.2.1 v.2.2.1 v.2.2.2.1 v.2.2.2.2.1 v.2.2.2.2.2.1 v.2.2.2.2.2.2.1) ((0:Int),b,(0:Int),(0:Int),(0:Int),(0:Int),false,())
def c226:Ctr:=⟨[.dat (.ptr (ZgJ)),.dat (XP),.dat (.sl (XQ)),.dat (ZgU),.dat Iq],[.dat (.bool),.dat (XQ)],λa K=>splitK a λb a=>splitK a λe a=>splitK a λd a=>splitK a λc a=>splitK a λf a=>Yf (Xj b e d c f) λr=>K (r.1,r.2,()) ()⟩
def Yr (m:ZO) (l:Zz) (d:List Zj) (b:List Int) (h:Int) (j:List Bool) (k i:List ZA) (g:List Bool) (f e:List ZA):Option ((Int×(List Bool)×(List ZA)×(List ZA)×(List Bool)×(List ZA)×(List ZA)×Unit)⊕(Zf×Bool)):=
if h<(b.length:Int)then
(atI b h).bind λa=>
(Xj m l d (g,f,e,()) a).bind λc=>
if c.1 then
(JJ c.2.2.1).bind λn=>
if n then
(atI g a).bind λo=>
(atI f a).bind λp=>
(atI e a).bind λq=>
some (.inl (Wq (h+1),j,k,i,List.set g (Int.toNat a) c.1,List.set f (Int.toNat a) c.2.2.1,List.set e (Int.toNat a) c.2.2.2.1,()))
else
some (.inr ((([]:List Bool),([]:List ZA),([]:List ZA),()),false))
else
(atI g a).bind λo=>
(atI f a).bind λp=>
(atI e a).bind λq=>
some (.inl (Wq (h+1),j,k,i,List.set g (Int.toNat a) c.1,List.set f (Int.toNat a) c.2.2.1,List.set e (Int.toNat a) c.2.2.2.1,()))
else
some (.inr ((g,f,e,()),true))
def JO (d:ZO) (e:Zz) (a:List Zj) (b:List Int):Option (Zf×Bool):=
(VZ (GB d)).bind λc=>
Zx (λv=>Yr d e a b v.1 v.2.1 v.2.2.1 v.2.2.2.1 v.2.2.2.2.1 v.2.2.2.2.2.1 v.2.2.2.2.2.2.1) ((0:Int),([]:List Bool),([]:List ZA),([]:List ZA),K6 c,Gu c,Gs c,())
def c227:Ctr:=⟨[.dat (.ptr (ZgJ)),.dat (XP),.dat (.sl (XQ)),.dat (.sl Iq)],[.own (Zfb),.dat (.bool)],λa K=>splitK a λe a=>splitK a λd a=>splitK a λb a=>splitK a λc a=>Yf (JO e d b c) λr=>K (r.1,r.2,()) ()⟩
def XW (g:Za) (d:Zz) (b:List Int) (a:List Zj):Option (Zf×Int):=
(QT g d b a Option.none).bind λc=>
if c.2.2=0 then
(c.1).bind λf=>
(JO f d a c.2.1).bind λe=>
if e.2 then
some (e.1,0)
else
some (([],[],[],()),3)
else
some (([],[],[],()),c.2.2)
def c228:Ctr:=⟨[.dat (Yg),.dat (XP),.dat (.sl Iq),.dat (.sl (XQ))],[.own (Zfb),.dat Iq],λa K=>splitK a λe a=>splitK a λd a=>splitK a λc a=>splitK a λb a=>Yf (XW e d c b) λr=>K (r.1,r.2,()) ()⟩
def Zg2 (a:Zg):Option Zg:=
if K2 a=1 then
some (K2 a,K8 a,Gw a,0,0,[],([],[],[],[],()),())
else
if K2 a=2 then
some (K2 a,K8 a,Gw a,0,0,Gi a,([],[],[],[],()),())
else
if K2 a=4 then
some (K2 a,K8 a,0,Gl a,Gz a,[],([],[],[],[],()),())
else
if K2 a=5 then
some (K2 a,0,0,Gl a,0,[],a.2.2.2.2.2.2)
else
some (K2 a,0,0,0,0,[],([],[],[],[],()),())
def c229:Ctr:=D1 (Qh) (Qh) Zg2
def Ja (a c:List Int) (b:Int):Option ((Int×Unit)⊕Bool):=
if b<(a.length:Int)then
(atI a b).bind λd=>
(atI c b).bind λe=>
if d=e then
some (.inl (Wq (b+1),()))
else
some (.inr false)
else
some (.inr true)
def Xy (b a:List Int):Option Bool:=
if(b.length:Int)=(a.length:Int)then
Zx (λv=>Ja b a v.1) ((0:Int),())
else
some false
def ZIz:Ctr:=D2 (.sl Iq) (.sl Iq) (.bool) Xy
def Zg7 (a b:Zq):Option Bool:=
(Xy (K3 a) (K3 b)).bind λc=>
if c then
(Xy (Gx a) (Gx b)).bind λe=>
if e then
(Xy (GD a) (GD b)).bind λd=>
if d then
(Xy (Gm a) (Gm b)).bind λf=>
some f
else
some false
else
some false
else
some false
def ZIA:Ctr:=D2 (ZcR) (ZcR) (.bool) Zg7
def Zfq (b a:Zg):Option Bool:=
if K2 b=K2 a then
if K8 b=K8 a then
if Gw b=Gw a then
if Gl b=Gl a then
if Gz b=Gz a then
if Gi b=Gi a then
(Zg7 (GA b) (GA a)).bind λc=>
some c
else
some false
else
some false
else
some false
else
some false
else
some false
else
some false
def c232:Ctr:=D2 (Qh) (Qh) (.bool) Zfq
def Zcc (a:Zg) (b:Za):Option Bool:=
(Yy (K2 a) 1 5).bind λj=>
if j then
(Zg2 a).bind λm=>
(Zfq a m).bind λk=>
if k then
(Z0 (KX b)).bind λi=>
(Y1 i).bind λl=>
(Yy (K8 a) 0 (Wq (l-1))).bind λe=>
if K2 a=1 then
if K2 a=1 then
if e then
(Q7 (K9 (K4 b))).bind λg=>
(Yy (Gw a) 0 (Wq (g-1))).bind λc=>
some c
else
some false
else
if K2 a=4 then
if e then
(Xo (KX b) (Gl a)).bind λd=>
if d then
(atI (KZ b) (Gl a)).bind λh=>
(Xp (K3 h)).bind λf=>
(Yy (Gz a) 0 (Wq (f-1))).bind λc=>
some c
else
some false
else
some false
else
if K2 a=5 then
(Xo (KX b) (Gl a)).bind λd=>
some d
else
some true
else
if K2 a=2 then
if e then
(Q7 (K9 (K4 b))).bind λg=>
(Yy (Gw a) 0 (Wq (g-1))).bind λc=>
some c
else
some false
else
if K2 a=4 then
if e then
(Xo (KX b) (Gl a)).bind λd=>
if d then
(atI (KZ b) (Gl a)).bind λh=>
(Xp (K3 h)).bind λf=>
(Yy (Gz a) 0 (Wq (f-1))).bind λc=>
some c
else
some false
else
some false
else
if K2 a=5 then
(Xo (KX b) (Gl a)).bind λd=>
some d
else
some true
else
some false
else
some false
def c233:Ctr:=D2 (Qh) (Yg) (.bool) Zcc
def ZgO (a b:XF):Option Bool:=
some (Gj a==Gj b)
def c234:Ctr:=D2 (ZmU) (ZmU) (.bool) ZgO
def ZP (a c:List XF) (b:Int):Option ((Int×Unit)⊕Bool):=
if b<(a.length:Int)then
(atI a b).bind λe=>
(atI c b).bind λf=>
(ZgO e f).bind λd=>
if d then
some (.inl (Wq (b+1),()))
else
some (.inr false)
else
some (.inr true)
def Ye (b a:List XF) (c:Unit):Option Bool:=
if(b.length:Int)=(a.length:Int)then
Zx (λv=>ZP b a v.1) ((0:Int),())
else
some false
def ZIB:Ctr:=D3 (.sl (ZmU)) (.sl (ZmU)) (.fn 309 (.unit)) (.bool) Ye
def Zg5 (b a:Zn):Option Bool:=
if GG b=GG a then
(Ye (K5 b) (K5 a) ()).bind λc=>
some c
else
some false
def c236:Ctr:=D2 (ZcQ) (ZcQ) (.bool) Zg5
def JZ (a:Zn):Option Bool:=
if GG a=1 then
some (decide (((K5 a).length:Int)=2))
else
some false
def ZGT:Ctr:=D1 (ZcQ) (.bool) JZ
def Zc6 (a:Ze) (b:List UInt8):Option Bool:=
some (decide (Gv a=b))
def ZIC:Ctr:=D2 (Js) (.ptr (.str)) (.bool) Zc6
def Z9 (b:List Ze) (d:List UInt8×Unit) (a:Int):Option ((Int×Unit)⊕Int):=
if a<(b.length:Int)then
(atI b a).bind λe=>
(Zc6 e d.1).bind λc=>
if c then
some (.inr a)
else
some (.inl (Wq (a+1),()))
else
some (.inr (-1))
def ZW (a:List Ze) (b:List UInt8×Unit):Option Int:=
Zx (λv=>Z9 a b v.1) ((0:Int),())
def ZID:Ctr:=D2 (.sl (Js)) (.fn 311 (.pair (.ptr (.str)) (.unit))) Iq ZW
def ZcV (c:Zb) (a:List UInt8):Option Int:=
(ZW (KY c) (a,())).bind λb=>
some b
def ZIE:Ctr:=D2 (Y8) (.str) Iq ZcV
def Zbw (c:Zb) (a:List UInt8):Option Int:=
(Xe (K1 c) a).bind λb=>
some b
def ZIF:Ctr:=D2 (Y8) (.str) Iq Zbw
def ZaC (a:Za):Option Bool:=
if((KY (KX a)).length:Int)=0 then
some false
else
(atI (KY (KX a)) (Wq (((KY (KX a)).length:Int)-1))).bind λc=>
(Xr (K1 (KX a))).bind λb=>
(atI (K9 (K4 a)) (Gq c)).bind λh=>
(JZ h).bind λg=>
if g then
(atI (K7 c) 1).bind λi=>
if i=Wq (b-1)then
(atI (K7 c) 0).bind λj=>
if j=Wq (b-1)then
some false
else
(atI (K1 (KX a)) (Wq (b-1))).bind λf=>
if f=Gv c then
(atI (KZ a) (Wq (b-1))).bind λd=>
if((Gm d).length:Int)=1 then
if((K3 d).length:Int)=1 then
(atI (GD d) 0).bind λe=>
some (decide (e=0))
else
some false
else
some false
else
some false
else
some false
else
some false
def ZIH:Ctr:=D1 (Yg) (.bool) ZaC
def Zby (a:Zg) (c:Za):Option Bool:=
(Z0 (KX c)).bind λd=>
if K2 a=1 then
(atI d (K8 a)).bind λb=>
if 0<=Gn b then
if(GS b)=true then
(atI (KY (KX c)) (Gn b)).bind λe=>
(atI (K9 (K4 c)) (Gq e)).bind λn=>
(atI (K9 (K4 c)) (Gw a)).bind λo=>
(Zg5 n o).bind λm=>
some m
else
some false
else
some false
else
if K2 a=2 then
(atI d (K8 a)).bind λb=>
if(GS b)=true then
some false
else
(atI (K9 (K4 c)) (Gw a)).bind λe=>
(JZ e).bind λk=>
if k then
(Zes (Gi a)).bind λf=>
if f then
(ZcV (KX c) (Gi a)).bind λl=>
if l<0 then
(Zbw (KX c) (Gi a)).bind λi=>
some (decide (i<0))
else
some false
else
some false
else
some false
else
if K2 a=3 then
(ZaC c).bind λj=>
some j
else
if K2 a=4 then
(atI d (K8 a)).bind λb=>
if(GS b)=true then
some false
else
some (!decide (ZL.net b=Gl a))
else
(atI (KZ c) (Gl a)).bind λb=>
(Xp (Gm b)).bind λg=>
(ZhC (GA a) g).bind λh=>
some h
def ZII:Ctr:=D2 (Qh) (Yg) (.bool) Zby
def Zd8 (b:Zg) (a:Za):Option Int:=
(Zcc b a).bind λc=>
if c then
(Zby b a).bind λd=>
if d then
if K2 b=2 then
if((KY (KX a)).length:Int)=14 then
some 3
else
if((K1 (KX a)).length:Int)=30 then
some 3
else
some 0
else
some 0
else
some 5
else
some 2
def ZIJ:Ctr:=D2 (Qh) (Yg) Iq Zd8
def Vl (a:Za) (c:Zg):Option Int:=
(ZeW a).bind λb=>
if b then
(Zd8 c a).bind λd=>
some d
else
some 1
def ZFi:Ctr:=D2 (Yg) (Qh) Iq Vl
def QS (a:List Ze):Option Int:=
some (a.length:Int)
def ZGU:Ctr:=D1 (.sl (Js)) Iq QS
def Vm (f:Zg) (c:Int) (d:List ZL) (a:List Int) (b:Int):Option (((List Int)×Int×Unit)⊕List Int):=
if b<(d.length:Int)then
(atI d b).bind λe=>
if K2 f=2 then
if Gn e<0 then
Zt ((a.length+[Wq (b+2)].length)*8<=140737488355328)<|
some (.inl (a++[Wq (b+2)],Wq (b+1),()))
else
if K2 f=3 then
if Gn e<0 then
Zt ((a.length+[Wq (b-2)].length)*8<=140737488355328)<|
some (.inl (a++[Wq (b-2)],Wq (b+1),()))
else
if K2 f=3 then
if Gn e=Wq (c-1)then
Zt ((a.length+[(-1:Int)].length)*8<=140737488355328)<|
some (.inl (a++[(-1:Int)],Wq (b+1),()))
else
Zt ((a.length+[b].length)*8<=140737488355328)<|
some (.inl (a++[b],Wq (b+1),()))
else
Zt ((a.length+[b].length)*8<=140737488355328)<|
some (.inl (a++[b],Wq (b+1),()))
else
if K2 f=3 then
if Gn e=Wq (c-1)then
Zt ((a.length+[(-1:Int)].length)*8<=140737488355328)<|
some (.inl (a++[(-1:Int)],Wq (b+1),()))
else
Zt ((a.length+[b].length)*8<=140737488355328)<|
some (.inl (a++[b],Wq (b+1),()))
else
Zt ((a.length+[b].length)*8<=140737488355328)<|
some (.inl (a++[b],Wq (b+1),()))
else
if K2 f=3 then
if Gn e<0 then
Zt ((a.length+[Wq (b-2)].length)*8<=140737488355328)<|
some (.inl (a++[Wq (b-2)],Wq (b+1),()))
else
if K2 f=3 then
if Gn e=Wq (c-1)then
Zt ((a.length+[(-1:Int)].length)*8<=140737488355328)<|
some (.inl (a++[(-1:Int)],Wq (b+1),()))
else
Zt ((a.length+[b].length)*8<=140737488355328)<|
some (.inl (a++[b],Wq (b+1),()))
else
Zt ((a.length+[b].length)*8<=140737488355328)<|
some (.inl (a++[b],Wq (b+1),()))
else
if K2 f=3 then
if Gn e=Wq (c-1)then
Zt ((a.length+[(-1:Int)].length)*8<=140737488355328)<|
some (.inl (a++[(-1:Int)],Wq (b+1),()))
else
Zt ((a.length+[b].length)*8<=140737488355328)<|
some (.inl (a++[b],Wq (b+1),()))
else
Zt ((a.length+[b].length)*8<=140737488355328)<|
some (.inl (a++[b],Wq (b+1),()))
else
some (.inr a)
def Jo (c:Zg) (a:Za):Option (List Int):=
(QS (KY (KX a))).bind λb=>
(Z0 (KX a)).bind λd=>
Zx (λv=>Vm c b d v.1 v.2.1) (([]:List Int),(0:Int),())
def ZGV:Ctr:=⟨[.dat (Qh),.dat (Yg)],[.own (.ol 2 (.flat Iq))],λa K=>splitK a λb a=>splitK a λc a=>Yf (Jo b c) λr=>K (r,()) ()⟩
def QD (a:List Zj):Option (List Zj):=
Zt ((([]:List (Int×ZA×ZA×Unit)).length+a.length)*40<=140737488355328)<|
some (([]:List (Int×ZA×ZA×Unit))++a)
def ZIK:Ctr:=⟨[.dat (.sl (XQ))],[.own (.ol 87 (.flat (XQ)))],λa K=>splitK a λb a=>Yf (QD b) λr=>K (r,()) ()⟩
def ZgA (b:List Int) (a:Int):Option (Int×Bool):=
(atI b (Wq (Int.tdiv a 2))).bind λc=>
some (Wq (Wq (2*c)+Int.tmod a 2),decide (0<=c))
def ZGW:Ctr:=⟨[.dat (.sl Iq),.dat Iq],[.dat Iq,.dat (.bool)],λa K=>splitK a λb a=>splitK a λc a=>Yf (ZgA b c) λr=>K (r.1,r.2,()) ()⟩
def JY (b:List Zj) (a:List Int) (c:Int) (d:List Zj):Option ((Int×(List Zj)×Unit)⊕((List Zj)×Int)):=
if c<(b.length:Int)then
(atI b c).bind λf=>
(ZgA a (Ge f)).bind λe=>
if e.2 then
(atI d c).bind λg=>
some (.inl (Wq (c+1),List.set d (Int.toNat c) (e.1,g.2),()))
else
some (.inr (([]:List Zj),(5:Int)))
else
some (.inr (d,0))
def VW (b:Za) (c:Zg) (a:List Zj):Option ((List Zj)×Int):=
(Vl b c).bind λd=>
if d=0 then
(VI b).bind λh=>
(VF h a).bind λf=>
if f then
(Jo c b).bind λe=>
(QD a).bind λg=>
Zx (λv=>JY a e v.1 v.2.1) ((0:Int),g,())
else
some ([],2)
else
some ([],d)
def ZGX:Ctr:=⟨[.dat (Yg),.dat (Qh),.dat (.sl (XQ))],[.own (.ol 87 (.flat (XQ))),.dat Iq],λa K=>splitK a λd a=>splitK a λc a=>splitK a λb a=>Yf (VW d c b) λr=>K (r.1,r.2,()) ()⟩
def V8 (a:List XF):Option (List XF):=
Zt ((([]:List (List UInt8×Int×Int×Bool×Unit)).length+a.length)*40<=140737488355328)<|
some (([]:List (List UInt8×Int×Int×Bool×Unit))++a)
def ZIL:Ctr:=⟨[.dat (.sl (ZmU))],[.own (.ol 302 (.flat (ZmU)))],λa K=>splitK a λb a=>Yf (V8 b) λr=>K (r,()) ()⟩
def V7 (a:List ZH):Option (List ZH):=
Zt ((([]:List (Int×Int×Int×Int×List ZB×List ZB×Unit)).length+a.length)*80<=140737488355328)<|
some (([]:List (Int×Int×Int×Int×List ZB×List ZB×Unit))++a)
def ZIM:Ctr:=⟨[.dat (.sl (Zn7))],[.own (.ol 180 (.flat (Zn7)))],λa K=>splitK a λb a=>Yf (V7 b) λr=>K (r,()) ()⟩
def ZaF (b a:List ZB) (d:Int):Option (((List ZB)×Int×Unit)⊕List ZB):=
if d<(b.length:Int)then
(atI b d).bind λc=>
(ZG (GO c)).bind λe=>
(ZG (Gt c)).bind λg=>
(ZG (Gr c)).bind λf=>
Zt ((a.length+[(e,g,f,())].length)*72<=140737488355328)<|
some (.inl (a++[(e,g,f,())],Wq (d+1),()))
else
some (.inr a)
def Zcu (a:List ZB):Option (List ZB):=
Zx (λv=>ZaF a v.1 v.2.1) (([]:List ZB),(0:Int),())
def ZIN:Ctr:=⟨[.dat (.sl (Zac))],[.own (.ol 336 (Zj7))],λa K=>splitK a λb a=>Yf (Zcu b) λr=>K (r,()) ()⟩
def Vo (l:Int) (h:List Zn) (c:Zn) (e:List XF) (b:List Int) (g:List ZH) (d:Int) (a:List ZH×Int):Option ((Int×(List ZH×Int)×Unit)⊕((Int×(List Zn)×Unit)⊕Zr)):=
if d<(g.length:Int)then
(atI a.1 d).bind λi=>
Zt (a.2<=d)<|
(Zcu (GF i)).bind λj=>
(Zcu (GM i)).bind λk=>
Zt (d=a.2)<|
(atI a.1 a.2).bind λf=>
some (.inl (Wq (d+1),(List.set a.1 (Int.toNat a.2) (Gb f,Gk f,Gp f,GE f,j,k,()),a.2+1),()))
else
Zt (a.2=(a.1.length:Int))<|
Zt ((h.length+[(GR c,GG c,e,a.1,b,c.2.2.2.2.2)].length)*112<=140737488355328)<|
some (.inr (.inl (Wq (l+1),h++[(GR c,GG c,e,a.1,b,c.2.2.2.2.2)],())))
def Ql (e:Zr) (b:Int) (c:List Zn):Option ((Int×(List Zn)×Unit)⊕Zr):=
if b<((K9 e).length:Int)then
(atI (K9 e) b).bind λa=>
(V8 (K5 a)).bind λf=>
(ZG (Gy a)).bind λg=>
(V7 (Gh a)).bind λd=>
Zx (λv=>Vo b c a f g d v.1 v.2.1) ((0:Int),(d,(0:Int)),())
else
some (.inr (c,()))
def Zaj (a:Zr):Option Zr:=
Zx (λv=>Ql a v.1 v.2.1) ((0:Int),([]:List Zn),())
def ZIO:Ctr:=⟨[.dat (QW)],[.own (Zpa)],λa K=>splitK a λb a=>Yf (Zaj b) λr=>K (r,()) ()⟩
def X4 (a:List Ze):Option (List Ze):=
Zt ((([]:List (List UInt8×Int×List Int×Unit)).length+a.length)*48<=140737488355328)<|
some (([]:List (List UInt8×Int×List Int×Unit))++a)
def ZIP:Ctr:=⟨[.dat (.sl (Js))],[.own (.ol 142 (.flat (Js)))],λa K=>splitK a λb a=>Yf (X4 b) λr=>K (r,()) ()⟩
def Zau (a:List (List UInt8)):Option (List (List UInt8)):=
Zt ((([]:List (List UInt8)).length+a.length)*16<=140737488355328)<|
some (([]:List (List UInt8))++a)
def ZIQ:Ctr:=⟨[.dat (.sl (.str))],[.own (.ol 9 (.flat (.str)))],λa K=>splitK a λb a=>Yf (Zau b) λr=>K (r,()) ()⟩
def Vv (a:List Z8):Option (List Z8):=
Zt ((([]:List (List UInt8×Int×Int×Unit)).length+a.length)*32<=140737488355328)<|
some (([]:List (List UInt8×Int×Int×Unit))++a)
def ZIR:Ctr:=⟨[.dat (.sl (Zo6))],[.own (.ol 136 (.flat (Zo6)))],λa K=>splitK a λb a=>Yf (Vv b) λr=>K (r,()) ()⟩
def Vk (b:List Ze) (c:List (List UInt8)) (e:List Z8) (d:Int) (a:List Ze×Int):Option ((Int×(List Ze×Int)×Unit)⊕Zb):=
if d<(b.length:Int)then
(atI a.1 d).bind λh=>
Zt (a.2<=d)<|
(ZG (K7 h)).bind λg=>
Zt (d=a.2)<|
(atI a.1 a.2).bind λf=>
some (.inl (Wq (d+1),(List.set a.1 (Int.toNat a.2) (Gv f,Gq f,g,()),a.2+1),()))
else
Zt (a.2=(a.1.length:Int))<|
some (.inr (a.1,c,e,()))
def Zag (a:Zb):Option Zb:=
(X4 (KY a)).bind λb=>
(Zau (K1 a)).bind λd=>
(Vv (Ga a)).bind λc=>
Zx (λv=>Vk b d c v.1 v.2.1) ((0:Int),(b,(0:Int)),())
def ZIS:Ctr:=⟨[.dat (Y8)],[.own (ZpD)],λa K=>splitK a λb a=>Yf (Zag b) λr=>K (r,()) ()⟩
def Zc8 (a:Zq):Option Zq:=
(ZG (K3 a)).bind λb=>
(ZG (Gx a)).bind λd=>
(ZG (GD a)).bind λc=>
(ZG (Gm a)).bind λe=>
some (b,d,c,e,())
def ZGY:Ctr:=⟨[.dat (ZcR)],[.own (ZoD)],λa K=>splitK a λb a=>Yf (Zc8 b) λr=>K (r,()) ()⟩
def ZaD (f:Za) (a:Zr) (b:Zb) (d:Int) (c:List Zq):Option ((Int×(List Zq)×Unit)⊕Za):=
if d<((KZ f).length:Int)then
(atI (KZ f) d).bind λg=>
(Zc8 g).bind λe=>
Zt ((c.length+[e].length)*96<=140737488355328)<|
some (.inl (Wq (d+1),c++[e],()))
else
some (.inr (a,b,c,()))
def Zeh (a:Za):Option Za:=
(Zaj (K4 a)).bind λb=>
(Zag (KX a)).bind λc=>
Zx (λv=>ZaD a b c v.1 v.2.1) ((0:Int),([]:List Zq),())
def ZIT:Ctr:=⟨[.dat (Yg)],[.own (ZeV)],λa K=>splitK a λb a=>Yf (Zeh b) λr=>K (r,()) ()⟩
def ZbH (h:Za) (a:List ZL) (c:Int) (e:List ((Int×Int×Unit)×Int)) (d:List Int):Option ((Int×(List ((Int×Int×Unit)×Int))×(List Int)×Unit)⊕List (ZaL×Int)):=
if c<(a.length:Int)then
(atI a c).bind λb=>
if(GS b)=true then
some (.inl (Wq (c+1),e,d,()))
else
(atI (KZ h) (ZL.net b)).bind λg=>
(atI d (ZL.net b)).bind λf=>
(atI (Gm g) f).bind λi=>
some (.inl (Wq (c+1),Zoq Zuy.ty Zuy.ety e (Gn b,ZL.pin b,()) i,List.set d (Int.toNat (ZL.net b)) (Wq (f+1)),()))
else
some (.inr e)
def Jz (a:Za):Option (List (ZaL×Int)):=
Zt ((0:Int)<=((KZ a).length:Int))<|
Zt (((KZ a).length:Int)<=((KZ a).length:Int))<|
Zt (((KZ a).length:Int)<=4611686018427387904)<|
Zt (((8:Nat):Int)*((KZ a).length:Int)<=281474976710656)<|
(Z0 (KX a)).bind λb=>
Zx (λv=>ZbH a b v.1 v.2.1 v.2.2.1) ((0:Int),([]:List ((Int×Int×Unit)×Int)),List.replicate (Int.toNat ((KZ a).length:Int)) (0:Int),())
def ZFK:Ctr:=⟨[.dat (Yg)],[.own (.mp (Zdp) Iq)],λa K=>splitK a λb a=>Yf (Jz b) λr=>K (r,()) ()⟩
def Zae (b:Za) (a:ZaL) (d:Int):Option Za:=
if G3 a<0 then
(atI (Ga (KX b)) (ZaL.pin a)).bind λc=>
some (K4 b,(KY (KX b),K1 (KX b),List.set (Ga (KX b)) (Int.toNat (ZaL.pin a)) (GQ c,GC c,d,()),()),b.2.2)
else
(atI (KY (KX b)) (G3 a)).bind λc=>
(atI c.2.2.1 (ZaL.pin a)).bind λe=>
some (K4 b,(List.set (KY (KX b)) (Int.toNat (G3 a)) (c.1,c.2.1,List.set c.2.2.1 (Int.toNat (ZaL.pin a)) d,()),(KX b).2),b.2.2)
def ZFL:Ctr:=⟨[.io (ZeV),.dat (Zdp),.dat Iq],[],λa K=>splitK a λd a=>splitK a λc a=>splitK a λb a=>Yf (Zae d c b) λr=>K () (r,())⟩
def ZbG (g:Za) (b:List (ZaL×Int)) (a:List ZL) (e:Int) (f:List (List Int×List Int×List Int×List Int×Unit)):Option ((Int×(List (List Int×List Int×List Int×List Int×Unit))×Unit)⊕((Int×(List (List Int×List Int×List Int×List Int×Unit))×Unit)⊕Za)):=
if e<(a.length:Int)then
(atI a e).bind λc=>
if(GS c)=true then
some (.inl (Wq (e+1),f,()))
else
(atI f (ZL.net c)).bind λd=>
Zt ((d.2.2.2.1.length+[Option.getD (ZkI Zdp (Ty.int IntKind.i64) b (Gn c,ZL.pin c,())) (0:Int)].length)*8<=140737488355328)<|
some (.inl (Wq (e+1),List.set f (Int.toNat (ZL.net c)) (d.1,d.2.1,d.2.2.1,d.2.2.2.1++[Option.getD (ZkI Zdp (Ty.int IntKind.i64) b (Gn c,ZL.pin c,())) (0:Int)],()),()))
else
some (.inr (.inr (K4 g,KX g,f,())))
def Jy (d:Za) (a:List (ZaL×Int)) (b:Int) (e:List (List Int×List Int×List Int×List Int×Unit)):Option ((Int×(List (List Int×List Int×List Int×List Int×Unit))×Unit)⊕Za):=
if b<((KZ d).length:Int)then
(atI e b).bind λc=>
some (.inl (Wq (b+1),List.set e (Int.toNat b) (c.1,c.2.1,c.2.2.1,([]:List Int),()),()))
else
(Z0 (KX d)).bind λf=>
Zx (λv=>ZbG d a f v.1 v.2.1) ((0:Int),e,())
def Vj (b:Za) (a:List (ZaL×Int)):Option Za:=
Zx (λv=>Jy b a v.1 v.2.1) ((0:Int),KZ b,())
def ZFM:Ctr:=⟨[.io (ZeV),.dat (.mp (Zdp) Iq)],[],λa K=>splitK a λc a=>splitK a λb a=>Yf (Vj c b) λr=>K () (r,())⟩
def Zdx (a:Za) (c:Zg):Option Za:=
(Jz a).bind λe=>
(Z0 (KX a)).bind λi=>
(atI i (K8 c)).bind λb=>
(Xr (K1 (KX a))).bind λd=>
(QS (KY (KX a))).bind λf=>
Zt (((KY (KX a)).length+[(Gi c,Gw c,[ZL.net b,d],())].length)*48<=140737488355328)<|
Zt (((K1 (KX a)).length+[Gi c].length)*16<=140737488355328)<|
Zt (((KZ a).length+[([(-1:Int)],[(0:Int)],[(0:Int)],([]:List Int),())].length)*96<=140737488355328)<|
(Zae (K4 a,(KY (KX a)++[(Gi c,Gw c,[ZL.net b,d],())],K1 (KX a)++[Gi c],(KX a).2.2),KZ a++[([(-1:Int)],[(0:Int)],[(0:Int)],([]:List Int),())],()) (Gn b,ZL.pin b,()) d).bind λh=>
(Vj h (Zoq Zdp (Ty.int IntKind.i64) (Zoq Zdp (Ty.int IntKind.i64) e (f,0,()) (Option.getD (ZkI Zdp (Ty.int IntKind.i64) e (Gn b,ZL.pin b,())) 0)) (Gn b,ZL.pin b,()) 0)).bind λg=>
some g
def ZIU:Ctr:=⟨[.io (ZeV),.dat (Qh)],[],λa K=>splitK a λc a=>splitK a λb a=>Yf (Zdx c b) λr=>K () (r,())⟩
def Zb9 (a:Za):Option (ZaL×Za):=
(Jz a).bind λd=>
(Z0 (KX a)).bind λj=>
(Xr (K1 (KX a))).bind λi=>
(ZbM (KX a) (Wq (i-1))).bind λf=>
(atI f 0).bind λh=>
(atI j h).bind λc=>
(atI (KY (KX a)) (Wq (((KY (KX a)).length:Int)-1))).bind λe=>
(atI e.2.2.1 0).bind λk=>
(Zae (K4 a,(List.set (KY (KX a)) (Int.toNat (Wq (((KY (KX a)).length:Int)-1))) e,(KX a).2),a.2.2) (Gn c,ZL.pin c,()) k).bind λb=>
Zt ((0:Int)<=Wq (((KY (KX a)).length:Int)-1))<|
Zt (Wq (((KY (KX a)).length:Int)-1)<=((KY (KX b)).length:Int))<|
Zt ((0:Int)<=Wq (((K1 (KX b)).length:Int)-1))<|
Zt (Wq (((K1 (KX b)).length:Int)-1)<=((K1 (KX b)).length:Int))<|
Zt ((0:Int)<=Wq (((KZ b).length:Int)-1))<|
Zt (Wq (((KZ b).length:Int)-1)<=((KZ b).length:Int))<|
(Vj (K4 b,(List.take (Int.toNat (Wq (((KY (KX a)).length:Int)-1))-Int.toNat 0) (List.drop (Int.toNat 0) (KY (KX b))),List.take (Int.toNat (Wq (((K1 (KX b)).length:Int)-1))-Int.toNat 0) (List.drop (Int.toNat 0) (K1 (KX b))),(KX b).2.2),List.take (Int.toNat (Wq (((KZ b).length:Int)-1))-Int.toNat 0) (List.drop (Int.toNat 0) (KZ b)),()) (Zoq Zdp (Ty.int IntKind.i64) d (Gn c,ZL.pin c,()) (Option.getD (ZkI Zdp (Ty.int IntKind.i64) d (Wq (((KY (KX a)).length:Int)-1),0,())) 0))).bind λg=>
some ((Gn c,ZL.pin c,()),g)
def ZIV:Ctr:=⟨[.io (ZeV)],[.dat (Zdp)],λa K=>splitK a λb a=>Yf (Zb9 b) λr=>K (r.1,()) (r.2,())⟩
def ZK (b:Zg) (e:Za):Option Za:=
(Zeh e).bind λa=>
if K2 b=1 then
(Z0 (KX e)).bind λd=>
(atI d (K8 b)).bind λc=>
(atI (KY (KX a)) (Gn c)).bind λf=>
some (K4 a,(List.set (KY (KX a)) (Int.toNat (Gn c)) (f.1,Gw b,f.2.2),(KX a).2),a.2.2)
else
if K2 b=2 then
(Zdx a b).bind λk=>
some k
else
if K2 b=3 then
(Zb9 a).bind λg=>
some g.2
else
if K2 b=4 then
(Jz a).bind λl=>
(Z0 (KX a)).bind λd=>
(atI d (K8 b)).bind λc=>
(Zae a (Gn c,ZL.pin c,()) (Gl b)).bind λi=>
(Vj i (Zoq Zdp (Ty.int IntKind.i64) l (Gn c,ZL.pin c,()) (Gz b))).bind λj=>
some j
else
if K2 b=5 then
(Zc8 (GA b)).bind λh=>
(atI (KZ a) (Gl b)).bind λc=>
some (K4 a,KX a,List.set (KZ a) (Int.toNat (Gl b)) h,())
else
some a
def ZFj:Ctr:=⟨[.dat (Qh),.dat (Yg)],[.own (ZeV)],λa K=>splitK a λc a=>splitK a λb a=>Yf (ZK c b) λr=>K (r,()) ()⟩
def Vn (h:Zf) (a:List Int) (d c:Int) (g:List Bool) (f e:List ZA):Option ((Int×(List Bool)×(List ZA)×(List ZA)×Unit)⊕Zf):=
if c<d then
(ZgA a c).bind λb=>
if b.2 then
(atI (K6 h) c).bind λi=>
(atI (Gu h) c).bind λj=>
(atI (Gs h) c).bind λk=>
(atI g b.1).bind λn=>
(atI f b.1).bind λl=>
(atI e b.1).bind λm=>
some (.inl (Wq (c+1),List.set g (Int.toNat b.1) i,List.set f (Int.toNat b.1) j,List.set e (Int.toNat b.1) k,()))
else
some (.inl (Wq (c+1),g,f,e,()))
else
some (.inr (g,f,e,()))
def ZaY (b:Zg) (d:Za) (c:Zf):Option Zf:=
(ZK b d).bind λf=>
(VI f).bind λh=>
(VZ h).bind λa=>
(Jo b d).bind λe=>
(Zcv (K6 c)).bind λg=>
Zx (λv=>Vn c e g v.1 v.2.1 v.2.2.1 v.2.2.2.1) ((0:Int),K6 a,Gu a,Gs a,())
def ZIW:Ctr:=⟨[.dat (Qh),.dat (Yg),.dat (ZgU)],[.own (Zfb)],λa K=>splitK a λb a=>splitK a λd a=>splitK a λc a=>Yf (ZaY b d c) λr=>K (r,()) ()⟩
def Zek (a:Za) (d:Zg) (c:Zf):Option (Zf×Int):=
(Vl a d).bind λb=>
if b=0 then
(VI a).bind λf=>
(Za3 f c).bind λe=>
if e then
(ZaY d a c).bind λg=>
some (g,0)
else
some (([],[],[],()),2)
else
some (([],[],[],()),b)
def ZIX:Ctr:=⟨[.dat (Yg),.dat (Qh),.dat (ZgU)],[.own (Zfb),.dat Iq],λa K=>splitK a λd a=>splitK a λb a=>splitK a λc a=>Yf (Zek d b c) λr=>K (r.1,r.2,()) ()⟩
def Zah (b:Zg) (e:Za):Option (List Int):=
if K2 b=1 then
(Z0 (KX e)).bind λf=>
(atI f (K8 b)).bind λd=>
(atI (KY (KX e)) (Gn d)).bind λg=>
(ZG (K7 g)).bind λi=>
(Zyd i).bind λc=>
(ZjJ c).bind λa=>
some a
else
if K2 b=2 then
(Z0 (KX e)).bind λf=>
(atI f (K8 b)).bind λd=>
(Xr (K1 (KX e))).bind λh=>
(Zyd [ZL.net d,h]).bind λc=>
(ZjJ c).bind λa=>
some a
else
if K2 b=3 then
(atI (KY (KX e)) (Wq (((KY (KX e)).length:Int)-1))).bind λd=>
(atI (K7 d) 0).bind λg=>
(Zyd [g]).bind λc=>
(ZjJ c).bind λa=>
some a
else
if K2 b=4 then
(Z0 (KX e)).bind λf=>
(atI f (K8 b)).bind λd=>
(Zyd [ZL.net d,Gl b]).bind λc=>
(ZjJ c).bind λa=>
some a
else
if K2 b=5 then
(Zyd [Gl b]).bind λc=>
(ZjJ c).bind λa=>
some a
else
(Zyd (([]:List Int))).bind λc=>
(ZjJ (([]:List Int))).bind λa=>
some a
def ZIY:Ctr:=⟨[.dat (Qh),.dat (Yg)],[.own (.ol 2 (.flat Iq))],λa K=>splitK a λc a=>splitK a λb a=>Yf (Zah c b) λr=>K (r,()) ()⟩
def Yv (b:List Int) (d a:Int):Option ((Int×Unit)⊕Int):=
if a<(b.length:Int)then
(atI b a).bind λc=>
if d=c then
some (.inr a)
else
some (.inl (Wq (a+1),()))
else
some (.inr (-1))
def Xz (a:List Int) (b:Int):Option Int:=
Zx (λv=>Yv a b v.1) ((0:Int),())
def ZIZ:Ctr:=D2 (.sl Iq) Iq Iq Xz
def Yj (b:List Int) (c:Int):Option Bool:=
(Xz b c).bind λa=>
some (decide (0<=a))
def ZGZ:Ctr:=D2 (.sl Iq) Iq (.bool) Yj
def Jm (d:List Int) (b:List ZL) (a:List Int) (c:Int):Option (((List Int)×Int×Unit)⊕List Int):=
if c<(b.length:Int)then
(atI b c).bind λf=>
(Yj d (ZL.net f)).bind λe=>
if e then
Zt ((a.length+[Wq ((2:Int)*c),Wq (Wq ((2:Int)*c)+1)].length)*8<=140737488355328)<|
some (.inl (a++[Wq ((2:Int)*c),Wq (Wq ((2:Int)*c)+1)],Wq (c+1),()))
else
some (.inl (a,Wq (c+1),()))
else
some (.inr a)
def Jl (b:Zg) (a:Za):Option (List Int):=
(Zah b a).bind λc=>
(ZK b a).bind λe=>
(Z0 (KX e)).bind λd=>
Zx (λv=>Jm c d v.1 v.2.1) (([]:List Int),(0:Int),())
def ZG0:Ctr:=⟨[.dat (Qh),.dat (Yg)],[.own (.ol 2 (.flat Iq))],λa K=>splitK a λb a=>splitK a λc a=>Yf (Jl b c) λr=>K (r,()) ()⟩
def X7 (e:ZM) (a:List Int):Option Bool:=
(YC e).bind λb=>
(XT a 0 (Wq (b-1))).bind λd=>
if d then
(VX a).bind λc=>
some c
else
some false
def ZG1:Ctr:=D2 (.ptr (Zk2)) (.sl Iq) (.bool) X7
def Zcj (a:List Bool):Option (List Bool):=
Zt ((([]:List Bool).length+a.length)*1<=140737488355328)<|
some (([]:List Bool)++a)
def ZI0:Ctr:=⟨[.dat (.sl (.bool))],[.own (.ol 4 (.flat (.bool)))],λa K=>splitK a λb a=>Yf (Zcj b) λr=>K (r,()) ()⟩
def X8 (a:List ZA):Option (List ZA):=
Zt ((([]:List (Int×Int×Unit)).length+a.length)*16<=140737488355328)<|
some (([]:List (Int×Int×Unit))++a)
def ZI1:Ctr:=⟨[.dat (.sl (ZaA))],[.own (.ol 85 (.flat (ZaA)))],λa K=>splitK a λb a=>Yf (X8 b) λr=>K (r,()) ()⟩
def Zdz (a:Zf):Option Zf:=
(Zcj (K6 a)).bind λb=>
(X8 (Gu a)).bind λd=>
(X8 (Gs a)).bind λc=>
some (b,d,c,())
def ZI2:Ctr:=⟨[.dat (ZgU)],[.own (Zfb)],λa K=>splitK a λb a=>Yf (Zdz b) λr=>K (r,()) ()⟩
def VD (a:Int) (d:List Bool) (c:ZO):Option Bool:=
(atI (ZM.links (GB c)) a).bind λb=>
(atI d (Gd b)).bind λe=>
some e
def ZI3:Ctr:=D3 Iq (.ptr (.sl (.bool))) (.ptr (.ptr (ZgJ))) (.bool) VD
def YQ (b:List Int) (c:List Bool×ZO×Unit) (a:Int):Option ((Int×Unit)⊕Int):=
if a<(b.length:Int)then
(atI b a).bind λe=>
(VD e c.1 c.2.1).bind λd=>
if d then
some (.inr a)
else
some (.inl (Wq (a+1),()))
else
some (.inr (-1))
def Yx (a:List Int) (b:List Bool×ZO×Unit):Option Int:=
Zx (λv=>YQ a b v.1) ((0:Int),())
def ZI4:Ctr:=D2 (.sl Iq) (.fn 189 (.pair (.ptr (.sl (.bool))) (.pair (.ptr (.ptr (ZgJ))) (.unit)))) Iq Yx
def ZR (c:List Int) (b:List Bool×ZO×Unit):Option Bool:=
(Yx c b).bind λa=>
some (decide (0<=a))
def ZI5:Ctr:=D2 (.sl Iq) (.fn 189 (.pair (.ptr (.sl (.bool))) (.pair (.ptr (.ptr (ZgJ))) (.unit)))) (.bool) ZR
def XK (m:ZO) (q:Zz) (p:List Zj) (r o h:List Int) (i:Int) (f:List Bool) (d c:List ZA) (e:List Bool):Option (((List Int)×Int×(List Bool)×(List ZA)×(List ZA)×(List Bool)×Unit)⊕((List Int)×Bool×Zf)):=
if i<(o.length:Int)then
(atI o i).bind λa=>
(Yj r a).bind λt=>
if t then
Zt ((h.length+[a].length)*8<=140737488355328)<|
(Xj m q p (f,d,c,()) a).bind λb=>
if b.1 then
(JJ b.2.2.1).bind λn=>
if n then
(atI f a).bind λl=>
if(b.1==l)=true then
(atI d a).bind λj=>
if(decide (b.2.2.1.1=Gc j)&&decide (b.2.2.1.2.1=Gg j))=true then
(atI c a).bind λg=>
(atI e a).bind λk=>
some (.inl (h++[a],Wq (i+1),List.set f (Int.toNat a) b.1,List.set d (Int.toNat a) b.2.2.1,List.set c (Int.toNat a) b.2.2.2.1,List.set e (Int.toNat a) !(decide (b.2.2.2.1.1=Gc g)&&decide (b.2.2.2.1.2.1=Gg g)),()))
else
(atI e a).bind λg=>
(atI c a).bind λk=>
some (.inl (h++[a],Wq (i+1),List.set f (Int.toNat a) b.1,List.set d (Int.toNat a) b.2.2.1,List.set c (Int.toNat a) b.2.2.2.1,List.set e (Int.toNat a) true,()))
else
(atI e a).bind λj=>
(atI d a).bind λg=>
(atI c a).bind λk=>
some (.inl (h++[a],Wq (i+1),List.set f (Int.toNat a) b.1,List.set d (Int.toNat a) b.2.2.1,List.set c (Int.toNat a) b.2.2.2.1,List.set e (Int.toNat a) true,()))
else
some (.inr (([]:List Int),false,(f,d,c,())))
else
(atI f a).bind λl=>
if(b.1==l)=true then
(atI d a).bind λj=>
if(decide (b.2.2.1.1=Gc j)&&decide (b.2.2.1.2.1=Gg j))=true then
(atI c a).bind λg=>
(atI e a).bind λk=>
some (.inl (h++[a],Wq (i+1),List.set f (Int.toNat a) b.1,List.set d (Int.toNat a) b.2.2.1,List.set c (Int.toNat a) b.2.2.2.1,List.set e (Int.toNat a) !(decide (b.2.2.2.1.1=Gc g)&&decide (b.2.2.2.1.2.1=Gg g)),()))
else
(atI e a).bind λg=>
(atI c a).bind λk=>
some (.inl (h++[a],Wq (i+1),List.set f (Int.toNat a) b.1,List.set d (Int.toNat a) b.2.2.1,List.set c (Int.toNat a) b.2.2.2.1,List.set e (Int.toNat a) true,()))
else
(atI e a).bind λj=>
(atI d a).bind λg=>
(atI c a).bind λk=>
some (.inl (h++[a],Wq (i+1),List.set f (Int.toNat a) b.1,List.set d (Int.toNat a) b.2.2.1,List.set c (Int.toNat a) b.2.2.2.1,List.set e (Int.toNat a) true,()))
else
(Zce m a).bind λs=>
(ZR s (e,m,())).bind λu=>
if u then
Zt ((h.length+[a].length)*8<=140737488355328)<|
(Xj m q p (f,d,c,()) a).bind λb=>
if b.1 then
(JJ b.2.2.1).bind λn=>
if n then
(atI f a).bind λl=>
if(b.1==l)=true then
(atI d a).bind λj=>
if(decide (b.2.2.1.1=Gc j)&&decide (b.2.2.1.2.1=Gg j))=true then
(atI c a).bind λg=>
(atI e a).bind λk=>
some (.inl (h++[a],Wq (i+1),List.set f (Int.toNat a) b.1,List.set d (Int.toNat a) b.2.2.1,List.set c (Int.toNat a) b.2.2.2.1,List.set e (Int.toNat a) !(decide (b.2.2.2.1.1=Gc g)&&decide (b.2.2.2.1.2.1=Gg g)),()))
else
(atI e a).bind λg=>
(atI c a).bind λk=>
some (.inl (h++[a],Wq (i+1),List.set f (Int.toNat a) b.1,List.set d (Int.toNat a) b.2.2.1,List.set c (Int.toNat a) b.2.2.2.1,List.set e (Int.toNat a) true,()))
else
(atI e a).bind λj=>
(atI d a).bind λg=>
(atI c a).bind λk=>
some (.inl (h++[a],Wq (i+1),List.set f (Int.toNat a) b.1,List.set d (Int.toNat a) b.2.2.1,List.set c (Int.toNat a) b.2.2.2.1,List.set e (Int.toNat a) true,()))
else
some (.inr (([]:List Int),false,(f,d,c,())))
else
(atI f a).bind λl=>
if(b.1==l)=true then
(atI d a).bind λj=>
if(decide (b.2.2.1.1=Gc j)&&decide (b.2.2.1.2.1=Gg j))=true then
(atI c a).bind λg=>
(atI e a).bind λk=>
some (.inl (h++[a],Wq (i+1),List.set f (Int.toNat a) b.1,List.set d (Int.toNat a) b.2.2.1,List.set c (Int.toNat a) b.2.2.2.1,List.set e (Int.toNat a) !(decide (b.2.2.2.1.1=Gc g)&&decide (b.2.2.2.1.2.1=Gg g)),()))
else
(atI e a).bind λg=>
(atI c a).bind λk=>
some (.inl (h++[a],Wq (i+1),List.set f (Int.toNat a) b.1,List.set d (Int.toNat a) b.2.2.1,List.set c (Int.toNat a) b.2.2.2.1,List.set e (Int.toNat a) true,()))
else
(atI e a).bind λj=>
(atI d a).bind λg=>
(atI c a).bind λk=>
some (.inl (h++[a],Wq (i+1),List.set f (Int.toNat a) b.1,List.set d (Int.toNat a) b.2.2.1,List.set c (Int.toNat a) b.2.2.2.1,List.set e (Int.toNat a) true,()))
else
some (.inl (h,Wq (i+1),f,d,c,e,()))
else
some (.inr (h,true,(f,d,c,())))
def Zf1 (c:ZO) (f:Zz) (d:List Zj) (b:Zf) (e g:List Int):Option ((List Int)×Bool×Zf):=
(YC (GB c)).bind λa=>
Zt ((0:Int)<=a)<|
Zt (a<=a)<|
Zt (a<=4611686018427387904)<|
Zt (((1:Nat):Int)*a<=281474976710656)<|
Zx (λv=>XK c f d e g v.1 v.2.1 v.2.2.1 v.2.2.2.1 v.2.2.2.2.1 v.2.2.2.2.2.1) (([]:List Int),(0:Int),K6 b,Gu b,Gs b,List.replicate (Int.toNat a) false,())
def ZI6:Ctr:=⟨[.dat (.ptr (ZgJ)),.dat (XP),.dat (.sl (XQ)),.back (Zfb),.dat (.sl Iq),.dat (.sl Iq)],[.own (.ol 2 (.flat Iq)),.dat (.bool)],λa K=>splitK a λb a=>splitK a λf a=>splitK a λe a=>splitK a λd a=>splitK a λg a=>splitK a λc a=>Yf (Zf1 b f e d g c) λr=>K (r.1,r.2.1,()) (r.2.2,())⟩
def ZdA (k:Za) (f:Zz) (c:List Int) (a:List Zj) (g:Zf) (b:List Int):Option (Zf×(List Int)×Int):=
(QT k f c a (Option.some g)).bind λd=>
if d.2.2=0 then
(d.1).bind λh=>
(X7 (GB h) b).bind λj=>
if j then
(Zdz g).bind λi=>
(Zf1 h f a i b d.2.1).bind λe=>
if e.2.1 then
some (e.2.2,e.1,0)
else
some (([],[],[],()),[],3)
else
some (([],[],[],()),[],2)
else
some (([],[],[],()),[],d.2.2)
def ZI7:Ctr:=⟨[.dat (Yg),.dat (XP),.dat (.sl Iq),.dat (.sl (XQ)),.dat (ZgU),.dat (.sl Iq)],[.own (Zfb),.own (.ol 2 (.flat Iq)),.dat Iq],λa K=>splitK a λg a=>splitK a λe a=>splitK a λc a=>splitK a λb a=>splitK a λf a=>splitK a λd a=>Yf (ZdA g e c b f d) λr=>K (r.1,r.2.1,r.2.2,()) ()⟩
def XB (c:Za) (b:Zg) (g:Zz) (a:List Zj) (j:Zf):Option (Zf×(List Int)×Int):=
(VW c b a).bind λd=>
if d.2=0 then
(Zek c b j).bind λf=>
if f.2=0 then
(ZK b c).bind λi=>
(Jl b c).bind λh=>
(ZdA i g (([]:List Int)) d.1 f.1 h).bind λe=>
some (e.1,e.2.1,e.2.2)
else
some (([],[],[],()),[],f.2)
else
some (([],[],[],()),[],d.2)
def ZI8:Ctr:=⟨[.dat (Yg),.dat (Qh),.dat (XP),.dat (.sl (XQ)),.dat (ZgU)],[.own (Zfb),.own (.ol 2 (.flat Iq)),.dat Iq],λa K=>splitK a λf a=>splitK a λd a=>splitK a λc a=>splitK a λb a=>splitK a λe a=>Yf (XB f d c b e) λr=>K (r.1,r.2.1,r.2.2,()) ()⟩
def J7 (c:Za) (b:Zg):Option (Za×Int):=
(Vl c b).bind λa=>
if a=0 then
(ZK b c).bind λd=>
some (d,0)
else
some ((([],()),([],[],[],()),[],()),a)
def ZI9:Ctr:=⟨[.dat (Yg),.dat (Qh)],[.own (ZeV),.dat Iq],λa K=>splitK a λc a=>splitK a λb a=>Yf (J7 c b) λr=>K (r.1,r.2,()) ()⟩
def ZbB (e:Za) (d:Zg) (c:List ZC) (a:List Int) (b:Int):Option (((List Int)×Int×Unit)⊕List Int):=
if b<(c.length:Int)then
if K2 d=2 then
if Wq ((c.length:Int)-((Ga (KX e)).length:Int))<=b then
Zt ((a.length+[Wq (b+2)].length)*8<=140737488355328)<|
some (.inl (a++[Wq (b+2)],Wq (b+1),()))
else
if K2 d=3 then
if Wq ((c.length:Int)-((Ga (KX e)).length:Int))<=b then
Zt ((a.length+[Wq (b-2)].length)*8<=140737488355328)<|
some (.inl (a++[Wq (b-2)],Wq (b+1),()))
else
if K2 d=3 then
if Wq (Wq ((c.length:Int)-((Ga (KX e)).length:Int))-2)<=b then
Zt ((a.length+[(-1:Int)].length)*8<=140737488355328)<|
some (.inl (a++[(-1:Int)],Wq (b+1),()))
else
Zt ((a.length+[b].length)*8<=140737488355328)<|
some (.inl (a++[b],Wq (b+1),()))
else
Zt ((a.length+[b].length)*8<=140737488355328)<|
some (.inl (a++[b],Wq (b+1),()))
else
if K2 d=3 then
if Wq (Wq ((c.length:Int)-((Ga (KX e)).length:Int))-2)<=b then
Zt ((a.length+[(-1:Int)].length)*8<=140737488355328)<|
some (.inl (a++[(-1:Int)],Wq (b+1),()))
else
Zt ((a.length+[b].length)*8<=140737488355328)<|
some (.inl (a++[b],Wq (b+1),()))
else
Zt ((a.length+[b].length)*8<=140737488355328)<|
some (.inl (a++[b],Wq (b+1),()))
else
if K2 d=3 then
if Wq ((c.length:Int)-((Ga (KX e)).length:Int))<=b then
Zt ((a.length+[Wq (b-2)].length)*8<=140737488355328)<|
some (.inl (a++[Wq (b-2)],Wq (b+1),()))
else
if K2 d=3 then
if Wq (Wq ((c.length:Int)-((Ga (KX e)).length:Int))-2)<=b then
Zt ((a.length+[(-1:Int)].length)*8<=140737488355328)<|
some (.inl (a++[(-1:Int)],Wq (b+1),()))
else
Zt ((a.length+[b].length)*8<=140737488355328)<|
some (.inl (a++[b],Wq (b+1),()))
else
Zt ((a.length+[b].length)*8<=140737488355328)<|
some (.inl (a++[b],Wq (b+1),()))
else
if K2 d=3 then
if Wq (Wq ((c.length:Int)-((Ga (KX e)).length:Int))-2)<=b then
Zt ((a.length+[(-1:Int)].length)*8<=140737488355328)<|
some (.inl (a++[(-1:Int)],Wq (b+1),()))
else
Zt ((a.length+[b].length)*8<=140737488355328)<|
some (.inl (a++[b],Wq (b+1),()))
else
Zt ((a.length+[b].length)*8<=140737488355328)<|
some (.inl (a++[b],Wq (b+1),()))
else
some (.inr a)
def Zgy (a:Za) (c:Zg):Option (List Int):=
(YK (KX a)).bind λb=>
Zx (λv=>ZbB a c b v.1 v.2.1) (([]:List Int),(0:Int),())
def ZJa:Ctr:=⟨[.dat (Yg),.dat (Qh)],[.own (.ol 2 (.flat Iq))],λa K=>splitK a λc a=>splitK a λb a=>Yf (Zgy c b) λr=>K (r,()) ()⟩
def Zbn (c:List Zj) (a:List Int) (b:List Zj) (e:Int):Option (((List Zj)×Int×Unit)⊕((List Zj)×Bool)):=
if e<(c.length:Int)then
(atI c e).bind λd=>
(atI a (Wq (Int.tdiv (Ge d) 2))).bind λf=>
if f<0 then
some (.inr (([]:List Zj),false))
else
Zt ((b.length+[(Wq (Wq ((2:Int)*f)+Int.tmod (Ge d) (2:Int)),d.2)].length)*40<=140737488355328)<|
some (.inl (b++[(Wq (Wq ((2:Int)*f)+Int.tmod (Ge d) (2:Int)),d.2)],Wq (e+1),()))
else
some (.inr (b,true))
def ZhS (d:Za) (c:Zg) (a:List Zj):Option ((List Zj)×Bool):=
(Zgy d c).bind λb=>
Zx (λv=>Zbn a b v.1 v.2.1) (([]:List (Int×ZA×ZA×Unit)),(0:Int),())
def ZJb:Ctr:=⟨[.dat (Yg),.dat (Qh),.dat (.sl (XQ))],[.own (.ol 87 (.flat (XQ))),.dat (.bool)],λa K=>splitK a λd a=>splitK a λc a=>splitK a λb a=>Yf (ZhS d c b) λr=>K (r.1,r.2,()) ()⟩
def Zak (b:Za) (e:Zg) (a:List Zj):Option ((List Zj)×Int):=
(QU b e).bind λc=>
if c=0 then
(Zdo b a).bind λf=>
if f then
(ZhS b e a).bind λd=>
if d.2 then
some (d.1,0)
else
some ([],5)
else
some ([],2)
else
some ([],c)
def ZJc:Ctr:=⟨[.dat (Yg),.dat (Qh),.dat (.sl (XQ))],[.own (.ol 87 (.flat (XQ))),.dat Iq],λa K=>splitK a λd a=>splitK a λc a=>splitK a λb a=>Yf (Zak d c b) λr=>K (r.1,r.2,()) ()⟩
def Zap (c:Za) (b:Zg):Option ((List Int)×Int):=
(Vl c b).bind λa=>
if a=0 then
(Jl b c).bind λd=>
some (d,0)
else
some ([],a)
def ZJd:Ctr:=⟨[.dat (Yg),.dat (Qh)],[.own (.ol 2 (.flat Iq)),.dat Iq],λa K=>splitK a λc a=>splitK a λb a=>Yf (Zap c b) λr=>K (r.1,r.2,()) ()⟩
def Zg6 (c:Za) (a:List Int):Option ((Option ZO)×Int):=
(ZeW c).bind λd=>
if d then
(VI c).bind λb=>
(QG b a).bind λe=>
if e then
(VY b a).bind λf=>
some (Option.some f,0)
else
some (Option.none,2)
else
some (Option.none,1)
def ZJe:Ctr:=⟨[.dat (Yg),.dat (.sl Iq)],[.dat (.nptr (ZgJ)),.dat Iq],λa K=>splitK a λc a=>splitK a λb a=>Yf (Zg6 c b) λr=>K (r.1,r.2,()) ()⟩
def Zkf (a:Zp):Option (Int×Int):=
some (Gd a,Gf a)
def ZJf:Ctr:=⟨[.dat (ZbZ)],[.dat Iq,.dat Iq],λa K=>splitK a λb a=>Yf (Zkf b) λr=>K (r.1,r.2,()) ()⟩
def Qm (a:List Int) (e:List (List Int)) (c:List Bool):Option (((List Int)×(List (List Int))×(List Bool)×Unit)⊕((Int×(List (List Int))×Unit)⊕List Bool)):=
if 0<(a.length:Int)then
(atI a 0).bind λb=>
Zt ((1:Int)<=(a.length:Int))<|
Zt ((a.length:Int)<=(a.length:Int))<|
(atI c b).bind λf=>
if f then
some (.inl (List.take (Int.toNat (a.length:Int)-Int.toNat 1) (List.drop (Int.toNat 1) a),e,c,()))
else
(atI e b).bind λd=>
Zt (((List.take (Int.toNat (a.length:Int)-Int.toNat (1:Int)) (List.drop (Int.toNat (1:Int)) a)).length+d.length)*8<=140737488355328)<|
some (.inl (List.take (Int.toNat (a.length:Int)-Int.toNat 1) (List.drop (Int.toNat 1) a)++d,List.set e (Int.toNat b) d,List.set c (Int.toNat b) true,()))
else
some (.inr (.inr c))
def Qn (e:ZO) (h:List Int) (a b:Int) (d:List (List Int)):Option ((Int×(List (List Int))×Unit)⊕List Bool):=
if b<((ZM.links (GB e)).length:Int)then
(atI (ZM.links (GB e)) b).bind λg=>
(Zkf g).bind λc=>
(atI (ZO.live e) b).bind λj=>
if j then
(atI d c.1).bind λf=>
Zt ((f.length+[c.2].length)*8<=140737488355328)<|
some (.inl (Wq (b+1),List.set d (Int.toNat c.1) (f++[c.2]),()))
else
some (.inl (Wq (b+1),d,()))
else
Zt (((1:Nat):Int)*a<=281474976710656)<|
(ZG h).bind λi=>
Zx (λv=>Qm v.1 v.2.1 v.2.2.1) (i,d,List.replicate (Int.toNat a) false,())
def Qa (b:ZO) (c:List Int) (d:Unit):Option (List Bool):=
(YC (GB b)).bind λa=>
Zt ((0:Int)<=a)<|
Zt (a<=a)<|
Zt (a<=4611686018427387904)<|
Zt (((24:Nat):Int)*a<=281474976710656)<|
Zx (λv=>Qn b c a v.1 v.2.1) ((0:Int),List.replicate (Int.toNat a) (([]:List Int)),())
def ZJg:Ctr:=⟨[.dat (.ptr (ZgJ)),.dat (.sl Iq),.dat (.fn 60 (.unit))],[.own (.ol 4 (.flat (.bool)))],λa K=>splitK a λb a=>splitK a λd a=>splitK a λc a=>Yf (Qa b d c) λr=>K (r,()) ()⟩
def ZdS (b:List Bool) (a:List Int) (c:Int):Option (((List Int)×Int×Unit)⊕List Int):=
if c<(b.length:Int)then
(atI b c).bind λd=>
if d then
Zt ((a.length+[c].length)*8<=140737488355328)<|
some (.inl (a++[c],Wq (c+1),()))
else
some (.inl (a,Wq (c+1),()))
else
some (.inr a)
def Zgo (a:List Bool):Option (List Int):=
Zx (λv=>ZdS a v.1 v.2.1) (([]:List Int),(0:Int),())
def ZJh:Ctr:=⟨[.dat (.sl (.bool))],[.own (.ol 2 (.flat Iq))],λa K=>splitK a λb a=>Yf (Zgo b) λr=>K (r,()) ()⟩
def ZhB (h:Za) (b a:List Int):Option ((List Int)×Int):=
(Zg6 h b).bind λc=>
if c.2=0 then
(c.1).bind λd=>
(X7 (GB d) a).bind λf=>
if f then
(Qa d a ()).bind λe=>
(Zgo e).bind λg=>
some (g,0)
else
some ([],2)
else
some ([],c.2)
def ZJi:Ctr:=⟨[.dat (Yg),.dat (.sl Iq),.dat (.sl Iq)],[.own (.ol 2 (.flat Iq)),.dat Iq],λa K=>splitK a λd a=>splitK a λb a=>splitK a λc a=>Yf (ZhB d b c) λr=>K (r.1,r.2,()) ()⟩
def Zf4 (a:List Int) (d b:Int):Option ((Int×Unit)⊕Bool):=
if b<(a.length:Int)then
(atI a b).bind λc=>
if c=d then
some (.inr true)
else
some (.inl (Wq (b+1),()))
else
some (.inr false)
def Zjl (a:List Int) (b:Int):Option Bool:=
Zx (λv=>Zf4 a b v.1) ((0:Int),())
def ZJj:Ctr:=D2 (.sl Iq) Iq (.bool) Zjl
def QB (c e:List ZA) (a:Int):Option ((Int×Unit)⊕Bool):=
if a<(c.length:Int)then
(atI c a).bind λb=>
(atI e a).bind λd=>
if(decide (Gc b=Gc d)&&decide (Gg b=Gg d))=true then
some (.inl (Wq (a+1),()))
else
some (.inr false)
else
some (.inr true)
def Zd9 (b a:List ZA):Option Bool:=
if(b.length:Int)=(a.length:Int)then
Zx (λv=>QB b a v.1) ((0:Int),())
else
some false
def ZJk:Ctr:=D2 (.sl (ZaA)) (.sl (ZaA)) (.bool) Zd9
def QX (b e:Zf) (a:Int):Option ((Int×Unit)⊕Bool):=
if a<((K6 b).length:Int)then
(atI (K6 b) a).bind λc=>
(atI (K6 e) a).bind λd=>
if(c==d)=true then
some (.inl (Wq (a+1),()))
else
some (.inr false)
else
some (.inr true)
def Zhb (b a:Zf):Option Bool:=
if((K6 b).length:Int)=((K6 a).length:Int)then
(Zd9 (Gu b) (Gu a)).bind λc=>
if c then
(Zd9 (Gs b) (Gs a)).bind λd=>
if d then
Zx (λv=>QX b a v.1) ((0:Int),())
else
some false
else
some false
else
some false
def ZJl:Ctr:=D2 (ZgU) (ZgU) (.bool) Zhb
def XD (a:Zf×List Int×Int) (c:Zf×Int) (b d:List Int×Int) (e:Int):Option ((Int×Unit)⊕Bool):=
if e<(a.2.1.length:Int)then
(atI a.2.1 e).bind λg=>
(Zjl d.1 g).bind λf=>
if f then
some (.inl (Wq (e+1),()))
else
some (.inr false)
else
if d.2=0 then
(Zhb a.1 c.1).bind λh=>
if h then
if(b.1.length:Int)<=(a.2.1.length:Int)then
some (.inr (decide (0<(b.1.length:Int))))
else
some (.inr false)
else
some (.inr false)
else
some (.inr false)
def Za4 (h:List Int):Option Bool:=
(ZsD h).bind λl=>
if l then
some true
else
(VP h).bind λa=>
(XW a.1 a.2.2.1 (([]:List Int)) a.2.2.2.1).bind λe=>
(YF a.1 a.2.2.1 (([]:List Int)) a.2.2.2.1).bind λj=>
if e.2=j.2 then
if e.2=0 then
(XB a.1 a.2.1 a.2.2.1 a.2.2.2.1 e.1).bind λb=>
(J7 a.1 a.2.1).bind λf=>
(VW a.1 a.2.1 a.2.2.2.1).bind λc=>
(Zak a.1 a.2.1 a.2.2.2.1).bind λk=>
if c.2=k.2 then
if f.2=0 then
if c.2=0 then
(XW f.1 a.2.2.1 (([]:List Int)) c.1).bind λd=>
if b.2.2=d.2 then
if b.2.2=0 then
(Zap a.1 a.2.1).bind λg=>
(ZhB f.1 (([]:List Int)) g.1).bind λi=>
Zx (λv=>XD b d g i v.1) ((0:Int),())
else
some (decide (b.2.2=d.2))
else
some (decide (b.2.2=d.2))
else
some (decide (b.2.2=c.2))
else
some (decide (b.2.2=c.2))
else
some false
else
some (decide ((e.1.1.length:Int)=0))
else
some false
def ZgX:Ctr:=⟨[.dat (.sl (.int .u8))],[.dat (.bool)],λa K=>splitK a λb a=>Yf (Za4 b) λr=>K (r,()) ()⟩
end
end Go.Proofs.YtcjminfjgckdlaaGreatDoor
