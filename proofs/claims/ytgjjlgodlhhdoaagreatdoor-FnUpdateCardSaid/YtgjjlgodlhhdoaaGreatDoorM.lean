/-
 The models of the functions and their contracts. Printed by program.
-/
import Derived.Test.YtgjjlgodlhhdoaaGreatDoorSxTab
import Derived.Test.YtgjjlgodlhhdoaaGreatDoorSxS0
import Derived.Test.YtgjjlgodlhhdoaaGreatDoorSxLib
namespace Go.Proofs.YtgjjlgodlhhdoaaGreatDoor
open Go Go.Sx
set_option maxRecDepth 100000
set_option maxHeartbeats 6400000
set_option linter.unusedVariables false
set_option linter.unusedSimpArgs false
noncomputable section
abbrev Iq:Ty:=.int .i64
abbrev Wq:=IntKind.wrap IntKind.i64
abbrev Sq:=Za Tryz.prog
theorem Bq {α β:Type} (x:α) (f:α->Option β):(some x).bind f=f x:=rfl
def ZmF (code0:List Int):Option Bool :=
 some (Decidable.decide (4096<(↑code0.length:Int)))
def c0:Ctr:=D1 (.sl (.int .u8)) (.bool) ZmF
def ZcB (code0:List Int) (i0:Int) (c0:Int):Option ((Int×Int×Unit) ⊕ Zf) :=
 if i0<(↑code0.length:Int) then
 if i0<64 then
 (atI code0 i0).bind λx0 =>
 some (.inl (Wq (i0+1),Int.tmod (Wq (Wq (c0*31)+Wq x0)) 2147483647,()))
 else
 some (.inr (code0,0,c0,()))
 else
 some (.inr (code0,0,c0,()))
def ZeQ (code0:List Int):Option Zf :=
 Zp (λv=>ZcB code0 v.1 v.2.1) ((0:Int),(12345:Int),())
def c1:Ctr:=⟨[.dat (.sl (.int .u8))],[.io (.flat (YZ))],λa K=>splitK a λcode0 a=>YB (ZeQ code0) λr=>K (r,()) ()⟩
def Zj (a0:Zf) (a1:Int):Option (Int×Zf) :=
 if a1<=1 then
 some (0,a0)
 else
 if Zf.at a0<(↑(List.length (Zf.code a0)):Int) then
 (atI (Zf.code a0) (Zf.at a0)).bind λx0 =>
 if a1<=256 then
 Zw (a1≠(0:Int)) <|
 some (Int.tmod (Wq x0) a1,(Zf.code a0,Wq (Zf.at a0+1),a0.snd.snd))
 else
 Zw (a1≠(0:Int)) <|
 some (Int.tmod (Int.tmod (Wq (Wq (Wq (Zf.seed a0*48271)+Wq x0)+1)) 2147483647) a1,(Zf.code a0,Wq (Zf.at a0+1),Int.tmod (Wq (Wq (Wq (Zf.seed a0*48271)+Wq x0)+1)) 2147483647,()))
 else
 Zw (a1≠(0:Int)) <|
 some (Int.tmod (Wq (Int.tdiv (Int.tmod (Wq (Wq (Zf.seed a0*48271)+11)) 2147483647) 7)) a1,(Zf.code a0,Zf.at a0,Int.tmod (Wq (Wq (Zf.seed a0*48271)+11)) 2147483647,()))
def c2:Ctr:=⟨[.io (.flat (YZ)),.dat Iq],[.dat Iq],λa K=>splitK a λa0 a=>splitK a λa1 a=>YB (Zj a0 a1) λr=>K (r.1,()) (r.2,())⟩
def ZbM (c0:Zl) (pin0:Int) (raises0:Bool) (lowers0:Bool) (i0:Int):Option ((Bool×Bool×Int×Unit) ⊕ Int) :=
 if i0<(↑(List.length (Zl.Truth c0)):Int) then
 if Go.bits Go.BinOp.and IntKind.i64 i0 (Wq (1*2 ^ Min.min (Int.toNat (IntKind.wrap IntKind.u64 pin0)) (IntKind.bits IntKind.i64)))=0 then
 if raises0 then
 if lowers0 then
 some (.inl (true,true,Wq (i0+1),()))
 else
 (atI (Zl.Truth c0) i0).bind λx0 =>
 (atI (Zl.Truth c0) (Wq (i0+Wq (1*2 ^ Min.min (Int.toNat (IntKind.wrap IntKind.u64 pin0)) (IntKind.bits IntKind.i64))))).bind λx1 =>
 some (.inl (true,Decidable.decide (x1<x0),Wq (i0+1),()))
 else
 (atI (Zl.Truth c0) i0).bind λx0 =>
 (atI (Zl.Truth c0) (Wq (i0+Wq (1*2 ^ Min.min (Int.toNat (IntKind.wrap IntKind.u64 pin0)) (IntKind.bits IntKind.i64))))).bind λx1 =>
 if lowers0 then
 some (.inl (Decidable.decide (x0<x1),true,Wq (i0+1),()))
 else
 some (.inl (Decidable.decide (x0<x1),Decidable.decide (x1<x0),Wq (i0+1),()))
 else
 some (.inl (raises0,lowers0,Wq (i0+1),()))
 else
 if raises0 then
 if lowers0 then
 some (.inr 3)
 else
 if raises0 then
 some (.inr 1)
 else
 if lowers0 then
 some (.inr 2)
 else
 some (.inr 0)
 else
 if raises0 then
 some (.inr 1)
 else
 if lowers0 then
 some (.inr 2)
 else
 some (.inr 0)
def ZcJ (c0:Zl) (pin0:Int):Option Int :=
 Zw ((0:Int)<=IntKind.wrap IntKind.u64 pin0) <|
 Zp (λv=>ZbM c0 pin0 v.1 v.2.1 v.2.2.1) (false,false,(0:Int),())
def c3:Ctr:=D2 (Zeu) Iq Iq ZcJ
def J9 (step0:Int) (out0:List Int) (at0:Int) (n0:Int) (c0:List Int) (c1:Int) (c2:Int):Option (((List Int)×Int×Int×(List Int)×Int×Int×Unit) ⊕ ((List Int)×Zf)) :=
 if 0<n0 then
 Zw ((List.length out0+List.length [at0])*(8:Nat)<=(140737488355328:Nat)) <|
 (Zj (c0,c1,c2,()) step0).bind λy0 =>
 some (.inl (out0++[at0],Wq (Wq (at0+(1:Int))+y0.fst),Wq (n0-(1:Int)),y0.snd.fst,y0.snd.snd.fst,y0.snd.snd.snd.fst,()))
 else
 some (.inr (out0,(c0,c1,c2,())))
def JW (s0:Zf) (step0:Int):Option ((List Int)×Zf) :=
 (Zj s0 step0).bind λy0 =>
 (Zj y0.snd 3).bind λy1 =>
 Zp (λv=>J9 step0 v.1 v.2.1 v.2.2.1 v.2.2.2.1 v.2.2.2.2.1 v.2.2.2.2.2.1) (([]:List Int),y0.fst,Wq ((1:Int)+y1.fst),y1.snd.fst,y1.snd.snd.fst,y1.snd.snd.snd.fst,())
def c4:Ctr:=⟨[.io (.flat (YZ)),.dat Iq],[.own (.ol 2 (.flat Iq))],λa K=>splitK a λs0 a=>splitK a λstep0 a=>YB (JW s0 step0) λr=>K (r.1,()) (r.2,())⟩
def ZcE (a1:Int) (l02DrawAxis0:List Int×Zf) (l02DrawAxis1:List Int×Zf) (v0:List Int) (v1:Int) (c0:List Int) (c1:Int) (c2:Int):Option (((List Int)×Int×(List Int)×Int×Int×Unit) ⊕ (Zx×Zf)) :=
 if v1<Wq ((↑(List.length l02DrawAxis0.fst):Int)*(↑(List.length l02DrawAxis1.fst):Int)) then
 (Zj (c0,c1,c2,()) 10).bind λy0 =>
 Zw ((↑(List.length l02DrawAxis1.fst):Int)≠(0:Int)) <|
 if 0<Int.tmod v1 (↑(List.length l02DrawAxis1.fst):Int) then
 (atI v0 (Wq (v1-1))).bind λx0 =>
 (Zj y0.snd 20).bind λy1 =>
 if (↑(List.length l02DrawAxis1.fst):Int)<=v1 then
 (atI v0 (Wq (v1-(↑(List.length l02DrawAxis1.fst):Int)))).bind λx1 =>
 (Zj y1.snd 20).bind λy2 =>
 Zw ((List.length v0+List.length [Max.max (Max.max (Wq (a1+y0.fst)) (Wq (x0+y1.fst))) (Wq (x1+y2.fst))])*(8:Nat)<=(140737488355328:Nat)) <|
 some (.inl (v0++[Max.max (Max.max (Wq (a1+y0.fst)) (Wq (x0+y1.fst))) (Wq (x1+y2.fst))],Wq (v1+(1:Int)),y2.snd.fst,y2.snd.snd.fst,y2.snd.snd.snd.fst,()))
 else
 Zw ((List.length v0+List.length [Max.max (Wq (a1+y0.fst)) (Wq (x0+y1.fst))])*(8:Nat)<=(140737488355328:Nat)) <|
 some (.inl (v0++[Max.max (Wq (a1+y0.fst)) (Wq (x0+y1.fst))],Wq (v1+(1:Int)),y1.snd.fst,y1.snd.snd.fst,y1.snd.snd.snd.fst,()))
 else
 if (↑(List.length l02DrawAxis1.fst):Int)<=v1 then
 (atI v0 (Wq (v1-(↑(List.length l02DrawAxis1.fst):Int)))).bind λx0 =>
 (Zj y0.snd 20).bind λy1 =>
 Zw ((List.length v0+List.length [Max.max (Wq (a1+y0.fst)) (Wq (x0+y1.fst))])*(8:Nat)<=(140737488355328:Nat)) <|
 some (.inl (v0++[Max.max (Wq (a1+y0.fst)) (Wq (x0+y1.fst))],Wq (v1+(1:Int)),y1.snd.fst,y1.snd.snd.fst,y1.snd.snd.snd.fst,()))
 else
 Zw ((List.length v0+List.length [Wq (a1+y0.fst)])*(8:Nat)<=(140737488355328:Nat)) <|
 some (.inl (v0++[Wq (a1+y0.fst)],Wq (v1+(1:Int)),y0.snd.fst,y0.snd.snd.fst,y0.snd.snd.snd.fst,()))
 else
 some (.inr ((l02DrawAxis0.fst,l02DrawAxis1.fst,v0,()),(c0,c1,c2,())))
def ZdD (a0:Zf) (a1:Int):Option (Zx×Zf) :=
 (JW a0 60).bind λy0 =>
 (JW y0.snd 40).bind λy1 =>
 Zp (λv=>ZcE a1 y0 y1 v.1 v.2.1 v.2.2.1 v.2.2.2.1 v.2.2.2.2.1) (([]:List Int),(0:Int),y1.snd.fst,y1.snd.snd.fst,y1.snd.snd.snd.fst,())
def c5:Ctr:=⟨[.io (.flat (YZ)),.dat Iq],[.own (ZlM)],λa K=>splitK a λa0 a=>splitK a λa1 a=>YB (ZdD a0 a1) λr=>K (r.1,()) (r.2,())⟩
def Qy (s0:Zf) (base0:Int):Option ((List Zx)×Zf) :=
 (ZdD s0 base0).bind λy0 =>
 (ZdD y0.snd base0).bind λy1 =>
 some ([y0.fst,y1.fst],y1.snd)
def c6:Ctr:=⟨[.io (.flat (YZ)),.dat Iq],[.own (.ol 314 (ZlM))],λa K=>splitK a λs0 a=>splitK a λbase0 a=>YB (Qy s0 base0) λr=>K (r.1,()) (r.2,())⟩
def Qt (s0:Zf) (kind0:Int) (from0:Int) (to0:Int) (sense0:Int):Option (ZB×Zf) :=
 if 4<=kind0 then
 (Zj s0 10).bind λy0 =>
 (Qy y0.snd (Wq (5-y0.fst))).bind λy1 =>
 some ((kind0,from0,to0,(0:Int),y1.fst,([]:List Zx),()),y1.snd)
 else
 (Zj s0 20).bind λy0 =>
 (Qy y0.snd (Wq (5+y0.fst))).bind λy1 =>
 (Qy y1.snd 10).bind λy2 =>
 some ((kind0,from0,to0,sense0,y1.fst,y2.fst,()),y2.snd)
def c7:Ctr:=⟨[.io (.flat (YZ)),.dat Iq,.dat Iq,.dat Iq,.dat Iq],[.own (ZwI)],λa K=>splitK a λs0 a=>splitK a λkind0 a=>splitK a λfrom0 a=>splitK a λto0 a=>splitK a λsense0 a=>YB (Qt s0 kind0 from0 to0 sense0) λr=>K (r.1,()) (r.2,())⟩
def ZcF (a1:List UInt8) (a2:List Int) (l01Next0:Int×Zf) (l01Next1:Int×Zf) (v0:List Y7) (v2:List ZB) (v3:Int) (c3:List Int) (c4:Int) (c5:Int):Option (((List ZB)×Int×(List Int)×Int×Int×Unit) ⊕ (((List Y7)×Int×(List Int)×Int×Int×Unit) ⊕ (Zl×Zf))) :=
 if v3<(↑v0.length:Int) then
 (ZcJ (a1,(1:Int),v0++[([(121:UInt8)],(2:Int),(0:Int),false,())],([]:List ZB),a2,l01Next0.fst,l01Next1.fst,()) v3).bind λy0 =>
 if y0=0 then
 some (.inl (v2,Wq (v3+1),c3,c4,c5,()))
 else
 (Qt (c3,c4,c5,()) 1 v3 (↑v0.length:Int) y0).bind λy1 =>
 Zw ((List.length v2+List.length [y1.fst])*(80:Nat)<=(140737488355328:Nat)) <|
 some (.inl (v2++[y1.fst],Wq (v3+(1:Int)),y1.snd.fst,y1.snd.snd.fst,y1.snd.snd.snd.fst,()))
 else
 some (.inr (.inr ((a1,(1:Int),v0++[([(121:UInt8)],(2:Int),(0:Int),false,())],v2,a2,l01Next0.fst,l01Next1.fst,()),(c3,c4,c5,()))))
def ZcG (a1:List UInt8) (a2:List Int) (l01Next0:Int×Zf) (l01Next1:Int×Zf) (v0:List Y7) (v1:Int) (c0:List Int) (c1:Int) (c2:Int):Option (((List Y7)×Int×(List Int)×Int×Int×Unit) ⊕ (Zl×Zf)) :=
 if v1<(↑a2.length:Int) then
 (atI ([[(97:UInt8)],[(98:UInt8)],[(99:UInt8)],[(100:UInt8)]]) (↑v0.length:Int)).bind λx0 =>
 (Zj (c0,c1,c2,()) 9).bind λy0 =>
 Zw ((List.length v0+List.length [(x0,(1:Int),Wq ((1:Int)+y0.fst),false,())])*(40:Nat)<=(140737488355328:Nat)) <|
 some (.inl (v0++[(x0,(1:Int),Wq ((1:Int)+y0.fst),false,())],Wq ((2:Int)*v1),y0.snd.fst,y0.snd.snd.fst,y0.snd.snd.snd.fst,()))
 else
 Zw ((List.length v0+List.length [([(121:UInt8)],(2:Int),(0:Int),false,())])*(40:Nat)<=(140737488355328:Nat)) <|
 Zp (λv=>ZcF a1 a2 l01Next0 l01Next1 v0 v.1 v.2.1 v.2.2.1 v.2.2.2.1 v.2.2.2.2.1) (([]:List ZB),(0:Int),c0,c1,c2,())
def Jt (a0:Zf) (a1:List UInt8) (a2:List Int):Option (Zl×Zf) :=
 (Zj a0 50).bind λy0 =>
 (Zj y0.snd 80).bind λy1 =>
 Zp (λv=>ZcG a1 a2 y0 y1 v.1 v.2.1 v.2.2.1 v.2.2.2.1 v.2.2.2.2.1) (([]:List (List UInt8×Int×Int×Bool×Unit)),(1:Int),y1.snd.fst,y1.snd.snd.fst,y1.snd.snd.snd.fst,())
def c8:Ctr:=⟨[.io (.flat (YZ)),.dat (.str),.own (.ol 2 (.flat Iq))],[.own (ZrE)],λa K=>splitK a λa0 a=>splitK a λa1 a=>splitK a λa2 a=>YB (Jt a0 a1 a2) λr=>K (r.1,()) (r.2,())⟩
def Vp (s0:Zf) (name0:List UInt8) (kind0:Int) (edge0:Int):Option (Zl×Zf) :=
 (Zj s0 50).bind λy0 =>
 (Zj y0.snd 80).bind λy1 =>
 (Zj y1.snd 9).bind λy2 =>
 (Zj y2.snd 9).bind λy3 =>
 (Qt y3.snd edge0 1 2 0).bind λy4 =>
 (Qt y4.snd 4 1 0 0).bind λy5 =>
 (Qt y5.snd 5 1 0 0).bind λy6 =>
 if kind0=3 then
 (Qt y6.snd 1 0 2 1).bind λy7 =>
 Zw ((List.length [y4.fst,y5.fst,y6.fst]+List.length [y7.fst])*(80:Nat)<=(140737488355328:Nat)) <|
 some ((name0,kind0,[([(100:UInt8)],(1:Int),Wq ((1:Int)+y2.fst),false,()),([(99:UInt8),(107:UInt8)],(1:Int),Wq ((1:Int)+y3.fst),true,()),([(113:UInt8)],(2:Int),(0:Int),false,())],[y4.fst,y5.fst,y6.fst]++[y7.fst],([]:List Int),y0.fst,y1.fst,()),y7.snd)
 else
 some ((name0,kind0,[([(100:UInt8)],(1:Int),Wq ((1:Int)+y2.fst),false,()),([(99:UInt8),(107:UInt8)],(1:Int),Wq ((1:Int)+y3.fst),true,()),([(113:UInt8)],(2:Int),(0:Int),false,())],[y4.fst,y5.fst,y6.fst],([]:List Int),y0.fst,y1.fst,()),y6.snd)
def c9:Ctr:=⟨[.io (.flat (YZ)),.dat (.str),.dat Iq,.dat Iq],[.own (ZrE)],λa K=>splitK a λs0 a=>splitK a λname0 a=>splitK a λkind0 a=>splitK a λedge0 a=>YB (Vp s0 name0 kind0 edge0) λr=>K (r.1,()) (r.2,())⟩
def ZeR (s0:Zf):Option (Zy×Zf) :=
 (Jt s0 [(105:UInt8),(110:UInt8),(118:UInt8)] [(1:Int),(0:Int)]).bind λy0 =>
 (Jt y0.snd [(98:UInt8),(117:UInt8),(102:UInt8)] [(0:Int),(1:Int)]).bind λy1 =>
 (Jt y1.snd [(110:UInt8),(97:UInt8),(110:UInt8),(100:UInt8)] [(1:Int),(1:Int),(1:Int),(0:Int)]).bind λy2 =>
 (Jt y2.snd [(120:UInt8),(111:UInt8),(114:UInt8)] [(0:Int),(1:Int),(1:Int),(0:Int)]).bind λy3 =>
 (Jt y3.snd [(109:UInt8),(117:UInt8),(120:UInt8)] [(0:Int),(1:Int),(0:Int),(1:Int),(0:Int),(0:Int),(1:Int),(1:Int)]).bind λy4 =>
 (Vp y4.snd [(102:UInt8),(108:UInt8),(111:UInt8),(112:UInt8)] (2:Int) (2:Int)).bind λy5 =>
 (Vp y5.snd [(102:UInt8),(108:UInt8),(111:UInt8),(112:UInt8),(110:UInt8)] (2:Int) (3:Int)).bind λy6 =>
 (Vp y6.snd [(108:UInt8),(97:UInt8),(116:UInt8),(99:UInt8),(104:UInt8)] (3:Int) (2:Int)).bind λy7 =>
 some (([y0.fst,y1.fst,y2.fst,y3.fst,y4.fst,y5.fst,y6.fst,y7.fst],()),y7.snd)
def c10:Ctr:=⟨[.io (.flat (YZ))],[.own (Zpk)],λa K=>splitK a λs0 a=>YB (ZeR s0) λr=>K (r.1,()) (r.2,())⟩
def YG (rec0:Int->Option (List UInt8)) (n0:Int):Option (List UInt8) :=
 if n0<0 then
 (rec0 (Wq (0-n0))).bind λr0 =>
 Zw ((↑(List.length [(45:UInt8)]):Int)+(↑r0.length:Int)<=(9223372036854775807:Int)) <|
 some ([(45:UInt8)]++r0)
 else
 if n0<10 then
 some (bytesOf [IntKind.wrap IntKind.u8 (Wq ((48:Int)+n0))])
 else
 (rec0 (Wq (Int.tdiv n0 10))).bind λr0 =>
 Zw ((↑r0.length:Int)+(↑(List.length (bytesOf [IntKind.wrap IntKind.u8 (Wq ((48:Int)+Int.tmod n0 (10:Int)))])):Int)<=(9223372036854775807:Int)) <|
 some (r0++bytesOf [IntKind.wrap IntKind.u8 (Wq ((48:Int)+Int.tmod n0 (10:Int)))])
def Qc:Nat->Int->Option (List UInt8)
 | 0=>λ_=>none
 | n+1=>YG (Qc n)
def Zbm (n0:Int):Option (List UInt8):=ZvX (λn=>Qc n n0)
def ZaL (rec0:Int->Option (List UInt8)):Ctr:=⟨[.dat Iq],[.dat (.str)],λa K=>splitK a λn0 a=>YB (rec0 n0) λr=>K (r,()) ()⟩
def c11:Ctr:=ZaL Zbm
def ZcK (v0:List Zi) (v1:List (List UInt8)) (v2:Int) (x0:Int) (l01Number0:List UInt8) (v3:Int) (c3:List Int) (c4:Int) (c5:Int) (c6:List Int):Option ((Int×(List Int)×Int×Int×(List Int)×Unit) ⊕ (((List Zi)×(List (List UInt8))×Int×(List Int)×Int×Int×Unit) ⊕ (Zd×Zf))) :=
 (atI ([(2:Int),(2:Int),(3:Int),(3:Int),(4:Int),(3:Int),(3:Int),(3:Int)]) x0).bind λx1 =>
 if v3<Wq (x1-1) then
 (Zj (c3,c4,c5,()) (Wq ((↑v1.length:Int)-1))).bind λy0 =>
 (Zj y0.snd 3).bind λy1 =>
 if y1.fst=0 then
 if 5<=x0 then
 if v3=1 then
 Zw ((List.length (([]:List Int))+List.length c6)*(8:Nat)<=(140737488355328:Nat)) <|
 Zw ((List.length (([]:List Int)++c6)+List.length [(0:Int)])*(8:Nat)<=(140737488355328:Nat)) <|
 some (.inl (Wq (v3+(1:Int)),y1.snd.fst,y1.snd.snd.fst,y1.snd.snd.snd.fst,([]:List Int)++c6++[(0:Int)],()))
 else
 Zw ((List.length (([]:List Int))+List.length c6)*(8:Nat)<=(140737488355328:Nat)) <|
 Zw ((List.length (([]:List Int)++c6)+List.length [Wq ((↑v1.length:Int)-(1:Int))])*(8:Nat)<=(140737488355328:Nat)) <|
 some (.inl (Wq (v3+(1:Int)),y1.snd.fst,y1.snd.snd.fst,y1.snd.snd.snd.fst,([]:List Int)++c6++[Wq ((↑v1.length:Int)-(1:Int))],()))
 else
 Zw ((List.length (([]:List Int))+List.length c6)*(8:Nat)<=(140737488355328:Nat)) <|
 Zw ((List.length (([]:List Int)++c6)+List.length [Wq ((↑v1.length:Int)-(1:Int))])*(8:Nat)<=(140737488355328:Nat)) <|
 some (.inl (Wq (v3+(1:Int)),y1.snd.fst,y1.snd.snd.fst,y1.snd.snd.snd.fst,([]:List Int)++c6++[Wq ((↑v1.length:Int)-(1:Int))],()))
 else
 if 5<=x0 then
 if v3=1 then
 Zw ((List.length (([]:List Int))+List.length c6)*(8:Nat)<=(140737488355328:Nat)) <|
 Zw ((List.length (([]:List Int)++c6)+List.length [(0:Int)])*(8:Nat)<=(140737488355328:Nat)) <|
 some (.inl (Wq (v3+(1:Int)),y1.snd.fst,y1.snd.snd.fst,y1.snd.snd.snd.fst,([]:List Int)++c6++[(0:Int)],()))
 else
 Zw ((List.length (([]:List Int))+List.length c6)*(8:Nat)<=(140737488355328:Nat)) <|
 Zw ((List.length (([]:List Int)++c6)+List.length [Wq ((1:Int)+y0.fst)])*(8:Nat)<=(140737488355328:Nat)) <|
 some (.inl (Wq (v3+(1:Int)),y1.snd.fst,y1.snd.snd.fst,y1.snd.snd.snd.fst,([]:List Int)++c6++[Wq ((1:Int)+y0.fst)],()))
 else
 Zw ((List.length (([]:List Int))+List.length c6)*(8:Nat)<=(140737488355328:Nat)) <|
 Zw ((List.length (([]:List Int)++c6)+List.length [Wq ((1:Int)+y0.fst)])*(8:Nat)<=(140737488355328:Nat)) <|
 some (.inl (Wq (v3+(1:Int)),y1.snd.fst,y1.snd.snd.fst,y1.snd.snd.snd.fst,([]:List Int)++c6++[Wq ((1:Int)+y0.fst)],()))
 else
 Zw ((List.length (([]:List Int))+List.length c6)*(8:Nat)<=(140737488355328:Nat)) <|
 Zw ((List.length (([]:List Int)++c6)+List.length [(↑v1.length:Int)])*(8:Nat)<=(140737488355328:Nat)) <|
 (Zbm (↑v1.length:Int)).bind λy2 =>
 Zw ((↑(List.length [(110:UInt8)]):Int)+(↑y2.length:Int)<=(9223372036854775807:Int)) <|
 Zw ((List.length v1+List.length [[(110:UInt8)]++y2])*(16:Nat)<=(140737488355328:Nat)) <|
 Zw ((List.length v0+List.length [([(117:UInt8)]++l01Number0,x0,([]:List Int)++c6++[(↑v1.length:Int)],())])*(48:Nat)<=(140737488355328:Nat)) <|
 some (.inr (.inl (v0++[([(117:UInt8)]++l01Number0,x0,([]:List Int)++c6++[(↑v1.length:Int)],())],v1++[[(110:UInt8)]++y2],Wq (v2-(1:Int)),c3,c4,c5,())))
def ZcL (a2:Bool) (v1:List (List UInt8)) (v3:Int) (c3:List Int) (c4:Int) (c5:Int) (l0:List (List UInt8×Int×List Int×Unit)):Option ((Int×(List Int)×Int×Int×(List (List UInt8×Int×List Int×Unit))×Unit) ⊕ (((List Zi)×(List (List UInt8))×Int×(List Int)×Int×Int×Unit) ⊕ (Zd×Zf))) :=
 if v3<(↑l0.length:Int) then
 (Zj (c3,c4,c5,()) 4).bind λy0 =>
 if y0.fst=0 then
 (atI l0 v3).bind λx0 =>
 if x0.snd.fst=5 then
 (Zj y0.snd (Wq ((↑v1.length:Int)-1))).bind λy1 =>
 (atI x0.snd.snd.fst 0).bind λx1 =>
 some (.inl (Wq (v3+1),y1.snd.fst,y1.snd.snd.fst,y1.snd.snd.snd.fst,List.set l0 (Int.toNat v3) (x0.fst,x0.snd.fst,List.set x0.snd.snd.fst (Int.toNat 0) (Wq (1+y1.fst)),()),()))
 else
 if x0.snd.fst=6 then
 (Zj y0.snd (Wq ((↑v1.length:Int)-1))).bind λy1 =>
 (atI x0.snd.snd.fst 0).bind λx1 =>
 some (.inl (Wq (v3+1),y1.snd.fst,y1.snd.snd.fst,y1.snd.snd.snd.fst,List.set l0 (Int.toNat v3) (x0.fst,x0.snd.fst,List.set x0.snd.snd.fst (Int.toNat 0) (Wq (1+y1.fst)),()),()))
 else
 if a2 then
 (Zj y0.snd (Wq ((↑v1.length:Int)-1))).bind λy1 =>
 (atI x0.snd.snd.fst 0).bind λx1 =>
 some (.inl (Wq (v3+1),y1.snd.fst,y1.snd.snd.fst,y1.snd.snd.snd.fst,List.set l0 (Int.toNat v3) (x0.fst,x0.snd.fst,List.set x0.snd.snd.fst (Int.toNat 0) (Wq (1+y1.fst)),()),()))
 else
 some (.inl (Wq (v3+1),y0.snd.fst,y0.snd.snd.fst,y0.snd.snd.snd.fst,List.set l0 (Int.toNat v3) x0,()))
 else
 some (.inl (Wq (v3+1),y0.snd.fst,y0.snd.snd.fst,y0.snd.snd.snd.fst,l0,()))
 else
 Zw ((List.length (([]:List (List UInt8×Int×Int×Unit))++[([(99:UInt8),(107:UInt8)],(1:Int),(0:Int),()),([(97:UInt8)],(1:Int),(1:Int),()),([(98:UInt8)],(1:Int),(2:Int),())])+List.length [([(121:UInt8)],(2:Int),Wq ((↑v1.length:Int)-(1:Int)),())])*(32:Nat)<=(140737488355328:Nat)) <|
 (Zj (c3,c4,c5,()) 2).bind λy0 =>
 if y0.fst=0 then
 (Zj y0.snd (Wq ((↑v1.length:Int)-1))).bind λy1 =>
 Zw ((List.length (([]:List (List UInt8×Int×Int×Unit))++[([(99:UInt8),(107:UInt8)],(1:Int),(0:Int),()),([(97:UInt8)],(1:Int),(1:Int),()),([(98:UInt8)],(1:Int),(2:Int),())]++[([(121:UInt8)],(2:Int),Wq ((↑v1.length:Int)-(1:Int)),())])+List.length [([(122:UInt8)],(2:Int),Wq ((1:Int)+y1.fst),())])*(32:Nat)<=(140737488355328:Nat)) <|
 some (.inr (.inr ((l0,v1,([]:List (List UInt8×Int×Int×Unit))++[([(99:UInt8),(107:UInt8)],(1:Int),(0:Int),()),([(97:UInt8)],(1:Int),(1:Int),()),([(98:UInt8)],(1:Int),(2:Int),())]++[([(121:UInt8)],(2:Int),Wq ((↑v1.length:Int)-(1:Int)),())]++[([(122:UInt8)],(2:Int),Wq ((1:Int)+y1.fst),())],()),y1.snd)))
 else
 some (.inr (.inr ((l0,v1,([]:List (List UInt8×Int×Int×Unit))++[([(99:UInt8),(107:UInt8)],(1:Int),(0:Int),()),([(97:UInt8)],(1:Int),(1:Int),()),([(98:UInt8)],(1:Int),(2:Int),())]++[([(121:UInt8)],(2:Int),Wq ((↑v1.length:Int)-(1:Int)),())],()),y0.snd)))
def ZcM (a2:Bool) (v0:List Zi) (v1:List (List UInt8)) (v2:Int) (c0:List Int) (c1:Int) (c2:Int):Option (((List Zi)×(List (List UInt8))×Int×(List Int)×Int×Int×Unit) ⊕ (Zd×Zf)) :=
 if 0<v2 then
 (Zj (c0,c1,c2,()) 12).bind λy0 =>
 (atI ([(0:Int),(1:Int),(2:Int),(2:Int),(3:Int),(4:Int),(5:Int),(5:Int),(5:Int),(6:Int),(7:Int),(1:Int)]) y0.fst).bind λx0 =>
 (Zbm (↑v0.length:Int)).bind λy1 =>
 Zw ((↑(List.length [(117:UInt8)]):Int)+(↑y1.length:Int)<=(9223372036854775807:Int)) <|
 Zp (λv=>ZcK v0 v1 v2 x0 y1 v.1 v.2.1 v.2.2.1 v.2.2.2.1 v.2.2.2.2.1) ((0:Int),y0.snd.fst,y0.snd.snd.fst,y0.snd.snd.snd.fst,([]:List Int),())
 else
 Zp (λv=>ZcL a2 v1 v.1 v.2.1 v.2.2.1 v.2.2.2.1 v.2.2.2.2.1) ((0:Int),c0,c1,c2,v0,())
def ZeT (a0:Zf) (a1:Int) (a2:Bool):Option (Zd×Zf) :=
 (Zj a0 (Wq (a1-1))).bind λy0 =>
 Zp (λv=>ZcM a2 v.1 v.2.1 v.2.2.1 v.2.2.2.1 v.2.2.2.2.1 v.2.2.2.2.2.1) (([]:List Zi),([]:List (List UInt8))++[[(110:UInt8),(99:UInt8),(107:UInt8)],[(110:UInt8),(97:UInt8)],[(110:UInt8),(98:UInt8)]],Wq ((2:Int)+y0.fst),y0.snd.fst,y0.snd.snd.fst,y0.snd.snd.snd.fst,())
def c12:Ctr:=⟨[.io (.flat (YZ)),.dat Iq,.dat (.bool)],[.own (ZrF)],λa K=>splitK a λa0 a=>splitK a λa1 a=>splitK a λa2 a=>YB (ZeT a0 a1 a2) λr=>K (r.1,()) (r.2,())⟩
def Zbb (v1:Int) (x0:Zi) (v2:List ZQ) (v3:Int):Option (((List ZQ)×Int×Unit) ⊕ (((List ZQ)×Int×Unit) ⊕ List ZQ)) :=
 if v3<(↑(List.length (Zi.YQ x0)):Int) then
 (atI (Zi.YQ x0) v3).bind λx1 =>
 Zw ((List.length v2+List.length [(v1,v3,x1,Decidable.decide (v3=Wq ((↑(List.length (Zi.YQ x0)):Int)-(1:Int))),())])*(32:Nat)<=(140737488355328:Nat)) <|
 some (.inl (v2++[(v1,v3,x1,Decidable.decide (v3=Wq ((↑(List.length (Zi.YQ x0)):Int)-(1:Int))),())],Wq (v3+(1:Int)),()))
 else
 some (.inr (.inl (v2,Wq (v1+1),())))
def Zbc (a0:Zd) (v2:List ZQ) (v3:Int):Option (((List ZQ)×Int×Unit) ⊕ (((List ZQ)×Int×Unit) ⊕ List ZQ)) :=
 if v3<(↑(List.length (Zd.YR a0)):Int) then
 (atI (Zd.YR a0) v3).bind λx0 =>
 Zw ((List.length v2+List.length [((-1:Int),v3,Yr.Net x0,Decidable.decide (Yr.Dir x0=(1:Int)),())])*(32:Nat)<=(140737488355328:Nat)) <|
 some (.inl (v2++[((-1:Int),v3,Yr.Net x0,Decidable.decide (Yr.Dir x0=(1:Int)),())],Wq (v3+(1:Int)),()))
 else
 some (.inr (.inr v2))
def Zbd (a0:Zd) (v0:List ZQ) (v1:Int):Option (((List ZQ)×Int×Unit) ⊕ List ZQ) :=
 if v1<(↑(List.length (Zd.Instances a0)):Int) then
 (atI (Zd.Instances a0) v1).bind λx0 =>
 Zp (λv=>Zbb v1 x0 v.1 v.2.1) (v0,(0:Int),())
 else
 Zp (λv=>Zbc a0 v.1 v.2.1) (v0,(0:Int),())
def XD (a0:Zd):Option (List ZQ) :=
 Zp (λv=>Zbd a0 v.1 v.2.1) (([]:List (Int×Int×Int×Bool×Unit)),(0:Int),())
def c13:Ctr:=⟨[.dat (Xq)],[.own (.ol 181 (.flat (Zev)))],λa K=>splitK a λa0 a=>YB (XD a0) λr=>K (r,()) ()⟩
def ZbS (net0:Int) (l05Places0:List ZQ) (out0:List Int) (i0:Int):Option (((List Int)×Int×Unit) ⊕ List Int) :=
 if i0<(↑l05Places0.length:Int) then
 (atI l05Places0 i0).bind λx0 =>
 if ZQ.net x0=net0 then
 if (ZQ.drives x0)=true then
 some (.inl (out0,Wq (i0+1),()))
 else
 Zw ((List.length out0+List.length [i0])*(8:Nat)<=(140737488355328:Nat)) <|
 some (.inl (out0++[i0],Wq (i0+(1:Int)),()))
 else
 some (.inl (out0,Wq (i0+1),()))
 else
 some (.inr out0)
def JJ (d0:Zd) (net0:Int):Option (List Int) :=
 (XD d0).bind λy0 =>
 Zp (λv=>ZbS net0 y0 v.1 v.2.1) (([]:List Int),(0:Int),())
def c14:Ctr:=⟨[.dat (Xq),.dat Iq],[.own (.ol 2 (.flat Iq))],λa K=>splitK a λd0 a=>splitK a λnet0 a=>YB (JJ d0 net0) λr=>K (r,()) ()⟩
def Zds (sinks0:Int) (load0:Int):Option Zq :=
 Zw ((0:Int)<=sinks0) <|
 Zw (sinks0<=sinks0) <|
 Zw (sinks0<=(4611686018427387904:Int)) <|
 Zw ((↑(8:Nat):Int)*sinks0<=(281474976710656:Int)) <|
 some ([(-1:Int)],[(0:Int)],[load0],List.replicate (Int.toNat sinks0) (0:Int),())
def c15:Ctr:=⟨[.dat Iq,.dat Iq],[.own (Zos)],λa K=>splitK a λsinks0 a=>splitK a λload0 a=>YB (Zds sinks0 load0) λr=>K (r,()) ()⟩
def VI (list0:List Int):Option (List Int) :=
 Zw ((List.length (([]:List Int))+List.length list0)*(8:Nat)<=(140737488355328:Nat)) <|
 some (([]:List Int)++list0)
def c16:Ctr:=⟨[.dat (.sl Iq)],[.own (.ol 2 (.flat Iq))],λa K=>splitK a λlist0 a=>YB (VI list0) λr=>K (r,()) ()⟩
def Zaa (c3:List Int) (c4:List Int) (c5:List Int) (i0:Int) (c7:List Int) (c8:Int) (c9:Int) (l0:List Int):Option ((Int×(List Int)×Int×Int×(List Int)×Unit) ⊕ ((Int×(List Int)×Int×Int×(List Int)×(List Int)×(List Int)×(List Int)×Unit) ⊕ (Zq×Zf))) :=
 if i0<(↑l0.length:Int) then
 (Zj (c7,c8,c9,()) (↑c3.length:Int)).bind λy0 =>
 (atI l0 i0).bind λx0 =>
 some (.inl (Wq (i0+1),y0.snd.fst,y0.snd.snd.fst,y0.snd.snd.snd.fst,List.set l0 (Int.toNat i0) y0.fst,()))
 else
 some (.inr (.inr ((c3,c4,c5,l0,()),(c7,c8,c9,()))))
def Zab (n0:Int) (c0:List Int) (c1:Int) (c2:Int) (c3:List Int) (c4:List Int) (c5:List Int) (c6:List Int):Option ((Int×(List Int)×Int×Int×(List Int)×(List Int)×(List Int)×(List Int)×Unit) ⊕ (Zq×Zf)) :=
 if 0<n0 then
 (VI c3).bind λy0 =>
 (Zj (c0,c1,c2,()) (↑c3.length:Int)).bind λy1 =>
 Zw ((List.length y0+List.length [y1.fst])*(8:Nat)<=(140737488355328:Nat)) <|
 (VI c4).bind λy2 =>
 (Zj y1.snd 400).bind λy3 =>
 Zw ((List.length y2+List.length [y3.fst])*(8:Nat)<=(140737488355328:Nat)) <|
 (VI c5).bind λy4 =>
 (Zj y3.snd 8).bind λy5 =>
 Zw ((List.length y4+List.length [y5.fst])*(8:Nat)<=(140737488355328:Nat)) <|
 some (.inl (Wq (n0-(1:Int)),y5.snd.fst,y5.snd.snd.fst,y5.snd.snd.snd.fst,y0++[y1.fst],y2++[y3.fst],y4++[y5.fst],c6,()))
 else
 Zp (λv=>Zaa c3 c4 c5 v.1 v.2.1 v.2.2.1 v.2.2.2.1 v.2.2.2.2.1) ((0:Int),c0,c1,c2,c6,())
def ZbA (s0:Zf) (sinks0:Int):Option (Zq×Zf) :=
 (Zj s0 6).bind λy0 =>
 (Zds sinks0 y0.fst).bind λy1 =>
 (Zj y0.snd 4).bind λy2 =>
 Zp (λv=>Zab v.1 v.2.1 v.2.2.1 v.2.2.2.1 v.2.2.2.2.1 v.2.2.2.2.2.1 v.2.2.2.2.2.2.1 v.2.2.2.2.2.2.2.1) (y2.fst,y2.snd.fst,y2.snd.snd.fst,y2.snd.snd.snd.fst,Zq.Parent y1,Zq.Res y1,Zq.Cap y1,Zq.Zc0 y1,())
def c17:Ctr:=⟨[.io (.flat (YZ)),.dat Iq],[.own (Zos)],λa K=>splitK a λs0 a=>splitK a λsinks0 a=>YB (ZbA s0 sinks0) λr=>K (r.1,()) (r.2,())⟩
def ZcP (l03Draw0:Zy×Zf) (l05Draw0:Zd×Zf) (wires0:List Zq) (net0:Int) (c0:List Int) (c1:Int) (c2:Int):Option (((List Zq)×Int×(List Int)×Int×Int×Unit) ⊕ (Zc×Zf)) :=
 if net0<(↑(List.length l05Draw0.fst.snd.fst):Int) then
 (JJ l05Draw0.fst net0).bind λy0 =>
 (ZbA (c0,c1,c2,()) (↑y0.length:Int)).bind λy1 =>
 Zw ((List.length wires0+List.length [y1.fst])*(96:Nat)<=(140737488355328:Nat)) <|
 some (.inl (wires0++[y1.fst],Wq (net0+(1:Int)),y1.snd.fst,y1.snd.snd.fst,y1.snd.snd.snd.fst,()))
 else
 some (.inr ((l03Draw0.fst,l05Draw0.fst,wires0,()),(c0,c1,c2,())))
def QT (s0:Zf) (most0:Int) (wild0:Bool):Option (Zc×Zf) :=
 (ZeR s0).bind λy0 =>
 (ZeT y0.snd most0 wild0).bind λy1 =>
 Zp (λv=>ZcP y0 y1 v.1 v.2.1 v.2.2.1 v.2.2.2.1 v.2.2.2.2.1) (([]:List Zq),(0:Int),y1.snd.fst,y1.snd.snd.fst,y1.snd.snd.snd.fst,())
def c18:Ctr:=⟨[.io (.flat (YZ)),.dat Iq,.dat (.bool)],[.own (Zpj)],λa K=>splitK a λs0 a=>splitK a λmost0 a=>splitK a λwild0 a=>YB (QT s0 most0 wild0) λr=>K (r.1,()) (r.2,())⟩
def ZcO (a0:Zf):Option (Zc×Zf) :=
 (Zj a0 3).bind λy0 =>
 (QT y0.snd 6 (Decidable.decide (y0.fst=0))).bind λy1 =>
 (Zj y1.snd (↑(List.length y1.fst.snd.snd.fst):Int)).bind λy2 =>
 (Zj y2.snd 20).bind λy3 =>
 if y3.fst=0 then
 Zw ((1:Int)<=(↑(List.length y1.fst.snd.snd.fst):Int)) <|
 Zw ((↑(List.length y1.fst.snd.snd.fst):Int)<=(↑(List.length y1.fst.snd.snd.fst):Int)) <|
 some ((y1.fst.fst,y1.fst.snd.fst,List.take (Int.toNat (↑(List.length y1.fst.snd.snd.fst):Int)-Int.toNat 1) (List.drop (Int.toNat 1) y1.fst.snd.snd.fst),()),y3.snd)
 else
 if y3.fst=1 then
 (atI y1.fst.snd.snd.fst y2.fst).bind λx0 =>
 (VI x0.snd.snd.snd.fst).bind λy4 =>
 Zw ((List.length y4+List.length [(0:Int)])*(8:Nat)<=(140737488355328:Nat)) <|
 some ((y1.fst.fst,y1.fst.snd.fst,List.set y1.fst.snd.snd.fst (Int.toNat y2.fst) (x0.fst,x0.snd.fst,x0.snd.snd.fst,y4++[(0:Int)],()),()),y3.snd)
 else
 if y3.fst=2 then
 (atI y1.fst.snd.snd.fst y2.fst).bind λx0 =>
 (atI x0.snd.fst 0).bind λx1 =>
 some ((y1.fst.fst,y1.fst.snd.fst,List.set y1.fst.snd.snd.fst (Int.toNat y2.fst) (x0.fst,List.set x0.snd.fst (Int.toNat 0) 1,x0.snd.snd),()),y3.snd)
 else
 if y3.fst=3 then
 (atI y1.fst.snd.snd.fst y2.fst).bind λx0 =>
 (Zj y3.snd 3).bind λy5 =>
 (atI ([(-1:Int),(500:Int),(501:Int)]) y5.fst).bind λx1 =>
 (atI x0.snd.snd.fst 0).bind λx2 =>
 some ((y1.fst.fst,y1.fst.snd.fst,List.set y1.fst.snd.snd.fst (Int.toNat y2.fst) (x0.fst,x0.snd.fst,List.set x0.snd.snd.fst (Int.toNat 0) x1,x0.snd.snd.snd),()),y5.snd)
 else
 if y3.fst=4 then
 (atI y1.fst.snd.snd.fst y2.fst).bind λx0 =>
 (Zj y3.snd 5).bind λy5 =>
 (atI x0.fst (Wq ((↑(List.length x0.fst):Int)-1))).bind λx1 =>
 some ((y1.fst.fst,y1.fst.snd.fst,List.set y1.fst.snd.snd.fst (Int.toNat y2.fst) (List.set x0.fst (Int.toNat (Wq ((↑(List.length x0.fst):Int)-1))) (Wq (y5.fst-1)),x0.snd),()),y5.snd)
 else
 if y3.fst=5 then
 (atI y1.fst.snd.fst.snd.snd.fst 0).bind λx0 =>
 some ((y1.fst.fst,(y1.fst.snd.fst.fst,y1.fst.snd.fst.snd.fst,List.set y1.fst.snd.fst.snd.snd.fst (Int.toNat 0) (Yr.Name x0,3,x0.snd.snd),()),y1.fst.snd.snd),y3.snd)
 else
 some (y1.fst,y3.snd)
def c19:Ctr:=⟨[.io (.flat (YZ))],[.own (Zpj)],λa K=>splitK a λa0 a=>YB (ZcO a0) λr=>K (r.1,()) (r.2,())⟩
def ZaY (s0:Zf):Option (Zc×Zf) :=
 (Zj s0 12).bind λy0 =>
 if y0.fst=0 then
 (ZcO y0.snd).bind λy1 =>
 some (y1.fst,y1.snd)
 else
 if y0.fst=1 then
 if y0.fst=1 then
 (QT y0.snd 6 true).bind λy2 =>
 some (y2.fst,y2.snd)
 else
 (QT y0.snd 6 false).bind λy2 =>
 some (y2.fst,y2.snd)
 else
 if y0.fst=2 then
 (QT y0.snd 6 true).bind λy2 =>
 some (y2.fst,y2.snd)
 else
 (QT y0.snd 6 false).bind λy2 =>
 some (y2.fst,y2.snd)
def c20:Ctr:=⟨[.io (.flat (YZ))],[.own (Zpj)],λa K=>splitK a λs0 a=>YB (ZaY s0) λr=>K (r.1,()) (r.2,())⟩
def QB (s0:Zf):Option (Zt×Zf) :=
 (Zj s0 3).bind λy0 =>
 (atI ([[(115:UInt8),(108:UInt8),(111:UInt8),(119:UInt8)],[(102:UInt8),(97:UInt8),(115:UInt8),(116:UInt8)],[(116:UInt8),(121:UInt8),(112:UInt8)]]) y0.fst).bind λx0 =>
 (Zj y0.snd 20).bind λy1 =>
 (Zj y1.snd 20).bind λy2 =>
 (Zj y2.snd 60).bind λy3 =>
 (Zj y3.snd 40).bind λy4 =>
 (Zj y4.snd 30).bind λy5 =>
 if y5.fst=0 then
 some ((x0,Wq (800+Wq (10*y1.fst)),Wq (Wq (800+Wq (10*y1.fst))-1),Wq (900+Wq (10*y2.fst)),Wq (Wq (900+Wq (10*y2.fst))+Wq (9*y4.fst)),()),y5.snd)
 else
 if y5.fst=1 then
 (Zj y5.snd 3).bind λy6 =>
 (atI ([(99:Int),(100:Int),(-1:Int)]) y6.fst).bind λx1 =>
 some ((x0,Wq (800+Wq (10*y1.fst)),Wq (Wq (800+Wq (10*y1.fst))+Wq (7*y3.fst)),x1,Wq (Wq (900+Wq (10*y2.fst))+Wq (9*y4.fst)),()),y6.snd)
 else
 if y5.fst=2 then
 (Zj y5.snd 2).bind λy6 =>
 some ((x0,Wq (800+Wq (10*y1.fst)),Wq (Wq (800+Wq (10*y1.fst))+Wq (7*y3.fst)),Wq (900+Wq (10*y2.fst)),Wq (5000+y6.fst),()),y6.snd)
 else
 if y5.fst=3 then
 some ((([]:List UInt8),Wq ((800:Int)+Wq ((10:Int)*y1.fst)),Wq (Wq ((800:Int)+Wq ((10:Int)*y1.fst))+Wq ((7:Int)*y3.fst)),Wq ((900:Int)+Wq ((10:Int)*y2.fst)),Wq (Wq ((900:Int)+Wq ((10:Int)*y2.fst))+Wq ((9:Int)*y4.fst)),()),y5.snd)
 else
 some ((x0,Wq (800+Wq (10*y1.fst)),Wq (Wq (800+Wq (10*y1.fst))+Wq (7*y3.fst)),Wq (900+Wq (10*y2.fst)),Wq (Wq (900+Wq (10*y2.fst))+Wq (9*y4.fst)),()),y5.snd)
def c21:Ctr:=⟨[.io (.flat (YZ))],[.dat (Xf)],λa K=>splitK a λs0 a=>YB (QB s0) λr=>K (r.1,()) (r.2,())⟩
def ZcI (s0:List UInt8) (i0:Int):Option ((Int×Unit) ⊕ Bool) :=
 if i0<(↑s0.length:Int) then
 (atI s0 i0).bind λx0 =>
 if 97<=(↑(UInt8.toNat x0):Int) then
 if 48<=(↑(UInt8.toNat x0):Int) then
 if (↑(UInt8.toNat x0):Int)<=122 then
 some (.inl (Wq (i0+1),()))
 else
 if (↑(UInt8.toNat x0):Int)<=57 then
 if 0<i0 then
 some (.inl (Wq (i0+1),()))
 else
 some (.inr false)
 else
 some (.inr false)
 else
 if (↑(UInt8.toNat x0):Int)<=122 then
 some (.inl (Wq (i0+1),()))
 else
 some (.inr false)
 else
 if 48<=(↑(UInt8.toNat x0):Int) then
 if (↑(UInt8.toNat x0):Int)<=57 then
 if 0<i0 then
 some (.inl (Wq (i0+1),()))
 else
 some (.inr false)
 else
 some (.inr false)
 else
 some (.inr false)
 else
 if 1<=(↑s0.length:Int) then
 some (.inr (Decidable.decide ((↑s0.length:Int)<=8)))
 else
 some (.inr false)
def ZaF (s0:List UInt8):Option Bool :=
 Zp (λv=>ZcI s0 v.1) ((0:Int),())
def c22:Ctr:=D1 (.str) (.bool) ZaF
def Yq (n0:Int) (low0:Int) (high0:Int):Option Bool :=
 if low0<=n0 then
 some (Decidable.decide (n0<=high0))
 else
 some false
def c23:Ctr:=D3 Iq Iq Iq (.bool) Yq
def Qz (a0:Zl) (v0:Int) (v1:Int) (x0:Y7) (v2:Int):Option ((Int×Unit) ⊕ ((Int×Int×Unit) ⊕ (Int×Bool))) :=
 if v2<v1 then
 (atI (Zl.YD a0) v2).bind λx1 =>
 if Y7.Name x1=Y7.Name x0 then
 some (.inr (.inr (0,false)))
 else
 some (.inl (Wq (v2+1),()))
 else
 (ZaF (Y7.Name x0)).bind λy0 =>
 if y0 then
 (Yq (Y7.Cap x0) 0 500).bind λy1 =>
 if y1 then
 if v1=Wq ((↑(List.length (Zl.YD a0)):Int)-1) then
 if Y7.Dir x0=2 then
 if Y7.Cap x0=0 then
 if (Y7.Clock x0)=true then
 some (.inr (.inr (0,false)))
 else
 if v1<Wq ((↑(List.length (Zl.YD a0)):Int)-1) then
 if Y7.Dir x0=1 then
 if (Y7.Clock x0)=true then
 some (.inr (.inl (Wq (v0+1),Wq (v1+1),())))
 else
 some (.inr (.inl (v0,Wq (v1+1),())))
 else
 some (.inr (.inr (0,false)))
 else
 if (Y7.Clock x0)=true then
 some (.inr (.inl (Wq (v0+1),Wq (v1+1),())))
 else
 some (.inr (.inl (v0,Wq (v1+1),())))
 else
 some (.inr (.inr (0,false)))
 else
 some (.inr (.inr (0,false)))
 else
 if v1<Wq ((↑(List.length (Zl.YD a0)):Int)-1) then
 if Y7.Dir x0=1 then
 if (Y7.Clock x0)=true then
 some (.inr (.inl (Wq (v0+1),Wq (v1+1),())))
 else
 some (.inr (.inl (v0,Wq (v1+1),())))
 else
 some (.inr (.inr (0,false)))
 else
 if (Y7.Clock x0)=true then
 some (.inr (.inl (Wq (v0+1),Wq (v1+1),())))
 else
 some (.inr (.inl (v0,Wq (v1+1),())))
 else
 some (.inr (.inr (0,false)))
 else
 some (.inr (.inr (0,false)))
def VK (a0:Zl) (v0:Int) (v1:Int):Option ((Int×Int×Unit) ⊕ (Int×Bool)) :=
 if v1<(↑(List.length (Zl.YD a0)):Int) then
 (atI (Zl.YD a0) v1).bind λx0 =>
 Zp (λv=>Qz a0 v0 v1 x0 v.1) ((0:Int),())
 else
 some (.inr (v0,true))
def ZeS (a0:Zl):Option (Int×Bool) :=
 if (↑(List.length (Zl.YD a0)):Int)<2 then
 some (0,false)
 else
 if 5<(↑(List.length (Zl.YD a0)):Int) then
 some (0,false)
 else
 Zp (λv=>VK a0 v.1 v.2.1) ((0:Int),(0:Int),())
def c24:Ctr:=⟨[.dat (Zeu)],[.dat Iq,.dat (.bool)],λa K=>splitK a λa0 a=>YB (ZeS a0) λr=>K (r.1,r.2,()) ()⟩
def ZcD (list0:List Int) (i0:Int):Option ((Int×Unit) ⊕ Bool) :=
 if i0<(↑list0.length:Int) then
 (atI list0 i0).bind λx0 =>
 (Yq x0 0 100000).bind λy0 =>
 if y0 then
 if 0<i0 then
 (atI list0 (Wq (i0-1))).bind λx1 =>
 if x0<=x1 then
 some (.inr false)
 else
 some (.inl (Wq (i0+1),()))
 else
 some (.inl (Wq (i0+1),()))
 else
 some (.inr false)
 else
 if 1<=(↑list0.length:Int) then
 some (.inr (Decidable.decide ((↑list0.length:Int)<=4)))
 else
 some (.inr false)
def ZdC (list0:List Int):Option Bool :=
 Zp (λv=>ZcD list0 v.1) ((0:Int),())
def c25:Ctr:=D1 (.sl Iq) (.bool) ZdC
def ZcA (t0:Zx) (i0:Int):Option ((Int×Unit) ⊕ Bool) :=
 if i0<(↑(List.length (Zx.Values t0)):Int) then
 (atI (Zx.Values t0) i0).bind λx0 =>
 (Yq x0 (-1000000) 1000000).bind λy0 =>
 if y0 then
 some (.inl (Wq (i0+1),()))
 else
 some (.inr false)
 else
 some (.inr true)
def ZeP (t0:Zx):Option Bool :=
 (ZdC (Zx.Zew t0)).bind λy0 =>
 if y0 then
 (ZdC (Zx.Loads t0)).bind λy1 =>
 if y1 then
 if (↑(List.length (Zx.Values t0)):Int)=Wq ((↑(List.length (Zx.Zew t0)):Int)*(↑(List.length (Zx.Loads t0)):Int)) then
 Zp (λv=>ZcA t0 v.1) ((0:Int),())
 else
 some false
 else
 some false
 else
 some false
def c26:Ctr:=D1 (JX) (.bool) ZeP
def Vg (t0:Zx) (i0:Int) (c0:Int) (c1:Int):Option ((Int×Int×Int×Unit) ⊕ (Zv×Int)) :=
 if i0<(↑(List.length (Zx.Values t0)):Int) then
 (atI (Zx.Values t0) i0).bind λx1 =>
 some (.inl (Wq (i0+1),Min.min c0 x1,Max.max c1 x1,()))
 else
 some (.inr ((c0,c1,()),0))
def Zby (t0:Zx):Option (Zv×Int) :=
 (ZeP t0).bind λy0 =>
 if y0 then
 (atI (Zx.Values t0) 0).bind λx0 =>
 Zp (λv=>Vg t0 v.1 v.2.1 v.2.2.1) ((1:Int),x0,x0,())
 else
 some ((0,0,()),1)
def c27:Ctr:=⟨[.dat (JX)],[.dat (Jl),.dat Iq],λa K=>splitK a λt0 a=>YB (Zby t0) λr=>K (r.1,r.2,()) ()⟩
def Za9 (list0:List Zx) (positive0:Bool) (i0:Int):Option ((Int×Unit) ⊕ Bool) :=
 if i0<2 then
 (atI list0 i0).bind λx0 =>
 (Zby x0).bind λy0 =>
 if y0.snd=0 then
 if positive0 then
 if y0.fst.fst<0 then
 some (.inr false)
 else
 some (.inl (Wq (i0+1),()))
 else
 some (.inl (Wq (i0+1),()))
 else
 some (.inr false)
 else
 some (.inr true)
def Yp (list0:List Zx) (positive0:Bool):Option Bool :=
 if (↑list0.length:Int)=2 then
 Zp (λv=>Za9 list0 positive0 v.1) ((0:Int),())
 else
 some false
def c28:Ctr:=D2 (.sl (JX)) (.bool) (.bool) Yp
def ZfM (a0:Zl) (a1:ZB):Option Bool :=
 (Yq (ZB.From a1) 0 (Wq (Wq ((↑(List.length (Zl.YD a0)):Int)-1)-1))).bind λy0 =>
 if y0 then
 (Yq (ZB.To a1) 0 (Wq ((↑(List.length (Zl.YD a0)):Int)-1))).bind λy1 =>
 if y1 then
 (atI (Zl.YD a0) (ZB.From a1)).bind λx0 =>
 if ZB.Kind a1=1 then
 if (Y7.Clock x0)=true then
 some false
 else
 if ZB.To a1=Wq ((↑(List.length (Zl.YD a0)):Int)-1) then
 (Yq (ZB.V8 a1) 1 3).bind λy2 =>
 if y2 then
 (Yp (ZB.Delay a1) true).bind λy3 =>
 if y3 then
 (Yp (ZB.Xx a1) true).bind λy4 =>
 some y4
 else
 some false
 else
 some false
 else
 some false
 else
 if ZB.Kind a1=2 then
 if ZB.Kind a1=2 then
 if (Y7.Clock x0)=true then
 if ZB.To a1=Wq ((↑(List.length (Zl.YD a0)):Int)-1) then
 if ZB.V8 a1=0 then
 (Yp (ZB.Delay a1) true).bind λy3 =>
 if y3 then
 (Yp (ZB.Xx a1) true).bind λy4 =>
 some y4
 else
 some false
 else
 some false
 else
 some false
 else
 some false
 else
 if ZB.Kind a1=4 then
 if ZB.Kind a1=4 then
 if (Y7.Clock x0)=true then
 if ZB.To a1<Wq ((↑(List.length (Zl.YD a0)):Int)-1) then
 (atI (Zl.YD a0) (ZB.To a1)).bind λx1 =>
 if (Y7.Clock x1)=true then
 some false
 else
 if ZB.V8 a1=0 then
 (Yp (ZB.Delay a1) false).bind λy3 =>
 if y3 then
 some (Decidable.decide ((↑(List.length (ZB.Xx a1)):Int)=0))
 else
 some false
 else
 some false
 else
 some false
 else
 some false
 else
 some false
 else
 if ZB.Kind a1=5 then
 if (Y7.Clock x0)=true then
 if ZB.To a1<Wq ((↑(List.length (Zl.YD a0)):Int)-1) then
 (atI (Zl.YD a0) (ZB.To a1)).bind λx1 =>
 if (Y7.Clock x1)=true then
 some false
 else
 if ZB.V8 a1=0 then
 (Yp (ZB.Delay a1) false).bind λy3 =>
 if y3 then
 some (Decidable.decide ((↑(List.length (ZB.Xx a1)):Int)=0))
 else
 some false
 else
 some false
 else
 some false
 else
 some false
 else
 some false
 else
 if ZB.Kind a1=3 then
 if (Y7.Clock x0)=true then
 if ZB.To a1=Wq ((↑(List.length (Zl.YD a0)):Int)-1) then
 if ZB.V8 a1=0 then
 (Yp (ZB.Delay a1) true).bind λy3 =>
 if y3 then
 (Yp (ZB.Xx a1) true).bind λy4 =>
 some y4
 else
 some false
 else
 some false
 else
 some false
 else
 some false
 else
 if ZB.Kind a1=4 then
 if ZB.Kind a1=4 then
 if (Y7.Clock x0)=true then
 if ZB.To a1<Wq ((↑(List.length (Zl.YD a0)):Int)-1) then
 (atI (Zl.YD a0) (ZB.To a1)).bind λx1 =>
 if (Y7.Clock x1)=true then
 some false
 else
 if ZB.V8 a1=0 then
 (Yp (ZB.Delay a1) false).bind λy3 =>
 if y3 then
 some (Decidable.decide ((↑(List.length (ZB.Xx a1)):Int)=0))
 else
 some false
 else
 some false
 else
 some false
 else
 some false
 else
 some false
 else
 if ZB.Kind a1=5 then
 if (Y7.Clock x0)=true then
 if ZB.To a1<Wq ((↑(List.length (Zl.YD a0)):Int)-1) then
 (atI (Zl.YD a0) (ZB.To a1)).bind λx1 =>
 if (Y7.Clock x1)=true then
 some false
 else
 if ZB.V8 a1=0 then
 (Yp (ZB.Delay a1) false).bind λy3 =>
 if y3 then
 some (Decidable.decide ((↑(List.length (ZB.Xx a1)):Int)=0))
 else
 some false
 else
 some false
 else
 some false
 else
 some false
 else
 some false
 else
 some false
 else
 some false
def c29:Ctr:=D2 (Zeu) (Zk3) (.bool) ZfM
def JI (c0:Zl) (i0:Int) (l0:List Int):Option ((Int×(List Int)×Unit) ⊕ List Int) :=
 if i0<(↑(List.length (Zl.Jr c0)):Int) then
 (atI (Zl.Jr c0) i0).bind λx0 =>
 (atI l0 (ZB.Kind x0)).bind λx1 =>
 some (.inl (Wq (i0+1),List.set l0 (Int.toNat (ZB.Kind x0)) (Wq (x1+1)),()))
 else
 some (.inr l0)
def Zd4 (c0:Zl):Option (List Int) :=
 Zp (λv=>JI c0 v.1 v.2.1) ((0:Int),List.replicate (Int.toNat (6:Int)) (0:Int),())
def c30:Ctr:=⟨[.dat (Zeu)],[.own (.ol 2 (.flat Iq))],λa K=>splitK a λc0 a=>YB (Zd4 c0) λr=>K (r,()) ()⟩
def ZaU (a0:Zl) (v0:Int) (x0:ZB) (v1:Int):Option ((Int×Unit) ⊕ ((Int×Unit) ⊕ Bool)) :=
 if v1<v0 then
 (atI (Zl.Jr a0) v1).bind λx1 =>
 if ZB.Kind x1=ZB.Kind x0 then
 if ZB.From x1=ZB.From x0 then
 if ZB.To x1=ZB.To x0 then
 some (.inr (.inr false))
 else
 some (.inl (Wq (v1+1),()))
 else
 some (.inl (Wq (v1+1),()))
 else
 some (.inl (Wq (v1+1),()))
 else
 some (.inr (.inl (Wq (v0+1),())))
def ZaV (a0:Zl) (l03Pins0:Int×Bool) (v1:Int):Option ((Int×Unit) ⊕ ((Int×Unit) ⊕ Bool)) :=
 if v1<(↑(List.length (Zl.Truth a0)):Int) then
 (atI (Zl.Truth a0) v1).bind λx0 =>
 (Yq x0 0 1).bind λy0 =>
 if y0 then
 some (.inl (Wq (v1+1),()))
 else
 some (.inr (.inr false))
 else
 if l03Pins0.fst=0 then
 Zw ((0:Int)<=IntKind.wrap IntKind.u64 (Wq ((↑(List.length (Zl.YD a0)):Int)-(1:Int)))) <|
 some (.inr (.inr (Decidable.decide ((↑(List.length (Zl.Truth a0)):Int)=Wq (1*2 ^ Min.min (Int.toNat (IntKind.wrap IntKind.u64 (Wq ((↑(List.length (Zl.YD a0)):Int)-1)))) (IntKind.bits IntKind.i64))))))
 else
 some (.inr (.inr false))
def Zda (a0:Zl) (l03Pins0:Int×Bool) (v0:Int):Option ((Int×Unit) ⊕ Bool) :=
 if v0<(↑(List.length (Zl.Jr a0)):Int) then
 (atI (Zl.Jr a0) v0).bind λx0 =>
 (ZfM a0 x0).bind λy0 =>
 if y0 then
 Zp (λv=>ZaU a0 v0 x0 v.1) ((0:Int),())
 else
 some (.inr false)
 else
 (Zd4 a0).bind λy1 =>
 if Zl.Kind a0=1 then
 Zp (λv=>ZaV a0 l03Pins0 v.1) ((0:Int),())
 else
 if Zl.Kind a0=2 then
 if l03Pins0.fst=1 then
 (atI y1 1).bind λx0 =>
 if x0=0 then
 (atI y1 2).bind λx1 =>
 (atI y1 3).bind λx2 =>
 if (Decidable.decide (0<x1) == Decidable.decide (0<x2))=true then
 some (.inr false)
 else
 some (.inr (Decidable.decide ((↑(List.length (Zl.Truth a0)):Int)=0)))
 else
 some (.inr false)
 else
 some (.inr false)
 else
 if Zl.Kind a0=3 then
 if l03Pins0.fst=1 then
 (atI y1 1).bind λx0 =>
 if 0<x0 then
 (atI y1 2).bind λx1 =>
 if 0<x1 then
 (atI y1 3).bind λx2 =>
 if x2=0 then
 some (.inr (Decidable.decide ((↑(List.length (Zl.Truth a0)):Int)=0)))
 else
 some (.inr false)
 else
 some (.inr false)
 else
 some (.inr false)
 else
 some (.inr false)
 else
 some (.inr false)
def ZfK (a0:Zl):Option Bool :=
 (ZeS a0).bind λy0 =>
 if y0.snd then
 (ZaF (Zl.Name a0)).bind λy1 =>
 if y1 then
 if 8<(↑(List.length (Zl.Jr a0)):Int) then
 some false
 else
 (Yq (Zl.ZuM a0) 0 100000).bind λy2 =>
 if y2 then
 (Yq (Zl.ZiU a0) 0 100000).bind λy3 =>
 if y3 then
 Zp (λv=>Zda a0 y0 v.1) ((0:Int),())
 else
 some false
 else
 some false
 else
 some false
 else
 some false
def c31:Ctr:=D1 (Zeu) (.bool) ZfK
def Za7 (l0:Zy) (i0:Int) (x0:Zl) (k0:Int):Option ((Int×Unit) ⊕ ((Int×Unit) ⊕ Bool)) :=
 if k0<i0 then
 (atI (Zy.Cells l0) k0).bind λx1 =>
 if Zl.Name x1=Zl.Name x0 then
 some (.inr (.inr false))
 else
 some (.inl (Wq (k0+1),()))
 else
 some (.inr (.inl (Wq (i0+1),())))
def Za8 (l0:Zy) (i0:Int):Option ((Int×Unit) ⊕ Bool) :=
 if i0<(↑(List.length (Zy.Cells l0)):Int) then
 (atI (Zy.Cells l0) i0).bind λx0 =>
 (ZfK x0).bind λy0 =>
 if y0 then
 Zp (λv=>Za7 l0 i0 x0 v.1) ((0:Int),())
 else
 some (.inr false)
 else
 some (.inr (Decidable.decide ((↑(List.length (Zy.Cells l0)):Int)<=8)))
def Zdq (l0:Zy):Option Bool :=
 Zp (λv=>Za8 l0 v.1) ((0:Int),())
def c32:Ctr:=D1 (Qp) (.bool) Zdq
def ZbP (a1:Zd) (v0:Int) (x0:Zi) (v1:Int):Option ((Int×Unit) ⊕ ((Int×Unit) ⊕ Bool)) :=
 if v1<(↑(List.length (Zi.YQ x0)):Int) then
 (atI (Zi.YQ x0) v1).bind λx2 =>
 (Yq x2 0 (Wq ((↑(List.length (Zd.YQ a1)):Int)-1))).bind λy0 =>
 if y0 then
 some (.inl (Wq (v1+1),()))
 else
 some (.inr (.inr false))
 else
 some (.inr (.inl (Wq (v0+1),())))
def ZbQ (a1:Zd) (v1:Int):Option ((Int×Unit) ⊕ ((Int×Unit) ⊕ Bool)) :=
 if v1<(↑(List.length (Zd.YR a1)):Int) then
 (atI (Zd.YR a1) v1).bind λx0 =>
 (Yq (Yr.Dir x0) 1 2).bind λy0 =>
 if y0 then
 (Yq (Yr.Net x0) 0 (Wq ((↑(List.length (Zd.YQ a1)):Int)-1))).bind λy1 =>
 if y1 then
 some (.inl (Wq (v1+1),()))
 else
 some (.inr (.inr false))
 else
 some (.inr (.inr false))
 else
 some (.inr (.inr true))
def ZbR (a0:Zy) (a1:Zd) (v0:Int):Option ((Int×Unit) ⊕ Bool) :=
 if v0<(↑(List.length (Zd.Instances a1)):Int) then
 (atI (Zd.Instances a1) v0).bind λx0 =>
 (Yq (Zi.Cell x0) 0 (Wq ((↑(List.length (Zy.Cells a0)):Int)-1))).bind λy0 =>
 if y0 then
 (atI (Zy.Cells a0) (Zi.Cell x0)).bind λx1 =>
 if (↑(List.length (Zi.YQ x0)):Int)=(↑(List.length (Zl.YD x1)):Int) then
 Zp (λv=>ZbP a1 v0 x0 v.1) ((0:Int),())
 else
 some (.inr false)
 else
 some (.inr false)
 else
 Zp (λv=>ZbQ a1 v.1) ((0:Int),())
def Zd5 (a0:Zy) (a1:Zd):Option Bool :=
 Zp (λv=>ZbR a0 a1 v.1) ((0:Int),())
def c33:Ctr:=D2 (Qp) (Xq) (.bool) Zd5
def ZbN (list0:List (List UInt8)) (i0:Int) (x0:List UInt8) (k0:Int):Option ((Int×Unit) ⊕ ((Int×Unit) ⊕ Bool)) :=
 if k0<i0 then
 (atI list0 k0).bind λx1 =>
 if x1=x0 then
 some (.inr (.inr false))
 else
 some (.inl (Wq (k0+1),()))
 else
 some (.inr (.inl (Wq (i0+1),())))
def ZbO (list0:List (List UInt8)) (i0:Int):Option ((Int×Unit) ⊕ Bool) :=
 if i0<(↑list0.length:Int) then
 (atI list0 i0).bind λx0 =>
 (ZaF x0).bind λy0 =>
 if y0 then
 Zp (λv=>ZbN list0 i0 x0 v.1) ((0:Int),())
 else
 some (.inr false)
 else
 some (.inr true)
def ZaW (list0:List (List UInt8)):Option Bool :=
 Zp (λv=>ZbO list0 v.1) ((0:Int),())
def c34:Ctr:=D1 (.sl (.str)) (.bool) ZaW
def ZbJ (l1:List Int) (v6:Int):Option ((Int×Unit) ⊕ ((Int×(List Int)×Unit) ⊕ ((Int×(List Int)×Unit) ⊕ (((List (List UInt8))×Int×Unit) ⊕ (((List (List UInt8))×Int×Unit) ⊕ Bool))))) :=
 if v6<(↑l1.length:Int) then
 (atI l1 v6).bind λx0 =>
 if x0=1 then
 some (.inl (Wq (v6+1),()))
 else
 some (.inr (.inr (.inr (.inr (.inr false)))))
 else
 some (.inr (.inr (.inr (.inr (.inr true)))))
def Vb (a1:Zd) (v5:Int) (l1:List Int):Option ((Int×(List Int)×Unit) ⊕ ((Int×(List Int)×Unit) ⊕ (((List (List UInt8))×Int×Unit) ⊕ (((List (List UInt8))×Int×Unit) ⊕ Bool)))) :=
 if v5<(↑(List.length (Zd.YR a1)):Int) then
 (atI (Zd.YR a1) v5).bind λx0 =>
 if Yr.Dir x0=1 then
 (atI l1 (Yr.Net x0)).bind λx1 =>
 some (.inl (Wq (v5+1),List.set l1 (Int.toNat (Yr.Net x0)) (Wq (x1+1)),()))
 else
 some (.inl (Wq (v5+1),l1,()))
 else
 Zp (λv=>ZbJ l1 v.1) ((0:Int),())
def Vd (a1:Zd) (v4:Int) (l0:List Int):Option ((Int×(List Int)×Unit) ⊕ (((List (List UInt8))×Int×Unit) ⊕ (((List (List UInt8))×Int×Unit) ⊕ Bool))) :=
 if v4<(↑(List.length (Zd.Instances a1)):Int) then
 (atI (Zd.Instances a1) v4).bind λx0 =>
 (atI (Zi.YQ x0) (Wq ((↑(List.length (Zi.YQ x0)):Int)-1))).bind λx1 =>
 (atI l0 x1).bind λx2 =>
 some (.inl (Wq (v4+1),List.set l0 (Int.toNat x1) (Wq (x2+1)),()))
 else
 Zp (λv=>Vb a1 v.1 v.2.1) ((0:Int),l0,())
def ZbK (a1:Zd) (v0:List (List UInt8)) (v2:List (List UInt8)) (v3:Int):Option (((List (List UInt8))×Int×Unit) ⊕ (((List (List UInt8))×Int×Unit) ⊕ Bool)) :=
 if v3<(↑(List.length (Zd.YR a1)):Int) then
 (atI (Zd.YR a1) v3).bind λx0 =>
 Zw ((List.length v2+List.length [Yr.Name x0])*(16:Nat)<=(140737488355328:Nat)) <|
 some (.inl (v2++[Yr.Name x0],Wq (v3+(1:Int)),()))
 else
 (ZaW v0).bind λy0 =>
 if y0 then
 (ZaW v2).bind λy1 =>
 if y1 then
 (ZaW (Zd.YQ a1)).bind λy2 =>
 if y2 then
 Zw ((0:Int)<=(↑(List.length (Zd.YQ a1)):Int)) <|
 Zw ((↑(List.length (Zd.YQ a1)):Int)<=(↑(List.length (Zd.YQ a1)):Int)) <|
 Zw ((↑(List.length (Zd.YQ a1)):Int)<=(4611686018427387904:Int)) <|
 Zw ((↑(8:Nat):Int)*(↑(List.length (Zd.YQ a1)):Int)<=(281474976710656:Int)) <|
 Zp (λv=>Vd a1 v.1 v.2.1) ((0:Int),List.replicate (Int.toNat (↑(List.length (Zd.YQ a1)):Int)) (0:Int),())
 else
 some (.inr (.inr false))
 else
 some (.inr (.inr false))
 else
 some (.inr (.inr false))
def ZbL (a1:Zd) (v0:List (List UInt8)) (v1:Int):Option (((List (List UInt8))×Int×Unit) ⊕ Bool) :=
 if v1<(↑(List.length (Zd.Instances a1)):Int) then
 (atI (Zd.Instances a1) v1).bind λx0 =>
 Zw ((List.length v0+List.length [Zi.Name x0])*(16:Nat)<=(140737488355328:Nat)) <|
 some (.inl (v0++[Zi.Name x0],Wq (v1+(1:Int)),()))
 else
 Zp (λv=>ZbK a1 v0 v.1 v.2.1) (([]:List (List UInt8)),(0:Int),())
def Zd3 (a0:Zy) (a1:Zd):Option Bool :=
 (Zdq a0).bind λy0 =>
 if y0 then
 if 14<(↑(List.length (Zd.Instances a1)):Int) then
 some false
 else
 if 30<(↑(List.length (Zd.YQ a1)):Int) then
 some false
 else
 if 8<(↑(List.length (Zd.YR a1)):Int) then
 some false
 else
 (Zd5 a0 a1).bind λy1 =>
 if y1 then
 Zp (λv=>ZbL a1 v.1 v.2.1) (([]:List (List UInt8)),(0:Int),())
 else
 some false
 else
 some false
def c35:Ctr:=D2 (Qp) (Xq) (.bool) Zd3
def Zdb (a0:Zq) (v1:Int):Option ((Int×Unit) ⊕ ((Int×Unit) ⊕ Bool)) :=
 if v1<(↑(List.length (Zq.Zc0 a0)):Int) then
 (atI (Zq.Zc0 a0) v1).bind λx0 =>
 (Yq x0 0 (Wq ((↑(List.length (Zq.Parent a0)):Int)-1))).bind λy0 =>
 if y0 then
 some (.inl (Wq (v1+1),()))
 else
 some (.inr (.inr false))
 else
 some (.inr (.inr true))
def Zdc (a0:Zq) (v0:Int):Option ((Int×Unit) ⊕ Bool) :=
 if v0<(↑(List.length (Zq.Parent a0)):Int) then
 (atI (Zq.Cap a0) v0).bind λx0 =>
 (Yq x0 0 500).bind λy0 =>
 if y0 then
 (atI (Zq.Res a0) v0).bind λx1 =>
 (Yq x1 0 1000).bind λy1 =>
 if y1 then
 if v0=0 then
 (atI (Zq.Parent a0) v0).bind λx2 =>
 if x2=(-1) then
 if x1=0 then
 if 0<v0 then
 (Yq x2 0 (Wq (v0-1))).bind λy2 =>
 if y2 then
 some (.inl (Wq (v0+1),()))
 else
 some (.inr false)
 else
 some (.inl (Wq (v0+1),()))
 else
 some (.inr false)
 else
 some (.inr false)
 else
 if 0<v0 then
 (atI (Zq.Parent a0) v0).bind λx2 =>
 (Yq x2 0 (Wq (v0-1))).bind λy2 =>
 if y2 then
 some (.inl (Wq (v0+1),()))
 else
 some (.inr false)
 else
 some (.inl (Wq (v0+1),()))
 else
 some (.inr false)
 else
 some (.inr false)
 else
 Zp (λv=>Zdb a0 v.1) ((0:Int),())
def ZfL (a0:Zq) (a1:Int):Option Bool :=
 if (↑(List.length (Zq.Parent a0)):Int)<1 then
 some false
 else
 if 8<(↑(List.length (Zq.Parent a0)):Int) then
 some false
 else
 if (↑(List.length (Zq.Res a0)):Int)=(↑(List.length (Zq.Parent a0)):Int) then
 if (↑(List.length (Zq.Cap a0)):Int)=(↑(List.length (Zq.Parent a0)):Int) then
 if (↑(List.length (Zq.Zc0 a0)):Int)=a1 then
 Zp (λv=>Zdc a0 v.1) ((0:Int),())
 else
 some false
 else
 some false
 else
 some false
def c36:Ctr:=D2 (ZfS) Iq (.bool) ZfL
def Zcy (b0:Zc) (net0:Int):Option ((Int×Unit) ⊕ Bool) :=
 if net0<(↑(List.length (Zc.Yw b0)):Int) then
 (atI (Zc.Yw b0) net0).bind λx0 =>
 (JJ (Zc.Design b0) net0).bind λy0 =>
 (ZfL x0 (↑y0.length:Int)).bind λy1 =>
 if y1 then
 some (.inl (Wq (net0+1),()))
 else
 some (.inr false)
 else
 some (.inr true)
def Qs (b0:Zc):Option Bool :=
 (Zd3 (Zc.Library b0) (Zc.Design b0)).bind λy0 =>
 if y0 then
 if (↑(List.length (Zc.Yw b0)):Int)=(↑(List.length (Zd.YQ (Zc.Design b0))):Int) then
 Zp (λv=>Zcy b0 v.1) ((0:Int),())
 else
 some false
 else
 some false
def c37:Ctr:=D1 (YC) (.bool) Qs
def ZcN (instance0:Int) (pin0:Int) (l05Places0:List ZQ) (i0:Int):Option ((Int×Unit) ⊕ Int) :=
 if i0<(↑l05Places0.length:Int) then
 (atI l05Places0 i0).bind λx0 =>
 if ZQ.instance x0=instance0 then
 if ZQ.pin x0=pin0 then
 some (.inr i0)
 else
 some (.inl (Wq (i0+1),()))
 else
 some (.inl (Wq (i0+1),()))
 else
 some (.inr (-1))
def Zb6 (d0:Zd) (instance0:Int) (pin0:Int):Option Int :=
 (XD d0).bind λy0 =>
 Zp (λv=>ZcN instance0 pin0 y0 v.1) ((0:Int),())
def c38:Ctr:=D3 (Xq) Iq Iq Iq Zb6
def VN (list0:List Zm) (from0:Int) (to0:Int) (a0:Int) (b0:Int) (kind0:Int) (index0:Int):Option (List Zm) :=
 Zw ((List.length list0+List.length [(Wq (Wq ((2:Int)*from0)+a0),Wq (Wq ((2:Int)*to0)+b0),kind0,index0,())])*(32:Nat)<=(140737488355328:Nat)) <|
 some (list0++[(Wq (Wq ((2:Int)*from0)+a0),Wq (Wq ((2:Int)*to0)+b0),kind0,index0,())])
def c39:Ctr:=⟨[.own (.ol 202 (.flat (Jp))),.dat Iq,.dat Iq,.dat Iq,.dat Iq,.dat Iq,.dat Iq],[.own (.ol 202 (.flat (Jp)))],λa K=>splitK a λlist0 a=>splitK a λfrom0 a=>splitK a λto0 a=>splitK a λa0 a=>splitK a λb0 a=>splitK a λkind0 a=>splitK a λindex0 a=>YB (VN list0 from0 to0 a0 b0 kind0 index0) λr=>K (r,()) ()⟩
def Jj (arc0:ZB) (from0:Int) (to0:Int) (index0:Int) (a0:Int) (list2:List Zm) (b0:Int):Option (((List Zm)×Int×Unit) ⊕ (((List Zm)×Int×Unit) ⊕ List Zm)) :=
 if b0<=1 then
 if ZB.Kind arc0=1 then
 if ZB.V8 arc0=3 then
 (VN list2 from0 to0 a0 b0 1 index0).bind λy0 =>
 some (.inl (y0,Wq (b0+1),()))
 else
 if (Decidable.decide (ZB.V8 arc0=1) == Decidable.decide (a0=b0))=true then
 (VN list2 from0 to0 a0 b0 1 index0).bind λy0 =>
 some (.inl (y0,Wq (b0+1),()))
 else
 some (.inl (list2,Wq (b0+1),()))
 else
 if ZB.Kind arc0=2 then
 if a0=0 then
 (VN list2 from0 to0 a0 b0 1 index0).bind λy0 =>
 some (.inl (y0,Wq (b0+1),()))
 else
 some (.inl (list2,Wq (b0+1),()))
 else
 if ZB.Kind arc0=3 then
 if a0=1 then
 (VN list2 from0 to0 a0 b0 1 index0).bind λy0 =>
 some (.inl (y0,Wq (b0+1),()))
 else
 some (.inl (list2,Wq (b0+1),()))
 else
 some (.inl (list2,Wq (b0+1),()))
 else
 some (.inr (.inl (list2,Wq (a0+1),())))
def QZ (arc0:ZB) (from0:Int) (to0:Int) (index0:Int) (list1:List Zm) (a0:Int):Option (((List Zm)×Int×Unit) ⊕ List Zm) :=
 if a0<=1 then
 Zp (λv=>Jj arc0 from0 to0 index0 a0 v.1 v.2.1) (list1,(0:Int),())
 else
 some (.inr list1)
def ZfN (list0:List Zm) (arc0:ZB) (from0:Int) (to0:Int) (index0:Int):Option (List Zm) :=
 Zp (λv=>QZ arc0 from0 to0 index0 v.1 v.2.1) (list0,(0:Int),())
def c40:Ctr:=⟨[.own (.ol 202 (.flat (Jp))),.dat (Zk3),.dat Iq,.dat Iq,.dat Iq],[.own (.ol 202 (.flat (Jp)))],λa K=>splitK a λlist0 a=>splitK a λarc0 a=>splitK a λfrom0 a=>splitK a λto0 a=>splitK a λindex0 a=>YB (ZfN list0 arc0 from0 to0 index0) λr=>K (r,()) ()⟩
def Zba (net0:Int) (l05Places0:List ZQ) (i0:Int):Option ((Int×Unit) ⊕ Int) :=
 if i0<(↑l05Places0.length:Int) then
 (atI l05Places0 i0).bind λx0 =>
 if ZQ.net x0=net0 then
 if (ZQ.drives x0)=true then
 some (.inr i0)
 else
 some (.inl (Wq (i0+1),()))
 else
 some (.inl (Wq (i0+1),()))
 else
 some (.inr (-1))
def Zbn (d0:Zd) (net0:Int):Option Int :=
 (XD d0).bind λy0 =>
 Zp (λv=>Zba net0 y0 v.1) ((0:Int),())
def c41:Ctr:=D2 (Xq) Iq Iq Zbn
def JK (a0:Zc) (v1:Int) (x1:Zl) (v2:List Zm) (v3:Int):Option (((List Zm)×Int×Unit) ⊕ (((List Zm)×Int×Unit) ⊕ List Zm)) :=
 if v3<(↑(List.length (Zl.Jr x1)):Int) then
 (atI (Zl.Jr x1) v3).bind λx2 =>
 if ZB.Kind x2<=3 then
 (Zb6 (Zc.Design a0) v1 (ZB.From x2)).bind λy0 =>
 (Zb6 (Zc.Design a0) v1 (ZB.To x2)).bind λy1 =>
 (ZfN v2 x2 y0 y1 v3).bind λy2 =>
 some (.inl (y2,Wq (v3+1),()))
 else
 some (.inl (v2,Wq (v3+1),()))
 else
 some (.inr (.inl (v2,Wq (v1+1),())))
def ZbT (v3:Int) (l05Driver0:Int) (l05Sinks0:List Int) (v4:List Zm) (v5:Int):Option (((List Zm)×Int×Unit) ⊕ (((List Zm)×Int×Unit) ⊕ (((List Zm)×Int×Unit) ⊕ List Zm))) :=
 if v5<(↑l05Sinks0.length:Int) then
 (atI l05Sinks0 v5).bind λx0 =>
 (VN v4 l05Driver0 x0 0 0 2 v5).bind λy0 =>
 (VN y0 l05Driver0 x0 1 1 2 v5).bind λy1 =>
 some (.inl (y1,Wq (v5+1),()))
 else
 some (.inr (.inl (v4,Wq (v3+1),())))
def ZbU (a0:Zc) (v2:List Zm) (v3:Int):Option (((List Zm)×Int×Unit) ⊕ (((List Zm)×Int×Unit) ⊕ List Zm)) :=
 if v3<(↑(List.length (Zd.YQ (Zc.Design a0))):Int) then
 (Zbn (Zc.Design a0) v3).bind λy0 =>
 (JJ (Zc.Design a0) v3).bind λy1 =>
 Zp (λv=>ZbT v3 y0 y1 v.1 v.2.1) (v2,(0:Int),())
 else
 some (.inr (.inr v2))
def ZbV (a0:Zc) (v0:List Zm) (v1:Int):Option (((List Zm)×Int×Unit) ⊕ List Zm) :=
 if v1<(↑(List.length (Zd.Instances (Zc.Design a0))):Int) then
 (atI (Zd.Instances (Zc.Design a0)) v1).bind λx0 =>
 (atI (Zy.Cells (Zc.Library a0)) (Zi.Cell x0)).bind λx1 =>
 Zp (λv=>JK a0 v1 x1 v.1 v.2.1) (v0,(0:Int),())
 else
 Zp (λv=>ZbU a0 v.1 v.2.1) (v0,(0:Int),())
def QN (a0:Zc):Option (List Zm) :=
 Zp (λv=>ZbV a0 v.1 v.2.1) (([]:List (Int×Int×Int×Int×Unit)),(0:Int),())
def c42:Ctr:=⟨[.dat (YC)],[.own (.ol 202 (.flat (Jp)))],λa K=>splitK a λa0 a=>YB (QN a0) λr=>K (r,()) ()⟩
def Jk (l09Links0:List Zm) (l01Next1:Int×Zf) (out0:List Int) (k0:Int) (c0:List Int) (c1:Int) (c2:Int):Option (((List Int)×Int×(List Int)×Int×Int×Unit) ⊕ ((List Int)×Zf)) :=
 if k0<(↑l09Links0.length:Int) then
 Zw ((List.length out0+List.length [k0])*(8:Nat)<=(140737488355328:Nat)) <|
 (Zj (c0,c1,c2,()) (Wq (1+l01Next1.fst))).bind λy0 =>
 some (.inl (out0++[k0],Wq (k0+Wq ((1:Int)+y0.fst)),y0.snd.fst,y0.snd.snd.fst,y0.snd.snd.snd.fst,()))
 else
 (Zj (c0,c1,c2,()) 12).bind λy0 =>
 if y0.fst=0 then
 (Zj y0.snd 2).bind λy1 =>
 Zw ((List.length out0+List.length [Wq ((↑l09Links0.length:Int)*y1.fst)])*(8:Nat)<=(140737488355328:Nat)) <|
 some (.inr (out0++[Wq ((↑l09Links0.length:Int)*y1.fst)],y1.snd))
 else
 some (.inr (out0,y0.snd))
def QA (s0:Zf) (b0:Zc):Option ((List Int)×Zf) :=
 (Qs b0).bind λy0 =>
 if y0 then
 (Zj s0 3).bind λy1 =>
 if 0<y1.fst then
 some (([]:List Int),y1.snd)
 else
 (QN b0).bind λy2 =>
 (Zj y1.snd 8).bind λy3 =>
 (Zj y3.snd (Wq (1+y3.fst))).bind λy4 =>
 Zp (λv=>Jk y2 y3 v.1 v.2.1 v.2.2.1 v.2.2.2.1 v.2.2.2.2.1) (([]:List Int),y4.fst,y4.snd.fst,y4.snd.snd.fst,y4.snd.snd.snd.fst,())
 else
 some (([]:List Int),s0)
def c43:Ctr:=⟨[.io (.flat (YZ)),.dat (YC)],[.own (.ol 2 (.flat Iq))],λa K=>splitK a λs0 a=>splitK a λb0 a=>YB (QA s0 b0) λr=>K (r.1,()) (r.2,())⟩
def Zdf (list0:List Int) (x0:Int) (i0:Int):Option ((Int×Unit) ⊕ Bool) :=
 if i0<(↑list0.length:Int) then
 (atI list0 i0).bind λx1 =>
 if x1=x0 then
 some (.inr true)
 else
 some (.inl (Wq (i0+1),()))
 else
 some (.inr false)
def Zde (list0:List Int) (x0:Int):Option Bool :=
 Zp (λv=>Zdf list0 x0 v.1) ((0:Int),())
def c44:Ctr:=D2 (.sl Iq) Iq (.bool) Zde
def ZcR (links0:List Zm) (broken0:List Int) (out0:List Bool) (k0:Int):Option (((List Bool)×Int×Unit) ⊕ List Bool) :=
 if k0<(↑links0.length:Int) then
 (Zde broken0 k0).bind λy0 =>
 Zw ((List.length out0+List.length [!y0])*(1:Nat)<=(140737488355328:Nat)) <|
 some (.inl (out0++[!y0],Wq (k0+(1:Int)),()))
 else
 some (.inr out0)
def ZaG (links0:List Zm) (broken0:List Int):Option (List Bool) :=
 Zp (λv=>ZcR links0 broken0 v.1 v.2.1) (([]:List Bool),(0:Int),())
def c45:Ctr:=⟨[.dat (.sl (Jp)),.dat (.sl Iq)],[.own (.ol 4 (.flat (.bool)))],λa K=>splitK a λlinks0 a=>splitK a λbroken0 a=>YB (ZaG links0 broken0) λr=>K (r,()) ()⟩
def Y6 (b0:Zc):Option Int :=
 (XD (Zc.Design b0)).bind λy0 =>
 some (Wq (2*(↑y0.length:Int)))
def c46:Ctr:=D1 (YC) Iq Y6
def Xe (links0:List Zm) (live0:List Bool) (forward0:Bool) (changed1:Bool) (k0:Int) (l1:List Bool):Option ((Bool×Int×(List Bool)×Unit) ⊕ ((Bool×(List Bool)×Unit) ⊕ List Bool)) :=
 if k0<(↑links0.length:Int) then
 (atI links0 k0).bind λx1 =>
 if forward0 then
 (atI live0 k0).bind λx2 =>
 if x2 then
 (atI l1 (Zm.From x1)).bind λx3 =>
 if x3 then
 (atI l1 (Zm.To x1)).bind λx4 =>
 if x4 then
 some (.inl (changed1,Wq (k0+1),l1,()))
 else
 some (.inl (true,Wq (k0+1),List.set l1 (Int.toNat (Zm.To x1)) true,()))
 else
 some (.inl (changed1,Wq (k0+1),l1,()))
 else
 some (.inl (changed1,Wq (k0+1),l1,()))
 else
 (atI live0 k0).bind λx2 =>
 if x2 then
 (atI l1 (Zm.To x1)).bind λx3 =>
 if x3 then
 (atI l1 (Zm.From x1)).bind λx4 =>
 if x4 then
 some (.inl (changed1,Wq (k0+1),l1,()))
 else
 some (.inl (true,Wq (k0+1),List.set l1 (Int.toNat (Zm.From x1)) true,()))
 else
 some (.inl (changed1,Wq (k0+1),l1,()))
 else
 some (.inl (changed1,Wq (k0+1),l1,()))
 else
 some (.inr (.inl (changed1,l1,())))
def Qm (links0:List Zm) (live0:List Bool) (forward0:Bool) (changed0:Bool) (l0:List Bool):Option ((Bool×(List Bool)×Unit) ⊕ List Bool) :=
 if changed0 then
 Zp (λv=>Xe links0 live0 forward0 v.1 v.2.1 v.2.2.1) (false,(0:Int),l0,())
 else
 some (.inr l0)
def VO (n0:Int) (links0:List Zm) (live0:List Bool) (node0:Int) (forward0:Bool):Option (List Bool) :=
 Zw ((0:Int)<=n0) <|
 Zw (n0<=n0) <|
 Zw (n0<=(4611686018427387904:Int)) <|
 Zw ((↑(1:Nat):Int)*n0<=(281474976710656:Int)) <|
 (atI (List.replicate (Int.toNat n0) false) node0).bind λx0 =>
 Zp (λv=>Qm links0 live0 forward0 v.1 v.2.1) (true,List.set (List.replicate (Int.toNat n0) false) (Int.toNat node0) true,())
def c47:Ctr:=⟨[.dat Iq,.dat (.sl (Jp)),.dat (.sl (.bool)),.dat Iq,.dat (.bool)],[.own (.ol 4 (.flat (.bool)))],λa K=>splitK a λn0 a=>splitK a λlinks0 a=>splitK a λlive0 a=>splitK a λnode0 a=>splitK a λforward0 a=>YB (VO n0 links0 live0 node0 forward0) λr=>K (r,()) ()⟩
def ZcS (links0:List Zm) (live0:List Bool) (v0:Int) (k0:Int):Option ((Int×Unit) ⊕ Bool) :=
 if k0<(↑links0.length:Int) then
 (atI live0 k0).bind λx0 =>
 if x0 then
 (atI links0 k0).bind λx1 =>
 if Zm.From x1=v0 then
 if Zm.To x1=v0 then
 some (.inr true)
 else
 some (.inl (Wq (k0+1),()))
 else
 some (.inl (Wq (k0+1),()))
 else
 some (.inl (Wq (k0+1),()))
 else
 some (.inr false)
def ZeU (links0:List Zm) (live0:List Bool) (v0:Int):Option Bool :=
 Zp (λv=>ZcS links0 live0 v0 v.1) ((0:Int),())
def c48:Ctr:=D3 (.sl (Jp)) (.sl (.bool)) Iq (.bool) ZeU
def ZbZ (a0:Int) (a1:List Zm) (a2:List Bool) (v0:List (List Int)) (v1:Int) (l09Reach0:List Bool) (l09Reach1:List Bool) (v2:List Int) (v3:Int) (l1:List Bool):Option (((List Int)×Int×(List Bool)×Unit) ⊕ (((List (List Int))×Int×(List Bool)×Unit) ⊕ List (List Int))) :=
 if v3<a0 then
 (atI l09Reach0 v3).bind λx1 =>
 if x1 then
 (atI l09Reach1 v3).bind λx2 =>
 if x2 then
 Zw ((List.length v2+List.length [v3])*(8:Nat)<=(140737488355328:Nat)) <|
 (atI l1 v3).bind λx3 =>
 some (.inl (v2++[v3],Wq (v3+(1:Int)),List.set l1 (Int.toNat v3) true,()))
 else
 some (.inl (v2,Wq (v3+1),l1,()))
 else
 some (.inl (v2,Wq (v3+1),l1,()))
 else
 if 1<(↑v2.length:Int) then
 Zw ((List.length v0+List.length [v2])*(24:Nat)<=(140737488355328:Nat)) <|
 some (.inr (.inl (v0++[v2],Wq (v1+(1:Int)),l1,())))
 else
 (ZeU a1 a2 v1).bind λy0 =>
 if y0 then
 Zw ((List.length v0+List.length [v2])*(24:Nat)<=(140737488355328:Nat)) <|
 some (.inr (.inl (v0++[v2],Wq (v1+(1:Int)),l1,())))
 else
 some (.inr (.inl (v0,Wq (v1+1),l1,())))
def Zb0 (a0:Int) (a1:List Zm) (a2:List Bool) (v0:List (List Int)) (v1:Int) (l0:List Bool):Option (((List (List Int))×Int×(List Bool)×Unit) ⊕ List (List Int)) :=
 if v1<a0 then
 (atI l0 v1).bind λx0 =>
 if x0 then
 some (.inl (v0,Wq (v1+1),l0,()))
 else
 (VO a0 a1 a2 v1 true).bind λy0 =>
 (VO a0 a1 a2 v1 false).bind λy1 =>
 Zp (λv=>ZbZ a0 a1 a2 v0 v1 y0 y1 v.1 v.2.1 v.2.2.1) (([]:List Int),(0:Int),l0,())
 else
 some (.inr v0)
def Zd7 (a0:Int) (a1:List Zm) (a2:List Bool):Option (List (List Int)) :=
 Zw ((0:Int)<=a0) <|
 Zw (a0<=a0) <|
 Zw (a0<=(4611686018427387904:Int)) <|
 Zw ((↑(1:Nat):Int)*a0<=(281474976710656:Int)) <|
 Zp (λv=>Zb0 a0 a1 a2 v.1 v.2.1 v.2.2.1) (([]:List (List Int)),(0:Int),List.replicate (Int.toNat a0) false,())
def c49:Ctr:=⟨[.dat Iq,.dat (.sl (Jp)),.dat (.sl (.bool))],[.own (.ol 38 (.ol 2 (.flat Iq)))],λa K=>splitK a λa0 a=>splitK a λa1 a=>splitK a λa2 a=>YB (Zd7 a0 a1 a2) λr=>K (r,()) ()⟩
def ZbW (l0:List Bool) (v0:List Int) (v1:Int):Option (((List Int)×Int×Unit) ⊕ (((List Bool)×Unit) ⊕ List Int)) :=
 if v1<(↑l0.length:Int) then
 (atI l0 v1).bind λx0 =>
 if x0 then
 some (.inl (v0,Wq (v1+1),()))
 else
 Zw ((List.length v0+List.length [v1])*(8:Nat)<=(140737488355328:Nat)) <|
 some (.inl (v0++[v1],Wq (v1+(1:Int)),()))
 else
 some (.inr (.inr v0))
def ZbX (l09Links0:List Zm) (l0:List Bool) (v0:Int) (v1:Int) (l1:List (List Int)):Option ((Int×Int×(List (List Int))×Unit) ⊕ (((List Bool)×Unit) ⊕ List Int)) :=
 if v1<(↑l09Links0.length:Int) then
 (atI l0 v1).bind λx0 =>
 if x0 then
 (atI l09Links0 v1).bind λx1 =>
 if Zm.Kind x1=1 then
 (atI l1 0).bind λx2 =>
 (Zde x2 (Zm.From x1)).bind λy0 =>
 if y0 then
 (Zde x2 (Zm.To x1)).bind λy1 =>
 if y1 then
 some (.inl (v1,Wq (v1+1),List.set l1 (Int.toNat 0) x2,()))
 else
 some (.inl (v0,Wq (v1+1),List.set l1 (Int.toNat 0) x2,()))
 else
 some (.inl (v0,Wq (v1+1),List.set l1 (Int.toNat 0) x2,()))
 else
 some (.inl (v0,Wq (v1+1),l1,()))
 else
 some (.inl (v0,Wq (v1+1),l1,()))
 else
 (atI l0 v0).bind λx0 =>
 some (.inr (.inl (List.set l0 (Int.toNat v0) false,())))
def ZbY (l09Links0:List Zm) (l09Count0:Int) (l0:List Bool):Option (((List Bool)×Unit) ⊕ List Int) :=
 (Zd7 l09Count0 l09Links0 l0).bind λy0 =>
 if (↑y0.length:Int)=0 then
 Zp (λv=>ZbW l0 v.1 v.2.1) (([]:List Int),(0:Int),())
 else
 Zp (λv=>ZbX l09Links0 l0 v.1 v.2.1 v.2.2.1) ((-1:Int),(0:Int),y0,())
def ZaZ (a0:Zc):Option (List Int) :=
 (QN a0).bind λy0 =>
 (ZaG y0 (([]:List Int))).bind λy1 =>
 (Y6 a0).bind λy2 =>
 Zp (λv=>ZbY y0 y2 v.1) (y1,())
def c50:Ctr:=⟨[.dat (YC)],[.own (.ol 2 (.flat Iq))],λa K=>splitK a λa0 a=>YB (ZaZ a0) λr=>K (r,()) ()⟩
def VU (v1:Int) (x0:ZQ) (v2:List Zh) (v3:Int) (c3:List Int) (c4:Int) (c5:Int):Option (((List Zh)×Int×(List Int)×Int×Int×Unit) ⊕ (((List Zh)×Int×(List Int)×Int×Int×Unit) ⊕ ((List Zh)×Zf))) :=
 if v3<2 then
 if (ZQ.drives x0)=true then
 (Zj (c3,c4,c5,()) 8).bind λy0 =>
 if 0<y0.fst then
 (Zj y0.snd 200).bind λy1 =>
 (Zj y1.snd 30).bind λy2 =>
 (Zj y2.snd 40).bind λy3 =>
 (Zj y3.snd 12).bind λy4 =>
 Zw ((List.length v2+List.length [(Wq (Wq ((2:Int)*v1)+v3),(Wq (y1.fst-(50:Int)),Wq (Wq (y1.fst-(50:Int))+y3.fst),()),(y2.fst,Wq (y2.fst+y4.fst),()),())])*(40:Nat)<=(140737488355328:Nat)) <|
 some (.inl (v2++[(Wq (Wq ((2:Int)*v1)+v3),(Wq (y1.fst-(50:Int)),Wq (Wq (y1.fst-(50:Int))+y3.fst),()),(y2.fst,Wq (y2.fst+y4.fst),()),())],Wq (v3+(1:Int)),y4.snd.fst,y4.snd.snd.fst,y4.snd.snd.snd.fst,()))
 else
 (Zj y0.snd 24).bind λy1 =>
 if y1.fst=0 then
 (Zj y1.snd 200).bind λy2 =>
 (Zj y2.snd 30).bind λy3 =>
 (Zj y3.snd 40).bind λy4 =>
 (Zj y4.snd 12).bind λy5 =>
 Zw ((List.length v2+List.length [(Wq (Wq ((2:Int)*v1)+v3),(Wq (y2.fst-(50:Int)),Wq (Wq (y2.fst-(50:Int))+y4.fst),()),(y3.fst,Wq (y3.fst+y5.fst),()),())])*(40:Nat)<=(140737488355328:Nat)) <|
 some (.inl (v2++[(Wq (Wq ((2:Int)*v1)+v3),(Wq (y2.fst-(50:Int)),Wq (Wq (y2.fst-(50:Int))+y4.fst),()),(y3.fst,Wq (y3.fst+y5.fst),()),())],Wq (v3+(1:Int)),y5.snd.fst,y5.snd.snd.fst,y5.snd.snd.snd.fst,()))
 else
 some (.inl (v2,Wq (v3+1),y1.snd.fst,y1.snd.snd.fst,y1.snd.snd.snd.fst,()))
 else
 (Zj (c3,c4,c5,()) 24).bind λy0 =>
 if y0.fst=0 then
 (Zj y0.snd 200).bind λy1 =>
 (Zj y1.snd 30).bind λy2 =>
 (Zj y2.snd 40).bind λy3 =>
 (Zj y3.snd 12).bind λy4 =>
 Zw ((List.length v2+List.length [(Wq (Wq ((2:Int)*v1)+v3),(Wq (y1.fst-(50:Int)),Wq (Wq (y1.fst-(50:Int))+y3.fst),()),(y2.fst,Wq (y2.fst+y4.fst),()),())])*(40:Nat)<=(140737488355328:Nat)) <|
 some (.inl (v2++[(Wq (Wq ((2:Int)*v1)+v3),(Wq (y1.fst-(50:Int)),Wq (Wq (y1.fst-(50:Int))+y3.fst),()),(y2.fst,Wq (y2.fst+y4.fst),()),())],Wq (v3+(1:Int)),y4.snd.fst,y4.snd.snd.fst,y4.snd.snd.snd.fst,()))
 else
 some (.inl (v2,Wq (v3+1),y0.snd.fst,y0.snd.snd.fst,y0.snd.snd.snd.fst,()))
 else
 some (.inr (.inl (v2,Wq (v1+1),c3,c4,c5,())))
def VW (v1:Int) (v2:List Zh) (v3:Int) (c3:List Int) (c4:Int) (c5:Int):Option (((List Zh)×Int×(List Int)×Int×Int×Unit) ⊕ (((List Zh)×Int×(List Int)×Int×Int×Unit) ⊕ ((List Zh)×Zf))) :=
 if v3<2 then
 (Zj (c3,c4,c5,()) 24).bind λy0 =>
 if y0.fst=0 then
 (Zj y0.snd 200).bind λy1 =>
 (Zj y1.snd 30).bind λy2 =>
 (Zj y2.snd 40).bind λy3 =>
 (Zj y3.snd 12).bind λy4 =>
 Zw ((List.length v2+List.length [(Wq (Wq ((2:Int)*v1)+v3),(Wq (y1.fst-(50:Int)),Wq (Wq (y1.fst-(50:Int))+y3.fst),()),(y2.fst,Wq (y2.fst+y4.fst),()),())])*(40:Nat)<=(140737488355328:Nat)) <|
 some (.inl (v2++[(Wq (Wq ((2:Int)*v1)+v3),(Wq (y1.fst-(50:Int)),Wq (Wq (y1.fst-(50:Int))+y3.fst),()),(y2.fst,Wq (y2.fst+y4.fst),()),())],Wq (v3+(1:Int)),y4.snd.fst,y4.snd.snd.fst,y4.snd.snd.snd.fst,()))
 else
 some (.inl (v2,Wq (v3+1),y0.snd.fst,y0.snd.snd.fst,y0.snd.snd.snd.fst,()))
 else
 some (.inr (.inl (v2,Wq (v1+1),c3,c4,c5,())))
def VX (l05Places0:List ZQ) (v0:List Zh) (v1:Int) (c0:List Int) (c1:Int) (c2:Int):Option (((List Zh)×Int×(List Int)×Int×Int×Unit) ⊕ ((List Zh)×Zf)) :=
 if v1<(↑l05Places0.length:Int) then
 (atI l05Places0 v1).bind λx0 =>
 if ZQ.instance x0<0 then
 Zp (λv=>VU v1 x0 v.1 v.2.1 v.2.2.1 v.2.2.2.1 v.2.2.2.2.1) (v0,(0:Int),c0,c1,c2,())
 else
 Zp (λv=>VW v1 v.1 v.2.1 v.2.2.1 v.2.2.2.1 v.2.2.2.2.1) (v0,(0:Int),c0,c1,c2,())
 else
 if 0<(↑v0.length:Int) then
 (Zj (c0,c1,c2,()) (↑v0.length:Int)).bind λy0 =>
 (Zj y0.snd 30).bind λy1 =>
 if y1.fst=0 then
 (atI v0 0).bind λx0 =>
 (atI v0 y0.fst).bind λx1 =>
 some (.inr (List.set v0 (Int.toNat y0.fst) (Zh.Node x0,x1.snd),y1.snd))
 else
 if y1.fst=1 then
 (atI v0 y0.fst).bind λx0 =>
 some (.inr (List.set v0 (Int.toNat y0.fst) (Zh.Node x0,(Wq (Zv.Late (Zh.ZA x0)+1),(Zh.ZA x0).snd),x0.snd.snd),y1.snd))
 else
 if y1.fst=2 then
 (atI v0 y0.fst).bind λx0 =>
 some (.inr (List.set v0 (Int.toNat y0.fst) (Zh.Node x0,Zh.ZA x0,((-1),(Zh.Xx x0).snd),()),y1.snd))
 else
 if y1.fst=3 then
 (atI v0 y0.fst).bind λx0 =>
 some (.inr (List.set v0 (Int.toNat y0.fst) (Zh.Node x0,(Zv.Early (Zh.ZA x0),1000000000,()),x0.snd.snd),y1.snd))
 else
 some (.inr (v0,y1.snd))
 else
 some (.inr (v0,(c0,c1,c2,())))
def ZP (a0:Zf) (a1:Zc):Option ((List Zh)×Zf) :=
 (Qs a1).bind λy0 =>
 if y0 then
 (XD (Zc.Design a1)).bind λy1 =>
 Zp (λv=>VX y1 v.1 v.2.1 v.2.2.1 v.2.2.2.1 v.2.2.2.2.1) (([]:List (Int×Zv×Zv×Unit)),(0:Int),Zf.code a0,Zf.at a0,Zf.seed a0,())
 else
 some (([]:List (Int×Zv×Zv×Unit)),a0)
def c51:Ctr:=⟨[.io (.flat (YZ)),.dat (YC)],[.own (.ol 94 (.flat (XY)))],λa K=>splitK a λa0 a=>splitK a λa1 a=>YB (ZP a0 a1) λr=>K (r.1,()) (r.2,())⟩
def Vr (s0:Zf):Option (Zc×Zt×(List Int)×(List Zh)×Zf) :=
 (ZaY s0).bind λy0 =>
 (QB y0.snd).bind λy1 =>
 (Zj y1.snd 3).bind λy2 =>
 if y2.fst=0 then
 (QT y2.snd 5 true).bind λy3 =>
 (QA y3.snd y3.fst).bind λy4 =>
 (Qs y3.fst).bind λy5 =>
 if y5 then
 if (↑(List.length y4.fst):Int)=0 then
 (Zj y4.snd 6).bind λy6 =>
 if 0<y6.fst then
 (ZaZ y3.fst).bind λy7 =>
 (ZP y6.snd y3.fst).bind λy8 =>
 some (y3.fst,y1.fst,y7,y8.fst,y8.snd)
 else
 (ZP y6.snd y3.fst).bind λy8 =>
 some (y3.fst,y1.fst,y4.fst,y8.fst,y8.snd)
 else
 (ZP y4.snd y3.fst).bind λy8 =>
 some (y3.fst,y1.fst,y4.fst,y8.fst,y8.snd)
 else
 (ZP y4.snd y3.fst).bind λy8 =>
 some (y3.fst,y1.fst,y4.fst,y8.fst,y8.snd)
 else
 (QA y2.snd y0.fst).bind λy4 =>
 (Qs y0.fst).bind λy5 =>
 if y5 then
 if (↑(List.length y4.fst):Int)=0 then
 (Zj y4.snd 6).bind λy6 =>
 if 0<y6.fst then
 (ZaZ y0.fst).bind λy7 =>
 (ZP y6.snd y0.fst).bind λy8 =>
 some (y0.fst,y1.fst,y7,y8.fst,y8.snd)
 else
 (ZP y6.snd y0.fst).bind λy8 =>
 some (y0.fst,y1.fst,y4.fst,y8.fst,y8.snd)
 else
 (ZP y4.snd y0.fst).bind λy8 =>
 some (y0.fst,y1.fst,y4.fst,y8.fst,y8.snd)
 else
 (ZP y4.snd y0.fst).bind λy8 =>
 some (y0.fst,y1.fst,y4.fst,y8.fst,y8.snd)
def c52:Ctr:=⟨[.io (.flat (YZ))],[.dat (YC),.dat (Xf),.own (.ol 2 (.flat Iq)),.own (.ol 94 (.flat (XY)))],λa K=>splitK a λs0 a=>YB (Vr s0) λr=>K (r.1,r.2.1,r.2.2.1,r.2.2.2.1,()) (r.2.2.2.2,())⟩
def ZbI (c0:Zt) (i0:Int):Option ((Int×Unit) ⊕ Bool) :=
 if i0<(↑(List.length [Zt.Zal c0,Zt.Zbs c0,Zt.Zam c0,Zt.Zb8 c0]):Int) then
 (atI ([Zt.Zal c0,Zt.Zbs c0,Zt.Zam c0,Zt.Zb8 c0]) i0).bind λx0 =>
 (Yq x0 100 5000).bind λy0 =>
 if y0 then
 some (.inl (Wq (i0+1),()))
 else
 some (.inr false)
 else
 (ZaF (Zt.Name c0)).bind λy1 =>
 if y1 then
 if Zt.Zal c0<=Zt.Zbs c0 then
 some (.inr (Decidable.decide (Zt.Zam c0<=Zt.Zb8 c0)))
 else
 some (.inr false)
 else
 some (.inr false)
def Zcz (c0:Zt):Option Bool :=
 Zp (λv=>ZbI c0 v.1) ((0:Int),())
def c53:Ctr:=D1 (Xf) (.bool) Zcz
def Zbf (list0:List Int) (n0:Int) (i0:Int):Option ((Int×Unit) ⊕ Bool) :=
 if i0<(↑list0.length:Int) then
 (atI list0 i0).bind λx0 =>
 (Yq x0 0 (Wq (n0-1))).bind λy0 =>
 if y0 then
 if 0<i0 then
 (atI list0 (Wq (i0-1))).bind λx1 =>
 if x0<=x1 then
 some (.inr false)
 else
 some (.inl (Wq (i0+1),()))
 else
 some (.inl (Wq (i0+1),()))
 else
 some (.inr false)
 else
 some (.inr true)
def Zdt (list0:List Int) (n0:Int):Option Bool :=
 Zp (λv=>Zbf list0 n0 v.1) ((0:Int),())
def c54:Ctr:=D2 (.sl Iq) Iq (.bool) Zdt
def ZdF (b0:Zc) (broken0:List Int):Option Int :=
 (Qs b0).bind λy0 =>
 if y0 then
 (QN b0).bind λy1 =>
 (Zdt broken0 (↑y1.length:Int)).bind λy2 =>
 if y2 then
 some 0
 else
 some 2
 else
 some 1
def c55:Ctr:=D2 (YC) (.sl Iq) Iq ZdF
def JH (s0:Zv):Option Bool :=
 (Yq (Zv.Early s0) (-1000000000) 1000000000).bind λy0 =>
 if y0 then
 (Yq (Zv.Late s0) (-1000000000) 1000000000).bind λy1 =>
 if y1 then
 some (Decidable.decide (Zv.Early s0<=Zv.Late s0))
 else
 some false
 else
 some false
def c56:Ctr:=D1 (Jl) (.bool) JH
def Za0 (s0:Zv):Option Bool :=
 if 0<=Zv.Early s0 then
 if Zv.Early s0<=Zv.Late s0 then
 some (Decidable.decide (Zv.Late s0<=1000000))
 else
 some false
 else
 some false
def c57:Ctr:=D1 (Jl) (.bool) Za0
def VR (list0:List Zh) (l09Count0:Int) (i0:Int):Option ((Int×Unit) ⊕ Bool) :=
 if i0<(↑list0.length:Int) then
 (atI list0 i0).bind λx0 =>
 (Yq (Zh.Node x0) 0 (Wq (l09Count0-1))).bind λy0 =>
 if y0 then
 if 0<i0 then
 (atI list0 (Wq (i0-1))).bind λx1 =>
 if Zh.Node x0<=Zh.Node x1 then
 some (.inr false)
 else
 (JH (Zh.ZA x0)).bind λy1 =>
 if y1 then
 (Za0 (Zh.Xx x0)).bind λy2 =>
 if y2 then
 some (.inl (Wq (i0+1),()))
 else
 some (.inr false)
 else
 some (.inr false)
 else
 (JH (Zh.ZA x0)).bind λy1 =>
 if y1 then
 (Za0 (Zh.Xx x0)).bind λy2 =>
 if y2 then
 some (.inl (Wq (i0+1),()))
 else
 some (.inr false)
 else
 some (.inr false)
 else
 some (.inr false)
 else
 some (.inr true)
def ZcT (b0:Zc) (list0:List Zh):Option Bool :=
 (Y6 b0).bind λy0 =>
 Zp (λv=>VR list0 y0 v.1) ((0:Int),())
def c58:Ctr:=D2 (YC) (.sl (XY)) (.bool) ZcT
def YP (a0:Int) (v0:List Int) (l0:List Bool) (l1:List Bool) (v2:Int):Option ((Int×Unit) ⊕ ((Int×(List Bool)×Unit) ⊕ (((List Int)×(List Bool)×Unit) ⊕ ((List Int)×Bool)))) :=
 if v2<a0 then
 (atI l0 v2).bind λx0 =>
 if x0 then
 some (.inl (Wq (v2+1),()))
 else
 (atI l1 v2).bind λx1 =>
 if x1 then
 some (.inl (Wq (v2+1),()))
 else
 if v2=a0 then
 some (.inr (.inr (.inr (([]:List Int),false))))
 else
 Zw ((List.length v0+List.length [v2])*(8:Nat)<=(140737488355328:Nat)) <|
 some (.inr (.inr (.inl (v0++[v2],List.set l0 (Int.toNat v2) true,()))))
 else
 if v2=a0 then
 some (.inr (.inr (.inr (([]:List Int),false))))
 else
 (atI l0 v2).bind λx0 =>
 Zw ((List.length v0+List.length [v2])*(8:Nat)<=(140737488355328:Nat)) <|
 some (.inr (.inr (.inl (v0++[v2],List.set l0 (Int.toNat v2) true,()))))
def Ve (a0:Int) (a1:List Zm) (a2:List Bool) (v0:List Int) (l0:List Bool) (v1:Int) (l1:List Bool):Option ((Int×(List Bool)×Unit) ⊕ (((List Int)×(List Bool)×Unit) ⊕ ((List Int)×Bool))) :=
 if v1<(↑a1.length:Int) then
 (atI a2 v1).bind λx0 =>
 if x0 then
 (atI a1 v1).bind λx1 =>
 (atI l0 (Zm.From x1)).bind λx2 =>
 if x2 then
 some (.inl (Wq (v1+1),l1,()))
 else
 (atI l1 (Zm.To x1)).bind λx3 =>
 some (.inl (Wq (v1+1),List.set l1 (Int.toNat (Zm.To x1)) true,()))
 else
 some (.inl (Wq (v1+1),l1,()))
 else
 Zp (λv=>YP a0 v0 l0 l1 v.1) ((0:Int),())
def Ql (a0:Int) (a1:List Zm) (a2:List Bool) (v0:List Int) (l0:List Bool):Option (((List Int)×(List Bool)×Unit) ⊕ ((List Int)×Bool)) :=
 if (↑v0.length:Int)<a0 then
 Zp (λv=>Ve a0 a1 a2 v0 l0 v.1 v.2.1) ((0:Int),List.replicate (Int.toNat a0) false,())
 else
 some (.inr (v0,true))
def Zd6 (a0:Int) (a1:List Zm) (a2:List Bool):Option ((List Int)×Bool) :=
 Zw ((0:Int)<=a0) <|
 Zw (a0<=a0) <|
 Zw (a0<=(4611686018427387904:Int)) <|
 Zw ((↑(1:Nat):Int)*a0<=(281474976710656:Int)) <|
 Zp (λv=>Ql a0 a1 a2 v.1 v.2.1) (([]:List Int),List.replicate (Int.toNat a0) false,())
def c59:Ctr:=⟨[.dat Iq,.dat (.sl (Jp)),.dat (.sl (.bool))],[.own (.ol 2 (.flat Iq)),.dat (.bool)],λa K=>splitK a λa0 a=>splitK a λa1 a=>splitK a λa2 a=>YB (Zd6 a0 a1 a2) λr=>K (r.1,r.2,()) ()⟩
def VH (b0:Zc) (broken0:List Int):Option ((List Int)×Int) :=
 (ZdF b0 broken0).bind λy0 =>
 if y0=0 then
 (QN b0).bind λy1 =>
 (Y6 b0).bind λy2 =>
 (ZaG y1 broken0).bind λy3 =>
 (Zd6 y2 y1 y3).bind λy4 =>
 if y4.snd then
 some (y4.fst,0)
 else
 some (([]:List Int),(7:Int))
 else
 some (([]:List Int),y0)
def c60:Ctr:=⟨[.dat (YC),.dat (.sl Iq)],[.own (.ol 2 (.flat Iq)),.dat Iq],λa K=>splitK a λb0 a=>splitK a λbroken0 a=>YB (VH b0 broken0) λr=>K (r.1,r.2,()) ()⟩
def ZaI (b0:Zc) (c0:Zt) (broken0:List Int) (sources0:List Zh):Option ((List Int)×Int) :=
 (Qs b0).bind λy0 =>
 if y0 then
 (Zcz c0).bind λy1 =>
 if y1 then
 (ZdF b0 broken0).bind λy2 =>
 if y2=0 then
 (ZcT b0 sources0).bind λy3 =>
 if y3 then
 (VH b0 broken0).bind λy4 =>
 some (y4.fst,y4.snd)
 else
 some (([]:List Int),(2:Int))
 else
 some (([]:List Int),(2:Int))
 else
 some (([]:List Int),(1:Int))
 else
 some (([]:List Int),(1:Int))
def c61:Ctr:=⟨[.dat (YC),.dat (Xf),.dat (.sl Iq),.dat (.sl (XY))],[.own (.ol 2 (.flat Iq)),.dat Iq],λa K=>splitK a λb0 a=>splitK a λc0 a=>splitK a λbroken0 a=>splitK a λsources0 a=>YB (ZaI b0 c0 broken0 sources0) λr=>K (r.1,r.2,()) ()⟩
def ZfO (n0:Int):Option Ze :=
 Zw ((0:Int)<=n0) <|
 Zw (n0<=n0) <|
 Zw (n0<=(4611686018427387904:Int)) <|
 Zw ((↑(1:Nat):Int)*n0<=(281474976710656:Int)) <|
 Zw ((↑(16:Nat):Int)*n0<=(281474976710656:Int)) <|
 some (List.replicate (Int.toNat n0) false,List.replicate (Int.toNat n0) ((0:Int),(0:Int),()),List.replicate (Int.toNat n0) ((0:Int),(0:Int),()),())
def c62:Ctr:=⟨[.dat Iq],[.own (Zgi)],λa K=>splitK a λn0 a=>YB (ZfO n0) λr=>K (r,()) ()⟩
def ZkY (l0:Zy) (d0:Zd) (p0:ZQ):Option Int :=
 if ZQ.instance p0<0 then
 some 0
 else
 (atI (Zd.Instances d0) (ZQ.instance p0)).bind λx0 =>
 (atI (Zy.Cells l0) (Zi.Cell x0)).bind λx1 =>
 (atI (Zl.YD x1) (ZQ.pin p0)).bind λx2 =>
 some (Y7.Cap x2)
def c63:Ctr:=D3 (Qp) (Xq) (Zev) Iq ZkY
def Zhr (x0:Zq) (v1:Int) (l1:List Int):Option ((Int×(List Int)×Unit) ⊕ ((Int×(List Int)×Unit) ⊕ List Int)) :=
 if 0<v1 then
 (atI (Zq.Parent x0) v1).bind λx1 =>
 (atI l1 x1).bind λx2 =>
 (atI l1 v1).bind λx3 =>
 some (.inl (Wq (v1-1),List.set l1 (Int.toNat x1) (Wq (x2+x3)),()))
 else
 some (.inr (.inr l1))
def Zeq (a0:Zc) (x0:Zq) (l05Places0:List ZQ) (l05Sinks0:List Int) (v0:Int) (l0:List Int):Option ((Int×(List Int)×Unit) ⊕ List Int) :=
 if v0<(↑l05Sinks0.length:Int) then
 (atI (Zq.Zc0 x0) v0).bind λx1 =>
 (atI l0 x1).bind λx2 =>
 (atI l05Sinks0 v0).bind λx3 =>
 (atI l05Places0 x3).bind λx4 =>
 (ZkY (Zc.Library a0) (Zc.Design a0) x4).bind λy0 =>
 some (.inl (Wq (v0+1),List.set l0 (Int.toNat x1) (Wq (x2+y0)),()))
 else
 Zp (λv=>Zhr x0 v.1 v.2.1) (Wq ((↑l0.length:Int)-(1:Int)),l0,())
def ZaX (a0:Zc) (a1:Int):Option (List Int) :=
 (atI (Zc.Yw a0) a1).bind λx0 =>
 (VI (Zq.Cap x0)).bind λy0 =>
 (XD (Zc.Design a0)).bind λy1 =>
 (JJ (Zc.Design a0) a1).bind λy2 =>
 Zp (λv=>Zeq a0 x0 y1 y2 v.1 v.2.1) ((0:Int),y0,())
def c64:Ctr:=⟨[.dat (YC),.dat Iq],[.own (.ol 2 (.flat Iq))],λa K=>splitK a λa0 a=>splitK a λa1 a=>YB (ZaX a0 a1) λr=>K (r,()) ()⟩
def Zer (b0:Zc) (x0:Zm):Option (ZB×Int) :=
 (XD (Zc.Design b0)).bind λy0 =>
 (atI y0 (Wq (Int.tdiv (Zm.To x0) 2))).bind λx1 =>
 (atI (Zd.Instances (Zc.Design b0)) (ZQ.instance x1)).bind λx2 =>
 (atI (Zy.Cells (Zc.Library b0)) (Zi.Cell x2)).bind λx3 =>
 (atI (Zl.Jr x3) (Zm.Index x0)).bind λx4 =>
 (ZaX b0 (ZQ.net x1)).bind λy1 =>
 (atI y1 0).bind λx5 =>
 some (x4,x5)
def c65:Ctr:=⟨[.dat (YC),.dat (Jp)],[.dat (Zk3),.dat Iq],λa K=>splitK a λb0 a=>splitK a λx0 a=>YB (Zer b0 x0) λr=>K (r.1,r.2,()) ()⟩
def VJ (axis0:List Int) (x0:Int) (x1:Int) (x2:Int) (i0:Int):Option ((Int×Unit) ⊕ (Int×Int×Int)) :=
 if 0<=i0 then
 (atI axis0 i0).bind λx3 =>
 if Min.min (Max.max x0 x1) x2=x3 then
 some (.inr (i0,1,0))
 else
 if x3<Min.min (Max.max x0 x1) x2 then
 (atI axis0 (Wq (i0+1))).bind λx4 =>
 some (.inr (i0,Wq (x4-Min.min (Max.max x0 x1) x2),Wq (Min.min (Max.max x0 x1) x2-x3)))
 else
 some (.inl (Wq (i0-1),()))
 else
 some (.inr (0,1,0))
def ZaE (axis0:List Int) (x0:Int):Option (Int×Int×Int) :=
 (atI axis0 0).bind λx1 =>
 (atI axis0 (Wq ((↑axis0.length:Int)-1))).bind λx2 =>
 Zp (λv=>VJ axis0 x0 x1 x2 v.1) (Wq ((↑axis0.length:Int)-(1:Int)),())
def c66:Ctr:=⟨[.dat (.sl Iq),.dat Iq],[.dat Iq,.dat Iq,.dat Iq],λa K=>splitK a λaxis0 a=>splitK a λx0 a=>YB (ZaE axis0 x0) λr=>K (r.1,r.2.1,r.2.2,()) ()⟩
def Yz (a0:Int) (b0:Int) (mode0:Int):Option Int :=
 Zw (b0≠(0:Int)) <|
 if Int.tmod a0 b0<0 then
 if mode0=0 then
 some (Wq (Wq (Int.tdiv a0 b0)-1))
 else
 if 0<Int.tmod a0 b0 then
 if mode0=1 then
 some (Wq (Wq (Int.tdiv a0 b0)+1))
 else
 some (Wq (Int.tdiv a0 b0))
 else
 some (Wq (Int.tdiv a0 b0))
 else
 if 0<Int.tmod a0 b0 then
 if mode0=1 then
 some (Wq (Wq (Int.tdiv a0 b0)+1))
 else
 some (Wq (Int.tdiv a0 b0))
 else
 some (Wq (Int.tdiv a0 b0))
def c67:Ctr:=D3 Iq Iq Iq Iq Yz
def Xv (a0:Zx) (l02Weights0:Int×Int×Int) (l02Weights1:Int×Int×Int) (v1:Int) (v2:Int) (v3:Int):Option ((Int×Int×Unit) ⊕ ((Int×Int×Unit) ⊕ Int)) :=
 if v3<2 then
 if v1=1 then
 if v3=0 then
 if 0<Wq (l02Weights0.snd.snd*l02Weights1.snd.fst) then
 (atI (Zx.Values a0) (Wq (Wq (Wq (Wq (l02Weights0.fst+v1)*(↑(List.length (Zx.Loads a0)):Int))+l02Weights1.fst)+v3))).bind λx0 =>
 some (.inl (Wq (v2+Wq (Wq (l02Weights0.snd.snd*l02Weights1.snd.fst)*x0)),Wq (v3+1),()))
 else
 some (.inl (v2,Wq (v3+1),()))
 else
 if 0<Wq (l02Weights0.snd.snd*l02Weights1.snd.snd) then
 (atI (Zx.Values a0) (Wq (Wq (Wq (Wq (l02Weights0.fst+v1)*(↑(List.length (Zx.Loads a0)):Int))+l02Weights1.fst)+v3))).bind λx0 =>
 some (.inl (Wq (v2+Wq (Wq (l02Weights0.snd.snd*l02Weights1.snd.snd)*x0)),Wq (v3+1),()))
 else
 some (.inl (v2,Wq (v3+1),()))
 else
 if v3=0 then
 if 0<Wq (l02Weights0.snd.fst*l02Weights1.snd.fst) then
 (atI (Zx.Values a0) (Wq (Wq (Wq (Wq (l02Weights0.fst+v1)*(↑(List.length (Zx.Loads a0)):Int))+l02Weights1.fst)+v3))).bind λx0 =>
 some (.inl (Wq (v2+Wq (Wq (l02Weights0.snd.fst*l02Weights1.snd.fst)*x0)),Wq (v3+1),()))
 else
 some (.inl (v2,Wq (v3+1),()))
 else
 if 0<Wq (l02Weights0.snd.fst*l02Weights1.snd.snd) then
 (atI (Zx.Values a0) (Wq (Wq (Wq (Wq (l02Weights0.fst+v1)*(↑(List.length (Zx.Loads a0)):Int))+l02Weights1.fst)+v3))).bind λx0 =>
 some (.inl (Wq (v2+Wq (Wq (l02Weights0.snd.fst*l02Weights1.snd.snd)*x0)),Wq (v3+1),()))
 else
 some (.inl (v2,Wq (v3+1),()))
 else
 some (.inr (.inl (v2,Wq (v1+1),())))
def X9 (a0:Zx) (a3:Int) (l02Weights0:Int×Int×Int) (l02Weights1:Int×Int×Int) (v0:Int) (v1:Int):Option ((Int×Int×Unit) ⊕ Int) :=
 if v1<2 then
 Zp (λv=>Xv a0 l02Weights0 l02Weights1 v1 v.1 v.2.1) (v0,(0:Int),())
 else
 (Yz v0 (Wq (Wq (l02Weights0.snd.fst+l02Weights0.snd.snd)*Wq (l02Weights1.snd.fst+l02Weights1.snd.snd))) a3).bind λy0 =>
 some (.inr y0)
def ZaD (a0:Zx) (a1:Int) (a2:Int) (a3:Int):Option Int :=
 (ZaE (Zx.Zew a0) a1).bind λy0 =>
 (ZaE (Zx.Loads a0) a2).bind λy1 =>
 Zp (λv=>X9 a0 a3 y0 y1 v.1 v.2.1) ((0:Int),(0:Int),())
def c68:Ctr:=D4 (JX) Iq Iq Iq Iq ZaD
def Zes (b0:Zc) (x0:Zm):Option Int :=
 (XD (Zc.Design b0)).bind λy0 =>
 (atI y0 (Wq (Int.tdiv (Zm.To x0) 2))).bind λx1 =>
 some (ZQ.net x1)
def c69:Ctr:=D2 (YC) (Jp) Iq Zes
def Zbe (x0:Zq) (l07Loads0:List Int) (out0:List Int) (i0:Int):Option (((List Int)×Int×Unit) ⊕ List Int) :=
 if i0<(↑l07Loads0.length:Int) then
 (atI (Zq.Parent x0) i0).bind λx1 =>
 (atI out0 x1).bind λx2 =>
 (atI (Zq.Res x0) i0).bind λx3 =>
 (atI l07Loads0 i0).bind λx4 =>
 Zw ((List.length out0+List.length [Wq (x2+Wq (x3*x4))])*(8:Nat)<=(140737488355328:Nat)) <|
 some (.inl (out0++[Wq (x2+Wq (x3*x4))],Wq (i0+(1:Int)),()))
 else
 some (.inr out0)
def Zbo (b0:Zc) (net0:Int):Option (List Int) :=
 (atI (Zc.Yw b0) net0).bind λx0 =>
 (ZaX b0 net0).bind λy0 =>
 Zp (λv=>Zbe x0 y0 v.1 v.2.1) ([(0:Int)],(1:Int),())
def c70:Ctr:=⟨[.dat (YC),.dat Iq],[.own (.ol 2 (.flat Iq))],λa K=>splitK a λb0 a=>splitK a λnet0 a=>YB (Zbo b0 net0) λr=>K (r,()) ()⟩
def Ji (b0:Zc) (net0:Int) (mode0:Int) (l07Delays0:List Int) (out0:List Int) (i0:Int):Option (((List Int)×Int×Unit) ⊕ List Int) :=
 (atI (Zc.Yw b0) net0).bind λx0 =>
 if i0<(↑(List.length (Zq.Zc0 x0)):Int) then
 (atI (Zq.Zc0 x0) i0).bind λx1 =>
 (atI l07Delays0 x1).bind λx2 =>
 (Yz x2 1000 mode0).bind λy0 =>
 Zw ((List.length out0+List.length [y0])*(8:Nat)<=(140737488355328:Nat)) <|
 some (.inl (out0++[y0],Wq (i0+(1:Int)),()))
 else
 some (.inr out0)
def Zaj (b0:Zc) (net0:Int) (mode0:Int):Option (List Int) :=
 (Zbo b0 net0).bind λy0 =>
 Zp (λv=>Ji b0 net0 mode0 y0 v.1 v.2.1) (([]:List Int),(0:Int),())
def c71:Ctr:=⟨[.dat (YC),.dat Iq,.dat Iq],[.own (.ol 2 (.flat Iq))],λa K=>splitK a λb0 a=>splitK a λnet0 a=>splitK a λmode0 a=>YB (Zaj b0 net0 mode0) λr=>K (r,()) ()⟩
def Zbp (c0:Zt) (kind0:Int) (mode0:Int):Option Int :=
 if kind0=1 then
 if mode0=0 then
 some (Zt.Zal c0)
 else
 some (Zt.Zbs c0)
 else
 if mode0=0 then
 some (Zt.Zam c0)
 else
 some (Zt.Zb8 c0)
def c72:Ctr:=D3 (Xf) Iq Iq Iq Zbp
def JL (b0:Zc) (c0:Zt) (x0:Zm) (slew0:Int) (mode0:Int):Option Int :=
 if Zm.Kind x0=1 then
 (Zer b0 x0).bind λy0 =>
 (atI y0.fst.snd.snd.snd.snd.fst (Int.tmod (Zm.To x0) 2)).bind λx1 =>
 (ZaD x1 slew0 y0.snd mode0).bind λy1 =>
 (Zbp c0 (Zm.Kind x0) mode0).bind λy2 =>
 (Yz (Wq (y1*y2)) 1000 mode0).bind λy3 =>
 some y3
 else
 (Zes b0 x0).bind λy4 =>
 (Zaj b0 y4 mode0).bind λy5 =>
 (atI y5 (Zm.Index x0)).bind λx1 =>
 (Zbp c0 (Zm.Kind x0) mode0).bind λy2 =>
 (Yz (Wq (x1*y2)) 1000 mode0).bind λy3 =>
 some y3
def c73:Ctr:=⟨[.dat (YC),.dat (Xf),.dat (Jp),.dat Iq,.dat Iq],[.dat Iq],λa K=>splitK a λb0 a=>splitK a λc0 a=>splitK a λx0 a=>splitK a λslew0 a=>splitK a λmode0 a=>YB (JL b0 c0 x0 slew0 mode0) λr=>K (r,()) ()⟩
def VL (n0:Int) (mode0:Int) (low0:Int) (high0:Int):Option ((Int×Int×Unit) ⊕ Int) :=
 if low0<high0 then
 if Wq (Wq (Int.tdiv (Wq (Wq (low0+high0)+1)) 2)*Wq (Int.tdiv (Wq (Wq (low0+high0)+1)) 2))<=n0 then
 some (.inl (Wq (Int.tdiv (Wq (Wq (low0+high0)+1)) 2),high0,()))
 else
 some (.inl (low0,Wq (Wq (Int.tdiv (Wq (Wq (low0+high0)+1)) 2)-1),()))
 else
 if mode0=1 then
 if Wq (low0*low0)<n0 then
 some (.inr (Wq (low0+1)))
 else
 some (.inr low0)
 else
 some (.inr low0)
def ZdE (n0:Int) (mode0:Int):Option Int :=
 Zp (λv=>VL n0 mode0 v.1 v.2.1) ((0:Int),(2000000000:Int),())
def c74:Ctr:=D2 Iq Iq Iq ZdE
def Zgx (b0:Zc) (net0:Int) (sink0:Int) (slew0:Int) (mode0:Int):Option Int :=
 (atI (Zc.Yw b0) net0).bind λx0 =>
 (atI (Zq.Zc0 x0) sink0).bind λx1 =>
 (Zbo b0 net0).bind λy0 =>
 (atI y0 x1).bind λx2 =>
 (ZdE (Wq (Wq (Wq (1000000*slew0)*slew0)+Wq (Wq (4*x2)*x2))) mode0).bind λy1 =>
 (Yz y1 1000 mode0).bind λy2 =>
 some y2
def c75:Ctr:=⟨[.dat (YC),.dat Iq,.dat Iq,.dat Iq,.dat Iq],[.dat Iq],λa K=>splitK a λb0 a=>splitK a λnet0 a=>splitK a λsink0 a=>splitK a λslew0 a=>splitK a λmode0 a=>YB (Zgx b0 net0 sink0 slew0 mode0) λr=>K (r,()) ()⟩
def ZaH (b0:Zc) (x0:Zm) (slew0:Int) (mode0:Int):Option Int :=
 if Zm.Kind x0=1 then
 (Zer b0 x0).bind λy0 =>
 (atI y0.fst.snd.snd.snd.snd.snd.fst (Int.tmod (Zm.To x0) 2)).bind λx1 =>
 (ZaD x1 slew0 y0.snd mode0).bind λy1 =>
 some y1
 else
 (Zes b0 x0).bind λy2 =>
 (Zgx b0 y2 (Zm.Index x0) slew0 mode0).bind λy3 =>
 some (Min.min 1000000 y3)
def c76:Ctr:=D4 (YC) (Jp) Iq Iq Iq ZaH
def ZcU (a0:Zc) (a1:Zt) (a2:Zm) (a3:Zv):Option (Zv×Zv) :=
 (JL a0 a1 a2 (Zv.Early a3) 0).bind λy0 =>
 (JL a0 a1 a2 (Zv.Early a3) 1).bind λy1 =>
 (ZaH a0 a2 (Zv.Early a3) 0).bind λy2 =>
 (ZaH a0 a2 (Zv.Early a3) 1).bind λy3 =>
 (JL a0 a1 a2 (Zv.Late a3) 0).bind λy4 =>
 (JL a0 a1 a2 (Zv.Late a3) 1).bind λy5 =>
 (ZaH a0 a2 (Zv.Late a3) 0).bind λy6 =>
 (ZaH a0 a2 (Zv.Late a3) 1).bind λy7 =>
 some ((Min.min y0 y4,Max.max y1 y5,()),(Min.min y2 y6,Max.max y3 y7,()))
def c77:Ctr:=⟨[.dat (YC),.dat (Xf),.dat (Jp),.dat (Jl)],[.dat (Jl),.dat (Jl)],λa K=>splitK a λa0 a=>splitK a λa1 a=>splitK a λa2 a=>splitK a λa3 a=>YB (ZcU a0 a1 a2 a3) λr=>K (r.1,r.2,()) ()⟩
def Zgy (a0:Zv) (b0:Zv):Option Zv :=
 some (Min.min (Zv.Early a0) (Zv.Early b0),Max.max (Zv.Late a0) (Zv.Late b0),())
def c78:Ctr:=D2 (Jl) (Jl) (Jl) Zgy
def Xw (a0:Zc) (a1:Zt) (a2:List Zm) (a3:List Bool) (a5:Ze) (a6:Int) (v2:Bool) (v3:Int) (c5:Int) (c6:Int) (c7:Int) (c8:Int) (c9:Int):Option ((Bool×Int×Int×Int×Int×Int×Int×Unit) ⊕ ((Bool×Int×Int×Int×Int×Int×Int×Unit) ⊕ (Bool×Zh))) :=
 if v3<(↑a2.length:Int) then
 (atI a2 v3).bind λx0 =>
 (atI a3 v3).bind λx1 =>
 if x1 then
 if Zm.To x0=a6 then
 (atI (Ze.Reached a5) (Zm.From x0)).bind λx2 =>
 if x2 then
 (atI (Ze.Xx a5) (Zm.From x0)).bind λx3 =>
 (ZcU a0 a1 x0 x3).bind λy0 =>
 (atI (Ze.ZA a5) (Zm.From x0)).bind λx4 =>
 if v2 then
 (Zgy (Wq (Zv.Early x4+y0.fst.fst),Wq (Zv.Late x4+y0.fst.snd.fst),()) (c6,c7,())).bind λy1 =>
 (Zgy y0.snd (c8,c9,())).bind λy2 =>
 some (.inl (true,Wq (v3+1),a6,Zv.Early y1,Zv.Late y1,Zv.Early y2,Zv.Late y2,()))
 else
 some (.inl (true,Wq (v3+1),a6,Wq (Zv.Early x4+y0.fst.fst),Wq (Zv.Late x4+y0.fst.snd.fst),y0.snd.fst,y0.snd.snd.fst,()))
 else
 some (.inl (v2,Wq (v3+1),c5,c6,c7,c8,c9,()))
 else
 some (.inl (v2,Wq (v3+1),c5,c6,c7,c8,c9,()))
 else
 some (.inl (v2,Wq (v3+1),c5,c6,c7,c8,c9,()))
 else
 some (.inr (.inr (v2,(c5,(c6,c7,()),(c8,c9,()),()))))
def VQ (a0:Zc) (a1:Zt) (a2:List Zm) (a3:List Bool) (a4:List Zh) (a5:Ze) (a6:Int) (v0:Bool) (v1:Int) (c0:Int) (c1:Int) (c2:Int) (c3:Int) (c4:Int):Option ((Bool×Int×Int×Int×Int×Int×Int×Unit) ⊕ (Bool×Zh)) :=
 if v1<(↑a4.length:Int) then
 (atI a4 v1).bind λx0 =>
 if Zh.Node x0=a6 then
 some (.inl (true,Wq (v1+1),Zh.Node x0,Zv.Early (Zh.ZA x0),Zv.Late (Zh.ZA x0),Zv.Early (Zh.Xx x0),Zv.Late (Zh.Xx x0),()))
 else
 some (.inl (v0,Wq (v1+1),c0,c1,c2,c3,c4,()))
 else
 Zp (λv=>Xw a0 a1 a2 a3 a5 a6 v.1 v.2.1 v.2.2.1 v.2.2.2.1 v.2.2.2.2.1 v.2.2.2.2.2.1 v.2.2.2.2.2.2.1) (v0,(0:Int),c0,c1,c2,c3,c4,())
def VP (a0:Zc) (a1:Zt) (a2:List Zm) (a3:List Bool) (a4:List Zh) (a5:Ze) (a6:Int):Option (Bool×Zh) :=
 Zp (λv=>VQ a0 a1 a2 a3 a4 a5 a6 v.1 v.2.1 v.2.2.1 v.2.2.2.1 v.2.2.2.2.1 v.2.2.2.2.2.1 v.2.2.2.2.2.2.1) (false,(0:Int),(0:Int),(0:Int),(0:Int),(0:Int),(0:Int),())
def c79:Ctr:=⟨[.dat (YC),.dat (Xf),.dat (.sl (Jp)),.dat (.sl (.bool)),.dat (.sl (XY)),.dat (Zb1),.dat Iq],[.dat (.bool),.dat (XY)],λa K=>splitK a λa0 a=>splitK a λa1 a=>splitK a λa2 a=>splitK a λa3 a=>splitK a λa4 a=>splitK a λa5 a=>splitK a λa6 a=>YB (VP a0 a1 a2 a3 a4 a5 a6) λr=>K (r.1,r.2,()) ()⟩
def YX (a0:Zc) (a1:Zt) (a2:List Zm) (a3:List Bool) (a4:List Zh) (a5:List Int) (v0:Int) (c0:List Bool) (c1:List Zv) (c2:List Zv) (l0:List Bool) (l1:List Zv) (l2:List Zv):Option ((Int×(List Bool)×(List Zv)×(List Zv)×(List Bool)×(List Zv)×(List Zv)×Unit) ⊕ (Ze×Bool)) :=
 if v0<(↑a5.length:Int) then
 (atI a5 v0).bind λx0 =>
 (VP a0 a1 a2 a3 a4 (l0,l1,l2,()) x0).bind λy0 =>
 if y0.fst then
 (JH y0.snd.snd.fst).bind λy1 =>
 if y1 then
 (atI l0 x0).bind λx1 =>
 (atI l1 x0).bind λx2 =>
 (atI l2 x0).bind λx3 =>
 some (.inl (Wq (v0+1),c0,c1,c2,List.set l0 (Int.toNat x0) true,List.set l1 (Int.toNat x0) y0.snd.snd.fst,List.set l2 (Int.toNat x0) y0.snd.snd.snd.fst,()))
 else
 some (.inr ((([]:List Bool),([]:List Zv),([]:List Zv),()),false))
 else
 some (.inl (Wq (v0+1),c0,c1,c2,l0,l1,l2,()))
 else
 some (.inr ((l0,l1,l2,()),true))
def Zet (a0:Zc) (a1:Zt) (a2:List Zm) (a3:List Bool) (a4:List Zh) (a5:List Int):Option (Ze×Bool) :=
 (Y6 a0).bind λy0 =>
 (ZfO y0).bind λy1 =>
 Zp (λv=>YX a0 a1 a2 a3 a4 a5 v.1 v.2.1 v.2.2.1 v.2.2.2.1 v.2.2.2.2.1 v.2.2.2.2.2.1 v.2.2.2.2.2.2.1) ((0:Int),([]:List Bool),([]:List Zv),([]:List Zv),Ze.Reached y1,Ze.ZA y1,Ze.Xx y1,())
def c80:Ctr:=⟨[.dat (YC),.dat (Xf),.dat (.sl (Jp)),.dat (.sl (.bool)),.dat (.sl (XY)),.dat (.sl Iq)],[.own (Zgi),.dat (.bool)],λa K=>splitK a λa0 a=>splitK a λa1 a=>splitK a λa2 a=>splitK a λa3 a=>splitK a λa4 a=>splitK a λa5 a=>YB (Zet a0 a1 a2 a3 a4 a5) λr=>K (r.1,r.2,()) ()⟩
def V6 (b0:Zc) (c0:Zt) (broken0:List Int) (sources0:List Zh):Option (Ze×Int) :=
 (ZaI b0 c0 broken0 sources0).bind λy0 =>
 if y0.snd=0 then
 (QN b0).bind λy1 =>
 (ZaG y1 broken0).bind λy2 =>
 (Zet b0 c0 y1 y2 sources0 y0.fst).bind λy3 =>
 if y3.snd then
 some (y3.fst,0)
 else
 some ((([]:List Bool),([]:List Zv),([]:List Zv),()),(3:Int))
 else
 some ((([]:List Bool),([]:List Zv),([]:List Zv),()),y0.snd)
def c81:Ctr:=⟨[.dat (YC),.dat (Xf),.dat (.sl Iq),.dat (.sl (XY))],[.own (Zgi),.dat Iq],λa K=>splitK a λb0 a=>splitK a λc0 a=>splitK a λbroken0 a=>splitK a λsources0 a=>YB (V6 b0 c0 broken0 sources0) λr=>K (r.1,r.2,()) ()⟩
def Zak (a0:Zf) (a1:Zc) (a2:Zt) (a3:List Int) (a4:List Zh):Option (Ze×Zf) :=
 (V6 a1 a2 a3 a4).bind λy0 =>
 if (↑(List.length y0.fst.fst):Int)=0 then
 some (y0.fst,a0)
 else
 (Zj a0 8).bind λy1 =>
 if 0<y1.fst then
 some (y0.fst,y1.snd)
 else
 (Zj y1.snd (↑(List.length y0.fst.fst):Int)).bind λy2 =>
 (Zj y2.snd 4).bind λy3 =>
 if y3.fst=0 then
 (atI y0.fst.fst y2.fst).bind λx0 =>
 some ((List.set y0.fst.fst (Int.toNat y2.fst) !x0,y0.fst.snd),y3.snd)
 else
 if y3.fst=1 then
 (atI y0.fst.snd.fst y2.fst).bind λx0 =>
 some ((y0.fst.fst,List.set y0.fst.snd.fst (Int.toNat y2.fst) (Zv.Early x0,Wq (Zv.Late x0+1),()),y0.fst.snd.snd),y3.snd)
 else
 if y3.fst=2 then
 (atI y0.fst.snd.snd.fst y2.fst).bind λx0 =>
 some ((y0.fst.fst,y0.fst.snd.fst,List.set y0.fst.snd.snd.fst (Int.toNat y2.fst) (Wq (Zv.Early x0-1),x0.snd),()),y3.snd)
 else
 Zw ((0:Int)<=y2.fst) <|
 Zw (y2.fst<=(↑(List.length y0.fst.snd.snd.fst):Int)) <|
 some ((y0.fst.fst,y0.fst.snd.fst,List.take (Int.toNat y2.fst-Int.toNat 0) (List.drop (Int.toNat 0) y0.fst.snd.snd.fst),()),y3.snd)
def c82:Ctr:=⟨[.io (.flat (YZ)),.dat (YC),.dat (Xf),.dat (.sl Iq),.dat (.sl (XY))],[.dat (Zb1)],λa K=>splitK a λa0 a=>splitK a λa1 a=>splitK a λa2 a=>splitK a λa3 a=>splitK a λa4 a=>YB (Zak a0 a1 a2 a3 a4) λr=>K (r.1,()) (r.2,())⟩
def JM (b0:Zc) (out0:List Int) (node0:Int) (c0:List Int) (c1:Int) (c2:Int):Option (((List Int)×Int×(List Int)×Int×Int×Unit) ⊕ ((List Int)×Zf)) :=
 (Y6 b0).bind λy0 =>
 if node0<y0 then
 (Zj (c0,c1,c2,()) 8).bind λy1 =>
 if y1.fst=0 then
 Zw ((List.length out0+List.length [node0])*(8:Nat)<=(140737488355328:Nat)) <|
 some (.inl (out0++[node0],Wq (node0+(1:Int)),y1.snd.fst,y1.snd.snd.fst,y1.snd.snd.snd.fst,()))
 else
 some (.inl (out0,Wq (node0+1),y1.snd.fst,y1.snd.snd.fst,y1.snd.snd.snd.fst,()))
 else
 (Zj (c0,c1,c2,()) 16).bind λy1 =>
 if y1.fst=0 then
 (Zj y1.snd (Wq (y0+2))).bind λy2 =>
 Zw ((List.length out0+List.length [Wq (y2.fst-(1:Int))])*(8:Nat)<=(140737488355328:Nat)) <|
 some (.inr (out0++[Wq (y2.fst-(1:Int))],y2.snd))
 else
 some (.inr (out0,y1.snd))
def Za1 (s0:Zf) (b0:Zc):Option ((List Int)×Zf) :=
 Zp (λv=>JM b0 v.1 v.2.1 v.2.2.1 v.2.2.2.1 v.2.2.2.2.1) (([]:List Int),(0:Int),Zf.code s0,Zf.at s0,Zf.seed s0,())
def c83:Ctr:=⟨[.io (.flat (YZ)),.dat (YC)],[.own (.ol 2 (.flat Iq))],λa K=>splitK a λs0 a=>splitK a λb0 a=>YB (Za1 s0 b0) λr=>K (r.1,()) (r.2,())⟩
def VG (code0:List Int):Option (Zc×Zt×(List Int)×(List Zh)×Ze×(List Int)) :=
 (ZeQ code0).bind λy0 =>
 (Vr y0).bind λy1 =>
 (Zak y1.snd.snd.snd.snd y1.fst y1.snd.fst y1.snd.snd.fst y1.snd.snd.snd.fst).bind λy2 =>
 (Za1 y2.snd y1.fst).bind λy3 =>
 some (y1.fst,y1.snd.fst,y1.snd.snd.fst,y1.snd.snd.snd.fst,y2.fst,y3.fst)
def c84:Ctr:=⟨[.dat (.sl (.int .u8))],[.dat (YC),.dat (Xf),.dat (.sl Iq),.dat (.sl (XY)),.dat (Zb1),.own (.ol 2 (.flat Iq))],λa K=>splitK a λcode0 a=>YB (VG code0) λr=>K (r.1,r.2.1,r.2.2.1,r.2.2.2.1,r.2.2.2.2.1,r.2.2.2.2.2,()) ()⟩
def YF (x0:Int) (low0:Int) (high0:Int):Option Bool :=
 if low0<=x0 then
 some (Decidable.decide (x0<=high0))
 else
 some false
def c85:Ctr:=D3 Iq Iq Iq (.bool) YF
def Zc5 (s0:List UInt8):Option Bool :=
 (YF (↑s0.length:Int) 1 8).bind λy0 =>
 if y0 then
 Zw (List.length s0<=(1000000:Nat)) <|
 if Go.Lib.trimS s0 [(97:UInt8),(98:UInt8),(99:UInt8),(100:UInt8),(101:UInt8),(102:UInt8),(103:UInt8),(104:UInt8),(105:UInt8),(106:UInt8),(107:UInt8),(108:UInt8),(109:UInt8),(110:UInt8),(111:UInt8),(112:UInt8),(113:UInt8),(114:UInt8),(115:UInt8),(116:UInt8),(117:UInt8),(118:UInt8),(119:UInt8),(120:UInt8),(121:UInt8),(122:UInt8),(48:UInt8),(49:UInt8),(50:UInt8),(51:UInt8),(52:UInt8),(53:UInt8),(54:UInt8),(55:UInt8),(56:UInt8),(57:UInt8)]=([]:List UInt8) then
 (atI s0 0).bind λx0 =>
 some (Decidable.decide ((0:Int)<=Go.Lib.indexByte [(97:UInt8),(98:UInt8),(99:UInt8),(100:UInt8),(101:UInt8),(102:UInt8),(103:UInt8),(104:UInt8),(105:UInt8),(106:UInt8),(107:UInt8),(108:UInt8),(109:UInt8),(110:UInt8),(111:UInt8),(112:UInt8),(113:UInt8),(114:UInt8),(115:UInt8),(116:UInt8),(117:UInt8),(118:UInt8),(119:UInt8),(120:UInt8),(121:UInt8),(122:UInt8)] (Nat.toUInt8 (Int.toNat (↑(UInt8.toNat x0):Int)))))
 else
 some false
 else
 some false
def c86:Ctr:=D1 (.str) (.bool) Zc5
def V5 (list0:List Y7):Option Int :=
 some (↑list0.length:Int)
def c87:Ctr:=D1 (.sl (Zm4)) Iq V5
def X8 (s0:List (List UInt8)) (v0:List UInt8) (v1:Int):Option ((Int×Unit) ⊕ Int) :=
 if v1<(↑s0.length:Int) then
 (atI s0 v1).bind λx0 =>
 if v0=x0 then
 some (.inr v1)
 else
 some (.inl (Wq (v1+1),()))
 else
 some (.inr (-1))
def X7 (s0:List (List UInt8)) (v0:List UInt8):Option Int :=
 Zp (λv=>X8 s0 v0 v.1) ((0:Int),())
def c88:Ctr:=D2 (.sl (.str)) (.str) Iq X7
def Xu (s0:List (List UInt8)) (v0:List UInt8):Option Bool :=
 (X7 s0 v0).bind λy0 =>
 some (Decidable.decide (0<=y0))
def c89:Ctr:=D2 (.sl (.str)) (.str) (.bool) Xu
def ZbD (list0:List (List UInt8)) (v0:Int):Option ((Int×Unit) ⊕ Bool) :=
 if v0<(↑list0.length:Int) then
 (atI list0 v0).bind λx0 =>
 (Zc5 x0).bind λy0 =>
 if y0 then
 Zw ((0:Int)<=v0) <|
 Zw (v0<=(↑list0.length:Int)) <|
 (Xu (List.take (Int.toNat v0-Int.toNat 0) (List.drop (Int.toNat 0) list0)) x0).bind λy1 =>
 if y1 then
 some (.inr false)
 else
 some (.inl (Wq (v0+1),()))
 else
 some (.inr false)
 else
 some (.inr true)
def Vx (list0:List (List UInt8)):Option Bool :=
 Zp (λv=>ZbD list0 v.1) ((0:Int),())
def c90:Ctr:=D1 (.sl (.str)) (.bool) Vx
def Vy (list0:List Y7) (names0:List (List UInt8)) (v0:Int):Option (((List (List UInt8))×Int×Unit) ⊕ Bool) :=
 if v0<(↑list0.length:Int) then
 (atI list0 v0).bind λx0 =>
 Zw ((List.length names0+List.length [Y7.Name x0])*(16:Nat)<=(140737488355328:Nat)) <|
 if v0=Wq ((↑list0.length:Int)-1) then
 if Y7.Dir x0=2 then
 if Y7.Cap x0=0 then
 if (Y7.Clock x0)=true then
 some (.inr false)
 else
 some (.inl (names0++[Y7.Name x0],Wq (v0+(1:Int)),()))
 else
 some (.inr false)
 else
 some (.inr false)
 else
 if Y7.Dir x0=1 then
 (YF (Y7.Cap x0) 0 500).bind λy0 =>
 if y0 then
 some (.inl (names0++[Y7.Name x0],Wq (v0+(1:Int)),()))
 else
 some (.inr false)
 else
 some (.inr false)
 else
 (V5 list0).bind λy1 =>
 (YF y1 2 5).bind λy0 =>
 if y0 then
 (Vx names0).bind λy2 =>
 some (.inr y2)
 else
 some (.inr false)
def ZeG (list0:List Y7):Option Bool :=
 Zp (λv=>Vy list0 v.1 v.2.1) (([]:List (List UInt8)),(0:Int),())
def c91:Ctr:=D1 (.sl (Zm4)) (.bool) ZeG
def ZeI (kind0:Int):Option Bool :=
 if kind0=4 then
 some true
 else
 some (Decidable.decide (kind0=5))
def c92:Ctr:=D1 Iq (.bool) ZeI
def XM (list0:List Int):Option Int :=
 some (↑list0.length:Int)
def c93:Ctr:=D1 (.sl Iq) Iq XM
def Zc3 (n0:Int) (a0:Int) (a1:Int):Option Bool :=
 (YF n0 a0 a1).bind λy0 =>
 some !y0
def c94:Ctr:=D3 Iq (.ptr Iq) (.ptr Iq) (.bool) Zc3
def Yg (s0:List Int) (f0:Int×Int×Unit) (v0:Int):Option ((Int×Unit) ⊕ Int) :=
 if v0<(↑s0.length:Int) then
 (atI s0 v0).bind λx0 =>
 (Zc3 x0 f0.fst f0.snd.fst).bind λy0 =>
 if y0 then
 some (.inr v0)
 else
 some (.inl (Wq (v0+1),()))
 else
 some (.inr (-1))
def Z8 (s0:List Int) (f0:Int×Int×Unit):Option Int :=
 Zp (λv=>Yg s0 f0 v.1) ((0:Int),())
def c95:Ctr:=D2 (.sl Iq) (.fn 226 (.pair (.ptr Iq) (.pair (.ptr Iq) (.unit)))) Iq Z8
def Yo (s0:List Int) (f0:Int×Int×Unit):Option Bool :=
 (Z8 s0 f0).bind λy0 =>
 some (Decidable.decide (0<=y0))
def c96:Ctr:=D2 (.sl Iq) (.fn 226 (.pair (.ptr Iq) (.pair (.ptr Iq) (.unit)))) (.bool) Yo
def Xg (list0:List Int) (low0:Int) (high0:Int):Option Bool :=
 (Yo list0 (low0,high0,())).bind λy0 =>
 some !y0
def c97:Ctr:=D3 (.sl Iq) Iq Iq (.bool) Xg
def X4 (list0:List Int) (i0:Int):Option ((Int×Unit) ⊕ Bool) :=
 if i0<(↑list0.length:Int) then
 (atI list0 (Wq (i0-1))).bind λx0 =>
 (atI list0 i0).bind λx1 =>
 if x1<=x0 then
 some (.inr false)
 else
 some (.inl (Wq (i0+1),()))
 else
 some (.inr true)
def QX (list0:List Int):Option Bool :=
 Zp (λv=>X4 list0 v.1) ((1:Int),())
def c98:Ctr:=D1 (.sl Iq) (.bool) QX
def Zem (list0:List Int):Option Bool :=
 (XM list0).bind λy0 =>
 (YF y0 1 4).bind λy1 =>
 if y1 then
 (Xg list0 0 100000).bind λy2 =>
 if y2 then
 (QX list0).bind λy3 =>
 some y3
 else
 some false
 else
 some false
def c99:Ctr:=D1 (.sl Iq) (.bool) Zem
def ZeF (t0:Zx):Option Bool :=
 (Zem (Zx.Zew t0)).bind λy0 =>
 if y0 then
 (Zem (Zx.Loads t0)).bind λy1 =>
 if y1 then
 if (↑(List.length (Zx.Values t0)):Int)=Wq ((↑(List.length (Zx.Zew t0)):Int)*(↑(List.length (Zx.Loads t0)):Int)) then
 (Xg (Zx.Values t0) (-1000000) 1000000).bind λy2 =>
 some y2
 else
 some false
 else
 some false
 else
 some false
def Zyd:Ctr:=D1 (JX) (.bool) ZeF
def QE (x0:List Int) (m0:Int) (i0:Int):Option ((Int×Int×Unit) ⊕ Int) :=
 if i0<(↑x0.length:Int) then
 (atI x0 i0).bind λx2 =>
 some (.inl (Min.min m0 x2,Wq (i0+1),()))
 else
 some (.inr m0)
def QM (x0:List Int):Option Int :=
 if (↑x0.length:Int)<1 then
 none
 else
 (atI x0 0).bind λx1 =>
 Zp (λv=>QE x0 v.1 v.2.1) (x1,(1:Int),())
def Zye:Ctr:=D1 (.sl Iq) Iq QM
def QW (t0:Zx) (a0:Bool):Option Bool :=
 (ZeF t0).bind λy0 =>
 if y0 then
 if a0 then
 (QM (Zx.Values t0)).bind λy1 =>
 some (Decidable.decide (y1<0))
 else
 some false
 else
 some true
def Zyf:Ctr:=D2 (JX) (.ptr (.bool)) (.bool) QW
def ZY (s0:List Zx) (f0:Bool×Unit) (v0:Int):Option ((Int×Unit) ⊕ Int) :=
 if v0<(↑s0.length:Int) then
 (atI s0 v0).bind λx0 =>
 (QW x0 f0.fst).bind λy0 =>
 if y0 then
 some (.inr v0)
 else
 some (.inl (Wq (v0+1),()))
 else
 some (.inr (-1))
def ZL (s0:List Zx) (f0:Bool×Unit):Option Int :=
 Zp (λv=>ZY s0 f0 v.1) ((0:Int),())
def Zyg:Ctr:=D2 (.sl (JX)) (.fn 388 (.pair (.ptr (.bool)) (.unit))) Iq ZL
def ZH (s0:List Zx) (f0:Bool×Unit):Option Bool :=
 (ZL s0 f0).bind λy0 =>
 some (Decidable.decide (0<=y0))
def Zyh:Ctr:=D2 (.sl (JX)) (.fn 388 (.pair (.ptr (.bool)) (.unit))) (.bool) ZH
def J2 (list0:List Zx) (positive0:Bool):Option Bool :=
 if (↑list0.length:Int)=2 then
 (ZH list0 (positive0,())).bind λy0 =>
 some !y0
 else
 some false
def c105:Ctr:=D2 (.sl (JX)) (.bool) (.bool) J2
def Zcg (p0:Y7):Option Bool :=
 some (Y7.Clock p0)
def Zyi:Ctr:=D1 (Zm4) (.bool) Zcg
def Z6 (s0:List Y7) (v0:Int):Option ((Int×Unit) ⊕ Int) :=
 if v0<(↑s0.length:Int) then
 (atI s0 v0).bind λx0 =>
 (Zcg x0).bind λy0 =>
 if y0 then
 some (.inr v0)
 else
 some (.inl (Wq (v0+1),()))
 else
 some (.inr (-1))
def ZR (s0:List Y7) (f0:Unit):Option Int :=
 Zp (λv=>Z6 s0 v.1) ((0:Int),())
def c107:Ctr:=D2 (.sl (Zm4)) (.fn 392 (.unit)) Iq ZR
def Zcf (c0:Zl):Option Int :=
 (ZR (Zl.YD c0) ()).bind λy0 =>
 some y0
def Zyj:Ctr:=D1 (Zeu) Iq Zcf
def JQ (c0:Zl):Option Int :=
 (V5 (Zl.YD c0)).bind λy0 =>
 some (Wq (y0-1))
def c109:Ctr:=D1 (Zeu) Iq JQ
def Ja (c0:Zl) (pin0:Int):Option Bool :=
 (JQ c0).bind λy0 =>
 (YF pin0 0 (Wq (y0-1))).bind λy1 =>
 some y1
def ZwE:Ctr:=D2 (Zeu) Iq (.bool) Ja
def Zch (a0:Zl) (a1:ZB):Option Bool :=
 (ZeI (ZB.Kind a1)).bind λy0 =>
 if y0 then
 if ZB.V8 a1=0 then
 if (↑(List.length (ZB.Xx a1)):Int)=0 then
 (J2 (ZB.Delay a1) false).bind λy1 =>
 if y1 then
 (Zcf a0).bind λy2 =>
 if ZB.From a1=y2 then
 if 0<=ZB.From a1 then
 (Ja a0 (ZB.To a1)).bind λy3 =>
 if y3 then
 some (!Decidable.decide (ZB.To a1=ZB.From a1))
 else
 some false
 else
 some false
 else
 some false
 else
 some false
 else
 some false
 else
 some false
 else
 (J2 (ZB.Delay a1) true).bind λy1 =>
 if y1 then
 (J2 (ZB.Xx a1) true).bind λy4 =>
 if y4 then
 (JQ a0).bind λy5 =>
 if ZB.To a1=y5 then
 (Ja a0 (ZB.From a1)).bind λy3 =>
 if y3 then
 if ZB.Kind a1=1 then
 (atI (Zl.YD a0) (ZB.From a1)).bind λx0 =>
 if (Y7.Clock x0)=true then
 some false
 else
 (YF (ZB.V8 a1) 1 3).bind λy6 =>
 some y6
 else
 if ZB.Kind a1=2 then
 if ZB.Kind a1=2 then
 (atI (Zl.YD a0) (ZB.From a1)).bind λx0 =>
 if (Y7.Clock x0)=true then
 some (Decidable.decide (ZB.V8 a1=0))
 else
 some false
 else
 some false
 else
 if ZB.Kind a1=3 then
 (atI (Zl.YD a0) (ZB.From a1)).bind λx0 =>
 if (Y7.Clock x0)=true then
 some (Decidable.decide (ZB.V8 a1=0))
 else
 some false
 else
 some false
 else
 some false
 else
 some false
 else
 some false
 else
 some false
def Zyk:Ctr:=D2 (Zeu) (Zk3) (.bool) Zch
def Qa (o0:ZB) (a0:ZB):Option Bool :=
 if ZB.Kind o0=ZB.Kind a0 then
 if ZB.From o0=ZB.From a0 then
 some (Decidable.decide (ZB.To o0=ZB.To a0))
 else
 some false
 else
 some false
def Zyl:Ctr:=D2 (Zk3) (.ptr (Zk3)) (.bool) Qa
def Z0 (s0:List ZB) (f0:ZB×Unit) (v0:Int):Option ((Int×Unit) ⊕ Int) :=
 if v0<(↑s0.length:Int) then
 (atI s0 v0).bind λx0 =>
 (Qa x0 f0.fst).bind λy0 =>
 if y0 then
 some (.inr v0)
 else
 some (.inl (Wq (v0+1),()))
 else
 some (.inr (-1))
def ZM (s0:List ZB) (f0:ZB×Unit):Option Int :=
 Zp (λv=>Z0 s0 f0 v.1) ((0:Int),())
def Zym:Ctr:=D2 (.sl (Zk3)) (.fn 356 (.pair (.ptr (Zk3)) (.unit))) Iq ZM
def ZI (s0:List ZB) (f0:ZB×Unit):Option Bool :=
 (ZM s0 f0).bind λy0 =>
 some (Decidable.decide (0<=y0))
def Zyn:Ctr:=D2 (.sl (Zk3)) (.fn 356 (.pair (.ptr (Zk3)) (.unit))) (.bool) ZI
def Jy (c0:Zl) (v0:Int):Option ((Int×Unit) ⊕ Bool) :=
 if v0<(↑(List.length (Zl.Jr c0)):Int) then
 (atI (Zl.Jr c0) v0).bind λx0 =>
 (Zch c0 x0).bind λy0 =>
 if y0 then
 Zw ((0:Int)<=v0) <|
 Zw (v0<=(↑(List.length (Zl.Jr c0)):Int)) <|
 (ZI (List.take (Int.toNat v0-Int.toNat 0) (List.drop (Int.toNat 0) (Zl.Jr c0))) (x0,())).bind λy1 =>
 if y1 then
 some (.inr false)
 else
 some (.inl (Wq (v0+1),()))
 else
 some (.inr false)
 else
 some (.inr (Decidable.decide ((↑(List.length (Zl.Jr c0)):Int)<=8)))
def ZaQ (c0:Zl):Option Bool :=
 Zp (λv=>Jy c0 v.1) ((0:Int),())
def Zyo:Ctr:=D1 (Zeu) (.bool) ZaQ
def Zbu (a0:ZB) (a1:Int):Option Bool :=
 some (Decidable.decide (ZB.Kind a0=a1))
def c116:Ctr:=D2 (Zk3) (.ptr Iq) (.bool) Zbu
def Z9 (s0:List ZB) (f0:Int×Unit) (v0:Int):Option ((Int×Unit) ⊕ Int) :=
 if v0<(↑s0.length:Int) then
 (atI s0 v0).bind λx0 =>
 (Zbu x0 f0.fst).bind λy0 =>
 if y0 then
 some (.inr v0)
 else
 some (.inl (Wq (v0+1),()))
 else
 some (.inr (-1))
def ZV (s0:List ZB) (f0:Int×Unit):Option Int :=
 Zp (λv=>Z9 s0 f0 v.1) ((0:Int),())
def c117:Ctr:=D2 (.sl (Zk3)) (.fn 379 (.pair (.ptr Iq) (.unit))) Iq ZV
def ZN (s0:List ZB) (f0:Int×Unit):Option Bool :=
 (ZV s0 f0).bind λy0 =>
 some (Decidable.decide (0<=y0))
def Zyp:Ctr:=D2 (.sl (Zk3)) (.fn 379 (.pair (.ptr Iq) (.unit))) (.bool) ZN
def QL (c0:Zl) (kind0:Int):Option Bool :=
 (ZN (Zl.Jr c0) (kind0,())).bind λy0 =>
 some y0
def c119:Ctr:=D2 (Zeu) Iq (.bool) QL
def XK (a0:Zl) (v0:Int) (v1:Int):Option ((Int×Int×Unit) ⊕ Bool) :=
 if v1<(↑(List.length (Zl.YD a0)):Int) then
 (atI (Zl.YD a0) v1).bind λx0 =>
 if (Y7.Clock x0)=true then
 some (.inl (Wq (v0+1),Wq (v1+1),()))
 else
 some (.inl (v0,Wq (v1+1),()))
 else
 if Zl.Kind a0=1 then
 if v0=0 then
 (JQ a0).bind λy0 =>
 Zw ((0:Int)<=y0) <|
 if (↑(List.length (Zl.Truth a0)):Int)=Wq (1*2 ^ Min.min (Int.toNat y0) (IntKind.bits IntKind.i64)) then
 (Xg (Zl.Truth a0) 0 1).bind λy1 =>
 some (.inr y1)
 else
 some (.inr false)
 else
 some (.inr false)
 else
 if Zl.Kind a0=2 then
 if v0=1 then
 if (↑(List.length (Zl.Truth a0)):Int)=0 then
 (QL a0 1).bind λy2 =>
 if y2 then
 some (.inr false)
 else
 (QL a0 2).bind λy3 =>
 (QL a0 3).bind λy4 =>
 some (.inr (!y3 == y4))
 else
 some (.inr false)
 else
 some (.inr false)
 else
 if Zl.Kind a0=3 then
 if v0=1 then
 if (↑(List.length (Zl.Truth a0)):Int)=0 then
 (QL a0 1).bind λy2 =>
 if y2 then
 (QL a0 2).bind λy3 =>
 if y3 then
 (QL a0 3).bind λy4 =>
 some (.inr !y4)
 else
 some (.inr false)
 else
 some (.inr false)
 else
 some (.inr false)
 else
 some (.inr false)
 else
 some (.inr false)
def Zad (a0:Zl):Option Bool :=
 Zp (λv=>XK a0 v.1 v.2.1) ((0:Int),(0:Int),())
def Zyq:Ctr:=D1 (Zeu) (.bool) Zad
def Zfu (c0:Zl):Option Bool :=
 (Zc5 (Zl.Name c0)).bind λy0 =>
 if y0 then
 (ZeG (Zl.YD c0)).bind λy1 =>
 if y1 then
 (ZaQ c0).bind λy2 =>
 if y2 then
 (YF (Zl.ZuM c0) 0 100000).bind λy3 =>
 if y3 then
 (YF (Zl.ZiU c0) 0 100000).bind λy4 =>
 if y4 then
 (Zad c0).bind λy5 =>
 some y5
 else
 some false
 else
 some false
 else
 some false
 else
 some false
 else
 some false
def Zyr:Ctr:=D1 (Zeu) (.bool) Zfu
def QF (l0:Zy) (names0:List (List UInt8)) (v0:Int):Option (((List (List UInt8))×Int×Unit) ⊕ Bool) :=
 if v0<(↑(List.length (Zy.Cells l0)):Int) then
 (atI (Zy.Cells l0) v0).bind λx0 =>
 (Zfu x0).bind λy0 =>
 if y0 then
 Zw ((List.length names0+List.length [Zl.Name x0])*(16:Nat)<=(140737488355328:Nat)) <|
 some (.inl (names0++[Zl.Name x0],Wq (v0+(1:Int)),()))
 else
 some (.inr false)
 else
 if (↑(List.length (Zy.Cells l0)):Int)<=8 then
 (Vx names0).bind λy1 =>
 some (.inr y1)
 else
 some (.inr false)
def Zdl (l0:Zy):Option Bool :=
 Zp (λv=>QF l0 v.1 v.2.1) (([]:List (List UInt8)),(0:Int),())
def Zys:Ctr:=D1 (Qp) (.bool) Zdl
def Vl (d0:Zd) (instances0:List (List UInt8)) (ports0:List (List UInt8)) (v1:Int):Option (((List (List UInt8))×Int×Unit) ⊕ (((List (List UInt8))×Int×Unit) ⊕ Bool)) :=
 if v1<(↑(List.length (Zd.YR d0)):Int) then
 (atI (Zd.YR d0) v1).bind λx0 =>
 Zw ((List.length ports0+List.length [Yr.Name x0])*(16:Nat)<=(140737488355328:Nat)) <|
 some (.inl (ports0++[Yr.Name x0],Wq (v1+(1:Int)),()))
 else
 if (↑instances0.length:Int)<=14 then
 if (↑(List.length (Zd.YQ d0)):Int)<=30 then
 if (↑ports0.length:Int)<=8 then
 (Vx instances0).bind λy0 =>
 if y0 then
 (Vx (Zd.YQ d0)).bind λy1 =>
 if y1 then
 (Vx ports0).bind λy2 =>
 some (.inr (.inr y2))
 else
 some (.inr (.inr false))
 else
 some (.inr (.inr false))
 else
 some (.inr (.inr false))
 else
 some (.inr (.inr false))
 else
 some (.inr (.inr false))
def Vm (d0:Zd) (instances0:List (List UInt8)) (v0:Int):Option (((List (List UInt8))×Int×Unit) ⊕ Bool) :=
 if v0<(↑(List.length (Zd.Instances d0)):Int) then
 (atI (Zd.Instances d0) v0).bind λx0 =>
 Zw ((List.length instances0+List.length [Zi.Name x0])*(16:Nat)<=(140737488355328:Nat)) <|
 some (.inl (instances0++[Zi.Name x0],Wq (v0+(1:Int)),()))
 else
 Zp (λv=>Vl d0 instances0 v.1 v.2.1) (([]:List (List UInt8)),(0:Int),())
def V4 (d0:Zd):Option Bool :=
 Zp (λv=>Vm d0 v.1 v.2.1) (([]:List (List UInt8)),(0:Int),())
def Zyt:Ctr:=D1 (Xq) (.bool) V4
def Zas (list0:List Zl):Option Int :=
 some (↑list0.length:Int)
def c124:Ctr:=D1 (.sl (Zeu)) Iq Zas
def Zcn (list0:List (List UInt8)):Option Int :=
 some (↑list0.length:Int)
def Zyu:Ctr:=D1 (.sl (.str)) Iq Zcn
def Qj (d0:Zd) (net0:Int):Option Bool :=
 (Zcn (Zd.YQ d0)).bind λy0 =>
 (YF net0 0 (Wq (y0-1))).bind λy1 =>
 some y1
def Zyv:Ctr:=D2 (Xq) Iq (.bool) Qj
def XB (net0:Int) (a0:Zd):Option Bool :=
 (Qj a0 net0).bind λy0 =>
 some !y0
def c127:Ctr:=D2 Iq (.ptr (Xq)) (.bool) XB
def Z5 (s0:List Int) (f0:Zd×Unit) (v0:Int):Option ((Int×Unit) ⊕ Int) :=
 if v0<(↑s0.length:Int) then
 (atI s0 v0).bind λx0 =>
 (XB x0 f0.fst).bind λy0 =>
 if y0 then
 some (.inr v0)
 else
 some (.inl (Wq (v0+1),()))
 else
 some (.inr (-1))
def ZO (s0:List Int) (f0:Zd×Unit):Option Int :=
 Zp (λv=>Z5 s0 f0 v.1) ((0:Int),())
def Zyw:Ctr:=D2 (.sl Iq) (.fn 277 (.pair (.ptr (Xq)) (.unit))) Iq ZO
def ZJ (s0:List Int) (f0:Zd×Unit):Option Bool :=
 (ZO s0 f0).bind λy0 =>
 some (Decidable.decide (0<=y0))
def Zyx:Ctr:=D2 (.sl Iq) (.fn 277 (.pair (.ptr (Xq)) (.unit))) (.bool) ZJ
def Vf (d0:Zd) (l0:Zy) (x0:Zi):Option Bool :=
 (Zas (Zy.Cells l0)).bind λy0 =>
 (YF (Zi.Cell x0) 0 (Wq (y0-1))).bind λy1 =>
 if y1 then
 (atI (Zy.Cells l0) (Zi.Cell x0)).bind λx1 =>
 if (↑(List.length (Zi.YQ x0)):Int)=(↑(List.length (Zl.YD x1)):Int) then
 (ZJ (Zi.YQ x0) (d0,())).bind λy2 =>
 some !y2
 else
 some false
 else
 some false
def c130:Ctr:=D3 (Xq) (Qp) (ZcV) (.bool) Vf
def Zbv (n0:Int):Option Bool :=
 some (!Decidable.decide (n0=1))
def c131:Ctr:=D1 Iq (.bool) Zbv
def Yt (s0:List Int) (v0:Int):Option ((Int×Unit) ⊕ Int) :=
 if v0<(↑s0.length:Int) then
 (atI s0 v0).bind λx0 =>
 (Zbv x0).bind λy0 =>
 if y0 then
 some (.inr v0)
 else
 some (.inl (Wq (v0+1),()))
 else
 some (.inr (-1))
def Yj (s0:List Int) (f0:Unit):Option Int :=
 Zp (λv=>Yt s0 v.1) ((0:Int),())
def Zyy:Ctr:=D2 (.sl Iq) (.fn 222 (.unit)) Iq Yj
def Yc (s0:List Int) (f0:Unit):Option Bool :=
 (Yj s0 ()).bind λy0 =>
 some (Decidable.decide (0<=y0))
def Zyz:Ctr:=D2 (.sl Iq) (.fn 222 (.unit)) (.bool) Yc
def Q5 (a1:Zd) (v1:Int) (l1:List Int):Option ((Int×(List Int)×Unit) ⊕ ((Int×(List Int)×Unit) ⊕ Bool)) :=
 if v1<(↑(List.length (Zd.YR a1)):Int) then
 (atI (Zd.YR a1) v1).bind λx0 =>
 if Yr.Dir x0=1 then
 (Qj a1 (Yr.Net x0)).bind λy0 =>
 if y0 then
 if Yr.Dir x0=1 then
 (atI l1 (Yr.Net x0)).bind λx1 =>
 some (.inl (Wq (v1+1),List.set l1 (Int.toNat (Yr.Net x0)) (Wq (x1+1)),()))
 else
 some (.inl (Wq (v1+1),l1,()))
 else
 some (.inr (.inr false))
 else
 if Yr.Dir x0=2 then
 (Qj a1 (Yr.Net x0)).bind λy0 =>
 if y0 then
 if Yr.Dir x0=1 then
 (atI l1 (Yr.Net x0)).bind λx1 =>
 some (.inl (Wq (v1+1),List.set l1 (Int.toNat (Yr.Net x0)) (Wq (x1+1)),()))
 else
 some (.inl (Wq (v1+1),l1,()))
 else
 some (.inr (.inr false))
 else
 some (.inr (.inr false))
 else
 (Yc l1 ()).bind λy1 =>
 some (.inr (.inr !y1))
def JA (a0:Zy) (a1:Zd) (v0:Int) (l0:List Int):Option ((Int×(List Int)×Unit) ⊕ Bool) :=
 if v0<(↑(List.length (Zd.Instances a1)):Int) then
 (atI (Zd.Instances a1) v0).bind λx0 =>
 (Vf a1 a0 x0).bind λy0 =>
 if y0 then
 (atI (Zi.YQ x0) (Wq ((↑(List.length (Zi.YQ x0)):Int)-1))).bind λx1 =>
 (atI l0 x1).bind λx2 =>
 some (.inl (Wq (v0+1),List.set l0 (Int.toNat x1) (Wq (x2+1)),()))
 else
 some (.inr false)
 else
 Zp (λv=>Q5 a1 v.1 v.2.1) ((0:Int),l0,())
def Zd0 (a0:Zy) (a1:Zd):Option Bool :=
 (Zdl a0).bind λy0 =>
 if y0 then
 (V4 a1).bind λy1 =>
 if y1 then
 Zw ((0:Int)<=(↑(List.length (Zd.YQ a1)):Int)) <|
 Zw ((↑(List.length (Zd.YQ a1)):Int)<=(↑(List.length (Zd.YQ a1)):Int)) <|
 Zw ((↑(List.length (Zd.YQ a1)):Int)<=(4611686018427387904:Int)) <|
 Zw ((↑(8:Nat):Int)*(↑(List.length (Zd.YQ a1)):Int)<=(281474976710656:Int)) <|
 Zp (λv=>JA a0 a1 v.1 v.2.1) ((0:Int),List.replicate (Int.toNat (↑(List.length (Zd.YQ a1)):Int)) (0:Int),())
 else
 some false
 else
 some false
def ZyA:Ctr:=D2 (Qp) (Xq) (.bool) Zd0
def Jb (v0:Int) (x0:Zi) (list1:List YJ) (v1:Int):Option (((List YJ)×Int×Unit) ⊕ (((List YJ)×Int×Unit) ⊕ List YJ)) :=
 if v1<(↑(List.length (Zi.YQ x0)):Int) then
 (atI (Zi.YQ x0) v1).bind λx1 =>
 Zw ((List.length list1+List.length [(v0,v1,x1,Decidable.decide (v1=Wq ((↑(List.length (Zi.YQ x0)):Int)-(1:Int))),())])*(32:Nat)<=(140737488355328:Nat)) <|
 some (.inl (list1++[(v0,v1,x1,Decidable.decide (v1=Wq ((↑(List.length (Zi.YQ x0)):Int)-(1:Int))),())],Wq (v1+(1:Int)),()))
 else
 some (.inr (.inl (list1,Wq (v0+1),())))
def Jc (d0:Zd) (list1:List YJ) (v1:Int):Option (((List YJ)×Int×Unit) ⊕ (((List YJ)×Int×Unit) ⊕ List YJ)) :=
 if v1<(↑(List.length (Zd.YR d0)):Int) then
 (atI (Zd.YR d0) v1).bind λx0 =>
 Zw ((List.length list1+List.length [((-1:Int),v1,Yr.Net x0,Decidable.decide (Yr.Dir x0=(1:Int)),())])*(32:Nat)<=(140737488355328:Nat)) <|
 some (.inl (list1++[((-1:Int),v1,Yr.Net x0,Decidable.decide (Yr.Dir x0=(1:Int)),())],Wq (v1+(1:Int)),()))
 else
 some (.inr (.inr list1))
def Jd (d0:Zd) (list0:List YJ) (v0:Int):Option (((List YJ)×Int×Unit) ⊕ List YJ) :=
 if v0<(↑(List.length (Zd.Instances d0)):Int) then
 (atI (Zd.Instances d0) v0).bind λx0 =>
 Zp (λv=>Jb v0 x0 v.1 v.2.1) (list0,(0:Int),())
 else
 Zp (λv=>Jc d0 v.1 v.2.1) (list0,(0:Int),())
def Xt (d0:Zd):Option (List YJ) :=
 Zp (λv=>Jd d0 v.1 v.2.1) (([]:List YJ),(0:Int),())
def ZyB:Ctr:=⟨[.dat (Xq)],[.own (.ol 122 (.flat (Zg6)))],λa K=>splitK a λd0 a=>YB (Xt d0) λr=>K (r,()) ()⟩
def J7 (w0:Zq) (v0:Int):Option ((Int×Unit) ⊕ Bool) :=
 if v0<(↑(List.length (Zq.Parent w0)):Int) then
 (atI (Zq.Parent w0) v0).bind λx0 =>
 if v0=0 then
 if x0=(-1) then
 (atI (Zq.Res w0) 0).bind λx1 =>
 if x1=0 then
 if 0<v0 then
 (YF x0 0 (Wq (v0-1))).bind λy0 =>
 if y0 then
 some (.inl (Wq (v0+1),()))
 else
 some (.inr false)
 else
 some (.inl (Wq (v0+1),()))
 else
 some (.inr false)
 else
 some (.inr false)
 else
 if 0<v0 then
 (YF x0 0 (Wq (v0-1))).bind λy0 =>
 if y0 then
 some (.inl (Wq (v0+1),()))
 else
 some (.inr false)
 else
 some (.inl (Wq (v0+1),()))
 else
 some (.inr true)
def Zbw (w0:Zq):Option Bool :=
 Zp (λv=>J7 w0 v.1) ((0:Int),())
def Zvr:Ctr:=D1 (ZfS) (.bool) Zbw
def Zfv (w0:Zq) (sinks0:Int):Option Bool :=
 (XM (Zq.Parent w0)).bind λy0 =>
 (YF y0 1 8).bind λy1 =>
 if y1 then
 (XM (Zq.Res w0)).bind λy2 =>
 if y2=y0 then
 (XM (Zq.Cap w0)).bind λy3 =>
 if y3=y0 then
 (Zbw w0).bind λy4 =>
 if y4 then
 (Xg (Zq.Res w0) 0 1000).bind λy5 =>
 if y5 then
 (Xg (Zq.Cap w0) 0 500).bind λy6 =>
 if y6 then
 (XM (Zq.Zc0 w0)).bind λy7 =>
 if y7=sinks0 then
 (Xg (Zq.Zc0 w0) 0 (Wq (y0-1))).bind λy8 =>
 some y8
 else
 some false
 else
 some false
 else
 some false
 else
 some false
 else
 some false
 else
 some false
 else
 some false
def ZyC:Ctr:=D2 (ZfS) Iq (.bool) Zfv
def Zci (b0:Zc) (l0:List Int) (v1:Int):Option ((Int×Unit) ⊕ ((Int×(List Int)×Unit) ⊕ Bool)) :=
 if v1<(↑(List.length (Zc.Yw b0)):Int) then
 (atI (Zc.Yw b0) v1).bind λx0 =>
 (atI l0 v1).bind λx1 =>
 (Zfv x0 x1).bind λy0 =>
 if y0 then
 some (.inl (Wq (v1+1),()))
 else
 some (.inr (.inr false))
 else
 some (.inr (.inr true))
def Zae (b0:Zc) (places0:List YJ) (v0:Int) (l0:List Int):Option ((Int×(List Int)×Unit) ⊕ Bool) :=
 if v0<(↑places0.length:Int) then
 (atI places0 v0).bind λx0 =>
 if (YJ.drives x0)=true then
 some (.inl (Wq (v0+1),l0,()))
 else
 (atI l0 (YJ.net x0)).bind λx1 =>
 some (.inl (Wq (v0+1),List.set l0 (Int.toNat (YJ.net x0)) (Wq (x1+1)),()))
 else
 Zp (λv=>Zci b0 l0 v.1) ((0:Int),())
def Zdw (b0:Zc):Option Bool :=
 (Zd0 (Zc.Library b0) (Zc.Design b0)).bind λy0 =>
 if y0 then
 if (↑(List.length (Zc.Yw b0)):Int)=(↑(List.length (Zd.YQ (Zc.Design b0))):Int) then
 Zw ((0:Int)<=(↑(List.length (Zc.Yw b0)):Int)) <|
 Zw ((↑(List.length (Zc.Yw b0)):Int)<=(↑(List.length (Zc.Yw b0)):Int)) <|
 Zw ((↑(List.length (Zc.Yw b0)):Int)<=(4611686018427387904:Int)) <|
 Zw ((↑(8:Nat):Int)*(↑(List.length (Zc.Yw b0)):Int)<=(281474976710656:Int)) <|
 (Xt (Zc.Design b0)).bind λy1 =>
 Zp (λv=>Zae b0 y1 v.1 v.2.1) ((0:Int),List.replicate (Int.toNat (↑(List.length (Zc.Yw b0)):Int)) (0:Int),())
 else
 some false
 else
 some false
def c138:Ctr:=D1 (YC) (.bool) Zdw
def Zaq (early0:Int) (late0:Int):Option Bool :=
 if 100<=early0 then
 if early0<=late0 then
 some (Decidable.decide (late0<=5000))
 else
 some false
 else
 some false
def c139:Ctr:=D2 Iq Iq (.bool) Zaq
def ZdZ (c0:Zt):Option Bool :=
 (Zc5 (Zt.Name c0)).bind λy0 =>
 if y0 then
 (Zaq (Zt.Zal c0) (Zt.Zbs c0)).bind λy1 =>
 if y1 then
 (Zaq (Zt.Zam c0) (Zt.Zb8 c0)).bind λy2 =>
 some y2
 else
 some false
 else
 some false
def ZyD:Ctr:=D1 (Xf) (.bool) ZdZ
def VZ (a0:ZB):Option (List (Int×Int×Unit)) :=
 if ZB.Kind a0=2 then
 some ([((0:Int),(0:Int),()),((0:Int),(1:Int),())])
 else
 if ZB.Kind a0=3 then
 some ([((1:Int),(0:Int),()),((1:Int),(1:Int),())])
 else
 if ZB.Kind a0=1 then
 if ZB.V8 a0=1 then
 some ([((0:Int),(0:Int),()),((1:Int),(1:Int),())])
 else
 if ZB.V8 a0=2 then
 some ([((0:Int),(1:Int),()),((1:Int),(0:Int),())])
 else
 some ([((0:Int),(0:Int),()),((0:Int),(1:Int),()),((1:Int),(0:Int),()),((1:Int),(1:Int),())])
 else
 some ([]:List (Int×Int×Unit))
def c141:Ctr:=⟨[.dat (Zk3)],[.own (.ol 297 (.flat (.pair Iq (.pair Iq (.unit)))))],λa K=>splitK a λa0 a=>YB (VZ a0) λr=>K (r,()) ()⟩
def Vj (first0:Int) (v0:Int) (x2:ZB) (transitions0:List (Int×Int×Unit)) (list1:List Zm) (v1:Int):Option (((List Zm)×Int×Unit) ⊕ (((List Zm)×Int×Unit) ⊕ List Zm)) :=
 if v1<(↑transitions0.length:Int) then
 (atI transitions0 v1).bind λx3 =>
 Zw ((List.length list1+List.length [(Wq (Wq ((2:Int)*Wq (first0+ZB.From x2))+x3.fst),Wq (Wq ((2:Int)*Wq (first0+ZB.To x2))+x3.snd.fst),(1:Int),v0,())])*(32:Nat)<=(140737488355328:Nat)) <|
 some (.inl (list1++[(Wq (Wq ((2:Int)*Wq (first0+ZB.From x2))+x3.fst),Wq (Wq ((2:Int)*Wq (first0+ZB.To x2))+x3.snd.fst),(1:Int),v0,())],Wq (v1+(1:Int)),()))
 else
 some (.inr (.inl (list1,Wq (v0+1),())))
def Vk (first0:Int) (x1:Zl) (list0:List Zm) (v0:Int):Option (((List Zm)×Int×Unit) ⊕ List Zm) :=
 if v0<(↑(List.length (Zl.Jr x1)):Int) then
 (atI (Zl.Jr x1) v0).bind λx2 =>
 (VZ x2).bind λy0 =>
 Zp (λv=>Vj first0 v0 x2 y0 v.1 v.2.1) (list0,(0:Int),())
 else
 some (.inr list0)
def V3 (b0:Zc) (x0:Zi) (first0:Int):Option (List Zm) :=
 (atI (Zy.Cells (Zc.Library b0)) (Zi.Cell x0)).bind λx1 =>
 Zp (λv=>Vk first0 x1 v.1 v.2.1) (([]:List Zm),(0:Int),())
def ZyE:Ctr:=⟨[.dat (YC),.dat (ZcV),.dat Iq],[.own (.ol 202 (.flat (Jp)))],λa K=>splitK a λb0 a=>splitK a λx0 a=>splitK a λfirst0 a=>YB (V3 b0 x0 first0) λr=>K (r,()) ()⟩
def XC (s0:List Int):Option (List Int) :=
 Zw ((List.length (([]:List Int))+List.length s0)*(8:Nat)<=(140737488355328:Nat)) <|
 some (([]:List Int)++s0)
def c143:Ctr:=⟨[.dat (.sl Iq)],[.own (.ol 2 (.flat Iq))],λa K=>splitK a λs0 a=>YB (XC s0) λr=>K (r,()) ()⟩
def Jz (net0:Int) (places0:List YJ) (list0:List Int) (v0:Int):Option (((List Int)×Int×Unit) ⊕ List Int) :=
 if v0<(↑places0.length:Int) then
 (atI places0 v0).bind λx0 =>
 if YJ.net x0=net0 then
 if (YJ.drives x0)=true then
 some (.inl (list0,Wq (v0+1),()))
 else
 Zw ((List.length list0+List.length [v0])*(8:Nat)<=(140737488355328:Nat)) <|
 some (.inl (list0++[v0],Wq (v0+(1:Int)),()))
 else
 some (.inl (list0,Wq (v0+1),()))
 else
 some (.inr list0)
def ZaR (d0:Zd) (net0:Int):Option (List Int) :=
 (Xt d0).bind λy0 =>
 Zp (λv=>Jz net0 y0 v.1 v.2.1) (([]:List Int),(0:Int),())
def ZyF:Ctr:=⟨[.dat (Xq),.dat Iq],[.own (.ol 2 (.flat Iq))],λa K=>splitK a λd0 a=>splitK a λnet0 a=>YB (ZaR d0 net0) λr=>K (r,()) ()⟩
def QV (d0:Zd) (l0:Zy) (p0:YJ):Option Int :=
 if YJ.instance p0<0 then
 some 0
 else
 (atI (Zd.Instances d0) (YJ.instance p0)).bind λx0 =>
 (atI (Zy.Cells l0) (Zi.Cell x0)).bind λx1 =>
 (atI (Zl.YD x1) (YJ.pin p0)).bind λx2 =>
 some (Y7.Cap x2)
def c145:Ctr:=D3 (Xq) (Qp) (Zg6) Iq QV
def Xm (x0:Zq) (v1:Int) (l1:List Int):Option ((Int×(List Int)×Unit) ⊕ ((Int×(List Int)×Unit) ⊕ List Int)) :=
 if 0<v1 then
 (atI (Zq.Parent x0) v1).bind λx1 =>
 (atI l1 x1).bind λx2 =>
 (atI l1 v1).bind λx3 =>
 some (.inl (Wq (v1-1),List.set l1 (Int.toNat x1) (Wq (x2+x3)),()))
 else
 some (.inr (.inr l1))
def YN (a0:Zc) (x0:Zq) (places0:List YJ) (sinks0:List Int) (v0:Int) (l0:List Int):Option ((Int×(List Int)×Unit) ⊕ List Int) :=
 if v0<(↑sinks0.length:Int) then
 (atI sinks0 v0).bind λx1 =>
 (atI (Zq.Zc0 x0) v0).bind λx2 =>
 (atI l0 x2).bind λx3 =>
 (atI places0 x1).bind λx4 =>
 (QV (Zc.Design a0) (Zc.Library a0) x4).bind λy0 =>
 some (.inl (Wq (v0+1),List.set l0 (Int.toNat x2) (Wq (x3+y0)),()))
 else
 Zp (λv=>Xm x0 v.1 v.2.1) (Wq ((↑l0.length:Int)-(1:Int)),l0,())
def Yk (a0:Zc) (a1:Int):Option (List Int) :=
 (atI (Zc.Yw a0) a1).bind λx0 =>
 (XC (Zq.Cap x0)).bind λy0 =>
 (Xt (Zc.Design a0)).bind λy1 =>
 (ZaR (Zc.Design a0) a1).bind λy2 =>
 Zp (λv=>YN a0 x0 y1 y2 v.1 v.2.1) ((0:Int),y0,())
def c146:Ctr:=⟨[.dat (YC),.dat Iq],[.own (.ol 2 (.flat Iq))],λa K=>splitK a λa0 a=>splitK a λa1 a=>YB (Yk a0 a1) λr=>K (r,()) ()⟩
def Xa (x0:Zq) (nodeLoads0:List Int) (i0:Int) (l0:List Int):Option ((Int×(List Int)×Unit) ⊕ List Int) :=
 if i0<(↑l0.length:Int) then
 (atI (Zq.Parent x0) i0).bind λx1 =>
 (atI l0 x1).bind λx2 =>
 (atI (Zq.Res x0) i0).bind λx3 =>
 (atI nodeLoads0 i0).bind λx4 =>
 (atI l0 i0).bind λx5 =>
 some (.inl (Wq (i0+1),List.set l0 (Int.toNat i0) (Wq (x2+Wq (x3*x4))),()))
 else
 some (.inr l0)
def XJ (b0:Zc) (net0:Int):Option (List Int) :=
 (atI (Zc.Yw b0) net0).bind λx0 =>
 (Yk b0 net0).bind λy0 =>
 Zw ((0:Int)<=(↑y0.length:Int)) <|
 Zw ((↑y0.length:Int)<=(↑y0.length:Int)) <|
 Zw ((↑y0.length:Int)<=(4611686018427387904:Int)) <|
 Zw ((↑(8:Nat):Int)*(↑y0.length:Int)<=(281474976710656:Int)) <|
 Zp (λv=>Xa x0 y0 v.1 v.2.1) ((1:Int),List.replicate (Int.toNat (↑y0.length:Int)) (0:Int),())
def Zxy:Ctr:=⟨[.dat (YC),.dat Iq],[.own (.ol 2 (.flat Iq))],λa K=>splitK a λb0 a=>splitK a λnet0 a=>YB (XJ b0 net0) λr=>K (r,()) ()⟩
def Y5 (nodeDelays0:List Int) (x0:Zq) (out0:List Int) (v0:Int):Option (((List Int)×Int×Unit) ⊕ List Int) :=
 if v0<(↑(List.length (Zq.Zc0 x0)):Int) then
 (atI (Zq.Zc0 x0) v0).bind λx1 =>
 (atI nodeDelays0 x1).bind λx2 =>
 Zw ((List.length out0+List.length [x2])*(8:Nat)<=(140737488355328:Nat)) <|
 some (.inl (out0++[x2],Wq (v0+(1:Int)),()))
 else
 some (.inr out0)
def Y2 (b0:Zc) (net0:Int):Option (List Int) :=
 (XJ b0 net0).bind λy0 =>
 (atI (Zc.Yw b0) net0).bind λx0 =>
 Zp (λv=>Y5 y0 x0 v.1 v.2.1) (([]:List Int),(0:Int),())
def c148:Ctr:=⟨[.dat (YC),.dat Iq],[.own (.ol 2 (.flat Iq))],λa K=>splitK a λb0 a=>splitK a λnet0 a=>YB (Y2 b0 net0) λr=>K (r,()) ()⟩
def Vz (l0:List Int) (v3:Int) (v4:Int) (x2:Int) (v5:Int) (c5:List Zm):Option ((Int×(List Zm)×Unit) ⊕ ((Int×(List Zm)×Unit) ⊕ ((Int×(List Int)×(List (List Int))×(List Zm)×(List (List Int))×Unit) ⊕ ((Int×(List Int)×(List (List Int))×Unit) ⊕ ((Int×Int×(List Zm)×Unit) ⊕ ZG))))) :=
 if v5<2 then
 (atI l0 v3).bind λx3 =>
 Zw ((List.length c5+List.length [(Wq (Wq ((2:Int)*x3)+v5),Wq (Wq ((2:Int)*x2)+v5),(2:Int),v4,())])*(32:Nat)<=(140737488355328:Nat)) <|
 some (.inl (Wq (v5+(1:Int)),c5++[(Wq (Wq ((2:Int)*x3)+v5),Wq (Wq ((2:Int)*x2)+v5),(2:Int),v4,())],()))
 else
 some (.inr (.inl (Wq (v4+1),c5,())))
def Zaf (l0:List Int) (v3:Int) (c1:List Int) (c2:List (List Int)) (l2:List (List Int)) (x0:Int) (exactDelays0:List Int) (x1:List Int) (v4:Int) (c4:List Zm):Option ((Int×(List Zm)×Unit) ⊕ ((Int×(List Int)×(List (List Int))×(List Zm)×(List (List Int))×Unit) ⊕ ((Int×(List Int)×(List (List Int))×Unit) ⊕ ((Int×Int×(List Zm)×Unit) ⊕ ZG)))) :=
 if v4<(↑x1.length:Int) then
 (atI x1 v4).bind λx2 =>
 Zp (λv=>Vz l0 v3 v4 x2 v.1 v.2.1) ((0:Int),c4,())
 else
 some (.inr (.inl (Wq (v3+(1:Int)),c1++[x0],c2++[exactDelays0],c4,List.set l2 (Int.toNat v3) x1,())))
def Zag (a0:Zc) (places0:List YJ) (l0:List Int) (v3:Int) (c1:List Int) (c2:List (List Int)) (c3:List Zm) (l2:List (List Int)):Option ((Int×(List Int)×(List (List Int))×(List Zm)×(List (List Int))×Unit) ⊕ ((Int×(List Int)×(List (List Int))×Unit) ⊕ ((Int×Int×(List Zm)×Unit) ⊕ ZG))) :=
 if v3<(↑(List.length (Zc.Yw a0)):Int) then
 (Yk a0 v3).bind λy0 =>
 (atI y0 0).bind λx0 =>
 Zw ((List.length c1+List.length [x0])*(8:Nat)<=(140737488355328:Nat)) <|
 (Y2 a0 v3).bind λy1 =>
 Zw ((List.length c2+List.length [y1])*(24:Nat)<=(140737488355328:Nat)) <|
 (atI l2 v3).bind λx1 =>
 Zp (λv=>Zaf l0 v3 c1 c2 l2 x0 y1 x1 v.1 v.2.1) ((0:Int),c3,())
 else
 some (.inr (.inr (.inr (a0,places0,c3,c1,c2,([]:List Int),()))))
def Zah (a0:Zc) (places0:List YJ) (c0:List Zm) (v2:Int) (l0:List Int) (l1:List (List Int)):Option ((Int×(List Int)×(List (List Int))×Unit) ⊕ ((Int×Int×(List Zm)×Unit) ⊕ ZG)) :=
 if v2<(↑places0.length:Int) then
 (atI places0 v2).bind λx0 =>
 if (YJ.drives x0)=true then
 (atI l0 (YJ.net x0)).bind λx1 =>
 some (.inl (Wq (v2+1),List.set l0 (Int.toNat (YJ.net x0)) v2,l1,()))
 else
 (atI l1 (YJ.net x0)).bind λx1 =>
 Zw ((List.length x1+List.length [v2])*(8:Nat)<=(140737488355328:Nat)) <|
 some (.inl (Wq (v2+(1:Int)),l0,List.set l1 (Int.toNat (YJ.net x0)) (x1++[v2]),()))
 else
 Zp (λv=>Zag a0 places0 l0 v.1 v.2.1 v.2.2.1 v.2.2.2.1 v.2.2.2.2.1) ((0:Int),([]:List Int),([]:List (List Int)),c0,l1,())
def Zco (a0:Zc) (places0:List YJ) (v0:Int) (v1:Int) (c0:List Zm):Option ((Int×Int×(List Zm)×Unit) ⊕ ZG) :=
 if v1<(↑(List.length (Zd.Instances (Zc.Design a0))):Int) then
 (atI (Zd.Instances (Zc.Design a0)) v1).bind λx0 =>
 (V3 a0 x0 v0).bind λy0 =>
 Zw ((List.length c0+List.length y0)*(32:Nat)<=(140737488355328:Nat)) <|
 (XM (Zi.YQ x0)).bind λy1 =>
 some (.inl (Wq (v0+y1),Wq (v1+1),c0++y0,()))
 else
 Zw ((0:Int)<=(↑(List.length (Zc.Yw a0)):Int)) <|
 Zw ((↑(List.length (Zc.Yw a0)):Int)<=(↑(List.length (Zc.Yw a0)):Int)) <|
 Zw ((↑(List.length (Zc.Yw a0)):Int)<=(4611686018427387904:Int)) <|
 Zw ((↑(8:Nat):Int)*(↑(List.length (Zc.Yw a0)):Int)<=(281474976710656:Int)) <|
 Zw ((↑(24:Nat):Int)*(↑(List.length (Zc.Yw a0)):Int)<=(281474976710656:Int)) <|
 Zp (λv=>Zah a0 places0 c0 v.1 v.2.1 v.2.2.1) ((0:Int),List.replicate (Int.toNat (↑(List.length (Zc.Yw a0)):Int)) (0:Int),List.replicate (Int.toNat (↑(List.length (Zc.Yw a0)):Int)) (([]:List Int)),())
def Zdx (a0:Zc):Option ZG :=
 (Xt (Zc.Design a0)).bind λy0 =>
 Zp (λv=>Zco a0 y0 v.1 v.2.1 v.2.2.1) ((0:Int),(0:Int),([]:List Zm),())
def ZyG:Ctr:=D1 (YC) (.ptr (ZgR)) Zdx
def Y3 (list0:List YJ):Option Int :=
 some (↑list0.length:Int)
def ZyH:Ctr:=D1 (.sl (Zg6)) Iq Y3
def YA (v0:ZG):Option Int :=
 (Y3 (ZG.places v0)).bind λy0 =>
 some (Wq (2*y0))
def Zxz:Ctr:=D1 (.ptr (ZgR)) Iq YA
def ZdJ (list0:List Bool):Option Int :=
 some (↑list0.length:Int)
def c152:Ctr:=D1 (.sl (.bool)) Iq ZdJ
def Qr (list0:List Zv):Option Int :=
 some (↑list0.length:Int)
def ZyI:Ctr:=D1 (.sl (Jl)) Iq Qr
def Zfx (t0:Int):Option Bool :=
 (YF t0 (-1000000000) 1000000000).bind λy0 =>
 some y0
def c154:Ctr:=D1 Iq (.bool) Zfx
def JB (s0:Zv):Option Bool :=
 (Zfx (Zv.Early s0)).bind λy0 =>
 if y0 then
 (Zfx (Zv.Late s0)).bind λy1 =>
 if y1 then
 some (Decidable.decide (Zv.Early s0<=Zv.Late s0))
 else
 some false
 else
 some false
def ZyJ:Ctr:=D1 (Jl) (.bool) JB
def Zfw (n0:Int):Option Bool :=
 (YF n0 0 1000000).bind λy0 =>
 some y0
def c156:Ctr:=D1 Iq (.bool) Zfw
def Zcj (s0:Zv):Option Bool :=
 (JB s0).bind λy0 =>
 if y0 then
 (Zfw (Zv.Early s0)).bind λy1 =>
 if y1 then
 (Zfw (Zv.Late s0)).bind λy2 =>
 some y2
 else
 some false
 else
 some false
def c157:Ctr:=D1 (Jl) (.bool) Zcj
def Qv (a1:Ze) (v0:Int):Option ((Int×Unit) ⊕ Bool) :=
 if v0<(↑(List.length (Ze.Reached a1)):Int) then
 (atI (Ze.Reached a1) v0).bind λx0 =>
 (atI (Ze.ZA a1) v0).bind λx1 =>
 (JB x1).bind λy0 =>
 if y0 then
 (atI (Ze.Xx a1) v0).bind λx2 =>
 (Zcj x2).bind λy1 =>
 if y1 then
 if x0 then
 some (.inl (Wq (v0+1),()))
 else
 if (Decidable.decide (Zv.Early x1=0)&&Decidable.decide (Zv.Late x1=0))=true then
 if (Decidable.decide (Zv.Early x2=0)&&Decidable.decide (Zv.Late x2=0))=true then
 some (.inl (Wq (v0+1),()))
 else
 some (.inr false)
 else
 some (.inr false)
 else
 some (.inr false)
 else
 some (.inr false)
 else
 some (.inr true)
def Zai (a0:ZG) (a1:Ze):Option Bool :=
 (YA a0).bind λy0 =>
 (ZdJ (Ze.Reached a1)).bind λy1 =>
 if y1=y0 then
 (Qr (Ze.ZA a1)).bind λy2 =>
 if y2=y0 then
 (Qr (Ze.Xx a1)).bind λy3 =>
 if y3=y0 then
 Zp (λv=>Qv a1 v.1) ((0:Int),())
 else
 some false
 else
 some false
 else
 some false
def ZxA:Ctr:=D2 (.ptr (ZgR)) (Zb1) (.bool) Zai
def Zat (list0:List Zm):Option Int :=
 some (↑list0.length:Int)
def c159:Ctr:=D1 (.sl (Jp)) Iq Zat
def VA (v0:ZG) (list0:List Int):Option Bool :=
 (Zat (ZG.links v0)).bind λy0 =>
 (Xg list0 0 (Wq (y0-1))).bind λy1 =>
 if y1 then
 (QX list0).bind λy2 =>
 some y2
 else
 some false
def c160:Ctr:=D2 (.ptr (ZgR)) (.sl Iq) (.bool) VA
def Zbx (v0:ZG) (node0:Int):Option Bool :=
 (YA v0).bind λy0 =>
 (YF node0 0 (Wq (y0-1))).bind λy1 =>
 some y1
def ZyK:Ctr:=D2 (.ptr (ZgR)) Iq (.bool) Zbx
def Qf (v0:ZG) (list0:List Zh) (v1:Int):Option ((Int×Unit) ⊕ Bool) :=
 if v1<(↑list0.length:Int) then
 (atI list0 v1).bind λx0 =>
 (Zbx v0 (Zh.Node x0)).bind λy0 =>
 if y0 then
 (JB (Zh.ZA x0)).bind λy1 =>
 if y1 then
 (Zcj (Zh.Xx x0)).bind λy2 =>
 if y2 then
 if 0<v1 then
 (atI list0 (Wq (v1-1))).bind λx1 =>
 if Zh.Node x0<=Zh.Node x1 then
 some (.inr false)
 else
 some (.inl (Wq (v1+1),()))
 else
 some (.inl (Wq (v1+1),()))
 else
 some (.inr false)
 else
 some (.inr false)
 else
 some (.inr false)
 else
 some (.inr true)
def QI (v0:ZG) (list0:List Zh):Option Bool :=
 Zp (λv=>Qf v0 list0 v.1) ((0:Int),())
def c162:Ctr:=D2 (.ptr (ZgR)) (.sl (XY)) (.bool) QI
def X5 (v0:ZG) (broken0:List Int) (v2:Int) (l1:List Bool):Option ((Int×(List Bool)×Unit) ⊕ ((Int×(List Bool)×Unit) ⊕ Ya)) :=
 if v2<(↑broken0.length:Int) then
 (atI broken0 v2).bind λx0 =>
 (atI l1 x0).bind λx1 =>
 some (.inl (Wq (v2+1),List.set l1 (Int.toNat x0) false,()))
 else
 some (.inr (.inr (v0,l1,())))
def JC (v0:ZG) (broken0:List Int) (v1:Int) (l0:List Bool):Option ((Int×(List Bool)×Unit) ⊕ Ya) :=
 if v1<(↑(List.length (List.replicate (Int.toNat (↑(List.length (ZG.links v0)):Int)) false)):Int) then
 (atI l0 v1).bind λx0 =>
 some (.inl (Wq (v1+1),List.set l0 (Int.toNat v1) true,()))
 else
 Zp (λv=>X5 v0 broken0 v.1 v.2.1) ((0:Int),l0,())
def QY (v0:ZG) (broken0:List Int):Option Ya :=
 Zw ((0:Int)<=(↑(List.length (ZG.links v0)):Int)) <|
 Zw ((↑(List.length (ZG.links v0)):Int)<=(↑(List.length (ZG.links v0)):Int)) <|
 Zw ((↑(List.length (ZG.links v0)):Int)<=(4611686018427387904:Int)) <|
 Zw ((↑(1:Nat):Int)*(↑(List.length (ZG.links v0)):Int)<=(281474976710656:Int)) <|
 Zp (λv=>JC v0 broken0 v.1 v.2.1) ((0:Int),List.replicate (Int.toNat (↑(List.length (ZG.links v0)):Int)) false,())
def ZyL:Ctr:=D2 (.ptr (ZgR)) (.sl Iq) (.ptr (Zgz)) QY
def ZbE (a0:Zm):Option Bool :=
 some true
def c164:Ctr:=D1 (Jp) (.bool) ZbE
def Yf (g0:Ya) (list0:List Int) (v0:Int):Option (((List Int)×Int×Unit) ⊕ List Int) :=
 if v0<(↑(List.length (ZG.links (Ya.view g0))):Int) then
 (atI (ZG.links (Ya.view g0)) v0).bind λx0 =>
 (atI (Ya.live g0) v0).bind λx1 =>
 if x1 then
 (ZbE x0).bind λy0 =>
 if y0 then
 Zw ((List.length list0+List.length [v0])*(8:Nat)<=(140737488355328:Nat)) <|
 some (.inl (list0++[v0],Wq (v0+(1:Int)),()))
 else
 some (.inl (list0,Wq (v0+1),()))
 else
 some (.inl (list0,Wq (v0+1),()))
 else
 some (.inr list0)
def Yx (g0:Ya) (is0:Unit):Option (List Int) :=
 Zp (λv=>Yf g0 v.1 v.2.1) (([]:List Int),(0:Int),())
def ZyM:Ctr:=⟨[.dat (.ptr (Zgz)),.dat (.fn 203 (.unit))],[.own (.ol 2 (.flat Iq))],λa K=>splitK a λg0 a=>splitK a λis0 a=>YB (Yx g0 is0) λr=>K (r,()) ()⟩
def Xd (s0:List Int) (v0:Int) (v1:Int):Option ((Int×Unit) ⊕ Int) :=
 if v1<(↑s0.length:Int) then
 (atI s0 v1).bind λx0 =>
 if v0=x0 then
 some (.inr v1)
 else
 some (.inl (Wq (v1+1),()))
 else
 some (.inr (-1))
def VE (s0:List Int) (v0:Int):Option Int :=
 Zp (λv=>Xd s0 v0 v.1) ((0:Int),())
def ZyN:Ctr:=D2 (.sl Iq) Iq Iq VE
def Zcl (l0:Zm) (a0:Int):Option Bool :=
 some (Decidable.decide (Zm.From l0=a0))
def c167:Ctr:=D2 (Jp) (.ptr Iq) (.bool) Zcl
def Yi (g0:Ya) (is0:Int×Unit) (list0:List Int) (v0:Int):Option (((List Int)×Int×Unit) ⊕ List Int) :=
 if v0<(↑(List.length (ZG.links (Ya.view g0))):Int) then
 (atI (ZG.links (Ya.view g0)) v0).bind λx0 =>
 (atI (Ya.live g0) v0).bind λx1 =>
 if x1 then
 (Zcl x0 is0.fst).bind λy0 =>
 if y0 then
 Zw ((List.length list0+List.length [v0])*(8:Nat)<=(140737488355328:Nat)) <|
 some (.inl (list0++[v0],Wq (v0+(1:Int)),()))
 else
 some (.inl (list0,Wq (v0+1),()))
 else
 some (.inl (list0,Wq (v0+1),()))
 else
 some (.inr list0)
def Xc (g0:Ya) (is0:Int×Unit):Option (List Int) :=
 Zp (λv=>Yi g0 is0 v.1 v.2.1) (([]:List Int),(0:Int),())
def c168:Ctr:=⟨[.dat (.ptr (Zgz)),.dat (.fn 260 (.pair (.ptr Iq) (.unit)))],[.own (.ol 2 (.flat Iq))],λa K=>splitK a λg0 a=>splitK a λis0 a=>YB (Xc g0 is0) λr=>K (r,()) ()⟩
def Zck (g0:Ya) (node0:Int):Option (List Int) :=
 (Xc g0 (node0,())).bind λy0 =>
 some y0
def ZyO:Ctr:=⟨[.dat (.ptr (Zgz)),.dat Iq],[.own (.ol 2 (.flat Iq))],λa K=>splitK a λg0 a=>splitK a λnode0 a=>YB (Zck g0 node0) λr=>K (r,()) ()⟩
def Xz (a0:Ya) (v1:List Int) (v2:Int) (int0:Int) (from0:List Int) (v3:Int) (l2:List Int):Option ((Int×(List Int)×Unit) ⊕ (((List Int)×Int×(List Int)×Unit) ⊕ ((Int×(List Int)×Unit) ⊕ ((List Int)×Bool)))) :=
 if v3<(↑from0.length:Int) then
 (atI from0 v3).bind λx1 =>
 (atI (ZG.links (Ya.view a0)) x1).bind λx2 =>
 (atI l2 (Zm.To x2)).bind λx3 =>
 some (.inl (Wq (v3+1),List.set l2 (Int.toNat (Zm.To x2)) (Wq (x3-1)),()))
 else
 some (.inr (.inl (v1++[int0],Wq (v2+(1:Int)),l2,())))
def Yu (a0:Ya) (l0:List Int) (v1:List Int) (v2:Int) (l1:List Int):Option (((List Int)×Int×(List Int)×Unit) ⊕ ((Int×(List Int)×Unit) ⊕ ((List Int)×Bool))) :=
 if v2<(↑l0.length:Int) then
 (VE l1 0).bind λy0 =>
 if y0<0 then
 some (.inr (.inr (([]:List Int),false)))
 else
 (atI l1 y0).bind λx0 =>
 Zw ((List.length v1+List.length [y0])*(8:Nat)<=(140737488355328:Nat)) <|
 (Zck a0 y0).bind λy1 =>
 Zp (λv=>Xz a0 v1 v2 y0 y1 v.1 v.2.1) ((0:Int),List.set l1 (Int.toNat y0) (-1:Int),())
 else
 some (.inr (.inr (v1,true)))
def XA (a0:Ya) (c1_0:List Int) (v0:Int) (l0:List Int):Option ((Int×(List Int)×Unit) ⊕ ((List Int)×Bool)) :=
 if v0<(↑c1_0.length:Int) then
 (atI c1_0 v0).bind λx0 =>
 (atI (ZG.links (Ya.view a0)) x0).bind λx1 =>
 (atI l0 (Zm.To x1)).bind λx2 =>
 some (.inl (Wq (v0+1),List.set l0 (Int.toNat (Zm.To x1)) (Wq (x2+1)),()))
 else
 Zp (λv=>Yu a0 l0 v.1 v.2.1 v.2.2.1) (([]:List Int),(0:Int),l0,())
def Vo (a0:Ya):Option ((List Int)×Bool) :=
 (YA (Ya.view a0)).bind λy0 =>
 Zw ((0:Int)<=y0) <|
 Zw (y0<=y0) <|
 Zw (y0<=(4611686018427387904:Int)) <|
 Zw ((↑(8:Nat):Int)*y0<=(281474976710656:Int)) <|
 (Yx a0 ()).bind λy1 =>
 Zp (λv=>XA a0 y1 v.1 v.2.1) ((0:Int),List.replicate (Int.toNat y0) (0:Int),())
def ZyP:Ctr:=⟨[.dat (.ptr (Zgz))],[.own (.ol 2 (.flat Iq)),.dat (.bool)],λa K=>splitK a λa0 a=>YB (Vo a0) λr=>K (r.1,r.2,()) ()⟩
def XE (b0:Zc) (c0:Zt) (broken0:List Int) (sources0:List Zh) (t0:Option Ze):Option ((Option Ya)×(List Int)×Int) :=
 (Zdw b0).bind λy0 =>
 if y0 then
 (ZdZ c0).bind λy1 =>
 if y1 then
 (Zdx b0).bind λy2 =>
 if (Option.isNone t0)=true then
 (VA y2 broken0).bind λy3 =>
 if y3 then
 (QI y2 sources0).bind λy4 =>
 if y4 then
 (QY y2 broken0).bind λy5 =>
 (Vo y5).bind λy6 =>
 if y6.snd then
 some (Option.some y5,y6.fst,0)
 else
 some (Option.none,([]:List Int),(7:Int))
 else
 some (Option.none,([]:List Int),(2:Int))
 else
 some (Option.none,([]:List Int),(2:Int))
 else
 (t0).bind λr0 =>
 (Zai y2 r0).bind λy7 =>
 if y7 then
 (VA y2 broken0).bind λy3 =>
 if y3 then
 (QI y2 sources0).bind λy4 =>
 if y4 then
 (QY y2 broken0).bind λy5 =>
 (Vo y5).bind λy6 =>
 if y6.snd then
 some (Option.some y5,y6.fst,0)
 else
 some (Option.none,([]:List Int),(7:Int))
 else
 some (Option.none,([]:List Int),(2:Int))
 else
 some (Option.none,([]:List Int),(2:Int))
 else
 some (Option.none,([]:List Int),(1:Int))
 else
 some (Option.none,([]:List Int),(1:Int))
 else
 some (Option.none,([]:List Int),(1:Int))
def c171:Ctr:=⟨[.dat (YC),.dat (Xf),.dat (.sl Iq),.dat (.sl (XY)),.dat (.nptr (Zb1))],[.dat (.nptr (Zgz)),.own (.ol 2 (.flat Iq)),.dat Iq],λa K=>splitK a λb0 a=>splitK a λc0 a=>splitK a λbroken0 a=>splitK a λsources0 a=>splitK a λt0 a=>YB (XE b0 c0 broken0 sources0 t0) λr=>K (r.1,r.2.1,r.2.2,()) ()⟩
def ZCb (v0:ZG) (list0:List Int):Option Bool :=
 (YA v0).bind λy0 =>
 (Xg list0 0 (Wq (y0-1))).bind λy1 =>
 if y1 then
 (QX list0).bind λy2 =>
 some y2
 else
 some false
def ZxB:Ctr:=D2 (.ptr (ZgR)) (.sl Iq) (.bool) ZCb
def ZCd (s0:List Bool):Option (List Bool) :=
 Zw ((List.length (([]:List Bool))+List.length s0)*(1:Nat)<=(140737488355328:Nat)) <|
 some (([]:List Bool)++s0)
def c173:Ctr:=⟨[.dat (.sl (.bool))],[.own (.ol 4 (.flat (.bool)))],λa K=>splitK a λs0 a=>YB (ZCd s0) λr=>K (r,()) ()⟩
def ZB2 (s0:List Zv):Option (List Zv) :=
 Zw ((List.length (([]:List (Int×Int×Unit)))+List.length s0)*(16:Nat)<=(140737488355328:Nat)) <|
 some (([]:List (Int×Int×Unit))++s0)
def ZyQ:Ctr:=⟨[.dat (.sl (Jl))],[.own (.ol 92 (.flat (Jl)))],λa K=>splitK a λs0 a=>YB (ZB2 s0) λr=>K (r,()) ()⟩
def ZCf (t0:Ze):Option Ze :=
 (ZCd (Ze.Reached t0)).bind λy0 =>
 (ZB2 (Ze.ZA t0)).bind λy1 =>
 (ZB2 (Ze.Xx t0)).bind λy2 =>
 some (y0,y1,y2,())
def c175:Ctr:=⟨[.dat (Zb1)],[.own (Zgi)],λa K=>splitK a λt0 a=>YB (ZCf t0) λr=>K (r,()) ()⟩
def ZBZ (s0:List Int) (v0:Int) (v1:Int):Option ((Int×Unit) ⊕ Int) :=
 if v1<(↑s0.length:Int) then
 (atI s0 v1).bind λx0 =>
 if v0=x0 then
 some (.inr v1)
 else
 some (.inl (Wq (v1+1),()))
 else
 some (.inr (-1))
def ZB1 (s0:List Int) (v0:Int):Option Int :=
 Zp (λv=>ZBZ s0 v0 v.1) ((0:Int),())
def ZyR:Ctr:=D2 (.sl Iq) Iq Iq ZB1
def ZBY (s0:List Int) (v0:Int):Option Bool :=
 (ZB1 s0 v0).bind λy0 =>
 some (Decidable.decide (0<=y0))
def ZyS:Ctr:=D2 (.sl Iq) Iq (.bool) ZBY
def ZdI (l0:Zm) (a0:Int):Option Bool :=
 some (Decidable.decide (Zm.To l0=a0))
def ZyT:Ctr:=D2 (Jp) (.ptr Iq) (.bool) ZdI
def Yn (g0:Ya) (is0:Int×Unit) (list0:List Int) (v0:Int):Option (((List Int)×Int×Unit) ⊕ List Int) :=
 if v0<(↑(List.length (ZG.links (Ya.view g0))):Int) then
 (atI (ZG.links (Ya.view g0)) v0).bind λx0 =>
 (atI (Ya.live g0) v0).bind λx1 =>
 if x1 then
 (ZdI x0 is0.fst).bind λy0 =>
 if y0 then
 Zw ((List.length list0+List.length [v0])*(8:Nat)<=(140737488355328:Nat)) <|
 some (.inl (list0++[v0],Wq (v0+(1:Int)),()))
 else
 some (.inl (list0,Wq (v0+1),()))
 else
 some (.inl (list0,Wq (v0+1),()))
 else
 some (.inr list0)
def Xn (g0:Ya) (is0:Int×Unit):Option (List Int) :=
 Zp (λv=>Yn g0 is0 v.1 v.2.1) (([]:List Int),(0:Int),())
def ZyU:Ctr:=⟨[.dat (.ptr (Zgz)),.dat (.fn 209 (.pair (.ptr Iq) (.unit)))],[.own (.ol 2 (.flat Iq))],λa K=>splitK a λg0 a=>splitK a λis0 a=>YB (Xn g0 is0) λr=>K (r,()) ()⟩
def Zcm (g0:Ya) (node0:Int):Option (List Int) :=
 (Xn g0 (node0,())).bind λy0 =>
 some y0
def ZyV:Ctr:=⟨[.dat (.ptr (Zgz)),.dat Iq],[.own (.ol 2 (.flat Iq))],λa K=>splitK a λg0 a=>splitK a λnode0 a=>YB (Zcm g0 node0) λr=>K (r,()) ()⟩
def ZB6 (link0:Int) (a0:List Bool) (a1:Ya):Option Bool :=
 (atI (ZG.links (Ya.view a1)) link0).bind λx0 =>
 (atI a0 (Zm.From x0)).bind λx1 =>
 some x1
def ZwF:Ctr:=D3 Iq (.ptr (.sl (.bool))) (.ptr (.ptr (Zgz))) (.bool) ZB6
def ZBX (s0:List Int) (f0:List Bool×Ya×Unit) (v0:Int):Option ((Int×Unit) ⊕ Int) :=
 if v0<(↑s0.length:Int) then
 (atI s0 v0).bind λx0 =>
 (ZB6 x0 f0.fst f0.snd.fst).bind λy0 =>
 if y0 then
 some (.inr v0)
 else
 some (.inl (Wq (v0+1),()))
 else
 some (.inr (-1))
def ZBW (s0:List Int) (f0:List Bool×Ya×Unit):Option Int :=
 Zp (λv=>ZBX s0 f0 v.1) ((0:Int),())
def c182:Ctr:=D2 (.sl Iq) (.fn 144 (.pair (.ptr (.sl (.bool))) (.pair (.ptr (.ptr (Zgz))) (.unit)))) Iq ZBW
def ZBU (s0:List Int) (f0:List Bool×Ya×Unit):Option Bool :=
 (ZBW s0 f0).bind λy0 =>
 some (Decidable.decide (0<=y0))
def c183:Ctr:=D2 (.sl Iq) (.fn 144 (.pair (.ptr (.sl (.bool))) (.pair (.ptr (.ptr (Zgz))) (.unit)))) (.bool) ZBU
def ZdK (s0:Zh) (a0:Int):Option Bool :=
 some (Decidable.decide (Zh.Node s0=a0))
def ZyW:Ctr:=D2 (XY) (.ptr Iq) (.bool) ZdK
def ZW (s0:List Zh) (f0:Int×Unit) (v0:Int):Option ((Int×Unit) ⊕ Int) :=
 if v0<(↑s0.length:Int) then
 (atI s0 v0).bind λx0 =>
 (ZdK x0 f0.fst).bind λy0 =>
 if y0 then
 some (.inr v0)
 else
 some (.inl (Wq (v0+1),()))
 else
 some (.inr (-1))
def ZK (s0:List Zh) (f0:Int×Unit):Option Int :=
 Zp (λv=>ZW s0 f0 v.1) ((0:Int),())
def ZyX:Ctr:=D2 (.sl (XY)) (.fn 207 (.pair (.ptr Iq) (.unit))) Iq ZK
def Zd1 (list0:List Zh) (node0:Int):Option (Zh×Bool) :=
 (ZK list0 (node0,())).bind λy0 =>
 if 0<=y0 then
 (atI list0 y0).bind λx0 =>
 some (x0,true)
 else
 some ((0,(0,0,()),(0,0,()),()),false)
def ZyY:Ctr:=⟨[.dat (.sl (XY)),.dat Iq],[.dat (XY),.dat (.bool)],λa K=>splitK a λlist0 a=>splitK a λnode0 a=>YB (Zd1 list0 node0) λr=>K (r.1,r.2,()) ()⟩
def Ze1 (s0:Zv) (t0:Zv):Option Zv :=
 some (Min.min (Zv.Early s0) (Zv.Early t0),Max.max (Zv.Late s0) (Zv.Late t0),())
def ZyZ:Ctr:=D2 (Jl) (Jl) (Jl) Ze1
def Vn (s0:Zh) (reached0:Bool) (arrival0:Zv) (slew0:Zv):Option (Zh×Bool) :=
 if reached0 then
 (Ze1 (Zh.ZA s0) arrival0).bind λy0 =>
 (Ze1 (Zh.Xx s0) slew0).bind λy1 =>
 some ((Zh.Node s0,y0,y1,()),reached0)
 else
 some ((Zh.Node s0,arrival0,slew0,()),true)
def Zwn:Ctr:=⟨[.io (.flat (XY)),.io (.flat (.bool)),.dat (Jl),.dat (Jl)],[],λa K=>splitK a λs0 a=>splitK a λreached0 a=>splitK a λarrival0 a=>splitK a λslew0 a=>YB (Vn s0 reached0 arrival0 slew0) λr=>K () (r.1,r.2,())⟩
def Jf (v0:ZG) (l0:Zm):Option Int :=
 (atI (ZG.places v0) (Wq (Int.tdiv (Zm.To l0) 2))).bind λx0 =>
 some (YJ.net x0)
def ZxC:Ctr:=D2 (.ptr (ZgR)) (Jp) Iq Jf
def Zav (v0:ZG) (l0:Zm):Option ZB :=
 (atI (ZG.places v0) (Wq (Int.tdiv (Zm.To l0) 2))).bind λx0 =>
 (atI (Zd.Instances (Zc.Design (ZG.Block v0))) (YJ.instance x0)).bind λx1 =>
 (atI (Zy.Cells (Zc.Library (ZG.Block v0))) (Zi.Cell x1)).bind λx2 =>
 (atI (Zl.Jr x2) (Zm.Index l0)).bind λx3 =>
 some x3
def Zy0:Ctr:=D2 (.ptr (ZgR)) (Jp) (Zk3) Zav
def Zca (x0:Int):Option Bool :=
 some (!Decidable.decide (x0=x0))
def Zy1:Ctr:=D1 Iq (.bool) Zca
def Zdh (x0:Int) (y0:Int):Option Bool :=
 (Zca x0).bind λy1 =>
 if y1 then
 (Zca y0).bind λy2 =>
 if y2 then
 some (Decidable.decide (x0<y0))
 else
 some true
 else
 some (Decidable.decide (x0<y0))
def Zy2:Ctr:=D2 Iq Iq (.bool) Zdh
def VF (x0:Int):Option Bool :=
 some (!Decidable.decide (x0=x0))
def c193:Ctr:=D1 Iq (.bool) VF
def Xl (x0:List Int) (target0:Int) (i0:Int) (j0:Int):Option ((Int×Int×Unit) ⊕ (Int×Bool)) :=
 if i0<j0 then
 (atI x0 (Wq (Int.fdiv (IntKind.wrap IntKind.u64 (Wq (i0+j0))) (2 ^ Min.min (Int.toNat 1) (IntKind.bits IntKind.u64))))).bind λx1 =>
 (Zdh x1 target0).bind λy0 =>
 if y0 then
 some (.inl (Wq (Wq (Int.fdiv (IntKind.wrap IntKind.u64 (Wq (i0+j0))) (2 ^ Min.min (Int.toNat 1) (IntKind.bits IntKind.u64)))+1),j0,()))
 else
 some (.inl (i0,Wq (Int.fdiv (IntKind.wrap IntKind.u64 (Wq (i0+j0))) (2 ^ Min.min (Int.toNat 1) (IntKind.bits IntKind.u64))),()))
 else
 if i0<(↑x0.length:Int) then
 (atI x0 i0).bind λx1 =>
 if x1=target0 then
 some (.inr (i0,true))
 else
 (VF x1).bind λy0 =>
 if y0 then
 (VF target0).bind λy1 =>
 some (.inr (i0,y1))
 else
 some (.inr (i0,false))
 else
 some (.inr (i0,false))
def Y9 (x0:List Int) (target0:Int):Option (Int×Bool) :=
 Zp (λv=>Xl x0 target0 v.1 v.2.1) ((0:Int),(↑x0.length:Int),())
def c194:Ctr:=⟨[.dat (.sl Iq),.dat Iq],[.dat Iq,.dat (.bool)],λa K=>splitK a λx0 a=>splitK a λtarget0 a=>YB (Y9 x0 target0) λr=>K (r.1,r.2,()) ()⟩
def Zdy (axis0:List Int) (x0:Int):Option ((List J6)×Int) :=
 (atI axis0 0).bind λx1 =>
 (atI axis0 (Wq ((↑axis0.length:Int)-1))).bind λx2 =>
 (Y9 axis0 (Min.min (Max.max x0 x1) x2)).bind λy0 =>
 if y0.snd then
 some ([(y0.fst,(1:Int),())],(1:Int))
 else
 (atI axis0 y0.fst).bind λx3 =>
 (atI axis0 (Wq (y0.fst-1))).bind λx4 =>
 some ([(Wq (y0.fst-(1:Int)),Wq (x3-Min.min (Max.max x0 x1) x2),()),(y0.fst,Wq (Min.min (Max.max x0 x1) x2-x4),())],Wq (x3-x4))
def Zy3:Ctr:=⟨[.dat (.sl Iq),.dat Iq],[.own (.ol 362 (.flat (Zo5))),.dat Iq],λa K=>splitK a λaxis0 a=>splitK a λx0 a=>YB (Zdy axis0 x0) λr=>K (r.1,r.2,()) ()⟩
def Zar (a0:Int) (b0:Int) (mode0:Int):Option Int :=
 Zw (b0≠(0:Int)) <|
 if mode0=0 then
 if Int.tmod a0 b0<0 then
 some (Wq (Wq (Int.tdiv a0 b0)-1))
 else
 if mode0=1 then
 if 0<Int.tmod a0 b0 then
 some (Wq (Wq (Int.tdiv a0 b0)+1))
 else
 some (Wq (Int.tdiv a0 b0))
 else
 some (Wq (Int.tdiv a0 b0))
 else
 if mode0=1 then
 if 0<Int.tmod a0 b0 then
 some (Wq (Wq (Int.tdiv a0 b0)+1))
 else
 some (Wq (Int.tdiv a0 b0))
 else
 some (Wq (Int.tdiv a0 b0))
def c196:Ctr:=D3 Iq Iq Iq Iq Zar
def Xh (a0:Zx) (weights1:List J6×Int) (v1:Int) (x0:J6) (v2:Int) (v3:Int):Option ((Int×Int×Unit) ⊕ ((Int×Int×Unit) ⊕ Int)) :=
 if v3<(↑(List.length weights1.fst):Int) then
 (atI weights1.fst v3).bind λx1 =>
 (atI (Zx.Values a0) (Wq (Wq (J6.index x0*(↑(List.length (Zx.Loads a0)):Int))+J6.index x1))).bind λx2 =>
 some (.inl (Wq (v2+Wq (Wq (x2*J6.part x0)*J6.part x1)),Wq (v3+1),()))
 else
 some (.inr (.inl (v2,Wq (v1+1),())))
def Ym (a0:Zx) (a3:Int) (weights0:List J6×Int) (weights1:List J6×Int) (v0:Int) (v1:Int):Option ((Int×Int×Unit) ⊕ Int) :=
 if v1<(↑(List.length weights0.fst):Int) then
 (atI weights0.fst v1).bind λx0 =>
 Zp (λv=>Xh a0 weights1 v1 x0 v.1 v.2.1) (v0,(0:Int),())
 else
 (Zar v0 (Wq (weights0.snd*weights1.snd)) a3).bind λy0 =>
 some (.inr y0)
def Je (a0:Zx) (a1:Int) (a2:Int) (a3:Int):Option Int :=
 (Zdy (Zx.Zew a0) a1).bind λy0 =>
 (Zdy (Zx.Loads a0) a2).bind λy1 =>
 Zp (λv=>Ym a0 a3 y0 y1 v.1 v.2.1) ((0:Int),(0:Int),())
def Zy4:Ctr:=D4 (JX) Iq Iq Iq Iq Je
def Vw (c0:Zt) (kind0:Int) (mode0:Int):Option Int :=
 if kind0=1 then
 if mode0=0 then
 some (Zt.Zal c0)
 else
 if kind0=1 then
 some (Zt.Zbs c0)
 else
 if mode0=0 then
 some (Zt.Zam c0)
 else
 some (Zt.Zb8 c0)
 else
 if kind0=1 then
 some (Zt.Zbs c0)
 else
 if mode0=0 then
 some (Zt.Zam c0)
 else
 some (Zt.Zb8 c0)
def c198:Ctr:=D3 (Xf) Iq Iq Iq Vw
def Ze9 (t0:Int) (thousandths0:Int) (mode0:Int):Option Int :=
 (Zar (Wq (t0*thousandths0)) 1000 mode0).bind λy0 =>
 some y0
def Zy5:Ctr:=D3 Iq Iq Iq Iq Ze9
def Q6 (a0:ZG) (a1:Zt) (a2:Int) (a3:Int) (a4:Int):Option Int :=
 (atI (ZG.links a0) a2).bind λx0 =>
 (Jf a0 x0).bind λy0 =>
 if Zm.Kind x0=1 then
 (atI (ZG.loads a0) y0).bind λx1 =>
 (Zav a0 x0).bind λy1 =>
 (atI (ZB.Delay y1) (Int.tmod (Zm.To x0) 2)).bind λx2 =>
 (Je x2 a3 x1 a4).bind λy2 =>
 (Vw a1 (Zm.Kind x0) a4).bind λy3 =>
 (Ze9 y2 y3 a4).bind λy4 =>
 some y4
 else
 (atI (ZG.ZfX a0) y0).bind λx1 =>
 (atI x1 (Zm.Index x0)).bind λx2 =>
 (Zar x2 1000 a4).bind λy5 =>
 (Vw a1 (Zm.Kind x0) a4).bind λy3 =>
 (Ze9 y5 y3 a4).bind λy4 =>
 some y4
def Zy6:Ctr:=⟨[.dat (.ptr (ZgR)),.dat (Xf),.dat Iq,.dat Iq,.dat Iq],[.dat Iq],λa K=>splitK a λa0 a=>splitK a λa1 a=>splitK a λa2 a=>splitK a λa3 a=>splitK a λa4 a=>YB (Q6 a0 a1 a2 a3 a4) λr=>K (r,()) ()⟩
def Zau (n0:Int) (low0:Int) (high0:Int):Option ((Int×Int×Unit) ⊕ Int) :=
 if low0<high0 then
 if Wq (Wq (Int.tdiv (Wq (Wq (low0+high0)+1)) 2)*Wq (Int.tdiv (Wq (Wq (low0+high0)+1)) 2))<=n0 then
 some (.inl (Wq (Int.tdiv (Wq (Wq (low0+high0)+1)) 2),high0,()))
 else
 some (.inl (low0,Wq (Wq (Int.tdiv (Wq (Wq (low0+high0)+1)) 2)-1),()))
 else
 some (.inr low0)
def ZhT (n0:Int):Option Int :=
 Zp (λv=>Zau n0 v.1 v.2.1) ((0:Int),(3000000000:Int),())
def c201:Ctr:=D1 Iq Iq ZhT
def Zd2 (slew0:Int) (delay0:Int) (mode0:Int):Option Int :=
 (ZhT (Wq (Wq (Wq (Wq (500*slew0)*500)*slew0)+Wq (delay0*delay0)))).bind λy0 =>
 if mode0=1 then
 if Wq (y0*y0)<Wq (Wq (Wq (Wq (500*slew0)*500)*slew0)+Wq (delay0*delay0)) then
 some (Wq (Wq (Int.tdiv y0 500)+1))
 else
 (Zar y0 500 mode0).bind λy1 =>
 some y1
 else
 (Zar y0 500 mode0).bind λy1 =>
 some y1
def Zy7:Ctr:=D3 Iq Iq Iq Iq Zd2
def YE (v0:ZG) (link0:Int) (slew0:Int) (mode0:Int):Option Int :=
 (atI (ZG.links v0) link0).bind λx0 =>
 (Jf v0 x0).bind λy0 =>
 if Zm.Kind x0=1 then
 (atI (ZG.loads v0) y0).bind λx1 =>
 (Zav v0 x0).bind λy1 =>
 (atI (ZB.Xx y1) (Int.tmod (Zm.To x0) 2)).bind λx2 =>
 (Je x2 slew0 x1 mode0).bind λy2 =>
 some (Min.min y2 1000000)
 else
 (atI (ZG.ZfX v0) y0).bind λx1 =>
 (atI x1 (Zm.Index x0)).bind λx2 =>
 (Zd2 slew0 x2 mode0).bind λy3 =>
 some (Min.min y3 1000000)
def c203:Ctr:=D4 (.ptr (ZgR)) Iq Iq Iq Iq YE
def Jg (a0:ZG) (a1:Zt) (a2:Int) (a3:Zv):Option (Zv×Zv) :=
 (Q6 a0 a1 a2 (Zv.Early a3) 0).bind λy0 =>
 (Q6 a0 a1 a2 (Zv.Late a3) 0).bind λy1 =>
 (Q6 a0 a1 a2 (Zv.Early a3) 1).bind λy2 =>
 (Q6 a0 a1 a2 (Zv.Late a3) 1).bind λy3 =>
 (atI (ZG.links a0) a2).bind λx0 =>
 if 0<(↑(List.length (ZG.extras a0)):Int) then
 if Zm.Kind x0=2 then
 (Jf a0 x0).bind λy4 =>
 (atI (ZG.extras a0) y4).bind λx1 =>
 (YE a0 a2 (Zv.Early a3) 0).bind λy5 =>
 (YE a0 a2 (Zv.Late a3) 0).bind λy6 =>
 (YE a0 a2 (Zv.Early a3) 1).bind λy7 =>
 (YE a0 a2 (Zv.Late a3) 1).bind λy8 =>
 some ((Wq (Min.min y0 y1-x1),Wq (Max.max y2 y3+x1),()),(Min.min y5 y6,Max.max y7 y8,()))
 else
 (YE a0 a2 (Zv.Early a3) 0).bind λy5 =>
 (YE a0 a2 (Zv.Late a3) 0).bind λy6 =>
 (YE a0 a2 (Zv.Early a3) 1).bind λy7 =>
 (YE a0 a2 (Zv.Late a3) 1).bind λy8 =>
 some ((Min.min y0 y1,Max.max y2 y3,()),(Min.min y5 y6,Max.max y7 y8,()))
 else
 (YE a0 a2 (Zv.Early a3) 0).bind λy5 =>
 (YE a0 a2 (Zv.Late a3) 0).bind λy6 =>
 (YE a0 a2 (Zv.Early a3) 1).bind λy7 =>
 (YE a0 a2 (Zv.Late a3) 1).bind λy8 =>
 some ((Min.min y0 y1,Max.max y2 y3,()),(Min.min y5 y6,Max.max y7 y8,()))
def Zy8:Ctr:=⟨[.dat (.ptr (ZgR)),.dat (Xf),.dat Iq,.dat (Jl)],[.dat (Jl),.dat (Jl)],λa K=>splitK a λa0 a=>splitK a λa1 a=>splitK a λa2 a=>splitK a λa3 a=>YB (Jg a0 a1 a2 a3) λr=>K (r.1,r.2,()) ()⟩
def Ze2 (s0:Zv) (t0:Zv):Option Zv :=
 some (Wq (Zv.Early s0+Zv.Early t0),Wq (Zv.Late s0+Zv.Late t0),())
def Zy9:Ctr:=D2 (Jl) (Jl) (Jl) Ze2
def Zex (a0:Ya) (a1:Zt) (a3:Ze) (to0:List Int) (v0:Int) (c0:Int) (c1:Int) (c2:Int) (c3:Int) (c4:Int) (c5:Bool):Option ((Int×Int×Int×Int×Int×Int×Bool×Unit) ⊕ (Bool×Zh)) :=
 if v0<(↑to0.length:Int) then
 (atI to0 v0).bind λx0 =>
 (atI (ZG.links (Ya.view a0)) x0).bind λx1 =>
 (atI (Ze.Reached a3) (Zm.From x1)).bind λx2 =>
 if x2 then
 (atI (Ze.Xx a3) (Zm.From x1)).bind λx3 =>
 (Jg (Ya.view a0) a1 x0 x3).bind λy0 =>
 (atI (Ze.ZA a3) (Zm.From x1)).bind λx4 =>
 (Ze2 x4 y0.fst).bind λy1 =>
 (Vn (c0,(c1,c2,()),(c3,c4,()),()) c5 y1 y0.snd).bind λy2 =>
 some (.inl (Wq (v0+1),y2.fst.fst,y2.fst.snd.fst.fst,y2.fst.snd.fst.snd.fst,y2.fst.snd.snd.fst.fst,y2.fst.snd.snd.fst.snd.fst,y2.snd,()))
 else
 some (.inl (Wq (v0+1),c0,c1,c2,c3,c4,c5,()))
 else
 if c5 then
 some (.inr (true,(c0,(c1,c2,()),(c3,c4,()),())))
 else
 some (.inr (false,(0,(0,0,()),(0,0,()),())))
def YO (a0:Ya) (a1:Zt) (a3:Ze) (to0:List Int) (v0:Int) (c0:Int) (c1:Int) (c2:Int) (c3:Int) (c4:Int) (c5:Bool):Option ((Int×Int×Int×Int×Int×Int×Bool×Unit) ⊕ (Bool×Zh)) :=
 if v0<(↑to0.length:Int) then
 (atI to0 v0).bind λx0 =>
 (atI (ZG.links (Ya.view a0)) x0).bind λx1 =>
 (atI (Ze.Reached a3) (Zm.From x1)).bind λx2 =>
 if x2 then
 (atI (Ze.Xx a3) (Zm.From x1)).bind λx3 =>
 (Jg (Ya.view a0) a1 x0 x3).bind λy0 =>
 (atI (Ze.ZA a3) (Zm.From x1)).bind λx4 =>
 (Ze2 x4 y0.fst).bind λy1 =>
 (Vn (c0,(c1,c2,()),(c3,c4,()),()) c5 y1 y0.snd).bind λy2 =>
 some (.inl (Wq (v0+1),y2.fst.fst,y2.fst.snd.fst.fst,y2.fst.snd.fst.snd.fst,y2.fst.snd.snd.fst.fst,y2.fst.snd.snd.fst.snd.fst,y2.snd,()))
 else
 some (.inl (Wq (v0+1),c0,c1,c2,c3,c4,c5,()))
 else
 if c5 then
 some (.inr (true,(c0,(c1,c2,()),(c3,c4,()),())))
 else
 some (.inr (false,(0,(0,0,()),(0,0,()),())))
def Y1 (a0:Ya) (a1:Zt) (a2:List Zh) (a3:Ze) (a4:Int):Option (Bool×Zh) :=
 (Zd1 a2 a4).bind λy0 =>
 if y0.snd then
 (Vn (a4,(0,0,()),(0,0,()),()) false y0.fst.snd.fst y0.fst.snd.snd.fst).bind λy1 =>
 (Zcm a0 a4).bind λy2 =>
 Zp (λv=>Zex a0 a1 a3 y2 v.1 v.2.1 v.2.2.1 v.2.2.2.1 v.2.2.2.2.1 v.2.2.2.2.2.1 v.2.2.2.2.2.2.1) ((0:Int),y1.fst.fst,y1.fst.snd.fst.fst,y1.fst.snd.fst.snd.fst,y1.fst.snd.snd.fst.fst,y1.fst.snd.snd.fst.snd.fst,y1.snd,())
 else
 (Zcm a0 a4).bind λy2 =>
 Zp (λv=>YO a0 a1 a3 y2 v.1 v.2.1 v.2.2.1 v.2.2.2.1 v.2.2.2.2.1 v.2.2.2.2.2.1 v.2.2.2.2.2.2.1) ((0:Int),a4,(0:Int),(0:Int),(0:Int),(0:Int),false,())
def c206:Ctr:=⟨[.dat (.ptr (Zgz)),.dat (Xf),.dat (.sl (XY)),.dat (Zb1),.dat Iq],[.dat (.bool),.dat (XY)],λa K=>splitK a λa0 a=>splitK a λa1 a=>splitK a λa2 a=>splitK a λa3 a=>splitK a λa4 a=>YB (Y1 a0 a1 a2 a3 a4) λr=>K (r.1,r.2,()) ()⟩
def ZB0 (a0:Ya) (a1:Zt) (a2:List Zh) (a4:List Int) (a5:List Int) (v0:List Int) (v1:Int) (l0:List Bool) (l1:List Zv) (l2:List Zv) (l3:List Bool):Option (((List Int)×Int×(List Bool)×(List Zv)×(List Zv)×(List Bool)×Unit) ⊕ ((List Int)×Bool×Ze)) :=
 if v1<(↑a5.length:Int) then
 (atI a5 v1).bind λx0 =>
 (ZBY a4 x0).bind λy0 =>
 if y0 then
 Zw ((List.length v0+List.length [x0])*(8:Nat)<=(140737488355328:Nat)) <|
 (Y1 a0 a1 a2 (l0,l1,l2,()) x0).bind λy1 =>
 if y1.fst then
 (JB y1.snd.snd.fst).bind λy2 =>
 if y2 then
 (atI l0 x0).bind λx1 =>
 if (y1.fst == x1)=true then
 (atI l1 x0).bind λx2 =>
 if (Decidable.decide (y1.snd.snd.fst.fst=Zv.Early x2)&&Decidable.decide (y1.snd.snd.fst.snd.fst=Zv.Late x2))=true then
 (atI l2 x0).bind λx3 =>
 (atI l3 x0).bind λx4 =>
 some (.inl (v0++[x0],Wq (v1+(1:Int)),List.set l0 (Int.toNat x0) y1.fst,List.set l1 (Int.toNat x0) y1.snd.snd.fst,List.set l2 (Int.toNat x0) y1.snd.snd.snd.fst,List.set l3 (Int.toNat x0) !(Decidable.decide (y1.snd.snd.snd.fst.fst=Zv.Early x3)&&Decidable.decide (y1.snd.snd.snd.fst.snd.fst=Zv.Late x3)),()))
 else
 (atI l3 x0).bind λx3 =>
 (atI l2 x0).bind λx4 =>
 some (.inl (v0++[x0],Wq (v1+(1:Int)),List.set l0 (Int.toNat x0) y1.fst,List.set l1 (Int.toNat x0) y1.snd.snd.fst,List.set l2 (Int.toNat x0) y1.snd.snd.snd.fst,List.set l3 (Int.toNat x0) true,()))
 else
 (atI l3 x0).bind λx2 =>
 (atI l1 x0).bind λx3 =>
 (atI l2 x0).bind λx4 =>
 some (.inl (v0++[x0],Wq (v1+(1:Int)),List.set l0 (Int.toNat x0) y1.fst,List.set l1 (Int.toNat x0) y1.snd.snd.fst,List.set l2 (Int.toNat x0) y1.snd.snd.snd.fst,List.set l3 (Int.toNat x0) true,()))
 else
 some (.inr (([]:List Int),false,(l0,l1,l2,())))
 else
 (atI l0 x0).bind λx1 =>
 if (y1.fst == x1)=true then
 (atI l1 x0).bind λx2 =>
 if (Decidable.decide (y1.snd.snd.fst.fst=Zv.Early x2)&&Decidable.decide (y1.snd.snd.fst.snd.fst=Zv.Late x2))=true then
 (atI l2 x0).bind λx3 =>
 (atI l3 x0).bind λx4 =>
 some (.inl (v0++[x0],Wq (v1+(1:Int)),List.set l0 (Int.toNat x0) y1.fst,List.set l1 (Int.toNat x0) y1.snd.snd.fst,List.set l2 (Int.toNat x0) y1.snd.snd.snd.fst,List.set l3 (Int.toNat x0) !(Decidable.decide (y1.snd.snd.snd.fst.fst=Zv.Early x3)&&Decidable.decide (y1.snd.snd.snd.fst.snd.fst=Zv.Late x3)),()))
 else
 (atI l3 x0).bind λx3 =>
 (atI l2 x0).bind λx4 =>
 some (.inl (v0++[x0],Wq (v1+(1:Int)),List.set l0 (Int.toNat x0) y1.fst,List.set l1 (Int.toNat x0) y1.snd.snd.fst,List.set l2 (Int.toNat x0) y1.snd.snd.snd.fst,List.set l3 (Int.toNat x0) true,()))
 else
 (atI l3 x0).bind λx2 =>
 (atI l1 x0).bind λx3 =>
 (atI l2 x0).bind λx4 =>
 some (.inl (v0++[x0],Wq (v1+(1:Int)),List.set l0 (Int.toNat x0) y1.fst,List.set l1 (Int.toNat x0) y1.snd.snd.fst,List.set l2 (Int.toNat x0) y1.snd.snd.snd.fst,List.set l3 (Int.toNat x0) true,()))
 else
 (Zcm a0 x0).bind λy3 =>
 (ZBU y3 (l3,a0,())).bind λy4 =>
 if y4 then
 Zw ((List.length v0+List.length [x0])*(8:Nat)<=(140737488355328:Nat)) <|
 (Y1 a0 a1 a2 (l0,l1,l2,()) x0).bind λy1 =>
 if y1.fst then
 (JB y1.snd.snd.fst).bind λy2 =>
 if y2 then
 (atI l0 x0).bind λx1 =>
 if (y1.fst == x1)=true then
 (atI l1 x0).bind λx2 =>
 if (Decidable.decide (y1.snd.snd.fst.fst=Zv.Early x2)&&Decidable.decide (y1.snd.snd.fst.snd.fst=Zv.Late x2))=true then
 (atI l2 x0).bind λx3 =>
 (atI l3 x0).bind λx4 =>
 some (.inl (v0++[x0],Wq (v1+(1:Int)),List.set l0 (Int.toNat x0) y1.fst,List.set l1 (Int.toNat x0) y1.snd.snd.fst,List.set l2 (Int.toNat x0) y1.snd.snd.snd.fst,List.set l3 (Int.toNat x0) !(Decidable.decide (y1.snd.snd.snd.fst.fst=Zv.Early x3)&&Decidable.decide (y1.snd.snd.snd.fst.snd.fst=Zv.Late x3)),()))
 else
 (atI l3 x0).bind λx3 =>
 (atI l2 x0).bind λx4 =>
 some (.inl (v0++[x0],Wq (v1+(1:Int)),List.set l0 (Int.toNat x0) y1.fst,List.set l1 (Int.toNat x0) y1.snd.snd.fst,List.set l2 (Int.toNat x0) y1.snd.snd.snd.fst,List.set l3 (Int.toNat x0) true,()))
 else
 (atI l3 x0).bind λx2 =>
 (atI l1 x0).bind λx3 =>
 (atI l2 x0).bind λx4 =>
 some (.inl (v0++[x0],Wq (v1+(1:Int)),List.set l0 (Int.toNat x0) y1.fst,List.set l1 (Int.toNat x0) y1.snd.snd.fst,List.set l2 (Int.toNat x0) y1.snd.snd.snd.fst,List.set l3 (Int.toNat x0) true,()))
 else
 some (.inr (([]:List Int),false,(l0,l1,l2,())))
 else
 (atI l0 x0).bind λx1 =>
 if (y1.fst == x1)=true then
 (atI l1 x0).bind λx2 =>
 if (Decidable.decide (y1.snd.snd.fst.fst=Zv.Early x2)&&Decidable.decide (y1.snd.snd.fst.snd.fst=Zv.Late x2))=true then
 (atI l2 x0).bind λx3 =>
 (atI l3 x0).bind λx4 =>
 some (.inl (v0++[x0],Wq (v1+(1:Int)),List.set l0 (Int.toNat x0) y1.fst,List.set l1 (Int.toNat x0) y1.snd.snd.fst,List.set l2 (Int.toNat x0) y1.snd.snd.snd.fst,List.set l3 (Int.toNat x0) !(Decidable.decide (y1.snd.snd.snd.fst.fst=Zv.Early x3)&&Decidable.decide (y1.snd.snd.snd.fst.snd.fst=Zv.Late x3)),()))
 else
 (atI l3 x0).bind λx3 =>
 (atI l2 x0).bind λx4 =>
 some (.inl (v0++[x0],Wq (v1+(1:Int)),List.set l0 (Int.toNat x0) y1.fst,List.set l1 (Int.toNat x0) y1.snd.snd.fst,List.set l2 (Int.toNat x0) y1.snd.snd.snd.fst,List.set l3 (Int.toNat x0) true,()))
 else
 (atI l3 x0).bind λx2 =>
 (atI l1 x0).bind λx3 =>
 (atI l2 x0).bind λx4 =>
 some (.inl (v0++[x0],Wq (v1+(1:Int)),List.set l0 (Int.toNat x0) y1.fst,List.set l1 (Int.toNat x0) y1.snd.snd.fst,List.set l2 (Int.toNat x0) y1.snd.snd.snd.fst,List.set l3 (Int.toNat x0) true,()))
 else
 some (.inl (v0,Wq (v1+1),l0,l1,l2,l3,()))
 else
 some (.inr (v0,true,(l0,l1,l2,())))
def ZCh (a0:Ya) (a1:Zt) (a2:List Zh) (a3:Ze) (a4:List Int) (a5:List Int):Option ((List Int)×Bool×Ze) :=
 (YA (Ya.view a0)).bind λy0 =>
 Zw ((0:Int)<=y0) <|
 Zw (y0<=y0) <|
 Zw (y0<=(4611686018427387904:Int)) <|
 Zw ((↑(1:Nat):Int)*y0<=(281474976710656:Int)) <|
 Zp (λv=>ZB0 a0 a1 a2 a4 a5 v.1 v.2.1 v.2.2.1 v.2.2.2.1 v.2.2.2.2.1 v.2.2.2.2.2.1) (([]:List Int),(0:Int),Ze.Reached a3,Ze.ZA a3,Ze.Xx a3,List.replicate (Int.toNat y0) false,())
def Zza:Ctr:=⟨[.dat (.ptr (Zgz)),.dat (Xf),.dat (.sl (XY)),.back (Zgi),.dat (.sl Iq),.dat (.sl Iq)],[.own (.ol 2 (.flat Iq)),.dat (.bool)],λa K=>splitK a λa0 a=>splitK a λa1 a=>splitK a λa2 a=>splitK a λa3 a=>splitK a λa4 a=>splitK a λa5 a=>YB (ZCh a0 a1 a2 a3 a4 a5) λr=>K (r.1,r.2.1,()) (r.2.2,())⟩
def ZB3 (b0:Zc) (c0:Zt) (broken0:List Int) (sources0:List Zh) (t0:Ze) (dirty0:List Int):Option (Ze×(List Int)×Int) :=
 (XE b0 c0 broken0 sources0 (Option.some t0)).bind λy0 =>
 if y0.snd.snd=0 then
 (y0.fst).bind λy1 =>
 (ZCb (Ya.view y1) dirty0).bind λy2 =>
 if y2 then
 (ZCf t0).bind λy3 =>
 (ZCh y1 c0 sources0 y3 dirty0 y0.snd.fst).bind λy4 =>
 if y4.snd.fst then
 some (y4.snd.snd,y4.fst,0)
 else
 some ((([]:List Bool),([]:List Zv),([]:List Zv),()),([]:List Int),(3:Int))
 else
 some ((([]:List Bool),([]:List Zv),([]:List Zv),()),([]:List Int),(2:Int))
 else
 some ((([]:List Bool),([]:List Zv),([]:List Zv),()),([]:List Int),y0.snd.snd)
def c208:Ctr:=⟨[.dat (YC),.dat (Xf),.dat (.sl Iq),.dat (.sl (XY)),.dat (Zb1),.dat (.sl Iq)],[.own (Zgi),.own (.ol 2 (.flat Iq)),.dat Iq],λa K=>splitK a λb0 a=>splitK a λc0 a=>splitK a λbroken0 a=>splitK a λsources0 a=>splitK a λt0 a=>splitK a λdirty0 a=>YB (ZB3 b0 c0 broken0 sources0 t0 dirty0) λr=>K (r.1,r.2.1,r.2.2,()) ()⟩
def V7 (a1:Ze) (v0:Int):Option ((Int×Unit) ⊕ Bool) :=
 if v0<(↑(List.length (Ze.Reached a1)):Int) then
 (atI (Ze.ZA a1) v0).bind λx0 =>
 (JH x0).bind λy0 =>
 if y0 then
 (atI (Ze.Xx a1) v0).bind λx1 =>
 (Za0 x1).bind λy1 =>
 if y1 then
 (atI (Ze.Reached a1) v0).bind λx2 =>
 if x2 then
 some (.inl (Wq (v0+1),()))
 else
 if (Decidable.decide (Zv.Early x0=0)&&Decidable.decide (Zv.Late x0=0))=true then
 if (Decidable.decide (Zv.Early x1=0)&&Decidable.decide (Zv.Late x1=0))=true then
 some (.inl (Wq (v0+1),()))
 else
 some (.inr false)
 else
 some (.inr false)
 else
 some (.inr false)
 else
 some (.inr false)
 else
 some (.inr true)
def Zdu (a0:Int) (a1:Ze):Option Bool :=
 if (↑(List.length (Ze.Reached a1)):Int)=a0 then
 if (↑(List.length (Ze.ZA a1)):Int)=a0 then
 if (↑(List.length (Ze.Xx a1)):Int)=a0 then
 Zp (λv=>V7 a1 v.1) ((0:Int),())
 else
 some false
 else
 some false
 else
 some false
def Zzb:Ctr:=D2 Iq (Zb1) (.bool) Zdu
def ZdG (b0:Zc) (c0:Zt) (broken0:List Int) (sources0:List Zh) (t0:Ze):Option Int :=
 (Qs b0).bind λy0 =>
 if y0 then
 (Zcz c0).bind λy1 =>
 if y1 then
 (Y6 b0).bind λy2 =>
 (Zdu y2 t0).bind λy3 =>
 if y3 then
 (ZaI b0 c0 broken0 sources0).bind λy4 =>
 some y4.snd
 else
 some 1
 else
 some 1
 else
 some 1
def c210:Ctr:=⟨[.dat (YC),.dat (Xf),.dat (.sl Iq),.dat (.sl (XY)),.dat (Zb1)],[.dat Iq],λa K=>splitK a λb0 a=>splitK a λc0 a=>splitK a λbroken0 a=>splitK a λsources0 a=>splitK a λt0 a=>YB (ZdG b0 c0 broken0 sources0 t0) λr=>K (r,()) ()⟩
def ZCl (b0:Zc) (list0:List Int):Option Bool :=
 (Y6 b0).bind λy0 =>
 (Zdt list0 y0).bind λy1 =>
 some y1
def ZDV:Ctr:=D2 (YC) (.sl Iq) (.bool) ZCl
def ZfP (t0:Ze):Option Ze :=
 Zw ((List.length (([]:List Bool))+List.length (Ze.Reached t0))*(1:Nat)<=(140737488355328:Nat)) <|
 Zw ((List.length (([]:List (Int×Int×Unit)))+List.length (Ze.ZA t0))*(16:Nat)<=(140737488355328:Nat)) <|
 Zw ((List.length (([]:List (Int×Int×Unit)))+List.length (Ze.Xx t0))*(16:Nat)<=(140737488355328:Nat)) <|
 some (([]:List Bool)++Ze.Reached t0,([]:List (Int×Int×Unit))++Ze.ZA t0,([]:List (Int×Int×Unit))++Ze.Xx t0,())
def c212:Ctr:=⟨[.dat (Zb1)],[.own (Zgi)],λa K=>splitK a λt0 a=>YB (ZfP t0) λr=>K (r,()) ()⟩
def ZCa (list0:List Int) (x0:Int) (i0:Int):Option ((Int×Unit) ⊕ Bool) :=
 if i0<(↑list0.length:Int) then
 (atI list0 i0).bind λx1 =>
 if x1=x0 then
 some (.inr true)
 else
 some (.inl (Wq (i0+1),()))
 else
 some (.inr false)
def ZCj (list0:List Int) (x0:Int):Option Bool :=
 Zp (λv=>ZCa list0 x0 v.1) ((0:Int),())
def c213:Ctr:=D2 (.sl Iq) Iq (.bool) ZCj
def ZfQ (t0:Ze) (node0:Int) (reached0:Bool) (x0:Zh):Option (Bool×Ze) :=
 if reached0 then
 (atI (Ze.Reached t0) node0).bind λx1 =>
 if (x1 == reached0)=true then
 (atI (Ze.ZA t0) node0).bind λx2 =>
 if (Decidable.decide (Zv.Early x2=Zv.Early (Zh.ZA x0))&&Decidable.decide (Zv.Late x2=Zv.Late (Zh.ZA x0)))=true then
 (atI (Ze.Xx t0) node0).bind λx3 =>
 some (!(Decidable.decide (Zv.Early x3=Zv.Early (Zh.Xx x0))&&Decidable.decide (Zv.Late x3=Zv.Late (Zh.Xx x0))),(List.set (Ze.Reached t0) (Int.toNat node0) reached0,List.set (Ze.ZA t0) (Int.toNat node0) (Zh.ZA x0),List.set (Ze.Xx t0) (Int.toNat node0) (Zh.Xx x0),()))
 else
 (atI (Ze.Xx t0) node0).bind λx3 =>
 some (true,(List.set (Ze.Reached t0) (Int.toNat node0) reached0,List.set (Ze.ZA t0) (Int.toNat node0) (Zh.ZA x0),List.set (Ze.Xx t0) (Int.toNat node0) (Zh.Xx x0),()))
 else
 (atI (Ze.ZA t0) node0).bind λx2 =>
 (atI (Ze.Xx t0) node0).bind λx3 =>
 some (true,(List.set (Ze.Reached t0) (Int.toNat node0) reached0,List.set (Ze.ZA t0) (Int.toNat node0) (Zh.ZA x0),List.set (Ze.Xx t0) (Int.toNat node0) (Zh.Xx x0),()))
 else
 (atI (Ze.Reached t0) node0).bind λx1 =>
 if (x1 == reached0)=true then
 (atI (Ze.ZA t0) node0).bind λx2 =>
 if (Decidable.decide (Zv.Early x2=0)&&Decidable.decide (Zv.Late x2=0))=true then
 (atI (Ze.Xx t0) node0).bind λx3 =>
 some (!(Decidable.decide (Zv.Early x3=0)&&Decidable.decide (Zv.Late x3=0)),(List.set (Ze.Reached t0) (Int.toNat node0) reached0,List.set (Ze.ZA t0) (Int.toNat node0) (0,0,()),List.set (Ze.Xx t0) (Int.toNat node0) (0,0,()),()))
 else
 (atI (Ze.Xx t0) node0).bind λx3 =>
 some (true,(List.set (Ze.Reached t0) (Int.toNat node0) reached0,List.set (Ze.ZA t0) (Int.toNat node0) (0,0,()),List.set (Ze.Xx t0) (Int.toNat node0) (0,0,()),()))
 else
 (atI (Ze.ZA t0) node0).bind λx2 =>
 (atI (Ze.Xx t0) node0).bind λx3 =>
 some (true,(List.set (Ze.Reached t0) (Int.toNat node0) reached0,List.set (Ze.ZA t0) (Int.toNat node0) (0,0,()),List.set (Ze.Xx t0) (Int.toNat node0) (0,0,()),()))
def ZDW:Ctr:=⟨[.back (Zgi),.dat Iq,.dat (.bool),.dat (XY)],[.dat (.bool)],λa K=>splitK a λt0 a=>splitK a λnode0 a=>splitK a λreached0 a=>splitK a λx0 a=>YB (ZfQ t0 node0 reached0 x0) λr=>K (r.1,()) (r.2,())⟩
def ZB7 (a0:Zc) (a1:Zt) (a3:List Zh) (l09Links0:List Zm) (l09Live0:List Bool) (v0:List Int) (v1:Int) (c0:List Bool) (c1:List Zv) (c2:List Zv) (l0:List Bool) (l1:List Zv) (l2:List Zv) (l3:List Bool) (x0:Int) (v2:Bool) (v3:Int):Option ((Bool×Int×Unit) ⊕ (((List Int)×Int×(List Bool)×(List Zv)×(List Zv)×(List Bool)×(List Zv)×(List Zv)×(List Bool)×Unit) ⊕ (Ze×(List Int)×Bool))) :=
 if v3<(↑l09Links0.length:Int) then
 if v2 then
 some (.inl (true,Wq (v3+1),()))
 else
 (atI l09Live0 v3).bind λx1 =>
 if x1 then
 (atI l09Links0 v3).bind λx2 =>
 if Zm.To x2=x0 then
 (atI l3 (Zm.From x2)).bind λx3 =>
 some (.inl (x3,Wq (v3+1),()))
 else
 some (.inl (false,Wq (v3+1),()))
 else
 some (.inl (false,Wq (v3+1),()))
 else
 if v2 then
 (VP a0 a1 l09Links0 l09Live0 a3 (l0,l1,l2,()) x0).bind λy0 =>
 if y0.fst then
 (JH y0.snd.snd.fst).bind λy1 =>
 if y1 then
 (ZfQ (l0,l1,l2,()) x0 y0.fst y0.snd).bind λy2 =>
 (atI l3 x0).bind λx1 =>
 Zw ((List.length v0+List.length [x0])*(8:Nat)<=(140737488355328:Nat)) <|
 some (.inr (.inl (v0++[x0],Wq (v1+(1:Int)),c0,c1,c2,y2.snd.fst,y2.snd.snd.fst,y2.snd.snd.snd.fst,List.set l3 (Int.toNat x0) y2.fst,())))
 else
 some (.inr (.inr ((([]:List Bool),([]:List Zv),([]:List Zv),()),([]:List Int),false)))
 else
 (ZfQ (l0,l1,l2,()) x0 y0.fst y0.snd).bind λy2 =>
 (atI l3 x0).bind λx1 =>
 Zw ((List.length v0+List.length [x0])*(8:Nat)<=(140737488355328:Nat)) <|
 some (.inr (.inl (v0++[x0],Wq (v1+(1:Int)),c0,c1,c2,y2.snd.fst,y2.snd.snd.fst,y2.snd.snd.snd.fst,List.set l3 (Int.toNat x0) y2.fst,())))
 else
 some (.inr (.inl (v0,Wq (v1+1),c0,c1,c2,l0,l1,l2,l3,())))
def ZB4 (a0:Zc) (a1:Zt) (a3:List Zh) (a5:List Int) (l09Links0:List Zm) (l09Live0:List Bool) (TopologicalOrder0:List Int×Int) (v0:List Int) (v1:Int) (c0:List Bool) (c1:List Zv) (c2:List Zv) (l0:List Bool) (l1:List Zv) (l2:List Zv) (l3:List Bool):Option (((List Int)×Int×(List Bool)×(List Zv)×(List Zv)×(List Bool)×(List Zv)×(List Zv)×(List Bool)×Unit) ⊕ (Ze×(List Int)×Bool)) :=
 if v1<(↑(List.length TopologicalOrder0.fst):Int) then
 (atI TopologicalOrder0.fst v1).bind λx0 =>
 (ZCj a5 x0).bind λy0 =>
 Zp (λv=>ZB7 a0 a1 a3 l09Links0 l09Live0 v0 v1 c0 c1 c2 l0 l1 l2 l3 x0 v.1 v.2.1) (y0,(0:Int),())
 else
 some (.inr ((l0,l1,l2,()),v0,true))
def ZCm (a0:Zc) (a1:Zt) (a2:List Int) (a3:List Zh) (a4:Ze) (a5:List Int):Option (Ze×(List Int)×Bool) :=
 (QN a0).bind λy0 =>
 (ZaG y0 a2).bind λy1 =>
 (VH a0 a2).bind λy2 =>
 (ZfP a4).bind λy3 =>
 (Y6 a0).bind λy4 =>
 Zw ((0:Int)<=y4) <|
 Zw (y4<=y4) <|
 Zw (y4<=(4611686018427387904:Int)) <|
 Zw ((↑(1:Nat):Int)*y4<=(281474976710656:Int)) <|
 Zp (λv=>ZB4 a0 a1 a3 a5 y0 y1 y2 v.1 v.2.1 v.2.2.1 v.2.2.2.1 v.2.2.2.2.1 v.2.2.2.2.2.1 v.2.2.2.2.2.2.1 v.2.2.2.2.2.2.2.1 v.2.2.2.2.2.2.2.2.1) (([]:List Int),(0:Int),([]:List Bool),([]:List Zv),([]:List Zv),Ze.Reached y3,Ze.ZA y3,Ze.Xx y3,List.replicate (Int.toNat y4) false,())
def ZDX:Ctr:=⟨[.dat (YC),.dat (Xf),.dat (.sl Iq),.dat (.sl (XY)),.dat (Zb1),.dat (.sl Iq)],[.own (Zgi),.own (.ol 2 (.flat Iq)),.dat (.bool)],λa K=>splitK a λa0 a=>splitK a λa1 a=>splitK a λa2 a=>splitK a λa3 a=>splitK a λa4 a=>splitK a λa5 a=>YB (ZCm a0 a1 a2 a3 a4 a5) λr=>K (r.1,r.2.1,r.2.2,()) ()⟩
def ZCc (b0:Zc) (c0:Zt) (broken0:List Int) (sources0:List Zh) (t0:Ze) (dirty0:List Int):Option (Ze×(List Int)×Int) :=
 (ZdG b0 c0 broken0 sources0 t0).bind λy0 =>
 if y0=0 then
 (ZCl b0 dirty0).bind λy1 =>
 if y1 then
 (ZCm b0 c0 broken0 sources0 t0 dirty0).bind λy2 =>
 if y2.snd.snd then
 some (y2.fst,y2.snd.fst,0)
 else
 some ((([]:List Bool),([]:List Zv),([]:List Zv),()),([]:List Int),(3:Int))
 else
 some ((([]:List Bool),([]:List Zv),([]:List Zv),()),([]:List Int),(2:Int))
 else
 some ((([]:List Bool),([]:List Zv),([]:List Zv),()),([]:List Int),y0)
def ZDY:Ctr:=⟨[.dat (YC),.dat (Xf),.dat (.sl Iq),.dat (.sl (XY)),.dat (Zb1),.dat (.sl Iq)],[.own (Zgi),.own (.ol 2 (.flat Iq)),.dat Iq],λa K=>splitK a λb0 a=>splitK a λc0 a=>splitK a λbroken0 a=>splitK a λsources0 a=>splitK a λt0 a=>splitK a λdirty0 a=>YB (ZCc b0 c0 broken0 sources0 t0 dirty0) λr=>K (r.1,r.2.1,r.2.2,()) ()⟩
def ZbF (v0:ZG):Option Ze :=
 (YA v0).bind λy0 =>
 Zw ((0:Int)<=y0) <|
 Zw (y0<=y0) <|
 Zw (y0<=(4611686018427387904:Int)) <|
 Zw ((↑(1:Nat):Int)*y0<=(281474976710656:Int)) <|
 Zw ((↑(16:Nat):Int)*y0<=(281474976710656:Int)) <|
 some (List.replicate (Int.toNat y0) false,List.replicate (Int.toNat y0) ((0:Int),(0:Int),()),List.replicate (Int.toNat y0) ((0:Int),(0:Int),()),())
def ZDZ:Ctr:=⟨[.dat (.ptr (ZgR))],[.own (Zgi)],λa K=>splitK a λv0 a=>YB (ZbF v0) λr=>K (r,()) ()⟩
def ZX (g0:Ya) (c0:Zt) (sources0:List Zh) (order0:List Int) (v0:Int) (c1:List Bool) (c2:List Zv) (c3:List Zv) (l0:List Bool) (l1:List Zv) (l2:List Zv):Option ((Int×(List Bool)×(List Zv)×(List Zv)×(List Bool)×(List Zv)×(List Zv)×Unit) ⊕ (Ze×Bool)) :=
 if v0<(↑order0.length:Int) then
 (atI order0 v0).bind λx0 =>
 (Y1 g0 c0 sources0 (l0,l1,l2,()) x0).bind λy0 =>
 if y0.fst then
 (JB y0.snd.snd.fst).bind λy1 =>
 if y1 then
 (atI l0 x0).bind λx1 =>
 (atI l1 x0).bind λx2 =>
 (atI l2 x0).bind λx3 =>
 some (.inl (Wq (v0+1),c1,c2,c3,List.set l0 (Int.toNat x0) y0.fst,List.set l1 (Int.toNat x0) y0.snd.snd.fst,List.set l2 (Int.toNat x0) y0.snd.snd.snd.fst,()))
 else
 some (.inr ((([]:List Bool),([]:List Zv),([]:List Zv),()),false))
 else
 (atI l0 x0).bind λx1 =>
 (atI l1 x0).bind λx2 =>
 (atI l2 x0).bind λx3 =>
 some (.inl (Wq (v0+1),c1,c2,c3,List.set l0 (Int.toNat x0) y0.fst,List.set l1 (Int.toNat x0) y0.snd.snd.fst,List.set l2 (Int.toNat x0) y0.snd.snd.snd.fst,()))
 else
 some (.inr ((l0,l1,l2,()),true))
def QH (g0:Ya) (c0:Zt) (sources0:List Zh) (order0:List Int):Option (Ze×Bool) :=
 (ZbF (Ya.view g0)).bind λy0 =>
 Zp (λv=>ZX g0 c0 sources0 order0 v.1 v.2.1 v.2.2.1 v.2.2.2.1 v.2.2.2.2.1 v.2.2.2.2.2.1 v.2.2.2.2.2.2.1) ((0:Int),([]:List Bool),([]:List Zv),([]:List Zv),Ze.Reached y0,Ze.ZA y0,Ze.Xx y0,())
def c218:Ctr:=⟨[.dat (.ptr (Zgz)),.dat (Xf),.dat (.sl (XY)),.dat (.sl Iq)],[.own (Zgi),.dat (.bool)],λa K=>splitK a λg0 a=>splitK a λc0 a=>splitK a λsources0 a=>splitK a λorder0 a=>YB (QH g0 c0 sources0 order0) λr=>K (r.1,r.2,()) ()⟩
def QG (b0:Zc) (c0:Zt) (broken0:List Int) (sources0:List Zh):Option (Ze×Int) :=
 (XE b0 c0 broken0 sources0 Option.none).bind λy0 =>
 if y0.snd.snd=0 then
 (y0.fst).bind λy1 =>
 (QH y1 c0 sources0 y0.snd.fst).bind λy2 =>
 if y2.snd then
 some (y2.fst,0)
 else
 some ((([]:List Bool),([]:List Zv),([]:List Zv),()),(3:Int))
 else
 some ((([]:List Bool),([]:List Zv),([]:List Zv),()),y0.snd.snd)
def ZD0:Ctr:=⟨[.dat (YC),.dat (Xf),.dat (.sl Iq),.dat (.sl (XY))],[.own (Zgi),.dat Iq],λa K=>splitK a λb0 a=>splitK a λc0 a=>splitK a λbroken0 a=>splitK a λsources0 a=>YB (QG b0 c0 broken0 sources0) λr=>K (r.1,r.2,()) ()⟩
def ZCe (b0:Zc):Option Int :=
 (Qs b0).bind λy0 =>
 if y0 then
 (Y6 b0).bind λy1 =>
 some y1
 else
 some (-1)
def ZD1:Ctr:=D1 (YC) Iq ZCe
def XL (a1:Zt) (a3:List Zh) (a4:Ze) (fst0:Ya) (nodes0:Int) (v0:List Int) (v1:Int):Option (((List Int)×Int×Unit) ⊕ ((List Int)×Int)) :=
 if v1<nodes0 then
 (Y1 fst0 a1 a3 a4 v1).bind λy0 =>
 (atI (Ze.Reached a4) v1).bind λx0 =>
 if (y0.fst == x0)=true then
 (atI (Ze.ZA a4) v1).bind λx1 =>
 if (Decidable.decide (y0.snd.snd.fst.fst=Zv.Early x1)&&Decidable.decide (y0.snd.snd.fst.snd.fst=Zv.Late x1))=true then
 (atI (Ze.Xx a4) v1).bind λx2 =>
 if (Decidable.decide (y0.snd.snd.snd.fst.fst=Zv.Early x2)&&Decidable.decide (y0.snd.snd.snd.fst.snd.fst=Zv.Late x2))=true then
 some (.inl (v0,Wq (v1+1),()))
 else
 Zw ((List.length v0+List.length [v1])*(8:Nat)<=(140737488355328:Nat)) <|
 some (.inl (v0++[v1],Wq (v1+(1:Int)),()))
 else
 Zw ((List.length v0+List.length [v1])*(8:Nat)<=(140737488355328:Nat)) <|
 some (.inl (v0++[v1],Wq (v1+(1:Int)),()))
 else
 Zw ((List.length v0+List.length [v1])*(8:Nat)<=(140737488355328:Nat)) <|
 some (.inl (v0++[v1],Wq (v1+(1:Int)),()))
 else
 some (.inr (v0,0))
def Zap (a0:Zc) (a1:Zt) (a2:List Int) (a3:List Zh) (a4:Ze):Option ((List Int)×Int) :=
 (XE a0 a1 a2 a3 (Option.some a4)).bind λy0 =>
 if y0.snd.snd=0 then
 (y0.fst).bind λy1 =>
 (YA (Ya.view y1)).bind λy2 =>
 Zp (λv=>XL a1 a3 a4 y1 y2 v.1 v.2.1) (([]:List Int),(0:Int),())
 else
 some (([]:List Int),y0.snd.snd)
def ZD2:Ctr:=⟨[.dat (YC),.dat (Xf),.dat (.sl Iq),.dat (.sl (XY)),.dat (Zb1)],[.own (.ol 2 (.flat Iq)),.dat Iq],λa K=>splitK a λa0 a=>splitK a λa1 a=>splitK a λa2 a=>splitK a λa3 a=>splitK a λa4 a=>YB (Zap a0 a1 a2 a3 a4) λr=>K (r.1,r.2,()) ()⟩
def Xo (a0:List Zv) (b0:List Zv) (i0:Int):Option ((Int×Unit) ⊕ Bool) :=
 if i0<(↑a0.length:Int) then
 (atI a0 i0).bind λx0 =>
 (atI b0 i0).bind λx1 =>
 if (Decidable.decide (Zv.Early x0=Zv.Early x1)&&Decidable.decide (Zv.Late x0=Zv.Late x1))=true then
 some (.inl (Wq (i0+1),()))
 else
 some (.inr false)
 else
 some (.inr true)
def Zbk (a0:List Zv) (b0:List Zv):Option Bool :=
 if (↑a0.length:Int)=(↑b0.length:Int) then
 Zp (λv=>Xo a0 b0 v.1) ((0:Int),())
 else
 some false
def c222:Ctr:=D2 (.sl (Jl)) (.sl (Jl)) (.bool) Zbk
def XG (a0:Ze) (b0:Ze) (i0:Int):Option ((Int×Unit) ⊕ Bool) :=
 if i0<(↑(List.length (Ze.Reached a0)):Int) then
 (atI (Ze.Reached a0) i0).bind λx0 =>
 (atI (Ze.Reached b0) i0).bind λx1 =>
 if (x0 == x1)=true then
 some (.inl (Wq (i0+1),()))
 else
 some (.inr false)
 else
 some (.inr true)
def Zcq (a0:Ze) (b0:Ze):Option Bool :=
 if (↑(List.length (Ze.Reached a0)):Int)=(↑(List.length (Ze.Reached b0)):Int) then
 (Zbk (Ze.ZA a0) (Ze.ZA b0)).bind λy0 =>
 if y0 then
 (Zbk (Ze.Xx a0) (Ze.Xx b0)).bind λy1 =>
 if y1 then
 Zp (λv=>XG a0 b0 v.1) ((0:Int),())
 else
 some false
 else
 some false
 else
 some false
def ZD3:Ctr:=D2 (Zb1) (Zb1) (.bool) Zcq
def ZB5 (DrawUpdateTiming0:Zc×Zt×List Int×List Zh×Ze×List Int) (PropagateTiming0:Ze×Int) (UpdateTiming2:Ze×List Int×Int) (v0:List Int) (v1:Int):Option (((List Int)×Int×Unit) ⊕ Bool) :=
 (ZCe DrawUpdateTiming0.fst).bind λy0 =>
 if v1<y0 then
 Zw ((List.length v0+List.length [v1])*(8:Nat)<=(140737488355328:Nat)) <|
 some (.inl (v0++[v1],Wq (v1+(1:Int)),()))
 else
 (ZB3 DrawUpdateTiming0.fst DrawUpdateTiming0.snd.fst DrawUpdateTiming0.snd.snd.fst DrawUpdateTiming0.snd.snd.snd.fst DrawUpdateTiming0.snd.snd.snd.snd.fst v0).bind λy1 =>
 (Zap DrawUpdateTiming0.fst DrawUpdateTiming0.snd.fst DrawUpdateTiming0.snd.snd.fst DrawUpdateTiming0.snd.snd.snd.fst y1.fst).bind λy2 =>
 if UpdateTiming2.snd.snd=0 then
 if y1.snd.snd=0 then
 if y2.snd=0 then
 (Zcq UpdateTiming2.fst PropagateTiming0.fst).bind λy3 =>
 if y3 then
 if (↑(List.length UpdateTiming2.snd.fst):Int)=(↑(List.length DrawUpdateTiming0.snd.snd.snd.snd.snd):Int) then
 (Zcq y1.fst PropagateTiming0.fst).bind λy4 =>
 if y4 then
 if (↑(List.length y1.snd.fst):Int)=(↑v0.length:Int) then
 some (.inr (Decidable.decide ((↑(List.length y2.fst):Int)=0)))
 else
 some (.inr false)
 else
 some (.inr false)
 else
 some (.inr false)
 else
 some (.inr false)
 else
 some (.inr false)
 else
 some (.inr false)
 else
 some (.inr false)
def ZCg (a0:List Int):Option Bool :=
 (ZmF a0).bind λy0 =>
 if y0 then
 some true
 else
 (VG a0).bind λy1 =>
 (ZB3 y1.fst y1.snd.fst y1.snd.snd.fst y1.snd.snd.snd.fst y1.snd.snd.snd.snd.fst y1.snd.snd.snd.snd.snd).bind λy2 =>
 (ZCc y1.fst y1.snd.fst y1.snd.snd.fst y1.snd.snd.snd.fst y1.snd.snd.snd.snd.fst y1.snd.snd.snd.snd.snd).bind λy3 =>
 if y2.snd.snd=y3.snd.snd then
 if y2.snd.snd=0 then
 (QG y1.fst y1.snd.fst y1.snd.snd.fst y1.snd.snd.snd.fst).bind λy4 =>
 if y4.snd=0 then
 (ZB3 y1.fst y1.snd.fst y1.snd.snd.fst y1.snd.snd.snd.fst y4.fst y1.snd.snd.snd.snd.snd).bind λy5 =>
 Zp (λv=>ZB5 y1 y4 y5 v.1 v.2.1) (([]:List Int),(0:Int),())
 else
 some (Decidable.decide (y4.snd=3))
 else
 some true
 else
 some false
def ZCn:Ctr:=⟨[.dat (.sl (.int .u8))],[.dat (.bool)],λa K=>splitK a λa0 a=>YB (ZCg a0) λr=>K (r,()) ()⟩
def XQ (b0:Zc) (c0:Zt) (sources0:List Zh) (t0:Ze) (l09Links0:List Zm) (l09Live0:List Bool) (out0:List Int) (node0:Int):Option (((List Int)×Int×Unit) ⊕ ((List Int)×Int)) :=
 (Y6 b0).bind λy0 =>
 if node0<y0 then
 (VP b0 c0 l09Links0 l09Live0 sources0 t0 node0).bind λy1 =>
 (ZfP t0).bind λy2 =>
 (ZfQ y2 node0 y1.fst y1.snd).bind λy3 =>
 if y3.fst then
 Zw ((List.length out0+List.length [node0])*(8:Nat)<=(140737488355328:Nat)) <|
 some (.inl (out0++[node0],Wq (node0+(1:Int)),()))
 else
 some (.inl (out0,Wq (node0+1),()))
 else
 some (.inr (out0,0))
def ZaC (b0:Zc) (c0:Zt) (broken0:List Int) (sources0:List Zh) (t0:Ze):Option ((List Int)×Int) :=
 (ZdG b0 c0 broken0 sources0 t0).bind λy0 =>
 if y0=0 then
 (QN b0).bind λy1 =>
 (ZaG y1 broken0).bind λy2 =>
 Zp (λv=>XQ b0 c0 sources0 t0 y1 y2 v.1 v.2.1) (([]:List Int),(0:Int),())
 else
 some (([]:List Int),y0)
end
end Go.Proofs.YtgjjlgodlhhdoaaGreatDoor
