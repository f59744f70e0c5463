/-
 The models of the functions and their contracts. Printed by program.
-/
import Derived.Test.YtnnbgbgapogckaaGreatDoorSxTab
import Derived.Test.YtnnbgbgapogckaaGreatDoorSxS0
import Derived.Test.YtnnbgbgapogckaaGreatDoorSxLib
namespace Go.Proofs.YtnnbgbgapogckaaGreatDoor
open Go Go.Sx
set_option maxRecDepth 100000
set_option maxHeartbeats 6400000
set_option linter.unusedVariables false
set_option linter.unusedSimpArgs false
noncomputable section
abbrev Iq:Ty:=.int .i64
abbrev Wq:=IntKind.wrap IntKind.i64
abbrev Sq:=Zd Tryz.prog
theorem Bq {α β:Type} (x:α) (f:α→Option β):(some x).bind f=f x:=rfl
def ZbE (code0:List Int):Option Bool :=
 some (Decidable.decide (4096<(↑code0.length:Int)))
def c0:Ctr:=D1 (.sl (.int .u8)) (.bool) ZbE
def Xp (code0:List Int) (i0:Int) (c0:Int):Option ((Int×Int×Unit) ⊕ Za) :=
 if i0<(↑code0.length:Int) then
 if i0<64 then
 (atI code0 i0).bind fun x0 =>
 some (.inl (Wq (i0+1),Int.tmod (Wq (Wq (c0*31)+Wq x0)) 2147483647,()))
 else
 some (.inr (code0,0,c0,()))
 else
 some (.inr (code0,0,c0,()))
def Ve (code0:List Int):Option Za :=
 ZA (fun v=>Xp code0 v.1 v.2.1) ((0:Int),(12345:Int),())
def c1:Ctr:=⟨[.dat (.sl (.int .u8))],[.io (.flat (Yn))],fun a K=>splitK a fun code0 a=>XU (Ve code0) fun r=>K (r,()) ()⟩
def Zc (a0:Za) (a1:Int):Option (Int×Za) :=
 if a1≤1 then
 some (0,a0)
 else
 if Za.at a0<(↑(List.length (Za.code a0)):Int) then
 (atI (Za.code a0) (Za.at a0)).bind fun x0 =>
 if a1≤256 then
 Zj (a1≠(0:Int)) <|
 some (Int.tmod (Wq x0) a1,(Za.code a0,Wq (Za.at a0+1),a0.snd.snd))
 else
 Zj (a1≠(0:Int)) <|
 some (Int.tmod (Int.tmod (Wq (Wq (Wq (Za.seed a0*48271)+Wq x0)+1)) 2147483647) a1,(Za.code a0,Wq (Za.at a0+1),Int.tmod (Wq (Wq (Wq (Za.seed a0*48271)+Wq x0)+1)) 2147483647,()))
 else
 Zj (a1≠(0:Int)) <|
 some (Int.tmod (Wq (Int.tdiv (Int.tmod (Wq (Wq (Za.seed a0*48271)+11)) 2147483647) 7)) a1,(Za.code a0,Za.at a0,Int.tmod (Wq (Wq (Za.seed a0*48271)+11)) 2147483647,()))
def c2:Ctr:=⟨[.io (.flat (Yn)),.dat Iq],[.dat Iq],fun a K=>splitK a fun a0 a=>splitK a fun a1 a=>XU (Zc a0 a1) fun r=>K (r.1,()) (r.2,())⟩
def Xb (c0:QG) (pin0:Int) (raises0:Bool) (lowers0:Bool) (i0:Int):Option ((Bool×Bool×Int×Unit) ⊕ Int) :=
 if i0<(↑(List.length (QG.Truth c0)):Int) then
 if Go.bits Go.BinOp.and IntKind.i64 i0 (Wq (1*2 ^ Min.min (Int.toNat (IntKind.wrap IntKind.u64 pin0)) (IntKind.bits IntKind.i64)))=0 then
 if raises0 then
 if lowers0 then
 some (.inl (true,true,Wq (i0+1),()))
 else
 (atI (QG.Truth c0) i0).bind fun x0 =>
 (atI (QG.Truth c0) (Wq (i0+Wq (1*2 ^ Min.min (Int.toNat (IntKind.wrap IntKind.u64 pin0)) (IntKind.bits IntKind.i64))))).bind fun x1 =>
 some (.inl (true,Decidable.decide (x1<x0),Wq (i0+1),()))
 else
 (atI (QG.Truth c0) i0).bind fun x0 =>
 (atI (QG.Truth c0) (Wq (i0+Wq (1*2 ^ Min.min (Int.toNat (IntKind.wrap IntKind.u64 pin0)) (IntKind.bits IntKind.i64))))).bind fun x1 =>
 if lowers0 then
 some (.inl (Decidable.decide (x0<x1),true,Wq (i0+1),()))
 else
 some (.inl (Decidable.decide (x0<x1),Decidable.decide (x1<x0),Wq (i0+1),()))
 else
 some (.inl (raises0,lowers0,Wq (i0+1),()))
 else
 if raises0 then
 if lowers0 then
 some (.inr 3)
 else
 if raises0 then
 some (.inr 1)
 else
 if lowers0 then
 some (.inr 2)
 else
 some (.inr 0)
 else
 if raises0 then
 some (.inr 1)
 else
 if lowers0 then
 some (.inr 2)
 else
 some (.inr 0)
def X5 (c0:QG) (pin0:Int):Option Int :=
 Zj ((0:Int)≤IntKind.wrap IntKind.u64 pin0) <|
 ZA (fun v=>Xb c0 pin0 v.1 v.2.1 v.2.2.1) (false,false,(0:Int),())
def c3:Ctr:=D2 (Zin) Iq Iq X5
def Yv (step0:Int) (out0:List Int) (at0:Int) (n0:Int) (c0:List Int) (c1:Int) (c2:Int):Option (((List Int)×Int×Int×(List Int)×Int×Int×Unit) ⊕ ((List Int)×Za)) :=
 if 0<n0 then
 Zj ((List.length out0+List.length [at0])*(8:Nat)≤(140737488355328:Nat)) <|
 (Zc (c0,c1,c2,()) step0).bind fun y0 =>
 some (.inl (out0++[at0],Wq (Wq (at0+(1:Int))+y0.fst),Wq (n0-(1:Int)),y0.snd.fst,y0.snd.snd.fst,y0.snd.snd.snd.fst,()))
 else
 some (.inr (out0,(c0,c1,c2,())))
def YU (s0:Za) (step0:Int):Option ((List Int)×Za) :=
 (Zc s0 step0).bind fun y0 =>
 (Zc y0.snd 3).bind fun y1 =>
 ZA (fun v=>Yv step0 v.1 v.2.1 v.2.2.1 v.2.2.2.1 v.2.2.2.2.1 v.2.2.2.2.2.1) (([]:List Int),y0.fst,Wq ((1:Int)+y1.fst),y1.snd.fst,y1.snd.snd.fst,y1.snd.snd.snd.fst,())
def c4:Ctr:=⟨[.io (.flat (Yn)),.dat Iq],[.own (.ol 2 (.flat Iq))],fun a K=>splitK a fun s0 a=>splitK a fun step0 a=>XU (YU s0 step0) fun r=>K (r.1,()) (r.2,())⟩
def Xq (a1:Int) (l02DrawAxis0:List Int×Za) (l02DrawAxis1:List Int×Za) (v0:List Int) (v1:Int) (c0:List Int) (c1:Int) (c2:Int):Option (((List Int)×Int×(List Int)×Int×Int×Unit) ⊕ (Jy×Za)) :=
 if v1<Wq ((↑(List.length l02DrawAxis0.fst):Int)*(↑(List.length l02DrawAxis1.fst):Int)) then
 (Zc (c0,c1,c2,()) 10).bind fun y0 =>
 Zj ((↑(List.length l02DrawAxis1.fst):Int)≠(0:Int)) <|
 if 0<Int.tmod v1 (↑(List.length l02DrawAxis1.fst):Int) then
 (atI v0 (Wq (v1-1))).bind fun x0 =>
 (Zc y0.snd 20).bind fun y1 =>
 if (↑(List.length l02DrawAxis1.fst):Int)≤v1 then
 (atI v0 (Wq (v1-(↑(List.length l02DrawAxis1.fst):Int)))).bind fun x1 =>
 (Zc y1.snd 20).bind fun y2 =>
 Zj ((List.length v0+List.length [Max.max (Max.max (Wq (a1+y0.fst)) (Wq (x0+y1.fst))) (Wq (x1+y2.fst))])*(8:Nat)≤(140737488355328:Nat)) <|
 some (.inl (v0++[Max.max (Max.max (Wq (a1+y0.fst)) (Wq (x0+y1.fst))) (Wq (x1+y2.fst))],Wq (v1+(1:Int)),y2.snd.fst,y2.snd.snd.fst,y2.snd.snd.snd.fst,()))
 else
 Zj ((List.length v0+List.length [Max.max (Wq (a1+y0.fst)) (Wq (x0+y1.fst))])*(8:Nat)≤(140737488355328:Nat)) <|
 some (.inl (v0++[Max.max (Wq (a1+y0.fst)) (Wq (x0+y1.fst))],Wq (v1+(1:Int)),y1.snd.fst,y1.snd.snd.fst,y1.snd.snd.snd.fst,()))
 else
 if (↑(List.length l02DrawAxis1.fst):Int)≤v1 then
 (atI v0 (Wq (v1-(↑(List.length l02DrawAxis1.fst):Int)))).bind fun x0 =>
 (Zc y0.snd 20).bind fun y1 =>
 Zj ((List.length v0+List.length [Max.max (Wq (a1+y0.fst)) (Wq (x0+y1.fst))])*(8:Nat)≤(140737488355328:Nat)) <|
 some (.inl (v0++[Max.max (Wq (a1+y0.fst)) (Wq (x0+y1.fst))],Wq (v1+(1:Int)),y1.snd.fst,y1.snd.snd.fst,y1.snd.snd.snd.fst,()))
 else
 Zj ((List.length v0+List.length [Wq (a1+y0.fst)])*(8:Nat)≤(140737488355328:Nat)) <|
 some (.inl (v0++[Wq (a1+y0.fst)],Wq (v1+(1:Int)),y0.snd.fst,y0.snd.snd.fst,y0.snd.snd.snd.fst,()))
 else
 some (.inr ((l02DrawAxis0.fst,l02DrawAxis1.fst,v0,()),(c0,c1,c2,())))
def Qy (a0:Za) (a1:Int):Option (Jy×Za) :=
 (YU a0 60).bind fun y0 =>
 (YU y0.snd 40).bind fun y1 =>
 ZA (fun v=>Xq a1 y0 y1 v.1 v.2.1 v.2.2.1 v.2.2.2.1 v.2.2.2.2.1) (([]:List Int),(0:Int),y1.snd.fst,y1.snd.snd.fst,y1.snd.snd.snd.fst,())
def c5:Ctr:=⟨[.io (.flat (Yn)),.dat Iq],[.own (ZeG)],fun a K=>splitK a fun a0 a=>splitK a fun a1 a=>XU (Qy a0 a1) fun r=>K (r.1,()) (r.2,())⟩
def Z7 (s0:Za) (base0:Int):Option ((List Jy)×Za) :=
 (Qy s0 base0).bind fun y0 =>
 (Qy y0.snd base0).bind fun y1 =>
 some ([y0.fst,y1.fst],y1.snd)
def c6:Ctr:=⟨[.io (.flat (Yn)),.dat Iq],[.own (.ol 322 (ZeG))],fun a K=>splitK a fun s0 a=>splitK a fun base0 a=>XU (Z7 s0 base0) fun r=>K (r.1,()) (r.2,())⟩
def Yf (s0:Za) (kind0:Int) (from0:Int) (to0:Int) (sense0:Int):Option (ZfN×Za) :=
 if 4≤kind0 then
 (Zc s0 10).bind fun y0 =>
 (Z7 y0.snd (Wq (5-y0.fst))).bind fun y1 =>
 some ((kind0,from0,to0,(0:Int),y1.fst,([]:List Jy),()),y1.snd)
 else
 (Zc s0 20).bind fun y0 =>
 (Z7 y0.snd (Wq (5+y0.fst))).bind fun y1 =>
 (Z7 y1.snd 10).bind fun y2 =>
 some ((kind0,from0,to0,sense0,y1.fst,y2.fst,()),y2.snd)
def c7:Ctr:=⟨[.io (.flat (Yn)),.dat Iq,.dat Iq,.dat Iq,.dat Iq],[.own (ZmF)],fun a K=>splitK a fun s0 a=>splitK a fun kind0 a=>splitK a fun from0 a=>splitK a fun to0 a=>splitK a fun sense0 a=>XU (Yf s0 kind0 from0 to0 sense0) fun r=>K (r.1,()) (r.2,())⟩
def Xr (a1:List UInt8) (a2:List Int) (l01Next0:Int×Za) (l01Next1:Int×Za) (v0:List ZhU) (v2:List ZfN) (v3:Int) (c3:List Int) (c4:Int) (c5:Int):Option (((List ZfN)×Int×(List Int)×Int×Int×Unit) ⊕ (((List ZhU)×Int×(List Int)×Int×Int×Unit) ⊕ (QG×Za))) :=
 if v3<(↑v0.length:Int) then
 (X5 (a1,(1:Int),v0++[([(121:UInt8)],(2:Int),(0:Int),false,())],([]:List ZfN),a2,l01Next0.fst,l01Next1.fst,()) v3).bind fun y0 =>
 if y0=0 then
 some (.inl (v2,Wq (v3+1),c3,c4,c5,()))
 else
 (Yf (c3,c4,c5,()) 1 v3 (↑v0.length:Int) y0).bind fun y1 =>
 Zj ((List.length v2+List.length [y1.fst])*(80:Nat)≤(140737488355328:Nat)) <|
 some (.inl (v2++[y1.fst],Wq (v3+(1:Int)),y1.snd.fst,y1.snd.snd.fst,y1.snd.snd.snd.fst,()))
 else
 some (.inr (.inr ((a1,(1:Int),v0++[([(121:UInt8)],(2:Int),(0:Int),false,())],v2,a2,l01Next0.fst,l01Next1.fst,()),(c3,c4,c5,()))))
def Xt (a1:List UInt8) (a2:List Int) (l01Next0:Int×Za) (l01Next1:Int×Za) (v0:List ZhU) (v1:Int) (c0:List Int) (c1:Int) (c2:Int):Option (((List ZhU)×Int×(List Int)×Int×Int×Unit) ⊕ (QG×Za)) :=
 if v1<(↑a2.length:Int) then
 (atI ([[(97:UInt8)],[(98:UInt8)],[(99:UInt8)],[(100:UInt8)]]) (↑v0.length:Int)).bind fun x0 =>
 (Zc (c0,c1,c2,()) 9).bind fun y0 =>
 Zj ((List.length v0+List.length [(x0,(1:Int),Wq ((1:Int)+y0.fst),false,())])*(40:Nat)≤(140737488355328:Nat)) <|
 some (.inl (v0++[(x0,(1:Int),Wq ((1:Int)+y0.fst),false,())],Wq ((2:Int)*v1),y0.snd.fst,y0.snd.snd.fst,y0.snd.snd.snd.fst,()))
 else
 Zj ((List.length v0+List.length [([(121:UInt8)],(2:Int),(0:Int),false,())])*(40:Nat)≤(140737488355328:Nat)) <|
 ZA (fun v=>Xr a1 a2 l01Next0 l01Next1 v0 v.1 v.2.1 v.2.2.1 v.2.2.2.1 v.2.2.2.2.1) (([]:List ZfN),(0:Int),c0,c1,c2,())
def Y3 (a0:Za) (a1:List UInt8) (a2:List Int):Option (QG×Za) :=
 (Zc a0 50).bind fun y0 =>
 (Zc y0.snd 80).bind fun y1 =>
 ZA (fun v=>Xt a1 a2 y0 y1 v.1 v.2.1 v.2.2.1 v.2.2.2.1 v.2.2.2.2.1) (([]:List (List UInt8×Int×Int×Bool×Unit)),(1:Int),y1.snd.fst,y1.snd.snd.fst,y1.snd.snd.snd.fst,())
def c8:Ctr:=⟨[.io (.flat (Yn)),.dat (.str),.own (.ol 2 (.flat Iq))],[.own (ZiT)],fun a K=>splitK a fun a0 a=>splitK a fun a1 a=>splitK a fun a2 a=>XU (Y3 a0 a1 a2) fun r=>K (r.1,()) (r.2,())⟩
def Yq (s0:Za) (name0:List UInt8) (kind0:Int) (edge0:Int):Option (QG×Za) :=
 (Zc s0 50).bind fun y0 =>
 (Zc y0.snd 80).bind fun y1 =>
 (Zc y1.snd 9).bind fun y2 =>
 (Zc y2.snd 9).bind fun y3 =>
 (Yf y3.snd edge0 1 2 0).bind fun y4 =>
 (Yf y4.snd 4 1 0 0).bind fun y5 =>
 (Yf y5.snd 5 1 0 0).bind fun y6 =>
 if kind0=3 then
 (Yf y6.snd 1 0 2 1).bind fun y7 =>
 Zj ((List.length [y4.fst,y5.fst,y6.fst]+List.length [y7.fst])*(80:Nat)≤(140737488355328:Nat)) <|
 some ((name0,kind0,[([(100:UInt8)],(1:Int),Wq ((1:Int)+y2.fst),false,()),([(99:UInt8),(107:UInt8)],(1:Int),Wq ((1:Int)+y3.fst),true,()),([(113:UInt8)],(2:Int),(0:Int),false,())],[y4.fst,y5.fst,y6.fst]++[y7.fst],([]:List Int),y0.fst,y1.fst,()),y7.snd)
 else
 some ((name0,kind0,[([(100:UInt8)],(1:Int),Wq ((1:Int)+y2.fst),false,()),([(99:UInt8),(107:UInt8)],(1:Int),Wq ((1:Int)+y3.fst),true,()),([(113:UInt8)],(2:Int),(0:Int),false,())],[y4.fst,y5.fst,y6.fst],([]:List Int),y0.fst,y1.fst,()),y6.snd)
def c9:Ctr:=⟨[.io (.flat (Yn)),.dat (.str),.dat Iq,.dat Iq],[.own (ZiT)],fun a K=>splitK a fun s0 a=>splitK a fun name0 a=>splitK a fun kind0 a=>splitK a fun edge0 a=>XU (Yq s0 name0 kind0 edge0) fun r=>K (r.1,()) (r.2,())⟩
def Vf (s0:Za):Option (ZaF×Za) :=
 (Y3 s0 [(105:UInt8),(110:UInt8),(118:UInt8)] [(1:Int),(0:Int)]).bind fun y0 =>
 (Y3 y0.snd [(98:UInt8),(117:UInt8),(102:UInt8)] [(0:Int),(1:Int)]).bind fun y1 =>
 (Y3 y1.snd [(110:UInt8),(97:UInt8),(110:UInt8),(100:UInt8)] [(1:Int),(1:Int),(1:Int),(0:Int)]).bind fun y2 =>
 (Y3 y2.snd [(120:UInt8),(111:UInt8),(114:UInt8)] [(0:Int),(1:Int),(1:Int),(0:Int)]).bind fun y3 =>
 (Y3 y3.snd [(109:UInt8),(117:UInt8),(120:UInt8)] [(0:Int),(1:Int),(0:Int),(1:Int),(0:Int),(0:Int),(1:Int),(1:Int)]).bind fun y4 =>
 (Yq y4.snd [(102:UInt8),(108:UInt8),(111:UInt8),(112:UInt8)] (2:Int) (2:Int)).bind fun y5 =>
 (Yq y5.snd [(102:UInt8),(108:UInt8),(111:UInt8),(112:UInt8),(110:UInt8)] (2:Int) (3:Int)).bind fun y6 =>
 (Yq y6.snd [(108:UInt8),(97:UInt8),(116:UInt8),(99:UInt8),(104:UInt8)] (3:Int) (2:Int)).bind fun y7 =>
 some (([y0.fst,y1.fst,y2.fst,y3.fst,y4.fst,y5.fst,y6.fst,y7.fst],()),y7.snd)
def c10:Ctr:=⟨[.io (.flat (Yn))],[.own (Zhl)],fun a K=>splitK a fun s0 a=>XU (Vf s0) fun r=>K (r.1,()) (r.2,())⟩
def ZN (rec0:Int→Option (List UInt8)) (n0:Int):Option (List UInt8) :=
 if n0<0 then
 (rec0 (Wq (0-n0))).bind fun r0 =>
 Zj ((↑(List.length [(45:UInt8)]):Int)+(↑r0.length:Int)≤(9223372036854775807:Int)) <|
 some ([(45:UInt8)]++r0)
 else
 if n0<10 then
 some (bytesOf [IntKind.wrap IntKind.u8 (Wq ((48:Int)+n0))])
 else
 (rec0 (Wq (Int.tdiv n0 10))).bind fun r0 =>
 Zj ((↑r0.length:Int)+(↑(List.length (bytesOf [IntKind.wrap IntKind.u8 (Wq ((48:Int)+Int.tmod n0 (10:Int)))])):Int)≤(9223372036854775807:Int)) <|
 some (r0++bytesOf [IntKind.wrap IntKind.u8 (Wq ((48:Int)+Int.tmod n0 (10:Int)))])
def Yp:Nat→Int→Option (List UInt8)
 | 0=>fun _=>none
 | n+1=>ZN (Yp n)
def XG (n0:Int):Option (List UInt8):=ZkQ (fun n=>Yp n n0)
def QJ (rec0:Int→Option (List UInt8)):Ctr:=⟨[.dat Iq],[.dat (.str)],fun a K=>splitK a fun n0 a=>XU (rec0 n0) fun r=>K (r,()) ()⟩
def c11:Ctr:=QJ XG
def Xv (v0:List Zz) (v1:List (List UInt8)) (v2:Int) (x0:Int) (l01Number0:List UInt8) (v3:Int) (c3:List Int) (c4:Int) (c5:Int) (c6:List Int):Option ((Int×(List Int)×Int×Int×(List Int)×Unit) ⊕ (((List Zz)×(List (List UInt8))×Int×(List Int)×Int×Int×Unit) ⊕ (Zp×Za))) :=
 (atI ([(2:Int),(2:Int),(3:Int),(3:Int),(4:Int),(3:Int),(3:Int),(3:Int)]) x0).bind fun x1 =>
 if v3<Wq (x1-1) then
 (Zc (c3,c4,c5,()) (Wq ((↑v1.length:Int)-1))).bind fun y0 =>
 (Zc y0.snd 3).bind fun y1 =>
 if y1.fst=0 then
 if 5≤x0 then
 if v3=1 then
 Zj ((List.length (([]:List Int))+List.length c6)*(8:Nat)≤(140737488355328:Nat)) <|
 Zj ((List.length (([]:List Int)++c6)+List.length [(0:Int)])*(8:Nat)≤(140737488355328:Nat)) <|
 some (.inl (Wq (v3+(1:Int)),y1.snd.fst,y1.snd.snd.fst,y1.snd.snd.snd.fst,([]:List Int)++c6++[(0:Int)],()))
 else
 Zj ((List.length (([]:List Int))+List.length c6)*(8:Nat)≤(140737488355328:Nat)) <|
 Zj ((List.length (([]:List Int)++c6)+List.length [Wq ((↑v1.length:Int)-(1:Int))])*(8:Nat)≤(140737488355328:Nat)) <|
 some (.inl (Wq (v3+(1:Int)),y1.snd.fst,y1.snd.snd.fst,y1.snd.snd.snd.fst,([]:List Int)++c6++[Wq ((↑v1.length:Int)-(1:Int))],()))
 else
 Zj ((List.length (([]:List Int))+List.length c6)*(8:Nat)≤(140737488355328:Nat)) <|
 Zj ((List.length (([]:List Int)++c6)+List.length [Wq ((↑v1.length:Int)-(1:Int))])*(8:Nat)≤(140737488355328:Nat)) <|
 some (.inl (Wq (v3+(1:Int)),y1.snd.fst,y1.snd.snd.fst,y1.snd.snd.snd.fst,([]:List Int)++c6++[Wq ((↑v1.length:Int)-(1:Int))],()))
 else
 if 5≤x0 then
 if v3=1 then
 Zj ((List.length (([]:List Int))+List.length c6)*(8:Nat)≤(140737488355328:Nat)) <|
 Zj ((List.length (([]:List Int)++c6)+List.length [(0:Int)])*(8:Nat)≤(140737488355328:Nat)) <|
 some (.inl (Wq (v3+(1:Int)),y1.snd.fst,y1.snd.snd.fst,y1.snd.snd.snd.fst,([]:List Int)++c6++[(0:Int)],()))
 else
 Zj ((List.length (([]:List Int))+List.length c6)*(8:Nat)≤(140737488355328:Nat)) <|
 Zj ((List.length (([]:List Int)++c6)+List.length [Wq ((1:Int)+y0.fst)])*(8:Nat)≤(140737488355328:Nat)) <|
 some (.inl (Wq (v3+(1:Int)),y1.snd.fst,y1.snd.snd.fst,y1.snd.snd.snd.fst,([]:List Int)++c6++[Wq ((1:Int)+y0.fst)],()))
 else
 Zj ((List.length (([]:List Int))+List.length c6)*(8:Nat)≤(140737488355328:Nat)) <|
 Zj ((List.length (([]:List Int)++c6)+List.length [Wq ((1:Int)+y0.fst)])*(8:Nat)≤(140737488355328:Nat)) <|
 some (.inl (Wq (v3+(1:Int)),y1.snd.fst,y1.snd.snd.fst,y1.snd.snd.snd.fst,([]:List Int)++c6++[Wq ((1:Int)+y0.fst)],()))
 else
 Zj ((List.length (([]:List Int))+List.length c6)*(8:Nat)≤(140737488355328:Nat)) <|
 Zj ((List.length (([]:List Int)++c6)+List.length [(↑v1.length:Int)])*(8:Nat)≤(140737488355328:Nat)) <|
 (XG (↑v1.length:Int)).bind fun y2 =>
 Zj ((↑(List.length [(110:UInt8)]):Int)+(↑y2.length:Int)≤(9223372036854775807:Int)) <|
 Zj ((List.length v1+List.length [[(110:UInt8)]++y2])*(16:Nat)≤(140737488355328:Nat)) <|
 Zj ((List.length v0+List.length [([(117:UInt8)]++l01Number0,x0,([]:List Int)++c6++[(↑v1.length:Int)],())])*(48:Nat)≤(140737488355328:Nat)) <|
 some (.inr (.inl (v0++[([(117:UInt8)]++l01Number0,x0,([]:List Int)++c6++[(↑v1.length:Int)],())],v1++[[(110:UInt8)]++y2],Wq (v2-(1:Int)),c3,c4,c5,())))
def Xw (a2:Bool) (v1:List (List UInt8)) (v3:Int) (c3:List Int) (c4:Int) (c5:Int) (l0:List (List UInt8×Int×List Int×Unit)):Option ((Int×(List Int)×Int×Int×(List (List UInt8×Int×List Int×Unit))×Unit) ⊕ (((List Zz)×(List (List UInt8))×Int×(List Int)×Int×Int×Unit) ⊕ (Zp×Za))) :=
 if v3<(↑l0.length:Int) then
 (Zc (c3,c4,c5,()) 4).bind fun y0 =>
 if y0.fst=0 then
 (atI l0 v3).bind fun x0 =>
 if x0.snd.fst=5 then
 (Zc y0.snd (Wq ((↑v1.length:Int)-1))).bind fun y1 =>
 (atI x0.snd.snd.fst 0).bind fun x1 =>
 some (.inl (Wq (v3+1),y1.snd.fst,y1.snd.snd.fst,y1.snd.snd.snd.fst,List.set l0 (Int.toNat v3) (x0.fst,x0.snd.fst,List.set x0.snd.snd.fst (Int.toNat 0) (Wq (1+y1.fst)),()),()))
 else
 if x0.snd.fst=6 then
 (Zc y0.snd (Wq ((↑v1.length:Int)-1))).bind fun y1 =>
 (atI x0.snd.snd.fst 0).bind fun x1 =>
 some (.inl (Wq (v3+1),y1.snd.fst,y1.snd.snd.fst,y1.snd.snd.snd.fst,List.set l0 (Int.toNat v3) (x0.fst,x0.snd.fst,List.set x0.snd.snd.fst (Int.toNat 0) (Wq (1+y1.fst)),()),()))
 else
 if a2 then
 (Zc y0.snd (Wq ((↑v1.length:Int)-1))).bind fun y1 =>
 (atI x0.snd.snd.fst 0).bind fun x1 =>
 some (.inl (Wq (v3+1),y1.snd.fst,y1.snd.snd.fst,y1.snd.snd.snd.fst,List.set l0 (Int.toNat v3) (x0.fst,x0.snd.fst,List.set x0.snd.snd.fst (Int.toNat 0) (Wq (1+y1.fst)),()),()))
 else
 some (.inl (Wq (v3+1),y0.snd.fst,y0.snd.snd.fst,y0.snd.snd.snd.fst,List.set l0 (Int.toNat v3) x0,()))
 else
 some (.inl (Wq (v3+1),y0.snd.fst,y0.snd.snd.fst,y0.snd.snd.snd.fst,l0,()))
 else
 Zj ((List.length (([]:List (List UInt8×Int×Int×Unit))++[([(99:UInt8),(107:UInt8)],(1:Int),(0:Int),()),([(97:UInt8)],(1:Int),(1:Int),()),([(98:UInt8)],(1:Int),(2:Int),())])+List.length [([(121:UInt8)],(2:Int),Wq ((↑v1.length:Int)-(1:Int)),())])*(32:Nat)≤(140737488355328:Nat)) <|
 (Zc (c3,c4,c5,()) 2).bind fun y0 =>
 if y0.fst=0 then
 (Zc y0.snd (Wq ((↑v1.length:Int)-1))).bind fun y1 =>
 Zj ((List.length (([]:List (List UInt8×Int×Int×Unit))++[([(99:UInt8),(107:UInt8)],(1:Int),(0:Int),()),([(97:UInt8)],(1:Int),(1:Int),()),([(98:UInt8)],(1:Int),(2:Int),())]++[([(121:UInt8)],(2:Int),Wq ((↑v1.length:Int)-(1:Int)),())])+List.length [([(122:UInt8)],(2:Int),Wq ((1:Int)+y1.fst),())])*(32:Nat)≤(140737488355328:Nat)) <|
 some (.inr (.inr ((l0,v1,([]:List (List UInt8×Int×Int×Unit))++[([(99:UInt8),(107:UInt8)],(1:Int),(0:Int),()),([(97:UInt8)],(1:Int),(1:Int),()),([(98:UInt8)],(1:Int),(2:Int),())]++[([(121:UInt8)],(2:Int),Wq ((↑v1.length:Int)-(1:Int)),())]++[([(122:UInt8)],(2:Int),Wq ((1:Int)+y1.fst),())],()),y1.snd)))
 else
 some (.inr (.inr ((l0,v1,([]:List (List UInt8×Int×Int×Unit))++[([(99:UInt8),(107:UInt8)],(1:Int),(0:Int),()),([(97:UInt8)],(1:Int),(1:Int),()),([(98:UInt8)],(1:Int),(2:Int),())]++[([(121:UInt8)],(2:Int),Wq ((↑v1.length:Int)-(1:Int)),())],()),y0.snd)))
def Xx (a2:Bool) (v0:List Zz) (v1:List (List UInt8)) (v2:Int) (c0:List Int) (c1:Int) (c2:Int):Option (((List Zz)×(List (List UInt8))×Int×(List Int)×Int×Int×Unit) ⊕ (Zp×Za)) :=
 if 0<v2 then
 (Zc (c0,c1,c2,()) 12).bind fun y0 =>
 (atI ([(0:Int),(1:Int),(2:Int),(2:Int),(3:Int),(4:Int),(5:Int),(5:Int),(5:Int),(6:Int),(7:Int),(1:Int)]) y0.fst).bind fun x0 =>
 (XG (↑v0.length:Int)).bind fun y1 =>
 Zj ((↑(List.length [(117:UInt8)]):Int)+(↑y1.length:Int)≤(9223372036854775807:Int)) <|
 ZA (fun v=>Xv v0 v1 v2 x0 y1 v.1 v.2.1 v.2.2.1 v.2.2.2.1 v.2.2.2.2.1) ((0:Int),y0.snd.fst,y0.snd.snd.fst,y0.snd.snd.snd.fst,([]:List Int),())
 else
 ZA (fun v=>Xw a2 v1 v.1 v.2.1 v.2.2.1 v.2.2.2.1 v.2.2.2.2.1) ((0:Int),c0,c1,c2,v0,())
def Vh (a0:Za) (a1:Int) (a2:Bool):Option (Zp×Za) :=
 (Zc a0 (Wq (a1-1))).bind fun y0 =>
 ZA (fun v=>Xx a2 v.1 v.2.1 v.2.2.1 v.2.2.2.1 v.2.2.2.2.1 v.2.2.2.2.2.1) (([]:List Zz),([]:List (List UInt8))++[[(110:UInt8),(99:UInt8),(107:UInt8)],[(110:UInt8),(97:UInt8)],[(110:UInt8),(98:UInt8)]],Wq ((2:Int)+y0.fst),y0.snd.fst,y0.snd.snd.fst,y0.snd.snd.snd.fst,())
def c12:Ctr:=⟨[.io (.flat (Yn)),.dat Iq,.dat (.bool)],[.own (ZiU)],fun a K=>splitK a fun a0 a=>splitK a fun a1 a=>splitK a fun a2 a=>XU (Vh a0 a1 a2) fun r=>K (r.1,()) (r.2,())⟩
def YW (v1:Int) (x0:Zz) (v2:List Zk) (v3:Int):Option (((List Zk)×Int×Unit) ⊕ (((List Zk)×Int×Unit) ⊕ List Zk)) :=
 if v3<(↑(List.length (Zz.Zbh x0)):Int) then
 (atI (Zz.Zbh x0) v3).bind fun x1 =>
 Zj ((List.length v2+List.length [(v1,v3,x1,Decidable.decide (v3=Wq ((↑(List.length (Zz.Zbh x0)):Int)-(1:Int))),())])*(32:Nat)≤(140737488355328:Nat)) <|
 some (.inl (v2++[(v1,v3,x1,Decidable.decide (v3=Wq ((↑(List.length (Zz.Zbh x0)):Int)-(1:Int))),())],Wq (v3+(1:Int)),()))
 else
 some (.inr (.inl (v2,Wq (v1+1),())))
def YX (a0:Zp) (v2:List Zk) (v3:Int):Option (((List Zk)×Int×Unit) ⊕ (((List Zk)×Int×Unit) ⊕ List Zk)) :=
 if v3<(↑(List.length (Zp.Vk a0)):Int) then
 (atI (Zp.Vk a0) v3).bind fun x0 =>
 Zj ((List.length v2+List.length [((-1:Int),v3,Zah.Net x0,Decidable.decide (Zah.Dir x0=(1:Int)),())])*(32:Nat)≤(140737488355328:Nat)) <|
 some (.inl (v2++[((-1:Int),v3,Zah.Net x0,Decidable.decide (Zah.Dir x0=(1:Int)),())],Wq (v3+(1:Int)),()))
 else
 some (.inr (.inr v2))
def YZ (a0:Zp) (v0:List Zk) (v1:Int):Option (((List Zk)×Int×Unit) ⊕ List Zk) :=
 if v1<(↑(List.length (Zp.Instances a0)):Int) then
 (atI (Zp.Instances a0) v1).bind fun x0 =>
 ZA (fun v=>YW v1 x0 v.1 v.2.1) (v0,(0:Int),())
 else
 ZA (fun v=>YX a0 v.1 v.2.1) (v0,(0:Int),())
def YJ (a0:Zp):Option (List Zk) :=
 ZA (fun v=>YZ a0 v.1 v.2.1) (([]:List (Int×Int×Int×Bool×Unit)),(0:Int),())
def c13:Ctr:=⟨[.dat (ZdN)],[.own (.ol 227 (.flat (JJ)))],fun a K=>splitK a fun a0 a=>XU (YJ a0) fun r=>K (r,()) ()⟩
def Xc (net0:Int) (l05Places0:List Zk) (out0:List Int) (i0:Int):Option (((List Int)×Int×Unit) ⊕ List Int) :=
 if i0<(↑l05Places0.length:Int) then
 (atI l05Places0 i0).bind fun x0 =>
 if Zk.net x0=net0 then
 if (Zk.drives x0)=true then
 some (.inl (out0,Wq (i0+1),()))
 else
 Zj ((List.length out0+List.length [i0])*(8:Nat)≤(140737488355328:Nat)) <|
 some (.inl (out0++[i0],Wq (i0+(1:Int)),()))
 else
 some (.inl (out0,Wq (i0+1),()))
 else
 some (.inr out0)
def QT (d0:Zp) (net0:Int):Option (List Int) :=
 (YJ d0).bind fun y0 =>
 ZA (fun v=>Xc net0 y0 v.1 v.2.1) (([]:List Int),(0:Int),())
def c14:Ctr:=⟨[.dat (ZdN),.dat Iq],[.own (.ol 2 (.flat Iq))],fun a K=>splitK a fun d0 a=>splitK a fun net0 a=>XU (QT d0 net0) fun r=>K (r,()) ()⟩
def Qi (sinks0:Int) (load0:Int):Option QH :=
 Zj ((0:Int)≤sinks0) <|
 Zj (sinks0≤sinks0) <|
 Zj (sinks0≤(4611686018427387904:Int)) <|
 Zj ((↑(8:Nat):Int)*sinks0≤(281474976710656:Int)) <|
 some ([(-1:Int)],[(0:Int)],[load0],List.replicate (Int.toNat sinks0) (0:Int),())
def c15:Ctr:=⟨[.dat Iq,.dat Iq],[.own (ZgI)],fun a K=>splitK a fun sinks0 a=>splitK a fun load0 a=>XU (Qi sinks0 load0) fun r=>K (r,()) ()⟩
def XT (list0:List Int):Option (List Int) :=
 Zj ((List.length (([]:List Int))+List.length list0)*(8:Nat)≤(140737488355328:Nat)) <|
 some (([]:List Int)++list0)
def c16:Ctr:=⟨[.dat (.sl Iq)],[.own (.ol 2 (.flat Iq))],fun a K=>splitK a fun list0 a=>XU (XT list0) fun r=>K (r,()) ()⟩
def Yw (c3:List Int) (c4:List Int) (c5:List Int) (i0:Int) (c7:List Int) (c8:Int) (c9:Int) (l0:List Int):Option ((Int×(List Int)×Int×Int×(List Int)×Unit) ⊕ ((Int×(List Int)×Int×Int×(List Int)×(List Int)×(List Int)×(List Int)×Unit) ⊕ (QH×Za))) :=
 if i0<(↑l0.length:Int) then
 (Zc (c7,c8,c9,()) (↑c3.length:Int)).bind fun y0 =>
 (atI l0 i0).bind fun x0 =>
 some (.inl (Wq (i0+1),y0.snd.fst,y0.snd.snd.fst,y0.snd.snd.snd.fst,List.set l0 (Int.toNat i0) y0.fst,()))
 else
 some (.inr (.inr ((c3,c4,c5,l0,()),(c7,c8,c9,()))))
def Yx (n0:Int) (c0:List Int) (c1:Int) (c2:Int) (c3:List Int) (c4:List Int) (c5:List Int) (c6:List Int):Option ((Int×(List Int)×Int×Int×(List Int)×(List Int)×(List Int)×(List Int)×Unit) ⊕ (QH×Za)) :=
 if 0<n0 then
 (XT c3).bind fun y0 =>
 (Zc (c0,c1,c2,()) (↑c3.length:Int)).bind fun y1 =>
 Zj ((List.length y0+List.length [y1.fst])*(8:Nat)≤(140737488355328:Nat)) <|
 (XT c4).bind fun y2 =>
 (Zc y1.snd 400).bind fun y3 =>
 Zj ((List.length y2+List.length [y3.fst])*(8:Nat)≤(140737488355328:Nat)) <|
 (XT c5).bind fun y4 =>
 (Zc y3.snd 8).bind fun y5 =>
 Zj ((List.length y4+List.length [y5.fst])*(8:Nat)≤(140737488355328:Nat)) <|
 some (.inl (Wq (n0-(1:Int)),y5.snd.fst,y5.snd.snd.fst,y5.snd.snd.snd.fst,y0++[y1.fst],y2++[y3.fst],y4++[y5.fst],c6,()))
 else
 ZA (fun v=>Yw c3 c4 c5 v.1 v.2.1 v.2.2.1 v.2.2.2.1 v.2.2.2.2.1) ((0:Int),c0,c1,c2,c6,())
def Xi (s0:Za) (sinks0:Int):Option (QH×Za) :=
 (Zc s0 6).bind fun y0 =>
 (Qi sinks0 y0.fst).bind fun y1 =>
 (Zc y0.snd 4).bind fun y2 =>
 ZA (fun v=>Yx v.1 v.2.1 v.2.2.1 v.2.2.2.1 v.2.2.2.2.1 v.2.2.2.2.2.1 v.2.2.2.2.2.2.1 v.2.2.2.2.2.2.2.1) (y2.fst,y2.snd.fst,y2.snd.snd.fst,y2.snd.snd.snd.fst,QH.Parent y1,QH.Res y1,QH.Cap y1,QH.ZnH y1,())
def c17:Ctr:=⟨[.io (.flat (Yn)),.dat Iq],[.own (ZgI)],fun a K=>splitK a fun s0 a=>splitK a fun sinks0 a=>XU (Xi s0 sinks0) fun r=>K (r.1,()) (r.2,())⟩
def Xy (l03Draw0:ZaF×Za) (l05Draw0:Zp×Za) (wires0:List QH) (net0:Int) (c0:List Int) (c1:Int) (c2:Int):Option (((List QH)×Int×(List Int)×Int×Int×Unit) ⊕ (Zv×Za)) :=
 if net0<(↑(List.length l05Draw0.fst.snd.fst):Int) then
 (QT l05Draw0.fst net0).bind fun y0 =>
 (Xi (c0,c1,c2,()) (↑y0.length:Int)).bind fun y1 =>
 Zj ((List.length wires0+List.length [y1.fst])*(96:Nat)≤(140737488355328:Nat)) <|
 some (.inl (wires0++[y1.fst],Wq (net0+(1:Int)),y1.snd.fst,y1.snd.snd.fst,y1.snd.snd.snd.fst,()))
 else
 some (.inr ((l03Draw0.fst,l05Draw0.fst,wires0,()),(c0,c1,c2,())))
def Qz (s0:Za) (most0:Int) (wild0:Bool):Option (Zv×Za) :=
 (Vf s0).bind fun y0 =>
 (Vh y0.snd most0 wild0).bind fun y1 =>
 ZA (fun v=>Xy y0 y1 v.1 v.2.1 v.2.2.1 v.2.2.2.1 v.2.2.2.2.1) (([]:List QH),(0:Int),y1.snd.fst,y1.snd.snd.fst,y1.snd.snd.snd.fst,())
def c18:Ctr:=⟨[.io (.flat (Yn)),.dat Iq,.dat (.bool)],[.own (Zhk)],fun a K=>splitK a fun s0 a=>splitK a fun most0 a=>splitK a fun wild0 a=>XU (Qz s0 most0 wild0) fun r=>K (r.1,()) (r.2,())⟩
def Ztk (a0:Za):Option (Zv×Za) :=
 (Zc a0 3).bind fun y0 =>
 (Qz y0.snd 6 (Decidable.decide (y0.fst=0))).bind fun y1 =>
 (Zc y1.snd (↑(List.length y1.fst.snd.snd.fst):Int)).bind fun y2 =>
 (Zc y2.snd 20).bind fun y3 =>
 if y3.fst=0 then
 Zj ((1:Int)≤(↑(List.length y1.fst.snd.snd.fst):Int)) <|
 Zj ((↑(List.length y1.fst.snd.snd.fst):Int)≤(↑(List.length y1.fst.snd.snd.fst):Int)) <|
 some ((y1.fst.fst,y1.fst.snd.fst,List.take (Int.toNat (↑(List.length y1.fst.snd.snd.fst):Int)-Int.toNat 1) (List.drop (Int.toNat 1) y1.fst.snd.snd.fst),()),y3.snd)
 else
 if y3.fst=1 then
 (atI y1.fst.snd.snd.fst y2.fst).bind fun x0 =>
 (XT x0.snd.snd.snd.fst).bind fun y4 =>
 Zj ((List.length y4+List.length [(0:Int)])*(8:Nat)≤(140737488355328:Nat)) <|
 some ((y1.fst.fst,y1.fst.snd.fst,List.set y1.fst.snd.snd.fst (Int.toNat y2.fst) (x0.fst,x0.snd.fst,x0.snd.snd.fst,y4++[(0:Int)],()),()),y3.snd)
 else
 if y3.fst=2 then
 (atI y1.fst.snd.snd.fst y2.fst).bind fun x0 =>
 (atI x0.snd.fst 0).bind fun x1 =>
 some ((y1.fst.fst,y1.fst.snd.fst,List.set y1.fst.snd.snd.fst (Int.toNat y2.fst) (x0.fst,List.set x0.snd.fst (Int.toNat 0) 1,x0.snd.snd),()),y3.snd)
 else
 if y3.fst=3 then
 (atI y1.fst.snd.snd.fst y2.fst).bind fun x0 =>
 (Zc y3.snd 3).bind fun y5 =>
 (atI ([(-1:Int),(500:Int),(501:Int)]) y5.fst).bind fun x1 =>
 (atI x0.snd.snd.fst 0).bind fun x2 =>
 some ((y1.fst.fst,y1.fst.snd.fst,List.set y1.fst.snd.snd.fst (Int.toNat y2.fst) (x0.fst,x0.snd.fst,List.set x0.snd.snd.fst (Int.toNat 0) x1,x0.snd.snd.snd),()),y5.snd)
 else
 if y3.fst=4 then
 (atI y1.fst.snd.snd.fst y2.fst).bind fun x0 =>
 (Zc y3.snd 5).bind fun y5 =>
 (atI x0.fst (Wq ((↑(List.length x0.fst):Int)-1))).bind fun x1 =>
 some ((y1.fst.fst,y1.fst.snd.fst,List.set y1.fst.snd.snd.fst (Int.toNat y2.fst) (List.set x0.fst (Int.toNat (Wq ((↑(List.length x0.fst):Int)-1))) (Wq (y5.fst-1)),x0.snd),()),y5.snd)
 else
 if y3.fst=5 then
 (atI y1.fst.snd.fst.snd.snd.fst 0).bind fun x0 =>
 some ((y1.fst.fst,(y1.fst.snd.fst.fst,y1.fst.snd.fst.snd.fst,List.set y1.fst.snd.fst.snd.snd.fst (Int.toNat 0) (Zah.Name x0,3,x0.snd.snd),()),y1.fst.snd.snd),y3.snd)
 else
 some (y1.fst,y3.snd)
def c19:Ctr:=⟨[.io (.flat (Yn))],[.own (Zhk)],fun a K=>splitK a fun a0 a=>XU (Ztk a0) fun r=>K (r.1,()) (r.2,())⟩
def ZG5 (s0:Za):Option (Zv×Za) :=
 (Zc s0 12).bind fun y0 =>
 if y0.fst=0 then
 (Ztk y0.snd).bind fun y1 =>
 some (y1.fst,y1.snd)
 else
 if y0.fst=1 then
 if y0.fst=1 then
 (Qz y0.snd 6 true).bind fun y2 =>
 some (y2.fst,y2.snd)
 else
 (Qz y0.snd 6 false).bind fun y2 =>
 some (y2.fst,y2.snd)
 else
 if y0.fst=2 then
 (Qz y0.snd 6 true).bind fun y2 =>
 some (y2.fst,y2.snd)
 else
 (Qz y0.snd 6 false).bind fun y2 =>
 some (y2.fst,y2.snd)
def c20:Ctr:=⟨[.io (.flat (Yn))],[.own (Zhk)],fun a K=>splitK a fun s0 a=>XU (ZG5 s0) fun r=>K (r.1,()) (r.2,())⟩
def ZGV (s0:Za):Option (Qj×Za) :=
 (Zc s0 3).bind fun y0 =>
 (atI ([[(115:UInt8),(108:UInt8),(111:UInt8),(119:UInt8)],[(102:UInt8),(97:UInt8),(115:UInt8),(116:UInt8)],[(116:UInt8),(121:UInt8),(112:UInt8)]]) y0.fst).bind fun x0 =>
 (Zc y0.snd 20).bind fun y1 =>
 (Zc y1.snd 20).bind fun y2 =>
 (Zc y2.snd 60).bind fun y3 =>
 (Zc y3.snd 40).bind fun y4 =>
 (Zc y4.snd 30).bind fun y5 =>
 if y5.fst=0 then
 some ((x0,Wq (800+Wq (10*y1.fst)),Wq (Wq (800+Wq (10*y1.fst))-1),Wq (900+Wq (10*y2.fst)),Wq (Wq (900+Wq (10*y2.fst))+Wq (9*y4.fst)),()),y5.snd)
 else
 if y5.fst=1 then
 (Zc y5.snd 3).bind fun y6 =>
 (atI ([(99:Int),(100:Int),(-1:Int)]) y6.fst).bind fun x1 =>
 some ((x0,Wq (800+Wq (10*y1.fst)),Wq (Wq (800+Wq (10*y1.fst))+Wq (7*y3.fst)),x1,Wq (Wq (900+Wq (10*y2.fst))+Wq (9*y4.fst)),()),y6.snd)
 else
 if y5.fst=2 then
 (Zc y5.snd 2).bind fun y6 =>
 some ((x0,Wq (800+Wq (10*y1.fst)),Wq (Wq (800+Wq (10*y1.fst))+Wq (7*y3.fst)),Wq (900+Wq (10*y2.fst)),Wq (5000+y6.fst),()),y6.snd)
 else
 if y5.fst=3 then
 some ((([]:List UInt8),Wq ((800:Int)+Wq ((10:Int)*y1.fst)),Wq (Wq ((800:Int)+Wq ((10:Int)*y1.fst))+Wq ((7:Int)*y3.fst)),Wq ((900:Int)+Wq ((10:Int)*y2.fst)),Wq (Wq ((900:Int)+Wq ((10:Int)*y2.fst))+Wq ((9:Int)*y4.fst)),()),y5.snd)
 else
 some ((x0,Wq (800+Wq (10*y1.fst)),Wq (Wq (800+Wq (10*y1.fst))+Wq (7*y3.fst)),Wq (900+Wq (10*y2.fst)),Wq (Wq (900+Wq (10*y2.fst))+Wq (9*y4.fst)),()),y5.snd)
def c21:Ctr:=⟨[.io (.flat (Yn))],[.dat (ZdM)],fun a K=>splitK a fun s0 a=>XU (ZGV s0) fun r=>K (r.1,()) (r.2,())⟩
def Xu (s0:List UInt8) (i0:Int):Option ((Int×Unit) ⊕ Bool) :=
 if i0<(↑s0.length:Int) then
 (atI s0 i0).bind fun x0 =>
 if 97≤(↑(UInt8.toNat x0):Int) then
 if 48≤(↑(UInt8.toNat x0):Int) then
 if (↑(UInt8.toNat x0):Int)≤122 then
 some (.inl (Wq (i0+1),()))
 else
 if (↑(UInt8.toNat x0):Int)≤57 then
 if 0<i0 then
 some (.inl (Wq (i0+1),()))
 else
 some (.inr false)
 else
 some (.inr false)
 else
 if (↑(UInt8.toNat x0):Int)≤122 then
 some (.inl (Wq (i0+1),()))
 else
 some (.inr false)
 else
 if 48≤(↑(UInt8.toNat x0):Int) then
 if (↑(UInt8.toNat x0):Int)≤57 then
 if 0<i0 then
 some (.inl (Wq (i0+1),()))
 else
 some (.inr false)
 else
 some (.inr false)
 else
 some (.inr false)
 else
 if 1≤(↑s0.length:Int) then
 some (.inr (Decidable.decide ((↑s0.length:Int)≤8)))
 else
 some (.inr false)
def Vg (s0:List UInt8):Option Bool :=
 ZA (fun v=>Xu s0 v.1) ((0:Int),())
def c22:Ctr:=D1 (.str) (.bool) Vg
def Yd (n0:Int) (low0:Int) (high0:Int):Option Bool :=
 if low0≤n0 then
 some (Decidable.decide (n0≤high0))
 else
 some false
def c23:Ctr:=D3 Iq Iq Iq (.bool) Yd
def Zqz (a0:QG) (v0:Int) (v1:Int) (x0:ZhU) (v2:Int):Option ((Int×Unit) ⊕ ((Int×Int×Unit) ⊕ (Int×Bool))) :=
 if v2<v1 then
 (atI (QG.ZoY a0) v2).bind fun x1 =>
 if ZhU.Name x1=ZhU.Name x0 then
 some (.inr (.inr (0,false)))
 else
 some (.inl (Wq (v2+1),()))
 else
 (Vg (ZhU.Name x0)).bind fun y0 =>
 if y0 then
 (Yd (ZhU.Cap x0) 0 500).bind fun y1 =>
 if y1 then
 if v1=Wq ((↑(List.length (QG.ZoY a0)):Int)-1) then
 if ZhU.Dir x0=2 then
 if ZhU.Cap x0=0 then
 if (ZhU.Clock x0)=true then
 some (.inr (.inr (0,false)))
 else
 if v1<Wq ((↑(List.length (QG.ZoY a0)):Int)-1) then
 if ZhU.Dir x0=1 then
 if (ZhU.Clock x0)=true then
 some (.inr (.inl (Wq (v0+1),Wq (v1+1),())))
 else
 some (.inr (.inl (v0,Wq (v1+1),())))
 else
 some (.inr (.inr (0,false)))
 else
 if (ZhU.Clock x0)=true then
 some (.inr (.inl (Wq (v0+1),Wq (v1+1),())))
 else
 some (.inr (.inl (v0,Wq (v1+1),())))
 else
 some (.inr (.inr (0,false)))
 else
 some (.inr (.inr (0,false)))
 else
 if v1<Wq ((↑(List.length (QG.ZoY a0)):Int)-1) then
 if ZhU.Dir x0=1 then
 if (ZhU.Clock x0)=true then
 some (.inr (.inl (Wq (v0+1),Wq (v1+1),())))
 else
 some (.inr (.inl (v0,Wq (v1+1),())))
 else
 some (.inr (.inr (0,false)))
 else
 if (ZhU.Clock x0)=true then
 some (.inr (.inl (Wq (v0+1),Wq (v1+1),())))
 else
 some (.inr (.inl (v0,Wq (v1+1),())))
 else
 some (.inr (.inr (0,false)))
 else
 some (.inr (.inr (0,false)))
def Zq9 (a0:QG) (v0:Int) (v1:Int):Option ((Int×Int×Unit) ⊕ (Int×Bool)) :=
 if v1<(↑(List.length (QG.ZoY a0)):Int) then
 (atI (QG.ZoY a0) v1).bind fun x0 =>
 ZA (fun v=>Zqz a0 v0 v1 x0 v.1) ((0:Int),())
 else
 some (.inr (v0,true))
def Zut (a0:QG):Option (Int×Bool) :=
 if (↑(List.length (QG.ZoY a0)):Int)<2 then
 some (0,false)
 else
 if 5<(↑(List.length (QG.ZoY a0)):Int) then
 some (0,false)
 else
 ZA (fun v=>Zq9 a0 v.1 v.2.1) ((0:Int),(0:Int),())
def c24:Ctr:=⟨[.dat (Zin)],[.dat Iq,.dat (.bool)],fun a K=>splitK a fun a0 a=>XU (Zut a0) fun r=>K (r.1,r.2,()) ()⟩
def Zti (list0:List Int) (i0:Int):Option ((Int×Unit) ⊕ Bool) :=
 if i0<(↑list0.length:Int) then
 (atI list0 i0).bind fun x0 =>
 (Yd x0 0 100000).bind fun y0 =>
 if y0 then
 if 0<i0 then
 (atI list0 (Wq (i0-1))).bind fun x1 =>
 if x0≤x1 then
 some (.inr false)
 else
 some (.inl (Wq (i0+1),()))
 else
 some (.inl (Wq (i0+1),()))
 else
 some (.inr false)
 else
 if 1≤(↑list0.length:Int) then
 some (.inr (Decidable.decide ((↑list0.length:Int)≤4)))
 else
 some (.inr false)
def ZtG (list0:List Int):Option Bool :=
 ZA (fun v=>Zti list0 v.1) ((0:Int),())
def c25:Ctr:=D1 (.sl Iq) (.bool) ZtG
def Zth (t0:Jy) (i0:Int):Option ((Int×Unit) ⊕ Bool) :=
 if i0<(↑(List.length (Jy.Values t0)):Int) then
 (atI (Jy.Values t0) i0).bind fun x0 =>
 (Yd x0 (-1000000) 1000000).bind fun y0 =>
 if y0 then
 some (.inl (Wq (i0+1),()))
 else
 some (.inr false)
 else
 some (.inr true)
def Zus (t0:Jy):Option Bool :=
 (ZtG (Jy.ZoG t0)).bind fun y0 =>
 if y0 then
 (ZtG (Jy.Loads t0)).bind fun y1 =>
 if y1 then
 if (↑(List.length (Jy.Values t0)):Int)=Wq ((↑(List.length (Jy.ZoG t0)):Int)*(↑(List.length (Jy.Loads t0)):Int)) then
 ZA (fun v=>Zth t0 v.1) ((0:Int),())
 else
 some false
 else
 some false
 else
 some false
def c26:Ctr:=D1 (ZdQ) (.bool) Zus
def Zq0 (t0:Jy) (i0:Int) (c0:Int) (c1:Int):Option ((Int×Int×Int×Unit) ⊕ (Vz×Int)) :=
 if i0<(↑(List.length (Jy.Values t0)):Int) then
 (atI (Jy.Values t0) i0).bind fun x1 =>
 some (.inl (Wq (i0+1),Min.min c0 x1,Max.max c1 x1,()))
 else
 some (.inr ((c0,c1,()),0))
def ZsF (t0:Jy):Option (Vz×Int) :=
 (Zus t0).bind fun y0 =>
 if y0 then
 (atI (Jy.Values t0) 0).bind fun x0 =>
 ZA (fun v=>Zq0 t0 v.1 v.2.1 v.2.2.1) ((1:Int),x0,x0,())
 else
 some ((0,0,()),1)
def c27:Ctr:=⟨[.dat (ZdQ)],[.dat (ZfI),.dat Iq],fun a K=>splitK a fun t0 a=>XU (ZsF t0) fun r=>K (r.1,r.2,()) ()⟩
def Zsy (list0:List Jy) (positive0:Bool) (i0:Int):Option ((Int×Unit) ⊕ Bool) :=
 if i0<2 then
 (atI list0 i0).bind fun x0 =>
 (ZsF x0).bind fun y0 =>
 if y0.snd=0 then
 if positive0 then
 if y0.fst.fst<0 then
 some (.inr false)
 else
 some (.inl (Wq (i0+1),()))
 else
 some (.inl (Wq (i0+1),()))
 else
 some (.inr false)
 else
 some (.inr true)
def ZpG (list0:List Jy) (positive0:Bool):Option Bool :=
 if (↑list0.length:Int)=2 then
 ZA (fun v=>Zsy list0 positive0 v.1) ((0:Int),())
 else
 some false
def c28:Ctr:=D2 (.sl (ZdQ)) (.bool) (.bool) ZpG
def ZuP (a0:QG) (a1:ZfN):Option Bool :=
 (Yd (ZfN.From a1) 0 (Wq (Wq ((↑(List.length (QG.ZoY a0)):Int)-1)-1))).bind fun y0 =>
 if y0 then
 (Yd (ZfN.To a1) 0 (Wq ((↑(List.length (QG.ZoY a0)):Int)-1))).bind fun y1 =>
 if y1 then
 (atI (QG.ZoY a0) (ZfN.From a1)).bind fun x0 =>
 if ZfN.Kind a1=1 then
 if (ZhU.Clock x0)=true then
 some false
 else
 if ZfN.To a1=Wq ((↑(List.length (QG.ZoY a0)):Int)-1) then
 (Yd (ZfN.ZoE a1) 1 3).bind fun y2 =>
 if y2 then
 (ZpG (ZfN.Delay a1) true).bind fun y3 =>
 if y3 then
 (ZpG (ZfN.Znd a1) true).bind fun y4 =>
 some y4
 else
 some false
 else
 some false
 else
 some false
 else
 if ZfN.Kind a1=2 then
 if ZfN.Kind a1=2 then
 if (ZhU.Clock x0)=true then
 if ZfN.To a1=Wq ((↑(List.length (QG.ZoY a0)):Int)-1) then
 if ZfN.ZoE a1=0 then
 (ZpG (ZfN.Delay a1) true).bind fun y3 =>
 if y3 then
 (ZpG (ZfN.Znd a1) true).bind fun y4 =>
 some y4
 else
 some false
 else
 some false
 else
 some false
 else
 some false
 else
 if ZfN.Kind a1=4 then
 if ZfN.Kind a1=4 then
 if (ZhU.Clock x0)=true then
 if ZfN.To a1<Wq ((↑(List.length (QG.ZoY a0)):Int)-1) then
 (atI (QG.ZoY a0) (ZfN.To a1)).bind fun x1 =>
 if (ZhU.Clock x1)=true then
 some false
 else
 if ZfN.ZoE a1=0 then
 (ZpG (ZfN.Delay a1) false).bind fun y3 =>
 if y3 then
 some (Decidable.decide ((↑(List.length (ZfN.Znd a1)):Int)=0))
 else
 some false
 else
 some false
 else
 some false
 else
 some false
 else
 some false
 else
 if ZfN.Kind a1=5 then
 if (ZhU.Clock x0)=true then
 if ZfN.To a1<Wq ((↑(List.length (QG.ZoY a0)):Int)-1) then
 (atI (QG.ZoY a0) (ZfN.To a1)).bind fun x1 =>
 if (ZhU.Clock x1)=true then
 some false
 else
 if ZfN.ZoE a1=0 then
 (ZpG (ZfN.Delay a1) false).bind fun y3 =>
 if y3 then
 some (Decidable.decide ((↑(List.length (ZfN.Znd a1)):Int)=0))
 else
 some false
 else
 some false
 else
 some false
 else
 some false
 else
 some false
 else
 if ZfN.Kind a1=3 then
 if (ZhU.Clock x0)=true then
 if ZfN.To a1=Wq ((↑(List.length (QG.ZoY a0)):Int)-1) then
 if ZfN.ZoE a1=0 then
 (ZpG (ZfN.Delay a1) true).bind fun y3 =>
 if y3 then
 (ZpG (ZfN.Znd a1) true).bind fun y4 =>
 some y4
 else
 some false
 else
 some false
 else
 some false
 else
 some false
 else
 if ZfN.Kind a1=4 then
 if ZfN.Kind a1=4 then
 if (ZhU.Clock x0)=true then
 if ZfN.To a1<Wq ((↑(List.length (QG.ZoY a0)):Int)-1) then
 (atI (QG.ZoY a0) (ZfN.To a1)).bind fun x1 =>
 if (ZhU.Clock x1)=true then
 some false
 else
 if ZfN.ZoE a1=0 then
 (ZpG (ZfN.Delay a1) false).bind fun y3 =>
 if y3 then
 some (Decidable.decide ((↑(List.length (ZfN.Znd a1)):Int)=0))
 else
 some false
 else
 some false
 else
 some false
 else
 some false
 else
 some false
 else
 if ZfN.Kind a1=5 then
 if (ZhU.Clock x0)=true then
 if ZfN.To a1<Wq ((↑(List.length (QG.ZoY a0)):Int)-1) then
 (atI (QG.ZoY a0) (ZfN.To a1)).bind fun x1 =>
 if (ZhU.Clock x1)=true then
 some false
 else
 if ZfN.ZoE a1=0 then
 (ZpG (ZfN.Delay a1) false).bind fun y3 =>
 if y3 then
 some (Decidable.decide ((↑(List.length (ZfN.Znd a1)):Int)=0))
 else
 some false
 else
 some false
 else
 some false
 else
 some false
 else
 some false
 else
 some false
 else
 some false
def c29:Ctr:=D2 (Zin) (Zmv) (.bool) ZuP
def ZrK (c0:QG) (i0:Int) (l0:List Int):Option ((Int×(List Int)×Unit) ⊕ List Int) :=
 if i0<(↑(List.length (QG.ZoW c0)):Int) then
 (atI (QG.ZoW c0) i0).bind fun x0 =>
 (atI l0 (ZfN.Kind x0)).bind fun x1 =>
 some (.inl (Wq (i0+1),List.set l0 (Int.toNat (ZfN.Kind x0)) (Wq (x1+1)),()))
 else
 some (.inr l0)
def ZtY (c0:QG):Option (List Int) :=
 ZA (fun v=>ZrK c0 v.1 v.2.1) ((0:Int),List.replicate (Int.toNat (6:Int)) (0:Int),())
def c30:Ctr:=⟨[.dat (Zin)],[.own (.ol 2 (.flat Iq))],fun a K=>splitK a fun c0 a=>XU (ZtY c0) fun r=>K (r,()) ()⟩
def Zsl (a0:QG) (v0:Int) (x0:ZfN) (v1:Int):Option ((Int×Unit) ⊕ ((Int×Unit) ⊕ Bool)) :=
 if v1<v0 then
 (atI (QG.ZoW a0) v1).bind fun x1 =>
 if ZfN.Kind x1=ZfN.Kind x0 then
 if ZfN.From x1=ZfN.From x0 then
 if ZfN.To x1=ZfN.To x0 then
 some (.inr (.inr false))
 else
 some (.inl (Wq (v1+1),()))
 else
 some (.inl (Wq (v1+1),()))
 else
 some (.inl (Wq (v1+1),()))
 else
 some (.inr (.inl (Wq (v0+1),())))
def Zsm (a0:QG) (l03Pins0:Int×Bool) (v1:Int):Option ((Int×Unit) ⊕ ((Int×Unit) ⊕ Bool)) :=
 if v1<(↑(List.length (QG.Truth a0)):Int) then
 (atI (QG.Truth a0) v1).bind fun x0 =>
 (Yd x0 0 1).bind fun y0 =>
 if y0 then
 some (.inl (Wq (v1+1),()))
 else
 some (.inr (.inr false))
 else
 if l03Pins0.fst=0 then
 Zj ((0:Int)≤IntKind.wrap IntKind.u64 (Wq ((↑(List.length (QG.ZoY a0)):Int)-(1:Int)))) <|
 some (.inr (.inr (Decidable.decide ((↑(List.length (QG.Truth a0)):Int)=Wq (1*2 ^ Min.min (Int.toNat (IntKind.wrap IntKind.u64 (Wq ((↑(List.length (QG.ZoY a0)):Int)-1)))) (IntKind.bits IntKind.i64))))))
 else
 some (.inr (.inr false))
def Zts (a0:QG) (l03Pins0:Int×Bool) (v0:Int):Option ((Int×Unit) ⊕ Bool) :=
 if v0<(↑(List.length (QG.ZoW a0)):Int) then
 (atI (QG.ZoW a0) v0).bind fun x0 =>
 (ZuP a0 x0).bind fun y0 =>
 if y0 then
 ZA (fun v=>Zsl a0 v0 x0 v.1) ((0:Int),())
 else
 some (.inr false)
 else
 (ZtY a0).bind fun y1 =>
 if QG.Kind a0=1 then
 ZA (fun v=>Zsm a0 l03Pins0 v.1) ((0:Int),())
 else
 if QG.Kind a0=2 then
 if l03Pins0.fst=1 then
 (atI y1 1).bind fun x0 =>
 if x0=0 then
 (atI y1 2).bind fun x1 =>
 (atI y1 3).bind fun x2 =>
 if (Decidable.decide (0<x1) == Decidable.decide (0<x2))=true then
 some (.inr false)
 else
 some (.inr (Decidable.decide ((↑(List.length (QG.Truth a0)):Int)=0)))
 else
 some (.inr false)
 else
 some (.inr false)
 else
 if QG.Kind a0=3 then
 if l03Pins0.fst=1 then
 (atI y1 1).bind fun x0 =>
 if 0<x0 then
 (atI y1 2).bind fun x1 =>
 if 0<x1 then
 (atI y1 3).bind fun x2 =>
 if x2=0 then
 some (.inr (Decidable.decide ((↑(List.length (QG.Truth a0)):Int)=0)))
 else
 some (.inr false)
 else
 some (.inr false)
 else
 some (.inr false)
 else
 some (.inr false)
 else
 some (.inr false)
def ZuN (a0:QG):Option Bool :=
 (Zut a0).bind fun y0 =>
 if y0.snd then
 (Vg (QG.Name a0)).bind fun y1 =>
 if y1 then
 if 8<(↑(List.length (QG.ZoW a0)):Int) then
 some false
 else
 (Yd (QG.ZoX a0) 0 100000).bind fun y2 =>
 if y2 then
 (Yd (QG.Zon a0) 0 100000).bind fun y3 =>
 if y3 then
 ZA (fun v=>Zts a0 y0 v.1) ((0:Int),())
 else
 some false
 else
 some false
 else
 some false
 else
 some false
def c31:Ctr:=D1 (Zin) (.bool) ZuN
def Zsw (l0:ZaF) (i0:Int) (x0:QG) (k0:Int):Option ((Int×Unit) ⊕ ((Int×Unit) ⊕ Bool)) :=
 if k0<i0 then
 (atI (ZaF.Cells l0) k0).bind fun x1 =>
 if QG.Name x1=QG.Name x0 then
 some (.inr (.inr false))
 else
 some (.inl (Wq (k0+1),()))
 else
 some (.inr (.inl (Wq (i0+1),())))
def Zsx (l0:ZaF) (i0:Int):Option ((Int×Unit) ⊕ Bool) :=
 if i0<(↑(List.length (ZaF.Cells l0)):Int) then
 (atI (ZaF.Cells l0) i0).bind fun x0 =>
 (ZuN x0).bind fun y0 =>
 if y0 then
 ZA (fun v=>Zsw l0 i0 x0 v.1) ((0:Int),())
 else
 some (.inr false)
 else
 some (.inr (Decidable.decide ((↑(List.length (ZaF.Cells l0)):Int)≤8)))
def Ztz (l0:ZaF):Option Bool :=
 ZA (fun v=>Zsx l0 v.1) ((0:Int),())
def c32:Ctr:=D1 (Zc3) (.bool) Ztz
def ZsT (a1:Zp) (v0:Int) (x0:Zz) (v1:Int):Option ((Int×Unit) ⊕ ((Int×Unit) ⊕ Bool)) :=
 if v1<(↑(List.length (Zz.Zbh x0)):Int) then
 (atI (Zz.Zbh x0) v1).bind fun x2 =>
 (Yd x2 0 (Wq ((↑(List.length (Zp.Zbh a1)):Int)-1))).bind fun y0 =>
 if y0 then
 some (.inl (Wq (v1+1),()))
 else
 some (.inr (.inr false))
 else
 some (.inr (.inl (Wq (v0+1),())))
def ZsU (a1:Zp) (v1:Int):Option ((Int×Unit) ⊕ ((Int×Unit) ⊕ Bool)) :=
 if v1<(↑(List.length (Zp.Vk a1)):Int) then
 (atI (Zp.Vk a1) v1).bind fun x0 =>
 (Yd (Zah.Dir x0) 1 2).bind fun y0 =>
 if y0 then
 (Yd (Zah.Net x0) 0 (Wq ((↑(List.length (Zp.Zbh a1)):Int)-1))).bind fun y1 =>
 if y1 then
 some (.inl (Wq (v1+1),()))
 else
 some (.inr (.inr false))
 else
 some (.inr (.inr false))
 else
 some (.inr (.inr true))
def ZsV (a0:ZaF) (a1:Zp) (v0:Int):Option ((Int×Unit) ⊕ Bool) :=
 if v0<(↑(List.length (Zp.Instances a1)):Int) then
 (atI (Zp.Instances a1) v0).bind fun x0 =>
 (Yd (Zz.Cell x0) 0 (Wq ((↑(List.length (ZaF.Cells a0)):Int)-1))).bind fun y0 =>
 if y0 then
 (atI (ZaF.Cells a0) (Zz.Cell x0)).bind fun x1 =>
 if (↑(List.length (Zz.Zbh x0)):Int)=(↑(List.length (QG.ZoY x1)):Int) then
 ZA (fun v=>ZsT a1 v0 x0 v.1) ((0:Int),())
 else
 some (.inr false)
 else
 some (.inr false)
 else
 ZA (fun v=>ZsU a1 v.1) ((0:Int),())
def ZtZ (a0:ZaF) (a1:Zp):Option Bool :=
 ZA (fun v=>ZsV a0 a1 v.1) ((0:Int),())
def c33:Ctr:=D2 (Zc3) (ZdN) (.bool) ZtZ
def ZsR (list0:List (List UInt8)) (i0:Int) (x0:List UInt8) (k0:Int):Option ((Int×Unit) ⊕ ((Int×Unit) ⊕ Bool)) :=
 if k0<i0 then
 (atI list0 k0).bind fun x1 =>
 if x1=x0 then
 some (.inr (.inr false))
 else
 some (.inl (Wq (k0+1),()))
 else
 some (.inr (.inl (Wq (i0+1),())))
def ZsS (list0:List (List UInt8)) (i0:Int):Option ((Int×Unit) ⊕ Bool) :=
 if i0<(↑list0.length:Int) then
 (atI list0 i0).bind fun x0 =>
 (Vg x0).bind fun y0 =>
 if y0 then
 ZA (fun v=>ZsR list0 i0 x0 v.1) ((0:Int),())
 else
 some (.inr false)
 else
 some (.inr true)
def Zso (list0:List (List UInt8)):Option Bool :=
 ZA (fun v=>ZsS list0 v.1) ((0:Int),())
def c34:Ctr:=D1 (.sl (.str)) (.bool) Zso
def ZsN (l1:List Int) (v6:Int):Option ((Int×Unit) ⊕ ((Int×(List Int)×Unit) ⊕ ((Int×(List Int)×Unit) ⊕ (((List (List UInt8))×Int×Unit) ⊕ (((List (List UInt8))×Int×Unit) ⊕ Bool))))) :=
 if v6<(↑l1.length:Int) then
 (atI l1 v6).bind fun x0 =>
 if x0=1 then
 some (.inl (Wq (v6+1),()))
 else
 some (.inr (.inr (.inr (.inr (.inr false)))))
 else
 some (.inr (.inr (.inr (.inr (.inr true)))))
def ZqT (a1:Zp) (v5:Int) (l1:List Int):Option ((Int×(List Int)×Unit) ⊕ ((Int×(List Int)×Unit) ⊕ (((List (List UInt8))×Int×Unit) ⊕ (((List (List UInt8))×Int×Unit) ⊕ Bool)))) :=
 if v5<(↑(List.length (Zp.Vk a1)):Int) then
 (atI (Zp.Vk a1) v5).bind fun x0 =>
 if Zah.Dir x0=1 then
 (atI l1 (Zah.Net x0)).bind fun x1 =>
 some (.inl (Wq (v5+1),List.set l1 (Int.toNat (Zah.Net x0)) (Wq (x1+1)),()))
 else
 some (.inl (Wq (v5+1),l1,()))
 else
 ZA (fun v=>ZsN l1 v.1) ((0:Int),())
def ZqU (a1:Zp) (v4:Int) (l0:List Int):Option ((Int×(List Int)×Unit) ⊕ (((List (List UInt8))×Int×Unit) ⊕ (((List (List UInt8))×Int×Unit) ⊕ Bool))) :=
 if v4<(↑(List.length (Zp.Instances a1)):Int) then
 (atI (Zp.Instances a1) v4).bind fun x0 =>
 (atI (Zz.Zbh x0) (Wq ((↑(List.length (Zz.Zbh x0)):Int)-1))).bind fun x1 =>
 (atI l0 x1).bind fun x2 =>
 some (.inl (Wq (v4+1),List.set l0 (Int.toNat x1) (Wq (x2+1)),()))
 else
 ZA (fun v=>ZqT a1 v.1 v.2.1) ((0:Int),l0,())
def ZsO (a1:Zp) (v0:List (List UInt8)) (v2:List (List UInt8)) (v3:Int):Option (((List (List UInt8))×Int×Unit) ⊕ (((List (List UInt8))×Int×Unit) ⊕ Bool)) :=
 if v3<(↑(List.length (Zp.Vk a1)):Int) then
 (atI (Zp.Vk a1) v3).bind fun x0 =>
 Zj ((List.length v2+List.length [Zah.Name x0])*(16:Nat)≤(140737488355328:Nat)) <|
 some (.inl (v2++[Zah.Name x0],Wq (v3+(1:Int)),()))
 else
 (Zso v0).bind fun y0 =>
 if y0 then
 (Zso v2).bind fun y1 =>
 if y1 then
 (Zso (Zp.Zbh a1)).bind fun y2 =>
 if y2 then
 Zj ((0:Int)≤(↑(List.length (Zp.Zbh a1)):Int)) <|
 Zj ((↑(List.length (Zp.Zbh a1)):Int)≤(↑(List.length (Zp.Zbh a1)):Int)) <|
 Zj ((↑(List.length (Zp.Zbh a1)):Int)≤(4611686018427387904:Int)) <|
 Zj ((↑(8:Nat):Int)*(↑(List.length (Zp.Zbh a1)):Int)≤(281474976710656:Int)) <|
 ZA (fun v=>ZqU a1 v.1 v.2.1) ((0:Int),List.replicate (Int.toNat (↑(List.length (Zp.Zbh a1)):Int)) (0:Int),())
 else
 some (.inr (.inr false))
 else
 some (.inr (.inr false))
 else
 some (.inr (.inr false))
def ZsP (a1:Zp) (v0:List (List UInt8)) (v1:Int):Option (((List (List UInt8))×Int×Unit) ⊕ Bool) :=
 if v1<(↑(List.length (Zp.Instances a1)):Int) then
 (atI (Zp.Instances a1) v1).bind fun x0 =>
 Zj ((List.length v0+List.length [Zz.Name x0])*(16:Nat)≤(140737488355328:Nat)) <|
 some (.inl (v0++[Zz.Name x0],Wq (v1+(1:Int)),()))
 else
 ZA (fun v=>ZsO a1 v0 v.1 v.2.1) (([]:List (List UInt8)),(0:Int),())
def ZtW (a0:ZaF) (a1:Zp):Option Bool :=
 (Ztz a0).bind fun y0 =>
 if y0 then
 if 14<(↑(List.length (Zp.Instances a1)):Int) then
 some false
 else
 if 30<(↑(List.length (Zp.Zbh a1)):Int) then
 some false
 else
 if 8<(↑(List.length (Zp.Vk a1)):Int) then
 some false
 else
 (ZtZ a0 a1).bind fun y1 =>
 if y1 then
 ZA (fun v=>ZsP a1 v.1 v.2.1) (([]:List (List UInt8)),(0:Int),())
 else
 some false
 else
 some false
def c35:Ctr:=D2 (Zc3) (ZdN) (.bool) ZtW
def Ztt (a0:QH) (v1:Int):Option ((Int×Unit) ⊕ ((Int×Unit) ⊕ Bool)) :=
 if v1<(↑(List.length (QH.ZnH a0)):Int) then
 (atI (QH.ZnH a0) v1).bind fun x0 =>
 (Yd x0 0 (Wq ((↑(List.length (QH.Parent a0)):Int)-1))).bind fun y0 =>
 if y0 then
 some (.inl (Wq (v1+1),()))
 else
 some (.inr (.inr false))
 else
 some (.inr (.inr true))
def Ztu (a0:QH) (v0:Int):Option ((Int×Unit) ⊕ Bool) :=
 if v0<(↑(List.length (QH.Parent a0)):Int) then
 (atI (QH.Cap a0) v0).bind fun x0 =>
 (Yd x0 0 500).bind fun y0 =>
 if y0 then
 (atI (QH.Res a0) v0).bind fun x1 =>
 (Yd x1 0 1000).bind fun y1 =>
 if y1 then
 if v0=0 then
 (atI (QH.Parent a0) v0).bind fun x2 =>
 if x2=(-1) then
 if x1=0 then
 if 0<v0 then
 (Yd x2 0 (Wq (v0-1))).bind fun y2 =>
 if y2 then
 some (.inl (Wq (v0+1),()))
 else
 some (.inr false)
 else
 some (.inl (Wq (v0+1),()))
 else
 some (.inr false)
 else
 some (.inr false)
 else
 if 0<v0 then
 (atI (QH.Parent a0) v0).bind fun x2 =>
 (Yd x2 0 (Wq (v0-1))).bind fun y2 =>
 if y2 then
 some (.inl (Wq (v0+1),()))
 else
 some (.inr false)
 else
 some (.inl (Wq (v0+1),()))
 else
 some (.inr false)
 else
 some (.inr false)
 else
 ZA (fun v=>Ztt a0 v.1) ((0:Int),())
def Zui (a0:QH) (a1:Int):Option Bool :=
 if (↑(List.length (QH.Parent a0)):Int)<1 then
 some false
 else
 if 8<(↑(List.length (QH.Parent a0)):Int) then
 some false
 else
 if (↑(List.length (QH.Res a0)):Int)=(↑(List.length (QH.Parent a0)):Int) then
 if (↑(List.length (QH.Cap a0)):Int)=(↑(List.length (QH.Parent a0)):Int) then
 if (↑(List.length (QH.ZnH a0)):Int)=a1 then
 ZA (fun v=>Ztu a0 v.1) ((0:Int),())
 else
 some false
 else
 some false
 else
 some false
def c36:Ctr:=D2 (ZjY) Iq (.bool) Zui
def Ztg (b0:Zv) (net0:Int):Option ((Int×Unit) ⊕ Bool) :=
 if net0<(↑(List.length (Zv.ZlA b0)):Int) then
 (atI (Zv.ZlA b0) net0).bind fun x0 =>
 (QT (Zv.Design b0) net0).bind fun y0 =>
 (Zui x0 (↑y0.length:Int)).bind fun y1 =>
 if y1 then
 some (.inl (Wq (net0+1),()))
 else
 some (.inr false)
 else
 some (.inr true)
def Zsb (b0:Zv):Option Bool :=
 (ZtW (Zv.Library b0) (Zv.Design b0)).bind fun y0 =>
 if y0 then
 if (↑(List.length (Zv.ZlA b0)):Int)=(↑(List.length (Zp.Zbh (Zv.Design b0))):Int) then
 ZA (fun v=>Ztg b0 v.1) ((0:Int),())
 else
 some false
 else
 some false
def c37:Ctr:=D1 (ZjX) (.bool) Zsb
def Ztj (instance0:Int) (pin0:Int) (l05Places0:List Zk) (i0:Int):Option ((Int×Unit) ⊕ Int) :=
 if i0<(↑l05Places0.length:Int) then
 (atI l05Places0 i0).bind fun x0 =>
 if Zk.instance x0=instance0 then
 if Zk.pin x0=pin0 then
 some (.inr i0)
 else
 some (.inl (Wq (i0+1),()))
 else
 some (.inl (Wq (i0+1),()))
 else
 some (.inr (-1))
def Zs1 (d0:Zp) (instance0:Int) (pin0:Int):Option Int :=
 (YJ d0).bind fun y0 =>
 ZA (fun v=>Ztj instance0 pin0 y0 v.1) ((0:Int),())
def c38:Ctr:=D3 (ZdN) Iq Iq Iq Zs1
def ZGR (list0:List Ze4) (from0:Int) (to0:Int) (a0:Int) (b0:Int) (kind0:Int) (index0:Int):Option (List Ze4) :=
 Zj ((List.length list0+List.length [(Wq (Wq ((2:Int)*from0)+a0),Wq (Wq ((2:Int)*to0)+b0),kind0,index0,())])*(32:Nat)≤(140737488355328:Nat)) <|
 some (list0++[(Wq (Wq ((2:Int)*from0)+a0),Wq (Wq ((2:Int)*to0)+b0),kind0,index0,())])
def c39:Ctr:=⟨[.own (.ol 211 (.flat (Zl8))),.dat Iq,.dat Iq,.dat Iq,.dat Iq,.dat Iq,.dat Iq],[.own (.ol 211 (.flat (Zl8)))],fun a K=>splitK a fun list0 a=>splitK a fun from0 a=>splitK a fun to0 a=>splitK a fun a0 a=>splitK a fun b0 a=>splitK a fun kind0 a=>splitK a fun index0 a=>XU (ZGR list0 from0 to0 a0 b0 kind0 index0) fun r=>K (r,()) ()⟩
def ZGP (arc0:ZfN) (from0:Int) (to0:Int) (index0:Int) (a0:Int) (list2:List Ze4) (b0:Int):Option (((List Ze4)×Int×Unit) ⊕ (((List Ze4)×Int×Unit) ⊕ List Ze4)) :=
 if b0≤1 then
 if ZfN.Kind arc0=1 then
 if ZfN.ZoE arc0=3 then
 (ZGR list2 from0 to0 a0 b0 1 index0).bind fun y0 =>
 some (.inl (y0,Wq (b0+1),()))
 else
 if (Decidable.decide (ZfN.ZoE arc0=1) == Decidable.decide (a0=b0))=true then
 (ZGR list2 from0 to0 a0 b0 1 index0).bind fun y0 =>
 some (.inl (y0,Wq (b0+1),()))
 else
 some (.inl (list2,Wq (b0+1),()))
 else
 if ZfN.Kind arc0=2 then
 if a0=0 then
 (ZGR list2 from0 to0 a0 b0 1 index0).bind fun y0 =>
 some (.inl (y0,Wq (b0+1),()))
 else
 some (.inl (list2,Wq (b0+1),()))
 else
 if ZfN.Kind arc0=3 then
 if a0=1 then
 (ZGR list2 from0 to0 a0 b0 1 index0).bind fun y0 =>
 some (.inl (y0,Wq (b0+1),()))
 else
 some (.inl (list2,Wq (b0+1),()))
 else
 some (.inl (list2,Wq (b0+1),()))
 else
 some (.inr (.inl (list2,Wq (a0+1),())))
def ZGD (arc0:ZfN) (from0:Int) (to0:Int) (index0:Int) (list1:List Ze4) (a0:Int):Option (((List Ze4)×Int×Unit) ⊕ List Ze4) :=
 if a0≤1 then
 ZA (fun v=>ZGP arc0 from0 to0 index0 a0 v.1 v.2.1) (list1,(0:Int),())
 else
 some (.inr list1)
def ZHH (list0:List Ze4) (arc0:ZfN) (from0:Int) (to0:Int) (index0:Int):Option (List Ze4) :=
 ZA (fun v=>ZGD arc0 from0 to0 index0 v.1 v.2.1) (list0,(0:Int),())
def c40:Ctr:=⟨[.own (.ol 211 (.flat (Zl8))),.dat (Zmv),.dat Iq,.dat Iq,.dat Iq],[.own (.ol 211 (.flat (Zl8)))],fun a K=>splitK a fun list0 a=>splitK a fun arc0 a=>splitK a fun from0 a=>splitK a fun to0 a=>splitK a fun index0 a=>XU (ZHH list0 arc0 from0 to0 index0) fun r=>K (r,()) ()⟩
def ZGY (net0:Int) (l05Places0:List Zk) (i0:Int):Option ((Int×Unit) ⊕ Int) :=
 if i0<(↑l05Places0.length:Int) then
 (atI l05Places0 i0).bind fun x0 =>
 if Zk.net x0=net0 then
 if (Zk.drives x0)=true then
 some (.inr i0)
 else
 some (.inl (Wq (i0+1),()))
 else
 some (.inl (Wq (i0+1),()))
 else
 some (.inr (-1))
def ZHn (d0:Zp) (net0:Int):Option Int :=
 (YJ d0).bind fun y0 =>
 ZA (fun v=>ZGY net0 y0 v.1) ((0:Int),())
def c41:Ctr:=D2 (ZdN) Iq Iq ZHn
def ZGQ (a0:Zv) (v1:Int) (x1:QG) (v2:List Ze4) (v3:Int):Option (((List Ze4)×Int×Unit) ⊕ (((List Ze4)×Int×Unit) ⊕ List Ze4)) :=
 if v3<(↑(List.length (QG.ZoW x1)):Int) then
 (atI (QG.ZoW x1) v3).bind fun x2 =>
 if ZfN.Kind x2≤3 then
 (Zs1 (Zv.Design a0) v1 (ZfN.From x2)).bind fun y0 =>
 (Zs1 (Zv.Design a0) v1 (ZfN.To x2)).bind fun y1 =>
 (ZHH v2 x2 y0 y1 v3).bind fun y2 =>
 some (.inl (y2,Wq (v3+1),()))
 else
 some (.inl (v2,Wq (v3+1),()))
 else
 some (.inr (.inl (v2,Wq (v1+1),())))
def ZG8 (v3:Int) (l05Driver0:Int) (l05Sinks0:List Int) (v4:List Ze4) (v5:Int):Option (((List Ze4)×Int×Unit) ⊕ (((List Ze4)×Int×Unit) ⊕ (((List Ze4)×Int×Unit) ⊕ List Ze4))) :=
 if v5<(↑l05Sinks0.length:Int) then
 (atI l05Sinks0 v5).bind fun x0 =>
 (ZGR v4 l05Driver0 x0 0 0 2 v5).bind fun y0 =>
 (ZGR y0 l05Driver0 x0 1 1 2 v5).bind fun y1 =>
 some (.inl (y1,Wq (v5+1),()))
 else
 some (.inr (.inl (v4,Wq (v3+1),())))
def ZG9 (a0:Zv) (v2:List Ze4) (v3:Int):Option (((List Ze4)×Int×Unit) ⊕ (((List Ze4)×Int×Unit) ⊕ List Ze4)) :=
 if v3<(↑(List.length (Zp.Zbh (Zv.Design a0))):Int) then
 (ZHn (Zv.Design a0) v3).bind fun y0 =>
 (QT (Zv.Design a0) v3).bind fun y1 =>
 ZA (fun v=>ZG8 v3 y0 y1 v.1 v.2.1) (v2,(0:Int),())
 else
 some (.inr (.inr v2))
def ZHa (a0:Zv) (v0:List Ze4) (v1:Int):Option (((List Ze4)×Int×Unit) ⊕ List Ze4) :=
 if v1<(↑(List.length (Zp.Instances (Zv.Design a0))):Int) then
 (atI (Zp.Instances (Zv.Design a0)) v1).bind fun x0 =>
 (atI (ZaF.Cells (Zv.Library a0)) (Zz.Cell x0)).bind fun x1 =>
 ZA (fun v=>ZGQ a0 v1 x1 v.1 v.2.1) (v0,(0:Int),())
 else
 ZA (fun v=>ZG9 a0 v.1 v.2.1) (v0,(0:Int),())
def ZG1 (a0:Zv):Option (List Ze4) :=
 ZA (fun v=>ZHa a0 v.1 v.2.1) (([]:List (Int×Int×Int×Int×Unit)),(0:Int),())
def c42:Ctr:=⟨[.dat (ZjX)],[.own (.ol 211 (.flat (Zl8)))],fun a K=>splitK a fun a0 a=>XU (ZG1 a0) fun r=>K (r,()) ()⟩
def ZGE (l09Links0:List Ze4) (l01Next1:Int×Za) (out0:List Int) (k0:Int) (c0:List Int) (c1:Int) (c2:Int):Option (((List Int)×Int×(List Int)×Int×Int×Unit) ⊕ ((List Int)×Za)) :=
 if k0<(↑l09Links0.length:Int) then
 Zj ((List.length out0+List.length [k0])*(8:Nat)≤(140737488355328:Nat)) <|
 (Zc (c0,c1,c2,()) (Wq (1+l01Next1.fst))).bind fun y0 =>
 some (.inl (out0++[k0],Wq (k0+Wq ((1:Int)+y0.fst)),y0.snd.fst,y0.snd.snd.fst,y0.snd.snd.snd.fst,()))
 else
 (Zc (c0,c1,c2,()) 12).bind fun y0 =>
 if y0.fst=0 then
 (Zc y0.snd 2).bind fun y1 =>
 Zj ((List.length out0+List.length [Wq ((↑l09Links0.length:Int)*y1.fst)])*(8:Nat)≤(140737488355328:Nat)) <|
 some (.inr (out0++[Wq ((↑l09Links0.length:Int)*y1.fst)],y1.snd))
 else
 some (.inr (out0,y0.snd))
def ZGx (s0:Za) (b0:Zv):Option ((List Int)×Za) :=
 (Zsb b0).bind fun y0 =>
 if y0 then
 (Zc s0 3).bind fun y1 =>
 if 0<y1.fst then
 some (([]:List Int),y1.snd)
 else
 (ZG1 b0).bind fun y2 =>
 (Zc y1.snd 8).bind fun y3 =>
 (Zc y3.snd (Wq (1+y3.fst))).bind fun y4 =>
 ZA (fun v=>ZGE y2 y3 v.1 v.2.1 v.2.2.1 v.2.2.2.1 v.2.2.2.2.1) (([]:List Int),y4.fst,y4.snd.fst,y4.snd.snd.fst,y4.snd.snd.snd.fst,())
 else
 some (([]:List Int),s0)
def c43:Ctr:=⟨[.io (.flat (Yn)),.dat (ZjX)],[.own (.ol 2 (.flat Iq))],fun a K=>splitK a fun s0 a=>splitK a fun b0 a=>XU (ZGx s0 b0) fun r=>K (r.1,()) (r.2,())⟩
def ZHt (list0:List Int) (x0:Int) (i0:Int):Option ((Int×Unit) ⊕ Bool) :=
 if i0<(↑list0.length:Int) then
 (atI list0 i0).bind fun x1 =>
 if x1=x0 then
 some (.inr true)
 else
 some (.inl (Wq (i0+1),()))
 else
 some (.inr false)
def ZHx (list0:List Int) (x0:Int):Option Bool :=
 ZA (fun v=>ZHt list0 x0 v.1) ((0:Int),())
def c44:Ctr:=D2 (.sl Iq) Iq (.bool) ZHx
def ZHj (links0:List Ze4) (broken0:List Int) (out0:List Bool) (k0:Int):Option (((List Bool)×Int×Unit) ⊕ List Bool) :=
 if k0<(↑links0.length:Int) then
 (ZHx broken0 k0).bind fun y0 =>
 Zj ((List.length out0+List.length [!y0])*(1:Nat)≤(140737488355328:Nat)) <|
 some (.inl (out0++[!y0],Wq (k0+(1:Int)),()))
 else
 some (.inr out0)
def ZHy (links0:List Ze4) (broken0:List Int):Option (List Bool) :=
 ZA (fun v=>ZHj links0 broken0 v.1 v.2.1) (([]:List Bool),(0:Int),())
def c45:Ctr:=⟨[.dat (.sl (Zl8)),.dat (.sl Iq)],[.own (.ol 4 (.flat (.bool)))],fun a K=>splitK a fun links0 a=>splitK a fun broken0 a=>XU (ZHy links0 broken0) fun r=>K (r,()) ()⟩
def ZGJ (b0:Zv):Option Int :=
 (YJ (Zv.Design b0)).bind fun y0 =>
 some (Wq (2*(↑y0.length:Int)))
def c46:Ctr:=D1 (ZjX) Iq ZGJ
def ZGp (links0:List Ze4) (live0:List Bool) (forward0:Bool) (changed1:Bool) (k0:Int) (l1:List Bool):Option ((Bool×Int×(List Bool)×Unit) ⊕ ((Bool×(List Bool)×Unit) ⊕ List Bool)) :=
 if k0<(↑links0.length:Int) then
 (atI links0 k0).bind fun x1 =>
 if forward0 then
 (atI live0 k0).bind fun x2 =>
 if x2 then
 (atI l1 (Ze4.From x1)).bind fun x3 =>
 if x3 then
 (atI l1 (Ze4.To x1)).bind fun x4 =>
 if x4 then
 some (.inl (changed1,Wq (k0+1),l1,()))
 else
 some (.inl (true,Wq (k0+1),List.set l1 (Int.toNat (Ze4.To x1)) true,()))
 else
 some (.inl (changed1,Wq (k0+1),l1,()))
 else
 some (.inl (changed1,Wq (k0+1),l1,()))
 else
 (atI live0 k0).bind fun x2 =>
 if x2 then
 (atI l1 (Ze4.To x1)).bind fun x3 =>
 if x3 then
 (atI l1 (Ze4.From x1)).bind fun x4 =>
 if x4 then
 some (.inl (changed1,Wq (k0+1),l1,()))
 else
 some (.inl (true,Wq (k0+1),List.set l1 (Int.toNat (Ze4.From x1)) true,()))
 else
 some (.inl (changed1,Wq (k0+1),l1,()))
 else
 some (.inl (changed1,Wq (k0+1),l1,()))
 else
 some (.inr (.inl (changed1,l1,())))
def ZGt (links0:List Ze4) (live0:List Bool) (forward0:Bool) (changed0:Bool) (l0:List Bool):Option ((Bool×(List Bool)×Unit) ⊕ List Bool) :=
 if changed0 then
 ZA (fun v=>ZGp links0 live0 forward0 v.1 v.2.1 v.2.2.1) (false,(0:Int),l0,())
 else
 some (.inr l0)
def ZGK (n0:Int) (links0:List Ze4) (live0:List Bool) (node0:Int) (forward0:Bool):Option (List Bool) :=
 Zj ((0:Int)≤n0) <|
 Zj (n0≤n0) <|
 Zj (n0≤(4611686018427387904:Int)) <|
 Zj ((↑(1:Nat):Int)*n0≤(281474976710656:Int)) <|
 (atI (List.replicate (Int.toNat n0) false) node0).bind fun x0 =>
 ZA (fun v=>ZGt links0 live0 forward0 v.1 v.2.1) (true,List.set (List.replicate (Int.toNat n0) false) (Int.toNat node0) true,())
def c47:Ctr:=⟨[.dat Iq,.dat (.sl (Zl8)),.dat (.sl (.bool)),.dat Iq,.dat (.bool)],[.own (.ol 4 (.flat (.bool)))],fun a K=>splitK a fun n0 a=>splitK a fun links0 a=>splitK a fun live0 a=>splitK a fun node0 a=>splitK a fun forward0 a=>XU (ZGK n0 links0 live0 node0 forward0) fun r=>K (r,()) ()⟩
def ZHl (links0:List Ze4) (live0:List Bool) (v0:Int) (k0:Int):Option ((Int×Unit) ⊕ Bool) :=
 if k0<(↑links0.length:Int) then
 (atI live0 k0).bind fun x0 =>
 if x0 then
 (atI links0 k0).bind fun x1 =>
 if Ze4.From x1=v0 then
 if Ze4.To x1=v0 then
 some (.inr true)
 else
 some (.inl (Wq (k0+1),()))
 else
 some (.inl (Wq (k0+1),()))
 else
 some (.inl (Wq (k0+1),()))
 else
 some (.inr false)
def ZHE (links0:List Ze4) (live0:List Bool) (v0:Int):Option Bool :=
 ZA (fun v=>ZHl links0 live0 v0 v.1) ((0:Int),())
def c48:Ctr:=D3 (.sl (Zl8)) (.sl (.bool)) Iq (.bool) ZHE
def ZHe (a0:Int) (a1:List Ze4) (a2:List Bool) (v0:List (List Int)) (v1:Int) (l09Reach0:List Bool) (l09Reach1:List Bool) (v2:List Int) (v3:Int) (l1:List Bool):Option (((List Int)×Int×(List Bool)×Unit) ⊕ (((List (List Int))×Int×(List Bool)×Unit) ⊕ List (List Int))) :=
 if v3<a0 then
 (atI l09Reach0 v3).bind fun x1 =>
 if x1 then
 (atI l09Reach1 v3).bind fun x2 =>
 if x2 then
 Zj ((List.length v2+List.length [v3])*(8:Nat)≤(140737488355328:Nat)) <|
 (atI l1 v3).bind fun x3 =>
 some (.inl (v2++[v3],Wq (v3+(1:Int)),List.set l1 (Int.toNat v3) true,()))
 else
 some (.inl (v2,Wq (v3+1),l1,()))
 else
 some (.inl (v2,Wq (v3+1),l1,()))
 else
 if 1<(↑v2.length:Int) then
 Zj ((List.length v0+List.length [v2])*(24:Nat)≤(140737488355328:Nat)) <|
 some (.inr (.inl (v0++[v2],Wq (v1+(1:Int)),l1,())))
 else
 (ZHE a1 a2 v1).bind fun y0 =>
 if y0 then
 Zj ((List.length v0+List.length [v2])*(24:Nat)≤(140737488355328:Nat)) <|
 some (.inr (.inl (v0++[v2],Wq (v1+(1:Int)),l1,())))
 else
 some (.inr (.inl (v0,Wq (v1+1),l1,())))
def ZHf (a0:Int) (a1:List Ze4) (a2:List Bool) (v0:List (List Int)) (v1:Int) (l0:List Bool):Option (((List (List Int))×Int×(List Bool)×Unit) ⊕ List (List Int)) :=
 if v1<a0 then
 (atI l0 v1).bind fun x0 =>
 if x0 then
 some (.inl (v0,Wq (v1+1),l0,()))
 else
 (ZGK a0 a1 a2 v1 true).bind fun y0 =>
 (ZGK a0 a1 a2 v1 false).bind fun y1 =>
 ZA (fun v=>ZHe a0 a1 a2 v0 v1 y0 y1 v.1 v.2.1 v.2.2.1) (([]:List Int),(0:Int),l0,())
 else
 some (.inr v0)
def ZHz (a0:Int) (a1:List Ze4) (a2:List Bool):Option (List (List Int)) :=
 Zj ((0:Int)≤a0) <|
 Zj (a0≤a0) <|
 Zj (a0≤(4611686018427387904:Int)) <|
 Zj ((↑(1:Nat):Int)*a0≤(281474976710656:Int)) <|
 ZA (fun v=>ZHf a0 a1 a2 v.1 v.2.1 v.2.2.1) (([]:List (List Int)),(0:Int),List.replicate (Int.toNat a0) false,())
def c49:Ctr:=⟨[.dat Iq,.dat (.sl (Zl8)),.dat (.sl (.bool))],[.own (.ol 51 (.ol 2 (.flat Iq)))],fun a K=>splitK a fun a0 a=>splitK a fun a1 a=>splitK a fun a2 a=>XU (ZHz a0 a1 a2) fun r=>K (r,()) ()⟩
def ZHb (l0:List Bool) (v0:List Int) (v1:Int):Option (((List Int)×Int×Unit) ⊕ (((List Bool)×Unit) ⊕ List Int)) :=
 if v1<(↑l0.length:Int) then
 (atI l0 v1).bind fun x0 =>
 if x0 then
 some (.inl (v0,Wq (v1+1),()))
 else
 Zj ((List.length v0+List.length [v1])*(8:Nat)≤(140737488355328:Nat)) <|
 some (.inl (v0++[v1],Wq (v1+(1:Int)),()))
 else
 some (.inr (.inr v0))
def ZHc (l09Links0:List Ze4) (l0:List Bool) (v0:Int) (v1:Int) (l1:List (List Int)):Option ((Int×Int×(List (List Int))×Unit) ⊕ (((List Bool)×Unit) ⊕ List Int)) :=
 if v1<(↑l09Links0.length:Int) then
 (atI l0 v1).bind fun x0 =>
 if x0 then
 (atI l09Links0 v1).bind fun x1 =>
 if Ze4.Kind x1=1 then
 (atI l1 0).bind fun x2 =>
 (ZHx x2 (Ze4.From x1)).bind fun y0 =>
 if y0 then
 (ZHx x2 (Ze4.To x1)).bind fun y1 =>
 if y1 then
 some (.inl (v1,Wq (v1+1),List.set l1 (Int.toNat 0) x2,()))
 else
 some (.inl (v0,Wq (v1+1),List.set l1 (Int.toNat 0) x2,()))
 else
 some (.inl (v0,Wq (v1+1),List.set l1 (Int.toNat 0) x2,()))
 else
 some (.inl (v0,Wq (v1+1),l1,()))
 else
 some (.inl (v0,Wq (v1+1),l1,()))
 else
 (atI l0 v0).bind fun x0 =>
 some (.inr (.inl (List.set l0 (Int.toNat v0) false,())))
def ZHd (l09Links0:List Ze4) (l09Count0:Int) (l0:List Bool):Option (((List Bool)×Unit) ⊕ List Int) :=
 (ZHz l09Count0 l09Links0 l0).bind fun y0 =>
 if (↑y0.length:Int)=0 then
 ZA (fun v=>ZHb l0 v.1 v.2.1) (([]:List Int),(0:Int),())
 else
 ZA (fun v=>ZHc l09Links0 l0 v.1 v.2.1 v.2.2.1) ((-1:Int),(0:Int),y0,())
def ZHk (a0:Zv):Option (List Int) :=
 (ZG1 a0).bind fun y0 =>
 (ZHy y0 (([]:List Int))).bind fun y1 =>
 (ZGJ a0).bind fun y2 =>
 ZA (fun v=>ZHd y0 y2 v.1) (y1,())
def c50:Ctr:=⟨[.dat (ZjX)],[.own (.ol 2 (.flat Iq))],fun a K=>splitK a fun a0 a=>XU (ZHk a0) fun r=>K (r,()) ()⟩
def ZGy (v1:Int) (x0:Zk) (v2:List ZbY) (v3:Int) (c3:List Int) (c4:Int) (c5:Int):Option (((List ZbY)×Int×(List Int)×Int×Int×Unit) ⊕ (((List ZbY)×Int×(List Int)×Int×Int×Unit) ⊕ ((List ZbY)×Za))) :=
 if v3<2 then
 if (Zk.drives x0)=true then
 (Zc (c3,c4,c5,()) 8).bind fun y0 =>
 if 0<y0.fst then
 (Zc y0.snd 200).bind fun y1 =>
 (Zc y1.snd 30).bind fun y2 =>
 (Zc y2.snd 40).bind fun y3 =>
 (Zc y3.snd 12).bind fun y4 =>
 Zj ((List.length v2+List.length [(Wq (Wq ((2:Int)*v1)+v3),(Wq (y1.fst-(50:Int)),Wq (Wq (y1.fst-(50:Int))+y3.fst),()),(y2.fst,Wq (y2.fst+y4.fst),()),())])*(40:Nat)≤(140737488355328:Nat)) <|
 some (.inl (v2++[(Wq (Wq ((2:Int)*v1)+v3),(Wq (y1.fst-(50:Int)),Wq (Wq (y1.fst-(50:Int))+y3.fst),()),(y2.fst,Wq (y2.fst+y4.fst),()),())],Wq (v3+(1:Int)),y4.snd.fst,y4.snd.snd.fst,y4.snd.snd.snd.fst,()))
 else
 (Zc y0.snd 24).bind fun y1 =>
 if y1.fst=0 then
 (Zc y1.snd 200).bind fun y2 =>
 (Zc y2.snd 30).bind fun y3 =>
 (Zc y3.snd 40).bind fun y4 =>
 (Zc y4.snd 12).bind fun y5 =>
 Zj ((List.length v2+List.length [(Wq (Wq ((2:Int)*v1)+v3),(Wq (y2.fst-(50:Int)),Wq (Wq (y2.fst-(50:Int))+y4.fst),()),(y3.fst,Wq (y3.fst+y5.fst),()),())])*(40:Nat)≤(140737488355328:Nat)) <|
 some (.inl (v2++[(Wq (Wq ((2:Int)*v1)+v3),(Wq (y2.fst-(50:Int)),Wq (Wq (y2.fst-(50:Int))+y4.fst),()),(y3.fst,Wq (y3.fst+y5.fst),()),())],Wq (v3+(1:Int)),y5.snd.fst,y5.snd.snd.fst,y5.snd.snd.snd.fst,()))
 else
 some (.inl (v2,Wq (v3+1),y1.snd.fst,y1.snd.snd.fst,y1.snd.snd.snd.fst,()))
 else
 (Zc (c3,c4,c5,()) 24).bind fun y0 =>
 if y0.fst=0 then
 (Zc y0.snd 200).bind fun y1 =>
 (Zc y1.snd 30).bind fun y2 =>
 (Zc y2.snd 40).bind fun y3 =>
 (Zc y3.snd 12).bind fun y4 =>
 Zj ((List.length v2+List.length [(Wq (Wq ((2:Int)*v1)+v3),(Wq (y1.fst-(50:Int)),Wq (Wq (y1.fst-(50:Int))+y3.fst),()),(y2.fst,Wq (y2.fst+y4.fst),()),())])*(40:Nat)≤(140737488355328:Nat)) <|
 some (.inl (v2++[(Wq (Wq ((2:Int)*v1)+v3),(Wq (y1.fst-(50:Int)),Wq (Wq (y1.fst-(50:Int))+y3.fst),()),(y2.fst,Wq (y2.fst+y4.fst),()),())],Wq (v3+(1:Int)),y4.snd.fst,y4.snd.snd.fst,y4.snd.snd.snd.fst,()))
 else
 some (.inl (v2,Wq (v3+1),y0.snd.fst,y0.snd.snd.fst,y0.snd.snd.snd.fst,()))
 else
 some (.inr (.inl (v2,Wq (v1+1),c3,c4,c5,())))
def ZGz (v1:Int) (v2:List ZbY) (v3:Int) (c3:List Int) (c4:Int) (c5:Int):Option (((List ZbY)×Int×(List Int)×Int×Int×Unit) ⊕ (((List ZbY)×Int×(List Int)×Int×Int×Unit) ⊕ ((List ZbY)×Za))) :=
 if v3<2 then
 (Zc (c3,c4,c5,()) 24).bind fun y0 =>
 if y0.fst=0 then
 (Zc y0.snd 200).bind fun y1 =>
 (Zc y1.snd 30).bind fun y2 =>
 (Zc y2.snd 40).bind fun y3 =>
 (Zc y3.snd 12).bind fun y4 =>
 Zj ((List.length v2+List.length [(Wq (Wq ((2:Int)*v1)+v3),(Wq (y1.fst-(50:Int)),Wq (Wq (y1.fst-(50:Int))+y3.fst),()),(y2.fst,Wq (y2.fst+y4.fst),()),())])*(40:Nat)≤(140737488355328:Nat)) <|
 some (.inl (v2++[(Wq (Wq ((2:Int)*v1)+v3),(Wq (y1.fst-(50:Int)),Wq (Wq (y1.fst-(50:Int))+y3.fst),()),(y2.fst,Wq (y2.fst+y4.fst),()),())],Wq (v3+(1:Int)),y4.snd.fst,y4.snd.snd.fst,y4.snd.snd.snd.fst,()))
 else
 some (.inl (v2,Wq (v3+1),y0.snd.fst,y0.snd.snd.fst,y0.snd.snd.snd.fst,()))
 else
 some (.inr (.inl (v2,Wq (v1+1),c3,c4,c5,())))
def ZGA (l05Places0:List Zk) (v0:List ZbY) (v1:Int) (c0:List Int) (c1:Int) (c2:Int):Option (((List ZbY)×Int×(List Int)×Int×Int×Unit) ⊕ ((List ZbY)×Za)) :=
 if v1<(↑l05Places0.length:Int) then
 (atI l05Places0 v1).bind fun x0 =>
 if Zk.instance x0<0 then
 ZA (fun v=>ZGy v1 x0 v.1 v.2.1 v.2.2.1 v.2.2.2.1 v.2.2.2.2.1) (v0,(0:Int),c0,c1,c2,())
 else
 ZA (fun v=>ZGz v1 v.1 v.2.1 v.2.2.1 v.2.2.2.1 v.2.2.2.2.1) (v0,(0:Int),c0,c1,c2,())
 else
 if 0<(↑v0.length:Int) then
 (Zc (c0,c1,c2,()) (↑v0.length:Int)).bind fun y0 =>
 (Zc y0.snd 30).bind fun y1 =>
 if y1.fst=0 then
 (atI v0 0).bind fun x0 =>
 (atI v0 y0.fst).bind fun x1 =>
 some (.inr (List.set v0 (Int.toNat y0.fst) (ZbY.Node x0,x1.snd),y1.snd))
 else
 if y1.fst=1 then
 (atI v0 y0.fst).bind fun x0 =>
 some (.inr (List.set v0 (Int.toNat y0.fst) (ZbY.Node x0,(Wq (Vz.Late (ZbY.Zlz x0)+1),(ZbY.Zlz x0).snd),x0.snd.snd),y1.snd))
 else
 if y1.fst=2 then
 (atI v0 y0.fst).bind fun x0 =>
 some (.inr (List.set v0 (Int.toNat y0.fst) (ZbY.Node x0,ZbY.Zlz x0,((-1),(ZbY.Znd x0).snd),()),y1.snd))
 else
 if y1.fst=3 then
 (atI v0 y0.fst).bind fun x0 =>
 some (.inr (List.set v0 (Int.toNat y0.fst) (ZbY.Node x0,(Vz.Early (ZbY.Zlz x0),1000000000,()),x0.snd.snd),y1.snd))
 else
 some (.inr (v0,y1.snd))
 else
 some (.inr (v0,(c0,c1,c2,())))
def ZGj (a0:Za) (a1:Zv):Option ((List ZbY)×Za) :=
 (Zsb a1).bind fun y0 =>
 if y0 then
 (YJ (Zv.Design a1)).bind fun y1 =>
 ZA (fun v=>ZGA y1 v.1 v.2.1 v.2.2.1 v.2.2.2.1 v.2.2.2.2.1) (([]:List (Int×Vz×Vz×Unit)),(0:Int),Za.code a0,Za.at a0,Za.seed a0,())
 else
 some (([]:List (Int×Vz×Vz×Unit)),a0)
def c51:Ctr:=⟨[.io (.flat (Yn)),.dat (ZjX)],[.own (.ol 270 (.flat (Zma)))],fun a K=>splitK a fun a0 a=>splitK a fun a1 a=>XU (ZGj a0 a1) fun r=>K (r.1,()) (r.2,())⟩
def ZHg (s0:Za):Option (Zv×Qj×(List Int)×(List ZbY)×Za) :=
 (ZG5 s0).bind fun y0 =>
 (ZGV y0.snd).bind fun y1 =>
 (Zc y1.snd 3).bind fun y2 =>
 if y2.fst=0 then
 (Qz y2.snd 5 true).bind fun y3 =>
 (ZGx y3.snd y3.fst).bind fun y4 =>
 (Zsb y3.fst).bind fun y5 =>
 if y5 then
 if (↑(List.length y4.fst):Int)=0 then
 (Zc y4.snd 6).bind fun y6 =>
 if 0<y6.fst then
 (ZHk y3.fst).bind fun y7 =>
 (ZGj y6.snd y3.fst).bind fun y8 =>
 some (y3.fst,y1.fst,y7,y8.fst,y8.snd)
 else
 (ZGj y6.snd y3.fst).bind fun y8 =>
 some (y3.fst,y1.fst,y4.fst,y8.fst,y8.snd)
 else
 (ZGj y4.snd y3.fst).bind fun y8 =>
 some (y3.fst,y1.fst,y4.fst,y8.fst,y8.snd)
 else
 (ZGj y4.snd y3.fst).bind fun y8 =>
 some (y3.fst,y1.fst,y4.fst,y8.fst,y8.snd)
 else
 (ZGx y2.snd y0.fst).bind fun y4 =>
 (Zsb y0.fst).bind fun y5 =>
 if y5 then
 if (↑(List.length y4.fst):Int)=0 then
 (Zc y4.snd 6).bind fun y6 =>
 if 0<y6.fst then
 (ZHk y0.fst).bind fun y7 =>
 (ZGj y6.snd y0.fst).bind fun y8 =>
 some (y0.fst,y1.fst,y7,y8.fst,y8.snd)
 else
 (ZGj y6.snd y0.fst).bind fun y8 =>
 some (y0.fst,y1.fst,y4.fst,y8.fst,y8.snd)
 else
 (ZGj y4.snd y0.fst).bind fun y8 =>
 some (y0.fst,y1.fst,y4.fst,y8.fst,y8.snd)
 else
 (ZGj y4.snd y0.fst).bind fun y8 =>
 some (y0.fst,y1.fst,y4.fst,y8.fst,y8.snd)
def c52:Ctr:=⟨[.io (.flat (Yn))],[.dat (ZjX),.dat (ZdM),.own (.ol 2 (.flat Iq)),.own (.ol 270 (.flat (Zma)))],fun a K=>splitK a fun s0 a=>XU (ZHg s0) fun r=>K (r.1,r.2.1,r.2.2.1,r.2.2.2.1,()) (r.2.2.2.2,())⟩
def ZrX (l05Places0:List Zk) (l01Next0:Int×Za) (k0:Int) (i0:Int):Option ((Int×Int×Unit) ⊕ (Int×Za)) :=
 if i0<(↑l05Places0.length:Int) then
 (atI l05Places0 k0).bind fun x0 =>
 if (Zk.drives x0)=true then
 Zj ((↑l05Places0.length:Int)≠(0:Int)) <|
 some (.inl (Int.tmod (Wq (k0+1)) (↑l05Places0.length:Int),Wq (i0+1),()))
 else
 (Zc l01Next0.snd 12).bind fun y0 =>
 if y0.fst=0 then
 (Zc y0.snd (Wq ((↑l05Places0.length:Int)+2))).bind fun y1 =>
 some (.inr (Wq (y1.fst-1),y1.snd))
 else
 some (.inr (k0,y0.snd))
 else
 (Zc l01Next0.snd 12).bind fun y0 =>
 if y0.fst=0 then
 (Zc y0.snd (Wq ((↑l05Places0.length:Int)+2))).bind fun y1 =>
 some (.inr (Wq (y1.fst-1),y1.snd))
 else
 some (.inr (k0,y0.snd))
def ZpK (s0:Za) (b0:Zv):Option (Int×Za) :=
 (YJ (Zv.Design b0)).bind fun y0 =>
 (Zc s0 (↑y0.length:Int)).bind fun y1 =>
 ZA (fun v=>ZrX y0 y1 v.1 v.2.1) (y1.fst,(0:Int),())
def c53:Ctr:=⟨[.io (.flat (Yn)),.dat (ZjX)],[.dat Iq],fun a K=>splitK a fun s0 a=>splitK a fun b0 a=>XU (ZpK s0 b0) fun r=>K (r.1,()) (r.2,())⟩
def Zs2 (a0:Za) (a1:Zv):Option (Zbk×Za) :=
 (Zsb a1).bind fun y0 =>
 if y0 then
 if (↑(List.length (Zv.ZlA a1)):Int)=0 then
 some (((3:Int),(0:Int),(0:Int),(0:Int),(0:Int),([]:List UInt8),(([]:List Int),([]:List Int),([]:List Int),([]:List Int),()),()),a0)
 else
 (YJ (Zv.Design a1)).bind fun y1 =>
 (Zc a0 8).bind fun y2 =>
 if y2.fst=0 then
 if y2.fst=0 then
 (Zc y2.snd (↑(List.length (Zp.Instances (Zv.Design a1))):Int)).bind fun y3 =>
 (atI (Zp.Instances (Zv.Design a1)) y3.fst).bind fun x0 =>
 (Zs1 (Zv.Design a1) y3.fst (Wq ((↑(List.length (Zz.Zbh x0)):Int)-1))).bind fun y4 =>
 (atI ([(1:Int),(0:Int),(3:Int),(2:Int),(4:Int),(6:Int),(5:Int),(7:Int)]) (Int.tmod (Zz.Cell x0) (8:Int))).bind fun x1 =>
 (Zc y3.snd 30).bind fun y5 =>
 if y5.fst=0 then
 (Zc y5.snd 7).bind fun y6 =>
 some ((y6.fst,y4,x1,(0:Int),(0:Int),([]:List UInt8),(([]:List Int),([]:List Int),([]:List Int),([]:List Int),()),()),y6.snd)
 else
 if y5.fst=1 then
 (Zc y5.snd 10).bind fun y6 =>
 some (((1:Int),y4,Wq (y6.fst-(1:Int)),(0:Int),(0:Int),([]:List UInt8),(([]:List Int),([]:List Int),([]:List Int),([]:List Int),()),()),y6.snd)
 else
 if y5.fst=2 then
 (Zc y5.snd (Wq ((↑(List.length (Zv.ZlA a1)):Int)+2))).bind fun y6 =>
 some (((1:Int),y4,x1,Wq (y6.fst-(1:Int)),(0:Int),([]:List UInt8),(([]:List Int),([]:List Int),([]:List Int),([]:List Int),()),()),y6.snd)
 else
 if y5.fst=3 then
 (Zc y5.snd (Wq ((↑y1.length:Int)+2))).bind fun y6 =>
 some (((1:Int),Wq (y6.fst-(1:Int)),x1,(0:Int),(0:Int),([]:List UInt8),(([]:List Int),([]:List Int),([]:List Int),([]:List Int),()),()),y6.snd)
 else
 if y5.fst=4 then
 some (((1:Int),y4,x1,(0:Int),(0:Int),[(66:UInt8),(97:UInt8),(100:UInt8)],(([]:List Int),([]:List Int),([]:List Int),([]:List Int),()),()),y5.snd)
 else
 some (((1:Int),y4,x1,(0:Int),(0:Int),([]:List UInt8),(([]:List Int),([]:List Int),([]:List Int),([]:List Int),()),()),y5.snd)
 else
 if y2.fst=2 then
 if y2.fst=2 then
 (ZpK y2.snd a1).bind fun y7 =>
 (Zc y7.snd 2).bind fun y3 =>
 (Zc y3.snd 3).bind fun y5 =>
 (XG y5.fst).bind fun y8 =>
 Zj ((↑(List.length [(120:UInt8)]):Int)+(↑y8.length:Int)≤(9223372036854775807:Int)) <|
 (Zc y5.snd 30).bind fun y6 =>
 if y6.fst=0 then
 (Zc y6.snd 7).bind fun y9 =>
 some ((y9.fst,y7.fst,y3.fst,(0:Int),(0:Int),[(120:UInt8)]++y8,(([]:List Int),([]:List Int),([]:List Int),([]:List Int),()),()),y9.snd)
 else
 if y6.fst=1 then
 (Zc y6.snd 10).bind fun y9 =>
 some (((2:Int),y7.fst,Wq (y9.fst-(1:Int)),(0:Int),(0:Int),[(120:UInt8)]++y8,(([]:List Int),([]:List Int),([]:List Int),([]:List Int),()),()),y9.snd)
 else
 if y6.fst=2 then
 (Zc y6.snd (Wq ((↑(List.length (Zv.ZlA a1)):Int)+2))).bind fun y9 =>
 some (((2:Int),y7.fst,y3.fst,Wq (y9.fst-(1:Int)),(0:Int),[(120:UInt8)]++y8,(([]:List Int),([]:List Int),([]:List Int),([]:List Int),()),()),y9.snd)
 else
 if y6.fst=3 then
 (Zc y6.snd (Wq ((↑y1.length:Int)+2))).bind fun y9 =>
 some (((2:Int),Wq (y9.fst-(1:Int)),y3.fst,(0:Int),(0:Int),[(120:UInt8)]++y8,(([]:List Int),([]:List Int),([]:List Int),([]:List Int),()),()),y9.snd)
 else
 if y6.fst=4 then
 some (((2:Int),y7.fst,y3.fst,(0:Int),(0:Int),[(66:UInt8),(97:UInt8),(100:UInt8)],(([]:List Int),([]:List Int),([]:List Int),([]:List Int),()),()),y6.snd)
 else
 some (((2:Int),y7.fst,y3.fst,(0:Int),(0:Int),[(120:UInt8)]++y8,(([]:List Int),([]:List Int),([]:List Int),([]:List Int),()),()),y6.snd)
 else
 if y2.fst=4 then
 (Zc y2.snd 30).bind fun y3 =>
 if y3.fst=0 then
 (Zc y3.snd 7).bind fun y5 =>
 some ((y5.fst,(0:Int),(0:Int),(0:Int),(0:Int),([]:List UInt8),(([]:List Int),([]:List Int),([]:List Int),([]:List Int),()),()),y5.snd)
 else
 if y3.fst=1 then
 (Zc y3.snd 10).bind fun y5 =>
 some (((3:Int),(0:Int),Wq (y5.fst-(1:Int)),(0:Int),(0:Int),([]:List UInt8),(([]:List Int),([]:List Int),([]:List Int),([]:List Int),()),()),y5.snd)
 else
 if y3.fst=2 then
 (Zc y3.snd (Wq ((↑(List.length (Zv.ZlA a1)):Int)+2))).bind fun y5 =>
 some (((3:Int),(0:Int),(0:Int),Wq (y5.fst-(1:Int)),(0:Int),([]:List UInt8),(([]:List Int),([]:List Int),([]:List Int),([]:List Int),()),()),y5.snd)
 else
 if y3.fst=3 then
 (Zc y3.snd (Wq ((↑y1.length:Int)+2))).bind fun y5 =>
 some (((3:Int),Wq (y5.fst-(1:Int)),(0:Int),(0:Int),(0:Int),([]:List UInt8),(([]:List Int),([]:List Int),([]:List Int),([]:List Int),()),()),y5.snd)
 else
 if y3.fst=4 then
 some (((3:Int),(0:Int),(0:Int),(0:Int),(0:Int),[(66:UInt8),(97:UInt8),(100:UInt8)],(([]:List Int),([]:List Int),([]:List Int),([]:List Int),()),()),y3.snd)
 else
 some (((3:Int),(0:Int),(0:Int),(0:Int),(0:Int),([]:List UInt8),(([]:List Int),([]:List Int),([]:List Int),([]:List Int),()),()),y3.snd)
 else
 if y2.fst=5 then
 (ZpK y2.snd a1).bind fun y7 =>
 (Zc y7.snd (↑(List.length (Zv.ZlA a1)):Int)).bind fun y3 =>
 (atI (Zv.ZlA a1) y3.fst).bind fun x0 =>
 (Zc y3.snd (↑(List.length (QH.Parent x0)):Int)).bind fun y5 =>
 (Zc y5.snd 30).bind fun y6 =>
 if y6.fst=0 then
 (Zc y6.snd 7).bind fun y9 =>
 some ((y9.fst,y7.fst,(0:Int),y3.fst,y5.fst,([]:List UInt8),(([]:List Int),([]:List Int),([]:List Int),([]:List Int),()),()),y9.snd)
 else
 if y6.fst=1 then
 (Zc y6.snd 10).bind fun y9 =>
 some (((4:Int),y7.fst,Wq (y9.fst-(1:Int)),y3.fst,y5.fst,([]:List UInt8),(([]:List Int),([]:List Int),([]:List Int),([]:List Int),()),()),y9.snd)
 else
 if y6.fst=2 then
 (Zc y6.snd (Wq ((↑(List.length (Zv.ZlA a1)):Int)+2))).bind fun y9 =>
 some (((4:Int),y7.fst,(0:Int),Wq (y9.fst-(1:Int)),y5.fst,([]:List UInt8),(([]:List Int),([]:List Int),([]:List Int),([]:List Int),()),()),y9.snd)
 else
 if y6.fst=3 then
 (Zc y6.snd (Wq ((↑y1.length:Int)+2))).bind fun y9 =>
 some (((4:Int),Wq (y9.fst-(1:Int)),(0:Int),y3.fst,y5.fst,([]:List UInt8),(([]:List Int),([]:List Int),([]:List Int),([]:List Int),()),()),y9.snd)
 else
 if y6.fst=4 then
 some (((4:Int),y7.fst,(0:Int),y3.fst,y5.fst,[(66:UInt8),(97:UInt8),(100:UInt8)],(([]:List Int),([]:List Int),([]:List Int),([]:List Int),()),()),y6.snd)
 else
 some (((4:Int),y7.fst,(0:Int),y3.fst,y5.fst,([]:List UInt8),(([]:List Int),([]:List Int),([]:List Int),([]:List Int),()),()),y6.snd)
 else
 (Zc y2.snd (↑(List.length (Zv.ZlA a1)):Int)).bind fun y3 =>
 (QT (Zv.Design a1) y3.fst).bind fun y10 =>
 (Xi y3.snd (↑y10.length:Int)).bind fun y11 =>
 (Zc y11.snd 30).bind fun y5 =>
 if y5.fst=0 then
 (Zc y5.snd 7).bind fun y6 =>
 some ((y6.fst,(0:Int),(0:Int),y3.fst,(0:Int),([]:List UInt8),y11.fst,()),y6.snd)
 else
 if y5.fst=1 then
 (Zc y5.snd 10).bind fun y6 =>
 some (((5:Int),(0:Int),Wq (y6.fst-(1:Int)),y3.fst,(0:Int),([]:List UInt8),y11.fst,()),y6.snd)
 else
 if y5.fst=2 then
 (Zc y5.snd (Wq ((↑(List.length (Zv.ZlA a1)):Int)+2))).bind fun y6 =>
 some (((5:Int),(0:Int),(0:Int),Wq (y6.fst-(1:Int)),(0:Int),([]:List UInt8),y11.fst,()),y6.snd)
 else
 if y5.fst=3 then
 (Zc y5.snd (Wq ((↑y1.length:Int)+2))).bind fun y6 =>
 some (((5:Int),Wq (y6.fst-(1:Int)),(0:Int),y3.fst,(0:Int),([]:List UInt8),y11.fst,()),y6.snd)
 else
 if y5.fst=4 then
 some (((5:Int),(0:Int),(0:Int),y3.fst,(0:Int),[(66:UInt8),(97:UInt8),(100:UInt8)],y11.fst,()),y5.snd)
 else
 some (((5:Int),(0:Int),(0:Int),y3.fst,(0:Int),([]:List UInt8),y11.fst,()),y5.snd)
 else
 if y2.fst=3 then
 (ZpK y2.snd a1).bind fun y7 =>
 (Zc y7.snd 2).bind fun y3 =>
 (Zc y3.snd 3).bind fun y5 =>
 (XG y5.fst).bind fun y8 =>
 Zj ((↑(List.length [(120:UInt8)]):Int)+(↑y8.length:Int)≤(9223372036854775807:Int)) <|
 (Zc y5.snd 30).bind fun y6 =>
 if y6.fst=0 then
 (Zc y6.snd 7).bind fun y9 =>
 some ((y9.fst,y7.fst,y3.fst,(0:Int),(0:Int),[(120:UInt8)]++y8,(([]:List Int),([]:List Int),([]:List Int),([]:List Int),()),()),y9.snd)
 else
 if y6.fst=1 then
 (Zc y6.snd 10).bind fun y9 =>
 some (((2:Int),y7.fst,Wq (y9.fst-(1:Int)),(0:Int),(0:Int),[(120:UInt8)]++y8,(([]:List Int),([]:List Int),([]:List Int),([]:List Int),()),()),y9.snd)
 else
 if y6.fst=2 then
 (Zc y6.snd (Wq ((↑(List.length (Zv.ZlA a1)):Int)+2))).bind fun y9 =>
 some (((2:Int),y7.fst,y3.fst,Wq (y9.fst-(1:Int)),(0:Int),[(120:UInt8)]++y8,(([]:List Int),([]:List Int),([]:List Int),([]:List Int),()),()),y9.snd)
 else
 if y6.fst=3 then
 (Zc y6.snd (Wq ((↑y1.length:Int)+2))).bind fun y9 =>
 some (((2:Int),Wq (y9.fst-(1:Int)),y3.fst,(0:Int),(0:Int),[(120:UInt8)]++y8,(([]:List Int),([]:List Int),([]:List Int),([]:List Int),()),()),y9.snd)
 else
 if y6.fst=4 then
 some (((2:Int),y7.fst,y3.fst,(0:Int),(0:Int),[(66:UInt8),(97:UInt8),(100:UInt8)],(([]:List Int),([]:List Int),([]:List Int),([]:List Int),()),()),y6.snd)
 else
 some (((2:Int),y7.fst,y3.fst,(0:Int),(0:Int),[(120:UInt8)]++y8,(([]:List Int),([]:List Int),([]:List Int),([]:List Int),()),()),y6.snd)
 else
 if y2.fst=4 then
 (Zc y2.snd 30).bind fun y3 =>
 if y3.fst=0 then
 (Zc y3.snd 7).bind fun y5 =>
 some ((y5.fst,(0:Int),(0:Int),(0:Int),(0:Int),([]:List UInt8),(([]:List Int),([]:List Int),([]:List Int),([]:List Int),()),()),y5.snd)
 else
 if y3.fst=1 then
 (Zc y3.snd 10).bind fun y5 =>
 some (((3:Int),(0:Int),Wq (y5.fst-(1:Int)),(0:Int),(0:Int),([]:List UInt8),(([]:List Int),([]:List Int),([]:List Int),([]:List Int),()),()),y5.snd)
 else
 if y3.fst=2 then
 (Zc y3.snd (Wq ((↑(List.length (Zv.ZlA a1)):Int)+2))).bind fun y5 =>
 some (((3:Int),(0:Int),(0:Int),Wq (y5.fst-(1:Int)),(0:Int),([]:List UInt8),(([]:List Int),([]:List Int),([]:List Int),([]:List Int),()),()),y5.snd)
 else
 if y3.fst=3 then
 (Zc y3.snd (Wq ((↑y1.length:Int)+2))).bind fun y5 =>
 some (((3:Int),Wq (y5.fst-(1:Int)),(0:Int),(0:Int),(0:Int),([]:List UInt8),(([]:List Int),([]:List Int),([]:List Int),([]:List Int),()),()),y5.snd)
 else
 if y3.fst=4 then
 some (((3:Int),(0:Int),(0:Int),(0:Int),(0:Int),[(66:UInt8),(97:UInt8),(100:UInt8)],(([]:List Int),([]:List Int),([]:List Int),([]:List Int),()),()),y3.snd)
 else
 some (((3:Int),(0:Int),(0:Int),(0:Int),(0:Int),([]:List UInt8),(([]:List Int),([]:List Int),([]:List Int),([]:List Int),()),()),y3.snd)
 else
 if y2.fst=5 then
 (ZpK y2.snd a1).bind fun y7 =>
 (Zc y7.snd (↑(List.length (Zv.ZlA a1)):Int)).bind fun y3 =>
 (atI (Zv.ZlA a1) y3.fst).bind fun x0 =>
 (Zc y3.snd (↑(List.length (QH.Parent x0)):Int)).bind fun y5 =>
 (Zc y5.snd 30).bind fun y6 =>
 if y6.fst=0 then
 (Zc y6.snd 7).bind fun y9 =>
 some ((y9.fst,y7.fst,(0:Int),y3.fst,y5.fst,([]:List UInt8),(([]:List Int),([]:List Int),([]:List Int),([]:List Int),()),()),y9.snd)
 else
 if y6.fst=1 then
 (Zc y6.snd 10).bind fun y9 =>
 some (((4:Int),y7.fst,Wq (y9.fst-(1:Int)),y3.fst,y5.fst,([]:List UInt8),(([]:List Int),([]:List Int),([]:List Int),([]:List Int),()),()),y9.snd)
 else
 if y6.fst=2 then
 (Zc y6.snd (Wq ((↑(List.length (Zv.ZlA a1)):Int)+2))).bind fun y9 =>
 some (((4:Int),y7.fst,(0:Int),Wq (y9.fst-(1:Int)),y5.fst,([]:List UInt8),(([]:List Int),([]:List Int),([]:List Int),([]:List Int),()),()),y9.snd)
 else
 if y6.fst=3 then
 (Zc y6.snd (Wq ((↑y1.length:Int)+2))).bind fun y9 =>
 some (((4:Int),Wq (y9.fst-(1:Int)),(0:Int),y3.fst,y5.fst,([]:List UInt8),(([]:List Int),([]:List Int),([]:List Int),([]:List Int),()),()),y9.snd)
 else
 if y6.fst=4 then
 some (((4:Int),y7.fst,(0:Int),y3.fst,y5.fst,[(66:UInt8),(97:UInt8),(100:UInt8)],(([]:List Int),([]:List Int),([]:List Int),([]:List Int),()),()),y6.snd)
 else
 some (((4:Int),y7.fst,(0:Int),y3.fst,y5.fst,([]:List UInt8),(([]:List Int),([]:List Int),([]:List Int),([]:List Int),()),()),y6.snd)
 else
 (Zc y2.snd (↑(List.length (Zv.ZlA a1)):Int)).bind fun y3 =>
 (QT (Zv.Design a1) y3.fst).bind fun y10 =>
 (Xi y3.snd (↑y10.length:Int)).bind fun y11 =>
 (Zc y11.snd 30).bind fun y5 =>
 if y5.fst=0 then
 (Zc y5.snd 7).bind fun y6 =>
 some ((y6.fst,(0:Int),(0:Int),y3.fst,(0:Int),([]:List UInt8),y11.fst,()),y6.snd)
 else
 if y5.fst=1 then
 (Zc y5.snd 10).bind fun y6 =>
 some (((5:Int),(0:Int),Wq (y6.fst-(1:Int)),y3.fst,(0:Int),([]:List UInt8),y11.fst,()),y6.snd)
 else
 if y5.fst=2 then
 (Zc y5.snd (Wq ((↑(List.length (Zv.ZlA a1)):Int)+2))).bind fun y6 =>
 some (((5:Int),(0:Int),(0:Int),Wq (y6.fst-(1:Int)),(0:Int),([]:List UInt8),y11.fst,()),y6.snd)
 else
 if y5.fst=3 then
 (Zc y5.snd (Wq ((↑y1.length:Int)+2))).bind fun y6 =>
 some (((5:Int),Wq (y6.fst-(1:Int)),(0:Int),y3.fst,(0:Int),([]:List UInt8),y11.fst,()),y6.snd)
 else
 if y5.fst=4 then
 some (((5:Int),(0:Int),(0:Int),y3.fst,(0:Int),[(66:UInt8),(97:UInt8),(100:UInt8)],y11.fst,()),y5.snd)
 else
 some (((5:Int),(0:Int),(0:Int),y3.fst,(0:Int),([]:List UInt8),y11.fst,()),y5.snd)
 else
 if y2.fst=1 then
 (Zc y2.snd (↑(List.length (Zp.Instances (Zv.Design a1))):Int)).bind fun y3 =>
 (atI (Zp.Instances (Zv.Design a1)) y3.fst).bind fun x0 =>
 (Zs1 (Zv.Design a1) y3.fst (Wq ((↑(List.length (Zz.Zbh x0)):Int)-1))).bind fun y4 =>
 (atI ([(1:Int),(0:Int),(3:Int),(2:Int),(4:Int),(6:Int),(5:Int),(7:Int)]) (Int.tmod (Zz.Cell x0) (8:Int))).bind fun x1 =>
 (Zc y3.snd 30).bind fun y5 =>
 if y5.fst=0 then
 (Zc y5.snd 7).bind fun y6 =>
 some ((y6.fst,y4,x1,(0:Int),(0:Int),([]:List UInt8),(([]:List Int),([]:List Int),([]:List Int),([]:List Int),()),()),y6.snd)
 else
 if y5.fst=1 then
 (Zc y5.snd 10).bind fun y6 =>
 some (((1:Int),y4,Wq (y6.fst-(1:Int)),(0:Int),(0:Int),([]:List UInt8),(([]:List Int),([]:List Int),([]:List Int),([]:List Int),()),()),y6.snd)
 else
 if y5.fst=2 then
 (Zc y5.snd (Wq ((↑(List.length (Zv.ZlA a1)):Int)+2))).bind fun y6 =>
 some (((1:Int),y4,x1,Wq (y6.fst-(1:Int)),(0:Int),([]:List UInt8),(([]:List Int),([]:List Int),([]:List Int),([]:List Int),()),()),y6.snd)
 else
 if y5.fst=3 then
 (Zc y5.snd (Wq ((↑y1.length:Int)+2))).bind fun y6 =>
 some (((1:Int),Wq (y6.fst-(1:Int)),x1,(0:Int),(0:Int),([]:List UInt8),(([]:List Int),([]:List Int),([]:List Int),([]:List Int),()),()),y6.snd)
 else
 if y5.fst=4 then
 some (((1:Int),y4,x1,(0:Int),(0:Int),[(66:UInt8),(97:UInt8),(100:UInt8)],(([]:List Int),([]:List Int),([]:List Int),([]:List Int),()),()),y5.snd)
 else
 some (((1:Int),y4,x1,(0:Int),(0:Int),([]:List UInt8),(([]:List Int),([]:List Int),([]:List Int),([]:List Int),()),()),y5.snd)
 else
 if y2.fst=2 then
 if y2.fst=2 then
 (ZpK y2.snd a1).bind fun y7 =>
 (Zc y7.snd 2).bind fun y3 =>
 (Zc y3.snd 3).bind fun y5 =>
 (XG y5.fst).bind fun y8 =>
 Zj ((↑(List.length [(120:UInt8)]):Int)+(↑y8.length:Int)≤(9223372036854775807:Int)) <|
 (Zc y5.snd 30).bind fun y6 =>
 if y6.fst=0 then
 (Zc y6.snd 7).bind fun y9 =>
 some ((y9.fst,y7.fst,y3.fst,(0:Int),(0:Int),[(120:UInt8)]++y8,(([]:List Int),([]:List Int),([]:List Int),([]:List Int),()),()),y9.snd)
 else
 if y6.fst=1 then
 (Zc y6.snd 10).bind fun y9 =>
 some (((2:Int),y7.fst,Wq (y9.fst-(1:Int)),(0:Int),(0:Int),[(120:UInt8)]++y8,(([]:List Int),([]:List Int),([]:List Int),([]:List Int),()),()),y9.snd)
 else
 if y6.fst=2 then
 (Zc y6.snd (Wq ((↑(List.length (Zv.ZlA a1)):Int)+2))).bind fun y9 =>
 some (((2:Int),y7.fst,y3.fst,Wq (y9.fst-(1:Int)),(0:Int),[(120:UInt8)]++y8,(([]:List Int),([]:List Int),([]:List Int),([]:List Int),()),()),y9.snd)
 else
 if y6.fst=3 then
 (Zc y6.snd (Wq ((↑y1.length:Int)+2))).bind fun y9 =>
 some (((2:Int),Wq (y9.fst-(1:Int)),y3.fst,(0:Int),(0:Int),[(120:UInt8)]++y8,(([]:List Int),([]:List Int),([]:List Int),([]:List Int),()),()),y9.snd)
 else
 if y6.fst=4 then
 some (((2:Int),y7.fst,y3.fst,(0:Int),(0:Int),[(66:UInt8),(97:UInt8),(100:UInt8)],(([]:List Int),([]:List Int),([]:List Int),([]:List Int),()),()),y6.snd)
 else
 some (((2:Int),y7.fst,y3.fst,(0:Int),(0:Int),[(120:UInt8)]++y8,(([]:List Int),([]:List Int),([]:List Int),([]:List Int),()),()),y6.snd)
 else
 if y2.fst=4 then
 (Zc y2.snd 30).bind fun y3 =>
 if y3.fst=0 then
 (Zc y3.snd 7).bind fun y5 =>
 some ((y5.fst,(0:Int),(0:Int),(0:Int),(0:Int),([]:List UInt8),(([]:List Int),([]:List Int),([]:List Int),([]:List Int),()),()),y5.snd)
 else
 if y3.fst=1 then
 (Zc y3.snd 10).bind fun y5 =>
 some (((3:Int),(0:Int),Wq (y5.fst-(1:Int)),(0:Int),(0:Int),([]:List UInt8),(([]:List Int),([]:List Int),([]:List Int),([]:List Int),()),()),y5.snd)
 else
 if y3.fst=2 then
 (Zc y3.snd (Wq ((↑(List.length (Zv.ZlA a1)):Int)+2))).bind fun y5 =>
 some (((3:Int),(0:Int),(0:Int),Wq (y5.fst-(1:Int)),(0:Int),([]:List UInt8),(([]:List Int),([]:List Int),([]:List Int),([]:List Int),()),()),y5.snd)
 else
 if y3.fst=3 then
 (Zc y3.snd (Wq ((↑y1.length:Int)+2))).bind fun y5 =>
 some (((3:Int),Wq (y5.fst-(1:Int)),(0:Int),(0:Int),(0:Int),([]:List UInt8),(([]:List Int),([]:List Int),([]:List Int),([]:List Int),()),()),y5.snd)
 else
 if y3.fst=4 then
 some (((3:Int),(0:Int),(0:Int),(0:Int),(0:Int),[(66:UInt8),(97:UInt8),(100:UInt8)],(([]:List Int),([]:List Int),([]:List Int),([]:List Int),()),()),y3.snd)
 else
 some (((3:Int),(0:Int),(0:Int),(0:Int),(0:Int),([]:List UInt8),(([]:List Int),([]:List Int),([]:List Int),([]:List Int),()),()),y3.snd)
 else
 if y2.fst=5 then
 (ZpK y2.snd a1).bind fun y7 =>
 (Zc y7.snd (↑(List.length (Zv.ZlA a1)):Int)).bind fun y3 =>
 (atI (Zv.ZlA a1) y3.fst).bind fun x0 =>
 (Zc y3.snd (↑(List.length (QH.Parent x0)):Int)).bind fun y5 =>
 (Zc y5.snd 30).bind fun y6 =>
 if y6.fst=0 then
 (Zc y6.snd 7).bind fun y9 =>
 some ((y9.fst,y7.fst,(0:Int),y3.fst,y5.fst,([]:List UInt8),(([]:List Int),([]:List Int),([]:List Int),([]:List Int),()),()),y9.snd)
 else
 if y6.fst=1 then
 (Zc y6.snd 10).bind fun y9 =>
 some (((4:Int),y7.fst,Wq (y9.fst-(1:Int)),y3.fst,y5.fst,([]:List UInt8),(([]:List Int),([]:List Int),([]:List Int),([]:List Int),()),()),y9.snd)
 else
 if y6.fst=2 then
 (Zc y6.snd (Wq ((↑(List.length (Zv.ZlA a1)):Int)+2))).bind fun y9 =>
 some (((4:Int),y7.fst,(0:Int),Wq (y9.fst-(1:Int)),y5.fst,([]:List UInt8),(([]:List Int),([]:List Int),([]:List Int),([]:List Int),()),()),y9.snd)
 else
 if y6.fst=3 then
 (Zc y6.snd (Wq ((↑y1.length:Int)+2))).bind fun y9 =>
 some (((4:Int),Wq (y9.fst-(1:Int)),(0:Int),y3.fst,y5.fst,([]:List UInt8),(([]:List Int),([]:List Int),([]:List Int),([]:List Int),()),()),y9.snd)
 else
 if y6.fst=4 then
 some (((4:Int),y7.fst,(0:Int),y3.fst,y5.fst,[(66:UInt8),(97:UInt8),(100:UInt8)],(([]:List Int),([]:List Int),([]:List Int),([]:List Int),()),()),y6.snd)
 else
 some (((4:Int),y7.fst,(0:Int),y3.fst,y5.fst,([]:List UInt8),(([]:List Int),([]:List Int),([]:List Int),([]:List Int),()),()),y6.snd)
 else
 (Zc y2.snd (↑(List.length (Zv.ZlA a1)):Int)).bind fun y3 =>
 (QT (Zv.Design a1) y3.fst).bind fun y10 =>
 (Xi y3.snd (↑y10.length:Int)).bind fun y11 =>
 (Zc y11.snd 30).bind fun y5 =>
 if y5.fst=0 then
 (Zc y5.snd 7).bind fun y6 =>
 some ((y6.fst,(0:Int),(0:Int),y3.fst,(0:Int),([]:List UInt8),y11.fst,()),y6.snd)
 else
 if y5.fst=1 then
 (Zc y5.snd 10).bind fun y6 =>
 some (((5:Int),(0:Int),Wq (y6.fst-(1:Int)),y3.fst,(0:Int),([]:List UInt8),y11.fst,()),y6.snd)
 else
 if y5.fst=2 then
 (Zc y5.snd (Wq ((↑(List.length (Zv.ZlA a1)):Int)+2))).bind fun y6 =>
 some (((5:Int),(0:Int),(0:Int),Wq (y6.fst-(1:Int)),(0:Int),([]:List UInt8),y11.fst,()),y6.snd)
 else
 if y5.fst=3 then
 (Zc y5.snd (Wq ((↑y1.length:Int)+2))).bind fun y6 =>
 some (((5:Int),Wq (y6.fst-(1:Int)),(0:Int),y3.fst,(0:Int),([]:List UInt8),y11.fst,()),y6.snd)
 else
 if y5.fst=4 then
 some (((5:Int),(0:Int),(0:Int),y3.fst,(0:Int),[(66:UInt8),(97:UInt8),(100:UInt8)],y11.fst,()),y5.snd)
 else
 some (((5:Int),(0:Int),(0:Int),y3.fst,(0:Int),([]:List UInt8),y11.fst,()),y5.snd)
 else
 if y2.fst=3 then
 (ZpK y2.snd a1).bind fun y7 =>
 (Zc y7.snd 2).bind fun y3 =>
 (Zc y3.snd 3).bind fun y5 =>
 (XG y5.fst).bind fun y8 =>
 Zj ((↑(List.length [(120:UInt8)]):Int)+(↑y8.length:Int)≤(9223372036854775807:Int)) <|
 (Zc y5.snd 30).bind fun y6 =>
 if y6.fst=0 then
 (Zc y6.snd 7).bind fun y9 =>
 some ((y9.fst,y7.fst,y3.fst,(0:Int),(0:Int),[(120:UInt8)]++y8,(([]:List Int),([]:List Int),([]:List Int),([]:List Int),()),()),y9.snd)
 else
 if y6.fst=1 then
 (Zc y6.snd 10).bind fun y9 =>
 some (((2:Int),y7.fst,Wq (y9.fst-(1:Int)),(0:Int),(0:Int),[(120:UInt8)]++y8,(([]:List Int),([]:List Int),([]:List Int),([]:List Int),()),()),y9.snd)
 else
 if y6.fst=2 then
 (Zc y6.snd (Wq ((↑(List.length (Zv.ZlA a1)):Int)+2))).bind fun y9 =>
 some (((2:Int),y7.fst,y3.fst,Wq (y9.fst-(1:Int)),(0:Int),[(120:UInt8)]++y8,(([]:List Int),([]:List Int),([]:List Int),([]:List Int),()),()),y9.snd)
 else
 if y6.fst=3 then
 (Zc y6.snd (Wq ((↑y1.length:Int)+2))).bind fun y9 =>
 some (((2:Int),Wq (y9.fst-(1:Int)),y3.fst,(0:Int),(0:Int),[(120:UInt8)]++y8,(([]:List Int),([]:List Int),([]:List Int),([]:List Int),()),()),y9.snd)
 else
 if y6.fst=4 then
 some (((2:Int),y7.fst,y3.fst,(0:Int),(0:Int),[(66:UInt8),(97:UInt8),(100:UInt8)],(([]:List Int),([]:List Int),([]:List Int),([]:List Int),()),()),y6.snd)
 else
 some (((2:Int),y7.fst,y3.fst,(0:Int),(0:Int),[(120:UInt8)]++y8,(([]:List Int),([]:List Int),([]:List Int),([]:List Int),()),()),y6.snd)
 else
 if y2.fst=4 then
 (Zc y2.snd 30).bind fun y3 =>
 if y3.fst=0 then
 (Zc y3.snd 7).bind fun y5 =>
 some ((y5.fst,(0:Int),(0:Int),(0:Int),(0:Int),([]:List UInt8),(([]:List Int),([]:List Int),([]:List Int),([]:List Int),()),()),y5.snd)
 else
 if y3.fst=1 then
 (Zc y3.snd 10).bind fun y5 =>
 some (((3:Int),(0:Int),Wq (y5.fst-(1:Int)),(0:Int),(0:Int),([]:List UInt8),(([]:List Int),([]:List Int),([]:List Int),([]:List Int),()),()),y5.snd)
 else
 if y3.fst=2 then
 (Zc y3.snd (Wq ((↑(List.length (Zv.ZlA a1)):Int)+2))).bind fun y5 =>
 some (((3:Int),(0:Int),(0:Int),Wq (y5.fst-(1:Int)),(0:Int),([]:List UInt8),(([]:List Int),([]:List Int),([]:List Int),([]:List Int),()),()),y5.snd)
 else
 if y3.fst=3 then
 (Zc y3.snd (Wq ((↑y1.length:Int)+2))).bind fun y5 =>
 some (((3:Int),Wq (y5.fst-(1:Int)),(0:Int),(0:Int),(0:Int),([]:List UInt8),(([]:List Int),([]:List Int),([]:List Int),([]:List Int),()),()),y5.snd)
 else
 if y3.fst=4 then
 some (((3:Int),(0:Int),(0:Int),(0:Int),(0:Int),[(66:UInt8),(97:UInt8),(100:UInt8)],(([]:List Int),([]:List Int),([]:List Int),([]:List Int),()),()),y3.snd)
 else
 some (((3:Int),(0:Int),(0:Int),(0:Int),(0:Int),([]:List UInt8),(([]:List Int),([]:List Int),([]:List Int),([]:List Int),()),()),y3.snd)
 else
 if y2.fst=5 then
 (ZpK y2.snd a1).bind fun y7 =>
 (Zc y7.snd (↑(List.length (Zv.ZlA a1)):Int)).bind fun y3 =>
 (atI (Zv.ZlA a1) y3.fst).bind fun x0 =>
 (Zc y3.snd (↑(List.length (QH.Parent x0)):Int)).bind fun y5 =>
 (Zc y5.snd 30).bind fun y6 =>
 if y6.fst=0 then
 (Zc y6.snd 7).bind fun y9 =>
 some ((y9.fst,y7.fst,(0:Int),y3.fst,y5.fst,([]:List UInt8),(([]:List Int),([]:List Int),([]:List Int),([]:List Int),()),()),y9.snd)
 else
 if y6.fst=1 then
 (Zc y6.snd 10).bind fun y9 =>
 some (((4:Int),y7.fst,Wq (y9.fst-(1:Int)),y3.fst,y5.fst,([]:List UInt8),(([]:List Int),([]:List Int),([]:List Int),([]:List Int),()),()),y9.snd)
 else
 if y6.fst=2 then
 (Zc y6.snd (Wq ((↑(List.length (Zv.ZlA a1)):Int)+2))).bind fun y9 =>
 some (((4:Int),y7.fst,(0:Int),Wq (y9.fst-(1:Int)),y5.fst,([]:List UInt8),(([]:List Int),([]:List Int),([]:List Int),([]:List Int),()),()),y9.snd)
 else
 if y6.fst=3 then
 (Zc y6.snd (Wq ((↑y1.length:Int)+2))).bind fun y9 =>
 some (((4:Int),Wq (y9.fst-(1:Int)),(0:Int),y3.fst,y5.fst,([]:List UInt8),(([]:List Int),([]:List Int),([]:List Int),([]:List Int),()),()),y9.snd)
 else
 if y6.fst=4 then
 some (((4:Int),y7.fst,(0:Int),y3.fst,y5.fst,[(66:UInt8),(97:UInt8),(100:UInt8)],(([]:List Int),([]:List Int),([]:List Int),([]:List Int),()),()),y6.snd)
 else
 some (((4:Int),y7.fst,(0:Int),y3.fst,y5.fst,([]:List UInt8),(([]:List Int),([]:List Int),([]:List Int),([]:List Int),()),()),y6.snd)
 else
 (Zc y2.snd (↑(List.length (Zv.ZlA a1)):Int)).bind fun y3 =>
 (QT (Zv.Design a1) y3.fst).bind fun y10 =>
 (Xi y3.snd (↑y10.length:Int)).bind fun y11 =>
 (Zc y11.snd 30).bind fun y5 =>
 if y5.fst=0 then
 (Zc y5.snd 7).bind fun y6 =>
 some ((y6.fst,(0:Int),(0:Int),y3.fst,(0:Int),([]:List UInt8),y11.fst,()),y6.snd)
 else
 if y5.fst=1 then
 (Zc y5.snd 10).bind fun y6 =>
 some (((5:Int),(0:Int),Wq (y6.fst-(1:Int)),y3.fst,(0:Int),([]:List UInt8),y11.fst,()),y6.snd)
 else
 if y5.fst=2 then
 (Zc y5.snd (Wq ((↑(List.length (Zv.ZlA a1)):Int)+2))).bind fun y6 =>
 some (((5:Int),(0:Int),(0:Int),Wq (y6.fst-(1:Int)),(0:Int),([]:List UInt8),y11.fst,()),y6.snd)
 else
 if y5.fst=3 then
 (Zc y5.snd (Wq ((↑y1.length:Int)+2))).bind fun y6 =>
 some (((5:Int),Wq (y6.fst-(1:Int)),(0:Int),y3.fst,(0:Int),([]:List UInt8),y11.fst,()),y6.snd)
 else
 if y5.fst=4 then
 some (((5:Int),(0:Int),(0:Int),y3.fst,(0:Int),[(66:UInt8),(97:UInt8),(100:UInt8)],y11.fst,()),y5.snd)
 else
 some (((5:Int),(0:Int),(0:Int),y3.fst,(0:Int),([]:List UInt8),y11.fst,()),y5.snd)
 else
 some (((3:Int),(0:Int),(0:Int),(0:Int),(0:Int),([]:List UInt8),(([]:List Int),([]:List Int),([]:List Int),([]:List Int),()),()),a0)
def c54:Ctr:=⟨[.io (.flat (Yn)),.dat (ZjX)],[.own (ZoH)],fun a K=>splitK a fun a0 a=>splitK a fun a1 a=>XU (Zs2 a0 a1) fun r=>K (r.1,()) (r.2,())⟩
def Zt0 (a0:Zbk):Option Bool :=
 if Zbk.Kind a0=1 then
 if Zbk.Net a0=0 then
 if Zbk.Node a0=0 then
 if Zbk.Name a0=([]:List UInt8) then
 some (Decidable.decide (Wq (Wq (Wq ((↑(List.length (QH.Parent (Zbk.ZoZ a0))):Int)+(↑(List.length (QH.Res (Zbk.ZoZ a0))):Int))+(↑(List.length (QH.Cap (Zbk.ZoZ a0))):Int))+(↑(List.length (QH.ZnH (Zbk.ZoZ a0))):Int))=0))
 else
 some false
 else
 some false
 else
 some false
 else
 if Zbk.Kind a0=2 then
 if Zbk.Net a0=0 then
 if Zbk.Node a0=0 then
 some (Decidable.decide (Wq (Wq (Wq ((↑(List.length (QH.Parent (Zbk.ZoZ a0))):Int)+(↑(List.length (QH.Res (Zbk.ZoZ a0))):Int))+(↑(List.length (QH.Cap (Zbk.ZoZ a0))):Int))+(↑(List.length (QH.ZnH (Zbk.ZoZ a0))):Int))=0))
 else
 some false
 else
 some false
 else
 if Zbk.Kind a0=3 then
 if Zbk.Place a0=0 then
 if Zbk.Cell a0=0 then
 if Zbk.Net a0=0 then
 if Zbk.Node a0=0 then
 if Zbk.Name a0=([]:List UInt8) then
 some (Decidable.decide (Wq (Wq (Wq ((↑(List.length (QH.Parent (Zbk.ZoZ a0))):Int)+(↑(List.length (QH.Res (Zbk.ZoZ a0))):Int))+(↑(List.length (QH.Cap (Zbk.ZoZ a0))):Int))+(↑(List.length (QH.ZnH (Zbk.ZoZ a0))):Int))=0))
 else
 some false
 else
 some false
 else
 some false
 else
 some false
 else
 some false
 else
 if Zbk.Kind a0=4 then
 if Zbk.Cell a0=0 then
 if Zbk.Name a0=([]:List UInt8) then
 some (Decidable.decide (Wq (Wq (Wq ((↑(List.length (QH.Parent (Zbk.ZoZ a0))):Int)+(↑(List.length (QH.Res (Zbk.ZoZ a0))):Int))+(↑(List.length (QH.Cap (Zbk.ZoZ a0))):Int))+(↑(List.length (QH.ZnH (Zbk.ZoZ a0))):Int))=0))
 else
 some false
 else
 some false
 else
 if Zbk.Kind a0=5 then
 if Zbk.Place a0=0 then
 if Zbk.Cell a0=0 then
 if Zbk.Node a0=0 then
 some (Decidable.decide (Zbk.Name a0=([]:List UInt8)))
 else
 some false
 else
 some false
 else
 some false
 else
 some false
def c55:Ctr:=D1 (Zn2) (.bool) Zt0
def Zt1 (a0:Zv) (a1:Zbk):Option Bool :=
 (YJ (Zv.Design a0)).bind fun y0 =>
 if Zbk.Kind a1=1 then
 if Zbk.Kind a1=1 then
 (Yd (Zbk.Place a1) 0 (Wq ((↑y0.length:Int)-1))).bind fun y1 =>
 if y1 then
 (Yd (Zbk.Cell a1) 0 (Wq ((↑(List.length (ZaF.Cells (Zv.Library a0))):Int)-1))).bind fun y2 =>
 some y2
 else
 some false
 else
 if Zbk.Kind a1=4 then
 (Yd (Zbk.Place a1) 0 (Wq ((↑y0.length:Int)-1))).bind fun y1 =>
 if y1 then
 (Yd (Zbk.Net a1) 0 (Wq ((↑(List.length (Zv.ZlA a0)):Int)-1))).bind fun y2 =>
 if y2 then
 (atI (Zv.ZlA a0) (Zbk.Net a1)).bind fun x0 =>
 (Yd (Zbk.Node a1) 0 (Wq ((↑(List.length (QH.Parent x0)):Int)-1))).bind fun y3 =>
 some y3
 else
 some false
 else
 some false
 else
 if Zbk.Kind a1=5 then
 (Yd (Zbk.Net a1) 0 (Wq ((↑(List.length (Zv.ZlA a0)):Int)-1))).bind fun y1 =>
 some y1
 else
 some true
 else
 if Zbk.Kind a1=2 then
 (Yd (Zbk.Place a1) 0 (Wq ((↑y0.length:Int)-1))).bind fun y1 =>
 if y1 then
 (Yd (Zbk.Cell a1) 0 (Wq ((↑(List.length (ZaF.Cells (Zv.Library a0))):Int)-1))).bind fun y2 =>
 some y2
 else
 some false
 else
 if Zbk.Kind a1=4 then
 (Yd (Zbk.Place a1) 0 (Wq ((↑y0.length:Int)-1))).bind fun y1 =>
 if y1 then
 (Yd (Zbk.Net a1) 0 (Wq ((↑(List.length (Zv.ZlA a0)):Int)-1))).bind fun y2 =>
 if y2 then
 (atI (Zv.ZlA a0) (Zbk.Net a1)).bind fun x0 =>
 (Yd (Zbk.Node a1) 0 (Wq ((↑(List.length (QH.Parent x0)):Int)-1))).bind fun y3 =>
 some y3
 else
 some false
 else
 some false
 else
 if Zbk.Kind a1=5 then
 (Yd (Zbk.Net a1) 0 (Wq ((↑(List.length (Zv.ZlA a0)):Int)-1))).bind fun y1 =>
 some y1
 else
 some true
def c56:Ctr:=D2 (ZjX) (Zn2) (.bool) Zt1
def Zp5 (a0:QG) (b0:QG) (i0:Int):Option ((Int×Unit) ⊕ Bool) :=
 if i0<(↑(List.length (QG.ZoY a0)):Int) then
 (atI (QG.ZoY a0) i0).bind fun x0 =>
 (atI (QG.ZoY b0) i0).bind fun x1 =>
 if (ZhU.Clock x0 == ZhU.Clock x1)=true then
 some (.inl (Wq (i0+1),()))
 else
 some (.inr false)
 else
 some (.inr true)
def Zp3 (a0:QG) (b0:QG):Option Bool :=
 if QG.Kind a0=QG.Kind b0 then
 if (↑(List.length (QG.ZoY a0)):Int)=(↑(List.length (QG.ZoY b0)):Int) then
 ZA (fun v=>Zp5 a0 b0 v.1) ((0:Int),())
 else
 some false
 else
 some false
def c57:Ctr:=D2 (Zin) (Zin) (.bool) Zp3
def Zqw (c0:QG):Option Bool :=
 if QG.Kind c0=1 then
 some (Decidable.decide ((↑(List.length (QG.ZoY c0)):Int)=2))
 else
 some false
def c58:Ctr:=D1 (Zin) (.bool) Zqw
def Zry (d0:Zp) (name0:List UInt8) (i0:Int):Option ((Int×Unit) ⊕ Int) :=
 if i0<(↑(List.length (Zp.Instances d0)):Int) then
 (atI (Zp.Instances d0) i0).bind fun x0 =>
 if Zz.Name x0=name0 then
 some (.inr i0)
 else
 some (.inl (Wq (i0+1),()))
 else
 some (.inr (-1))
def Zr4 (d0:Zp) (name0:List UInt8):Option Int :=
 ZA (fun v=>Zry d0 name0 v.1) ((0:Int),())
def c59:Ctr:=D2 (ZdN) (.str) Iq Zr4
def ZsQ (list0:List (List UInt8)) (word0:List UInt8) (i0:Int):Option ((Int×Unit) ⊕ Int) :=
 if i0<(↑list0.length:Int) then
 (atI list0 i0).bind fun x0 =>
 if x0=word0 then
 some (.inr i0)
 else
 some (.inl (Wq (i0+1),()))
 else
 some (.inr (-1))
def ZuR (list0:List (List UInt8)) (word0:List UInt8):Option Int :=
 ZA (fun v=>ZsQ list0 word0 v.1) ((0:Int),())
def c60:Ctr:=D2 (.sl (.str)) (.str) Iq ZuR
def ZtX (d0:Zp) (name0:List UInt8):Option Int :=
 (ZuR (Zp.Zbh d0) name0).bind fun y0 =>
 some y0
def c61:Ctr:=D2 (ZdN) (.str) Iq ZtX
def Zuu (w0:QH):Option Bool :=
 if (↑(List.length (QH.Parent w0)):Int)=1 then
 (atI (QH.Cap w0) 0).bind fun x0 =>
 some (Decidable.decide (x0=0))
 else
 some false
def c62:Ctr:=D1 (ZjY) (.bool) Zuu
def Zs3 (a0:Zv):Option Bool :=
 if Wq ((↑(List.length (Zp.Instances (Zv.Design a0))):Int)-1)<0 then
 some false
 else
 (atI (Zp.Instances (Zv.Design a0)) (Wq ((↑(List.length (Zp.Instances (Zv.Design a0))):Int)-1))).bind fun x0 =>
 (atI (ZaF.Cells (Zv.Library a0)) (Zz.Cell x0)).bind fun x1 =>
 (Zqw x1).bind fun y0 =>
 if y0 then
 (atI (Zz.Zbh x0) 1).bind fun x2 =>
 if x2=Wq ((↑(List.length (Zv.ZlA a0)):Int)-1) then
 (atI (Zp.Zbh (Zv.Design a0)) (Wq ((↑(List.length (Zv.ZlA a0)):Int)-1))).bind fun x3 =>
 if x3=Zz.Name x0 then
 (atI (Zz.Zbh x0) 0).bind fun x4 =>
 if x4=Wq ((↑(List.length (Zv.ZlA a0)):Int)-1) then
 some false
 else
 (QT (Zv.Design a0) (Wq ((↑(List.length (Zv.ZlA a0)):Int)-1))).bind fun y1 =>
 if (↑y1.length:Int)=1 then
 (atI (Zv.ZlA a0) (Wq ((↑(List.length (Zv.ZlA a0)):Int)-1))).bind fun x5 =>
 (Zuu x5).bind fun y2 =>
 some y2
 else
 some false
 else
 some false
 else
 some false
 else
 some false
def c63:Ctr:=D1 (ZjX) (.bool) Zs3
def Zst (a0:Zv) (a1:Zbk):Option Bool :=
 (YJ (Zv.Design a0)).bind fun y0 =>
 if Zbk.Kind a1=1 then
 (atI y0 (Zbk.Place a1)).bind fun x0 =>
 if 0≤Zk.instance x0 then
 if (Zk.drives x0)=true then
 (atI (Zp.Instances (Zv.Design a0)) (Zk.instance x0)).bind fun x1 =>
 (atI (ZaF.Cells (Zv.Library a0)) (Zz.Cell x1)).bind fun x2 =>
 (atI (ZaF.Cells (Zv.Library a0)) (Zbk.Cell a1)).bind fun x3 =>
 (Zp3 x2 x3).bind fun y1 =>
 some y1
 else
 some false
 else
 some false
 else
 if Zbk.Kind a1=2 then
 (atI y0 (Zbk.Place a1)).bind fun x0 =>
 if (Zk.drives x0)=true then
 some false
 else
 (atI (ZaF.Cells (Zv.Library a0)) (Zbk.Cell a1)).bind fun x1 =>
 (Zqw x1).bind fun y2 =>
 if y2 then
 (Vg (Zbk.Name a1)).bind fun y3 =>
 if y3 then
 (Zr4 (Zv.Design a0) (Zbk.Name a1)).bind fun y4 =>
 if y4<0 then
 (ZtX (Zv.Design a0) (Zbk.Name a1)).bind fun y5 =>
 some (Decidable.decide (y5<0))
 else
 some false
 else
 some false
 else
 some false
 else
 if Zbk.Kind a1=3 then
 (Zs3 a0).bind fun y6 =>
 some y6
 else
 if Zbk.Kind a1=4 then
 (atI y0 (Zbk.Place a1)).bind fun x0 =>
 if (Zk.drives x0)=true then
 some false
 else
 some (!Decidable.decide (Zk.net x0=Zbk.Net a1))
 else
 (QT (Zv.Design a0) (Zbk.Net a1)).bind fun y7 =>
 (Zui (Zbk.ZoZ a1) (↑y7.length:Int)).bind fun y8 =>
 some y8
def c64:Ctr:=D2 (ZjX) (Zn2) (.bool) Zst
def Zqu (b0:Zv) (e0:Zbk):Option Int :=
 (Zsb b0).bind fun y0 =>
 if y0 then
 (Zt0 e0).bind fun y1 =>
 if y1 then
 (Zt1 b0 e0).bind fun y2 =>
 if y2 then
 (Zst b0 e0).bind fun y3 =>
 if y3 then
 if Zbk.Kind e0=2 then
 if (↑(List.length (Zp.Instances (Zv.Design b0))):Int)=14 then
 some 3
 else
 if (↑(List.length (Zv.ZlA b0)):Int)=30 then
 some 3
 else
 some 0
 else
 some 0
 else
 some 5
 else
 some 2
 else
 some 2
 else
 some 1
def c65:Ctr:=D2 (ZjX) (Zn2) Iq Zqu
def ZuO (t0:Jy):Option Jy :=
 (XT (Jy.ZoG t0)).bind fun y0 =>
 (XT (Jy.Loads t0)).bind fun y1 =>
 (XT (Jy.Values t0)).bind fun y2 =>
 some (y0,y1,y2,())
def c66:Ctr:=⟨[.dat (ZdQ)],[.own (ZeG)],fun a K=>splitK a fun t0 a=>XU (ZuO t0) fun r=>K (r,()) ()⟩
def ZqH (list0:List Jy) (out0:List Jy) (i0:Int):Option (((List Jy)×Int×Unit) ⊕ List Jy) :=
 if i0<(↑list0.length:Int) then
 (atI list0 i0).bind fun x0 =>
 (ZuO x0).bind fun y0 =>
 Zj ((List.length out0+List.length [y0])*(72:Nat)≤(140737488355328:Nat)) <|
 some (.inl (out0++[y0],Wq (i0+(1:Int)),()))
 else
 some (.inr out0)
def ZrA (list0:List Jy):Option (List Jy) :=
 ZA (fun v=>ZqH list0 v.1 v.2.1) (([]:List Jy),(0:Int),())
def c67:Ctr:=⟨[.dat (.sl (ZdQ))],[.own (.ol 322 (ZeG))],fun a K=>splitK a fun list0 a=>XU (ZrA list0) fun r=>K (r,()) ()⟩
def Zsn (c0:QG) (l02Ints0:List Int) (i0:Int) (c1:List ZfN):Option ((Int×(List ZfN)×Unit) ⊕ QG) :=
 if i0<(↑(List.length (QG.ZoW c0)):Int) then
 (atI (QG.ZoW c0) i0).bind fun x0 =>
 (ZrA (ZfN.Delay x0)).bind fun y0 =>
 (ZrA (ZfN.Znd x0)).bind fun y1 =>
 Zj ((List.length c1+List.length [(ZfN.Kind x0,ZfN.From x0,ZfN.To x0,ZfN.ZoE x0,y0,y1,())])*(80:Nat)≤(140737488355328:Nat)) <|
 some (.inl (Wq (i0+(1:Int)),c1++[(ZfN.Kind x0,ZfN.From x0,ZfN.To x0,ZfN.ZoE x0,y0,y1,())],()))
 else
 some (.inr (QG.Name c0,QG.Kind c0,([]:List (List UInt8×Int×Int×Bool×Unit))++QG.ZoY c0,c1,l02Ints0,c0.snd.snd.snd.snd.snd))
def ZuQ (c0:QG):Option QG :=
 Zj ((List.length (([]:List (List UInt8×Int×Int×Bool×Unit)))+List.length (QG.ZoY c0))*(40:Nat)≤(140737488355328:Nat)) <|
 (XT (QG.Truth c0)).bind fun y0 =>
 ZA (fun v=>Zsn c0 y0 v.1 v.2.1) ((0:Int),([]:List ZfN),())
def c68:Ctr:=⟨[.dat (Zin)],[.own (ZiT)],fun a K=>splitK a fun c0 a=>XU (ZuQ c0) fun r=>K (r,()) ()⟩
def Zqy (l0:ZaF) (i0:Int) (c0:List QG):Option ((Int×(List QG)×Unit) ⊕ ZaF) :=
 if i0<(↑(List.length (ZaF.Cells l0)):Int) then
 (atI (ZaF.Cells l0) i0).bind fun x0 =>
 (ZuQ x0).bind fun y0 =>
 Zj ((List.length c0+List.length [y0])*(112:Nat)≤(140737488355328:Nat)) <|
 some (.inl (Wq (i0+(1:Int)),c0++[y0],()))
 else
 some (.inr (c0,()))
def Zr5 (l0:ZaF):Option ZaF :=
 ZA (fun v=>Zqy l0 v.1 v.2.1) ((0:Int),([]:List QG),())
def c69:Ctr:=⟨[.dat (Zc3)],[.own (Zhl)],fun a K=>splitK a fun l0 a=>XU (Zr5 l0) fun r=>K (r,()) ()⟩
def Zsp (d0:Zp) (i0:Int) (c0:List Zz):Option ((Int×(List Zz)×Unit) ⊕ Zp) :=
 if i0<(↑(List.length (Zp.Instances d0)):Int) then
 (atI (Zp.Instances d0) i0).bind fun x0 =>
 (XT (Zz.Zbh x0)).bind fun y0 =>
 Zj ((List.length c0+List.length [(Zz.Name x0,Zz.Cell x0,y0,())])*(48:Nat)≤(140737488355328:Nat)) <|
 some (.inl (Wq (i0+(1:Int)),c0++[(Zz.Name x0,Zz.Cell x0,y0,())],()))
 else
 some (.inr (c0,([]:List (List UInt8))++Zp.Zbh d0,([]:List (List UInt8×Int×Int×Unit))++Zp.Vk d0,()))
def ZuS (d0:Zp):Option Zp :=
 Zj ((List.length (([]:List (List UInt8)))+List.length (Zp.Zbh d0))*(16:Nat)≤(140737488355328:Nat)) <|
 Zj ((List.length (([]:List (List UInt8×Int×Int×Unit)))+List.length (Zp.Vk d0))*(32:Nat)≤(140737488355328:Nat)) <|
 ZA (fun v=>Zsp d0 v.1 v.2.1) ((0:Int),([]:List Zz),())
def c70:Ctr:=⟨[.dat (ZdN)],[.own (ZiU)],fun a K=>splitK a fun d0 a=>XU (ZuS d0) fun r=>K (r,()) ()⟩
def Zsc (w0:QH):Option QH :=
 (XT (QH.Parent w0)).bind fun y0 =>
 (XT (QH.Res w0)).bind fun y1 =>
 (XT (QH.Cap w0)).bind fun y2 =>
 (XT (QH.ZnH w0)).bind fun y3 =>
 some (y0,y1,y2,y3,())
def c71:Ctr:=⟨[.dat (ZjY)],[.own (ZgI)],fun a K=>splitK a fun w0 a=>XU (Zsc w0) fun r=>K (r,()) ()⟩
def Zsq (b0:Zv) (l03OwnLibrary0:ZaF) (l05Own0:Zp) (i0:Int) (c0:List QH):Option ((Int×(List QH)×Unit) ⊕ Zv) :=
 if i0<(↑(List.length (Zv.ZlA b0)):Int) then
 (atI (Zv.ZlA b0) i0).bind fun x0 =>
 (Zsc x0).bind fun y0 =>
 Zj ((List.length c0+List.length [y0])*(96:Nat)≤(140737488355328:Nat)) <|
 some (.inl (Wq (i0+(1:Int)),c0++[y0],()))
 else
 some (.inr (l03OwnLibrary0,l05Own0,c0,()))
def Zuk (b0:Zv):Option Zv :=
 (Zr5 (Zv.Library b0)).bind fun y0 =>
 (ZuS (Zv.Design b0)).bind fun y1 =>
 ZA (fun v=>Zsq b0 y0 y1 v.1 v.2.1) ((0:Int),([]:List QH),())
def c72:Ctr:=⟨[.dat (ZjX)],[.own (Zhk)],fun a K=>splitK a fun b0 a=>XU (Zuk b0) fun r=>K (r,()) ()⟩
def ZsW (b0:Zv) (net0:Int) (l05Sinks0:List Int) (i0:Int) (l1:List Int):Option ((Int×(List Int)×Unit) ⊕ ((Int×(List Int)×Unit) ⊕ List Int)) :=
 if i0<(↑l05Sinks0.length:Int) then
 (atI l05Sinks0 i0).bind fun x0 =>
 (atI (Zv.ZlA b0) net0).bind fun x1 =>
 (atI (QH.ZnH x1) i0).bind fun x2 =>
 (atI l1 x0).bind fun x3 =>
 some (.inl (Wq (i0+1),List.set l1 (Int.toNat x0) x2,()))
 else
 some (.inr (.inl (Wq (net0+1),l1,())))
def ZsX (b0:Zv) (net0:Int) (l0:List Int):Option ((Int×(List Int)×Unit) ⊕ List Int) :=
 if net0<(↑(List.length (Zv.ZlA b0)):Int) then
 (QT (Zv.Design b0) net0).bind fun y0 =>
 ZA (fun v=>ZsW b0 net0 y0 v.1 v.2.1) ((0:Int),l0,())
 else
 some (.inr l0)
def Zss (b0:Zv):Option (List Int) :=
 (YJ (Zv.Design b0)).bind fun y0 =>
 Zj ((0:Int)≤(↑y0.length:Int)) <|
 Zj ((↑y0.length:Int)≤(↑y0.length:Int)) <|
 Zj ((↑y0.length:Int)≤(4611686018427387904:Int)) <|
 Zj ((↑(8:Nat):Int)*(↑y0.length:Int)≤(281474976710656:Int)) <|
 ZA (fun v=>ZsX b0 v.1 v.2.1) ((0:Int),List.replicate (Int.toNat (↑y0.length:Int)) (0:Int),())
def c73:Ctr:=⟨[.dat (ZjX)],[.own (.ol 2 (.flat Iq))],fun a K=>splitK a fun b0 a=>XU (Zss b0) fun r=>K (r,()) ()⟩
def ZrB (d0:Zp) (p0:Zk) (net0:Int):Option Zp :=
 if Zk.instance p0<0 then
 (atI (Zp.Vk d0) (Zk.pin p0)).bind fun x0 =>
 some (Zp.Instances d0,Zp.Zbh d0,List.set (Zp.Vk d0) (Int.toNat (Zk.pin p0)) (Zah.Name x0,Zah.Dir x0,net0,()),())
 else
 (atI (Zp.Instances d0) (Zk.instance p0)).bind fun x0 =>
 (atI x0.snd.snd.fst (Zk.pin p0)).bind fun x1 =>
 some (List.set (Zp.Instances d0) (Int.toNat (Zk.instance p0)) (x0.fst,x0.snd.fst,List.set x0.snd.snd.fst (Int.toNat (Zk.pin p0)) net0,()),d0.snd)
def c74:Ctr:=⟨[.back (ZiU),.dat (JJ),.dat Iq],[],fun a K=>splitK a fun d0 a=>splitK a fun p0 a=>splitK a fun net0 a=>XU (ZrB d0 p0 net0) fun r=>K () (r,())⟩
def Zsz (nodes0:List Int) (net0:Int) (l0:List (List Int×List Int×List Int×List Int×Unit)) (l05Sinks0:List Int) (list0:List Int) (i0:Int):Option (((List Int)×Int×Unit) ⊕ ((Int×(List (List Int×List Int×List Int×List Int×Unit))×Unit) ⊕ Zv)) :=
 if i0<(↑l05Sinks0.length:Int) then
 (atI l05Sinks0 i0).bind fun x0 =>
 (atI nodes0 x0).bind fun x1 =>
 Zj ((List.length list0+List.length [x1])*(8:Nat)≤(140737488355328:Nat)) <|
 some (.inl (list0++[x1],Wq (i0+(1:Int)),()))
 else
 (atI l0 net0).bind fun x0 =>
 some (.inr (.inl (Wq (net0+1),List.set l0 (Int.toNat net0) (x0.fst,x0.snd.fst,x0.snd.snd.fst,list0,()),())))
def Zrl (b0:Zv) (nodes0:List Int) (net0:Int) (l0:List (List Int×List Int×List Int×List Int×Unit)):Option ((Int×(List (List Int×List Int×List Int×List Int×Unit))×Unit) ⊕ Zv) :=
 if net0<(↑l0.length:Int) then
 (QT (Zv.Design b0) net0).bind fun y0 =>
 ZA (fun v=>Zsz nodes0 net0 l0 y0 v.1 v.2.1) (([]:List Int),(0:Int),())
 else
 some (.inr (Zv.Library b0,Zv.Design b0,l0,()))
def Zqv (b0:Zv) (nodes0:List Int):Option Zv :=
 ZA (fun v=>Zrl b0 nodes0 v.1 v.2.1) ((0:Int),Zv.ZlA b0,())
def c75:Ctr:=⟨[.own (Zhk),.dat (.sl Iq)],[.own (Zhk)],fun a K=>splitK a fun b0 a=>splitK a fun nodes0 a=>XU (Zqv b0 nodes0) fun r=>K (r,()) ()⟩
def ZrT (a0:Zv) (a1:Zbk):Option Zv :=
 (YJ (Zv.Design a0)).bind fun y0 =>
 (atI y0 (Zbk.Place a1)).bind fun x0 =>
 (Zss a0).bind fun y1 =>
 (atI y1 (Zbk.Place a1)).bind fun x1 =>
 Zj ((0:Int)≤Wq ((↑y1.length:Int)-(↑(List.length (Zp.Vk (Zv.Design a0))):Int))) <|
 Zj (Wq ((↑y1.length:Int)-(↑(List.length (Zp.Vk (Zv.Design a0))):Int))≤(↑y1.length:Int)) <|
 (XT (List.take (Int.toNat (Wq ((↑y1.length:Int)-(↑(List.length (Zp.Vk (Zv.Design a0))):Int)))-Int.toNat 0) (List.drop (Int.toNat 0) y1))).bind fun y2 =>
 Zj ((List.length y2+List.length [x1,(0:Int)])*(8:Nat)≤(140737488355328:Nat)) <|
 Zj ((↑y1.length:Int)≤(↑y1.length:Int)) <|
 Zj ((List.length (y2++[x1,(0:Int)])+List.length (List.take (Int.toNat (↑y1.length:Int)-Int.toNat (Wq ((↑y1.length:Int)-(↑(List.length (Zp.Vk (Zv.Design a0))):Int)))) (List.drop (Int.toNat (Wq ((↑y1.length:Int)-(↑(List.length (Zp.Vk (Zv.Design a0))):Int)))) y1)))*(8:Nat)≤(140737488355328:Nat)) <|
 (ZrB (Zv.Design a0) x0 (↑(List.length (Zv.ZlA a0)):Int)).bind fun y3 =>
 if Wq ((↑y1.length:Int)-(↑(List.length (Zp.Vk (Zv.Design a0))):Int))≤Zbk.Place a1 then
 (atI (y2++[x1,(0:Int)]++List.take (Int.toNat (↑y1.length:Int)-Int.toNat (Wq ((↑y1.length:Int)-(↑(List.length (Zp.Vk (Zv.Design a0))):Int)))) (List.drop (Int.toNat (Wq ((↑y1.length:Int)-(↑(List.length (Zp.Vk (Zv.Design a0))):Int)))) y1)) (Wq (Zbk.Place a1+(2:Int)))).bind fun x2 =>
 Zj ((List.length (Zp.Instances y3)+List.length [(Zbk.Name a1,Zbk.Cell a1,[Zk.net x0,(↑(List.length (Zv.ZlA a0)):Int)],())])*(48:Nat)≤(140737488355328:Nat)) <|
 Zj ((List.length (Zp.Zbh y3)+List.length [Zbk.Name a1])*(16:Nat)≤(140737488355328:Nat)) <|
 (Qi 1 0).bind fun y4 =>
 Zj ((List.length (Zv.ZlA a0)+List.length [y4])*(96:Nat)≤(140737488355328:Nat)) <|
 (Zqv (Zv.Library a0,(Zp.Instances y3++[(Zbk.Name a1,Zbk.Cell a1,[Zk.net x0,(↑(List.length (Zv.ZlA a0)):Int)],())],Zp.Zbh y3++[Zbk.Name a1],y3.snd.snd),Zv.ZlA a0++[y4],()) (List.set (y2++[x1,(0:Int)]++List.take (Int.toNat (↑y1.length:Int)-Int.toNat (Wq ((↑y1.length:Int)-(↑(List.length (Zp.Vk (Zv.Design a0))):Int)))) (List.drop (Int.toNat (Wq ((↑y1.length:Int)-(↑(List.length (Zp.Vk (Zv.Design a0))):Int)))) y1)) (Int.toNat (Wq (Zbk.Place a1+(2:Int)))) (0:Int))).bind fun y5 =>
 some y5
 else
 (atI (y2++[x1,(0:Int)]++List.take (Int.toNat (↑y1.length:Int)-Int.toNat (Wq ((↑y1.length:Int)-(↑(List.length (Zp.Vk (Zv.Design a0))):Int)))) (List.drop (Int.toNat (Wq ((↑y1.length:Int)-(↑(List.length (Zp.Vk (Zv.Design a0))):Int)))) y1)) (Zbk.Place a1)).bind fun x2 =>
 Zj ((List.length (Zp.Instances y3)+List.length [(Zbk.Name a1,Zbk.Cell a1,[Zk.net x0,(↑(List.length (Zv.ZlA a0)):Int)],())])*(48:Nat)≤(140737488355328:Nat)) <|
 Zj ((List.length (Zp.Zbh y3)+List.length [Zbk.Name a1])*(16:Nat)≤(140737488355328:Nat)) <|
 (Qi 1 0).bind fun y4 =>
 Zj ((List.length (Zv.ZlA a0)+List.length [y4])*(96:Nat)≤(140737488355328:Nat)) <|
 (Zqv (Zv.Library a0,(Zp.Instances y3++[(Zbk.Name a1,Zbk.Cell a1,[Zk.net x0,(↑(List.length (Zv.ZlA a0)):Int)],())],Zp.Zbh y3++[Zbk.Name a1],y3.snd.snd),Zv.ZlA a0++[y4],()) (List.set (y2++[x1,(0:Int)]++List.take (Int.toNat (↑y1.length:Int)-Int.toNat (Wq ((↑y1.length:Int)-(↑(List.length (Zp.Vk (Zv.Design a0))):Int)))) (List.drop (Int.toNat (Wq ((↑y1.length:Int)-(↑(List.length (Zp.Vk (Zv.Design a0))):Int)))) y1)) (Int.toNat (Zbk.Place a1)) (0:Int))).bind fun y5 =>
 some y5
def c76:Ctr:=⟨[.own (Zhk),.dat (Zn2)],[.own (Zhk)],fun a K=>splitK a fun a0 a=>splitK a fun a1 a=>XU (ZrT a0 a1) fun r=>K (r,()) ()⟩
def ZtA (a0:Zv):Option Zv :=
 (Zss a0).bind fun y0 =>
 (QT (Zv.Design a0) (Wq ((↑(List.length (Zv.ZlA a0)):Int)-1))).bind fun y1 =>
 (atI y1 0).bind fun x0 =>
 (atI y0 (Wq (Wq ((↑y0.length:Int)-(↑(List.length (Zp.Vk (Zv.Design a0))):Int))-2))).bind fun x1 =>
 (atI y0 x0).bind fun x2 =>
 (atI (Zp.Instances (Zv.Design a0)) (Wq ((↑(List.length (Zp.Instances (Zv.Design a0))):Int)-1))).bind fun x3 =>
 (atI x3.snd.snd.fst 0).bind fun x4 =>
 (YJ (List.set (Zp.Instances (Zv.Design a0)) (Int.toNat (Wq ((↑(List.length (Zp.Instances (Zv.Design a0))):Int)-1))) x3,(Zv.Design a0).snd)).bind fun y2 =>
 (atI y2 x0).bind fun x5 =>
 (ZrB (List.set (Zp.Instances (Zv.Design a0)) (Int.toNat (Wq ((↑(List.length (Zp.Instances (Zv.Design a0))):Int)-1))) x3,(Zv.Design a0).snd) x5 x4).bind fun y3 =>
 Zj ((0:Int)≤Wq (Wq ((↑y0.length:Int)-(↑(List.length (Zp.Vk (Zv.Design a0))):Int))-(2:Int))) <|
 Zj (Wq (Wq ((↑y0.length:Int)-(↑(List.length (Zp.Vk (Zv.Design a0))):Int))-(2:Int))≤(↑(List.length (List.set y0 (Int.toNat x0) x1)):Int)) <|
 (XT (List.take (Int.toNat (Wq (Wq ((↑y0.length:Int)-(↑(List.length (Zp.Vk (Zv.Design a0))):Int))-2))-Int.toNat 0) (List.drop (Int.toNat 0) (List.set y0 (Int.toNat x0) x1)))).bind fun y4 =>
 Zj ((0:Int)≤Wq ((↑y0.length:Int)-(↑(List.length (Zp.Vk (Zv.Design a0))):Int))) <|
 Zj (Wq ((↑y0.length:Int)-(↑(List.length (Zp.Vk (Zv.Design a0))):Int))≤(↑(List.length (List.set y0 (Int.toNat x0) x1)):Int)) <|
 Zj ((↑(List.length (List.set y0 (Int.toNat x0) x1)):Int)≤(↑(List.length (List.set y0 (Int.toNat x0) x1)):Int)) <|
 Zj ((List.length y4+List.length (List.take (Int.toNat (↑(List.length (List.set y0 (Int.toNat x0) x1)):Int)-Int.toNat (Wq ((↑y0.length:Int)-(↑(List.length (Zp.Vk (Zv.Design a0))):Int)))) (List.drop (Int.toNat (Wq ((↑y0.length:Int)-(↑(List.length (Zp.Vk (Zv.Design a0))):Int)))) (List.set y0 (Int.toNat x0) x1))))*(8:Nat)≤(140737488355328:Nat)) <|
 Zj ((0:Int)≤Wq ((↑(List.length (Zp.Instances (Zv.Design a0))):Int)-(1:Int))) <|
 Zj (Wq ((↑(List.length (Zp.Instances (Zv.Design a0))):Int)-(1:Int))≤(↑(List.length (Zp.Instances y3)):Int)) <|
 Zj ((0:Int)≤Wq ((↑(List.length (Zv.ZlA a0)):Int)-(1:Int))) <|
 Zj (Wq ((↑(List.length (Zv.ZlA a0)):Int)-(1:Int))≤(↑(List.length (Zp.Zbh y3)):Int)) <|
 Zj (Wq ((↑(List.length (Zv.ZlA a0)):Int)-(1:Int))≤(↑(List.length (Zv.ZlA a0)):Int)) <|
 (Zqv (Zv.Library a0,(List.take (Int.toNat (Wq ((↑(List.length (Zp.Instances (Zv.Design a0))):Int)-1))-Int.toNat 0) (List.drop (Int.toNat 0) (Zp.Instances y3)),List.take (Int.toNat (Wq ((↑(List.length (Zv.ZlA a0)):Int)-1))-Int.toNat 0) (List.drop (Int.toNat 0) (Zp.Zbh y3)),y3.snd.snd),List.take (Int.toNat (Wq ((↑(List.length (Zv.ZlA a0)):Int)-1))-Int.toNat 0) (List.drop (Int.toNat 0) (Zv.ZlA a0)),()) (y4++List.take (Int.toNat (↑(List.length (List.set y0 (Int.toNat x0) x1)):Int)-Int.toNat (Wq ((↑y0.length:Int)-(↑(List.length (Zp.Vk (Zv.Design a0))):Int)))) (List.drop (Int.toNat (Wq ((↑y0.length:Int)-(↑(List.length (Zp.Vk (Zv.Design a0))):Int)))) (List.set y0 (Int.toNat x0) x1)))).bind fun y5 =>
 some y5
def c77:Ctr:=⟨[.own (Zhk)],[.own (Zhk)],fun a K=>splitK a fun a0 a=>XU (ZtA a0) fun r=>K (r,()) ()⟩
def Ztl (a0:Zv) (a1:Zbk):Option Zv :=
 (Zuk a0).bind fun y0 =>
 (YJ (Zv.Design y0)).bind fun y1 =>
 if Zbk.Kind a1=1 then
 (atI y1 (Zbk.Place a1)).bind fun x0 =>
 (atI (Zp.Instances (Zv.Design y0)) (Zk.instance x0)).bind fun x1 =>
 some (Zv.Library y0,(List.set (Zp.Instances (Zv.Design y0)) (Int.toNat (Zk.instance x0)) (x1.fst,Zbk.Cell a1,x1.snd.snd),(Zv.Design y0).snd),y0.snd.snd)
 else
 if Zbk.Kind a1=2 then
 (ZrT y0 a1).bind fun y2 =>
 some y2
 else
 if Zbk.Kind a1=3 then
 (ZtA y0).bind fun y3 =>
 some y3
 else
 if Zbk.Kind a1=4 then
 (Zss y0).bind fun y4 =>
 (atI y4 (Zbk.Place a1)).bind fun x0 =>
 (atI y1 (Zbk.Place a1)).bind fun x1 =>
 (ZrB (Zv.Design y0) x1 (Zbk.Net a1)).bind fun y5 =>
 (Zqv (Zv.Library y0,y5,y0.snd.snd) (List.set y4 (Int.toNat (Zbk.Place a1)) (Zbk.Node a1))).bind fun y6 =>
 some y6
 else
 if Zbk.Kind a1=5 then
 (Zsc (Zbk.ZoZ a1)).bind fun y7 =>
 (atI (Zv.ZlA y0) (Zbk.Net a1)).bind fun x0 =>
 some (Zv.Library y0,Zv.Design y0,List.set (Zv.ZlA y0) (Int.toNat (Zbk.Net a1)) y7,())
 else
 some y0
def c78:Ctr:=⟨[.dat (ZjX),.dat (Zn2)],[.own (Zhk)],fun a K=>splitK a fun a0 a=>splitK a fun a1 a=>XU (Ztl a0 a1) fun r=>K (r,()) ()⟩
def ZsB (b0:Zv) (e0:Zbk):Option (Zv×Int) :=
 (Zqu b0 e0).bind fun y0 =>
 if y0=0 then
 (Ztl b0 e0).bind fun y1 =>
 some (y1,0)
 else
 some (((([]:List QG),()),(([]:List Zz),([]:List (List UInt8)),([]:List Zah),()),([]:List QH),()),y0)
def c79:Ctr:=⟨[.dat (ZjX),.dat (Zn2)],[.own (Zhk),.dat Iq],fun a K=>splitK a fun b0 a=>splitK a fun e0 a=>XU (ZsB b0 e0) fun r=>K (r.1,r.2,()) ()⟩
def ZrL (out0:List Zbk) (n0:Int) (c0:List Int) (c1:Int) (c2:Int) (c3:List QG) (c4:List Zz) (c5:List (List UInt8)) (c6:List Zah) (c7:List QH):Option (((List Zbk)×Int×(List Int)×Int×Int×(List QG)×(List Zz)×(List (List UInt8))×(List Zah)×(List QH)×Unit) ⊕ ((List Zbk)×Za)) :=
 if 0<n0 then
 (Zs2 (c0,c1,c2,()) ((c3,()),(c4,c5,c6,()),c7,())).bind fun y0 =>
 (ZsB ((c3,()),(c4,c5,c6,()),c7,()) y0.fst).bind fun y1 =>
 if y1.snd=0 then
 Zj ((List.length out0+List.length [y0.fst])*(152:Nat)≤(140737488355328:Nat)) <|
 some (.inl (out0++[y0.fst],Wq (n0-(1:Int)),y0.snd.fst,y0.snd.snd.fst,y0.snd.snd.snd.fst,y1.fst.fst.fst,y1.fst.snd.fst.fst,y1.fst.snd.fst.snd.fst,y1.fst.snd.fst.snd.snd.fst,y1.fst.snd.snd.fst,()))
 else
 some (.inl (out0,Wq (n0-1),y0.snd.fst,y0.snd.snd.fst,y0.snd.snd.snd.fst,c3,c4,c5,c6,c7,()))
 else
 some (.inr (out0,(c0,c1,c2,())))
def Zsr (s0:Za) (b0:Zv) (most0:Int):Option ((List Zbk)×Za) :=
 (Zc s0 (Wq (most0+1))).bind fun y0 =>
 ZA (fun v=>ZrL v.1 v.2.1 v.2.2.1 v.2.2.2.1 v.2.2.2.2.1 v.2.2.2.2.2.1 v.2.2.2.2.2.2.1 v.2.2.2.2.2.2.2.1 v.2.2.2.2.2.2.2.2.1 v.2.2.2.2.2.2.2.2.2.1) (([]:List Zbk),y0.fst,y0.snd.fst,y0.snd.snd.fst,y0.snd.snd.snd.fst,ZaF.Cells (Zv.Library b0),Zp.Instances (Zv.Design b0),Zp.Zbh (Zv.Design b0),Zp.Vk (Zv.Design b0),Zv.ZlA b0,())
def c80:Ctr:=⟨[.io (.flat (Yn)),.dat (ZjX),.dat Iq],[.own (.ol 62 (ZoH))],fun a K=>splitK a fun s0 a=>splitK a fun b0 a=>splitK a fun most0 a=>XU (Zsr s0 b0 most0) fun r=>K (r.1,()) (r.2,())⟩
def Zsa (list0:List Zbk) (i0:Int) (c0:List QG) (c1:List Zz) (c2:List (List UInt8)) (c3:List Zah) (c4:List QH) (c5:List (List UInt8×Int×List ZhU×List ZfN×List Int×Int×Int×Unit)) (c6:List (List UInt8×Int×List Int×Unit)) (c7:List (List UInt8)) (c8:List Zah) (c9:List (List Int×List Int×List Int×List Int×Unit)):Option ((Int×(List QG)×(List Zz)×(List (List UInt8))×(List Zah)×(List QH)×(List (List UInt8×Int×List ZhU×List ZfN×List Int×Int×Int×Unit))×(List (List UInt8×Int×List Int×Unit))×(List (List UInt8))×(List Zah)×(List (List Int×List Int×List Int×List Int×Unit))×Unit) ⊕ (Zv×Int×Int)) :=
 if i0<(↑list0.length:Int) then
 (atI list0 i0).bind fun x0 =>
 (ZsB ((c5,()),(c6,c7,c8,()),c9,()) x0).bind fun y0 =>
 if y0.snd=0 then
 some (.inl (Wq (i0+1),c0,c1,c2,c3,c4,y0.fst.fst.fst,y0.fst.snd.fst.fst,y0.fst.snd.fst.snd.fst,y0.fst.snd.fst.snd.snd.fst,y0.fst.snd.snd.fst,()))
 else
 some (.inr (((([]:List QG),()),(([]:List Zz),([]:List (List UInt8)),([]:List Zah),()),([]:List QH),()),y0.snd,i0))
 else
 some (.inr (((c5,()),(c6,c7,c8,()),c9,()),0,(-1)))
def Ztf (b0:Zv) (list0:List Zbk):Option (Zv×Int×Int) :=
 (Zsb b0).bind fun y0 =>
 if y0 then
 if 20<(↑list0.length:Int) then
 some (((([]:List QG),()),(([]:List Zz),([]:List (List UInt8)),([]:List Zah),()),([]:List QH),()),(3:Int),(-1:Int))
 else
 (Zuk b0).bind fun y1 =>
 ZA (fun v=>Zsa list0 v.1 v.2.1 v.2.2.1 v.2.2.2.1 v.2.2.2.2.1 v.2.2.2.2.2.1 v.2.2.2.2.2.2.1 v.2.2.2.2.2.2.2.1 v.2.2.2.2.2.2.2.2.1 v.2.2.2.2.2.2.2.2.2.1 v.2.2.2.2.2.2.2.2.2.2.1) ((0:Int),([]:List QG),([]:List Zz),([]:List (List UInt8)),([]:List Zah),([]:List QH),ZaF.Cells (Zv.Library y1),Zp.Instances (Zv.Design y1),Zp.Zbh (Zv.Design y1),Zp.Vk (Zv.Design y1),Zv.ZlA y1,())
 else
 some (((([]:List QG),()),(([]:List Zz),([]:List (List UInt8)),([]:List Zah),()),([]:List QH),()),(1:Int),(-1:Int))
def c81:Ctr:=⟨[.dat (ZjX),.dat (.sl (Zn2))],[.own (Zhk),.dat Iq,.dat Iq],fun a K=>splitK a fun b0 a=>splitK a fun list0 a=>XU (Ztf b0 list0) fun r=>K (r.1,r.2.1,r.2.2,()) ()⟩
def ZKC (c0:Qj) (i0:Int):Option ((Int×Unit) ⊕ Bool) :=
 if i0<(↑(List.length [Qj.Zmx c0,Qj.Znb c0,Qj.ZmA c0,Qj.Zne c0]):Int) then
 (atI ([Qj.Zmx c0,Qj.Znb c0,Qj.ZmA c0,Qj.Zne c0]) i0).bind fun x0 =>
 (Yd x0 100 5000).bind fun y0 =>
 if y0 then
 some (.inl (Wq (i0+1),()))
 else
 some (.inr false)
 else
 (Vg (Qj.Name c0)).bind fun y1 =>
 if y1 then
 if Qj.Zmx c0≤Qj.Znb c0 then
 some (.inr (Decidable.decide (Qj.ZmA c0≤Qj.Zne c0)))
 else
 some (.inr false)
 else
 some (.inr false)
def ZKW (c0:Qj):Option Bool :=
 ZA (fun v=>ZKC c0 v.1) ((0:Int),())
def c82:Ctr:=D1 (ZdM) (.bool) ZKW
def ZG0 (list0:List Int) (n0:Int) (i0:Int):Option ((Int×Unit) ⊕ Bool) :=
 if i0<(↑list0.length:Int) then
 (atI list0 i0).bind fun x0 =>
 (Yd x0 0 (Wq (n0-1))).bind fun y0 =>
 if y0 then
 if 0<i0 then
 (atI list0 (Wq (i0-1))).bind fun x1 =>
 if x0≤x1 then
 some (.inr false)
 else
 some (.inl (Wq (i0+1),()))
 else
 some (.inl (Wq (i0+1),()))
 else
 some (.inr false)
 else
 some (.inr true)
def ZHo (list0:List Int) (n0:Int):Option Bool :=
 ZA (fun v=>ZG0 list0 n0 v.1) ((0:Int),())
def c83:Ctr:=D2 (.sl Iq) Iq (.bool) ZHo
def ZHJ (b0:Zv) (broken0:List Int):Option Int :=
 (Zsb b0).bind fun y0 =>
 if y0 then
 (ZG1 b0).bind fun y1 =>
 (ZHo broken0 (↑y1.length:Int)).bind fun y2 =>
 if y2 then
 some 0
 else
 some 2
 else
 some 1
def c84:Ctr:=D2 (ZjX) (.sl Iq) Iq ZHJ
def ZKU (s0:Vz):Option Bool :=
 (Yd (Vz.Early s0) (-1000000000) 1000000000).bind fun y0 =>
 if y0 then
 (Yd (Vz.Late s0) (-1000000000) 1000000000).bind fun y1 =>
 if y1 then
 some (Decidable.decide (Vz.Early s0≤Vz.Late s0))
 else
 some false
 else
 some false
def c85:Ctr:=D1 (ZfI) (.bool) ZKU
def ZKT (s0:Vz):Option Bool :=
 if 0≤Vz.Early s0 then
 if Vz.Early s0≤Vz.Late s0 then
 some (Decidable.decide (Vz.Late s0≤1000000))
 else
 some false
 else
 some false
def c86:Ctr:=D1 (ZfI) (.bool) ZKT
def ZKz (list0:List ZbY) (l09Count0:Int) (i0:Int):Option ((Int×Unit) ⊕ Bool) :=
 if i0<(↑list0.length:Int) then
 (atI list0 i0).bind fun x0 =>
 (Yd (ZbY.Node x0) 0 (Wq (l09Count0-1))).bind fun y0 =>
 if y0 then
 if 0<i0 then
 (atI list0 (Wq (i0-1))).bind fun x1 =>
 if ZbY.Node x0≤ZbY.Node x1 then
 some (.inr false)
 else
 (ZKU (ZbY.Zlz x0)).bind fun y1 =>
 if y1 then
 (ZKT (ZbY.Znd x0)).bind fun y2 =>
 if y2 then
 some (.inl (Wq (i0+1),()))
 else
 some (.inr false)
 else
 some (.inr false)
 else
 (ZKU (ZbY.Zlz x0)).bind fun y1 =>
 if y1 then
 (ZKT (ZbY.Znd x0)).bind fun y2 =>
 if y2 then
 some (.inl (Wq (i0+1),()))
 else
 some (.inr false)
 else
 some (.inr false)
 else
 some (.inr false)
 else
 some (.inr true)
def ZKS (b0:Zv) (list0:List ZbY):Option Bool :=
 (ZGJ b0).bind fun y0 =>
 ZA (fun v=>ZKz list0 y0 v.1) ((0:Int),())
def c87:Ctr:=D2 (ZjX) (.sl (Zma)) (.bool) ZKS
def ZKF (a0:Int) (v0:List Int) (l0:List Bool) (l1:List Bool) (v2:Int):Option ((Int×Unit) ⊕ ((Int×(List Bool)×Unit) ⊕ (((List Int)×(List Bool)×Unit) ⊕ ((List Int)×Bool)))) :=
 if v2<a0 then
 (atI l0 v2).bind fun x0 =>
 if x0 then
 some (.inl (Wq (v2+1),()))
 else
 (atI l1 v2).bind fun x1 =>
 if x1 then
 some (.inl (Wq (v2+1),()))
 else
 if v2=a0 then
 some (.inr (.inr (.inr (([]:List Int),false))))
 else
 Zj ((List.length v0+List.length [v2])*(8:Nat)≤(140737488355328:Nat)) <|
 some (.inr (.inr (.inl (v0++[v2],List.set l0 (Int.toNat v2) true,()))))
 else
 if v2=a0 then
 some (.inr (.inr (.inr (([]:List Int),false))))
 else
 (atI l0 v2).bind fun x0 =>
 Zj ((List.length v0+List.length [v2])*(8:Nat)≤(140737488355328:Nat)) <|
 some (.inr (.inr (.inl (v0++[v2],List.set l0 (Int.toNat v2) true,()))))
def ZKG (a0:Int) (a1:List Ze4) (a2:List Bool) (v0:List Int) (l0:List Bool) (v1:Int) (l1:List Bool):Option ((Int×(List Bool)×Unit) ⊕ (((List Int)×(List Bool)×Unit) ⊕ ((List Int)×Bool))) :=
 if v1<(↑a1.length:Int) then
 (atI a2 v1).bind fun x0 =>
 if x0 then
 (atI a1 v1).bind fun x1 =>
 (atI l0 (Ze4.From x1)).bind fun x2 =>
 if x2 then
 some (.inl (Wq (v1+1),l1,()))
 else
 (atI l1 (Ze4.To x1)).bind fun x3 =>
 some (.inl (Wq (v1+1),List.set l1 (Int.toNat (Ze4.To x1)) true,()))
 else
 some (.inl (Wq (v1+1),l1,()))
 else
 ZA (fun v=>ZKF a0 v0 l0 l1 v.1) ((0:Int),())
def ZKH (a0:Int) (a1:List Ze4) (a2:List Bool) (v0:List Int) (l0:List Bool):Option (((List Int)×(List Bool)×Unit) ⊕ ((List Int)×Bool)) :=
 if (↑v0.length:Int)<a0 then
 ZA (fun v=>ZKG a0 a1 a2 v0 l0 v.1 v.2.1) ((0:Int),List.replicate (Int.toNat a0) false,())
 else
 some (.inr (v0,true))
def ZKX (a0:Int) (a1:List Ze4) (a2:List Bool):Option ((List Int)×Bool) :=
 Zj ((0:Int)≤a0) <|
 Zj (a0≤a0) <|
 Zj (a0≤(4611686018427387904:Int)) <|
 Zj ((↑(1:Nat):Int)*a0≤(281474976710656:Int)) <|
 ZA (fun v=>ZKH a0 a1 a2 v.1 v.2.1) (([]:List Int),List.replicate (Int.toNat a0) false,())
def c88:Ctr:=⟨[.dat Iq,.dat (.sl (Zl8)),.dat (.sl (.bool))],[.own (.ol 2 (.flat Iq)),.dat (.bool)],fun a K=>splitK a fun a0 a=>splitK a fun a1 a=>splitK a fun a2 a=>XU (ZKX a0 a1 a2) fun r=>K (r.1,r.2,()) ()⟩
def ZKu (b0:Zv) (broken0:List Int):Option ((List Int)×Int) :=
 (ZHJ b0 broken0).bind fun y0 =>
 if y0=0 then
 (ZG1 b0).bind fun y1 =>
 (ZGJ b0).bind fun y2 =>
 (ZHy y1 broken0).bind fun y3 =>
 (ZKX y2 y1 y3).bind fun y4 =>
 if y4.snd then
 some (y4.fst,0)
 else
 some (([]:List Int),(7:Int))
 else
 some (([]:List Int),y0)
def c89:Ctr:=⟨[.dat (ZjX),.dat (.sl Iq)],[.own (.ol 2 (.flat Iq)),.dat Iq],fun a K=>splitK a fun b0 a=>splitK a fun broken0 a=>XU (ZKu b0 broken0) fun r=>K (r.1,r.2,()) ()⟩
def ZK9 (b0:Zv) (c0:Qj) (broken0:List Int) (sources0:List ZbY):Option ((List Int)×Int) :=
 (Zsb b0).bind fun y0 =>
 if y0 then
 (ZKW c0).bind fun y1 =>
 if y1 then
 (ZHJ b0 broken0).bind fun y2 =>
 if y2=0 then
 (ZKS b0 sources0).bind fun y3 =>
 if y3 then
 (ZKu b0 broken0).bind fun y4 =>
 some (y4.fst,y4.snd)
 else
 some (([]:List Int),(2:Int))
 else
 some (([]:List Int),(2:Int))
 else
 some (([]:List Int),(1:Int))
 else
 some (([]:List Int),(1:Int))
def c90:Ctr:=⟨[.dat (ZjX),.dat (ZdM),.dat (.sl Iq),.dat (.sl (Zma))],[.own (.ol 2 (.flat Iq)),.dat Iq],fun a K=>splitK a fun b0 a=>splitK a fun c0 a=>splitK a fun broken0 a=>splitK a fun sources0 a=>XU (ZK9 b0 c0 broken0 sources0) fun r=>K (r.1,r.2,()) ()⟩
def ZK6 (n0:Int):Option ZbZ :=
 Zj ((0:Int)≤n0) <|
 Zj (n0≤n0) <|
 Zj (n0≤(4611686018427387904:Int)) <|
 Zj ((↑(1:Nat):Int)*n0≤(281474976710656:Int)) <|
 Zj ((↑(16:Nat):Int)*n0≤(281474976710656:Int)) <|
 some (List.replicate (Int.toNat n0) false,List.replicate (Int.toNat n0) ((0:Int),(0:Int),()),List.replicate (Int.toNat n0) ((0:Int),(0:Int),()),())
def c91:Ctr:=⟨[.dat Iq],[.own (ZnP)],fun a K=>splitK a fun n0 a=>XU (ZK6 n0) fun r=>K (r,()) ()⟩
def ZE0 (l0:ZaF) (d0:Zp) (p0:Zk):Option Int :=
 if Zk.instance p0<0 then
 some 0
 else
 (atI (Zp.Instances d0) (Zk.instance p0)).bind fun x0 =>
 (atI (ZaF.Cells l0) (Zz.Cell x0)).bind fun x1 =>
 (atI (QG.ZoY x1) (Zk.pin p0)).bind fun x2 =>
 some (ZhU.Cap x2)
def c92:Ctr:=D3 (Zc3) (ZdN) (JJ) Iq ZE0
def ZEo (x0:QH) (v1:Int) (l1:List Int):Option ((Int×(List Int)×Unit) ⊕ ((Int×(List Int)×Unit) ⊕ List Int)) :=
 if 0<v1 then
 (atI (QH.Parent x0) v1).bind fun x1 =>
 (atI l1 x1).bind fun x2 =>
 (atI l1 v1).bind fun x3 =>
 some (.inl (Wq (v1-1),List.set l1 (Int.toNat x1) (Wq (x2+x3)),()))
 else
 some (.inr (.inr l1))
def ZEh (a0:Zv) (x0:QH) (l05Places0:List Zk) (l05Sinks0:List Int) (v0:Int) (l0:List Int):Option ((Int×(List Int)×Unit) ⊕ List Int) :=
 if v0<(↑l05Sinks0.length:Int) then
 (atI (QH.ZnH x0) v0).bind fun x1 =>
 (atI l0 x1).bind fun x2 =>
 (atI l05Sinks0 v0).bind fun x3 =>
 (atI l05Places0 x3).bind fun x4 =>
 (ZE0 (Zv.Library a0) (Zv.Design a0) x4).bind fun y0 =>
 some (.inl (Wq (v0+1),List.set l0 (Int.toNat x1) (Wq (x2+y0)),()))
 else
 ZA (fun v=>ZEo x0 v.1 v.2.1) (Wq ((↑l0.length:Int)-(1:Int)),l0,())
def ZEe (a0:Zv) (a1:Int):Option (List Int) :=
 (atI (Zv.ZlA a0) a1).bind fun x0 =>
 (XT (QH.Cap x0)).bind fun y0 =>
 (YJ (Zv.Design a0)).bind fun y1 =>
 (QT (Zv.Design a0) a1).bind fun y2 =>
 ZA (fun v=>ZEh a0 x0 y1 y2 v.1 v.2.1) ((0:Int),y0,())
def c93:Ctr:=⟨[.dat (ZjX),.dat Iq],[.own (.ol 2 (.flat Iq))],fun a K=>splitK a fun a0 a=>splitK a fun a1 a=>XU (ZEe a0 a1) fun r=>K (r,()) ()⟩
def ZKZ (b0:Zv) (x0:Ze4):Option (ZfN×Int) :=
 (YJ (Zv.Design b0)).bind fun y0 =>
 (atI y0 (Wq (Int.tdiv (Ze4.To x0) 2))).bind fun x1 =>
 (atI (Zp.Instances (Zv.Design b0)) (Zk.instance x1)).bind fun x2 =>
 (atI (ZaF.Cells (Zv.Library b0)) (Zz.Cell x2)).bind fun x3 =>
 (atI (QG.ZoW x3) (Ze4.Index x0)).bind fun x4 =>
 (ZEe b0 (Zk.net x1)).bind fun y1 =>
 (atI y1 0).bind fun x5 =>
 some (x4,x5)
def c94:Ctr:=⟨[.dat (ZjX),.dat (Zl8)],[.dat (Zmv),.dat Iq],fun a K=>splitK a fun b0 a=>splitK a fun x0 a=>XU (ZKZ b0 x0) fun r=>K (r.1,r.2,()) ()⟩
def ZKy (axis0:List Int) (x0:Int) (x1:Int) (x2:Int) (i0:Int):Option ((Int×Unit) ⊕ (Int×Int×Int)) :=
 if 0≤i0 then
 (atI axis0 i0).bind fun x3 =>
 if Min.min (Max.max x0 x1) x2=x3 then
 some (.inr (i0,1,0))
 else
 if x3<Min.min (Max.max x0 x1) x2 then
 (atI axis0 (Wq (i0+1))).bind fun x4 =>
 some (.inr (i0,Wq (x4-Min.min (Max.max x0 x1) x2),Wq (Min.min (Max.max x0 x1) x2-x3)))
 else
 some (.inl (Wq (i0-1),()))
 else
 some (.inr (0,1,0))
def ZKE (axis0:List Int) (x0:Int):Option (Int×Int×Int) :=
 (atI axis0 0).bind fun x1 =>
 (atI axis0 (Wq ((↑axis0.length:Int)-1))).bind fun x2 =>
 ZA (fun v=>ZKy axis0 x0 x1 x2 v.1) (Wq ((↑axis0.length:Int)-(1:Int)),())
def c95:Ctr:=⟨[.dat (.sl Iq),.dat Iq],[.dat Iq,.dat Iq,.dat Iq],fun a K=>splitK a fun axis0 a=>splitK a fun x0 a=>XU (ZKE axis0 x0) fun r=>K (r.1,r.2.1,r.2.2,()) ()⟩
def ZKP (a0:Int) (b0:Int) (mode0:Int):Option Int :=
 Zj (b0≠(0:Int)) <|
 if Int.tmod a0 b0<0 then
 if mode0=0 then
 some (Wq (Wq (Int.tdiv a0 b0)-1))
 else
 if 0<Int.tmod a0 b0 then
 if mode0=1 then
 some (Wq (Wq (Int.tdiv a0 b0)+1))
 else
 some (Wq (Int.tdiv a0 b0))
 else
 some (Wq (Int.tdiv a0 b0))
 else
 if 0<Int.tmod a0 b0 then
 if mode0=1 then
 some (Wq (Wq (Int.tdiv a0 b0)+1))
 else
 some (Wq (Int.tdiv a0 b0))
 else
 some (Wq (Int.tdiv a0 b0))
def c96:Ctr:=D3 Iq Iq Iq Iq ZKP
def ZKJ (a0:Jy) (l02Weights0:Int×Int×Int) (l02Weights1:Int×Int×Int) (v1:Int) (v2:Int) (v3:Int):Option ((Int×Int×Unit) ⊕ ((Int×Int×Unit) ⊕ Int)) :=
 if v3<2 then
 if v1=1 then
 if v3=0 then
 if 0<Wq (l02Weights0.snd.snd*l02Weights1.snd.fst) then
 (atI (Jy.Values a0) (Wq (Wq (Wq (Wq (l02Weights0.fst+v1)*(↑(List.length (Jy.Loads a0)):Int))+l02Weights1.fst)+v3))).bind fun x0 =>
 some (.inl (Wq (v2+Wq (Wq (l02Weights0.snd.snd*l02Weights1.snd.fst)*x0)),Wq (v3+1),()))
 else
 some (.inl (v2,Wq (v3+1),()))
 else
 if 0<Wq (l02Weights0.snd.snd*l02Weights1.snd.snd) then
 (atI (Jy.Values a0) (Wq (Wq (Wq (Wq (l02Weights0.fst+v1)*(↑(List.length (Jy.Loads a0)):Int))+l02Weights1.fst)+v3))).bind fun x0 =>
 some (.inl (Wq (v2+Wq (Wq (l02Weights0.snd.snd*l02Weights1.snd.snd)*x0)),Wq (v3+1),()))
 else
 some (.inl (v2,Wq (v3+1),()))
 else
 if v3=0 then
 if 0<Wq (l02Weights0.snd.fst*l02Weights1.snd.fst) then
 (atI (Jy.Values a0) (Wq (Wq (Wq (Wq (l02Weights0.fst+v1)*(↑(List.length (Jy.Loads a0)):Int))+l02Weights1.fst)+v3))).bind fun x0 =>
 some (.inl (Wq (v2+Wq (Wq (l02Weights0.snd.fst*l02Weights1.snd.fst)*x0)),Wq (v3+1),()))
 else
 some (.inl (v2,Wq (v3+1),()))
 else
 if 0<Wq (l02Weights0.snd.fst*l02Weights1.snd.snd) then
 (atI (Jy.Values a0) (Wq (Wq (Wq (Wq (l02Weights0.fst+v1)*(↑(List.length (Jy.Loads a0)):Int))+l02Weights1.fst)+v3))).bind fun x0 =>
 some (.inl (Wq (v2+Wq (Wq (l02Weights0.snd.fst*l02Weights1.snd.snd)*x0)),Wq (v3+1),()))
 else
 some (.inl (v2,Wq (v3+1),()))
 else
 some (.inr (.inl (v2,Wq (v1+1),())))
def ZKK (a0:Jy) (a3:Int) (l02Weights0:Int×Int×Int) (l02Weights1:Int×Int×Int) (v0:Int) (v1:Int):Option ((Int×Int×Unit) ⊕ Int) :=
 if v1<2 then
 ZA (fun v=>ZKJ a0 l02Weights0 l02Weights1 v1 v.1 v.2.1) (v0,(0:Int),())
 else
 (ZKP v0 (Wq (Wq (l02Weights0.snd.fst+l02Weights0.snd.snd)*Wq (l02Weights1.snd.fst+l02Weights1.snd.snd))) a3).bind fun y0 =>
 some (.inr y0)
def ZKV (a0:Jy) (a1:Int) (a2:Int) (a3:Int):Option Int :=
 (ZKE (Jy.ZoG a0) a1).bind fun y0 =>
 (ZKE (Jy.Loads a0) a2).bind fun y1 =>
 ZA (fun v=>ZKK a0 a3 y0 y1 v.1 v.2.1) ((0:Int),(0:Int),())
def c97:Ctr:=D4 (ZdQ) Iq Iq Iq Iq ZKV
def ZK0 (b0:Zv) (x0:Ze4):Option Int :=
 (YJ (Zv.Design b0)).bind fun y0 =>
 (atI y0 (Wq (Int.tdiv (Ze4.To x0) 2))).bind fun x1 =>
 some (Zk.net x1)
def c98:Ctr:=D2 (ZjX) (Zl8) Iq ZK0
def ZEc (x0:QH) (l07Loads0:List Int) (out0:List Int) (i0:Int):Option (((List Int)×Int×Unit) ⊕ List Int) :=
 if i0<(↑l07Loads0.length:Int) then
 (atI (QH.Parent x0) i0).bind fun x1 =>
 (atI out0 x1).bind fun x2 =>
 (atI (QH.Res x0) i0).bind fun x3 =>
 (atI l07Loads0 i0).bind fun x4 =>
 Zj ((List.length out0+List.length [Wq (x2+Wq (x3*x4))])*(8:Nat)≤(140737488355328:Nat)) <|
 some (.inl (out0++[Wq (x2+Wq (x3*x4))],Wq (i0+(1:Int)),()))
 else
 some (.inr out0)
def ZEf (b0:Zv) (net0:Int):Option (List Int) :=
 (atI (Zv.ZlA b0) net0).bind fun x0 =>
 (ZEe b0 net0).bind fun y0 =>
 ZA (fun v=>ZEc x0 y0 v.1 v.2.1) ([(0:Int)],(1:Int),())
def c99:Ctr:=⟨[.dat (ZjX),.dat Iq],[.own (.ol 2 (.flat Iq))],fun a K=>splitK a fun b0 a=>splitK a fun net0 a=>XU (ZEf b0 net0) fun r=>K (r,()) ()⟩
def ZKv (b0:Zv) (net0:Int) (mode0:Int) (l07Delays0:List Int) (out0:List Int) (i0:Int):Option (((List Int)×Int×Unit) ⊕ List Int) :=
 (atI (Zv.ZlA b0) net0).bind fun x0 =>
 if i0<(↑(List.length (QH.ZnH x0)):Int) then
 (atI (QH.ZnH x0) i0).bind fun x1 =>
 (atI l07Delays0 x1).bind fun x2 =>
 (ZKP x2 1000 mode0).bind fun y0 =>
 Zj ((List.length out0+List.length [y0])*(8:Nat)≤(140737488355328:Nat)) <|
 some (.inl (out0++[y0],Wq (i0+(1:Int)),()))
 else
 some (.inr out0)
def ZKA (b0:Zv) (net0:Int) (mode0:Int):Option (List Int) :=
 (ZEf b0 net0).bind fun y0 =>
 ZA (fun v=>ZKv b0 net0 mode0 y0 v.1 v.2.1) (([]:List Int),(0:Int),())
def ZAT:Ctr:=⟨[.dat (ZjX),.dat Iq,.dat Iq],[.own (.ol 2 (.flat Iq))],fun a K=>splitK a fun b0 a=>splitK a fun net0 a=>splitK a fun mode0 a=>XU (ZKA b0 net0 mode0) fun r=>K (r,()) ()⟩
def ZKQ (c0:Qj) (kind0:Int) (mode0:Int):Option Int :=
 if kind0=1 then
 if mode0=0 then
 some (Qj.Zmx c0)
 else
 some (Qj.Znb c0)
 else
 if mode0=0 then
 some (Qj.ZmA c0)
 else
 some (Qj.Zne c0)
def ZAU:Ctr:=D3 (ZdM) Iq Iq Iq ZKQ
def ZKB (b0:Zv) (c0:Qj) (x0:Ze4) (slew0:Int) (mode0:Int):Option Int :=
 if Ze4.Kind x0=1 then
 (ZKZ b0 x0).bind fun y0 =>
 (atI y0.fst.snd.snd.snd.snd.fst (Int.tmod (Ze4.To x0) 2)).bind fun x1 =>
 (ZKV x1 slew0 y0.snd mode0).bind fun y1 =>
 (ZKQ c0 (Ze4.Kind x0) mode0).bind fun y2 =>
 (ZKP (Wq (y1*y2)) 1000 mode0).bind fun y3 =>
 some y3
 else
 (ZK0 b0 x0).bind fun y4 =>
 (ZKA b0 y4 mode0).bind fun y5 =>
 (atI y5 (Ze4.Index x0)).bind fun x1 =>
 (ZKQ c0 (Ze4.Kind x0) mode0).bind fun y2 =>
 (ZKP (Wq (x1*y2)) 1000 mode0).bind fun y3 =>
 some y3
def ZAV:Ctr:=⟨[.dat (ZjX),.dat (ZdM),.dat (Zl8),.dat Iq,.dat Iq],[.dat Iq],fun a K=>splitK a fun b0 a=>splitK a fun c0 a=>splitK a fun x0 a=>splitK a fun slew0 a=>splitK a fun mode0 a=>XU (ZKB b0 c0 x0 slew0 mode0) fun r=>K (r,()) ()⟩
def ZKL (n0:Int) (mode0:Int) (low0:Int) (high0:Int):Option ((Int×Int×Unit) ⊕ Int) :=
 if low0<high0 then
 if Wq (Wq (Int.tdiv (Wq (Wq (low0+high0)+1)) 2)*Wq (Int.tdiv (Wq (Wq (low0+high0)+1)) 2))≤n0 then
 some (.inl (Wq (Int.tdiv (Wq (Wq (low0+high0)+1)) 2),high0,()))
 else
 some (.inl (low0,Wq (Wq (Int.tdiv (Wq (Wq (low0+high0)+1)) 2)-1),()))
 else
 if mode0=1 then
 if Wq (low0*low0)<n0 then
 some (.inr (Wq (low0+1)))
 else
 some (.inr low0)
 else
 some (.inr low0)
def ZK1 (n0:Int) (mode0:Int):Option Int :=
 ZA (fun v=>ZKL n0 mode0 v.1 v.2.1) ((0:Int),(2000000000:Int),())
def ZAW:Ctr:=D2 Iq Iq Iq ZK1
def ZK2 (b0:Zv) (net0:Int) (sink0:Int) (slew0:Int) (mode0:Int):Option Int :=
 (atI (Zv.ZlA b0) net0).bind fun x0 =>
 (atI (QH.ZnH x0) sink0).bind fun x1 =>
 (ZEf b0 net0).bind fun y0 =>
 (atI y0 x1).bind fun x2 =>
 (ZK1 (Wq (Wq (Wq (1000000*slew0)*slew0)+Wq (Wq (4*x2)*x2))) mode0).bind fun y1 =>
 (ZKP y1 1000 mode0).bind fun y2 =>
 some y2
def ZAX:Ctr:=⟨[.dat (ZjX),.dat Iq,.dat Iq,.dat Iq,.dat Iq],[.dat Iq],fun a K=>splitK a fun b0 a=>splitK a fun net0 a=>splitK a fun sink0 a=>splitK a fun slew0 a=>splitK a fun mode0 a=>XU (ZK2 b0 net0 sink0 slew0 mode0) fun r=>K (r,()) ()⟩
def ZKM (b0:Zv) (x0:Ze4) (slew0:Int) (mode0:Int):Option Int :=
 if Ze4.Kind x0=1 then
 (ZKZ b0 x0).bind fun y0 =>
 (atI y0.fst.snd.snd.snd.snd.snd.fst (Int.tmod (Ze4.To x0) 2)).bind fun x1 =>
 (ZKV x1 slew0 y0.snd mode0).bind fun y1 =>
 some y1
 else
 (ZK0 b0 x0).bind fun y2 =>
 (ZK2 b0 y2 (Ze4.Index x0) slew0 mode0).bind fun y3 =>
 some (Min.min 1000000 y3)
def c105:Ctr:=D4 (ZjX) (Zl8) Iq Iq Iq ZKM
def ZKY (a0:Zv) (a1:Qj) (a2:Ze4) (a3:Vz):Option (Vz×Vz) :=
 (ZKB a0 a1 a2 (Vz.Early a3) 0).bind fun y0 =>
 (ZKB a0 a1 a2 (Vz.Early a3) 1).bind fun y1 =>
 (ZKM a0 a2 (Vz.Early a3) 0).bind fun y2 =>
 (ZKM a0 a2 (Vz.Early a3) 1).bind fun y3 =>
 (ZKB a0 a1 a2 (Vz.Late a3) 0).bind fun y4 =>
 (ZKB a0 a1 a2 (Vz.Late a3) 1).bind fun y5 =>
 (ZKM a0 a2 (Vz.Late a3) 0).bind fun y6 =>
 (ZKM a0 a2 (Vz.Late a3) 1).bind fun y7 =>
 some ((Min.min y0 y4,Max.max y1 y5,()),(Min.min y2 y6,Max.max y3 y7,()))
def ZAY:Ctr:=⟨[.dat (ZjX),.dat (ZdM),.dat (Zl8),.dat (ZfI)],[.dat (ZfI),.dat (ZfI)],fun a K=>splitK a fun a0 a=>splitK a fun a1 a=>splitK a fun a2 a=>splitK a fun a3 a=>XU (ZKY a0 a1 a2 a3) fun r=>K (r.1,r.2,()) ()⟩
def ZK3 (a0:Vz) (b0:Vz):Option Vz :=
 some (Min.min (Vz.Early a0) (Vz.Early b0),Max.max (Vz.Late a0) (Vz.Late b0),())
def c107:Ctr:=D2 (ZfI) (ZfI) (ZfI) ZK3
def ZKN (a0:Zv) (a1:Qj) (a2:List Ze4) (a3:List Bool) (a5:ZbZ) (a6:Int) (v2:Bool) (v3:Int) (c5:Int) (c6:Int) (c7:Int) (c8:Int) (c9:Int):Option ((Bool×Int×Int×Int×Int×Int×Int×Unit) ⊕ ((Bool×Int×Int×Int×Int×Int×Int×Unit) ⊕ (Bool×ZbY))) :=
 if v3<(↑a2.length:Int) then
 (atI a2 v3).bind fun x0 =>
 (atI a3 v3).bind fun x1 =>
 if x1 then
 if Ze4.To x0=a6 then
 (atI (ZbZ.Reached a5) (Ze4.From x0)).bind fun x2 =>
 if x2 then
 (atI (ZbZ.Znd a5) (Ze4.From x0)).bind fun x3 =>
 (ZKY a0 a1 x0 x3).bind fun y0 =>
 (atI (ZbZ.Zlz a5) (Ze4.From x0)).bind fun x4 =>
 if v2 then
 (ZK3 (Wq (Vz.Early x4+y0.fst.fst),Wq (Vz.Late x4+y0.fst.snd.fst),()) (c6,c7,())).bind fun y1 =>
 (ZK3 y0.snd (c8,c9,())).bind fun y2 =>
 some (.inl (true,Wq (v3+1),a6,Vz.Early y1,Vz.Late y1,Vz.Early y2,Vz.Late y2,()))
 else
 some (.inl (true,Wq (v3+1),a6,Wq (Vz.Early x4+y0.fst.fst),Wq (Vz.Late x4+y0.fst.snd.fst),y0.snd.fst,y0.snd.snd.fst,()))
 else
 some (.inl (v2,Wq (v3+1),c5,c6,c7,c8,c9,()))
 else
 some (.inl (v2,Wq (v3+1),c5,c6,c7,c8,c9,()))
 else
 some (.inl (v2,Wq (v3+1),c5,c6,c7,c8,c9,()))
 else
 some (.inr (.inr (v2,(c5,(c6,c7,()),(c8,c9,()),()))))
def ZKO (a0:Zv) (a1:Qj) (a2:List Ze4) (a3:List Bool) (a4:List ZbY) (a5:ZbZ) (a6:Int) (v0:Bool) (v1:Int) (c0:Int) (c1:Int) (c2:Int) (c3:Int) (c4:Int):Option ((Bool×Int×Int×Int×Int×Int×Int×Unit) ⊕ (Bool×ZbY)) :=
 if v1<(↑a4.length:Int) then
 (atI a4 v1).bind fun x0 =>
 if ZbY.Node x0=a6 then
 some (.inl (true,Wq (v1+1),ZbY.Node x0,Vz.Early (ZbY.Zlz x0),Vz.Late (ZbY.Zlz x0),Vz.Early (ZbY.Znd x0),Vz.Late (ZbY.Znd x0),()))
 else
 some (.inl (v0,Wq (v1+1),c0,c1,c2,c3,c4,()))
 else
 ZA (fun v=>ZKN a0 a1 a2 a3 a5 a6 v.1 v.2.1 v.2.2.1 v.2.2.2.1 v.2.2.2.2.1 v.2.2.2.2.2.1 v.2.2.2.2.2.2.1) (v0,(0:Int),c0,c1,c2,c3,c4,())
def ZK4 (a0:Zv) (a1:Qj) (a2:List Ze4) (a3:List Bool) (a4:List ZbY) (a5:ZbZ) (a6:Int):Option (Bool×ZbY) :=
 ZA (fun v=>ZKO a0 a1 a2 a3 a4 a5 a6 v.1 v.2.1 v.2.2.1 v.2.2.2.1 v.2.2.2.2.1 v.2.2.2.2.2.1 v.2.2.2.2.2.2.1) (false,(0:Int),(0:Int),(0:Int),(0:Int),(0:Int),(0:Int),())
def ZAv:Ctr:=⟨[.dat (ZjX),.dat (ZdM),.dat (.sl (Zl8)),.dat (.sl (.bool)),.dat (.sl (Zma)),.dat (Zmb),.dat Iq],[.dat (.bool),.dat (Zma)],fun a K=>splitK a fun a0 a=>splitK a fun a1 a=>splitK a fun a2 a=>splitK a fun a3 a=>splitK a fun a4 a=>splitK a fun a5 a=>splitK a fun a6 a=>XU (ZK4 a0 a1 a2 a3 a4 a5 a6) fun r=>K (r.1,r.2,()) ()⟩
def ZKR (a0:Zv) (a1:Qj) (a2:List Ze4) (a3:List Bool) (a4:List ZbY) (a5:List Int) (v0:Int) (c0:List Bool) (c1:List Vz) (c2:List Vz) (l0:List Bool) (l1:List Vz) (l2:List Vz):Option ((Int×(List Bool)×(List Vz)×(List Vz)×(List Bool)×(List Vz)×(List Vz)×Unit) ⊕ (ZbZ×Bool)) :=
 if v0<(↑a5.length:Int) then
 (atI a5 v0).bind fun x0 =>
 (ZK4 a0 a1 a2 a3 a4 (l0,l1,l2,()) x0).bind fun y0 =>
 if y0.fst then
 (ZKU y0.snd.snd.fst).bind fun y1 =>
 if y1 then
 (atI l0 x0).bind fun x1 =>
 (atI l1 x0).bind fun x2 =>
 (atI l2 x0).bind fun x3 =>
 some (.inl (Wq (v0+1),c0,c1,c2,List.set l0 (Int.toNat x0) true,List.set l1 (Int.toNat x0) y0.snd.snd.fst,List.set l2 (Int.toNat x0) y0.snd.snd.snd.fst,()))
 else
 some (.inr ((([]:List Bool),([]:List Vz),([]:List Vz),()),false))
 else
 some (.inl (Wq (v0+1),c0,c1,c2,l0,l1,l2,()))
 else
 some (.inr ((l0,l1,l2,()),true))
def ZK7 (a0:Zv) (a1:Qj) (a2:List Ze4) (a3:List Bool) (a4:List ZbY) (a5:List Int):Option (ZbZ×Bool) :=
 (ZGJ a0).bind fun y0 =>
 (ZK6 y0).bind fun y1 =>
 ZA (fun v=>ZKR a0 a1 a2 a3 a4 a5 v.1 v.2.1 v.2.2.1 v.2.2.2.1 v.2.2.2.2.1 v.2.2.2.2.2.1 v.2.2.2.2.2.2.1) ((0:Int),([]:List Bool),([]:List Vz),([]:List Vz),ZbZ.Reached y1,ZbZ.Zlz y1,ZbZ.Znd y1,())
def c109:Ctr:=⟨[.dat (ZjX),.dat (ZdM),.dat (.sl (Zl8)),.dat (.sl (.bool)),.dat (.sl (Zma)),.dat (.sl Iq)],[.own (ZnP),.dat (.bool)],fun a K=>splitK a fun a0 a=>splitK a fun a1 a=>splitK a fun a2 a=>splitK a fun a3 a=>splitK a fun a4 a=>splitK a fun a5 a=>XU (ZK7 a0 a1 a2 a3 a4 a5) fun r=>K (r.1,r.2,()) ()⟩
def ZKo (b0:Zv) (c0:Qj) (broken0:List Int) (sources0:List ZbY):Option (ZbZ×Int) :=
 (ZK9 b0 c0 broken0 sources0).bind fun y0 =>
 if y0.snd=0 then
 (ZG1 b0).bind fun y1 =>
 (ZHy y1 broken0).bind fun y2 =>
 (ZK7 b0 c0 y1 y2 sources0 y0.fst).bind fun y3 =>
 if y3.snd then
 some (y3.fst,0)
 else
 some ((([]:List Bool),([]:List Vz),([]:List Vz),()),(3:Int))
 else
 some ((([]:List Bool),([]:List Vz),([]:List Vz),()),y0.snd)
def ZAZ:Ctr:=⟨[.dat (ZjX),.dat (ZdM),.dat (.sl Iq),.dat (.sl (Zma))],[.own (ZnP),.dat Iq],fun a K=>splitK a fun b0 a=>splitK a fun c0 a=>splitK a fun broken0 a=>splitK a fun sources0 a=>XU (ZKo b0 c0 broken0 sources0) fun r=>K (r.1,r.2,()) ()⟩
def ZK5 (a0:Za):Option (Zv×Zbk×Qj×(List ZbY)×ZbZ×Za) :=
 (ZHg a0).bind fun y0 =>
 (Zsb y0.fst).bind fun y1 =>
 if y1 then
 (Zc y0.snd.snd.snd.snd 3).bind fun y2 =>
 if y2.fst=0 then
 (Zsr y2.snd y0.fst 1).bind fun y3 =>
 (Ztf y0.fst y3.fst).bind fun y4 =>
 (ZGj y3.snd y4.fst).bind fun y5 =>
 (Zs2 y5.snd y4.fst).bind fun y6 =>
 (ZKo y4.fst y0.snd.fst (([]:List Int)) y5.fst).bind fun y7 =>
 (Zc y6.snd 8).bind fun y8 =>
 if y8.fst=0 then
 if 0<0 then
 some (y4.fst,y6.fst,y0.snd.fst,y5.fst,y7.fst,y8.snd)
 else
 some (y4.fst,y6.fst,y0.snd.fst,y5.fst,y7.fst,y8.snd)
 else
 some (y4.fst,y6.fst,y0.snd.fst,y5.fst,y7.fst,y8.snd)
 else
 (Zs2 y2.snd y0.fst).bind fun y6 =>
 (ZKo y0.fst y0.snd.fst (([]:List Int)) y0.snd.snd.snd.fst).bind fun y7 =>
 (Zc y6.snd 8).bind fun y8 =>
 if y8.fst=0 then
 if 0<(↑(List.length y0.snd.snd.fst):Int) then
 (ZKo y0.fst y0.snd.fst y0.snd.snd.fst y0.snd.snd.snd.fst).bind fun y9 =>
 some (y0.fst,y6.fst,y0.snd.fst,y0.snd.snd.snd.fst,y9.fst,y8.snd)
 else
 some (y0.fst,y6.fst,y0.snd.fst,y0.snd.snd.snd.fst,y7.fst,y8.snd)
 else
 some (y0.fst,y6.fst,y0.snd.fst,y0.snd.snd.snd.fst,y7.fst,y8.snd)
 else
 (Zs2 y0.snd.snd.snd.snd y0.fst).bind fun y6 =>
 (ZKo y0.fst y0.snd.fst (([]:List Int)) y0.snd.snd.snd.fst).bind fun y7 =>
 (Zc y6.snd 8).bind fun y2 =>
 if y2.fst=0 then
 if 0<(↑(List.length y0.snd.snd.fst):Int) then
 (ZKo y0.fst y0.snd.fst y0.snd.snd.fst y0.snd.snd.snd.fst).bind fun y9 =>
 some (y0.fst,y6.fst,y0.snd.fst,y0.snd.snd.snd.fst,y9.fst,y2.snd)
 else
 some (y0.fst,y6.fst,y0.snd.fst,y0.snd.snd.snd.fst,y7.fst,y2.snd)
 else
 some (y0.fst,y6.fst,y0.snd.fst,y0.snd.snd.snd.fst,y7.fst,y2.snd)
def ZA0:Ctr:=⟨[.io (.flat (Yn))],[.dat (ZjX),.own (ZoH),.dat (ZdM),.own (.ol 270 (.flat (Zma))),.own (ZnP)],fun a K=>splitK a fun a0 a=>XU (ZK5 a0) fun r=>K (r.1,r.2.1,r.2.2.1,r.2.2.2.1,r.2.2.2.2.1,()) (r.2.2.2.2.2,())⟩
def ZKw (code0:List Int):Option (Zv×Zbk) :=
 (Ve code0).bind fun y0 =>
 (ZK5 y0).bind fun y1 =>
 some (y1.fst,y1.snd.fst)
def ZA1:Ctr:=⟨[.dat (.sl (.int .u8))],[.dat (ZjX),.own (ZoH)],fun a K=>splitK a fun code0 a=>XU (ZKw code0) fun r=>K (r.1,r.2,()) ()⟩
def YA (x0:Int) (low0:Int) (high0:Int):Option Bool :=
 if low0≤x0 then
 some (Decidable.decide (x0≤high0))
 else
 some false
def ZA2:Ctr:=D3 Iq Iq Iq (.bool) YA
def VD (s0:List UInt8):Option Bool :=
 (YA (↑s0.length:Int) 1 8).bind fun y0 =>
 if y0 then
 Zj (List.length s0≤(1000000:Nat)) <|
 if Go.Lib.trimS s0 [(97:UInt8),(98:UInt8),(99:UInt8),(100:UInt8),(101:UInt8),(102:UInt8),(103:UInt8),(104:UInt8),(105:UInt8),(106:UInt8),(107:UInt8),(108:UInt8),(109:UInt8),(110:UInt8),(111:UInt8),(112:UInt8),(113:UInt8),(114:UInt8),(115:UInt8),(116:UInt8),(117:UInt8),(118:UInt8),(119:UInt8),(120:UInt8),(121:UInt8),(122:UInt8),(48:UInt8),(49:UInt8),(50:UInt8),(51:UInt8),(52:UInt8),(53:UInt8),(54:UInt8),(55:UInt8),(56:UInt8),(57:UInt8)]=([]:List UInt8) then
 (atI s0 0).bind fun x0 =>
 some (Decidable.decide ((0:Int)≤Go.Lib.indexByte [(97:UInt8),(98:UInt8),(99:UInt8),(100:UInt8),(101:UInt8),(102:UInt8),(103:UInt8),(104:UInt8),(105:UInt8),(106:UInt8),(107:UInt8),(108:UInt8),(109:UInt8),(110:UInt8),(111:UInt8),(112:UInt8),(113:UInt8),(114:UInt8),(115:UInt8),(116:UInt8),(117:UInt8),(118:UInt8),(119:UInt8),(120:UInt8),(121:UInt8),(122:UInt8)] (Nat.toUInt8 (Int.toNat (↑(UInt8.toNat x0):Int)))))
 else
 some false
 else
 some false
def ZA3:Ctr:=D1 (.str) (.bool) VD
def Zri (list0:List ZhU):Option Int :=
 some (↑list0.length:Int)
def ZA4:Ctr:=D1 (.sl (Zl9)) Iq Zri
def ZM (s0:List (List UInt8)) (v0:List UInt8) (v1:Int):Option ((Int×Unit) ⊕ Int) :=
 if v1<(↑s0.length:Int) then
 (atI s0 v1).bind fun x0 =>
 if v0=x0 then
 some (.inr v1)
 else
 some (.inl (Wq (v1+1),()))
 else
 some (.inr (-1))
def ZP (s0:List (List UInt8)) (v0:List UInt8):Option Int :=
 ZA (fun v=>ZM s0 v0 v.1) ((0:Int),())
def c116:Ctr:=D2 (.sl (.str)) (.str) Iq ZP
def ZJ (s0:List (List UInt8)) (v0:List UInt8):Option Bool :=
 (ZP s0 v0).bind fun y0 =>
 some (Decidable.decide (0≤y0))
def c117:Ctr:=D2 (.sl (.str)) (.str) (.bool) ZJ
def Y7 (list0:List (List UInt8)) (v0:Int):Option ((Int×Unit) ⊕ Bool) :=
 if v0<(↑list0.length:Int) then
 (atI list0 v0).bind fun x0 =>
 (VD x0).bind fun y0 =>
 if y0 then
 Zj ((0:Int)≤v0) <|
 Zj (v0≤(↑list0.length:Int)) <|
 (ZJ (List.take (Int.toNat v0-Int.toNat 0) (List.drop (Int.toNat 0) list0)) x0).bind fun y1 =>
 if y1 then
 some (.inr false)
 else
 some (.inl (Wq (v0+1),()))
 else
 some (.inr false)
 else
 some (.inr true)
def QO (list0:List (List UInt8)):Option Bool :=
 ZA (fun v=>Y7 list0 v.1) ((0:Int),())
def Zy7:Ctr:=D1 (.sl (.str)) (.bool) QO
def Zq5 (list0:List ZhU) (names0:List (List UInt8)) (v0:Int):Option (((List (List UInt8))×Int×Unit) ⊕ Bool) :=
 if v0<(↑list0.length:Int) then
 (atI list0 v0).bind fun x0 =>
 Zj ((List.length names0+List.length [ZhU.Name x0])*(16:Nat)≤(140737488355328:Nat)) <|
 if v0=Wq ((↑list0.length:Int)-1) then
 if ZhU.Dir x0=2 then
 if ZhU.Cap x0=0 then
 if (ZhU.Clock x0)=true then
 some (.inr false)
 else
 some (.inl (names0++[ZhU.Name x0],Wq (v0+(1:Int)),()))
 else
 some (.inr false)
 else
 some (.inr false)
 else
 if ZhU.Dir x0=1 then
 (YA (ZhU.Cap x0) 0 500).bind fun y0 =>
 if y0 then
 some (.inl (names0++[ZhU.Name x0],Wq (v0+(1:Int)),()))
 else
 some (.inr false)
 else
 some (.inr false)
 else
 (Zri list0).bind fun y1 =>
 (YA y1 2 5).bind fun y0 =>
 if y0 then
 (QO names0).bind fun y2 =>
 some (.inr y2)
 else
 some (.inr false)
def Zup (list0:List ZhU):Option Bool :=
 ZA (fun v=>Zq5 list0 v.1 v.2.1) (([]:List (List UInt8)),(0:Int),())
def c119:Ctr:=D1 (.sl (Zl9)) (.bool) Zup
def Zuq (kind0:Int):Option Bool :=
 if kind0=4 then
 some true
 else
 some (Decidable.decide (kind0=5))
def ZAK:Ctr:=D1 Iq (.bool) Zuq
def ZpM (list0:List Int):Option Int :=
 some (↑list0.length:Int)
def ZAL:Ctr:=D1 (.sl Iq) Iq ZpM
def XH (n0:Int) (a0:Int) (a1:Int):Option Bool :=
 (YA n0 a0 a1).bind fun y0 =>
 some !y0
def ZA5:Ctr:=D3 Iq (.ptr Iq) (.ptr Iq) (.bool) XH
def Zr (s0:List Int) (f0:Int×Int×Unit) (v0:Int):Option ((Int×Unit) ⊕ Int) :=
 if v0<(↑s0.length:Int) then
 (atI s0 v0).bind fun x0 =>
 (XH x0 f0.fst f0.snd.fst).bind fun y0 =>
 if y0 then
 some (.inr v0)
 else
 some (.inl (Wq (v0+1),()))
 else
 some (.inr (-1))
def Zq (s0:List Int) (f0:Int×Int×Unit):Option Int :=
 ZA (fun v=>Zr s0 f0 v.1) ((0:Int),())
def ZA6:Ctr:=D2 (.sl Iq) (.fn 190 (.pair (.ptr Iq) (.pair (.ptr Iq) (.unit)))) Iq Zq
def Zt (s0:List Int) (f0:Int×Int×Unit):Option Bool :=
 (Zq s0 f0).bind fun y0 =>
 some (Decidable.decide (0≤y0))
def c124:Ctr:=D2 (.sl Iq) (.fn 190 (.pair (.ptr Iq) (.pair (.ptr Iq) (.unit)))) (.bool) Zt
def Qf (list0:List Int) (low0:Int) (high0:Int):Option Bool :=
 (Zt list0 (low0,high0,())).bind fun y0 =>
 some !y0
def ZA7:Ctr:=D3 (.sl Iq) Iq Iq (.bool) Qf
def Zqf (list0:List Int) (i0:Int):Option ((Int×Unit) ⊕ Bool) :=
 if i0<(↑list0.length:Int) then
 (atI list0 (Wq (i0-1))).bind fun x0 =>
 (atI list0 i0).bind fun x1 =>
 if x1≤x0 then
 some (.inr false)
 else
 some (.inl (Wq (i0+1),()))
 else
 some (.inr true)
def Zsi (list0:List Int):Option Bool :=
 ZA (fun v=>Zqf list0 v.1) ((1:Int),())
def ZA8:Ctr:=D1 (.sl Iq) (.bool) Zsi
def Zue (list0:List Int):Option Bool :=
 (ZpM list0).bind fun y0 =>
 (YA y0 1 4).bind fun y1 =>
 if y1 then
 (Qf list0 0 100000).bind fun y2 =>
 if y2 then
 (Zsi list0).bind fun y3 =>
 some y3
 else
 some false
 else
 some false
def c127:Ctr:=D1 (.sl Iq) (.bool) Zue
def Zuo (t0:Jy):Option Bool :=
 (Zue (Jy.ZoG t0)).bind fun y0 =>
 if y0 then
 (Zue (Jy.Loads t0)).bind fun y1 =>
 if y1 then
 if (↑(List.length (Jy.Values t0)):Int)=Wq ((↑(List.length (Jy.ZoG t0)):Int)*(↑(List.length (Jy.Loads t0)):Int)) then
 (Qf (Jy.Values t0) (-1000000) 1000000).bind fun y2 =>
 some y2
 else
 some false
 else
 some false
 else
 some false
def ZA9:Ctr:=D1 (ZdQ) (.bool) Zuo
def ZqA (x0:List Int) (m0:Int) (i0:Int):Option ((Int×Int×Unit) ⊕ Int) :=
 if i0<(↑x0.length:Int) then
 (atI x0 i0).bind fun x2 =>
 some (.inl (Min.min m0 x2,Wq (i0+1),()))
 else
 some (.inr m0)
def ZqG (x0:List Int):Option Int :=
 if (↑x0.length:Int)<1 then
 none
 else
 (atI x0 0).bind fun x1 =>
 ZA (fun v=>ZqA x0 v.1 v.2.1) (x1,(1:Int),())
def ZBa:Ctr:=D1 (.sl Iq) Iq ZqG
def ZqM (t0:Jy) (a0:Bool):Option Bool :=
 (Zuo t0).bind fun y0 =>
 if y0 then
 if a0 then
 (ZqG (Jy.Values t0)).bind fun y1 =>
 some (Decidable.decide (y1<0))
 else
 some false
 else
 some true
def c130:Ctr:=D2 (ZdQ) (.ptr (.bool)) (.bool) ZqM
def Zpu (s0:List Jy) (f0:Bool×Unit) (v0:Int):Option ((Int×Unit) ⊕ Int) :=
 if v0<(↑s0.length:Int) then
 (atI s0 v0).bind fun x0 =>
 (ZqM x0 f0.fst).bind fun y0 =>
 if y0 then
 some (.inr v0)
 else
 some (.inl (Wq (v0+1),()))
 else
 some (.inr (-1))
def Zpl (s0:List Jy) (f0:Bool×Unit):Option Int :=
 ZA (fun v=>Zpu s0 f0 v.1) ((0:Int),())
def c131:Ctr:=D2 (.sl (ZdQ)) (.fn 306 (.pair (.ptr (.bool)) (.unit))) Iq Zpl
def Zpe (s0:List Jy) (f0:Bool×Unit):Option Bool :=
 (Zpl s0 f0).bind fun y0 =>
 some (Decidable.decide (0≤y0))
def ZBb:Ctr:=D2 (.sl (ZdQ)) (.fn 306 (.pair (.ptr (.bool)) (.unit))) (.bool) Zpe
def ZrS (list0:List Jy) (positive0:Bool):Option Bool :=
 if (↑list0.length:Int)=2 then
 (Zpe list0 (positive0,())).bind fun y0 =>
 some !y0
 else
 some false
def ZBc:Ctr:=D2 (.sl (ZdQ)) (.bool) (.bool) ZrS
def Zs8 (p0:ZhU):Option Bool :=
 some (ZhU.Clock p0)
def ZBd:Ctr:=D1 (Zl9) (.bool) Zs8
def ZpA (s0:List ZhU) (v0:Int):Option ((Int×Unit) ⊕ Int) :=
 if v0<(↑s0.length:Int) then
 (atI s0 v0).bind fun x0 =>
 (Zs8 x0).bind fun y0 =>
 if y0 then
 some (.inr v0)
 else
 some (.inl (Wq (v0+1),()))
 else
 some (.inr (-1))
def Zpr (s0:List ZhU) (f0:Unit):Option Int :=
 ZA (fun v=>ZpA s0 v.1) ((0:Int),())
def ZBe:Ctr:=D2 (.sl (Zl9)) (.fn 310 (.unit)) Iq Zpr
def Zs7 (c0:QG):Option Int :=
 (Zpr (QG.ZoY c0) ()).bind fun y0 =>
 some y0
def ZBf:Ctr:=D1 (Zin) Iq Zs7
def ZrN (c0:QG):Option Int :=
 (Zri (QG.ZoY c0)).bind fun y0 =>
 some (Wq (y0-1))
def ZBg:Ctr:=D1 (Zin) Iq ZrN
def Zrp (c0:QG) (pin0:Int):Option Bool :=
 (ZrN c0).bind fun y0 =>
 (YA pin0 0 (Wq (y0-1))).bind fun y1 =>
 some y1
def c138:Ctr:=D2 (Zin) Iq (.bool) Zrp
def Zs9 (a0:QG) (a1:ZfN):Option Bool :=
 (Zuq (ZfN.Kind a1)).bind fun y0 =>
 if y0 then
 if ZfN.ZoE a1=0 then
 if (↑(List.length (ZfN.Znd a1)):Int)=0 then
 (ZrS (ZfN.Delay a1) false).bind fun y1 =>
 if y1 then
 (Zs7 a0).bind fun y2 =>
 if ZfN.From a1=y2 then
 if 0≤ZfN.From a1 then
 (Zrp a0 (ZfN.To a1)).bind fun y3 =>
 if y3 then
 some (!Decidable.decide (ZfN.To a1=ZfN.From a1))
 else
 some false
 else
 some false
 else
 some false
 else
 some false
 else
 some false
 else
 some false
 else
 (ZrS (ZfN.Delay a1) true).bind fun y1 =>
 if y1 then
 (ZrS (ZfN.Znd a1) true).bind fun y4 =>
 if y4 then
 (ZrN a0).bind fun y5 =>
 if ZfN.To a1=y5 then
 (Zrp a0 (ZfN.From a1)).bind fun y3 =>
 if y3 then
 if ZfN.Kind a1=1 then
 (atI (QG.ZoY a0) (ZfN.From a1)).bind fun x0 =>
 if (ZhU.Clock x0)=true then
 some false
 else
 (YA (ZfN.ZoE a1) 1 3).bind fun y6 =>
 some y6
 else
 if ZfN.Kind a1=2 then
 if ZfN.Kind a1=2 then
 (atI (QG.ZoY a0) (ZfN.From a1)).bind fun x0 =>
 if (ZhU.Clock x0)=true then
 some (Decidable.decide (ZfN.ZoE a1=0))
 else
 some false
 else
 some false
 else
 if ZfN.Kind a1=3 then
 (atI (QG.ZoY a0) (ZfN.From a1)).bind fun x0 =>
 if (ZhU.Clock x0)=true then
 some (Decidable.decide (ZfN.ZoE a1=0))
 else
 some false
 else
 some false
 else
 some false
 else
 some false
 else
 some false
 else
 some false
def c139:Ctr:=D2 (Zin) (Zmv) (.bool) Zs9
def Zqi (o0:ZfN) (a0:ZfN):Option Bool :=
 if ZfN.Kind o0=ZfN.Kind a0 then
 if ZfN.From o0=ZfN.From a0 then
 some (Decidable.decide (ZfN.To o0=ZfN.To a0))
 else
 some false
 else
 some false
def ZBh:Ctr:=D2 (Zmv) (.ptr (Zmv)) (.bool) Zqi
def Zpv (s0:List ZfN) (f0:ZfN×Unit) (v0:Int):Option ((Int×Unit) ⊕ Int) :=
 if v0<(↑s0.length:Int) then
 (atI s0 v0).bind fun x0 =>
 (Zqi x0 f0.fst).bind fun y0 =>
 if y0 then
 some (.inr v0)
 else
 some (.inl (Wq (v0+1),()))
 else
 some (.inr (-1))
def Zpn (s0:List ZfN) (f0:ZfN×Unit):Option Int :=
 ZA (fun v=>Zpv s0 f0 v.1) ((0:Int),())
def c141:Ctr:=D2 (.sl (Zmv)) (.fn 277 (.pair (.ptr (Zmv)) (.unit))) Iq Zpn
def Zpf (s0:List ZfN) (f0:ZfN×Unit):Option Bool :=
 (Zpn s0 f0).bind fun y0 =>
 some (Decidable.decide (0≤y0))
def ZBi:Ctr:=D2 (.sl (Zmv)) (.fn 277 (.pair (.ptr (Zmv)) (.unit))) (.bool) Zpf
def ZrF (c0:QG) (v0:Int):Option ((Int×Unit) ⊕ Bool) :=
 if v0<(↑(List.length (QG.ZoW c0)):Int) then
 (atI (QG.ZoW c0) v0).bind fun x0 =>
 (Zs9 c0 x0).bind fun y0 =>
 if y0 then
 Zj ((0:Int)≤v0) <|
 Zj (v0≤(↑(List.length (QG.ZoW c0)):Int)) <|
 (Zpf (List.take (Int.toNat v0-Int.toNat 0) (List.drop (Int.toNat 0) (QG.ZoW c0))) (x0,())).bind fun y1 =>
 if y1 then
 some (.inr false)
 else
 some (.inl (Wq (v0+1),()))
 else
 some (.inr false)
 else
 some (.inr (Decidable.decide ((↑(List.length (QG.ZoW c0)):Int)≤8)))
def Zsg (c0:QG):Option Bool :=
 ZA (fun v=>ZrF c0 v.1) ((0:Int),())
def c143:Ctr:=D1 (Zin) (.bool) Zsg
def ZsC (a0:ZfN) (a1:Int):Option Bool :=
 some (Decidable.decide (ZfN.Kind a0=a1))
def ZBj:Ctr:=D2 (Zmv) (.ptr Iq) (.bool) ZsC
def ZpB (s0:List ZfN) (f0:Int×Unit) (v0:Int):Option ((Int×Unit) ⊕ Int) :=
 if v0<(↑s0.length:Int) then
 (atI s0 v0).bind fun x0 =>
 (ZsC x0 f0.fst).bind fun y0 =>
 if y0 then
 some (.inr v0)
 else
 some (.inl (Wq (v0+1),()))
 else
 some (.inr (-1))
def Zps (s0:List ZfN) (f0:Int×Unit):Option Int :=
 ZA (fun v=>ZpB s0 f0 v.1) ((0:Int),())
def c145:Ctr:=D2 (.sl (Zmv)) (.fn 297 (.pair (.ptr Iq) (.unit))) Iq Zps
def Zpo (s0:List ZfN) (f0:Int×Unit):Option Bool :=
 (Zps s0 f0).bind fun y0 =>
 some (Decidable.decide (0≤y0))
def c146:Ctr:=D2 (.sl (Zmv)) (.fn 297 (.pair (.ptr Iq) (.unit))) (.bool) Zpo
def ZqD (c0:QG) (kind0:Int):Option Bool :=
 (Zpo (QG.ZoW c0) (kind0,())).bind fun y0 =>
 some y0
def ZBk:Ctr:=D2 (Zin) Iq (.bool) ZqD
def Zp6 (a0:QG) (v0:Int) (v1:Int):Option ((Int×Int×Unit) ⊕ Bool) :=
 if v1<(↑(List.length (QG.ZoY a0)):Int) then
 (atI (QG.ZoY a0) v1).bind fun x0 =>
 if (ZhU.Clock x0)=true then
 some (.inl (Wq (v0+1),Wq (v1+1),()))
 else
 some (.inl (v0,Wq (v1+1),()))
 else
 if QG.Kind a0=1 then
 if v0=0 then
 (ZrN a0).bind fun y0 =>
 Zj ((0:Int)≤y0) <|
 if (↑(List.length (QG.Truth a0)):Int)=Wq (1*2 ^ Min.min (Int.toNat y0) (IntKind.bits IntKind.i64)) then
 (Qf (QG.Truth a0) 0 1).bind fun y1 =>
 some (.inr y1)
 else
 some (.inr false)
 else
 some (.inr false)
 else
 if QG.Kind a0=2 then
 if v0=1 then
 if (↑(List.length (QG.Truth a0)):Int)=0 then
 (ZqD a0 1).bind fun y2 =>
 if y2 then
 some (.inr false)
 else
 (ZqD a0 2).bind fun y3 =>
 (ZqD a0 3).bind fun y4 =>
 some (.inr (!y3 == y4))
 else
 some (.inr false)
 else
 some (.inr false)
 else
 if QG.Kind a0=3 then
 if v0=1 then
 if (↑(List.length (QG.Truth a0)):Int)=0 then
 (ZqD a0 1).bind fun y2 =>
 if y2 then
 (ZqD a0 2).bind fun y3 =>
 if y3 then
 (ZqD a0 3).bind fun y4 =>
 some (.inr !y4)
 else
 some (.inr false)
 else
 some (.inr false)
 else
 some (.inr false)
 else
 some (.inr false)
 else
 some (.inr false)
def ZrZ (a0:QG):Option Bool :=
 ZA (fun v=>Zp6 a0 v.1 v.2.1) ((0:Int),(0:Int),())
def c148:Ctr:=D1 (Zin) (.bool) ZrZ
def ZuL (c0:QG):Option Bool :=
 (VD (QG.Name c0)).bind fun y0 =>
 if y0 then
 (Zup (QG.ZoY c0)).bind fun y1 =>
 if y1 then
 (Zsg c0).bind fun y2 =>
 if y2 then
 (YA (QG.ZoX c0) 0 100000).bind fun y3 =>
 if y3 then
 (YA (QG.Zon c0) 0 100000).bind fun y4 =>
 if y4 then
 (ZrZ c0).bind fun y5 =>
 some y5
 else
 some false
 else
 some false
 else
 some false
 else
 some false
 else
 some false
def ZAB:Ctr:=D1 (Zin) (.bool) ZuL
def ZqB (l0:ZaF) (names0:List (List UInt8)) (v0:Int):Option (((List (List UInt8))×Int×Unit) ⊕ Bool) :=
 if v0<(↑(List.length (ZaF.Cells l0)):Int) then
 (atI (ZaF.Cells l0) v0).bind fun x0 =>
 (ZuL x0).bind fun y0 =>
 if y0 then
 Zj ((List.length names0+List.length [QG.Name x0])*(16:Nat)≤(140737488355328:Nat)) <|
 some (.inl (names0++[QG.Name x0],Wq (v0+(1:Int)),()))
 else
 some (.inr false)
 else
 if (↑(List.length (ZaF.Cells l0)):Int)≤8 then
 (QO names0).bind fun y1 =>
 some (.inr y1)
 else
 some (.inr false)
def Ztx (l0:ZaF):Option Bool :=
 ZA (fun v=>ZqB l0 v.1 v.2.1) (([]:List (List UInt8)),(0:Int),())
def ZAM:Ctr:=D1 (Zc3) (.bool) Ztx
def Zq2 (d0:Zp) (instances0:List (List UInt8)) (ports0:List (List UInt8)) (v1:Int):Option (((List (List UInt8))×Int×Unit) ⊕ (((List (List UInt8))×Int×Unit) ⊕ Bool)) :=
 if v1<(↑(List.length (Zp.Vk d0)):Int) then
 (atI (Zp.Vk d0) v1).bind fun x0 =>
 Zj ((List.length ports0+List.length [Zah.Name x0])*(16:Nat)≤(140737488355328:Nat)) <|
 some (.inl (ports0++[Zah.Name x0],Wq (v1+(1:Int)),()))
 else
 if (↑instances0.length:Int)≤14 then
 if (↑(List.length (Zp.Zbh d0)):Int)≤30 then
 if (↑ports0.length:Int)≤8 then
 (QO instances0).bind fun y0 =>
 if y0 then
 (QO (Zp.Zbh d0)).bind fun y1 =>
 if y1 then
 (QO ports0).bind fun y2 =>
 some (.inr (.inr y2))
 else
 some (.inr (.inr false))
 else
 some (.inr (.inr false))
 else
 some (.inr (.inr false))
 else
 some (.inr (.inr false))
 else
 some (.inr (.inr false))
def Zq3 (d0:Zp) (instances0:List (List UInt8)) (v0:Int):Option (((List (List UInt8))×Int×Unit) ⊕ Bool) :=
 if v0<(↑(List.length (Zp.Instances d0)):Int) then
 (atI (Zp.Instances d0) v0).bind fun x0 =>
 Zj ((List.length instances0+List.length [Zz.Name x0])*(16:Nat)≤(140737488355328:Nat)) <|
 some (.inl (instances0++[Zz.Name x0],Wq (v0+(1:Int)),()))
 else
 ZA (fun v=>Zq2 d0 instances0 v.1 v.2.1) (([]:List (List UInt8)),(0:Int),())
def Zrf (d0:Zp):Option Bool :=
 ZA (fun v=>Zq3 d0 v.1 v.2.1) (([]:List (List UInt8)),(0:Int),())
def ZAw:Ctr:=D1 (ZdN) (.bool) Zrf
def Zp7 (list0:List QG):Option Int :=
 some (↑list0.length:Int)
def c152:Ctr:=D1 (.sl (Zin)) Iq Zp7
def ZpQ (list0:List (List UInt8)):Option Int :=
 some (↑list0.length:Int)
def ZAC:Ctr:=D1 (.sl (.str)) Iq ZpQ
def ZpJ (d0:Zp) (net0:Int):Option Bool :=
 (ZpQ (Zp.Zbh d0)).bind fun y0 =>
 (YA net0 0 (Wq (y0-1))).bind fun y1 =>
 some y1
def c154:Ctr:=D2 (ZdN) Iq (.bool) ZpJ
def ZpX (net0:Int) (a0:Zp):Option Bool :=
 (ZpJ a0 net0).bind fun y0 =>
 some !y0
def ZBl:Ctr:=D2 Iq (.ptr (ZdN)) (.bool) ZpX
def Zpw (s0:List Int) (f0:Zp×Unit) (v0:Int):Option ((Int×Unit) ⊕ Int) :=
 if v0<(↑s0.length:Int) then
 (atI s0 v0).bind fun x0 =>
 (ZpX x0 f0.fst).bind fun y0 =>
 if y0 then
 some (.inr v0)
 else
 some (.inl (Wq (v0+1),()))
 else
 some (.inr (-1))
def Zpp (s0:List Int) (f0:Zp×Unit):Option Int :=
 ZA (fun v=>Zpw s0 f0 v.1) ((0:Int),())
def c156:Ctr:=D2 (.sl Iq) (.fn 217 (.pair (.ptr (ZdN)) (.unit))) Iq Zpp
def Zpi (s0:List Int) (f0:Zp×Unit):Option Bool :=
 (Zpp s0 f0).bind fun y0 =>
 some (Decidable.decide (0≤y0))
def c157:Ctr:=D2 (.sl Iq) (.fn 217 (.pair (.ptr (ZdN)) (.unit))) (.bool) Zpi
def ZqX (d0:Zp) (l0:ZaF) (x0:Zz):Option Bool :=
 (Zp7 (ZaF.Cells l0)).bind fun y0 =>
 (YA (Zz.Cell x0) 0 (Wq (y0-1))).bind fun y1 =>
 if y1 then
 (atI (ZaF.Cells l0) (Zz.Cell x0)).bind fun x1 =>
 if (↑(List.length (Zz.Zbh x0)):Int)=(↑(List.length (QG.ZoY x1)):Int) then
 (Zpi (Zz.Zbh x0) (d0,())).bind fun y2 =>
 some !y2
 else
 some false
 else
 some false
def ZBm:Ctr:=D3 (ZdN) (Zc3) (ZdO) (.bool) ZqX
def ZsD (n0:Int):Option Bool :=
 some (!Decidable.decide (n0=1))
def c159:Ctr:=D1 Iq (.bool) ZsD
def ZpI (s0:List Int) (v0:Int):Option ((Int×Unit) ⊕ Int) :=
 if v0<(↑s0.length:Int) then
 (atI s0 v0).bind fun x0 =>
 (ZsD x0).bind fun y0 =>
 if y0 then
 some (.inr v0)
 else
 some (.inl (Wq (v0+1),()))
 else
 some (.inr (-1))
def ZpE (s0:List Int) (f0:Unit):Option Int :=
 ZA (fun v=>ZpI s0 v.1) ((0:Int),())
def c160:Ctr:=D2 (.sl Iq) (.fn 157 (.unit)) Iq ZpE
def ZpD (s0:List Int) (f0:Unit):Option Bool :=
 (ZpE s0 ()).bind fun y0 =>
 some (Decidable.decide (0≤y0))
def ZBn:Ctr:=D2 (.sl Iq) (.fn 157 (.unit)) (.bool) ZpD
def ZqQ (a1:Zp) (v1:Int) (l1:List Int):Option ((Int×(List Int)×Unit) ⊕ ((Int×(List Int)×Unit) ⊕ Bool)) :=
 if v1<(↑(List.length (Zp.Vk a1)):Int) then
 (atI (Zp.Vk a1) v1).bind fun x0 =>
 if Zah.Dir x0=1 then
 (ZpJ a1 (Zah.Net x0)).bind fun y0 =>
 if y0 then
 if Zah.Dir x0=1 then
 (atI l1 (Zah.Net x0)).bind fun x1 =>
 some (.inl (Wq (v1+1),List.set l1 (Int.toNat (Zah.Net x0)) (Wq (x1+1)),()))
 else
 some (.inl (Wq (v1+1),l1,()))
 else
 some (.inr (.inr false))
 else
 if Zah.Dir x0=2 then
 (ZpJ a1 (Zah.Net x0)).bind fun y0 =>
 if y0 then
 if Zah.Dir x0=1 then
 (atI l1 (Zah.Net x0)).bind fun x1 =>
 some (.inl (Wq (v1+1),List.set l1 (Int.toNat (Zah.Net x0)) (Wq (x1+1)),()))
 else
 some (.inl (Wq (v1+1),l1,()))
 else
 some (.inr (.inr false))
 else
 some (.inr (.inr false))
 else
 (ZpD l1 ()).bind fun y1 =>
 some (.inr (.inr !y1))
def ZrI (a0:ZaF) (a1:Zp) (v0:Int) (l0:List Int):Option ((Int×(List Int)×Unit) ⊕ Bool) :=
 if v0<(↑(List.length (Zp.Instances a1)):Int) then
 (atI (Zp.Instances a1) v0).bind fun x0 =>
 (ZqX a1 a0 x0).bind fun y0 =>
 if y0 then
 (atI (Zz.Zbh x0) (Wq ((↑(List.length (Zz.Zbh x0)):Int)-1))).bind fun x1 =>
 (atI l0 x1).bind fun x2 =>
 some (.inl (Wq (v0+1),List.set l0 (Int.toNat x1) (Wq (x2+1)),()))
 else
 some (.inr false)
 else
 ZA (fun v=>ZqQ a1 v.1 v.2.1) ((0:Int),l0,())
def ZtS (a0:ZaF) (a1:Zp):Option Bool :=
 (Ztx a0).bind fun y0 =>
 if y0 then
 (Zrf a1).bind fun y1 =>
 if y1 then
 Zj ((0:Int)≤(↑(List.length (Zp.Zbh a1)):Int)) <|
 Zj ((↑(List.length (Zp.Zbh a1)):Int)≤(↑(List.length (Zp.Zbh a1)):Int)) <|
 Zj ((↑(List.length (Zp.Zbh a1)):Int)≤(4611686018427387904:Int)) <|
 Zj ((↑(8:Nat):Int)*(↑(List.length (Zp.Zbh a1)):Int)≤(281474976710656:Int)) <|
 ZA (fun v=>ZrI a0 a1 v.1 v.2.1) ((0:Int),List.replicate (Int.toNat (↑(List.length (Zp.Zbh a1)):Int)) (0:Int),())
 else
 some false
 else
 some false
def c162:Ctr:=D2 (Zc3) (ZdN) (.bool) ZtS
def Zrq (v0:Int) (x0:Zz) (list1:List Zbl) (v1:Int):Option (((List Zbl)×Int×Unit) ⊕ (((List Zbl)×Int×Unit) ⊕ List Zbl)) :=
 if v1<(↑(List.length (Zz.Zbh x0)):Int) then
 (atI (Zz.Zbh x0) v1).bind fun x1 =>
 Zj ((List.length list1+List.length [(v0,v1,x1,Decidable.decide (v1=Wq ((↑(List.length (Zz.Zbh x0)):Int)-(1:Int))),())])*(32:Nat)≤(140737488355328:Nat)) <|
 some (.inl (list1++[(v0,v1,x1,Decidable.decide (v1=Wq ((↑(List.length (Zz.Zbh x0)):Int)-(1:Int))),())],Wq (v1+(1:Int)),()))
 else
 some (.inr (.inl (list1,Wq (v0+1),())))
def Zrr (d0:Zp) (list1:List Zbl) (v1:Int):Option (((List Zbl)×Int×Unit) ⊕ (((List Zbl)×Int×Unit) ⊕ List Zbl)) :=
 if v1<(↑(List.length (Zp.Vk d0)):Int) then
 (atI (Zp.Vk d0) v1).bind fun x0 =>
 Zj ((List.length list1+List.length [((-1:Int),v1,Zah.Net x0,Decidable.decide (Zah.Dir x0=(1:Int)),())])*(32:Nat)≤(140737488355328:Nat)) <|
 some (.inl (list1++[((-1:Int),v1,Zah.Net x0,Decidable.decide (Zah.Dir x0=(1:Int)),())],Wq (v1+(1:Int)),()))
 else
 some (.inr (.inr list1))
def Zrs (d0:Zp) (list0:List Zbl) (v0:Int):Option (((List Zbl)×Int×Unit) ⊕ List Zbl) :=
 if v0<(↑(List.length (Zp.Instances d0)):Int) then
 (atI (Zp.Instances d0) v0).bind fun x0 =>
 ZA (fun v=>Zrq v0 x0 v.1 v.2.1) (list0,(0:Int),())
 else
 ZA (fun v=>Zrr d0 v.1 v.2.1) (list0,(0:Int),())
def Zpt (d0:Zp):Option (List Zbl) :=
 ZA (fun v=>Zrs d0 v.1 v.2.1) (([]:List Zbl),(0:Int),())
def ZBo:Ctr:=⟨[.dat (ZdN)],[.own (.ol 147 (.flat (ZjZ)))],fun a K=>splitK a fun d0 a=>XU (Zpt d0) fun r=>K (r,()) ()⟩
def ZrU (w0:QH) (v0:Int):Option ((Int×Unit) ⊕ Bool) :=
 if v0<(↑(List.length (QH.Parent w0)):Int) then
 (atI (QH.Parent w0) v0).bind fun x0 =>
 if v0=0 then
 if x0=(-1) then
 (atI (QH.Res w0) 0).bind fun x1 =>
 if x1=0 then
 if 0<v0 then
 (YA x0 0 (Wq (v0-1))).bind fun y0 =>
 if y0 then
 some (.inl (Wq (v0+1),()))
 else
 some (.inr false)
 else
 some (.inl (Wq (v0+1),()))
 else
 some (.inr false)
 else
 some (.inr false)
 else
 if 0<v0 then
 (YA x0 0 (Wq (v0-1))).bind fun y0 =>
 if y0 then
 some (.inl (Wq (v0+1),()))
 else
 some (.inr false)
 else
 some (.inl (Wq (v0+1),()))
 else
 some (.inr true)
def ZsE (w0:QH):Option Bool :=
 ZA (fun v=>ZrU w0 v.1) ((0:Int),())
def c164:Ctr:=D1 (ZjY) (.bool) ZsE
def Zub (w0:QH) (sinks0:Int):Option Bool :=
 (ZpM (QH.Parent w0)).bind fun y0 =>
 (YA y0 1 8).bind fun y1 =>
 if y1 then
 (ZpM (QH.Res w0)).bind fun y2 =>
 if y2=y0 then
 (ZpM (QH.Cap w0)).bind fun y3 =>
 if y3=y0 then
 (ZsE w0).bind fun y4 =>
 if y4 then
 (Qf (QH.Res w0) 0 1000).bind fun y5 =>
 if y5 then
 (Qf (QH.Cap w0) 0 500).bind fun y6 =>
 if y6 then
 (ZpM (QH.ZnH w0)).bind fun y7 =>
 if y7=sinks0 then
 (Qf (QH.ZnH w0) 0 (Wq (y0-1))).bind fun y8 =>
 some y8
 else
 some false
 else
 some false
 else
 some false
 else
 some false
 else
 some false
 else
 some false
 else
 some false
def ZAN:Ctr:=D2 (ZjY) Iq (.bool) Zub
def Zta (b0:Zv) (l0:List Int) (v1:Int):Option ((Int×Unit) ⊕ ((Int×(List Int)×Unit) ⊕ Bool)) :=
 if v1<(↑(List.length (Zv.ZlA b0)):Int) then
 (atI (Zv.ZlA b0) v1).bind fun x0 =>
 (atI l0 v1).bind fun x1 =>
 (Zub x0 x1).bind fun y0 =>
 if y0 then
 some (.inl (Wq (v1+1),()))
 else
 some (.inr (.inr false))
 else
 some (.inr (.inr true))
def Zr1 (b0:Zv) (places0:List Zbl) (v0:Int) (l0:List Int):Option ((Int×(List Int)×Unit) ⊕ Bool) :=
 if v0<(↑places0.length:Int) then
 (atI places0 v0).bind fun x0 =>
 if (Zbl.drives x0)=true then
 some (.inl (Wq (v0+1),l0,()))
 else
 (atI l0 (Zbl.net x0)).bind fun x1 =>
 some (.inl (Wq (v0+1),List.set l0 (Int.toNat (Zbl.net x0)) (Wq (x1+1)),()))
 else
 ZA (fun v=>Zta b0 l0 v.1) ((0:Int),())
def ZtD (b0:Zv):Option Bool :=
 (ZtS (Zv.Library b0) (Zv.Design b0)).bind fun y0 =>
 if y0 then
 if (↑(List.length (Zv.ZlA b0)):Int)=(↑(List.length (Zp.Zbh (Zv.Design b0))):Int) then
 Zj ((0:Int)≤(↑(List.length (Zv.ZlA b0)):Int)) <|
 Zj ((↑(List.length (Zv.ZlA b0)):Int)≤(↑(List.length (Zv.ZlA b0)):Int)) <|
 Zj ((↑(List.length (Zv.ZlA b0)):Int)≤(4611686018427387904:Int)) <|
 Zj ((↑(8:Nat):Int)*(↑(List.length (Zv.ZlA b0)):Int)≤(281474976710656:Int)) <|
 (Zpt (Zv.Design b0)).bind fun y1 =>
 ZA (fun v=>Zr1 b0 y1 v.1 v.2.1) ((0:Int),List.replicate (Int.toNat (↑(List.length (Zv.ZlA b0)):Int)) (0:Int),())
 else
 some false
 else
 some false
def ZBp:Ctr:=D1 (ZjX) (.bool) ZtD
def ZtR (e0:Zbk):Option Zbk :=
 if Zbk.Kind e0=1 then
 some (Zbk.Kind e0,Zbk.Place e0,Zbk.Cell e0,(0:Int),(0:Int),([]:List UInt8),(([]:List Int),([]:List Int),([]:List Int),([]:List Int),()),())
 else
 if Zbk.Kind e0=2 then
 some (Zbk.Kind e0,Zbk.Place e0,Zbk.Cell e0,(0:Int),(0:Int),Zbk.Name e0,(([]:List Int),([]:List Int),([]:List Int),([]:List Int),()),())
 else
 if Zbk.Kind e0=4 then
 some (Zbk.Kind e0,Zbk.Place e0,(0:Int),Zbk.Net e0,Zbk.Node e0,([]:List UInt8),(([]:List Int),([]:List Int),([]:List Int),([]:List Int),()),())
 else
 if Zbk.Kind e0=5 then
 some (Zbk.Kind e0,(0:Int),(0:Int),Zbk.Net e0,(0:Int),([]:List UInt8),e0.snd.snd.snd.snd.snd.snd)
 else
 some (Zbk.Kind e0,(0:Int),(0:Int),(0:Int),(0:Int),([]:List UInt8),(([]:List Int),([]:List Int),([]:List Int),([]:List Int),()),())
def c167:Ctr:=D1 (Zn2) (Zn2) ZtR
def Zqr (s1_0:List Int) (s2_0:List Int) (v0:Int):Option ((Int×Unit) ⊕ Bool) :=
 if v0<(↑s1_0.length:Int) then
 (atI s1_0 v0).bind fun x0 =>
 (atI s2_0 v0).bind fun x1 =>
 if x0=x1 then
 some (.inl (Wq (v0+1),()))
 else
 some (.inr false)
 else
 some (.inr true)
def ZpL (s1_0:List Int) (s2_0:List Int):Option Bool :=
 if (↑s1_0.length:Int)=(↑s2_0.length:Int) then
 ZA (fun v=>Zqr s1_0 s2_0 v.1) ((0:Int),())
 else
 some false
def c168:Ctr:=D2 (.sl Iq) (.sl Iq) (.bool) ZpL
def ZtU (a0:QH) (b0:QH):Option Bool :=
 (ZpL (QH.Parent a0) (QH.Parent b0)).bind fun y0 =>
 if y0 then
 (ZpL (QH.Res a0) (QH.Res b0)).bind fun y1 =>
 if y1 then
 (ZpL (QH.Cap a0) (QH.Cap b0)).bind fun y2 =>
 if y2 then
 (ZpL (QH.ZnH a0) (QH.ZnH b0)).bind fun y3 =>
 some y3
 else
 some false
 else
 some false
 else
 some false
def ZDR:Ctr:=D2 (ZjY) (ZjY) (.bool) ZtU
def Ztb (a0:Zbk) (b0:Zbk):Option Bool :=
 if Zbk.Kind a0=Zbk.Kind b0 then
 if Zbk.Place a0=Zbk.Place b0 then
 if Zbk.Cell a0=Zbk.Cell b0 then
 if Zbk.Net a0=Zbk.Net b0 then
 if Zbk.Node a0=Zbk.Node b0 then
 if Zbk.Name a0=Zbk.Name b0 then
 (ZtU (Zbk.ZoZ a0) (Zbk.ZoZ b0)).bind fun y0 =>
 some y0
 else
 some false
 else
 some false
 else
 some false
 else
 some false
 else
 some false
 else
 some false
def ZM2:Ctr:=D2 (Zn2) (Zn2) (.bool) Ztb
def ZrV (list0:List Zbl):Option Int :=
 some (↑list0.length:Int)
def c171:Ctr:=D1 (.sl (ZjZ)) Iq ZrV
def ZrH (a0:Zbk) (a1:Zv):Option Bool :=
 (YA (Zbk.Kind a0) 1 5).bind fun y0 =>
 if y0 then
 (ZtR a0).bind fun y1 =>
 (Ztb a0 y1).bind fun y2 =>
 if y2 then
 (Zpt (Zv.Design a1)).bind fun y3 =>
 (ZrV y3).bind fun y4 =>
 (YA (Zbk.Place a0) 0 (Wq (y4-1))).bind fun y5 =>
 if Zbk.Kind a0=1 then
 if Zbk.Kind a0=1 then
 if y5 then
 (Zp7 (ZaF.Cells (Zv.Library a1))).bind fun y6 =>
 (YA (Zbk.Cell a0) 0 (Wq (y6-1))).bind fun y7 =>
 some y7
 else
 some false
 else
 if Zbk.Kind a0=4 then
 if y5 then
 (ZpJ (Zv.Design a1) (Zbk.Net a0)).bind fun y8 =>
 if y8 then
 (atI (Zv.ZlA a1) (Zbk.Net a0)).bind fun x0 =>
 (ZpM (QH.Parent x0)).bind fun y9 =>
 (YA (Zbk.Node a0) 0 (Wq (y9-1))).bind fun y7 =>
 some y7
 else
 some false
 else
 some false
 else
 if Zbk.Kind a0=5 then
 (ZpJ (Zv.Design a1) (Zbk.Net a0)).bind fun y8 =>
 some y8
 else
 some true
 else
 if Zbk.Kind a0=2 then
 if y5 then
 (Zp7 (ZaF.Cells (Zv.Library a1))).bind fun y6 =>
 (YA (Zbk.Cell a0) 0 (Wq (y6-1))).bind fun y7 =>
 some y7
 else
 some false
 else
 if Zbk.Kind a0=4 then
 if y5 then
 (ZpJ (Zv.Design a1) (Zbk.Net a0)).bind fun y8 =>
 if y8 then
 (atI (Zv.ZlA a1) (Zbk.Net a0)).bind fun x0 =>
 (ZpM (QH.Parent x0)).bind fun y9 =>
 (YA (Zbk.Node a0) 0 (Wq (y9-1))).bind fun y7 =>
 some y7
 else
 some false
 else
 some false
 else
 if Zbk.Kind a0=5 then
 (ZpJ (Zv.Design a1) (Zbk.Net a0)).bind fun y8 =>
 some y8
 else
 some true
 else
 some false
 else
 some false
def ZM3:Ctr:=D2 (Zn2) (ZjX) (.bool) ZrH
def ZtI (p0:ZhU) (q0:ZhU):Option Bool :=
 some (ZhU.Clock p0 == ZhU.Clock q0)
def c173:Ctr:=D2 (Zl9) (Zl9) (.bool) ZtI
def Zpb (s1_0:List ZhU) (s2_0:List ZhU) (v0:Int):Option ((Int×Unit) ⊕ Bool) :=
 if v0<(↑s1_0.length:Int) then
 (atI s1_0 v0).bind fun x0 =>
 (atI s2_0 v0).bind fun x1 =>
 (ZtI x0 x1).bind fun y0 =>
 if y0 then
 some (.inl (Wq (v0+1),()))
 else
 some (.inr false)
 else
 some (.inr true)
def Zpm (s1_0:List ZhU) (s2_0:List ZhU) (eq0:Unit):Option Bool :=
 if (↑s1_0.length:Int)=(↑s2_0.length:Int) then
 ZA (fun v=>Zpb s1_0 s2_0 v.1) ((0:Int),())
 else
 some false
def ZM4:Ctr:=D3 (.sl (Zl9)) (.sl (Zl9)) (.fn 244 (.unit)) (.bool) Zpm
def ZtT (a0:QG) (b0:QG):Option Bool :=
 if QG.Kind a0=QG.Kind b0 then
 (Zpm (QG.ZoY a0) (QG.ZoY b0) ()).bind fun y0 =>
 some y0
 else
 some false
def c175:Ctr:=D2 (Zin) (Zin) (.bool) ZtT
def ZqF (c0:QG):Option Bool :=
 if QG.Kind c0=1 then
 some (Decidable.decide ((↑(List.length (QG.ZoY c0)):Int)=2))
 else
 some false
def ZM0:Ctr:=D1 (Zin) (.bool) ZqF
def Zr8 (x0:Zz) (a0:List UInt8):Option Bool :=
 some (Decidable.decide (Zz.Name x0=a0))
def ZM5:Ctr:=D2 (ZdO) (.ptr (.str)) (.bool) Zr8
def Zph (s0:List Zz) (f0:List UInt8×Unit) (v0:Int):Option ((Int×Unit) ⊕ Int) :=
 if v0<(↑s0.length:Int) then
 (atI s0 v0).bind fun x0 =>
 (Zr8 x0 f0.fst).bind fun y0 =>
 if y0 then
 some (.inr v0)
 else
 some (.inl (Wq (v0+1),()))
 else
 some (.inr (-1))
def Zpc (s0:List Zz) (f0:List UInt8×Unit):Option Int :=
 ZA (fun v=>Zph s0 f0 v.1) ((0:Int),())
def ZM6:Ctr:=D2 (.sl (ZdO)) (.fn 248 (.pair (.ptr (.str)) (.unit))) Iq Zpc
def Zr0 (d0:Zp) (name0:List UInt8):Option Int :=
 (Zpc (Zp.Instances d0) (name0,())).bind fun y0 =>
 some y0
def ZM7:Ctr:=D2 (ZdN) (.str) Iq Zr0
def Zrg (d0:Zp) (name0:List UInt8):Option Int :=
 (ZP (Zp.Zbh d0) name0).bind fun y0 =>
 some y0
def ZM8:Ctr:=D2 (ZdN) (.str) Iq Zrg
def ZqV (a0:Zv):Option Bool :=
 if (↑(List.length (Zp.Instances (Zv.Design a0))):Int)=0 then
 some false
 else
 (atI (Zp.Instances (Zv.Design a0)) (Wq ((↑(List.length (Zp.Instances (Zv.Design a0))):Int)-1))).bind fun x0 =>
 (ZpQ (Zp.Zbh (Zv.Design a0))).bind fun y0 =>
 (atI (ZaF.Cells (Zv.Library a0)) (Zz.Cell x0)).bind fun x1 =>
 (ZqF x1).bind fun y1 =>
 if y1 then
 (atI (Zz.Zbh x0) 1).bind fun x2 =>
 if x2=Wq (y0-1) then
 (atI (Zz.Zbh x0) 0).bind fun x3 =>
 if x3=Wq (y0-1) then
 some false
 else
 (atI (Zp.Zbh (Zv.Design a0)) (Wq (y0-1))).bind fun x4 =>
 if x4=Zz.Name x0 then
 (atI (Zv.ZlA a0) (Wq (y0-1))).bind fun x5 =>
 if (↑(List.length (QH.ZnH x5)):Int)=1 then
 if (↑(List.length (QH.Parent x5)):Int)=1 then
 (atI (QH.Cap x5) 0).bind fun x6 =>
 some (Decidable.decide (x6=0))
 else
 some false
 else
 some false
 else
 some false
 else
 some false
 else
 some false
def ZM9:Ctr:=D1 (ZjX) (.bool) ZqV
def Zrh (a0:Zbk) (a1:Zv):Option Bool :=
 (Zpt (Zv.Design a1)).bind fun y0 =>
 if Zbk.Kind a0=1 then
 (atI y0 (Zbk.Place a0)).bind fun x0 =>
 if 0≤Zbl.instance x0 then
 if (Zbl.drives x0)=true then
 (atI (Zp.Instances (Zv.Design a1)) (Zbl.instance x0)).bind fun x1 =>
 (atI (ZaF.Cells (Zv.Library a1)) (Zz.Cell x1)).bind fun x2 =>
 (atI (ZaF.Cells (Zv.Library a1)) (Zbk.Cell a0)).bind fun x3 =>
 (ZtT x2 x3).bind fun y1 =>
 some y1
 else
 some false
 else
 some false
 else
 if Zbk.Kind a0=2 then
 (atI y0 (Zbk.Place a0)).bind fun x0 =>
 if (Zbl.drives x0)=true then
 some false
 else
 (atI (ZaF.Cells (Zv.Library a1)) (Zbk.Cell a0)).bind fun x1 =>
 (ZqF x1).bind fun y2 =>
 if y2 then
 (VD (Zbk.Name a0)).bind fun y3 =>
 if y3 then
 (Zr0 (Zv.Design a1) (Zbk.Name a0)).bind fun y4 =>
 if y4<0 then
 (Zrg (Zv.Design a1) (Zbk.Name a0)).bind fun y5 =>
 some (Decidable.decide (y5<0))
 else
 some false
 else
 some false
 else
 some false
 else
 if Zbk.Kind a0=3 then
 (ZqV a1).bind fun y6 =>
 some y6
 else
 if Zbk.Kind a0=4 then
 (atI y0 (Zbk.Place a0)).bind fun x0 =>
 if (Zbl.drives x0)=true then
 some false
 else
 some (!Decidable.decide (Zbl.net x0=Zbk.Net a0))
 else
 (atI (Zv.ZlA a1) (Zbk.Net a0)).bind fun x0 =>
 (ZpM (QH.ZnH x0)).bind fun y7 =>
 (Zub (Zbk.ZoZ a0) y7).bind fun y8 =>
 some y8
def c182:Ctr:=D2 (Zn2) (ZjX) (.bool) Zrh
def ZsA (e0:Zbk) (b0:Zv):Option Int :=
 (ZrH e0 b0).bind fun y0 =>
 if y0 then
 (Zrh e0 b0).bind fun y1 =>
 if y1 then
 if Zbk.Kind e0=2 then
 if (↑(List.length (Zp.Instances (Zv.Design b0))):Int)=14 then
 some 3
 else
 if (↑(List.length (Zp.Zbh (Zv.Design b0))):Int)=30 then
 some 3
 else
 some 0
 else
 some 0
 else
 some 5
 else
 some 2
def c183:Ctr:=D2 (Zn2) (ZjX) Iq ZsA
def ZqE (b0:Zv) (e0:Zbk):Option Int :=
 (ZtD b0).bind fun y0 =>
 if y0 then
 (ZsA e0 b0).bind fun y1 =>
 some y1
 else
 some 1
def ZNa:Ctr:=D2 (ZjX) (Zn2) Iq ZqE
def Zrb (list0:List Zz):Option Int :=
 some (↑list0.length:Int)
def ZNb:Ctr:=D1 (.sl (ZdO)) Iq Zrb
def ZKq (e0:Zbk) (Instance0:Int) (places0:List Zbl) (out0:List Int) (v0:Int):Option (((List Int)×Int×Unit) ⊕ List Int) :=
 if v0<(↑places0.length:Int) then
 (atI places0 v0).bind fun x0 =>
 if Zbk.Kind e0=2 then
 if Zbl.instance x0<0 then
 Zj ((List.length out0+List.length [Wq (v0+(2:Int))])*(8:Nat)≤(140737488355328:Nat)) <|
 some (.inl (out0++[Wq (v0+(2:Int))],Wq (v0+(1:Int)),()))
 else
 if Zbk.Kind e0=3 then
 if Zbl.instance x0<0 then
 Zj ((List.length out0+List.length [Wq (v0-(2:Int))])*(8:Nat)≤(140737488355328:Nat)) <|
 some (.inl (out0++[Wq (v0-(2:Int))],Wq (v0+(1:Int)),()))
 else
 if Zbk.Kind e0=3 then
 if Zbl.instance x0=Wq (Instance0-1) then
 Zj ((List.length out0+List.length [(-1:Int)])*(8:Nat)≤(140737488355328:Nat)) <|
 some (.inl (out0++[(-1:Int)],Wq (v0+(1:Int)),()))
 else
 Zj ((List.length out0+List.length [v0])*(8:Nat)≤(140737488355328:Nat)) <|
 some (.inl (out0++[v0],Wq (v0+(1:Int)),()))
 else
 Zj ((List.length out0+List.length [v0])*(8:Nat)≤(140737488355328:Nat)) <|
 some (.inl (out0++[v0],Wq (v0+(1:Int)),()))
 else
 if Zbk.Kind e0=3 then
 if Zbl.instance x0=Wq (Instance0-1) then
 Zj ((List.length out0+List.length [(-1:Int)])*(8:Nat)≤(140737488355328:Nat)) <|
 some (.inl (out0++[(-1:Int)],Wq (v0+(1:Int)),()))
 else
 Zj ((List.length out0+List.length [v0])*(8:Nat)≤(140737488355328:Nat)) <|
 some (.inl (out0++[v0],Wq (v0+(1:Int)),()))
 else
 Zj ((List.length out0+List.length [v0])*(8:Nat)≤(140737488355328:Nat)) <|
 some (.inl (out0++[v0],Wq (v0+(1:Int)),()))
 else
 if Zbk.Kind e0=3 then
 if Zbl.instance x0<0 then
 Zj ((List.length out0+List.length [Wq (v0-(2:Int))])*(8:Nat)≤(140737488355328:Nat)) <|
 some (.inl (out0++[Wq (v0-(2:Int))],Wq (v0+(1:Int)),()))
 else
 if Zbk.Kind e0=3 then
 if Zbl.instance x0=Wq (Instance0-1) then
 Zj ((List.length out0+List.length [(-1:Int)])*(8:Nat)≤(140737488355328:Nat)) <|
 some (.inl (out0++[(-1:Int)],Wq (v0+(1:Int)),()))
 else
 Zj ((List.length out0+List.length [v0])*(8:Nat)≤(140737488355328:Nat)) <|
 some (.inl (out0++[v0],Wq (v0+(1:Int)),()))
 else
 Zj ((List.length out0+List.length [v0])*(8:Nat)≤(140737488355328:Nat)) <|
 some (.inl (out0++[v0],Wq (v0+(1:Int)),()))
 else
 if Zbk.Kind e0=3 then
 if Zbl.instance x0=Wq (Instance0-1) then
 Zj ((List.length out0+List.length [(-1:Int)])*(8:Nat)≤(140737488355328:Nat)) <|
 some (.inl (out0++[(-1:Int)],Wq (v0+(1:Int)),()))
 else
 Zj ((List.length out0+List.length [v0])*(8:Nat)≤(140737488355328:Nat)) <|
 some (.inl (out0++[v0],Wq (v0+(1:Int)),()))
 else
 Zj ((List.length out0+List.length [v0])*(8:Nat)≤(140737488355328:Nat)) <|
 some (.inl (out0++[v0],Wq (v0+(1:Int)),()))
 else
 some (.inr out0)
def ZKs (e0:Zbk) (b0:Zv):Option (List Int) :=
 (Zrb (Zp.Instances (Zv.Design b0))).bind fun y0 =>
 (Zpt (Zv.Design b0)).bind fun y1 =>
 ZA (fun v=>ZKq e0 y0 y1 v.1 v.2.1) (([]:List Int),(0:Int),())
def ZNc:Ctr:=⟨[.dat (Zn2),.dat (ZjX)],[.own (.ol 2 (.flat Iq))],fun a K=>splitK a fun e0 a=>splitK a fun b0 a=>XU (ZKs e0 b0) fun r=>K (r,()) ()⟩
def ZKr (b0:Zv) (e0:Zbk):Option ((List Int)×Int) :=
 (ZqE b0 e0).bind fun y0 =>
 if y0=0 then
 (ZKs e0 b0).bind fun y1 =>
 some (y1,0)
 else
 some (([]:List Int),y0)
def ZNd:Ctr:=⟨[.dat (ZjX),.dat (Zn2)],[.own (.ol 2 (.flat Iq)),.dat Iq],fun a K=>splitK a fun b0 a=>splitK a fun e0 a=>XU (ZKr b0 e0) fun r=>K (r.1,r.2,()) ()⟩
def ZKD (l0:ZaF) (d0:Zp):Option Int :=
 (ZtW l0 d0).bind fun y0 =>
 if y0 then
 (YJ d0).bind fun y1 =>
 some (↑y1.length:Int)
 else
 some (-1)
def ZNe:Ctr:=D2 (Zc3) (ZdN) Iq ZKD
def ZK8 (l0:ZaF) (d0:Zp) (number0:Int):Option (Zbl×Bool) :=
 (ZtS l0 d0).bind fun y0 =>
 if y0 then
 (Zpt d0).bind fun y1 =>
 (ZrV y1).bind fun y2 =>
 (YA number0 0 (Wq (y2-1))).bind fun y3 =>
 if y3 then
 (atI y1 number0).bind fun x0 =>
 some (x0,true)
 else
 some ((0,0,0,false,()),false)
 else
 some ((0,0,0,false,()),false)
def ZNf:Ctr:=⟨[.dat (Zc3),.dat (ZdN),.dat Iq],[.dat (ZjZ),.dat (.bool)],fun a K=>splitK a fun l0 a=>splitK a fun d0 a=>splitK a fun number0 a=>XU (ZK8 l0 d0 number0) fun r=>K (r.1,r.2,()) ()⟩
def ZKp (d0:Zp) (l0:ZaF) (p0:Zbl):Option (List UInt8) :=
 if Zbl.instance p0<0 then
 (atI (Zp.Vk d0) (Zbl.pin p0)).bind fun x0 =>
 some (Zah.Name x0)
 else
 (atI (Zp.Instances d0) (Zbl.instance p0)).bind fun x0 =>
 Zj ((↑(List.length (Zz.Name x0)):Int)+(↑(List.length [(47:UInt8)]):Int)≤(9223372036854775807:Int)) <|
 (atI (ZaF.Cells l0) (Zz.Cell x0)).bind fun x1 =>
 (atI (QG.ZoY x1) (Zbl.pin p0)).bind fun x2 =>
 Zj ((↑(List.length (Zz.Name x0++[(47:UInt8)])):Int)+(↑(List.length (ZhU.Name x2)):Int)≤(9223372036854775807:Int)) <|
 some (Zz.Name x0++[(47:UInt8)]++ZhU.Name x2)
def ZNg:Ctr:=D3 (ZdN) (Zc3) (ZjZ) (.str) ZKp
def ZKx (l0:ZaF) (d0:Zp) (place0:Int):Option (List UInt8) :=
 (ZK8 l0 d0 place0).bind fun y0 =>
 if y0.snd then
 (ZKp d0 l0 y0.fst).bind fun y1 =>
 some y1
 else
 some ([]:List UInt8)
def ZNh:Ctr:=D3 (Zc3) (ZdN) Iq (.str) ZKx
def ZKt (DrawPlacesAfter0:Zv×Zbk) (PlacesAfter0:List Int×Int) (ApplyEdit0:Zv×Int) (v0:Int):Option ((Int×Unit) ⊕ Bool) :=
 if v0<(↑(List.length PlacesAfter0.fst):Int) then
 (atI PlacesAfter0.fst v0).bind fun x0 =>
 if 0≤x0 then
 (ZKx DrawPlacesAfter0.fst.fst DrawPlacesAfter0.fst.snd.fst v0).bind fun y0 =>
 (ZKx ApplyEdit0.fst.fst ApplyEdit0.fst.snd.fst x0).bind fun y1 =>
 if y0=y1 then
 if 0<v0 then
 if 0≤x0 then
 (atI PlacesAfter0.fst (Wq (v0-1))).bind fun x1 =>
 if x0≤x1 then
 some (.inr false)
 else
 some (.inl (Wq (v0+1),()))
 else
 some (.inl (Wq (v0+1),()))
 else
 some (.inl (Wq (v0+1),()))
 else
 some (.inr false)
 else
 if 0<v0 then
 if 0≤x0 then
 (atI PlacesAfter0.fst (Wq (v0-1))).bind fun x1 =>
 if x0≤x1 then
 some (.inr false)
 else
 some (.inl (Wq (v0+1),()))
 else
 some (.inl (Wq (v0+1),()))
 else
 some (.inl (Wq (v0+1),()))
 else
 some (.inr (Decidable.decide (0<(↑(List.length PlacesAfter0.fst):Int))))
def ZKI (a0:List Int):Option Bool :=
 (ZbE a0).bind fun y0 =>
 if y0 then
 some true
 else
 (ZKw a0).bind fun y1 =>
 (ZKr y1.fst y1.snd).bind fun y2 =>
 (ZsB y1.fst y1.snd).bind fun y3 =>
 if y2.snd=y3.snd then
 if y2.snd=0 then
 (ZKD y1.fst.fst y1.fst.snd.fst).bind fun y4 =>
 if (↑(List.length y2.fst):Int)=y4 then
 ZA (fun v=>ZKt y1 y2 y3 v.1) ((0:Int),())
 else
 some false
 else
 some (Decidable.decide ((↑(List.length y2.fst):Int)=0))
 else
 some false
def ZLa:Ctr:=⟨[.dat (.sl (.int .u8))],[.dat (.bool)],fun a K=>splitK a fun a0 a=>XU (ZKI a0) fun r=>K (r,()) ()⟩
def Zpk (s0:List Int):Option (List Int) :=
 Zj ((List.length (([]:List Int))+List.length s0)*(8:Nat)≤(140737488355328:Nat)) <|
 some (([]:List Int)++s0)
def ZrG (net0:Int) (places0:List Zbl) (list0:List Int) (v0:Int):Option (((List Int)×Int×Unit) ⊕ List Int) :=
 if v0<(↑places0.length:Int) then
 (atI places0 v0).bind fun x0 =>
 if Zbl.net x0=net0 then
 if (Zbl.drives x0)=true then
 some (.inl (list0,Wq (v0+1),()))
 else
 Zj ((List.length list0+List.length [v0])*(8:Nat)≤(140737488355328:Nat)) <|
 some (.inl (list0++[v0],Wq (v0+(1:Int)),()))
 else
 some (.inl (list0,Wq (v0+1),()))
 else
 some (.inr list0)
def Zsh (d0:Zp) (net0:Int):Option (List Int) :=
 (Zpt d0).bind fun y0 =>
 ZA (fun v=>ZrG net0 y0 v.1 v.2.1) (([]:List Int),(0:Int),())
def Zqq (s0:List ZhU):Option (List ZhU) :=
 Zj ((List.length (([]:List (List UInt8×Int×Int×Bool×Unit)))+List.length s0)*(40:Nat)≤(140737488355328:Nat)) <|
 some (([]:List (List UInt8×Int×Int×Bool×Unit))++s0)
def Zqp (s0:List ZfN):Option (List ZfN) :=
 Zj ((List.length (([]:List (Int×Int×Int×Int×List Jy×List Jy×Unit)))+List.length s0)*(80:Nat)≤(140737488355328:Nat)) <|
 some (([]:List (Int×Int×Int×Int×List Jy×List Jy×Unit))++s0)
def ZqZ (list0:List Jy) (out0:List Jy) (v0:Int):Option (((List Jy)×Int×Unit) ⊕ List Jy) :=
 if v0<(↑list0.length:Int) then
 (atI list0 v0).bind fun x0 =>
 (Zpk (Jy.ZoG x0)).bind fun y0 =>
 (Zpk (Jy.Loads x0)).bind fun y1 =>
 (Zpk (Jy.Values x0)).bind fun y2 =>
 Zj ((List.length out0+List.length [(y0,y1,y2,())])*(72:Nat)≤(140737488355328:Nat)) <|
 some (.inl (out0++[(y0,y1,y2,())],Wq (v0+(1:Int)),()))
 else
 some (.inr out0)
def ZrO (list0:List Jy):Option (List Jy) :=
 ZA (fun v=>ZqZ list0 v.1 v.2.1) (([]:List Jy),(0:Int),())
def Zqe (v0:Int) (c0:List QG) (x0:QG) (Pin0:List ZhU) (int64_0:List Int) (Arc0:List ZfN) (v1:Int) (l1:List ZfN×Int):Option ((Int×(List ZfN×Int)×Unit) ⊕ ((Int×(List QG)×Unit) ⊕ ZaF)) :=
 if v1<(↑Arc0.length:Int) then
 (atI l1.fst v1).bind fun x1 =>
 Zj (l1.snd≤v1) <|
 (ZrO (ZfN.Delay x1)).bind fun y0 =>
 (ZrO (ZfN.Znd x1)).bind fun y1 =>
 Zj (v1=l1.snd) <|
 (atI l1.fst l1.snd).bind fun x2 =>
 some (.inl (Wq (v1+1),(List.set l1.fst (Int.toNat l1.snd) (ZfN.Kind x2,ZfN.From x2,ZfN.To x2,ZfN.ZoE x2,y0,y1,()),l1.snd+1),()))
 else
 Zj (l1.snd=(↑(List.length l1.fst):Int)) <|
 Zj ((List.length c0+List.length [(QG.Name x0,QG.Kind x0,Pin0,l1.fst,int64_0,x0.snd.snd.snd.snd.snd)])*(112:Nat)≤(140737488355328:Nat)) <|
 some (.inr (.inl (Wq (v0+(1:Int)),c0++[(QG.Name x0,QG.Kind x0,Pin0,l1.fst,int64_0,x0.snd.snd.snd.snd.snd)],())))
def ZpU (l0:ZaF) (v0:Int) (c0:List QG):Option ((Int×(List QG)×Unit) ⊕ ZaF) :=
 if v0<(↑(List.length (ZaF.Cells l0)):Int) then
 (atI (ZaF.Cells l0) v0).bind fun x0 =>
 (Zqq (QG.ZoY x0)).bind fun y0 =>
 (Zpk (QG.Truth x0)).bind fun y1 =>
 (Zqp (QG.ZoW x0)).bind fun y2 =>
 ZA (fun v=>Zqe v0 c0 x0 y0 y1 y2 v.1 v.2.1) ((0:Int),(y2,(0:Int)),())
 else
 some (.inr (c0,()))
def ZqN (l0:ZaF):Option ZaF :=
 ZA (fun v=>ZpU l0 v.1 v.2.1) ((0:Int),([]:List QG),())
def ZpP (s0:List Zz):Option (List Zz) :=
 Zj ((List.length (([]:List (List UInt8×Int×List Int×Unit)))+List.length s0)*(48:Nat)≤(140737488355328:Nat)) <|
 some (([]:List (List UInt8×Int×List Int×Unit))++s0)
def ZqR (s0:List (List UInt8)):Option (List (List UInt8)) :=
 Zj ((List.length (([]:List (List UInt8)))+List.length s0)*(16:Nat)≤(140737488355328:Nat)) <|
 some (([]:List (List UInt8))++s0)
def Zqg (s0:List Zah):Option (List Zah) :=
 Zj ((List.length (([]:List (List UInt8×Int×Int×Unit)))+List.length s0)*(32:Nat)≤(140737488355328:Nat)) <|
 some (([]:List (List UInt8×Int×Int×Unit))++s0)
def Zqd (Instance0:List Zz) (string0:List (List UInt8)) (Port0:List Zah) (v0:Int) (l0:List Zz×Int):Option ((Int×(List Zz×Int)×Unit) ⊕ Zp) :=
 if v0<(↑Instance0.length:Int) then
 (atI l0.fst v0).bind fun x0 =>
 Zj (l0.snd≤v0) <|
 (Zpk (Zz.Zbh x0)).bind fun y0 =>
 Zj (v0=l0.snd) <|
 (atI l0.fst l0.snd).bind fun x1 =>
 some (.inl (Wq (v0+1),(List.set l0.fst (Int.toNat l0.snd) (Zz.Name x1,Zz.Cell x1,y0,()),l0.snd+1),()))
 else
 Zj (l0.snd=(↑(List.length l0.fst):Int)) <|
 some (.inr (l0.fst,string0,Port0,()))
def ZqL (d0:Zp):Option Zp :=
 (ZpP (Zp.Instances d0)).bind fun y0 =>
 (ZqR (Zp.Zbh d0)).bind fun y1 =>
 (Zqg (Zp.Vk d0)).bind fun y2 =>
 ZA (fun v=>Zqd y0 y1 y2 v.1 v.2.1) ((0:Int),(y0,(0:Int)),())
def Zrt (w0:QH):Option QH :=
 (Zpk (QH.Parent w0)).bind fun y0 =>
 (Zpk (QH.Res w0)).bind fun y1 =>
 (Zpk (QH.Cap w0)).bind fun y2 =>
 (Zpk (QH.ZnH w0)).bind fun y3 =>
 some (y0,y1,y2,y3,())
def ZqW (b0:Zv) (cloneLibrary0:ZaF) (clone0:Zp) (v0:Int) (c0:List QH):Option ((Int×(List QH)×Unit) ⊕ Zv) :=
 if v0<(↑(List.length (Zv.ZlA b0)):Int) then
 (atI (Zv.ZlA b0) v0).bind fun x0 =>
 (Zrt x0).bind fun y0 =>
 Zj ((List.length c0+List.length [y0])*(96:Nat)≤(140737488355328:Nat)) <|
 some (.inl (Wq (v0+(1:Int)),c0++[y0],()))
 else
 some (.inr (cloneLibrary0,clone0,c0,()))
def ZrM (b0:Zv):Option Zv :=
 (ZqN (Zv.Library b0)).bind fun y0 =>
 (ZqL (Zv.Design b0)).bind fun y1 =>
 ZA (fun v=>ZqW b0 y0 y1 v.1 v.2.1) ((0:Int),([]:List QH),())
def Zro (b0:Zv) (places0:List Zbl) (v0:Int) (m0:List ((Int×Int×Unit)×Int)) (l0:List Int):Option ((Int×(List ((Int×Int×Unit)×Int))×(List Int)×Unit) ⊕ List (Ze5×Int)) :=
 if v0<(↑places0.length:Int) then
 (atI places0 v0).bind fun x0 =>
 if (Zbl.drives x0)=true then
 some (.inl (Wq (v0+1),m0,l0,()))
 else
 (atI (Zv.ZlA b0) (Zbl.net x0)).bind fun x1 =>
 (atI l0 (Zbl.net x0)).bind fun x2 =>
 (atI (QH.ZnH x1) x2).bind fun x3 =>
 some (.inl (Wq (v0+1),ZkM Zys.ty Zys.ety m0 (Zbl.instance x0,Zbl.pin x0,()) x3,List.set l0 (Int.toNat (Zbl.net x0)) (Wq (x2+1)),()))
 else
 some (.inr m0)
def Zqc (b0:Zv):Option (List (Ze5×Int)) :=
 Zj ((0:Int)≤(↑(List.length (Zv.ZlA b0)):Int)) <|
 Zj ((↑(List.length (Zv.ZlA b0)):Int)≤(↑(List.length (Zv.ZlA b0)):Int)) <|
 Zj ((↑(List.length (Zv.ZlA b0)):Int)≤(4611686018427387904:Int)) <|
 Zj ((↑(8:Nat):Int)*(↑(List.length (Zv.ZlA b0)):Int)≤(281474976710656:Int)) <|
 (Zpt (Zv.Design b0)).bind fun y0 =>
 ZA (fun v=>Zro b0 y0 v.1 v.2.1 v.2.2.1) ((0:Int),([]:List ((Int×Int×Unit)×Int)),List.replicate (Int.toNat (↑(List.length (Zv.ZlA b0)):Int)) (0:Int),())
def ZqK (b0:Zv) (key0:Ze5) (net0:Int):Option Zv :=
 if Ze5.instance key0<0 then
 (atI (Zp.Vk (Zv.Design b0)) (Ze5.pin key0)).bind fun x0 =>
 some (Zv.Library b0,(Zp.Instances (Zv.Design b0),Zp.Zbh (Zv.Design b0),List.set (Zp.Vk (Zv.Design b0)) (Int.toNat (Ze5.pin key0)) (Zah.Name x0,Zah.Dir x0,net0,()),()),b0.snd.snd)
 else
 (atI (Zp.Instances (Zv.Design b0)) (Ze5.instance key0)).bind fun x0 =>
 (atI x0.snd.snd.fst (Ze5.pin key0)).bind fun x1 =>
 some (Zv.Library b0,(List.set (Zp.Instances (Zv.Design b0)) (Int.toNat (Ze5.instance key0)) (x0.fst,x0.snd.fst,List.set x0.snd.snd.fst (Int.toNat (Ze5.pin key0)) net0,()),(Zv.Design b0).snd),b0.snd.snd)
def Zrn (b0:Zv) (nodes0:List (Ze5×Int)) (places0:List Zbl) (v1:Int) (l1:List (List Int×List Int×List Int×List Int×Unit)):Option ((Int×(List (List Int×List Int×List Int×List Int×Unit))×Unit) ⊕ ((Int×(List (List Int×List Int×List Int×List Int×Unit))×Unit) ⊕ Zv)) :=
 if v1<(↑places0.length:Int) then
 (atI places0 v1).bind fun x0 =>
 if (Zbl.drives x0)=true then
 some (.inl (Wq (v1+1),l1,()))
 else
 (atI l1 (Zbl.net x0)).bind fun x1 =>
 Zj ((List.length x1.snd.snd.snd.fst+List.length [Option.getD (Zjr Zmh (Ty.int IntKind.i64) nodes0 (Zbl.instance x0,Zbl.pin x0,())) (0:Int)])*(8:Nat)≤(140737488355328:Nat)) <|
 some (.inl (Wq (v1+(1:Int)),List.set l1 (Int.toNat (Zbl.net x0)) (x1.fst,x1.snd.fst,x1.snd.snd.fst,x1.snd.snd.snd.fst++[Option.getD (Zjr Zmh (Ty.int IntKind.i64) nodes0 (Zbl.instance x0,Zbl.pin x0,())) (0:Int)],()),()))
 else
 some (.inr (.inr (Zv.Library b0,Zv.Design b0,l1,())))
def Zqx (b0:Zv) (nodes0:List (Ze5×Int)) (v0:Int) (l0:List (List Int×List Int×List Int×List Int×Unit)):Option ((Int×(List (List Int×List Int×List Int×List Int×Unit))×Unit) ⊕ Zv) :=
 if v0<(↑(List.length (Zv.ZlA b0)):Int) then
 (atI l0 v0).bind fun x0 =>
 some (.inl (Wq (v0+(1:Int)),List.set l0 (Int.toNat v0) (x0.fst,x0.snd.fst,x0.snd.snd.fst,([]:List Int),()),()))
 else
 (Zpt (Zv.Design b0)).bind fun y0 =>
 ZA (fun v=>Zrn b0 nodes0 y0 v.1 v.2.1) ((0:Int),l0,())
def Zqb (b0:Zv) (nodes0:List (Ze5×Int)):Option Zv :=
 ZA (fun v=>Zqx b0 nodes0 v.1 v.2.1) ((0:Int),Zv.ZlA b0,())
def Zsf (a0:Zv) (a1:Zbk):Option Zv :=
 (Zqc a0).bind fun y0 =>
 (Zpt (Zv.Design a0)).bind fun y1 =>
 (atI y1 (Zbk.Place a1)).bind fun x0 =>
 (ZpQ (Zp.Zbh (Zv.Design a0))).bind fun y2 =>
 (Zrb (Zp.Instances (Zv.Design a0))).bind fun y3 =>
 Zj ((List.length (Zp.Instances (Zv.Design a0))+List.length [(Zbk.Name a1,Zbk.Cell a1,[Zbl.net x0,y2],())])*(48:Nat)≤(140737488355328:Nat)) <|
 Zj ((List.length (Zp.Zbh (Zv.Design a0))+List.length [Zbk.Name a1])*(16:Nat)≤(140737488355328:Nat)) <|
 Zj ((List.length (Zv.ZlA a0)+List.length [([(-1:Int)],[(0:Int)],[(0:Int)],([]:List Int),())])*(96:Nat)≤(140737488355328:Nat)) <|
 (ZqK (Zv.Library a0,(Zp.Instances (Zv.Design a0)++[(Zbk.Name a1,Zbk.Cell a1,[Zbl.net x0,y2],())],Zp.Zbh (Zv.Design a0)++[Zbk.Name a1],(Zv.Design a0).snd.snd),Zv.ZlA a0++[([(-1:Int)],[(0:Int)],[(0:Int)],([]:List Int),())],()) (Zbl.instance x0,Zbl.pin x0,()) y2).bind fun y4 =>
 (Zqb y4 (ZkM Zmh (Ty.int IntKind.i64) (ZkM Zmh (Ty.int IntKind.i64) y0 (y3,0,()) (Option.getD (Zjr Zmh (Ty.int IntKind.i64) y0 (Zbl.instance x0,Zbl.pin x0,())) 0)) (Zbl.instance x0,Zbl.pin x0,()) 0)).bind fun y5 =>
 some y5
def ZqO (a0:Zv):Option (Ze5×Zv) :=
 (Zqc a0).bind fun y0 =>
 (Zpt (Zv.Design a0)).bind fun y1 =>
 (ZpQ (Zp.Zbh (Zv.Design a0))).bind fun y2 =>
 (Zsh (Zv.Design a0) (Wq (y2-1))).bind fun y3 =>
 (atI y3 0).bind fun x0 =>
 (atI y1 x0).bind fun x1 =>
 (atI (Zp.Instances (Zv.Design a0)) (Wq ((↑(List.length (Zp.Instances (Zv.Design a0))):Int)-1))).bind fun x2 =>
 (atI x2.snd.snd.fst 0).bind fun x3 =>
 (ZqK (Zv.Library a0,(List.set (Zp.Instances (Zv.Design a0)) (Int.toNat (Wq ((↑(List.length (Zp.Instances (Zv.Design a0))):Int)-1))) x2,(Zv.Design a0).snd),a0.snd.snd) (Zbl.instance x1,Zbl.pin x1,()) x3).bind fun y4 =>
 Zj ((0:Int)≤Wq ((↑(List.length (Zp.Instances (Zv.Design a0))):Int)-(1:Int))) <|
 Zj (Wq ((↑(List.length (Zp.Instances (Zv.Design a0))):Int)-(1:Int))≤(↑(List.length (Zp.Instances (Zv.Design y4))):Int)) <|
 Zj ((0:Int)≤Wq ((↑(List.length (Zp.Zbh (Zv.Design y4))):Int)-(1:Int))) <|
 Zj (Wq ((↑(List.length (Zp.Zbh (Zv.Design y4))):Int)-(1:Int))≤(↑(List.length (Zp.Zbh (Zv.Design y4))):Int)) <|
 Zj ((0:Int)≤Wq ((↑(List.length (Zv.ZlA y4)):Int)-(1:Int))) <|
 Zj (Wq ((↑(List.length (Zv.ZlA y4)):Int)-(1:Int))≤(↑(List.length (Zv.ZlA y4)):Int)) <|
 (Zqb (Zv.Library y4,(List.take (Int.toNat (Wq ((↑(List.length (Zp.Instances (Zv.Design a0))):Int)-1))-Int.toNat 0) (List.drop (Int.toNat 0) (Zp.Instances (Zv.Design y4))),List.take (Int.toNat (Wq ((↑(List.length (Zp.Zbh (Zv.Design y4))):Int)-1))-Int.toNat 0) (List.drop (Int.toNat 0) (Zp.Zbh (Zv.Design y4))),(Zv.Design y4).snd.snd),List.take (Int.toNat (Wq ((↑(List.length (Zv.ZlA y4)):Int)-1))-Int.toNat 0) (List.drop (Int.toNat 0) (Zv.ZlA y4)),()) (ZkM Zmh (Ty.int IntKind.i64) y0 (Zbl.instance x1,Zbl.pin x1,()) (Option.getD (Zjr Zmh (Ty.int IntKind.i64) y0 (Wq ((↑(List.length (Zp.Instances (Zv.Design a0))):Int)-1),0,())) 0))).bind fun y5 =>
 some ((Zbl.instance x1,Zbl.pin x1,()),y5)
def Zpy (a0:Zbk) (a1:Zv):Option Zv :=
 (ZrM a1).bind fun y0 =>
 if Zbk.Kind a0=1 then
 (Zpt (Zv.Design a1)).bind fun y1 =>
 (atI y1 (Zbk.Place a0)).bind fun x0 =>
 (atI (Zp.Instances (Zv.Design y0)) (Zbl.instance x0)).bind fun x1 =>
 some (Zv.Library y0,(List.set (Zp.Instances (Zv.Design y0)) (Int.toNat (Zbl.instance x0)) (x1.fst,Zbk.Cell a0,x1.snd.snd),(Zv.Design y0).snd),y0.snd.snd)
 else
 if Zbk.Kind a0=2 then
 (Zsf y0 a0).bind fun y2 =>
 some y2
 else
 if Zbk.Kind a0=3 then
 (ZqO y0).bind fun y3 =>
 some y3.snd
 else
 if Zbk.Kind a0=4 then
 (Zqc y0).bind fun y4 =>
 (Zpt (Zv.Design y0)).bind fun y1 =>
 (atI y1 (Zbk.Place a0)).bind fun x0 =>
 (ZqK y0 (Zbl.instance x0,Zbl.pin x0,()) (Zbk.Net a0)).bind fun y5 =>
 (Zqb y5 (ZkM Zmh (Ty.int IntKind.i64) y4 (Zbl.instance x0,Zbl.pin x0,()) (Zbk.Node a0))).bind fun y6 =>
 some y6
 else
 if Zbk.Kind a0=5 then
 (Zrt (Zbk.ZoZ a0)).bind fun y7 =>
 (atI (Zv.ZlA y0) (Zbk.Net a0)).bind fun x0 =>
 some (Zv.Library y0,Zv.Design y0,List.set (Zv.ZlA y0) (Int.toNat (Zbk.Net a0)) y7,())
 else
 some y0
def ZGM (a0:ZfN):Option (List (Int×Int×Unit)) :=
 if ZfN.Kind a0=2 then
 some ([((0:Int),(0:Int),()),((0:Int),(1:Int),())])
 else
 if ZfN.Kind a0=3 then
 some ([((1:Int),(0:Int),()),((1:Int),(1:Int),())])
 else
 if ZfN.Kind a0=1 then
 if ZfN.ZoE a0=1 then
 some ([((0:Int),(0:Int),()),((1:Int),(1:Int),())])
 else
 if ZfN.ZoE a0=2 then
 some ([((0:Int),(1:Int),()),((1:Int),(0:Int),())])
 else
 some ([((0:Int),(0:Int),()),((0:Int),(1:Int),()),((1:Int),(0:Int),()),((1:Int),(1:Int),())])
 else
 some ([]:List (Int×Int×Unit))
def ZGu (first0:Int) (v0:Int) (x2:ZfN) (transitions0:List (Int×Int×Unit)) (list1:List Ze4) (v1:Int):Option (((List Ze4)×Int×Unit) ⊕ (((List Ze4)×Int×Unit) ⊕ List Ze4)) :=
 if v1<(↑transitions0.length:Int) then
 (atI transitions0 v1).bind fun x3 =>
 Zj ((List.length list1+List.length [(Wq (Wq ((2:Int)*Wq (first0+ZfN.From x2))+x3.fst),Wq (Wq ((2:Int)*Wq (first0+ZfN.To x2))+x3.snd.fst),(1:Int),v0,())])*(32:Nat)≤(140737488355328:Nat)) <|
 some (.inl (list1++[(Wq (Wq ((2:Int)*Wq (first0+ZfN.From x2))+x3.fst),Wq (Wq ((2:Int)*Wq (first0+ZfN.To x2))+x3.snd.fst),(1:Int),v0,())],Wq (v1+(1:Int)),()))
 else
 some (.inr (.inl (list1,Wq (v0+1),())))
def ZGv (first0:Int) (x1:QG) (list0:List Ze4) (v0:Int):Option (((List Ze4)×Int×Unit) ⊕ List Ze4) :=
 if v0<(↑(List.length (QG.ZoW x1)):Int) then
 (atI (QG.ZoW x1) v0).bind fun x2 =>
 (ZGM x2).bind fun y0 =>
 ZA (fun v=>ZGu first0 v0 x2 y0 v.1 v.2.1) (list0,(0:Int),())
 else
 some (.inr list0)
def ZGN (b0:Zv) (x0:Zz) (first0:Int):Option (List Ze4) :=
 (atI (ZaF.Cells (Zv.Library b0)) (Zz.Cell x0)).bind fun x1 =>
 ZA (fun v=>ZGv first0 x1 v.1 v.2.1) (([]:List Ze4),(0:Int),())
end
end Go.Proofs.YtnnbgbgapogckaaGreatDoor
