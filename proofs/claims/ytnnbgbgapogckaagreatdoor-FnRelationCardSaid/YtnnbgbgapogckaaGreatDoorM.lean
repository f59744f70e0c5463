/-
 The models of the functions and their contracts. Printed by program.
-/
import Derived.Test.YtnnbgbgapogckaaGreatDoorSxTab
import Derived.Test.YtnnbgbgapogckaaGreatDoorSxS0
import Derived.Test.YtnnbgbgapogckaaGreatDoorSxLib
namespace Go.Proofs.YtnnbgbgapogckaaGreatDoor
open Go Go.Sx
set_option maxRecDepth 100000
set_option maxHeartbeats 6400000
set_option linter.unusedVariables false
set_option linter.unusedSimpArgs false
noncomputable section
abbrev Iq:Ty:=.int .i64
abbrev Wq:=IntKind.wrap IntKind.i64
abbrev Sq:=Zd Tryz.prog
theorem Bq {α β:Type} (x:α) (f:α→Option β):(some x).bind f=f x:=rfl
def ZbE (code0:List Int):Option Bool :=
 some (Decidable.decide (4096<(↑code0.length:Int)))
def c0:Ctr:=D1 (.sl (.int .u8)) (.bool) ZbE
def Xp (code0:List Int) (i0:Int) (c0:Int):Option ((Int×Int×Unit) ⊕ Za) :=
 if i0<(↑code0.length:Int) then
 if i0<64 then
 (atI code0 i0).bind fun x0 =>
 some (.inl (Wq (i0+1),Int.tmod (Wq (Wq (c0*31)+Wq x0)) 2147483647,()))
 else
 some (.inr (code0,0,c0,()))
 else
 some (.inr (code0,0,c0,()))
def Ve (code0:List Int):Option Za :=
 ZA (fun v=>Xp code0 v.1 v.2.1) ((0:Int),(12345:Int),())
def c1:Ctr:=⟨[.dat (.sl (.int .u8))],[.io (.flat (Yn))],fun a K=>splitK a fun code0 a=>XU (Ve code0) fun r=>K (r,()) ()⟩
def Zc (a0:Za) (a1:Int):Option (Int×Za) :=
 if a1≤1 then
 some (0,a0)
 else
 if Za.at a0<(↑(List.length (Za.code a0)):Int) then
 (atI (Za.code a0) (Za.at a0)).bind fun x0 =>
 if a1≤256 then
 Zj (a1≠(0:Int)) <|
 some (Int.tmod (Wq x0) a1,(Za.code a0,Wq (Za.at a0+1),a0.snd.snd))
 else
 Zj (a1≠(0:Int)) <|
 some (Int.tmod (Int.tmod (Wq (Wq (Wq (Za.seed a0*48271)+Wq x0)+1)) 2147483647) a1,(Za.code a0,Wq (Za.at a0+1),Int.tmod (Wq (Wq (Wq (Za.seed a0*48271)+Wq x0)+1)) 2147483647,()))
 else
 Zj (a1≠(0:Int)) <|
 some (Int.tmod (Wq (Int.tdiv (Int.tmod (Wq (Wq (Za.seed a0*48271)+11)) 2147483647) 7)) a1,(Za.code a0,Za.at a0,Int.tmod (Wq (Wq (Za.seed a0*48271)+11)) 2147483647,()))
def c2:Ctr:=⟨[.io (.flat (Yn)),.dat Iq],[.dat Iq],fun a K=>splitK a fun a0 a=>splitK a fun a1 a=>XU (Zc a0 a1) fun r=>K (r.1,()) (r.2,())⟩
def Xb (c0:QG) (pin0:Int) (raises0:Bool) (lowers0:Bool) (i0:Int):Option ((Bool×Bool×Int×Unit) ⊕ Int) :=
 if i0<(↑(List.length (QG.Truth c0)):Int) then
 if Go.bits Go.BinOp.and IntKind.i64 i0 (Wq (1*2 ^ Min.min (Int.toNat (IntKind.wrap IntKind.u64 pin0)) (IntKind.bits IntKind.i64)))=0 then
 if raises0 then
 if lowers0 then
 some (.inl (true,true,Wq (i0+1),()))
 else
 (atI (QG.Truth c0) i0).bind fun x0 =>
 (atI (QG.Truth c0) (Wq (i0+Wq (1*2 ^ Min.min (Int.toNat (IntKind.wrap IntKind.u64 pin0)) (IntKind.bits IntKind.i64))))).bind fun x1 =>
 some (.inl (true,Decidable.decide (x1<x0),Wq (i0+1),()))
 else
 (atI (QG.Truth c0) i0).bind fun x0 =>
 (atI (QG.Truth c0) (Wq (i0+Wq (1*2 ^ Min.min (Int.toNat (IntKind.wrap IntKind.u64 pin0)) (IntKind.bits IntKind.i64))))).bind fun x1 =>
 if lowers0 then
 some (.inl (Decidable.decide (x0<x1),true,Wq (i0+1),()))
 else
 some (.inl (Decidable.decide (x0<x1),Decidable.decide (x1<x0),Wq (i0+1),()))
 else
 some (.inl (raises0,lowers0,Wq (i0+1),()))
 else
 if raises0 then
 if lowers0 then
 some (.inr 3)
 else
 if raises0 then
 some (.inr 1)
 else
 if lowers0 then
 some (.inr 2)
 else
 some (.inr 0)
 else
 if raises0 then
 some (.inr 1)
 else
 if lowers0 then
 some (.inr 2)
 else
 some (.inr 0)
def X5 (c0:QG) (pin0:Int):Option Int :=
 Zj ((0:Int)≤IntKind.wrap IntKind.u64 pin0) <|
 ZA (fun v=>Xb c0 pin0 v.1 v.2.1 v.2.2.1) (false,false,(0:Int),())
def c3:Ctr:=D2 (Zin) Iq Iq X5
def Yv (step0:Int) (out0:List Int) (at0:Int) (n0:Int) (c0:List Int) (c1:Int) (c2:Int):Option (((List Int)×Int×Int×(List Int)×Int×Int×Unit) ⊕ ((List Int)×Za)) :=
 if 0<n0 then
 Zj ((List.length out0+List.length [at0])*(8:Nat)≤(140737488355328:Nat)) <|
 (Zc (c0,c1,c2,()) step0).bind fun y0 =>
 some (.inl (out0++[at0],Wq (Wq (at0+(1:Int))+y0.fst),Wq (n0-(1:Int)),y0.snd.fst,y0.snd.snd.fst,y0.snd.snd.snd.fst,()))
 else
 some (.inr (out0,(c0,c1,c2,())))
def YU (s0:Za) (step0:Int):Option ((List Int)×Za) :=
 (Zc s0 step0).bind fun y0 =>
 (Zc y0.snd 3).bind fun y1 =>
 ZA (fun v=>Yv step0 v.1 v.2.1 v.2.2.1 v.2.2.2.1 v.2.2.2.2.1 v.2.2.2.2.2.1) (([]:List Int),y0.fst,Wq ((1:Int)+y1.fst),y1.snd.fst,y1.snd.snd.fst,y1.snd.snd.snd.fst,())
def c4:Ctr:=⟨[.io (.flat (Yn)),.dat Iq],[.own (.ol 2 (.flat Iq))],fun a K=>splitK a fun s0 a=>splitK a fun step0 a=>XU (YU s0 step0) fun r=>K (r.1,()) (r.2,())⟩
def Xq (a1:Int) (l02DrawAxis0:List Int×Za) (l02DrawAxis1:List Int×Za) (v0:List Int) (v1:Int) (c0:List Int) (c1:Int) (c2:Int):Option (((List Int)×Int×(List Int)×Int×Int×Unit) ⊕ (Jy×Za)) :=
 if v1<Wq ((↑(List.length l02DrawAxis0.fst):Int)*(↑(List.length l02DrawAxis1.fst):Int)) then
 (Zc (c0,c1,c2,()) 10).bind fun y0 =>
 Zj ((↑(List.length l02DrawAxis1.fst):Int)≠(0:Int)) <|
 if 0<Int.tmod v1 (↑(List.length l02DrawAxis1.fst):Int) then
 (atI v0 (Wq (v1-1))).bind fun x0 =>
 (Zc y0.snd 20).bind fun y1 =>
 if (↑(List.length l02DrawAxis1.fst):Int)≤v1 then
 (atI v0 (Wq (v1-(↑(List.length l02DrawAxis1.fst):Int)))).bind fun x1 =>
 (Zc y1.snd 20).bind fun y2 =>
 Zj ((List.length v0+List.length [Max.max (Max.max (Wq (a1+y0.fst)) (Wq (x0+y1.fst))) (Wq (x1+y2.fst))])*(8:Nat)≤(140737488355328:Nat)) <|
 some (.inl (v0++[Max.max (Max.max (Wq (a1+y0.fst)) (Wq (x0+y1.fst))) (Wq (x1+y2.fst))],Wq (v1+(1:Int)),y2.snd.fst,y2.snd.snd.fst,y2.snd.snd.snd.fst,()))
 else
 Zj ((List.length v0+List.length [Max.max (Wq (a1+y0.fst)) (Wq (x0+y1.fst))])*(8:Nat)≤(140737488355328:Nat)) <|
 some (.inl (v0++[Max.max (Wq (a1+y0.fst)) (Wq (x0+y1.fst))],Wq (v1+(1:Int)),y1.snd.fst,y1.snd.snd.fst,y1.snd.snd.snd.fst,()))
 else
 if (↑(List.length l02DrawAxis1.fst):Int)≤v1 then
 (atI v0 (Wq (v1-(↑(List.length l02DrawAxis1.fst):Int)))).bind fun x0 =>
 (Zc y0.snd 20).bind fun y1 =>
 Zj ((List.length v0+List.length [Max.max (Wq (a1+y0.fst)) (Wq (x0+y1.fst))])*(8:Nat)≤(140737488355328:Nat)) <|
 some (.inl (v0++[Max.max (Wq (a1+y0.fst)) (Wq (x0+y1.fst))],Wq (v1+(1:Int)),y1.snd.fst,y1.snd.snd.fst,y1.snd.snd.snd.fst,()))
 else
 Zj ((List.length v0+List.length [Wq (a1+y0.fst)])*(8:Nat)≤(140737488355328:Nat)) <|
 some (.inl (v0++[Wq (a1+y0.fst)],Wq (v1+(1:Int)),y0.snd.fst,y0.snd.snd.fst,y0.snd.snd.snd.fst,()))
 else
 some (.inr ((l02DrawAxis0.fst,l02DrawAxis1.fst,v0,()),(c0,c1,c2,())))
def Qy (a0:Za) (a1:Int):Option (Jy×Za) :=
 (YU a0 60).bind fun y0 =>
 (YU y0.snd 40).bind fun y1 =>
 ZA (fun v=>Xq a1 y0 y1 v.1 v.2.1 v.2.2.1 v.2.2.2.1 v.2.2.2.2.1) (([]:List Int),(0:Int),y1.snd.fst,y1.snd.snd.fst,y1.snd.snd.snd.fst,())
def c5:Ctr:=⟨[.io (.flat (Yn)),.dat Iq],[.own (ZeG)],fun a K=>splitK a fun a0 a=>splitK a fun a1 a=>XU (Qy a0 a1) fun r=>K (r.1,()) (r.2,())⟩
def Z7 (s0:Za) (base0:Int):Option ((List Jy)×Za) :=
 (Qy s0 base0).bind fun y0 =>
 (Qy y0.snd base0).bind fun y1 =>
 some ([y0.fst,y1.fst],y1.snd)
def c6:Ctr:=⟨[.io (.flat (Yn)),.dat Iq],[.own (.ol 322 (ZeG))],fun a K=>splitK a fun s0 a=>splitK a fun base0 a=>XU (Z7 s0 base0) fun r=>K (r.1,()) (r.2,())⟩
def Yf (s0:Za) (kind0:Int) (from0:Int) (to0:Int) (sense0:Int):Option (ZfN×Za) :=
 if 4≤kind0 then
 (Zc s0 10).bind fun y0 =>
 (Z7 y0.snd (Wq (5-y0.fst))).bind fun y1 =>
 some ((kind0,from0,to0,(0:Int),y1.fst,([]:List Jy),()),y1.snd)
 else
 (Zc s0 20).bind fun y0 =>
 (Z7 y0.snd (Wq (5+y0.fst))).bind fun y1 =>
 (Z7 y1.snd 10).bind fun y2 =>
 some ((kind0,from0,to0,sense0,y1.fst,y2.fst,()),y2.snd)
def c7:Ctr:=⟨[.io (.flat (Yn)),.dat Iq,.dat Iq,.dat Iq,.dat Iq],[.own (ZmF)],fun a K=>splitK a fun s0 a=>splitK a fun kind0 a=>splitK a fun from0 a=>splitK a fun to0 a=>splitK a fun sense0 a=>XU (Yf s0 kind0 from0 to0 sense0) fun r=>K (r.1,()) (r.2,())⟩
def Xr (a1:List UInt8) (a2:List Int) (l01Next0:Int×Za) (l01Next1:Int×Za) (v0:List ZhU) (v2:List ZfN) (v3:Int) (c3:List Int) (c4:Int) (c5:Int):Option (((List ZfN)×Int×(List Int)×Int×Int×Unit) ⊕ (((List ZhU)×Int×(List Int)×Int×Int×Unit) ⊕ (QG×Za))) :=
 if v3<(↑v0.length:Int) then
 (X5 (a1,(1:Int),v0++[([(121:UInt8)],(2:Int),(0:Int),false,())],([]:List ZfN),a2,l01Next0.fst,l01Next1.fst,()) v3).bind fun y0 =>
 if y0=0 then
 some (.inl (v2,Wq (v3+1),c3,c4,c5,()))
 else
 (Yf (c3,c4,c5,()) 1 v3 (↑v0.length:Int) y0).bind fun y1 =>
 Zj ((List.length v2+List.length [y1.fst])*(80:Nat)≤(140737488355328:Nat)) <|
 some (.inl (v2++[y1.fst],Wq (v3+(1:Int)),y1.snd.fst,y1.snd.snd.fst,y1.snd.snd.snd.fst,()))
 else
 some (.inr (.inr ((a1,(1:Int),v0++[([(121:UInt8)],(2:Int),(0:Int),false,())],v2,a2,l01Next0.fst,l01Next1.fst,()),(c3,c4,c5,()))))
def Xt (a1:List UInt8) (a2:List Int) (l01Next0:Int×Za) (l01Next1:Int×Za) (v0:List ZhU) (v1:Int) (c0:List Int) (c1:Int) (c2:Int):Option (((List ZhU)×Int×(List Int)×Int×Int×Unit) ⊕ (QG×Za)) :=
 if v1<(↑a2.length:Int) then
 (atI ([[(97:UInt8)],[(98:UInt8)],[(99:UInt8)],[(100:UInt8)]]) (↑v0.length:Int)).bind fun x0 =>
 (Zc (c0,c1,c2,()) 9).bind fun y0 =>
 Zj ((List.length v0+List.length [(x0,(1:Int),Wq ((1:Int)+y0.fst),false,())])*(40:Nat)≤(140737488355328:Nat)) <|
 some (.inl (v0++[(x0,(1:Int),Wq ((1:Int)+y0.fst),false,())],Wq ((2:Int)*v1),y0.snd.fst,y0.snd.snd.fst,y0.snd.snd.snd.fst,()))
 else
 Zj ((List.length v0+List.length [([(121:UInt8)],(2:Int),(0:Int),false,())])*(40:Nat)≤(140737488355328:Nat)) <|
 ZA (fun v=>Xr a1 a2 l01Next0 l01Next1 v0 v.1 v.2.1 v.2.2.1 v.2.2.2.1 v.2.2.2.2.1) (([]:List ZfN),(0:Int),c0,c1,c2,())
def Y3 (a0:Za) (a1:List UInt8) (a2:List Int):Option (QG×Za) :=
 (Zc a0 50).bind fun y0 =>
 (Zc y0.snd 80).bind fun y1 =>
 ZA (fun v=>Xt a1 a2 y0 y1 v.1 v.2.1 v.2.2.1 v.2.2.2.1 v.2.2.2.2.1) (([]:List (List UInt8×Int×Int×Bool×Unit)),(1:Int),y1.snd.fst,y1.snd.snd.fst,y1.snd.snd.snd.fst,())
def c8:Ctr:=⟨[.io (.flat (Yn)),.dat (.str),.own (.ol 2 (.flat Iq))],[.own (ZiT)],fun a K=>splitK a fun a0 a=>splitK a fun a1 a=>splitK a fun a2 a=>XU (Y3 a0 a1 a2) fun r=>K (r.1,()) (r.2,())⟩
def Yq (s0:Za) (name0:List UInt8) (kind0:Int) (edge0:Int):Option (QG×Za) :=
 (Zc s0 50).bind fun y0 =>
 (Zc y0.snd 80).bind fun y1 =>
 (Zc y1.snd 9).bind fun y2 =>
 (Zc y2.snd 9).bind fun y3 =>
 (Yf y3.snd edge0 1 2 0).bind fun y4 =>
 (Yf y4.snd 4 1 0 0).bind fun y5 =>
 (Yf y5.snd 5 1 0 0).bind fun y6 =>
 if kind0=3 then
 (Yf y6.snd 1 0 2 1).bind fun y7 =>
 Zj ((List.length [y4.fst,y5.fst,y6.fst]+List.length [y7.fst])*(80:Nat)≤(140737488355328:Nat)) <|
 some ((name0,kind0,[([(100:UInt8)],(1:Int),Wq ((1:Int)+y2.fst),false,()),([(99:UInt8),(107:UInt8)],(1:Int),Wq ((1:Int)+y3.fst),true,()),([(113:UInt8)],(2:Int),(0:Int),false,())],[y4.fst,y5.fst,y6.fst]++[y7.fst],([]:List Int),y0.fst,y1.fst,()),y7.snd)
 else
 some ((name0,kind0,[([(100:UInt8)],(1:Int),Wq ((1:Int)+y2.fst),false,()),([(99:UInt8),(107:UInt8)],(1:Int),Wq ((1:Int)+y3.fst),true,()),([(113:UInt8)],(2:Int),(0:Int),false,())],[y4.fst,y5.fst,y6.fst],([]:List Int),y0.fst,y1.fst,()),y6.snd)
def c9:Ctr:=⟨[.io (.flat (Yn)),.dat (.str),.dat Iq,.dat Iq],[.own (ZiT)],fun a K=>splitK a fun s0 a=>splitK a fun name0 a=>splitK a fun kind0 a=>splitK a fun edge0 a=>XU (Yq s0 name0 kind0 edge0) fun r=>K (r.1,()) (r.2,())⟩
def Vf (s0:Za):Option (ZaF×Za) :=
 (Y3 s0 [(105:UInt8),(110:UInt8),(118:UInt8)] [(1:Int),(0:Int)]).bind fun y0 =>
 (Y3 y0.snd [(98:UInt8),(117:UInt8),(102:UInt8)] [(0:Int),(1:Int)]).bind fun y1 =>
 (Y3 y1.snd [(110:UInt8),(97:UInt8),(110:UInt8),(100:UInt8)] [(1:Int),(1:Int),(1:Int),(0:Int)]).bind fun y2 =>
 (Y3 y2.snd [(120:UInt8),(111:UInt8),(114:UInt8)] [(0:Int),(1:Int),(1:Int),(0:Int)]).bind fun y3 =>
 (Y3 y3.snd [(109:UInt8),(117:UInt8),(120:UInt8)] [(0:Int),(1:Int),(0:Int),(1:Int),(0:Int),(0:Int),(1:Int),(1:Int)]).bind fun y4 =>
 (Yq y4.snd [(102:UInt8),(108:UInt8),(111:UInt8),(112:UInt8)] (2:Int) (2:Int)).bind fun y5 =>
 (Yq y5.snd [(102:UInt8),(108:UInt8),(111:UInt8),(112:UInt8),(110:UInt8)] (2:Int) (3:Int)).bind fun y6 =>
 (Yq y6.snd [(108:UInt8),(97:UInt8),(116:UInt8),(99:UInt8),(104:UInt8)] (3:Int) (2:Int)).bind fun y7 =>
 some (([y0.fst,y1.fst,y2.fst,y3.fst,y4.fst,y5.fst,y6.fst,y7.fst],()),y7.snd)
def c10:Ctr:=⟨[.io (.flat (Yn))],[.own (Zhl)],fun a K=>splitK a fun s0 a=>XU (Vf s0) fun r=>K (r.1,()) (r.2,())⟩
def ZN (rec0:Int→Option (List UInt8)) (n0:Int):Option (List UInt8) :=
 if n0<0 then
 (rec0 (Wq (0-n0))).bind fun r0 =>
 Zj ((↑(List.length [(45:UInt8)]):Int)+(↑r0.length:Int)≤(9223372036854775807:Int)) <|
 some ([(45:UInt8)]++r0)
 else
 if n0<10 then
 some (bytesOf [IntKind.wrap IntKind.u8 (Wq ((48:Int)+n0))])
 else
 (rec0 (Wq (Int.tdiv n0 10))).bind fun r0 =>
 Zj ((↑r0.length:Int)+(↑(List.length (bytesOf [IntKind.wrap IntKind.u8 (Wq ((48:Int)+Int.tmod n0 (10:Int)))])):Int)≤(9223372036854775807:Int)) <|
 some (r0++bytesOf [IntKind.wrap IntKind.u8 (Wq ((48:Int)+Int.tmod n0 (10:Int)))])
def Yp:Nat→Int→Option (List UInt8)
 | 0=>fun _=>none
 | n+1=>ZN (Yp n)
def XG (n0:Int):Option (List UInt8):=ZkQ (fun n=>Yp n n0)
def QJ (rec0:Int→Option (List UInt8)):Ctr:=⟨[.dat Iq],[.dat (.str)],fun a K=>splitK a fun n0 a=>XU (rec0 n0) fun r=>K (r,()) ()⟩
def c11:Ctr:=QJ XG
def Xv (v0:List Zz) (v1:List (List UInt8)) (v2:Int) (x0:Int) (l01Number0:List UInt8) (v3:Int) (c3:List Int) (c4:Int) (c5:Int) (c6:List Int):Option ((Int×(List Int)×Int×Int×(List Int)×Unit) ⊕ (((List Zz)×(List (List UInt8))×Int×(List Int)×Int×Int×Unit) ⊕ (Zp×Za))) :=
 (atI ([(2:Int),(2:Int),(3:Int),(3:Int),(4:Int),(3:Int),(3:Int),(3:Int)]) x0).bind fun x1 =>
 if v3<Wq (x1-1) then
 (Zc (c3,c4,c5,()) (Wq ((↑v1.length:Int)-1))).bind fun y0 =>
 (Zc y0.snd 3).bind fun y1 =>
 if y1.fst=0 then
 if 5≤x0 then
 if v3=1 then
 Zj ((List.length (([]:List Int))+List.length c6)*(8:Nat)≤(140737488355328:Nat)) <|
 Zj ((List.length (([]:List Int)++c6)+List.length [(0:Int)])*(8:Nat)≤(140737488355328:Nat)) <|
 some (.inl (Wq (v3+(1:Int)),y1.snd.fst,y1.snd.snd.fst,y1.snd.snd.snd.fst,([]:List Int)++c6++[(0:Int)],()))
 else
 Zj ((List.length (([]:List Int))+List.length c6)*(8:Nat)≤(140737488355328:Nat)) <|
 Zj ((List.length (([]:List Int)++c6)+List.length [Wq ((↑v1.length:Int)-(1:Int))])*(8:Nat)≤(140737488355328:Nat)) <|
 some (.inl (Wq (v3+(1:Int)),y1.snd.fst,y1.snd.snd.fst,y1.snd.snd.snd.fst,([]:List Int)++c6++[Wq ((↑v1.length:Int)-(1:Int))],()))
 else
 Zj ((List.length (([]:List Int))+List.length c6)*(8:Nat)≤(140737488355328:Nat)) <|
 Zj ((List.length (([]:List Int)++c6)+List.length [Wq ((↑v1.length:Int)-(1:Int))])*(8:Nat)≤(140737488355328:Nat)) <|
 some (.inl (Wq (v3+(1:Int)),y1.snd.fst,y1.snd.snd.fst,y1.snd.snd.snd.fst,([]:List Int)++c6++[Wq ((↑v1.length:Int)-(1:Int))],()))
 else
 if 5≤x0 then
 if v3=1 then
 Zj ((List.length (([]:List Int))+List.length c6)*(8:Nat)≤(140737488355328:Nat)) <|
 Zj ((List.length (([]:List Int)++c6)+List.length [(0:Int)])*(8:Nat)≤(140737488355328:Nat)) <|
 some (.inl (Wq (v3+(1:Int)),y1.snd.fst,y1.snd.snd.fst,y1.snd.snd.snd.fst,([]:List Int)++c6++[(0:Int)],()))
 else
 Zj ((List.length (([]:List Int))+List.length c6)*(8:Nat)≤(140737488355328:Nat)) <|
 Zj ((List.length (([]:List Int)++c6)+List.length [Wq ((1:Int)+y0.fst)])*(8:Nat)≤(140737488355328:Nat)) <|
 some (.inl (Wq (v3+(1:Int)),y1.snd.fst,y1.snd.snd.fst,y1.snd.snd.snd.fst,([]:List Int)++c6++[Wq ((1:Int)+y0.fst)],()))
 else
 Zj ((List.length (([]:List Int))+List.length c6)*(8:Nat)≤(140737488355328:Nat)) <|
 Zj ((List.length (([]:List Int)++c6)+List.length [Wq ((1:Int)+y0.fst)])*(8:Nat)≤(140737488355328:Nat)) <|
 some (.inl (Wq (v3+(1:Int)),y1.snd.fst,y1.snd.snd.fst,y1.snd.snd.snd.fst,([]:List Int)++c6++[Wq ((1:Int)+y0.fst)],()))
 else
 Zj ((List.length (([]:List Int))+List.length c6)*(8:Nat)≤(140737488355328:Nat)) <|
 Zj ((List.length (([]:List Int)++c6)+List.length [(↑v1.length:Int)])*(8:Nat)≤(140737488355328:Nat)) <|
 (XG (↑v1.length:Int)).bind fun y2 =>
 Zj ((↑(List.length [(110:UInt8)]):Int)+(↑y2.length:Int)≤(9223372036854775807:Int)) <|
 Zj ((List.length v1+List.length [[(110:UInt8)]++y2])*(16:Nat)≤(140737488355328:Nat)) <|
 Zj ((List.length v0+List.length [([(117:UInt8)]++l01Number0,x0,([]:List Int)++c6++[(↑v1.length:Int)],())])*(48:Nat)≤(140737488355328:Nat)) <|
 some (.inr (.inl (v0++[([(117:UInt8)]++l01Number0,x0,([]:List Int)++c6++[(↑v1.length:Int)],())],v1++[[(110:UInt8)]++y2],Wq (v2-(1:Int)),c3,c4,c5,())))
def Xw (a2:Bool) (v1:List (List UInt8)) (v3:Int) (c3:List Int) (c4:Int) (c5:Int) (l0:List (List UInt8×Int×List Int×Unit)):Option ((Int×(List Int)×Int×Int×(List (List UInt8×Int×List Int×Unit))×Unit) ⊕ (((List Zz)×(List (List UInt8))×Int×(List Int)×Int×Int×Unit) ⊕ (Zp×Za))) :=
 if v3<(↑l0.length:Int) then
 (Zc (c3,c4,c5,()) 4).bind fun y0 =>
 if y0.fst=0 then
 (atI l0 v3).bind fun x0 =>
 if x0.snd.fst=5 then
 (Zc y0.snd (Wq ((↑v1.length:Int)-1))).bind fun y1 =>
 (atI x0.snd.snd.fst 0).bind fun x1 =>
 some (.inl (Wq (v3+1),y1.snd.fst,y1.snd.snd.fst,y1.snd.snd.snd.fst,List.set l0 (Int.toNat v3) (x0.fst,x0.snd.fst,List.set x0.snd.snd.fst (Int.toNat 0) (Wq (1+y1.fst)),()),()))
 else
 if x0.snd.fst=6 then
 (Zc y0.snd (Wq ((↑v1.length:Int)-1))).bind fun y1 =>
 (atI x0.snd.snd.fst 0).bind fun x1 =>
 some (.inl (Wq (v3+1),y1.snd.fst,y1.snd.snd.fst,y1.snd.snd.snd.fst,List.set l0 (Int.toNat v3) (x0.fst,x0.snd.fst,List.set x0.snd.snd.fst (Int.toNat 0) (Wq (1+y1.fst)),()),()))
 else
 if a2 then
 (Zc y0.snd (Wq ((↑v1.length:Int)-1))).bind fun y1 =>
 (atI x0.snd.snd.fst 0).bind fun x1 =>
 some (.inl (Wq (v3+1),y1.snd.fst,y1.snd.snd.fst,y1.snd.snd.snd.fst,List.set l0 (Int.toNat v3) (x0.fst,x0.snd.fst,List.set x0.snd.snd.fst (Int.toNat 0) (Wq (1+y1.fst)),()),()))
 else
 some (.inl (Wq (v3+1),y0.snd.fst,y0.snd.snd.fst,y0.snd.snd.snd.fst,List.set l0 (Int.toNat v3) x0,()))
 else
 some (.inl (Wq (v3+1),y0.snd.fst,y0.snd.snd.fst,y0.snd.snd.snd.fst,l0,()))
 else
 Zj ((List.length (([]:List (List UInt8×Int×Int×Unit))++[([(99:UInt8),(107:UInt8)],(1:Int),(0:Int),()),([(97:UInt8)],(1:Int),(1:Int),()),([(98:UInt8)],(1:Int),(2:Int),())])+List.length [([(121:UInt8)],(2:Int),Wq ((↑v1.length:Int)-(1:Int)),())])*(32:Nat)≤(140737488355328:Nat)) <|
 (Zc (c3,c4,c5,()) 2).bind fun y0 =>
 if y0.fst=0 then
 (Zc y0.snd (Wq ((↑v1.length:Int)-1))).bind fun y1 =>
 Zj ((List.length (([]:List (List UInt8×Int×Int×Unit))++[([(99:UInt8),(107:UInt8)],(1:Int),(0:Int),()),([(97:UInt8)],(1:Int),(1:Int),()),([(98:UInt8)],(1:Int),(2:Int),())]++[([(121:UInt8)],(2:Int),Wq ((↑v1.length:Int)-(1:Int)),())])+List.length [([(122:UInt8)],(2:Int),Wq ((1:Int)+y1.fst),())])*(32:Nat)≤(140737488355328:Nat)) <|
 some (.inr (.inr ((l0,v1,([]:List (List UInt8×Int×Int×Unit))++[([(99:UInt8),(107:UInt8)],(1:Int),(0:Int),()),([(97:UInt8)],(1:Int),(1:Int),()),([(98:UInt8)],(1:Int),(2:Int),())]++[([(121:UInt8)],(2:Int),Wq ((↑v1.length:Int)-(1:Int)),())]++[([(122:UInt8)],(2:Int),Wq ((1:Int)+y1.fst),())],()),y1.snd)))
 else
 some (.inr (.inr ((l0,v1,([]:List (List UInt8×Int×Int×Unit))++[([(99:UInt8),(107:UInt8)],(1:Int),(0:Int),()),([(97:UInt8)],(1:Int),(1:Int),()),([(98:UInt8)],(1:Int),(2:Int),())]++[([(121:UInt8)],(2:Int),Wq ((↑v1.length:Int)-(1:Int)),())],()),y0.snd)))
def Xx (a2:Bool) (v0:List Zz) (v1:List (List UInt8)) (v2:Int) (c0:List Int) (c1:Int) (c2:Int):Option (((List Zz)×(List (List UInt8))×Int×(List Int)×Int×Int×Unit) ⊕ (Zp×Za)) :=
 if 0<v2 then
 (Zc (c0,c1,c2,()) 12).bind fun y0 =>
 (atI ([(0:Int),(1:Int),(2:Int),(2:Int),(3:Int),(4:Int),(5:Int),(5:Int),(5:Int),(6:Int),(7:Int),(1:Int)]) y0.fst).bind fun x0 =>
 (XG (↑v0.length:Int)).bind fun y1 =>
 Zj ((↑(List.length [(117:UInt8)]):Int)+(↑y1.length:Int)≤(9223372036854775807:Int)) <|
 ZA (fun v=>Xv v0 v1 v2 x0 y1 v.1 v.2.1 v.2.2.1 v.2.2.2.1 v.2.2.2.2.1) ((0:Int),y0.snd.fst,y0.snd.snd.fst,y0.snd.snd.snd.fst,([]:List Int),())
 else
 ZA (fun v=>Xw a2 v1 v.1 v.2.1 v.2.2.1 v.2.2.2.1 v.2.2.2.2.1) ((0:Int),c0,c1,c2,v0,())
def Vh (a0:Za) (a1:Int) (a2:Bool):Option (Zp×Za) :=
 (Zc a0 (Wq (a1-1))).bind fun y0 =>
 ZA (fun v=>Xx a2 v.1 v.2.1 v.2.2.1 v.2.2.2.1 v.2.2.2.2.1 v.2.2.2.2.2.1) (([]:List Zz),([]:List (List UInt8))++[[(110:UInt8),(99:UInt8),(107:UInt8)],[(110:UInt8),(97:UInt8)],[(110:UInt8),(98:UInt8)]],Wq ((2:Int)+y0.fst),y0.snd.fst,y0.snd.snd.fst,y0.snd.snd.snd.fst,())
def c12:Ctr:=⟨[.io (.flat (Yn)),.dat Iq,.dat (.bool)],[.own (ZiU)],fun a K=>splitK a fun a0 a=>splitK a fun a1 a=>splitK a fun a2 a=>XU (Vh a0 a1 a2) fun r=>K (r.1,()) (r.2,())⟩
def YW (v1:Int) (x0:Zz) (v2:List Zk) (v3:Int):Option (((List Zk)×Int×Unit) ⊕ (((List Zk)×Int×Unit) ⊕ List Zk)) :=
 if v3<(↑(List.length (Zz.Zbh x0)):Int) then
 (atI (Zz.Zbh x0) v3).bind fun x1 =>
 Zj ((List.length v2+List.length [(v1,v3,x1,Decidable.decide (v3=Wq ((↑(List.length (Zz.Zbh x0)):Int)-(1:Int))),())])*(32:Nat)≤(140737488355328:Nat)) <|
 some (.inl (v2++[(v1,v3,x1,Decidable.decide (v3=Wq ((↑(List.length (Zz.Zbh x0)):Int)-(1:Int))),())],Wq (v3+(1:Int)),()))
 else
 some (.inr (.inl (v2,Wq (v1+1),())))
def YX (a0:Zp) (v2:List Zk) (v3:Int):Option (((List Zk)×Int×Unit) ⊕ (((List Zk)×Int×Unit) ⊕ List Zk)) :=
 if v3<(↑(List.length (Zp.Vk a0)):Int) then
 (atI (Zp.Vk a0) v3).bind fun x0 =>
 Zj ((List.length v2+List.length [((-1:Int),v3,Zah.Net x0,Decidable.decide (Zah.Dir x0=(1:Int)),())])*(32:Nat)≤(140737488355328:Nat)) <|
 some (.inl (v2++[((-1:Int),v3,Zah.Net x0,Decidable.decide (Zah.Dir x0=(1:Int)),())],Wq (v3+(1:Int)),()))
 else
 some (.inr (.inr v2))
def YZ (a0:Zp) (v0:List Zk) (v1:Int):Option (((List Zk)×Int×Unit) ⊕ List Zk) :=
 if v1<(↑(List.length (Zp.Instances a0)):Int) then
 (atI (Zp.Instances a0) v1).bind fun x0 =>
 ZA (fun v=>YW v1 x0 v.1 v.2.1) (v0,(0:Int),())
 else
 ZA (fun v=>YX a0 v.1 v.2.1) (v0,(0:Int),())
def YJ (a0:Zp):Option (List Zk) :=
 ZA (fun v=>YZ a0 v.1 v.2.1) (([]:List (Int×Int×Int×Bool×Unit)),(0:Int),())
def c13:Ctr:=⟨[.dat (ZdN)],[.own (.ol 227 (.flat (JJ)))],fun a K=>splitK a fun a0 a=>XU (YJ a0) fun r=>K (r,()) ()⟩
def Xc (net0:Int) (l05Places0:List Zk) (out0:List Int) (i0:Int):Option (((List Int)×Int×Unit) ⊕ List Int) :=
 if i0<(↑l05Places0.length:Int) then
 (atI l05Places0 i0).bind fun x0 =>
 if Zk.net x0=net0 then
 if (Zk.drives x0)=true then
 some (.inl (out0,Wq (i0+1),()))
 else
 Zj ((List.length out0+List.length [i0])*(8:Nat)≤(140737488355328:Nat)) <|
 some (.inl (out0++[i0],Wq (i0+(1:Int)),()))
 else
 some (.inl (out0,Wq (i0+1),()))
 else
 some (.inr out0)
def QT (d0:Zp) (net0:Int):Option (List Int) :=
 (YJ d0).bind fun y0 =>
 ZA (fun v=>Xc net0 y0 v.1 v.2.1) (([]:List Int),(0:Int),())
def c14:Ctr:=⟨[.dat (ZdN),.dat Iq],[.own (.ol 2 (.flat Iq))],fun a K=>splitK a fun d0 a=>splitK a fun net0 a=>XU (QT d0 net0) fun r=>K (r,()) ()⟩
def Qi (sinks0:Int) (load0:Int):Option QH :=
 Zj ((0:Int)≤sinks0) <|
 Zj (sinks0≤sinks0) <|
 Zj (sinks0≤(4611686018427387904:Int)) <|
 Zj ((↑(8:Nat):Int)*sinks0≤(281474976710656:Int)) <|
 some ([(-1:Int)],[(0:Int)],[load0],List.replicate (Int.toNat sinks0) (0:Int),())
def c15:Ctr:=⟨[.dat Iq,.dat Iq],[.own (ZgI)],fun a K=>splitK a fun sinks0 a=>splitK a fun load0 a=>XU (Qi sinks0 load0) fun r=>K (r,()) ()⟩
def XT (list0:List Int):Option (List Int) :=
 Zj ((List.length (([]:List Int))+List.length list0)*(8:Nat)≤(140737488355328:Nat)) <|
 some (([]:List Int)++list0)
def c16:Ctr:=⟨[.dat (.sl Iq)],[.own (.ol 2 (.flat Iq))],fun a K=>splitK a fun list0 a=>XU (XT list0) fun r=>K (r,()) ()⟩
def Yw (c3:List Int) (c4:List Int) (c5:List Int) (i0:Int) (c7:List Int) (c8:Int) (c9:Int) (l0:List Int):Option ((Int×(List Int)×Int×Int×(List Int)×Unit) ⊕ ((Int×(List Int)×Int×Int×(List Int)×(List Int)×(List Int)×(List Int)×Unit) ⊕ (QH×Za))) :=
 if i0<(↑l0.length:Int) then
 (Zc (c7,c8,c9,()) (↑c3.length:Int)).bind fun y0 =>
 (atI l0 i0).bind fun x0 =>
 some (.inl (Wq (i0+1),y0.snd.fst,y0.snd.snd.fst,y0.snd.snd.snd.fst,List.set l0 (Int.toNat i0) y0.fst,()))
 else
 some (.inr (.inr ((c3,c4,c5,l0,()),(c7,c8,c9,()))))
def Yx (n0:Int) (c0:List Int) (c1:Int) (c2:Int) (c3:List Int) (c4:List Int) (c5:List Int) (c6:List Int):Option ((Int×(List Int)×Int×Int×(List Int)×(List Int)×(List Int)×(List Int)×Unit) ⊕ (QH×Za)) :=
 if 0<n0 then
 (XT c3).bind fun y0 =>
 (Zc (c0,c1,c2,()) (↑c3.length:Int)).bind fun y1 =>
 Zj ((List.length y0+List.length [y1.fst])*(8:Nat)≤(140737488355328:Nat)) <|
 (XT c4).bind fun y2 =>
 (Zc y1.snd 400).bind fun y3 =>
 Zj ((List.length y2+List.length [y3.fst])*(8:Nat)≤(140737488355328:Nat)) <|
 (XT c5).bind fun y4 =>
 (Zc y3.snd 8).bind fun y5 =>
 Zj ((List.length y4+List.length [y5.fst])*(8:Nat)≤(140737488355328:Nat)) <|
 some (.inl (Wq (n0-(1:Int)),y5.snd.fst,y5.snd.snd.fst,y5.snd.snd.snd.fst,y0++[y1.fst],y2++[y3.fst],y4++[y5.fst],c6,()))
 else
 ZA (fun v=>Yw c3 c4 c5 v.1 v.2.1 v.2.2.1 v.2.2.2.1 v.2.2.2.2.1) ((0:Int),c0,c1,c2,c6,())
def Xi (s0:Za) (sinks0:Int):Option (QH×Za) :=
 (Zc s0 6).bind fun y0 =>
 (Qi sinks0 y0.fst).bind fun y1 =>
 (Zc y0.snd 4).bind fun y2 =>
 ZA (fun v=>Yx v.1 v.2.1 v.2.2.1 v.2.2.2.1 v.2.2.2.2.1 v.2.2.2.2.2.1 v.2.2.2.2.2.2.1 v.2.2.2.2.2.2.2.1) (y2.fst,y2.snd.fst,y2.snd.snd.fst,y2.snd.snd.snd.fst,QH.Parent y1,QH.Res y1,QH.Cap y1,QH.ZnH y1,())
def c17:Ctr:=⟨[.io (.flat (Yn)),.dat Iq],[.own (ZgI)],fun a K=>splitK a fun s0 a=>splitK a fun sinks0 a=>XU (Xi s0 sinks0) fun r=>K (r.1,()) (r.2,())⟩
def Xy (l03Draw0:ZaF×Za) (l05Draw0:Zp×Za) (wires0:List QH) (net0:Int) (c0:List Int) (c1:Int) (c2:Int):Option (((List QH)×Int×(List Int)×Int×Int×Unit) ⊕ (Zv×Za)) :=
 if net0<(↑(List.length l05Draw0.fst.snd.fst):Int) then
 (QT l05Draw0.fst net0).bind fun y0 =>
 (Xi (c0,c1,c2,()) (↑y0.length:Int)).bind fun y1 =>
 Zj ((List.length wires0+List.length [y1.fst])*(96:Nat)≤(140737488355328:Nat)) <|
 some (.inl (wires0++[y1.fst],Wq (net0+(1:Int)),y1.snd.fst,y1.snd.snd.fst,y1.snd.snd.snd.fst,()))
 else
 some (.inr ((l03Draw0.fst,l05Draw0.fst,wires0,()),(c0,c1,c2,())))
def Qz (s0:Za) (most0:Int) (wild0:Bool):Option (Zv×Za) :=
 (Vf s0).bind fun y0 =>
 (Vh y0.snd most0 wild0).bind fun y1 =>
 ZA (fun v=>Xy y0 y1 v.1 v.2.1 v.2.2.1 v.2.2.2.1 v.2.2.2.2.1) (([]:List QH),(0:Int),y1.snd.fst,y1.snd.snd.fst,y1.snd.snd.snd.fst,())
def c18:Ctr:=⟨[.io (.flat (Yn)),.dat Iq,.dat (.bool)],[.own (Zhk)],fun a K=>splitK a fun s0 a=>splitK a fun most0 a=>splitK a fun wild0 a=>XU (Qz s0 most0 wild0) fun r=>K (r.1,()) (r.2,())⟩
def Xz (l01Next2:Int×Za) (v2:List Zb):Option (((List Zb)×Unit) ⊕ (((List Zb)×Int×(List Int)×Int×Int×Unit) ⊕ ((List Zb)×Za))) :=
 if (↑v2.length:Int)<7 then
 (atI v2 0).bind fun x0 =>
 (XG (↑v2.length:Int)).bind fun y0 =>
 Zj ((↑(List.length [(120:UInt8)]):Int)+(↑y0.length:Int)≤(9223372036854775807:Int)) <|
 Zj ((List.length v2+List.length [([(120:UInt8)]++y0,x0.snd)])*(96:Nat)≤(140737488355328:Nat)) <|
 some (.inl (v2++[([(120:UInt8)]++y0,x0.snd)],()))
 else
 some (.inr (.inr (v2,l01Next2.snd)))
def XA (v0:List Zb) (v1:Int) (c0:List Int) (c1:Int) (c2:Int):Option (((List Zb)×Int×(List Int)×Int×Int×Unit) ⊕ ((List Zb)×Za)) :=
 if 0<v1 then
 (Zc (c0,c1,c2,()) 30).bind fun y0 =>
 (XG (↑v0.length:Int)).bind fun y1 =>
 Zj ((↑(List.length [(99:UInt8)]):Int)+(↑y1.length:Int)≤(9223372036854775807:Int)) <|
 (Zc y0.snd 20).bind fun y2 =>
 (Zc y2.snd 20).bind fun y3 =>
 (Zc y3.snd 8).bind fun y4 =>
 if (↑v0.length:Int)=0 then
 (Zc y4.snd 7).bind fun y5 =>
 (atI ([(10:Int),(12:Int),(20:Int),(30:Int),(100:Int),(7:Int),(2:Int)]) y5.fst).bind fun x0 =>
 (Zc y5.snd x0).bind fun y6 =>
 (Zc y6.snd (Wq (x0-1))).bind fun y7 =>
 Zj (x0≠(0:Int)) <|
 Zj ((List.length v0+List.length [([(99:UInt8)]++y1,y2.fst,x0,y6.fst,Int.tmod (Wq (Wq (y6.fst+(1:Int))+y7.fst)) x0,(-1:Int),(1:Int),false,y0.fst,Wq (y0.fst+y3.fst),y4.fst,())])*(96:Nat)≤(140737488355328:Nat)) <|
 some (.inl (v0++[([(99:UInt8)]++y1,y2.fst,x0,y6.fst,Int.tmod (Wq (Wq (y6.fst+(1:Int))+y7.fst)) x0,(-1:Int),(1:Int),false,y0.fst,Wq (y0.fst+y3.fst),y4.fst,())],Wq (v1-(1:Int)),y7.snd.fst,y7.snd.snd.fst,y7.snd.snd.snd.fst,()))
 else
 (Zc y4.snd 3).bind fun y5 =>
 if y5.fst=0 then
 (Zc y5.snd 7).bind fun y6 =>
 (atI ([(10:Int),(12:Int),(20:Int),(30:Int),(100:Int),(7:Int),(2:Int)]) y6.fst).bind fun x0 =>
 (Zc y6.snd x0).bind fun y7 =>
 (Zc y7.snd (Wq (x0-1))).bind fun y8 =>
 Zj (x0≠(0:Int)) <|
 Zj ((List.length v0+List.length [([(99:UInt8)]++y1,y2.fst,x0,y7.fst,Int.tmod (Wq (Wq (y7.fst+(1:Int))+y8.fst)) x0,(-1:Int),(1:Int),false,y0.fst,Wq (y0.fst+y3.fst),y4.fst,())])*(96:Nat)≤(140737488355328:Nat)) <|
 some (.inl (v0++[([(99:UInt8)]++y1,y2.fst,x0,y7.fst,Int.tmod (Wq (Wq (y7.fst+(1:Int))+y8.fst)) x0,(-1:Int),(1:Int),false,y0.fst,Wq (y0.fst+y3.fst),y4.fst,())],Wq (v1-(1:Int)),y8.snd.fst,y8.snd.snd.fst,y8.snd.snd.snd.fst,()))
 else
 (Zc y5.snd (↑v0.length:Int)).bind fun y6 =>
 (Zc y6.snd 4).bind fun y7 =>
 (Zc y7.snd 3).bind fun y8 =>
 Zj ((List.length v0+List.length [([(99:UInt8)]++y1,y2.fst,(0:Int),(0:Int),(0:Int),y6.fst,Wq ((1:Int)+y7.fst),Decidable.decide (y8.fst=(0:Int)),y0.fst,Wq (y0.fst+y3.fst),y4.fst,())])*(96:Nat)≤(140737488355328:Nat)) <|
 some (.inl (v0++[([(99:UInt8)]++y1,y2.fst,(0:Int),(0:Int),(0:Int),y6.fst,Wq ((1:Int)+y7.fst),Decidable.decide (y8.fst=(0:Int)),y0.fst,Wq (y0.fst+y3.fst),y4.fst,())],Wq (v1-(1:Int)),y8.snd.fst,y8.snd.snd.fst,y8.snd.snd.snd.fst,()))
 else
 (Zc (c0,c1,c2,()) (↑v0.length:Int)).bind fun y0 =>
 (Zc y0.snd 30).bind fun y2 =>
 if y2.fst=0 then
 (Zc y2.snd 2).bind fun y3 =>
 (atI v0 y0.fst).bind fun x0 =>
 some (.inr (List.set v0 (Int.toNat y0.fst) (Zb.Name x0,Zb.Place x0,Zb.Qo x0,Zb.QX x0,Zb.Vm x0,Zb.Source x0,Wq (9*y3.fst),x0.snd.snd.snd.snd.snd.snd.snd),y3.snd))
 else
 if y2.fst=1 then
 (atI v0 y0.fst).bind fun x0 =>
 some (.inr (List.set v0 (Int.toNat y0.fst) (Zb.Name x0,Zb.Place x0,Zb.Qo x0,Zb.QX x0,Zb.QX x0,x0.snd.snd.snd.snd.snd),y2.snd))
 else
 if y2.fst=2 then
 (atI v0 0).bind fun x0 =>
 (atI v0 y0.fst).bind fun x1 =>
 some (.inr (List.set v0 (Int.toNat y0.fst) (Zb.Name x0,x1.snd),y2.snd))
 else
 if y2.fst=3 then
 (atI v0 y0.fst).bind fun x0 =>
 some (.inr (List.set v0 (Int.toNat y0.fst) (Zb.Name x0,Zb.Place x0,Zb.Qo x0,Zb.QX x0,Zb.Vm x0,y0.fst,x0.snd.snd.snd.snd.snd.snd),y2.snd))
 else
 if y2.fst=4 then
 (atI v0 y0.fst).bind fun x0 =>
 some (.inr (List.set v0 (Int.toNat y0.fst) (Zb.Name x0,Zb.Place x0,Zb.Qo x0,Zb.QX x0,Zb.Vm x0,Zb.Source x0,Zb.Divide x0,Zb.ZaU x0,Zb.Yg x0,Wq (Zb.Yg x0-1),x0.snd.snd.snd.snd.snd.snd.snd.snd.snd.snd),y2.snd))
 else
 if y2.fst=5 then
 (Zc y2.snd 2).bind fun y3 =>
 (atI v0 0).bind fun x0 =>
 some (.inr (List.set v0 (Int.toNat 0) (Zb.Name x0,Zb.Place x0,Wq (100000+y3.fst),x0.snd.snd.snd),y3.snd))
 else
 if y2.fst=6 then
 ZA (fun v=>Xz y2 v.1) (v0,())
 else
 some (.inr (v0,y2.snd))
def QB (a0:Za):Option ((List Zb)×Za) :=
 (Zc a0 5).bind fun y0 =>
 ZA (fun v=>XA v.1 v.2.1 v.2.2.1 v.2.2.2.1 v.2.2.2.2.1) (([]:List (List UInt8×Int×Int×Int×Int×Int×Int×Bool×Int×Int×Int×Unit)),Wq ((1:Int)+y0.fst),y0.snd.fst,y0.snd.snd.fst,y0.snd.snd.snd.fst,())
def c19:Ctr:=⟨[.io (.flat (Yn))],[.own (.ol 102 (.flat (Xd)))],fun a K=>splitK a fun a0 a=>XU (QB a0) fun r=>K (r.1,()) (r.2,())⟩
def Xu (s0:List UInt8) (i0:Int):Option ((Int×Unit) ⊕ Bool) :=
 if i0<(↑s0.length:Int) then
 (atI s0 i0).bind fun x0 =>
 if 97≤(↑(UInt8.toNat x0):Int) then
 if 48≤(↑(UInt8.toNat x0):Int) then
 if (↑(UInt8.toNat x0):Int)≤122 then
 some (.inl (Wq (i0+1),()))
 else
 if (↑(UInt8.toNat x0):Int)≤57 then
 if 0<i0 then
 some (.inl (Wq (i0+1),()))
 else
 some (.inr false)
 else
 some (.inr false)
 else
 if (↑(UInt8.toNat x0):Int)≤122 then
 some (.inl (Wq (i0+1),()))
 else
 some (.inr false)
 else
 if 48≤(↑(UInt8.toNat x0):Int) then
 if (↑(UInt8.toNat x0):Int)≤57 then
 if 0<i0 then
 some (.inl (Wq (i0+1),()))
 else
 some (.inr false)
 else
 some (.inr false)
 else
 some (.inr false)
 else
 if 1≤(↑s0.length:Int) then
 some (.inr (Decidable.decide ((↑s0.length:Int)≤8)))
 else
 some (.inr false)
def Vg (s0:List UInt8):Option Bool :=
 ZA (fun v=>Xu s0 v.1) ((0:Int),())
def c20:Ctr:=D1 (.str) (.bool) Vg
def Yd (n0:Int) (low0:Int) (high0:Int):Option Bool :=
 if low0≤n0 then
 some (Decidable.decide (n0≤high0))
 else
 some false
def c21:Ctr:=D3 Iq Iq Iq (.bool) Yd
def QV (c0:Zb):Option Bool :=
 (Vg (Zb.Name c0)).bind fun y0 =>
 if y0 then
 if 0≤Zb.Place c0 then
 (Yd (Zb.Yg c0) 0 100000).bind fun y1 =>
 if y1 then
 (Yd (Zb.XV c0) (Zb.Yg c0) 100000).bind fun y2 =>
 if y2 then
 (Yd (Zb.ZR c0) 0 100000).bind fun y3 =>
 some y3
 else
 some false
 else
 some false
 else
 some false
 else
 some false
def c22:Ctr:=D1 (Xd) (.bool) QV
def XM (c0:Zb):Option Bool :=
 (Yd (Zb.Qo c0) 2 100000).bind fun y0 =>
 if y0 then
 (Yd (Zb.QX c0) 0 (Wq (Zb.Qo c0-1))).bind fun y1 =>
 if y1 then
 (Yd (Zb.Vm c0) 0 (Wq (Zb.Qo c0-1))).bind fun y2 =>
 if y2 then
 if Zb.QX c0=Zb.Vm c0 then
 some false
 else
 if Zb.Divide c0=1 then
 some (!Zb.ZaU c0)
 else
 some false
 else
 some false
 else
 some false
 else
 some false
def c23:Ctr:=D1 (Xd) (.bool) XM
def QC (rec0:(List Zb)→Int→Option Zx) (list0:List Zb) (k0:Int):Option Zx :=
 (atI list0 k0).bind fun x0 =>
 if Zb.Source x0<0 then
 some (Zb.Qo x0,Zb.QX x0,Zb.Vm x0,())
 else
 (rec0 list0 (Zb.Source x0)).bind fun r0 =>
 if 1<Zb.Divide x0 then
 if (Zb.ZaU x0)=true then
 some (Wq (Zx.period r0*Zb.Divide x0),Wq (Zx.rise r0+Wq (Wq (Int.tdiv (Zb.Divide x0) 2)*Zx.period r0)),Zx.rise r0,())
 else
 some (Wq (Zx.period r0*Zb.Divide x0),Zx.rise r0,Wq (Zx.rise r0+Wq (Wq (Int.tdiv (Zb.Divide x0) 2)*Zx.period r0)),())
 else
 if (Zb.ZaU x0)=true then
 some (Zx.period r0,Zx.fall r0,Zx.rise r0,())
 else
 some r0
def QD:Nat→(List Zb)→Int→Option Zx
 | 0=>fun _ _=>none
 | n+1=>QC (QD n)
def XL (list0:List Zb) (k0:Int):Option Zx:=ZkQ (fun n=>QD n list0 k0)
def V3 (rec0:(List Zb)→Int→Option Zx):Ctr:=⟨[.dat (.sl (Xd)),.dat Iq],[.dat (Zc4)],fun a K=>splitK a fun list0 a=>splitK a fun k0 a=>XU (rec0 list0 k0) fun r=>K (r,()) ()⟩
def c24:Ctr:=V3 XL
def YE (a0:List Zb) (v0:Int) (x0:Zb) (v1:Int):Option ((Int×Unit) ⊕ ((Int×Unit) ⊕ Bool)) :=
 if v1<v0 then
 (atI a0 v1).bind fun x1 =>
 if Zb.Name x1=Zb.Name x0 then
 some (.inr (.inr false))
 else
 some (.inl (Wq (v1+1),()))
 else
 if Zb.Source x0=(-1) then
 (XM x0).bind fun y0 =>
 if y0 then
 some (.inr (.inl (Wq (v0+1),())))
 else
 some (.inr (.inr false))
 else
 (Yd (Zb.Source x0) 0 (Wq (v0-1))).bind fun y1 =>
 if y1 then
 (Yd (Zb.Divide x0) 1 8).bind fun y2 =>
 if y2 then
 if Zb.Qo x0=0 then
 if Zb.QX x0=0 then
 if Zb.Vm x0=0 then
 (XL a0 v0).bind fun y3 =>
 if 100000<Zx.period y3 then
 some (.inr (.inr false))
 else
 some (.inr (.inl (Wq (v0+1),())))
 else
 some (.inr (.inr false))
 else
 some (.inr (.inr false))
 else
 some (.inr (.inr false))
 else
 some (.inr (.inr false))
 else
 some (.inr (.inr false))
def Xa (a0:List Zb) (v0:Int):Option ((Int×Unit) ⊕ Bool) :=
 if v0<(↑a0.length:Int) then
 if (↑a0.length:Int)≤6 then
 (atI a0 v0).bind fun x0 =>
 (QV x0).bind fun y0 =>
 if y0 then
 ZA (fun v=>YE a0 v0 x0 v.1) ((0:Int),())
 else
 some (.inr false)
 else
 some (.inr (Decidable.decide ((↑a0.length:Int)≤6)))
 else
 some (.inr (Decidable.decide ((↑a0.length:Int)≤6)))
def Y1 (a0:List Zb):Option Bool :=
 ZA (fun v=>Xa a0 v.1) ((0:Int),())
def c25:Ctr:=D1 (.sl (Xd)) (.bool) Y1
def Z8 (l07Draw1:Zv×Za) (l05Places0:List Zk) (c3:List Zb) (v1:List Zi) (v2:List Zi) (v4:List Zo) (v5:Int) (c7:List Int) (c8:Int) (c9:Int):Option (((List Zo)×Int×(List Int)×Int×Int×Unit) ⊕ (((List Zi)×(List Zi)×Int×(List Int)×Int×Int×Unit) ⊕ ((Int×(List Int)×Int×Int×(List Zb)×Unit) ⊕ (Zv×Zw×Za)))) :=
 if 0<v5 then
 (Zc (c7,c8,c9,()) 4).bind fun y0 =>
 if Wq (1+y0.fst)=1 then
 (Zc y0.snd 2).bind fun y1 =>
 if y1.fst=0 then
 (Zc y1.snd (↑l05Places0.length:Int)).bind fun y2 =>
 Zj ((List.length v4+List.length [(Wq ((1:Int)+y0.fst),(0:Int),([]:List Int),([]:List Int),[y2.fst],())])*(88:Nat)≤(140737488355328:Nat)) <|
 some (.inl (v4++[(Wq ((1:Int)+y0.fst),(0:Int),([]:List Int),([]:List Int),[y2.fst],())],Wq (v5-(1:Int)),y2.snd.fst,y2.snd.snd.fst,y2.snd.snd.snd.fst,()))
 else
 Zj ((List.length v4+List.length [(Wq ((1:Int)+y0.fst),(0:Int),([]:List Int),([]:List Int),([]:List Int),())])*(88:Nat)≤(140737488355328:Nat)) <|
 some (.inl (v4++[(Wq ((1:Int)+y0.fst),(0:Int),([]:List Int),([]:List Int),([]:List Int),())],Wq (v5-(1:Int)),y1.snd.fst,y1.snd.snd.fst,y1.snd.snd.snd.fst,()))
 else
 (Zc y0.snd 9).bind fun y1 =>
 (Zc y1.snd 2).bind fun y2 =>
 if y2.fst=0 then
 (Zc y2.snd (↑l05Places0.length:Int)).bind fun y3 =>
 Zj ((List.length v4+List.length [(Wq ((1:Int)+y0.fst),Wq ((1:Int)+y1.fst),([]:List Int),([]:List Int),[y3.fst],())])*(88:Nat)≤(140737488355328:Nat)) <|
 some (.inl (v4++[(Wq ((1:Int)+y0.fst),Wq ((1:Int)+y1.fst),([]:List Int),([]:List Int),[y3.fst],())],Wq (v5-(1:Int)),y3.snd.fst,y3.snd.snd.fst,y3.snd.snd.snd.fst,()))
 else
 Zj ((List.length v4+List.length [(Wq ((1:Int)+y0.fst),Wq ((1:Int)+y1.fst),([]:List Int),([]:List Int),([]:List Int),())])*(88:Nat)≤(140737488355328:Nat)) <|
 some (.inl (v4++[(Wq ((1:Int)+y0.fst),Wq ((1:Int)+y1.fst),([]:List Int),([]:List Int),([]:List Int),())],Wq (v5-(1:Int)),y2.snd.fst,y2.snd.snd.fst,y2.snd.snd.snd.fst,()))
 else
 (Zc (c7,c8,c9,()) 2).bind fun y0 =>
 if y0.fst=0 then
 some (.inr (.inr (.inr (l07Draw1.fst,(c3,v1,v2,v4,[([(116:UInt8),(121:UInt8),(112:UInt8)],(1000:Int),(1000:Int),(1000:Int),(1000:Int),())]++[([(115:UInt8),(108:UInt8),(111:UInt8),(119:UInt8)],(1100:Int),(1300:Int),(1000:Int),(1200:Int),())],()),y0.snd))))
 else
 some (.inr (.inr (.inr (l07Draw1.fst,(c3,v1,v2,v4,[([(116:UInt8),(121:UInt8),(112:UInt8)],(1000:Int),(1000:Int),(1000:Int),(1000:Int),())],()),y0.snd))))
def Z9 (l07Draw1:Zv×Za) (l05Places0:List Zk) (l01Next1:Int×Za) (c3:List Zb) (v1:List Zi) (v2:List Zi) (v3:Int) (c4:List Int) (c5:Int) (c6:Int):Option (((List Zi)×(List Zi)×Int×(List Int)×Int×Int×Unit) ⊕ ((Int×(List Int)×Int×Int×(List Zb)×Unit) ⊕ (Zv×Zw×Za))) :=
 if v3<(↑l05Places0.length:Int) then
 (Zc (c4,c5,c6,()) 60).bind fun y0 =>
 (Zc y0.snd (↑(List.length [([(109:UInt8),(97:UInt8),(105:UInt8),(110:UInt8)],(0:Int),Wq ((100:Int)+l01Next1.fst),(0:Int),(50:Int),(-1:Int),(1:Int),false,(0:Int),(0:Int),(0:Int),())]):Int)).bind fun y1 =>
 (Zc y1.snd 30).bind fun y2 =>
 (atI l05Places0 v3).bind fun x0 =>
 if (Zk.drives x0)=true then
 if v3=Wq ((↑l05Places0.length:Int)-(↑(List.length l07Draw1.fst.snd.fst.snd.snd.fst):Int)) then
 if (Zk.drives x0)=true then
 some (.inl (v1,v2,Wq (v3+1),y2.snd.fst,y2.snd.snd.fst,y2.snd.snd.snd.fst,()))
 else
 (Zc y2.snd 8).bind fun y3 =>
 if 0<y3.fst then
 Zj ((List.length v2+List.length [(v3,y1.fst,(Wq (y0.fst-(20:Int)),Wq (Wq (y0.fst-(20:Int))+y2.fst),()),((0:Int),(0:Int),()),())])*(48:Nat)≤(140737488355328:Nat)) <|
 some (.inl (v1,v2++[(v3,y1.fst,(Wq (y0.fst-(20:Int)),Wq (Wq (y0.fst-(20:Int))+y2.fst),()),((0:Int),(0:Int),()),())],Wq (v3+(1:Int)),y3.snd.fst,y3.snd.snd.fst,y3.snd.snd.snd.fst,()))
 else
 some (.inl (v1,v2,Wq (v3+1),y3.snd.fst,y3.snd.snd.fst,y3.snd.snd.snd.fst,()))
 else
 (Zc y2.snd 8).bind fun y3 =>
 if 0<y3.fst then
 (Zc y3.snd 20).bind fun y4 =>
 (Zc y4.snd 10).bind fun y5 =>
 Zj ((List.length v1+List.length [(v3,y1.fst,(Wq (y0.fst-(20:Int)),Wq (Wq (y0.fst-(20:Int))+y2.fst),()),(y4.fst,Wq (y4.fst+y5.fst),()),())])*(48:Nat)≤(140737488355328:Nat)) <|
 some (.inl (v1++[(v3,y1.fst,(Wq (y0.fst-(20:Int)),Wq (Wq (y0.fst-(20:Int))+y2.fst),()),(y4.fst,Wq (y4.fst+y5.fst),()),())],v2,Wq (v3+(1:Int)),y5.snd.fst,y5.snd.snd.fst,y5.snd.snd.snd.fst,()))
 else
 if (Zk.drives x0)=true then
 some (.inl (v1,v2,Wq (v3+1),y3.snd.fst,y3.snd.snd.fst,y3.snd.snd.snd.fst,()))
 else
 (Zc y3.snd 8).bind fun y4 =>
 if 0<y4.fst then
 Zj ((List.length v2+List.length [(v3,y1.fst,(Wq (y0.fst-(20:Int)),Wq (Wq (y0.fst-(20:Int))+y2.fst),()),((0:Int),(0:Int),()),())])*(48:Nat)≤(140737488355328:Nat)) <|
 some (.inl (v1,v2++[(v3,y1.fst,(Wq (y0.fst-(20:Int)),Wq (Wq (y0.fst-(20:Int))+y2.fst),()),((0:Int),(0:Int),()),())],Wq (v3+(1:Int)),y4.snd.fst,y4.snd.snd.fst,y4.snd.snd.snd.fst,()))
 else
 some (.inl (v1,v2,Wq (v3+1),y4.snd.fst,y4.snd.snd.fst,y4.snd.snd.snd.fst,()))
 else
 if (Zk.drives x0)=true then
 some (.inl (v1,v2,Wq (v3+1),y2.snd.fst,y2.snd.snd.fst,y2.snd.snd.snd.fst,()))
 else
 (Zc y2.snd 8).bind fun y3 =>
 if 0<y3.fst then
 Zj ((List.length v2+List.length [(v3,y1.fst,(Wq (y0.fst-(20:Int)),Wq (Wq (y0.fst-(20:Int))+y2.fst),()),((0:Int),(0:Int),()),())])*(48:Nat)≤(140737488355328:Nat)) <|
 some (.inl (v1,v2++[(v3,y1.fst,(Wq (y0.fst-(20:Int)),Wq (Wq (y0.fst-(20:Int))+y2.fst),()),((0:Int),(0:Int),()),())],Wq (v3+(1:Int)),y3.snd.fst,y3.snd.snd.fst,y3.snd.snd.snd.fst,()))
 else
 some (.inl (v1,v2,Wq (v3+1),y3.snd.fst,y3.snd.snd.fst,y3.snd.snd.snd.fst,()))
 else
 (Zc (c4,c5,c6,()) 3).bind fun y0 =>
 ZA (fun v=>Z8 l07Draw1 l05Places0 c3 v1 v2 v.1 v.2.1 v.2.2.1 v.2.2.2.1 v.2.2.2.2.1) (([]:List Zo),y0.fst,y0.snd.fst,y0.snd.snd.fst,y0.snd.snd.snd.fst,())
def ZX (l07Draw1:Zv×Za) (l05Places0:List Zk) (l01Next1:Int×Za) (v0:Int) (c0:List Int) (c1:Int) (c2:Int) (c3:List Zb):Option ((Int×(List Int)×Int×Int×(List Zb)×Unit) ⊕ (Zv×Zw×Za)) :=
 if v0<(↑(List.length [([(109:UInt8),(97:UInt8),(105:UInt8),(110:UInt8)],(0:Int),Wq ((100:Int)+l01Next1.fst),(0:Int),(50:Int),(-1:Int),(1:Int),false,(0:Int),(0:Int),(0:Int),())]):Int) then
 (atI ([([(109:UInt8),(97:UInt8),(105:UInt8),(110:UInt8)],(0:Int),Wq ((100:Int)+l01Next1.fst),(0:Int),(50:Int),(-1:Int),(1:Int),false,(0:Int),(0:Int),(0:Int),())]) v0).bind fun x0 =>
 if 0<v0 then
 (Zc (c0,c1,c2,()) (↑l05Places0.length:Int)).bind fun y0 =>
 Zj ((List.length (([]:List (List UInt8×Int×Int×Int×Int×Int×Int×Bool×Int×Int×Int×Unit)))+List.length c3)*(96:Nat)≤(140737488355328:Nat)) <|
 Zj ((List.length (([]:List (List UInt8×Int×Int×Int×Int×Int×Int×Bool×Int×Int×Int×Unit))++c3)+List.length [(x0.fst,y0.fst,x0.snd.snd)])*(96:Nat)≤(140737488355328:Nat)) <|
 some (.inl (Wq (v0+(1:Int)),y0.snd.fst,y0.snd.snd.fst,y0.snd.snd.snd.fst,([]:List (List UInt8×Int×Int×Int×Int×Int×Int×Bool×Int×Int×Int×Unit))++c3++[(x0.fst,y0.fst,x0.snd.snd)],()))
 else
 Zj ((List.length (([]:List (List UInt8×Int×Int×Int×Int×Int×Int×Bool×Int×Int×Int×Unit)))+List.length c3)*(96:Nat)≤(140737488355328:Nat)) <|
 Zj ((List.length (([]:List (List UInt8×Int×Int×Int×Int×Int×Int×Bool×Int×Int×Int×Unit))++c3)+List.length [(x0.fst,Wq ((↑l05Places0.length:Int)-(↑(List.length l07Draw1.fst.snd.fst.snd.snd.fst):Int)),x0.snd.snd)])*(96:Nat)≤(140737488355328:Nat)) <|
 some (.inl (Wq (v0+(1:Int)),c0,c1,c2,([]:List (List UInt8×Int×Int×Int×Int×Int×Int×Bool×Int×Int×Int×Unit))++c3++[(x0.fst,Wq ((↑l05Places0.length:Int)-(↑(List.length l07Draw1.fst.snd.fst.snd.snd.fst):Int)),x0.snd.snd)],()))
 else
 ZA (fun v=>Z9 l07Draw1 l05Places0 l01Next1 c3 v.1 v.2.1 v.2.2.1 v.2.2.2.1 v.2.2.2.2.1 v.2.2.2.2.2.1) (([]:List (Int×Int×Vz×Vz×Unit)),([]:List (Int×Int×Vz×Vz×Unit)),Wq ((↑l05Places0.length:Int)-(↑(List.length l07Draw1.fst.snd.fst.snd.snd.fst):Int)),c0,c1,c2,())
def YO (l07Draw1:Zv×Za) (l05Places0:List Zk) (c3:List Zb) (v1:List Zi) (v2:List Zi) (v4:List Zo) (v5:Int) (c7:List Int) (c8:Int) (c9:Int):Option (((List Zo)×Int×(List Int)×Int×Int×Unit) ⊕ (((List Zi)×(List Zi)×Int×(List Int)×Int×Int×Unit) ⊕ ((Int×(List Int)×Int×Int×(List Zb)×Unit) ⊕ (Zv×Zw×Za)))) :=
 if 0<v5 then
 (Zc (c7,c8,c9,()) 4).bind fun y0 =>
 if Wq (1+y0.fst)=1 then
 (Zc y0.snd 2).bind fun y1 =>
 if y1.fst=0 then
 (Zc y1.snd (↑l05Places0.length:Int)).bind fun y2 =>
 Zj ((List.length v4+List.length [(Wq ((1:Int)+y0.fst),(0:Int),([]:List Int),([]:List Int),[y2.fst],())])*(88:Nat)≤(140737488355328:Nat)) <|
 some (.inl (v4++[(Wq ((1:Int)+y0.fst),(0:Int),([]:List Int),([]:List Int),[y2.fst],())],Wq (v5-(1:Int)),y2.snd.fst,y2.snd.snd.fst,y2.snd.snd.snd.fst,()))
 else
 Zj ((List.length v4+List.length [(Wq ((1:Int)+y0.fst),(0:Int),([]:List Int),([]:List Int),([]:List Int),())])*(88:Nat)≤(140737488355328:Nat)) <|
 some (.inl (v4++[(Wq ((1:Int)+y0.fst),(0:Int),([]:List Int),([]:List Int),([]:List Int),())],Wq (v5-(1:Int)),y1.snd.fst,y1.snd.snd.fst,y1.snd.snd.snd.fst,()))
 else
 (Zc y0.snd 9).bind fun y1 =>
 (Zc y1.snd 2).bind fun y2 =>
 if y2.fst=0 then
 (Zc y2.snd (↑l05Places0.length:Int)).bind fun y3 =>
 Zj ((List.length v4+List.length [(Wq ((1:Int)+y0.fst),Wq ((1:Int)+y1.fst),([]:List Int),([]:List Int),[y3.fst],())])*(88:Nat)≤(140737488355328:Nat)) <|
 some (.inl (v4++[(Wq ((1:Int)+y0.fst),Wq ((1:Int)+y1.fst),([]:List Int),([]:List Int),[y3.fst],())],Wq (v5-(1:Int)),y3.snd.fst,y3.snd.snd.fst,y3.snd.snd.snd.fst,()))
 else
 Zj ((List.length v4+List.length [(Wq ((1:Int)+y0.fst),Wq ((1:Int)+y1.fst),([]:List Int),([]:List Int),([]:List Int),())])*(88:Nat)≤(140737488355328:Nat)) <|
 some (.inl (v4++[(Wq ((1:Int)+y0.fst),Wq ((1:Int)+y1.fst),([]:List Int),([]:List Int),([]:List Int),())],Wq (v5-(1:Int)),y2.snd.fst,y2.snd.snd.fst,y2.snd.snd.snd.fst,()))
 else
 (Zc (c7,c8,c9,()) 2).bind fun y0 =>
 if y0.fst=0 then
 some (.inr (.inr (.inr (l07Draw1.fst,(c3,v1,v2,v4,[([(116:UInt8),(121:UInt8),(112:UInt8)],(1000:Int),(1000:Int),(1000:Int),(1000:Int),())]++[([(115:UInt8),(108:UInt8),(111:UInt8),(119:UInt8)],(1100:Int),(1300:Int),(1000:Int),(1200:Int),())],()),y0.snd))))
 else
 some (.inr (.inr (.inr (l07Draw1.fst,(c3,v1,v2,v4,[([(116:UInt8),(121:UInt8),(112:UInt8)],(1000:Int),(1000:Int),(1000:Int),(1000:Int),())],()),y0.snd))))
def YP (l07Draw1:Zv×Za) (l05Places0:List Zk) (l14Draw0:List Zb×Za) (c3:List Zb) (v1:List Zi) (v2:List Zi) (v3:Int) (c4:List Int) (c5:Int) (c6:Int):Option (((List Zi)×(List Zi)×Int×(List Int)×Int×Int×Unit) ⊕ ((Int×(List Int)×Int×Int×(List Zb)×Unit) ⊕ (Zv×Zw×Za))) :=
 if v3<(↑l05Places0.length:Int) then
 (Zc (c4,c5,c6,()) 60).bind fun y0 =>
 (Zc y0.snd (↑(List.length l14Draw0.fst):Int)).bind fun y1 =>
 (Zc y1.snd 30).bind fun y2 =>
 (atI l05Places0 v3).bind fun x0 =>
 if (Zk.drives x0)=true then
 if v3=Wq ((↑l05Places0.length:Int)-(↑(List.length l07Draw1.fst.snd.fst.snd.snd.fst):Int)) then
 if (Zk.drives x0)=true then
 some (.inl (v1,v2,Wq (v3+1),y2.snd.fst,y2.snd.snd.fst,y2.snd.snd.snd.fst,()))
 else
 (Zc y2.snd 8).bind fun y3 =>
 if 0<y3.fst then
 Zj ((List.length v2+List.length [(v3,y1.fst,(Wq (y0.fst-(20:Int)),Wq (Wq (y0.fst-(20:Int))+y2.fst),()),((0:Int),(0:Int),()),())])*(48:Nat)≤(140737488355328:Nat)) <|
 some (.inl (v1,v2++[(v3,y1.fst,(Wq (y0.fst-(20:Int)),Wq (Wq (y0.fst-(20:Int))+y2.fst),()),((0:Int),(0:Int),()),())],Wq (v3+(1:Int)),y3.snd.fst,y3.snd.snd.fst,y3.snd.snd.snd.fst,()))
 else
 some (.inl (v1,v2,Wq (v3+1),y3.snd.fst,y3.snd.snd.fst,y3.snd.snd.snd.fst,()))
 else
 (Zc y2.snd 8).bind fun y3 =>
 if 0<y3.fst then
 (Zc y3.snd 20).bind fun y4 =>
 (Zc y4.snd 10).bind fun y5 =>
 Zj ((List.length v1+List.length [(v3,y1.fst,(Wq (y0.fst-(20:Int)),Wq (Wq (y0.fst-(20:Int))+y2.fst),()),(y4.fst,Wq (y4.fst+y5.fst),()),())])*(48:Nat)≤(140737488355328:Nat)) <|
 some (.inl (v1++[(v3,y1.fst,(Wq (y0.fst-(20:Int)),Wq (Wq (y0.fst-(20:Int))+y2.fst),()),(y4.fst,Wq (y4.fst+y5.fst),()),())],v2,Wq (v3+(1:Int)),y5.snd.fst,y5.snd.snd.fst,y5.snd.snd.snd.fst,()))
 else
 if (Zk.drives x0)=true then
 some (.inl (v1,v2,Wq (v3+1),y3.snd.fst,y3.snd.snd.fst,y3.snd.snd.snd.fst,()))
 else
 (Zc y3.snd 8).bind fun y4 =>
 if 0<y4.fst then
 Zj ((List.length v2+List.length [(v3,y1.fst,(Wq (y0.fst-(20:Int)),Wq (Wq (y0.fst-(20:Int))+y2.fst),()),((0:Int),(0:Int),()),())])*(48:Nat)≤(140737488355328:Nat)) <|
 some (.inl (v1,v2++[(v3,y1.fst,(Wq (y0.fst-(20:Int)),Wq (Wq (y0.fst-(20:Int))+y2.fst),()),((0:Int),(0:Int),()),())],Wq (v3+(1:Int)),y4.snd.fst,y4.snd.snd.fst,y4.snd.snd.snd.fst,()))
 else
 some (.inl (v1,v2,Wq (v3+1),y4.snd.fst,y4.snd.snd.fst,y4.snd.snd.snd.fst,()))
 else
 if (Zk.drives x0)=true then
 some (.inl (v1,v2,Wq (v3+1),y2.snd.fst,y2.snd.snd.fst,y2.snd.snd.snd.fst,()))
 else
 (Zc y2.snd 8).bind fun y3 =>
 if 0<y3.fst then
 Zj ((List.length v2+List.length [(v3,y1.fst,(Wq (y0.fst-(20:Int)),Wq (Wq (y0.fst-(20:Int))+y2.fst),()),((0:Int),(0:Int),()),())])*(48:Nat)≤(140737488355328:Nat)) <|
 some (.inl (v1,v2++[(v3,y1.fst,(Wq (y0.fst-(20:Int)),Wq (Wq (y0.fst-(20:Int))+y2.fst),()),((0:Int),(0:Int),()),())],Wq (v3+(1:Int)),y3.snd.fst,y3.snd.snd.fst,y3.snd.snd.snd.fst,()))
 else
 some (.inl (v1,v2,Wq (v3+1),y3.snd.fst,y3.snd.snd.fst,y3.snd.snd.snd.fst,()))
 else
 (Zc (c4,c5,c6,()) 3).bind fun y0 =>
 ZA (fun v=>YO l07Draw1 l05Places0 c3 v1 v2 v.1 v.2.1 v.2.2.1 v.2.2.2.1 v.2.2.2.2.1) (([]:List Zo),y0.fst,y0.snd.fst,y0.snd.snd.fst,y0.snd.snd.snd.fst,())
def YQ (l07Draw1:Zv×Za) (l05Places0:List Zk) (l14Draw0:List Zb×Za) (v0:Int) (c0:List Int) (c1:Int) (c2:Int) (c3:List Zb):Option ((Int×(List Int)×Int×Int×(List Zb)×Unit) ⊕ (Zv×Zw×Za)) :=
 if v0<(↑(List.length l14Draw0.fst):Int) then
 (atI l14Draw0.fst v0).bind fun x0 =>
 if 0<v0 then
 (Zc (c0,c1,c2,()) (↑l05Places0.length:Int)).bind fun y0 =>
 Zj ((List.length (([]:List (List UInt8×Int×Int×Int×Int×Int×Int×Bool×Int×Int×Int×Unit)))+List.length c3)*(96:Nat)≤(140737488355328:Nat)) <|
 Zj ((List.length (([]:List (List UInt8×Int×Int×Int×Int×Int×Int×Bool×Int×Int×Int×Unit))++c3)+List.length [(Zb.Name x0,y0.fst,x0.snd.snd)])*(96:Nat)≤(140737488355328:Nat)) <|
 some (.inl (Wq (v0+(1:Int)),y0.snd.fst,y0.snd.snd.fst,y0.snd.snd.snd.fst,([]:List (List UInt8×Int×Int×Int×Int×Int×Int×Bool×Int×Int×Int×Unit))++c3++[(Zb.Name x0,y0.fst,x0.snd.snd)],()))
 else
 Zj ((List.length (([]:List (List UInt8×Int×Int×Int×Int×Int×Int×Bool×Int×Int×Int×Unit)))+List.length c3)*(96:Nat)≤(140737488355328:Nat)) <|
 Zj ((List.length (([]:List (List UInt8×Int×Int×Int×Int×Int×Int×Bool×Int×Int×Int×Unit))++c3)+List.length [(Zb.Name x0,Wq ((↑l05Places0.length:Int)-(↑(List.length l07Draw1.fst.snd.fst.snd.snd.fst):Int)),x0.snd.snd)])*(96:Nat)≤(140737488355328:Nat)) <|
 some (.inl (Wq (v0+(1:Int)),c0,c1,c2,([]:List (List UInt8×Int×Int×Int×Int×Int×Int×Bool×Int×Int×Int×Unit))++c3++[(Zb.Name x0,Wq ((↑l05Places0.length:Int)-(↑(List.length l07Draw1.fst.snd.fst.snd.snd.fst):Int)),x0.snd.snd)],()))
 else
 ZA (fun v=>YP l07Draw1 l05Places0 l14Draw0 c3 v.1 v.2.1 v.2.2.1 v.2.2.2.1 v.2.2.2.2.1 v.2.2.2.2.2.1) (([]:List (Int×Int×Vz×Vz×Unit)),([]:List (Int×Int×Vz×Vz×Unit)),Wq ((↑l05Places0.length:Int)-(↑(List.length l07Draw1.fst.snd.fst.snd.snd.fst):Int)),c0,c1,c2,())
def Ya (l07Draw0:Zv×Za) (l05Places0:List Zk) (c3:List Zb) (v1:List Zi) (v2:List Zi) (v4:List Zo) (v5:Int) (c7:List Int) (c8:Int) (c9:Int):Option (((List Zo)×Int×(List Int)×Int×Int×Unit) ⊕ (((List Zi)×(List Zi)×Int×(List Int)×Int×Int×Unit) ⊕ ((Int×(List Int)×Int×Int×(List Zb)×Unit) ⊕ (Zv×Zw×Za)))) :=
 if 0<v5 then
 (Zc (c7,c8,c9,()) 4).bind fun y0 =>
 if Wq (1+y0.fst)=1 then
 (Zc y0.snd 2).bind fun y1 =>
 if y1.fst=0 then
 (Zc y1.snd (↑l05Places0.length:Int)).bind fun y2 =>
 Zj ((List.length v4+List.length [(Wq ((1:Int)+y0.fst),(0:Int),([]:List Int),([]:List Int),[y2.fst],())])*(88:Nat)≤(140737488355328:Nat)) <|
 some (.inl (v4++[(Wq ((1:Int)+y0.fst),(0:Int),([]:List Int),([]:List Int),[y2.fst],())],Wq (v5-(1:Int)),y2.snd.fst,y2.snd.snd.fst,y2.snd.snd.snd.fst,()))
 else
 Zj ((List.length v4+List.length [(Wq ((1:Int)+y0.fst),(0:Int),([]:List Int),([]:List Int),([]:List Int),())])*(88:Nat)≤(140737488355328:Nat)) <|
 some (.inl (v4++[(Wq ((1:Int)+y0.fst),(0:Int),([]:List Int),([]:List Int),([]:List Int),())],Wq (v5-(1:Int)),y1.snd.fst,y1.snd.snd.fst,y1.snd.snd.snd.fst,()))
 else
 (Zc y0.snd 9).bind fun y1 =>
 (Zc y1.snd 2).bind fun y2 =>
 if y2.fst=0 then
 (Zc y2.snd (↑l05Places0.length:Int)).bind fun y3 =>
 Zj ((List.length v4+List.length [(Wq ((1:Int)+y0.fst),Wq ((1:Int)+y1.fst),([]:List Int),([]:List Int),[y3.fst],())])*(88:Nat)≤(140737488355328:Nat)) <|
 some (.inl (v4++[(Wq ((1:Int)+y0.fst),Wq ((1:Int)+y1.fst),([]:List Int),([]:List Int),[y3.fst],())],Wq (v5-(1:Int)),y3.snd.fst,y3.snd.snd.fst,y3.snd.snd.snd.fst,()))
 else
 Zj ((List.length v4+List.length [(Wq ((1:Int)+y0.fst),Wq ((1:Int)+y1.fst),([]:List Int),([]:List Int),([]:List Int),())])*(88:Nat)≤(140737488355328:Nat)) <|
 some (.inl (v4++[(Wq ((1:Int)+y0.fst),Wq ((1:Int)+y1.fst),([]:List Int),([]:List Int),([]:List Int),())],Wq (v5-(1:Int)),y2.snd.fst,y2.snd.snd.fst,y2.snd.snd.snd.fst,()))
 else
 (Zc (c7,c8,c9,()) 2).bind fun y0 =>
 if y0.fst=0 then
 some (.inr (.inr (.inr (l07Draw0.fst,(c3,v1,v2,v4,[([(116:UInt8),(121:UInt8),(112:UInt8)],(1000:Int),(1000:Int),(1000:Int),(1000:Int),())]++[([(115:UInt8),(108:UInt8),(111:UInt8),(119:UInt8)],(1100:Int),(1300:Int),(1000:Int),(1200:Int),())],()),y0.snd))))
 else
 some (.inr (.inr (.inr (l07Draw0.fst,(c3,v1,v2,v4,[([(116:UInt8),(121:UInt8),(112:UInt8)],(1000:Int),(1000:Int),(1000:Int),(1000:Int),())],()),y0.snd))))
def Yb (l07Draw0:Zv×Za) (l05Places0:List Zk) (l01Next1:Int×Za) (c3:List Zb) (v1:List Zi) (v2:List Zi) (v3:Int) (c4:List Int) (c5:Int) (c6:Int):Option (((List Zi)×(List Zi)×Int×(List Int)×Int×Int×Unit) ⊕ ((Int×(List Int)×Int×Int×(List Zb)×Unit) ⊕ (Zv×Zw×Za))) :=
 if v3<(↑l05Places0.length:Int) then
 (Zc (c4,c5,c6,()) 60).bind fun y0 =>
 (Zc y0.snd (↑(List.length [([(109:UInt8),(97:UInt8),(105:UInt8),(110:UInt8)],(0:Int),Wq ((100:Int)+l01Next1.fst),(0:Int),(50:Int),(-1:Int),(1:Int),false,(0:Int),(0:Int),(0:Int),())]):Int)).bind fun y1 =>
 (Zc y1.snd 30).bind fun y2 =>
 (atI l05Places0 v3).bind fun x0 =>
 if (Zk.drives x0)=true then
 if v3=Wq ((↑l05Places0.length:Int)-(↑(List.length l07Draw0.fst.snd.fst.snd.snd.fst):Int)) then
 if (Zk.drives x0)=true then
 some (.inl (v1,v2,Wq (v3+1),y2.snd.fst,y2.snd.snd.fst,y2.snd.snd.snd.fst,()))
 else
 (Zc y2.snd 8).bind fun y3 =>
 if 0<y3.fst then
 Zj ((List.length v2+List.length [(v3,y1.fst,(Wq (y0.fst-(20:Int)),Wq (Wq (y0.fst-(20:Int))+y2.fst),()),((0:Int),(0:Int),()),())])*(48:Nat)≤(140737488355328:Nat)) <|
 some (.inl (v1,v2++[(v3,y1.fst,(Wq (y0.fst-(20:Int)),Wq (Wq (y0.fst-(20:Int))+y2.fst),()),((0:Int),(0:Int),()),())],Wq (v3+(1:Int)),y3.snd.fst,y3.snd.snd.fst,y3.snd.snd.snd.fst,()))
 else
 some (.inl (v1,v2,Wq (v3+1),y3.snd.fst,y3.snd.snd.fst,y3.snd.snd.snd.fst,()))
 else
 (Zc y2.snd 8).bind fun y3 =>
 if 0<y3.fst then
 (Zc y3.snd 20).bind fun y4 =>
 (Zc y4.snd 10).bind fun y5 =>
 Zj ((List.length v1+List.length [(v3,y1.fst,(Wq (y0.fst-(20:Int)),Wq (Wq (y0.fst-(20:Int))+y2.fst),()),(y4.fst,Wq (y4.fst+y5.fst),()),())])*(48:Nat)≤(140737488355328:Nat)) <|
 some (.inl (v1++[(v3,y1.fst,(Wq (y0.fst-(20:Int)),Wq (Wq (y0.fst-(20:Int))+y2.fst),()),(y4.fst,Wq (y4.fst+y5.fst),()),())],v2,Wq (v3+(1:Int)),y5.snd.fst,y5.snd.snd.fst,y5.snd.snd.snd.fst,()))
 else
 if (Zk.drives x0)=true then
 some (.inl (v1,v2,Wq (v3+1),y3.snd.fst,y3.snd.snd.fst,y3.snd.snd.snd.fst,()))
 else
 (Zc y3.snd 8).bind fun y4 =>
 if 0<y4.fst then
 Zj ((List.length v2+List.length [(v3,y1.fst,(Wq (y0.fst-(20:Int)),Wq (Wq (y0.fst-(20:Int))+y2.fst),()),((0:Int),(0:Int),()),())])*(48:Nat)≤(140737488355328:Nat)) <|
 some (.inl (v1,v2++[(v3,y1.fst,(Wq (y0.fst-(20:Int)),Wq (Wq (y0.fst-(20:Int))+y2.fst),()),((0:Int),(0:Int),()),())],Wq (v3+(1:Int)),y4.snd.fst,y4.snd.snd.fst,y4.snd.snd.snd.fst,()))
 else
 some (.inl (v1,v2,Wq (v3+1),y4.snd.fst,y4.snd.snd.fst,y4.snd.snd.snd.fst,()))
 else
 if (Zk.drives x0)=true then
 some (.inl (v1,v2,Wq (v3+1),y2.snd.fst,y2.snd.snd.fst,y2.snd.snd.snd.fst,()))
 else
 (Zc y2.snd 8).bind fun y3 =>
 if 0<y3.fst then
 Zj ((List.length v2+List.length [(v3,y1.fst,(Wq (y0.fst-(20:Int)),Wq (Wq (y0.fst-(20:Int))+y2.fst),()),((0:Int),(0:Int),()),())])*(48:Nat)≤(140737488355328:Nat)) <|
 some (.inl (v1,v2++[(v3,y1.fst,(Wq (y0.fst-(20:Int)),Wq (Wq (y0.fst-(20:Int))+y2.fst),()),((0:Int),(0:Int),()),())],Wq (v3+(1:Int)),y3.snd.fst,y3.snd.snd.fst,y3.snd.snd.snd.fst,()))
 else
 some (.inl (v1,v2,Wq (v3+1),y3.snd.fst,y3.snd.snd.fst,y3.snd.snd.snd.fst,()))
 else
 (Zc (c4,c5,c6,()) 3).bind fun y0 =>
 ZA (fun v=>Ya l07Draw0 l05Places0 c3 v1 v2 v.1 v.2.1 v.2.2.1 v.2.2.2.1 v.2.2.2.2.1) (([]:List Zo),y0.fst,y0.snd.fst,y0.snd.snd.fst,y0.snd.snd.snd.fst,())
def ZY (l07Draw0:Zv×Za) (l05Places0:List Zk) (l01Next1:Int×Za) (v0:Int) (c0:List Int) (c1:Int) (c2:Int) (c3:List Zb):Option ((Int×(List Int)×Int×Int×(List Zb)×Unit) ⊕ (Zv×Zw×Za)) :=
 if v0<(↑(List.length [([(109:UInt8),(97:UInt8),(105:UInt8),(110:UInt8)],(0:Int),Wq ((100:Int)+l01Next1.fst),(0:Int),(50:Int),(-1:Int),(1:Int),false,(0:Int),(0:Int),(0:Int),())]):Int) then
 (atI ([([(109:UInt8),(97:UInt8),(105:UInt8),(110:UInt8)],(0:Int),Wq ((100:Int)+l01Next1.fst),(0:Int),(50:Int),(-1:Int),(1:Int),false,(0:Int),(0:Int),(0:Int),())]) v0).bind fun x0 =>
 if 0<v0 then
 (Zc (c0,c1,c2,()) (↑l05Places0.length:Int)).bind fun y0 =>
 Zj ((List.length (([]:List (List UInt8×Int×Int×Int×Int×Int×Int×Bool×Int×Int×Int×Unit)))+List.length c3)*(96:Nat)≤(140737488355328:Nat)) <|
 Zj ((List.length (([]:List (List UInt8×Int×Int×Int×Int×Int×Int×Bool×Int×Int×Int×Unit))++c3)+List.length [(x0.fst,y0.fst,x0.snd.snd)])*(96:Nat)≤(140737488355328:Nat)) <|
 some (.inl (Wq (v0+(1:Int)),y0.snd.fst,y0.snd.snd.fst,y0.snd.snd.snd.fst,([]:List (List UInt8×Int×Int×Int×Int×Int×Int×Bool×Int×Int×Int×Unit))++c3++[(x0.fst,y0.fst,x0.snd.snd)],()))
 else
 Zj ((List.length (([]:List (List UInt8×Int×Int×Int×Int×Int×Int×Bool×Int×Int×Int×Unit)))+List.length c3)*(96:Nat)≤(140737488355328:Nat)) <|
 Zj ((List.length (([]:List (List UInt8×Int×Int×Int×Int×Int×Int×Bool×Int×Int×Int×Unit))++c3)+List.length [(x0.fst,Wq ((↑l05Places0.length:Int)-(↑(List.length l07Draw0.fst.snd.fst.snd.snd.fst):Int)),x0.snd.snd)])*(96:Nat)≤(140737488355328:Nat)) <|
 some (.inl (Wq (v0+(1:Int)),c0,c1,c2,([]:List (List UInt8×Int×Int×Int×Int×Int×Int×Bool×Int×Int×Int×Unit))++c3++[(x0.fst,Wq ((↑l05Places0.length:Int)-(↑(List.length l07Draw0.fst.snd.fst.snd.snd.fst):Int)),x0.snd.snd)],()))
 else
 ZA (fun v=>Yb l07Draw0 l05Places0 l01Next1 c3 v.1 v.2.1 v.2.2.1 v.2.2.2.1 v.2.2.2.2.1 v.2.2.2.2.2.1) (([]:List (Int×Int×Vz×Vz×Unit)),([]:List (Int×Int×Vz×Vz×Unit)),Wq ((↑l05Places0.length:Int)-(↑(List.length l07Draw0.fst.snd.fst.snd.snd.fst):Int)),c0,c1,c2,())
def YR (l07Draw0:Zv×Za) (l05Places0:List Zk) (c3:List Zb) (v1:List Zi) (v2:List Zi) (v4:List Zo) (v5:Int) (c7:List Int) (c8:Int) (c9:Int):Option (((List Zo)×Int×(List Int)×Int×Int×Unit) ⊕ (((List Zi)×(List Zi)×Int×(List Int)×Int×Int×Unit) ⊕ ((Int×(List Int)×Int×Int×(List Zb)×Unit) ⊕ (Zv×Zw×Za)))) :=
 if 0<v5 then
 (Zc (c7,c8,c9,()) 4).bind fun y0 =>
 if Wq (1+y0.fst)=1 then
 (Zc y0.snd 2).bind fun y1 =>
 if y1.fst=0 then
 (Zc y1.snd (↑l05Places0.length:Int)).bind fun y2 =>
 Zj ((List.length v4+List.length [(Wq ((1:Int)+y0.fst),(0:Int),([]:List Int),([]:List Int),[y2.fst],())])*(88:Nat)≤(140737488355328:Nat)) <|
 some (.inl (v4++[(Wq ((1:Int)+y0.fst),(0:Int),([]:List Int),([]:List Int),[y2.fst],())],Wq (v5-(1:Int)),y2.snd.fst,y2.snd.snd.fst,y2.snd.snd.snd.fst,()))
 else
 Zj ((List.length v4+List.length [(Wq ((1:Int)+y0.fst),(0:Int),([]:List Int),([]:List Int),([]:List Int),())])*(88:Nat)≤(140737488355328:Nat)) <|
 some (.inl (v4++[(Wq ((1:Int)+y0.fst),(0:Int),([]:List Int),([]:List Int),([]:List Int),())],Wq (v5-(1:Int)),y1.snd.fst,y1.snd.snd.fst,y1.snd.snd.snd.fst,()))
 else
 (Zc y0.snd 9).bind fun y1 =>
 (Zc y1.snd 2).bind fun y2 =>
 if y2.fst=0 then
 (Zc y2.snd (↑l05Places0.length:Int)).bind fun y3 =>
 Zj ((List.length v4+List.length [(Wq ((1:Int)+y0.fst),Wq ((1:Int)+y1.fst),([]:List Int),([]:List Int),[y3.fst],())])*(88:Nat)≤(140737488355328:Nat)) <|
 some (.inl (v4++[(Wq ((1:Int)+y0.fst),Wq ((1:Int)+y1.fst),([]:List Int),([]:List Int),[y3.fst],())],Wq (v5-(1:Int)),y3.snd.fst,y3.snd.snd.fst,y3.snd.snd.snd.fst,()))
 else
 Zj ((List.length v4+List.length [(Wq ((1:Int)+y0.fst),Wq ((1:Int)+y1.fst),([]:List Int),([]:List Int),([]:List Int),())])*(88:Nat)≤(140737488355328:Nat)) <|
 some (.inl (v4++[(Wq ((1:Int)+y0.fst),Wq ((1:Int)+y1.fst),([]:List Int),([]:List Int),([]:List Int),())],Wq (v5-(1:Int)),y2.snd.fst,y2.snd.snd.fst,y2.snd.snd.snd.fst,()))
 else
 (Zc (c7,c8,c9,()) 2).bind fun y0 =>
 if y0.fst=0 then
 some (.inr (.inr (.inr (l07Draw0.fst,(c3,v1,v2,v4,[([(116:UInt8),(121:UInt8),(112:UInt8)],(1000:Int),(1000:Int),(1000:Int),(1000:Int),())]++[([(115:UInt8),(108:UInt8),(111:UInt8),(119:UInt8)],(1100:Int),(1300:Int),(1000:Int),(1200:Int),())],()),y0.snd))))
 else
 some (.inr (.inr (.inr (l07Draw0.fst,(c3,v1,v2,v4,[([(116:UInt8),(121:UInt8),(112:UInt8)],(1000:Int),(1000:Int),(1000:Int),(1000:Int),())],()),y0.snd))))
def YF (l07Draw0:Zv×Za) (l05Places0:List Zk) (l14Draw0:List Zb×Za) (c3:List Zb) (v1:List Zi) (v2:List Zi) (v3:Int) (c4:List Int) (c5:Int) (c6:Int):Option (((List Zi)×(List Zi)×Int×(List Int)×Int×Int×Unit) ⊕ ((Int×(List Int)×Int×Int×(List Zb)×Unit) ⊕ (Zv×Zw×Za))) :=
 if v3<(↑l05Places0.length:Int) then
 (Zc (c4,c5,c6,()) 60).bind fun y0 =>
 (Zc y0.snd (↑(List.length l14Draw0.fst):Int)).bind fun y1 =>
 (Zc y1.snd 30).bind fun y2 =>
 (atI l05Places0 v3).bind fun x0 =>
 if (Zk.drives x0)=true then
 if v3=Wq ((↑l05Places0.length:Int)-(↑(List.length l07Draw0.fst.snd.fst.snd.snd.fst):Int)) then
 if (Zk.drives x0)=true then
 some (.inl (v1,v2,Wq (v3+1),y2.snd.fst,y2.snd.snd.fst,y2.snd.snd.snd.fst,()))
 else
 (Zc y2.snd 8).bind fun y3 =>
 if 0<y3.fst then
 Zj ((List.length v2+List.length [(v3,y1.fst,(Wq (y0.fst-(20:Int)),Wq (Wq (y0.fst-(20:Int))+y2.fst),()),((0:Int),(0:Int),()),())])*(48:Nat)≤(140737488355328:Nat)) <|
 some (.inl (v1,v2++[(v3,y1.fst,(Wq (y0.fst-(20:Int)),Wq (Wq (y0.fst-(20:Int))+y2.fst),()),((0:Int),(0:Int),()),())],Wq (v3+(1:Int)),y3.snd.fst,y3.snd.snd.fst,y3.snd.snd.snd.fst,()))
 else
 some (.inl (v1,v2,Wq (v3+1),y3.snd.fst,y3.snd.snd.fst,y3.snd.snd.snd.fst,()))
 else
 (Zc y2.snd 8).bind fun y3 =>
 if 0<y3.fst then
 (Zc y3.snd 20).bind fun y4 =>
 (Zc y4.snd 10).bind fun y5 =>
 Zj ((List.length v1+List.length [(v3,y1.fst,(Wq (y0.fst-(20:Int)),Wq (Wq (y0.fst-(20:Int))+y2.fst),()),(y4.fst,Wq (y4.fst+y5.fst),()),())])*(48:Nat)≤(140737488355328:Nat)) <|
 some (.inl (v1++[(v3,y1.fst,(Wq (y0.fst-(20:Int)),Wq (Wq (y0.fst-(20:Int))+y2.fst),()),(y4.fst,Wq (y4.fst+y5.fst),()),())],v2,Wq (v3+(1:Int)),y5.snd.fst,y5.snd.snd.fst,y5.snd.snd.snd.fst,()))
 else
 if (Zk.drives x0)=true then
 some (.inl (v1,v2,Wq (v3+1),y3.snd.fst,y3.snd.snd.fst,y3.snd.snd.snd.fst,()))
 else
 (Zc y3.snd 8).bind fun y4 =>
 if 0<y4.fst then
 Zj ((List.length v2+List.length [(v3,y1.fst,(Wq (y0.fst-(20:Int)),Wq (Wq (y0.fst-(20:Int))+y2.fst),()),((0:Int),(0:Int),()),())])*(48:Nat)≤(140737488355328:Nat)) <|
 some (.inl (v1,v2++[(v3,y1.fst,(Wq (y0.fst-(20:Int)),Wq (Wq (y0.fst-(20:Int))+y2.fst),()),((0:Int),(0:Int),()),())],Wq (v3+(1:Int)),y4.snd.fst,y4.snd.snd.fst,y4.snd.snd.snd.fst,()))
 else
 some (.inl (v1,v2,Wq (v3+1),y4.snd.fst,y4.snd.snd.fst,y4.snd.snd.snd.fst,()))
 else
 if (Zk.drives x0)=true then
 some (.inl (v1,v2,Wq (v3+1),y2.snd.fst,y2.snd.snd.fst,y2.snd.snd.snd.fst,()))
 else
 (Zc y2.snd 8).bind fun y3 =>
 if 0<y3.fst then
 Zj ((List.length v2+List.length [(v3,y1.fst,(Wq (y0.fst-(20:Int)),Wq (Wq (y0.fst-(20:Int))+y2.fst),()),((0:Int),(0:Int),()),())])*(48:Nat)≤(140737488355328:Nat)) <|
 some (.inl (v1,v2++[(v3,y1.fst,(Wq (y0.fst-(20:Int)),Wq (Wq (y0.fst-(20:Int))+y2.fst),()),((0:Int),(0:Int),()),())],Wq (v3+(1:Int)),y3.snd.fst,y3.snd.snd.fst,y3.snd.snd.snd.fst,()))
 else
 some (.inl (v1,v2,Wq (v3+1),y3.snd.fst,y3.snd.snd.fst,y3.snd.snd.snd.fst,()))
 else
 (Zc (c4,c5,c6,()) 3).bind fun y0 =>
 ZA (fun v=>YR l07Draw0 l05Places0 c3 v1 v2 v.1 v.2.1 v.2.2.1 v.2.2.2.1 v.2.2.2.2.1) (([]:List Zo),y0.fst,y0.snd.fst,y0.snd.snd.fst,y0.snd.snd.snd.fst,())
def YG (l07Draw0:Zv×Za) (l05Places0:List Zk) (l14Draw0:List Zb×Za) (v0:Int) (c0:List Int) (c1:Int) (c2:Int) (c3:List Zb):Option ((Int×(List Int)×Int×Int×(List Zb)×Unit) ⊕ (Zv×Zw×Za)) :=
 if v0<(↑(List.length l14Draw0.fst):Int) then
 (atI l14Draw0.fst v0).bind fun x0 =>
 if 0<v0 then
 (Zc (c0,c1,c2,()) (↑l05Places0.length:Int)).bind fun y0 =>
 Zj ((List.length (([]:List (List UInt8×Int×Int×Int×Int×Int×Int×Bool×Int×Int×Int×Unit)))+List.length c3)*(96:Nat)≤(140737488355328:Nat)) <|
 Zj ((List.length (([]:List (List UInt8×Int×Int×Int×Int×Int×Int×Bool×Int×Int×Int×Unit))++c3)+List.length [(Zb.Name x0,y0.fst,x0.snd.snd)])*(96:Nat)≤(140737488355328:Nat)) <|
 some (.inl (Wq (v0+(1:Int)),y0.snd.fst,y0.snd.snd.fst,y0.snd.snd.snd.fst,([]:List (List UInt8×Int×Int×Int×Int×Int×Int×Bool×Int×Int×Int×Unit))++c3++[(Zb.Name x0,y0.fst,x0.snd.snd)],()))
 else
 Zj ((List.length (([]:List (List UInt8×Int×Int×Int×Int×Int×Int×Bool×Int×Int×Int×Unit)))+List.length c3)*(96:Nat)≤(140737488355328:Nat)) <|
 Zj ((List.length (([]:List (List UInt8×Int×Int×Int×Int×Int×Int×Bool×Int×Int×Int×Unit))++c3)+List.length [(Zb.Name x0,Wq ((↑l05Places0.length:Int)-(↑(List.length l07Draw0.fst.snd.fst.snd.snd.fst):Int)),x0.snd.snd)])*(96:Nat)≤(140737488355328:Nat)) <|
 some (.inl (Wq (v0+(1:Int)),c0,c1,c2,([]:List (List UInt8×Int×Int×Int×Int×Int×Int×Bool×Int×Int×Int×Unit))++c3++[(Zb.Name x0,Wq ((↑l05Places0.length:Int)-(↑(List.length l07Draw0.fst.snd.fst.snd.snd.fst):Int)),x0.snd.snd)],()))
 else
 ZA (fun v=>YF l07Draw0 l05Places0 l14Draw0 c3 v.1 v.2.1 v.2.2.1 v.2.2.2.1 v.2.2.2.2.1 v.2.2.2.2.2.1) (([]:List (Int×Int×Vz×Vz×Unit)),([]:List (Int×Int×Vz×Vz×Unit)),Wq ((↑l05Places0.length:Int)-(↑(List.length l07Draw0.fst.snd.fst.snd.snd.fst):Int)),c0,c1,c2,())
def Vj (a0:Za):Option (Zv×Zw×Za) :=
 (Qz a0 4 false).bind fun y0 =>
 (Zc y0.snd 6).bind fun y1 =>
 if y1.fst=0 then
 (Qz y1.snd 5 true).bind fun y2 =>
 (YJ y2.fst.snd.fst).bind fun y3 =>
 (QB y2.snd).bind fun y4 =>
 if (↑(List.length y4.fst):Int)=0 then
 (Zc y4.snd 400).bind fun y5 =>
 ZA (fun v=>ZX y2 y3 y5 v.1 v.2.1 v.2.2.1 v.2.2.2.1 v.2.2.2.2.1) ((0:Int),y5.snd.fst,y5.snd.snd.fst,y5.snd.snd.snd.fst,([]:List Zb),())
 else
 (Y1 y4.fst).bind fun y6 =>
 if y6 then
 ZA (fun v=>YQ y2 y3 y4 v.1 v.2.1 v.2.2.1 v.2.2.2.1 v.2.2.2.2.1) ((0:Int),y4.snd.fst,y4.snd.snd.fst,y4.snd.snd.snd.fst,([]:List Zb),())
 else
 (Zc y4.snd 400).bind fun y5 =>
 ZA (fun v=>ZX y2 y3 y5 v.1 v.2.1 v.2.2.1 v.2.2.2.1 v.2.2.2.2.1) ((0:Int),y5.snd.fst,y5.snd.snd.fst,y5.snd.snd.snd.fst,([]:List Zb),())
 else
 (YJ y0.fst.snd.fst).bind fun y3 =>
 (QB y1.snd).bind fun y4 =>
 if (↑(List.length y4.fst):Int)=0 then
 (Zc y4.snd 400).bind fun y5 =>
 ZA (fun v=>ZY y0 y3 y5 v.1 v.2.1 v.2.2.1 v.2.2.2.1 v.2.2.2.2.1) ((0:Int),y5.snd.fst,y5.snd.snd.fst,y5.snd.snd.snd.fst,([]:List Zb),())
 else
 (Y1 y4.fst).bind fun y6 =>
 if y6 then
 ZA (fun v=>YG y0 y3 y4 v.1 v.2.1 v.2.2.1 v.2.2.2.1 v.2.2.2.2.1) ((0:Int),y4.snd.fst,y4.snd.snd.fst,y4.snd.snd.snd.fst,([]:List Zb),())
 else
 (Zc y4.snd 400).bind fun y5 =>
 ZA (fun v=>ZY y0 y3 y5 v.1 v.2.1 v.2.2.1 v.2.2.2.1 v.2.2.2.2.1) ((0:Int),y5.snd.fst,y5.snd.snd.fst,y5.snd.snd.snd.fst,([]:List Zb),())
def c26:Ctr:=⟨[.io (.flat (Yn))],[.own (Zhk),.own (ZiV)],fun a K=>splitK a fun a0 a=>XU (Vj a0) fun r=>K (r.1,r.2.1,()) (r.2.2,())⟩
def XO (a0:Za):Option (Zv×Zw×Za) :=
 (Vj a0).bind fun y0 =>
 (Zc y0.snd.snd 24).bind fun y1 =>
 if y1.fst=0 then
 (Zc y1.snd 2).bind fun y2 =>
 (atI ([(-1:Int),(1000:Int)]) y2.fst).bind fun x0 =>
 (atI y0.snd.fst.fst 0).bind fun x1 =>
 some (y0.fst,(List.set y0.snd.fst.fst (Int.toNat 0) (Zb.Name x1,x0,x1.snd.snd),y0.snd.fst.snd),y2.snd)
 else
 if y1.fst=1 then
 if 0<(↑(List.length y0.snd.fst.snd.fst):Int) then
 (Zc y1.snd 2).bind fun y2 =>
 (atI ([(-1:Int),(6:Int)]) y2.fst).bind fun x0 =>
 (atI y0.snd.fst.snd.fst 0).bind fun x1 =>
 some (y0.fst,(y0.snd.fst.fst,List.set y0.snd.fst.snd.fst (Int.toNat 0) (Zi.Place x1,x0,x1.snd.snd),y0.snd.fst.snd.snd),y2.snd)
 else
 some (y0.fst,y0.snd.fst,y1.snd)
 else
 if y1.fst=2 then
 if 0<(↑(List.length y0.snd.fst.snd.fst):Int) then
 (atI y0.snd.fst.snd.fst 0).bind fun x0 =>
 some (y0.fst,(y0.snd.fst.fst,List.set y0.snd.fst.snd.fst (Int.toNat 0) (Zi.Place x0,Zi.Clock x0,(Wq (Vz.Late (Zi.Delay x0)+1),(Zi.Delay x0).snd),x0.snd.snd.snd),y0.snd.fst.snd.snd),y1.snd)
 else
 some (y0.fst,y0.snd.fst,y1.snd)
 else
 if y1.fst=3 then
 if 0<(↑(List.length y0.snd.fst.snd.snd.fst):Int) then
 (atI y0.snd.fst.snd.snd.fst 0).bind fun x0 =>
 some (y0.fst,(y0.snd.fst.fst,y0.snd.fst.snd.fst,List.set y0.snd.fst.snd.snd.fst (Int.toNat 0) (Zi.Place x0,Zi.Clock x0,Zi.Delay x0,(Vz.Early (Zi.Znd x0),1,()),()),y0.snd.fst.snd.snd.snd),y1.snd)
 else
 some (y0.fst,y0.snd.fst,y1.snd)
 else
 if y1.fst=4 then
 (atI y0.snd.fst.snd.snd.snd.snd.fst 0).bind fun x0 =>
 Zj ((List.length y0.snd.fst.snd.snd.snd.snd.fst+List.length [x0])*(48:Nat)≤(140737488355328:Nat)) <|
 some (y0.fst,(y0.snd.fst.fst,y0.snd.fst.snd.fst,y0.snd.fst.snd.snd.fst,y0.snd.fst.snd.snd.snd.fst,y0.snd.fst.snd.snd.snd.snd.fst++[x0],()),y1.snd)
 else
 if y1.fst=5 then
 Zj ((List.length y0.snd.fst.snd.snd.snd.fst+List.length [((0:Int),(0:Int),([]:List Int),([]:List Int),([]:List Int),())])*(88:Nat)≤(140737488355328:Nat)) <|
 some (y0.fst,(y0.snd.fst.fst,y0.snd.fst.snd.fst,y0.snd.fst.snd.snd.fst,y0.snd.fst.snd.snd.snd.fst++[((0:Int),(0:Int),([]:List Int),([]:List Int),([]:List Int),())],y0.snd.fst.snd.snd.snd.snd),y1.snd)
 else
 if y1.fst=6 then
 if 0<(↑(List.length y0.snd.fst.snd.snd.fst):Int) then
 (atI y0.snd.fst.snd.snd.fst 0).bind fun x0 =>
 Zj ((List.length y0.snd.fst.snd.fst+List.length [x0])*(48:Nat)≤(140737488355328:Nat)) <|
 some (y0.fst,(y0.snd.fst.fst,y0.snd.fst.snd.fst++[x0],y0.snd.fst.snd.snd),y1.snd)
 else
 some (y0.fst,y0.snd.fst,y1.snd)
 else
 if y1.fst=7 then
 some (y0.fst,(([]:List Zb),([]:List Zi),([]:List Zi),([]:List Zo),([]:List Qj),()),y1.snd)
 else
 some (y0.fst,y0.snd.fst,y1.snd)
def c27:Ctr:=⟨[.io (.flat (Yn))],[.own (Zhk),.own (ZiV)],fun a K=>splitK a fun a0 a=>XU (XO a0) fun r=>K (r.1,r.2.1,()) (r.2.2,())⟩
def YC (code0:List Int):Option (Zw×Int×Int) :=
 (Ve code0).bind fun y0 =>
 (XO y0).bind fun y1 =>
 (Zc y1.snd.snd (Wq ((↑(List.length y1.snd.fst.fst):Int)+1))).bind fun y2 =>
 (Zc y2.snd 12).bind fun y3 =>
 (Zc y3.snd (Wq ((↑(List.length y1.snd.fst.fst):Int)+1))).bind fun y4 =>
 some (y1.snd.fst,Wq (y2.fst-Wq (Int.tdiv y3.fst 11)),y4.fst)
def c28:Ctr:=⟨[.dat (.sl (.int .u8))],[.own (ZiV),.dat Iq,.dat Iq],fun a K=>splitK a fun code0 a=>XU (YC code0) fun r=>K (r.1,r.2.1,r.2.2,()) ()⟩
def YA (x0:Int) (low0:Int) (high0:Int):Option Bool :=
 if low0≤x0 then
 some (Decidable.decide (x0≤high0))
 else
 some false
def c29:Ctr:=D3 Iq Iq Iq (.bool) YA
def Yl (c0:Zb):Option Bool :=
 (YA (Zb.Qo c0) 2 100000).bind fun y0 =>
 if y0 then
 (YA (Zb.QX c0) 0 (Wq (Zb.Qo c0-1))).bind fun y1 =>
 if y1 then
 (YA (Zb.Vm c0) 0 (Wq (Zb.Qo c0-1))).bind fun y2 =>
 if y2 then
 if Zb.QX c0=Zb.Vm c0 then
 some false
 else
 if Zb.Divide c0=1 then
 some (!Zb.ZaU c0)
 else
 some false
 else
 some false
 else
 some false
 else
 some false
def c30:Ctr:=D1 (Xd) (.bool) Yl
def Qb (rec0:(List Zb)→Int→Option Yo) (list0:List Zb) (k0:Int):Option Yo :=
 (atI list0 k0).bind fun x0 =>
 if Zb.Source x0<0 then
 some (Zb.Qo x0,(Zb.QX x0,Zb.Vm x0,()),())
 else
 (rec0 list0 (Zb.Source x0)).bind fun r0 =>
 if 1<Zb.Divide x0 then
 if (Zb.ZaU x0)=true then
 some (Wq (Zb.Divide x0*Yo.period r0),(Wq ((Yo.edges r0).fst+Wq (Wq (Int.tdiv (Zb.Divide x0) 2)*Yo.period r0)),(Yo.edges r0).fst,()),())
 else
 some (Wq (Zb.Divide x0*Yo.period r0),((Yo.edges r0).fst,Wq ((Yo.edges r0).fst+Wq (Wq (Int.tdiv (Zb.Divide x0) 2)*Yo.period r0)),()),())
 else
 if (Zb.ZaU x0)=true then
 some (Yo.period r0,((Yo.edges r0).snd.fst,(Yo.edges r0).fst,()),())
 else
 some r0
def X3:Nat→(List Zb)→Int→Option Yo
 | 0=>fun _ _=>none
 | n+1=>Qb (X3 n)
def X0 (list0:List Zb) (k0:Int):Option Yo:=ZkQ (fun n=>X3 n list0 k0)
def VJ (rec0:(List Zb)→Int→Option Yo):Ctr:=⟨[.dat (.sl (Xd)),.dat Iq],[.dat (Zj2)],fun a K=>splitK a fun list0 a=>splitK a fun k0 a=>XU (rec0 list0 k0) fun r=>K (r,()) ()⟩
def c31:Ctr:=VJ X0
def Va (a0:List Zb) (a1:Int):Option Bool :=
 (atI a0 a1).bind fun x0 =>
 if Zb.Place x0<0 then
 some false
 else
 if Zb.Yg x0<0 then
 some false
 else
 if Zb.XV x0<Zb.Yg x0 then
 some false
 else
 if 100000<Zb.XV x0 then
 some false
 else
 (YA (Zb.ZR x0) 0 100000).bind fun y0 =>
 if y0 then
 if Zb.Source x0=(-1) then
 (Yl x0).bind fun y1 =>
 some y1
 else
 (YA (Zb.Source x0) 0 (Wq (a1-1))).bind fun y2 =>
 if y2 then
 (YA (Zb.Divide x0) 1 8).bind fun y3 =>
 if y3 then
 if Zb.Qo x0=0 then
 if Zb.QX x0=0 then
 if Zb.Vm x0=0 then
 (X0 a0 a1).bind fun y4 =>
 some (Decidable.decide (Yo.period y4≤100000))
 else
 some false
 else
 some false
 else
 some false
 else
 some false
 else
 some false
 else
 some false
def c32:Ctr:=D2 (.sl (Xd)) Iq (.bool) Va
def VD (s0:List UInt8):Option Bool :=
 (YA (↑s0.length:Int) 1 8).bind fun y0 =>
 if y0 then
 Zj (List.length s0≤(1000000:Nat)) <|
 if Go.Lib.trimS s0 [(97:UInt8),(98:UInt8),(99:UInt8),(100:UInt8),(101:UInt8),(102:UInt8),(103:UInt8),(104:UInt8),(105:UInt8),(106:UInt8),(107:UInt8),(108:UInt8),(109:UInt8),(110:UInt8),(111:UInt8),(112:UInt8),(113:UInt8),(114:UInt8),(115:UInt8),(116:UInt8),(117:UInt8),(118:UInt8),(119:UInt8),(120:UInt8),(121:UInt8),(122:UInt8),(48:UInt8),(49:UInt8),(50:UInt8),(51:UInt8),(52:UInt8),(53:UInt8),(54:UInt8),(55:UInt8),(56:UInt8),(57:UInt8)]=([]:List UInt8) then
 (atI s0 0).bind fun x0 =>
 some (Decidable.decide ((0:Int)≤Go.Lib.indexByte [(97:UInt8),(98:UInt8),(99:UInt8),(100:UInt8),(101:UInt8),(102:UInt8),(103:UInt8),(104:UInt8),(105:UInt8),(106:UInt8),(107:UInt8),(108:UInt8),(109:UInt8),(110:UInt8),(111:UInt8),(112:UInt8),(113:UInt8),(114:UInt8),(115:UInt8),(116:UInt8),(117:UInt8),(118:UInt8),(119:UInt8),(120:UInt8),(121:UInt8),(122:UInt8)] (Nat.toUInt8 (Int.toNat (↑(UInt8.toNat x0):Int)))))
 else
 some false
 else
 some false
def c33:Ctr:=D1 (.str) (.bool) VD
def ZM (s0:List (List UInt8)) (v0:List UInt8) (v1:Int):Option ((Int×Unit) ⊕ Int) :=
 if v1<(↑s0.length:Int) then
 (atI s0 v1).bind fun x0 =>
 if v0=x0 then
 some (.inr v1)
 else
 some (.inl (Wq (v1+1),()))
 else
 some (.inr (-1))
def ZP (s0:List (List UInt8)) (v0:List UInt8):Option Int :=
 ZA (fun v=>ZM s0 v0 v.1) ((0:Int),())
def c34:Ctr:=D2 (.sl (.str)) (.str) Iq ZP
def ZJ (s0:List (List UInt8)) (v0:List UInt8):Option Bool :=
 (ZP s0 v0).bind fun y0 =>
 some (Decidable.decide (0≤y0))
def c35:Ctr:=D2 (.sl (.str)) (.str) (.bool) ZJ
def Y7 (list0:List (List UInt8)) (v0:Int):Option ((Int×Unit) ⊕ Bool) :=
 if v0<(↑list0.length:Int) then
 (atI list0 v0).bind fun x0 =>
 (VD x0).bind fun y0 =>
 if y0 then
 Zj ((0:Int)≤v0) <|
 Zj (v0≤(↑list0.length:Int)) <|
 (ZJ (List.take (Int.toNat v0-Int.toNat 0) (List.drop (Int.toNat 0) list0)) x0).bind fun y1 =>
 if y1 then
 some (.inr false)
 else
 some (.inl (Wq (v0+1),()))
 else
 some (.inr false)
 else
 some (.inr true)
def QO (list0:List (List UInt8)):Option Bool :=
 ZA (fun v=>Y7 list0 v.1) ((0:Int),())
def c36:Ctr:=D1 (.sl (.str)) (.bool) QO
def Y5 (list0:List Zb) (names0:List (List UInt8)) (v0:Int):Option (((List (List UInt8))×Int×Unit) ⊕ Bool) :=
 if v0<(↑list0.length:Int) then
 (atI list0 v0).bind fun x0 =>
 (Va list0 v0).bind fun y0 =>
 if y0 then
 Zj ((List.length names0+List.length [Zb.Name x0])*(16:Nat)≤(140737488355328:Nat)) <|
 some (.inl (names0++[Zb.Name x0],Wq (v0+(1:Int)),()))
 else
 some (.inr false)
 else
 (QO names0).bind fun y1 =>
 some (.inr y1)
def QN (list0:List Zb):Option Bool :=
 if 6<(↑list0.length:Int) then
 some false
 else
 ZA (fun v=>Y5 list0 v.1 v.2.1) (([]:List (List UInt8)),(0:Int),())
def c37:Ctr:=D1 (.sl (Xd)) (.bool) QN
def Yt (list0:List Zb):Option Int :=
 some (↑list0.length:Int)
def c38:Ctr:=D1 (.sl (Xd)) Iq Yt
def XH (n0:Int) (a0:Int) (a1:Int):Option Bool :=
 (YA n0 a0 a1).bind fun y0 =>
 some !y0
def c39:Ctr:=D3 Iq (.ptr Iq) (.ptr Iq) (.bool) XH
def Zr (s0:List Int) (f0:Int×Int×Unit) (v0:Int):Option ((Int×Unit) ⊕ Int) :=
 if v0<(↑s0.length:Int) then
 (atI s0 v0).bind fun x0 =>
 (XH x0 f0.fst f0.snd.fst).bind fun y0 =>
 if y0 then
 some (.inr v0)
 else
 some (.inl (Wq (v0+1),()))
 else
 some (.inr (-1))
def Zq (s0:List Int) (f0:Int×Int×Unit):Option Int :=
 ZA (fun v=>Zr s0 f0 v.1) ((0:Int),())
def c40:Ctr:=D2 (.sl Iq) (.fn 190 (.pair (.ptr Iq) (.pair (.ptr Iq) (.unit)))) Iq Zq
def Zt (s0:List Int) (f0:Int×Int×Unit):Option Bool :=
 (Zq s0 f0).bind fun y0 =>
 some (Decidable.decide (0≤y0))
def c41:Ctr:=D2 (.sl Iq) (.fn 190 (.pair (.ptr Iq) (.pair (.ptr Iq) (.unit)))) (.bool) Zt
def Qf (list0:List Int) (low0:Int) (high0:Int):Option Bool :=
 (Zt list0 (low0,high0,())).bind fun y0 =>
 some !y0
def c42:Ctr:=D3 (.sl Iq) Iq Iq (.bool) Qf
def XF (list0:List Zb) (clocks0:List Int):Option Int :=
 (QN list0).bind fun y0 =>
 if y0 then
 (Yt list0).bind fun y1 =>
 (Qf clocks0 0 (Wq (y1-1))).bind fun y2 =>
 if y2 then
 some 0
 else
 some 4
 else
 some 1
def c43:Ctr:=D2 (.sl (Xd)) (.sl Iq) Iq XF
def Yz (n0:Int):Option Bool :=
 if n0=0 then
 some true
 else
 some (Decidable.decide (n0=1))
def c44:Ctr:=D1 Iq (.bool) Yz
def QS (list0:List Zb) (k1:Int):Option ((Int×Unit) ⊕ Int) :=
 (atI list0 k1).bind fun x0 =>
 if 0≤Zb.Source x0 then
 some (.inl (Zb.Source x0,()))
 else
 some (.inr k1)
def Q7 (list0:List Zb) (k0:Int):Option Int :=
 ZA (fun v=>QS list0 v.1) (k0,())
def c45:Ctr:=D2 (.sl (Xd)) Iq Iq Q7
def VO (a1:Int) (b1:Int):Option ((Int×Int×Unit) ⊕ Int) :=
 if b1=0 then
 some (.inr a1)
 else
 Zj (b1≠(0:Int)) <|
 some (.inl (b1,Int.tmod a1 b1,()))
def ZaL (a0:Int) (b0:Int):Option Int :=
 ZA (fun v=>VO v.1 v.2.1) (a0,b0,())
def c46:Ctr:=D2 Iq Iq Iq ZaL
def Xh (list0:List Zb) (a0:Int) (b0:Int):Option Int :=
 (X0 list0 a0).bind fun y0 =>
 (X0 list0 b0).bind fun y1 =>
 (ZaL (Yo.period y0) (Yo.period y1)).bind fun y2 =>
 Zj (y2≠(0:Int)) <|
 some (Wq (Wq (Int.tdiv (Yo.period y0) y2)*Yo.period y1))
def c47:Ctr:=D3 (.sl (Xd)) Iq Iq Iq Xh
def Q9 (a0:List Zb) (a1:Int) (a2:Int) (a3:Int) (a4:Int):Option (Ye×Int) :=
 (XF a0 [a1,a3]).bind fun y0 =>
 if y0=0 then
 (Yz a2).bind fun y1 =>
 if y1 then
 (Yz a4).bind fun y2 =>
 if y2 then
 (Q7 a0 a1).bind fun y3 =>
 (Q7 a0 a3).bind fun y4 =>
 if y3=y4 then
 (X0 a0 a1).bind fun y5 =>
 (X0 a0 a3).bind fun y6 =>
 (Xh a0 a1 a3).bind fun y7 =>
 if 100000000<y7 then
 some (((0,(0,0,()),()),(0,(0,0,()),()),0,0,0,()),3)
 else
 Zj (Yo.period y5≠(0:Int)) <|
 if 200<Wq (Int.tdiv y7 (Yo.period y5)) then
 some (((0,(0,0,()),()),(0,(0,0,()),()),0,0,0,()),3)
 else
 some ((y5,y6,a2,a4,y7,()),0)
 else
 some (((0,(0,0,()),()),(0,(0,0,()),()),0,0,0,()),5)
 else
 some (((0,(0,0,()),()),(0,(0,0,()),()),0,0,0,()),2)
 else
 some (((0,(0,0,()),()),(0,(0,0,()),()),0,0,0,()),2)
 else
 some (((0,(0,0,()),()),(0,(0,0,()),()),0,0,0,()),y0)
def c48:Ctr:=⟨[.dat (.sl (Xd)),.dat Iq,.dat Iq,.dat Iq,.dat Iq],[.dat (Zgu),.dat Iq],fun a K=>splitK a fun a0 a=>splitK a fun a1 a=>splitK a fun a2 a=>splitK a fun a3 a=>splitK a fun a4 a=>XU (Q9 a0 a1 a2 a3 a4) fun r=>K (r.1,r.2,()) ()⟩
def VE (a0:Int) (b0:Int):Option Int :=
 Zj (b0≠(0:Int)) <|
 some (Int.tmod (Wq (Int.tmod a0 b0+b0)) b0)
def c49:Ctr:=D2 Iq Iq Iq VE
def Qh (w0:Yo) (edge0:Int) (time0:Int):Option Int :=
 Zj ((0:Int)≤edge0) <|
 Zj (edge0<(↑(2:Nat):Int)) <|
 if edge0=0 then
 (VE (Wq ((Yo.edges w0).fst-time0)) (Yo.period w0)).bind fun y0 =>
 some (Wq (time0+y0))
 else
 if edge0=1 then
 (VE (Wq ((Yo.edges w0).snd.fst-time0)) (Yo.period w0)).bind fun y0 =>
 some (Wq (time0+y0))
 else
 none
def c50:Ctr:=D3 (Zj2) Iq Iq Iq Qh
def ZO (x0:Ye) (list0:List (List Int)) (l0:Int):Option (((List (List Int))×Int×Unit) ⊕ List (List Int)) :=
 if l0<Ye.hyper x0 then
 (Qh (Ye.to x0) (Ye.eb x0) (Wq (l0+1))).bind fun y0 =>
 Zj ((List.length list0+List.length [[l0,y0]])*(24:Nat)≤(140737488355328:Nat)) <|
 some (.inl (list0++[[l0,y0]],Wq (l0+Yo.period (Ye.from x0)),()))
 else
 some (.inr list0)
def YS (x0:Ye):Option (List (List Int)) :=
 Zj ((0:Int)≤Ye.ea x0) <|
 Zj (Ye.ea x0<(↑(2:Nat):Int)) <|
 if Ye.ea x0=0 then
 ZA (fun v=>ZO x0 v.1 v.2.1) (([]:List (List Int)),(Yo.edges (Ye.from x0)).fst,())
 else
 if Ye.ea x0=1 then
 ZA (fun v=>ZO x0 v.1 v.2.1) (([]:List (List Int)),(Yo.edges (Ye.from x0)).snd.fst,())
 else
 none
def c51:Ctr:=⟨[.dat (Zgu)],[.own (.ol 51 (.ol 2 (.flat Iq)))],fun a K=>splitK a fun x0 a=>XU (YS x0) fun r=>K (r,()) ()⟩
def Qk (pairs0:List (List Int)) (least0:Int) (v0:Int) (l0:List (List Int)):Option ((Int×Int×(List (List Int))×Unit) ⊕ Int) :=
 if v0<(↑pairs0.length:Int) then
 (atI l0 v0).bind fun x1 =>
 (atI x1 1).bind fun x2 =>
 (atI x1 0).bind fun x3 =>
 some (.inl (Min.min least0 (Wq (x2-x3)),Wq (v0+1),List.set l0 (Int.toNat v0) x1,()))
 else
 some (.inr least0)
def Xg (x0:Ye):Option Int :=
 (YS x0).bind fun y0 =>
 ZA (fun v=>Qk y0 v.1 v.2.1 v.2.2.1) (Yo.period (Ye.to x0),(0:Int),y0,())
def c52:Ctr:=D1 (Zgu) Iq Xg
def Xm (x0:Ye) (pairs0:List (List Int)) (most0:Int) (v0:Int) (l0:List (List Int)):Option ((Int×Int×(List (List Int))×Unit) ⊕ Int) :=
 if v0<(↑pairs0.length:Int) then
 (atI l0 v0).bind fun x1 =>
 (atI x1 1).bind fun x2 =>
 (atI x1 0).bind fun x3 =>
 some (.inl (Max.max most0 (Wq (Wq (x2-x3)-Min.min (Yo.period (Ye.to x0)) (Yo.period (Ye.from x0)))),Wq (v0+1),List.set l0 (Int.toNat v0) x1,()))
 else
 some (.inr most0)
def XI (x0:Ye):Option Int :=
 (YS x0).bind fun y0 =>
 ZA (fun v=>Xm x0 y0 v.1 v.2.1 v.2.2.1) (Wq (Wq ((0:Int)-Yo.period (Ye.to x0))-Yo.period (Ye.from x0)),(0:Int),y0,())
def c53:Ctr:=D1 (Zgu) Iq XI
def Y6 (s0:Zw) (from0:Int) (to0:Int):Option (Qp×Int) :=
 (Q9 (Zw.XP s0) from0 0 to0 0).bind fun y0 =>
 if y0.snd=0 then
 (atI (Zw.XP s0) from0).bind fun x0 =>
 (atI (Zw.XP s0) to0).bind fun x1 =>
 (Xg y0.fst).bind fun y1 =>
 (XI y0.fst).bind fun y2 =>
 some ((y1,y2,Max.max (Zb.ZR x0) (Zb.ZR x1),()),0)
 else
 some ((0,0,0,()),y0.snd)
def c54:Ctr:=⟨[.dat (ZeV),.dat Iq,.dat Iq],[.dat (ZdP),.dat Iq],fun a K=>splitK a fun s0 a=>splitK a fun from0 a=>splitK a fun to0 a=>XU (Y6 s0 from0 to0) fun r=>K (r.1,r.2,()) ()⟩
def Qm (list0:List Zb) (k1:Int):Option ((Int×Unit) ⊕ Int) :=
 (atI list0 k1).bind fun x0 =>
 if 0≤Zb.Source x0 then
 some (.inl (Zb.Source x0,()))
 else
 some (.inr k1)
def QE (list0:List Zb) (k0:Int):Option Int :=
 ZA (fun v=>Qm list0 v.1) (k0,())
def c55:Ctr:=D2 (.sl (Xd)) Iq Iq QE
def QU (a1:Int) (b1:Int):Option ((Int×Int×Unit) ⊕ Int) :=
 if 0<b1 then
 Zj (b1≠(0:Int)) <|
 some (.inl (b1,Int.tmod a1 b1,()))
 else
 some (.inr a1)
def VI (a0:Int) (b0:Int):Option Int :=
 ZA (fun v=>QU v.1 v.2.1) (a0,b0,())
def c56:Ctr:=D2 Iq Iq Iq VI
def X7 (list0:List Zb) (a0:Int) (b0:Int):Option Int :=
 (XL list0 a0).bind fun y0 =>
 (XL list0 b0).bind fun y1 =>
 (VI (Zx.period y0) (Zx.period y1)).bind fun y2 =>
 Zj (y2≠(0:Int)) <|
 some (Wq (Wq (Int.tdiv (Zx.period y0) y2)*Zx.period y1))
def c57:Ctr:=D3 (.sl (Xd)) Iq Iq Iq X7
def QF (list0:List Zb) (a0:Int) (ea0:Int) (b0:Int) (eb0:Int):Option Int :=
 (Y1 list0).bind fun y0 =>
 if y0 then
 (Yd a0 0 (Wq ((↑list0.length:Int)-1))).bind fun y1 =>
 if y1 then
 (Yd b0 0 (Wq ((↑list0.length:Int)-1))).bind fun y2 =>
 if y2 then
 (Yd ea0 0 1).bind fun y3 =>
 if y3 then
 (Yd eb0 0 1).bind fun y4 =>
 if y4 then
 (QE list0 a0).bind fun y5 =>
 (QE list0 b0).bind fun y6 =>
 if y5=y6 then
 (X7 list0 a0 b0).bind fun y7 =>
 if 100000000<y7 then
 some 3
 else
 (XL list0 a0).bind fun y8 =>
 Zj (Zx.period y8≠(0:Int)) <|
 if 200<Wq (Int.tdiv y7 (Zx.period y8)) then
 some 3
 else
 some 0
 else
 some 5
 else
 some 2
 else
 some 2
 else
 some 4
 else
 some 4
 else
 some 1
def c58:Ctr:=⟨[.dat (.sl (Xd)),.dat Iq,.dat Iq,.dat Iq,.dat Iq],[.dat Iq],fun a K=>splitK a fun list0 a=>splitK a fun a0 a=>splitK a fun ea0 a=>splitK a fun b0 a=>splitK a fun eb0 a=>XU (QF list0 a0 ea0 b0 eb0) fun r=>K (r,()) ()⟩
def Vi (w0:Zx) (edge0:Int):Option Int :=
 if edge0=0 then
 some (Zx.rise w0)
 else
 some (Zx.fall w0)
def c59:Ctr:=D2 (Zc4) Iq Iq Vi
def X6 (w0:Zx) (edge0:Int) (time0:Int):Option Int :=
 (Vi w0 edge0).bind fun y0 =>
 Zj (Zx.period w0≠(0:Int)) <|
 some (Wq (time0+Int.tmod (Wq (Int.tmod (Wq (y0-time0)) (Zx.period w0)+Zx.period w0)) (Zx.period w0)))
def c60:Ctr:=D3 (Zc4) Iq Iq Iq X6
def X9 (eb0:Int) (l14Hyper0:Int) (l14Of0:Zx) (l14Of1:Zx) (out0:List (List Int)) (at0:Int):Option (((List (List Int))×Int×Unit) ⊕ List (List Int)) :=
 if at0<l14Hyper0 then
 (X6 l14Of1 eb0 (Wq (at0+1))).bind fun y0 =>
 Zj ((List.length out0+List.length [[at0,y0]])*(24:Nat)≤(140737488355328:Nat)) <|
 some (.inl (out0++[[at0,y0]],Wq (at0+Zx.period l14Of0),()))
 else
 some (.inr out0)
def X8 (list0:List Zb) (a0:Int) (ea0:Int) (b0:Int) (eb0:Int):Option (List (List Int)) :=
 (X7 list0 a0 b0).bind fun y0 =>
 (XL list0 a0).bind fun y1 =>
 (XL list0 b0).bind fun y2 =>
 (X6 y1 ea0 0).bind fun y3 =>
 ZA (fun v=>X9 eb0 y0 y1 y2 v.1 v.2.1) (([]:List (List Int)),y3,())
def c61:Ctr:=⟨[.dat (.sl (Xd)),.dat Iq,.dat Iq,.dat Iq,.dat Iq],[.own (.ol 51 (.ol 2 (.flat Iq)))],fun a K=>splitK a fun list0 a=>splitK a fun a0 a=>splitK a fun ea0 a=>splitK a fun b0 a=>splitK a fun eb0 a=>XU (X8 list0 a0 ea0 b0 eb0) fun r=>K (r,()) ()⟩
def Xf (best0:Int) (i0:Int) (l0:List (List Int)):Option ((Int×Int×(List (List Int))×Unit) ⊕ (Int×Int)) :=
 if i0<(↑l0.length:Int) then
 (atI l0 i0).bind fun x3 =>
 (atI x3 1).bind fun x4 =>
 (atI x3 0).bind fun x5 =>
 some (.inl (Min.min best0 (Wq (x4-x5)),Wq (i0+1),List.set l0 (Int.toNat i0) x3,()))
 else
 some (.inr (best0,0))
def Ym (list0:List Zb) (a0:Int) (ea0:Int) (b0:Int) (eb0:Int):Option (Int×Int) :=
 (QF list0 a0 ea0 b0 eb0).bind fun y0 =>
 if y0=0 then
 (X8 list0 a0 ea0 b0 eb0).bind fun y1 =>
 (atI y1 0).bind fun x0 =>
 (atI x0 1).bind fun x1 =>
 (atI x0 0).bind fun x2 =>
 ZA (fun v=>Xf v.1 v.2.1 v.2.2.1) (Wq (x1-x2),(0:Int),List.set y1 (Int.toNat (0:Int)) x0,())
 else
 some (0,y0)
def c62:Ctr:=⟨[.dat (.sl (Xd)),.dat Iq,.dat Iq,.dat Iq,.dat Iq],[.dat Iq,.dat Iq],fun a K=>splitK a fun list0 a=>splitK a fun a0 a=>splitK a fun ea0 a=>splitK a fun b0 a=>splitK a fun eb0 a=>XU (Ym list0 a0 ea0 b0 eb0) fun r=>K (r.1,r.2,()) ()⟩
def YI (l14Of0:Zx) (l14Of1:Zx) (v0:Int) (v1:Int) (l0:List (List Int)):Option ((Int×Int×(List (List Int))×Unit) ⊕ (Int×Int)) :=
 if v1<(↑l0.length:Int) then
 (atI l0 v1).bind fun x3 =>
 (atI x3 1).bind fun x4 =>
 (atI x3 0).bind fun x5 =>
 some (.inl (Max.max v0 (Wq (Wq (x4-x5)-Min.min (Zx.period l14Of0) (Zx.period l14Of1))),Wq (v1+1),List.set l0 (Int.toNat v1) x3,()))
 else
 some (.inr (v0,0))
def YD (a0:List Zb) (a1:Int) (a2:Int) (a3:Int) (a4:Int):Option (Int×Int) :=
 (QF a0 a1 a2 a3 a4).bind fun y0 =>
 if y0=0 then
 (X8 a0 a1 a2 a3 a4).bind fun y1 =>
 (XL a0 a1).bind fun y2 =>
 (XL a0 a3).bind fun y3 =>
 (atI y1 0).bind fun x0 =>
 (atI x0 1).bind fun x1 =>
 (atI x0 0).bind fun x2 =>
 ZA (fun v=>YI y2 y3 v.1 v.2.1 v.2.2.1) (Wq (Wq (x1-x2)-Min.min (Zx.period y2) (Zx.period y3)),(0:Int),List.set y1 (Int.toNat (0:Int)) x0,())
 else
 some (0,y0)
def c63:Ctr:=⟨[.dat (.sl (Xd)),.dat Iq,.dat Iq,.dat Iq,.dat Iq],[.dat Iq,.dat Iq],fun a K=>splitK a fun a0 a=>splitK a fun a1 a=>splitK a fun a2 a=>splitK a fun a3 a=>splitK a fun a4 a=>XU (YD a0 a1 a2 a3 a4) fun r=>K (r.1,r.2,()) ()⟩
def QA (list0:List Zb) (k0:Int):Option Int :=
 (Y1 list0).bind fun y0 =>
 if y0 then
 (Yd k0 0 (Wq ((↑list0.length:Int)-1))).bind fun y1 =>
 if y1 then
 some 0
 else
 some 4
 else
 some 1
def c64:Ctr:=D2 (.sl (Xd)) Iq Iq QA
def YN (list0:List Zb) (a0:Int) (b0:Int):Option (Int×Int) :=
 (QA list0 a0).bind fun y0 =>
 if y0=0 then
 (QA list0 b0).bind fun y1 =>
 if y1=0 then
 (atI list0 a0).bind fun x0 =>
 (atI list0 b0).bind fun x1 =>
 some (Max.max (Zb.ZR x0) (Zb.ZR x1),0)
 else
 some (0,y1)
 else
 some (0,y0)
def c65:Ctr:=⟨[.dat (.sl (Xd)),.dat Iq,.dat Iq],[.dat Iq,.dat Iq],fun a K=>splitK a fun list0 a=>splitK a fun a0 a=>splitK a fun b0 a=>XU (YN list0 a0 b0) fun r=>K (r.1,r.2,()) ()⟩
def XK (s0:Zw) (from0:Int) (to0:Int):Option (Qp×Int) :=
 (Ym (Zw.XP s0) from0 0 to0 0).bind fun y0 =>
 if y0.snd=0 then
 (YD (Zw.XP s0) from0 0 to0 0).bind fun y1 =>
 (YN (Zw.XP s0) from0 to0).bind fun y2 =>
 some ((y0.fst,y1.fst,y2.fst,()),0)
 else
 some ((0,0,0,()),y0.snd)
def c66:Ctr:=⟨[.dat (ZeV),.dat Iq,.dat Iq],[.dat (ZdP),.dat Iq],fun a K=>splitK a fun s0 a=>splitK a fun from0 a=>splitK a fun to0 a=>XU (XK s0 from0 to0) fun r=>K (r.1,r.2,()) ()⟩
def VB (list0:List Zb) (k0:Int):Option (Int×Int×Int×Int) :=
 (XF list0 [k0]).bind fun y0 =>
 if y0=0 then
 (X0 list0 k0).bind fun y1 =>
 some (Yo.period y1,(Yo.edges y1).fst,(Yo.edges y1).snd.fst,0)
 else
 some (0,0,0,y0)
def c67:Ctr:=⟨[.dat (.sl (Xd)),.dat Iq],[.dat Iq,.dat Iq,.dat Iq,.dat Iq],fun a K=>splitK a fun list0 a=>splitK a fun k0 a=>XU (VB list0 k0) fun r=>K (r.1,r.2.1,r.2.2.1,r.2.2.2,()) ()⟩
def Qs (a0:List Int):Option Bool :=
 (ZbE a0).bind fun y0 =>
 if y0 then
 some true
 else
 (YC a0).bind fun y1 =>
 (Y6 y1.fst y1.snd.fst y1.snd.snd).bind fun y2 =>
 (XK y1.fst y1.snd.fst y1.snd.snd).bind fun y3 =>
 if y2.snd=y3.snd then
 if y2.snd=0 then
 (Y6 y1.fst y1.snd.snd y1.snd.snd).bind fun y4 =>
 (VB y1.fst.fst y1.snd.snd).bind fun y5 =>
 if y4.snd=0 then
 if y5.snd.snd.snd=0 then
 if y4.fst.fst=y5.fst then
 if y4.fst.snd.fst=0 then
 if 1≤y2.fst.fst then
 if y2.fst.fst≤y5.fst then
 some (Decidable.decide (y4.fst.snd.snd.fst≤y2.fst.snd.snd.fst))
 else
 some false
 else
 some false
 else
 some false
 else
 some false
 else
 some false
 else
 some false
 else
 some (Decidable.decide (y2.fst.fst=0)&&(Decidable.decide (y2.fst.snd.fst=0)&&Decidable.decide (y2.fst.snd.snd.fst=0)))
 else
 some false
def Jz:Ctr:=⟨[.dat (.sl (.int .u8))],[.dat (.bool)],fun a K=>splitK a fun a0 a=>XU (Qs a0) fun r=>K (r,()) ()⟩
end
end Go.Proofs.YtnnbgbgapogckaaGreatDoor
