/-
 The models of the functions and their contracts. Printed by program.
-/
import Derived.Test.YtnnbgbgapogckaaGreatDoorSxTab
import Derived.Test.YtnnbgbgapogckaaGreatDoorSxS0
import Derived.Test.YtnnbgbgapogckaaGreatDoorSxLib
namespace Go.Proofs.YtnnbgbgapogckaaGreatDoor
open Go Go.Sx
set_option maxRecDepth 100000
set_option maxHeartbeats 6400000
set_option linter.unusedVariables false
set_option linter.unusedSimpArgs false
noncomputable section
abbrev Iq:Ty:=.int .i64
abbrev Wq:=IntKind.wrap IntKind.i64
abbrev Sq:=Zd Tryz.prog
theorem Bq {α β:Type} (x:α) (f:α→Option β):(some x).bind f=f x:=rfl
def ZbE (code0:List Int):Option Bool :=
 some (Decidable.decide (4096<(↑code0.length:Int)))
def c0:Ctr:=D1 (.sl (.int .u8)) (.bool) ZbE
def Xp (code0:List Int) (i0:Int) (c0:Int):Option ((Int×Int×Unit) ⊕ Za) :=
 if i0<(↑code0.length:Int) then
 if i0<64 then
 (atI code0 i0).bind fun x0 =>
 some (.inl (Wq (i0+1),Int.tmod (Wq (Wq (c0*31)+Wq x0)) 2147483647,()))
 else
 some (.inr (code0,0,c0,()))
 else
 some (.inr (code0,0,c0,()))
def Ve (code0:List Int):Option Za :=
 ZA (fun v=>Xp code0 v.1 v.2.1) ((0:Int),(12345:Int),())
def c1:Ctr:=⟨[.dat (.sl (.int .u8))],[.io (.flat (Yn))],fun a K=>splitK a fun code0 a=>XU (Ve code0) fun r=>K (r,()) ()⟩
def Zc (a0:Za) (a1:Int):Option (Int×Za) :=
 if a1≤1 then
 some (0,a0)
 else
 if Za.at a0<(↑(List.length (Za.code a0)):Int) then
 (atI (Za.code a0) (Za.at a0)).bind fun x0 =>
 if a1≤256 then
 Zj (a1≠(0:Int)) <|
 some (Int.tmod (Wq x0) a1,(Za.code a0,Wq (Za.at a0+1),a0.snd.snd))
 else
 Zj (a1≠(0:Int)) <|
 some (Int.tmod (Int.tmod (Wq (Wq (Wq (Za.seed a0*48271)+Wq x0)+1)) 2147483647) a1,(Za.code a0,Wq (Za.at a0+1),Int.tmod (Wq (Wq (Wq (Za.seed a0*48271)+Wq x0)+1)) 2147483647,()))
 else
 Zj (a1≠(0:Int)) <|
 some (Int.tmod (Wq (Int.tdiv (Int.tmod (Wq (Wq (Za.seed a0*48271)+11)) 2147483647) 7)) a1,(Za.code a0,Za.at a0,Int.tmod (Wq (Wq (Za.seed a0*48271)+11)) 2147483647,()))
def c2:Ctr:=⟨[.io (.flat (Yn)),.dat Iq],[.dat Iq],fun a K=>splitK a fun a0 a=>splitK a fun a1 a=>XU (Zc a0 a1) fun r=>K (r.1,()) (r.2,())⟩
def Xb (c0:QG) (pin0:Int) (raises0:Bool) (lowers0:Bool) (i0:Int):Option ((Bool×Bool×Int×Unit) ⊕ Int) :=
 if i0<(↑(List.length (QG.Truth c0)):Int) then
 if Go.bits Go.BinOp.and IntKind.i64 i0 (Wq (1*2 ^ Min.min (Int.toNat (IntKind.wrap IntKind.u64 pin0)) (IntKind.bits IntKind.i64)))=0 then
 if raises0 then
 if lowers0 then
 some (.inl (true,true,Wq (i0+1),()))
 else
 (atI (QG.Truth c0) i0).bind fun x0 =>
 (atI (QG.Truth c0) (Wq (i0+Wq (1*2 ^ Min.min (Int.toNat (IntKind.wrap IntKind.u64 pin0)) (IntKind.bits IntKind.i64))))).bind fun x1 =>
 some (.inl (true,Decidable.decide (x1<x0),Wq (i0+1),()))
 else
 (atI (QG.Truth c0) i0).bind fun x0 =>
 (atI (QG.Truth c0) (Wq (i0+Wq (1*2 ^ Min.min (Int.toNat (IntKind.wrap IntKind.u64 pin0)) (IntKind.bits IntKind.i64))))).bind fun x1 =>
 if lowers0 then
 some (.inl (Decidable.decide (x0<x1),true,Wq (i0+1),()))
 else
 some (.inl (Decidable.decide (x0<x1),Decidable.decide (x1<x0),Wq (i0+1),()))
 else
 some (.inl (raises0,lowers0,Wq (i0+1),()))
 else
 if raises0 then
 if lowers0 then
 some (.inr 3)
 else
 if raises0 then
 some (.inr 1)
 else
 if lowers0 then
 some (.inr 2)
 else
 some (.inr 0)
 else
 if raises0 then
 some (.inr 1)
 else
 if lowers0 then
 some (.inr 2)
 else
 some (.inr 0)
def X5 (c0:QG) (pin0:Int):Option Int :=
 Zj ((0:Int)≤IntKind.wrap IntKind.u64 pin0) <|
 ZA (fun v=>Xb c0 pin0 v.1 v.2.1 v.2.2.1) (false,false,(0:Int),())
def c3:Ctr:=D2 (Zin) Iq Iq X5
def Yv (step0:Int) (out0:List Int) (at0:Int) (n0:Int) (c0:List Int) (c1:Int) (c2:Int):Option (((List Int)×Int×Int×(List Int)×Int×Int×Unit) ⊕ ((List Int)×Za)) :=
 if 0<n0 then
 Zj ((List.length out0+List.length [at0])*(8:Nat)≤(140737488355328:Nat)) <|
 (Zc (c0,c1,c2,()) step0).bind fun y0 =>
 some (.inl (out0++[at0],Wq (Wq (at0+(1:Int))+y0.fst),Wq (n0-(1:Int)),y0.snd.fst,y0.snd.snd.fst,y0.snd.snd.snd.fst,()))
 else
 some (.inr (out0,(c0,c1,c2,())))
def YU (s0:Za) (step0:Int):Option ((List Int)×Za) :=
 (Zc s0 step0).bind fun y0 =>
 (Zc y0.snd 3).bind fun y1 =>
 ZA (fun v=>Yv step0 v.1 v.2.1 v.2.2.1 v.2.2.2.1 v.2.2.2.2.1 v.2.2.2.2.2.1) (([]:List Int),y0.fst,Wq ((1:Int)+y1.fst),y1.snd.fst,y1.snd.snd.fst,y1.snd.snd.snd.fst,())
def c4:Ctr:=⟨[.io (.flat (Yn)),.dat Iq],[.own (.ol 2 (.flat Iq))],fun a K=>splitK a fun s0 a=>splitK a fun step0 a=>XU (YU s0 step0) fun r=>K (r.1,()) (r.2,())⟩
def Xq (a1:Int) (l02DrawAxis0:List Int×Za) (l02DrawAxis1:List Int×Za) (v0:List Int) (v1:Int) (c0:List Int) (c1:Int) (c2:Int):Option (((List Int)×Int×(List Int)×Int×Int×Unit) ⊕ (Jy×Za)) :=
 if v1<Wq ((↑(List.length l02DrawAxis0.fst):Int)*(↑(List.length l02DrawAxis1.fst):Int)) then
 (Zc (c0,c1,c2,()) 10).bind fun y0 =>
 Zj ((↑(List.length l02DrawAxis1.fst):Int)≠(0:Int)) <|
 if 0<Int.tmod v1 (↑(List.length l02DrawAxis1.fst):Int) then
 (atI v0 (Wq (v1-1))).bind fun x0 =>
 (Zc y0.snd 20).bind fun y1 =>
 if (↑(List.length l02DrawAxis1.fst):Int)≤v1 then
 (atI v0 (Wq (v1-(↑(List.length l02DrawAxis1.fst):Int)))).bind fun x1 =>
 (Zc y1.snd 20).bind fun y2 =>
 Zj ((List.length v0+List.length [Max.max (Max.max (Wq (a1+y0.fst)) (Wq (x0+y1.fst))) (Wq (x1+y2.fst))])*(8:Nat)≤(140737488355328:Nat)) <|
 some (.inl (v0++[Max.max (Max.max (Wq (a1+y0.fst)) (Wq (x0+y1.fst))) (Wq (x1+y2.fst))],Wq (v1+(1:Int)),y2.snd.fst,y2.snd.snd.fst,y2.snd.snd.snd.fst,()))
 else
 Zj ((List.length v0+List.length [Max.max (Wq (a1+y0.fst)) (Wq (x0+y1.fst))])*(8:Nat)≤(140737488355328:Nat)) <|
 some (.inl (v0++[Max.max (Wq (a1+y0.fst)) (Wq (x0+y1.fst))],Wq (v1+(1:Int)),y1.snd.fst,y1.snd.snd.fst,y1.snd.snd.snd.fst,()))
 else
 if (↑(List.length l02DrawAxis1.fst):Int)≤v1 then
 (atI v0 (Wq (v1-(↑(List.length l02DrawAxis1.fst):Int)))).bind fun x0 =>
 (Zc y0.snd 20).bind fun y1 =>
 Zj ((List.length v0+List.length [Max.max (Wq (a1+y0.fst)) (Wq (x0+y1.fst))])*(8:Nat)≤(140737488355328:Nat)) <|
 some (.inl (v0++[Max.max (Wq (a1+y0.fst)) (Wq (x0+y1.fst))],Wq (v1+(1:Int)),y1.snd.fst,y1.snd.snd.fst,y1.snd.snd.snd.fst,()))
 else
 Zj ((List.length v0+List.length [Wq (a1+y0.fst)])*(8:Nat)≤(140737488355328:Nat)) <|
 some (.inl (v0++[Wq (a1+y0.fst)],Wq (v1+(1:Int)),y0.snd.fst,y0.snd.snd.fst,y0.snd.snd.snd.fst,()))
 else
 some (.inr ((l02DrawAxis0.fst,l02DrawAxis1.fst,v0,()),(c0,c1,c2,())))
def Qy (a0:Za) (a1:Int):Option (Jy×Za) :=
 (YU a0 60).bind fun y0 =>
 (YU y0.snd 40).bind fun y1 =>
 ZA (fun v=>Xq a1 y0 y1 v.1 v.2.1 v.2.2.1 v.2.2.2.1 v.2.2.2.2.1) (([]:List Int),(0:Int),y1.snd.fst,y1.snd.snd.fst,y1.snd.snd.snd.fst,())
def c5:Ctr:=⟨[.io (.flat (Yn)),.dat Iq],[.own (ZeG)],fun a K=>splitK a fun a0 a=>splitK a fun a1 a=>XU (Qy a0 a1) fun r=>K (r.1,()) (r.2,())⟩
def Z7 (s0:Za) (base0:Int):Option ((List Jy)×Za) :=
 (Qy s0 base0).bind fun y0 =>
 (Qy y0.snd base0).bind fun y1 =>
 some ([y0.fst,y1.fst],y1.snd)
def c6:Ctr:=⟨[.io (.flat (Yn)),.dat Iq],[.own (.ol 322 (ZeG))],fun a K=>splitK a fun s0 a=>splitK a fun base0 a=>XU (Z7 s0 base0) fun r=>K (r.1,()) (r.2,())⟩
def Yf (s0:Za) (kind0:Int) (from0:Int) (to0:Int) (sense0:Int):Option (ZfN×Za) :=
 if 4≤kind0 then
 (Zc s0 10).bind fun y0 =>
 (Z7 y0.snd (Wq (5-y0.fst))).bind fun y1 =>
 some ((kind0,from0,to0,(0:Int),y1.fst,([]:List Jy),()),y1.snd)
 else
 (Zc s0 20).bind fun y0 =>
 (Z7 y0.snd (Wq (5+y0.fst))).bind fun y1 =>
 (Z7 y1.snd 10).bind fun y2 =>
 some ((kind0,from0,to0,sense0,y1.fst,y2.fst,()),y2.snd)
def c7:Ctr:=⟨[.io (.flat (Yn)),.dat Iq,.dat Iq,.dat Iq,.dat Iq],[.own (ZmF)],fun a K=>splitK a fun s0 a=>splitK a fun kind0 a=>splitK a fun from0 a=>splitK a fun to0 a=>splitK a fun sense0 a=>XU (Yf s0 kind0 from0 to0 sense0) fun r=>K (r.1,()) (r.2,())⟩
def Xr (a1:List UInt8) (a2:List Int) (l01Next0:Int×Za) (l01Next1:Int×Za) (v0:List ZhU) (v2:List ZfN) (v3:Int) (c3:List Int) (c4:Int) (c5:Int):Option (((List ZfN)×Int×(List Int)×Int×Int×Unit) ⊕ (((List ZhU)×Int×(List Int)×Int×Int×Unit) ⊕ (QG×Za))) :=
 if v3<(↑v0.length:Int) then
 (X5 (a1,(1:Int),v0++[([(121:UInt8)],(2:Int),(0:Int),false,())],([]:List ZfN),a2,l01Next0.fst,l01Next1.fst,()) v3).bind fun y0 =>
 if y0=0 then
 some (.inl (v2,Wq (v3+1),c3,c4,c5,()))
 else
 (Yf (c3,c4,c5,()) 1 v3 (↑v0.length:Int) y0).bind fun y1 =>
 Zj ((List.length v2+List.length [y1.fst])*(80:Nat)≤(140737488355328:Nat)) <|
 some (.inl (v2++[y1.fst],Wq (v3+(1:Int)),y1.snd.fst,y1.snd.snd.fst,y1.snd.snd.snd.fst,()))
 else
 some (.inr (.inr ((a1,(1:Int),v0++[([(121:UInt8)],(2:Int),(0:Int),false,())],v2,a2,l01Next0.fst,l01Next1.fst,()),(c3,c4,c5,()))))
def Xt (a1:List UInt8) (a2:List Int) (l01Next0:Int×Za) (l01Next1:Int×Za) (v0:List ZhU) (v1:Int) (c0:List Int) (c1:Int) (c2:Int):Option (((List ZhU)×Int×(List Int)×Int×Int×Unit) ⊕ (QG×Za)) :=
 if v1<(↑a2.length:Int) then
 (atI ([[(97:UInt8)],[(98:UInt8)],[(99:UInt8)],[(100:UInt8)]]) (↑v0.length:Int)).bind fun x0 =>
 (Zc (c0,c1,c2,()) 9).bind fun y0 =>
 Zj ((List.length v0+List.length [(x0,(1:Int),Wq ((1:Int)+y0.fst),false,())])*(40:Nat)≤(140737488355328:Nat)) <|
 some (.inl (v0++[(x0,(1:Int),Wq ((1:Int)+y0.fst),false,())],Wq ((2:Int)*v1),y0.snd.fst,y0.snd.snd.fst,y0.snd.snd.snd.fst,()))
 else
 Zj ((List.length v0+List.length [([(121:UInt8)],(2:Int),(0:Int),false,())])*(40:Nat)≤(140737488355328:Nat)) <|
 ZA (fun v=>Xr a1 a2 l01Next0 l01Next1 v0 v.1 v.2.1 v.2.2.1 v.2.2.2.1 v.2.2.2.2.1) (([]:List ZfN),(0:Int),c0,c1,c2,())
def Y3 (a0:Za) (a1:List UInt8) (a2:List Int):Option (QG×Za) :=
 (Zc a0 50).bind fun y0 =>
 (Zc y0.snd 80).bind fun y1 =>
 ZA (fun v=>Xt a1 a2 y0 y1 v.1 v.2.1 v.2.2.1 v.2.2.2.1 v.2.2.2.2.1) (([]:List (List UInt8×Int×Int×Bool×Unit)),(1:Int),y1.snd.fst,y1.snd.snd.fst,y1.snd.snd.snd.fst,())
def c8:Ctr:=⟨[.io (.flat (Yn)),.dat (.str),.own (.ol 2 (.flat Iq))],[.own (ZiT)],fun a K=>splitK a fun a0 a=>splitK a fun a1 a=>splitK a fun a2 a=>XU (Y3 a0 a1 a2) fun r=>K (r.1,()) (r.2,())⟩
def Yq (s0:Za) (name0:List UInt8) (kind0:Int) (edge0:Int):Option (QG×Za) :=
 (Zc s0 50).bind fun y0 =>
 (Zc y0.snd 80).bind fun y1 =>
 (Zc y1.snd 9).bind fun y2 =>
 (Zc y2.snd 9).bind fun y3 =>
 (Yf y3.snd edge0 1 2 0).bind fun y4 =>
 (Yf y4.snd 4 1 0 0).bind fun y5 =>
 (Yf y5.snd 5 1 0 0).bind fun y6 =>
 if kind0=3 then
 (Yf y6.snd 1 0 2 1).bind fun y7 =>
 Zj ((List.length [y4.fst,y5.fst,y6.fst]+List.length [y7.fst])*(80:Nat)≤(140737488355328:Nat)) <|
 some ((name0,kind0,[([(100:UInt8)],(1:Int),Wq ((1:Int)+y2.fst),false,()),([(99:UInt8),(107:UInt8)],(1:Int),Wq ((1:Int)+y3.fst),true,()),([(113:UInt8)],(2:Int),(0:Int),false,())],[y4.fst,y5.fst,y6.fst]++[y7.fst],([]:List Int),y0.fst,y1.fst,()),y7.snd)
 else
 some ((name0,kind0,[([(100:UInt8)],(1:Int),Wq ((1:Int)+y2.fst),false,()),([(99:UInt8),(107:UInt8)],(1:Int),Wq ((1:Int)+y3.fst),true,()),([(113:UInt8)],(2:Int),(0:Int),false,())],[y4.fst,y5.fst,y6.fst],([]:List Int),y0.fst,y1.fst,()),y6.snd)
def c9:Ctr:=⟨[.io (.flat (Yn)),.dat (.str),.dat Iq,.dat Iq],[.own (ZiT)],fun a K=>splitK a fun s0 a=>splitK a fun name0 a=>splitK a fun kind0 a=>splitK a fun edge0 a=>XU (Yq s0 name0 kind0 edge0) fun r=>K (r.1,()) (r.2,())⟩
def Vf (s0:Za):Option (ZaF×Za) :=
 (Y3 s0 [(105:UInt8),(110:UInt8),(118:UInt8)] [(1:Int),(0:Int)]).bind fun y0 =>
 (Y3 y0.snd [(98:UInt8),(117:UInt8),(102:UInt8)] [(0:Int),(1:Int)]).bind fun y1 =>
 (Y3 y1.snd [(110:UInt8),(97:UInt8),(110:UInt8),(100:UInt8)] [(1:Int),(1:Int),(1:Int),(0:Int)]).bind fun y2 =>
 (Y3 y2.snd [(120:UInt8),(111:UInt8),(114:UInt8)] [(0:Int),(1:Int),(1:Int),(0:Int)]).bind fun y3 =>
 (Y3 y3.snd [(109:UInt8),(117:UInt8),(120:UInt8)] [(0:Int),(1:Int),(0:Int),(1:Int),(0:Int),(0:Int),(1:Int),(1:Int)]).bind fun y4 =>
 (Yq y4.snd [(102:UInt8),(108:UInt8),(111:UInt8),(112:UInt8)] (2:Int) (2:Int)).bind fun y5 =>
 (Yq y5.snd [(102:UInt8),(108:UInt8),(111:UInt8),(112:UInt8),(110:UInt8)] (2:Int) (3:Int)).bind fun y6 =>
 (Yq y6.snd [(108:UInt8),(97:UInt8),(116:UInt8),(99:UInt8),(104:UInt8)] (3:Int) (2:Int)).bind fun y7 =>
 some (([y0.fst,y1.fst,y2.fst,y3.fst,y4.fst,y5.fst,y6.fst,y7.fst],()),y7.snd)
def c10:Ctr:=⟨[.io (.flat (Yn))],[.own (Zhl)],fun a K=>splitK a fun s0 a=>XU (Vf s0) fun r=>K (r.1,()) (r.2,())⟩
def ZN (rec0:Int→Option (List UInt8)) (n0:Int):Option (List UInt8) :=
 if n0<0 then
 (rec0 (Wq (0-n0))).bind fun r0 =>
 Zj ((↑(List.length [(45:UInt8)]):Int)+(↑r0.length:Int)≤(9223372036854775807:Int)) <|
 some ([(45:UInt8)]++r0)
 else
 if n0<10 then
 some (bytesOf [IntKind.wrap IntKind.u8 (Wq ((48:Int)+n0))])
 else
 (rec0 (Wq (Int.tdiv n0 10))).bind fun r0 =>
 Zj ((↑r0.length:Int)+(↑(List.length (bytesOf [IntKind.wrap IntKind.u8 (Wq ((48:Int)+Int.tmod n0 (10:Int)))])):Int)≤(9223372036854775807:Int)) <|
 some (r0++bytesOf [IntKind.wrap IntKind.u8 (Wq ((48:Int)+Int.tmod n0 (10:Int)))])
def Yp:Nat→Int→Option (List UInt8)
 | 0=>fun _=>none
 | n+1=>ZN (Yp n)
def XG (n0:Int):Option (List UInt8):=ZkQ (fun n=>Yp n n0)
def QJ (rec0:Int→Option (List UInt8)):Ctr:=⟨[.dat Iq],[.dat (.str)],fun a K=>splitK a fun n0 a=>XU (rec0 n0) fun r=>K (r,()) ()⟩
def c11:Ctr:=QJ XG
def Xv (v0:List Zz) (v1:List (List UInt8)) (v2:Int) (x0:Int) (l01Number0:List UInt8) (v3:Int) (c3:List Int) (c4:Int) (c5:Int) (c6:List Int):Option ((Int×(List Int)×Int×Int×(List Int)×Unit) ⊕ (((List Zz)×(List (List UInt8))×Int×(List Int)×Int×Int×Unit) ⊕ (Zp×Za))) :=
 (atI ([(2:Int),(2:Int),(3:Int),(3:Int),(4:Int),(3:Int),(3:Int),(3:Int)]) x0).bind fun x1 =>
 if v3<Wq (x1-1) then
 (Zc (c3,c4,c5,()) (Wq ((↑v1.length:Int)-1))).bind fun y0 =>
 (Zc y0.snd 3).bind fun y1 =>
 if y1.fst=0 then
 if 5≤x0 then
 if v3=1 then
 Zj ((List.length (([]:List Int))+List.length c6)*(8:Nat)≤(140737488355328:Nat)) <|
 Zj ((List.length (([]:List Int)++c6)+List.length [(0:Int)])*(8:Nat)≤(140737488355328:Nat)) <|
 some (.inl (Wq (v3+(1:Int)),y1.snd.fst,y1.snd.snd.fst,y1.snd.snd.snd.fst,([]:List Int)++c6++[(0:Int)],()))
 else
 Zj ((List.length (([]:List Int))+List.length c6)*(8:Nat)≤(140737488355328:Nat)) <|
 Zj ((List.length (([]:List Int)++c6)+List.length [Wq ((↑v1.length:Int)-(1:Int))])*(8:Nat)≤(140737488355328:Nat)) <|
 some (.inl (Wq (v3+(1:Int)),y1.snd.fst,y1.snd.snd.fst,y1.snd.snd.snd.fst,([]:List Int)++c6++[Wq ((↑v1.length:Int)-(1:Int))],()))
 else
 Zj ((List.length (([]:List Int))+List.length c6)*(8:Nat)≤(140737488355328:Nat)) <|
 Zj ((List.length (([]:List Int)++c6)+List.length [Wq ((↑v1.length:Int)-(1:Int))])*(8:Nat)≤(140737488355328:Nat)) <|
 some (.inl (Wq (v3+(1:Int)),y1.snd.fst,y1.snd.snd.fst,y1.snd.snd.snd.fst,([]:List Int)++c6++[Wq ((↑v1.length:Int)-(1:Int))],()))
 else
 if 5≤x0 then
 if v3=1 then
 Zj ((List.length (([]:List Int))+List.length c6)*(8:Nat)≤(140737488355328:Nat)) <|
 Zj ((List.length (([]:List Int)++c6)+List.length [(0:Int)])*(8:Nat)≤(140737488355328:Nat)) <|
 some (.inl (Wq (v3+(1:Int)),y1.snd.fst,y1.snd.snd.fst,y1.snd.snd.snd.fst,([]:List Int)++c6++[(0:Int)],()))
 else
 Zj ((List.length (([]:List Int))+List.length c6)*(8:Nat)≤(140737488355328:Nat)) <|
 Zj ((List.length (([]:List Int)++c6)+List.length [Wq ((1:Int)+y0.fst)])*(8:Nat)≤(140737488355328:Nat)) <|
 some (.inl (Wq (v3+(1:Int)),y1.snd.fst,y1.snd.snd.fst,y1.snd.snd.snd.fst,([]:List Int)++c6++[Wq ((1:Int)+y0.fst)],()))
 else
 Zj ((List.length (([]:List Int))+List.length c6)*(8:Nat)≤(140737488355328:Nat)) <|
 Zj ((List.length (([]:List Int)++c6)+List.length [Wq ((1:Int)+y0.fst)])*(8:Nat)≤(140737488355328:Nat)) <|
 some (.inl (Wq (v3+(1:Int)),y1.snd.fst,y1.snd.snd.fst,y1.snd.snd.snd.fst,([]:List Int)++c6++[Wq ((1:Int)+y0.fst)],()))
 else
 Zj ((List.length (([]:List Int))+List.length c6)*(8:Nat)≤(140737488355328:Nat)) <|
 Zj ((List.length (([]:List Int)++c6)+List.length [(↑v1.length:Int)])*(8:Nat)≤(140737488355328:Nat)) <|
 (XG (↑v1.length:Int)).bind fun y2 =>
 Zj ((↑(List.length [(110:UInt8)]):Int)+(↑y2.length:Int)≤(9223372036854775807:Int)) <|
 Zj ((List.length v1+List.length [[(110:UInt8)]++y2])*(16:Nat)≤(140737488355328:Nat)) <|
 Zj ((List.length v0+List.length [([(117:UInt8)]++l01Number0,x0,([]:List Int)++c6++[(↑v1.length:Int)],())])*(48:Nat)≤(140737488355328:Nat)) <|
 some (.inr (.inl (v0++[([(117:UInt8)]++l01Number0,x0,([]:List Int)++c6++[(↑v1.length:Int)],())],v1++[[(110:UInt8)]++y2],Wq (v2-(1:Int)),c3,c4,c5,())))
def Xw (a2:Bool) (v1:List (List UInt8)) (v3:Int) (c3:List Int) (c4:Int) (c5:Int) (l0:List (List UInt8×Int×List Int×Unit)):Option ((Int×(List Int)×Int×Int×(List (List UInt8×Int×List Int×Unit))×Unit) ⊕ (((List Zz)×(List (List UInt8))×Int×(List Int)×Int×Int×Unit) ⊕ (Zp×Za))) :=
 if v3<(↑l0.length:Int) then
 (Zc (c3,c4,c5,()) 4).bind fun y0 =>
 if y0.fst=0 then
 (atI l0 v3).bind fun x0 =>
 if x0.snd.fst=5 then
 (Zc y0.snd (Wq ((↑v1.length:Int)-1))).bind fun y1 =>
 (atI x0.snd.snd.fst 0).bind fun x1 =>
 some (.inl (Wq (v3+1),y1.snd.fst,y1.snd.snd.fst,y1.snd.snd.snd.fst,List.set l0 (Int.toNat v3) (x0.fst,x0.snd.fst,List.set x0.snd.snd.fst (Int.toNat 0) (Wq (1+y1.fst)),()),()))
 else
 if x0.snd.fst=6 then
 (Zc y0.snd (Wq ((↑v1.length:Int)-1))).bind fun y1 =>
 (atI x0.snd.snd.fst 0).bind fun x1 =>
 some (.inl (Wq (v3+1),y1.snd.fst,y1.snd.snd.fst,y1.snd.snd.snd.fst,List.set l0 (Int.toNat v3) (x0.fst,x0.snd.fst,List.set x0.snd.snd.fst (Int.toNat 0) (Wq (1+y1.fst)),()),()))
 else
 if a2 then
 (Zc y0.snd (Wq ((↑v1.length:Int)-1))).bind fun y1 =>
 (atI x0.snd.snd.fst 0).bind fun x1 =>
 some (.inl (Wq (v3+1),y1.snd.fst,y1.snd.snd.fst,y1.snd.snd.snd.fst,List.set l0 (Int.toNat v3) (x0.fst,x0.snd.fst,List.set x0.snd.snd.fst (Int.toNat 0) (Wq (1+y1.fst)),()),()))
 else
 some (.inl (Wq (v3+1),y0.snd.fst,y0.snd.snd.fst,y0.snd.snd.snd.fst,List.set l0 (Int.toNat v3) x0,()))
 else
 some (.inl (Wq (v3+1),y0.snd.fst,y0.snd.snd.fst,y0.snd.snd.snd.fst,l0,()))
 else
 Zj ((List.length (([]:List (List UInt8×Int×Int×Unit))++[([(99:UInt8),(107:UInt8)],(1:Int),(0:Int),()),([(97:UInt8)],(1:Int),(1:Int),()),([(98:UInt8)],(1:Int),(2:Int),())])+List.length [([(121:UInt8)],(2:Int),Wq ((↑v1.length:Int)-(1:Int)),())])*(32:Nat)≤(140737488355328:Nat)) <|
 (Zc (c3,c4,c5,()) 2).bind fun y0 =>
 if y0.fst=0 then
 (Zc y0.snd (Wq ((↑v1.length:Int)-1))).bind fun y1 =>
 Zj ((List.length (([]:List (List UInt8×Int×Int×Unit))++[([(99:UInt8),(107:UInt8)],(1:Int),(0:Int),()),([(97:UInt8)],(1:Int),(1:Int),()),([(98:UInt8)],(1:Int),(2:Int),())]++[([(121:UInt8)],(2:Int),Wq ((↑v1.length:Int)-(1:Int)),())])+List.length [([(122:UInt8)],(2:Int),Wq ((1:Int)+y1.fst),())])*(32:Nat)≤(140737488355328:Nat)) <|
 some (.inr (.inr ((l0,v1,([]:List (List UInt8×Int×Int×Unit))++[([(99:UInt8),(107:UInt8)],(1:Int),(0:Int),()),([(97:UInt8)],(1:Int),(1:Int),()),([(98:UInt8)],(1:Int),(2:Int),())]++[([(121:UInt8)],(2:Int),Wq ((↑v1.length:Int)-(1:Int)),())]++[([(122:UInt8)],(2:Int),Wq ((1:Int)+y1.fst),())],()),y1.snd)))
 else
 some (.inr (.inr ((l0,v1,([]:List (List UInt8×Int×Int×Unit))++[([(99:UInt8),(107:UInt8)],(1:Int),(0:Int),()),([(97:UInt8)],(1:Int),(1:Int),()),([(98:UInt8)],(1:Int),(2:Int),())]++[([(121:UInt8)],(2:Int),Wq ((↑v1.length:Int)-(1:Int)),())],()),y0.snd)))
def Xx (a2:Bool) (v0:List Zz) (v1:List (List UInt8)) (v2:Int) (c0:List Int) (c1:Int) (c2:Int):Option (((List Zz)×(List (List UInt8))×Int×(List Int)×Int×Int×Unit) ⊕ (Zp×Za)) :=
 if 0<v2 then
 (Zc (c0,c1,c2,()) 12).bind fun y0 =>
 (atI ([(0:Int),(1:Int),(2:Int),(2:Int),(3:Int),(4:Int),(5:Int),(5:Int),(5:Int),(6:Int),(7:Int),(1:Int)]) y0.fst).bind fun x0 =>
 (XG (↑v0.length:Int)).bind fun y1 =>
 Zj ((↑(List.length [(117:UInt8)]):Int)+(↑y1.length:Int)≤(9223372036854775807:Int)) <|
 ZA (fun v=>Xv v0 v1 v2 x0 y1 v.1 v.2.1 v.2.2.1 v.2.2.2.1 v.2.2.2.2.1) ((0:Int),y0.snd.fst,y0.snd.snd.fst,y0.snd.snd.snd.fst,([]:List Int),())
 else
 ZA (fun v=>Xw a2 v1 v.1 v.2.1 v.2.2.1 v.2.2.2.1 v.2.2.2.2.1) ((0:Int),c0,c1,c2,v0,())
def Vh (a0:Za) (a1:Int) (a2:Bool):Option (Zp×Za) :=
 (Zc a0 (Wq (a1-1))).bind fun y0 =>
 ZA (fun v=>Xx a2 v.1 v.2.1 v.2.2.1 v.2.2.2.1 v.2.2.2.2.1 v.2.2.2.2.2.1) (([]:List Zz),([]:List (List UInt8))++[[(110:UInt8),(99:UInt8),(107:UInt8)],[(110:UInt8),(97:UInt8)],[(110:UInt8),(98:UInt8)]],Wq ((2:Int)+y0.fst),y0.snd.fst,y0.snd.snd.fst,y0.snd.snd.snd.fst,())
def c12:Ctr:=⟨[.io (.flat (Yn)),.dat Iq,.dat (.bool)],[.own (ZiU)],fun a K=>splitK a fun a0 a=>splitK a fun a1 a=>splitK a fun a2 a=>XU (Vh a0 a1 a2) fun r=>K (r.1,()) (r.2,())⟩
def YW (v1:Int) (x0:Zz) (v2:List Zk) (v3:Int):Option (((List Zk)×Int×Unit) ⊕ (((List Zk)×Int×Unit) ⊕ List Zk)) :=
 if v3<(↑(List.length (Zz.Zbh x0)):Int) then
 (atI (Zz.Zbh x0) v3).bind fun x1 =>
 Zj ((List.length v2+List.length [(v1,v3,x1,Decidable.decide (v3=Wq ((↑(List.length (Zz.Zbh x0)):Int)-(1:Int))),())])*(32:Nat)≤(140737488355328:Nat)) <|
 some (.inl (v2++[(v1,v3,x1,Decidable.decide (v3=Wq ((↑(List.length (Zz.Zbh x0)):Int)-(1:Int))),())],Wq (v3+(1:Int)),()))
 else
 some (.inr (.inl (v2,Wq (v1+1),())))
def YX (a0:Zp) (v2:List Zk) (v3:Int):Option (((List Zk)×Int×Unit) ⊕ (((List Zk)×Int×Unit) ⊕ List Zk)) :=
 if v3<(↑(List.length (Zp.Vk a0)):Int) then
 (atI (Zp.Vk a0) v3).bind fun x0 =>
 Zj ((List.length v2+List.length [((-1:Int),v3,Zah.Net x0,Decidable.decide (Zah.Dir x0=(1:Int)),())])*(32:Nat)≤(140737488355328:Nat)) <|
 some (.inl (v2++[((-1:Int),v3,Zah.Net x0,Decidable.decide (Zah.Dir x0=(1:Int)),())],Wq (v3+(1:Int)),()))
 else
 some (.inr (.inr v2))
def YZ (a0:Zp) (v0:List Zk) (v1:Int):Option (((List Zk)×Int×Unit) ⊕ List Zk) :=
 if v1<(↑(List.length (Zp.Instances a0)):Int) then
 (atI (Zp.Instances a0) v1).bind fun x0 =>
 ZA (fun v=>YW v1 x0 v.1 v.2.1) (v0,(0:Int),())
 else
 ZA (fun v=>YX a0 v.1 v.2.1) (v0,(0:Int),())
def YJ (a0:Zp):Option (List Zk) :=
 ZA (fun v=>YZ a0 v.1 v.2.1) (([]:List (Int×Int×Int×Bool×Unit)),(0:Int),())
def c13:Ctr:=⟨[.dat (ZdN)],[.own (.ol 227 (.flat (JJ)))],fun a K=>splitK a fun a0 a=>XU (YJ a0) fun r=>K (r,()) ()⟩
def Xc (net0:Int) (l05Places0:List Zk) (out0:List Int) (i0:Int):Option (((List Int)×Int×Unit) ⊕ List Int) :=
 if i0<(↑l05Places0.length:Int) then
 (atI l05Places0 i0).bind fun x0 =>
 if Zk.net x0=net0 then
 if (Zk.drives x0)=true then
 some (.inl (out0,Wq (i0+1),()))
 else
 Zj ((List.length out0+List.length [i0])*(8:Nat)≤(140737488355328:Nat)) <|
 some (.inl (out0++[i0],Wq (i0+(1:Int)),()))
 else
 some (.inl (out0,Wq (i0+1),()))
 else
 some (.inr out0)
def QT (d0:Zp) (net0:Int):Option (List Int) :=
 (YJ d0).bind fun y0 =>
 ZA (fun v=>Xc net0 y0 v.1 v.2.1) (([]:List Int),(0:Int),())
def c14:Ctr:=⟨[.dat (ZdN),.dat Iq],[.own (.ol 2 (.flat Iq))],fun a K=>splitK a fun d0 a=>splitK a fun net0 a=>XU (QT d0 net0) fun r=>K (r,()) ()⟩
def Qi (sinks0:Int) (load0:Int):Option QH :=
 Zj ((0:Int)≤sinks0) <|
 Zj (sinks0≤sinks0) <|
 Zj (sinks0≤(4611686018427387904:Int)) <|
 Zj ((↑(8:Nat):Int)*sinks0≤(281474976710656:Int)) <|
 some ([(-1:Int)],[(0:Int)],[load0],List.replicate (Int.toNat sinks0) (0:Int),())
def c15:Ctr:=⟨[.dat Iq,.dat Iq],[.own (ZgI)],fun a K=>splitK a fun sinks0 a=>splitK a fun load0 a=>XU (Qi sinks0 load0) fun r=>K (r,()) ()⟩
def XT (list0:List Int):Option (List Int) :=
 Zj ((List.length (([]:List Int))+List.length list0)*(8:Nat)≤(140737488355328:Nat)) <|
 some (([]:List Int)++list0)
def c16:Ctr:=⟨[.dat (.sl Iq)],[.own (.ol 2 (.flat Iq))],fun a K=>splitK a fun list0 a=>XU (XT list0) fun r=>K (r,()) ()⟩
def Yw (c3:List Int) (c4:List Int) (c5:List Int) (i0:Int) (c7:List Int) (c8:Int) (c9:Int) (l0:List Int):Option ((Int×(List Int)×Int×Int×(List Int)×Unit) ⊕ ((Int×(List Int)×Int×Int×(List Int)×(List Int)×(List Int)×(List Int)×Unit) ⊕ (QH×Za))) :=
 if i0<(↑l0.length:Int) then
 (Zc (c7,c8,c9,()) (↑c3.length:Int)).bind fun y0 =>
 (atI l0 i0).bind fun x0 =>
 some (.inl (Wq (i0+1),y0.snd.fst,y0.snd.snd.fst,y0.snd.snd.snd.fst,List.set l0 (Int.toNat i0) y0.fst,()))
 else
 some (.inr (.inr ((c3,c4,c5,l0,()),(c7,c8,c9,()))))
def Yx (n0:Int) (c0:List Int) (c1:Int) (c2:Int) (c3:List Int) (c4:List Int) (c5:List Int) (c6:List Int):Option ((Int×(List Int)×Int×Int×(List Int)×(List Int)×(List Int)×(List Int)×Unit) ⊕ (QH×Za)) :=
 if 0<n0 then
 (XT c3).bind fun y0 =>
 (Zc (c0,c1,c2,()) (↑c3.length:Int)).bind fun y1 =>
 Zj ((List.length y0+List.length [y1.fst])*(8:Nat)≤(140737488355328:Nat)) <|
 (XT c4).bind fun y2 =>
 (Zc y1.snd 400).bind fun y3 =>
 Zj ((List.length y2+List.length [y3.fst])*(8:Nat)≤(140737488355328:Nat)) <|
 (XT c5).bind fun y4 =>
 (Zc y3.snd 8).bind fun y5 =>
 Zj ((List.length y4+List.length [y5.fst])*(8:Nat)≤(140737488355328:Nat)) <|
 some (.inl (Wq (n0-(1:Int)),y5.snd.fst,y5.snd.snd.fst,y5.snd.snd.snd.fst,y0++[y1.fst],y2++[y3.fst],y4++[y5.fst],c6,()))
 else
 ZA (fun v=>Yw c3 c4 c5 v.1 v.2.1 v.2.2.1 v.2.2.2.1 v.2.2.2.2.1) ((0:Int),c0,c1,c2,c6,())
def Xi (s0:Za) (sinks0:Int):Option (QH×Za) :=
 (Zc s0 6).bind fun y0 =>
 (Qi sinks0 y0.fst).bind fun y1 =>
 (Zc y0.snd 4).bind fun y2 =>
 ZA (fun v=>Yx v.1 v.2.1 v.2.2.1 v.2.2.2.1 v.2.2.2.2.1 v.2.2.2.2.2.1 v.2.2.2.2.2.2.1 v.2.2.2.2.2.2.2.1) (y2.fst,y2.snd.fst,y2.snd.snd.fst,y2.snd.snd.snd.fst,QH.Parent y1,QH.Res y1,QH.Cap y1,QH.ZnH y1,())
def c17:Ctr:=⟨[.io (.flat (Yn)),.dat Iq],[.own (ZgI)],fun a K=>splitK a fun s0 a=>splitK a fun sinks0 a=>XU (Xi s0 sinks0) fun r=>K (r.1,()) (r.2,())⟩
def Xy (l03Draw0:ZaF×Za) (l05Draw0:Zp×Za) (wires0:List QH) (net0:Int) (c0:List Int) (c1:Int) (c2:Int):Option (((List QH)×Int×(List Int)×Int×Int×Unit) ⊕ (Zv×Za)) :=
 if net0<(↑(List.length l05Draw0.fst.snd.fst):Int) then
 (QT l05Draw0.fst net0).bind fun y0 =>
 (Xi (c0,c1,c2,()) (↑y0.length:Int)).bind fun y1 =>
 Zj ((List.length wires0+List.length [y1.fst])*(96:Nat)≤(140737488355328:Nat)) <|
 some (.inl (wires0++[y1.fst],Wq (net0+(1:Int)),y1.snd.fst,y1.snd.snd.fst,y1.snd.snd.snd.fst,()))
 else
 some (.inr ((l03Draw0.fst,l05Draw0.fst,wires0,()),(c0,c1,c2,())))
def Qz (s0:Za) (most0:Int) (wild0:Bool):Option (Zv×Za) :=
 (Vf s0).bind fun y0 =>
 (Vh y0.snd most0 wild0).bind fun y1 =>
 ZA (fun v=>Xy y0 y1 v.1 v.2.1 v.2.2.1 v.2.2.2.1 v.2.2.2.2.1) (([]:List QH),(0:Int),y1.snd.fst,y1.snd.snd.fst,y1.snd.snd.snd.fst,())
def c18:Ctr:=⟨[.io (.flat (Yn)),.dat Iq,.dat (.bool)],[.own (Zhk)],fun a K=>splitK a fun s0 a=>splitK a fun most0 a=>splitK a fun wild0 a=>XU (Qz s0 most0 wild0) fun r=>K (r.1,()) (r.2,())⟩
def Ztk (a0:Za):Option (Zv×Za) :=
 (Zc a0 3).bind fun y0 =>
 (Qz y0.snd 6 (Decidable.decide (y0.fst=0))).bind fun y1 =>
 (Zc y1.snd (↑(List.length y1.fst.snd.snd.fst):Int)).bind fun y2 =>
 (Zc y2.snd 20).bind fun y3 =>
 if y3.fst=0 then
 Zj ((1:Int)≤(↑(List.length y1.fst.snd.snd.fst):Int)) <|
 Zj ((↑(List.length y1.fst.snd.snd.fst):Int)≤(↑(List.length y1.fst.snd.snd.fst):Int)) <|
 some ((y1.fst.fst,y1.fst.snd.fst,List.take (Int.toNat (↑(List.length y1.fst.snd.snd.fst):Int)-Int.toNat 1) (List.drop (Int.toNat 1) y1.fst.snd.snd.fst),()),y3.snd)
 else
 if y3.fst=1 then
 (atI y1.fst.snd.snd.fst y2.fst).bind fun x0 =>
 (XT x0.snd.snd.snd.fst).bind fun y4 =>
 Zj ((List.length y4+List.length [(0:Int)])*(8:Nat)≤(140737488355328:Nat)) <|
 some ((y1.fst.fst,y1.fst.snd.fst,List.set y1.fst.snd.snd.fst (Int.toNat y2.fst) (x0.fst,x0.snd.fst,x0.snd.snd.fst,y4++[(0:Int)],()),()),y3.snd)
 else
 if y3.fst=2 then
 (atI y1.fst.snd.snd.fst y2.fst).bind fun x0 =>
 (atI x0.snd.fst 0).bind fun x1 =>
 some ((y1.fst.fst,y1.fst.snd.fst,List.set y1.fst.snd.snd.fst (Int.toNat y2.fst) (x0.fst,List.set x0.snd.fst (Int.toNat 0) 1,x0.snd.snd),()),y3.snd)
 else
 if y3.fst=3 then
 (atI y1.fst.snd.snd.fst y2.fst).bind fun x0 =>
 (Zc y3.snd 3).bind fun y5 =>
 (atI ([(-1:Int),(500:Int),(501:Int)]) y5.fst).bind fun x1 =>
 (atI x0.snd.snd.fst 0).bind fun x2 =>
 some ((y1.fst.fst,y1.fst.snd.fst,List.set y1.fst.snd.snd.fst (Int.toNat y2.fst) (x0.fst,x0.snd.fst,List.set x0.snd.snd.fst (Int.toNat 0) x1,x0.snd.snd.snd),()),y5.snd)
 else
 if y3.fst=4 then
 (atI y1.fst.snd.snd.fst y2.fst).bind fun x0 =>
 (Zc y3.snd 5).bind fun y5 =>
 (atI x0.fst (Wq ((↑(List.length x0.fst):Int)-1))).bind fun x1 =>
 some ((y1.fst.fst,y1.fst.snd.fst,List.set y1.fst.snd.snd.fst (Int.toNat y2.fst) (List.set x0.fst (Int.toNat (Wq ((↑(List.length x0.fst):Int)-1))) (Wq (y5.fst-1)),x0.snd),()),y5.snd)
 else
 if y3.fst=5 then
 (atI y1.fst.snd.fst.snd.snd.fst 0).bind fun x0 =>
 some ((y1.fst.fst,(y1.fst.snd.fst.fst,y1.fst.snd.fst.snd.fst,List.set y1.fst.snd.fst.snd.snd.fst (Int.toNat 0) (Zah.Name x0,3,x0.snd.snd),()),y1.fst.snd.snd),y3.snd)
 else
 some (y1.fst,y3.snd)
def c19:Ctr:=⟨[.io (.flat (Yn))],[.own (Zhk)],fun a K=>splitK a fun a0 a=>XU (Ztk a0) fun r=>K (r.1,()) (r.2,())⟩
def ZEg (s0:Za) (b0:Zv):Option (Int×Za) :=
 (Zc s0 16).bind fun y0 =>
 if y0.fst=0 then
 (Zc y0.snd 2).bind fun y1 =>
 (atI ([(-1:Int),(↑(List.length (Zv.ZlA b0)):Int)]) y1.fst).bind fun x0 =>
 some (x0,y1.snd)
 else
 (Zc y0.snd (↑(List.length (Zv.ZlA b0)):Int)).bind fun y1 =>
 some (y1.fst,y1.snd)
def c20:Ctr:=⟨[.io (.flat (Yn)),.dat (ZjX)],[.dat Iq],fun a K=>splitK a fun s0 a=>splitK a fun b0 a=>XU (ZEg s0 b0) fun r=>K (r.1,()) (r.2,())⟩
def ZEd (code0:List Int):Option (Zv×Int) :=
 (Ve code0).bind fun y0 =>
 (Ztk y0).bind fun y1 =>
 (ZEg y1.snd y1.fst).bind fun y2 =>
 some (y1.fst,y2.fst)
def c21:Ctr:=⟨[.dat (.sl (.int .u8))],[.dat (ZjX),.dat Iq],fun a K=>splitK a fun code0 a=>XU (ZEd code0) fun r=>K (r.1,r.2,()) ()⟩
def ZD8 (code0:List Int):Option (Zv×Int) :=
 (ZEd code0).bind fun y0 =>
 some (y0.fst,y0.snd)
def c22:Ctr:=⟨[.dat (.sl (.int .u8))],[.dat (ZjX),.dat Iq],fun a K=>splitK a fun code0 a=>XU (ZD8 code0) fun r=>K (r.1,r.2,()) ()⟩
def YA (x0:Int) (low0:Int) (high0:Int):Option Bool :=
 if low0≤x0 then
 some (Decidable.decide (x0≤high0))
 else
 some false
def c23:Ctr:=D3 Iq Iq Iq (.bool) YA
def VD (s0:List UInt8):Option Bool :=
 (YA (↑s0.length:Int) 1 8).bind fun y0 =>
 if y0 then
 Zj (List.length s0≤(1000000:Nat)) <|
 if Go.Lib.trimS s0 [(97:UInt8),(98:UInt8),(99:UInt8),(100:UInt8),(101:UInt8),(102:UInt8),(103:UInt8),(104:UInt8),(105:UInt8),(106:UInt8),(107:UInt8),(108:UInt8),(109:UInt8),(110:UInt8),(111:UInt8),(112:UInt8),(113:UInt8),(114:UInt8),(115:UInt8),(116:UInt8),(117:UInt8),(118:UInt8),(119:UInt8),(120:UInt8),(121:UInt8),(122:UInt8),(48:UInt8),(49:UInt8),(50:UInt8),(51:UInt8),(52:UInt8),(53:UInt8),(54:UInt8),(55:UInt8),(56:UInt8),(57:UInt8)]=([]:List UInt8) then
 (atI s0 0).bind fun x0 =>
 some (Decidable.decide ((0:Int)≤Go.Lib.indexByte [(97:UInt8),(98:UInt8),(99:UInt8),(100:UInt8),(101:UInt8),(102:UInt8),(103:UInt8),(104:UInt8),(105:UInt8),(106:UInt8),(107:UInt8),(108:UInt8),(109:UInt8),(110:UInt8),(111:UInt8),(112:UInt8),(113:UInt8),(114:UInt8),(115:UInt8),(116:UInt8),(117:UInt8),(118:UInt8),(119:UInt8),(120:UInt8),(121:UInt8),(122:UInt8)] (Nat.toUInt8 (Int.toNat (↑(UInt8.toNat x0):Int)))))
 else
 some false
 else
 some false
def c24:Ctr:=D1 (.str) (.bool) VD
def Zri (list0:List ZhU):Option Int :=
 some (↑list0.length:Int)
def c25:Ctr:=D1 (.sl (Zl9)) Iq Zri
def ZM (s0:List (List UInt8)) (v0:List UInt8) (v1:Int):Option ((Int×Unit) ⊕ Int) :=
 if v1<(↑s0.length:Int) then
 (atI s0 v1).bind fun x0 =>
 if v0=x0 then
 some (.inr v1)
 else
 some (.inl (Wq (v1+1),()))
 else
 some (.inr (-1))
def ZP (s0:List (List UInt8)) (v0:List UInt8):Option Int :=
 ZA (fun v=>ZM s0 v0 v.1) ((0:Int),())
def c26:Ctr:=D2 (.sl (.str)) (.str) Iq ZP
def ZJ (s0:List (List UInt8)) (v0:List UInt8):Option Bool :=
 (ZP s0 v0).bind fun y0 =>
 some (Decidable.decide (0≤y0))
def c27:Ctr:=D2 (.sl (.str)) (.str) (.bool) ZJ
def Y7 (list0:List (List UInt8)) (v0:Int):Option ((Int×Unit) ⊕ Bool) :=
 if v0<(↑list0.length:Int) then
 (atI list0 v0).bind fun x0 =>
 (VD x0).bind fun y0 =>
 if y0 then
 Zj ((0:Int)≤v0) <|
 Zj (v0≤(↑list0.length:Int)) <|
 (ZJ (List.take (Int.toNat v0-Int.toNat 0) (List.drop (Int.toNat 0) list0)) x0).bind fun y1 =>
 if y1 then
 some (.inr false)
 else
 some (.inl (Wq (v0+1),()))
 else
 some (.inr false)
 else
 some (.inr true)
def QO (list0:List (List UInt8)):Option Bool :=
 ZA (fun v=>Y7 list0 v.1) ((0:Int),())
def c28:Ctr:=D1 (.sl (.str)) (.bool) QO
def Zq5 (list0:List ZhU) (names0:List (List UInt8)) (v0:Int):Option (((List (List UInt8))×Int×Unit) ⊕ Bool) :=
 if v0<(↑list0.length:Int) then
 (atI list0 v0).bind fun x0 =>
 Zj ((List.length names0+List.length [ZhU.Name x0])*(16:Nat)≤(140737488355328:Nat)) <|
 if v0=Wq ((↑list0.length:Int)-1) then
 if ZhU.Dir x0=2 then
 if ZhU.Cap x0=0 then
 if (ZhU.Clock x0)=true then
 some (.inr false)
 else
 some (.inl (names0++[ZhU.Name x0],Wq (v0+(1:Int)),()))
 else
 some (.inr false)
 else
 some (.inr false)
 else
 if ZhU.Dir x0=1 then
 (YA (ZhU.Cap x0) 0 500).bind fun y0 =>
 if y0 then
 some (.inl (names0++[ZhU.Name x0],Wq (v0+(1:Int)),()))
 else
 some (.inr false)
 else
 some (.inr false)
 else
 (Zri list0).bind fun y1 =>
 (YA y1 2 5).bind fun y0 =>
 if y0 then
 (QO names0).bind fun y2 =>
 some (.inr y2)
 else
 some (.inr false)
def Zup (list0:List ZhU):Option Bool :=
 ZA (fun v=>Zq5 list0 v.1 v.2.1) (([]:List (List UInt8)),(0:Int),())
def c29:Ctr:=D1 (.sl (Zl9)) (.bool) Zup
def Zuq (kind0:Int):Option Bool :=
 if kind0=4 then
 some true
 else
 some (Decidable.decide (kind0=5))
def c30:Ctr:=D1 Iq (.bool) Zuq
def ZpM (list0:List Int):Option Int :=
 some (↑list0.length:Int)
def c31:Ctr:=D1 (.sl Iq) Iq ZpM
def XH (n0:Int) (a0:Int) (a1:Int):Option Bool :=
 (YA n0 a0 a1).bind fun y0 =>
 some !y0
def c32:Ctr:=D3 Iq (.ptr Iq) (.ptr Iq) (.bool) XH
def Zr (s0:List Int) (f0:Int×Int×Unit) (v0:Int):Option ((Int×Unit) ⊕ Int) :=
 if v0<(↑s0.length:Int) then
 (atI s0 v0).bind fun x0 =>
 (XH x0 f0.fst f0.snd.fst).bind fun y0 =>
 if y0 then
 some (.inr v0)
 else
 some (.inl (Wq (v0+1),()))
 else
 some (.inr (-1))
def Zq (s0:List Int) (f0:Int×Int×Unit):Option Int :=
 ZA (fun v=>Zr s0 f0 v.1) ((0:Int),())
def c33:Ctr:=D2 (.sl Iq) (.fn 190 (.pair (.ptr Iq) (.pair (.ptr Iq) (.unit)))) Iq Zq
def Zt (s0:List Int) (f0:Int×Int×Unit):Option Bool :=
 (Zq s0 f0).bind fun y0 =>
 some (Decidable.decide (0≤y0))
def c34:Ctr:=D2 (.sl Iq) (.fn 190 (.pair (.ptr Iq) (.pair (.ptr Iq) (.unit)))) (.bool) Zt
def Qf (list0:List Int) (low0:Int) (high0:Int):Option Bool :=
 (Zt list0 (low0,high0,())).bind fun y0 =>
 some !y0
def c35:Ctr:=D3 (.sl Iq) Iq Iq (.bool) Qf
def Zqf (list0:List Int) (i0:Int):Option ((Int×Unit) ⊕ Bool) :=
 if i0<(↑list0.length:Int) then
 (atI list0 (Wq (i0-1))).bind fun x0 =>
 (atI list0 i0).bind fun x1 =>
 if x1≤x0 then
 some (.inr false)
 else
 some (.inl (Wq (i0+1),()))
 else
 some (.inr true)
def Zsi (list0:List Int):Option Bool :=
 ZA (fun v=>Zqf list0 v.1) ((1:Int),())
def c36:Ctr:=D1 (.sl Iq) (.bool) Zsi
def Zue (list0:List Int):Option Bool :=
 (ZpM list0).bind fun y0 =>
 (YA y0 1 4).bind fun y1 =>
 if y1 then
 (Qf list0 0 100000).bind fun y2 =>
 if y2 then
 (Zsi list0).bind fun y3 =>
 some y3
 else
 some false
 else
 some false
def c37:Ctr:=D1 (.sl Iq) (.bool) Zue
def Zuo (t0:Jy):Option Bool :=
 (Zue (Jy.ZoG t0)).bind fun y0 =>
 if y0 then
 (Zue (Jy.Loads t0)).bind fun y1 =>
 if y1 then
 if (↑(List.length (Jy.Values t0)):Int)=Wq ((↑(List.length (Jy.ZoG t0)):Int)*(↑(List.length (Jy.Loads t0)):Int)) then
 (Qf (Jy.Values t0) (-1000000) 1000000).bind fun y2 =>
 some y2
 else
 some false
 else
 some false
 else
 some false
def c38:Ctr:=D1 (ZdQ) (.bool) Zuo
def ZqA (x0:List Int) (m0:Int) (i0:Int):Option ((Int×Int×Unit) ⊕ Int) :=
 if i0<(↑x0.length:Int) then
 (atI x0 i0).bind fun x2 =>
 some (.inl (Min.min m0 x2,Wq (i0+1),()))
 else
 some (.inr m0)
def ZqG (x0:List Int):Option Int :=
 if (↑x0.length:Int)<1 then
 none
 else
 (atI x0 0).bind fun x1 =>
 ZA (fun v=>ZqA x0 v.1 v.2.1) (x1,(1:Int),())
def c39:Ctr:=D1 (.sl Iq) Iq ZqG
def ZqM (t0:Jy) (a0:Bool):Option Bool :=
 (Zuo t0).bind fun y0 =>
 if y0 then
 if a0 then
 (ZqG (Jy.Values t0)).bind fun y1 =>
 some (Decidable.decide (y1<0))
 else
 some false
 else
 some true
def c40:Ctr:=D2 (ZdQ) (.ptr (.bool)) (.bool) ZqM
def Zpu (s0:List Jy) (f0:Bool×Unit) (v0:Int):Option ((Int×Unit) ⊕ Int) :=
 if v0<(↑s0.length:Int) then
 (atI s0 v0).bind fun x0 =>
 (ZqM x0 f0.fst).bind fun y0 =>
 if y0 then
 some (.inr v0)
 else
 some (.inl (Wq (v0+1),()))
 else
 some (.inr (-1))
def Zpl (s0:List Jy) (f0:Bool×Unit):Option Int :=
 ZA (fun v=>Zpu s0 f0 v.1) ((0:Int),())
def c41:Ctr:=D2 (.sl (ZdQ)) (.fn 306 (.pair (.ptr (.bool)) (.unit))) Iq Zpl
def Zpe (s0:List Jy) (f0:Bool×Unit):Option Bool :=
 (Zpl s0 f0).bind fun y0 =>
 some (Decidable.decide (0≤y0))
def c42:Ctr:=D2 (.sl (ZdQ)) (.fn 306 (.pair (.ptr (.bool)) (.unit))) (.bool) Zpe
def ZrS (list0:List Jy) (positive0:Bool):Option Bool :=
 if (↑list0.length:Int)=2 then
 (Zpe list0 (positive0,())).bind fun y0 =>
 some !y0
 else
 some false
def c43:Ctr:=D2 (.sl (ZdQ)) (.bool) (.bool) ZrS
def Zs8 (p0:ZhU):Option Bool :=
 some (ZhU.Clock p0)
def c44:Ctr:=D1 (Zl9) (.bool) Zs8
def ZpA (s0:List ZhU) (v0:Int):Option ((Int×Unit) ⊕ Int) :=
 if v0<(↑s0.length:Int) then
 (atI s0 v0).bind fun x0 =>
 (Zs8 x0).bind fun y0 =>
 if y0 then
 some (.inr v0)
 else
 some (.inl (Wq (v0+1),()))
 else
 some (.inr (-1))
def Zpr (s0:List ZhU) (f0:Unit):Option Int :=
 ZA (fun v=>ZpA s0 v.1) ((0:Int),())
def c45:Ctr:=D2 (.sl (Zl9)) (.fn 310 (.unit)) Iq Zpr
def Zs7 (c0:QG):Option Int :=
 (Zpr (QG.ZoY c0) ()).bind fun y0 =>
 some y0
def c46:Ctr:=D1 (Zin) Iq Zs7
def ZrN (c0:QG):Option Int :=
 (Zri (QG.ZoY c0)).bind fun y0 =>
 some (Wq (y0-1))
def c47:Ctr:=D1 (Zin) Iq ZrN
def Zrp (c0:QG) (pin0:Int):Option Bool :=
 (ZrN c0).bind fun y0 =>
 (YA pin0 0 (Wq (y0-1))).bind fun y1 =>
 some y1
def c48:Ctr:=D2 (Zin) Iq (.bool) Zrp
def Zs9 (a0:QG) (a1:ZfN):Option Bool :=
 (Zuq (ZfN.Kind a1)).bind fun y0 =>
 if y0 then
 if ZfN.ZoE a1=0 then
 if (↑(List.length (ZfN.Znd a1)):Int)=0 then
 (ZrS (ZfN.Delay a1) false).bind fun y1 =>
 if y1 then
 (Zs7 a0).bind fun y2 =>
 if ZfN.From a1=y2 then
 if 0≤ZfN.From a1 then
 (Zrp a0 (ZfN.To a1)).bind fun y3 =>
 if y3 then
 some (!Decidable.decide (ZfN.To a1=ZfN.From a1))
 else
 some false
 else
 some false
 else
 some false
 else
 some false
 else
 some false
 else
 some false
 else
 (ZrS (ZfN.Delay a1) true).bind fun y1 =>
 if y1 then
 (ZrS (ZfN.Znd a1) true).bind fun y4 =>
 if y4 then
 (ZrN a0).bind fun y5 =>
 if ZfN.To a1=y5 then
 (Zrp a0 (ZfN.From a1)).bind fun y3 =>
 if y3 then
 if ZfN.Kind a1=1 then
 (atI (QG.ZoY a0) (ZfN.From a1)).bind fun x0 =>
 if (ZhU.Clock x0)=true then
 some false
 else
 (YA (ZfN.ZoE a1) 1 3).bind fun y6 =>
 some y6
 else
 if ZfN.Kind a1=2 then
 if ZfN.Kind a1=2 then
 (atI (QG.ZoY a0) (ZfN.From a1)).bind fun x0 =>
 if (ZhU.Clock x0)=true then
 some (Decidable.decide (ZfN.ZoE a1=0))
 else
 some false
 else
 some false
 else
 if ZfN.Kind a1=3 then
 (atI (QG.ZoY a0) (ZfN.From a1)).bind fun x0 =>
 if (ZhU.Clock x0)=true then
 some (Decidable.decide (ZfN.ZoE a1=0))
 else
 some false
 else
 some false
 else
 some false
 else
 some false
 else
 some false
 else
 some false
def c49:Ctr:=D2 (Zin) (Zmv) (.bool) Zs9
def Zqi (o0:ZfN) (a0:ZfN):Option Bool :=
 if ZfN.Kind o0=ZfN.Kind a0 then
 if ZfN.From o0=ZfN.From a0 then
 some (Decidable.decide (ZfN.To o0=ZfN.To a0))
 else
 some false
 else
 some false
def c50:Ctr:=D2 (Zmv) (.ptr (Zmv)) (.bool) Zqi
def Zpv (s0:List ZfN) (f0:ZfN×Unit) (v0:Int):Option ((Int×Unit) ⊕ Int) :=
 if v0<(↑s0.length:Int) then
 (atI s0 v0).bind fun x0 =>
 (Zqi x0 f0.fst).bind fun y0 =>
 if y0 then
 some (.inr v0)
 else
 some (.inl (Wq (v0+1),()))
 else
 some (.inr (-1))
def Zpn (s0:List ZfN) (f0:ZfN×Unit):Option Int :=
 ZA (fun v=>Zpv s0 f0 v.1) ((0:Int),())
def c51:Ctr:=D2 (.sl (Zmv)) (.fn 277 (.pair (.ptr (Zmv)) (.unit))) Iq Zpn
def Zpf (s0:List ZfN) (f0:ZfN×Unit):Option Bool :=
 (Zpn s0 f0).bind fun y0 =>
 some (Decidable.decide (0≤y0))
def c52:Ctr:=D2 (.sl (Zmv)) (.fn 277 (.pair (.ptr (Zmv)) (.unit))) (.bool) Zpf
def ZrF (c0:QG) (v0:Int):Option ((Int×Unit) ⊕ Bool) :=
 if v0<(↑(List.length (QG.ZoW c0)):Int) then
 (atI (QG.ZoW c0) v0).bind fun x0 =>
 (Zs9 c0 x0).bind fun y0 =>
 if y0 then
 Zj ((0:Int)≤v0) <|
 Zj (v0≤(↑(List.length (QG.ZoW c0)):Int)) <|
 (Zpf (List.take (Int.toNat v0-Int.toNat 0) (List.drop (Int.toNat 0) (QG.ZoW c0))) (x0,())).bind fun y1 =>
 if y1 then
 some (.inr false)
 else
 some (.inl (Wq (v0+1),()))
 else
 some (.inr false)
 else
 some (.inr (Decidable.decide ((↑(List.length (QG.ZoW c0)):Int)≤8)))
def Zsg (c0:QG):Option Bool :=
 ZA (fun v=>ZrF c0 v.1) ((0:Int),())
def c53:Ctr:=D1 (Zin) (.bool) Zsg
def ZsC (a0:ZfN) (a1:Int):Option Bool :=
 some (Decidable.decide (ZfN.Kind a0=a1))
def c54:Ctr:=D2 (Zmv) (.ptr Iq) (.bool) ZsC
def ZpB (s0:List ZfN) (f0:Int×Unit) (v0:Int):Option ((Int×Unit) ⊕ Int) :=
 if v0<(↑s0.length:Int) then
 (atI s0 v0).bind fun x0 =>
 (ZsC x0 f0.fst).bind fun y0 =>
 if y0 then
 some (.inr v0)
 else
 some (.inl (Wq (v0+1),()))
 else
 some (.inr (-1))
def Zps (s0:List ZfN) (f0:Int×Unit):Option Int :=
 ZA (fun v=>ZpB s0 f0 v.1) ((0:Int),())
def c55:Ctr:=D2 (.sl (Zmv)) (.fn 297 (.pair (.ptr Iq) (.unit))) Iq Zps
def Zpo (s0:List ZfN) (f0:Int×Unit):Option Bool :=
 (Zps s0 f0).bind fun y0 =>
 some (Decidable.decide (0≤y0))
def c56:Ctr:=D2 (.sl (Zmv)) (.fn 297 (.pair (.ptr Iq) (.unit))) (.bool) Zpo
def ZqD (c0:QG) (kind0:Int):Option Bool :=
 (Zpo (QG.ZoW c0) (kind0,())).bind fun y0 =>
 some y0
def c57:Ctr:=D2 (Zin) Iq (.bool) ZqD
def Zp6 (a0:QG) (v0:Int) (v1:Int):Option ((Int×Int×Unit) ⊕ Bool) :=
 if v1<(↑(List.length (QG.ZoY a0)):Int) then
 (atI (QG.ZoY a0) v1).bind fun x0 =>
 if (ZhU.Clock x0)=true then
 some (.inl (Wq (v0+1),Wq (v1+1),()))
 else
 some (.inl (v0,Wq (v1+1),()))
 else
 if QG.Kind a0=1 then
 if v0=0 then
 (ZrN a0).bind fun y0 =>
 Zj ((0:Int)≤y0) <|
 if (↑(List.length (QG.Truth a0)):Int)=Wq (1*2 ^ Min.min (Int.toNat y0) (IntKind.bits IntKind.i64)) then
 (Qf (QG.Truth a0) 0 1).bind fun y1 =>
 some (.inr y1)
 else
 some (.inr false)
 else
 some (.inr false)
 else
 if QG.Kind a0=2 then
 if v0=1 then
 if (↑(List.length (QG.Truth a0)):Int)=0 then
 (ZqD a0 1).bind fun y2 =>
 if y2 then
 some (.inr false)
 else
 (ZqD a0 2).bind fun y3 =>
 (ZqD a0 3).bind fun y4 =>
 some (.inr (!y3 == y4))
 else
 some (.inr false)
 else
 some (.inr false)
 else
 if QG.Kind a0=3 then
 if v0=1 then
 if (↑(List.length (QG.Truth a0)):Int)=0 then
 (ZqD a0 1).bind fun y2 =>
 if y2 then
 (ZqD a0 2).bind fun y3 =>
 if y3 then
 (ZqD a0 3).bind fun y4 =>
 some (.inr !y4)
 else
 some (.inr false)
 else
 some (.inr false)
 else
 some (.inr false)
 else
 some (.inr false)
 else
 some (.inr false)
def ZrZ (a0:QG):Option Bool :=
 ZA (fun v=>Zp6 a0 v.1 v.2.1) ((0:Int),(0:Int),())
def c58:Ctr:=D1 (Zin) (.bool) ZrZ
def ZuL (c0:QG):Option Bool :=
 (VD (QG.Name c0)).bind fun y0 =>
 if y0 then
 (Zup (QG.ZoY c0)).bind fun y1 =>
 if y1 then
 (Zsg c0).bind fun y2 =>
 if y2 then
 (YA (QG.ZoX c0) 0 100000).bind fun y3 =>
 if y3 then
 (YA (QG.Zon c0) 0 100000).bind fun y4 =>
 if y4 then
 (ZrZ c0).bind fun y5 =>
 some y5
 else
 some false
 else
 some false
 else
 some false
 else
 some false
 else
 some false
def c59:Ctr:=D1 (Zin) (.bool) ZuL
def ZqB (l0:ZaF) (names0:List (List UInt8)) (v0:Int):Option (((List (List UInt8))×Int×Unit) ⊕ Bool) :=
 if v0<(↑(List.length (ZaF.Cells l0)):Int) then
 (atI (ZaF.Cells l0) v0).bind fun x0 =>
 (ZuL x0).bind fun y0 =>
 if y0 then
 Zj ((List.length names0+List.length [QG.Name x0])*(16:Nat)≤(140737488355328:Nat)) <|
 some (.inl (names0++[QG.Name x0],Wq (v0+(1:Int)),()))
 else
 some (.inr false)
 else
 if (↑(List.length (ZaF.Cells l0)):Int)≤8 then
 (QO names0).bind fun y1 =>
 some (.inr y1)
 else
 some (.inr false)
def Ztx (l0:ZaF):Option Bool :=
 ZA (fun v=>ZqB l0 v.1 v.2.1) (([]:List (List UInt8)),(0:Int),())
def c60:Ctr:=D1 (Zc3) (.bool) Ztx
def Zq2 (d0:Zp) (instances0:List (List UInt8)) (ports0:List (List UInt8)) (v1:Int):Option (((List (List UInt8))×Int×Unit) ⊕ (((List (List UInt8))×Int×Unit) ⊕ Bool)) :=
 if v1<(↑(List.length (Zp.Vk d0)):Int) then
 (atI (Zp.Vk d0) v1).bind fun x0 =>
 Zj ((List.length ports0+List.length [Zah.Name x0])*(16:Nat)≤(140737488355328:Nat)) <|
 some (.inl (ports0++[Zah.Name x0],Wq (v1+(1:Int)),()))
 else
 if (↑instances0.length:Int)≤14 then
 if (↑(List.length (Zp.Zbh d0)):Int)≤30 then
 if (↑ports0.length:Int)≤8 then
 (QO instances0).bind fun y0 =>
 if y0 then
 (QO (Zp.Zbh d0)).bind fun y1 =>
 if y1 then
 (QO ports0).bind fun y2 =>
 some (.inr (.inr y2))
 else
 some (.inr (.inr false))
 else
 some (.inr (.inr false))
 else
 some (.inr (.inr false))
 else
 some (.inr (.inr false))
 else
 some (.inr (.inr false))
def Zq3 (d0:Zp) (instances0:List (List UInt8)) (v0:Int):Option (((List (List UInt8))×Int×Unit) ⊕ Bool) :=
 if v0<(↑(List.length (Zp.Instances d0)):Int) then
 (atI (Zp.Instances d0) v0).bind fun x0 =>
 Zj ((List.length instances0+List.length [Zz.Name x0])*(16:Nat)≤(140737488355328:Nat)) <|
 some (.inl (instances0++[Zz.Name x0],Wq (v0+(1:Int)),()))
 else
 ZA (fun v=>Zq2 d0 instances0 v.1 v.2.1) (([]:List (List UInt8)),(0:Int),())
def Zrf (d0:Zp):Option Bool :=
 ZA (fun v=>Zq3 d0 v.1 v.2.1) (([]:List (List UInt8)),(0:Int),())
def c61:Ctr:=D1 (ZdN) (.bool) Zrf
def Zp7 (list0:List QG):Option Int :=
 some (↑list0.length:Int)
def c62:Ctr:=D1 (.sl (Zin)) Iq Zp7
def ZpQ (list0:List (List UInt8)):Option Int :=
 some (↑list0.length:Int)
def c63:Ctr:=D1 (.sl (.str)) Iq ZpQ
def ZpJ (d0:Zp) (net0:Int):Option Bool :=
 (ZpQ (Zp.Zbh d0)).bind fun y0 =>
 (YA net0 0 (Wq (y0-1))).bind fun y1 =>
 some y1
def c64:Ctr:=D2 (ZdN) Iq (.bool) ZpJ
def ZpX (net0:Int) (a0:Zp):Option Bool :=
 (ZpJ a0 net0).bind fun y0 =>
 some !y0
def c65:Ctr:=D2 Iq (.ptr (ZdN)) (.bool) ZpX
def Zpw (s0:List Int) (f0:Zp×Unit) (v0:Int):Option ((Int×Unit) ⊕ Int) :=
 if v0<(↑s0.length:Int) then
 (atI s0 v0).bind fun x0 =>
 (ZpX x0 f0.fst).bind fun y0 =>
 if y0 then
 some (.inr v0)
 else
 some (.inl (Wq (v0+1),()))
 else
 some (.inr (-1))
def Zpp (s0:List Int) (f0:Zp×Unit):Option Int :=
 ZA (fun v=>Zpw s0 f0 v.1) ((0:Int),())
def c66:Ctr:=D2 (.sl Iq) (.fn 217 (.pair (.ptr (ZdN)) (.unit))) Iq Zpp
def Zpi (s0:List Int) (f0:Zp×Unit):Option Bool :=
 (Zpp s0 f0).bind fun y0 =>
 some (Decidable.decide (0≤y0))
def c67:Ctr:=D2 (.sl Iq) (.fn 217 (.pair (.ptr (ZdN)) (.unit))) (.bool) Zpi
def ZqX (d0:Zp) (l0:ZaF) (x0:Zz):Option Bool :=
 (Zp7 (ZaF.Cells l0)).bind fun y0 =>
 (YA (Zz.Cell x0) 0 (Wq (y0-1))).bind fun y1 =>
 if y1 then
 (atI (ZaF.Cells l0) (Zz.Cell x0)).bind fun x1 =>
 if (↑(List.length (Zz.Zbh x0)):Int)=(↑(List.length (QG.ZoY x1)):Int) then
 (Zpi (Zz.Zbh x0) (d0,())).bind fun y2 =>
 some !y2
 else
 some false
 else
 some false
def c68:Ctr:=D3 (ZdN) (Zc3) (ZdO) (.bool) ZqX
def ZsD (n0:Int):Option Bool :=
 some (!Decidable.decide (n0=1))
def c69:Ctr:=D1 Iq (.bool) ZsD
def ZpI (s0:List Int) (v0:Int):Option ((Int×Unit) ⊕ Int) :=
 if v0<(↑s0.length:Int) then
 (atI s0 v0).bind fun x0 =>
 (ZsD x0).bind fun y0 =>
 if y0 then
 some (.inr v0)
 else
 some (.inl (Wq (v0+1),()))
 else
 some (.inr (-1))
def ZpE (s0:List Int) (f0:Unit):Option Int :=
 ZA (fun v=>ZpI s0 v.1) ((0:Int),())
def c70:Ctr:=D2 (.sl Iq) (.fn 157 (.unit)) Iq ZpE
def ZpD (s0:List Int) (f0:Unit):Option Bool :=
 (ZpE s0 ()).bind fun y0 =>
 some (Decidable.decide (0≤y0))
def c71:Ctr:=D2 (.sl Iq) (.fn 157 (.unit)) (.bool) ZpD
def ZqQ (a1:Zp) (v1:Int) (l1:List Int):Option ((Int×(List Int)×Unit) ⊕ ((Int×(List Int)×Unit) ⊕ Bool)) :=
 if v1<(↑(List.length (Zp.Vk a1)):Int) then
 (atI (Zp.Vk a1) v1).bind fun x0 =>
 if Zah.Dir x0=1 then
 (ZpJ a1 (Zah.Net x0)).bind fun y0 =>
 if y0 then
 if Zah.Dir x0=1 then
 (atI l1 (Zah.Net x0)).bind fun x1 =>
 some (.inl (Wq (v1+1),List.set l1 (Int.toNat (Zah.Net x0)) (Wq (x1+1)),()))
 else
 some (.inl (Wq (v1+1),l1,()))
 else
 some (.inr (.inr false))
 else
 if Zah.Dir x0=2 then
 (ZpJ a1 (Zah.Net x0)).bind fun y0 =>
 if y0 then
 if Zah.Dir x0=1 then
 (atI l1 (Zah.Net x0)).bind fun x1 =>
 some (.inl (Wq (v1+1),List.set l1 (Int.toNat (Zah.Net x0)) (Wq (x1+1)),()))
 else
 some (.inl (Wq (v1+1),l1,()))
 else
 some (.inr (.inr false))
 else
 some (.inr (.inr false))
 else
 (ZpD l1 ()).bind fun y1 =>
 some (.inr (.inr !y1))
def ZrI (a0:ZaF) (a1:Zp) (v0:Int) (l0:List Int):Option ((Int×(List Int)×Unit) ⊕ Bool) :=
 if v0<(↑(List.length (Zp.Instances a1)):Int) then
 (atI (Zp.Instances a1) v0).bind fun x0 =>
 (ZqX a1 a0 x0).bind fun y0 =>
 if y0 then
 (atI (Zz.Zbh x0) (Wq ((↑(List.length (Zz.Zbh x0)):Int)-1))).bind fun x1 =>
 (atI l0 x1).bind fun x2 =>
 some (.inl (Wq (v0+1),List.set l0 (Int.toNat x1) (Wq (x2+1)),()))
 else
 some (.inr false)
 else
 ZA (fun v=>ZqQ a1 v.1 v.2.1) ((0:Int),l0,())
def ZtS (a0:ZaF) (a1:Zp):Option Bool :=
 (Ztx a0).bind fun y0 =>
 if y0 then
 (Zrf a1).bind fun y1 =>
 if y1 then
 Zj ((0:Int)≤(↑(List.length (Zp.Zbh a1)):Int)) <|
 Zj ((↑(List.length (Zp.Zbh a1)):Int)≤(↑(List.length (Zp.Zbh a1)):Int)) <|
 Zj ((↑(List.length (Zp.Zbh a1)):Int)≤(4611686018427387904:Int)) <|
 Zj ((↑(8:Nat):Int)*(↑(List.length (Zp.Zbh a1)):Int)≤(281474976710656:Int)) <|
 ZA (fun v=>ZrI a0 a1 v.1 v.2.1) ((0:Int),List.replicate (Int.toNat (↑(List.length (Zp.Zbh a1)):Int)) (0:Int),())
 else
 some false
 else
 some false
def c72:Ctr:=D2 (Zc3) (ZdN) (.bool) ZtS
def Zrq (v0:Int) (x0:Zz) (list1:List Zbl) (v1:Int):Option (((List Zbl)×Int×Unit) ⊕ (((List Zbl)×Int×Unit) ⊕ List Zbl)) :=
 if v1<(↑(List.length (Zz.Zbh x0)):Int) then
 (atI (Zz.Zbh x0) v1).bind fun x1 =>
 Zj ((List.length list1+List.length [(v0,v1,x1,Decidable.decide (v1=Wq ((↑(List.length (Zz.Zbh x0)):Int)-(1:Int))),())])*(32:Nat)≤(140737488355328:Nat)) <|
 some (.inl (list1++[(v0,v1,x1,Decidable.decide (v1=Wq ((↑(List.length (Zz.Zbh x0)):Int)-(1:Int))),())],Wq (v1+(1:Int)),()))
 else
 some (.inr (.inl (list1,Wq (v0+1),())))
def Zrr (d0:Zp) (list1:List Zbl) (v1:Int):Option (((List Zbl)×Int×Unit) ⊕ (((List Zbl)×Int×Unit) ⊕ List Zbl)) :=
 if v1<(↑(List.length (Zp.Vk d0)):Int) then
 (atI (Zp.Vk d0) v1).bind fun x0 =>
 Zj ((List.length list1+List.length [((-1:Int),v1,Zah.Net x0,Decidable.decide (Zah.Dir x0=(1:Int)),())])*(32:Nat)≤(140737488355328:Nat)) <|
 some (.inl (list1++[((-1:Int),v1,Zah.Net x0,Decidable.decide (Zah.Dir x0=(1:Int)),())],Wq (v1+(1:Int)),()))
 else
 some (.inr (.inr list1))
def Zrs (d0:Zp) (list0:List Zbl) (v0:Int):Option (((List Zbl)×Int×Unit) ⊕ List Zbl) :=
 if v0<(↑(List.length (Zp.Instances d0)):Int) then
 (atI (Zp.Instances d0) v0).bind fun x0 =>
 ZA (fun v=>Zrq v0 x0 v.1 v.2.1) (list0,(0:Int),())
 else
 ZA (fun v=>Zrr d0 v.1 v.2.1) (list0,(0:Int),())
def Zpt (d0:Zp):Option (List Zbl) :=
 ZA (fun v=>Zrs d0 v.1 v.2.1) (([]:List Zbl),(0:Int),())
def c73:Ctr:=⟨[.dat (ZdN)],[.own (.ol 147 (.flat (ZjZ)))],fun a K=>splitK a fun d0 a=>XU (Zpt d0) fun r=>K (r,()) ()⟩
def ZrU (w0:QH) (v0:Int):Option ((Int×Unit) ⊕ Bool) :=
 if v0<(↑(List.length (QH.Parent w0)):Int) then
 (atI (QH.Parent w0) v0).bind fun x0 =>
 if v0=0 then
 if x0=(-1) then
 (atI (QH.Res w0) 0).bind fun x1 =>
 if x1=0 then
 if 0<v0 then
 (YA x0 0 (Wq (v0-1))).bind fun y0 =>
 if y0 then
 some (.inl (Wq (v0+1),()))
 else
 some (.inr false)
 else
 some (.inl (Wq (v0+1),()))
 else
 some (.inr false)
 else
 some (.inr false)
 else
 if 0<v0 then
 (YA x0 0 (Wq (v0-1))).bind fun y0 =>
 if y0 then
 some (.inl (Wq (v0+1),()))
 else
 some (.inr false)
 else
 some (.inl (Wq (v0+1),()))
 else
 some (.inr true)
def ZsE (w0:QH):Option Bool :=
 ZA (fun v=>ZrU w0 v.1) ((0:Int),())
def c74:Ctr:=D1 (ZjY) (.bool) ZsE
def Zub (w0:QH) (sinks0:Int):Option Bool :=
 (ZpM (QH.Parent w0)).bind fun y0 =>
 (YA y0 1 8).bind fun y1 =>
 if y1 then
 (ZpM (QH.Res w0)).bind fun y2 =>
 if y2=y0 then
 (ZpM (QH.Cap w0)).bind fun y3 =>
 if y3=y0 then
 (ZsE w0).bind fun y4 =>
 if y4 then
 (Qf (QH.Res w0) 0 1000).bind fun y5 =>
 if y5 then
 (Qf (QH.Cap w0) 0 500).bind fun y6 =>
 if y6 then
 (ZpM (QH.ZnH w0)).bind fun y7 =>
 if y7=sinks0 then
 (Qf (QH.ZnH w0) 0 (Wq (y0-1))).bind fun y8 =>
 some y8
 else
 some false
 else
 some false
 else
 some false
 else
 some false
 else
 some false
 else
 some false
 else
 some false
def c75:Ctr:=D2 (ZjY) Iq (.bool) Zub
def Zta (b0:Zv) (l0:List Int) (v1:Int):Option ((Int×Unit) ⊕ ((Int×(List Int)×Unit) ⊕ Bool)) :=
 if v1<(↑(List.length (Zv.ZlA b0)):Int) then
 (atI (Zv.ZlA b0) v1).bind fun x0 =>
 (atI l0 v1).bind fun x1 =>
 (Zub x0 x1).bind fun y0 =>
 if y0 then
 some (.inl (Wq (v1+1),()))
 else
 some (.inr (.inr false))
 else
 some (.inr (.inr true))
def Zr1 (b0:Zv) (places0:List Zbl) (v0:Int) (l0:List Int):Option ((Int×(List Int)×Unit) ⊕ Bool) :=
 if v0<(↑places0.length:Int) then
 (atI places0 v0).bind fun x0 =>
 if (Zbl.drives x0)=true then
 some (.inl (Wq (v0+1),l0,()))
 else
 (atI l0 (Zbl.net x0)).bind fun x1 =>
 some (.inl (Wq (v0+1),List.set l0 (Int.toNat (Zbl.net x0)) (Wq (x1+1)),()))
 else
 ZA (fun v=>Zta b0 l0 v.1) ((0:Int),())
def ZtD (b0:Zv):Option Bool :=
 (ZtS (Zv.Library b0) (Zv.Design b0)).bind fun y0 =>
 if y0 then
 if (↑(List.length (Zv.ZlA b0)):Int)=(↑(List.length (Zp.Zbh (Zv.Design b0))):Int) then
 Zj ((0:Int)≤(↑(List.length (Zv.ZlA b0)):Int)) <|
 Zj ((↑(List.length (Zv.ZlA b0)):Int)≤(↑(List.length (Zv.ZlA b0)):Int)) <|
 Zj ((↑(List.length (Zv.ZlA b0)):Int)≤(4611686018427387904:Int)) <|
 Zj ((↑(8:Nat):Int)*(↑(List.length (Zv.ZlA b0)):Int)≤(281474976710656:Int)) <|
 (Zpt (Zv.Design b0)).bind fun y1 =>
 ZA (fun v=>Zr1 b0 y1 v.1 v.2.1) ((0:Int),List.replicate (Int.toNat (↑(List.length (Zv.ZlA b0)):Int)) (0:Int),())
 else
 some false
 else
 some false
def c76:Ctr:=D1 (ZjX) (.bool) ZtD
def ZEa (b0:Zv) (net0:Int):Option Int :=
 (ZtD b0).bind fun y0 =>
 if y0 then
 (ZpJ (Zv.Design b0) net0).bind fun y1 =>
 if y1 then
 some 0
 else
 some 2
 else
 some 1
def c77:Ctr:=D2 (ZjX) Iq Iq ZEa
def Zpk (s0:List Int):Option (List Int) :=
 Zj ((List.length (([]:List Int))+List.length s0)*(8:Nat)≤(140737488355328:Nat)) <|
 some (([]:List Int)++s0)
def c78:Ctr:=⟨[.dat (.sl Iq)],[.own (.ol 2 (.flat Iq))],fun a K=>splitK a fun s0 a=>XU (Zpk s0) fun r=>K (r,()) ()⟩
def ZrG (net0:Int) (places0:List Zbl) (list0:List Int) (v0:Int):Option (((List Int)×Int×Unit) ⊕ List Int) :=
 if v0<(↑places0.length:Int) then
 (atI places0 v0).bind fun x0 =>
 if Zbl.net x0=net0 then
 if (Zbl.drives x0)=true then
 some (.inl (list0,Wq (v0+1),()))
 else
 Zj ((List.length list0+List.length [v0])*(8:Nat)≤(140737488355328:Nat)) <|
 some (.inl (list0++[v0],Wq (v0+(1:Int)),()))
 else
 some (.inl (list0,Wq (v0+1),()))
 else
 some (.inr list0)
def Zsh (d0:Zp) (net0:Int):Option (List Int) :=
 (Zpt d0).bind fun y0 =>
 ZA (fun v=>ZrG net0 y0 v.1 v.2.1) (([]:List Int),(0:Int),())
def c79:Ctr:=⟨[.dat (ZdN),.dat Iq],[.own (.ol 2 (.flat Iq))],fun a K=>splitK a fun d0 a=>splitK a fun net0 a=>XU (Zsh d0 net0) fun r=>K (r,()) ()⟩
def ZEb (d0:Zp) (l0:ZaF) (p0:Zbl):Option Int :=
 if Zbl.instance p0<0 then
 some 0
 else
 (atI (Zp.Instances d0) (Zbl.instance p0)).bind fun x0 =>
 (atI (ZaF.Cells l0) (Zz.Cell x0)).bind fun x1 =>
 (atI (QG.ZoY x1) (Zbl.pin p0)).bind fun x2 =>
 some (ZhU.Cap x2)
def c80:Ctr:=D3 (ZdN) (Zc3) (ZjZ) Iq ZEb
def ZDZ (x0:QH) (v1:Int) (l1:List Int):Option ((Int×(List Int)×Unit) ⊕ ((Int×(List Int)×Unit) ⊕ List Int)) :=
 if 0<v1 then
 (atI (QH.Parent x0) v1).bind fun x1 =>
 (atI l1 x1).bind fun x2 =>
 (atI l1 v1).bind fun x3 =>
 some (.inl (Wq (v1-1),List.set l1 (Int.toNat x1) (Wq (x2+x3)),()))
 else
 some (.inr (.inr l1))
def ZD0 (a0:Zv) (x0:QH) (places0:List Zbl) (sinks0:List Int) (v0:Int) (l0:List Int):Option ((Int×(List Int)×Unit) ⊕ List Int) :=
 if v0<(↑sinks0.length:Int) then
 (atI sinks0 v0).bind fun x1 =>
 (atI (QH.ZnH x0) v0).bind fun x2 =>
 (atI l0 x2).bind fun x3 =>
 (atI places0 x1).bind fun x4 =>
 (ZEb (Zv.Design a0) (Zv.Library a0) x4).bind fun y0 =>
 some (.inl (Wq (v0+1),List.set l0 (Int.toNat x2) (Wq (x3+y0)),()))
 else
 ZA (fun v=>ZDZ x0 v.1 v.2.1) (Wq ((↑l0.length:Int)-(1:Int)),l0,())
def ZDY (a0:Zv) (a1:Int):Option (List Int) :=
 (atI (Zv.ZlA a0) a1).bind fun x0 =>
 (Zpk (QH.Cap x0)).bind fun y0 =>
 (Zpt (Zv.Design a0)).bind fun y1 =>
 (Zsh (Zv.Design a0) a1).bind fun y2 =>
 ZA (fun v=>ZD0 a0 x0 y1 y2 v.1 v.2.1) ((0:Int),y0,())
def c81:Ctr:=⟨[.dat (ZjX),.dat Iq],[.own (.ol 2 (.flat Iq))],fun a K=>splitK a fun a0 a=>splitK a fun a1 a=>XU (ZDY a0 a1) fun r=>K (r,()) ()⟩
def ZD4 (x0:QH) (nodeLoads0:List Int) (i0:Int) (l0:List Int):Option ((Int×(List Int)×Unit) ⊕ List Int) :=
 if i0<(↑l0.length:Int) then
 (atI (QH.Parent x0) i0).bind fun x1 =>
 (atI l0 x1).bind fun x2 =>
 (atI (QH.Res x0) i0).bind fun x3 =>
 (atI nodeLoads0 i0).bind fun x4 =>
 (atI l0 i0).bind fun x5 =>
 some (.inl (Wq (i0+1),List.set l0 (Int.toNat i0) (Wq (x2+Wq (x3*x4))),()))
 else
 some (.inr l0)
def ZD5 (b0:Zv) (net0:Int):Option (List Int) :=
 (atI (Zv.ZlA b0) net0).bind fun x0 =>
 (ZDY b0 net0).bind fun y0 =>
 Zj ((0:Int)≤(↑y0.length:Int)) <|
 Zj ((↑y0.length:Int)≤(↑y0.length:Int)) <|
 Zj ((↑y0.length:Int)≤(4611686018427387904:Int)) <|
 Zj ((↑(8:Nat):Int)*(↑y0.length:Int)≤(281474976710656:Int)) <|
 ZA (fun v=>ZD4 x0 y0 v.1 v.2.1) ((1:Int),List.replicate (Int.toNat (↑y0.length:Int)) (0:Int),())
def c82:Ctr:=⟨[.dat (ZjX),.dat Iq],[.own (.ol 2 (.flat Iq))],fun a K=>splitK a fun b0 a=>splitK a fun net0 a=>XU (ZD5 b0 net0) fun r=>K (r,()) ()⟩
def ZD1 (b0:Zv) (net0:Int):Option ((List Int)×Int) :=
 (ZEa b0 net0).bind fun y0 =>
 if y0=0 then
 (ZD5 b0 net0).bind fun y1 =>
 some (y1,0)
 else
 some (([]:List Int),y0)
def c83:Ctr:=⟨[.dat (ZjX),.dat Iq],[.own (.ol 2 (.flat Iq)),.dat Iq],fun a K=>splitK a fun b0 a=>splitK a fun net0 a=>XU (ZD1 b0 net0) fun r=>K (r.1,r.2,()) ()⟩
def Xu (s0:List UInt8) (i0:Int):Option ((Int×Unit) ⊕ Bool) :=
 if i0<(↑s0.length:Int) then
 (atI s0 i0).bind fun x0 =>
 if 97≤(↑(UInt8.toNat x0):Int) then
 if 48≤(↑(UInt8.toNat x0):Int) then
 if (↑(UInt8.toNat x0):Int)≤122 then
 some (.inl (Wq (i0+1),()))
 else
 if (↑(UInt8.toNat x0):Int)≤57 then
 if 0<i0 then
 some (.inl (Wq (i0+1),()))
 else
 some (.inr false)
 else
 some (.inr false)
 else
 if (↑(UInt8.toNat x0):Int)≤122 then
 some (.inl (Wq (i0+1),()))
 else
 some (.inr false)
 else
 if 48≤(↑(UInt8.toNat x0):Int) then
 if (↑(UInt8.toNat x0):Int)≤57 then
 if 0<i0 then
 some (.inl (Wq (i0+1),()))
 else
 some (.inr false)
 else
 some (.inr false)
 else
 some (.inr false)
 else
 if 1≤(↑s0.length:Int) then
 some (.inr (Decidable.decide ((↑s0.length:Int)≤8)))
 else
 some (.inr false)
def Vg (s0:List UInt8):Option Bool :=
 ZA (fun v=>Xu s0 v.1) ((0:Int),())
def c84:Ctr:=D1 (.str) (.bool) Vg
def Yd (n0:Int) (low0:Int) (high0:Int):Option Bool :=
 if low0≤n0 then
 some (Decidable.decide (n0≤high0))
 else
 some false
def c85:Ctr:=D3 Iq Iq Iq (.bool) Yd
def Zqz (a0:QG) (v0:Int) (v1:Int) (x0:ZhU) (v2:Int):Option ((Int×Unit) ⊕ ((Int×Int×Unit) ⊕ (Int×Bool))) :=
 if v2<v1 then
 (atI (QG.ZoY a0) v2).bind fun x1 =>
 if ZhU.Name x1=ZhU.Name x0 then
 some (.inr (.inr (0,false)))
 else
 some (.inl (Wq (v2+1),()))
 else
 (Vg (ZhU.Name x0)).bind fun y0 =>
 if y0 then
 (Yd (ZhU.Cap x0) 0 500).bind fun y1 =>
 if y1 then
 if v1=Wq ((↑(List.length (QG.ZoY a0)):Int)-1) then
 if ZhU.Dir x0=2 then
 if ZhU.Cap x0=0 then
 if (ZhU.Clock x0)=true then
 some (.inr (.inr (0,false)))
 else
 if v1<Wq ((↑(List.length (QG.ZoY a0)):Int)-1) then
 if ZhU.Dir x0=1 then
 if (ZhU.Clock x0)=true then
 some (.inr (.inl (Wq (v0+1),Wq (v1+1),())))
 else
 some (.inr (.inl (v0,Wq (v1+1),())))
 else
 some (.inr (.inr (0,false)))
 else
 if (ZhU.Clock x0)=true then
 some (.inr (.inl (Wq (v0+1),Wq (v1+1),())))
 else
 some (.inr (.inl (v0,Wq (v1+1),())))
 else
 some (.inr (.inr (0,false)))
 else
 some (.inr (.inr (0,false)))
 else
 if v1<Wq ((↑(List.length (QG.ZoY a0)):Int)-1) then
 if ZhU.Dir x0=1 then
 if (ZhU.Clock x0)=true then
 some (.inr (.inl (Wq (v0+1),Wq (v1+1),())))
 else
 some (.inr (.inl (v0,Wq (v1+1),())))
 else
 some (.inr (.inr (0,false)))
 else
 if (ZhU.Clock x0)=true then
 some (.inr (.inl (Wq (v0+1),Wq (v1+1),())))
 else
 some (.inr (.inl (v0,Wq (v1+1),())))
 else
 some (.inr (.inr (0,false)))
 else
 some (.inr (.inr (0,false)))
def Zq9 (a0:QG) (v0:Int) (v1:Int):Option ((Int×Int×Unit) ⊕ (Int×Bool)) :=
 if v1<(↑(List.length (QG.ZoY a0)):Int) then
 (atI (QG.ZoY a0) v1).bind fun x0 =>
 ZA (fun v=>Zqz a0 v0 v1 x0 v.1) ((0:Int),())
 else
 some (.inr (v0,true))
def Zut (a0:QG):Option (Int×Bool) :=
 if (↑(List.length (QG.ZoY a0)):Int)<2 then
 some (0,false)
 else
 if 5<(↑(List.length (QG.ZoY a0)):Int) then
 some (0,false)
 else
 ZA (fun v=>Zq9 a0 v.1 v.2.1) ((0:Int),(0:Int),())
def c86:Ctr:=⟨[.dat (Zin)],[.dat Iq,.dat (.bool)],fun a K=>splitK a fun a0 a=>XU (Zut a0) fun r=>K (r.1,r.2,()) ()⟩
def Zti (list0:List Int) (i0:Int):Option ((Int×Unit) ⊕ Bool) :=
 if i0<(↑list0.length:Int) then
 (atI list0 i0).bind fun x0 =>
 (Yd x0 0 100000).bind fun y0 =>
 if y0 then
 if 0<i0 then
 (atI list0 (Wq (i0-1))).bind fun x1 =>
 if x0≤x1 then
 some (.inr false)
 else
 some (.inl (Wq (i0+1),()))
 else
 some (.inl (Wq (i0+1),()))
 else
 some (.inr false)
 else
 if 1≤(↑list0.length:Int) then
 some (.inr (Decidable.decide ((↑list0.length:Int)≤4)))
 else
 some (.inr false)
def ZtG (list0:List Int):Option Bool :=
 ZA (fun v=>Zti list0 v.1) ((0:Int),())
def c87:Ctr:=D1 (.sl Iq) (.bool) ZtG
def Zth (t0:Jy) (i0:Int):Option ((Int×Unit) ⊕ Bool) :=
 if i0<(↑(List.length (Jy.Values t0)):Int) then
 (atI (Jy.Values t0) i0).bind fun x0 =>
 (Yd x0 (-1000000) 1000000).bind fun y0 =>
 if y0 then
 some (.inl (Wq (i0+1),()))
 else
 some (.inr false)
 else
 some (.inr true)
def Zus (t0:Jy):Option Bool :=
 (ZtG (Jy.ZoG t0)).bind fun y0 =>
 if y0 then
 (ZtG (Jy.Loads t0)).bind fun y1 =>
 if y1 then
 if (↑(List.length (Jy.Values t0)):Int)=Wq ((↑(List.length (Jy.ZoG t0)):Int)*(↑(List.length (Jy.Loads t0)):Int)) then
 ZA (fun v=>Zth t0 v.1) ((0:Int),())
 else
 some false
 else
 some false
 else
 some false
def c88:Ctr:=D1 (ZdQ) (.bool) Zus
def Zq0 (t0:Jy) (i0:Int) (c0:Int) (c1:Int):Option ((Int×Int×Int×Unit) ⊕ (Vz×Int)) :=
 if i0<(↑(List.length (Jy.Values t0)):Int) then
 (atI (Jy.Values t0) i0).bind fun x1 =>
 some (.inl (Wq (i0+1),Min.min c0 x1,Max.max c1 x1,()))
 else
 some (.inr ((c0,c1,()),0))
def ZsF (t0:Jy):Option (Vz×Int) :=
 (Zus t0).bind fun y0 =>
 if y0 then
 (atI (Jy.Values t0) 0).bind fun x0 =>
 ZA (fun v=>Zq0 t0 v.1 v.2.1 v.2.2.1) ((1:Int),x0,x0,())
 else
 some ((0,0,()),1)
def c89:Ctr:=⟨[.dat (ZdQ)],[.dat (ZfI),.dat Iq],fun a K=>splitK a fun t0 a=>XU (ZsF t0) fun r=>K (r.1,r.2,()) ()⟩
def Zsy (list0:List Jy) (positive0:Bool) (i0:Int):Option ((Int×Unit) ⊕ Bool) :=
 if i0<2 then
 (atI list0 i0).bind fun x0 =>
 (ZsF x0).bind fun y0 =>
 if y0.snd=0 then
 if positive0 then
 if y0.fst.fst<0 then
 some (.inr false)
 else
 some (.inl (Wq (i0+1),()))
 else
 some (.inl (Wq (i0+1),()))
 else
 some (.inr false)
 else
 some (.inr true)
def ZpG (list0:List Jy) (positive0:Bool):Option Bool :=
 if (↑list0.length:Int)=2 then
 ZA (fun v=>Zsy list0 positive0 v.1) ((0:Int),())
 else
 some false
def c90:Ctr:=D2 (.sl (ZdQ)) (.bool) (.bool) ZpG
def ZuP (a0:QG) (a1:ZfN):Option Bool :=
 (Yd (ZfN.From a1) 0 (Wq (Wq ((↑(List.length (QG.ZoY a0)):Int)-1)-1))).bind fun y0 =>
 if y0 then
 (Yd (ZfN.To a1) 0 (Wq ((↑(List.length (QG.ZoY a0)):Int)-1))).bind fun y1 =>
 if y1 then
 (atI (QG.ZoY a0) (ZfN.From a1)).bind fun x0 =>
 if ZfN.Kind a1=1 then
 if (ZhU.Clock x0)=true then
 some false
 else
 if ZfN.To a1=Wq ((↑(List.length (QG.ZoY a0)):Int)-1) then
 (Yd (ZfN.ZoE a1) 1 3).bind fun y2 =>
 if y2 then
 (ZpG (ZfN.Delay a1) true).bind fun y3 =>
 if y3 then
 (ZpG (ZfN.Znd a1) true).bind fun y4 =>
 some y4
 else
 some false
 else
 some false
 else
 some false
 else
 if ZfN.Kind a1=2 then
 if ZfN.Kind a1=2 then
 if (ZhU.Clock x0)=true then
 if ZfN.To a1=Wq ((↑(List.length (QG.ZoY a0)):Int)-1) then
 if ZfN.ZoE a1=0 then
 (ZpG (ZfN.Delay a1) true).bind fun y3 =>
 if y3 then
 (ZpG (ZfN.Znd a1) true).bind fun y4 =>
 some y4
 else
 some false
 else
 some false
 else
 some false
 else
 some false
 else
 if ZfN.Kind a1=4 then
 if ZfN.Kind a1=4 then
 if (ZhU.Clock x0)=true then
 if ZfN.To a1<Wq ((↑(List.length (QG.ZoY a0)):Int)-1) then
 (atI (QG.ZoY a0) (ZfN.To a1)).bind fun x1 =>
 if (ZhU.Clock x1)=true then
 some false
 else
 if ZfN.ZoE a1=0 then
 (ZpG (ZfN.Delay a1) false).bind fun y3 =>
 if y3 then
 some (Decidable.decide ((↑(List.length (ZfN.Znd a1)):Int)=0))
 else
 some false
 else
 some false
 else
 some false
 else
 some false
 else
 some false
 else
 if ZfN.Kind a1=5 then
 if (ZhU.Clock x0)=true then
 if ZfN.To a1<Wq ((↑(List.length (QG.ZoY a0)):Int)-1) then
 (atI (QG.ZoY a0) (ZfN.To a1)).bind fun x1 =>
 if (ZhU.Clock x1)=true then
 some false
 else
 if ZfN.ZoE a1=0 then
 (ZpG (ZfN.Delay a1) false).bind fun y3 =>
 if y3 then
 some (Decidable.decide ((↑(List.length (ZfN.Znd a1)):Int)=0))
 else
 some false
 else
 some false
 else
 some false
 else
 some false
 else
 some false
 else
 if ZfN.Kind a1=3 then
 if (ZhU.Clock x0)=true then
 if ZfN.To a1=Wq ((↑(List.length (QG.ZoY a0)):Int)-1) then
 if ZfN.ZoE a1=0 then
 (ZpG (ZfN.Delay a1) true).bind fun y3 =>
 if y3 then
 (ZpG (ZfN.Znd a1) true).bind fun y4 =>
 some y4
 else
 some false
 else
 some false
 else
 some false
 else
 some false
 else
 if ZfN.Kind a1=4 then
 if ZfN.Kind a1=4 then
 if (ZhU.Clock x0)=true then
 if ZfN.To a1<Wq ((↑(List.length (QG.ZoY a0)):Int)-1) then
 (atI (QG.ZoY a0) (ZfN.To a1)).bind fun x1 =>
 if (ZhU.Clock x1)=true then
 some false
 else
 if ZfN.ZoE a1=0 then
 (ZpG (ZfN.Delay a1) false).bind fun y3 =>
 if y3 then
 some (Decidable.decide ((↑(List.length (ZfN.Znd a1)):Int)=0))
 else
 some false
 else
 some false
 else
 some false
 else
 some false
 else
 some false
 else
 if ZfN.Kind a1=5 then
 if (ZhU.Clock x0)=true then
 if ZfN.To a1<Wq ((↑(List.length (QG.ZoY a0)):Int)-1) then
 (atI (QG.ZoY a0) (ZfN.To a1)).bind fun x1 =>
 if (ZhU.Clock x1)=true then
 some false
 else
 if ZfN.ZoE a1=0 then
 (ZpG (ZfN.Delay a1) false).bind fun y3 =>
 if y3 then
 some (Decidable.decide ((↑(List.length (ZfN.Znd a1)):Int)=0))
 else
 some false
 else
 some false
 else
 some false
 else
 some false
 else
 some false
 else
 some false
 else
 some false
def c91:Ctr:=D2 (Zin) (Zmv) (.bool) ZuP
def ZrK (c0:QG) (i0:Int) (l0:List Int):Option ((Int×(List Int)×Unit) ⊕ List Int) :=
 if i0<(↑(List.length (QG.ZoW c0)):Int) then
 (atI (QG.ZoW c0) i0).bind fun x0 =>
 (atI l0 (ZfN.Kind x0)).bind fun x1 =>
 some (.inl (Wq (i0+1),List.set l0 (Int.toNat (ZfN.Kind x0)) (Wq (x1+1)),()))
 else
 some (.inr l0)
def ZtY (c0:QG):Option (List Int) :=
 ZA (fun v=>ZrK c0 v.1 v.2.1) ((0:Int),List.replicate (Int.toNat (6:Int)) (0:Int),())
def c92:Ctr:=⟨[.dat (Zin)],[.own (.ol 2 (.flat Iq))],fun a K=>splitK a fun c0 a=>XU (ZtY c0) fun r=>K (r,()) ()⟩
def Zsl (a0:QG) (v0:Int) (x0:ZfN) (v1:Int):Option ((Int×Unit) ⊕ ((Int×Unit) ⊕ Bool)) :=
 if v1<v0 then
 (atI (QG.ZoW a0) v1).bind fun x1 =>
 if ZfN.Kind x1=ZfN.Kind x0 then
 if ZfN.From x1=ZfN.From x0 then
 if ZfN.To x1=ZfN.To x0 then
 some (.inr (.inr false))
 else
 some (.inl (Wq (v1+1),()))
 else
 some (.inl (Wq (v1+1),()))
 else
 some (.inl (Wq (v1+1),()))
 else
 some (.inr (.inl (Wq (v0+1),())))
def Zsm (a0:QG) (l03Pins0:Int×Bool) (v1:Int):Option ((Int×Unit) ⊕ ((Int×Unit) ⊕ Bool)) :=
 if v1<(↑(List.length (QG.Truth a0)):Int) then
 (atI (QG.Truth a0) v1).bind fun x0 =>
 (Yd x0 0 1).bind fun y0 =>
 if y0 then
 some (.inl (Wq (v1+1),()))
 else
 some (.inr (.inr false))
 else
 if l03Pins0.fst=0 then
 Zj ((0:Int)≤IntKind.wrap IntKind.u64 (Wq ((↑(List.length (QG.ZoY a0)):Int)-(1:Int)))) <|
 some (.inr (.inr (Decidable.decide ((↑(List.length (QG.Truth a0)):Int)=Wq (1*2 ^ Min.min (Int.toNat (IntKind.wrap IntKind.u64 (Wq ((↑(List.length (QG.ZoY a0)):Int)-1)))) (IntKind.bits IntKind.i64))))))
 else
 some (.inr (.inr false))
def Zts (a0:QG) (l03Pins0:Int×Bool) (v0:Int):Option ((Int×Unit) ⊕ Bool) :=
 if v0<(↑(List.length (QG.ZoW a0)):Int) then
 (atI (QG.ZoW a0) v0).bind fun x0 =>
 (ZuP a0 x0).bind fun y0 =>
 if y0 then
 ZA (fun v=>Zsl a0 v0 x0 v.1) ((0:Int),())
 else
 some (.inr false)
 else
 (ZtY a0).bind fun y1 =>
 if QG.Kind a0=1 then
 ZA (fun v=>Zsm a0 l03Pins0 v.1) ((0:Int),())
 else
 if QG.Kind a0=2 then
 if l03Pins0.fst=1 then
 (atI y1 1).bind fun x0 =>
 if x0=0 then
 (atI y1 2).bind fun x1 =>
 (atI y1 3).bind fun x2 =>
 if (Decidable.decide (0<x1) == Decidable.decide (0<x2))=true then
 some (.inr false)
 else
 some (.inr (Decidable.decide ((↑(List.length (QG.Truth a0)):Int)=0)))
 else
 some (.inr false)
 else
 some (.inr false)
 else
 if QG.Kind a0=3 then
 if l03Pins0.fst=1 then
 (atI y1 1).bind fun x0 =>
 if 0<x0 then
 (atI y1 2).bind fun x1 =>
 if 0<x1 then
 (atI y1 3).bind fun x2 =>
 if x2=0 then
 some (.inr (Decidable.decide ((↑(List.length (QG.Truth a0)):Int)=0)))
 else
 some (.inr false)
 else
 some (.inr false)
 else
 some (.inr false)
 else
 some (.inr false)
 else
 some (.inr false)
def ZuN (a0:QG):Option Bool :=
 (Zut a0).bind fun y0 =>
 if y0.snd then
 (Vg (QG.Name a0)).bind fun y1 =>
 if y1 then
 if 8<(↑(List.length (QG.ZoW a0)):Int) then
 some false
 else
 (Yd (QG.ZoX a0) 0 100000).bind fun y2 =>
 if y2 then
 (Yd (QG.Zon a0) 0 100000).bind fun y3 =>
 if y3 then
 ZA (fun v=>Zts a0 y0 v.1) ((0:Int),())
 else
 some false
 else
 some false
 else
 some false
 else
 some false
def c93:Ctr:=D1 (Zin) (.bool) ZuN
def Zsw (l0:ZaF) (i0:Int) (x0:QG) (k0:Int):Option ((Int×Unit) ⊕ ((Int×Unit) ⊕ Bool)) :=
 if k0<i0 then
 (atI (ZaF.Cells l0) k0).bind fun x1 =>
 if QG.Name x1=QG.Name x0 then
 some (.inr (.inr false))
 else
 some (.inl (Wq (k0+1),()))
 else
 some (.inr (.inl (Wq (i0+1),())))
def Zsx (l0:ZaF) (i0:Int):Option ((Int×Unit) ⊕ Bool) :=
 if i0<(↑(List.length (ZaF.Cells l0)):Int) then
 (atI (ZaF.Cells l0) i0).bind fun x0 =>
 (ZuN x0).bind fun y0 =>
 if y0 then
 ZA (fun v=>Zsw l0 i0 x0 v.1) ((0:Int),())
 else
 some (.inr false)
 else
 some (.inr (Decidable.decide ((↑(List.length (ZaF.Cells l0)):Int)≤8)))
def Ztz (l0:ZaF):Option Bool :=
 ZA (fun v=>Zsx l0 v.1) ((0:Int),())
def c94:Ctr:=D1 (Zc3) (.bool) Ztz
def ZsT (a1:Zp) (v0:Int) (x0:Zz) (v1:Int):Option ((Int×Unit) ⊕ ((Int×Unit) ⊕ Bool)) :=
 if v1<(↑(List.length (Zz.Zbh x0)):Int) then
 (atI (Zz.Zbh x0) v1).bind fun x2 =>
 (Yd x2 0 (Wq ((↑(List.length (Zp.Zbh a1)):Int)-1))).bind fun y0 =>
 if y0 then
 some (.inl (Wq (v1+1),()))
 else
 some (.inr (.inr false))
 else
 some (.inr (.inl (Wq (v0+1),())))
def ZsU (a1:Zp) (v1:Int):Option ((Int×Unit) ⊕ ((Int×Unit) ⊕ Bool)) :=
 if v1<(↑(List.length (Zp.Vk a1)):Int) then
 (atI (Zp.Vk a1) v1).bind fun x0 =>
 (Yd (Zah.Dir x0) 1 2).bind fun y0 =>
 if y0 then
 (Yd (Zah.Net x0) 0 (Wq ((↑(List.length (Zp.Zbh a1)):Int)-1))).bind fun y1 =>
 if y1 then
 some (.inl (Wq (v1+1),()))
 else
 some (.inr (.inr false))
 else
 some (.inr (.inr false))
 else
 some (.inr (.inr true))
def ZsV (a0:ZaF) (a1:Zp) (v0:Int):Option ((Int×Unit) ⊕ Bool) :=
 if v0<(↑(List.length (Zp.Instances a1)):Int) then
 (atI (Zp.Instances a1) v0).bind fun x0 =>
 (Yd (Zz.Cell x0) 0 (Wq ((↑(List.length (ZaF.Cells a0)):Int)-1))).bind fun y0 =>
 if y0 then
 (atI (ZaF.Cells a0) (Zz.Cell x0)).bind fun x1 =>
 if (↑(List.length (Zz.Zbh x0)):Int)=(↑(List.length (QG.ZoY x1)):Int) then
 ZA (fun v=>ZsT a1 v0 x0 v.1) ((0:Int),())
 else
 some (.inr false)
 else
 some (.inr false)
 else
 ZA (fun v=>ZsU a1 v.1) ((0:Int),())
def ZtZ (a0:ZaF) (a1:Zp):Option Bool :=
 ZA (fun v=>ZsV a0 a1 v.1) ((0:Int),())
def c95:Ctr:=D2 (Zc3) (ZdN) (.bool) ZtZ
def ZsR (list0:List (List UInt8)) (i0:Int) (x0:List UInt8) (k0:Int):Option ((Int×Unit) ⊕ ((Int×Unit) ⊕ Bool)) :=
 if k0<i0 then
 (atI list0 k0).bind fun x1 =>
 if x1=x0 then
 some (.inr (.inr false))
 else
 some (.inl (Wq (k0+1),()))
 else
 some (.inr (.inl (Wq (i0+1),())))
def ZsS (list0:List (List UInt8)) (i0:Int):Option ((Int×Unit) ⊕ Bool) :=
 if i0<(↑list0.length:Int) then
 (atI list0 i0).bind fun x0 =>
 (Vg x0).bind fun y0 =>
 if y0 then
 ZA (fun v=>ZsR list0 i0 x0 v.1) ((0:Int),())
 else
 some (.inr false)
 else
 some (.inr true)
def Zso (list0:List (List UInt8)):Option Bool :=
 ZA (fun v=>ZsS list0 v.1) ((0:Int),())
def c96:Ctr:=D1 (.sl (.str)) (.bool) Zso
def ZsN (l1:List Int) (v6:Int):Option ((Int×Unit) ⊕ ((Int×(List Int)×Unit) ⊕ ((Int×(List Int)×Unit) ⊕ (((List (List UInt8))×Int×Unit) ⊕ (((List (List UInt8))×Int×Unit) ⊕ Bool))))) :=
 if v6<(↑l1.length:Int) then
 (atI l1 v6).bind fun x0 =>
 if x0=1 then
 some (.inl (Wq (v6+1),()))
 else
 some (.inr (.inr (.inr (.inr (.inr false)))))
 else
 some (.inr (.inr (.inr (.inr (.inr true)))))
def ZqT (a1:Zp) (v5:Int) (l1:List Int):Option ((Int×(List Int)×Unit) ⊕ ((Int×(List Int)×Unit) ⊕ (((List (List UInt8))×Int×Unit) ⊕ (((List (List UInt8))×Int×Unit) ⊕ Bool)))) :=
 if v5<(↑(List.length (Zp.Vk a1)):Int) then
 (atI (Zp.Vk a1) v5).bind fun x0 =>
 if Zah.Dir x0=1 then
 (atI l1 (Zah.Net x0)).bind fun x1 =>
 some (.inl (Wq (v5+1),List.set l1 (Int.toNat (Zah.Net x0)) (Wq (x1+1)),()))
 else
 some (.inl (Wq (v5+1),l1,()))
 else
 ZA (fun v=>ZsN l1 v.1) ((0:Int),())
def ZqU (a1:Zp) (v4:Int) (l0:List Int):Option ((Int×(List Int)×Unit) ⊕ (((List (List UInt8))×Int×Unit) ⊕ (((List (List UInt8))×Int×Unit) ⊕ Bool))) :=
 if v4<(↑(List.length (Zp.Instances a1)):Int) then
 (atI (Zp.Instances a1) v4).bind fun x0 =>
 (atI (Zz.Zbh x0) (Wq ((↑(List.length (Zz.Zbh x0)):Int)-1))).bind fun x1 =>
 (atI l0 x1).bind fun x2 =>
 some (.inl (Wq (v4+1),List.set l0 (Int.toNat x1) (Wq (x2+1)),()))
 else
 ZA (fun v=>ZqT a1 v.1 v.2.1) ((0:Int),l0,())
def ZsO (a1:Zp) (v0:List (List UInt8)) (v2:List (List UInt8)) (v3:Int):Option (((List (List UInt8))×Int×Unit) ⊕ (((List (List UInt8))×Int×Unit) ⊕ Bool)) :=
 if v3<(↑(List.length (Zp.Vk a1)):Int) then
 (atI (Zp.Vk a1) v3).bind fun x0 =>
 Zj ((List.length v2+List.length [Zah.Name x0])*(16:Nat)≤(140737488355328:Nat)) <|
 some (.inl (v2++[Zah.Name x0],Wq (v3+(1:Int)),()))
 else
 (Zso v0).bind fun y0 =>
 if y0 then
 (Zso v2).bind fun y1 =>
 if y1 then
 (Zso (Zp.Zbh a1)).bind fun y2 =>
 if y2 then
 Zj ((0:Int)≤(↑(List.length (Zp.Zbh a1)):Int)) <|
 Zj ((↑(List.length (Zp.Zbh a1)):Int)≤(↑(List.length (Zp.Zbh a1)):Int)) <|
 Zj ((↑(List.length (Zp.Zbh a1)):Int)≤(4611686018427387904:Int)) <|
 Zj ((↑(8:Nat):Int)*(↑(List.length (Zp.Zbh a1)):Int)≤(281474976710656:Int)) <|
 ZA (fun v=>ZqU a1 v.1 v.2.1) ((0:Int),List.replicate (Int.toNat (↑(List.length (Zp.Zbh a1)):Int)) (0:Int),())
 else
 some (.inr (.inr false))
 else
 some (.inr (.inr false))
 else
 some (.inr (.inr false))
def ZsP (a1:Zp) (v0:List (List UInt8)) (v1:Int):Option (((List (List UInt8))×Int×Unit) ⊕ Bool) :=
 if v1<(↑(List.length (Zp.Instances a1)):Int) then
 (atI (Zp.Instances a1) v1).bind fun x0 =>
 Zj ((List.length v0+List.length [Zz.Name x0])*(16:Nat)≤(140737488355328:Nat)) <|
 some (.inl (v0++[Zz.Name x0],Wq (v1+(1:Int)),()))
 else
 ZA (fun v=>ZsO a1 v0 v.1 v.2.1) (([]:List (List UInt8)),(0:Int),())
def ZtW (a0:ZaF) (a1:Zp):Option Bool :=
 (Ztz a0).bind fun y0 =>
 if y0 then
 if 14<(↑(List.length (Zp.Instances a1)):Int) then
 some false
 else
 if 30<(↑(List.length (Zp.Zbh a1)):Int) then
 some false
 else
 if 8<(↑(List.length (Zp.Vk a1)):Int) then
 some false
 else
 (ZtZ a0 a1).bind fun y1 =>
 if y1 then
 ZA (fun v=>ZsP a1 v.1 v.2.1) (([]:List (List UInt8)),(0:Int),())
 else
 some false
 else
 some false
def c97:Ctr:=D2 (Zc3) (ZdN) (.bool) ZtW
def Ztt (a0:QH) (v1:Int):Option ((Int×Unit) ⊕ ((Int×Unit) ⊕ Bool)) :=
 if v1<(↑(List.length (QH.ZnH a0)):Int) then
 (atI (QH.ZnH a0) v1).bind fun x0 =>
 (Yd x0 0 (Wq ((↑(List.length (QH.Parent a0)):Int)-1))).bind fun y0 =>
 if y0 then
 some (.inl (Wq (v1+1),()))
 else
 some (.inr (.inr false))
 else
 some (.inr (.inr true))
def Ztu (a0:QH) (v0:Int):Option ((Int×Unit) ⊕ Bool) :=
 if v0<(↑(List.length (QH.Parent a0)):Int) then
 (atI (QH.Cap a0) v0).bind fun x0 =>
 (Yd x0 0 500).bind fun y0 =>
 if y0 then
 (atI (QH.Res a0) v0).bind fun x1 =>
 (Yd x1 0 1000).bind fun y1 =>
 if y1 then
 if v0=0 then
 (atI (QH.Parent a0) v0).bind fun x2 =>
 if x2=(-1) then
 if x1=0 then
 if 0<v0 then
 (Yd x2 0 (Wq (v0-1))).bind fun y2 =>
 if y2 then
 some (.inl (Wq (v0+1),()))
 else
 some (.inr false)
 else
 some (.inl (Wq (v0+1),()))
 else
 some (.inr false)
 else
 some (.inr false)
 else
 if 0<v0 then
 (atI (QH.Parent a0) v0).bind fun x2 =>
 (Yd x2 0 (Wq (v0-1))).bind fun y2 =>
 if y2 then
 some (.inl (Wq (v0+1),()))
 else
 some (.inr false)
 else
 some (.inl (Wq (v0+1),()))
 else
 some (.inr false)
 else
 some (.inr false)
 else
 ZA (fun v=>Ztt a0 v.1) ((0:Int),())
def Zui (a0:QH) (a1:Int):Option Bool :=
 if (↑(List.length (QH.Parent a0)):Int)<1 then
 some false
 else
 if 8<(↑(List.length (QH.Parent a0)):Int) then
 some false
 else
 if (↑(List.length (QH.Res a0)):Int)=(↑(List.length (QH.Parent a0)):Int) then
 if (↑(List.length (QH.Cap a0)):Int)=(↑(List.length (QH.Parent a0)):Int) then
 if (↑(List.length (QH.ZnH a0)):Int)=a1 then
 ZA (fun v=>Ztu a0 v.1) ((0:Int),())
 else
 some false
 else
 some false
 else
 some false
def c98:Ctr:=D2 (ZjY) Iq (.bool) Zui
def Ztg (b0:Zv) (net0:Int):Option ((Int×Unit) ⊕ Bool) :=
 if net0<(↑(List.length (Zv.ZlA b0)):Int) then
 (atI (Zv.ZlA b0) net0).bind fun x0 =>
 (QT (Zv.Design b0) net0).bind fun y0 =>
 (Zui x0 (↑y0.length:Int)).bind fun y1 =>
 if y1 then
 some (.inl (Wq (net0+1),()))
 else
 some (.inr false)
 else
 some (.inr true)
def Zsb (b0:Zv):Option Bool :=
 (ZtW (Zv.Library b0) (Zv.Design b0)).bind fun y0 =>
 if y0 then
 if (↑(List.length (Zv.ZlA b0)):Int)=(↑(List.length (Zp.Zbh (Zv.Design b0))):Int) then
 ZA (fun v=>Ztg b0 v.1) ((0:Int),())
 else
 some false
 else
 some false
def c99:Ctr:=D1 (ZjX) (.bool) Zsb
def ZEj (b0:Zv) (net0:Int):Option Int :=
 (Zsb b0).bind fun y0 =>
 if y0 then
 (Yd net0 0 (Wq ((↑(List.length (Zv.ZlA b0)):Int)-1))).bind fun y1 =>
 if y1 then
 some 0
 else
 some 2
 else
 some 1
def ZAT:Ctr:=D2 (ZjX) Iq Iq ZEj
def ZE0 (l0:ZaF) (d0:Zp) (p0:Zk):Option Int :=
 if Zk.instance p0<0 then
 some 0
 else
 (atI (Zp.Instances d0) (Zk.instance p0)).bind fun x0 =>
 (atI (ZaF.Cells l0) (Zz.Cell x0)).bind fun x1 =>
 (atI (QG.ZoY x1) (Zk.pin p0)).bind fun x2 =>
 some (ZhU.Cap x2)
def ZAU:Ctr:=D3 (Zc3) (ZdN) (JJ) Iq ZE0
def ZEo (x0:QH) (v1:Int) (l1:List Int):Option ((Int×(List Int)×Unit) ⊕ ((Int×(List Int)×Unit) ⊕ List Int)) :=
 if 0<v1 then
 (atI (QH.Parent x0) v1).bind fun x1 =>
 (atI l1 x1).bind fun x2 =>
 (atI l1 v1).bind fun x3 =>
 some (.inl (Wq (v1-1),List.set l1 (Int.toNat x1) (Wq (x2+x3)),()))
 else
 some (.inr (.inr l1))
def ZEh (a0:Zv) (x0:QH) (l05Places0:List Zk) (l05Sinks0:List Int) (v0:Int) (l0:List Int):Option ((Int×(List Int)×Unit) ⊕ List Int) :=
 if v0<(↑l05Sinks0.length:Int) then
 (atI (QH.ZnH x0) v0).bind fun x1 =>
 (atI l0 x1).bind fun x2 =>
 (atI l05Sinks0 v0).bind fun x3 =>
 (atI l05Places0 x3).bind fun x4 =>
 (ZE0 (Zv.Library a0) (Zv.Design a0) x4).bind fun y0 =>
 some (.inl (Wq (v0+1),List.set l0 (Int.toNat x1) (Wq (x2+y0)),()))
 else
 ZA (fun v=>ZEo x0 v.1 v.2.1) (Wq ((↑l0.length:Int)-(1:Int)),l0,())
def ZEe (a0:Zv) (a1:Int):Option (List Int) :=
 (atI (Zv.ZlA a0) a1).bind fun x0 =>
 (XT (QH.Cap x0)).bind fun y0 =>
 (YJ (Zv.Design a0)).bind fun y1 =>
 (QT (Zv.Design a0) a1).bind fun y2 =>
 ZA (fun v=>ZEh a0 x0 y1 y2 v.1 v.2.1) ((0:Int),y0,())
def ZAV:Ctr:=⟨[.dat (ZjX),.dat Iq],[.own (.ol 2 (.flat Iq))],fun a K=>splitK a fun a0 a=>splitK a fun a1 a=>XU (ZEe a0 a1) fun r=>K (r,()) ()⟩
def ZEc (x0:QH) (l07Loads0:List Int) (out0:List Int) (i0:Int):Option (((List Int)×Int×Unit) ⊕ List Int) :=
 if i0<(↑l07Loads0.length:Int) then
 (atI (QH.Parent x0) i0).bind fun x1 =>
 (atI out0 x1).bind fun x2 =>
 (atI (QH.Res x0) i0).bind fun x3 =>
 (atI l07Loads0 i0).bind fun x4 =>
 Zj ((List.length out0+List.length [Wq (x2+Wq (x3*x4))])*(8:Nat)≤(140737488355328:Nat)) <|
 some (.inl (out0++[Wq (x2+Wq (x3*x4))],Wq (i0+(1:Int)),()))
 else
 some (.inr out0)
def ZEf (b0:Zv) (net0:Int):Option (List Int) :=
 (atI (Zv.ZlA b0) net0).bind fun x0 =>
 (ZEe b0 net0).bind fun y0 =>
 ZA (fun v=>ZEc x0 y0 v.1 v.2.1) ([(0:Int)],(1:Int),())
def ZAW:Ctr:=⟨[.dat (ZjX),.dat Iq],[.own (.ol 2 (.flat Iq))],fun a K=>splitK a fun b0 a=>splitK a fun net0 a=>XU (ZEf b0 net0) fun r=>K (r,()) ()⟩
def ZD7 (b0:Zv) (net0:Int):Option ((List Int)×Int) :=
 (ZEj b0 net0).bind fun y0 =>
 if y0=0 then
 (ZEf b0 net0).bind fun y1 =>
 some (y1,0)
 else
 some (([]:List Int),y0)
def ZAX:Ctr:=⟨[.dat (ZjX),.dat Iq],[.own (.ol 2 (.flat Iq)),.dat Iq],fun a K=>splitK a fun b0 a=>splitK a fun net0 a=>XU (ZD7 b0 net0) fun r=>K (r.1,r.2,()) ()⟩
def ZCG (code0:List Int) (i0:Int) (c0:Int):Option ((Int×Int×Unit) ⊕ ZhV) :=
 if i0<(↑code0.length:Int) then
 (atI code0 i0).bind fun x0 =>
 some (.inl (Wq (i0+1),IntKind.wrap IntKind.u64 (IntKind.wrap IntKind.u64 (IntKind.wrap IntKind.u64 (c0*1099511628211)+IntKind.wrap IntKind.u64 x0)+3),()))
 else
 some (.inr (code0,0,c0,()))
def ZCN (code0:List Int) (seed0:Int):Option ZhV :=
 ZA (fun v=>ZCG code0 v.1 v.2.1) ((0:Int),IntKind.wrap IntKind.u64 (IntKind.wrap IntKind.u64 (seed0*(7919:Int))+IntKind.wrap IntKind.u64 (↑code0.length:Int)),())
def c105:Ctr:=⟨[.dat (.sl (.int .u8)),.dat (.int .u64)],[.io (.flat (Zn5))],fun a K=>splitK a fun code0 a=>splitK a fun seed0 a=>XU (ZCN code0 seed0) fun r=>K (r,()) ()⟩
def ZCF (d0:ZhV) (n0:Int):Option (Int×ZhV) :=
 if ZhV.i d0<(↑(List.length (ZhV.b d0)):Int) then
 (atI (ZhV.b d0) (ZhV.i d0)).bind fun x0 =>
 Zj (n0≠(0:Int)) <|
 some (Int.tmod (Wq (Wq (Go.bits Go.BinOp.and IntKind.u64 (Int.fdiv (IntKind.wrap IntKind.u64 (IntKind.wrap IntKind.u64 (ZhV.h d0*6364136223846793005)+1442695040888963407)) (2 ^ Min.min (Int.toNat 33) (IntKind.bits IntKind.u64))) 16777215)+Wq x0)) n0,(ZhV.b d0,Wq (ZhV.i d0+1),IntKind.wrap IntKind.u64 (IntKind.wrap IntKind.u64 (ZhV.h d0*6364136223846793005)+1442695040888963407),()))
 else
 Zj (n0≠(0:Int)) <|
 some (Int.tmod (Wq (Go.bits Go.BinOp.and IntKind.u64 (Int.fdiv (IntKind.wrap IntKind.u64 (IntKind.wrap IntKind.u64 (ZhV.h d0*6364136223846793005)+1442695040888963407)) (2 ^ Min.min (Int.toNat 33) (IntKind.bits IntKind.u64))) 16777215)) n0,(ZhV.b d0,ZhV.i d0,IntKind.wrap IntKind.u64 (IntKind.wrap IntKind.u64 (ZhV.h d0*6364136223846793005)+1442695040888963407),()))
def ZAY:Ctr:=⟨[.io (.flat (Zn5)),.dat Iq],[.dat Iq],fun a K=>splitK a fun d0 a=>splitK a fun n0 a=>XU (ZCF d0 n0) fun r=>K (r.1,()) (r.2,())⟩
def ZtR (e0:Zbk):Option Zbk :=
 if Zbk.Kind e0=1 then
 some (Zbk.Kind e0,Zbk.Place e0,Zbk.Cell e0,(0:Int),(0:Int),([]:List UInt8),(([]:List Int),([]:List Int),([]:List Int),([]:List Int),()),())
 else
 if Zbk.Kind e0=2 then
 some (Zbk.Kind e0,Zbk.Place e0,Zbk.Cell e0,(0:Int),(0:Int),Zbk.Name e0,(([]:List Int),([]:List Int),([]:List Int),([]:List Int),()),())
 else
 if Zbk.Kind e0=4 then
 some (Zbk.Kind e0,Zbk.Place e0,(0:Int),Zbk.Net e0,Zbk.Node e0,([]:List UInt8),(([]:List Int),([]:List Int),([]:List Int),([]:List Int),()),())
 else
 if Zbk.Kind e0=5 then
 some (Zbk.Kind e0,(0:Int),(0:Int),Zbk.Net e0,(0:Int),([]:List UInt8),e0.snd.snd.snd.snd.snd.snd)
 else
 some (Zbk.Kind e0,(0:Int),(0:Int),(0:Int),(0:Int),([]:List UInt8),(([]:List Int),([]:List Int),([]:List Int),([]:List Int),()),())
def c107:Ctr:=D1 (Zn2) (Zn2) ZtR
def Zqr (s1_0:List Int) (s2_0:List Int) (v0:Int):Option ((Int×Unit) ⊕ Bool) :=
 if v0<(↑s1_0.length:Int) then
 (atI s1_0 v0).bind fun x0 =>
 (atI s2_0 v0).bind fun x1 =>
 if x0=x1 then
 some (.inl (Wq (v0+1),()))
 else
 some (.inr false)
 else
 some (.inr true)
def ZpL (s1_0:List Int) (s2_0:List Int):Option Bool :=
 if (↑s1_0.length:Int)=(↑s2_0.length:Int) then
 ZA (fun v=>Zqr s1_0 s2_0 v.1) ((0:Int),())
 else
 some false
def ZAv:Ctr:=D2 (.sl Iq) (.sl Iq) (.bool) ZpL
def ZtU (a0:QH) (b0:QH):Option Bool :=
 (ZpL (QH.Parent a0) (QH.Parent b0)).bind fun y0 =>
 if y0 then
 (ZpL (QH.Res a0) (QH.Res b0)).bind fun y1 =>
 if y1 then
 (ZpL (QH.Cap a0) (QH.Cap b0)).bind fun y2 =>
 if y2 then
 (ZpL (QH.ZnH a0) (QH.ZnH b0)).bind fun y3 =>
 some y3
 else
 some false
 else
 some false
 else
 some false
def c109:Ctr:=D2 (ZjY) (ZjY) (.bool) ZtU
def Ztb (a0:Zbk) (b0:Zbk):Option Bool :=
 if Zbk.Kind a0=Zbk.Kind b0 then
 if Zbk.Place a0=Zbk.Place b0 then
 if Zbk.Cell a0=Zbk.Cell b0 then
 if Zbk.Net a0=Zbk.Net b0 then
 if Zbk.Node a0=Zbk.Node b0 then
 if Zbk.Name a0=Zbk.Name b0 then
 (ZtU (Zbk.ZoZ a0) (Zbk.ZoZ b0)).bind fun y0 =>
 some y0
 else
 some false
 else
 some false
 else
 some false
 else
 some false
 else
 some false
 else
 some false
def ZAZ:Ctr:=D2 (Zn2) (Zn2) (.bool) Ztb
def ZrV (list0:List Zbl):Option Int :=
 some (↑list0.length:Int)
def ZA0:Ctr:=D1 (.sl (ZjZ)) Iq ZrV
def ZrH (a0:Zbk) (a1:Zv):Option Bool :=
 (YA (Zbk.Kind a0) 1 5).bind fun y0 =>
 if y0 then
 (ZtR a0).bind fun y1 =>
 (Ztb a0 y1).bind fun y2 =>
 if y2 then
 (Zpt (Zv.Design a1)).bind fun y3 =>
 (ZrV y3).bind fun y4 =>
 (YA (Zbk.Place a0) 0 (Wq (y4-1))).bind fun y5 =>
 if Zbk.Kind a0=1 then
 if Zbk.Kind a0=1 then
 if y5 then
 (Zp7 (ZaF.Cells (Zv.Library a1))).bind fun y6 =>
 (YA (Zbk.Cell a0) 0 (Wq (y6-1))).bind fun y7 =>
 some y7
 else
 some false
 else
 if Zbk.Kind a0=4 then
 if y5 then
 (ZpJ (Zv.Design a1) (Zbk.Net a0)).bind fun y8 =>
 if y8 then
 (atI (Zv.ZlA a1) (Zbk.Net a0)).bind fun x0 =>
 (ZpM (QH.Parent x0)).bind fun y9 =>
 (YA (Zbk.Node a0) 0 (Wq (y9-1))).bind fun y7 =>
 some y7
 else
 some false
 else
 some false
 else
 if Zbk.Kind a0=5 then
 (ZpJ (Zv.Design a1) (Zbk.Net a0)).bind fun y8 =>
 some y8
 else
 some true
 else
 if Zbk.Kind a0=2 then
 if y5 then
 (Zp7 (ZaF.Cells (Zv.Library a1))).bind fun y6 =>
 (YA (Zbk.Cell a0) 0 (Wq (y6-1))).bind fun y7 =>
 some y7
 else
 some false
 else
 if Zbk.Kind a0=4 then
 if y5 then
 (ZpJ (Zv.Design a1) (Zbk.Net a0)).bind fun y8 =>
 if y8 then
 (atI (Zv.ZlA a1) (Zbk.Net a0)).bind fun x0 =>
 (ZpM (QH.Parent x0)).bind fun y9 =>
 (YA (Zbk.Node a0) 0 (Wq (y9-1))).bind fun y7 =>
 some y7
 else
 some false
 else
 some false
 else
 if Zbk.Kind a0=5 then
 (ZpJ (Zv.Design a1) (Zbk.Net a0)).bind fun y8 =>
 some y8
 else
 some true
 else
 some false
 else
 some false
def ZA1:Ctr:=D2 (Zn2) (ZjX) (.bool) ZrH
def ZtI (p0:ZhU) (q0:ZhU):Option Bool :=
 some (ZhU.Clock p0 == ZhU.Clock q0)
def ZA2:Ctr:=D2 (Zl9) (Zl9) (.bool) ZtI
def Zpb (s1_0:List ZhU) (s2_0:List ZhU) (v0:Int):Option ((Int×Unit) ⊕ Bool) :=
 if v0<(↑s1_0.length:Int) then
 (atI s1_0 v0).bind fun x0 =>
 (atI s2_0 v0).bind fun x1 =>
 (ZtI x0 x1).bind fun y0 =>
 if y0 then
 some (.inl (Wq (v0+1),()))
 else
 some (.inr false)
 else
 some (.inr true)
def Zpm (s1_0:List ZhU) (s2_0:List ZhU) (eq0:Unit):Option Bool :=
 if (↑s1_0.length:Int)=(↑s2_0.length:Int) then
 ZA (fun v=>Zpb s1_0 s2_0 v.1) ((0:Int),())
 else
 some false
def ZA3:Ctr:=D3 (.sl (Zl9)) (.sl (Zl9)) (.fn 244 (.unit)) (.bool) Zpm
def ZtT (a0:QG) (b0:QG):Option Bool :=
 if QG.Kind a0=QG.Kind b0 then
 (Zpm (QG.ZoY a0) (QG.ZoY b0) ()).bind fun y0 =>
 some y0
 else
 some false
def ZA4:Ctr:=D2 (Zin) (Zin) (.bool) ZtT
def ZqF (c0:QG):Option Bool :=
 if QG.Kind c0=1 then
 some (Decidable.decide ((↑(List.length (QG.ZoY c0)):Int)=2))
 else
 some false
def c116:Ctr:=D1 (Zin) (.bool) ZqF
def Zr8 (x0:Zz) (a0:List UInt8):Option Bool :=
 some (Decidable.decide (Zz.Name x0=a0))
def c117:Ctr:=D2 (ZdO) (.ptr (.str)) (.bool) Zr8
def Zph (s0:List Zz) (f0:List UInt8×Unit) (v0:Int):Option ((Int×Unit) ⊕ Int) :=
 if v0<(↑s0.length:Int) then
 (atI s0 v0).bind fun x0 =>
 (Zr8 x0 f0.fst).bind fun y0 =>
 if y0 then
 some (.inr v0)
 else
 some (.inl (Wq (v0+1),()))
 else
 some (.inr (-1))
def Zpc (s0:List Zz) (f0:List UInt8×Unit):Option Int :=
 ZA (fun v=>Zph s0 f0 v.1) ((0:Int),())
def Zy7:Ctr:=D2 (.sl (ZdO)) (.fn 248 (.pair (.ptr (.str)) (.unit))) Iq Zpc
def Zr0 (d0:Zp) (name0:List UInt8):Option Int :=
 (Zpc (Zp.Instances d0) (name0,())).bind fun y0 =>
 some y0
def c119:Ctr:=D2 (ZdN) (.str) Iq Zr0
def Zrg (d0:Zp) (name0:List UInt8):Option Int :=
 (ZP (Zp.Zbh d0) name0).bind fun y0 =>
 some y0
def ZAK:Ctr:=D2 (ZdN) (.str) Iq Zrg
def ZqV (a0:Zv):Option Bool :=
 if (↑(List.length (Zp.Instances (Zv.Design a0))):Int)=0 then
 some false
 else
 (atI (Zp.Instances (Zv.Design a0)) (Wq ((↑(List.length (Zp.Instances (Zv.Design a0))):Int)-1))).bind fun x0 =>
 (ZpQ (Zp.Zbh (Zv.Design a0))).bind fun y0 =>
 (atI (ZaF.Cells (Zv.Library a0)) (Zz.Cell x0)).bind fun x1 =>
 (ZqF x1).bind fun y1 =>
 if y1 then
 (atI (Zz.Zbh x0) 1).bind fun x2 =>
 if x2=Wq (y0-1) then
 (atI (Zz.Zbh x0) 0).bind fun x3 =>
 if x3=Wq (y0-1) then
 some false
 else
 (atI (Zp.Zbh (Zv.Design a0)) (Wq (y0-1))).bind fun x4 =>
 if x4=Zz.Name x0 then
 (atI (Zv.ZlA a0) (Wq (y0-1))).bind fun x5 =>
 if (↑(List.length (QH.ZnH x5)):Int)=1 then
 if (↑(List.length (QH.Parent x5)):Int)=1 then
 (atI (QH.Cap x5) 0).bind fun x6 =>
 some (Decidable.decide (x6=0))
 else
 some false
 else
 some false
 else
 some false
 else
 some false
 else
 some false
def ZAL:Ctr:=D1 (ZjX) (.bool) ZqV
def Zrh (a0:Zbk) (a1:Zv):Option Bool :=
 (Zpt (Zv.Design a1)).bind fun y0 =>
 if Zbk.Kind a0=1 then
 (atI y0 (Zbk.Place a0)).bind fun x0 =>
 if 0≤Zbl.instance x0 then
 if (Zbl.drives x0)=true then
 (atI (Zp.Instances (Zv.Design a1)) (Zbl.instance x0)).bind fun x1 =>
 (atI (ZaF.Cells (Zv.Library a1)) (Zz.Cell x1)).bind fun x2 =>
 (atI (ZaF.Cells (Zv.Library a1)) (Zbk.Cell a0)).bind fun x3 =>
 (ZtT x2 x3).bind fun y1 =>
 some y1
 else
 some false
 else
 some false
 else
 if Zbk.Kind a0=2 then
 (atI y0 (Zbk.Place a0)).bind fun x0 =>
 if (Zbl.drives x0)=true then
 some false
 else
 (atI (ZaF.Cells (Zv.Library a1)) (Zbk.Cell a0)).bind fun x1 =>
 (ZqF x1).bind fun y2 =>
 if y2 then
 (VD (Zbk.Name a0)).bind fun y3 =>
 if y3 then
 (Zr0 (Zv.Design a1) (Zbk.Name a0)).bind fun y4 =>
 if y4<0 then
 (Zrg (Zv.Design a1) (Zbk.Name a0)).bind fun y5 =>
 some (Decidable.decide (y5<0))
 else
 some false
 else
 some false
 else
 some false
 else
 if Zbk.Kind a0=3 then
 (ZqV a1).bind fun y6 =>
 some y6
 else
 if Zbk.Kind a0=4 then
 (atI y0 (Zbk.Place a0)).bind fun x0 =>
 if (Zbl.drives x0)=true then
 some false
 else
 some (!Decidable.decide (Zbl.net x0=Zbk.Net a0))
 else
 (atI (Zv.ZlA a1) (Zbk.Net a0)).bind fun x0 =>
 (ZpM (QH.ZnH x0)).bind fun y7 =>
 (Zub (Zbk.ZoZ a0) y7).bind fun y8 =>
 some y8
def ZA5:Ctr:=D2 (Zn2) (ZjX) (.bool) Zrh
def ZsA (e0:Zbk) (b0:Zv):Option Int :=
 (ZrH e0 b0).bind fun y0 =>
 if y0 then
 (Zrh e0 b0).bind fun y1 =>
 if y1 then
 if Zbk.Kind e0=2 then
 if (↑(List.length (Zp.Instances (Zv.Design b0))):Int)=14 then
 some 3
 else
 if (↑(List.length (Zp.Zbh (Zv.Design b0))):Int)=30 then
 some 3
 else
 some 0
 else
 some 0
 else
 some 5
 else
 some 2
def ZA6:Ctr:=D2 (Zn2) (ZjX) Iq ZsA
def ZqE (b0:Zv) (e0:Zbk):Option Int :=
 (ZtD b0).bind fun y0 =>
 if y0 then
 (ZsA e0 b0).bind fun y1 =>
 some y1
 else
 some 1
def c124:Ctr:=D2 (ZjX) (Zn2) Iq ZqE
def Zqq (s0:List ZhU):Option (List ZhU) :=
 Zj ((List.length (([]:List (List UInt8×Int×Int×Bool×Unit)))+List.length s0)*(40:Nat)≤(140737488355328:Nat)) <|
 some (([]:List (List UInt8×Int×Int×Bool×Unit))++s0)
def ZA7:Ctr:=⟨[.dat (.sl (Zl9))],[.own (.ol 255 (.flat (Zl9)))],fun a K=>splitK a fun s0 a=>XU (Zqq s0) fun r=>K (r,()) ()⟩
def Zqp (s0:List ZfN):Option (List ZfN) :=
 Zj ((List.length (([]:List (Int×Int×Int×Int×List Jy×List Jy×Unit)))+List.length s0)*(80:Nat)≤(140737488355328:Nat)) <|
 some (([]:List (Int×Int×Int×Int×List Jy×List Jy×Unit))++s0)
def ZA8:Ctr:=⟨[.dat (.sl (Zmv))],[.own (.ol 219 (.flat (Zmv)))],fun a K=>splitK a fun s0 a=>XU (Zqp s0) fun r=>K (r,()) ()⟩
def ZqZ (list0:List Jy) (out0:List Jy) (v0:Int):Option (((List Jy)×Int×Unit) ⊕ List Jy) :=
 if v0<(↑list0.length:Int) then
 (atI list0 v0).bind fun x0 =>
 (Zpk (Jy.ZoG x0)).bind fun y0 =>
 (Zpk (Jy.Loads x0)).bind fun y1 =>
 (Zpk (Jy.Values x0)).bind fun y2 =>
 Zj ((List.length out0+List.length [(y0,y1,y2,())])*(72:Nat)≤(140737488355328:Nat)) <|
 some (.inl (out0++[(y0,y1,y2,())],Wq (v0+(1:Int)),()))
 else
 some (.inr out0)
def ZrO (list0:List Jy):Option (List Jy) :=
 ZA (fun v=>ZqZ list0 v.1 v.2.1) (([]:List Jy),(0:Int),())
def c127:Ctr:=⟨[.dat (.sl (ZdQ))],[.own (.ol 322 (ZeG))],fun a K=>splitK a fun list0 a=>XU (ZrO list0) fun r=>K (r,()) ()⟩
def Zqe (v0:Int) (c0:List QG) (x0:QG) (Pin0:List ZhU) (int64_0:List Int) (Arc0:List ZfN) (v1:Int) (l1:List ZfN×Int):Option ((Int×(List ZfN×Int)×Unit) ⊕ ((Int×(List QG)×Unit) ⊕ ZaF)) :=
 if v1<(↑Arc0.length:Int) then
 (atI l1.fst v1).bind fun x1 =>
 Zj (l1.snd≤v1) <|
 (ZrO (ZfN.Delay x1)).bind fun y0 =>
 (ZrO (ZfN.Znd x1)).bind fun y1 =>
 Zj (v1=l1.snd) <|
 (atI l1.fst l1.snd).bind fun x2 =>
 some (.inl (Wq (v1+1),(List.set l1.fst (Int.toNat l1.snd) (ZfN.Kind x2,ZfN.From x2,ZfN.To x2,ZfN.ZoE x2,y0,y1,()),l1.snd+1),()))
 else
 Zj (l1.snd=(↑(List.length l1.fst):Int)) <|
 Zj ((List.length c0+List.length [(QG.Name x0,QG.Kind x0,Pin0,l1.fst,int64_0,x0.snd.snd.snd.snd.snd)])*(112:Nat)≤(140737488355328:Nat)) <|
 some (.inr (.inl (Wq (v0+(1:Int)),c0++[(QG.Name x0,QG.Kind x0,Pin0,l1.fst,int64_0,x0.snd.snd.snd.snd.snd)],())))
def ZpU (l0:ZaF) (v0:Int) (c0:List QG):Option ((Int×(List QG)×Unit) ⊕ ZaF) :=
 if v0<(↑(List.length (ZaF.Cells l0)):Int) then
 (atI (ZaF.Cells l0) v0).bind fun x0 =>
 (Zqq (QG.ZoY x0)).bind fun y0 =>
 (Zpk (QG.Truth x0)).bind fun y1 =>
 (Zqp (QG.ZoW x0)).bind fun y2 =>
 ZA (fun v=>Zqe v0 c0 x0 y0 y1 y2 v.1 v.2.1) ((0:Int),(y2,(0:Int)),())
 else
 some (.inr (c0,()))
def ZqN (l0:ZaF):Option ZaF :=
 ZA (fun v=>ZpU l0 v.1 v.2.1) ((0:Int),([]:List QG),())
def ZA9:Ctr:=⟨[.dat (Zc3)],[.own (Zhl)],fun a K=>splitK a fun l0 a=>XU (ZqN l0) fun r=>K (r,()) ()⟩
def ZpP (s0:List Zz):Option (List Zz) :=
 Zj ((List.length (([]:List (List UInt8×Int×List Int×Unit)))+List.length s0)*(48:Nat)≤(140737488355328:Nat)) <|
 some (([]:List (List UInt8×Int×List Int×Unit))++s0)
def ZBa:Ctr:=⟨[.dat (.sl (ZdO))],[.own (.ol 193 (.flat (ZdO)))],fun a K=>splitK a fun s0 a=>XU (ZpP s0) fun r=>K (r,()) ()⟩
def ZqR (s0:List (List UInt8)):Option (List (List UInt8)) :=
 Zj ((List.length (([]:List (List UInt8)))+List.length s0)*(16:Nat)≤(140737488355328:Nat)) <|
 some (([]:List (List UInt8))++s0)
def c130:Ctr:=⟨[.dat (.sl (.str))],[.own (.ol 9 (.flat (.str)))],fun a K=>splitK a fun s0 a=>XU (ZqR s0) fun r=>K (r,()) ()⟩
def Zqg (s0:List Zah):Option (List Zah) :=
 Zj ((List.length (([]:List (List UInt8×Int×Int×Unit)))+List.length s0)*(32:Nat)≤(140737488355328:Nat)) <|
 some (([]:List (List UInt8×Int×Int×Unit))++s0)
def c131:Ctr:=⟨[.dat (.sl (ZkZ))],[.own (.ol 237 (.flat (ZkZ)))],fun a K=>splitK a fun s0 a=>XU (Zqg s0) fun r=>K (r,()) ()⟩
def Zqd (Instance0:List Zz) (string0:List (List UInt8)) (Port0:List Zah) (v0:Int) (l0:List Zz×Int):Option ((Int×(List Zz×Int)×Unit) ⊕ Zp) :=
 if v0<(↑Instance0.length:Int) then
 (atI l0.fst v0).bind fun x0 =>
 Zj (l0.snd≤v0) <|
 (Zpk (Zz.Zbh x0)).bind fun y0 =>
 Zj (v0=l0.snd) <|
 (atI l0.fst l0.snd).bind fun x1 =>
 some (.inl (Wq (v0+1),(List.set l0.fst (Int.toNat l0.snd) (Zz.Name x1,Zz.Cell x1,y0,()),l0.snd+1),()))
 else
 Zj (l0.snd=(↑(List.length l0.fst):Int)) <|
 some (.inr (l0.fst,string0,Port0,()))
def ZqL (d0:Zp):Option Zp :=
 (ZpP (Zp.Instances d0)).bind fun y0 =>
 (ZqR (Zp.Zbh d0)).bind fun y1 =>
 (Zqg (Zp.Vk d0)).bind fun y2 =>
 ZA (fun v=>Zqd y0 y1 y2 v.1 v.2.1) ((0:Int),(y0,(0:Int)),())
def ZBb:Ctr:=⟨[.dat (ZdN)],[.own (ZiU)],fun a K=>splitK a fun d0 a=>XU (ZqL d0) fun r=>K (r,()) ()⟩
def Zrt (w0:QH):Option QH :=
 (Zpk (QH.Parent w0)).bind fun y0 =>
 (Zpk (QH.Res w0)).bind fun y1 =>
 (Zpk (QH.Cap w0)).bind fun y2 =>
 (Zpk (QH.ZnH w0)).bind fun y3 =>
 some (y0,y1,y2,y3,())
def ZBc:Ctr:=⟨[.dat (ZjY)],[.own (ZgI)],fun a K=>splitK a fun w0 a=>XU (Zrt w0) fun r=>K (r,()) ()⟩
def ZqW (b0:Zv) (cloneLibrary0:ZaF) (clone0:Zp) (v0:Int) (c0:List QH):Option ((Int×(List QH)×Unit) ⊕ Zv) :=
 if v0<(↑(List.length (Zv.ZlA b0)):Int) then
 (atI (Zv.ZlA b0) v0).bind fun x0 =>
 (Zrt x0).bind fun y0 =>
 Zj ((List.length c0+List.length [y0])*(96:Nat)≤(140737488355328:Nat)) <|
 some (.inl (Wq (v0+(1:Int)),c0++[y0],()))
 else
 some (.inr (cloneLibrary0,clone0,c0,()))
def ZrM (b0:Zv):Option Zv :=
 (ZqN (Zv.Library b0)).bind fun y0 =>
 (ZqL (Zv.Design b0)).bind fun y1 =>
 ZA (fun v=>ZqW b0 y0 y1 v.1 v.2.1) ((0:Int),([]:List QH),())
def ZBd:Ctr:=⟨[.dat (ZjX)],[.own (Zhk)],fun a K=>splitK a fun b0 a=>XU (ZrM b0) fun r=>K (r,()) ()⟩
def Zro (b0:Zv) (places0:List Zbl) (v0:Int) (m0:List ((Int×Int×Unit)×Int)) (l0:List Int):Option ((Int×(List ((Int×Int×Unit)×Int))×(List Int)×Unit) ⊕ List (Ze5×Int)) :=
 if v0<(↑places0.length:Int) then
 (atI places0 v0).bind fun x0 =>
 if (Zbl.drives x0)=true then
 some (.inl (Wq (v0+1),m0,l0,()))
 else
 (atI (Zv.ZlA b0) (Zbl.net x0)).bind fun x1 =>
 (atI l0 (Zbl.net x0)).bind fun x2 =>
 (atI (QH.ZnH x1) x2).bind fun x3 =>
 some (.inl (Wq (v0+1),ZkM Zys.ty Zys.ety m0 (Zbl.instance x0,Zbl.pin x0,()) x3,List.set l0 (Int.toNat (Zbl.net x0)) (Wq (x2+1)),()))
 else
 some (.inr m0)
def Zqc (b0:Zv):Option (List (Ze5×Int)) :=
 Zj ((0:Int)≤(↑(List.length (Zv.ZlA b0)):Int)) <|
 Zj ((↑(List.length (Zv.ZlA b0)):Int)≤(↑(List.length (Zv.ZlA b0)):Int)) <|
 Zj ((↑(List.length (Zv.ZlA b0)):Int)≤(4611686018427387904:Int)) <|
 Zj ((↑(8:Nat):Int)*(↑(List.length (Zv.ZlA b0)):Int)≤(281474976710656:Int)) <|
 (Zpt (Zv.Design b0)).bind fun y0 =>
 ZA (fun v=>Zro b0 y0 v.1 v.2.1 v.2.2.1) ((0:Int),([]:List ((Int×Int×Unit)×Int)),List.replicate (Int.toNat (↑(List.length (Zv.ZlA b0)):Int)) (0:Int),())
def ZBe:Ctr:=⟨[.dat (ZjX)],[.own (.mp (Zmh) Iq)],fun a K=>splitK a fun b0 a=>XU (Zqc b0) fun r=>K (r,()) ()⟩
def Zrb (list0:List Zz):Option Int :=
 some (↑list0.length:Int)
def ZBf:Ctr:=D1 (.sl (ZdO)) Iq Zrb
def ZqK (b0:Zv) (key0:Ze5) (net0:Int):Option Zv :=
 if Ze5.instance key0<0 then
 (atI (Zp.Vk (Zv.Design b0)) (Ze5.pin key0)).bind fun x0 =>
 some (Zv.Library b0,(Zp.Instances (Zv.Design b0),Zp.Zbh (Zv.Design b0),List.set (Zp.Vk (Zv.Design b0)) (Int.toNat (Ze5.pin key0)) (Zah.Name x0,Zah.Dir x0,net0,()),()),b0.snd.snd)
 else
 (atI (Zp.Instances (Zv.Design b0)) (Ze5.instance key0)).bind fun x0 =>
 (atI x0.snd.snd.fst (Ze5.pin key0)).bind fun x1 =>
 some (Zv.Library b0,(List.set (Zp.Instances (Zv.Design b0)) (Int.toNat (Ze5.instance key0)) (x0.fst,x0.snd.fst,List.set x0.snd.snd.fst (Int.toNat (Ze5.pin key0)) net0,()),(Zv.Design b0).snd),b0.snd.snd)
def ZBg:Ctr:=⟨[.io (Zhk),.dat (Zmh),.dat Iq],[],fun a K=>splitK a fun b0 a=>splitK a fun key0 a=>splitK a fun net0 a=>XU (ZqK b0 key0 net0) fun r=>K () (r,())⟩
def Zrn (b0:Zv) (nodes0:List (Ze5×Int)) (places0:List Zbl) (v1:Int) (l1:List (List Int×List Int×List Int×List Int×Unit)):Option ((Int×(List (List Int×List Int×List Int×List Int×Unit))×Unit) ⊕ ((Int×(List (List Int×List Int×List Int×List Int×Unit))×Unit) ⊕ Zv)) :=
 if v1<(↑places0.length:Int) then
 (atI places0 v1).bind fun x0 =>
 if (Zbl.drives x0)=true then
 some (.inl (Wq (v1+1),l1,()))
 else
 (atI l1 (Zbl.net x0)).bind fun x1 =>
 Zj ((List.length x1.snd.snd.snd.fst+List.length [Option.getD (Zjr Zmh (Ty.int IntKind.i64) nodes0 (Zbl.instance x0,Zbl.pin x0,())) (0:Int)])*(8:Nat)≤(140737488355328:Nat)) <|
 some (.inl (Wq (v1+(1:Int)),List.set l1 (Int.toNat (Zbl.net x0)) (x1.fst,x1.snd.fst,x1.snd.snd.fst,x1.snd.snd.snd.fst++[Option.getD (Zjr Zmh (Ty.int IntKind.i64) nodes0 (Zbl.instance x0,Zbl.pin x0,())) (0:Int)],()),()))
 else
 some (.inr (.inr (Zv.Library b0,Zv.Design b0,l1,())))
def Zqx (b0:Zv) (nodes0:List (Ze5×Int)) (v0:Int) (l0:List (List Int×List Int×List Int×List Int×Unit)):Option ((Int×(List (List Int×List Int×List Int×List Int×Unit))×Unit) ⊕ Zv) :=
 if v0<(↑(List.length (Zv.ZlA b0)):Int) then
 (atI l0 v0).bind fun x0 =>
 some (.inl (Wq (v0+(1:Int)),List.set l0 (Int.toNat v0) (x0.fst,x0.snd.fst,x0.snd.snd.fst,([]:List Int),()),()))
 else
 (Zpt (Zv.Design b0)).bind fun y0 =>
 ZA (fun v=>Zrn b0 nodes0 y0 v.1 v.2.1) ((0:Int),l0,())
def Zqb (b0:Zv) (nodes0:List (Ze5×Int)):Option Zv :=
 ZA (fun v=>Zqx b0 nodes0 v.1 v.2.1) ((0:Int),Zv.ZlA b0,())
def c138:Ctr:=⟨[.io (Zhk),.dat (.mp (Zmh) Iq)],[],fun a K=>splitK a fun b0 a=>splitK a fun nodes0 a=>XU (Zqb b0 nodes0) fun r=>K () (r,())⟩
def Zsf (a0:Zv) (a1:Zbk):Option Zv :=
 (Zqc a0).bind fun y0 =>
 (Zpt (Zv.Design a0)).bind fun y1 =>
 (atI y1 (Zbk.Place a1)).bind fun x0 =>
 (ZpQ (Zp.Zbh (Zv.Design a0))).bind fun y2 =>
 (Zrb (Zp.Instances (Zv.Design a0))).bind fun y3 =>
 Zj ((List.length (Zp.Instances (Zv.Design a0))+List.length [(Zbk.Name a1,Zbk.Cell a1,[Zbl.net x0,y2],())])*(48:Nat)≤(140737488355328:Nat)) <|
 Zj ((List.length (Zp.Zbh (Zv.Design a0))+List.length [Zbk.Name a1])*(16:Nat)≤(140737488355328:Nat)) <|
 Zj ((List.length (Zv.ZlA a0)+List.length [([(-1:Int)],[(0:Int)],[(0:Int)],([]:List Int),())])*(96:Nat)≤(140737488355328:Nat)) <|
 (ZqK (Zv.Library a0,(Zp.Instances (Zv.Design a0)++[(Zbk.Name a1,Zbk.Cell a1,[Zbl.net x0,y2],())],Zp.Zbh (Zv.Design a0)++[Zbk.Name a1],(Zv.Design a0).snd.snd),Zv.ZlA a0++[([(-1:Int)],[(0:Int)],[(0:Int)],([]:List Int),())],()) (Zbl.instance x0,Zbl.pin x0,()) y2).bind fun y4 =>
 (Zqb y4 (ZkM Zmh (Ty.int IntKind.i64) (ZkM Zmh (Ty.int IntKind.i64) y0 (y3,0,()) (Option.getD (Zjr Zmh (Ty.int IntKind.i64) y0 (Zbl.instance x0,Zbl.pin x0,())) 0)) (Zbl.instance x0,Zbl.pin x0,()) 0)).bind fun y5 =>
 some y5
def c139:Ctr:=⟨[.io (Zhk),.dat (Zn2)],[],fun a K=>splitK a fun a0 a=>splitK a fun a1 a=>XU (Zsf a0 a1) fun r=>K () (r,())⟩
def ZqO (a0:Zv):Option (Ze5×Zv) :=
 (Zqc a0).bind fun y0 =>
 (Zpt (Zv.Design a0)).bind fun y1 =>
 (ZpQ (Zp.Zbh (Zv.Design a0))).bind fun y2 =>
 (Zsh (Zv.Design a0) (Wq (y2-1))).bind fun y3 =>
 (atI y3 0).bind fun x0 =>
 (atI y1 x0).bind fun x1 =>
 (atI (Zp.Instances (Zv.Design a0)) (Wq ((↑(List.length (Zp.Instances (Zv.Design a0))):Int)-1))).bind fun x2 =>
 (atI x2.snd.snd.fst 0).bind fun x3 =>
 (ZqK (Zv.Library a0,(List.set (Zp.Instances (Zv.Design a0)) (Int.toNat (Wq ((↑(List.length (Zp.Instances (Zv.Design a0))):Int)-1))) x2,(Zv.Design a0).snd),a0.snd.snd) (Zbl.instance x1,Zbl.pin x1,()) x3).bind fun y4 =>
 Zj ((0:Int)≤Wq ((↑(List.length (Zp.Instances (Zv.Design a0))):Int)-(1:Int))) <|
 Zj (Wq ((↑(List.length (Zp.Instances (Zv.Design a0))):Int)-(1:Int))≤(↑(List.length (Zp.Instances (Zv.Design y4))):Int)) <|
 Zj ((0:Int)≤Wq ((↑(List.length (Zp.Zbh (Zv.Design y4))):Int)-(1:Int))) <|
 Zj (Wq ((↑(List.length (Zp.Zbh (Zv.Design y4))):Int)-(1:Int))≤(↑(List.length (Zp.Zbh (Zv.Design y4))):Int)) <|
 Zj ((0:Int)≤Wq ((↑(List.length (Zv.ZlA y4)):Int)-(1:Int))) <|
 Zj (Wq ((↑(List.length (Zv.ZlA y4)):Int)-(1:Int))≤(↑(List.length (Zv.ZlA y4)):Int)) <|
 (Zqb (Zv.Library y4,(List.take (Int.toNat (Wq ((↑(List.length (Zp.Instances (Zv.Design a0))):Int)-1))-Int.toNat 0) (List.drop (Int.toNat 0) (Zp.Instances (Zv.Design y4))),List.take (Int.toNat (Wq ((↑(List.length (Zp.Zbh (Zv.Design y4))):Int)-1))-Int.toNat 0) (List.drop (Int.toNat 0) (Zp.Zbh (Zv.Design y4))),(Zv.Design y4).snd.snd),List.take (Int.toNat (Wq ((↑(List.length (Zv.ZlA y4)):Int)-1))-Int.toNat 0) (List.drop (Int.toNat 0) (Zv.ZlA y4)),()) (ZkM Zmh (Ty.int IntKind.i64) y0 (Zbl.instance x1,Zbl.pin x1,()) (Option.getD (Zjr Zmh (Ty.int IntKind.i64) y0 (Wq ((↑(List.length (Zp.Instances (Zv.Design a0))):Int)-1),0,())) 0))).bind fun y5 =>
 some ((Zbl.instance x1,Zbl.pin x1,()),y5)
def ZBh:Ctr:=⟨[.io (Zhk)],[.dat (Zmh)],fun a K=>splitK a fun a0 a=>XU (ZqO a0) fun r=>K (r.1,()) (r.2,())⟩
def Zpy (a0:Zbk) (a1:Zv):Option Zv :=
 (ZrM a1).bind fun y0 =>
 if Zbk.Kind a0=1 then
 (Zpt (Zv.Design a1)).bind fun y1 =>
 (atI y1 (Zbk.Place a0)).bind fun x0 =>
 (atI (Zp.Instances (Zv.Design y0)) (Zbl.instance x0)).bind fun x1 =>
 some (Zv.Library y0,(List.set (Zp.Instances (Zv.Design y0)) (Int.toNat (Zbl.instance x0)) (x1.fst,Zbk.Cell a0,x1.snd.snd),(Zv.Design y0).snd),y0.snd.snd)
 else
 if Zbk.Kind a0=2 then
 (Zsf y0 a0).bind fun y2 =>
 some y2
 else
 if Zbk.Kind a0=3 then
 (ZqO y0).bind fun y3 =>
 some y3.snd
 else
 if Zbk.Kind a0=4 then
 (Zqc y0).bind fun y4 =>
 (Zpt (Zv.Design y0)).bind fun y1 =>
 (atI y1 (Zbk.Place a0)).bind fun x0 =>
 (ZqK y0 (Zbl.instance x0,Zbl.pin x0,()) (Zbk.Net a0)).bind fun y5 =>
 (Zqb y5 (ZkM Zmh (Ty.int IntKind.i64) y4 (Zbl.instance x0,Zbl.pin x0,()) (Zbk.Node a0))).bind fun y6 =>
 some y6
 else
 if Zbk.Kind a0=5 then
 (Zrt (Zbk.ZoZ a0)).bind fun y7 =>
 (atI (Zv.ZlA y0) (Zbk.Net a0)).bind fun x0 =>
 some (Zv.Library y0,Zv.Design y0,List.set (Zv.ZlA y0) (Int.toNat (Zbk.Net a0)) y7,())
 else
 some y0
def c141:Ctr:=⟨[.dat (Zn2),.dat (ZjX)],[.own (Zhk)],fun a K=>splitK a fun a0 a=>splitK a fun a1 a=>XU (Zpy a0 a1) fun r=>K (r,()) ()⟩
def Zqs (b0:Zv) (e0:Zbk):Option (Zv×Int) :=
 (ZqE b0 e0).bind fun y0 =>
 if y0=0 then
 (Zpy e0 b0).bind fun y1 =>
 some (y1,0)
 else
 some (((([]:List QG),()),(([]:List Zz),([]:List (List UInt8)),([]:List Zah),()),([]:List QH),()),y0)
def ZBi:Ctr:=⟨[.dat (ZjX),.dat (Zn2)],[.own (Zhk),.dat Iq],fun a K=>splitK a fun b0 a=>splitK a fun e0 a=>XU (Zqs b0 e0) fun r=>K (r.1,r.2,()) ()⟩
def ZEk (b0:Zv) (net0:Int):Option ((List Int)×Int) :=
 (ZEa b0 net0).bind fun y0 =>
 if y0=0 then
 (ZDY b0 net0).bind fun y1 =>
 some (y1,0)
 else
 some (([]:List Int),y0)
def c143:Ctr:=⟨[.dat (ZjX),.dat Iq],[.own (.ol 2 (.flat Iq)),.dat Iq],fun a K=>splitK a fun b0 a=>splitK a fun net0 a=>XU (ZEk b0 net0) fun r=>K (r.1,r.2,()) ()⟩
def ZD6 (b0:Zv) (net0:Int):Option (Int×Int) :=
 (ZEk b0 net0).bind fun y0 =>
 if y0.snd=0 then
 (atI y0.fst 0).bind fun x0 =>
 some (x0,0)
 else
 some (0,y0.snd)
def ZBj:Ctr:=⟨[.dat (ZjX),.dat Iq],[.dat Iq,.dat Iq],fun a K=>splitK a fun b0 a=>splitK a fun net0 a=>XU (ZD6 b0 net0) fun r=>K (r.1,r.2,()) ()⟩
def ZD2 (NodeDelays0:List Int×Int) (NodeDelays2:List Int×Int) (v0:Int):Option ((Int×Unit) ⊕ Bool) :=
 if v0<(↑(List.length NodeDelays0.fst):Int) then
 (atI NodeDelays2.fst v0).bind fun x5 =>
 (atI NodeDelays0.fst v0).bind fun x6 =>
 if x5<x6 then
 some (.inr false)
 else
 some (.inl (Wq (v0+1),()))
 else
 some (.inr true)
def ZD3 (NodeDelays0:List Int×Int) (NodeDelays2:List Int×Int) (v0:Int):Option ((Int×Unit) ⊕ Bool) :=
 if v0<(↑(List.length NodeDelays0.fst):Int) then
 (atI NodeDelays2.fst v0).bind fun x4 =>
 (atI NodeDelays0.fst v0).bind fun x5 =>
 if x4<x5 then
 some (.inr false)
 else
 some (.inl (Wq (v0+1),()))
 else
 some (.inr true)
def ZD9 (a0:List Int):Option Bool :=
 (ZbE a0).bind fun y0 =>
 if y0 then
 some true
 else
 (ZD8 a0).bind fun y1 =>
 (ZD1 y1.fst y1.snd).bind fun y2 =>
 (ZD7 y1.fst y1.snd).bind fun y3 =>
 if y2.snd=y3.snd then
 if y2.snd=0 then
 (ZCN a0 612).bind fun y4 =>
 (atI y1.fst.snd.snd.fst y1.snd).bind fun x0 =>
 (ZCF y4 (↑(List.length (QH.Cap x0)):Int)).bind fun y5 =>
 Zj ((List.length (([]:List Int))+List.length (QH.Res x0))*(8:Nat)≤(140737488355328:Nat)) <|
 Zj ((List.length (([]:List Int))+List.length (QH.Cap x0))*(8:Nat)≤(140737488355328:Nat)) <|
 (atI (([]:List Int)++QH.Cap x0) y5.fst).bind fun x1 =>
 if 0<y5.fst then
 (atI (([]:List Int)++QH.Res x0) y5.fst).bind fun x2 =>
 (Zqs y1.fst ((5:Int),(0:Int),(0:Int),y1.snd,(0:Int),([]:List UInt8),(QH.Parent x0,List.set (([]:List Int)++QH.Res x0) (Int.toNat y5.fst) (Min.min (Wq (x2+(11:Int))) (1000:Int)),List.set (([]:List Int)++QH.Cap x0) (Int.toNat y5.fst) (Min.min (Wq (x1+(7:Int))) (500:Int)),x0.snd.snd.snd),())).bind fun y6 =>
 (ZD1 y6.fst y1.snd).bind fun y7 =>
 (ZD6 y1.fst y1.snd).bind fun y8 =>
 (ZD6 y6.fst y1.snd).bind fun y9 =>
 if y6.snd=0 then
 if y7.snd=0 then
 if (↑(List.length y2.fst):Int)=(↑(List.length y7.fst):Int) then
 if (↑(List.length y2.fst):Int)=(↑(List.length (QH.Cap x0)):Int) then
 (atI (List.set (([]:List Int)++QH.Cap x0) (Int.toNat y5.fst) (Min.min (Wq (x1+(7:Int))) (500:Int))) y5.fst).bind fun x3 =>
 (atI (QH.Cap x0) y5.fst).bind fun x4 =>
 if Wq (y9.fst-y8.fst)=Wq (x3-x4) then
 ZA (fun v=>ZD2 y2 y7 v.1) ((0:Int),())
 else
 some false
 else
 some false
 else
 some false
 else
 some false
 else
 some false
 else
 (Zqs y1.fst ((5:Int),(0:Int),(0:Int),y1.snd,(0:Int),([]:List UInt8),(QH.Parent x0,([]:List Int)++QH.Res x0,List.set (([]:List Int)++QH.Cap x0) (Int.toNat y5.fst) (Min.min (Wq (x1+(7:Int))) (500:Int)),x0.snd.snd.snd),())).bind fun y6 =>
 (ZD1 y6.fst y1.snd).bind fun y7 =>
 (ZD6 y1.fst y1.snd).bind fun y8 =>
 (ZD6 y6.fst y1.snd).bind fun y9 =>
 if y6.snd=0 then
 if y7.snd=0 then
 if (↑(List.length y2.fst):Int)=(↑(List.length y7.fst):Int) then
 if (↑(List.length y2.fst):Int)=(↑(List.length (QH.Cap x0)):Int) then
 (atI (List.set (([]:List Int)++QH.Cap x0) (Int.toNat y5.fst) (Min.min (Wq (x1+(7:Int))) (500:Int))) y5.fst).bind fun x2 =>
 (atI (QH.Cap x0) y5.fst).bind fun x3 =>
 if Wq (y9.fst-y8.fst)=Wq (x2-x3) then
 ZA (fun v=>ZD3 y2 y7 v.1) ((0:Int),())
 else
 some false
 else
 some false
 else
 some false
 else
 some false
 else
 some false
 else
 some (Decidable.decide ((↑(List.length y2.fst):Int)=0))
 else
 some false
def ZEi:Ctr:=⟨[.dat (.sl (.int .u8))],[.dat (.bool)],fun a K=>splitK a fun a0 a=>XU (ZD9 a0) fun r=>K (r,()) ()⟩
end
end Go.Proofs.YtnnbgbgapogckaaGreatDoor
