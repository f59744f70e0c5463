/-
  Plain laws: what the draws of designs, wires and blocks yield.
-/
import Derived.Test.YtjkccpcebpeadaaGreatDoorLC
import Derived.Test.YtjkccpcebpeadaaGreatDoorLA
namespace Go.Proofs.YtjkccpcebpeadaaGreatDoor
set_option linter.unusedVariables false
set_option linter.unusedSimpArgs false
open Go Go.Sx
def Zvu (x:Zp):Prop:=(∃r,Hb x=117::r/\r.length<=2)/\(2<=(Gu x).length/\(Gu x).length<=4)
def ZDz (s:List UInt8):Prop:=∃r,s=110::r/\r.length<=2
def ZxY (p:Y8):Prop:=(Hc p).length<=2
structure Zzk (d:Ze):Prop where
 n0:2<=(K4 d).length
 n1:(K4 d).length<=9
 inst:∀x∈K4 d,Zvu x
 nl:(Gp d).length=(K4 d).length+3
 net:∀s∈Gp d,ZDz s
 p0:4<=(Gk d).length
 p1:(Gk d).length<=5
 port:∀p∈Gk d,ZxY p
variable {s:Zd} {most:Int}
theorem Zst (V:Src s) (Q:1<=most) (S:most<=8) (d:Bool):YM (Zg6 s most d) (λr=>Zzk r.1/\Src r.2):=by
 unfold Zg6;have C:Wq (most-1)=most-1:=QR;rw[C];refine(ZE V _).bind λR ⟨⟨a0,a1⟩,I⟩=>?_;have e:Wq (2+R.1)=2+R.1:=QR;rw[e];have M:2<=2+R.1/\2+R.1<=9:=by omega
 generalize 2+R.1=N at M;refine YM.loop (λv=>0<=v.2.2.1/\(v.1.length:Int)+v.2.2.1=N/\v.2.1.length=v.1.length+3/\(∀x∈v.1,Zvu x)/\(∀x∈v.2.1,ZDz x)/\Src (v.2.2.2.1,v.2.2.2.2.1,v.2.2.2.2.2.1,())) (λv=>v.2.2.1.toNat)
  ⟨by dsimp only;omega,by grind,rfl,λx b=>(by cases b),λx b=>?_,I⟩ ?_
 ·simp only[Uq,Us,UR,Kd]at b
  rcases b with rfl|rfl|rfl
  ·exact⟨_,rfl,UE _⟩
  ·exact⟨_,rfl,by simp⟩
  ·exact⟨_,rfl,by simp⟩
 rintro⟨i,nets,n,c0,c1,c2,⟨⟩⟩ ⟨i1,Y,Z,T,B,F⟩;dsimp only at i1 Y Z T B F;show YM (Zew d i nets n c0 c1 c2) _;unfold Zew;split
 ·rename_i X
  refine(ZE F 12).bind λr ⟨⟨b0,b1⟩,H⟩=>?_;refine .at b0 (by simp only[Uf,Ug];omega) λx b _=>?_;have t:0<=x/\x<=7:=by
   simp only[Us,UR,Kd]at b;omega
  refine(Zna (n:=(i.length:Int))).bind λz m=>?_;refine .guard (by grind) ?_;refine YM.loop (λv=>0<=v.1/\v.1<=3/\(v.2.2.2.2.1.length:Int)=v.1/\Src (v.2.1,v.2.2.1,v.2.2.2.1,())) (λv=>(3-v.1).toNat) ⟨by dsimp only;omega,by dsimp only;omega,rfl,H⟩ ?_;rintro⟨p,D,g,j,l,⟨⟩⟩ ⟨j0,J,u,w⟩;dsimp only at j0 J u w;show YM (Zeu i nets n x z p D g j l) _;unfold Zeu;refine .at t.1 (by grind) λk O _=>?_;have P:2<=k/\k<=4:=by
   simp only[Us,UR,Kd]at O;omega
  have A:Wq (k-1)=k-1:=QR;have E:Wq (p+1)=p+1:=QR;have G:Wq (n-1)=n-1:=QR;simp only[A,E,G];split
  ·rename_i U
   refine(ZE w _).bind λr2 ⟨_,c⟩=>?_;refine(ZE c 3).bind λr3 ⟨_,K⟩=>?_;repeat' first
    |split
    |refine YM.guard (by simp only[Uh,Uf,Ug];omega) ?_
    |exact .ret ⟨⟨by dsimp only;omega,by dsimp only;omega,by grind,K⟩,by dsimp only;omega⟩
  ·refine .guard (by grind) ?_
   refine .guard (by grind) ?_;refine(Zna (n:=(nets.length:Int))).bind λnn o=>?_;refine .guard (by grind) ?_;refine .guard (by grind) ?_;refine .guard (by grind) ?_;refine .ret ⟨⟨by dsimp only;omega,by grind,by grind,QE T ⟨⟨z,rfl,m⟩,?_⟩,QE B ⟨nn,rfl,o⟩,w⟩,by dsimp only;omega⟩;grind
 ·rename_i X
  refine YM.loop (λv=>0<=v.1/\v.1<=9/\v.2.2.2.2.1.length=i.length/\(∀x∈v.2.2.2.2.1,Zvu x)/\Src (v.2.1,v.2.2.1,v.2.2.2.1,())) (λv=>(9-v.1).toNat) ⟨by dsimp only;omega,by dsimp only;omega,rfl,T,F⟩ ?_;rintro⟨p,D,g,j,l,⟨⟩⟩ ⟨j0,J,u,w,y⟩;dsimp only at j0 J u w y;show YM (Zev d nets p D g j l) _;unfold Zev;have E:Wq (p+1)=p+1:=QR;simp only[E];split
  ·rename_i q
   refine(ZE y 4).bind λr ⟨_,H⟩=>?_;split
   ·refine .at j0 q λx b W=>?_
    have h:=w x b;have st:∀v:Int,YM ((Zi r.2 v).bind λL=>(atI x.snd.snd.fst (0:Int)).bind λx1=>some (.inl (p+1,L.snd.fst,L.snd.snd.fst,L.snd.snd.snd.fst,List.set l (Int.toNat p) (x.fst,x.snd.fst,List.set x.snd.snd.fst (Int.toNat (0:Int)) (Wq ((1:Int)+L.fst)),()),()):(Int×(List Int)×Int×Int×(List (List UInt8×Int×List Int×Unit))×Unit)⊕(((List Zp)×(List (List UInt8))×Int×(List Int)×Int×Int×Unit)⊕(Ze×Zd))))
      (Rnd (λv:Int×(List Int)×Int×Int×(List (List UInt8×Int×List Int×Unit))×Unit=>0<=v.1/\v.1<=9/\v.2.2.2.2.1.length=i.length/\(∀ x∈v.2.2.2.2.1,Zvu x)/\Src (v.2.1,v.2.2.1,v.2.2.2.1,())) (λv=>(9-v.1).toNat) (9-p).toNat
       (Rnd (λv:(List Zp)×(List (List UInt8))×Int×(List Int)×Int×Int×Unit=>0<=v.2.2.1/\(v.1.length:Int)+v.2.2.1=N/\v.2.1.length=v.1.length+3/\(∀ x∈v.1,Zvu x)/\(∀ x∈v.2.1,ZDz x)/\Src (v.2.2.2.1,v.2.2.2.2.1,v.2.2.2.2.2.1,())) (λv=>v.2.2.1.toNat) n.toNat (λr=>Zzk r.1/\Src r.2))):=λv=>by
     refine(ZE H v).bind λr2 ⟨_,c⟩=>?_;refine .at (by omega) (by have:=h.2.1;grind) λ_ _ _=>?_;refine .ret ⟨⟨by dsimp only;omega,by dsimp only;omega,by grind,ZpR w ⟨h.1,?_⟩,c⟩,by dsimp only;omega⟩;show 2<=(List.set (Gu x) _ _).length/\(List.set (Gu x) _ _).length<=4;rw[UZ];exact h.2
    repeat' first
     |exact st _
     |split
     |exact .ret ⟨⟨by dsimp only;omega,by dsimp only;omega,by grind,ZpR w h,H⟩,by dsimp only;omega⟩
   ·exact .ret ⟨⟨by dsimp only;omega,by dsimp only;omega,u,w,H⟩,by dsimp only;omega⟩
  ·refine .guard (by grind) ?_
   refine(ZE y 2).bind λr ⟨_,H⟩=>?_;have f:∀a:Int,∀p∈(([]:List (List UInt8×Int×Int×Unit))++[([(99:UInt8),(107:UInt8)],(1:Int),(0:Int),()),([(97:UInt8)],(1:Int),(1:Int),()),([(98:UInt8)],(1:Int),(2:Int),())]++[([(121:UInt8)],(2:Int),a,())]),ZxY p:=λa p q=>by
    simp only[Uq,U0,Us,UR,Kd]at q;unfold ZxY;grind
   split
   ·refine(ZE H _).bind λr2 ⟨_,c⟩=>?_
    refine .guard (by grind) ?_;refine .ret ⟨⟨?_,?_,w,?_,B,?_,?_,QE (f _) (show 1<=2 by omega)⟩,c⟩;all_goals grind
   ·refine .ret ⟨⟨?_,?_,w,?_,B,?_,?_,f _⟩,H⟩
    all_goals grind
variable {d:Ze}
theorem Zzk.few (h:Zzk d):Few d:=⟨by have:=h.n1;omega,by have:=h.p1;omega,λx l=>by have:=(h.inst x l).2.2;omega⟩
theorem Zzk.sm (h:Zzk d):sm Qv d:=by
 have:=h.n1;have:=h.p1;have:=h.nl;refine⟨smL (by grind) (λx l=>?_),smL (by grind) (λx l=>?_),smL (by grind) (λx l=>?_),trivial⟩
 ·obtain⟨⟨r,e,F⟩,f⟩:=h.inst x l
  refine⟨smS ?_,trivial,smI ?_,trivial⟩;all_goals grind
 ·obtain⟨r,e,F⟩:=h.net x l
  refine smS ?_;grind
 ·have:=h.port x l
  unfold ZxY at this;exact⟨smS (by grind),trivial,trivial,trivial⟩
def Zvx (w:ZC):Prop:=(1<=(K5 w).length/\(K5 w).length<=4)/\(GC w).length=(K5 w).length/\(GU w).length=(K5 w).length/\(Gv w).length<=100
theorem Zvx.sm {w:ZC} (h:Zvx w):sm Zm2 w:=by
 obtain⟨d,f,g,i⟩:=h;exact⟨smI (by grind),smI (by grind),smI (by grind),smI (by grind),trivial⟩
theorem ZsH (l:List Int) (h:l.length<=1048576:=by omega):ZaL l=some l:=by
 have f:((([]:List Int).length+l.length)*8<=140737488355328):=by grind
 unfold ZaL;first
  |(rw[Zk f,Uq])
  |(rw[Zk f];rfl)
  |rfl
theorem ZxN (t:Src s) {k:Int} (y:0<=k:=by omega) (z:k<=100:=by omega):YM (Zdg s k) (λr=>Zvx r.1/\Src r.2):=by
 unfold Zdg;refine(ZE t 6).bind λd ⟨_,h⟩=>?_;have q:Zfh k d.1=some ([(-1:Int)],[(0:Int)],[d.1],List.replicate (Int.toNat k) (0:Int),()):=by
  unfold Zfh;rw[Ra,Ra,Ra,Ra]
 rw[q,Bq];refine(ZE h 4).bind λr1 ⟨⟨a,b⟩,i⟩=>?_;refine YM.loop (λv=>0<=v.1/\(v.2.2.2.2.1.length:Int)+v.1=1+r1.1/\1<=v.2.2.2.2.1.length/\v.2.2.2.2.2.1.length=v.2.2.2.2.1.length/\v.2.2.2.2.2.2.1.length=v.2.2.2.2.1.length/\v.2.2.2.2.2.2.2.1.length<=100/\Src (v.2.1,v.2.2.1,v.2.2.2.1,())) (λv=>v.1.toNat)
  ⟨a,by grind,UE _,rfl,rfl,by grind,i⟩ ?_
 rintro⟨n,c0,c1,c2,Z,L,c,S,⟨⟩⟩ ⟨I,i1,u,j,T,B,F⟩;dsimp only at I i1 u j T B F;show YM (Zbw n c0 c1 c2 Z L c S) _;unfold Zbw;have G:Wq (n-1)=n-1:=QR;simp only[G];split
 ·rw[ZsH Z,Bq,ZsH L,ZsH c]
  refine(ZE F _).bind λr2 ⟨_,f⟩=>?_;refine .guard (by grind) ?_;rw[Bq];refine(ZE f _).bind λR ⟨_,H⟩=>?_;refine .guard (by grind) ?_;rw[Bq];refine(ZE H _).bind λA ⟨_,m⟩=>?_;refine .guard (by grind) ?_;refine .ret ⟨⟨by dsimp only;omega,?_,?_,?_,?_,B,m⟩,by dsimp only;omega⟩;all_goals grind
 ·refine YM.loop (λv=>0<=v.1/\v.1<=100/\v.2.2.2.2.1.length=S.length/\Src (v.2.1,v.2.2.1,v.2.2.2.1,())) (λv=>(100-v.1).toNat) ⟨by dsimp only;omega,by dsimp only;omega,rfl,F⟩ ?_
  rintro⟨p,D,e,g,l,⟨⟩⟩ ⟨j0,J,x,w⟩;dsimp only at j0 J x w;show YM (Zbv Z L c p D e g l) _;unfold Zbv;have E:Wq (p+1)=p+1:=QR;simp only[E];split
  ·rename_i o
   refine(ZE w _).bind λr2 ⟨_,f⟩=>?_;refine .at j0 o λ_ _ _=>?_;exact .ret ⟨⟨by dsimp only;omega,by dsimp only;omega,by grind,f⟩,by dsimp only;omega⟩
  ·refine .ret ⟨⟨⟨?_,?_⟩,j,T,?_⟩,w⟩
   all_goals grind
structure ZpN (b:Zc):Prop where
 lib:sm VI (GG b)
 des:Zzk (K3 b)
 wl:(Gl b).length=(Gp (K3 b)).length
 wires:∀w∈Gl b,Zvx w
variable {b:Zc}
theorem ZpN.sm (h:ZpN b):sm Xi b:=by
 have:=h.wl;have:=h.des.nl;have:=h.des.n1;exact⟨h.lib,h.des.sm,smL (by grind) (λw c=>(h.wires w c).sm),trivial⟩
theorem Zpb (a:Src s) (Q:1<=most) (S:most<=8) (d:Bool):YM (Zfu s most d) (λr=>ZpN r.1/\Src r.2):=by
 unfold Zfu;refine(Zyy a).bind λR ⟨q,h⟩=>?_;refine(Zst h Q S d).bind λr1 ⟨L,H⟩=>?_;have l:=L.nl;have V:=L.n1;refine YM.loop (λv=>0<=v.2.1/\v.2.1<=((Gp r1.1).length:Int)/\(v.1.length:Int)=v.2.1/\(∀w∈v.1,Zvx w)/\Src (v.2.2.1,v.2.2.2.1,v.2.2.2.2.1,())) (λv=>(100-v.2.1).toNat)
  ⟨by dsimp only;omega,by dsimp only;omega,rfl,λw c=>(by cases c),H⟩ ?_
 rintro⟨W,n,c0,c1,c2,⟨⟩⟩ ⟨i,i1,p,j,T⟩;dsimp only at i i1 p j T;show YM (Zey R r1 W n c0 c1 c2) _;unfold Zey;have G:Wq (n+1)=n+1:=QR;simp only[G];split
 ·rename_i X
  have X:n<((Gp r1.1).length:Int):=X;rw[Zdf r1.1 n L.few,Bq];have g:(Zae r1.1 n).length<=78:=Kg (Zeg n (ZB r1.1) 0) (YT L.few);refine(ZxN T (k:=((Zae r1.1 n).length:Int))).bind λr ⟨c,f⟩=>?_;refine .guard (by grind) (.ret ⟨⟨by dsimp only;omega,by dsimp only;omega,?_,QE j c,f⟩,by dsimp only;omega⟩);grind
 ·rename_i X
  have X:¬n<((Gp r1.1).length:Int):=X;refine .ret ⟨⟨q.1,L,?_,j⟩,T⟩;grind
def ZgG (c:Zf):Prop:=(GA c).length<=4
theorem Zns (Q:Src s):YM (Zfy s) (λr=>((1<=r.1.length/\r.1.length<=7)/\∀c∈r.1,ZgG c)/\Src r.2):=by
 unfold Zfy;refine(ZE Q 5).bind λd ⟨⟨a0,V⟩,M⟩=>?_;have e:Wq (1+d.1)=1+d.1:=QR;rw[e];refine YM.loop (λv=>0<=v.2.1/\(v.1.length:Int)+v.2.1=1+d.1/\(∀c∈v.1,ZgG c)/\Src (v.2.2.1,v.2.2.2.1,v.2.2.2.2.1,())) (λv=>v.2.1.toNat)
  ⟨by dsimp only;omega,by dsimp only[List.length_nil];omega,λx h=>(by cases h),M⟩ ?_
 rintro⟨l,n,c0,c1,c2,⟨⟩⟩ ⟨S,i1,p,I⟩;dsimp only at S i1 p I;show YM (ZeF l n c0 c1 c2) _;unfold ZeF;have K:Wq (n-1)=n-1:=QR;simp only[K];split
 ·rename_i X
  have N:∀(c:Zf) (t:Zd),ZgG c->Src t->YM (some (.inl (l++[c],n-1,t.fst,t.snd.fst,t.snd.snd.fst,()):((List Zf)×Int×(List Int)×Int×Int×Unit)⊕((List Zf)×Zd)))
    (Rnd (λv:(List Zf)×Int×(List Int)×Int×Int×Unit=>0<=v.2.1/\(v.1.length:Int)+v.2.1=1+d.1/\(∀c∈v.1,ZgG c)/\Src (v.2.2.1,v.2.2.2.1,v.2.2.2.2.1,())) (λv=>v.2.1.toNat) n.toNat (λr=>((1<=r.1.length/\r.1.length<=7)/\∀c∈r.1,ZgG c)/\Src r.2)):=λc t q w =>
   .ret ⟨⟨by dsimp only;omega,by dsimp only;simp only[Uh,Uf,Ug];omega,QE p q,w⟩,by dsimp only;omega⟩
  refine(ZE I 30).bind λr1 ⟨_,b⟩=>?_;refine(Zna (n:=(l.length:Int))).bind λm u=>?_;have L:∀x,ZgG (([(99:UInt8)]++m,x):Zf):=λx=>by
   show([(99:UInt8)]++m).length<=4;simp only[Uh,Uf,Ug];omega
  refine .guard (by simp only[Uf,Ug];omega) ?_;refine(ZE b 20).bind λr2 ⟨_,f⟩=>?_;refine(ZE f 20).bind λR ⟨_,g⟩=>?_;refine(ZE g 8).bind λW ⟨_,z⟩=>?_;have P:∀x∈([(10:Int),(12:Int),(20:Int),(30:Int),(100:Int),(7:Int),(2:Int)]),x≠0:=λx h=>by
   simp only[Us,UR,Kd]at h;omega
  split
  ·refine(ZE z 7).bind λT ⟨⟨b0,B⟩,j⟩=>?_
   refine .at b0 (by simp only[Uf,Ug];omega) λx h _=>?_;refine(ZE j _).bind λD ⟨_,G⟩=>?_;refine(ZE G _).bind λE ⟨_,k⟩=>?_;refine .guard (P x h) ?_;refine .guard (by simp only[Uf,Ug];omega) ?_;exact N _ _ (L _) k
  ·refine(ZE z 3).bind λT ⟨_,j⟩=>?_
   split
   ·refine(ZE j 7).bind λD ⟨⟨b0,B⟩,G⟩=>?_
    refine .at b0 (by simp only[Uf,Ug];omega) λx h _=>?_;refine(ZE G _).bind λE ⟨_,k⟩=>?_;refine(ZE k _).bind λU ⟨_,o⟩=>?_;refine .guard (P x h) ?_;refine .guard (by simp only[Uf,Ug];omega) ?_;exact N _ _ (L _) o
   ·refine(ZE j _).bind λD ⟨_,G⟩=>?_
    refine(ZE G _).bind λE ⟨_,k⟩=>?_;refine(ZE k _).bind λU ⟨_,o⟩=>?_;refine .guard (by simp only[Uf,Ug];omega) ?_;exact N _ _ (L _) o
 ·rename_i X
  refine(ZE I _).bind λr1 ⟨⟨b0,B⟩,b⟩=>?_;refine(ZE b 30).bind λr2 ⟨_,f⟩=>?_;have O:1<=l.length/\l.length<=5:=by omega
  have F:∀(i:Nat) (c:Zf) (t:Zd),ZgG c->Src t->YM (some (.inr (List.set l i c,t):((List Zf)×Int×(List Int)×Int×Int×Unit)⊕((List Zf)×Zd)))
    (Rnd (λv:(List Zf)×Int×(List Int)×Int×Int×Unit=>0<=v.2.1/\(v.1.length:Int)+v.2.1=1+d.1/\(∀c∈v.1,ZgG c)/\Src (v.2.2.1,v.2.2.2.1,v.2.2.2.2.1,())) (λv=>v.2.1.toNat) n.toNat (λr=>((1<=r.1.length/\r.1.length<=7)/\∀c∈r.1,ZgG c)/\Src r.2)):=λi c t q w =>
   .ret (show((1<=(List.set l i c).length/\(List.set l i c).length<=7)/\∀C∈List.set l i c,ZgG C)/\Src t from⟨⟨by rw[UZ];omega,ZpR p q⟩,w⟩)
  have H:r1.1<(l.length:Int):=by omega
  have m:∀x∈l,(GA x).length<=4:=p;split
  ·refine(ZE f 2).bind λR ⟨_,g⟩=>?_
   exact .at b0 H λx h _=>F _ _ _ (m x h) g
  split
  ·exact .at b0 H λx h _=>F _ _ _ (m x h) f
  split
  ·exact .at (by omega) (by omega) λx h _=>.at b0 H λy _ _=>F _ _ _ (m x h) f
  split
  ·exact .at b0 H λx h _=>F _ _ _ (m x h) f
  split
  ·exact .at b0 H λx h _=>F _ _ _ (m x h) f
  split
  ·refine(ZE f 2).bind λR ⟨_,g⟩=>?_
   exact .at (by omega) (by omega) λx h _=>F _ _ _ (m x h) g
  split;rotate_left
  ·exact .ret (show((1<=l.length/\l.length<=7)/\∀C∈l,ZgG C)/\Src r2.2 from⟨⟨by omega,p⟩,f⟩)
  refine YM.loop (λv=>v.1.length<=7/\1<=v.1.length/\∀c∈v.1,ZgG c) (λv=>7-v.1.length) ⟨by dsimp only;omega,O.1,p⟩ ?_;rintro⟨a,⟨⟩⟩ ⟨j0,A,J⟩;dsimp only at j0 A J;show YM (ZeE r2 a) _;unfold ZeE;split
  ·refine .at (by omega) (by omega) λx _ _=>?_
   refine(Zna (n:=(a.length:Int))).bind λm u=>?_;refine .guard (by simp only[Uf,Ug];omega) ?_;refine .guard (by simp only[Uf,Ug];omega) ?_;refine .ret ⟨⟨?_,?_,QE J ?_⟩,?_⟩
   ·dsimp only;simp only[Uh,Uf,Ug];omega
   ·dsimp only;simp only[Uh,Uf,Ug];omega
   ·show([(120:UInt8)]++m).length<=4
    simp only[Uh,Uf,Ug];omega
   ·dsimp only;simp only[Uh,Uf,Ug];omega
  ·exact .ret (show((1<=a.length/\a.length<=7)/\∀C∈a,ZgG C)/\Src r2.2 from⟨⟨⟨A,j0⟩,J⟩,f⟩)
variable {l:List Zf}
theorem Zw0 (h:∀c∈l,ZgG c):ZwZ l:=λc q=>by
 have:=h c q;unfold ZgG at this;omega
def ZoD (e:Zu):Prop:=(G7 e).length<=1/\(G5 e).length<=1/\(Ho e).length<=1
structure ZGq (x:Zo):Prop where
 c0:1<=(Gb x).length
 c1:(Gb x).length<=7
 cn:∀c∈Gb x,ZgG c
 i1:(GN x).length<=100
 o1:(Hn x).length<=100
 e1:(Gz x).length<=100
 ee:∀e∈Gz x,ZoD e
 k0:1<=(GV x).length
 k1:(GV x).length<=2
 kn:∀c∈GV x,(GK c).length<=4
abbrev ZqZ (r:Zc×Zo×Zd):Prop:=ZpN r.1/\ZGq r.2.1/\Src r.2.2
theorem ZfB:∀c∈([([(116:UInt8),(121:UInt8),(112:UInt8)],(1000:Int),(1000:Int),(1000:Int),(1000:Int),())]:List ZA),(GK c).length<=4:=λc q=>by
 rw[Ut]at q;rw[q];show 3<=4;omega
abbrev Zvk:=(List Zu)×Int×(List Int)×Int×Int×Unit
abbrev Zo7:=(List Zh)×(List Zh)×Int×(List Int)×Int×Int×Unit
abbrev Zk9:=Int×(List Int)×Int×Int×(List Zf)×Unit
variable {D:Zc×Zd} {P:List ZF} {cs:List Zf} {i o:List Zh} {n:Int} {Q:Zo7⊕(Zk9⊕(Zc×Zo×Zd))->Prop}
theorem Zwa (f:ZpN D.1) (y:1<=cs.length) (h:cs.length<=7) (H:∀c∈cs,ZgG c) (g:i.length<=100) (p:o.length<=100) (n0:0<=n) (n1:n<=3) (A:Src s) (q:∀r,ZqZ r->Q (.inr (.inr r))) :
  YM (Zt (λv=>ZbD D P cs i o v.1 v.2.1 v.2.2.1 v.2.2.2.1 v.2.2.2.2.1) (([]:List Zu),n,s.fst,s.snd.fst,s.snd.snd.fst,())) Q:=by
 refine YM.loop (λv:Zvk=>0<=v.2.1/\v.2.1<=3/\(v.1.length:Int)+v.2.1<=3/\(∀e∈v.1,ZoD e)/\Src (v.2.2.1,v.2.2.2.1,v.2.2.2.2.1,())) (λv=>v.2.1.toNat) ⟨n0,n1,by dsimp only[List.length_nil];omega,λx C=>(by cases C),A⟩ ?_;rintro⟨l,k,c0,c1,c2,⟨⟩⟩ ⟨I,i1,E,j,T⟩;dsimp only at I i1 E j T;show YM (ZbD D P cs i o l k c0 c1 c2) _;unfold ZbD;have G:Wq (k-1)=k-1:=QR;simp only[G];split
 ·have N:∀(e:Zu) (t:Zd),ZoD e->Src t->YM (some (.inl (l++[e],k-1,t.fst,t.snd.fst,t.snd.snd.fst,()):Zvk⊕(Zo7⊕(Zk9⊕(Zc×Zo×Zd)))))
    (Rnd (λv:Zvk=>0<=v.2.1/\v.2.1<=3/\(v.1.length:Int)+v.2.1<=3/\(∀e∈v.1,ZoD e)/\Src (v.2.2.1,v.2.2.2.1,v.2.2.2.2.1,())) (λv=>v.2.1.toNat) k.toNat Q):=λe t z B =>
   .ret ⟨⟨by dsimp only;omega,by dsimp only;omega,by dsimp only;simp only[Uh,Uf,Ug];omega,QE j z,B⟩,by dsimp only;omega⟩
  have u:∀a b:Int,ZoD ((a,b,([]:List Int),([]:List Int),([]:List Int),()):Zu):=λa b=>⟨UM _,UM _,UM _⟩;have w:∀a b c:Int,ZoD ((a,b,([]:List Int),([]:List Int),[c],()):Zu):=λa b c=>⟨UM _,UM _,UE _⟩;repeat' first
   |exact N _ _ (u _ _) (by assumption)
   |exact N _ _ (w _ _ _) (by assumption)
   |split
   |refine YM.guard (by simp only[Uh,Uf,Ug];omega) ?_
   |refine(ZE (by assumption) _).bind λ_ ⟨_,_⟩=>?_
 ·refine(ZE T 2).bind λr ⟨_,d⟩=>?_
  have m:l.length<=100:=by omega
  split
  ·refine .ret (q _ ⟨f,⟨y,h,H,g,p,m,j,?_,?_,QE ZfB ?_⟩,d⟩)
   ·show 1<=([_]++[_]).length;simp
   ·show([_]++[_]).length<=2;simp
   ·show 4<=4;omega
  ·exact .ret (q _ ⟨f,⟨y,h,H,g,p,m,j,UE _,by show 1<=2;omega,ZfB⟩,d⟩)
variable {A:Int×Zd}
theorem Zwe (e:ZpN D.1) (C:P.length<=78) (g:(Gk (K3 D.1)).length<=P.length) (y:1<=cs.length) (h:cs.length<=7) (H:∀c∈cs,ZgG c) (m:Src s) {Q:Zk9⊕(Zc×Zo×Zd)->Prop} (q:∀r,ZqZ r->Q (.inr r)) :
  YM (Zt (λv=>ZbE D P A cs v.1 v.2.1 v.2.2.1 v.2.2.2.1 v.2.2.2.2.1 v.2.2.2.2.2.1) (([]:List Zh),([]:List Zh),Wq ((P.length:Int)-((Gk (K3 D.1)).length:Int)),s.fst,s.snd.fst,s.snd.snd.fst,())) Q:=by
 rw[Yy (n:=(P.length:Int)-((Gk (K3 D.1)).length:Int))];refine YM.loop (λv:Zo7=>0<=v.2.2.1/\v.2.2.1<=(P.length:Int)/\(v.1.length:Int)<=v.2.2.1/\(v.2.1.length:Int)<=v.2.2.1/\Src (v.2.2.2.1,v.2.2.2.2.1,v.2.2.2.2.2.1,())) (λv=>(100-v.2.2.1).toNat)
  ⟨by dsimp only;omega,by dsimp only;omega,by dsimp only[List.length_nil];omega,by dsimp only[List.length_nil];omega,m⟩ ?_
 rintro⟨i,o,p,c0,c1,c2,⟨⟩⟩ ⟨I,i1,w,z,T⟩;dsimp only at I i1 w z T;show YM (ZbE D P A cs i o p c0 c1 c2) _;unfold ZbE;have G:Wq (p+1)=p+1:=QR;simp only[G];split
 ·rename_i l
  have N:∀(a b:List Zh) (t:Zd),(a.length:Int)<=p+1->(b.length:Int)<=p+1->Src t->YM (some (.inl (a,b,p+1,t.fst,t.snd.fst,t.snd.snd.fst,()):Zo7⊕(Zk9⊕(Zc×Zo×Zd))))
    (Rnd (λv:Zo7=>0<=v.2.2.1/\v.2.2.1<=(P.length:Int)/\(v.1.length:Int)<=v.2.2.1/\(v.2.1.length:Int)<=v.2.2.1/\Src (v.2.2.2.1,v.2.2.2.2.1,v.2.2.2.2.2.1,())) (λv=>(100-v.2.2.1).toNat) (100-p).toNat Q):=λa b t j k u =>
   .ret ⟨⟨by dsimp only;omega,by dsimp only;omega,j,k,u⟩,by dsimp only;omega⟩
  refine(ZE T 60).bind λr1 ⟨_,d⟩=>?_;refine(ZE d _).bind λr2 ⟨_,f⟩=>?_;refine(ZE f 30).bind λR ⟨_,B⟩=>?_;refine .at I l λx _ _=>?_;repeat' first
   |exact N _ _ _ (by omega) (by omega) (by assumption)
   |exact N _ _ _ (by first|omega|(simp only[Uh,Uf,Ug];omega)) (by first|omega|(simp only[Uh,Uf,Ug];omega)) (by assumption)
   |split
   |refine YM.guard (by simp only[Uh,Uf,Ug];omega) ?_
   |refine(ZE (by assumption) _).bind λ_ ⟨_,_⟩=>?_
 ·refine(ZE T 3).bind λr ⟨⟨a,b⟩,d⟩=>?_
  exact Zwa e y h H (by omega) (by omega) a (by omega) d (λr F=>q r F)
theorem ZvK (H:ZpN D.1) (a:P.length<=78) (h:(Gk (K3 D.1)).length<=P.length) (e:Src s) :
  YM (Zt (λv=>J9 D P A v.1 v.2.1 v.2.2.1 v.2.2.2.1 v.2.2.2.2.1) ((0:Int),s.fst,s.snd.fst,s.snd.snd.fst,([]:List Zf),())) ZqZ:=by
 refine YM.loop (λv:Zk9=>0<=v.1/\v.1<=7/\(v.2.2.2.2.1.length:Int)=v.1/\(∀c∈v.2.2.2.2.1,ZgG c)/\Src (v.2.1,v.2.2.1,v.2.2.2.1,())) (λv=>(7-v.1).toNat)
  ⟨by dsimp only;omega,by dsimp only;omega,rfl,λx l=>(by cases l),e⟩ ?_
 rintro⟨p,c0,c1,c2,cs,⟨⟩⟩ ⟨i,i1,I,j,T⟩;dsimp only at i i1 I j T;show YM (J9 D P A p c0 c1 c2 cs) _;unfold J9;have G:Wq (p+1)=p+1:=QR;simp only[G];split
 ·rename_i g
  have b:p<7:=by simp only[Uf,Ug]at g;omega
  refine .at i g λx l _=>?_;have n:ZgG x:=by
   rw[Ut]at l;rw[l];show 4<=4;omega
  have N:∀(c:Zf) (t:Zd),ZgG c->Src t->YM (some (.inl (p+1,t.fst,t.snd.fst,t.snd.snd.fst,([]:List Zf)++cs++[c],()):Zk9⊕(Zc×Zo×Zd)))
    (Rnd (λv:Zk9=>0<=v.1/\v.1<=7/\(v.2.2.2.2.1.length:Int)=v.1/\(∀c∈v.2.2.2.2.1,ZgG c)/\Src (v.2.1,v.2.2.1,v.2.2.2.1,())) (λv=>(7-v.1).toNat) (7-p).toNat ZqZ):=λc t q f =>
   .ret ⟨⟨by dsimp only;omega,by dsimp only;omega,by dsimp only;simp only[Uh,Uf,Ug];omega,QE (by rw[Uq];exact j) q,f⟩,by dsimp only;omega⟩
  split
  ·refine(ZE T _).bind λr ⟨_,d⟩=>?_
   refine .guard (by simp only[Uh,Uf,Ug];omega) ?_;refine .guard (by simp only[Uh,Uf,Ug];omega) ?_;exact N _ _ n d
  ·refine .guard (by simp only[Uh,Uf,Ug];omega) ?_
   refine .guard (by simp only[Uh,Uf,Ug];omega) ?_;exact N _ (c0,c1,c2,()) n T
 ·rename_i g
  simp only[Uf,Ug]at g;exact Zwe H a h (by omega) (by omega) j (s:=(c0,c1,c2,())) T (λr F=>F)
theorem Zwb (f:ZpN D.1) (y:1<=cs.length) (h:cs.length<=7) (H:∀c∈cs,ZgG c) (g:i.length<=100) (p:o.length<=100) (n0:0<=n) (n1:n<=3) (A:Src s) (q:∀r,ZqZ r->Q (.inr (.inr r))) :
  YM (Zt (λv=>ZbF D P cs i o v.1 v.2.1 v.2.2.1 v.2.2.2.1 v.2.2.2.2.1) (([]:List Zu),n,s.fst,s.snd.fst,s.snd.snd.fst,())) Q:=by
 refine YM.loop (λv:Zvk=>0<=v.2.1/\v.2.1<=3/\(v.1.length:Int)+v.2.1<=3/\(∀e∈v.1,ZoD e)/\Src (v.2.2.1,v.2.2.2.1,v.2.2.2.2.1,())) (λv=>v.2.1.toNat) ⟨n0,n1,by dsimp only[List.length_nil];omega,λx C=>(by cases C),A⟩ ?_;rintro⟨l,k,c0,c1,c2,⟨⟩⟩ ⟨I,i1,E,j,T⟩;dsimp only at I i1 E j T;show YM (ZbF D P cs i o l k c0 c1 c2) _;unfold ZbF;have G:Wq (k-1)=k-1:=QR;simp only[G];split
 ·have N:∀(e:Zu) (t:Zd),ZoD e->Src t->YM (some (.inl (l++[e],k-1,t.fst,t.snd.fst,t.snd.snd.fst,()):Zvk⊕(Zo7⊕(Zk9⊕(Zc×Zo×Zd)))))
    (Rnd (λv:Zvk=>0<=v.2.1/\v.2.1<=3/\(v.1.length:Int)+v.2.1<=3/\(∀e∈v.1,ZoD e)/\Src (v.2.2.1,v.2.2.2.1,v.2.2.2.2.1,())) (λv=>v.2.1.toNat) k.toNat Q):=λe t z B =>
   .ret ⟨⟨by dsimp only;omega,by dsimp only;omega,by dsimp only;simp only[Uh,Uf,Ug];omega,QE j z,B⟩,by dsimp only;omega⟩
  have u:∀a b:Int,ZoD ((a,b,([]:List Int),([]:List Int),([]:List Int),()):Zu):=λa b=>⟨UM _,UM _,UM _⟩;have w:∀a b c:Int,ZoD ((a,b,([]:List Int),([]:List Int),[c],()):Zu):=λa b c=>⟨UM _,UM _,UE _⟩;repeat' first
   |exact N _ _ (u _ _) (by assumption)
   |exact N _ _ (w _ _ _) (by assumption)
   |split
   |refine YM.guard (by simp only[Uh,Uf,Ug];omega) ?_
   |refine(ZE (by assumption) _).bind λ_ ⟨_,_⟩=>?_
 ·refine(ZE T 2).bind λr ⟨_,d⟩=>?_
  have m:l.length<=100:=by omega
  split
  ·refine .ret (q _ ⟨f,⟨y,h,H,g,p,m,j,?_,?_,QE ZfB ?_⟩,d⟩)
   ·show 1<=([_]++[_]).length;simp
   ·show([_]++[_]).length<=2;simp
   ·show 4<=4;omega
  ·exact .ret (q _ ⟨f,⟨y,h,H,g,p,m,j,UE _,by show 1<=2;omega,ZfB⟩,d⟩)
variable {A:List Zf×Zd}
theorem Zwf (e:ZpN D.1) (C:P.length<=78) (g:(Gk (K3 D.1)).length<=P.length) (y:1<=cs.length) (h:cs.length<=7) (H:∀c∈cs,ZgG c) (m:Src s) {Q:Zk9⊕(Zc×Zo×Zd)->Prop} (q:∀r,ZqZ r->Q (.inr r)) :
  YM (Zt (λv=>ZbG D P A cs v.1 v.2.1 v.2.2.1 v.2.2.2.1 v.2.2.2.2.1 v.2.2.2.2.2.1) (([]:List Zh),([]:List Zh),Wq ((P.length:Int)-((Gk (K3 D.1)).length:Int)),s.fst,s.snd.fst,s.snd.snd.fst,())) Q:=by
 rw[Yy (n:=(P.length:Int)-((Gk (K3 D.1)).length:Int))];refine YM.loop (λv:Zo7=>0<=v.2.2.1/\v.2.2.1<=(P.length:Int)/\(v.1.length:Int)<=v.2.2.1/\(v.2.1.length:Int)<=v.2.2.1/\Src (v.2.2.2.1,v.2.2.2.2.1,v.2.2.2.2.2.1,())) (λv=>(100-v.2.2.1).toNat)
  ⟨by dsimp only;omega,by dsimp only;omega,by dsimp only[List.length_nil];omega,by dsimp only[List.length_nil];omega,m⟩ ?_
 rintro⟨i,o,p,c0,c1,c2,⟨⟩⟩ ⟨I,i1,w,z,T⟩;dsimp only at I i1 w z T;show YM (ZbG D P A cs i o p c0 c1 c2) _;unfold ZbG;have G:Wq (p+1)=p+1:=QR;simp only[G];split
 ·rename_i l
  have N:∀(a b:List Zh) (t:Zd),(a.length:Int)<=p+1->(b.length:Int)<=p+1->Src t->YM (some (.inl (a,b,p+1,t.fst,t.snd.fst,t.snd.snd.fst,()):Zo7⊕(Zk9⊕(Zc×Zo×Zd))))
    (Rnd (λv:Zo7=>0<=v.2.2.1/\v.2.2.1<=(P.length:Int)/\(v.1.length:Int)<=v.2.2.1/\(v.2.1.length:Int)<=v.2.2.1/\Src (v.2.2.2.1,v.2.2.2.2.1,v.2.2.2.2.2.1,())) (λv=>(100-v.2.2.1).toNat) (100-p).toNat Q):=λa b t j k u =>
   .ret ⟨⟨by dsimp only;omega,by dsimp only;omega,j,k,u⟩,by dsimp only;omega⟩
  refine(ZE T 60).bind λr1 ⟨_,d⟩=>?_;refine(ZE d _).bind λr2 ⟨_,f⟩=>?_;refine(ZE f 30).bind λR ⟨_,B⟩=>?_;refine .at I l λx _ _=>?_;repeat' first
   |exact N _ _ _ (by omega) (by omega) (by assumption)
   |exact N _ _ _ (by first|omega|(simp only[Uh,Uf,Ug];omega)) (by first|omega|(simp only[Uh,Uf,Ug];omega)) (by assumption)
   |split
   |refine YM.guard (by simp only[Uh,Uf,Ug];omega) ?_
   |refine(ZE (by assumption) _).bind λ_ ⟨_,_⟩=>?_
 ·refine(ZE T 3).bind λr ⟨⟨a,b⟩,d⟩=>?_
  exact Zwb e y h H (by omega) (by omega) a (by omega) d (λr F=>q r F)
theorem ZvL (a:ZpN D.1) (b:P.length<=78) (g:(Gk (K3 D.1)).length<=P.length) (m:1<=A.1.length/\A.1.length<=7) (h:∀c∈A.1,ZgG c) (f:Src s) :
  YM (Zt (λv=>ZbH D P A v.1 v.2.1 v.2.2.1 v.2.2.2.1 v.2.2.2.2.1) ((0:Int),s.fst,s.snd.fst,s.snd.snd.fst,([]:List Zf),())) ZqZ:=by
 refine YM.loop (λv:Zk9=>0<=v.1/\v.1<=7/\(v.2.2.2.2.1.length:Int)=v.1/\(∀c∈v.2.2.2.2.1,ZgG c)/\Src (v.2.1,v.2.2.1,v.2.2.2.1,())) (λv=>(7-v.1).toNat)
  ⟨by dsimp only;omega,by dsimp only;omega,rfl,λx l=>(by cases l),f⟩ ?_
 rintro⟨p,c0,c1,c2,cs,⟨⟩⟩ ⟨i,i1,I,j,T⟩;dsimp only at i i1 I j T;show YM (ZbH D P A p c0 c1 c2 cs) _;unfold ZbH;have G:Wq (p+1)=p+1:=QR;simp only[G];split
 ·rename_i H
  have e:p<7:=by omega
  refine .at i H λx l _=>?_;have n:ZgG x:=h x l;have N:∀(c:Zf) (t:Zd),ZgG c->Src t->YM (some (.inl (p+1,t.fst,t.snd.fst,t.snd.snd.fst,([]:List Zf)++cs++[c],()):Zk9⊕(Zc×Zo×Zd)))
    (Rnd (λv:Zk9=>0<=v.1/\v.1<=7/\(v.2.2.2.2.1.length:Int)=v.1/\(∀c∈v.2.2.2.2.1,ZgG c)/\Src (v.2.1,v.2.2.1,v.2.2.2.1,())) (λv=>(7-v.1).toNat) (7-p).toNat ZqZ):=λc t q k =>
   .ret ⟨⟨by dsimp only;omega,by dsimp only;omega,by dsimp only;simp only[Uh,Uf,Ug];omega,QE (by rw[Uq];exact j) q,k⟩,by dsimp only;omega⟩
  split
  ·refine(ZE T _).bind λr ⟨_,d⟩=>?_
   refine .guard (by simp only[Uh,Uf,Ug];omega) ?_;refine .guard (by simp only[Uh,Uf,Ug];omega) ?_;exact N _ _ n d
  ·refine .guard (by simp only[Uh,Uf,Ug];omega) ?_
   refine .guard (by simp only[Uh,Uf,Ug];omega) ?_;exact N _ (c0,c1,c2,()) n T
 ·rename_i H
  exact Zwf a b g (by omega) (by omega) j (s:=(c0,c1,c2,())) T (λr F=>F)
theorem Zwc (f:ZpN D.1) (y:1<=cs.length) (h:cs.length<=7) (H:∀c∈cs,ZgG c) (g:i.length<=100) (p:o.length<=100) (n0:0<=n) (n1:n<=3) (A:Src s) (q:∀r,ZqZ r->Q (.inr (.inr r))) :
  YM (Zt (λv=>ZbI D P cs i o v.1 v.2.1 v.2.2.1 v.2.2.2.1 v.2.2.2.2.1) (([]:List Zu),n,s.fst,s.snd.fst,s.snd.snd.fst,())) Q:=by
 refine YM.loop (λv:Zvk=>0<=v.2.1/\v.2.1<=3/\(v.1.length:Int)+v.2.1<=3/\(∀e∈v.1,ZoD e)/\Src (v.2.2.1,v.2.2.2.1,v.2.2.2.2.1,())) (λv=>v.2.1.toNat) ⟨n0,n1,by dsimp only[List.length_nil];omega,λx C=>(by cases C),A⟩ ?_;rintro⟨l,k,c0,c1,c2,⟨⟩⟩ ⟨I,i1,E,j,T⟩;dsimp only at I i1 E j T;show YM (ZbI D P cs i o l k c0 c1 c2) _;unfold ZbI;have G:Wq (k-1)=k-1:=QR;simp only[G];split
 ·have N:∀(e:Zu) (t:Zd),ZoD e->Src t->YM (some (.inl (l++[e],k-1,t.fst,t.snd.fst,t.snd.snd.fst,()):Zvk⊕(Zo7⊕(Zk9⊕(Zc×Zo×Zd)))))
    (Rnd (λv:Zvk=>0<=v.2.1/\v.2.1<=3/\(v.1.length:Int)+v.2.1<=3/\(∀e∈v.1,ZoD e)/\Src (v.2.2.1,v.2.2.2.1,v.2.2.2.2.1,())) (λv=>v.2.1.toNat) k.toNat Q):=λe t z B =>
   .ret ⟨⟨by dsimp only;omega,by dsimp only;omega,by dsimp only;simp only[Uh,Uf,Ug];omega,QE j z,B⟩,by dsimp only;omega⟩
  have u:∀a b:Int,ZoD ((a,b,([]:List Int),([]:List Int),([]:List Int),()):Zu):=λa b=>⟨UM _,UM _,UM _⟩;have w:∀a b c:Int,ZoD ((a,b,([]:List Int),([]:List Int),[c],()):Zu):=λa b c=>⟨UM _,UM _,UE _⟩;repeat' first
   |exact N _ _ (u _ _) (by assumption)
   |exact N _ _ (w _ _ _) (by assumption)
   |split
   |refine YM.guard (by simp only[Uh,Uf,Ug];omega) ?_
   |refine(ZE (by assumption) _).bind λ_ ⟨_,_⟩=>?_
 ·refine(ZE T 2).bind λr ⟨_,d⟩=>?_
  have m:l.length<=100:=by omega
  split
  ·refine .ret (q _ ⟨f,⟨y,h,H,g,p,m,j,?_,?_,QE ZfB ?_⟩,d⟩)
   ·show 1<=([_]++[_]).length;simp
   ·show([_]++[_]).length<=2;simp
   ·show 4<=4;omega
  ·exact .ret (q _ ⟨f,⟨y,h,H,g,p,m,j,UE _,by show 1<=2;omega,ZfB⟩,d⟩)
theorem Zwg (e:ZpN D.1) (C:P.length<=78) (g:(Gk (K3 D.1)).length<=P.length) {A:Int×Zd} (y:1<=cs.length) (h:cs.length<=7) (H:∀c∈cs,ZgG c) (m:Src s) {Q:Zk9⊕(Zc×Zo×Zd)->Prop} (q:∀r,ZqZ r->Q (.inr r)) :
  YM (Zt (λv=>ZbJ D P A cs v.1 v.2.1 v.2.2.1 v.2.2.2.1 v.2.2.2.2.1 v.2.2.2.2.2.1) (([]:List Zh),([]:List Zh),Wq ((P.length:Int)-((Gk (K3 D.1)).length:Int)),s.fst,s.snd.fst,s.snd.snd.fst,())) Q:=by
 rw[Yy (n:=(P.length:Int)-((Gk (K3 D.1)).length:Int))];refine YM.loop (λv:Zo7=>0<=v.2.2.1/\v.2.2.1<=(P.length:Int)/\(v.1.length:Int)<=v.2.2.1/\(v.2.1.length:Int)<=v.2.2.1/\Src (v.2.2.2.1,v.2.2.2.2.1,v.2.2.2.2.2.1,())) (λv=>(100-v.2.2.1).toNat)
  ⟨by dsimp only;omega,by dsimp only;omega,by dsimp only[List.length_nil];omega,by dsimp only[List.length_nil];omega,m⟩ ?_
 rintro⟨i,o,p,c0,c1,c2,⟨⟩⟩ ⟨I,i1,w,z,T⟩;dsimp only at I i1 w z T;show YM (ZbJ D P A cs i o p c0 c1 c2) _;unfold ZbJ;have G:Wq (p+1)=p+1:=QR;simp only[G];split
 ·rename_i l
  have N:∀(a b:List Zh) (t:Zd),(a.length:Int)<=p+1->(b.length:Int)<=p+1->Src t->YM (some (.inl (a,b,p+1,t.fst,t.snd.fst,t.snd.snd.fst,()):Zo7⊕(Zk9⊕(Zc×Zo×Zd))))
    (Rnd (λv:Zo7=>0<=v.2.2.1/\v.2.2.1<=(P.length:Int)/\(v.1.length:Int)<=v.2.2.1/\(v.2.1.length:Int)<=v.2.2.1/\Src (v.2.2.2.1,v.2.2.2.2.1,v.2.2.2.2.2.1,())) (λv=>(100-v.2.2.1).toNat) (100-p).toNat Q):=λa b t j k u =>
   .ret ⟨⟨by dsimp only;omega,by dsimp only;omega,j,k,u⟩,by dsimp only;omega⟩
  refine(ZE T 60).bind λr1 ⟨_,d⟩=>?_;refine(ZE d _).bind λr2 ⟨_,f⟩=>?_;refine(ZE f 30).bind λR ⟨_,B⟩=>?_;refine .at I l λx _ _=>?_;repeat' first
   |exact N _ _ _ (by omega) (by omega) (by assumption)
   |exact N _ _ _ (by first|omega|(simp only[Uh,Uf,Ug];omega)) (by first|omega|(simp only[Uh,Uf,Ug];omega)) (by assumption)
   |split
   |refine YM.guard (by simp only[Uh,Uf,Ug];omega) ?_
   |refine(ZE (by assumption) _).bind λ_ ⟨_,_⟩=>?_
 ·refine(ZE T 3).bind λr ⟨⟨a,b⟩,d⟩=>?_
  exact Zwc e y h H (by omega) (by omega) a (by omega) d (λr F=>q r F)
theorem ZvM (H:ZpN D.1) (a:P.length<=78) (h:(Gk (K3 D.1)).length<=P.length) {A:Int×Zd} (e:Src s) :
  YM (Zt (λv=>Zaa D P A v.1 v.2.1 v.2.2.1 v.2.2.2.1 v.2.2.2.2.1) ((0:Int),s.fst,s.snd.fst,s.snd.snd.fst,([]:List Zf),())) ZqZ:=by
 refine YM.loop (λv:Zk9=>0<=v.1/\v.1<=7/\(v.2.2.2.2.1.length:Int)=v.1/\(∀c∈v.2.2.2.2.1,ZgG c)/\Src (v.2.1,v.2.2.1,v.2.2.2.1,())) (λv=>(7-v.1).toNat)
  ⟨by dsimp only;omega,by dsimp only;omega,rfl,λx l=>(by cases l),e⟩ ?_
 rintro⟨p,c0,c1,c2,cs,⟨⟩⟩ ⟨i,i1,I,j,T⟩;dsimp only at i i1 I j T;show YM (Zaa D P A p c0 c1 c2 cs) _;unfold Zaa;have G:Wq (p+1)=p+1:=QR;simp only[G];split
 ·rename_i g
  have b:p<7:=by simp only[Uf,Ug]at g;omega
  refine .at i g λx l _=>?_;have n:ZgG x:=by
   rw[Ut]at l;rw[l];show 4<=4;omega
  have N:∀(c:Zf) (t:Zd),ZgG c->Src t->YM (some (.inl (p+1,t.fst,t.snd.fst,t.snd.snd.fst,([]:List Zf)++cs++[c],()):Zk9⊕(Zc×Zo×Zd)))
    (Rnd (λv:Zk9=>0<=v.1/\v.1<=7/\(v.2.2.2.2.1.length:Int)=v.1/\(∀c∈v.2.2.2.2.1,ZgG c)/\Src (v.2.1,v.2.2.1,v.2.2.2.1,())) (λv=>(7-v.1).toNat) (7-p).toNat ZqZ):=λc t q f =>
   .ret ⟨⟨by dsimp only;omega,by dsimp only;omega,by dsimp only;simp only[Uh,Uf,Ug];omega,QE (by rw[Uq];exact j) q,f⟩,by dsimp only;omega⟩
  split
  ·refine(ZE T _).bind λr ⟨_,d⟩=>?_
   refine .guard (by simp only[Uh,Uf,Ug];omega) ?_;refine .guard (by simp only[Uh,Uf,Ug];omega) ?_;exact N _ _ n d
  ·refine .guard (by simp only[Uh,Uf,Ug];omega) ?_
   refine .guard (by simp only[Uh,Uf,Ug];omega) ?_;exact N _ (c0,c1,c2,()) n T
 ·rename_i g
  simp only[Uf,Ug]at g;exact Zwg H a h (by omega) (by omega) j (s:=(c0,c1,c2,())) T (λr F=>F)
theorem Zwd (f:ZpN D.1) (y:1<=cs.length) (h:cs.length<=7) (H:∀c∈cs,ZgG c) (g:i.length<=100) (p:o.length<=100) (n0:0<=n) (n1:n<=3) (A:Src s) (q:∀r,ZqZ r->Q (.inr (.inr r))) :
  YM (Zt (λv=>ZbK D P cs i o v.1 v.2.1 v.2.2.1 v.2.2.2.1 v.2.2.2.2.1) (([]:List Zu),n,s.fst,s.snd.fst,s.snd.snd.fst,())) Q:=by
 refine YM.loop (λv:Zvk=>0<=v.2.1/\v.2.1<=3/\(v.1.length:Int)+v.2.1<=3/\(∀e∈v.1,ZoD e)/\Src (v.2.2.1,v.2.2.2.1,v.2.2.2.2.1,())) (λv=>v.2.1.toNat) ⟨n0,n1,by dsimp only[List.length_nil];omega,λx C=>(by cases C),A⟩ ?_;rintro⟨l,k,c0,c1,c2,⟨⟩⟩ ⟨I,i1,E,j,T⟩;dsimp only at I i1 E j T;show YM (ZbK D P cs i o l k c0 c1 c2) _;unfold ZbK;have G:Wq (k-1)=k-1:=QR;simp only[G];split
 ·have N:∀(e:Zu) (t:Zd),ZoD e->Src t->YM (some (.inl (l++[e],k-1,t.fst,t.snd.fst,t.snd.snd.fst,()):Zvk⊕(Zo7⊕(Zk9⊕(Zc×Zo×Zd)))))
    (Rnd (λv:Zvk=>0<=v.2.1/\v.2.1<=3/\(v.1.length:Int)+v.2.1<=3/\(∀e∈v.1,ZoD e)/\Src (v.2.2.1,v.2.2.2.1,v.2.2.2.2.1,())) (λv=>v.2.1.toNat) k.toNat Q):=λe t z B =>
   .ret ⟨⟨by dsimp only;omega,by dsimp only;omega,by dsimp only;simp only[Uh,Uf,Ug];omega,QE j z,B⟩,by dsimp only;omega⟩
  have u:∀a b:Int,ZoD ((a,b,([]:List Int),([]:List Int),([]:List Int),()):Zu):=λa b=>⟨UM _,UM _,UM _⟩;have w:∀a b c:Int,ZoD ((a,b,([]:List Int),([]:List Int),[c],()):Zu):=λa b c=>⟨UM _,UM _,UE _⟩;repeat' first
   |exact N _ _ (u _ _) (by assumption)
   |exact N _ _ (w _ _ _) (by assumption)
   |split
   |refine YM.guard (by simp only[Uh,Uf,Ug];omega) ?_
   |refine(ZE (by assumption) _).bind λ_ ⟨_,_⟩=>?_
 ·refine(ZE T 2).bind λr ⟨_,d⟩=>?_
  have m:l.length<=100:=by omega
  split
  ·refine .ret (q _ ⟨f,⟨y,h,H,g,p,m,j,?_,?_,QE ZfB ?_⟩,d⟩)
   ·show 1<=([_]++[_]).length;simp
   ·show([_]++[_]).length<=2;simp
   ·show 4<=4;omega
  ·exact .ret (q _ ⟨f,⟨y,h,H,g,p,m,j,UE _,by show 1<=2;omega,ZfB⟩,d⟩)
theorem Zwh (e:ZpN D.1) (C:P.length<=78) (g:(Gk (K3 D.1)).length<=P.length) (y:1<=cs.length) (h:cs.length<=7) (H:∀c∈cs,ZgG c) (m:Src s) {Q:Zk9⊕(Zc×Zo×Zd)->Prop} (q:∀r,ZqZ r->Q (.inr r)) :
  YM (Zt (λv=>Za9 D P A cs v.1 v.2.1 v.2.2.1 v.2.2.2.1 v.2.2.2.2.1 v.2.2.2.2.2.1) (([]:List Zh),([]:List Zh),Wq ((P.length:Int)-((Gk (K3 D.1)).length:Int)),s.fst,s.snd.fst,s.snd.snd.fst,())) Q:=by
 rw[Yy (n:=(P.length:Int)-((Gk (K3 D.1)).length:Int))];refine YM.loop (λv:Zo7=>0<=v.2.2.1/\v.2.2.1<=(P.length:Int)/\(v.1.length:Int)<=v.2.2.1/\(v.2.1.length:Int)<=v.2.2.1/\Src (v.2.2.2.1,v.2.2.2.2.1,v.2.2.2.2.2.1,())) (λv=>(100-v.2.2.1).toNat)
  ⟨by dsimp only;omega,by dsimp only;omega,by dsimp only[List.length_nil];omega,by dsimp only[List.length_nil];omega,m⟩ ?_
 rintro⟨i,o,p,c0,c1,c2,⟨⟩⟩ ⟨I,i1,w,z,T⟩;dsimp only at I i1 w z T;show YM (Za9 D P A cs i o p c0 c1 c2) _;unfold Za9;have G:Wq (p+1)=p+1:=QR;simp only[G];split
 ·rename_i l
  have N:∀(a b:List Zh) (t:Zd),(a.length:Int)<=p+1->(b.length:Int)<=p+1->Src t->YM (some (.inl (a,b,p+1,t.fst,t.snd.fst,t.snd.snd.fst,()):Zo7⊕(Zk9⊕(Zc×Zo×Zd))))
    (Rnd (λv:Zo7=>0<=v.2.2.1/\v.2.2.1<=(P.length:Int)/\(v.1.length:Int)<=v.2.2.1/\(v.2.1.length:Int)<=v.2.2.1/\Src (v.2.2.2.1,v.2.2.2.2.1,v.2.2.2.2.2.1,())) (λv=>(100-v.2.2.1).toNat) (100-p).toNat Q):=λa b t j k u =>
   .ret ⟨⟨by dsimp only;omega,by dsimp only;omega,j,k,u⟩,by dsimp only;omega⟩
  refine(ZE T 60).bind λr1 ⟨_,d⟩=>?_;refine(ZE d _).bind λr2 ⟨_,f⟩=>?_;refine(ZE f 30).bind λR ⟨_,B⟩=>?_;refine .at I l λx _ _=>?_;repeat' first
   |exact N _ _ _ (by omega) (by omega) (by assumption)
   |exact N _ _ _ (by first|omega|(simp only[Uh,Uf,Ug];omega)) (by first|omega|(simp only[Uh,Uf,Ug];omega)) (by assumption)
   |split
   |refine YM.guard (by simp only[Uh,Uf,Ug];omega) ?_
   |refine(ZE (by assumption) _).bind λ_ ⟨_,_⟩=>?_
 ·refine(ZE T 3).bind λr ⟨⟨a,b⟩,d⟩=>?_
  exact Zwd e y h H (by omega) (by omega) a (by omega) d (λr F=>q r F)
theorem ZvN (a:ZpN D.1) (b:P.length<=78) (g:(Gk (K3 D.1)).length<=P.length) (m:1<=A.1.length/\A.1.length<=7) (h:∀c∈A.1,ZgG c) (f:Src s) :
  YM (Zt (λv=>Zba D P A v.1 v.2.1 v.2.2.1 v.2.2.2.1 v.2.2.2.2.1) ((0:Int),s.fst,s.snd.fst,s.snd.snd.fst,([]:List Zf),())) ZqZ:=by
 refine YM.loop (λv:Zk9=>0<=v.1/\v.1<=7/\(v.2.2.2.2.1.length:Int)=v.1/\(∀c∈v.2.2.2.2.1,ZgG c)/\Src (v.2.1,v.2.2.1,v.2.2.2.1,())) (λv=>(7-v.1).toNat)
  ⟨by dsimp only;omega,by dsimp only;omega,rfl,λx l=>(by cases l),f⟩ ?_
 rintro⟨p,c0,c1,c2,cs,⟨⟩⟩ ⟨i,i1,I,j,T⟩;dsimp only at i i1 I j T;show YM (Zba D P A p c0 c1 c2 cs) _;unfold Zba;have G:Wq (p+1)=p+1:=QR;simp only[G];split
 ·rename_i H
  have e:p<7:=by omega
  refine .at i H λx l _=>?_;have n:ZgG x:=h x l;have N:∀(c:Zf) (t:Zd),ZgG c->Src t->YM (some (.inl (p+1,t.fst,t.snd.fst,t.snd.snd.fst,([]:List Zf)++cs++[c],()):Zk9⊕(Zc×Zo×Zd)))
    (Rnd (λv:Zk9=>0<=v.1/\v.1<=7/\(v.2.2.2.2.1.length:Int)=v.1/\(∀c∈v.2.2.2.2.1,ZgG c)/\Src (v.2.1,v.2.2.1,v.2.2.2.1,())) (λv=>(7-v.1).toNat) (7-p).toNat ZqZ):=λc t q k =>
   .ret ⟨⟨by dsimp only;omega,by dsimp only;omega,by dsimp only;simp only[Uh,Uf,Ug];omega,QE (by rw[Uq];exact j) q,k⟩,by dsimp only;omega⟩
  split
  ·refine(ZE T _).bind λr ⟨_,d⟩=>?_
   refine .guard (by simp only[Uh,Uf,Ug];omega) ?_;refine .guard (by simp only[Uh,Uf,Ug];omega) ?_;exact N _ _ n d
  ·refine .guard (by simp only[Uh,Uf,Ug];omega) ?_
   refine .guard (by simp only[Uh,Uf,Ug];omega) ?_;exact N _ (c0,c1,c2,()) n T
 ·rename_i H
  exact Zwh a b g (by omega) (by omega) j (s:=(c0,c1,c2,())) T (λr F=>F)
theorem Zva (n:Src s):YM (Zg8 s) ZqZ:=by
 unfold Zg8;refine(Zpb n (most:=4) (by omega) (by omega) _).bind λe ⟨b0,k⟩=>?_;have c:∀{d:Ze},Zzk d->YU d=some (ZB d)/\(ZB d).length<=78/\(Gk d).length<=(ZB d).length:=λ{d} L=>by
  refine⟨Y5 d L.few,YT L.few,?_⟩;unfold ZB;rw[Uh];have:∀(l:List Y8) (m:Nat),(cat Zgq m l).length=l.length:=by
   intro l;induction l with
   |nil=>intro m;rfl
   |cons x r I=>intro m;simp only[cat,Uh,Zgq,Uf,Ug,I];omega
  rw[this];omega
 refine(ZE k 6).bind λr1 ⟨_,H⟩=>?_;split
 ·refine(Zpb H (most:=5) (by omega) (by omega) _).bind λr2 ⟨b,j⟩=>?_
  obtain⟨e1,f,i⟩:=c b.des;refine(YM.of (a:=ZB (K3 r2.1)) e1 rfl:YM _ (λa=>a=ZB (K3 r2.1))).bind λP p=>?_;subst p;refine(Zns j).bind λR ⟨⟨q,X⟩,g⟩=>?_;split
  ·omega
  ·refine(YM.of (ZfI R.1 (Zw0 X)) trivial:YM _ (λ_=>True)).bind λok _=>?_
   split
   ·exact ZvL b f i q X g
   ·refine(ZE g 400).bind λo ⟨_,h⟩=>?_
    exact ZvK b f i h
 ·obtain⟨e1,f,i⟩:=c b0.des
  refine(YM.of (a:=ZB (K3 e.1)) e1 rfl:YM _ (λa=>a=ZB (K3 e.1))).bind λP p=>?_;subst p;refine(Zns H).bind λR ⟨⟨q,X⟩,g⟩=>?_;split
  ·omega
  ·refine(YM.of (ZfI R.1 (Zw0 X)) trivial:YM _ (λ_=>True)).bind λok _=>?_
   split
   ·exact ZvN b0 f i q X g
   ·refine(ZE g 400).bind λo ⟨_,h⟩=>?_
    exact ZvM b0 f i h
theorem ZpD {l:List Zh} (h:l.length<=1048576):sm (.sl Jz) l:=smL h (λ_ _=>⟨trivial,trivial,⟨trivial,trivial,trivial⟩,⟨trivial,trivial,trivial⟩,trivial⟩)
theorem Zxq (h:l.length<=1048576) (f:∀ c∈l,ZgG c):sm (.sl ZbL) l:=smL h (λc q=>by
 have:=f c q;unfold ZgG at this;exact ⟨smS (by show (GA c).length<=_;omega),trivial,trivial,trivial,trivial,trivial,trivial,trivial,trivial,trivial,trivial,trivial⟩)
theorem Zxs {l:List Zu} (h:l.length<=1048576) (f:∀ e∈l,ZoD e):sm (.sl Jj) l:=smL h (λe H=>by
 obtain ⟨a,b,c⟩:=f e H;exact ⟨trivial,trivial,smI (by show (G7 e).length<=_;omega),smI (by show (G5 e).length<=_;omega),smI (by show (Ho e).length<=_;omega),trivial⟩)
theorem Zxr {l:List ZA} (h:l.length<=1048576) (f:∀ c∈l,(GK c).length<=4):sm (.sl Qf) l:=smL h (λc q=>by
 have:=f c q;exact ⟨smS (by show (GK c).length<=_;omega),trivial,trivial,trivial,trivial,trivial⟩)
theorem Zx1 (m:Src s):YM (ZeI s) (λr=>ZpN r.1/\(sm Zc4 r.2.1/\(Gb r.2.1).length<=7)/\Src r.2.2):=by
 unfold ZeI;refine(Zva m).bind λd ⟨H,n,j⟩=>?_;obtain⟨c0,c1,cn,i1,o1,e1,ee,k0,k1,kn⟩:=n;refine(ZE j 24).bind λr1 ⟨_,h⟩=>?_;have S:=Zxq (by omega) cn;have i:=ZpD (l:=GN d.2.1) (by omega);have o:=ZpD (l:=Hn d.2.1) (by omega);have f:=Zxs (by omega) ee;have k:=Zxr (by omega) kn;have same:YM (some (d.1,d.2.1,r1.2)) (λr=>ZpN r.1/\(sm Zc4 r.2.1/\(Gb r.2.1).length<=7)/\Src r.2.2):=.ret ⟨H,⟨⟨S,i,o,f,k,trivial⟩,c1⟩,h⟩;split
 ·refine(ZE h 2).bind λr2 ⟨⟨a,b⟩,g⟩=>?_
  refine .at a (by simp only[Uf,Ug];omega) λx _ _=>?_;refine .at (by omega) (by show(0:Int)<((Gb d.2.1).length:Int);omega) λc e _=>?_;refine .ret ⟨H,⟨⟨Zxq ?_ (ZpR cn (cn c e)),i,o,f,k,trivial⟩,?_⟩,g⟩
  ·show(List.set (Gb d.2.1) _ _).length<=_
   rw[UZ];omega
  ·show(List.set (Gb d.2.1) _ _).length<=7
   rw[UZ];exact c1
 split
 ·split
  ·rename_i q
   refine(ZE h 2).bind λr2 ⟨⟨a,b⟩,g⟩=>?_;refine .at a (by simp only[Uf,Ug];omega) λx _ _=>?_;refine .at (by omega) q λc e _=>?_;refine .ret ⟨H,⟨⟨S,ZpD ?_,o,f,k,trivial⟩,c1⟩,g⟩;show(List.set (GN d.2.1) _ _).length<=_;rw[UZ];omega
  ·exact same
 split
 ·split
  ·rename_i q
   refine .at (by omega) q λc e _=>?_;refine .ret ⟨H,⟨⟨S,ZpD ?_,o,f,k,trivial⟩,c1⟩,h⟩;show(List.set (GN d.2.1) _ _).length<=_;rw[UZ];omega
  ·exact same
 split
 ·split
  ·rename_i q
   refine .at (by omega) q λc e _=>?_;refine .ret ⟨H,⟨⟨S,i,ZpD ?_,f,k,trivial⟩,c1⟩,h⟩;show(List.set (Hn d.2.1) _ _).length<=_;rw[UZ];omega
  ·exact same
 split
 ·refine .at (by omega) (by show(0:Int)<((GV d.2.1).length:Int);omega) λc e _=>?_
  have q:(GV d.2.1++[c]).length<=1048576:=by rw[Uh,UV];omega
  refine .guard (by show((GV d.2.1).length+1)*48<=140737488355328;omega) (.ret ⟨H,⟨⟨S,i,o,f,Zxr q (QE kn (kn c e)),trivial⟩,c1⟩,h⟩)
 split
 ·have q:(Gz d.2.1++[((0:Int),(0:Int),([]:List Int),([]:List Int),([]:List Int),())]).length<=1048576:=by rw[Uh,UV];omega
  refine .guard (by show((Gz d.2.1).length+1)*88<=140737488355328;omega) (.ret ⟨H,⟨⟨S,i,o,Zxs q (QE ee ⟨UM _,UM _,UM _⟩),k,trivial⟩,c1⟩,h⟩)
 split
 ·split
  ·rename_i q
   refine .at (by omega) q λc e _=>?_;have R:(GN d.2.1++[c]).length<=1048576:=by rw[Uh,UV];omega
   refine .guard (by show((GN d.2.1).length+1)*48<=140737488355328;omega) (.ret ⟨H,⟨⟨S,ZpD R,o,f,k,trivial⟩,c1⟩,h⟩)
  ·exact same
 split
 ·exact .ret ⟨H,⟨⟨smL (by simp) (by simp),smL (by simp) (by simp),smL (by simp) (by simp),smL (by simp) (by simp),smL (by simp) (by simp),trivial⟩,by show 0<=7;omega⟩,h⟩
 ·exact same
theorem Zre {code:List Int} (q:∀x∈code,0<=x/\x<=255) (h:code.length<=4096):YM (Zap code) (λr=>ZpN r.1/\sm Zc4 r.2.1):=by
 unfold Zap;refine(Zwr q h).bind λs H=>?_;refine(Zx1 H).bind λr ⟨b,l,k⟩=>?_;exact(ZE k _).bind λr1 ⟨_,d⟩=>(ZE d 12).bind λr2 ⟨_,f⟩=>.ret ⟨b,l.1⟩
theorem ZuV (h:Xh b):ZcW b=some (QU b:Int):=by
 have f:=h.ok.1.few;have g:=YT f;have G:=nN b;unfold ZcW;rw[ZbX b h.sm,Bq,Uc (ZR h.ok),Xm _ f,Bq,show Yt (ZB (K3 b))=some ((ZB (K3 b)).length:Int)from rfl,Bq,QR];rfl
theorem ZiO (code:List Int) (g:bnd (.sl (.int .u8)) code):JR code=some true:=by
 unfold JR Zqk;rw[Bq];by_cases h:decide ((4096:Int)<(code.length:Int))=true
 ·rw[Uc h]
 rw[Ue h];have l:code.length<=4096:=by
  simp only[Ul]at h;omega
 obtain⟨⟨b,s,c⟩,L,j,a⟩:=Zre (λx d=>g.2 x d) l;have e:sm Xi b:=j.sm;have a:sm Zc4 s:=a;rw[L,Bq];obtain⟨q,e1,f,k⟩:=ZrV b s c e a;rw[show Zbe (b,s,c).fst (b,s,c).snd.fst (b,s,c).snd.snd=some q from e1,show VP (b,s,c).fst (b,s,c).snd.fst (b,s,c).snd.snd=some q from f,Bq,Bq,Uc rfl];rcases k with⟨Q,x,v,H,d⟩|⟨Q,m⟩
 ·have i:=YT H.set.1.1.few
  have S:Zax b s=some (ZqL s,0):=by
   unfold Zax;rw[ZiH b s e a,Bq,Uc (ZR H.set),Zhr H.set.2];rfl
  have n:ZbV b=some (ZqW b,0):=by
   unfold ZbV;rw[ZbX b e,Bq,Uc (ZR H.set.1),H.new,Bq,ZkN H.blk H.view];rfl
  have X:=ZfZ H.blk;rw[Uc Q,show Zax (b,s,c).fst (b,s,c).snd.fst=_ from S,show ZbV (b,s,c).fst=_ from n,Bq,Bq,show atI (b,s,c).snd.fst.snd.snd.snd.snd.fst (b,s,c).snd.snd=some x from d,Bq,
   show Qa (b,s,c).fst x (ZqW b,(0:Int)).fst (ZqL s,(0:Int)).fst=some (q.1,0) from H.prop,Bq,Uc rfl,show Zd9 q.fst (q.fst,(0:Int)).fst=_ from ZFY H.is.tb H.is.tb,Bq,Uc (ZR rfl),show ZcW (b,s,c).fst=_ from ZuV H.blk,Bq]
  rw[UJ (by rw[show q.fst.fst.length=QU b from H.is.tb.lr])]
 ·rw[Ue Q,m]
  rfl
end Go.Proofs.YtjkccpcebpeadaaGreatDoor
