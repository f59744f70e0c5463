/-
  Plain laws: links of arcs.
-/
import Derived.Test.YtjkccpcebpeadaaGreatDoorLA
import Derived.Test.YtjkccpcebpeadaaGreatDoorM
namespace Go.Proofs.YtjkccpcebpeadaaGreatDoor
set_option linter.unusedVariables false
set_option linter.unusedSimpArgs false
open Go Go.Sx
def VF (f t a b kind i:Int):Zn:=(2*f+a,2*t+b,kind,i,())
def trs (a:ZL):List (Int×Int×Unit) :=
 if K9 a=2 then[(0,0,()),(0,1,())]else if K9 a=3 then[(1,0,()),(1,1,())]else
  if K9 a=1 then(if Gx a=1 then[(0,0,()),(1,1,())]else if Gx a=2 then[(0,1,()),(1,0,())]else[(0,0,()),(0,1,()),(1,0,()),(1,1,())])else[]
theorem Zo5 (a:ZL):QZ a=some (trs a):=by
 unfold QZ trs;repeat' split
 all_goals rfl
def Znm (a:ZL) (f t i:Int):List Zn:=(trs a).map (λp=>VF f t p.1 p.2.1 1 i)
variable (l:List Zn) (f t a:Int)
theorem ZsW (b kind i:Int) (q:l.length<=1048576) (H:0<=f/\f<=1048576:=by omega) (r:0<=t/\t<=1048576:=by omega) (m:0<=a/\a<=1:=by omega) (h:0<=b/\b<=1:=by omega) :
  J5 l f t a b kind i=some (l++[VF f t a b kind i]):=by
 unfold J5 VF;rw[Zk (by simp;omega),QP (n:=2*f),QP (n:=2*t),QP (n:=2*f+a),QP (n:=2*t+b)]
def ZAc (arc:ZL) (a b:Int):Bool :=
 if K9 arc=1 then(if Gx arc=3 then true else(decide (Gx arc=1)==decide (a=b)))else if K9 arc=2 then decide (a=0)else if K9 arc=3 then decide (a=1)else false
def Zla (arc:ZL) (f t i a b:Int):List Zn:=if ZAc arc a b=true then[VF f t a b 1 i]else[]
variable (arc:ZL)
theorem Ztk (f t i a b:Int) (l:List Zn) (q:l.length<=1048576) (H:0<=f/\f<=1048576) (r:0<=t/\t<=1048576) (m:0<=a/\a<=1) (h:0<=b/\b<=1:=by omega) :
  ZaE arc f t i a l b=some (.inl (l++Zla arc f t i a b,b+1,())):=by
 unfold ZaE Zla ZAc;rw[Qe,ZsW l f t a b 1 i q H r m h,QP (n:=b+1)];simp only[Bq];by_cases k1:K9 arc=1
 ·simp only[k1,Uk]
  by_cases s3:Gx arc=3
  ·simp only[s3,Uk]
  ·simp only[s3,Uj]
   split
   ·rfl
   ·rw[Um]
 by_cases d:K9 arc=2
 ·simp only[d,Uk,Int.reduceEq,Uj,Ul]
  split
  ·rfl
  ·rw[Um]
 by_cases Q:K9 arc=3
 ·simp only[Q,Uk,Int.reduceEq,Uj,Ul]
  split
  ·rfl
  ·rw[Um]
 ·simp only[k1,d,Q,Uj,UN,Um]
theorem Zm6 (f t i a b:Int):(Zla arc f t i a b).length<=1:=by
 unfold Zla;split<;>simp
theorem Zq6 (f t i a:Int) (l:List Zn) (q:l.length<=1048000) (h:0<=f/\f<=1048576) (r:0<=t/\t<=1048576) (m:0<=a/\a<=1:=by omega) :
  Zt (λv=>ZaE arc f t i a v.1 v.2.1) (l,(0:Int),())=some (.inl (l++Zla arc f t i a 0++Zla arc f t i a 1,a+1,())):=by
 have d:=Zm6 arc f t i a 0;have H:=Zm6 arc f t i a 1;rw[YW (v':=(l++Zla arc f t i a 0,(0:Int)+1,())) (Ztk arc f t i a 0 l (by omega) h r m),
  YW (v':=(l++Zla arc f t i a 0++Zla arc f t i a 1,(0:Int)+1+1,())) (Ztk arc f t i a (0+1) _ (by rw[Uh];omega) h r m),YF]
 simp only[ZaE];rw[Qu,QP (n:=a+1)]
theorem Zx2 (f t a:Int) (q:K9 arc=1->1<=Gx arc/\Gx arc<=3):Zla arc f t a 0 0++Zla arc f t a 0 1++(Zla arc f t a 1 0++Zla arc f t a 1 1)=Znm arc f t a:=by
 unfold Zla ZAc Znm trs;by_cases k1:K9 arc=1
 ·have h:=q k1
  by_cases s1:Gx arc=1
  ·simp[k1,s1]
  by_cases s2:Gx arc=2
  ·simp[k1,s2]
  ·have s3:Gx arc=3:=by omega
   simp[k1,s3]
 by_cases d:K9 arc=2
 ·simp[d]
 by_cases Q:K9 arc=3
 ·simp[Q]
 ·simp[k1,d,Q]
theorem Zo0 (f t a:Int) (c:l.length<=1047000) (h:0<=f/\f<=1048576) (H:0<=t/\t<=1048576) (q:K9 arc=1->1<=Gx arc/\Gx arc<=3) :
  Zh7 l arc f t a=some (l++Znm arc f t a):=by
 have d:=Zm6 arc f t a 0 0;have b:=Zm6 arc f t a 0 1;unfold Zh7;have s0:Ji arc f t a l 0=some (.inl (l++Zla arc f t a 0 0++Zla arc f t a 0 1,0+1,())):=by
  unfold Ji;rw[Qe,Zq6 arc f t a 0 l (by omega) h H]
 have s1:Ji arc f t a (l++Zla arc f t a 0 0++Zla arc f t a 0 1) 1=some (.inl (l++Zla arc f t a 0 0++Zla arc f t a 0 1++Zla arc f t a 1 0++Zla arc f t a 1 1,1+1,())):=by
  unfold Ji;rw[Qe,Zq6 arc f t a 1 _ (by simp only[Uh];omega) h H]
 rw[YW (v':=(l++Zla arc f t a 0 0++Zla arc f t a 0 1,(1:Int),())) s0,YW (v':=(l++Zla arc f t a 0 0++Zla arc f t a 0 1++Zla arc f t a 1 0++Zla arc f t a 1 1,(2:Int),())) s1,YF (r:=l++Znm arc f t a)];simp only[Ji];rw[Qu,<-Zx2 arc f t a q];simp only[Un]
def Zuw (c:Zq) (f:Int):List Zn:=cat (λi a=>Znm a (f+Gi a) (f+Gn a) (i:Int)) 0 (Ge c)
theorem ZqR (a:ZL):(trs a).length<=4:=by
 unfold trs;repeat' split
 all_goals simp
variable {b:Zc} {x:Zp}
theorem Zhp (h:Xh b) (Z:x∈K4 (K3 b)) (f:Int) (E:0<=f/\f<=1000000:=by omega) :
  ∃c,(Gh (GG b))[(GJ x).toNat]?=some c/\Zjp c/\Q0 b x f=some (Zuw c f):=by
 obtain⟨t,⟨c,H,u⟩,_⟩:=h.ok.1.2.2.1 x Z;have y:=h.ok.1.1.2.1 c (Ud H);have D:=y.2.2.1.1;refine⟨c,H,y,?_⟩;unfold Q0;rw[Qt t.1 H,Bq];refine Xx (l:=Ge c) (λi a=>Znm a (f+Gi a) (f+Gn a) (i:Int)) [] (λk a q G=>?_) ?_
 ·have o:=(y.2.2.1.2 k a q).1
  have w:=y.2.1.2.1;have s:=VJ (f:=λi a=>Znm a (f+Gi a) (f+Gn a) (i:Int)) (c:=4) (l:=(Ge c).take k) (m:=0) (λi a _=>by simp only[Znm,U5];exact ZqR a);rw[Uo]at s;simp only[Uq,X6,show(k:Int)<((Ge c).length:Int)from by omega,Uk,Zv,q,Zo5,Bq];generalize cat (λi a=>Znm a (f+Gi a) (f+Gn a) (i:Int)) 0 ((Ge c).take k)=A at s;have z:=ZqR a;have d:∀p∈trs a,(0<=p.1/\p.1<=1)/\(0<=p.2.1/\p.2.1<=1):=by
   intro p g;unfold trs at g;repeat' split at g
   all_goals (simp only[Us,UR,Kd]at g)
   all_goals first|(rcases g with rfl|rfl|rfl|rfl<;>simp)|(rcases g with rfl|rfl<;>simp)|exact g.elim
  have B:=o.1;have C:=o.2.1;refine(Xx (l:=trs a) (ρ:=(List Zn×Int×Unit)⊕List Zn) (λ_ p=>[VF (f+Gi a) (f+Gn a) p.1 p.2.1 1 (k:Int)]) A (good:=.inl (A++Znm a (f+Gi a) (f+Gn a) (k:Int),((k+1:Nat):Int),())) (λj p g F=>?_) ?_)
  ·have v:=d p (Ud g)
   have R:=VJ (f:=λ(_:Nat) (p:Int×Int×Unit)=>[VF (f+Gi a) (f+Gn a) p.1 p.2.1 1 (k:Int)]) (c:=1) (l:=(trs a).take j) (m:=0) (λ_ _ _=>by simp);rw[Uo]at R;simp only[Xn,show(j:Int)<((trs a).length:Int)from by omega,Uk,Zv,g,Bq];rw[Zk (by rw[Uh,UV];omega),Xd,QP (n:=f+Gi a),QP (n:=f+Gn a),QP (n:=2*(f+Gi a)),QP (n:=2*(f+Gn a)),QP (n:=2*(f+Gi a)+p.1),QP (n:=2*(f+Gn a)+p.2.1)];rfl
  ·have e:cat (λ(_:Nat) (p:Int×Int×Unit)=>[VF (f+Gi a) (f+Gn a) p.1 p.2.1 1 (k:Int)]) 0 (trs a)=Znm a (f+Gi a) (f+Gn a) (k:Int):=by
    unfold Znm;generalize trs a=l;have:∀(m:Nat),cat (λ(_:Nat) (p:Int×Int×Unit)=>[VF (f+Gi a) (f+Gn a) p.1 p.2.1 1 (k:Int)]) m l=l.map (λp=>VF (f+Gi a) (f+Gn a) p.1 p.2.1 1 (k:Int)):=by
     induction l with
     |nil=>intro m;rfl
     |cons p r I=>intro m;simp[cat,I]
    exact this 0
   simp only[Xn,Ui,Uj,e];rw[Xd]
 ·simp only[Uq,X6,Ui,Uj];rfl
theorem Zoq (d:Ze) (i j:Int) (h:Few d):ZdO d i j=some (ZaI (λx:Pl=>decide (x.1=i)&&decide (x.2.1=j)) (ZB d)):=by
 have f:=YT h;unfold ZdO;rw[Y5 d h,Bq];refine Jh (out:=λi=>i) (show Len (ZB d) by show List.length _<=_;omega) (λk x Z=>?_) ?_
 ·have H:=(Ub.1 Z).1
  simp only[Zex,show(k:Int)<((ZB d).length:Int)from by omega,Uk,Zv,Z,Bq,Up,Ul];grind
 ·simp only[Zex,Ui,Uj]
theorem ZpU {α β:Type} {g:Nat->α->β}:∀{l:List α} {m j:Nat},(cat (λj n=>[g j n]) m l)[j]?=(l[j]?).map (g (m+j))
 |[],m,j=>by simp[cat]
 |x::r,m,0=>by simp[cat]
 |x::r,m,j+1=>by
  simp only[cat,U0,Uq,U3];rw[ZpU (l:=r) (m:=m+1) (j:=j),show m+1+j=m+(j+1) by omega]
theorem ZjS {α β:Type} {g:Nat->α->β}:∀{l:List α} {m:Nat},(cat (λj n=>[g j n]) m l).length=l.length
 |[],m=>rfl
 |x::r,m=>by simp[cat,ZjS (l:=r)]
theorem ZfY (i:Nat) (x:Zp):(Zah i x).length=(Gu x).length:=by unfold Zah;rw[ZjS]
def fst (d:Ze) (i:Nat):Nat:=(cat Zah 0 ((K4 d).take i)).length
variable {d:Ze} {i:Nat}
theorem Zyo (Z:(K4 d)[i]?=some x):fst d (i+1)=fst d i+(Gu x).length:=by
 unfold fst;rw[ZhI Z,Uh,ZfY]
theorem ZiU (Z:(K4 d)[i]?=some x):∃B,ZB d=cat Zah 0 ((K4 d).take i)++(Zah i x++B):=by
 have l:=Ub.1 Z;have e:K4 d=(K4 d).take i++(x::(K4 d).drop (i+1)):=by
  rw[<-l.2,<-List.drop_eq_getElem_cons l.1,Kz]
 refine⟨cat Zah (i+1) ((K4 d).drop (i+1))++cat Zgq 0 (Gk d),?_⟩;unfold ZB
 conv=>lhs;rw[e]
 rw[Zi8];have q:((K4 d).take i).length=i:=by grind
 rw[q,Uw];simp only[cat,Un]
theorem ZtG (h:Few d) {j:Nat} (Z:(K4 d)[i]?=some x) (f:j<(Gu x).length:=by omega) :
  ZdO d (i:Int) (j:Int)=some ((fst d i:Int)+(j:Int)):=by
 rw[Zoq d _ _ h];obtain⟨B,c⟩:=ZiU Z;congr 1;have W:(Gu x)[j]?=some (Gu x)[j]:=Ua f;have t:∀(q:Nat) (y:Pl),(Zah i x)[q]?=some y->y.1=(i:Int)/\y.2.1=(q:Int):=by
  intro q y e;unfold Zah at e;rw[ZpU,Uw]at e;grind
 have a:∃y,(Zah i x)[j]?=some y:=⟨_,Ua (by rw[ZfY];exact f)⟩;obtain⟨y,e⟩:=a;have I:=t j y e;have:=Zmp (p:=λx:Pl=>decide (x.1=(i:Int))&&decide (x.2.1=(j:Int))) (l:=ZB d) (k:=fst d i+j) (x:=y)
  (by
   rw[c,UY (by unfold fst;omega),show fst d i+j-(cat Zah 0 ((K4 d).take i)).length=j by unfold fst;omega,Uy (by grind)];exact e)
  (by simp[I.1,I.2])
  (λq z o S=>by
   rw[c]at S;by_cases b:q<(cat Zah 0 ((K4 d).take i)).length
   ·rw[Uy b]at S
    obtain⟨Q,X,s,H⟩:=XZ.1 (Ud S);have g:Q<i:=by
     grind
    rw[Uw]at H;have:z.1=(Q:Int):=by
     unfold Zah at H;obtain⟨J,n,_,m⟩:=XZ.1 H;grind
    grind
   ·have r:q-(cat Zah 0 ((K4 d).take i)).length<j:=by unfold fst at o;omega
    grind)
 rw[this];omega
def ZlQ (b:Zc) (i:Nat) (x:Zp):List Zn:=match (Gh (GG b))[(GJ x).toNat]? with
 |some c=>Zuw c (fst (K3 b) i:Int)
 |none=>[]
def ZkP (b:Zc):List Zn:=cat (ZlQ b) 0 (K4 (K3 b))
theorem Zq7 (c:Zq) (f:Int) (h:(Ge c).length<=8):(Zuw c f).length<=32:=by
 have:=VJ (f:=λi a=>Znm a (f+Gi a) (f+Gn a) (i:Int)) (c:=4) (l:=Ge c) (m:=0) (λi a _=>by simp only[Znm,U5];exact ZqR a);unfold Zuw;omega
theorem Zzv (h:Few d) (i:Nat):fst d i<=70:=ZdK h i
theorem Zwz (h:Xh b) (i:Nat) (x:Zp) (Z:x∈K4 (K3 b)):(ZlQ b i x).length<=32:=by
 obtain⟨c,d,f,_⟩:=Zhp h Z 0;unfold ZlQ;rw[d];exact Zq7 c _ f.2.2.1.1
theorem ZhH (h:Xh b) (k:Nat):(cat (ZlQ b) 0 ((K4 (K3 b)).take k)).length<=448:=by
 have d:=h.ok.1.few.insts;have:=VJ (f:=ZlQ b) (c:=32) (l:=(K4 (K3 b)).take k) (m:=0) (λi x Z=>Zwz h i x (List.mem_of_mem_take Z));grind
theorem Zr2 (h:Xh b) (Z:(K4 (K3 b))[i]?=some x) {c:Zq} (r:(Gh (GG b))[(GJ x).toNat]?=some c) (A:List Zn) (G:A.length<=100000:=by omega) :
  Zt (λv=>Za6 b (i:Int) c v.1 v.2.1) (A,(0:Int),())=some (.inl (A++Zuw c (fst (K3 b) i:Int),((i+1:Nat):Int),())):=by
 have n:=h.ok.1.few;have I:=(Ub.1 Z).1;have t:=n.insts;have p:=Ud Z;obtain⟨_,⟨J,H,w⟩,_⟩:=h.ok.1.2.2.1 x p;rw[r]at H;injection H with H;subst H
 have y:=h.ok.1.1.2.1 c (Ud r);have F:=y.2.2.1.1;have B:=y.2.1.2.1;have u:=Zzv n i;refine Xx (l:=Ge c) (λk a=>Znm a ((fst (K3 b) i:Int)+Gi a) ((fst (K3 b) i:Int)+Gn a) (k:Int)) A (λk a g K=>?_) ?_
 ·have o:=(y.2.2.1.2 k a g).1
  have s:=VJ (f:=λk a=>Znm a ((fst (K3 b) i:Int)+Gi a) ((fst (K3 b) i:Int)+Gn a) (k:Int)) (c:=4) (l:=(Ge c).take k) (m:=0) (λi a _=>by simp only[Znm,U5];exact ZqR a);rw[Uo]at s;simp only[Za6,show(k:Int)<((Ge c).length:Int)from by omega,Uk,Zv,g,Bq];generalize cat (λk a=>Znm a ((fst (K3 b) i:Int)+Gi a) ((fst (K3 b) i:Int)+Gn a) (k:Int)) 0 ((Ge c).take k)=q at s;have C:=o.1;have D:=o.2.1;by_cases d:K9 a<=3
  ·have e1:=ZtG n Z (j:=(Gi a).toNat)
   have E:=ZtG n Z (j:=(Gn a).toNat);rw[show ((Gi a).toNat:Int)=Gi a by omega] at e1;rw[show ((Gn a).toNat:Int)=Gn a by omega] at E;rw[Uc d,e1,Bq,E,Bq,Zo0 _ a _ _ _ (by grind) (by omega) (by omega) (λz=>by
    rcases o.2.2 with hh|hh|hh
    all_goals grind),Bq,Xd]
  ·rw[Ue d,Xd]
   have e:Znm a ((fst (K3 b) i:Int)+Gi a) ((fst (K3 b) i:Int)+Gn a) (k:Int)=[]:=by
    unfold Znm trs;grind
   grind
 ·simp only[Za6,Ui,Uj]
  rw[Xd];rfl
def ZxX (d:Ze) (n:Int):List Zn:=cat (λj s=>[VF (ZhL d n) s 0 0 2 (j:Int),VF (ZhL d n) s 1 1 2 (j:Int)]) 0 (Zae d n)
theorem ZyK (h:Few d) (n:Int):(ZxX d n).length<=156:=by
 have H:=VJ (f:=λj s=>[VF (ZhL d n) s 0 0 2 (j:Int),VF (ZhL d n) s 1 1 2 (j:Int)]) (c:=2) (l:=Zae d n) (m:=0) (λ_ _ _=>by simp);have a:=Zeg n (ZB d) 0;have g:=YT h;unfold ZxX;have:(Zae d n).length<=78:=by unfold Zae;omega
 omega
theorem Zra {α β γ:Type} (f:Nat->List γ):∀(l:List α) (r:List β) (m:Nat),l.length=r.length->cat (λk _=>f k) m l=cat (λk _=>f k) m r
 |[],[],_,_=>rfl
 |[],_::_,_,h=>by simp at h
 |_::_,[],_,h=>by simp at h
 |_::l,_::r,m,h=>by simp only[cat];rw[Zra f l r (m+1) (by simpa using h)]
def Zt3 (b:Zc):List Zn:=cat (λv _=>ZxX (K3 b) (v:Int)) 0 (Gl b)
def Zm (b:Zc):List Zn:=ZkP b++Zt3 b
variable {α:Type}
theorem ZjR (h:Xh b) (l:List α):(cat (λv _=>ZxX (K3 b) (v:Int)) 0 l).length<=156*l.length :=
 VJ (f:=λv _=>ZxX (K3 b) (v:Int)) (c:=156) (l:=l) (m:=0) (λv _ _=>ZyK h.ok.1.few _)
theorem ZhS (h:Xh b):(ZkP b).length<=448:=by
 have:=ZhH h (K4 (K3 b)).length;rw[Ur]at this;exact this
theorem Ztv (h:Xh b) {v:Nat} (a:v<(Gp (K3 b)).length):0<=ZhL (K3 b) (v:Int)/\ZhL (K3 b) (v:Int)<((ZB (K3 b)).length:Int):=by
 obtain⟨q,y,H,_,e,_⟩:=Ztx h.ok.1 (Zkc h.sm).2.1 a;grind
theorem Zdh (h:Xh b):Za5 b=some (Zm b):=by
 have d:=h.ok.1.few;have t:=d.insts;have n:=h.ok.1.2.1.2.1;have w:=YT d;unfold Za5;refine Xx (l:=K4 (K3 b)) (ZlQ b) [] (λi x Z C=>?_) ?_
 ·have p:=Ud Z
  obtain⟨r,⟨c,H,u⟩,_⟩:=h.ok.1.2.2.1 x p;have q:=ZhH h i;simp only[Uq,ZdG,show(i:Int)<((K4 (K3 b)).length:Int)from by omega,Uk,Zv,Z,Bq,Qt r.1 H];rw[Zr2 h Z H _];have e:ZlQ b i x=Zuw c (fst (K3 b) i:Int):=by unfold ZlQ;rw[H]
  rw[e]
 ·have J:=ZhS h
  simp only[Uq,ZdG,Ui,Uj];refine Xx (l:=Gp (K3 b)) (λv _=>ZxX (K3 b) (v:Int)) (ZkP b) (ρ:=(List Zn×Int×Unit)⊕List Zn) (good:=.inr (Zm b)) (λv s E A=>?_) ?_
  ·have U:=Ztv h A
   have q:=ZjR h ((Gp (K3 b)).take v);rw[Uo]at q;have e1:Zc1 (K3 b) (v:Int)=some (ZhL (K3 b) (v:Int)):=Zmd _ _ d;simp only[ZdF,show(v:Int)<((Gp (K3 b)).length:Int)from by omega,Uk,e1,Bq,Zdf _ _ d];have z:(Zae (K3 b) (v:Int)).length<=78:=by
    have:=Zeg (v:Int) (ZB (K3 b)) 0;unfold Zae;omega
   generalize g:ZkP b++cat (λv _=>ZxX (K3 b) (v:Int)) 0 ((Gp (K3 b)).take v)=a;have o:a.length<=10000:=by grind
   refine Xx (l:=Zae (K3 b) (v:Int)) (λj s=>[VF (ZhL (K3 b) (v:Int)) s 0 0 2 (j:Int),VF (ZhL (K3 b) (v:Int)) s 1 1 2 (j:Int)]) a (λj y k D=>?_) ?_
   ·have B:=ZiR (Ud k)
    have R:=VJ (f:=λj s=>[VF (ZhL (K3 b) (v:Int)) s 0 0 2 (j:Int),VF (ZhL (K3 b) (v:Int)) s 1 1 2 (j:Int)]) (c:=2) (l:=(Zae (K3 b) (v:Int)).take j) (m:=0) (λ_ _ _=>by simp);rw[Uo]at R;simp only[ZdE,show(j:Int)<((Zae (K3 b) (v:Int)).length:Int)from by omega,Uk,Zv,k,Bq];rw[ZsW _ _ _ _ _ _ _ (by grind),Bq,ZsW _ _ _ _ _ _ _ (by grind),Bq,Xd];grind
   ·simp only[ZdE,Ui,Uj]
    rw[Xd];rfl
  ·simp only[ZdF,Ui,Uj]
   rw[Zra (λv=>ZxX (K3 b) (v:Int)) (Gp (K3 b)) (Gl b) 0 h.ok.2.1.symm];rfl
structure Stand (d:Ze) (n k:Nat) (l0:List Int) (l1:List (List Int)):Prop where
 n0:l0.length=n
 n1:l1.length=n
 drv:∀(v q:Nat) (y:Pl),v<n->q<k->(ZB d)[q]?=some y->Ztw (v:Int) y=true->l0[v]?=some (q:Int)
 snk:∀(v:Nat),v<n->l1[v]?=some (cat (Zgs (v:Int)) 0 ((ZB d).take k))
noncomputable def ldF (b:Zc) (v:Nat):Int:=((YE b (v:Int)).bind (λr=>r[0]?)).getD 0
noncomputable def edF (b:Zc) (v:Nat):List Int:=(XC b (v:Int)).getD []
theorem ZsS (h:Xh b):∃v,Vx b=some v/\ZG.ZB v=ZB (K3 b)/\Hf v=b/\ZG.links v=Zm b/\ZG.loads v=(List.range (Gl b).length).map (ldF b)/\ZG.Zii v=(List.range (Gl b).length).map (edF b)/\ZG.extras v=[]:=by
 have I:=h.ok.1;have K:=I.few;have V:=(Zkc h.sm).2.1;have e0:=YT K;have b9:=K.insts;have e4:=h.ok.2.1;have d0:=I.2.1.2.1;have a2:=ZhS h;unfold Vx;rw[Xm _ K,Bq];refine Zdq (l:=K4 (K3 b)) (λk v=>v.1=(fst (K3 b) k:Int)/\v.2.1=(k:Int)/\v.2.2.1=cat (ZlQ b) 0 ((K4 (K3 b)).take k)) _ ⟨rfl,rfl,rfl⟩ ?_ ?_
 ·rintro k x ⟨n,i,c,⟨⟩⟩ Z hk ⟨W,H,hc⟩
  simp only at W H hc;subst H;subst W;subst hc;have d1:=Zzv K k;have hl:=ZhH h k;obtain⟨c,h1,h2,h3⟩:=Zhp h (Ud Z) (fst (K3 b) k:Int);have d3:=Zq7 c (fst (K3 b) k:Int) h2.2.2.1.1;have d9:=K.nets x (Ud Z);simp only[JO,show(k:Int)<((K4 (K3 b)).length:Int)from by omega,Uk,Zv,Z,h3,Bq,Zao];rw[QQ];refine⟨_,rfl,?_,?_,?_⟩
  ·simp only;rw[QP,Zyo Z];omega
  ·simp only;rw[Xd]
  ·simp only
   rw[ZhI Z];congr 1;unfold ZlQ;rw[h1]
 ·rintro⟨n,i,c0,⟨⟩⟩ ⟨_,H,u⟩
  simp only at H u;subst H;rw[Ur]at u;have b0:c0.length<=448:=by rw[u];exact a2
  simp only[JO,Ui,Uj];rw[QQ,QQ,QQ,QQ,QQ];obtain⟨r,T,R,rfl,U⟩:=Zdq (l:=ZB (K3 b)) (ρ:=(Int×Int×List Zn×Unit)⊕ZG) (step:=λv=>QO b (ZB (K3 b)) c0 v.1 v.2.1 v.2.2.1) (v:=((0:Int),List.replicate (Int.toNat (↑(List.length (Gl b)):Int)) (0:Int),List.replicate (Int.toNat (↑(List.length (Gl b)):Int)) (([]:List Int)),()))
   (λk v=>v.1=(k:Int)/\Stand (K3 b) (Gl b).length k v.2.1 v.2.2.1)
   (λr=>∃R,r=.inr R/\ZG.ZB R=ZB (K3 b)/\Hf R=b/\ZG.links R=Zm b/\ZG.loads R=(List.range (Gl b).length).map (ldF b)/\ZG.Zii R=(List.range (Gl b).length).map (edF b)/\ZG.extras R=[])
   ⟨rfl,by simp,by simp,λv q y _ hq=>by omega,λv z=>by
    rw[Ki];simp only[cat];grind⟩
   (by
    rintro k x ⟨i,l0,Y,⟨⟩⟩ Z hk ⟨H,g⟩;simp only at H g;subst H;have W:=Zn7 I (Ud Z);have d8:=W.2;have b2:0<=x.2.2.1:=W.1;have e3:Y6.net x=x.2.2.1:=rfl;simp only[QO,show(k:Int)<((ZB (K3 b)).length:Int)from by omega,Uk,Zv,Z,Bq];have o:=g.n0;have N:=g.n1;obtain⟨q,a8,_⟩:=Zfk (l:=l0) W.1;obtain⟨p,P,_⟩:=Zfk (l:=Y) W.1;have S:p=cat (Zgs x.2.2.1) 0 ((ZB (K3 b)).take k):=by
     have e:=g.snk (x.2.2.1).toNat (by omega);have e2:Y[(x.2.2.1).toNat]?=some p:=by
      have:=P;unfold atI at this;grind
     grind
    have b5:p.length<=78:=by
     rw[S];have:=Zeg x.2.2.1 ((ZB (K3 b)).take k) 0;grind
    by_cases hd:x.2.2.2.1=true
    ·rw[Uc hd,show atI l0 (Y6.net x)=some q from a8,Bq]
     refine⟨_,rfl,by simp only;rw[Xd],?_,?_,?_,?_⟩
     ·simp[o]
     ·exact N
     ·intro v X y z a6 d a
      simp only;rw[UX];by_cases t:(Y6.net x).toNat=v
      ·rw[Uc t,Qe]
       obtain⟨q',_,_,_,_,b6⟩:=Ztx I V (v:=v);have e5:Ztw (v:Int) x=true:=by
        unfold Ztw;grind
       grind
      ·rw[Ue t]
       have a7:X≠k:=by
        intro e;subst e;rw[Z]at d;injection d with d
        subst d;unfold Ztw at a;grind
       exact g.drv v X y z (by omega) d a
     ·intro v z
      simp only;rw[g.snk v z,ZhI Z];congr 1;have:Zgs (v:Int) k x=[]:=by
       unfold Zgs;grind
      grind
    ·rw[Ue hd,show atI Y (Y6.net x)=some p from P,Bq,Zk (by simp;omega)]
     refine⟨_,rfl,by simp only;rw[Xd],o,?_,?_,?_⟩
     ·simp[N]
     ·intro v X y z a6 d a
      have a7:X≠k:=by
       intro e;subst e;rw[Z]at d;injection d with d
       subst d;unfold Ztw at a;grind
      exact g.drv v X y z (by omega) d a
     ·intro v z
      simp only;rw[UX,ZhI Z];by_cases t:(Y6.net x).toNat=v
      ·have B:x.2.2.1=(v:Int):=by grind
       rw[Uc t,Qe,S,B];unfold Zgs;grind
      ·have B:¬x.2.2.1=(v:Int):=λe=>t (by grind)
       rw[Ue t,g.snk v z];have:Zgs (v:Int) k x=[]:=by unfold Zgs;rw[Ue B]
       grind)
   (by
    rintro⟨i,l0,Y,⟨⟩⟩ ⟨H,g⟩;simp only at H g;subst H;simp only[QO,Ui,Uj];have d2:=g.n0;obtain⟨r,T,R,rfl,U⟩:=Zdq (l:=Gl b) (ρ:=(Int×List Int×List (List Int)×Unit)⊕((Int×Int×List Zn×Unit)⊕ZG)) (step:=λv=>QN b (ZB (K3 b)) l0 v.1 v.2.1 v.2.2.1 v.2.2.2.1 v.2.2.2.2.1) (v:=((0:Int),([]:List Int),([]:List (List Int)),c0,Y,()))
     (λk v=>v.1=(k:Int)/\v.2.1=(List.range k).map (ldF b)/\v.2.2.1=(List.range k).map (edF b)/\v.2.2.2.1=c0++cat (λv _=>ZxX (K3 b) (v:Int)) 0 ((Gl b).take k)/\v.2.2.2.2.1=Y)
     (λr=>∃R,r=.inr (.inr R)/\ZG.ZB R=ZB (K3 b)/\Hf R=b/\ZG.links R=Zm b/\ZG.loads R=(List.range (Gl b).length).map (ldF b)/\ZG.Zii R=(List.range (Gl b).length).map (edF b)/\ZG.extras R=[])
     ⟨rfl,rfl,rfl,by simp[cat],rfl⟩
     (by
      rintro k w ⟨i,c1,c2,O,l2,⟨⟩⟩ hw hk ⟨H,E,F,G,g4⟩;simp only at H E F G g4;subst H;subst g4;have d4:O.length<=5200:=by
       have:=ZjR h ((Gl b).take k);grind
      obtain⟨nl,a5,b3⟩:=ZhW h hw;obtain⟨ed,a1,b1⟩:=ZiD h hw;have b4:=(h.ok.2.2 k w hw).1.1;have b7:c1.length=k:=by rw[E];simp
      have b8:c2.length=k:=by rw[F];simp
      have a4:ldF b k=nl[0]:=by
       unfold ldF;grind
      have J:edF b k=ed:=by
       unfold edF;grind
      have o:atI nl (0:Int)=some nl[0]:=(show nl[0]?=some nl[0]from Ua (by omega));have L:=g.snk k hk;rw[Ur]at L;obtain⟨D,dy,A,a,a0,_⟩:=Ztx I V (v:=k);have a3:=g.drv k D dy hk (Ub.1 A).1 A a;have d7:=(Ub.1 A).1;have M:l2[k]?=some (Zae (K3 b) (k:Int)):=L;have e1:(Zae (K3 b) (k:Int)).length<=78:=by
       have:=Zeg (k:Int) (ZB (K3 b)) 0;unfold Zae;omega
      simp only[QN,show(k:Int)<((Gl b).length:Int)from by omega,Uk,a5,o,a1,Bq,Zv,M];rw[Zk (by simp;omega),Zk (by simp;omega)];obtain⟨r,T,R,rfl,U⟩:=Zdq (l:=Zae (K3 b) (k:Int)) (ρ:=(Int×List Int×List (List Int)×List Zn×List (List Int)×Unit)⊕((Int×List Int×List (List Int)×Unit)⊕((Int×Int×List Zn×Unit)⊕ZG))) (step:=λv=>QM l0 (k:Int) c1 c2 l2 nl[0] ed (Zae (K3 b) (k:Int)) v.1 v.2.1) (v:=((0:Int),O,()))
       (λm v=>v.1=(m:Int)/\v.2.1=O++cat (λj s=>[VF (ZhL (K3 b) (k:Int)) s 0 0 2 (j:Int),VF (ZhL (K3 b) (k:Int)) s 1 1 2 (j:Int)]) 0 ((Zae (K3 b) (k:Int)).take m))
       (λr=>∃R,r=.inl R/\R.1=((k+1:Nat):Int)/\R.2.1=(List.range (k+1)).map (ldF b)/\R.2.2.1=(List.range (k+1)).map (edF b)/\R.2.2.2.1=c0++cat (λv _=>ZxX (K3 b) (v:Int)) 0 ((Gl b).take (k+1))/\R.2.2.2.2.1=l2)
       ⟨rfl,by simp[cat]⟩
       (by
        rintro m y ⟨i,Q,⟨⟩⟩ d hm ⟨H,C⟩;simp only at H C;subst H;have e6:=ZiR (Ud d);have d5:Q.length<=6000:=by
         have:=VJ (f:=λj s=>[VF (ZhL (K3 b) (k:Int)) s 0 0 2 (j:Int),VF (ZhL (K3 b) (k:Int)) s 1 1 2 (j:Int)]) (c:=2) (l:=(Zae (K3 b) (k:Int)).take m) (m:=0) (λ_ _ _=>by simp);grind
        simp only[QM,show(m:Int)<((Zae (K3 b) (k:Int)).length:Int)from by omega,Uk,Zv,d,Bq];have st:∀(j:Nat) (c5:List Zn),j<2->c5.length<=6100->Qi l0 (k:Int) (m:Int) y (j:Int) c5=some (.inl (((j+1:Nat):Int),c5++[VF (D:Int) y (j:Int) (j:Int) 2 (m:Int)],())):=by
         intro j c5 hj d6;simp only[Qi,show(j:Int)<(2:Int)from by omega,Uk,Zv,a3,Bq];rw[Zk (by simp;omega),QP (n:=2*(D:Int)),QP (n:=2*(D:Int)+(j:Int)),QP (n:=2*y),QP (n:=2*y+(j:Int)),Xd];rfl
        have s0:=st 0 Q (by omega) (by omega);have s1:=st 1 (Q++[VF (D:Int) y ((0:Nat):Int) ((0:Nat):Int) 2 (m:Int)]) (by omega) (by simp;omega);have a9:Zt (λv=>Qi l0 (k:Int) (m:Int) y v.1 v.2.1) ((0:Int),Q,())=some (.inl (((m+1:Nat):Int),Q++[VF (D:Int) y ((0:Nat):Int) ((0:Nat):Int) 2 (m:Int)]++[VF (D:Int) y ((1:Nat):Int) ((1:Nat):Int) 2 (m:Int)],())):=by
         rw[YW (v':=(((0+1:Nat):Int),Q++[VF (D:Int) y ((0:Nat):Int) ((0:Nat):Int) 2 (m:Int)],())) s0,YW (v':=(((1+1:Nat):Int),Q++[VF (D:Int) y ((0:Nat):Int) ((0:Nat):Int) 2 (m:Int)]++[VF (D:Int) y ((1:Nat):Int) ((1:Nat):Int) 2 (m:Int)],())) s1,YF];simp only[Qi];rw[Qu,Xd]
        refine ⟨_,a9,rfl,?_⟩;simp only;rw[C,ZhI d,a0];simp only[Un,U0,Uq,Int.natCast_zero,Int.natCast_one])
       (by
        rintro⟨i,Q,⟨⟩⟩ ⟨H,C⟩;simp only at H C;subst H;rw[Ur]at C;simp only[QM,Ui,Uj];refine⟨_,rfl,_,rfl,by simp only;rw[Xd],by simp only;rw[E,List.range_succ,Kp,List.map_singleton,a4],by simp only;rw[F,List.range_succ,Kp,List.map_singleton,J],?_,?_⟩
        ·simp only
         rw[C,G,ZhI hw,Un];rfl
        ·simp only
         apply UI;grind)
      grind)
     (by
      rintro ⟨i,c1,c2,O,l2,⟨⟩⟩ ⟨H,E,F,G,g4⟩;simp only at H G;subst H;rw[Ur] at G;simp only[QN,Ui,Uj];refine ⟨_,rfl,_,rfl,rfl,rfl,?_,E,F,rfl⟩;show O=Zm b;rw[G,u];rfl)
    grind)
  grind
def ZaB (n:Nat) (br:List Int):List Bool:=(List.range n).map (λ(k:Nat)=>!decide ((k:Int)∈br))
theorem Qo (n:Nat) (br:List Int):(ZaB n br).length=n:=by simp[ZaB]
variable (l:List Int)
theorem Zhh (x:Int) (q:l.length<=1048576):Ze2 l x=some (decide (x∈l)):=by
 unfold Ze2;rw[Jh (l:=l) (p:=λy=>decide (y=x)) (out:=λi=>decide (0<=i)) (show List.length _<=_ by omega) (λk y e=>by
  have H:=(Ub.1 e).1;simp only[Ze3,show (k:Int)<(l.length:Int) from by omega,Uk,Zv,e,Bq,Ul];split;all_goals simp_all) (by simp only[Ze3,Ui,Uj];rfl)]
 congr 1;rw[Kx,Vr,KN];grind
theorem Zgu (L:List Zn) (br:List Int) (n:L.length<=6000) (b:br.length<=1048576):ZdP L br=some (ZaB L.length br):=by
 have e:cat (λk (_:Zn)=>[!decide ((k:Int)∈br)]) 0 L=ZaB L.length br:=by
  apply UI;intro j;rw[ZpU];unfold ZaB;grind
 unfold ZdP;refine Xx (l:=L) (λk (_:Zn)=>[!decide ((k:Int)∈br)]) [] (λk x Z H=>?_) ?_
 ·have d:(cat (λk (_:Zn)=>[!decide ((k:Int)∈br)]) 0 (L.take k)).length=(L.take k).length:=ZjS
  rw[Uo]at d;simp only[Uq,Zez,show(k:Int)<(L.length:Int)from by omega,Uk,Zhh br _ b,Bq];rw[Zk (by grind),Xd]
 ·simp only[Uq,Zez,Ui,Uj,e]
variable {n:Nat}
theorem Zpr {s:List Int} {x:Int} (k:0<=x:=by omega) (d:x<(n:Int):=by omega):List.set (ZaB n s) (Int.toNat x) false=ZaB n (s++[x]):=by
 apply UI;intro j;rw[UX];unfold ZaB;grind
theorem ZuG (v:ZG) (br:List Int) (m:(ZG.links v).length<=6000) (a:Zhj br 0 (((ZG.links v).length:Int)-1)) (c:br.length<=1048576):Vn v br=some (v,ZaB (ZG.links v).length br,()):=by
 unfold Vn;rw[QQ,QQ,QQ,QQ];generalize W:(ZG.links v).length=n at *;have h:List.length (List.replicate (Int.toNat (n:Int)) false)=n:=by simp
 have D:Zt (λw=>QS v br w.1 w.2.1) ((0:Int),List.replicate n true,())=some (.inr (v,ZaB n br,())):=by
  have:=Za1 (l:=br) (ρ:=(Int×List Bool×Unit)⊕ZM) (λk=>((k:Int),ZaB n (br.take k),())) (step:=λw=>QS v br w.1 w.2.1) (good:=.inr (v,ZaB n br,()))
   (λk x Z f=>by
    have b:=a x (Ud Z);obtain ⟨y,g,_⟩:=Zfk (l:=ZaB n (br.take k)) b.1 (by rw[Qo];omega);simp only[QS,show (k:Int)<(br.length:Int) from by omega,Uk,Zv,Z,g,Bq];rw[Zpr b.1,XF Z,Xd])
   (by simp only[QS,Ui,Uj,Ur])
  have E:ZaB n (br.take 0)=List.replicate n true:=by
   apply UI;intro j;simp only[ZaB,Ki,UR,decide_false,Bool.not_false,UL,Kc];grind
  grind
 refine YC n (λk w=>w.1=(k:Int)/\w.2.1.length=n/\∀j,j<k->w.2.1[j]?=some true) _ ⟨rfl,by simp,λj d=>by omega⟩ ?_ ?_
 ·rintro k ⟨i,l,⟨⟩⟩ f ⟨H,q,s⟩
  simp only at H q s;subst H;have Z:l[k]?=some l[k]:=Ua (by omega);left;simp only[ZaY,W,h,show(k:Int)<(n:Int)from by omega,Uk,Zv,Z,Bq];refine⟨_,rfl,by simp only;rw[Xd],by simp[q],λj d=>?_⟩;grind
 ·rintro⟨i,l,⟨⟩⟩ ⟨H,q,s⟩
  simp only at H q s;subst H;have e:l=List.replicate n true:=by
   apply UI;grind
  simp only[ZaY,W,h,Ui,Uj];grind
def Zmz (n:Int) (l:List Int):Prop:=Zhj l 0 (n-1)/\Inc l
theorem ZAj {l:List Int}:Inc l<->ZeM l (λk x=>∀y,0<k->l[k-1]?=some y->y<x):=by
 constructor
 ·intro h k x Z y H e
  exact h (k-1) y x e (by grind)
 ·intro h k x y Z e
  exact h (k+1) y e x (by omega) Z
theorem Zme (n:Int) (c:l.length<=1048576) (W:0<=n/\n<=1048576:=by omega):Zfi l n=some (tr (Zmz n l)):=by
 have e1:Wq (n-1)=n-1:=QP;unfold Zfi;rw[QF (l:=l) (show List.length _<=_ by omega) (λk x=>(0<=x/\x<=n-1)/\∀ y,0<k->l[k-1]?=some y->y<x) (bad:=false) (good:=true)
  (λk x Z H _=>by
   simp only[ZcP,show(k:Int)<(l.length:Int)from by omega,Uk,Zv,Z,Bq,QT,e1];by_cases b:0<=x/\x<=n-1
   ·rw[Uc (ZR b)]
    by_cases h:(0:Int)<(k:Int)
    ·obtain⟨y,e⟩:∃y,l[k-1]?=some y:=⟨_,Ua (by omega)⟩
     rw[Uc h,Zhm,Zv,e,Bq]
     simp_all
    grind
   ·rw[Ue (λq=>b ((Xf _).1 q))]
    grind)
  (λ_=>by simp only[ZcP,Ui,Uj]),Zhz]
 congr 1;refine Xj ?_;unfold Zmz;rw[ZAj];constructor
 ·intro q
  exact⟨JA.1 (λk x Z=>(q k x Z).1),λk x Z=>(q k x Z).2⟩
 ·rintro⟨Q,a⟩ k x Z
  exact⟨Q x (Ud Z),a k x Z⟩
theorem ZsG (n:Int) (q:l.length<=1048576):((Xy l 0 n).bind λb=>if b=true then(Qz l).bind λc=>some c else some false)=some (tr (Zhj l 0 n/\Inc l)) :=
 YO (Zfj _ _ _ q) (λ_=>Zdj (Zam _ (show List.length _<=_ by omega)))
theorem ZfT (h:Xh b) {l:Zn} (q:l∈Zm b):(0<=Gc l/\Gc l<2*((ZB (K3 b)).length:Int))/\(0<=Gf l/\Gf l<2*((ZB (K3 b)).length:Int)):=by
 have I:=h.ok.1.few;unfold Zm at q;rcases Uu.1 q with q|q
 ·obtain⟨i,x,f,Z⟩:=XZ.1 q
  rw[Uw]at Z;obtain⟨G,⟨c,H,t⟩,_⟩:=h.ok.1.2.2.1 x (Ud f);have y:=h.ok.1.1.2.1 c (Ud H);unfold ZlQ at Z;rw[H]at Z;obtain⟨k,a,r,d⟩:=XZ.1 Z;have o:=(y.2.2.1.2 k a r).1;have E:=o.1;have F:=o.2.1;obtain⟨B,m⟩:=ZiU f;have n:fst (K3 b) i+(Gu x).length<=(ZB (K3 b)).length:=by
   rw[m,Uh,Uh,ZfY];unfold fst;omega
  unfold Znm at d;obtain⟨p,g,rfl⟩:=KQ.1 d;have A:(0<=p.1/\p.1<=1)/\(0<=p.2.1/\p.2.1<=1):=by
   unfold trs at g;repeat' split at g
   all_goals grind
  simp only[VF,Gc,Gf];omega
 ·obtain⟨v,w,D,Z⟩:=XZ.1 q
  rw[Uw]at Z;have C:v<(Gp (K3 b)).length:=by
   have:=(Ub.1 D).1;have:=h.ok.2.1;omega
  have L:=Ztv h C;obtain⟨j,s,u,e⟩:=XZ.1 Z;have z:=ZiR (Ud u);simp only[Us,UR,Kd]at e;rcases e with rfl|rfl
  ·simp only[VF,Gc,Gf];omega
  ·simp only[VF,Gc,Gf];omega
theorem Y2 (h:Xh b):(Zm b).length<=6000:=by
 have d:=ZhS h;have f:=ZjR h (Gl b);have g:=h.ok.2.1;have i:=h.ok.1.2.1.2.1;unfold Zm Zt3;grind
def ZBP (b:Zc) (x:Zn) (y:Pl):Prop:=GH x=1/\∃(i:Nat) (u:Zp) (c:Zq) (k:Nat) (a:ZL),y.1=(i:Int)/\(K4 (K3 b))[i]?=some u/\0<=GJ u/\(Gh (GG b))[(GJ u).toNat]?=some c/\
 (Ge c)[k]?=some a/\He x=(k:Int)/\ZcE (Gy a) true/\ZcE (GO a) true
def ZDB (b:Zc) (x:Zn) (v:Nat):Prop:=GH x=2/\∃(w:ZC) (j:Nat) (z:Int),(Gl b)[v]?=some w/\He x=(j:Int)/\(Gv w)[j]?=some z
structure Zvv (b:Zc) (x:Zn) (y:Pl) (v:Nat):Prop where
 to0:0<=Gf x
 to1:Gf x<=1000000
 place:(ZB (K3 b))[(Gf x/2).toNat]?=some y
 net:y.2.2.1=(v:Int)
 few:v<(Gl b).length
 kind:ZBP b x y\/ZDB b x v
variable {x:Zn}
theorem ZrA (h:Xh b) (l:x∈Zm b):∃y v,Zvv b x y v:=by
 have T:=h.ok.1.few;have U:=YT T;have e:=ZfT h l;have Y:=h.ok.2.1;unfold Zm at l;rcases Uu.1 l with l|l
 ·obtain⟨i,u,A,Z⟩:=XZ.1 l
  rw[Uw]at Z;obtain⟨Q,⟨c,f,R⟩,r⟩:=h.ok.1.2.2.1 u (Ud A);have P:=h.ok.1.1.2.1 c (Ud f);unfold ZlQ at Z;rw[f]at Z;obtain⟨k,a,I,g⟩:=XZ.1 Z;rw[Uw]at g;have o:=(P.2.2.1.2 k a I).1;have h1:=o.1;have h2:=o.2.1;obtain⟨B,O⟩:=ZiU A;unfold Znm at g;obtain⟨p,J,rfl⟩:=KQ.1 g;have F:(0<=p.2.1/\p.2.1<=1)/\(K9 a=1\/K9 a=2\/K9 a=3):=by
   unfold trs at J;repeat' split at J
   all_goals grind
  obtain⟨ht,hk⟩:=F;have H:ZcE (Gy a) true/\ZcE (GO a) true:=by
   rcases o.2.2 with q|q|q
   all_goals grind
  have W:(Gu u)[(Gn a).toNat]?=some ((Gu u)[(Gn a).toNat]'(by omega)):=Ua _;have t:=r _ (Ud W);generalize (Gu u)[(Gn a).toNat]'(by omega)=n at W t;have C:0<=n/\n<=((Gp (K3 b)).length:Int)-1:=t;have d:(cat Zah 0 ((K4 (K3 b)).take i)).length=fst (K3 b) i:=rfl;have E:Gf (VF ((fst (K3 b) i:Nat)+Gi a) ((fst (K3 b) i:Nat)+Gn a) p.1 p.2.1 1 (k:Int))=2*((fst (K3 b) i:Int)+Gn a)+p.2.1:=rfl;have G:((2*((fst (K3 b) i:Int)+Gn a)+p.2.1)/2).toNat=fst (K3 b) i+(Gn a).toNat:=by omega
  refine⟨((i:Int),((Gn a).toNat:Int),n,decide (((Gn a).toNat:Int)=Wq (((Gu u).length:Int)-1)),()),n.toNat,e.2.1,by grind,?_,by show n=_;omega,by omega,.inl ⟨rfl,i,u,c,k,a,rfl,A,Q.1,f,I,rfl,H.1,H.2⟩⟩;rw[E,G,O,UY (by rw[d];omega),d,Nat.add_sub_cancel_left,Uy (by rw[ZfY];omega)];unfold Zah;rw[ZpU,W,Uw];rfl
 ·obtain⟨v,w,z,Z⟩:=XZ.1 l
  rw[Uw]at Z;have M:=(Ub.1 z).1;obtain⟨j,s,L,m⟩:=XZ.1 Z;rw[Uw]at m;have V:((Gv w).length:Int)=((Zae (K3 b) (v:Int)).length:Int):=(h.ok.2.2 v w z).2.2.2.1;have X:=(Ub.1 L).1;have S:(Gv w)[j]?=some ((Gv w)[j]'(by omega)):=Ua _;obtain⟨q,y,K,N⟩:=XZ.1 (show s∈cat (Zgs (v:Int)) 0 (ZB (K3 b))from Ud L);rw[Uw]at N;have D:s=(q:Int)/\y.2.2.1=(v:Int):=by
   unfold Zgs at N;grind
  obtain⟨rfl,t⟩:=D;simp only[Us,UR,Kd]at m;rcases m with rfl|rfl
  ·refine⟨y,v,e.2.1,by grind,?_,t,M,.inr ⟨rfl,w,j,_,z,rfl,S⟩⟩
   rw[show Gf (VF (ZhL (K3 b) (v:Int)) (q:Int) 0 0 2 (j:Int))=2*(q:Int)+0 from rfl,show((2*(q:Int)+0)/2).toNat=q by omega];exact K
  ·refine⟨y,v,e.2.1,by grind,?_,t,M,.inr ⟨rfl,w,j,_,z,rfl,S⟩⟩
   rw[show Gf (VF (ZhL (K3 b) (v:Int)) (q:Int) 1 1 2 (j:Int))=2*(q:Int)+1 from rfl,show((2*(q:Int)+1)/2).toNat=q by omega];exact K
def ZxU (n r:Nat):Prop:=r*r<=n/\n<(r+1)*(r+1)
variable {r:Nat}
theorem ZCq (h:ZxU n r) (k:Nat):k<=r<->k*k<=n:=by
 constructor
 ·intro q
  exact Kg (Kk q q) h.1
 ·intro q
  by_cases c:k<=r
  ·exact c
  ·have:(r+1)*(r+1)<=k*k:=Kk (by omega) (by omega)
   have:=h.2;omega
theorem ZzF (k:Nat):(2*k)*(2*k)=4*(k*k):=by
 grind
variable {S:Nat}
theorem ZyY {R:Nat} (h:ZxU S r) (H:ZxU (4*S) R):r/500=R/1000:=by
 have e:∀q:Nat,500*q<=r<->1000*q<=R:=λq=>by
  rw[ZCq h,ZCq H,show 1000*q=2*(500*q) by omega,ZzF];omega
 have e1:=e (r/500);have f:=e (R/1000);omega
def upQ (x n:Nat):Nat:=if x%n=0 then x/n else x/n+1
theorem ZzH {x q:Nat} (W:0<n):upQ x n<=q<->x<=n*q:=by
 unfold upQ;have d:=Nat.div_add_mod x n;have f:=Nat.mod_lt x W;constructor
 ·intro h
  split at h
  ·rename_i c
   have:=Nat.mul_le_mul_left n h;omega
  ·have:=Nat.mul_le_mul_left n h
   grind
 ·intro h
  split
  ·rename_i c
   refine Nat.le_of_mul_le_mul_left (c:=n) ?_ W;omega
  ·rename_i c
   have:n*(x/n)<n*q:=by omega
   have:=Nat.lt_of_mul_lt_mul_left this;omega
theorem ZAI {R:Nat} (h:ZxU S r) (H:ZxU (4*S) R):(if r*r<S then r/500+1 else upQ r 500)=upQ (if R*R<4*S then R+1 else R) 1000:=by
 have p:∀{n x:Nat},ZxU n x->∀k,(if x*x<n then x+1 else x)<=k<->n<=k*k:=by
  intro n x Z k;split
  ·rename_i c
   constructor
   ·intro q
    have:(x+1)*(x+1)<=k*k:=Kk q q;have:=Z.2;omega
   ·intro q
    by_cases w:x+1<=k
    ·exact w
    ·have:k*k<=x*x:=Kk (by omega) (by omega)
     omega
  ·rename_i c
   have e:x*x=n:=by have:=Z.1;omega
   constructor
   ·intro q
    rw[<-e];exact Kk q q
   ·intro q
    by_cases w:x<=k
    ·exact w
    ·have:(k+1)*(k+1)<=x*x:=Kk (by omega) (by omega)
     grind
 have e1:∀q,(if r*r<S then r/500+1 else upQ r 500)<=q<->S<=(500*q)*(500*q):=λq=>by
  rw[<-p h (500*q)];split
  ·omega
  ·exact ZzH (by decide)
 have f:∀q,upQ (if R*R<4*S then R+1 else R) 1000<=q<->S<=(500*q)*(500*q):=λq=>by
  rw[ZzH (by decide),p H,show 1000*q=2*(500*q) by omega,ZzF];omega
 generalize (if r*r<S then r/500+1 else upQ r 500)=A at e1 ⊢;generalize upQ (if R*R<4*S then R+1 else R) 1000=B at f ⊢;have a:=(f A).2 ((e1 A).1 (UE _));have c:=(e1 B).2 ((f B).1 (UE _));omega
variable {ρ:Type}
theorem ZrR {H:Nat} (W:n<(H+1)*(H+1)) {step:Int×Int×Unit->Option ((Int×Int×Unit)⊕ρ)} {good:Nat->ρ}
  (b:∀o l:Nat,o<l->l<=H->step ((o:Int),(l:Int),())=some (.inl (if(o+l+1)/2*((o+l+1)/2)<=n then((((o+l+1)/2:Nat):Int),(l:Int),())else((o:Int),(((o+l+1)/2-1:Nat):Int),()))))
  (f:∀o:Nat,o<=H->step ((o:Int),(o:Int),())=some (.inr (good o))):∃r,ZxU n r/\r<=H/\Zt step ((0:Int),(H:Int),())=some (good r):=by
 obtain⟨x,e,r,rfl,E,q⟩:=Ze5 (step:=step) (v:=((0:Int),(H:Int),())) (λv=>∃o l:Nat,v=((o:Int),(l:Int),())/\o<=l/\l<=H/\o*o<=n/\n<(l+1)*(l+1)) (λv=>(v.2.1-v.1).toNat) (λx=>∃r,x=good r/\ZxU n r/\r<=H)
  ⟨0,H,rfl,by omega,by omega,by omega,W⟩ (by
   rintro _ ⟨o,l,rfl,g,y,a,h⟩;by_cases c:o<l
   ·left
    refine⟨_,b o l c y,?_,?_⟩
    ·split
     ·rename_i d
      exact⟨_,_,rfl,by omega,y,d,h⟩
     ·rename_i d
      refine⟨_,_,rfl,by omega,by omega,a,?_⟩;rw[show(o+l+1)/2-1+1=(o+l+1)/2 by omega];omega
    ·split
     ·simp only;omega
     ·simp only;omega
   ·right
    have:o=l:=by omega
    subst this;exact ⟨_,f o y,o,rfl,⟨a,h⟩,y⟩)
 grind
theorem Zzy {o l:Nat} (h:o+l<=8000000000:=by omega):Wq (Int.tdiv (Wq (Wq ((o:Int)+(l:Int))+(1:Int))) (2:Int))=(((o+l+1)/2:Nat):Int):=by
 rw[QP (n:=(o:Int)+(l:Int)),QP (n:=(o:Int)+(l:Int)+1),U8 (by omega),QP];omega
theorem Zy5 {m:Nat} (h:m<=3000000000:=by omega):Wq ((m:Int)*(m:Int))=((m*m:Nat):Int):=by
 have:=Kk h h;rw[<-Int.natCast_mul];generalize m*m=q at this ⊢;exact QP
theorem Zrr (s:S<(3000000000+1)*(3000000000+1):=by omega):∃r,ZxU S r/\r<=3000000000/\ZkO (S:Int)=some (r:Int):=by
 unfold ZkO;refine ZrR (n:=S) (H:=3000000000) (good:=λr=>(r:Int)) s (λo l t y=>?_) (λo q=>?_)
 ·show Zb3 (S:Int) (o:Int) (l:Int)=_
  unfold Zb3;rw[Qe,Zzy,Zy5];by_cases c:(o+l+1)/2*((o+l+1)/2)<=S
  ·rw[Uc c,Qe]
  ·rw[Ue c,Qu,QP,show(((o+l+1)/2:Nat):Int)-1=(((o+l+1)/2-1:Nat):Int) by omega]
 ·show Zb3 (S:Int) (o:Int) (o:Int)=_
  unfold Zb3;rw[Ue (Ui _)]
variable {m:Int}
theorem Zr4 (s:S<(2000000000+1)*(2000000000+1):=by omega):∃r,ZxU S r/\r<=2000000000/\Zfv (S:Int) m=some (if m=1 then((if r*r<S then r+1 else r:Nat):Int)else(r:Int)):=by
 unfold Zfv;refine ZrR (n:=S) (H:=2000000000) (good:=λr=>if m=1 then((if r*r<S then r+1 else r:Nat):Int)else(r:Int)) s (λo l t y=>?_) (λo q=>?_)
 ·show J4 (S:Int) m (o:Int) (l:Int)=_
  unfold J4;rw[Qe,Zzy,Zy5];by_cases c:(o+l+1)/2*((o+l+1)/2)<=S
  ·rw[Uc c,Qe]
  ·rw[Ue c,Qu,QP,show(((o+l+1)/2:Nat):Int)-1=(((o+l+1)/2-1:Nat):Int) by omega]
 ·show J4 (S:Int) m (o:Int) (o:Int)=_
  unfold J4;rw[Ue (Ui _),Zy5];by_cases k:m=1
  ·rw[Uc k,Uc k]
   by_cases c:o*o<S
   ·rw[Qe,Uc c,QP]
    rfl
   ·rw[Qu,Ue c]
  ·rw[Ue k,Ue k]
theorem Zp2 {x:Nat} (W:0<n) (Z:x<=4000000000) (N:n<=1000) (Q:m=0\/m=1):Y3 (x:Int) (n:Int) m=some (if m=1 then(upQ x n:Int)else((x/n:Nat):Int)):=by
 have e1:Int.tmod (x:Int) (n:Int)=((x%n:Nat):Int):=by rw[Int.tmod_eq_emod_of_nonneg (by omega)];omega
 have f:Int.tdiv (x:Int) (n:Int)=((x/n:Nat):Int):=by rw[U8 (by omega)];omega
 have a:=Nat.div_le_self x n;unfold Y3 upQ;rw[QQ,e1,f];clear e1 f;generalize x/n=q at a ⊢;rw[Qu,QP (n:=(q:Int))];by_cases c:x%n=0
 ·rw[Qu,Uc c]
  rcases Q with rfl|rfl<;>rfl
 ·rw[Qe,Ue c]
  rcases Q with rfl|rfl
  ·rfl
  ·rw[Uc rfl,Uc rfl,QP]
   rfl
def sqs (s d:Int):Nat:=250000*(s.natAbs*s.natAbs)+d.natAbs*d.natAbs
variable {s d:Int}
theorem ZCA (h:-1000000<=s) (f:s<=1000000) (g:0<=d) (i:d<=301000000):sqs s d<=350000000000000000/\(s.natAbs*s.natAbs:Nat)<=1000000000000/\(d.natAbs*d.natAbs:Nat)<=90601000000000000/\s*s=((s.natAbs*s.natAbs:Nat):Int)/\d*d=((d.natAbs*d.natAbs:Nat):Int):=by
 have a:=Kk (show s.natAbs<=1000000 by omega) (show s.natAbs<=1000000 by omega);have b:=Kk (show d.natAbs<=301000000 by omega) (show d.natAbs<=301000000 by omega);refine⟨?_,by omega,by omega,?_,?_⟩
 ·unfold sqs
  generalize s.natAbs*s.natAbs=x at *;generalize d.natAbs*d.natAbs=y at *;omega
 ·rw[Int.natCast_mul,Int.natAbs_mul_self']
 ·rw[Int.natCast_mul,Int.natAbs_mul_self']
theorem ZxO (b:-1000000<=s) (g:s<=1000000) (i:0<=d) (j:d<=301000000) (Q:m=0\/m=1) :
  ∃r,ZfX s d m=some r/\0<=r/\((Zfv (Wq (Wq (Wq ((1000000:Int)*s)*s)+Wq (Wq ((4:Int)*d)*d))) m).bind λl=>(Y3 l (1000:Int) m).bind λL=>some L)=some r:=by
 obtain⟨b1,N,P,e1,f⟩:=ZCA b g i j;have z:Wq (Wq (Wq (Wq ((500:Int)*s)*(500:Int))*s)+Wq (d*d))=(sqs s d:Int):=by
  have f1:(500:Int)*s*500*s=250000*(s*s):=by
   rw[<-Int.mul_assoc];congr 1;omega
  rw[QP (n:=500*s),QP (n:=500*s*500),f1,e1,f];unfold sqs;generalize s.natAbs*s.natAbs=x at *;generalize d.natAbs*d.natAbs=y at *;rw[QP (n:=250000*(x:Int)),QP (n:=(y:Int)),QP];omega
 have E:Wq (Wq (Wq ((1000000:Int)*s)*s)+Wq (Wq ((4:Int)*d)*d))=((4*sqs s d:Nat):Int):=by
  rw[QP (n:=1000000*s),QP (n:=4*d),Int.mul_assoc,Int.mul_assoc,e1,f];unfold sqs;generalize s.natAbs*s.natAbs=x at *;generalize d.natAbs*d.natAbs=y at *;rw[QP (n:=1000000*(x:Int)),QP (n:=4*(y:Int)),QP];omega
 generalize sqs s d=S at b1 z E;obtain⟨r,a,A,e⟩:=Zrr (S:=S);obtain⟨R,H,k,h⟩:=Zr4 (S:=4*S) (m:=m);unfold ZfX;rw[z,E,e,h,Bq,Bq,ZhK,Zy5];rw[show(500:Int)=((500:Nat):Int)from rfl,show(1000:Int)=((1000:Nat):Int)from rfl];rcases Q with rfl|rfl
 ·refine⟨((r/500:Nat):Int),?_,by omega,?_⟩
  ·rw[Ue (by decide),Zp2 (by omega) (by omega) (by omega) (.inl rfl),Bq,Ue (by decide)]
  ·rw[Ue (by decide),Zp2 (by omega) (by omega) (by omega) (.inl rfl),Bq,Ue (by decide),ZyY a H]
 ·have q:=ZAI a H
  refine⟨((upQ (if R*R<4*S then R+1 else R) 1000:Nat):Int),?_,by omega,?_⟩
  ·rw[Uc rfl,<-q]
   by_cases c:r*r<S
   ·rw[Qe,Uc c,U8 (by omega),QP (n:=(r:Int)/((500:Nat):Int)),QP]
    congr 1
   ·rw[Qu,Ue c,Zp2 (by omega) (by omega) (by omega) (.inr rfl),Bq,Uc rfl]
  ·rw[Uc rfl,Zp2 (by omega) (by split<;>omega) (by omega) (.inr rfl),Bq,Uc rfl]
def Zvt (e l:Int):Prop:=100<=e/\e<=l/\l<=5000
def Vd (c:ZA):Prop:=ZaK (GK c)=true/\Zvt (Hj c) (Hi c)/\Zvt (Hk c) (Hl c)
variable {c:ZA}
theorem Zy3 (h:sm Qf c):(GK c).length<=4611686018427387904:=by
 refine Zgz ?_;first|exact h.1|exact h.2.1
theorem Zkq (e l:Int):ZbY e l=some (tr (Zvt e l)):=by
 unfold ZbY Zvt;exact Qp (λ_=>Qp (λ_=>ZbT KB))
theorem ZfC (c:ZA):Zd3 c=some (tr (Vd c)):=by
 unfold Zd3;exact YO (by rw[Zhd];exact ZbT KT) (λ_=>YO (Zkq _ _) (λ_=>Zdj (Zkq _ _)))
theorem Zio (c:ZA) (h:sm Qf c):Zej c=some (tr (Vd c)):=by
 unfold Zej;rw[QF (l:=[Hj c,Hi c,Hk c,Hl c]) (show List.length _<=_ by simp) (λ_ x=>(100:Int)<=x/\x<=5000) (bad:=false) (good:=tr (ZaK (GK c)=true/\Hj c<=Hi c/\Hk c<=Hl c))
  (λk x Z H _=>by
   simp only[Zdt,show(k:Int)<(List.length [Hj c,Hi c,Hk c,Hl c]:Int)from by omega,Uk,Zv,Z,Bq,QT];constructor
   ·intro hh;rw[Uc (ZR hh)]
   ·intro hh;rw[Ue (λq=>hh ((Xf _).1 q))])
  (λ_=>by
   simp only[Zdt,Ui,Uj,Zcf _ (Zy3 h),Bq];by_cases a:ZaK (GK c)=true
   ·rw[Uc a]
    by_cases b:Hj c<=Hi c
    ·rw[Uc b]
     congr 2;exact(Zm3 (by grind)).symm
    ·rw[Ue b,ZT (λq=>b q.2.1)]
   ·rw[Ue a,ZT (λq=>a q.1)]),Zef]
 congr 1;refine Xj ?_;rw[JA];simp only[Us,UR,Kd,forall_eq_or_imp,forall_eq];unfold Vd Zvt;grind
structure VOk (b:Zc) (v:ZG):Prop where
 ZB:ZG.ZB v=ZB (K3 b)
 block:Hf v=b
 links:ZG.links v=Zm b
 loads:ZG.loads v=(List.range (Gl b).length).map (ldF b)
 Zii:ZG.Zii v=(List.range (Gl b).length).map (edF b)
 extras:ZG.extras v=[]
theorem ZxM (h:Xh b):∃v,Vx b=some v/\VOk b v:=by
 obtain⟨v,d,f,g,i,j,F,k⟩:=ZsS h;exact⟨v,d,f,g,i,j,F,k⟩
variable {y:Pl}
theorem Zql (L:Zvv b x y n):atI (ZB (K3 b)) (Wq (Int.tdiv (Gf x) (2:Int)))=some y:=by
 have k:=L.to0;have d:=L.to1;rw[U8 k,QP];exact Qt (by omega) L.place
variable {v:ZG}
theorem Zt4 (a:VOk b v) (L:Zvv b x y n):Zaz v x=some (n:Int):=by
 unfold Zaz;rw[a.ZB,Zql L,Bq,<-L.net]
theorem Zry (h:Xh b) (L:Zvv b x y n):Zgw b x=some (n:Int):=by
 unfold Zgw;rw[Y5 _ h.ok.1.few,Bq,Zql L,Bq,<-L.net]
theorem ZzG {l:List ZH} (h:ZcE l true) {n:Int} (W:0<=n):∃t,atI l (Int.tmod n (2:Int))=some t/\Jk t/\∀v∈Gr t,0<=v:=by
 have e:0<=Int.tmod n 2/\Int.tmod n 2<2:=by grind
 obtain⟨t,d,f⟩:=Zfk (l:=l) e.1 (by rw[h.1];exact e.2);exact⟨t,d,(h.2 t f).1,(h.2 t f).2 rfl⟩
variable {w:ZC} {ld:List Int}
theorem ZyL (h:Zsj b n w ld):atI ld (0:Int)=some (ldF b n):=by
 have d:=h.n1;have f:=h.nl;have e:ld[0]?=some (ld[0]'(by omega)):=Ua _;show atI ld ((0:Nat):Int)=_;rw[Zv];unfold ldF;rw[h.prog,Bq,e];rfl
theorem ZwN (h:Zsj b n w ld):edF b n=(Gv w).map (sdl w ld):=by
 unfold edF;rw[ZoI h];rfl
theorem Zpc (h:Xh b) (e:VOk b v) (L:Zvv b x y n) (w:ZBP b x y) :
  ∃a Q t,Zb5 v x=some a/\Zgv b x=some (a,ldF b n)/\atI (Gy a) (Int.tmod (Gf x) (2:Int))=some Q/\Jk Q/\atI (GO a) (Int.tmod (Gf x) (2:Int))=some t/\Jk t/\∀v∈Gr t,0<=v:=by
 obtain⟨A,i,u,c,k,a,e1,f,E,j,l,m,o,p⟩:=w;obtain⟨Q,f1,f2,_⟩:=ZzG o L.to0;obtain⟨t,F,q,r⟩:=ZzG p L.to0;have z:(Gl b)[n]?=some ((Gl b)[n]'L.few):=Ua _;obtain⟨ld,H⟩:=ZE5 h z;have g:atI (K4 (K3 b)) (G9 y)=some u:=by
  show atI _ y.1=_;rw[e1,Zv];exact f
 have G:atI (K4 (K3 b)) (Ha y)=some u:=g;have d:atI (Gh (GG b)) (GJ u)=some c:=Qt E j;have s:atI (Ge c) (He x)=some a:=by rw[m,Zv];exact l
 refine⟨a,Q,t,?_,?_,f1,f2,F,q,r⟩
 ·unfold Zb5
  rw[e.ZB,e.block,Zql L,Bq,g,Bq,d,Bq,s];rfl
 ·unfold Zgv
  rw[Y5 _ h.ok.1.few,Bq,Zql L,Bq,G,Bq,d,Bq,s,Bq,show ZF.net y=(n:Int)from L.net,H.ref,Bq,ZyL H];rfl
theorem ZtT (a:VOk b v) (W:n<(Gl b).length):atI (ZG.loads v) (n:Int)=some (ldF b n):=by
 rw[Zv,a.loads,UL,Kf W];rfl
theorem Zv1 (a:VOk b v) (W:n<(Gl b).length):atI (ZG.Zii v) (n:Int)=some (edF b n):=by
 rw[Zv,a.Zii,UL,Kf W];rfl
theorem Zwi (h:Vd c) (kind:Int) (m:Int):∃F,JM c kind m=some F/\Zc3 c kind m=some F/\0<=F/\F<=5000:=by
 obtain⟨_,⟨a1,a,i⟩,⟨b1,N,P⟩⟩:=h;unfold JM Zc3;by_cases k1:kind=1
 ·by_cases g:m=0
  ·simp only[k1,g,Uk]
   grind
  ·simp only[k1,g,Uk,Uj]
   grind
 ·by_cases g:m=0
  ·simp only[k1,g,Uk,Uj]
   grind
  ·simp only[k1,g,Uj]
   grind
theorem Zuj {q F:Int} (c:-1000000<=q) (d:q<=1000000) (F0:0<=F) (F1:F<=5000) (Q:m=0\/m=1):∃r,Zhq q F m=some r/\Y3 (Wq (q*F)) (1000:Int) m=some r/\-5000000<=r/\r<=5000000:=by
 have p:=ZnZ c d F0;obtain⟨r,E,h⟩:=Zp3 (a:=q*F) (b:=1000) (m:=m) (by omega) (by omega) (by omega) Q;have h:=h 5000000 (by omega) (by omega);unfold Zhq;rw[ZhK,QP (n:=q*F),E];grind
variable {k:Nat}
theorem Zm4 (h:Xh b) (H:VOk b v) (p:Vd c) (Z:(Zm b)[k]?=some x) (s:Int) (Q:m=0\/m=1) :
  ∃r,Jo v c (k:Int) s m=some r/\Za7 b c x s m=some r/\-5000000<=r/\r<=5000000:=by
 obtain⟨y,n,L⟩:=ZrA h (Ud Z);obtain⟨F,F1,F2,F3,F4⟩:=Zwi p (GH x) m;have t:atI (ZG.links v) (k:Int)=some x:=by rw[H.links,Zv];exact Z
 unfold Jo Za7;rw[t,Bq,Zt4 H L,Bq];rcases L.kind with d|o
 ·obtain⟨a,T,N,c1,c2,O,C,Y,D,_⟩:=Zpc h H L d
  obtain⟨q,u,M,A,B⟩:=look_eq C s (ldF b n) Q;obtain⟨r,r1,r2,R,g⟩:=Zuj A B F3 F4 Q;refine⟨r,?_,?_,R,g⟩
  ·rw[Uc d.1,ZtT H L.few,Bq,c1,Bq,O,Bq,u,Bq,F1,Bq,r1]
   rfl
  ·rw[Uc d.1,c2,Bq]
   grind
 ·obtain⟨K,w,j,z,e1,E,i⟩:=o
  obtain⟨ld,l⟩:=ZE5 h e1;obtain⟨f,f1,f2⟩:=ZqD l Q;obtain⟨G,I,J⟩:=f1 z (Ud i);obtain⟨r,r1,r2,R,g⟩:=Zuj (q:=f z) (by omega) (by omega) F3 F4 Q;have e:¬GH x=1:=by omega
  refine⟨r,?_,?_,R,g⟩
  ·rw[Ue e,Zv1 H L.few,Bq,ZwN l,E,Zv,UL,i,Kl,Bq,ZhK,G,Bq,F1,Bq,r1]
   rfl
  ·rw[Ue e,Zry h L,Bq,f2,Bq,E,Zv,UL,i,Kl,Bq,F2,Bq,r2]
   rfl
theorem ZqE (h:Xh b) (H:VOk b v) (Z:(Zm b)[k]?=some x) (s1:-1000000<=s) (s2:s<=1000000) (l:m=0\/m=1) :
  ∃r,Y9 v (k:Int) s m=some r/\Zcg b x s m=some r/\-1000000<=r/\r<=1000000:=by
 obtain⟨y,n,L⟩:=ZrA h (Ud Z);have u:atI (ZG.links v) (k:Int)=some x:=by rw[H.links,Zv];exact Z
 unfold Y9 Zcg;rw[u,Bq,Zt4 H L,Bq];rcases L.kind with c|F
 ·obtain⟨a,T,I,c1,c2,O,C,Y,D,_⟩:=Zpc h H L c
  obtain⟨q,Q,A,g,o⟩:=look_eq D s (ldF b n) l;refine⟨q,?_,?_,g,o⟩
  ·rw[Uc c.1,ZtT H L.few,Bq,c1,Bq,Y,Bq,Q,Bq,Int.min_eq_left o]
  ·rw[Uc c.1,c2,Bq]
   grind
 ·obtain⟨B,w,j,z,e1,E,i⟩:=F
  obtain⟨ld,f⟩:=ZE5 h e1;obtain⟨G,p,t⟩:=f.sink (Ud i);obtain⟨q,Q,A,g⟩:=ZxO (s:=s) (d:=sdl w ld z) (m:=m) s1 s2 p t l;have e:¬GH x=1:=by omega
  refine⟨Min.min q 1000000,?_,?_,by omega,by omega⟩
  ·rw[Ue e,Zv1 H L.few,Bq,ZwN f,E,Zv,UL,i,Kl,Bq,Q]
   rfl
  ·rw[Ue e,Zry h L,Bq]
   unfold Zi1;rw[Zv,e1,Bq,E,Zv,i,Bq,Zon f,Bq,G,Bq,g,Bq,Int.min_comm]
theorem spans_eq (h:Xh b) (a:VOk b v) (q:Vd c) (Z:(Zm b)[k]?=some x) {s:Zz} (s1:-1000000<=K8 s/\K8 s<=1000000) (s2:-1000000<=Ga s/\Ga s<=1000000) :
  ∃d o:Zz,ZaA v c (k:Int) s=some (d,o)/\ZeD b c x s=some (d,o)/\(-5000000<=K8 d/\K8 d<=5000000)/\(-5000000<=Ga d/\Ga d<=5000000)/\(-1000000<=K8 o/\K8 o<=1000000)/\(-1000000<=Ga o/\Ga o<=1000000):=by
 obtain⟨D,a1,b1,c1⟩:=Zm4 h a q Z (K8 s) (.inl rfl:(0:Int)=0\/(0:Int)=1);obtain⟨e,A,N,c2⟩:=Zm4 h a q Z (Ga s) (.inl rfl:(0:Int)=0\/(0:Int)=1);obtain⟨f,i,P,C⟩:=Zm4 h a q Z (K8 s) (.inr rfl:(1:Int)=0\/(1:Int)=1);obtain⟨g,j,Q,p⟩:=Zm4 h a q Z (Ga s) (.inr rfl:(1:Int)=0\/(1:Int)=1);obtain⟨o1,e1,f1,G⟩:=ZqE h a Z s1.1 s1.2 (.inl rfl:(0:Int)=0\/(0:Int)=1);obtain⟨O,E,f2,w⟩:=ZqE h a Z s2.1 s2.2 (.inl rfl:(0:Int)=0\/(0:Int)=1);obtain⟨m,r,F,y⟩:=ZqE h a Z s1.1 s1.2 (.inr rfl:(1:Int)=0\/(1:Int)=1);obtain⟨n,t,u,z⟩:=ZqE h a Z s2.1 s2.2 (.inr rfl:(1:Int)=0\/(1:Int)=1);have l:atI (ZG.links v) (k:Int)=some x:=by rw[a.links,Zv];exact Z
 refine⟨(Min.min D e,Max.max f g,()),(Min.min o1 O,Max.max m n,()),?_,?_,?_,?_,?_,?_⟩
 ·unfold ZaA
  rw[a1,A,i,j,l,a.extras]
  simp_all
 ·unfold ZeD
  grind
 all_goals grind
def ZcT (s:Zz):Prop:=0<=K8 s/\K8 s<=Ga s/\Ga s<=1000000
variable (s:Zz)
theorem Zbh:Za8 s=some (tr (ZcT s)):=by
 unfold Za8 ZcT;exact Qp (λ_=>Qp (λ_=>ZbT KB))
def ZaH (s:Zz):Prop:=(-1000000000<=K8 s/\K8 s<=1000000000)/\(-1000000000<=Ga s/\Ga s<=1000000000)/\K8 s<=Ga s
theorem Ja:Jm s=some (tr (ZaH s)):=by
 unfold Jm ZaH ZhQ;exact YO (Zdj (Qs _ _ _)) (λ_=>YO (Zdj (Qs _ _ _)) (λ_=>ZbT KB))
theorem ZfD:ZaW s=some (tr (ZcT s)):=by
 unfold ZaW ZhP;refine ZeO (YO (Ja s) (λ_=>YO (Zdj (Qs _ _ _)) (λ_=>Zdj (Zdj (Qs _ _ _))))) ?_;unfold ZcT ZaH;omega
theorem Zhg:Zcc s=some (tr (ZaH s)):=by
 unfold Zcc ZaH;exact YO (QT _ _ _) (λ_=>YO (QT _ _ _) (λ_=>ZbT KB))
def Zc7 (n:Int) (l:List Zj) (k:Nat) (x:Zj):Prop :=
 (0<=K7 x/\K7 x<=n-1)/\(∀y,0<k->l[k-1]?=some y->K7 y<K7 x)/\ZaH (GR x)/\ZcT (GZ x)
theorem Zk4 (h:Xh b) (l:List Zj) (j:l.length<=1048576):ZeC b l=some (tr (ZeM l (Zc7 (2*((ZB (K3 b)).length:Int)) l))):=by
 have f:=h.ok.1.few;have g:=YT f;unfold ZeC V8;rw[Y5 _ f,Bq,Bq,Yy (n:=2*((ZB (K3 b)).length:Int))];rw[QF (l:=l) (show Len l by unfold Len;omega) (Zc7 (2*((ZB (K3 b)).length:Int)) l) (bad:=false) (good:=true)
  (step:=λv=>J8 l (2*((ZB (K3 b)).length:Int)) v.1)
  (λk x Z i _=>by
   simp only[J8,show (k:Int)<(l.length:Int) from by omega,Uk,Zv,Z,Bq,QT,Zhg,Zbh,Yy (show (-9223372036854775808:Int)<=2*((ZB (K3 b)).length:Int)-1 by omega)];unfold Zc7;have J:∀ (Q:Prop),(Q<->ZaH (GR x)/\ZcT (GZ x))->((Q->(if tr (ZaH (GR x))=true then if tr (ZcT (GZ x))=true then some (.inl (Wq ((k:Int)+1),())) else some (.inr false) else some (.inr false):Option ((Int×Unit) ⊕ Bool))=some (.inl (Wq ((k:Int)+1),())))/\
     (¬Q->(if tr (ZaH (GR x))=true then if tr (ZcT (GZ x))=true then some (.inl (Wq ((k:Int)+1),())) else some (.inr false) else some (.inr false):Option ((Int×Unit) ⊕ Bool))=some (.inr false))):=by
    intro Q H;constructor
    ·intro q
     rw[Uc (ZR (H.1 q).1),Uc (ZR (H.1 q).2)]
    ·intro q
     by_cases s1:ZaH (GR x)
     ·rw[Uc (ZR s1),Ue (λs2=>q (H.2 ⟨s1,(Xf _).1 s2⟩))]
     ·rw[Ue (λs2=>s1 ((Xf _).1 s2))]
   by_cases a:0<=K7 x/\K7 x<=2*((ZB (K3 b)).length:Int)-1
   ·rw[Uc (ZR a)]
    by_cases c:k=0
    ·subst c
     rw[Ue (show ¬(0:Int)<((0:Nat):Int) by omega)];refine J _ ⟨λq=>q.2.2,λq=>⟨a,λy h=>by omega,q⟩⟩
    ·have e:l[k-1]?=some l[k-1]:=Ua (by omega)
     have I:atI l ((k:Int)-1)=some l[k-1]:=Qt (by omega) (by rw[<-e];congr 1;omega);generalize l[k-1]=y at e I;rw[Qe,QP (n:=(k:Int)-1),I,Bq];by_cases d:K7 x<=K7 y
     ·rw[Uc d]
      exact⟨λq=>by have:=q.2.1 y (by omega) e;omega,λ_=>rfl⟩
     ·rw[Ue d]
      refine J _ ⟨λq=>q.2.2,λq=>⟨a,λz _ S=>?_,q⟩⟩;rw[e]at S;injection S with S;subst S;omega
   ·rw[Ue (λq=>a ((Xf _).1 q))]
    exact ⟨λq=>absurd q.1 a,λ_=>rfl⟩)
  (λ_=>by simp only[J8,Ui,Uj]),Zhz]
theorem ZgQ (h:Xh b) (v:ZG) (j:ZG.ZB v=ZB (K3 b)) (l:List Zj) (o:l.length<=1048576):VU v l=some (tr (ZeM l (Zc7 (2*((ZB (K3 b)).length:Int)) l))):=by
 have g:=h.ok.1.few;have i:=YT g;have e:∀n,Zdc v n=some (tr (0<=n/\n<=2*((ZB (K3 b)).length:Int)-1)):=by
  intro n;unfold Zdc YP;rw[show Yt (ZG.ZB v)=some ((ZG.ZB v).length:Int)from rfl,Bq,Bq,j,Yy (n:=2*((ZB (K3 b)).length:Int)),QP];exact Zdj (Qs _ _ _)
 unfold VU;rw[QF (l:=l) (show Len l by unfold Len;omega) (Zc7 (2*((ZB (K3 b)).length:Int)) l) (bad:=false) (good:=true)
  (step:=λu=>Vf v l u.1)
  (λk x Z m _=>by
   simp only[Vf,show(k:Int)<(l.length:Int)from by omega,Uk,Zv,Z,Bq,e,Ja,ZfD];unfold Zc7;by_cases Q:0<=K7 x/\K7 x<=2*((ZB (K3 b)).length:Int)-1
   ·rw[Uc (ZR Q)]
    by_cases c:ZaH (GR x)
    ·rw[Uc (ZR c)]
     by_cases f:ZcT (GZ x)
     ·rw[Uc (ZR f)]
      by_cases a:k=0
      ·subst a
       rw[Ue (show ¬(0:Int)<((0:Nat):Int) by omega)];exact⟨λ_=>rfl,λq=>absurd ⟨Q,λy h=>by omega,c,f⟩ q⟩
      ·have H:l[k-1]?=some l[k-1]:=Ua (by omega)
       have I:atI l ((k:Int)-1)=some l[k-1]:=Qt (by omega) (by rw[<-H];congr 1;omega);generalize l[k-1]=y at H I;rw[Qe,QP (n:=(k:Int)-1),I,Bq];by_cases d:K7 x<=K7 y
       ·rw[Uc d]
        exact⟨λq=>by have:=q.2.1 y (by omega) H;omega,λ_=>rfl⟩
       ·rw[Ue d]
        refine⟨λ_=>rfl,λq=>absurd ⟨Q,λz _ S=>?_,c,f⟩ q⟩;rw[H]at S;injection S with S;subst S;omega
     ·rw[Ue (λq=>f ((Xf _).1 q))]
      exact⟨λq=>absurd q.2.2.2 f,λ_=>rfl⟩
    ·rw[Ue (λq=>c ((Xf _).1 q))]
     exact⟨λq=>absurd q.2.2.1 c,λ_=>rfl⟩
   ·rw[Ue (λq=>Q ((Xf _).1 q))]
    exact ⟨λq=>absurd q.1 Q,λ_=>rfl⟩)
  (λ_=>by simp only[Vf,Ui,Uj]),Zhz]
def Zero (s:Zz):Prop:=K8 s=0/\Ga s=0
def ZLA (t:Zr) (k:Nat) (r:Bool):Prop :=
 ∃a s,(GL t)[k]?=some a/\(GF t)[k]?=some s/\ZaH a/\ZcT s/\(r=false->Zero a/\Zero s)
def ZLM (n:Int) (t:Zr):Prop :=
 ((Gd t).length:Int)=n/\((GL t).length:Int)=n/\((GF t).length:Int)=n/\ZeM (Gd t) (ZLA t)
variable {t:Zr} {a s:Zz}
theorem ZLU {x:Bool} {n bd:ρ} (m:(GL t)[k]?=some a) (H:(GF t)[k]?=some s) :
  (ZLA t k x->((if tr (ZaH a)=true then(if tr (ZcT s)=true then(if x=true then some n else if(Decidable.decide (K8 a=(0:Int))&&Decidable.decide (Ga a=(0:Int)))=true then(if(Decidable.decide (K8 s=(0:Int))&&Decidable.decide (Ga s=(0:Int)))=true then some n else some bd)else some bd)else some bd)else some bd):Option ρ)=some n)/\
  (¬ZLA t k x->((if tr (ZaH a)=true then(if tr (ZcT s)=true then(if x=true then some n else if(Decidable.decide (K8 a=(0:Int))&&Decidable.decide (Ga a=(0:Int)))=true then(if(Decidable.decide (K8 s=(0:Int))&&Decidable.decide (Ga s=(0:Int)))=true then some n else some bd)else some bd)else some bd)else some bd):Option ρ)=some bd):=by
 have z:ZLA t k x<->ZaH a/\ZcT s/\(x=false->Zero a/\Zero s):=by
  constructor
  ·rintro⟨A,b,d,f,g⟩
   grind
  ·exact λh=>⟨a,s,m,H,h⟩
 rw[z];have S:∀u:Zz,((Decidable.decide (K8 u=(0:Int))&&Decidable.decide (Ga u=(0:Int)))=true)<->Zero u:=λu=>by
  unfold Zero;grind
 by_cases c1:ZaH a
 ·rw[Uc (ZR c1)]
  by_cases c2:ZcT s
  ·rw[Uc (ZR c2)]
   grind
  ·rw[Ue (λq=>c2 ((Xf _).1 q))]
   grind
 ·rw[Ue (λq=>c1 ((Xf _).1 q))]
  grind
theorem ZKP (h:Xh b) (v:ZG) (H:ZG.ZB v=ZB (K3 b)) (t:Zr):ZgU v t=some (tr (ZLM (2*((ZB (K3 b)).length:Int)) t)):=by
 have f:=YT h.ok.1.few;unfold ZgU YP;rw[show Yt (ZG.ZB v)=some ((ZG.ZB v).length:Int) from rfl,Bq,Bq,H,Yy (n:=2*((ZB (K3 b)).length:Int)),
  show Zil (Gd t)=some ((Gd t).length:Int) from rfl,show Zb2 (GL t)=some ((GL t).length:Int) from rfl,show Zb2 (GF t)=some ((GF t).length:Int) from rfl]
 simp only[Bq];unfold ZLM;refine Qp λQ=>Qp λd=>Qp λe=>?_;rw[QF (l:=Gd t) (show Len (Gd t) by unfold Len;omega) (ZLA t) (bad:=false) (good:=true) (step:=λv=>Zht t v.1)
  (λk x Z c _=>by
   have m:(GL t)[k]?=some ((GL t)[k]'(by omega)):=Ua _;have q:(GF t)[k]?=some ((GF t)[k]'(by omega)):=Ua _;generalize (GL t)[k]'(by omega)=a at m;generalize (GF t)[k]'(by omega)=s at q;simp only[Zht,show (k:Int)<((Gd t).length:Int) from by omega,Uk,Zv,Z,m,q,Bq,Ja,ZfD];exact ZLU m q)
  (λ_=>by simp only[Zht,Ui,Uj]),Zhz]
theorem Zm0 (h:Few (K3 b)):V8 b=some (2*((ZB (K3 b)).length:Int)):=by
 have f:=YT h;unfold V8;rw[Y5 _ h,Bq,QP]
abbrev NSt:=Option (Zz×Zz)
def ZbM:Zz:=((0:Int),(0:Int),())
def hul (a b:Zz):Zz:=(Min.min (K8 a) (K8 b),Max.max (Ga a) (Ga b),())
def ZwE (st:NSt) (a s:Zz):NSt:=match st with
 |none=>some (a,s)
 |some q=>some (hul q.1 a,hul q.2 s)
def Zqw (a d:Zz):Zz:=(Wq (K8 a+K8 d),Wq (Ga a+Ga d),())
def encI (node:Int) (st:NSt):Int×Int×Int×Int×Int×Bool×Unit:=match st with
 |none=>(node,0,0,0,0,false,())
 |some q=>(node,K8 q.1,Ga q.1,K8 q.2,Ga q.2,true,())
def ZzB (node:Int) (st:NSt):Bool×Zj:=match st with
 |none=>(false,((0:Int),ZbM,ZbM,()))
 |some q=>(true,(node,q.1,q.2,()))
theorem ZtL (a b:Zz):hul a b=hul b a:=by unfold hul;rw[Int.min_comm,Int.max_comm]
noncomputable def spn (b:Zc) (c:ZA) (x:Zn) (s:Zz):Zz×Zz:=(ZeD b c x s).getD (ZbM,ZbM)
noncomputable def ZpI (b:Zc) (c:ZA) (t:Zr) (x:Zn) (st:NSt):NSt :=
 if(atI (Gd t) (Gc x)).getD false=true then ZwE st (Zqw ((atI (GL t) (Gc x)).getD ZbM) (spn b c x ((atI (GF t) (Gc x)).getD ZbM)).1) (spn b c x ((atI (GF t) (Gc x)).getD ZbM)).2 else st
def ZxV (s:Zz):Prop:=(-1000000<=K8 s/\K8 s<=1000000)/\(-1000000<=Ga s/\Ga s<=1000000)
structure Zji (n:Nat) (t:Zr):Prop where
 lr:(Gd t).length=n
 la:(GL t).length=n
 ls:(GF t).length=n
 sl:∀s∈GF t,ZxV s
theorem Zsz (h:Xh b) (H:Zji (2*(ZB (K3 b)).length) t) (Z:x∈Zm b) :
  ∃r a s,atI (Gd t) (Gc x)=some r/\atI (GL t) (Gc x)=some a/\atI (GF t) (Gc x)=some s/\ZxV s:=by
 have f:=(ZfT h Z).1;obtain⟨r,E,_⟩:=Zfk (l:=Gd t) f.1 (by rw[H.lr];omega);obtain⟨a,m,_⟩:=Zfk (l:=GL t) f.1 (by rw[H.la];omega);obtain⟨s,q,Q⟩:=Zfk (l:=GF t) f.1 (by rw[H.ls];omega);exact⟨r,a,s,E,m,q,H.sl s Q⟩
theorem Zrp (node:Int) (st:NSt) (a s:Zz):∃j,JH (node,((encI node st).2.1,(encI node st).2.2.1,()),((encI node st).2.2.2.1,(encI node st).2.2.2.2.1,()),()) (encI node st).2.2.2.2.2.1 a s=some j/\(j.fst.fst,j.fst.snd.fst.fst,j.fst.snd.fst.snd.fst,j.fst.snd.snd.fst.fst,j.fst.snd.snd.fst.snd.fst,j.snd,())=encI node (ZwE st a s):=by
 cases st with
 |none=>exact⟨_,rfl,rfl⟩
 |some q=>exact⟨_,rfl,rfl⟩
variable {live:List Bool} {L:List Int} {node:Int}
theorem ZoP (h:Xh b) (f:VOk b v) (i:Vd c) (p:Zji (2*(ZB (K3 b)).length) t) {m:Nat} (Q:L[m]?=some (k:Int)) (Z:(Zm b)[k]?=some x) (n:m<=1048576) (st:NSt) :
  Xp (v,live,()) c t L (m:Int) (encI node st).1 (encI node st).2.1 (encI node st).2.2.1 (encI node st).2.2.2.1 (encI node st).2.2.2.2.1 (encI node st).2.2.2.2.2.1=some (.inl (((m+1:Nat):Int),encI node (ZpI b c t x st))):=by
 have y:=(Ub.1 Q).1;obtain⟨r,a,s,E,H,e,z⟩:=Zsz h p (Ud Z);obtain⟨d,o,e1,g,_⟩:=spans_eq h f i Z z.1 z.2;have l:atI (ZG.links (ZM.view ((v,live,()):ZM))) (k:Int)=some x:=by
  show atI (ZG.links v) (k:Int)=some x;rw[f.links,Zv];exact Z
 have hsp:spn b c x s=(d,o):=by unfold spn;rw[g];rfl
 have u:ZpI b c t x st=if r=true then ZwE st (Zqw a d) o else st:=by
  unfold ZpI;rw[E,H,e];simp only[UQ,hsp]
 have W:(encI node st).1=node:=by cases st<;>rfl
 obtain⟨j,J,w⟩:=Zrp node st (Zqw a d) o;unfold Xp;rw[Qe,Zv,Q,Bq,l,Bq,E,Bq,u];by_cases q:r=true
 ·rw[Uc q,Uc q,e,Bq]
  show(ZaA v c (k:Int) s).bind _=_;rw[e1,Bq,H,Bq];show(JH _ _ (Zqw a d) o).bind _=_;rw[W,J,Bq,Xd n,<-w]
 ·rw[Ue q,Ue q,Xd n]
variable (st:NSt)
theorem Zqd {g:ZM} :
  Xp g c t L (L.length:Int) (encI node st).1 (encI node st).2.1 (encI node st).2.2.1 (encI node st).2.2.2.1 (encI node st).2.2.2.2.1 (encI node st).2.2.2.2.2.1=some (.inr (ZzB node st)):=by
 unfold Xp;rw[Ue (Ui _)];cases st<;>rfl
theorem ZoO (h:Xh b) (g:VOk b v) (q:Vd c) (r:Zji (2*(ZB (K3 b)).length) t) (j:L.length<=1048576) {f:Int->NSt->NSt}
  (a:∀y∈L,∃(k:Nat) (x:Zn),y=(k:Int)/\(Zm b)[k]?=some x/\∀st,f y st=ZpI b c t x st) (s:NSt) :
  Zt (λu=>Xp (v,live,()) c t L u.1 u.2.1 u.2.2.1 u.2.2.2.1 u.2.2.2.2.1 u.2.2.2.2.2.1 u.2.2.2.2.2.2.1) ((0:Int),encI node s)=some (ZzB node (XU (λ_ y st=>f y st) 0 L s)):=by
 refine Zbl (l:=L) (by unfold Len;omega) (λst i=>(i,encI node st)) (f:=λ_ y st=>f y st) (s0:=s) (λ_ _=>True) trivial (λm y st e _ _=>⟨?_,trivial⟩) (λst _ H=>?_)
 ·have Q:=(Ub.1 e).1
  obtain⟨k,x,rfl,Z,d⟩:=a y (Ud e);rw[d,Xd];exact ZoP h g q r e Z (by omega) st
 ·rw[<-H]
  exact Zqd st
def encS (node:Int) (st:NSt) (i:Int):Bool×Int×Int×Int×Int×Int×Int×Unit:=match st with
 |none=>(false,i,0,0,0,0,0,())
 |some q=>(true,i,node,K8 q.1,Ga q.1,K8 q.2,Ga q.2,())
theorem Zo2 (h:Xh b) (w:VOk b v) (j:Vd c) (p:Zji (2*(ZB (K3 b)).length) t) {lv:Bool} (Z:(Zm b)[k]?=some x) (H:live[k]?=some lv) (l:k<=1048576) (st:NSt) :
  Ql b c (Zm b) live t node (encS node st (k:Int)).1 (k:Int) (encS node st (k:Int)).2.2.1 (encS node st (k:Int)).2.2.2.1 (encS node st (k:Int)).2.2.2.2.1 (encS node st (k:Int)).2.2.2.2.2.1 (encS node st (k:Int)).2.2.2.2.2.2.1=some (.inl (encS node (if lv=true then(if Gf x=node then ZpI b c t x st else st)else st) ((k+1:Nat):Int))):=by
 have n:=(Ub.1 Z).1;obtain⟨r,a,s,g,m,i,z⟩:=Zsz h p (Ud Z);obtain⟨d,o,e1,E,_⟩:=spans_eq h w j Z z.1 z.2;have hsp:spn b c x s=(d,o):=by unfold spn;rw[E];rfl
 have u:ZpI b c t x st=if r=true then ZwE st (Zqw a d) o else st:=by
  unfold ZpI;rw[g,m,i];simp only[UQ,hsp]
 unfold Ql;rw[Qe,Zv,Z,Bq,Zv,H,Bq,Xd l];by_cases Q:lv=true
 ·rw[Uc Q,Uc Q]
  by_cases e:Gf x=node
  ·rw[Uc e,Uc e,g,Bq,u]
   by_cases f:r=true
   ·rw[Uc f,Uc f,i,Bq,E,Bq,m,Bq]
    cases st with
    |none=>rfl
    |some q =>
     show some (Sum.inl (true,((k+1:Nat):Int),node,K8 (hul (Zqw a d) q.1),Ga (hul (Zqw a d) q.1),K8 (hul o q.2),Ga (hul o q.2),()))=_;rw[ZtL (Zqw a d),ZtL o];rfl
   ·rw[Ue f,Ue f]
    cases st<;>rfl
  ·rw[Ue e,Ue e]
   cases st<;>rfl
 ·rw[Ue Q,Ue Q]
  cases st<;>rfl
def toF (live:List Bool) (node:Int) (k:Nat) (x:Zn):List Int:=if(live[k]?).getD false=true then(if Gf x=node then[(k:Int)]else[])else[]
def toL (b:Zc) (live:List Bool) (node:Int):List Int:=cat (toF live node) 0 (Zm b)
theorem ZBv (live:List Bool) (node:Int) (k:Nat) (x:Zn):(toF live node k x).length<=1:=by
 unfold toF;grind
theorem ZxC (h:Xh b) (live:List Bool) (node:Int) (n:Nat):(cat (toF live node) 0 ((Zm b).take n)).length<=6000:=by
 have d:=VJ (f:=toF live node) (c:=1) (l:=(Zm b).take n) (m:=0) (λk x _=>ZBv live node k x);have H:=Y2 h;grind
theorem ZsD (h:Xh b) (a:VOk b v) (c:live.length=(Zm b).length) (node:Int):Zd6 (v,live,()) node=some (toL b live node):=by
 have F:=Y2 h;have e:ZG.links (ZM.view ((v,live,()):ZM))=Zm b:=a.links;have j:ZM.live ((v,live,()):ZM)=live:=rfl;unfold Zd6 Qc;have:=Xx (l:=Zm b) (ρ:=List Int) (toF live node) [] (step:=λu=>YI (v,live,()) (node,()) u.1 u.2.1) (good:=toL b live node)
  (λk x Z H=>by
   have f:live[k]?=some (live[k]'(by omega)):=Ua _;have n:=ZxC h live node k;simp only[YI,e,j,show(k:Int)<((Zm b).length:Int)from by omega,Uk,Zv,Z,f,Bq,ZfE,Uq,Xd (show k<=1048576 by omega)];unfold toF at *;rw[f];simp only[UQ];by_cases Q:live[k]'(by omega)=true
   ·rw[Uc Q,Uc Q]
    by_cases q:Gf x=node
    ·rw[Uc (UJ q),Uc q,Zk (by grind)]
    grind
   grind)
  (by simp only[YI,e,Ui,Uj,Uq];rfl)
 rw[this];rfl
theorem Zrh {β σ:Type} (f:β->σ->σ):∀(l:List β) (m n:Nat) (s:σ),XU (λ_ y s=>f y s) m l s=XU (λ_ y s=>f y s) n l s
 |[],_,_,_=>rfl
 |x::l,m,n,s=>by simp only[XU];exact Zrh f l _ _ _
theorem ZkI {α β σ:Type} {g:Nat->α->List β} (f:β->σ->σ):∀(l:List α) (m:Nat) (s:σ),XU (λ_ y s=>f y s) 0 (cat g m l) s=XU (λk x s=>XU (λ_ y s=>f y s) 0 (g k x) s) m l s
 |[],_,_=>rfl
 |x::l,m,s=>by
  show XU (λ_ y s=>f y s) 0 (g m x++cat g (m+1) l) s=_;rw[ZgM,Zrh f (cat g (m+1) l) _ 0,ZkI f l (m+1)];rfl
theorem Zj0 {α σ:Type} {f g:Nat->α->σ->σ}:∀(l:List α) (m:Nat) (s:σ),(∀k x s,l[k]?=some x->f (m+k) x s=g (m+k) x s)->XU f m l s=XU g m l s
 |[],_,_,_=>rfl
 |x::l,m,s,h=>by
  simp only[XU];have H:=h 0 x s rfl;rw[Kt]at H;rw[H];refine Zj0 l (m+1) _ λk y s e=>?_;rw[show m+1+k=m+(k+1) by omega]
  simp_all
def Zia (l:List Zj) (node:Int):NSt:=XU (λ_ x st=>if K7 x=node then some (GR x,GZ x)else st) 0 l none
def Ztf (l:List Zj):Prop:=∀(i j:Nat) (x y:Zj),l[i]?=some x->l[j]?=some y->K7 x=K7 y->i=j
variable {l:List Zj} {L:List Zn}
theorem ZqJ (a:Len l) {R:Bool×Zj}
  (H:Zt (λv=>Ql b c L live t node v.1 v.2.1 v.2.2.1 v.2.2.2.1 v.2.2.2.2.1 v.2.2.2.2.2.1 v.2.2.2.2.2.2.1) (encS node (Zia l node) 0)=some (.inr R)):ZaO b c L live l t node=some R:=by
 unfold ZaO;refine Zbl (l:=l) a (λst i=>encS node st i) (f:=λ_ x st=>if K7 x=node then some (GR x,GZ x)else st) (s0:=none) (λ_ _=>True) trivial (λk x st Z _ _=>⟨?_,trivial⟩) (λst _ h=>?_)
 ·have d:=(Ub.1 Z).1
  have e:∀st:NSt,(encS node st (k:Int)).2.1=(k:Int):=λst=>by cases st<;>rfl
  show J7 b c L live l t node (encS node st (k:Int)).1 (encS node st (k:Int)).2.1 (encS node st (k:Int)).2.2.1 (encS node st (k:Int)).2.2.2.1 (encS node st (k:Int)).2.2.2.2.1 (encS node st (k:Int)).2.2.2.2.2.1 (encS node st (k:Int)).2.2.2.2.2.2.1=_;rw[e];unfold J7;rw[Qe,Zv,Z,Bq];by_cases q:K7 x=node
  ·rw[Uc q,Uc q,q]
   rfl
  ·rw[Ue q,Ue q]
   cases st<;>rfl
 ·have s:st=Zia l node:=h
  subst s;have e:∀st:NSt,(encS node st (l.length:Int)).2.1=(l.length:Int):=λst=>by cases st<;>rfl
  show J7 b c L live l t node (encS node (Zia l node) (l.length:Int)).1 (encS node (Zia l node) (l.length:Int)).2.1 (encS node (Zia l node) (l.length:Int)).2.2.1 (encS node (Zia l node) (l.length:Int)).2.2.2.1 (encS node (Zia l node) (l.length:Int)).2.2.2.2.1 (encS node (Zia l node) (l.length:Int)).2.2.2.2.2.1 (encS node (Zia l node) (l.length:Int)).2.2.2.2.2.2.1=_;rw[e];unfold J7;rw[Ue (Ui _),<-H];cases Zia l node<;>rfl
theorem Zo1 (h:Xh b) (d:VOk b v) (q:Vd c) (j:live.length=(Zm b).length) (r:Zji (2*(ZB (K3 b)).length) t) (s:NSt) :
  Zt (λv=>Ql b c (Zm b) live t node v.1 v.2.1 v.2.2.1 v.2.2.2.1 v.2.2.2.2.1 v.2.2.2.2.2.1 v.2.2.2.2.2.2.1) (encS node s 0)=some (.inr (ZzB node (XU (λk x st=>if(live[k]?).getD false=true then(if Gf x=node then ZpI b c t x st else st)else st) 0 (Zm b) s))):=by
 have F:=Y2 h;refine Zbl (l:=Zm b) (by unfold Len;omega) (λst i=>encS node st i) (f:=λk x st=>if(live[k]?).getD false=true then(if Gf x=node then ZpI b c t x st else st)else st) (s0:=s) (λ_ _=>True) trivial (λk x st Z _ _=>⟨?_,trivial⟩) (λst _ a=>?_)
 ·have g:=(Ub.1 Z).1
  have H:live[k]?=some (live[k]'(by omega)):=Ua _;have e:∀st:NSt,(encS node st (k:Int)).2.1=(k:Int):=λst=>by cases st<;>rfl
  have:=Zo2 h d q r (node:=node) Z H (by omega) st;rw[H,UQ,Xd,<-this];grind
 ·rw[<-a]
  have e:∀st:NSt,(encS node st ((Zm b).length:Int)).2.1=((Zm b).length:Int):=λst=>by cases st<;>rfl
  show Ql b c (Zm b) live t node (encS node st ((Zm b).length:Int)).1 (encS node st ((Zm b).length:Int)).2.1 _ _ _ _ _=_;rw[e];unfold Ql;rw[Ue (Ui _)];cases st<;>rfl
theorem ZqM {node:Int}:∀(l:List Zj) (m:Nat) (st:NSt),(∀x∈l,K7 x≠node)->XU (λ_ x st=>if K7 x=node then some (GR x,GZ x)else st) m l st=st
 |[],_,_,_=>rfl
 |x::l,m,st,h=>by
  simp only[XU];rw[Ue (h x UK)];exact ZqM l (m+1) st λy e=>h y (UP _ e)
theorem Zy7 (d:Ztf l) {x:Zj} (Z:l[i]?=some x) (W:K7 x=node):Zia l node=some (GR x,GZ x):=by
 have h:=(Ub.1 Z).1;have e:l=l.take i++x::l.drop (i+1):=by
  have:=Kz i l;rw[List.drop_eq_getElem_cons h,(Ub.1 Z).2]at this;exact this.symm
 have D:∀y∈l.drop (i+1),K7 y≠node:=λy H q=>by
  obtain⟨j,b⟩:=UA.1 H;rw[Km]at b;have:=d i (i+1+j) x y Z b (by rw[W,q]);omega
 unfold Zia;rw[e,ZgM];simp only[XU];rw[Uc W];exact ZqM _ _ _ D
theorem Zs4 (H:Len l) (d:Ztf l) (node:Int):∃r:Zj×Bool,Vt l node=some r/\(r.2=true->Zia l node=some (GR r.1,GZ r.1))/\(r.2=false->Zia l node=none):=by
 unfold Vt;rw[Y4 H (λx=>decide (K7 x=node)) (λx _=>rfl),Bq];unfold ZaI;cases e:l.findIdx? (λx=>decide (K7 x=node))with
 |none =>
  rw[Ue (by decide)];refine⟨_,rfl,(λq=>Bool.noConfusion q),λ_=>?_⟩;rw[List.findIdx?_eq_none_iff]at e;exact ZqM l 0 none λx Z q=>by grind
 |some i =>
  rw[U9]at e;obtain⟨h,g,_⟩:=e;have Z:l[i]?=some l[i]:=Ua h;dsimp only;rw[Qe,Zv,Z,Bq];exact⟨_,rfl,λ_=>Zy7 d Z (of_decide_eq_true g),λq=>Bool.noConfusion q⟩
noncomputable def ZgY (b:Zc) (c:ZA) (live:List Bool) (l:List Zj) (t:Zr) (node:Int):NSt:=XU (λk x st=>if(live[k]?).getD false=true then(if Gf x=node then ZpI b c t x st else st)else st) 0 (Zm b) (Zia l node)
theorem Zr3 (h:Xh b) (a:VOk b v) (q:Vd c) (H:live.length=(Zm b).length) (r:Zji (2*(ZB (K3 b)).length) t) (s:Len l) (node:Int) :
  ZaO b c (Zm b) live l t node=some (ZzB node (ZgY b c live l t node)) :=
 ZqJ s (Zo1 h a q H r (Zia l node))
theorem Zrq (h:Xh b) (a:VOk b v) (q:Vd c) (j:live.length=(Zm b).length) (m:Zji (2*(ZB (K3 b)).length) t) (s:Len l) (g:Ztf l) (node:Int) :
  Qb (v,live,()) c l t node=some (ZzB node (ZgY b c live l t node)):=by
 obtain⟨r,r1,r2,R⟩:=Zs4 s g node;have n:=ZxC h live node (Zm b).length;rw[Ur]at n;have o:=ZsD h a j node
 let f:Int->NSt->NSt:=λy st=>match (Zm b)[y.toNat]? with
  |some x=>ZpI b c t x st
  |none=>st
 have i:∀y∈toL b live node,∃(k:Nat) (x:Zn),y=(k:Int)/\(Zm b)[k]?=some x/\∀st,f y st=ZpI b c t x st:=λy p=>by
  obtain⟨k,x,Z,H⟩:=XZ.1 p;rw[Uw]at H;unfold toF at H;grind
 have key:=ZoO h a q m (live:=live) (L:=toL b live node) (node:=node) (by unfold toL;omega) i (Zia l node);have d:XU (λ_ y st=>f y st) 0 (toL b live node) (Zia l node)=ZgY b c live l t node:=by
  unfold toL ZgY;rw[ZkI f];refine Zj0 _ _ _ λk x st Z=>?_;rw[Uw];unfold toF;split
  ·split
   ·show (match (Zm b)[(k:Int).toNat]? with
     |some x=>ZpI b c t x st
     | none=>st)=_
    grind
   ·rfl
  ·rfl
 rw[d]at key;unfold Qb;rw[r1,Bq,o];cases e:r.2 with
 |true =>
  rw[Uc rfl];rw[r2 e]at key;exact key
 |false =>
  rw[Ue (by decide),Bq];rw[R e]at key;exact key
def cw (live:List Bool) (out:List Int) (v:Int) (k:Nat) (x:Zn):Nat:=if(live[k]?).getD false=true then(if Gf x=v then(if Gc x∈out then 0 else 1)else 0)else 0
def Zir (live:List Bool) (L:List Zn) (out:List Int) (v:Int):Nat:=XU (λk x s=>s+cw live out v k x) 0 L 0
def nxt (live:List Bool) (L:List Zn) (n:Nat) (out:List Int):Option Nat:=(List.range n).find? λv=>decide ((v:Int) ∉ out)&&decide (Zir live L out (v:Int)=0)
def ZrH (live:List Bool) (L:List Zn) (n:Nat):Nat->List Int->List Int×Bool
 |0,out=>(out,true)
 |m+1,out=>match nxt live L n out with
  |none=>([],false)
  |some v=>ZrH live L n m (out++[(v:Int)])
def ZlW (n:Nat) (p:Nat->Bool):List Bool:=(List.range n).map p
variable {p:Nat->Bool}
theorem Zfe {v:Nat} (h:v<n:=by omega):(ZlW n p)[v]?=some (p v):=by
 unfold ZlW;grind
theorem Zm8 (n:Nat) (p:Nat->Bool):(ZlW n p).length=n:=by unfold ZlW;simp
theorem ZtX {q:Nat->Bool} {b:Bool} (l:i<n) (d:q i=b) (f:∀j,j≠i->q j=p j):List.set (ZlW n p) i b=ZlW n q:=by
 apply UI;intro j;rw[UX];by_cases c:i=j
 ·subst c
  rw[Uc rfl,Uc (by rw[Zm8];exact l),Zfe l,d]
 ·rw[Ue c]
  by_cases h:j<n
  ·rw[Zfe h,Zfe h,f j (λe=>c e.symm)]
  ·rw[Uv (by rw[Zm8];omega),Uv (by rw[Zm8];omega)]
theorem Zpt (n:Nat):List.replicate n false=ZlW n λ_=>false:=by
 apply UI;intro j;by_cases b:j<n
 ·rw[Zfe b,Kc,Uc b]
 ·rw[Uv (by grind),Uv (by rw[Zm8];omega)]
structure Zvl (live:List Bool) (L:List Zn) (n:Nat):Prop where
 few:L.length<=6000
 ll:live.length=L.length
 n0:n<=1000
 bd:∀x∈L,(0<=Gc x/\Gc x<(n:Int))/\0<=Gf x/\Gf x<(n:Int)
variable {out:List Int}
theorem ZbR {v:Int} (Z:L[k]?=some x):Zir live (L.take (k+1)) out v=Zir live (L.take k) out v+cw live out v k x:=by
 unfold Zir;rw[Zcq Z]
theorem Zvc (h:Zvl live L n) {Q:(List Int×List Bool×Unit)⊕(List Int×Bool)}
  (H:Zt (λv=>Xt (n:Int) out (ZlW n λv=>decide ((v:Int)∈out)) (ZlW n λv=>decide (Zir live L out (v:Int)≠0)) v.1) ((0:Int),())=some (.inr Q)) :
  Zt (λv=>Jv (n:Int) L live out (ZlW n λv=>decide ((v:Int)∈out)) v.1 v.2.1) ((0:Int),List.replicate (Int.toNat (n:Int)) false,())=some Q:=by
 have e:=h.few;have l:=h.ll;refine YC L.length (λk v=>v=((k:Int),ZlW n (λv=>decide (Zir live (L.take k) out (v:Int)≠0)),())) _ ?_ ?_ ?_
 ·rw[UG,Zpt]
  rfl
 ·rintro k _ b rfl
  have Z:L[k]?=some (L[k]'(by omega)):=Ua _;have f:live[k]?=some (live[k]'(by omega)):=Ua _;generalize L[k]'(by omega)=x at Z;generalize live[k]'(by omega)=lv at f;obtain⟨⟨z,f1⟩,t0,t⟩:=h.bd x (Ud Z);have m:atI (ZlW n λv=>decide ((v:Int)∈out)) (Gc x)=some (decide (Gc x∈out)):=by
   refine Qt z ?_;rw[Zfe,show((Gc x).toNat:Int)=Gc x by omega]
  have o:∀p:Nat->Bool,atI (ZlW n p) (Gf x)=some (p (Gf x).toNat):=λp=>Qt t0 (Zfe);refine .inl ⟨(((k+1:Nat):Int),ZlW n (λv=>decide (Zir live (L.take (k+1)) out (v:Int)≠0)),()),?_,rfl⟩;simp only[Jv,show(k:Int)<(L.length:Int)from by omega,Uk,Zv,Z,f,Bq,m,o,Xd (show k<=1048576 by omega)];have c:(∀v:Nat,cw live out (v:Int) k x=0)->ZlW n (λv=>decide (Zir live (L.take (k+1)) out (v:Int)≠0))=ZlW n (λv=>decide (Zir live (L.take k) out (v:Int)≠0)):=λS=>by
   unfold ZlW;refine KK λv _=>?_;rw[ZbR Z,S,Kt]
  by_cases a:lv=true
  ·rw[Uc a]
   by_cases d:Gc x∈out
   ·rw[Uc (UJ d),c (λv=>by unfold cw;grind)]
   ·rw[Ue (by grind)]
    rw[ZtX (q:=λv=>decide (Zir live (L.take (k+1)) out (v:Int)≠0)) (by omega) ?_ ?_]
    ·rw[Ul,ZbR Z]
     unfold cw;grind
    ·intro j g
     rw[ZbR Z];unfold cw;grind
  ·rw[Ue a,c (λv=>by unfold cw;grind)]
 ·rintro _ rfl
  show Jv (n:Int) L live out (ZlW n λv=>decide ((v:Int)∈out)) (L.length:Int) (ZlW n λv=>decide (Zir live (L.take L.length) out (v:Int)≠0))=_;unfold Jv;grind
theorem Zxu (h:Zvl live L n) (o:out.length<=1000:=by omega) :
  Zt (λv=>Xt (n:Int) out (ZlW n λv=>decide ((v:Int)∈out)) (ZlW n λv=>decide (Zir live L out (v:Int)≠0)) v.1) ((0:Int),()) =
   some (.inr (match nxt live L n out with
    |none=>.inr ([],false)
    | some v=>.inl (out++[(v:Int)],ZlW n (λu=>decide ((u:Int)∈out++[(v:Int)])),()))):=by
 have W:=h.n0;have step:∀k:Nat,k<n->(decide ((k:Int) ∉ out)&&decide (Zir live L out (k:Int)=0))=false->Xt (n:Int) out (ZlW n λv=>decide ((v:Int)∈out)) (ZlW n λv=>decide (Zir live L out (v:Int)≠0)) (k:Int)=some (.inl (((k+1:Nat):Int),())):=λk H g=>by
  unfold Xt;rw[Qe,Zv,Zfe H,Bq,Xd];by_cases q:(k:Int)∈out
  ·grind
  ·rw[Ue (by grind),Zv,Zfe H,Bq]
   grind
 cases e:nxt live L n out with
 |none =>
  unfold nxt at e;rw[List.find?_range_eq_none]at e;refine YC n (λk v=>v=((k:Int),())) _ rfl ?_ ?_
  ·grind
  ·rintro _ rfl
   show Xt _ _ _ _ (n:Int)=_;unfold Xt;grind
 |some v =>
  unfold nxt at e;rw[List.find?_range_eq_some]at e;obtain⟨g,a,w⟩:=e;have a:=Ky.1 a;rw[Up,Ul,Ul]at g;refine YC v (λk u=>u=((k:Int),())) _ rfl ?_ ?_
  ·grind
  ·rintro _ rfl
   show Xt _ _ _ _ (v:Int)=_;unfold Xt;rw[Qe,Zv,Zfe a,Bq,Ue (by grind),Zv,Zfe a,Bq,Ue (by grind),Qu,Zk (by grind),UG];rw[ZtX (q:=λu=>decide ((u:Int)∈out++[(v:Int)])) a (UJ (Uu.2 (.inr (Ut.2 rfl)))) (λj b=>by
    grind)]
theorem Zos {live:List Bool} {L:List Zn} {n:Nat} (h:Zvl live L n):∀(m:Nat) (out:List Int),out.length+m=n->
  Zt (λv=>Vp (n:Int) L live v.1 v.2.1) (out,ZlW n (λu=>decide ((u:Int)∈out)),())=some (ZrH live L n m out)
 |0,out,Q=>by
  refine YF ?_;show Vp (n:Int) L live out _=_;unfold Vp;rw[Qu];rfl
 |m+1,out,Q=>by
  have W:=h.n0;have c:=Zvc h (Zxu h (out:=out));have q:Vp (n:Int) L live out (ZlW n (λu=>decide ((u:Int)∈out)))=some (match nxt live L n out with
    |none=>.inr ([],false)
    | some v=>.inl (out++[(v:Int)],ZlW n (λu=>decide ((u:Int)∈out++[(v:Int)])),())):=by
   unfold Vp;grind
  unfold ZrH;cases e:nxt live L n out with
  |none =>
   rw[e]at q;exact YF q
  |some v =>
   rw[e]at q;exact(YW q).trans (Zos h m (out++[(v:Int)]) (by grind))
theorem ZqI (h:Zvl live L n):Zf4 (n:Int) L live=some (ZrH live L n n []):=by
 have W:=h.n0;unfold Zf4;rw[QQ,QQ,QQ,QQ,UG,Zpt];have:=Zos h n [] (by simp);simpa using this
def Zkj (n:Nat) (p:Nat->Int):List Int:=(List.range n).map p
variable {p:Nat->Int}
theorem Zfc {v:Nat} (h:v<n:=by omega):(Zkj n p)[v]?=some (p v):=by
 unfold Zkj;grind
theorem Zfd (n:Nat) (p:Nat->Int):(Zkj n p).length=n:=by unfold Zkj;simp
theorem Zqm {q:Nat->Int} {b:Int} (l:i<n) (d:q i=b) (f:∀j,j≠i->q j=p j):List.set (Zkj n p) i b=Zkj n q:=by
 apply UI;intro j;rw[UX];by_cases c:i=j
 ·subst c
  rw[Uc rfl,Uc (by rw[Zfd];exact l),Zfc l,d]
 ·rw[Ue c]
  by_cases h:j<n
  ·rw[Zfc h,Zfc h,f j (λe=>c e.symm)]
  ·rw[Uv (by rw[Zfd];omega),Uv (by rw[Zfd];omega)]
def ZoJ (live:List Bool) (node:Int) (k:Nat) (x:Zn):List Int:=if(live[k]?).getD false=true then(if Gc x=node then[(k:Int)]else[])else[]
def Zrk (b:Zc) (live:List Bool) (node:Int):List Int:=cat (ZoJ live node) 0 (Zm b)
theorem Zwp (live:List Bool) (node:Int) (k:Nat) (x:Zn):(ZoJ live node k x).length<=1:=by
 unfold ZoJ;grind
theorem Zrl (h:Xh b) (live:List Bool) (node:Int) (n:Nat):(cat (ZoJ live node) 0 ((Zm b).take n)).length<=6000:=by
 have d:=VJ (f:=ZoJ live node) (c:=1) (l:=(Zm b).take n) (m:=0) (λk x _=>Zwp live node k x);have H:=Y2 h;grind
theorem Zqb (h:Xh b) (a:VOk b v) (c:live.length=(Zm b).length) (node:Int):Zd4 (v,live,()) node=some (Zrk b live node):=by
 have F:=Y2 h;have e:ZG.links (ZM.view ((v,live,()):ZM))=Zm b:=a.links;have j:ZM.live ((v,live,()):ZM)=live:=rfl;unfold Zd4 XO;have:=Xx (l:=Zm b) (ρ:=List Int) (ZoJ live node) [] (step:=λu=>YA (v,live,()) (node,()) u.1 u.2.1) (good:=Zrk b live node)
  (λk x Z H=>by
   have f:live[k]?=some (live[k]'(by omega)):=Ua _;have n:=Zrl h live node k;simp only[YA,e,j,show(k:Int)<((Zm b).length:Int)from by omega,Uk,Zv,Z,f,Bq,Zd5,Uq,Xd (show k<=1048576 by omega)];unfold ZoJ at *;rw[f];simp only[UQ];by_cases Q:live[k]'(by omega)=true
   ·rw[Uc Q,Uc Q]
    by_cases q:Gc x=node
    ·rw[Uc (UJ q),Uc q,Zk (by grind)]
    grind
   grind)
  (by simp only[YA,e,Ui,Uj,Uq];rfl)
 rw[this];rfl
theorem ZuH (W:n<=1000):JW (Zkj n p) 0=some (match (List.range n).find? (λv=>decide (p v=0)) with
  |none=>-1
  | some v=>(v:Int)):=by
 unfold JW;cases e:(List.range n).find? (λv=>decide (p v=0))with
 |none =>
  rw[List.find?_range_eq_none]at e;refine YC n (λk v=>v=((k:Int),())) _ rfl ?_ ?_
  ·rintro k _ H rfl
   have S:=e k H;rw[UO,Kr]at S;simp only[XP,Zfd,show(k:Int)<(n:Int)from by omega,Uk,Zv,Zfc H,Bq,Xd (show k<=1048576 by omega)];grind
  ·rintro _ rfl
   simp only[XP,Zfd,Ui,Uj]
 |some v =>
  rw[List.find?_range_eq_some]at e;obtain⟨g,a,w⟩:=e;have a:=Ky.1 a;rw[Ul]at g;refine YC v (λk u=>u=((k:Int),())) _ rfl ?_ ?_
  ·rintro k _ H rfl
   have S:=w k H;rw[UO,Kr]at S;simp only[XP,Zfd,show(k:Int)<(n:Int)from by omega,Uk,Zv,Zfc (show k<n by omega),Bq,Xd (show k<=1048576 by omega)];grind
  ·rintro _ rfl
   simp only[XP,Zfd,show(v:Int)<(n:Int)from by omega,Uk,Zv,Zfc a,Bq];rw[Uc g.symm]
def Zth (live:List Bool) (k:Nat) (x:Zn):List Int:=if(live[k]?).getD false=true then[(k:Int)]else[]
theorem Zti (live:List Bool) (k:Nat) (x:Zn):(Zth live k x).length<=1:=by
 unfold Zth;split<;>simp
theorem ZpW (h:Xh b) (a:VOk b v) (q:live.length=(Zm b).length):YZ (v,live,()) ()=some (cat (Zth live) 0 (Zm b)):=by
 have F:=Y2 h;have e:ZG.links (ZM.view ((v,live,()):ZM))=Zm b:=a.links;have j:ZM.live ((v,live,()):ZM)=live:=rfl;unfold YZ;exact Xx (l:=Zm b) (ρ:=List Int) (Zth live) [] (step:=λu=>Yx (v,live,()) u.1 u.2.1) (good:=cat (Zth live) 0 (Zm b))
  (λk x Z d=>by
   have H:live[k]?=some (live[k]'(by omega)):=Ua _;have n:=VJ (f:=Zth live) (c:=1) (l:=(Zm b).take k) (m:=0) (λk x _=>Zti live k x);rw[Uo]at n;simp only[Yx,e,j,show(k:Int)<((Zm b).length:Int)from by omega,Uk,Zv,Z,H,Bq,Zdn,Uq,Xd (show k<=1048576 by omega)];unfold Zth at *;rw[H];simp only[UQ];by_cases Q:live[k]'(by omega)=true
   ·rw[Uc Q,Uc Q,Zk (by grind)]
   grind)
  (by simp only[Yx,e,Ui,Uj,Uq])
def Zvn (L:List Zn) (c:Int) (y:Int) (l:List Int):List Int:=match L[y.toNat]? with
 |some x=>List.set l (Gf x).toNat ((l[(Gf x).toNat]?).getD 0+c)
 |none=>l
theorem Zqf {c:Int} (Z:L[k]?=some x) (l:List Int):Zvn L c (k:Int) l=List.set l (Gf x).toNat ((l[(Gf x).toNat]?).getD 0+c):=by
 unfold Zvn;grind
theorem Zpg {live:List Bool} {L:List Zn} {n:Nat} (h:Zvl live L n):∀k,k<=L.length->XU (λk x l=>XU (λ_ y l=>Zvn L 1 y l) 0 (Zth live k x) l) 0 (L.take k) (List.replicate n 0)=Zkj n λv=>(Zir live (L.take k) [] (v:Int):Int)
 |0,_=>by
  rw[Ki];apply UI;intro j;by_cases b:j<n
  ·rw[Zfc b]
   simp only[XU];rw[Kc,Uc b];rfl
  ·rw[Uv (by simp only[XU];grind),Uv (by rw[Zfd];omega)]
 |k+1,H=>by
  have m:=h.ll;have Z:L[k]?=some (L[k]'(by omega)):=Ua _;have f:live[k]?=some (live[k]'(by omega)):=Ua _;generalize L[k]'(by omega)=x at Z;generalize live[k]'(by omega)=lv at f;obtain⟨_,t0,Q⟩:=h.bd x (Ud Z);rw[Zcq Z,Zpg h k (by omega)];unfold Zth;rw[f,UQ];by_cases q:lv=true
  ·rw[Uc q]
   show Zvn L 1 (k:Int) _=_;rw[Zqf Z,Zfc,UQ];refine Zqm (by omega) ?_ (λj b=>?_)
   ·rw[ZbR Z]
    unfold cw;grind
   ·rw[ZbR Z]
    unfold cw;grind
  ·rw[Ue q]
   show Zkj n _=Zkj n _;unfold Zkj;refine KK λv _=>?_;rw[ZbR Z];unfold cw;grind
theorem ZuA (h:Xh b) (w:VOk b v) (j:Zvl live (Zm b) n) {R:List Int×Bool}
  (B:Zt (λu=>YS (v,live,()) (Zkj n λu=>(Zir live (Zm b) [] (u:Int):Int)) u.1 u.2.1 u.2.2.1) (([]:List Int),(0:Int),Zkj n (λu=>(Zir live (Zm b) [] (u:Int):Int)),())=some (.inr R)) :
  Zt (λu=>Qn (v,live,()) (cat (Zth live) 0 (Zm b)) u.1 u.2.1) ((0:Int),List.replicate n (0:Int),())=some R:=by
 have F:=j.few;have q:ZG.links (ZM.view ((v,live,()):ZM))=Zm b:=w.links;have A:=VJ (f:=Zth live) (c:=1) (l:=Zm b) (m:=0) (λk x _=>Zti live k x);refine Zbl (l:=cat (Zth live) 0 (Zm b)) (by unfold Len;omega) (λs i=>(i,s,())) (f:=λ_ y s=>Zvn (Zm b) 1 y s) (s0:=List.replicate n (0:Int)) (λk s=>s.length=n/\∀z∈s,0<=z/\z<=(k:Int)) ⟨UT,λz S=>by grind⟩ (λm y s g p _=>?_) (λs p e=>?_)
 ·obtain⟨t,d⟩:=p
  have Q:=(Ub.1 g).1;obtain⟨k,x,Z,a⟩:=XZ.1 (Ud g);rw[Uw]at a;have r:y=(k:Int):=by
   unfold Zth at a;grind
  subst r;obtain⟨_,t0,T⟩:=j.bd x (Ud Z);have S:s[(Gf x).toNat]?=some (s[(Gf x).toNat]'(by omega)):=Ua _;have o:=d _ (Ud S);generalize s[(Gf x).toNat]'(by omega)=z at S o;have E:Zvn (Zm b) 1 (k:Int) s=List.set s (Gf x).toNat (z+1):=by rw[Zqf Z,S];rfl
  refine⟨?_,?_⟩
  ·show Qn (v,live,()) _ (m:Int) s=_
   unfold Qn;rw[Qe,Zv,g,Bq,q,Zv,Z,Bq,Qt t0 S,Bq,QP (n:=z+1),E]
  grind
 ·rw[ZkI (λy s=>Zvn (Zm b) 1 y s)]at e
  have H:=Zpg j (Zm b).length (UE _);rw[Ur]at H;rw[H]at e;subst e;show Qn (v,live,()) _ ((cat (Zth live) 0 (Zm b)).length:Int) _=_;unfold Qn;grind
def dw (live:List Bool) (w v:Int) (k:Nat) (x:Zn):Nat:=if(live[k]?).getD false=true then(if Gf x=v then(if Gc x=w then 1 else 0)else 0)else 0
def Zz0 (live:List Bool) (L:List Zn) (w v:Int):Nat:=XU (λk x s=>s+dw live w v k x) 0 L 0
variable {w:Int}
theorem Zku {v:Int} (Z:L[k]?=some x):Zz0 live (L.take (k+1)) w v=Zz0 live (L.take k) w v+dw live w v k x:=by
 unfold Zz0;rw[Zcq Z]
theorem Zyc (live:List Bool) (c:w ∉ out) (v:Int) (k:Nat) (x:Zn):cw live out v k x=cw live (out++[w]) v k x+dw live w v k x:=by
 unfold cw dw;grind
theorem Zle (live:List Bool) (L:List Zn) {out:List Int} {w:Int} (c:w ∉ out) (v:Int):∀k,k<=L.length->Zir live (L.take k) out v=Zir live (L.take k) (out++[w]) v+Zz0 live (L.take k) w v
 |0,_=>rfl
 |k+1,H=>by
  have Z:L[k]?=some (L[k]'(by omega)):=Ua _;rw[ZbR Z,ZbR Z,Zku Z,Zle live L c v k (by omega),Zyc live c v k];omega
theorem Zz3 (live:List Bool) (L:List Zn) (out:List Int) (v:Int):∀(m k:Nat) (x:Zn),m<=L.length->k<m->L[k]?=some x->cw live out v k x<=Zir live (L.take m) out v
 |0,k,x,_,H,_=>by omega
 |m+1,k,x,Q,H,Z=>by
  have h:L[m]?=some (L[m]'(by omega)):=Ua _;rw[ZbR h];by_cases e:k=m
  ·grind
  ·have:=Zz3 live L out v m k x (by omega) (by omega) Z
   omega
noncomputable def opn (live:List Bool) (L:List Zn) (out:List Int) (u:Nat):Int:=if(u:Int)∈out then -1 else(Zir live L out (u:Int):Int)
def Clo (live:List Bool) (L:List Zn) (out:List Int):Prop:=∀u∈out,Zir live L out u=0
theorem Ztt {live:List Bool} {L:List Zn} {n:Nat} (h:Zvl live L n) {out:List Int} {w:Nat} (a:w<n) (W:(w:Int) ∉ out) (b:Zir live L out (w:Int)=0) (H:Clo live L out):∀k,k<=L.length->
  XU (λk x l=>XU (λ_ y l=>Zvn L (-1) y l) 0 (ZoJ live (w:Int) k x) l) 0 (L.take k) (List.set (Zkj n (opn live L out)) w (-1))=Zkj n λu=>if(u:Int)∈out++[(w:Int)]then -1 else(Zir live L out (u:Int):Int)-(Zz0 live (L.take k) (w:Int) (u:Int):Int)
 |0,_=>by
  rw[Ki];simp only[XU];refine Zqm a ?_ (λj i=>?_)
  ·grind
  ·unfold opn
   by_cases q:(j:Int)∈out
   ·grind
   ·rw[Ue q,Ue (λz=>by
     grind)]
    show _-((0:Nat):Int)=_;omega
 |k+1,p=>by
  have m:=h.ll;have Z:L[k]?=some (L[k]'(by omega)):=Ua _;have f:live[k]?=some (live[k]'(by omega)):=Ua _;generalize L[k]'(by omega)=x at Z;generalize live[k]'(by omega)=lv at f;obtain⟨_,t0,t⟩:=h.bd x (Ud Z);rw[Zcq Z,Ztt h a W b H k (by omega)];have e:=Zz3 live L out (Gf x) L.length k x (UE _) (by omega) Z;rw[Ur]at e;have c:(∀u:Int,dw live (w:Int) u k x=0)->Zkj n (λu=>if(u:Int)∈out++[(w:Int)]then -1 else(Zir live L out (u:Int):Int)-(Zz0 live (L.take k) (w:Int) (u:Int):Int))=Zkj n λu=>if(u:Int)∈out++[(w:Int)]then -1 else(Zir live L out (u:Int):Int)-(Zz0 live (L.take (k+1)) (w:Int) (u:Int):Int):=λS=>by
   unfold Zkj;refine KK λu _=>?_;rw[Zku Z,S,Kt]
  unfold ZoJ;rw[f,UQ];by_cases q:lv=true
  ·rw[Uc q]
   by_cases Q:Gc x=(w:Int)
   ·rw[Uc Q]
    have d:cw live out (Gf x) k x=1:=by
     unfold cw;grind
    have o:Gf x ∉ out++[(w:Int)]:=λz=>by
     rcases Uu.1 z with z|z
     ·have:=H _ z;omega
     grind
    show Zvn L (-1) (k:Int) _=_;rw[Zqf Z,Zfc,UQ,show((Gf x).toNat:Int)=Gf x by omega,Ue o];refine Zqm (by omega) ?_ (λj i=>?_)
    ·rw[show((Gf x).toNat:Int)=Gf x by omega,Ue o,Zku Z]
     unfold dw;grind
    ·have g:dw live (w:Int) (j:Int) k x=0:=by
      unfold dw;grind
     rw[Zku Z,g,Kt]
   ·rw[Ue Q]
    exact c λu=>by unfold dw;grind
  ·rw[Ue q]
   exact c λu=>by unfold dw;grind
theorem ZvQ (live:List Bool) (L:List Zn) (out:List Int) (v:Int):∀k,k<=L.length->Zir live (L.take k) out v<=k
 |0,_=>UE _
 |k+1,H=>by
  have Z:L[k]?=some (L[k]'(by omega)):=Ua _;rw[ZbR Z];have:=ZvQ live L out v k (by omega);have d:cw live out v k (L[k]'(by omega))<=1:=by
   unfold cw;split
   ·split
    ·split<;>omega
    ·omega
   ·omega
  omega
theorem ZCl (h:Zvl live L n) (out:List Int) (u:Nat):-1<=opn live L out u/\opn live L out u<=6000:=by
 have d:=ZvQ live L out (u:Int) L.length (UE _);have f:=h.few;rw[Ur]at d;unfold opn;split<;>omega
theorem Zx8 (W:w ∉ out) (c:Zir live L out w=0) (h:Clo live L out):Clo live L (out++[w]):=by
 intro u a;have s:=Zle live L W u L.length (UE _);rw[Ur]at s;rcases Uu.1 a with q|q
 ·have:=h u q
  omega
 ·rw[Ut.1 q]at s ⊢
  omega
theorem Zwq {y:Int} (e:y∈Zrk b live w):∃(k:Nat) (x:Zn),y=(k:Int)/\(Zm b)[k]?=some x/\Gc x=w:=by
 obtain⟨k,x,Z,H⟩:=XZ.1 e;rw[Uw]at H;unfold ZoJ at H;split at H
 ·split at H
  ·rename_i q
   exact⟨k,x,Ut.1 H,Z,q⟩
  ·cases H
 ·cases H
theorem Zyg (h:Xh b) (C:VOk b v) (j:Zvl live (Zm b) n) {w:Nat} (D:w<n) (W:(w:Int) ∉ out) (A:Zir live (Zm b) out (w:Int)=0) (L:Clo live (Zm b) out) (i:Int) :
  Zt (λu=>Qm (v,live,()) out i (w:Int) (Zrk b live (w:Int)) u.1 u.2.1) ((0:Int),List.set (Zkj n (opn live (Zm b) out)) w (-1:Int),()) =
   some (.inl (out++[(w:Int)],Wq (i+1),Zkj n (opn live (Zm b) (out++[(w:Int)])),())):=by
 have G:=j.few;have t:ZG.links (ZM.view ((v,live,()):ZM))=Zm b:=C.links;have r:(Zrk b live (w:Int)).length<=6000:=by
  have:=Zrl h live (w:Int) (Zm b).length;rw[Ur]at this;exact this
 refine Zbl (l:=Zrk b live (w:Int)) (by unfold Len;omega) (λs i=>(i,s,())) (f:=λ_ y s=>Zvn (Zm b) (-1) y s) (s0:=List.set (Zkj n (opn live (Zm b) out)) w (-1:Int)) (λk s=>s.length=n/\∀z∈s,-1-(k:Int)<=z/\z<=6000) ⟨by rw[UZ,Zfd],λz S=>?_⟩ (λm y s a d _=>?_) (λs d e=>?_)
 ·rcases Ke S with q|q
  ·unfold Zkj at q
   obtain⟨u,_,rfl⟩:=KQ.1 q;have:=ZCl j out u;omega
  ·omega
 ·obtain⟨g,H⟩:=d
  have Q:=(Ub.1 a).1;obtain⟨k,x,rfl,Z,_⟩:=Zwq (Ud a);obtain⟨_,t0,T⟩:=j.bd x (Ud Z);have S:s[(Gf x).toNat]?=some (s[(Gf x).toNat]'(by omega)):=Ua _;have o:=H _ (Ud S);generalize s[(Gf x).toNat]'(by omega)=z at S o;have E:Zvn (Zm b) (-1) (k:Int) s=List.set s (Gf x).toNat (z-1):=by rw[Zqf Z,S];rfl
  refine⟨?_,?_⟩
  ·show Qm (v,live,()) out i (w:Int) _ (m:Int) s=_
   unfold Qm;rw[Qe,Zv,a,Bq,t,Zv,Z,Bq,Qt t0 S,Bq,QP (n:=z-1),E]
  ·rw[E]
   refine⟨by rw[UZ];exact g,λF c=>?_⟩;rcases Ke c with q|q
   ·have:=H F q;omega
   ·omega
 ·have p:=Ztt j D W A L (Zm b).length (UE _)
  unfold Zrk at e;rw[ZkI (λy s=>Zvn (Zm b) (-1) y s)]at e;rw[Ur]at p;rw[p]at e;subst e;show Qm (v,live,()) out i (w:Int) _ ((Zrk b live (w:Int)).length:Int) _=_;unfold Qm;rw[Ue (Ui _)];congr 6;unfold Zkj;refine KK λu _=>?_;have B:=Zle live (Zm b) W (u:Int) (Zm b).length (UE _);rw[Ur]at B;unfold opn;split
  ·rfl
  ·omega
theorem ZCj (live:List Bool) (L:List Zn) (n:Nat) (out:List Int):(List.range n).find? (λv=>decide (opn live L out v=0))=nxt live L n out:=by
 unfold nxt;congr 1;funext v;unfold opn;by_cases q:(v:Int)∈out
 ·rw[Uc q,decide_eq_false (by omega),decide_eq_false (λz=>z q),Bool.false_and]
 ·rw[Ue q,UJ q,KE,Kx]
  omega
theorem ZnO {b:Zc} (h:Xh b) {v:ZG} (a:VOk b v) {live:List Bool} {n:Nat} (j:Zvl live (Zm b) n) {l0:List Int} (k:l0.length=n):∀(m:Nat) (out:List Int),out.length+m=n->Clo live (Zm b) out->
  Zt (λu=>YS (v,live,()) l0 u.1 u.2.1 u.2.2.1) (out,(out.length:Int),Zkj n (opn live (Zm b) out),())=some (.inr (ZrH live (Zm b) n m out))
 |0,out,Q,L=>by
  refine YF ?_;show YS (v,live,()) l0 out (out.length:Int) _=_;unfold YS;rw[Qu];rfl
 |m+1,out,Q,L=>by
  have W:=j.n0;have l:=ZuH (p:=opn live (Zm b) out) j.n0;rw[ZCj]at l;unfold ZrH;cases e:nxt live (Zm b) n out with
  |none =>
   rw[e]at l;refine YF ?_;show YS (v,live,()) l0 out (out.length:Int) _=_;unfold YS;rw[Qe,l];rfl
  |some w =>
   rw[e]at l;have E:=e;unfold nxt at E;rw[List.find?_range_eq_some]at E;obtain⟨g,c,_⟩:=E;have c:=Ky.1 c;rw[Up,Ul,Ul]at g;have H:YS (v,live,()) l0 out (out.length:Int) (Zkj n (opn live (Zm b) out))=some (.inl (out++[(w:Int)],((out++[(w:Int)]).length:Int),Zkj n (opn live (Zm b) (out++[(w:Int)])),())):=by
    unfold YS;rw[Qe,l,Bq];show(if(w:Int)<0 then _ else _)=_;rw[Qu,Zv,Zfc c,Bq,Zk (by simp only[Uf,Ug];omega),Zqb h a j.ll,Bq,UG,Zyg h a j c g.1 g.2 L,Xd];rw[Uh];rfl
   exact(YW H).trans (ZnO h a j k m (out++[(w:Int)]) (by rw[Uh];simp only[Uf,Ug];omega) (Zx8 g.1 g.2 L))
theorem Zqe (h:Xh b) (a:VOk b v) (j:Zvl live (Zm b) n) (W:YP v=some (n:Int)):Q8 (v,live,())=some (ZrH live (Zm b) n n []):=by
 have d:=j.n0;unfold Q8;show(YP v).bind _=_;rw[W,Bq,QQ,QQ,QQ,QQ,ZpW h a j.ll,Bq,UG];refine ZuA h a j ?_;have:=ZnO h a j (l0:=Zkj n λu=>(Zir live (Zm b) [] (u:Int):Int)) (Zfd _ _) n [] (by simp) (λu H=>by cases H);have e:Zkj n (opn live (Zm b) [])=Zkj n λu=>(Zir live (Zm b) [] (u:Int):Int):=by
  unfold Zkj;refine KK λu _=>?_;unfold opn;rw[Ue (by simp)]
 rw[e]at this;exact this
abbrev QU (b:Zc):Nat:=2*(ZB (K3 b)).length
abbrev XG (b:Zc) (br:List Int):List Bool:=ZaB (Zm b).length br
def ZaC (b:Zc) (br:List Int):List Int×Bool:=ZrH (XG b br) (Zm b) (QU b) (QU b) []
theorem nN (b:Zc):QU b=2*(ZB (K3 b)).length:=rfl
theorem ZfZ (h:Xh b):QU b<=156:=by
 have:=YT h.ok.1.few;have:=nN b;omega
theorem ZGn (h:Xh b) (br:List Int):Zvl (XG b br) (Zm b) (QU b) where
 few:=Y2 h
 ll:=Qo _ _
 n0:=by have:=ZfZ h;omega
 bd:=λx Z=>by
  have:=ZfT h Z;have:=nN b;omega
theorem Zqs (h:Xh b) (a:VOk b v):YP v=some (QU b:Int):=by
 have:=ZfZ h;have e:=nN b;unfold YP;rw[show Yt (ZG.ZB v)=some ((ZG.ZB v).length:Int)from rfl,Bq,a.ZB,QP];congr 1
variable {br:List Int}
theorem ZnT (h:Xh b) (a:VOk b v) (r:br.length<=1048576):JQ v br=some (tr (Zmz ((Zm b).length:Int) br)):=by
 have s:=Y2 h;unfold JQ;rw[show Zb1 (ZG.links v)=some ((ZG.links v).length:Int)from rfl,Bq,a.links,QP];exact ZsG br _ r
theorem Zpq (h:Xh b) (r:br.length<=1048576):Zfw b br=some (sel (Zmz ((Zm b).length:Int) br) 0 2):=by
 have s:=Y2 h;unfold Zfw;rw[Zeh b h.sm,Bq,Uc (ZR h.ok),Zdh h,Bq,Zme br _ r,Bq];by_cases q:Zmz ((Zm b).length:Int) br
 ·rw[Uc (ZR q),Xr q]
 ·rw[Ue (λz=>q ((Xf _).1 z)),Y7 q]
theorem ZiM (h:Xh b):V8 b=some (QU b:Int):=by
 rw[Zm0 h.ok.1.few];congr 1
theorem ZBw (h:Xh b) (r:br.length<=1048576) (H:Zmz ((Zm b).length:Int) br):JY b br=some (if(ZaC b br).2=true then((ZaC b br).1,0)else([],7)):=by
 have s:=Y2 h;unfold JY;rw[Zpq h r,Bq,Xr H,Uc rfl,Zdh h,Bq,ZiM h,Bq,Zgu _ _ s r,Bq,ZqI (ZGn h br),Bq];show(if(ZaC b br).2=true then _ else _)=_;split<;>rfl
theorem Znb (h:Xh b) (a:VOk b v) (br:List Int):Q8 (v,XG b br,())=some (ZaC b br) :=
 Zqe h a (ZGn h br) (Zqs h a)
theorem ZlL (h:Xh b) (a:VOk b v) (r:br.length<=1048576) (H:Zmz ((Zm b).length:Int) br):Vn v br=some (v,XG b br,()):=by
 have s:=Y2 h;have:=ZuG v br (by rw[a.links];exact s) (by rw[a.links];exact H.1) r;rw[a.links]at this;exact this
theorem Zxw {n:Int} {l:List Zj} (h:ZeM l (Zc7 n l)) {i:Nat} {x:Zj} (Z:l[i]?=some x):∀(m:Nat) (y:Zj),l[i+m+1]?=some y->K7 x<K7 y
 |0,y,e=>(h (i+1) y e).2.1 x (by omega) Z
 |m+1,y,e=>by
  have q:=(Ub.1 e).1;have S:l[i+m+1]?=some (l[i+m+1]'(by omega)):=Ua _;have d:=Zxw h Z m _ S;have f:=(h (i+m+1+1) y e).2.1 _ (by omega) S;omega
theorem ZCk {n:Int} (h:ZeM l (Zc7 n l)):Ztf l:=by
 intro i j x y Z e H;rcases Nat.lt_trichotomy i j with q|q|q
 ·have:=Zxw h Z (j-i-1) y (by rw[show i+(j-i-1)+1=j by omega];exact e)
  omega
 ·exact q
 ·have:=Zxw h e (i-j-1) x (by rw[show j+(i-j-1)+1=i by omega];exact Z)
  omega
structure Znh (b:Zc) (c:ZA) (br:List Int) (l:List Zj):Prop where
 blk:Xh b
 cor:Vd c
 ris:Zmz ((Zm b).length:Int) br
 src:ZeM l (Zc7 (2*((ZB (K3 b)).length:Int)) l)
 ord:(ZaC b br).2=true
structure Pre (b:Zc) (c:ZA) (br:List Int) (l:List Zj):Prop where
 blk:Xh b
 cor:Vd c
 ris:Zmz ((Zm b).length:Int) br
 src:ZeM l (Zc7 (2*((ZB (K3 b)).length:Int)) l)
theorem Znh.pre (h:Znh b c br l):Pre b c br l:=⟨h.blk,h.cor,h.ris,h.src⟩
def Zkk (t:Zr) (k:Nat) (r:Bool×Zj):Zr:=(List.set (Gd t) k r.1,List.set (GL t) k (GR r.2),List.set (GF t) k (GZ r.2),())
theorem Zs8 (r:Zji n t) (H:k<n:=by omega):∃x a s,atI (Gd t) (k:Int)=some x/\atI (GL t) (k:Int)=some a/\atI (GF t) (k:Int)=some s:=by
 have d:=r.lr;have f:=r.la;have g:=r.ls;exact⟨_,_,_,by rw[Zv];exact Ua (by omega),by rw[Zv];exact Ua (by omega),by rw[Zv];exact Ua (by omega)⟩
def Fed (b:Zc) (live:List Bool) (c:List Bool) (node:Int) (m:Nat):Prop:=∃(k:Nat) (x:Zn),k<m/\(Zm b)[k]?=some x/\live[k]?=some true/\Gf x=node/\atI c (Gc x)=some true
noncomputable def due (b:Zc) (live:List Bool) (dirty:List Int) (c:List Bool) (node:Int):Bool:=tr (node∈dirty\/Fed b live c node (Zm b).length)
theorem ZlJ {α σ:Type} {f:Nat->α->σ->σ} {I:σ->Prop}:∀(l:List α) (m:Nat) (s:σ),I s->(∀k x s,l[k]?=some x->I s->I (f (m+k) x s))->I (XU f m l s)
 |[],_,_,h,_=>h
 |x::l,m,s,h,a=>by
  simp only[XU];have H:=a 0 x s rfl h;rw[Kt]at H;refine ZlJ l (m+1) _ H λk y s e q=>?_;rw[show m+1+k=m+(k+1) by omega];exact a (k+1) y s (by rw[U3];exact e) q
def StB (st:NSt):Prop:=∀q,st=some q->ZxV q.2
theorem ZzD:ZxV ZbM:=by
 refine⟨⟨?_,?_⟩,?_,?_⟩<;>decide
theorem ZAO (h:ZcT s):ZxV s:=by
 obtain⟨z,Z,a⟩:=h;exact⟨⟨by omega,by omega⟩,by omega,by omega⟩
theorem Zy1 (m:ZxV a) (q:ZxV s):ZxV (hul a s):=by
 obtain⟨⟨a1,A⟩,i,j⟩:=m;obtain⟨⟨b1,N⟩,P,Q⟩:=q;unfold hul;refine⟨⟨?_,?_⟩,?_,?_⟩
 ·show -1000000<=Min.min _ _;omega
 ·show Min.min _ _<=1000000;omega
 ·show -1000000<=Max.max _ _;omega
 ·show Max.max _ _<=1000000;omega
variable {st:NSt}
theorem Zzf (h:Xh b) (j:VOk b v) (g:Vd c) (i:Zji (QU b) t) (Z:(Zm b)[k]?=some x) (e:StB st):StB (ZpI b c t x st):=by
 obtain⟨r,a,s,E,m,J,z⟩:=Zsz h i (Ud Z);obtain⟨d,o,e1,f,_,_,o1,O⟩:=spans_eq h j g Z z.1 z.2;have hsp:spn b c x s=(d,o):=by unfold spn;rw[f];rfl
 have u:ZpI b c t x st=if r=true then ZwE st (Zqw a d) o else st:=by
  unfold ZpI;rw[E,m,J];simp only[UQ,hsp]
 rw[u];split
 ·intro q H
  cases st with
  |none =>
   injection H with H
   rw[<-H];exact⟨o1,O⟩
  |some p =>
   injection H with H
   rw[<-H];exact Zy1 (e p rfl) ⟨o1,O⟩
 ·exact e
theorem ZuU (H:Znh b c br l) (d:VOk b v) (r:Zji (QU b) t) (live:List Bool) (node:Int):StB (ZgY b c live l t node):=by
 unfold ZgY;refine ZlJ _ _ _ ?_ (λk x st Z h=>?_)
 ·unfold Zia
  refine ZlJ _ _ _ (λq a=>by cases a) (λk x st Z h=>?_);show StB (if K7 x=node then _ else st);split
  ·intro q a
   injection a with a
   rw[<-a];exact ZAO (H.src k x Z).2.2.2
  ·exact h
 ·show StB (if(live[0+k]?).getD false=true then _ else st)
  split
  ·split
   ·exact Zzf H.blk d H.cor r Z h
   ·exact h
  ·exact h
variable {r:Bool×Zj}
theorem Zw8 (h:Zji n t) (k:Nat) (E:ZxV (GZ r.2)):Zji n (Zkk t k r):=by
 refine⟨?_,?_,?_,λs H=>?_⟩
 ·show(List.set (Gd t) k r.1).length=n
  rw[UZ];exact h.lr
 ·show(List.set (GL t) k (GR r.2)).length=n
  rw[UZ];exact h.la
 ·show(List.set (GF t) k (GZ r.2)).length=n
  rw[UZ];exact h.ls
 ·rcases Ke (show s∈List.set (GF t) k (GZ r.2)from H)with q|q
  ·exact h.sl s q
  ·rw[q];exact E
theorem ZyX (h:StB st) (node:Int):ZxV (GZ (ZzB node st).2):=by
 cases st with
 |none=>exact ZzD
 |some q=>exact h q rfl
theorem ZzA {v:Nat} (h:nxt live L n out=some v):v<n/\(v:Int) ∉ out/\Zir live L out (v:Int)=0:=by
 unfold nxt at h;rw[List.find?_range_eq_some]at h;obtain⟨g,a,_⟩:=h;rw[Up,Ul,Ul]at g;exact⟨Ky.1 a,g⟩
theorem ZwX (live:List Bool) (L:List Zn) (n:Nat):∀(m:Nat) (out:List Int),(∀u∈out,0<=u/\u<(n:Int))->(ZrH live L n m out).1.length<=out.length+m/\∀u∈(ZrH live L n m out).1,0<=u/\u<(n:Int)
 |0,out,h=>⟨by show out.length<=_;omega,h⟩
 |m+1,out,h=>by
  unfold ZrH;cases e:nxt live L n out with
  |none=>exact⟨by simp,λu a=>by cases a⟩
  |some v =>
   have H:=(ZzA e).1;obtain ⟨d,f⟩:=ZwX live L n m (out++[(v:Int)]) (λu a=>by
    rcases Uu.1 a with q|q
    ·exact h u q
    ·rw[Ut.1 q];omega)
   refine⟨?_,f⟩;rw[Uh]at d;simp only[Uf,Ug]at d;show(ZrH live L n m (out++[(v:Int)])).1.length<=_;omega
theorem Zt9 (b:Zc) (br:List Int):(ZaC b br).1.length<=QU b/\∀u∈(ZaC b br).1,0<=u/\u<(QU b:Int):=by
 have:=ZwX (XG b br) (Zm b) (QU b) (QU b) [] (λu a=>by cases a);rw[Ug,Uw]at this;exact this
noncomputable def newV (b:Zc) (c:ZA) (live:List Bool) (l:List Zj) (t:Zr) (node:Int):Bool×Zj:=ZzB node (ZgY b c live l t node)
noncomputable def ZxW (r:Bool×Zj):Bool:=r.1&&!tr (ZaH (GR r.2))
def noT:Zr:=([],[],[],())
theorem ZL1 {a b:Int} (h:0<b) (k:0<=a) (i:a<=4000000000000000000):∃d r1,Y3 a b 0=some d/\Y3 a b 1=some r1/\0<=d/\d<=r1:=by
 have t0:=KW b k;have D:=Int.tdiv_nonneg k (show 0<=b by omega);have c:Int.tdiv a b<=a:=by
  rw[U8 k];exact Int.ediv_le_self b k
 have ex:∀m:Int,Y3 a b m=some (if m=1/\0<Int.tmod a b then Int.tdiv a b+1 else Int.tdiv a b):=λm=>by
  unfold Y3;rw[QQ,QP (n:=Int.tdiv a b),Qu];by_cases f:(0:Int)<Int.tmod a b
  ·rw[Uc f]
   by_cases M:m=1
   ·rw[Uc M,Uc ⟨M,f⟩,QP]
   grind
  grind
 refine⟨_,_,ex 0,ex 1,?_,?_⟩;all_goals grind
theorem at_mem {l:List α} {i:Int} {x:α} (h:atI l i=some x):x∈l:=by
 unfold atI at h;grind
theorem ZKc {t:ZH} (g:∀v∈Gr t,0<=v) (i k a c:Int):0<=tm t i k a c:=by
 unfold tm;split
 ·refine Hw ?_ (by omega)
  unfold ZmB;cases e:atI (Gr t) (i*((Gq t).length:Int)+k)with
  |none=>exact U7 _
  |some x=>exact g x (at_mem e)
 grind
theorem ZLQ {t:ZH} (h:Jk t) (g:∀v∈Gr t,0<=v) (s l:Int):∃r r1,Zcd t s l 0=some r/\Zcd t s l 1=some r1/\0<=r/\r<=r1/\r1<=1000000:=by
 obtain⟨j,a,b,H,e1,N⟩:=ZpJ h.1 s;obtain⟨k,c,d,f,y,O⟩:=ZpJ h.2.1 l;obtain⟨q,_,Q,_,B⟩:=look_eq h s l (.inr rfl:(1:Int)=0\/(1:Int)=1);have R:=H.ab;have C:=H.a0;have S:=H.b0;have J:=H.j0;have o:=H.jl;have p:=H.jb;have k1:=f.ab;have D:=f.a0;have T:=f.b0;have K:=f.j0;have u:=f.jl;have w:=f.jb;have p1:=Zim (show 0<=a by omega) (show a<=100000 by omega) (show 0<=c by omega) (show c<=100000 by omega);have p2:=Zim (show 0<=a by omega) (show a<=100000 by omega) (show 0<=d by omega) (show d<=100000 by omega);have X:=Zim (show 0<=b by omega) (show b<=100000 by omega) (show 0<=c by omega) (show c<=100000 by omega);have Y:=Zim (show 0<=b by omega) (show b<=100000 by omega) (show 0<=d by omega) (show d<=100000 by omega);have Z:=Int.mul_pos C D;have q1:=Zs9 h (i:=j) (k:=k) (a:=a) (c:=c) (λ_=>⟨J,o⟩) (λ_=>⟨K,u⟩);have q2:=Zs9 h (i:=j) (k:=k+1) (a:=a) (c:=d) (λ_=>⟨J,o⟩) (λz=>⟨by omega,w z⟩);have q3:=Zs9 h (i:=j+1) (k:=k) (a:=b) (c:=c) (λz=>⟨by omega,p z⟩) (λ_=>⟨K,u⟩);have q4:=Zs9 h (i:=j+1) (k:=k+1) (a:=b) (c:=d) (λz=>⟨by omega,p z⟩) (λz=>⟨by omega,w z⟩);have n1:=ZKc g j k a c;have U:=ZKc g j (k+1) a d;have V:=ZKc g (j+1) k b c;have W:=ZKc g (j+1) (k+1) b d;have P:(a+b)*(c+d)=a*c+a*d+(b*c+b*d):=by grind
 have L:∀m:Int,Zcd t s l m=Y3 (Zvr t j a b k c d) ((a+b)*(c+d)) m:=λm=>by
  unfold Zcd;rw[e1,y,Bq,Bq];have r1:=Zum h H f (v1:=0) (s:=0) (A:=a) (.inl ⟨rfl,rfl⟩);have r2:=Zum h H f (v1:=1) (s:=tm t j k a c+tm t j (k+1) a d) (A:=b) (.inr ⟨rfl,rfl⟩);refine(YW (v':=(tm t j k a c+tm t j (k+1) a d,(1:Int),())) ?_).trans ((YW (v':=(Zvr t j a b k c d,(2:Int),())) ?_).trans ?_)
  ·show QY t m (j,a,b) (k,c,d) 0 0=_
   unfold QY;rw[Uc (by decide)];refine r1.trans ?_;rw[K2,Int.zero_add];rfl
  ·show QY t m (j,a,b) (k,c,d) (tm t j k a c+tm t j (k+1) a d) 1=_
   unfold QY;rw[Uc (by decide)];exact r2
  ·have E:QY t m (j,a,b) (k,c,d) (Zvr t j a b k c d) 2=(Y3 (Zvr t j a b k c d) ((a+b)*(c+d)) m).bind λx=>some (.inr x):=by
    unfold QY;rw[Ue (by decide)];show(Y3 (Zvr t j a b k c d) (Wq (Wq (a+b)*Wq (c+d))) m).bind _=_;rw[QP (n:=a+b),QP (n:=c+d),QP (n:=(a+b)*(c+d))]
   cases e:Y3 (Zvr t j a b k c d) ((a+b)*(c+d)) m with
   |none =>
    rw[e]at E;rw[Zsf];grind
   |some x =>
    rw[e]at E;exact YF E
 obtain⟨r,r1,F,G,I,M⟩:=ZL1 (a:=Zvr t j a b k c d) (b:=(a+b)*(c+d)) (by omega) (by unfold Zvr;omega) (by unfold Zvr;omega);grind
theorem ZLW {s:Int} (g:-1000000<=s) (i:s<=1000000) (j:0<=d) (k:d<=301000000) :
  ∃r r1:Int,(∀m:Int,m=0\/m=1->((Zfv (Wq (Wq (Wq ((1000000:Int)*s)*s)+Wq (Wq ((4:Int)*d)*d))) m).bind λl=>(Y3 l (1000:Int) m).bind λL=>some L)=some (if m=1 then r1 else r))/\0<=r/\r<=r1:=by
 obtain⟨b1,N,P,e1,f⟩:=ZCA g i j k;have E:Wq (Wq (Wq ((1000000:Int)*s)*s)+Wq (Wq ((4:Int)*d)*d))=((4*sqs s d:Nat):Int):=by
  rw[QP (n:=1000000*s),QP (n:=4*d),Int.mul_assoc,Int.mul_assoc,e1,f];unfold sqs;generalize s.natAbs*s.natAbs=x at *;generalize d.natAbs*d.natAbs=y at *;rw[QP (n:=1000000*(x:Int)),QP (n:=4*(y:Int)),QP];omega
 generalize sqs s d=S at b1 E;obtain⟨R0,H,b,h⟩:=Zr4 (S:=4*S) (m:=0);obtain⟨R,a,o,e⟩:=Zr4 (S:=4*S) (m:=1);have c:R0=R:=Nat.le_antisymm ((ZCq a R0).2 H.1) ((ZCq H R).2 a.1);subst c;rw[E];refine⟨((R0/1000:Nat):Int),((upQ (if R0*R0<4*S then R0+1 else R0) 1000:Nat):Int),λm Q=>?_,by omega,?_⟩
 ·rw[show(1000:Int)=((1000:Nat):Int)from rfl]
  rcases Q with rfl|rfl
  ·rw[h,Bq,Ue (by decide),Zp2 (by omega) (by omega) (by omega) (.inl rfl),Bq,Ue (by decide),Ue (by decide)]
  ·rw[e,Bq,Uc rfl,Zp2 (by omega) (by split<;>omega) (by omega) (.inr rfl),Bq,Uc rfl,Uc rfl]
 ·unfold upQ
  grind
theorem ZLq (h:Xh b) (p:VOk b v) (Z:(Zm b)[k]?=some x) {s:Int} (s1:-1000000<=s:=by omega) (s2:s<=1000000:=by omega) :
  ∃R r1,Zcg b x s 0=some R/\Zcg b x s 1=some r1/\0<=R/\R<=r1/\r1<=1000000:=by
 obtain⟨y,n,L⟩:=ZrA h (Ud Z);rcases L.kind with c|F
 ·obtain⟨a,B,T,c1,c2,O,u,Y,D,C⟩:=Zpc h p L c
  obtain⟨R,r1,Q,q,t⟩:=ZLQ D C s (ldF b n);have ex:∀m r:Int,Zcd T s (ldF b n) m=some r->Zcg b x s m=some r:=λm r E=>by
   unfold Zcg;rw[Uc c.1,c2,Bq];grind
  grind
 ·obtain⟨A,w,j,z,e1,f,i⟩:=F
  obtain⟨ld,H⟩:=ZE5 h e1;obtain⟨g,G,l⟩:=H.sink (Ud i);obtain⟨R,r1,Q,q,t⟩:=ZLW (s:=s) (d:=sdl w ld z) s1 s2 G l;have e:¬GH x=1:=by omega
  have ex:∀m:Int,m=0\/m=1->Zcg b x s m=some (Min.min 1000000 (if m=1 then r1 else R)):=λm o=>by
   unfold Zcg;rw[Ue e,Zry h L,Bq];unfold Zi1;rw[Zv,e1,Bq,f,Zv,i,Bq,Zon H,Bq,g,Bq,Q m o,Bq]
  refine⟨_,_,ex 0 (.inl rfl),ex 1 (.inr rfl),?_,?_,?_⟩;all_goals grind
theorem ZLL (h:Xh b) (a:VOk b v) (q:Vd c) (Z:x∈Zm b) (i:ZcT s):ZcT (spn b c x s).2:=by
 obtain⟨k,H⟩:=UA.1 Z;obtain⟨s1,s2,s3⟩:=i;obtain⟨d,_,b1,_⟩:=Zm4 h a q H (K8 s) (.inl rfl:(0:Int)=0\/(0:Int)=1);obtain⟨D,_,N,_⟩:=Zm4 h a q H (Ga s) (.inl rfl:(0:Int)=0\/(0:Int)=1);obtain⟨f,_,P,_⟩:=Zm4 h a q H (K8 s) (.inr rfl:(1:Int)=0\/(1:Int)=1);obtain⟨g,_,Q,_⟩:=Zm4 h a q H (Ga s) (.inr rfl:(1:Int)=0\/(1:Int)=1);obtain⟨o1,m,f1,F,G,l,o⟩:=ZLq h a H (s:=K8 s);obtain⟨O,n,f2,j,p,r,t⟩:=ZLq h a H (s:=Ga s);have e:ZeD b c x s=some ((Min.min d D,Max.max f g,()),(Min.min o1 O,Max.max m n,())):=by
  unfold ZeD;grind
 unfold spn;rw[e];refine⟨?_,?_,?_⟩;all_goals grind
def StO (st:NSt):Prop:=∀q,st=some q->ZcT q.2
theorem ZLc:ZcT ZbM:=by
 refine⟨?_,?_,?_⟩<;>decide
theorem ZK5 (m:ZcT a) (q:ZcT s):ZcT (hul a s):=by
 obtain⟨a1,A,i⟩:=m;obtain⟨b1,N,P⟩:=q;unfold hul;refine⟨?_,?_,?_⟩;all_goals grind
theorem ZL6 {l:List Zz} (h:∀s∈l,ZcT s) (i:Int):ZcT ((atI l i).getD ZbM):=by
 cases e:atI l i with
 |none=>exact ZLc
 |some s=>exact h s (at_mem e)
theorem ZLV (h:Xh b) (f:VOk b v) (d:Vd c) (e:∀s∈GF t,ZcT s) (Z:x∈Zm b) (H:StO st):StO (ZpI b c t x st):=by
 have o:=ZLL h f d Z (ZL6 e (Gc x));unfold ZpI;split
 ·intro q a
  cases st with
  |none =>
   have a:some (_,(spn b c x ((atI (GF t) (Gc x)).getD ZbM)).2)=some q:=a;grind
  |some r =>
   have a:some (_,hul r.2 (spn b c x ((atI (GF t) (Gc x)).getD ZbM)).2)=some q:=a;injection a with a
   rw[<-a];exact ZK5 (H r rfl) o
 ·exact H
theorem ZLt (h:Xh b) (d:VOk b v) (H:Vd c) (r:∀s∈GF t,ZcT s) (e:∀x∈l,ZcT (GZ x)) (live:List Bool) (node:Int):StO (ZgY b c live l t node):=by
 unfold ZgY;refine ZlJ (I:=StO) _ _ _ ?_ λk x st Z hst=>?_
 ·unfold Zia
  refine ZlJ (I:=StO) _ _ _ (λq a=>by cases a) λk x st Z hst=>?_;split
  ·intro q a
   grind
  ·exact hst
 ·split
  ·split
   ·exact ZLV h d H r (Ud Z) hst
   ·exact hst
  ·exact hst
theorem ZkU:∀(A B:List Int),A.Nodup->(∀x∈A,x∈B)->A.length<=B.length
 |[],_,_,_=>UM _
 |a::A,B,h,q=>by
  obtain ⟨s,t,rfl⟩:=List.append_of_mem (q a UK);have d:=KU.1 h;have:=ZkU A (s++t) d.2 (λx Z=>by
   grind)
  grind
def ZjH (n:Nat):List Int:=(List.range n).map λ(k:Nat)=>(k:Int)
theorem Zhw {x:Int}:x∈ZjH n<->0<=x/\x<(n:Int):=by
 unfold ZjH;simp only[KQ,Ky];constructor
 ·grind
 ·rintro⟨k,d⟩;exact⟨x.toNat,by omega,by omega⟩
theorem Zl2 (n:Nat):(ZjH n).length=n:=by unfold ZjH;simp
variable {u:Int}
theorem ZwQ {A:List Int} (h:A.Nodup) (l:A.length=n) (b:∀x∈A,0<=x/\x<(n:Int)) (k:0<=u) (d:u<(n:Int)):u∈A:=by
 refine Uz λq=>?_;have:=ZkU (u::A) (ZjH n) (KU.2 ⟨q,h⟩) (λx Z=>by
  rcases Us.1 Z with rfl|Z
  ·exact Zhw.2 ⟨k,d⟩
  ·exact Zhw.2 (b x Z))
 rw[Zl2]at this;grind
def Rdy (live:List Bool) (L:List Zn) (out:List Int) (v:Int):Prop:=∀(k:Nat) (x:Zn),L[k]?=some x->(live[k]?).getD false=true->Gf x=v->Gc x∈out
variable {v:Int}
theorem ZCm (h:Zir live L out v=0):Rdy live L out v:=by
 intro k x Z q r;have H:=(Ub.1 Z).1;have:=Zz3 live L out v L.length k x (UE _) H Z;rw[Ur,h]at this;unfold cw at this;grind
theorem Rdy.mono {o:List Int} (h:Rdy live L out v) (s:∀x∈out,x∈o):Rdy live L o v:=λk x Z q r=>s _ (h k x Z q r)
def Zmy (live:List Bool) (L:List Zn):List Int->List Int->Prop
 |_,[]=>True
 |out,v::r=>(0<=v/\v ∉ out/\Rdy live L out v)/\Zmy live L (out++[v]) r
theorem Zua {live:List Bool} {L:List Zn} {n:Nat}:∀(m:Nat) (out:List Int),(ZrH live L n m out).2=true->∃r,(ZrH live L n m out).1=out++r/\r.length=m/\Zmy live L out r
 |0,out,_=>⟨[],by rw[Um];rfl,rfl,trivial⟩
 |m+1,out,h=>by
  unfold ZrH at h ⊢;cases e:nxt live L n out with
  |none=>rw[e]at h;cases h
  |some v =>
   rw[e]at h;obtain⟨d,f,g⟩:=ZzA e;obtain⟨r,r1,r2,R⟩:=Zua m (out++[(v:Int)]) h;refine⟨(v:Int)::r,?_,by grind,⟨by omega,f,ZCm g⟩,R⟩;grind
theorem Zmy.nodup {live:List Bool} {L:List Zn}:∀(r out:List Int),Zmy live L out r->out.Nodup->(out++r).Nodup
 |[],out,_,h=>by grind
 |v::r,out,h,o=>by
  have:=Zmy.nodup r (out++[v]) h.2 (by
   rw[UW];refine ⟨o,by simp,λa m b H e=>?_⟩;rw[Ut.1 H] at e;exact h.1.2.1 (e▸m))
  grind
structure ZBS (b:Zc) (br:List Int) (R:List Int):Prop where
 ord:Zmy (XG b br) (Zm b) [] R
 len:R.length=QU b
 nd:R.Nodup
 inn:∀u∈R,0<=u/\u<(QU b:Int)
 all:∀u:Int,0<=u->u<(QU b:Int)->u∈R
theorem ZwY (h:(ZaC b br).2=true):ZBS b br (ZaC b br).1:=by
 obtain⟨r,r1,r2,R⟩:=Zua (QU b) [] h;have e:(ZaC b br).1=r:=r1;have l:=(Zt9 b br).2;rw[e]at l;have W:r.Nodup:=Zmy.nodup r [] R KM;rw[e];exact⟨R,r2,W,l,λu k d=>ZwQ W r2 l k d⟩
abbrev Row:=Bool×Zz×Zz
def Zfq (t:Zr) (k:Int):Row:=((atI (Gd t) k).getD false,(atI (GL t) k).getD ZbM,(atI (GF t) k).getD ZbM)
def ZrS (r:Bool×Zj):Row:=(r.1,GR r.2,GZ r.2)
variable {t':Zr}
theorem Zze (h:Zfq t (Gc x)=Zfq t' (Gc x)) (st:NSt):ZpI b c t x st=ZpI b c t' x st:=by
 unfold Zfq at h;have d:=Ka Prod.fst h;have f:=Ka (λz:Row=>z.2.1) h;have g:=Ka (λz:Row=>z.2.2) h;dsimp only at d f g;unfold ZpI;rw[d,f,g]
theorem ZyM (h:∀(k:Nat) (x:Zn),(Zm b)[k]?=some x->(live[k]?).getD false=true->Gf x=node->Zfq t (Gc x)=Zfq t' (Gc x)):newV b c live l t node=newV b c live l t' node:=by
 unfold newV ZgY;congr 1;refine Zj0 _ _ _ λk x st Z=>?_;rw[Uw];split
 ·rename_i q
  split
  ·rename_i r
   exact Zze (h k x Z q r) st
  ·rfl
 ·rfl
theorem Zm9 (E:Rdy live (Zm b) out node) (h:∀u∈out,Zfq t u=Zfq t' u):newV b c live l t node=newV b c live l t' node :=
 ZyM λk x Z q r=>h _ (E k x Z q r)
theorem ZLT {b:Zz} (d:K8 a=K8 b) (f:Ga a=Ga b):a=b:=by
 grind
theorem at_set {l:List α} {x:α}:atI (l.set k x) u=if u=(k:Int)then(atI l u).map (λ_=>x)else atI l u:=by
 unfold atI;grind
theorem Zl8 (h:u≠(k:Int):=by omega):Zfq (Zkk t k r) u=Zfq t u:=by
 unfold Zfq Zkk;show((atI (List.set (Gd t) k r.1) u).getD false,(atI (List.set (GL t) k _) u).getD ZbM,(atI (List.set (GF t) k _) u).getD ZbM)=_;rw[at_set,at_set,at_set,Ue h,Ue h,Ue h]
theorem ZpB (h:Zji n t) (H:k<n) (r:Bool×Zj):Zfq (Zkk t k r) (k:Int)=ZrS r:=by
 obtain⟨x,a,s,Z,m,q⟩:=Zs8 h H;unfold Zfq Zkk ZrS;show((atI (List.set (Gd t) k r.1) (k:Int)).getD false,(atI (List.set (GL t) k _) (k:Int)).getD ZbM,(atI (List.set (GF t) k _) (k:Int)).getD ZbM)=_;rw[at_set,at_set,at_set,Uc rfl,Uc rfl,Uc rfl,Z,m,q];rfl
theorem ZAH (r:Zji n t) (d:Zji n t') (h:∀k:Nat,k<n->Zfq t (k:Int)=Zfq t' (k:Int)):t=t':=by
 have one:∀{α:Type} (l L:List α) (z:α),l.length=n->L.length=n->(∀k:Nat,k<n->(atI l (k:Int)).getD z=(atI L (k:Int)).getD z)->l=L:=λl L z e1 f hh=>by
  apply UI;intro k;by_cases H:k<n
  ·have:=hh k H
   rw[Zv,Zv,Ua (by omega),Ua (by omega)]at this;grind
  grind
 obtain⟨a,b,c,⟨⟩⟩:=t;obtain⟨A,S,J,⟨⟩⟩:=t';have e1:a=A:=one a A false r.lr d.lr λk H=>Ka Prod.fst (h k H);have f:b=S:=one b S ZbM r.la d.la λk H=>Ka (λz:Row=>z.2.1) (h k H);have i:c=J:=one c J ZbM r.ls d.ls λk H=>Ka (λz:Row=>z.2.2) (h k H);rw[e1,f,i]
def Right (b:Zc) (c:ZA) (live:List Bool) (l:List Zj) (t:Zr):Prop:=∀u:Int,0<=u->u<(QU b:Int)->Zfq t u=ZrS (newV b c live l t u)
def Zus (r:Row):Prop:=r.1=true->ZaH r.2.1
theorem Ztl:ZxW r=false<->Zus (ZrS r):=by
 unfold ZxW Zus ZrS;dsimp only;cases r.1 with
 |true =>
  rw[KE];by_cases q:ZaH (GR r.2)
  ·rw[ZR q];grind
  ·rw[ZT q];grind
 |false=>grind
section
variable {b:Zc} {c:ZA} {live:List Bool} {l:List Zj}
theorem ZpA {t t':Zr}:∀(r out:List Int),Zmy live (Zm b) out r->(∀u∈out,Zfq t u=Zfq t' u)->(∀u∈r,Zfq t u=ZrS (newV b c live l t u))->(∀u∈r,Zfq t' u=ZrS (newV b c live l t' u))->∀u∈r,Zfq t u=Zfq t' u
 |[],_,_,_,_,_,u,a=>by cases a
 |v::r,out,h,o,d,f,u,a=>by
  have H:Zfq t v=Zfq t' v:=by
   rw[d v UK,f v UK,Zm9 h.1.2.2 o]
  rcases Us.1 a with rfl|a
  ·exact H
  ·exact ZpA r (out++[v]) h.2 (all_in o H) (λu a=>d u (UP _ a)) (λu a=>f u (UP _ a)) u a
where
 all_in {t t':Zr} {out:List Int} {v:Int} (ho:∀u∈out,Zfq t u=Zfq t' u) (hv:Zfq t v=Zfq t' v):∀u∈out++[v],Zfq t u=Zfq t' u:=λu hu=>by
  grind
variable {t:Zr}
theorem ZrQ {br:List Int} {t':Zr} (o:ZBS b br (ZaC b br).1) (r:Zji (QU b) t) (H:Zji (QU b) t') (h:Right b c (XG b br) l t) (d:Right b c (XG b br) l t'):t=t':=by
 have:=ZpA (t:=t) (t':=t') (ZaC b br).1 [] o.ord (λu a=>by cases a) (λu a=>h u (o.inn u a).1 (o.inn u a).2) (λu a=>d u (o.inn u a).1 (o.inn u a).2);exact ZAH r H λk e=>this _ (o.all _ (by omega) (by omega))
noncomputable def Znc (b:Zc) (c:ZA) (live:List Bool) (l:List Zj):List Int->Zr->Bool×Zr
 |[],t=>(true,t)
 |v::r,t=>match ZxW (newV b c live l t v)with
  |true=>(false,noT)
  |false=>Znc b c live l r (Zkk t v.toNat (newV b c live l t v))
variable {n:Nat}
theorem Zn2 (hst:∀(t:Zr) (u:Int),Zji n t->StB (ZgY b c live l t u)) (r:Zji n t) (k:Nat) (v:Int):Zji n (Zkk t k (newV b c live l t v)):=Zw8 r _ (ZyX (hst t v r) _)
theorem Zw9 (f:Zji n t) {out:List Int} {v:Int} (j:0<=v) (i:v<(n:Int)) (g:v ∉ out) (E:Rdy live (Zm b) out v) (d:∀u∈out,Rdy live (Zm b) out u) (r:∀u∈out,Zfq t u=ZrS (newV b c live l t u)) :
  let t':=Zkk t v.toNat (newV b c live l t v)
  (∀u∈out++[v],Rdy live (Zm b) (out++[v]) u)/\(∀u∈out++[v],Zfq t' u=ZrS (newV b c live l t' u))/\(∀u:Int,u≠v->Zfq t' u=Zfq t u)/\Zfq t' v=ZrS (newV b c live l t v):=by
 have H:∀u:Int,u≠v->Zfq (Zkk t v.toNat (newV b c live l t v)) u=Zfq t u:=λu a=>Zl8;have y:Zfq (Zkk t v.toNat (newV b c live l t v)) v=ZrS (newV b c live l t v):=by
  have:=ZpB f (k:=v.toNat) (by omega) (newV b c live l t v);grind
 have h:∀u∈out,Zfq (Zkk t v.toNat (newV b c live l t v)) u=Zfq t u:=λu a=>H u (λe=>g (e▸a));refine⟨λu a=>?_,λu a=>?_,H,y⟩
 ·rcases Uu.1 a with q|q
  ·exact(d u q).mono λx Z=>Uu.2 (.inl Z)
  ·rw[Ut.1 q];exact E.mono λx Z=>Uu.2 (.inl Z)
 ·rcases Uu.1 a with q|q
  ·rw[h u q,r u q,Zm9 (d u q) h]
  ·rw[Ut.1 q,y,Zm9 E h]
theorem Zxh {n:Nat} (hst:∀(t:Zr) (u:Int),Zji n t->StB (ZgY b c live l t u)):∀(r out:List Int) (t:Zr),Zmy live (Zm b) out r->(∀u∈r,u<(n:Int))->Zji n t->(∀u∈out,Rdy live (Zm b) out u)->(∀u∈out,Zfq t u=ZrS (newV b c live l t u)/\Zus (Zfq t u))->
  (Znc b c live l r t).1=true->Zji n (Znc b c live l r t).2/\∀u∈out++r,Zfq (Znc b c live l r t).2 u=ZrS (newV b c live l (Znc b c live l r t).2 u)/\Zus (Zfq (Znc b c live l r t).2 u)
 |[],out,t,_,_,H,_,d,_=>by rw[Um];exact⟨H,d⟩
 |v::r,out,t,h,W,H,f,d,k=>by
  unfold Znc at k ⊢;cases e:ZxW (newV b c live l t v)with
  |true=>grind
  |false =>
   rw[e] at k;obtain ⟨k1,K,Q,g⟩:=Zw9 H h.1.1 (W v UK) h.1.2.1 h.1.2.2 f λu a=>(d u a).1;have:=Zxh hst r (out++[v]) (Zkk t v.toNat (newV b c live l t v)) h.2 (λu a=>W u (UP _ a)) (Zn2 hst H _ _) k1 (λu a=>⟨K u a,by
    rcases Uu.1 a with q|q
    ·grind
    ·rw[Ut.1 q,g];exact Ztl.1 e⟩) k
   grind
theorem ZrT {n:Nat} {T:Zr} (hst:∀(t:Zr) (u:Int),Zji n t->StB (ZgY b c live l t u)):∀(r out:List Int) (t:Zr),Zmy live (Zm b) out r->(∀u∈r,u<(n:Int))->Zji n t->(∀u∈out,Zfq t u=Zfq T u)->(∀u∈r,Zfq T u=ZrS (newV b c live l T u)/\Zus (Zfq T u))->(Znc b c live l r t).1=true
 |[],_,_,_,_,_,_,_=>rfl
 |v::r,out,t,h,W,f,o,d=>by
  have H:=d v UK;have e:newV b c live l t v=newV b c live l T v:=Zm9 h.1.2.2 o;have i:=W v UK;unfold Znc;rw[show ZxW (newV b c live l t v)=false by rw[e,Ztl,<-H.1];exact H.2];refine ZrT hst r (out++[v]) _ h.2 (λu a=>W u (UP _ a)) (Zn2 hst f _ _) (λu a=>?_) (λu a=>d u (UP _ a));rcases Uu.1 a with q|q
  ·rw[Zl8 (by intro z;exact h.1.2.1 (by rw[show v=u by have:=h.1.1;omega];exact q))]
   exact o u q
  ·rw[Ut.1 q]
   have:=ZpB f (k:=v.toNat) (by have:=h.1.1;omega) (newV b c live l t v);rw[show(v.toNat:Int)=v by have:=h.1.1;omega]at this;rw[this,e,H.1]
end
section
variable {b:Zc} {c:ZA} {live:List Bool} {l:List Zj} {dirty:List Int} {t0:Zr} {n:Nat}
end
theorem ZzY (b:Zc) (c:ZA) (br:List Int) (l:List Zj) (d:sm Xi b) (g:sm Qf c) (r:br.length<=1048576) (f:l.length<=1048576) :
  (∃code:Int,(code=1\/code=2\/code=7)/\VL b c br l none=some (none,[],code)/\Zfx b c br l=some ([],code)/\¬Znh b c br l/\(Pre b c br l->code=7))\/
  (∃v,Znh b c br l/\VOk b v/\VL b c br l none=some (some (v,XG b br,()),(ZaC b br).1,0)/\Zfx b c br l=some ((ZaC b br).1,0)):=by
 unfold VL Zfx;rw[Zeh b d,ZbX b d,Bq,Bq];by_cases j:ZjL b;rotate_left
 ·rw[Ue (λq=>j ((Xf _).1 q)),Ue (λq=>j ((Xf _).1 q))]
  exact .inl ⟨1,.inl rfl,rfl,rfl,λq=>j q.blk.ok,λq=>absurd q.blk.ok j⟩
 have h:Xh b:=⟨j,d⟩;rw[Uc (ZR j),Uc (ZR j),Zio c g,ZfC c,Bq,Bq];by_cases y:Vd c;rotate_left
 ·rw[Ue (λq=>y ((Xf _).1 q)),Ue (λq=>y ((Xf _).1 q))]
  exact .inl ⟨1,.inl rfl,rfl,rfl,λq=>y q.cor,λq=>absurd q.cor y⟩
 obtain⟨v,e,a⟩:=ZxM h;rw[Uc (ZR y),Uc (ZR y),e,Bq,Uc (by rfl),Zpq h r,ZnT h a r,Bq,Bq];by_cases H:Zmz ((Zm b).length:Int) br;rotate_left
 ·rw[Ue (λq=>H ((Xf _).1 q)),Y7 H,Ue (by decide)]
  exact .inl ⟨2,.inr (.inl rfl),rfl,rfl,λq=>H q.ris,λq=>absurd q.ris H⟩
 rw[Uc (ZR H),Xr H,Uc rfl,ZgQ h v a.ZB l f,Zk4 h l f,Bq,Bq];by_cases s:ZeM l (Zc7 (2*((ZB (K3 b)).length:Int)) l);rotate_left
 ·rw[Ue (λq=>s ((Xf _).1 q)),Ue (λq=>s ((Xf _).1 q))]
  exact .inl ⟨2,.inr (.inl rfl),rfl,rfl,λq=>s q.src,λq=>absurd q.src s⟩
 rw[Uc (ZR s),Uc (ZR s),ZlL h a r H,Bq,Znb h a br,ZBw h r H,Bq,Bq];by_cases o:(ZaC b br).2=true;rotate_left
 ·rw[Ue o,Ue o]
  exact .inl ⟨7,.inr (.inr rfl),rfl,rfl,λq=>o q.ord,λ_=>rfl⟩
 rw[Uc o,Uc o];exact .inr ⟨v,⟨h,y,H,s,o⟩,a,rfl,rfl⟩
section
variable {b:Zc} {c:ZA} {br:List Int} {l:List Zj} {v:ZG}
theorem hst (h:Znh b c br l) (a:VOk b v) (t:Zr) (u:Int) (r:Zji (QU b) t):StB (ZgY b c (XG b br) l t u):=ZuU h a r _ _
variable {k:Nat}
theorem set_self {α:Type} {l:List α} {x:α} (h:l[k]?=some x):l.set k x=l:=by
 apply UI;grind
variable {t:Zr} {r:Bool×Zj}
theorem ZyR {n:Nat} (i:Zji n t) (H:k<n) (S:Zfq t (k:Int)=(false,ZbM,ZbM)) (E:ZrS r=(false,ZbM,ZbM)):Zkk t k r=t:=by
 obtain⟨x,a,s,Z,m,q⟩:=Zs8 i H;unfold Zfq at S;rw[Z,m,q]at S;injection S with d S
 injection S with f g
 dsimp only[Option.getD_some]at d f g;subst d f g;unfold ZrS at E;injection E with G E
 injection E with e h
 rw[Zv]at Z m q;obtain⟨a,b,c,⟨⟩⟩:=t;unfold Zkk;rw[G,e,h];show(List.set a k false,List.set b k ZbM,List.set c k ZbM,())=(a,b,c,());rw[set_self Z,set_self m,set_self q]
theorem ZwO {live:List Bool} {u:Int} (h:(newV b c live l t u).1=false):ZrS (newV b c live l t u)=(false,ZbM,ZbM):=by
 unfold newV at h ⊢;cases e:ZgY b c live l t u with
 |none=>rfl
 |some q=>rw[e]at h;cases h
theorem ZzR (h:r.1=true):ZxW r = !tr (ZaH (GR r.2)):=by
 unfold ZxW;rw[h,KE]
theorem Zl1 (H:Znh b c br l) (p:VOk b v) (T:l.length<=1048576) {ord:List Int} (D:ord.length<=1000) {c0:List Bool} {c1 c2:List Zz} :
  ∀(r out:List Int) (k:Nat) (t:Zr),ord.drop k=r->k<=ord.length->Zmy (XG b br) (Zm b) out r->(∀u∈r,0<=u/\u<(QU b:Int))->Zji (QU b) t->(∀u:Int,u ∉ out->Zfq t u=(false,ZbM,ZbM))->
   Zt (λu=>Yh ((v,XG b br,()):ZM) c l ord u.1 u.2.1 u.2.2.1 u.2.2.2.1 u.2.2.2.2.1 u.2.2.2.2.2.1 u.2.2.2.2.2.2.1) ((k:Int),c0,c1,c2,Gd t,GL t,GF t,())=some ((Znc b c (XG b br) l r t).2,(Znc b c (XG b br) l r t).1)/\
   Zt (λu=>XA b c (Zm b) (XG b br) l ord u.1 u.2.1 u.2.2.1 u.2.2.2.1 u.2.2.2.2.1 u.2.2.2.2.2.1 u.2.2.2.2.2.2.1) ((k:Int),c0,c1,c2,Gd t,GL t,GF t,())=some ((Znc b c (XG b br) l r t).2,(Znc b c (XG b br) l r t).1)
 |[],out,k,t,o,P,w,W,d,S=>by
  have A:k=ord.length:=by
   have:=Ka List.length o;grind
  subst A;constructor
  ·refine YF ?_
   show Yh ((v,XG b br,()):ZM) c l ord (ord.length:Int) c0 c1 c2 (Gd t) (GL t) (GF t)=_;unfold Yh;rw[Ue (Ui _)];rfl
  ·refine YF ?_
   show XA b c (Zm b) (XG b br) l ord (ord.length:Int) c0 c1 c2 (Gd t) (GL t) (GF t)=_;unfold XA;rw[Ue (Ui _)];rfl
 |node::r,out,k,t,o,P,w,W,d,S=>by
  have h:=H.blk;have U:=ZfZ h;have m:(XG b br).length=(Zm b).length:=Qo _ _;have n:Len l:=by unfold Len;omega
  have B:k<ord.length:=by
   grind
  have e:ord[k]?=some node:=by
   have:=Ka (λz=>z[0]?) o;grind
  have F:ord.drop (k+1)=r:=by
   rw[<-List.tail_drop,o];rfl
  have O:=W node UK;obtain⟨j,rfl⟩:∃j:Nat,node=(j:Int):=⟨node.toNat,by omega⟩;have M:j<QU b:=by omega
  obtain⟨x,a,s,Z,y,G⟩:=Zs8 d M;have e1:=Zrq h p H.cor m d n (ZCk H.src) (j:Int);have E:=Zr3 h p H.cor m d n (j:Int);rw[show ZzB (j:Int) (ZgY b c (XG b br) l t (j:Int))=newV b c (XG b br) l t (j:Int)from rfl]at e1 E;have i:=Zn2 (hst H p) d j (j:Int);have K:∀u:Int,u ∉ out++[(j:Int)]->Zfq (Zkk t j (newV b c (XG b br) l t (j:Int))) u=(false,ZbM,ZbM):=λu J=>by
   rw[Zl8 (λz=>J (Uu.2 (.inr (by grind))))];grind
  have I:=Zl1 H p T D (c0:=c0) (c1:=c1) (c2:=c2) r (out++[(j:Int)]) (k+1) (Zkk t j (newV b c (XG b br) l t (j:Int))) F B w.2 (λu J=>W u (UP _ J)) i K;have C:=ZwO (b:=b) (c:=c) (l:=l) (t:=t) (live:=XG b br) (u:=(j:Int));have f:(newV b c (XG b br) l t (j:Int)).1=false->Zkk t j (newV b c (XG b br) l t (j:Int))=t:=λq=>ZyR d M (S _ w.1.2.1) (C q);unfold Znc;rw[UG];generalize newV b c (XG b br) l t (j:Int)=R at *;by_cases Q:R.1=true
  ·rw[ZzR Q]
   by_cases g:ZaH (GR R.2)
   ·rw[ZR g]
    refine⟨(YW (v':=(((k+1:Nat):Int),c0,c1,c2,Gd (Zkk t j R),GL (Zkk t j R),GF (Zkk t j R),())) ?_).trans I.1,(YW (v':=(((k+1:Nat):Int),c0,c1,c2,Gd (Zkk t j R),GL (Zkk t j R),GF (Zkk t j R),())) ?_).trans I.2⟩
    ·show Yh ((v,XG b br,()):ZM) c l ord (k:Int) c0 c1 c2 (Gd t) (GL t) (GF t)=_
     unfold Yh;rw[Qe,Zv,e,Bq];show(Qb _ c l t (j:Int)).bind _=_;rw[e1,Bq,Uc Q,show Jm R.2.2.1=some (tr (ZaH (GR R.2)))from Ja _,Bq,Uc (ZR g),Z,y,G,Bq,Bq,Bq,Xd,UG];rfl
    ·show XA b c (Zm b) (XG b br) l ord (k:Int) c0 c1 c2 (Gd t) (GL t) (GF t)=_
     unfold XA;rw[Qe,Zv,e,Bq];show(ZaO b c (Zm b) (XG b br) l t (j:Int)).bind _=_;rw[E,Bq,Uc Q,show Zcc R.2.2.1=some (tr (ZaH (GR R.2)))from Zhg _,Bq,Uc (ZR g),Z,y,G,Bq,Bq,Bq,Xd,UG];unfold Zkk;rw[Q]
   ·rw[ZT g]
    refine⟨YF ?_,YF ?_⟩
    ·show Yh ((v,XG b br,()):ZM) c l ord (k:Int) c0 c1 c2 (Gd t) (GL t) (GF t)=_
     unfold Yh;rw[Qe,Zv,e,Bq];show(Qb _ c l t (j:Int)).bind _=_;rw[e1,Bq,Uc Q,show Jm R.2.2.1=some (tr (ZaH (GR R.2)))from Ja _,Bq,Ue (λz=>g ((Xf _).1 z))];rfl
    ·show XA b c (Zm b) (XG b br) l ord (k:Int) c0 c1 c2 (Gd t) (GL t) (GF t)=_
     unfold XA;rw[Qe,Zv,e,Bq];show(ZaO b c (Zm b) (XG b br) l t (j:Int)).bind _=_;rw[E,Bq,Uc Q,show Zcc R.2.2.1=some (tr (ZaH (GR R.2)))from Zhg _,Bq,Ue (λz=>g ((Xf _).1 z))];rfl
  ·have L:R.1=false:=by grind
   have N:ZxW R=false:=by
    unfold ZxW;grind
   rw[N];refine⟨(YW (v':=(((k+1:Nat):Int),c0,c1,c2,Gd (Zkk t j R),GL (Zkk t j R),GF (Zkk t j R),())) ?_).trans I.1,(YW (v':=(((k+1:Nat):Int),c0,c1,c2,Gd (Zkk t j R),GL (Zkk t j R),GF (Zkk t j R),())) ?_).trans I.2⟩
   ·show Yh ((v,XG b br,()):ZM) c l ord (k:Int) c0 c1 c2 (Gd t) (GL t) (GF t)=_
    unfold Yh;rw[Qe,Zv,e,Bq];show(Qb _ c l t (j:Int)).bind _=_;rw[e1,Bq,Ue Q,Z,y,G,Bq,Bq,Bq,Xd,UG];rfl
   ·show XA b c (Zm b) (XG b br) l ord (k:Int) c0 c1 c2 (Gd t) (GL t) (GF t)=_
    unfold XA;rw[Qe,Zv,e,Bq];show(ZaO b c (Zm b) (XG b br) l t (j:Int)).bind _=_;rw[E,Bq,Ue Q,Xd,f L]
end
def ZuT (n:Nat):Zr:=(List.replicate n false,List.replicate n ZbM,List.replicate n ZbM,())
variable (n:Nat)
theorem ZkR:Zji n (ZuT n):=⟨UT,UT,UT,λs q=>by
 rw[List.eq_of_mem_replicate q];exact ZzD⟩
theorem Zt5 (u:Int):Zfq (ZuT n) u=(false,ZbM,ZbM):=by
 have g:∀{α:Type} (z:α),(atI (List.replicate n z) u).getD z=z:=λz=>by
  unfold atI;grind
 show(((atI (List.replicate n false) u).getD false,(atI (List.replicate n ZbM) u).getD ZbM,(atI (List.replicate n ZbM) u).getD ZbM):Row)=_;rw[g,g]
structure Is (b:Zc) (c:ZA) (br:List Int) (l:List Zj) (t:Zr):Prop where
 asked:Znh b c br l
 tb:Zji (QU b) t
 right:Right b c (XG b br) l t
 good:∀u:Int,0<=u->u<(QU b:Int)->Zus (Zfq t u)
variable {b:Zc}
theorem Is.unique {c:ZA} {br:List Int} {l:List Zj} {t t':Zr} (h:Is b c br l t) (H:Is b c br l t'):t=t' :=
 ZrQ (ZwY h.asked.ord) h.tb H.tb h.right H.right
theorem ZAA (b:Zc) (c:ZA) (br:List Int) (l:List Zj) (p:sm Xi b) (s:sm Qf c) (d:br.length<=1048576) (q:l.length<=1048576) :
  ∃r:Zr×Int,Qa b c br l=some r/\Zaq b c br l=some r/\
   ((r.2=0/\Is b c br l r.1)\/(r.1=noT/\(∀t,¬Is b c br l t)/\(r.2=3/\Znh b c br l\/(r.2=1\/r.2=2\/r.2=7)/\¬Znh b c br l/\(Pre b c br l->r.2=7)))):=by
 unfold Qa Zaq;rcases ZzY b c br l p s d q with⟨code,y,e1,f,E,m⟩|⟨v,H,e,e1,f⟩
 ·rw[e1,f,Bq,Bq,Ue (by grind),Ue (by grind)]
  exact⟨_,rfl,rfl,.inr ⟨rfl,λt z=>E z.asked,.inr ⟨y,E,m⟩⟩⟩
 ·have h:=H.blk
  have W:=ZfZ h;have x:=Zt9 b br;have k:=ZwY H.ord;have w:=YT h.ok.1.few;have C:=nN b;rw[e1,f,Bq,Uc rfl,Bq,Bq,Uc rfl];rw[Zdh h,Bq,Zgu _ _ (Y2 h) d,Bq];have Y:Qd ((v,XG b br,()):ZM) c l (ZaC b br).1=some ((Znc b c (XG b br) l (ZaC b br).1 (ZuT (QU b))).2,(Znc b c (XG b br) l (ZaC b br).1 (ZuT (QU b))).1):=by
   unfold Qd Zdo;rw[show YP (ZM.view ((v,XG b br,()):ZM))=some (QU b:Int)from Zqs h e,Bq];rw[QQ,QQ,QQ,QQ,QQ,Bq,UG];exact(Zl1 H e q (ord:=(ZaC b br).1) (by omega) (ZaC b br).1 [] 0 (ZuT (QU b)) rfl (UM _) k.ord k.inn (ZkR _) (λu _=>Zt5 _ u)).1
  have Z:Zgx b c (Zm b) (XG b br) l (ZaC b br).1=some ((Znc b c (XG b br) l (ZaC b br).1 (ZuT (QU b))).2,(Znc b c (XG b br) l (ZaC b br).1 (ZuT (QU b))).1):=by
   unfold Zgx Zh8;rw[ZiM h,Bq];rw[QQ,QQ,QQ,QQ,QQ,Bq,UG];exact(Zl1 H e q (ord:=(ZaC b br).1) (by omega) (ZaC b br).1 [] 0 (ZuT (QU b)) rfl (UM _) k.ord k.inn (ZkR _) (λu _=>Zt5 _ u)).2
  rw[show Qd ((v,XG b br,()):ZM) c l (some ((v,XG b br,()):ZM),(ZaC b br).1,(0:Int)).snd.fst=_ from Y];rw[show Zgx b c (Zm b) (ZaB (Zm b).length br) l ((ZaC b br).1,(0:Int)).fst=_ from Z];rw[Bq];have k1:=Zxh (b:=b) (c:=c) (live:=XG b br) (l:=l) (hst H e) (ZaC b br).1 [] (ZuT (QU b)) k.ord (λu a=>(k.inn u a).2) (ZkR _) (λu a=>by cases a) (λu a=>by cases a);have K:=λT=>ZrT (b:=b) (c:=c) (live:=XG b br) (l:=l) (T:=T) (hst H e) (ZaC b br).1 [] (ZuT (QU b)) k.ord (λu a=>(k.inn u a).2) (ZkR _) (λu a=>by cases a);have Q:(Znc b c (XG b br) l (ZaC b br).1 (ZuT (QU b))).1=false->(Znc b c (XG b br) l (ZaC b br).1 (ZuT (QU b))).2=noT:=runP_bad _ _;generalize Znc b c (XG b br) l (ZaC b br).1 (ZuT (QU b))=R at *;cases o:R.1 with
  |true =>
   obtain⟨n,G⟩:=k1 o;exact⟨_,rfl,rfl,.inl ⟨rfl,H,n,λu g i=>(G u (k.all u g i)).1,λu g i=>(G u (k.all u g i)).2⟩⟩
  |false =>
   refine⟨_,rfl,rfl,.inr ⟨rfl,λT j=>?_,.inl ⟨rfl,H⟩⟩⟩;have:=K T λu a=>⟨j.right u (k.inn u a).1 (k.inn u a).2,j.good u (k.inn u a).1 (k.inn u a).2⟩;grind
where
 runP_bad {b:Zc} {c:ZA} {live:List Bool} {l:List Zj}:∀(r:List Int) (t:Zr),(Znc b c live l r t).1=false->(Znc b c live l r t).2=noT
  |[],t,h=>by cases h
  |v::r,t,h=>by
   unfold Znc at h ⊢;cases e:ZxW (newV b c live l t v)with
   |true=>rfl
   |false =>
    rw[e]at h;exact runP_bad r _ h
def Live (L:List Zn) (lv:List Bool) (a c:Int):Prop:=∃(k:Nat) (l:Zn),L[k]?=some l/\lv[k]?=some true/\Gc l=a/\Gf l=c
inductive Rch (L:List Zn) (lv:List Bool) (S:Int->Prop):Int->Prop
 |base {a:Int}:S a->Rch L lv S a
 |step {a c:Int}:Rch L lv S a->Live L lv a c->Rch L lv S c
variable {L:List Zn} {lv:List Bool} {a:Int}
theorem Rch.sub {S T:Int->Prop} (k:∀a,S a->T a) (d:∀a c,T a->Live L lv a c->T c) (h:Rch L lv S a):T a:=by
 induction h with
 |base h=>exact k _ h
 |step _ q i=>exact d _ _ i q
theorem Rch.mono {S T:Int->Prop} (k:∀a,S a->T a) (h:Rch L lv S a):Rch L lv T a:=h.sub (λa m=>.base (k a m)) (λa c m q=>.step m q)
def wt:List (List Int)->List Bool->Nat
 |x::xs,b::s=>(if b=true then 0 else 1+x.length)+wt xs s
 |_,_=>0
theorem ZzJ:∀(Y:List (List Int)) (Z:List Bool) (i:Nat) (x:List Int),Y[i]?=some x->Z[i]?=some false->wt Y (Z.set i true)+(1+x.length)=wt Y Z
 |[],_,_,_,h,_=>by simp at h
 |_::_,[],_,_,_,h=>by simp at h
 |y::Y,b::Z,0,x,d,f=>by
  simp at d f;subst d;subst f;simp[wt];omega
 |y::Y,b::Z,i+1,x,d,f=>by
  have:=ZzJ Y Z i x (by simpa using d) (by simpa using f);simp only[List.set_cons_succ,wt];omega
theorem ZCZ:∀(Y:List (List Int)) (Z:List Bool) (m:Nat),(∀x∈Y,x.length<=m)->wt Y Z<=(1+m)*Y.length
 |[],_,_,_=>by simp[wt]
 |_::_,[],_,_=>by simp[wt]
 |y::Y,b::Z,m,h=>by
  have d:=ZCZ Y Z m (λx H=>h x (by simp[H]));have f:=h y (by simp);simp only[wt,Uf,Nat.mul_add,Nat.mul_one];grind
theorem Zog {α:Type} {l:List α} {i:Nat} {x:α} (h:l[i]?=some x):l.set i x=l:=by
 apply UI;grind
def InN (N:Nat) (L:List Zn):Prop:=∀l∈L,(0<=Gc l/\Gc l<(N:Int))/\(0<=Gf l/\Gf l<(N:Int))
structure ZDA (N:Nat) (L:List Zn) (lv:List Bool) (k:Nat) (nx:List (List Int)):Prop where
 len:nx.length=N
 short:∀x∈nx,x.length<=k
 mem:∀(a:Nat) (x:List Int),nx[a]?=some x->∀c,c∈x<->∃(j:Nat) (l:Zn),j<k/\L[j]?=some l/\lv[j]?=some true/\Gc l=(a:Int)/\Gf l=c
abbrev Site:=Int×Int×Int
def mkC (s:Site):Zmj:=(s.1,s.2.1,s.2.2,0,())
def mkL (s:Site):List Int:=[s.1,s.2.1,s.2.2]
def ZJN (i:Nat) (k:Nat) (a:ZL):List Site:=if K9 a=4\/K9 a=5 then[((i:Int),(k:Int),0),((i:Int),(k:Int),1)]else[]
def ZJW (b:Zc) (i:Nat) (x:Zp):List Site:=match (Gh (GG b))[(GJ x).toNat]? with
 |some c=>cat (ZJN i) 0 (Ge c)
 |none=>[]
def sites (b:Zc):List Site:=cat (ZJW b) 0 (K4 (K3 b))
theorem ZJ0 {α β γ:Type} {f:Nat->α->List β} (g:β->γ):∀(l:List α) (m:Nat),(cat f m l).map g=cat (λk x=>(f k x).map g) m l
 |[],_=>rfl
 |x::l,m=>by simp only[cat,Kp,ZJ0 g l (m+1)]
theorem ZKY (i k:Nat) (a:ZL):(ZJN i k a).length<=2:=by
 unfold ZJN;split<;>simp
theorem ZK6 (h:Xh b) {x:Zp} (Z:x∈K4 (K3 b)) :
  ∃c,0<=GJ x/\(Gh (GG b))[(GJ x).toNat]?=some c/\Zjp c/\(Gu x).length=(K6 c).length:=by
 obtain⟨q,⟨c,H,y⟩,_⟩:=h.ok.1.2.2.1 x Z;exact⟨c,q.1,H,h.ok.1.1.2.1 c (Ud H),y⟩
theorem ZLI (h:Xh b) (i:Nat) (x:Zp) (Z:x∈K4 (K3 b)):(ZJW b i x).length<=16:=by
 obtain⟨c,_,d,y,_⟩:=ZK6 h Z;have H:=y.2.2.1.1;have:=VJ (f:=ZJN i) (c:=2) (l:=Ge c) (m:=0) (λk a _=>ZKY i k a);unfold ZJW;rw[d];dsimp only;omega
theorem ZKD (h:Xh b) (k:Nat):(cat (ZJW b) 0 ((K4 (K3 b)).take k)).length<=224:=by
 have d:=h.ok.1.few.insts;have:=VJ (f:=ZJW b) (c:=16) (l:=(K4 (K3 b)).take k) (m:=0) (λi x Z=>ZLI h i x (List.mem_of_mem_take Z));grind
theorem ZLK (h:Xh b):(sites b).length<=224:=by
 have:=ZKD h (K4 (K3 b)).length;rw[Ur]at this;exact this
theorem ZK8 (h:Xh b):ZI8 b=some ((sites b).map mkC):=by
 have t:=h.ok.1.few.insts;unfold ZI8 sites;rw[ZJ0];refine Xx (l:=K4 (K3 b)) (λi x=>(ZJW b i x).map mkC) [] (step:=λv=>ZID b v.1 v.2.1) (λi x Z p=>?_) ?_
 ·obtain⟨c,c0,c1,y,_⟩:=ZK6 h (Ud Z)
  have o:=y.2.2.1.1;have n:=ZKD h i;have R:(cat (λi x=>(ZJW b i x).map mkC) 0 ((K4 (K3 b)).take i)).length<=224:=by rw[<-ZJ0,U5];exact n
  simp only[Uq,ZID,show(i:Int)<((K4 (K3 b)).length:Int)from by omega,Uk,Zv,Z,Bq,Qt c0 c1];generalize cat (λi x=>(ZJW b i x).map mkC) 0 ((K4 (K3 b)).take i)=A at R;have e:(ZJW b i x).map mkC=cat (λk a=>(ZJN i k a).map mkC) 0 (Ge c):=by
   unfold ZJW;rw[c1];exact ZJ0 mkC _ 0
  rw[e];refine Xx (l:=Ge c) (ρ:=(List Zmj×Int×Unit)⊕List Zmj) (λk a=>(ZJN i k a).map mkC) A (step:=λv=>ZIC (i:Int) c v.1 v.2.1) (good:=.inl (A++cat (λk a=>(ZJN i k a).map mkC) 0 (Ge c),((i+1:Nat):Int),())) (λk a j H=>?_) ?_
  ·have d:=VJ (f:=λk a=>(ZJN i k a).map mkC) (c:=2) (l:=(Ge c).take k) (m:=0) (λk a _=>by rw[U5];exact ZKY i k a)
   rw[Uo]at d;simp only[ZIC,show(k:Int)<((Ge c).length:Int)from by omega,Uk,Zv,j,Bq,ZnK];generalize cat (λk a=>(ZJN i k a).map mkC) 0 ((Ge c).take k)=g at d;unfold ZJN;by_cases H:K9 a=4\/K9 a=5
   ·rw[Uc (ZR H),Uc H,Zk (by rw[Uh];simp only[Uf,Ug];omega),Xd]
    rfl
   ·rw[Ue (λq=>H ((Xf _).1 q)),Ue H,Xd,Hx,Um]
  ·simp only[ZIC,Ui,Uj]
   rw[Xd]
 ·simp only[Uq,ZID,Ui,Uj]
theorem ZLe (h:Xh b):ZJo b=some ((sites b).map mkL):=by
 have t:=h.ok.1.few.insts;unfold ZJo sites;rw[ZJ0];refine Xx (l:=K4 (K3 b)) (λi x=>(ZJW b i x).map mkL) [] (step:=λv=>ZIW b v.1 v.2.1) (λi x Z r=>?_) ?_
 ·obtain⟨c,c0,c1,y,_⟩:=ZK6 h (Ud Z)
  have p:=y.2.2.1.1;have o:=ZKD h i;have R:(cat (λi x=>(ZJW b i x).map mkL) 0 ((K4 (K3 b)).take i)).length<=224:=by rw[<-ZJ0,U5];exact o
  simp only[Uq,ZIW,show(i:Int)<((K4 (K3 b)).length:Int)from by omega,Uk,Zv,Z,Bq,Qt c0 c1];generalize cat (λi x=>(ZJW b i x).map mkL) 0 ((K4 (K3 b)).take i)=A at R;have e:(ZJW b i x).map mkL=cat (λk a=>(ZJN i k a).map mkL) 0 (Ge c):=by
   unfold ZJW;rw[c1];exact ZJ0 mkL _ 0
  rw[e];refine Xx (l:=Ge c) (ρ:=(List (List Int)×Int×Unit)⊕List (List Int)) (λk a=>(ZJN i k a).map mkL) A (step:=λv=>ZIV (i:Int) c v.1 v.2.1) (good:=.inl (A++cat (λk a=>(ZJN i k a).map mkL) 0 (Ge c),((i+1:Nat):Int),())) (λk a n s=>?_) ?_
  ·have d:=VJ (f:=λk a=>(ZJN i k a).map mkL) (c:=2) (l:=(Ge c).take k) (m:=0) (λk a _=>by rw[U5];exact ZKY i k a)
   rw[Uo]at d;simp only[ZIV,show(k:Int)<((Ge c).length:Int)from by omega,Uk,Zv,n,Bq];generalize cat (λk a=>(ZJN i k a).map mkL) 0 ((Ge c).take k)=g at d;unfold ZJN;by_cases H:K9 a=4
   ·rw[Uc H,Uc (Or.inl H),Zk (by rw[Uh];simp only[Uf,Ug];omega),Xd]
    rfl
   ·rw[Ue H]
    by_cases j:K9 a=5
    ·rw[Uc j,Uc (Or.inr j),Zk (by rw[Uh];simp only[Uf,Ug];omega),Xd]
     rfl
    ·rw[Ue j,Ue (λq=>q.elim H j),Xd,Hx,Um]
  ·simp only[ZIV,Ui,Uj]
   rw[Xd]
 ·simp only[Uq,ZIW,Ui,Uj]
structure ZI5 (b:Zc) (s:Site) (i k:Nat) (x:Zp) (c:Zq) (a:ZL):Prop where
 s1:s.1=(i:Int)
 s2:s.2.1=(k:Int)
 s3:s.2.2=0\/s.2.2=1
 inst:(K4 (K3 b))[i]?=some x
 c0:0<=GJ x
 cell:(Gh (GG b))[(GJ x).toNat]?=some c
 ok:Zjp c
 pins:(Gu x).length=(K6 c).length
 arc:(Ge c)[k]?=some a
 kind:K9 a=4\/K9 a=5
theorem ZLJ (h:Xh b) {s:Site} (q:s∈sites b):∃i k x c a,ZI5 b s i k x c a:=by
 obtain⟨i,x,Z,d⟩:=XZ.1 q;obtain⟨c,c0,c1,y,g⟩:=ZK6 h (Ud Z);unfold ZJW at d;rw[c1]at d;obtain⟨k,a,m,f⟩:=XZ.1 d;unfold ZJN at f;split at f
 ·rename_i H
  simp only[Us,UR,Kd]at f;rcases f with rfl|rfl
  ·exact⟨i,k,x,c,a,by simp,by simp,.inl rfl,Z,c0,c1,y,g,m,H⟩
  ·exact⟨i,k,x,c,a,by simp,by simp,.inr rfl,Z,c0,c1,y,g,m,H⟩
 ·cases f
open Classical in
noncomputable def ZJK (c:Zq):Int:=if ZqX c 3 then 1 else if GX c=3 then 1 else 0
section
variable {b:Zc} {s:Site} {i k:Nat} {x:Zp} {c:Zq} {a:ZL}
theorem ZI5.ZMe (q:ZI5 b s i k x c a):Zlb c a:=(q.ok.2.2.1.2 k a q.arc).1
theorem ZI5.from' (h:ZI5 b s i k x c a):(0<=Gi a/\Gi a<=((K6 c).length:Int)-2)/\(0<=Gn a/\Gn a<=((K6 c).length:Int)-1)/\ZpX (K6 c) (Gi a)=true/\ZcE (Gy a) false:=by
 have o:=h.ZMe;refine⟨o.1,o.2.1,?_⟩;rcases o.2.2 with q|q|q
 ·have:=h.kind;have:=q.1;omega
 ·have:=h.kind;have:=q.1;omega
 ·exact⟨q.2.1,q.2.2.2.2.2.1⟩
theorem ZI5.holds (d:ZI5 b s i k x c a):GX c=2/\(ZqX c 2<->¬ZqX c 3)\/GX c=3/\¬ZqX c 3:=by
 have e:ZgH c:=d.ok.2.2.2.2.2;rcases e with q|q|q
 ·exfalso
  obtain⟨⟨z,f1⟩,_,H,_⟩:=d.from';have h:=q.2.1;unfold ZmT at h;rw[List.countP_eq_zero]at h;unfold ZpX at H;obtain⟨p,g⟩:∃p,(K6 c)[(Gi a).toNat]?=some p:=⟨_,Ua (by omega)⟩;rw[g]at H;exact h p (Ud g) H
 ·exact .inl ⟨q.1,q.2.2.2.2⟩
 ·exact .inr ⟨q.1,q.2.2.2.2.2⟩
end
def YM {α:Type} (o:Option α) (Q:α->Prop):Prop:=∃a,o=some a/\Q a
variable {α:Type} {a:α} {Q:α->Prop}
theorem YM.ret (h:Q a):YM (some a) Q:=⟨a,rfl,h⟩
variable {o:Option α} {P:α->Prop}
theorem YM.bind {β:Type} {f:α->Option β} {Q:β->Prop} (h:YM o P) (k:∀a,P a->YM (f a) Q):YM (o.bind f) Q:=by
 obtain⟨a,e,g⟩:=h;rw[e];exact k a g
variable {p:Prop}
theorem YM.guard (h:p) (k:YM o Q):YM (Zw p o) Q:=by rw[Zk h];exact k
theorem YM.ite [Decidable p] {a b:Option α} (d:p->YM a Q) (f:¬p->YM b Q):YM (if p then a else b) Q:=by
 split
 ·exact d (by assumption)
 ·exact f (by assumption)
variable {l:List α}
theorem YM.at {β:Type} {i:Int} {f:α->Option β} {Q:β->Prop} (h:0<=i) (d:i<(l.length:Int)) (k:∀x,x∈l->l[i.toNat]?=some x->YM (f x) Q):YM ((atI l i).bind f) Q:=by
 obtain⟨x,e,Z⟩:=Zjv h d;rw[e];exact k x (Ud Z) Z
theorem YM.mono (h:YM o P) (k:∀a,P a->Q a):YM o Q:=by
 obtain⟨a,e,g⟩:=h;exact⟨a,e,k a g⟩
theorem YM.of (e:o=some a) (h:Q a):YM o Q:=⟨a,e,h⟩
def Rnd {τ ρ:Type} (I:τ->Prop) (μ:τ->Nat) (m:Nat) (Q:ρ->Prop):τ⊕ρ->Prop
 | .inl v=>I v/\μ v<m
 | .inr r=>Q r
theorem YM.loop {τ ρ:Type} {step:τ->Option (τ⊕ρ)} (I:τ->Prop) (μ:τ->Nat) {Q:ρ->Prop} {v:τ} (k:I v) (q:∀v,I v->YM (step v) (Rnd I μ (μ v) Q)):YM (Zt step v) Q:=by
 refine Ze5 I μ Q k (λv m=>?_);obtain⟨r,e,h⟩:=q v m;cases r with
 |inl v'=>exact .inl ⟨v',e,h⟩
 |inr r=>exact .inr ⟨r,e,h⟩
structure Src (s:Zd):Prop where
 code:∀x∈Hq s,0<=x/\x<=255
 len:(Hq s).length<=5000
 at0:0<=Zd.at s
 at1:Zd.at s<=5000
 sd0:0<=GP s
 sd1:GP s<2147483647
def Bel (n k:Int):Prop:=0<=k/\(k<n\/k=0)
theorem ZE {s:Zd} (H:Src s) (n:Int):YM (Zi s n) (λr=>Bel n r.1/\Src r.2):=by
 obtain⟨h,l,a0,a1,s0,s1⟩:=H;unfold Zi;split
 ·exact .ret ⟨⟨U7 _,.inr rfl⟩,⟨h,l,a0,a1,s0,s1⟩⟩
 rename_i W;split
 ·rename_i t
  refine .at a0 t λx Z _=>?_;obtain⟨b0,b1⟩:=h x Z;have e1:Wq (Zd.at s+1)=Zd.at s+1:=QP;have f:Wq x=x:=QP;have i:Wq (GP s*48271)=GP s*48271:=QP;have E:Wq (GP s*48271+x)=GP s*48271+x:=QP;have e:Wq (GP s*48271+x+1)=GP s*48271+x+1:=QP;simp only[f,i,E,e,e1];split
  ·refine .guard (by omega) (.ret ⟨⟨KW _ b0,.inl (KC _ (by omega))⟩,⟨h,l,?_,?_,s0,s1⟩⟩)
   ·show 0<=Zd.at s+1;omega
   ·show Zd.at s+1<=5000;omega
  ·have g:=KW (a:=GP s*48271+x+1) 2147483647 (by omega)
   have k:=KC (GP s*48271+x+1) (show(0:Int)<2147483647 by omega);refine .guard (by omega) (.ret ⟨⟨KW _ g,.inl (KC _ (by omega))⟩,⟨h,l,?_,?_,g,k⟩⟩)
   ·show 0<=Zd.at s+1;omega
   ·show Zd.at s+1<=5000;omega
 ·have i:Wq (GP s*48271)=GP s*48271:=QP
  have E:Wq (GP s*48271+11)=GP s*48271+11:=QP;simp only[i,E];have g:=KW (a:=GP s*48271+11) 2147483647 (by omega);have k:=KC (GP s*48271+11) (show(0:Int)<2147483647 by omega);generalize (GP s*48271+11).tmod 2147483647=q at g k;have D:q.tdiv 7=q/7:=U8 g;rw[D,QP (n:=q/7)];exact .guard (by omega) (.ret ⟨⟨KW _ (by omega),.inl (KC _ (by omega))⟩,⟨h,l,a0,a1,g,k⟩⟩)
variable {code:List Int}
theorem ZuF (q:∀x∈code,0<=x/\x<=255) (H:code.length<=5000:=by omega):YM (Zfr code) Src:=by
 unfold Zfr;refine YM.loop (λv=>0<=v.1/\v.1<=64/\0<=v.2.1/\v.2.1<2147483647) (λv=>(64-v.1).toNat) ⟨U7 _,by show(0:Int)<=64;omega,by show(0:Int)<=12345;omega,by show(12345:Int)<2147483647;omega⟩ ?_;rintro⟨i,c,⟨⟩⟩ ⟨I,i1,c0,c1⟩;simp only at I i1 c0 c1;have J:YM (some (.inr (code,(0:Int),c,()):(Int×Int×Unit)⊕Zd)) (Rnd (λv:Int×Int×Unit=>0<=v.1/\v.1<=64/\0<=v.2.1/\v.2.1<2147483647) (λv=>(64-v.1).toNat) ((λv:Int×Int×Unit=>(64-v.1).toNat) (i,c,())) Src) :=
  .ret (show Src (code,(0:Int),c,())from⟨q,H,U7 _,by show(0:Int)<=5000;omega,c0,c1⟩)
 show YM (Zen code i c) _;unfold Zen;split
 ·rename_i l
  split
  ·rename_i h
   refine .at I l λx Z _=>?_;obtain⟨b0,b1⟩:=q x Z;have e1:Wq (i+1)=i+1:=QP;have f:Wq x=x:=QP;have e:Wq (c*31)=c*31:=QP;have E:Wq (c*31+x)=c*31+x:=QP;simp only[e1,f,e,E];refine .ret ⟨⟨?_,?_,KW _ (by omega),KC _ (by omega)⟩,?_⟩
   ·show 0<=i+1;omega
   ·show i+1<=64;omega
   ·show(64-(i+1)).toNat<(64-i).toNat;omega
  ·exact J
 ·exact J
theorem Zwr (q:∀x∈code,0<=x/\x<=255) (h:code.length<=4096):YM (Zfr code) Src:=ZuF q
theorem Zna {n:Int} (c:0<=n:=by omega) (d:n<100:=by omega):YM (Zaf n) (λr=>r.length<=2):=by
 have one:∀(k:Nat) (m:Int),0<=m->m<10->Q9 (k+1) m=some (bytesOf [IntKind.wrap IntKind.u8 (Wq (48+m))]):=λk m a b=>by
  show Xb (Q9 k) m=_;unfold Xb;rw[Qu,Uc b]
 have H:∀x:Int,(bytesOf [x]).length=1:=λx=>rfl;unfold Zaf;by_cases h:n<10
 ·refine .of (Zqx ⟨1,one 0 n c h⟩ (λk r E=>?_)) (by rw[H];omega)
  cases k with
  |zero=>cases E
  |succ k=>rw[one k n c h]at E;injection E with E;exact E.symm
 ·have L:n.tdiv 10=n/10:=U8 c
  have two:∀k:Nat,Q9 (k+2) n=some (bytesOf [IntKind.wrap IntKind.u8 (Wq (48+n/10))]++bytesOf [IntKind.wrap IntKind.u8 (Wq (48+n.tmod 10))]):=λk=>by
   show Xb (Q9 (k+1)) n=_;unfold Xb;rw[Qu,Ue h,L,QP (n:=n/10),one k (n/10) (by omega) (by omega),Bq,Zk (by rw[H,H];omega)]
  refine .of (Zqx ⟨2,two 0⟩ (λk r E=>?_)) (by rw[Uh,H,H];omega)
  match k,E with
  |0,E=>cases E
  |1,E =>
   exfalso;revert E;show ¬Xb (Q9 0) n=some r;unfold Xb;rw[Qu,Ue h];intro E;cases E
  |k+2,E=>rw[two k]at E;injection E with E;exact E.symm
variable {x:α}
theorem QE (h:∀y∈l,P y) (Z:P x):∀y∈l++[x],P y:=by
 intro y e;rcases Uu.1 e with e|e
 ·exact h y e
 ·rw[Ut]at e
  rw[e];exact Z
theorem ZpR {i:Nat} (h:∀y∈l,P y) (Z:P x):∀y∈l.set i x,P y:=by
 intro y e;rcases Ke e with e|e
 ·exact h y e
 ·rw[e];exact Z
theorem smI {l:List Int} (h:l.length<=1048576):sm (.sl (.int .i64)) l:=⟨by omega,λ_ _=>trivial⟩
theorem smS {s:List UInt8} (h:s.length<=1048576):sm .str s:=by show(s.length:Int)<=1048576;omega
theorem smL {t:Ty} {l:List t.den} (h:l.length<=1048576) (f:∀x∈l,sm t x):sm (.sl t) l:=⟨by omega,f⟩
end Go.Proofs.YtjkccpcebpeadaaGreatDoor
