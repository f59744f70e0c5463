/-
  Plain laws: the view is always made.
-/
import Derived.Test.YtjkccpcebpeadaaGreatDoorLA
namespace Go.Proofs.YtjkccpcebpeadaaGreatDoor
set_option linter.unusedVariables false
set_option linter.unusedSimpArgs false
open Go Go.Sx
variable {b:Zc} {k:Nat} {w:ZC}
theorem ZiD (h:Xh b) (f:(Gl b)[k]?=some w):∃r,XC b (k:Int)=some r/\r.length<=1048576:=by
 have F:=h.ok.2.2 k w f;obtain⟨⟨Z,Q⟩,lr,S,ls,C,O,N,n⟩:=F;obtain⟨nl,j,d⟩:=ZhW h f;have T:=ZK (ZrZ (Zg1 (Zkc h.sm).2.2 f)).2.2.2;have c:∃r,Qx b (k:Int)=some r/\r.length=(K5 w).length:=by
  unfold Qx;rw[Zv,f,Bq,j,Bq,Ra,Ra,Ra,Ra];refine ZdQ ((K5 w).length-1) (λm v=>v.1=((m+1:Nat):Int)/\v.2.1.length=(K5 w).length) _ ⟨rfl,by simp[d]⟩ ?_ ?_
  ·rintro m ⟨i,l,⟨⟩⟩ A ⟨H,a⟩
   simp only at H a;subst H;left;have s:(K5 w)[m+1]?=some (K5 w)[m+1]:=Ua (by omega);generalize (K5 w)[m+1]=p at s;have t:=(C (m+1) p s).2 (by omega);obtain⟨q,e,_⟩:=Zfk (l:=l) t.1;have B:(GC w)[m+1]?=some (GC w)[m+1]:=Ua (by omega);have X:nl[m+1]?=some nl[m+1]:=Ua (by omega);have R:l[m+1]?=some l[m+1]:=Ua (by omega);simp only[XM,show((m+1:Nat):Int)<(l.length:Int)from by omega,Uk,Zv,s,e,B,X,R,Bq];exact⟨_,rfl,by rw[Xd],by simp[a]⟩
  ·rintro⟨i,l,⟨⟩⟩ ⟨H,a⟩
   simp only at H a;subst H;simp only[XM,show ¬(((K5 w).length-1+1:Nat):Int)<(l.length:Int)from by omega,Uj];exact⟨_,rfl,a⟩
 obtain⟨nd,c,x⟩:=c;unfold XC;rw[c,Bq,Zv,f,Bq];refine Zdq (l:=Gv w) (λm v=>v.1.length=m/\v.2.1=(m:Int)) _ ⟨rfl,rfl⟩ ?_ ?_
 ·rintro m y ⟨o,i,⟨⟩⟩ z A ⟨g,H⟩
  simp only at H g;subst H;have u:=n y (Ud z);obtain⟨q,e,_⟩:=Zfk (l:=nd) u.1;simp only[XE,show(m:Int)<((Gv w).length:Int)from by omega,Uk,Zv,z,e,Bq];rw[Zk (by simp;omega)];exact⟨_,rfl,by simp[g],by rw[Xd]⟩
 ·rintro⟨o,i,⟨⟩⟩ ⟨g,H⟩
  simp only at H g;subst H;simp only[XE,Ui,Uj];exact⟨_,rfl,by omega⟩
variable (a:ZL)
theorem Zox:∃r,QZ a=some r/\r.length<=4:=by
 unfold QZ;repeat' split
 all_goals exact⟨_,rfl,by simp⟩
variable {x:Zp}
theorem ZpV (h:Xh b) (s:x∈K4 (K3 b)) (f:Int):∃r,Q0 b x f=some r/\r.length<=32:=by
 obtain⟨q,⟨c,a,k⟩,_⟩:=h.ok.1.2.2.1 x s;have w:=(h.ok.1.1.2.1 c (Ud a)).2.2.1.1;unfold Q0;rw[Qt q.1 a,Bq];refine Zdq (l:=Ge c) (λm v=>v.1.length<=4*m/\v.2.1=(m:Int)) _ ⟨by simp,rfl⟩ ?_ ?_
 ·rintro m y ⟨o,i,⟨⟩⟩ t A ⟨d,H⟩
  simp only at H d;subst H;obtain⟨T,j,p⟩:=Zox y;simp only[X6,show(m:Int)<((Ge c).length:Int)from by omega,Uk,Zv,t,j,Bq];obtain⟨r,e,R,rfl,g⟩:=Zdq (l:=T) (ρ:=(List Zn×Int×Unit)⊕List Zn) (step:=λv=>Xn f (m:Int) y T v.1 v.2.1) (v:=(o,(0:Int),())) (λn v=>v.1.length=o.length+n/\v.2.1=(n:Int)) (λr=>∃R,r=.inl R/\R.1.length<=4*(m+1)/\R.2.1=((m+1:Nat):Int)) ⟨rfl,rfl⟩
   (by
    rintro n z ⟨O,i,⟨⟩⟩ u X ⟨I,H⟩;simp only at H I;subst H;simp only[Xn,show (n:Int)<(T.length:Int) from by omega,Uk,Zv,u,Bq];rw[Zk (by simp;omega)];exact ⟨_,rfl,by simp[I];omega,by rw[Xd]⟩)
   (by
    rintro ⟨O,i,⟨⟩⟩ ⟨I,H⟩;simp only at H I;subst H;simp only[Xn,Ui,Uj];exact ⟨_,rfl,_,rfl,by simp only;omega,by rw[Xd]⟩)
  exact⟨R,e,g⟩
 ·rintro⟨o,i,⟨⟩⟩ ⟨d,H⟩
  simp only at H d;subst H;simp only[X6,Ui,Uj];exact⟨_,rfl,by omega⟩
def Short (l:List (List Int)) (n m:Nat):Prop:=l.length=n/\∀x∈l,x.length<=m
variable {l:List (List Int)} {n m:Nat}
theorem Short.set (h:Short l n m) {x:List Int} (a:x.length<=m) (i:Nat):Short (l.set i x) n m:=by
 refine⟨by simp[h.1],λy H=>?_⟩;rcases Ke H with H|rfl
 ·exact h.2 y H
 ·exact a
theorem Short.mono {p:Nat} (h:Short l n m) (g:m<=p):Short l n p:=⟨h.1,λx H=>Kg (h.2 x H) g⟩
theorem ZsT (h:Xh b):∃v,Vx b=some v/\ZG.ZB v=ZB (K3 b)/\Hf v=b:=by
 have C:=h.ok.1;have F:=C.few;have a5:=YT F;have a1:=F.insts;have a6:=h.ok.2.1;have a2:=C.2.1.2.1;unfold Vx;rw[Xm _ F,Bq];refine Zdq (l:=K4 (K3 b)) (λk v=>v.2.1=(k:Int)/\v.2.2.1.length<=32*k) _ ⟨rfl,by simp⟩ ?_ ?_
 ·rintro k x ⟨n,i,c,⟨⟩⟩ g W ⟨H,hc⟩
  simp only at H hc;subst H;obtain⟨r,a,d⟩:=ZpV h (Ud g) n;simp only[JO,show(k:Int)<((K4 (K3 b)).length:Int)from by omega,Uk,Zv,g,a,Bq,Zao];rw[Ra];exact⟨_,rfl,by simp only;rw[Xd],by simp only[Uh];omega⟩
 ·rintro⟨n,i,c0,⟨⟩⟩ ⟨H,D⟩
  simp only at H D;subst H;simp only[JO,Ui,Uj];rw[Ra,Ra,Ra,Ra,Ra];obtain⟨r,a,R,rfl,d⟩:=Zdq (l:=ZB (K3 b)) (ρ:=(Int×Int×List Zn×Unit)⊕ZG) (step:=λv=>QO b (ZB (K3 b)) c0 v.1 v.2.1 v.2.2.1) (v:=((0:Int),List.replicate (Int.toNat (↑(List.length (Gl b)):Int)) (0:Int),List.replicate (Int.toNat (↑(List.length (Gl b)):Int)) (([]:List Int)),()))
   (λk v=>v.1=(k:Int)/\v.2.1.length=(Gl b).length/\Short v.2.2.1 (Gl b).length k)
   (λr=>∃R,r=.inr R/\ZG.ZB R=ZB (K3 b)/\Hf R=b)
   ⟨rfl,by simp,by simp,by
    intro x g;rw[List.mem_replicate] at g;rw[g.2];simp⟩
   (by
    rintro k x ⟨i,l0,Z,⟨⟩⟩ g W ⟨H,o,f⟩;simp only at H o f;subst H;have I:=Zn7 C (Ud g);have a3:=I.2;simp only[QO,show(k:Int)<((ZB (K3 b)).length:Int)from by omega,Uk,Zv,g,Bq];obtain⟨q,N,_⟩:=Zfk (l:=l0) I.1;obtain⟨p,L,M⟩:=Zfk (l:=Z) I.1 (by have:=f.1;omega);have a4:=f.2 p M;split
    ·rw[show atI l0 (Y6.net x)=some q from N,Bq]
     exact⟨_,rfl,by simp only;rw[Xd],by simp[o],f.mono (by omega)⟩
    ·rw[show atI Z (Y6.net x)=some p from L,Bq,Zk (by simp;omega)]
     exact ⟨_,rfl,by simp only;rw[Xd],o,(f.mono (by omega)).set (by simp;omega) _⟩)
   (by
    rintro⟨i,l0,Z,⟨⟩⟩ ⟨H,o,f⟩;simp only at H o f;subst H;simp only[QO,Ui,Uj];obtain⟨r,a,R,rfl,d⟩:=Zdq (l:=Gl b) (ρ:=(Int×List Int×List (List Int)×Unit)⊕((Int×Int×List Zn×Unit)⊕ZG)) (step:=λv=>QN b (ZB (K3 b)) l0 v.1 v.2.1 v.2.2.1 v.2.2.2.1 v.2.2.2.2.1) (v:=((0:Int),([]:List Int),([]:List (List Int)),c0,Z,()))
     (λk v=>v.1=(k:Int)/\v.2.1.length=k/\v.2.2.1.length=k/\v.2.2.2.1.length<=448+156*k/\Short v.2.2.2.2.1 (Gl b).length 78)
     (λr=>∃R,r=.inr (.inr R)/\ZG.ZB R=ZB (K3 b)/\Hf R=b)
     ⟨rfl,rfl,rfl,by simp only;omega,f.mono (by omega)⟩
     (by
      rintro k w ⟨i,c1,c2,O,T,⟨⟩⟩ P W ⟨H,u,A,U,G⟩;simp only at H u A U G;subst H;obtain⟨nl,K,Y⟩:=ZhW h P;obtain⟨ed,E,V⟩:=ZiD h P;have a0:=(h.ok.2.2 k w P).1.1;have J:atI nl (0:Int)=some nl[0]:=(show nl[0]?=some nl[0]from Ua (by omega));obtain⟨X,t⟩:∃X,T[k]?=some X:=⟨_,Ua (by have:=G.1;omega)⟩;have S:=G.2 X (Ud t);simp only[QN,show(k:Int)<((Gl b).length:Int)from by omega,Uk,K,J,E,Bq,Zv,t];rw[Zk (by simp;omega),Zk (by simp;omega)];obtain⟨r,a,R,rfl,d⟩:=Zdq (l:=X) (ρ:=(Int×List Int×List (List Int)×List Zn×List (List Int)×Unit)⊕((Int×List Int×List (List Int)×Unit)⊕((Int×Int×List Zn×Unit)⊕ZG))) (step:=λv=>QM l0 (k:Int) c1 c2 T nl[0] ed X v.1 v.2.1) (v:=((0:Int),O,()))
       (λm v=>v.1=(m:Int)/\v.2.1.length=O.length+2*m)
       (λr=>∃R,r=.inl R/\R.1=((k+1:Nat):Int)/\R.2.1.length=k+1/\R.2.2.1.length=k+1/\R.2.2.2.1.length<=448+156*(k+1)/\Short R.2.2.2.2.1 (Gl b).length 78)
       ⟨rfl,rfl⟩
       (by
        rintro m y ⟨i,Q,⟨⟩⟩ hy hm ⟨H,B⟩;simp only at H B;subst H;simp only[QM,show(m:Int)<(X.length:Int)from by omega,Uk,Zv,hy,Bq];have s:l0[k]?=some l0[k]:=Ua (by omega);generalize l0[k]=z at s;obtain⟨r,a,R,rfl,d⟩:=ZdQ (step:=λv=>Qi l0 (k:Int) (m:Int) y v.1 v.2.1) 2 (λj v=>v.1=(j:Int)/\v.2.1.length=Q.length+j) (λr=>∃R,r=.inl R/\R.1=((m+1:Nat):Int)/\R.2.1.length=Q.length+2) (v:=((0:Int),Q,())) ⟨rfl,rfl⟩
         (by
          rintro j ⟨i,c5,⟨⟩⟩ hj ⟨H,e⟩;simp only at H e;subst H;left;simp only[Qi,show (j:Int)<(2:Int) from by omega,Uk,Zv,s,Bq];rw[Zk (by simp;omega)];exact ⟨_,rfl,by simp only;rw[Xd],by simp[e];omega⟩)
         (by
          rintro ⟨i,c5,⟨⟩⟩ ⟨H,e⟩;simp only at H e;subst H;simp only[Qi,show ¬((2:Nat):Int)<(2:Int) from by omega,Uj];exact ⟨_,rfl,_,rfl,by simp only;rw[Xd],e⟩)
        exact ⟨R,a,d.1,by rw[d.2];omega⟩)
       (by
        rintro ⟨i,Q,⟨⟩⟩ ⟨H,B⟩;simp only at H B;subst H;simp only[QM,Ui,Uj];exact ⟨_,rfl,_,rfl,by simp only;rw[Xd],by simp[u],by simp[A],by simp only;omega,G.set S _⟩)
      exact ⟨R,a,d⟩)
     (by
      rintro ⟨i,c1,c2,O,T,⟨⟩⟩ ⟨H,u,A,U,G⟩;simp only at H;subst H;simp only[QN,Ui,Uj];exact ⟨_,rfl,_,rfl,rfl,rfl⟩)
    exact ⟨_,a,_,rfl,d⟩)
  exact⟨R,a,d⟩
def VF (f t a b kind i:Int):Zn:=(2*f+a,2*t+b,kind,i,())
def trs (a:ZL):List (Int×Int×Unit) :=
 if K9 a=2 then[(0,0,()),(0,1,())]else if K9 a=3 then[(1,0,()),(1,1,())]else
  if K9 a=1 then(if Gx a=1 then[(0,0,()),(1,1,())]else if Gx a=2 then[(0,1,()),(1,0,())]else[(0,0,()),(0,1,()),(1,0,()),(1,1,())])else[]
theorem Zo5:QZ a=some (trs a):=by
 unfold QZ trs;repeat' split
 all_goals rfl
def Znm (a:ZL) (f t i:Int):List Zn:=(trs a).map (λp=>VF f t p.1 p.2.1 1 i)
variable (l:List Zn) (f t a:Int)
theorem ZsW (b kind i:Int) (q:l.length<=1048576) (c:0<=f/\f<=1048576:=by omega) (r:0<=t/\t<=1048576:=by omega) (h:0<=a/\a<=1:=by omega) (H:0<=b/\b<=1:=by omega) :
  J5 l f t a b kind i=some (l++[VF f t a b kind i]):=by
 unfold J5 VF;rw[Zk (by simp;omega),QR (n:=2*f),QR (n:=2*t),QR (n:=2*f+a),QR (n:=2*t+b)]
def ZAc (c:ZL) (a b:Int):Bool :=
 if K9 c=1 then(if Gx c=3 then true else(decide (Gx c=1)==decide (a=b)))else if K9 c=2 then decide (a=0)else if K9 c=3 then decide (a=1)else false
def Zla (c:ZL) (f t i a b:Int):List Zn:=if ZAc c a b=true then[VF f t a b 1 i]else[]
variable (c:ZL)
theorem Ztk (f t i a b:Int) (l:List Zn) (q:l.length<=1048576) (e:0<=f/\f<=1048576) (r:0<=t/\t<=1048576) (h:0<=a/\a<=1) (H:0<=b/\b<=1:=by omega) :
  ZaE c f t i a l b=some (.inl (l++Zla c f t i a b,b+1,())):=by
 unfold ZaE Zla ZAc;rw[QP,ZsW l f t a b 1 i q e r h H,QR (n:=b+1)];simp only[Bq];by_cases k1:K9 c=1
 ·simp only[k1,Uk]
  by_cases s:Gx c=3
  ·simp only[s,Uk]
  ·simp only[s,Uj]
   split
   ·rfl
   ·rw[Um]
 by_cases d:K9 c=2
 ·simp only[d,Uk,Int.reduceEq,Uj,Ul]
  split
  ·rfl
  ·rw[Um]
 by_cases Q:K9 c=3
 ·simp only[Q,Uk,Int.reduceEq,Uj,Ul]
  split
  ·rfl
  ·rw[Um]
 ·simp only[k1,d,Q,Uj,UN,Um]
theorem Zm6 (f t i a b:Int):(Zla c f t i a b).length<=1:=by
 unfold Zla;split<;>simp
theorem Zq6 (f t i a:Int) (l:List Zn) (q:l.length<=1048000) (H:0<=f/\f<=1048576) (r:0<=t/\t<=1048576) (h:0<=a/\a<=1:=by omega) :
  Zt (λv=>ZaE c f t i a v.1 v.2.1) (l,(0:Int),())=some (.inl (l++Zla c f t i a 0++Zla c f t i a 1,a+1,())):=by
 have d:=Zm6 c f t i a 0;have b:=Zm6 c f t i a 1;rw[YW (v':=(l++Zla c f t i a 0,(0:Int)+1,())) (Ztk c f t i a 0 l (by omega) H r h),
  YW (v':=(l++Zla c f t i a 0++Zla c f t i a 1,(0:Int)+1+1,())) (Ztk c f t i a (0+1) _ (by rw[Uh];omega) H r h),YF]
 simp only[ZaE];rw[QQ,QR (n:=a+1)]
theorem Zx2 (f t a:Int) (q:K9 c=1->1<=Gx c/\Gx c<=3):Zla c f t a 0 0++Zla c f t a 0 1++(Zla c f t a 1 0++Zla c f t a 1 1)=Znm c f t a:=by
 unfold Zla ZAc Znm trs;by_cases k1:K9 c=1
 ·have h:=q k1
  by_cases s:Gx c=1
  ·simp[k1,s]
  by_cases S:Gx c=2
  ·simp[k1,S]
  ·have b:Gx c=3:=by omega
   simp[k1,b]
 by_cases d:K9 c=2
 ·simp[d]
 by_cases Q:K9 c=3
 ·simp[Q]
 ·simp[k1,d,Q]
theorem Zo0 (f t a:Int) (e:l.length<=1047000) (h:0<=f/\f<=1048576) (H:0<=t/\t<=1048576) (q:K9 c=1->1<=Gx c/\Gx c<=3) :
  Zh7 l c f t a=some (l++Znm c f t a):=by
 have d:=Zm6 c f t a 0 0;have b:=Zm6 c f t a 0 1;unfold Zh7;have s0:Ji c f t a l 0=some (.inl (l++Zla c f t a 0 0++Zla c f t a 0 1,0+1,())):=by
  unfold Ji;rw[QP,Zq6 c f t a 0 l (by omega) h H]
 have s:Ji c f t a (l++Zla c f t a 0 0++Zla c f t a 0 1) 1=some (.inl (l++Zla c f t a 0 0++Zla c f t a 0 1++Zla c f t a 1 0++Zla c f t a 1 1,1+1,())):=by
  unfold Ji;rw[QP,Zq6 c f t a 1 _ (by simp only[Uh];omega) h H]
 rw[YW (v':=(l++Zla c f t a 0 0++Zla c f t a 0 1,(1:Int),())) s0,YW (v':=(l++Zla c f t a 0 0++Zla c f t a 0 1++Zla c f t a 1 0++Zla c f t a 1 1,(2:Int),())) s,YF (r:=l++Znm c f t a)];simp only[Ji];rw[QQ,<-Zx2 c f t a q];simp only[Un]
def Zuw (c:Zq) (f:Int):List Zn:=cat (λi a=>Znm a (f+Gi a) (f+Gn a) (i:Int)) 0 (Ge c)
theorem ZqR (a:ZL):(trs a).length<=4:=by
 unfold trs;repeat' split
 all_goals simp
theorem Zhp (h:Xh b) (B:x∈K4 (K3 b)) (f:Int) (F:0<=f/\f<=1000000) :
  ∃c,(Gh (GG b))[(GJ x).toNat]?=some c/\Zjp c/\Q0 b x f=some (Zuw c f):=by
 obtain⟨t,⟨c,H,z⟩,_⟩:=h.ok.1.2.2.1 x B;have y:=h.ok.1.1.2.1 c (Ud H);have E:=y.2.2.1.1;refine⟨c,H,y,?_⟩;unfold Q0;rw[Qt t.1 H,Bq];refine Xx (l:=Ge c) (λi a=>Znm a (f+Gi a) (f+Gn a) (i:Int)) [] (λk a q J=>?_) ?_
 ·have o:=(y.2.2.1.2 k a q).1
  have v:=y.2.1.2.1;have s:=VJ (f:=λi a=>Znm a (f+Gi a) (f+Gn a) (i:Int)) (c:=4) (l:=(Ge c).take k) (m:=0) (λi a _=>by simp only[Znm,U5];exact ZqR a);rw[Uo]at s;simp only[Uq,X6,show(k:Int)<((Ge c).length:Int)from by omega,Uk,Zv,q,Zo5,Bq];generalize cat (λi a=>Znm a (f+Gi a) (f+Gn a) (i:Int)) 0 ((Ge c).take k)=A at s;have w:=ZqR a;have d:∀p∈trs a,(0<=p.1/\p.1<=1)/\(0<=p.2.1/\p.2.1<=1):=by
   intro p g;unfold trs at g;repeat' split at g
   all_goals (simp only[Us,UR,Kd]at g)
   all_goals first|(rcases g with rfl|rfl|rfl|rfl<;>simp)|(rcases g with rfl|rfl<;>simp)|exact g.elim
  have C:=o.1;have D:=o.2.1;refine(Xx (l:=trs a) (ρ:=(List Zn×Int×Unit)⊕List Zn) (λ_ p=>[VF (f+Gi a) (f+Gn a) p.1 p.2.1 1 (k:Int)]) A (good:=.inl (A++Znm a (f+Gi a) (f+Gn a) (k:Int),((k+1:Nat):Int),())) (λj p g G=>?_) ?_)
  ·have u:=d p (Ud g)
   have R:=VJ (f:=λ(_:Nat) (p:Int×Int×Unit)=>[VF (f+Gi a) (f+Gn a) p.1 p.2.1 1 (k:Int)]) (c:=1) (l:=(trs a).take j) (m:=0) (λ_ _ _=>by simp);rw[Uo]at R;simp only[Xn,show(j:Int)<((trs a).length:Int)from by omega,Uk,Zv,g,Bq];rw[Zk (by rw[Uh,UV];omega),Xd,QR (n:=f+Gi a),QR (n:=f+Gn a),QR (n:=2*(f+Gi a)),QR (n:=2*(f+Gn a)),QR (n:=2*(f+Gi a)+p.1),QR (n:=2*(f+Gn a)+p.2.1)];rfl
  ·have e:cat (λ(_:Nat) (p:Int×Int×Unit)=>[VF (f+Gi a) (f+Gn a) p.1 p.2.1 1 (k:Int)]) 0 (trs a)=Znm a (f+Gi a) (f+Gn a) (k:Int):=by
    unfold Znm;generalize trs a=l;have:∀(m:Nat),cat (λ(_:Nat) (p:Int×Int×Unit)=>[VF (f+Gi a) (f+Gn a) p.1 p.2.1 1 (k:Int)]) m l=l.map (λp=>VF (f+Gi a) (f+Gn a) p.1 p.2.1 1 (k:Int)):=by
     induction l with
     |nil=>intro m;rfl
     |cons p r I=>intro m;simp[cat,I]
    exact this 0
   simp only[Xn,Ui,Uj,e];rw[Xd]
 ·simp only[Uq,X6,Ui,Uj];rfl
theorem Zoq (d:Ze) (i j:Int) (h:Few d):ZdO d i j=some (ZaI (λx:Pl=>decide (x.1=i)&&decide (x.2.1=j)) (ZB d)):=by
 have g:=YT h;unfold ZdO;rw[Y5 d h,Bq];refine Jh (out:=λi=>i) (show Len (ZB d) by show List.length _<=_;omega) (λk x l=>?_) ?_
 ·have H:=(Ub.1 l).1
  simp only[Zex,show(k:Int)<((ZB d).length:Int)from by omega,Uk,Zv,l,Bq,Up,Ul];grind
 ·simp only[Zex,Ui,Uj]
theorem ZpU {α β:Type} {g:Nat->α->β}:∀{l:List α} {m j:Nat},(cat (λj n=>[g j n]) m l)[j]?=(l[j]?).map (g (m+j))
 |[],m,j=>by simp[cat]
 |x::r,m,0=>by simp[cat]
 |x::r,m,j+1=>by
  simp only[cat,U0,Uq,U3];rw[ZpU (l:=r) (m:=m+1) (j:=j),show m+1+j=m+(j+1) by omega]
theorem ZjS {α β:Type} {g:Nat->α->β}:∀{l:List α} {m:Nat},(cat (λj n=>[g j n]) m l).length=l.length
 |[],m=>rfl
 |x::r,m=>by simp[cat,ZjS (l:=r)]
theorem ZfY (i:Nat) (x:Zp):(Zah i x).length=(Gu x).length:=by unfold Zah;rw[ZjS]
def fst (d:Ze) (i:Nat):Nat:=(cat Zah 0 ((K4 d).take i)).length
variable {d:Ze} {i:Nat}
theorem Zyo (l:(K4 d)[i]?=some x):fst d (i+1)=fst d i+(Gu x).length:=by
 unfold fst;rw[ZhI l,Uh,ZfY]
theorem ZiU (h:(K4 d)[i]?=some x):∃B,ZB d=cat Zah 0 ((K4 d).take i)++(Zah i x++B):=by
 have l:=Ub.1 h;have e:K4 d=(K4 d).take i++(x::(K4 d).drop (i+1)):=by
  rw[<-l.2,<-List.drop_eq_getElem_cons l.1,Kz]
 refine⟨cat Zah (i+1) ((K4 d).drop (i+1))++cat Zgq 0 (Gk d),?_⟩;unfold ZB
 conv=>lhs;rw[e]
 rw[Zi8];have q:((K4 d).take i).length=i:=by grind
 rw[q,Uw];simp only[cat,Un]
theorem ZtG (h:Few d) {j:Nat} (u:(K4 d)[i]?=some x) (f:j<(Gu x).length:=by omega) :
  ZdO d (i:Int) (j:Int)=some ((fst d i:Int)+(j:Int)):=by
 rw[Zoq d _ _ h];obtain⟨B,e⟩:=ZiU u;congr 1;have X:(Gu x)[j]?=some (Gu x)[j]:=Ua f;have t:∀(q:Nat) (y:Pl),(Zah i x)[q]?=some y->y.1=(i:Int)/\y.2.1=(q:Int):=by
  intro q y a;unfold Zah at a;rw[ZpU,Uw]at a;grind
 have b:∃y,(Zah i x)[j]?=some y:=⟨_,Ua (by rw[ZfY];exact f)⟩;obtain⟨y,a⟩:=b;have J:=t j y a;have:=Zmp (p:=λx:Pl=>decide (x.1=(i:Int))&&decide (x.2.1=(j:Int))) (l:=ZB d) (k:=fst d i+j) (x:=y)
  (by
   rw[e,UY (by unfold fst;omega),show fst d i+j-(cat Zah 0 ((K4 d).take i)).length=j by unfold fst;omega,Uy (by grind)];exact a)
  (by simp[J.1,J.2])
  (λq z o T=>by
   rw[e]at T;by_cases c:q<(cat Zah 0 ((K4 d).take i)).length
   ·rw[Uy c]at T
    obtain⟨Q,w,s,H⟩:=XZ.1 (Ud T);have g:Q<i:=by
     grind
    rw[Uw]at H;have:z.1=(Q:Int):=by
     unfold Zah at H;obtain⟨v,n,_,m⟩:=XZ.1 H;grind
    grind
   ·have r:q-(cat Zah 0 ((K4 d).take i)).length<j:=by unfold fst at o;omega
    grind)
 rw[this];omega
def ZlQ (b:Zc) (i:Nat) (x:Zp):List Zn:=match (Gh (GG b))[(GJ x).toNat]? with
 |some c=>Zuw c (fst (K3 b) i:Int)
 |none=>[]
def ZkP (b:Zc):List Zn:=cat (ZlQ b) 0 (K4 (K3 b))
theorem Zq7 (c:Zq) (f:Int) (h:(Ge c).length<=8):(Zuw c f).length<=32:=by
 have:=VJ (f:=λi a=>Znm a (f+Gi a) (f+Gn a) (i:Int)) (c:=4) (l:=Ge c) (m:=0) (λi a _=>by simp only[Znm,U5];exact ZqR a);unfold Zuw;omega
theorem Zzv (h:Few d) (i:Nat):fst d i<=70:=ZdK h i
theorem Zwz (h:Xh b) (i:Nat) (x:Zp) (l:x∈K4 (K3 b)):(ZlQ b i x).length<=32:=by
 obtain⟨c,d,f,_⟩:=Zhp h l 0 (by omega);unfold ZlQ;rw[d];exact Zq7 c _ f.2.2.1.1
theorem ZhH (h:Xh b) (k:Nat):(cat (ZlQ b) 0 ((K4 (K3 b)).take k)).length<=448:=by
 have d:=h.ok.1.few.insts;have:=VJ (f:=ZlQ b) (c:=32) (l:=(K4 (K3 b)).take k) (m:=0) (λi x H=>Zwz h i x (List.mem_of_mem_take H));grind
theorem Zr2 (h:Xh b) (p:(K4 (K3 b))[i]?=some x) {c:Zq} (s:(Gh (GG b))[(GJ x).toNat]?=some c) (A:List Zn) (J:A.length<=100000:=by omega) :
  Zt (λv=>Za6 b (i:Int) c v.1 v.2.1) (A,(0:Int),())=some (.inl (A++Zuw c (fst (K3 b) i:Int),((i+1:Nat):Int),())):=by
 have n:=h.ok.1.few;have K:=(Ub.1 p).1;have w:=n.insts;have q:=Ud p;obtain⟨_,⟨L,H,B⟩,_⟩:=h.ok.1.2.2.1 x q;rw[s]at H;injection H with H;subst H
 have y:=h.ok.1.1.2.1 c (Ud s);have I:=y.2.2.1.1;have D:=y.2.1.2.1;have z:=Zzv n i;refine Xx (l:=Ge c) (λk a=>Znm a ((fst (K3 b) i:Int)+Gi a) ((fst (K3 b) i:Int)+Gn a) (k:Int)) A (λk a g M=>?_) ?_
 ·have o:=(y.2.2.1.2 k a g).1
  have u:=VJ (f:=λk a=>Znm a ((fst (K3 b) i:Int)+Gi a) ((fst (K3 b) i:Int)+Gn a) (k:Int)) (c:=4) (l:=(Ge c).take k) (m:=0) (λi a _=>by simp only[Znm,U5];exact ZqR a);rw[Uo]at u;simp only[Za6,show(k:Int)<((Ge c).length:Int)from by omega,Uk,Zv,g,Bq];generalize cat (λk a=>Znm a ((fst (K3 b) i:Int)+Gi a) ((fst (K3 b) i:Int)+Gn a) (k:Int)) 0 ((Ge c).take k)=r at u;have F:=o.1;have G:=o.2.1;by_cases d:K9 a<=3
  ·have e1:=ZtG n p (j:=(Gi a).toNat)
   have E:=ZtG n p (j:=(Gn a).toNat);rw[show ((Gi a).toNat:Int)=Gi a by omega] at e1;rw[show ((Gn a).toNat:Int)=Gn a by omega] at E;rw[Uc d,e1,Bq,E,Bq,Zo0 _ a _ _ _ (by grind) (by omega) (by omega) (λC=>by
    rcases o.2.2 with t|t|t
    all_goals grind),Bq,Xd]
  ·rw[Ue d,Xd]
   have e:Znm a ((fst (K3 b) i:Int)+Gi a) ((fst (K3 b) i:Int)+Gn a) (k:Int)=[]:=by
    unfold Znm trs;grind
   grind
 ·simp only[Za6,Ui,Uj]
  rw[Xd];rfl
def ZxX (d:Ze) (n:Int):List Zn:=cat (λj s=>[VF (ZhL d n) s 0 0 2 (j:Int),VF (ZhL d n) s 1 1 2 (j:Int)]) 0 (Zae d n)
theorem ZyK (h:Few d) (n:Int):(ZxX d n).length<=156:=by
 have H:=VJ (f:=λj s=>[VF (ZhL d n) s 0 0 2 (j:Int),VF (ZhL d n) s 1 1 2 (j:Int)]) (c:=2) (l:=Zae d n) (m:=0) (λ_ _ _=>by simp);have a:=Zeg n (ZB d) 0;have g:=YT h;unfold ZxX;have:(Zae d n).length<=78:=by unfold Zae;omega
 omega
theorem Zra {α β γ:Type} (f:Nat->List γ):∀(l:List α) (r:List β) (m:Nat),l.length=r.length->cat (λk _=>f k) m l=cat (λk _=>f k) m r
 |[],[],_,_=>rfl
 |[],_::_,_,h=>by simp at h
 |_::_,[],_,h=>by simp at h
 |_::l,_::r,m,h=>by simp only[cat];rw[Zra f l r (m+1) (by simpa using h)]
def Zt3 (b:Zc):List Zn:=cat (λv _=>ZxX (K3 b) (v:Int)) 0 (Gl b)
def Zm (b:Zc):List Zn:=ZkP b++Zt3 b
variable {α:Type}
theorem ZjR (h:Xh b) (l:List α):(cat (λv _=>ZxX (K3 b) (v:Int)) 0 l).length<=156*l.length :=
 VJ (f:=λv _=>ZxX (K3 b) (v:Int)) (c:=156) (l:=l) (m:=0) (λv _ _=>ZyK h.ok.1.few _)
theorem ZhS (h:Xh b):(ZkP b).length<=448:=by
 have:=ZhH h (K4 (K3 b)).length;rw[Ur]at this;exact this
theorem Ztv (h:Xh b) {v:Nat} (a:v<(Gp (K3 b)).length):0<=ZhL (K3 b) (v:Int)/\ZhL (K3 b) (v:Int)<((ZB (K3 b)).length:Int):=by
 obtain⟨q,y,H,_,e,_⟩:=Ztx h.ok.1 (Zkc h.sm).2.1 a;grind
theorem Zdh (h:Xh b):Za5 b=some (Zm b):=by
 have d:=h.ok.1.few;have w:=d.insts;have p:=h.ok.1.2.1.2.1;have u:=YT d;unfold Za5;refine Xx (l:=K4 (K3 b)) (ZlQ b) [] (λi x g D=>?_) ?_
 ·have q:=Ud g
  obtain⟨t,⟨c,H,z⟩,_⟩:=h.ok.1.2.2.1 x q;have n:=ZhH h i;simp only[Uq,ZdG,show(i:Int)<((K4 (K3 b)).length:Int)from by omega,Uk,Zv,g,Bq,Qt t.1 H];rw[Zr2 h g H _];have e:ZlQ b i x=Zuw c (fst (K3 b) i:Int):=by unfold ZlQ;rw[H]
  rw[e]
 ·have J:=ZhS h
  simp only[Uq,ZdG,Ui,Uj];refine Xx (l:=Gp (K3 b)) (λv _=>ZxX (K3 b) (v:Int)) (ZkP b) (ρ:=(List Zn×Int×Unit)⊕List Zn) (good:=.inr (Zm b)) (λv s F B=>?_) ?_
  ·have V:=Ztv h B
   have n:=ZjR h ((Gp (K3 b)).take v);rw[Uo]at n;have e1:Zc1 (K3 b) (v:Int)=some (ZhL (K3 b) (v:Int)):=Zmd _ _ d;simp only[ZdF,show(v:Int)<((Gp (K3 b)).length:Int)from by omega,Uk,e1,Bq,Zdf _ _ d];have A:(Zae (K3 b) (v:Int)).length<=78:=by
    have:=Zeg (v:Int) (ZB (K3 b)) 0;unfold Zae;omega
   generalize k:ZkP b++cat (λv _=>ZxX (K3 b) (v:Int)) 0 ((Gp (K3 b)).take v)=a;have r:a.length<=10000:=by grind
   refine Xx (l:=Zae (K3 b) (v:Int)) (λj s=>[VF (ZhL (K3 b) (v:Int)) s 0 0 2 (j:Int),VF (ZhL (K3 b) (v:Int)) s 1 1 2 (j:Int)]) a (λj y o E=>?_) ?_
   ·have C:=ZiR (Ud o)
    have R:=VJ (f:=λj s=>[VF (ZhL (K3 b) (v:Int)) s 0 0 2 (j:Int),VF (ZhL (K3 b) (v:Int)) s 1 1 2 (j:Int)]) (c:=2) (l:=(Zae (K3 b) (v:Int)).take j) (m:=0) (λ_ _ _=>by simp);rw[Uo]at R;simp only[ZdE,show(j:Int)<((Zae (K3 b) (v:Int)).length:Int)from by omega,Uk,Zv,o,Bq];rw[ZsW _ _ _ _ _ _ _ (by grind),Bq,ZsW _ _ _ _ _ _ _ (by grind),Bq,Xd];grind
   ·simp only[ZdE,Ui,Uj]
    rw[Xd];rfl
  ·simp only[ZdF,Ui,Uj]
   rw[Zra (λv=>ZxX (K3 b) (v:Int)) (Gp (K3 b)) (Gl b) 0 h.ok.2.1.symm];rfl
structure Stand (d:Ze) (n k:Nat) (l0:List Int) (l1:List (List Int)):Prop where
 n0:l0.length=n
 n1:l1.length=n
 drv:∀(v q:Nat) (y:Pl),v<n->q<k->(ZB d)[q]?=some y->Ztw (v:Int) y=true->l0[v]?=some (q:Int)
 snk:∀(v:Nat),v<n->l1[v]?=some (cat (Zgs (v:Int)) 0 ((ZB d).take k))
noncomputable def ldF (b:Zc) (v:Nat):Int:=((YE b (v:Int)).bind (λr=>r[0]?)).getD 0
noncomputable def edF (b:Zc) (v:Nat):List Int:=(XC b (v:Int)).getD []
theorem ZsS (h:Xh b):∃v,Vx b=some v/\ZG.ZB v=ZB (K3 b)/\Hf v=b/\ZG.links v=Zm b/\ZG.loads v=(List.range (Gl b).length).map (ldF b)/\ZG.Zii v=(List.range (Gl b).length).map (edF b)/\ZG.extras v=[]:=by
 have S:=h.ok.1;have W:=S.few;have a4:=(Zkc h.sm).2.1;have e6:=YT W;have d3:=W.insts;have e9:=h.ok.2.1;have d4:=S.2.1.2.1;have a6:=ZhS h;unfold Vx;rw[Xm _ W,Bq];refine Zdq (l:=K4 (K3 b)) (λk v=>v.1=(fst (K3 b) k:Int)/\v.2.1=(k:Int)/\v.2.2.1=cat (ZlQ b) 0 ((K4 (K3 b)).take k)) _ ⟨rfl,rfl,rfl⟩ ?_ ?_
 ·rintro k x ⟨n,i,c,⟨⟩⟩ o hk ⟨X,a,hc⟩
  simp only at X a hc;subst a;subst X;subst hc;have d5:=Zzv W k;have hl:=ZhH h k;obtain⟨c,h1,h2,h3⟩:=Zhp h (Ud o) (fst (K3 b) k:Int) (by omega);have d7:=Zq7 c (fst (K3 b) k:Int) h2.2.2.1.1;have e5:=W.nets x (Ud o);simp only[JO,show(k:Int)<((K4 (K3 b)).length:Int)from by omega,Uk,Zv,o,h3,Bq,Zao];rw[Ra];refine⟨_,rfl,?_,?_,?_⟩
  ·simp only;rw[QR,Zyo o];omega
  ·simp only;rw[Xd]
  ·simp only
   rw[ZhI o];congr 1;unfold ZlQ;rw[h1]
 ·rintro⟨n,i,c0,⟨⟩⟩ ⟨_,a,A⟩
  simp only at a A;subst a;rw[Ur]at A;have b5:c0.length<=448:=by rw[A];exact a6
  simp only[JO,Ui,Uj];rw[Ra,Ra,Ra,Ra,Ra];obtain⟨r,u,R,rfl,z⟩:=Zdq (l:=ZB (K3 b)) (ρ:=(Int×Int×List Zn×Unit)⊕ZG) (step:=λv=>QO b (ZB (K3 b)) c0 v.1 v.2.1 v.2.2.1) (v:=((0:Int),List.replicate (Int.toNat (↑(List.length (Gl b)):Int)) (0:Int),List.replicate (Int.toNat (↑(List.length (Gl b)):Int)) (([]:List Int)),()))
   (λk v=>v.1=(k:Int)/\Stand (K3 b) (Gl b).length k v.2.1 v.2.2.1)
   (λr=>∃R,r=.inr R/\ZG.ZB R=ZB (K3 b)/\Hf R=b/\ZG.links R=Zm b/\ZG.loads R=(List.range (Gl b).length).map (ldF b)/\ZG.Zii R=(List.range (Gl b).length).map (edF b)/\ZG.extras R=[])
   ⟨rfl,by simp,by simp,λv q y _ hq=>by omega,λv F=>by
    rw[Ki];simp only[cat];rw[Kc,QP]⟩
   (by
    rintro k x ⟨i,l0,Z,⟨⟩⟩ o hk ⟨a,g⟩;simp only at a g;subst a;have X:=Zn7 S (Ud o);have e4:=X.2;have b7:0<=x.2.2.1:=X.1;have e8:Y6.net x=x.2.2.1:=rfl;simp only[QO,show(k:Int)<((ZB (K3 b)).length:Int)from by omega,Uk,Zv,o,Bq];have B:=g.n0;have a0:=g.n1;obtain⟨q,b2,_⟩:=Zfk (l:=l0) X.1;obtain⟨p,a2,_⟩:=Zfk (l:=Z) X.1;have a3:p=cat (Zgs x.2.2.1) 0 ((ZB (K3 b)).take k):=by
     have e:=g.snk (x.2.2.1).toNat (by omega);have K:Z[(x.2.2.1).toNat]?=some p:=by
      have:=a2;unfold atI at this;rw[Uc X.1]at this;exact this
     rw[e]at K;injection K with K
     rw[<-K,show((x.2.2.1).toNat:Int)=x.2.2.1 by omega]
    have d0:p.length<=78:=by
     rw[a3];have:=Zeg x.2.2.1 ((ZB (K3 b)).take k) 0;rw[Uo]at this;omega
    by_cases L:x.2.2.2.1=true
    ·rw[Uc L,show atI l0 (Y6.net x)=some q from b2,Bq]
     refine⟨_,rfl,by simp only;rw[Xd],?_,?_,?_,?_⟩
     ·simp[B]
     ·exact a0
     ·intro v P y F b0 d H
      simp only;rw[UX];by_cases t:(Y6.net x).toNat=v
      ·rw[Uc t,QP]
       obtain⟨q',_,_,_,_,U⟩:=Ztx S a4 (v:=v);have b4:Ztw (v:Int) x=true:=by
        unfold Ztw;have:x.2.2.1=(v:Int):=by rw[<-t];show x.2.2.1=((x.2.2.1).toNat:Int);omega
        simp[this,L]
       have e1:=U k x o b4;have K:=U P y d H;rw[e1,K]
      ·rw[Ue t]
       have b1:P≠k:=by
        intro e;subst e;rw[o]at d;injection d with d
        subst d;unfold Ztw at H;simp only[Up,Ul]at H;exact t (by show(x.2.2.1).toNat=v;omega)
       exact g.drv v P y F (by omega) d H
     ·intro v F
      simp only;rw[g.snk v F,ZhI o];congr 1;have:Zgs (v:Int) k x=[]:=by
       unfold Zgs;rw[Uc L];split<;>rfl
      rw[this,Um]
    ·rw[Ue L,show atI Z (Y6.net x)=some p from a2,Bq,Zk (by simp;omega)]
     refine⟨_,rfl,by simp only;rw[Xd],B,?_,?_,?_⟩
     ·simp[a0]
     ·intro v P y F b0 d H
      have b1:P≠k:=by
       intro e;subst e;rw[o]at d;injection d with d
       subst d;unfold Ztw at H;simp only[Up]at H;exact L H.2
      exact g.drv v P y F (by omega) d H
     ·intro v F
      simp only;rw[UX,ZhI o];by_cases t:(Y6.net x).toNat=v
      ·have C:x.2.2.1=(v:Int):=by rw[<-t];show x.2.2.1=((x.2.2.1).toNat:Int);omega
       rw[Uc t,QP,a3,C];unfold Zgs;rw[Uc C,Ue L]
      ·have C:¬x.2.2.1=(v:Int):=λe=>t (by show(x.2.2.1).toNat=v;omega)
       rw[Ue t,g.snk v F];have:Zgs (v:Int) k x=[]:=by unfold Zgs;rw[Ue C]
       rw[this,Um])
   (by
    rintro⟨i,l0,Z,⟨⟩⟩ ⟨a,g⟩;simp only at a g;subst a;simp only[QO,Ui,Uj];have d6:=g.n0;obtain⟨r,u,R,rfl,z⟩:=Zdq (l:=Gl b) (ρ:=(Int×List Int×List (List Int)×Unit)⊕((Int×Int×List Zn×Unit)⊕ZG)) (step:=λv=>QN b (ZB (K3 b)) l0 v.1 v.2.1 v.2.2.1 v.2.2.2.1 v.2.2.2.2.1) (v:=((0:Int),([]:List Int),([]:List (List Int)),c0,Z,()))
     (λk v=>v.1=(k:Int)/\v.2.1=(List.range k).map (ldF b)/\v.2.2.1=(List.range k).map (edF b)/\v.2.2.2.1=c0++cat (λv _=>ZxX (K3 b) (v:Int)) 0 ((Gl b).take k)/\v.2.2.2.2.1=Z)
     (λr=>∃R,r=.inr (.inr R)/\ZG.ZB R=ZB (K3 b)/\Hf R=b/\ZG.links R=Zm b/\ZG.loads R=(List.range (Gl b).length).map (ldF b)/\ZG.Zii R=(List.range (Gl b).length).map (edF b)/\ZG.extras R=[])
     ⟨rfl,rfl,rfl,by simp[cat],rfl⟩
     (by
      rintro k w ⟨i,c1,c2,O,l2,⟨⟩⟩ hw hk ⟨a,M,N,G,g4⟩;simp only at a M N G g4;subst a;subst g4;have d8:O.length<=5200:=by
       have:=ZjR h ((Gl b).take k);rw[Uo]at this;rw[G,Uh];omega
      obtain⟨nl,a1,b8⟩:=ZhW h hw;obtain⟨ed,T,b6⟩:=ZiD h hw;have b9:=(h.ok.2.2 k w hw).1.1;have d1:c1.length=k:=by rw[M];simp
      have d2:c2.length=k:=by rw[N];simp
      have a8:ldF b k=nl[0]:=by
       unfold ldF;rw[a1,Bq,Ua (by omega)];rfl
      have V:edF b k=ed:=by
       unfold edF;rw[T];rfl
      have B:atI nl (0:Int)=some nl[0]:=(show nl[0]?=some nl[0]from Ua (by omega));have Y:=g.snk k hk;rw[Ur]at Y;obtain⟨D,dy,J,H,a5,_⟩:=Ztx S a4 (v:=k);have a7:=g.drv k D dy hk (Ub.1 J).1 J H;have e3:=(Ub.1 J).1;have E:l2[k]?=some (Zae (K3 b) (k:Int)):=Y;have e7:(Zae (K3 b) (k:Int)).length<=78:=by
       have:=Zeg (k:Int) (ZB (K3 b)) 0;unfold Zae;omega
      simp only[QN,show(k:Int)<((Gl b).length:Int)from by omega,Uk,a1,B,T,Bq,Zv,E];rw[Zk (by simp;omega),Zk (by simp;omega)];obtain⟨r,u,R,rfl,z⟩:=Zdq (l:=Zae (K3 b) (k:Int)) (ρ:=(Int×List Int×List (List Int)×List Zn×List (List Int)×Unit)⊕((Int×List Int×List (List Int)×Unit)⊕((Int×Int×List Zn×Unit)⊕ZG))) (step:=λv=>QM l0 (k:Int) c1 c2 l2 nl[0] ed (Zae (K3 b) (k:Int)) v.1 v.2.1) (v:=((0:Int),O,()))
       (λm v=>v.1=(m:Int)/\v.2.1=O++cat (λj s=>[VF (ZhL (K3 b) (k:Int)) s 0 0 2 (j:Int),VF (ZhL (K3 b) (k:Int)) s 1 1 2 (j:Int)]) 0 ((Zae (K3 b) (k:Int)).take m))
       (λr=>∃R,r=.inl R/\R.1=((k+1:Nat):Int)/\R.2.1=(List.range (k+1)).map (ldF b)/\R.2.2.1=(List.range (k+1)).map (edF b)/\R.2.2.2.1=c0++cat (λv _=>ZxX (K3 b) (v:Int)) 0 ((Gl b).take (k+1))/\R.2.2.2.2.1=l2)
       ⟨rfl,by simp[cat]⟩
       (by
        rintro m y ⟨i,Q,⟨⟩⟩ d hm ⟨a,I⟩;simp only at a I;subst a;have f0:=ZiR (Ud d);have d9:Q.length<=6000:=by
         have:=VJ (f:=λj s=>[VF (ZhL (K3 b) (k:Int)) s 0 0 2 (j:Int),VF (ZhL (K3 b) (k:Int)) s 1 1 2 (j:Int)]) (c:=2) (l:=(Zae (K3 b) (k:Int)).take m) (m:=0) (λ_ _ _=>by simp);rw[Uo]at this;rw[I,Uh];omega
        simp only[QM,show(m:Int)<((Zae (K3 b) (k:Int)).length:Int)from by omega,Uk,Zv,d,Bq];have st:∀(j:Nat) (c5:List Zn),j<2->c5.length<=6100->Qi l0 (k:Int) (m:Int) y (j:Int) c5=some (.inl (((j+1:Nat):Int),c5++[VF (D:Int) y (j:Int) (j:Int) 2 (m:Int)],())):=by
         intro j c5 hj e0;simp only[Qi,show(j:Int)<(2:Int)from by omega,Uk,Zv,a7,Bq];rw[Zk (by simp;omega),QR (n:=2*(D:Int)),QR (n:=2*(D:Int)+(j:Int)),QR (n:=2*y),QR (n:=2*y+(j:Int)),Xd];rfl
        have s0:=st 0 Q (by omega) (by omega);have s1:=st 1 (Q++[VF (D:Int) y ((0:Nat):Int) ((0:Nat):Int) 2 (m:Int)]) (by omega) (by simp;omega);have b3:Zt (λv=>Qi l0 (k:Int) (m:Int) y v.1 v.2.1) ((0:Int),Q,())=some (.inl (((m+1:Nat):Int),Q++[VF (D:Int) y ((0:Nat):Int) ((0:Nat):Int) 2 (m:Int)]++[VF (D:Int) y ((1:Nat):Int) ((1:Nat):Int) 2 (m:Int)],())):=by
         rw[YW (v':=(((0+1:Nat):Int),Q++[VF (D:Int) y ((0:Nat):Int) ((0:Nat):Int) 2 (m:Int)],())) s0,YW (v':=(((1+1:Nat):Int),Q++[VF (D:Int) y ((0:Nat):Int) ((0:Nat):Int) 2 (m:Int)]++[VF (D:Int) y ((1:Nat):Int) ((1:Nat):Int) 2 (m:Int)],())) s1,YF];simp only[Qi];rw[QQ,Xd]
        refine ⟨_,b3,rfl,?_⟩;simp only;rw[I,ZhI d,a5];simp only[Un,U0,Uq,Int.natCast_zero,Int.natCast_one])
       (by
        rintro⟨i,Q,⟨⟩⟩ ⟨a,I⟩;simp only at a I;subst a;rw[Ur]at I;simp only[QM,Ui,Uj];refine⟨_,rfl,_,rfl,by simp only;rw[Xd],by simp only;rw[M,List.range_succ,Kp,List.map_singleton,a8],by simp only;rw[N,List.range_succ,Kp,List.map_singleton,V],?_,?_⟩
        ·simp only
         rw[I,G,ZhI hw,Un];rfl
        ·simp only
         apply UI;intro i;rw[UX];split
         ·rename_i e
          have e:k=i:=by simpa using e
          subst e;rw[E];split
          ·rfl
          ·rename_i a9
           exact absurd (by have:=g.n1;simpa using(show k<l2.length by omega)) a9
         ·rfl)
      exact ⟨R,u,z⟩)
     (by
      rintro ⟨i,c1,c2,O,l2,⟨⟩⟩ ⟨a,M,N,G,g4⟩;simp only at a G;subst a;rw[Ur] at G;simp only[QN,Ui,Uj];refine ⟨_,rfl,_,rfl,rfl,rfl,?_,M,N,rfl⟩;show O=Zm b;rw[G,A];rfl)
    exact ⟨_,u,_,rfl,z⟩)
  exact⟨R,u,z⟩
def ZaB (n:Nat) (b:List Int):List Bool:=(List.range n).map (λ(k:Nat)=>!decide ((k:Int)∈b))
theorem Qo (n:Nat) (b:List Int):(ZaB n b).length=n:=by simp[ZaB]
variable (l:List Int)
theorem Zhh (x:Int) (q:l.length<=1048576):Ze2 l x=some (decide (x∈l)):=by
 unfold Ze2;rw[Jh (l:=l) (p:=λy=>decide (y=x)) (out:=λi=>decide (0<=i)) (show List.length _<=_ by omega) (λk y H=>by
  have a:=(Ub.1 H).1;simp only[Ze3,show(k:Int)<(l.length:Int)from by omega,Uk,Zv,H,Bq,Ul];split
  ·rw[UJ (by omega)]
  ·rfl) (by simp only[Ze3,Ui,Uj];rfl)]
 congr 1;rw[Kx,Vr,KN];constructor
 ·rintro⟨y,H,e⟩;simp at e;subst e;exact H
 ·intro h;exact⟨x,h,by simp⟩
theorem Zgu (L:List Zn) (b:List Int) (n:L.length<=6000) (H:b.length<=1048576):ZdP L b=some (ZaB L.length b):=by
 have e:cat (λk (_:Zn)=>[!decide ((k:Int)∈b)]) 0 L=ZaB L.length b:=by
  apply UI;intro j;rw[ZpU];unfold ZaB;rw[UL,Uw];by_cases h:j<L.length
  ·rw[Ua h,Kf h];rfl
  ·rw[Uv (by omega),Uv (by simp;omega)];rfl
 unfold ZdP;refine Xx (l:=L) (λk (_:Zn)=>[!decide ((k:Int)∈b)]) [] (λk x c a=>?_) ?_
 ·have d:(cat (λk (_:Zn)=>[!decide ((k:Int)∈b)]) 0 (L.take k)).length=(L.take k).length:=ZjS
  rw[Uo]at d;simp only[Uq,Zez,show(k:Int)<(L.length:Int)from by omega,Uk,Zhh b _ H,Bq];rw[Zk (by rw[UV];omega),Xd]
 ·simp only[Uq,Zez,Ui,Uj,e]
theorem Zpr {s:List Int} {x:Int} (k:0<=x:=by omega) (d:x<(n:Int):=by omega):List.set (ZaB n s) (Int.toNat x) false=ZaB n (s++[x]):=by
 apply UI;intro j;rw[UX];unfold ZaB;rw[UL,UL,U5,List.length_range];by_cases b:j<n
 ·rw[Kf b]
  by_cases e:x.toNat=j
  ·rw[Uc e,QP]
   have:(j:Int)=x:=by omega
   simp[this]
  ·rw[Ue e]
   have:¬(j:Int)=x:=by omega
   simp[this]
 ·rw[Uv (l:=List.range n) (by simp;omega)]
  split
  ·rw[QQ];rfl
  ·rfl
theorem ZuG (v:ZG) (b:List Int) (r:(ZG.links v).length<=6000) (f:Zhj b 0 (((ZG.links v).length:Int)-1)) (g:b.length<=1048576):Vn v b=some (v,ZaB (ZG.links v).length b,()):=by
 unfold Vn;rw[Ra,Ra,Ra,Ra];generalize X:(ZG.links v).length=n at *;have H:List.length (List.replicate (Int.toNat (n:Int)) false)=n:=by simp
 have D:Zt (λw=>QS v b w.1 w.2.1) ((0:Int),List.replicate n true,())=some (.inr (v,ZaB n b,())):=by
  have:=Za1 (l:=b) (ρ:=(Int×List Bool×Unit)⊕ZM) (λk=>((k:Int),ZaB n (b.take k),())) (step:=λw=>QS v b w.1 w.2.1) (good:=.inr (v,ZaB n b,()))
   (λk x c o=>by
    have d:=f x (Ud c);obtain ⟨y,p,_⟩:=Zfk (l:=ZaB n (b.take k)) d.1 (by rw[Qo];omega);simp only[QS,show (k:Int)<(b.length:Int) from by omega,Uk,Zv,c,p,Bq];rw[Zpr d.1,XF c,Xd])
   (by simp only[QS,Ui,Uj,Ur])
  have E:ZaB n (b.take 0)=List.replicate n true:=by
   apply UI;intro j;simp only[ZaB,Ki,UR,decide_false,Bool.not_false,UL,Kc];by_cases h:j<n
   ·simp[h]
   ·simp[h]
  rw[<-E];exact this
 refine YC n (λk w=>w.1=(k:Int)/\w.2.1.length=n/\∀j,j<k->w.2.1[j]?=some true) _ ⟨rfl,by simp,λj m=>by omega⟩ ?_ ?_
 ·rintro k ⟨i,l,⟨⟩⟩ o ⟨a,q,s⟩
  simp only at a q s;subst a;have c:l[k]?=some l[k]:=Ua (by omega);left;simp only[ZaY,X,H,show(k:Int)<(n:Int)from by omega,Uk,Zv,c,Bq];refine⟨_,rfl,by simp only;rw[Xd],by simp[q],λj m=>?_⟩;simp only[UG];rw[UX];split
  ·rw[QP]
  ·exact s j (by omega)
 ·rintro⟨i,l,⟨⟩⟩ ⟨a,q,s⟩
  simp only at a q s;subst a;have e:l=List.replicate n true:=by
   apply UI;intro j;rw[Kc];by_cases h:j<n
   ·rw[s j h,Uc h]
   ·rw[Uv (by omega),Ue h]
  simp only[ZaY,X,H,Ui,Uj];rw[e];exact D
def Zmz (n:Int) (l:List Int):Prop:=Zhj l 0 (n-1)/\Inc l
theorem ZAj {l:List Int}:Inc l<->ZeM l (λk x=>∀y,0<k->l[k-1]?=some y->y<x):=by
 constructor
 ·intro h k x H y a i
  exact h (k-1) y x i (by rw[show k-1+1=k by omega];exact H)
 ·intro h k x y H i
  exact h (k+1) y i x (by omega) H
theorem Zme (n:Int) (f:l.length<=1048576) (X:0<=n/\n<=1048576:=by omega):Zfi l n=some (tr (Zmz n l)):=by
 have e1:Wq (n-1)=n-1:=QR;unfold Zfi;rw[QF (l:=l) (show List.length _<=_ by omega) (λk x=>(0<=x/\x<=n-1)/\∀ y,0<k->l[k-1]?=some y->y<x) (bad:=false) (good:=true)
  (λk x h e _=>by
   simp only[ZcP,show(k:Int)<(l.length:Int)from by omega,Uk,Zv,h,Bq,QT,e1];by_cases b:0<=x/\x<=n-1
   ·rw[Uc (ZR b)]
    by_cases a:(0:Int)<(k:Int)
    ·obtain⟨y,i⟩:∃y,l[k-1]?=some y:=⟨_,Ua (by omega)⟩
     rw[Uc a,Zhm,Zv,i,Bq];constructor
     ·intro r
      rw[Ue];have:=r.2 y (by omega) rfl;omega
     ·intro r
      rw[Uc];apply Uz;intro t;refine r ⟨b,λY _ H=>?_⟩;injection H with H
      have:¬x<=y:=t;omega
    ·rw[Ue a]
     exact⟨λ_=>rfl,λr=>absurd ⟨b,λy c=>by omega⟩ r⟩
   ·rw[Ue (λq=>b ((Xf _).1 q))]
    exact ⟨λr=>absurd r.1 b,λ_=>rfl⟩)
  (λ_=>by simp only[ZcP,Ui,Uj]),Zhz]
 congr 1;refine Xj ?_;unfold Zmz;rw[ZAj];constructor
 ·intro q
  exact⟨JA.1 (λk x h=>(q k x h).1),λk x h=>(q k x h).2⟩
 ·rintro⟨Q,d⟩ k x h
  exact⟨Q x (Ud h),d k x h⟩
theorem ZsG (n:Int) (q:l.length<=1048576):((Xy l 0 n).bind λb=>if b=true then(Qz l).bind λc=>some c else some false)=some (tr (Zhj l 0 n/\Inc l)) :=
 YO (Zfj _ _ _ q) (λ_=>Zdj (Zam _ (show List.length _<=_ by omega)))
theorem ZfT (h:Xh b) {l:Zn} (q:l∈Zm b):(0<=Gc l/\Gc l<2*((ZB (K3 b)).length:Int))/\(0<=Gf l/\Gf l<2*((ZB (K3 b)).length:Int)):=by
 have J:=h.ok.1.few;unfold Zm at q;rcases Uu.1 q with q|q
 ·obtain⟨i,x,m,H⟩:=XZ.1 q
  rw[Uw]at H;obtain⟨I,⟨c,d,z⟩,_⟩:=h.ok.1.2.2.1 x (Ud m);have y:=h.ok.1.1.2.1 c (Ud d);unfold ZlQ at H;rw[d]at H;obtain⟨k,a,t,e⟩:=XZ.1 H;have o:=(y.2.2.1.2 k a t).1;have F:=o.1;have G:=o.2.1;obtain⟨B,r⟩:=ZiU m;have n:fst (K3 b) i+(Gu x).length<=(ZB (K3 b)).length:=by
   rw[r,Uh,Uh,ZfY];unfold fst;omega
  unfold Znm at e;obtain⟨p,g,rfl⟩:=KQ.1 e;have C:(0<=p.1/\p.1<=1)/\(0<=p.2.1/\p.2.1<=1):=by
   unfold trs at g;repeat' split at g
   all_goals (simp only[Us,UR,Kd]at g)
   all_goals first|(rcases g with rfl|rfl|rfl|rfl<;>simp)|(rcases g with rfl|rfl<;>simp)|exact g.elim
  simp only[VF,Gc,Gf];omega
 ·obtain⟨v,w,E,H⟩:=XZ.1 q
  rw[Uw]at H;have D:v<(Gp (K3 b)).length:=by
   have:=(Ub.1 E).1;have:=h.ok.2.1;omega
  have L:=Ztv h D;obtain⟨j,s,u,f⟩:=XZ.1 H;have A:=ZiR (Ud u);simp only[Us,UR,Kd]at f;rcases f with rfl|rfl
  ·simp only[VF,Gc,Gf];omega
  ·simp only[VF,Gc,Gf];omega
theorem Y2 (h:Xh b):(Zm b).length<=6000:=by
 have d:=ZhS h;have f:=ZjR h (Gl b);have g:=h.ok.2.1;have i:=h.ok.1.2.1.2.1;unfold Zm Zt3;rw[Uh];omega
def ZBP (b:Zc) (x:Zn) (y:Pl):Prop:=GH x=1/\∃(i:Nat) (u:Zp) (c:Zq) (k:Nat) (a:ZL),y.1=(i:Int)/\(K4 (K3 b))[i]?=some u/\0<=GJ u/\(Gh (GG b))[(GJ u).toNat]?=some c/\
 (Ge c)[k]?=some a/\He x=(k:Int)/\ZcE (Gy a) true/\ZcE (GO a) true
def ZDB (b:Zc) (x:Zn) (v:Nat):Prop:=GH x=2/\∃(w:ZC) (j:Nat) (z:Int),(Gl b)[v]?=some w/\He x=(j:Int)/\(Gv w)[j]?=some z
structure Zvv (b:Zc) (x:Zn) (y:Pl) (v:Nat):Prop where
 to0:0<=Gf x
 to1:Gf x<=1000000
 place:(ZB (K3 b))[(Gf x/2).toNat]?=some y
 net:y.2.2.1=(v:Int)
 few:v<(Gl b).length
 kind:ZBP b x y\/ZDB b x v
variable {x:Zn}
theorem ZrA (h:Xh b) (l:x∈Zm b):∃y v,Zvv b x y v:=by
 have U:=h.ok.1.few;have W:=YT U;have e:=ZfT h l;have Z:=h.ok.2.1;unfold Zm at l;rcases Uu.1 l with l|l
 ·obtain⟨i,u,C,z⟩:=XZ.1 l
  rw[Uw]at z;obtain⟨R,⟨c,f,S⟩,r⟩:=h.ok.1.2.2.1 u (Ud C);have Q:=h.ok.1.1.2.1 c (Ud f);unfold ZlQ at z;rw[f]at z;obtain⟨k,a,J,g⟩:=XZ.1 z;rw[Uw]at g;have o:=(Q.2.2.1.2 k a J).1;have h1:=o.1;have h2:=o.2.1;obtain⟨B,P⟩:=ZiU C;unfold Znm at g;obtain⟨p,K,rfl⟩:=KQ.1 g;have G:(0<=p.2.1/\p.2.1<=1)/\(K9 a=1\/K9 a=2\/K9 a=3):=by
   unfold trs at K;repeat' split at K
   all_goals grind
  obtain⟨ht,hk⟩:=G;have H:ZcE (Gy a) true/\ZcE (GO a) true:=by
   rcases o.2.2 with q|q|q
   all_goals grind
  have X:(Gu u)[(Gn a).toNat]?=some ((Gu u)[(Gn a).toNat]'(by omega)):=Ua _;have t:=r _ (Ud X);generalize (Gu u)[(Gn a).toNat]'(by omega)=n at X t;have D:0<=n/\n<=((Gp (K3 b)).length:Int)-1:=t;have d:(cat Zah 0 ((K4 (K3 b)).take i)).length=fst (K3 b) i:=rfl;have E:Gf (VF ((fst (K3 b) i:Nat)+Gi a) ((fst (K3 b) i:Nat)+Gn a) p.1 p.2.1 1 (k:Int))=2*((fst (K3 b) i:Int)+Gn a)+p.2.1:=rfl;have I:((2*((fst (K3 b) i:Int)+Gn a)+p.2.1)/2).toNat=fst (K3 b) i+(Gn a).toNat:=by omega
  refine⟨((i:Int),((Gn a).toNat:Int),n,decide (((Gn a).toNat:Int)=Wq (((Gu u).length:Int)-1)),()),n.toNat,e.2.1,by grind,?_,by show n=_;omega,by omega,.inl ⟨rfl,i,u,c,k,a,rfl,C,R.1,f,J,rfl,H.1,H.2⟩⟩;rw[E,I,P,UY (by rw[d];omega),d,Nat.add_sub_cancel_left,Uy (by rw[ZfY];omega)];unfold Zah;rw[ZpU,X,Uw];rfl
 ·obtain⟨v,w,A,z⟩:=XZ.1 l
  rw[Uw]at z;have N:=(Ub.1 A).1;obtain⟨j,s,M,m⟩:=XZ.1 z;rw[Uw]at m;have Y:((Gv w).length:Int)=((Zae (K3 b) (v:Int)).length:Int):=(h.ok.2.2 v w A).2.2.2.1;have V:=(Ub.1 M).1;have T:(Gv w)[j]?=some ((Gv w)[j]'(by omega)):=Ua _;obtain⟨q,y,L,O⟩:=XZ.1 (show s∈cat (Zgs (v:Int)) 0 (ZB (K3 b))from Ud M);rw[Uw]at O;have F:s=(q:Int)/\y.2.2.1=(v:Int):=by
   unfold Zgs at O;grind
  obtain⟨rfl,t⟩:=F;simp only[Us,UR,Kd]at m;rcases m with rfl|rfl
  ·refine⟨y,v,e.2.1,by grind,?_,t,N,.inr ⟨rfl,w,j,_,A,rfl,T⟩⟩
   rw[show Gf (VF (ZhL (K3 b) (v:Int)) (q:Int) 0 0 2 (j:Int))=2*(q:Int)+0 from rfl,show((2*(q:Int)+0)/2).toNat=q by omega];exact L
  ·refine⟨y,v,e.2.1,by grind,?_,t,N,.inr ⟨rfl,w,j,_,A,rfl,T⟩⟩
   rw[show Gf (VF (ZhL (K3 b) (v:Int)) (q:Int) 1 1 2 (j:Int))=2*(q:Int)+1 from rfl,show((2*(q:Int)+1)/2).toNat=q by omega];exact L
def ZxU (n r:Nat):Prop:=r*r<=n/\n<(r+1)*(r+1)
variable {r:Nat}
theorem ZCq (h:ZxU n r) (k:Nat):k<=r<->k*k<=n:=by
 constructor
 ·intro q
  exact Kg (Kk q q) h.1
 ·intro q
  by_cases c:k<=r
  ·exact c
  ·have:(r+1)*(r+1)<=k*k:=Kk (by omega) (by omega)
   have:=h.2;omega
theorem ZzF (k:Nat):(2*k)*(2*k)=4*(k*k):=by
 grind
variable {S:Nat}
theorem ZyY {R:Nat} (h:ZxU S r) (H:ZxU (4*S) R):r/500=R/1000:=by
 have e:∀q:Nat,500*q<=r<->1000*q<=R:=λq=>by
  rw[ZCq h,ZCq H,show 1000*q=2*(500*q) by omega,ZzF];omega
 have e1:=e (r/500);have f:=e (R/1000);omega
def upQ (x n:Nat):Nat:=if x%n=0 then x/n else x/n+1
theorem ZzH {x q:Nat} (X:0<n):upQ x n<=q<->x<=n*q:=by
 unfold upQ;have d:=Nat.div_add_mod x n;have f:=Nat.mod_lt x X;constructor
 ·intro h
  split at h
  ·rename_i c
   have:=Nat.mul_le_mul_left n h;omega
  ·have:=Nat.mul_le_mul_left n h
   grind
 ·intro h
  split
  ·rename_i c
   refine Nat.le_of_mul_le_mul_left (c:=n) ?_ X;omega
  ·rename_i c
   have:n*(x/n)<n*q:=by omega
   have:=Nat.lt_of_mul_lt_mul_left this;omega
theorem ZAI {R:Nat} (h:ZxU S r) (H:ZxU (4*S) R):(if r*r<S then r/500+1 else upQ r 500)=upQ (if R*R<4*S then R+1 else R) 1000:=by
 have p:∀{n x:Nat},ZxU n x->∀k,(if x*x<n then x+1 else x)<=k<->n<=k*k:=by
  intro n x l k;split
  ·rename_i c
   constructor
   ·intro q
    have:(x+1)*(x+1)<=k*k:=Kk q q;have:=l.2;omega
   ·intro q
    by_cases w:x+1<=k
    ·exact w
    ·have:k*k<=x*x:=Kk (by omega) (by omega)
     omega
  ·rename_i c
   have e:x*x=n:=by have:=l.1;omega
   constructor
   ·intro q
    rw[<-e];exact Kk q q
   ·intro q
    by_cases w:x<=k
    ·exact w
    ·have:(k+1)*(k+1)<=x*x:=Kk (by omega) (by omega)
     grind
 have e1:∀q,(if r*r<S then r/500+1 else upQ r 500)<=q<->S<=(500*q)*(500*q):=λq=>by
  rw[<-p h (500*q)];split
  ·omega
  ·exact ZzH (by decide)
 have f:∀q,upQ (if R*R<4*S then R+1 else R) 1000<=q<->S<=(500*q)*(500*q):=λq=>by
  rw[ZzH (by decide),p H,show 1000*q=2*(500*q) by omega,ZzF];omega
 generalize (if r*r<S then r/500+1 else upQ r 500)=A at e1 ⊢;generalize upQ (if R*R<4*S then R+1 else R) 1000=B at f ⊢;have a:=(f A).2 ((e1 A).1 (UE _));have c:=(e1 B).2 ((f B).1 (UE _));omega
theorem ZrR {ρ:Type} {H:Nat} (X:n<(H+1)*(H+1)) {step:Int×Int×Unit->Option ((Int×Int×Unit)⊕ρ)} {good:Nat->ρ}
  (b:∀o l:Nat,o<l->l<=H->step ((o:Int),(l:Int),())=some (.inl (if(o+l+1)/2*((o+l+1)/2)<=n then((((o+l+1)/2:Nat):Int),(l:Int),())else((o:Int),(((o+l+1)/2-1:Nat):Int),()))))
  (f:∀o:Nat,o<=H->step ((o:Int),(o:Int),())=some (.inr (good o))):∃r,ZxU n r/\r<=H/\Zt step ((0:Int),(H:Int),())=some (good r):=by
 obtain⟨x,e,r,rfl,F,q⟩:=Ze5 (step:=step) (v:=((0:Int),(H:Int),())) (λv=>∃o l:Nat,v=((o:Int),(l:Int),())/\o<=l/\l<=H/\o*o<=n/\n<(l+1)*(l+1)) (λv=>(v.2.1-v.1).toNat) (λx=>∃r,x=good r/\ZxU n r/\r<=H)
  ⟨0,H,rfl,by omega,by omega,by omega,X⟩ (by
   rintro _ ⟨o,l,rfl,g,z,a,h⟩;by_cases c:o<l
   ·left
    refine⟨_,b o l c z,?_,?_⟩
    ·split
     ·rename_i d
      exact⟨_,_,rfl,by omega,z,d,h⟩
     ·rename_i d
      refine⟨_,_,rfl,by omega,by omega,a,?_⟩;rw[show(o+l+1)/2-1+1=(o+l+1)/2 by omega];omega
    ·split
     ·simp only;omega
     ·simp only;omega
   ·right
    have:o=l:=by omega
    subst this;exact ⟨_,f o z,o,rfl,⟨a,h⟩,z⟩)
 grind
theorem Zzy {o l:Nat} (h:o+l<=8000000000:=by omega):Wq (Int.tdiv (Wq (Wq ((o:Int)+(l:Int))+(1:Int))) (2:Int))=(((o+l+1)/2:Nat):Int):=by
 rw[QR (n:=(o:Int)+(l:Int)),QR (n:=(o:Int)+(l:Int)+1),U8 (by omega),QR];omega
theorem Zy5 (h:m<=3000000000:=by omega):Wq ((m:Int)*(m:Int))=((m*m:Nat):Int):=by
 have:=Kk h h;rw[<-Int.natCast_mul];generalize m*m=q at this ⊢;exact QR
theorem Zrr (s:S<(3000000000+1)*(3000000000+1):=by omega):∃r,ZxU S r/\r<=3000000000/\ZkO (S:Int)=some (r:Int):=by
 unfold ZkO;refine ZrR (n:=S) (H:=3000000000) (good:=λr=>(r:Int)) s (λo l t z=>?_) (λo q=>?_)
 ·show Zb3 (S:Int) (o:Int) (l:Int)=_
  unfold Zb3;rw[QP,Zzy,Zy5];by_cases c:(o+l+1)/2*((o+l+1)/2)<=S
  ·rw[Uc c,QP]
  ·rw[Ue c,QQ,QR,show(((o+l+1)/2:Nat):Int)-1=(((o+l+1)/2-1:Nat):Int) by omega]
 ·show Zb3 (S:Int) (o:Int) (o:Int)=_
  unfold Zb3;rw[Ue (Ui _)]
variable {m:Int}
theorem Zr4 (s:S<(2000000000+1)*(2000000000+1):=by omega):∃r,ZxU S r/\r<=2000000000/\Zfv (S:Int) m=some (if m=1 then((if r*r<S then r+1 else r:Nat):Int)else(r:Int)):=by
 unfold Zfv;refine ZrR (n:=S) (H:=2000000000) (good:=λr=>if m=1 then((if r*r<S then r+1 else r:Nat):Int)else(r:Int)) s (λo l t z=>?_) (λo q=>?_)
 ·show J4 (S:Int) m (o:Int) (l:Int)=_
  unfold J4;rw[QP,Zzy,Zy5];by_cases c:(o+l+1)/2*((o+l+1)/2)<=S
  ·rw[Uc c,QP]
  ·rw[Ue c,QQ,QR,show(((o+l+1)/2:Nat):Int)-1=(((o+l+1)/2-1:Nat):Int) by omega]
 ·show J4 (S:Int) m (o:Int) (o:Int)=_
  unfold J4;rw[Ue (Ui _),Zy5];by_cases M:m=1
  ·rw[Uc M,Uc M]
   by_cases c:o*o<S
   ·rw[QP,Uc c,QR]
    rfl
   ·rw[QQ,Ue c]
  ·rw[Ue M,Ue M]
theorem Zp2 {x:Nat} (X:0<n) (l:x<=4000000000) (h:n<=1000) (R:m=0\/m=1):Y3 (x:Int) (n:Int) m=some (if m=1 then(upQ x n:Int)else((x/n:Nat):Int)):=by
 have e1:Int.tmod (x:Int) (n:Int)=((x%n:Nat):Int):=by rw[Int.tmod_eq_emod_of_nonneg (by omega)];omega
 have f:Int.tdiv (x:Int) (n:Int)=((x/n:Nat):Int):=by rw[U8 (by omega)];omega
 have a:=Nat.div_le_self x n;unfold Y3 upQ;rw[Ra,e1,f];clear e1 f;generalize x/n=q at a ⊢;rw[QQ,QR (n:=(q:Int))];by_cases c:x%n=0
 ·rw[QQ,Uc c]
  rcases R with rfl|rfl<;>rfl
 ·rw[QP,Ue c]
  rcases R with rfl|rfl
  ·rfl
  ·rw[Uc rfl,Uc rfl,QR]
   rfl
def sqs (s d:Int):Nat:=250000*(s.natAbs*s.natAbs)+d.natAbs*d.natAbs
variable {s:Int}
theorem ZCA {d:Int} (h:-1000000<=s) (f:s<=1000000) (g:0<=d) (i:d<=301000000):sqs s d<=350000000000000000/\(s.natAbs*s.natAbs:Nat)<=1000000000000/\(d.natAbs*d.natAbs:Nat)<=90601000000000000/\s*s=((s.natAbs*s.natAbs:Nat):Int)/\d*d=((d.natAbs*d.natAbs:Nat):Int):=by
 have a:=Kk (show s.natAbs<=1000000 by omega) (show s.natAbs<=1000000 by omega);have b:=Kk (show d.natAbs<=301000000 by omega) (show d.natAbs<=301000000 by omega);refine⟨?_,by omega,by omega,?_,?_⟩
 ·unfold sqs
  generalize s.natAbs*s.natAbs=x at *;generalize d.natAbs*d.natAbs=y at *;omega
 ·rw[Int.natCast_mul,Int.natAbs_mul_self']
 ·rw[Int.natCast_mul,Int.natAbs_mul_self']
theorem ZxO {d:Int} (a:-1000000<=s) (b:s<=1000000) (g:0<=d) (i:d<=301000000) (k:m=0\/m=1) :
  ∃r,ZfX s d m=some r/\0<=r/\((Zfv (Wq (Wq (Wq ((1000000:Int)*s)*s)+Wq (Wq ((4:Int)*d)*d))) m).bind λl=>(Y3 l (1000:Int) m).bind λL=>some L)=some r:=by
 obtain⟨N,P,Q,e1,f⟩:=ZCA a b g i;have z:Wq (Wq (Wq (Wq ((500:Int)*s)*(500:Int))*s)+Wq (d*d))=(sqs s d:Int):=by
  have f1:(500:Int)*s*500*s=250000*(s*s):=by
   rw[<-Int.mul_assoc];congr 1;omega
  rw[QR (n:=500*s),QR (n:=500*s*500),f1,e1,f];unfold sqs;generalize s.natAbs*s.natAbs=x at *;generalize d.natAbs*d.natAbs=y at *;rw[QR (n:=250000*(x:Int)),QR (n:=(y:Int)),QR];omega
 have E:Wq (Wq (Wq ((1000000:Int)*s)*s)+Wq (Wq ((4:Int)*d)*d))=((4*sqs s d:Nat):Int):=by
  rw[QR (n:=1000000*s),QR (n:=4*d),Int.mul_assoc,Int.mul_assoc,e1,f];unfold sqs;generalize s.natAbs*s.natAbs=x at *;generalize d.natAbs*d.natAbs=y at *;rw[QR (n:=1000000*(x:Int)),QR (n:=4*(y:Int)),QR];omega
 generalize sqs s d=S at N z E;obtain⟨r,F,A,e⟩:=Zrr (S:=S);obtain⟨R,H,j,h⟩:=Zr4 (S:=4*S) (m:=m);unfold ZfX;rw[z,E,e,h,Bq,Bq,ZhK,Zy5];rw[show(500:Int)=((500:Nat):Int)from rfl,show(1000:Int)=((1000:Nat):Int)from rfl];rcases k with rfl|rfl
 ·refine⟨((r/500:Nat):Int),?_,by omega,?_⟩
  ·rw[Ue (by decide),Zp2 (by omega) (by omega) (by omega) (.inl rfl),Bq,Ue (by decide)]
  ·rw[Ue (by decide),Zp2 (by omega) (by omega) (by omega) (.inl rfl),Bq,Ue (by decide),ZyY F H]
 ·have q:=ZAI F H
  refine⟨((upQ (if R*R<4*S then R+1 else R) 1000:Nat):Int),?_,by omega,?_⟩
  ·rw[Uc rfl,<-q]
   by_cases c:r*r<S
   ·rw[QP,Uc c,U8 (by omega),QR (n:=(r:Int)/((500:Nat):Int)),QR]
    congr 1
   ·rw[QQ,Ue c,Zp2 (by omega) (by omega) (by omega) (.inr rfl),Bq,Uc rfl]
  ·rw[Uc rfl,Zp2 (by omega) (by split<;>omega) (by omega) (.inr rfl),Bq,Uc rfl]
def Zvt (e l:Int):Prop:=100<=e/\e<=l/\l<=5000
def Vd (c:ZA):Prop:=ZaK (GK c)=true/\Zvt (Hj c) (Hi c)/\Zvt (Hk c) (Hl c)
variable {c:ZA}
theorem Zy3 (h:sm Qf c):(GK c).length<=4611686018427387904:=by
 refine Zgz ?_;first|exact h.1|exact h.2.1
theorem Zkq (e l:Int):ZbY e l=some (tr (Zvt e l)):=by
 unfold ZbY Zvt;exact Qp (λ_=>Qp (λ_=>ZbT KB))
theorem ZfC (c:ZA):Zd3 c=some (tr (Vd c)):=by
 unfold Zd3;exact YO (by rw[Zhd];exact ZbT KT) (λ_=>YO (Zkq _ _) (λ_=>Zdj (Zkq _ _)))
theorem Zio (c:ZA) (h:sm Qf c):Zej c=some (tr (Vd c)):=by
 unfold Zej;rw[QF (l:=[Hj c,Hi c,Hk c,Hl c]) (show List.length _<=_ by simp) (λ_ x=>(100:Int)<=x/\x<=5000) (bad:=false) (good:=tr (ZaK (GK c)=true/\Hj c<=Hi c/\Hk c<=Hl c))
  (λk x H d _=>by
   simp only[Zdt,show(k:Int)<(List.length [Hj c,Hi c,Hk c,Hl c]:Int)from by omega,Uk,Zv,H,Bq,QT];constructor
   ·intro r;rw[Uc (ZR r)]
   ·intro r;rw[Ue (λq=>r ((Xf _).1 q))])
  (λ_=>by
   simp only[Zdt,Ui,Uj,Zcf _ (Zy3 h),Bq];by_cases a:ZaK (GK c)=true
   ·rw[Uc a]
    by_cases b:Hj c<=Hi c
    ·rw[Uc b]
     congr 2;exact(Zm3 (by grind)).symm
    ·rw[Ue b,ZT (λq=>b q.2.1)]
   ·rw[Ue a,ZT (λq=>a q.1)]),Zef]
 congr 1;refine Xj ?_;rw[JA];simp only[Us,UR,Kd,forall_eq_or_imp,forall_eq];unfold Vd Zvt;grind
structure VOk (b:Zc) (v:ZG):Prop where
 ZB:ZG.ZB v=ZB (K3 b)
 block:Hf v=b
 links:ZG.links v=Zm b
 loads:ZG.loads v=(List.range (Gl b).length).map (ldF b)
 Zii:ZG.Zii v=(List.range (Gl b).length).map (edF b)
 extras:ZG.extras v=[]
theorem ZxM (h:Xh b):∃v,Vx b=some v/\VOk b v:=by
 obtain⟨v,d,f,g,i,j,G,k⟩:=ZsS h;exact⟨v,d,f,g,i,j,G,k⟩
variable {y:Pl}
theorem Zql (L:Zvv b x y n):atI (ZB (K3 b)) (Wq (Int.tdiv (Gf x) (2:Int)))=some y:=by
 have k:=L.to0;have d:=L.to1;rw[U8 k,QR];exact Qt (by omega) L.place
variable {v:ZG}
theorem Zt4 (a:VOk b v) (L:Zvv b x y n):Zaz v x=some (n:Int):=by
 unfold Zaz;rw[a.ZB,Zql L,Bq,<-L.net]
theorem Zry (h:Xh b) (L:Zvv b x y n):Zgw b x=some (n:Int):=by
 unfold Zgw;rw[Y5 _ h.ok.1.few,Bq,Zql L,Bq,<-L.net]
theorem ZzG {l:List ZH} (h:ZcE l true) {n:Int} (X:0<=n):∃t,atI l (Int.tmod n (2:Int))=some t/\Jk t/\∀v∈Gr t,0<=v:=by
 have e:0<=Int.tmod n 2/\Int.tmod n 2<2:=by rw[Int.tmod_eq_emod_of_nonneg X];omega
 obtain⟨t,d,f⟩:=Zfk (l:=l) e.1 (by rw[h.1];exact e.2);exact⟨t,d,(h.2 t f).1,(h.2 t f).2 rfl⟩
variable {ld:List Int}
theorem ZyL (h:Zsj b n w ld):atI ld (0:Int)=some (ldF b n):=by
 have d:=h.n1;have f:=h.nl;have e:ld[0]?=some (ld[0]'(by omega)):=Ua _;show atI ld ((0:Nat):Int)=_;rw[Zv];unfold ldF;rw[h.prog,Bq,e];rfl
theorem ZwN (h:Zsj b n w ld):edF b n=(Gv w).map (sdl w ld):=by
 unfold edF;rw[ZoI h];rfl
theorem Zpc (h:Xh b) (e:VOk b v) (L:Zvv b x y n) (w:ZBP b x y) :
  ∃a Q t,Zb5 v x=some a/\Zgv b x=some (a,ldF b n)/\atI (Gy a) (Int.tmod (Gf x) (2:Int))=some Q/\Jk Q/\atI (GO a) (Int.tmod (Gf x) (2:Int))=some t/\Jk t/\∀v∈Gr t,0<=v:=by
 obtain⟨A,i,u,c,k,a,e1,f,E,j,l,m,o,p⟩:=w;obtain⟨Q,f1,f2,_⟩:=ZzG o L.to0;obtain⟨t,F,q,r⟩:=ZzG p L.to0;have z:(Gl b)[n]?=some ((Gl b)[n]'L.few):=Ua _;obtain⟨ld,H⟩:=ZE5 h z;have g:atI (K4 (K3 b)) (G9 y)=some u:=by
  show atI _ y.1=_;rw[e1,Zv];exact f
 have G:atI (K4 (K3 b)) (Ha y)=some u:=g;have d:atI (Gh (GG b)) (GJ u)=some c:=Qt E j;have s:atI (Ge c) (He x)=some a:=by rw[m,Zv];exact l
 refine⟨a,Q,t,?_,?_,f1,f2,F,q,r⟩
 ·unfold Zb5
  rw[e.ZB,e.block,Zql L,Bq,g,Bq,d,Bq,s];rfl
 ·unfold Zgv
  rw[Y5 _ h.ok.1.few,Bq,Zql L,Bq,G,Bq,d,Bq,s,Bq,show ZF.net y=(n:Int)from L.net,H.ref,Bq,ZyL H];rfl
theorem ZtT (a:VOk b v) (X:n<(Gl b).length):atI (ZG.loads v) (n:Int)=some (ldF b n):=by
 rw[Zv,a.loads,UL,Kf X];rfl
theorem Zv1 (a:VOk b v) (X:n<(Gl b).length):atI (ZG.Zii v) (n:Int)=some (edF b n):=by
 rw[Zv,a.Zii,UL,Kf X];rfl
theorem Zwi (h:Vd c) (kind:Int) (m:Int):∃F,JM c kind m=some F/\Zc3 c kind m=some F/\0<=F/\F<=5000:=by
 obtain⟨_,⟨a,A,j⟩,⟨N,P,Q⟩⟩:=h;unfold JM Zc3;by_cases k1:kind=1
 ·by_cases M:m=0
  ·simp only[k1,M,Uk]
   exact⟨_,rfl,rfl,by omega,by omega⟩
  ·simp only[k1,M,Uk,Uj]
   exact⟨_,rfl,rfl,by omega,by omega⟩
 ·by_cases M:m=0
  ·simp only[k1,M,Uk,Uj]
   exact⟨_,rfl,rfl,by omega,by omega⟩
  ·simp only[k1,M,Uj]
   exact⟨_,rfl,rfl,by omega,by omega⟩
theorem Zuj {q F:Int} (Q:-1000000<=q) (c:q<=1000000) (F0:0<=F) (F1:F<=5000) (R:m=0\/m=1):∃r,Zhq q F m=some r/\Y3 (Wq (q*F)) (1000:Int) m=some r/\-5000000<=r/\r<=5000000:=by
 have p:=ZnZ Q c F0;obtain⟨r,H,h⟩:=Zp3 (a:=q*F) (b:=1000) (m:=m) (by omega) (by omega) (by omega) R;have h:=h 5000000 (by omega) (by omega);unfold Zhq;rw[ZhK,QR (n:=q*F),H];exact⟨r,rfl,rfl,h.2.1 (by omega),h.1 (by omega)⟩
theorem Zm4 (h:Xh b) (H:VOk b v) (u:Vd c) (p:(Zm b)[k]?=some x) (s:Int) (R:m=0\/m=1) :
  ∃r,Jo v c (k:Int) s m=some r/\Za7 b c x s m=some r/\-5000000<=r/\r<=5000000:=by
 obtain⟨y,n,L⟩:=ZrA h (Ud p);obtain⟨F,F1,F2,F3,F4⟩:=Zwi u (GH x) m;have A:atI (ZG.links v) (k:Int)=some x:=by rw[H.links,Zv];exact p
 unfold Jo Za7;rw[A,Bq,Zt4 H L,Bq];rcases L.kind with d|t
 ·obtain⟨a,T,P,c1,c2,O,Q,Z,J,_⟩:=Zpc h H L d
  obtain⟨q,B,C,D,I⟩:=look_eq Q s (ldF b n) R;obtain⟨r,r1,r2,g,l⟩:=Zuj D I F3 F4 R;refine⟨r,?_,?_,g,l⟩
  ·rw[Uc d.1,ZtT H L.few,Bq,c1,Bq,O,Bq,B,Bq,F1,Bq,r1]
   rfl
  ·rw[Uc d.1,c2,Bq]
   show(atI (Gy a) _).bind _=_;rw[O,Bq];show(Zcd T s (ldF b n) m).bind _=_;rw[C,Bq,F2,Bq,r2];rfl
 ·obtain⟨N,w,j,z,e1,E,i⟩:=t
  obtain⟨ld,o⟩:=ZE5 h e1;obtain⟨f,f1,f2⟩:=ZqD o R;obtain⟨G,K,M⟩:=f1 z (Ud i);obtain⟨r,r1,r2,g,l⟩:=Zuj (q:=f z) (by omega) (by omega) F3 F4 R;have e:¬GH x=1:=by omega
  refine⟨r,?_,?_,g,l⟩
  ·rw[Ue e,Zv1 H L.few,Bq,ZwN o,E,Zv,UL,i,Kl,Bq,ZhK,G,Bq,F1,Bq,r1]
   rfl
  ·rw[Ue e,Zry h L,Bq,f2,Bq,E,Zv,UL,i,Kl,Bq,F2,Bq,r2]
   rfl
theorem ZqE (h:Xh b) (H:VOk b v) (l:(Zm b)[k]?=some x) (S:-1000000<=s) (B:s<=1000000) (R:m=0\/m=1) :
  ∃r,Y9 v (k:Int) s m=some r/\Zcg b x s m=some r/\-1000000<=r/\r<=1000000:=by
 obtain⟨y,n,L⟩:=ZrA h (Ud l);have A:atI (ZG.links v) (k:Int)=some x:=by rw[H.links,Zv];exact l
 unfold Y9 Zcg;rw[A,Bq,Zt4 H L,Bq];rcases L.kind with c|F
 ·obtain⟨a,I,T,c1,c2,O,C,Z,J,_⟩:=Zpc h H L c
  obtain⟨q,Q,o,g,p⟩:=look_eq J s (ldF b n) R;refine⟨q,?_,?_,g,p⟩
  ·rw[Uc c.1,ZtT H L.few,Bq,c1,Bq,Z,Bq,Q,Bq,Int.min_eq_left p]
  ·rw[Uc c.1,c2,Bq]
   show(atI (GO a) _).bind _=_;rw[Z,Bq];show(Zcd T s (ldF b n) m).bind _=_;rw[o];rfl
 ·obtain⟨D,w,j,z,e1,E,i⟩:=F
  obtain⟨ld,f⟩:=ZE5 h e1;obtain⟨G,t,u⟩:=f.sink (Ud i);obtain⟨q,Q,o,g⟩:=ZxO (s:=s) (d:=sdl w ld z) (m:=m) S B t u R;have e:¬GH x=1:=by omega
  refine⟨Min.min q 1000000,?_,?_,by omega,by omega⟩
  ·rw[Ue e,Zv1 H L.few,Bq,ZwN f,E,Zv,UL,i,Kl,Bq,Q]
   rfl
  ·rw[Ue e,Zry h L,Bq]
   unfold Zi1;rw[Zv,e1,Bq,E,Zv,i,Bq,Zon f,Bq,G,Bq,g,Bq,Int.min_comm]
theorem spans_eq (h:Xh b) (a:VOk b v) (q:Vd c) (l:(Zm b)[k]?=some x) {s:Zz} (S:-1000000<=K8 s/\K8 s<=1000000) (e:-1000000<=Ga s/\Ga s<=1000000) :
  ∃d o:Zz,ZaA v c (k:Int) s=some (d,o)/\ZeD b c x s=some (d,o)/\(-5000000<=K8 d/\K8 d<=5000000)/\(-5000000<=Ga d/\Ga d<=5000000)/\(-1000000<=K8 o/\K8 o<=1000000)/\(-1000000<=Ga o/\Ga o<=1000000):=by
 obtain⟨D,A,N,c1⟩:=Zm4 h a q l (K8 s) (.inl rfl:(0:Int)=0\/(0:Int)=1);obtain⟨f,n,P,c2⟩:=Zm4 h a q l (Ga s) (.inl rfl:(0:Int)=0\/(0:Int)=1);obtain⟨g,p,Q,C⟩:=Zm4 h a q l (K8 s) (.inr rfl:(1:Int)=0\/(1:Int)=1);obtain⟨i,r,T,y⟩:=Zm4 h a q l (Ga s) (.inr rfl:(1:Int)=0\/(1:Int)=1);obtain⟨o1,e1,f1,G⟩:=ZqE h a l S.1 S.2 (.inl rfl:(0:Int)=0\/(0:Int)=1);obtain⟨O,E,f2,z⟩:=ZqE h a l e.1 e.2 (.inl rfl:(0:Int)=0\/(0:Int)=1);obtain⟨j,t,F,B⟩:=ZqE h a l S.1 S.2 (.inr rfl:(1:Int)=0\/(1:Int)=1);obtain⟨m,u,w,I⟩:=ZqE h a l e.1 e.2 (.inr rfl:(1:Int)=0\/(1:Int)=1);have H:atI (ZG.links v) (k:Int)=some x:=by rw[a.links,Zv];exact l
 refine⟨(Min.min D f,Max.max g i,()),(Min.min o1 O,Max.max j m,()),?_,?_,?_,?_,?_,?_⟩
 ·unfold ZaA
  rw[A,n,p,r,H,a.extras];simp only[Bq];rw[Ue (by simp),e1,E,t,u];rfl
 ·unfold ZeD
  rw[N,P,Q,T,f1,f2,F,w];rfl
 ·show _<=Min.min D f/\Min.min D f<=_;omega
 ·show _<=Max.max g i/\Max.max g i<=_;omega
 ·show _<=Min.min o1 O/\Min.min o1 O<=_;omega
 ·show _<=Max.max j m/\Max.max j m<=_;omega
def ZcT (s:Zz):Prop:=0<=K8 s/\K8 s<=Ga s/\Ga s<=1000000
variable (s:Zz)
theorem Zbh:Za8 s=some (tr (ZcT s)):=by
 unfold Za8 ZcT;exact Qp (λ_=>Qp (λ_=>ZbT KB))
def ZaH (s:Zz):Prop:=(-1000000000<=K8 s/\K8 s<=1000000000)/\(-1000000000<=Ga s/\Ga s<=1000000000)/\K8 s<=Ga s
theorem Ja:Jm s=some (tr (ZaH s)):=by
 unfold Jm ZaH ZhQ;exact YO (Zdj (Qs _ _ _)) (λ_=>YO (Zdj (Qs _ _ _)) (λ_=>ZbT KB))
theorem ZfD:ZaW s=some (tr (ZcT s)):=by
 unfold ZaW ZhP;refine ZeO (YO (Ja s) (λ_=>YO (Zdj (Qs _ _ _)) (λ_=>Zdj (Zdj (Qs _ _ _))))) ?_;unfold ZcT ZaH;omega
theorem Zhg:Zcc s=some (tr (ZaH s)):=by
 unfold Zcc ZaH;exact YO (QT _ _ _) (λ_=>YO (QT _ _ _) (λ_=>ZbT KB))
def Zc7 (n:Int) (l:List Zj) (k:Nat) (x:Zj):Prop :=
 (0<=K7 x/\K7 x<=n-1)/\(∀y,0<k->l[k-1]?=some y->K7 y<K7 x)/\ZaH (GR x)/\ZcT (GZ x)
theorem Zk4 (h:Xh b) (l:List Zj) (o:l.length<=1048576):ZeC b l=some (tr (ZeM l (Zc7 (2*((ZB (K3 b)).length:Int)) l))):=by
 have f:=h.ok.1.few;have g:=YT f;unfold ZeC V8;rw[Y5 _ f,Bq,Bq,Yy (n:=2*((ZB (K3 b)).length:Int))];rw[QF (l:=l) (show Len l by unfold Len;omega) (Zc7 (2*((ZB (K3 b)).length:Int)) l) (bad:=false) (good:=true)
  (step:=λv=>J8 l (2*((ZB (K3 b)).length:Int)) v.1)
  (λk x j m _=>by
   simp only[J8,show (k:Int)<(l.length:Int) from by omega,Uk,Zv,j,Bq,QT,Zhg,Zbh,Yy (show (-9223372036854775808:Int)<=2*((ZB (K3 b)).length:Int)-1 by omega)];unfold Zc7;have J:∀ (Q:Prop),(Q<->ZaH (GR x)/\ZcT (GZ x))->((Q->(if tr (ZaH (GR x))=true then if tr (ZcT (GZ x))=true then some (.inl (Wq ((k:Int)+1),())) else some (.inr false) else some (.inr false):Option ((Int×Unit) ⊕ Bool))=some (.inl (Wq ((k:Int)+1),())))/\
     (¬Q->(if tr (ZaH (GR x))=true then if tr (ZcT (GZ x))=true then some (.inl (Wq ((k:Int)+1),())) else some (.inr false) else some (.inr false):Option ((Int×Unit) ⊕ Bool))=some (.inr false))):=by
    intro Q c;constructor
    ·intro q
     rw[Uc (ZR (c.1 q).1),Uc (ZR (c.1 q).2)]
    ·intro q
     by_cases s:ZaH (GR x)
     ·rw[Uc (ZR s),Ue (λS=>q (c.2 ⟨s,(Xf _).1 S⟩))]
     ·rw[Ue (λS=>s ((Xf _).1 S))]
   by_cases a:0<=K7 x/\K7 x<=2*((ZB (K3 b)).length:Int)-1
   ·rw[Uc (ZR a)]
    by_cases d:k=0
    ·subst d
     rw[Ue (show ¬(0:Int)<((0:Nat):Int) by omega)];refine J _ ⟨λq=>q.2.2,λq=>⟨a,λy h=>by omega,q⟩⟩
    ·have i:l[k-1]?=some l[k-1]:=Ua (by omega)
     have H:atI l ((k:Int)-1)=some l[k-1]:=Qt (by omega) (by rw[<-i];congr 1;omega);generalize l[k-1]=y at i H;rw[QP,QR (n:=(k:Int)-1),H,Bq];by_cases e:K7 x<=K7 y
     ·rw[Uc e]
      exact⟨λq=>by have:=q.2.1 y (by omega) i;omega,λ_=>rfl⟩
     ·rw[Ue e]
      refine J _ ⟨λq=>q.2.2,λq=>⟨a,λz _ T=>?_,q⟩⟩;rw[i]at T;injection T with T;subst T;omega
   ·rw[Ue (λq=>a ((Xf _).1 q))]
    exact ⟨λq=>absurd q.1 a,λ_=>rfl⟩)
  (λ_=>by simp only[J8,Ui,Uj]),Zhz]
theorem ZgQ (h:Xh b) (v:ZG) (j:ZG.ZB v=ZB (K3 b)) (l:List Zj) (p:l.length<=1048576):VU v l=some (tr (ZeM l (Zc7 (2*((ZB (K3 b)).length:Int)) l))):=by
 have d:=h.ok.1.few;have g:=YT d;have e:∀n,Zdc v n=some (tr (0<=n/\n<=2*((ZB (K3 b)).length:Int)-1)):=by
  intro n;unfold Zdc YP;rw[show Yt (ZG.ZB v)=some ((ZG.ZB v).length:Int)from rfl,Bq,Bq,j,Yy (n:=2*((ZB (K3 b)).length:Int)),QR];exact Zdj (Qs _ _ _)
 unfold VU;rw[QF (l:=l) (show Len l by unfold Len;omega) (Zc7 (2*((ZB (K3 b)).length:Int)) l) (bad:=false) (good:=true)
  (step:=λu=>Vf v l u.1)
  (λk x m o _=>by
   simp only[Vf,show(k:Int)<(l.length:Int)from by omega,Uk,Zv,m,Bq,e,Ja,ZfD];unfold Zc7;by_cases Q:0<=K7 x/\K7 x<=2*((ZB (K3 b)).length:Int)-1
   ·rw[Uc (ZR Q)]
    by_cases c:ZaH (GR x)
    ·rw[Uc (ZR c)]
     by_cases f:ZcT (GZ x)
     ·rw[Uc (ZR f)]
      by_cases H:k=0
      ·subst H
       rw[Ue (show ¬(0:Int)<((0:Nat):Int) by omega)];exact⟨λ_=>rfl,λq=>absurd ⟨Q,λy h=>by omega,c,f⟩ q⟩
      ·have i:l[k-1]?=some l[k-1]:=Ua (by omega)
       have J:atI l ((k:Int)-1)=some l[k-1]:=Qt (by omega) (by rw[<-i];congr 1;omega);generalize l[k-1]=y at i J;rw[QP,QR (n:=(k:Int)-1),J,Bq];by_cases a:K7 x<=K7 y
       ·rw[Uc a]
        exact⟨λq=>by have:=q.2.1 y (by omega) i;omega,λ_=>rfl⟩
       ·rw[Ue a]
        refine⟨λ_=>rfl,λq=>absurd ⟨Q,λz _ T=>?_,c,f⟩ q⟩;rw[i]at T;injection T with T;subst T;omega
     ·rw[Ue (λq=>f ((Xf _).1 q))]
      exact⟨λq=>absurd q.2.2.2 f,λ_=>rfl⟩
    ·rw[Ue (λq=>c ((Xf _).1 q))]
     exact⟨λq=>absurd q.2.2.1 c,λ_=>rfl⟩
   ·rw[Ue (λq=>Q ((Xf _).1 q))]
    exact ⟨λq=>absurd q.1 Q,λ_=>rfl⟩)
  (λ_=>by simp only[Vf,Ui,Uj]),Zhz]
theorem Zm0 (h:Few (K3 b)):V8 b=some (2*((ZB (K3 b)).length:Int)):=by
 have g:=YT h;unfold V8;rw[Y5 _ h,Bq,QR]
abbrev NSt:=Option (Zz×Zz)
def ZbM:Zz:=((0:Int),(0:Int),())
def hul (a b:Zz):Zz:=(Min.min (K8 a) (K8 b),Max.max (Ga a) (Ga b),())
def ZwE (st:NSt) (a s:Zz):NSt:=match st with
 |none=>some (a,s)
 |some q=>some (hul q.1 a,hul q.2 s)
def Zqw (a d:Zz):Zz:=(Wq (K8 a+K8 d),Wq (Ga a+Ga d),())
def encI (node:Int) (st:NSt):Int×Int×Int×Int×Int×Bool×Unit:=match st with
 |none=>(node,0,0,0,0,false,())
 |some q=>(node,K8 q.1,Ga q.1,K8 q.2,Ga q.2,true,())
def ZzB (node:Int) (st:NSt):Bool×Zj:=match st with
 |none=>(false,((0:Int),ZbM,ZbM,()))
 |some q=>(true,(node,q.1,q.2,()))
theorem ZtL (a b:Zz):hul a b=hul b a:=by unfold hul;rw[Int.min_comm,Int.max_comm]
noncomputable def spn (b:Zc) (c:ZA) (x:Zn) (s:Zz):Zz×Zz:=(ZeD b c x s).getD (ZbM,ZbM)
noncomputable def ZpI (b:Zc) (c:ZA) (t:Zr) (x:Zn) (st:NSt):NSt :=
 if(atI (Gd t) (Gc x)).getD false=true then ZwE st (Zqw ((atI (GL t) (Gc x)).getD ZbM) (spn b c x ((atI (GF t) (Gc x)).getD ZbM)).1) (spn b c x ((atI (GF t) (Gc x)).getD ZbM)).2 else st
def ZxV (s:Zz):Prop:=(-1000000<=K8 s/\K8 s<=1000000)/\(-1000000<=Ga s/\Ga s<=1000000)
structure Zji (n:Nat) (t:Zr):Prop where
 lr:(Gd t).length=n
 la:(GL t).length=n
 ls:(GF t).length=n
 sl:∀s∈GF t,ZxV s
variable {t:Zr}
theorem Zsz (h:Xh b) (H:Zji (2*(ZB (K3 b)).length) t) (c:x∈Zm b) :
  ∃r a s,atI (Gd t) (Gc x)=some r/\atI (GL t) (Gc x)=some a/\atI (GF t) (Gc x)=some s/\ZxV s:=by
 have f:=(ZfT h c).1;obtain⟨r,F,_⟩:=Zfk (l:=Gd t) f.1 (by rw[H.lr];omega);obtain⟨a,n,_⟩:=Zfk (l:=GL t) f.1 (by rw[H.la];omega);obtain⟨s,q,R⟩:=Zfk (l:=GF t) f.1 (by rw[H.ls];omega);exact⟨r,a,s,F,n,q,H.sl s R⟩
theorem Zrp (node:Int) (st:NSt) (a s:Zz):∃j,JH (node,((encI node st).2.1,(encI node st).2.2.1,()),((encI node st).2.2.2.1,(encI node st).2.2.2.2.1,()),()) (encI node st).2.2.2.2.2.1 a s=some j/\(j.fst.fst,j.fst.snd.fst.fst,j.fst.snd.fst.snd.fst,j.fst.snd.snd.fst.fst,j.fst.snd.snd.fst.snd.fst,j.snd,())=encI node (ZwE st a s):=by
 cases st with
 |none=>exact⟨_,rfl,rfl⟩
 |some q=>exact⟨_,rfl,rfl⟩
variable {live:List Bool} {L:List Int} {node:Int}
theorem ZoP (h:Xh b) (f:VOk b v) (g:Vd c) (p:Zji (2*(ZB (K3 b)).length) t) {m:Nat} (R:L[m]?=some (k:Int)) (l:(Zm b)[k]?=some x) (n:m<=1048576) (st:NSt) :
  Xp (v,live,()) c t L (m:Int) (encI node st).1 (encI node st).2.1 (encI node st).2.2.1 (encI node st).2.2.2.1 (encI node st).2.2.2.2.1 (encI node st).2.2.2.2.2.1=some (.inl (((m+1:Nat):Int),encI node (ZpI b c t x st))):=by
 have y:=(Ub.1 R).1;obtain⟨r,a,s,F,H,e,A⟩:=Zsz h p (Ud l);obtain⟨d,o,e1,E,_⟩:=spans_eq h f g l A.1 A.2;have i:atI (ZG.links (ZM.view ((v,live,()):ZM))) (k:Int)=some x:=by
  show atI (ZG.links v) (k:Int)=some x;rw[f.links,Zv];exact l
 have hsp:spn b c x s=(d,o):=by unfold spn;rw[E];rfl
 have u:ZpI b c t x st=if r=true then ZwE st (Zqw a d) o else st:=by
  unfold ZpI;rw[F,H,e];simp only[UQ,hsp]
 have X:(encI node st).1=node:=by cases st<;>rfl
 obtain⟨j,J,w⟩:=Zrp node st (Zqw a d) o;unfold Xp;rw[QP,Zv,R,Bq,i,Bq,F,Bq,u];by_cases q:r=true
 ·rw[Uc q,Uc q,e,Bq]
  show(ZaA v c (k:Int) s).bind _=_;rw[e1,Bq,H,Bq];show(JH _ _ (Zqw a d) o).bind _=_;rw[X,J,Bq,Xd n,<-w]
 ·rw[Ue q,Ue q,Xd n]
variable (st:NSt)
theorem Zqd {g:ZM} :
  Xp g c t L (L.length:Int) (encI node st).1 (encI node st).2.1 (encI node st).2.2.1 (encI node st).2.2.2.1 (encI node st).2.2.2.2.1 (encI node st).2.2.2.2.2.1=some (.inr (ZzB node st)):=by
 unfold Xp;rw[Ue (Ui _)];cases st<;>rfl
theorem ZoO (h:Xh b) (g:VOk b v) (q:Vd c) (r:Zji (2*(ZB (K3 b)).length) t) (n:L.length<=1048576) {f:Int->NSt->NSt}
  (a:∀y∈L,∃(k:Nat) (x:Zn),y=(k:Int)/\(Zm b)[k]?=some x/\∀st,f y st=ZpI b c t x st) (s:NSt) :
  Zt (λu=>Xp (v,live,()) c t L u.1 u.2.1 u.2.2.1 u.2.2.2.1 u.2.2.2.2.1 u.2.2.2.2.2.1 u.2.2.2.2.2.2.1) ((0:Int),encI node s)=some (ZzB node (XU (λ_ y st=>f y st) 0 L s)):=by
 refine Zbl (l:=L) (by unfold Len;omega) (λst i=>(i,encI node st)) (f:=λ_ y st=>f y st) (s0:=s) (λ_ _=>True) trivial (λm y st H _ _=>⟨?_,trivial⟩) (λst _ e=>?_)
 ·have R:=(Ub.1 H).1
  obtain⟨k,x,rfl,j,d⟩:=a y (Ud H);rw[d,Xd];exact ZoP h g q r H j (by omega) st
 ·rw[<-e]
  exact Zqd st
def encS (node:Int) (st:NSt) (i:Int):Bool×Int×Int×Int×Int×Int×Int×Unit:=match st with
 |none=>(false,i,0,0,0,0,0,())
 |some q=>(true,i,node,K8 q.1,Ga q.1,K8 q.2,Ga q.2,())
theorem Zo2 (h:Xh b) (w:VOk b v) (i:Vd c) (p:Zji (2*(ZB (K3 b)).length) t) {lv:Bool} (l:(Zm b)[k]?=some x) (H:live[k]?=some lv) (j:k<=1048576) (st:NSt) :
  Ql b c (Zm b) live t node (encS node st (k:Int)).1 (k:Int) (encS node st (k:Int)).2.2.1 (encS node st (k:Int)).2.2.2.1 (encS node st (k:Int)).2.2.2.2.1 (encS node st (k:Int)).2.2.2.2.2.1 (encS node st (k:Int)).2.2.2.2.2.2.1=some (.inl (encS node (if lv=true then(if Gf x=node then ZpI b c t x st else st)else st) ((k+1:Nat):Int))):=by
 have m:=(Ub.1 l).1;obtain⟨r,a,s,F,n,g,A⟩:=Zsz h p (Ud l);obtain⟨d,o,e1,E,_⟩:=spans_eq h w i l A.1 A.2;have hsp:spn b c x s=(d,o):=by unfold spn;rw[E];rfl
 have u:ZpI b c t x st=if r=true then ZwE st (Zqw a d) o else st:=by
  unfold ZpI;rw[F,n,g];simp only[UQ,hsp]
 unfold Ql;rw[QP,Zv,l,Bq,Zv,H,Bq,Xd j];by_cases Q:lv=true
 ·rw[Uc Q,Uc Q]
  by_cases e:Gf x=node
  ·rw[Uc e,Uc e,F,Bq,u]
   by_cases f:r=true
   ·rw[Uc f,Uc f,g,Bq,E,Bq,n,Bq]
    cases st with
    |none=>rfl
    |some q =>
     show some (Sum.inl (true,((k+1:Nat):Int),node,K8 (hul (Zqw a d) q.1),Ga (hul (Zqw a d) q.1),K8 (hul o q.2),Ga (hul o q.2),()))=_;rw[ZtL (Zqw a d),ZtL o];rfl
   ·rw[Ue f,Ue f]
    cases st<;>rfl
  ·rw[Ue e,Ue e]
   cases st<;>rfl
 ·rw[Ue Q,Ue Q]
  cases st<;>rfl
def toF (live:List Bool) (node:Int) (k:Nat) (x:Zn):List Int:=if(live[k]?).getD false=true then(if Gf x=node then[(k:Int)]else[])else[]
def toL (b:Zc) (live:List Bool) (node:Int):List Int:=cat (toF live node) 0 (Zm b)
theorem ZBv (live:List Bool) (node:Int) (k:Nat) (x:Zn):(toF live node k x).length<=1:=by
 unfold toF;split
 ·split<;>simp
 ·simp
theorem ZxC (h:Xh b) (live:List Bool) (node:Int) (n:Nat):(cat (toF live node) 0 ((Zm b).take n)).length<=6000:=by
 have d:=VJ (f:=toF live node) (c:=1) (l:=(Zm b).take n) (m:=0) (λk x _=>ZBv live node k x);have H:=Y2 h;rw[Uo]at d;omega
theorem ZsD (h:Xh b) (a:VOk b v) (d:live.length=(Zm b).length) (node:Int):Zd6 (v,live,()) node=some (toL b live node):=by
 have G:=Y2 h;have e:ZG.links (ZM.view ((v,live,()):ZM))=Zm b:=a.links;have j:ZM.live ((v,live,()):ZM)=live:=rfl;unfold Zd6 Qc;have:=Xx (l:=Zm b) (ρ:=List Int) (toF live node) [] (step:=λu=>YI (v,live,()) (node,()) u.1 u.2.1) (good:=toL b live node)
  (λk x H c=>by
   have f:live[k]?=some (live[k]'(by omega)):=Ua _;have n:=ZxC h live node k;simp only[YI,e,j,show(k:Int)<((Zm b).length:Int)from by omega,Uk,Zv,H,f,Bq,ZfE,Uq,Xd (show k<=1048576 by omega)];unfold toF at *;rw[f];simp only[UQ];by_cases Q:live[k]'(by omega)=true
   ·rw[Uc Q,Uc Q]
    by_cases q:Gf x=node
    ·rw[Uc (UJ q),Uc q,Zk (by simp only[Uf,Ug];omega)]
    ·rw[Ue (by rw[Ul];exact q),Ue q,Um]
   ·rw[Ue Q,Ue Q,Um])
  (by simp only[YI,e,Ui,Uj,Uq];rfl)
 rw[this];rfl
theorem Zrh {β σ:Type} (f:β->σ->σ):∀(l:List β) (m n:Nat) (s:σ),XU (λ_ y s=>f y s) m l s=XU (λ_ y s=>f y s) n l s
 |[],_,_,_=>rfl
 |x::l,m,n,s=>by simp only[XU];exact Zrh f l _ _ _
theorem ZkI {α β σ:Type} {g:Nat->α->List β} (f:β->σ->σ):∀(l:List α) (m:Nat) (s:σ),XU (λ_ y s=>f y s) 0 (cat g m l) s=XU (λk x s=>XU (λ_ y s=>f y s) 0 (g k x) s) m l s
 |[],_,_=>rfl
 |x::l,m,s=>by
  show XU (λ_ y s=>f y s) 0 (g m x++cat g (m+1) l) s=_;rw[ZgM,Zrh f (cat g (m+1) l) _ 0,ZkI f l (m+1)];rfl
theorem Zj0 {α σ:Type} {f g:Nat->α->σ->σ}:∀(l:List α) (m:Nat) (s:σ),(∀k x s,l[k]?=some x->f (m+k) x s=g (m+k) x s)->XU f m l s=XU g m l s
 |[],_,_,_=>rfl
 |x::l,m,s,h=>by
  simp only[XU];have H:=h 0 x s rfl;rw[Kt]at H;rw[H];refine Zj0 l (m+1) _ λk y s i=>?_;rw[show m+1+k=m+(k+1) by omega];exact h (k+1) y s (by rw[U3];exact i)
def Zia (l:List Zj) (node:Int):NSt:=XU (λ_ x st=>if K7 x=node then some (GR x,GZ x)else st) 0 l none
def Ztf (l:List Zj):Prop:=∀(i j:Nat) (x y:Zj),l[i]?=some x->l[j]?=some y->K7 x=K7 y->i=j
variable {l:List Zj} {L:List Zn}
theorem ZqJ (d:Len l) {R:Bool×Zj}
  (H:Zt (λv=>Ql b c L live t node v.1 v.2.1 v.2.2.1 v.2.2.2.1 v.2.2.2.2.1 v.2.2.2.2.2.1 v.2.2.2.2.2.2.1) (encS node (Zia l node) 0)=some (.inr R)):ZaO b c L live l t node=some R:=by
 unfold ZaO;refine Zbl (l:=l) d (λst i=>encS node st i) (f:=λ_ x st=>if K7 x=node then some (GR x,GZ x)else st) (s0:=none) (λ_ _=>True) trivial (λk x st h _ _=>⟨?_,trivial⟩) (λst _ a=>?_)
 ·have g:=(Ub.1 h).1
  have e:∀st:NSt,(encS node st (k:Int)).2.1=(k:Int):=λst=>by cases st<;>rfl
  show J7 b c L live l t node (encS node st (k:Int)).1 (encS node st (k:Int)).2.1 (encS node st (k:Int)).2.2.1 (encS node st (k:Int)).2.2.2.1 (encS node st (k:Int)).2.2.2.2.1 (encS node st (k:Int)).2.2.2.2.2.1 (encS node st (k:Int)).2.2.2.2.2.2.1=_;rw[e];unfold J7;rw[QP,Zv,h,Bq];by_cases q:K7 x=node
  ·rw[Uc q,Uc q,q]
   rfl
  ·rw[Ue q,Ue q]
   cases st<;>rfl
 ·have s:st=Zia l node:=a
  subst s;have e:∀st:NSt,(encS node st (l.length:Int)).2.1=(l.length:Int):=λst=>by cases st<;>rfl
  show J7 b c L live l t node (encS node (Zia l node) (l.length:Int)).1 (encS node (Zia l node) (l.length:Int)).2.1 (encS node (Zia l node) (l.length:Int)).2.2.1 (encS node (Zia l node) (l.length:Int)).2.2.2.1 (encS node (Zia l node) (l.length:Int)).2.2.2.2.1 (encS node (Zia l node) (l.length:Int)).2.2.2.2.2.1 (encS node (Zia l node) (l.length:Int)).2.2.2.2.2.2.1=_;rw[e];unfold J7;rw[Ue (Ui _),<-H];cases Zia l node<;>rfl
theorem Zo1 (h:Xh b) (g:VOk b v) (q:Vd c) (m:live.length=(Zm b).length) (r:Zji (2*(ZB (K3 b)).length) t) (s:NSt) :
  Zt (λv=>Ql b c (Zm b) live t node v.1 v.2.1 v.2.2.1 v.2.2.2.1 v.2.2.2.2.1 v.2.2.2.2.2.1 v.2.2.2.2.2.2.1) (encS node s 0)=some (.inr (ZzB node (XU (λk x st=>if(live[k]?).getD false=true then(if Gf x=node then ZpI b c t x st else st)else st) 0 (Zm b) s))):=by
 have G:=Y2 h;refine Zbl (l:=Zm b) (by unfold Len;omega) (λst i=>encS node st i) (f:=λk x st=>if(live[k]?).getD false=true then(if Gf x=node then ZpI b c t x st else st)else st) (s0:=s) (λ_ _=>True) trivial (λk x st a _ _=>⟨?_,trivial⟩) (λst _ d=>?_)
 ·have j:=(Ub.1 a).1
  have H:live[k]?=some (live[k]'(by omega)):=Ua _;have e:∀st:NSt,(encS node st (k:Int)).2.1=(k:Int):=λst=>by cases st<;>rfl
  have:=Zo2 h g q r (node:=node) a H (by omega) st;rw[H,UQ,Xd,<-this];show Ql b c (Zm b) live t node (encS node st (k:Int)).1 (encS node st (k:Int)).2.1 _ _ _ _ _=_;rw[e]
 ·rw[<-d]
  have e:∀st:NSt,(encS node st ((Zm b).length:Int)).2.1=((Zm b).length:Int):=λst=>by cases st<;>rfl
  show Ql b c (Zm b) live t node (encS node st ((Zm b).length:Int)).1 (encS node st ((Zm b).length:Int)).2.1 _ _ _ _ _=_;rw[e];unfold Ql;rw[Ue (Ui _)];cases st<;>rfl
theorem ZqM {node:Int}:∀(l:List Zj) (m:Nat) (st:NSt),(∀x∈l,K7 x≠node)->XU (λ_ x st=>if K7 x=node then some (GR x,GZ x)else st) m l st=st
 |[],_,_,_=>rfl
 |x::l,m,st,h=>by
  simp only[XU];rw[Ue (h x UK)];exact ZqM l (m+1) st λy i=>h y (UP _ i)
theorem Zy7 (d:Ztf l) {x:Zj} (h:l[i]?=some x) (X:K7 x=node):Zia l node=some (GR x,GZ x):=by
 have H:=(Ub.1 h).1;have e:l=l.take i++x::l.drop (i+1):=by
  have:=Kz i l;rw[List.drop_eq_getElem_cons H,(Ub.1 h).2]at this;exact this.symm
 have D:∀y∈l.drop (i+1),K7 y≠node:=λy a q=>by
  obtain⟨j,b⟩:=UA.1 a;rw[Km]at b;have:=d i (i+1+j) x y h b (by rw[X,q]);omega
 unfold Zia;rw[e,ZgM];simp only[XU];rw[Uc X];exact ZqM _ _ _ D
theorem Zs4 (a:Len l) (d:Ztf l) (node:Int):∃r:Zj×Bool,Vt l node=some r/\(r.2=true->Zia l node=some (GR r.1,GZ r.1))/\(r.2=false->Zia l node=none):=by
 unfold Vt;rw[Y4 a (λx=>decide (K7 x=node)) (λx _=>rfl),Bq];unfold ZaI;cases e:l.findIdx? (λx=>decide (K7 x=node))with
 |none =>
  rw[Ue (by decide)];refine⟨_,rfl,(λq=>Bool.noConfusion q),λ_=>?_⟩;rw[List.findIdx?_eq_none_iff]at e;exact ZqM l 0 none λx h q=>by have:=e x h;rw[Kr]at this;exact this q
 |some i =>
  rw[U9]at e;obtain⟨H,g,_⟩:=e;have h:l[i]?=some l[i]:=Ua H;dsimp only;rw[QP,Zv,h,Bq];exact⟨_,rfl,λ_=>Zy7 d h (of_decide_eq_true g),λq=>Bool.noConfusion q⟩
noncomputable def ZgY (b:Zc) (c:ZA) (live:List Bool) (l:List Zj) (t:Zr) (node:Int):NSt:=XU (λk x st=>if(live[k]?).getD false=true then(if Gf x=node then ZpI b c t x st else st)else st) 0 (Zm b) (Zia l node)
theorem Zr3 (h:Xh b) (a:VOk b v) (q:Vd c) (H:live.length=(Zm b).length) (r:Zji (2*(ZB (K3 b)).length) t) (s:Len l) (node:Int) :
  ZaO b c (Zm b) live l t node=some (ZzB node (ZgY b c live l t node)) :=
 ZqJ s (Zo1 h a q H r (Zia l node))
theorem Zrq (h:Xh b) (g:VOk b v) (q:Vd c) (m:live.length=(Zm b).length) (p:Zji (2*(ZB (K3 b)).length) t) (s:Len l) (i:Ztf l) (node:Int) :
  Qb (v,live,()) c l t node=some (ZzB node (ZgY b c live l t node)):=by
 obtain⟨r,r1,r2,R⟩:=Zs4 s i node;have n:=ZxC h live node (Zm b).length;rw[Ur]at n;have o:=ZsD h g m node
 let f:Int->NSt->NSt:=λy st=>match (Zm b)[y.toNat]? with
  |some x=>ZpI b c t x st
  |none=>st
 have j:∀y∈toL b live node,∃(k:Nat) (x:Zn),y=(k:Int)/\(Zm b)[k]?=some x/\∀st,f y st=ZpI b c t x st:=λy u=>by
  obtain⟨k,x,a,H⟩:=XZ.1 u;rw[Uw]at H;unfold toF at H;split at H
  ·split at H
   ·have E:=Ut.1 H
    refine ⟨k,x,E,a,λst=>?_⟩;show (match (Zm b)[y.toNat]? with
     |some x=>ZpI b c t x st
     | none=>st)=_
    rw[E,UG,a]
   ·cases H
  ·cases H
 have key:=ZoO h g q p (live:=live) (L:=toL b live node) (node:=node) (by unfold toL;omega) j (Zia l node);have d:XU (λ_ y st=>f y st) 0 (toL b live node) (Zia l node)=ZgY b c live l t node:=by
  unfold toL ZgY;rw[ZkI f];refine Zj0 _ _ _ λk x st a=>?_;rw[Uw];unfold toF;split
  ·split
   ·show (match (Zm b)[(k:Int).toNat]? with
     |some x=>ZpI b c t x st
     | none=>st)=_
    rw[UG,a]
   ·rfl
  ·rfl
 rw[d]at key;unfold Qb;rw[r1,Bq,o];cases e:r.2 with
 |true =>
  rw[Uc rfl];rw[r2 e]at key;exact key
 |false =>
  rw[Ue (by decide),Bq];rw[R e]at key;exact key
def cw (live:List Bool) (out:List Int) (v:Int) (k:Nat) (x:Zn):Nat:=if(live[k]?).getD false=true then(if Gf x=v then(if Gc x∈out then 0 else 1)else 0)else 0
def Zir (live:List Bool) (L:List Zn) (out:List Int) (v:Int):Nat:=XU (λk x s=>s+cw live out v k x) 0 L 0
def nxt (live:List Bool) (L:List Zn) (n:Nat) (out:List Int):Option Nat:=(List.range n).find? λv=>decide ((v:Int) ∉ out)&&decide (Zir live L out (v:Int)=0)
def ZrH (live:List Bool) (L:List Zn) (n:Nat):Nat->List Int->List Int×Bool
 |0,out=>(out,true)
 |m+1,out=>match nxt live L n out with
  |none=>([],false)
  |some v=>ZrH live L n m (out++[(v:Int)])
def ZlW (n:Nat) (p:Nat->Bool):List Bool:=(List.range n).map p
variable {p:Nat->Bool}
theorem Zfe {v:Nat} (h:v<n:=by omega):(ZlW n p)[v]?=some (p v):=by
 unfold ZlW;rw[UL,Kf h];rfl
theorem Zm8 (n:Nat) (p:Nat->Bool):(ZlW n p).length=n:=by unfold ZlW;simp
theorem ZtX {q:Nat->Bool} {b:Bool} (l:i<n) (d:q i=b) (f:∀j,j≠i->q j=p j):List.set (ZlW n p) i b=ZlW n q:=by
 apply UI;intro j;rw[UX];by_cases c:i=j
 ·subst c
  rw[Uc rfl,Uc (by rw[Zm8];exact l),Zfe l,d]
 ·rw[Ue c]
  by_cases h:j<n
  ·rw[Zfe h,Zfe h,f j (λe=>c e.symm)]
  ·rw[Uv (by rw[Zm8];omega),Uv (by rw[Zm8];omega)]
theorem Zpt (n:Nat):List.replicate n false=ZlW n λ_=>false:=by
 apply UI;intro j;by_cases b:j<n
 ·rw[Zfe b,Kc,Uc b]
 ·rw[Uv (by rw[UT];omega),Uv (by rw[Zm8];omega)]
structure Zvl (live:List Bool) (L:List Zn) (n:Nat):Prop where
 few:L.length<=6000
 ll:live.length=L.length
 n0:n<=1000
 bd:∀x∈L,(0<=Gc x/\Gc x<(n:Int))/\0<=Gf x/\Gf x<(n:Int)
variable {out:List Int}
theorem ZbR {v:Int} (l:L[k]?=some x):Zir live (L.take (k+1)) out v=Zir live (L.take k) out v+cw live out v k x:=by
 unfold Zir;rw[Zcq l]
theorem Zvc (h:Zvl live L n) {Q:(List Int×List Bool×Unit)⊕(List Int×Bool)}
  (H:Zt (λv=>Xt (n:Int) out (ZlW n λv=>decide ((v:Int)∈out)) (ZlW n λv=>decide (Zir live L out (v:Int)≠0)) v.1) ((0:Int),())=some (.inr Q)) :
  Zt (λv=>Jv (n:Int) L live out (ZlW n λv=>decide ((v:Int)∈out)) v.1 v.2.1) ((0:Int),List.replicate (Int.toNat (n:Int)) false,())=some Q:=by
 have g:=h.few;have e:=h.ll;refine YC L.length (λk v=>v=((k:Int),ZlW n (λv=>decide (Zir live (L.take k) out (v:Int)≠0)),())) _ ?_ ?_ ?_
 ·rw[UG,Zpt]
  rfl
 ·rintro k _ d rfl
  have l:L[k]?=some (L[k]'(by omega)):=Ua _;have f:live[k]?=some (live[k]'(by omega)):=Ua _;generalize L[k]'(by omega)=x at l;generalize live[k]'(by omega)=lv at f;obtain⟨⟨z,f1⟩,t,r⟩:=h.bd x (Ud l);have m:atI (ZlW n λv=>decide ((v:Int)∈out)) (Gc x)=some (decide (Gc x∈out)):=by
   refine Qt z ?_;rw[Zfe,show((Gc x).toNat:Int)=Gc x by omega]
  have o:∀p:Nat->Bool,atI (ZlW n p) (Gf x)=some (p (Gf x).toNat):=λp=>Qt t (Zfe);refine .inl ⟨(((k+1:Nat):Int),ZlW n (λv=>decide (Zir live (L.take (k+1)) out (v:Int)≠0)),()),?_,rfl⟩;simp only[Jv,show(k:Int)<(L.length:Int)from by omega,Uk,Zv,l,f,Bq,m,o,Xd (show k<=1048576 by omega)];have c:(∀v:Nat,cw live out (v:Int) k x=0)->ZlW n (λv=>decide (Zir live (L.take (k+1)) out (v:Int)≠0))=ZlW n (λv=>decide (Zir live (L.take k) out (v:Int)≠0)):=λT=>by
   unfold ZlW;refine KK λv _=>?_;rw[ZbR l,T,Kt]
  by_cases a:lv=true
  ·rw[Uc a]
   by_cases b:Gc x∈out
   ·rw[Uc (UJ b),c (λv=>by unfold cw;rw[f,UQ,Uc a,Uc b];split<;>rfl)]
   ·rw[Ue (by rw[Ul];exact b)]
    rw[ZtX (q:=λv=>decide (Zir live (L.take (k+1)) out (v:Int)≠0)) (by omega) ?_ ?_]
    ·rw[Ul,ZbR l]
     unfold cw;rw[f,UQ,Uc a,QP,Ue b];omega
    ·intro j i
     rw[ZbR l];unfold cw;rw[f,UQ,Uc a,QQ,Kt]
  ·rw[Ue a,c (λv=>by unfold cw;rw[f,UQ,Ue a])]
 ·rintro _ rfl
  show Jv (n:Int) L live out (ZlW n λv=>decide ((v:Int)∈out)) (L.length:Int) (ZlW n λv=>decide (Zir live (L.take L.length) out (v:Int)≠0))=_;unfold Jv;rw[Ue (Ui _),Ur];exact H
theorem Zxu (h:Zvl live L n) (o:out.length<=1000:=by omega) :
  Zt (λv=>Xt (n:Int) out (ZlW n λv=>decide ((v:Int)∈out)) (ZlW n λv=>decide (Zir live L out (v:Int)≠0)) v.1) ((0:Int),()) =
   some (.inr (match nxt live L n out with
    |none=>.inr ([],false)
    | some v=>.inl (out++[(v:Int)],ZlW n (λu=>decide ((u:Int)∈out++[(v:Int)])),()))):=by
 have X:=h.n0;have step:∀k:Nat,k<n->(decide ((k:Int) ∉ out)&&decide (Zir live L out (k:Int)=0))=false->Xt (n:Int) out (ZlW n λv=>decide ((v:Int)∈out)) (ZlW n λv=>decide (Zir live L out (v:Int)≠0)) (k:Int)=some (.inl (((k+1:Nat):Int),())):=λk H g=>by
  unfold Xt;rw[QP,Zv,Zfe H,Bq,Xd];by_cases q:(k:Int)∈out
  ·rw[Uc (UJ q)]
  ·rw[Ue (by rw[Ul];exact q),Zv,Zfe H,Bq]
   have c:Zir live L out (k:Int)≠0:=λz=>by
    rw[UJ q,UJ z]at g;exact Bool.noConfusion g
   rw[Uc (UJ c)]
 cases e:nxt live L n out with
 |none =>
  unfold nxt at e;rw[List.find?_range_eq_none]at e;refine YC n (λk v=>v=((k:Int),())) _ rfl ?_ ?_
  ·rintro k _ H rfl
   exact .inl ⟨_,step k H (by have:=e k H;rw[UO]at this;exact this),rfl⟩
  ·rintro _ rfl
   show Xt _ _ _ _ (n:Int)=_;unfold Xt;rw[Ue (Ui _),Uc rfl]
 |some v =>
  unfold nxt at e;rw[List.find?_range_eq_some]at e;obtain⟨g,a,w⟩:=e;have a:=Ky.1 a;rw[Up,Ul,Ul]at g;refine YC v (λk u=>u=((k:Int),())) _ rfl ?_ ?_
  ·rintro k _ H rfl
   exact .inl ⟨_,step k (by omega) (by have:=w k H;rw[UO]at this;exact this),rfl⟩
  ·rintro _ rfl
   show Xt _ _ _ _ (v:Int)=_;unfold Xt;rw[QP,Zv,Zfe a,Bq,Ue (by rw[Ul];exact g.1),Zv,Zfe a,Bq,Ue (by rw[Ul];exact λz=>z g.2),QQ,Zk (by simp only[Uf,Ug];omega),UG];rw[ZtX (q:=λu=>decide ((u:Int)∈out++[(v:Int)])) a (UJ (Uu.2 (.inr (Ut.2 rfl)))) (λj b=>by
    rw[Kx,Uu,Ut];constructor
    ·rintro(z|z)
     ·exact z
     ·omega
    ·exact .inl)]
theorem Zos {live:List Bool} {L:List Zn} {n:Nat} (h:Zvl live L n):∀(m:Nat) (out:List Int),out.length+m=n->
  Zt (λv=>Vp (n:Int) L live v.1 v.2.1) (out,ZlW n (λu=>decide ((u:Int)∈out)),())=some (ZrH live L n m out)
 |0,out,R=>by
  refine YF ?_;show Vp (n:Int) L live out _=_;unfold Vp;rw[QQ];rfl
 |m+1,out,R=>by
  have X:=h.n0;have c:=Zvc h (Zxu h (out:=out));have q:Vp (n:Int) L live out (ZlW n (λu=>decide ((u:Int)∈out)))=some (match nxt live L n out with
    |none=>.inr ([],false)
    | some v=>.inl (out++[(v:Int)],ZlW n (λu=>decide ((u:Int)∈out++[(v:Int)])),())):=by
   unfold Vp;rw[QP];exact c
  unfold ZrH;cases e:nxt live L n out with
  |none =>
   rw[e]at q;exact YF q
  |some v =>
   rw[e]at q;exact(YW q).trans (Zos h m (out++[(v:Int)]) (by rw[Uh];simp only[Uf,Ug];omega))
theorem ZqI (h:Zvl live L n):Zf4 (n:Int) L live=some (ZrH live L n n []):=by
 have X:=h.n0;unfold Zf4;rw[Ra,Ra,Ra,Ra,UG,Zpt];have:=Zos h n [] (by simp);simpa using this
def Zkj (n:Nat) (p:Nat->Int):List Int:=(List.range n).map p
variable {p:Nat->Int}
theorem Zfc {v:Nat} (h:v<n:=by omega):(Zkj n p)[v]?=some (p v):=by
 unfold Zkj;grind
theorem Zfd (n:Nat) (p:Nat->Int):(Zkj n p).length=n:=by unfold Zkj;simp
theorem Zqm {q:Nat->Int} {b:Int} (l:i<n) (d:q i=b) (f:∀j,j≠i->q j=p j):List.set (Zkj n p) i b=Zkj n q:=by
 apply UI;intro j;rw[UX];by_cases c:i=j
 ·subst c
  rw[Uc rfl,Uc (by rw[Zfd];exact l),Zfc l,d]
 ·rw[Ue c]
  by_cases h:j<n
  ·rw[Zfc h,Zfc h,f j (λe=>c e.symm)]
  ·rw[Uv (by rw[Zfd];omega),Uv (by rw[Zfd];omega)]
def ZoJ (live:List Bool) (node:Int) (k:Nat) (x:Zn):List Int:=if(live[k]?).getD false=true then(if Gc x=node then[(k:Int)]else[])else[]
def Zrk (b:Zc) (live:List Bool) (node:Int):List Int:=cat (ZoJ live node) 0 (Zm b)
theorem Zwp (live:List Bool) (node:Int) (k:Nat) (x:Zn):(ZoJ live node k x).length<=1:=by
 unfold ZoJ;grind
theorem Zrl (h:Xh b) (live:List Bool) (node:Int) (n:Nat):(cat (ZoJ live node) 0 ((Zm b).take n)).length<=6000:=by
 have d:=VJ (f:=ZoJ live node) (c:=1) (l:=(Zm b).take n) (m:=0) (λk x _=>Zwp live node k x);have H:=Y2 h;grind
theorem Zqb (h:Xh b) (a:VOk b v) (d:live.length=(Zm b).length) (node:Int):Zd4 (v,live,()) node=some (Zrk b live node):=by
 have G:=Y2 h;have e:ZG.links (ZM.view ((v,live,()):ZM))=Zm b:=a.links;have j:ZM.live ((v,live,()):ZM)=live:=rfl;unfold Zd4 XO;have:=Xx (l:=Zm b) (ρ:=List Int) (ZoJ live node) [] (step:=λu=>YA (v,live,()) (node,()) u.1 u.2.1) (good:=Zrk b live node)
  (λk x H c=>by
   have f:live[k]?=some (live[k]'(by omega)):=Ua _;have n:=Zrl h live node k;simp only[YA,e,j,show(k:Int)<((Zm b).length:Int)from by omega,Uk,Zv,H,f,Bq,Zd5,Uq,Xd (show k<=1048576 by omega)];unfold ZoJ at *;rw[f];simp only[UQ];by_cases Q:live[k]'(by omega)=true
   ·rw[Uc Q,Uc Q]
    by_cases q:Gc x=node
    ·rw[Uc (UJ q),Uc q,Zk (by grind)]
    grind
   grind)
  (by simp only[YA,e,Ui,Uj,Uq];rfl)
 rw[this];rfl
theorem ZuH (X:n<=1000):JW (Zkj n p) 0=some (match (List.range n).find? (λv=>decide (p v=0)) with
  |none=>-1
  | some v=>(v:Int)):=by
 unfold JW;cases e:(List.range n).find? (λv=>decide (p v=0))with
 |none =>
  rw[List.find?_range_eq_none]at e;refine YC n (λk v=>v=((k:Int),())) _ rfl ?_ ?_
  ·rintro k _ H rfl
   have T:=e k H;rw[UO,Kr]at T;simp only[XP,Zfd,show(k:Int)<(n:Int)from by omega,Uk,Zv,Zfc H,Bq,Xd (show k<=1048576 by omega)];grind
  ·rintro _ rfl
   simp only[XP,Zfd,Ui,Uj]
 |some v =>
  rw[List.find?_range_eq_some]at e;obtain⟨g,a,w⟩:=e;have a:=Ky.1 a;rw[Ul]at g;refine YC v (λk u=>u=((k:Int),())) _ rfl ?_ ?_
  ·rintro k _ H rfl
   have T:=w k H;rw[UO,Kr]at T;simp only[XP,Zfd,show(k:Int)<(n:Int)from by omega,Uk,Zv,Zfc (show k<n by omega),Bq,Xd (show k<=1048576 by omega)];grind
  ·rintro _ rfl
   simp only[XP,Zfd,show(v:Int)<(n:Int)from by omega,Uk,Zv,Zfc a,Bq];rw[Uc g.symm]
def Zth (live:List Bool) (k:Nat) (x:Zn):List Int:=if(live[k]?).getD false=true then[(k:Int)]else[]
theorem Zti (live:List Bool) (k:Nat) (x:Zn):(Zth live k x).length<=1:=by
 unfold Zth;split<;>simp
theorem ZpW (h:Xh b) (a:VOk b v) (q:live.length=(Zm b).length):YZ (v,live,()) ()=some (cat (Zth live) 0 (Zm b)):=by
 have G:=Y2 h;have e:ZG.links (ZM.view ((v,live,()):ZM))=Zm b:=a.links;have j:ZM.live ((v,live,()):ZM)=live:=rfl;unfold YZ;exact Xx (l:=Zm b) (ρ:=List Int) (Zth live) [] (step:=λu=>Yx (v,live,()) u.1 u.2.1) (good:=cat (Zth live) 0 (Zm b))
  (λk x d g=>by
   have H:live[k]?=some (live[k]'(by omega)):=Ua _;have n:=VJ (f:=Zth live) (c:=1) (l:=(Zm b).take k) (m:=0) (λk x _=>Zti live k x);rw[Uo]at n;simp only[Yx,e,j,show(k:Int)<((Zm b).length:Int)from by omega,Uk,Zv,d,H,Bq,Zdn,Uq,Xd (show k<=1048576 by omega)];unfold Zth at *;rw[H];simp only[UQ];by_cases Q:live[k]'(by omega)=true
   ·rw[Uc Q,Uc Q,Zk (by grind)]
   grind)
  (by simp only[Yx,e,Ui,Uj,Uq])
def Zvn (L:List Zn) (c:Int) (y:Int) (l:List Int):List Int:=match L[y.toNat]? with
 |some x=>List.set l (Gf x).toNat ((l[(Gf x).toNat]?).getD 0+c)
 |none=>l
theorem Zqf {c:Int} (h:L[k]?=some x) (l:List Int):Zvn L c (k:Int) l=List.set l (Gf x).toNat ((l[(Gf x).toNat]?).getD 0+c):=by
 unfold Zvn;grind
theorem Zpg {live:List Bool} {L:List Zn} {n:Nat} (h:Zvl live L n):∀k,k<=L.length->XU (λk x l=>XU (λ_ y l=>Zvn L 1 y l) 0 (Zth live k x) l) 0 (L.take k) (List.replicate n 0)=Zkj n λv=>(Zir live (L.take k) [] (v:Int):Int)
 |0,_=>by
  rw[Ki];apply UI;intro j;by_cases b:j<n
  ·rw[Zfc b]
   simp only[XU];rw[Kc,Uc b];rfl
  ·rw[Uv (by simp only[XU];grind),Uv (by rw[Zfd];omega)]
 |k+1,a=>by
  have m:=h.ll;have H:L[k]?=some (L[k]'(by omega)):=Ua _;have f:live[k]?=some (live[k]'(by omega)):=Ua _;generalize L[k]'(by omega)=x at H;generalize live[k]'(by omega)=lv at f;obtain⟨_,t,Q⟩:=h.bd x (Ud H);rw[Zcq H,Zpg h k (by omega)];unfold Zth;rw[f,UQ];by_cases q:lv=true
  ·rw[Uc q]
   show Zvn L 1 (k:Int) _=_;rw[Zqf H,Zfc,UQ];refine Zqm (by omega) ?_ (λj b=>?_)
   ·rw[ZbR H]
    unfold cw;grind
   ·rw[ZbR H]
    unfold cw;grind
  ·rw[Ue q]
   show Zkj n _=Zkj n _;unfold Zkj;refine KK λv _=>?_;rw[ZbR H];unfold cw;grind
theorem ZuA (h:Xh b) (w:VOk b v) (j:Zvl live (Zm b) n) {R:List Int×Bool}
  (D:Zt (λu=>YS (v,live,()) (Zkj n λu=>(Zir live (Zm b) [] (u:Int):Int)) u.1 u.2.1 u.2.2.1) (([]:List Int),(0:Int),Zkj n (λu=>(Zir live (Zm b) [] (u:Int):Int)),())=some (.inr R)) :
  Zt (λu=>Qn (v,live,()) (cat (Zth live) 0 (Zm b)) u.1 u.2.1) ((0:Int),List.replicate n (0:Int),())=some R:=by
 have G:=j.few;have q:ZG.links (ZM.view ((v,live,()):ZM))=Zm b:=w.links;have C:=VJ (f:=Zth live) (c:=1) (l:=Zm b) (m:=0) (λk x _=>Zti live k x);refine Zbl (l:=cat (Zth live) 0 (Zm b)) (by unfold Len;omega) (λs i=>(i,s,())) (f:=λ_ y s=>Zvn (Zm b) 1 y s) (s0:=List.replicate n (0:Int)) (λk s=>s.length=n/\∀z∈s,0<=z/\z<=(k:Int)) ⟨UT,λz T=>by grind⟩ (λm y s g p _=>?_) (λs p e=>?_)
 ·obtain⟨t,A⟩:=p
  have F:=(Ub.1 g).1;obtain⟨k,x,d,a⟩:=XZ.1 (Ud g);rw[Uw]at a;have r:y=(k:Int):=by
   unfold Zth at a;grind
  subst r;obtain⟨_,B,Q⟩:=j.bd x (Ud d);have T:s[(Gf x).toNat]?=some (s[(Gf x).toNat]'(by omega)):=Ua _;have o:=A _ (Ud T);generalize s[(Gf x).toNat]'(by omega)=z at T o;have E:Zvn (Zm b) 1 (k:Int) s=List.set s (Gf x).toNat (z+1):=by rw[Zqf d,T];rfl
  refine⟨?_,?_⟩
  ·show Qn (v,live,()) _ (m:Int) s=_
   unfold Qn;rw[QP,Zv,g,Bq,q,Zv,d,Bq,Qt B T,Bq,QR (n:=z+1),E]
  grind
 ·rw[ZkI (λy s=>Zvn (Zm b) 1 y s)]at e
  have H:=Zpg j (Zm b).length (UE _);rw[Ur]at H;rw[H]at e;subst e;show Qn (v,live,()) _ ((cat (Zth live) 0 (Zm b)).length:Int) _=_;unfold Qn;grind
def dw (live:List Bool) (w v:Int) (k:Nat) (x:Zn):Nat:=if(live[k]?).getD false=true then(if Gf x=v then(if Gc x=w then 1 else 0)else 0)else 0
def Zz0 (live:List Bool) (L:List Zn) (w v:Int):Nat:=XU (λk x s=>s+dw live w v k x) 0 L 0
variable {w:Int}
theorem Zku {v:Int} (l:L[k]?=some x):Zz0 live (L.take (k+1)) w v=Zz0 live (L.take k) w v+dw live w v k x:=by
 unfold Zz0;rw[Zcq l]
theorem Zyc (live:List Bool) (c:w ∉ out) (v:Int) (k:Nat) (x:Zn):cw live out v k x=cw live (out++[w]) v k x+dw live w v k x:=by
 unfold cw dw;grind
theorem Zle (live:List Bool) (L:List Zn) {out:List Int} {w:Int} (c:w ∉ out) (v:Int):∀k,k<=L.length->Zir live (L.take k) out v=Zir live (L.take k) (out++[w]) v+Zz0 live (L.take k) w v
 |0,_=>rfl
 |k+1,H=>by
  have l:L[k]?=some (L[k]'(by omega)):=Ua _;rw[ZbR l,ZbR l,Zku l,Zle live L c v k (by omega),Zyc live c v k];omega
theorem Zz3 (live:List Bool) (L:List Zn) (out:List Int) (v:Int):∀(m k:Nat) (x:Zn),m<=L.length->k<m->L[k]?=some x->cw live out v k x<=Zir live (L.take m) out v
 |0,k,x,_,H,_=>by omega
 |m+1,k,x,R,H,l=>by
  have i:L[m]?=some (L[m]'(by omega)):=Ua _;rw[ZbR i];by_cases e:k=m
  ·grind
  ·have:=Zz3 live L out v m k x (by omega) (by omega) l
   omega
noncomputable def opn (live:List Bool) (L:List Zn) (out:List Int) (u:Nat):Int:=if(u:Int)∈out then -1 else(Zir live L out (u:Int):Int)
def Clo (live:List Bool) (L:List Zn) (out:List Int):Prop:=∀u∈out,Zir live L out u=0
theorem Ztt {live:List Bool} {L:List Zn} {n:Nat} (h:Zvl live L n) {out:List Int} {w:Nat} (b:w<n) (X:(w:Int) ∉ out) (d:Zir live L out (w:Int)=0) (a:Clo live L out):∀k,k<=L.length->
  XU (λk x l=>XU (λ_ y l=>Zvn L (-1) y l) 0 (ZoJ live (w:Int) k x) l) 0 (L.take k) (List.set (Zkj n (opn live L out)) w (-1))=Zkj n λu=>if(u:Int)∈out++[(w:Int)]then -1 else(Zir live L out (u:Int):Int)-(Zz0 live (L.take k) (w:Int) (u:Int):Int)
 |0,_=>by
  rw[Ki];simp only[XU];refine Zqm b ?_ (λj m=>?_)
  ·grind
  ·unfold opn
   by_cases q:(j:Int)∈out
   ·grind
   ·rw[Ue q,Ue (λz=>by
     grind)]
    show _-((0:Nat):Int)=_;omega
 |k+1,r=>by
  have p:=h.ll;have H:L[k]?=some (L[k]'(by omega)):=Ua _;have f:live[k]?=some (live[k]'(by omega)):=Ua _;generalize L[k]'(by omega)=x at H;generalize live[k]'(by omega)=lv at f;obtain⟨_,t,s⟩:=h.bd x (Ud H);rw[Zcq H,Ztt h b X d a k (by omega)];have e:=Zz3 live L out (Gf x) L.length k x (UE _) (by omega) H;rw[Ur]at e;have c:(∀u:Int,dw live (w:Int) u k x=0)->Zkj n (λu=>if(u:Int)∈out++[(w:Int)]then -1 else(Zir live L out (u:Int):Int)-(Zz0 live (L.take k) (w:Int) (u:Int):Int))=Zkj n λu=>if(u:Int)∈out++[(w:Int)]then -1 else(Zir live L out (u:Int):Int)-(Zz0 live (L.take (k+1)) (w:Int) (u:Int):Int):=λT=>by
   unfold Zkj;refine KK λu _=>?_;rw[Zku H,T,Kt]
  unfold ZoJ;rw[f,UQ];by_cases q:lv=true
  ·rw[Uc q]
   by_cases Q:Gc x=(w:Int)
   ·rw[Uc Q]
    have g:cw live out (Gf x) k x=1:=by
     unfold cw;grind
    have o:Gf x ∉ out++[(w:Int)]:=λz=>by
     rcases Uu.1 z with z|z
     ·have:=a _ z;omega
     grind
    show Zvn L (-1) (k:Int) _=_;rw[Zqf H,Zfc,UQ,show((Gf x).toNat:Int)=Gf x by omega,Ue o];refine Zqm (by omega) ?_ (λj m=>?_)
    ·rw[show((Gf x).toNat:Int)=Gf x by omega,Ue o,Zku H]
     unfold dw;grind
    ·have i:dw live (w:Int) (j:Int) k x=0:=by
      unfold dw;grind
     rw[Zku H,i,Kt]
   ·rw[Ue Q]
    exact c λu=>by unfold dw;grind
  ·rw[Ue q]
   exact c λu=>by unfold dw;grind
theorem ZvQ (live:List Bool) (L:List Zn) (out:List Int) (v:Int):∀k,k<=L.length->Zir live (L.take k) out v<=k
 |0,_=>UE _
 |k+1,H=>by
  have l:L[k]?=some (L[k]'(by omega)):=Ua _;rw[ZbR l];have:=ZvQ live L out v k (by omega);have d:cw live out v k (L[k]'(by omega))<=1:=by
   unfold cw;split
   ·split
    ·split<;>omega
    ·omega
   ·omega
  omega
theorem ZCl (h:Zvl live L n) (out:List Int) (u:Nat):-1<=opn live L out u/\opn live L out u<=6000:=by
 have d:=ZvQ live L out (u:Int) L.length (UE _);have f:=h.few;rw[Ur]at d;unfold opn;split<;>omega
theorem Zx8 (X:w ∉ out) (c:Zir live L out w=0) (h:Clo live L out):Clo live L (out++[w]):=by
 intro u a;have s:=Zle live L X u L.length (UE _);rw[Ur]at s;rcases Uu.1 a with q|q
 ·have:=h u q
  omega
 ·rw[Ut.1 q]at s ⊢
  omega
theorem Zwq {y:Int} (i:y∈Zrk b live w):∃(k:Nat) (x:Zn),y=(k:Int)/\(Zm b)[k]?=some x/\Gc x=w:=by
 obtain⟨k,x,l,H⟩:=XZ.1 i;rw[Uw]at H;unfold ZoJ at H;split at H
 ·split at H
  ·rename_i q
   exact⟨k,x,Ut.1 H,l,q⟩
  ·cases H
 ·cases H
theorem Zyg (h:Xh b) (D:VOk b v) (j:Zvl live (Zm b) n) {w:Nat} (F:w<n) (X:(w:Int) ∉ out) (B:Zir live (Zm b) out (w:Int)=0) (L:Clo live (Zm b) out) (i:Int) :
  Zt (λu=>Qm (v,live,()) out i (w:Int) (Zrk b live (w:Int)) u.1 u.2.1) ((0:Int),List.set (Zkj n (opn live (Zm b) out)) w (-1:Int),()) =
   some (.inl (out++[(w:Int)],Wq (i+1),Zkj n (opn live (Zm b) (out++[(w:Int)])),())):=by
 have I:=j.few;have t:ZG.links (ZM.view ((v,live,()):ZM))=Zm b:=D.links;have r:(Zrk b live (w:Int)).length<=6000:=by
  have:=Zrl h live (w:Int) (Zm b).length;rw[Ur]at this;exact this
 refine Zbl (l:=Zrk b live (w:Int)) (by unfold Len;omega) (λs i=>(i,s,())) (f:=λ_ y s=>Zvn (Zm b) (-1) y s) (s0:=List.set (Zkj n (opn live (Zm b) out)) w (-1:Int)) (λk s=>s.length=n/\∀z∈s,-1-(k:Int)<=z/\z<=6000) ⟨by rw[UZ,Zfd],λz T=>?_⟩ (λm y s a d _=>?_) (λs d e=>?_)
 ·rcases Ke T with q|q
  ·unfold Zkj at q
   obtain⟨u,_,rfl⟩:=KQ.1 q;have:=ZCl j out u;omega
  ·omega
 ·obtain⟨g,A⟩:=d
  have R:=(Ub.1 a).1;obtain⟨k,x,rfl,H,_⟩:=Zwq (Ud a);obtain⟨_,G,Q⟩:=j.bd x (Ud H);have T:s[(Gf x).toNat]?=some (s[(Gf x).toNat]'(by omega)):=Ua _;have o:=A _ (Ud T);generalize s[(Gf x).toNat]'(by omega)=z at T o;have E:Zvn (Zm b) (-1) (k:Int) s=List.set s (Gf x).toNat (z-1):=by rw[Zqf H,T];rfl
  refine⟨?_,?_⟩
  ·show Qm (v,live,()) out i (w:Int) _ (m:Int) s=_
   unfold Qm;rw[QP,Zv,a,Bq,t,Zv,H,Bq,Qt G T,Bq,QR (n:=z-1),E]
  ·rw[E]
   refine⟨by rw[UZ];exact g,λZ c=>?_⟩;rcases Ke c with q|q
   ·have:=A Z q;omega
   ·omega
 ·have p:=Ztt j F X B L (Zm b).length (UE _)
  unfold Zrk at e;rw[ZkI (λy s=>Zvn (Zm b) (-1) y s)]at e;rw[Ur]at p;rw[p]at e;subst e;show Qm (v,live,()) out i (w:Int) _ ((Zrk b live (w:Int)).length:Int) _=_;unfold Qm;rw[Ue (Ui _)];congr 6;unfold Zkj;refine KK λu _=>?_;have C:=Zle live (Zm b) X (u:Int) (Zm b).length (UE _);rw[Ur]at C;unfold opn;split
  ·rfl
  ·omega
theorem ZCj (live:List Bool) (L:List Zn) (n:Nat) (out:List Int):(List.range n).find? (λv=>decide (opn live L out v=0))=nxt live L n out:=by
 unfold nxt;congr 1;funext v;unfold opn;by_cases q:(v:Int)∈out
 ·rw[Uc q,decide_eq_false (by omega),decide_eq_false (λz=>z q),Bool.false_and]
 ·rw[Ue q,UJ q,KE,Kx]
  omega
theorem ZnO {b:Zc} (h:Xh b) {v:ZG} (a:VOk b v) {live:List Bool} {n:Nat} (j:Zvl live (Zm b) n) {l0:List Int} (k:l0.length=n):∀(m:Nat) (out:List Int),out.length+m=n->Clo live (Zm b) out->
  Zt (λu=>YS (v,live,()) l0 u.1 u.2.1 u.2.2.1) (out,(out.length:Int),Zkj n (opn live (Zm b) out),())=some (.inr (ZrH live (Zm b) n m out))
 |0,out,R,L=>by
  refine YF ?_;show YS (v,live,()) l0 out (out.length:Int) _=_;unfold YS;rw[QQ];rfl
 |m+1,out,R,L=>by
  have X:=j.n0;have l:=ZuH (p:=opn live (Zm b) out) j.n0;rw[ZCj]at l;unfold ZrH;cases e:nxt live (Zm b) n out with
  |none =>
   rw[e]at l;refine YF ?_;show YS (v,live,()) l0 out (out.length:Int) _=_;unfold YS;rw[QP,l];rfl
  |some w =>
   rw[e]at l;have E:=e;unfold nxt at E;rw[List.find?_range_eq_some]at E;obtain⟨g,c,_⟩:=E;have c:=Ky.1 c;rw[Up,Ul,Ul]at g;have H:YS (v,live,()) l0 out (out.length:Int) (Zkj n (opn live (Zm b) out))=some (.inl (out++[(w:Int)],((out++[(w:Int)]).length:Int),Zkj n (opn live (Zm b) (out++[(w:Int)])),())):=by
    unfold YS;rw[QP,l,Bq];show(if(w:Int)<0 then _ else _)=_;rw[QQ,Zv,Zfc c,Bq,Zk (by simp only[Uf,Ug];omega),Zqb h a j.ll,Bq,UG,Zyg h a j c g.1 g.2 L,Xd];rw[Uh];rfl
   exact(YW H).trans (ZnO h a j k m (out++[(w:Int)]) (by rw[Uh];simp only[Uf,Ug];omega) (Zx8 g.1 g.2 L))
theorem Zqe (h:Xh b) (a:VOk b v) (j:Zvl live (Zm b) n) (X:YP v=some (n:Int)):Q8 (v,live,())=some (ZrH live (Zm b) n n []):=by
 have d:=j.n0;unfold Q8;show(YP v).bind _=_;rw[X,Bq,Ra,Ra,Ra,Ra,ZpW h a j.ll,Bq,UG];refine ZuA h a j ?_;have:=ZnO h a j (l0:=Zkj n λu=>(Zir live (Zm b) [] (u:Int):Int)) (Zfd _ _) n [] (by simp) (λu H=>by cases H);have e:Zkj n (opn live (Zm b) [])=Zkj n λu=>(Zir live (Zm b) [] (u:Int):Int):=by
  unfold Zkj;refine KK λu _=>?_;unfold opn;rw[Ue (by simp)]
 rw[e]at this;exact this
abbrev QU (b:Zc):Nat:=2*(ZB (K3 b)).length
abbrev XG (b:Zc) (r:List Int):List Bool:=ZaB (Zm b).length r
def ZaC (b:Zc) (r:List Int):List Int×Bool:=ZrH (XG b r) (Zm b) (QU b) (QU b) []
theorem nN (b:Zc):QU b=2*(ZB (K3 b)).length:=rfl
theorem ZfZ (h:Xh b):QU b<=156:=by
 have:=YT h.ok.1.few;have:=nN b;omega
theorem ZGn (h:Xh b) (r:List Int):Zvl (XG b r) (Zm b) (QU b) where
 few:=Y2 h
 ll:=Qo _ _
 n0:=by have:=ZfZ h;omega
 bd:=λx l=>by
  have:=ZfT h l;have:=nN b;omega
theorem Zqs (h:Xh b) (a:VOk b v):YP v=some (QU b:Int):=by
 have:=ZfZ h;have e:=nN b;unfold YP;rw[show Yt (ZG.ZB v)=some ((ZG.ZB v).length:Int)from rfl,Bq,a.ZB,QR];congr 1
variable {r:List Int}
theorem ZnT (h:Xh b) (a:VOk b v) (H:r.length<=1048576):JQ v r=some (tr (Zmz ((Zm b).length:Int) r)):=by
 have s:=Y2 h;unfold JQ;rw[show Zb1 (ZG.links v)=some ((ZG.links v).length:Int)from rfl,Bq,a.links,QR];exact ZsG r _ H
theorem Zpq (h:Xh b) (H:r.length<=1048576):Zfw b r=some (sel (Zmz ((Zm b).length:Int) r) 0 2):=by
 have s:=Y2 h;unfold Zfw;rw[Zeh b h.sm,Bq,Uc (ZR h.ok),Zdh h,Bq,Zme r _ H,Bq];by_cases q:Zmz ((Zm b).length:Int) r
 ·rw[Uc (ZR q),Xr q]
 ·rw[Ue (λz=>q ((Xf _).1 z)),Y7 q]
theorem ZiM (h:Xh b):V8 b=some (QU b:Int):=by
 rw[Zm0 h.ok.1.few];congr 1
theorem ZBw (h:Xh b) (H:r.length<=1048576) (a:Zmz ((Zm b).length:Int) r):JY b r=some (if(ZaC b r).2=true then((ZaC b r).1,0)else([],7)):=by
 have s:=Y2 h;unfold JY;rw[Zpq h H,Bq,Xr a,Uc rfl,Zdh h,Bq,ZiM h,Bq,Zgu _ _ s H,Bq,ZqI (ZGn h r),Bq];show(if(ZaC b r).2=true then _ else _)=_;split<;>rfl
theorem Znb (h:Xh b) (a:VOk b v) (r:List Int):Q8 (v,XG b r,())=some (ZaC b r) :=
 Zqe h a (ZGn h r) (Zqs h a)
theorem ZlL (h:Xh b) (a:VOk b v) (H:r.length<=1048576) (c:Zmz ((Zm b).length:Int) r):Vn v r=some (v,XG b r,()):=by
 have s:=Y2 h;have:=ZuG v r (by rw[a.links];exact s) (by rw[a.links];exact c.1) H;rw[a.links]at this;exact this
theorem Zxw {n:Int} {l:List Zj} (h:ZeM l (Zc7 n l)) {i:Nat} {x:Zj} (a:l[i]?=some x):∀(m:Nat) (y:Zj),l[i+m+1]?=some y->K7 x<K7 y
 |0,y,H=>(h (i+1) y H).2.1 x (by omega) a
 |m+1,y,H=>by
  have q:=(Ub.1 H).1;have T:l[i+m+1]?=some (l[i+m+1]'(by omega)):=Ua _;have d:=Zxw h a m _ T;have f:=(h (i+m+1+1) y H).2.1 _ (by omega) T;omega
theorem ZCk {n:Int} (h:ZeM l (Zc7 n l)):Ztf l:=by
 intro i j x y H a e;rcases Nat.lt_trichotomy i j with q|q|q
 ·have:=Zxw h H (j-i-1) y (by rw[show i+(j-i-1)+1=j by omega];exact a)
  omega
 ·exact q
 ·have:=Zxw h a (i-j-1) x (by rw[show j+(i-j-1)+1=i by omega];exact H)
  omega
structure Znh (b:Zc) (c:ZA) (br:List Int) (l:List Zj):Prop where
 blk:Xh b
 cor:Vd c
 ris:Zmz ((Zm b).length:Int) br
 src:ZeM l (Zc7 (2*((ZB (K3 b)).length:Int)) l)
 ord:(ZaC b br).2=true
structure Pre (b:Zc) (c:ZA) (br:List Int) (l:List Zj):Prop where
 blk:Xh b
 cor:Vd c
 ris:Zmz ((Zm b).length:Int) br
 src:ZeM l (Zc7 (2*((ZB (K3 b)).length:Int)) l)
theorem Znh.pre (h:Znh b c r l):Pre b c r l:=⟨h.blk,h.cor,h.ris,h.src⟩
def eqS (a b:Zz):Bool:=decide (K8 a=K8 b)&&decide (Ga a=Ga b)
def Zkk (t:Zr) (k:Nat) (r:Bool×Zj):Zr:=(List.set (Gd t) k r.1,List.set (GL t) k (GR r.2),List.set (GF t) k (GZ r.2),())
theorem Zs8 (r:Zji n t) (H:k<n):∃x a s,atI (Gd t) (k:Int)=some x/\atI (GL t) (k:Int)=some a/\atI (GF t) (k:Int)=some s:=by
 have d:=r.lr;have f:=r.la;have g:=r.ls;exact⟨_,_,_,by rw[Zv];exact Ua (by omega),by rw[Zv];exact Ua (by omega),by rw[Zv];exact Ua (by omega)⟩
def Fed (b:Zc) (live:List Bool) (c:List Bool) (node:Int) (m:Nat):Prop:=∃(k:Nat) (x:Zn),k<m/\(Zm b)[k]?=some x/\live[k]?=some true/\Gf x=node/\atI c (Gc x)=some true
noncomputable def due (b:Zc) (live:List Bool) (d:List Int) (c:List Bool) (node:Int):Bool:=tr (node∈d\/Fed b live c node (Zm b).length)
theorem ZlJ {α σ:Type} {f:Nat->α->σ->σ} {I:σ->Prop}:∀(l:List α) (m:Nat) (s:σ),I s->(∀k x s,l[k]?=some x->I s->I (f (m+k) x s))->I (XU f m l s)
 |[],_,_,h,_=>h
 |x::l,m,s,h,a=>by
  simp only[XU];have H:=a 0 x s rfl h;rw[Kt]at H;refine ZlJ l (m+1) _ H λk y s i q=>?_;rw[show m+1+k=m+(k+1) by omega];exact a (k+1) y s (by rw[U3];exact i) q
def StB (st:NSt):Prop:=∀q,st=some q->ZxV q.2
theorem ZzD:ZxV ZbM:=by
 refine⟨⟨?_,?_⟩,?_,?_⟩<;>decide
variable {s:Zz}
theorem ZAO (h:ZcT s):ZxV s:=by
 obtain⟨z,Z,a⟩:=h;exact⟨⟨by omega,by omega⟩,by omega,by omega⟩
theorem Zy1 {a:Zz} (n:ZxV a) (q:ZxV s):ZxV (hul a s):=by
 obtain⟨⟨A,b⟩,j,k⟩:=n;obtain⟨⟨N,P⟩,Q,T⟩:=q;unfold hul;refine⟨⟨?_,?_⟩,?_,?_⟩
 ·show -1000000<=Min.min _ _;omega
 ·show Min.min _ _<=1000000;omega
 ·show -1000000<=Max.max _ _;omega
 ·show Max.max _ _<=1000000;omega
variable {st:NSt}
theorem Zzf (h:Xh b) (j:VOk b v) (g:Vd c) (i:Zji (QU b) t) (l:(Zm b)[k]?=some x) (e:StB st):StB (ZpI b c t x st):=by
 obtain⟨r,a,s,F,n,J,A⟩:=Zsz h i (Ud l);obtain⟨d,o,e1,f,_,_,o1,O⟩:=spans_eq h j g l A.1 A.2;have hsp:spn b c x s=(d,o):=by unfold spn;rw[f];rfl
 have u:ZpI b c t x st=if r=true then ZwE st (Zqw a d) o else st:=by
  unfold ZpI;rw[F,n,J];simp only[UQ,hsp]
 rw[u];split
 ·intro q H
  cases st with
  |none =>
   injection H with H
   rw[<-H];exact⟨o1,O⟩
  |some p =>
   injection H with H
   rw[<-H];exact Zy1 (e p rfl) ⟨o1,O⟩
 ·exact e
theorem ZuU (H:Znh b c r l) (f:VOk b v) (e:Zji (QU b) t) (live:List Bool) (node:Int):StB (ZgY b c live l t node):=by
 unfold ZgY;refine ZlJ _ _ _ ?_ (λk x st d h=>?_)
 ·unfold Zia
  refine ZlJ _ _ _ (λq a=>by cases a) (λk x st d h=>?_);show StB (if K7 x=node then _ else st);split
  ·intro q a
   injection a with a
   rw[<-a];exact ZAO (H.src k x d).2.2.2
  ·exact h
 ·show StB (if(live[0+k]?).getD false=true then _ else st)
  split
  ·split
   ·exact Zzf H.blk f H.cor e d h
   ·exact h
  ·exact h
variable {r:Bool×Zj}
theorem Zw8 (h:Zji n t) (k:Nat) (F:ZxV (GZ r.2)):Zji n (Zkk t k r):=by
 refine⟨?_,?_,?_,λs H=>?_⟩
 ·show(List.set (Gd t) k r.1).length=n
  rw[UZ];exact h.lr
 ·show(List.set (GL t) k (GR r.2)).length=n
  rw[UZ];exact h.la
 ·show(List.set (GF t) k (GZ r.2)).length=n
  rw[UZ];exact h.ls
 ·rcases Ke (show s∈List.set (GF t) k (GZ r.2)from H)with q|q
  ·exact h.sl s q
  ·rw[q];exact F
theorem ZyX (h:StB st) (node:Int):ZxV (GZ (ZzB node st).2):=by
 cases st with
 |none=>exact ZzD
 |some q=>exact h q rfl
theorem ZzA {v:Nat} (h:nxt live L n out=some v):v<n/\(v:Int) ∉ out/\Zir live L out (v:Int)=0:=by
 unfold nxt at h;rw[List.find?_range_eq_some]at h;obtain⟨g,a,_⟩:=h;rw[Up,Ul,Ul]at g;exact⟨Ky.1 a,g⟩
theorem ZwX (live:List Bool) (L:List Zn) (n:Nat):∀(m:Nat) (out:List Int),(∀u∈out,0<=u/\u<(n:Int))->(ZrH live L n m out).1.length<=out.length+m/\∀u∈(ZrH live L n m out).1,0<=u/\u<(n:Int)
 |0,out,h=>⟨by show out.length<=_;omega,h⟩
 |m+1,out,h=>by
  unfold ZrH;cases e:nxt live L n out with
  |none=>exact⟨by simp,λu a=>by cases a⟩
  |some v =>
   have H:=(ZzA e).1;obtain ⟨d,f⟩:=ZwX live L n m (out++[(v:Int)]) (λu a=>by
    rcases Uu.1 a with q|q
    ·exact h u q
    ·rw[Ut.1 q];omega)
   refine⟨?_,f⟩;rw[Uh]at d;simp only[Uf,Ug]at d;show(ZrH live L n m (out++[(v:Int)])).1.length<=_;omega
theorem Zt9 (b:Zc) (r:List Int):(ZaC b r).1.length<=QU b/\∀u∈(ZaC b r).1,0<=u/\u<(QU b:Int):=by
 have:=ZwX (XG b r) (Zm b) (QU b) (QU b) [] (λu a=>by cases a);rw[Ug,Uw]at this;exact this
noncomputable def newV (b:Zc) (c:ZA) (live:List Bool) (l:List Zj) (t:Zr) (node:Int):Bool×Zj:=ZzB node (ZgY b c live l t node)
noncomputable def ZxW (r:Bool×Zj):Bool:=r.1&&!tr (ZaH (GR r.2))
def noT:Zr:=([],[],[],())
theorem ZkU:∀(A B:List Int),A.Nodup->(∀x∈A,x∈B)->A.length<=B.length
 |[],_,_,_=>UM _
 |a::A,B,h,q=>by
  obtain ⟨s,t,rfl⟩:=List.append_of_mem (q a UK);have d:=KU.1 h;have:=ZkU A (s++t) d.2 (λx l=>by
   grind)
  grind
def ZjH (n:Nat):List Int:=(List.range n).map λ(k:Nat)=>(k:Int)
theorem Zhw {x:Int}:x∈ZjH n<->0<=x/\x<(n:Int):=by
 unfold ZjH;simp only[KQ,Ky];constructor
 ·grind
 ·rintro⟨k,d⟩;exact⟨x.toNat,by omega,by omega⟩
theorem Zl2 (n:Nat):(ZjH n).length=n:=by unfold ZjH;simp
variable {u:Int}
theorem ZwQ {A:List Int} (h:A.Nodup) (H:A.length=n) (c:∀x∈A,0<=x/\x<(n:Int)) (k:0<=u) (d:u<(n:Int)):u∈A:=by
 refine Uz λq=>?_;have:=ZkU (u::A) (ZjH n) (KU.2 ⟨q,h⟩) (λx l=>by
  rcases Us.1 l with rfl|l
  ·exact Zhw.2 ⟨k,d⟩
  ·exact Zhw.2 (c x l))
 rw[Zl2]at this;grind
def Rdy (live:List Bool) (L:List Zn) (out:List Int) (v:Int):Prop:=∀(k:Nat) (x:Zn),L[k]?=some x->(live[k]?).getD false=true->Gf x=v->Gc x∈out
variable {v:Int}
theorem ZCm (h:Zir live L out v=0):Rdy live L out v:=by
 intro k x l q r;have H:=(Ub.1 l).1;have:=Zz3 live L out v L.length k x (UE _) H l;rw[Ur,h]at this;unfold cw at this;grind
theorem Rdy.mono {o:List Int} (h:Rdy live L out v) (s:∀x∈out,x∈o):Rdy live L o v:=λk x l q r=>s _ (h k x l q r)
def Zmy (live:List Bool) (L:List Zn):List Int->List Int->Prop
 |_,[]=>True
 |out,v::r=>(0<=v/\v ∉ out/\Rdy live L out v)/\Zmy live L (out++[v]) r
theorem Zua {live:List Bool} {L:List Zn} {n:Nat}:∀(m:Nat) (out:List Int),(ZrH live L n m out).2=true->∃r,(ZrH live L n m out).1=out++r/\r.length=m/\Zmy live L out r
 |0,out,_=>⟨[],by rw[Um];rfl,rfl,trivial⟩
 |m+1,out,h=>by
  unfold ZrH at h ⊢;cases e:nxt live L n out with
  |none=>rw[e]at h;cases h
  |some v =>
   rw[e]at h;obtain⟨d,f,g⟩:=ZzA e;obtain⟨r,r1,r2,R⟩:=Zua m (out++[(v:Int)]) h;refine⟨(v:Int)::r,?_,by grind,⟨by omega,f,ZCm g⟩,R⟩;grind
theorem Zmy.nodup {live:List Bool} {L:List Zn}:∀(r out:List Int),Zmy live L out r->out.Nodup->(out++r).Nodup
 |[],out,_,h=>by grind
 |v::r,out,h,o=>by
  have:=Zmy.nodup r (out++[v]) h.2 (by
   rw[UW];refine ⟨o,by simp,λa n b H e=>?_⟩;rw[Ut.1 H] at e;exact h.1.2.1 (e▸n))
  grind
structure ZBS (b:Zc) (br:List Int) (R:List Int):Prop where
 ord:Zmy (XG b br) (Zm b) [] R
 len:R.length=QU b
 nd:R.Nodup
 inn:∀u∈R,0<=u/\u<(QU b:Int)
 all:∀u:Int,0<=u->u<(QU b:Int)->u∈R
theorem ZwY {B:List Int} (h:(ZaC b B).2=true):ZBS b B (ZaC b B).1:=by
 obtain⟨r,r1,r2,g⟩:=Zua (QU b) [] h;have e:(ZaC b B).1=r:=r1;have l:=(Zt9 b B).2;rw[e]at l;have X:r.Nodup:=Zmy.nodup r [] g KM;rw[e];exact⟨g,r2,X,l,λu k d=>ZwQ X r2 l k d⟩
abbrev Row:=Bool×Zz×Zz
def Zfq (t:Zr) (k:Int):Row:=((atI (Gd t) k).getD false,(atI (GL t) k).getD ZbM,(atI (GF t) k).getD ZbM)
def ZrS (r:Bool×Zj):Row:=(r.1,GR r.2,GZ r.2)
variable {t':Zr}
theorem Zze (h:Zfq t (Gc x)=Zfq t' (Gc x)) (st:NSt):ZpI b c t x st=ZpI b c t' x st:=by
 unfold Zfq at h;have d:=Ka Prod.fst h;have f:=Ka (λz:Row=>z.2.1) h;have g:=Ka (λz:Row=>z.2.2) h;dsimp only at d f g;unfold ZpI;rw[d,f,g]
theorem ZyM (h:∀(k:Nat) (x:Zn),(Zm b)[k]?=some x->(live[k]?).getD false=true->Gf x=node->Zfq t (Gc x)=Zfq t' (Gc x)):newV b c live l t node=newV b c live l t' node:=by
 unfold newV ZgY;congr 1;refine Zj0 _ _ _ λk x st H=>?_;rw[Uw];split
 ·rename_i q
  split
  ·rename_i r
   exact Zze (h k x H q r) st
  ·rfl
 ·rfl
theorem Zm9 (F:Rdy live (Zm b) out node) (h:∀u∈out,Zfq t u=Zfq t' u):newV b c live l t node=newV b c live l t' node :=
 ZyM λk x H q r=>h _ (F k x H q r)
theorem Zv9 {a b:Zz}:eqS a b=true<->a=b:=by
 unfold eqS;grind
theorem at_set {l:List α} {x:α}:atI (l.set k x) u=if u=(k:Int)then(atI l u).map (λ_=>x)else atI l u:=by
 unfold atI;grind
theorem Zl8 (h:u≠(k:Int):=by omega):Zfq (Zkk t k r) u=Zfq t u:=by
 unfold Zfq Zkk;show((atI (List.set (Gd t) k r.1) u).getD false,(atI (List.set (GL t) k _) u).getD ZbM,(atI (List.set (GF t) k _) u).getD ZbM)=_;rw[at_set,at_set,at_set,Ue h,Ue h,Ue h]
theorem ZpB (b:Zji n t) (H:k<n) (r:Bool×Zj):Zfq (Zkk t k r) (k:Int)=ZrS r:=by
 obtain⟨x,a,s,l,h,q⟩:=Zs8 b H;unfold Zfq Zkk ZrS;show((atI (List.set (Gd t) k r.1) (k:Int)).getD false,(atI (List.set (GL t) k _) (k:Int)).getD ZbM,(atI (List.set (GF t) k _) (k:Int)).getD ZbM)=_;rw[at_set,at_set,at_set,Uc rfl,Uc rfl,Uc rfl,l,h,q];rfl
theorem ZAH (r:Zji n t) (d:Zji n t') (h:∀k:Nat,k<n->Zfq t (k:Int)=Zfq t' (k:Int)):t=t':=by
 have one:∀{α:Type} (l L:List α) (z:α),l.length=n->L.length=n->(∀k:Nat,k<n->(atI l (k:Int)).getD z=(atI L (k:Int)).getD z)->l=L:=λl L z e1 f e=>by
  apply UI;intro k;by_cases H:k<n
  ·have:=e k H
   rw[Zv,Zv,Ua (by omega),Ua (by omega)]at this;grind
  grind
 obtain⟨a,b,c,⟨⟩⟩:=t;obtain⟨A,U,C,⟨⟩⟩:=t';have e1:a=A:=one a A false r.lr d.lr λk H=>Ka Prod.fst (h k H);have f:b=U:=one b U ZbM r.la d.la λk H=>Ka (λz:Row=>z.2.1) (h k H);have i:c=C:=one c C ZbM r.ls d.ls λk H=>Ka (λz:Row=>z.2.2) (h k H);rw[e1,f,i]
def Right (b:Zc) (c:ZA) (live:List Bool) (l:List Zj) (t:Zr):Prop:=∀u:Int,0<=u->u<(QU b:Int)->Zfq t u=ZrS (newV b c live l t u)
def Zus (r:Row):Prop:=r.1=true->ZaH r.2.1
theorem Ztl:ZxW r=false<->Zus (ZrS r):=by
 unfold ZxW Zus ZrS;dsimp only;cases r.1 with
 |true =>
  rw[KE];by_cases q:ZaH (GR r.2)
  ·rw[ZR q];grind
  ·rw[ZT q];grind
 |false=>grind
section
variable {b:Zc} {c:ZA} {live:List Bool} {l:List Zj}
theorem ZpA {t t':Zr}:∀(r out:List Int),Zmy live (Zm b) out r->(∀u∈out,Zfq t u=Zfq t' u)->(∀u∈r,Zfq t u=ZrS (newV b c live l t u))->(∀u∈r,Zfq t' u=ZrS (newV b c live l t' u))->∀u∈r,Zfq t u=Zfq t' u
 |[],_,_,_,_,_,u,a=>by cases a
 |v::r,out,h,o,d,f,u,a=>by
  have H:Zfq t v=Zfq t' v:=by
   rw[d v UK,f v UK,Zm9 h.1.2.2 o]
  rcases Us.1 a with rfl|a
  ·exact H
  ·exact ZpA r (out++[v]) h.2 (all_in o H) (λu a=>d u (UP _ a)) (λu a=>f u (UP _ a)) u a
where
 all_in {t t':Zr} {out:List Int} {v:Int} (ho:∀u∈out,Zfq t u=Zfq t' u) (hv:Zfq t v=Zfq t' v):∀u∈out++[v],Zfq t u=Zfq t' u:=λu hu=>by
  grind
variable {t:Zr}
theorem ZrQ {r:List Int} {t':Zr} (o:ZBS b r (ZaC b r).1) (e:Zji (QU b) t) (H:Zji (QU b) t') (h:Right b c (XG b r) l t) (d:Right b c (XG b r) l t'):t=t':=by
 have:=ZpA (t:=t) (t':=t') (ZaC b r).1 [] o.ord (λu a=>by cases a) (λu a=>h u (o.inn u a).1 (o.inn u a).2) (λu a=>d u (o.inn u a).1 (o.inn u a).2);exact ZAH e H λk f=>this _ (o.all _ (by omega) (by omega))
noncomputable def Znc (b:Zc) (c:ZA) (live:List Bool) (l:List Zj):List Int->Zr->Bool×Zr
 |[],t=>(true,t)
 |v::r,t=>match ZxW (newV b c live l t v)with
  |true=>(false,noT)
  |false=>Znc b c live l r (Zkk t v.toNat (newV b c live l t v))
variable {n:Nat}
theorem Zn2 (hst:∀(t:Zr) (u:Int),Zji n t->StB (ZgY b c live l t u)) (r:Zji n t) (k:Nat) (v:Int):Zji n (Zkk t k (newV b c live l t v)):=Zw8 r _ (ZyX (hst t v r) _)
theorem Zw9 (g:Zji n t) {out:List Int} {v:Int} (m:0<=v) (j:v<(n:Int)) (i:v ∉ out) (F:Rdy live (Zm b) out v) (f:∀u∈out,Rdy live (Zm b) out u) (r:∀u∈out,Zfq t u=ZrS (newV b c live l t u)) :
  let t':=Zkk t v.toNat (newV b c live l t v)
  (∀u∈out++[v],Rdy live (Zm b) (out++[v]) u)/\(∀u∈out++[v],Zfq t' u=ZrS (newV b c live l t' u))/\(∀u:Int,u≠v->Zfq t' u=Zfq t u)/\Zfq t' v=ZrS (newV b c live l t v):=by
 have H:∀u:Int,u≠v->Zfq (Zkk t v.toNat (newV b c live l t v)) u=Zfq t u:=λu a=>Zl8;have y:Zfq (Zkk t v.toNat (newV b c live l t v)) v=ZrS (newV b c live l t v):=by
  have:=ZpB g (k:=v.toNat) (by omega) (newV b c live l t v);grind
 have h:∀u∈out,Zfq (Zkk t v.toNat (newV b c live l t v)) u=Zfq t u:=λu a=>H u (λe=>i (e▸a));refine⟨λu a=>?_,λu a=>?_,H,y⟩
 ·rcases Uu.1 a with q|q
  ·exact(f u q).mono λx d=>Uu.2 (.inl d)
  ·rw[Ut.1 q];exact F.mono λx d=>Uu.2 (.inl d)
 ·rcases Uu.1 a with q|q
  ·rw[h u q,r u q,Zm9 (f u q) h]
  ·rw[Ut.1 q,y,Zm9 F h]
theorem Zxh {n:Nat} (hst:∀(t:Zr) (u:Int),Zji n t->StB (ZgY b c live l t u)):∀(r out:List Int) (t:Zr),Zmy live (Zm b) out r->(∀u∈r,u<(n:Int))->Zji n t->(∀u∈out,Rdy live (Zm b) out u)->(∀u∈out,Zfq t u=ZrS (newV b c live l t u)/\Zus (Zfq t u))->
  (Znc b c live l r t).1=true->Zji n (Znc b c live l r t).2/\∀u∈out++r,Zfq (Znc b c live l r t).2 u=ZrS (newV b c live l (Znc b c live l r t).2 u)/\Zus (Zfq (Znc b c live l r t).2 u)
 |[],out,t,_,_,H,_,d,_=>by rw[Um];exact⟨H,d⟩
 |v::r,out,t,h,X,H,f,d,k=>by
  unfold Znc at k ⊢;cases e:ZxW (newV b c live l t v)with
  |true=>grind
  |false =>
   rw[e] at k;obtain ⟨k1,K,Q,m⟩:=Zw9 H h.1.1 (X v UK) h.1.2.1 h.1.2.2 f λu a=>(d u a).1;have:=Zxh hst r (out++[v]) (Zkk t v.toNat (newV b c live l t v)) h.2 (λu a=>X u (UP _ a)) (Zn2 hst H _ _) k1 (λu a=>⟨K u a,by
    rcases Uu.1 a with q|q
    ·grind
    ·rw[Ut.1 q,m];exact Ztl.1 e⟩) k
   grind
theorem ZrT {n:Nat} {T:Zr} (hst:∀(t:Zr) (u:Int),Zji n t->StB (ZgY b c live l t u)):∀(r out:List Int) (t:Zr),Zmy live (Zm b) out r->(∀u∈r,u<(n:Int))->Zji n t->(∀u∈out,Zfq t u=Zfq T u)->(∀u∈r,Zfq T u=ZrS (newV b c live l T u)/\Zus (Zfq T u))->(Znc b c live l r t).1=true
 |[],_,_,_,_,_,_,_=>rfl
 |v::r,out,t,h,X,f,o,d=>by
  have H:=d v UK;have e:newV b c live l t v=newV b c live l T v:=Zm9 h.1.2.2 o;have j:=X v UK;unfold Znc;rw[show ZxW (newV b c live l t v)=false by rw[e,Ztl,<-H.1];exact H.2];refine ZrT hst r (out++[v]) _ h.2 (λu a=>X u (UP _ a)) (Zn2 hst f _ _) (λu a=>?_) (λu a=>d u (UP _ a));rcases Uu.1 a with q|q
  ·rw[Zl8 (by intro z;exact h.1.2.1 (by rw[show v=u by have:=h.1.1;omega];exact q))]
   exact o u q
  ·rw[Ut.1 q]
   have:=ZpB f (k:=v.toNat) (by have:=h.1.1;omega) (newV b c live l t v);rw[show(v.toNat:Int)=v by have:=h.1.1;omega]at this;rw[this,e,H.1]
end
def Live (L:List Zn) (lv:List Bool) (a c:Int):Prop:=∃(k:Nat) (l:Zn),L[k]?=some l/\lv[k]?=some true/\Gc l=a/\Gf l=c
inductive Rch (L:List Zn) (lv:List Bool) (S:Int->Prop):Int->Prop
 |base {a:Int}:S a->Rch L lv S a
 |step {a c:Int}:Rch L lv S a->Live L lv a c->Rch L lv S c
variable {L:List Zn} {lv:List Bool} {a:Int}
theorem Rch.sub {S T:Int->Prop} (k:∀a,S a->T a) (d:∀a c,T a->Live L lv a c->T c) (h:Rch L lv S a):T a:=by
 induction h with
 |base h=>exact k _ h
 |step _ q i=>exact d _ _ i q
theorem Rch.mono {S T:Int->Prop} (k:∀a,S a->T a) (h:Rch L lv S a):Rch L lv T a:=h.sub (λa n=>.base (k a n)) (λa c n q=>.step n q)
def wt:List (List Int)->List Bool->Nat
 |x::xs,b::s=>(if b=true then 0 else 1+x.length)+wt xs s
 |_,_=>0
theorem ZzJ:∀(Z:List (List Int)) (L:List Bool) (i:Nat) (x:List Int),Z[i]?=some x->L[i]?=some false->wt Z (L.set i true)+(1+x.length)=wt Z L
 |[],_,_,_,h,_=>by simp at h
 |_::_,[],_,_,_,h=>by simp at h
 |y::Z,b::L,0,x,d,f=>by
  simp at d f;subst d;subst f;simp[wt];omega
 |y::Z,b::L,i+1,x,d,f=>by
  have:=ZzJ Z L i x (by simpa using d) (by simpa using f);simp only[List.set_cons_succ,wt];omega
theorem ZCZ:∀(Z:List (List Int)) (L:List Bool) (m:Nat),(∀x∈Z,x.length<=m)->wt Z L<=(1+m)*Z.length
 |[],_,_,_=>by simp[wt]
 |_::_,[],_,_=>by simp[wt]
 |y::Z,b::L,m,h=>by
  have d:=ZCZ Z L m (λx l=>h x (by simp[l]));have f:=h y (by simp);simp only[wt,Uf,Nat.mul_add,Nat.mul_one];grind
variable {α:Type} {l:List α}
theorem Zog {i:Nat} {x:α} (h:l[i]?=some x):l.set i x=l:=by
 apply UI;grind
def InN (N:Nat) (L:List Zn):Prop:=∀l∈L,(0<=Gc l/\Gc l<(N:Int))/\(0<=Gf l/\Gf l<(N:Int))
structure ZDA (N:Nat) (L:List Zn) (lv:List Bool) (k:Nat) (nx:List (List Int)):Prop where
 len:nx.length=N
 short:∀x∈nx,x.length<=k
 mem:∀(a:Nat) (x:List Int),nx[a]?=some x->∀c,c∈x<->∃(j:Nat) (l:Zn),j<k/\L[j]?=some l/\lv[j]?=some true/\Gc l=(a:Int)/\Gf l=c
theorem Zu4 {g:ZM} {nodes:List Int} {N:Nat} (hN:(N:Int)=2*((ZG.ZB (ZM.view g)).length:Int)) (a4:N<=1000) (P:InN N (ZG.links (ZM.view g))) (a3:(ZG.links (ZM.view g)).length<=6000)
  (a6:(ZM.live g).length=(ZG.links (ZM.view g)).length) (W:∀a∈nodes,0<=a/\a<(N:Int)) (a7:nodes.length<=1048576) :
  ∃r,XJ g nodes ()=some r/\r.length=N/\∀(a:Nat) (b:Bool),r[a]?=some b->(b=true<->Rch (ZG.links (ZM.view g)) (ZM.live g) (λa=>a∈nodes) (a:Int)):=by
 generalize z:ZG.links (ZM.view g)=L at *;unfold XJ YP;rw[show Yt (ZG.ZB (ZM.view g))=some ((ZG.ZB (ZM.view g)).length:Int) from rfl,Bq,Bq,<-hN,QR (n:=(N:Int)),Ra,Ra,Ra,Ra];refine Zdq (l:=L) (λk v=>v.1=(k:Int)/\ZDA N L (ZM.live g) k v.2.1) _ ⟨rfl,by simp,λx Y=>by
  grind,λa x Y c=>by
  grind⟩ ?_ ?_
 ·rintro k l ⟨i,m,⟨⟩⟩ q hk ⟨D,s⟩
  simp only at D s;subst D;have U:=P l (Ud q);have t:(ZM.live g)[k]?=some (ZM.live g)[k]:=Ua (by omega);generalize (ZM.live g)[k]=bl at t;have e:=s.len;obtain⟨x,G,a0⟩:=Zfk (l:=m) U.1.1;have f:m[(Gc l).toNat]?=some x:=by
   have:=G;unfold atI at this;grind
  have a8:=s.short x a0;simp only[XY,z,show(k:Int)<(L.length:Int)from by omega,Uk,Zv,q,ZiI,t,G,Bq];by_cases o:bl=true
  ·rw[Uc o,Zk (by simp;omega),Xd]
   subst o;refine⟨_,rfl,rfl,by simp[e],?_,?_⟩
   ·intro y d
    rcases Ke d with d|rfl
    ·have:=s.short y d;omega
    ·simp;omega
   ·intro a y d c
    simp only at d;rw[UX]at d;split at d
    ·rename_i ea
     rw[QP]at d;injection d with d
     subst d;rw[Uu,Ut,s.mem _ x f c];grind
    ·rename_i ea
     rw[s.mem a y d c];grind
  ·rw[Ue o,Xd]
   have C:bl=false:=by simpa using o
   subst C;refine⟨_,rfl,rfl,e,λy d=>by have:=s.short y d;omega,λa y d c=>?_⟩;rw[s.mem a y d c];grind
 ·rintro⟨i,m,⟨⟩⟩ ⟨D,s⟩
  simp only at D s;subst D;have e:=s.len;simp only[XY,z,Ui,Uj];unfold Xa;rw[Ra,Zk (by simp;omega),Bq];have u:∀(a:Nat) (x:List Int),m[a]?=some x->∀c,c∈x<->Live L (ZM.live g) (a:Int) c:=by
   intro a x Y c;rw[s.mem a x Y c];constructor
   ·rintro⟨j,l',M,h2,h3,O,h5⟩;exact⟨j,l',h2,h3,O,h5⟩
   ·rintro⟨j,l',h2,h3,O,h5⟩;grind
  have a9:=ZCZ m (List.replicate N false) L.length s.short;have a1:(1+L.length)*m.length<=6001*1000:=Kk (by omega) (by omega);have:=Ze5 (σ:=List Int×List (List Int)×List Bool×Unit) (ρ:=(Int×List (List Int)×Unit)⊕List Bool) (step:=λv=>XW v.1 v.2.1 v.2.2.1)
   (λv=>v.2.1=m/\v.2.2.1.length=N/\v.1.length+wt m v.2.2.1<=8000000/\
    (∀a∈v.1,0<=a/\a<(N:Int)/\Rch L (ZM.live g) (λa=>a∈nodes) a)/\
    (∀(a:Nat),v.2.2.1[a]?=some true->Rch L (ZM.live g) (λa=>a∈nodes) (a:Int))/\
    (∀a∈nodes,a∈v.1\/v.2.2.1[a.toNat]?=some true)/\
    (∀ (a:Nat) (c:Int),v.2.2.1[a]?=some true->Live L (ZM.live g) (a:Int) c->c∈v.1\/v.2.2.1[c.toNat]?=some true))
   (λv=>v.1.length+wt m v.2.2.1)
   (λr=>∃r',r=.inr r'/\r'.length=N/\∀(a:Nat) (b:Bool),r'[a]?=some b->(b=true<->Rch L (ZM.live g) (λa=>a∈nodes) (a:Int)))
   (v:=([]++nodes,m,List.replicate (Int.toNat (N:Int)) false,()))
   ⟨rfl,by simp,by grind,λa H=>by
     simp only[Uq] at H;exact ⟨(W a H).1,(W a H).2,.base H⟩,λa H=>(by
     grind),λa H=>.inl (by simpa using H),λa c H _=>(by
     grind)⟩
   (by
    rintro⟨op,w,p,⟨⟩⟩ ⟨e1,J,e3,K,e5,e6,e7⟩;simp only at e1 J e3 K e5 e6 e7;subst e1;simp only[XW];cases op with
    |nil =>
     rw[Ue (by simp)];refine .inr ⟨_,rfl,p,rfl,J,λa b o=>?_⟩;constructor
     ·grind
     ·intro h
      have A:∀c:Int,Rch L (ZM.live g) (λa=>a∈nodes) c->(0<=c/\p[c.toNat]?=some true):=by
       intro c hc;refine hc.sub (T:=λc=>0<=c/\p[c.toNat]?=some true) (λa H=>⟨(W a H).1,?_⟩) (λa c H q=>?_)
       ·grind
       ·obtain⟨k,l,M,_,_,O⟩:=id q
        have Q:=P l (Ud M);have a5:Live L (ZM.live g) (a.toNat:Int) c:=by rw[show(a.toNat:Int)=a by omega];exact q
        grind
      have:=(A (a:Int) h).2
      simp_all
    |cons X R =>
     obtain⟨E,b2,Z⟩:=K X (by simp);have V:List.take (Int.toNat (((X::R).length:Nat):Int)-Int.toNat (1:Int)) (List.drop (Int.toNat (1:Int)) (X::R))=R:=by simp
     obtain⟨b0,B,_⟩:=Zfk (l:=p) E;have S:p[X.toNat]?=some b0:=by
      have:=B;unfold atI at this;grind
     rw[Uc (by grind),show atI (X::R) (0:Int)=some X from rfl,Bq,Zk (by grind),Ra,B,Bq];simp only[V];simp only[Uf]at e3;by_cases o:b0=true
     ·subst o
      rw[Uc rfl];refine .inl ⟨_,rfl,⟨rfl,J,by simp only;omega,λa H=>K a (by simp[H]),e5,λa H=>?_,λa c H q=>?_⟩,by grind⟩;all_goals grind
     ·have C:b0=false:=by simpa using o
      subst C;obtain⟨x2,I,a2⟩:=Zfk (l:=w) E;have f:w[X.toNat]?=some x2:=by
       have:=I;unfold atI at this;grind
      have b1:=ZzJ w p X.toNat x2 f S;have F:(X.toNat:Int)=X:=by omega
      rw[Ue o,I,Bq,Ra,Zog f];have up:∀a:Nat,p[a]?=some true->(p.set X.toNat true)[a]?=some true:=by
       intro a H;rw[UX];split;all_goals grind
      have at0:(p.set X.toNat true)[X.toNat]?=some true:=by grind
      refine .inl ⟨_,rfl,⟨rfl,by simp[J],by grind,λa H=>?_,λa H=>?_,λa H=>?_,λa c H q=>?_⟩,by grind⟩
      ·rcases Uu.1 H with H|H
       ·exact K a (by simp[H])
       ·have q:=(u _ x2 f a).1 H
        rw[F]at q;obtain⟨k,l,M,_,_,O⟩:=id q;have Q:=P l (Ud M);exact⟨by omega,by omega,.step Z q⟩
      ·simp only at H
       rw[UX]at H;split at H;all_goals grind
      ·rcases e6 a H with h|h
       all_goals grind
      ·simp only at H
       rw[UX]at H;split at H
       ·grind
       ·rcases e7 a c H q with h|h
        all_goals grind)
  grind
def ZcR {α:Type} (key:α->Int) (l:List α):Prop:=l.Pairwise λx y=>key x<key y
theorem key_eq {α:Type} {key:α->Int}:∀{a b:List α},ZcR key a->ZcR key b->(∀x,x∈a<->x∈b)->a=b
 |[],[],_,_,_=>rfl
 |[],y::b,_,_,h=>by have:=(h y).2 UK;cases this
 |x::a,[],_,_,h=>by have:=(h x).1 UK;cases this
 |x::a,y::b,n,H,h=>by
  obtain⟨A,c⟩:=KS.1 n;obtain⟨N,P⟩:=KS.1 H;have E:x=y:=by
   rcases Us.1 ((h x).1 UK)with e|q
   ·exact e
   ·rcases Us.1 ((h y).2 UK)with e|Q
    ·exact e.symm
    ·have:=A y Q
     have:=N x q;omega
  subst E;rw[key_eq c P λz=>?_];constructor
  ·intro T
   rcases Us.1 ((h z).1 (UP _ T))with e|q
   ·have:=A z T;rw[e]at this;omega
   ·exact q
  ·intro T
   rcases Us.1 ((h z).2 (UP _ T))with e|q
   ·have:=N z T;rw[e]at this;omega
   ·exact q
def Zad {α:Type} (key:α->Int) (k:Int):List α->Nat
 |[]=>0
 |x::l=>if key x<k then Zad key k l+1 else 0
theorem Zl0 {α:Type} (key:α->Int) (k:Int):∀l:List α,Zad key k l<=l.length
 |[]=>UE _
 |x::l=>by
  unfold Zad;split
  ·have:=Zl0 key k l
   rw[Uf];omega
  ·exact UM _
theorem Zj7 {α:Type} (key:α->Int) (k:Int):∀(l:List α) (x:α),x∈l.take (Zad key k l)->key x<k
 |[],x,h=>by simp at h
 |y::l,x,h=>by
  unfold Zad at h;split at h
  ·rename_i q
   rw[List.take_succ_cons]at h;rcases Us.1 h with rfl|h
   ·exact q
   ·exact Zj7 key k l x h
  ·rw[Ki]at h;cases h
theorem ZiT {α:Type} {key:α->Int} {k:Int}:∀{l:List α},ZcR key l->∀x,x∈l.drop (Zad key k l)->k<=key x
 |[],_,x,h=>by simp at h
 |y::l,H,x,h=>by
  obtain⟨d,f⟩:=KS.1 H;unfold Zad at h;split at h
  ·rw[List.drop_succ_cons]at h
   exact ZiT f x h
  ·rename_i q
   rw[KL]at h;rcases Us.1 h with rfl|h
   ·omega
   ·have:=d x h;omega
def Zms {α:Type} (key:α->Int) (l:List α) (a b:α):List α:=l.take (Zad key (key a) l)++a::b::l.drop (Zad key (key a) l)
variable {key:α->Int}
theorem Zu1 {a b:α} (e:ZcR key l) (j:key a<key b) (h:∀x∈l,key x<key a\/key b<key x):ZcR key (Zms key l a b):=by
 have o:=Zj7 key (key a) l;have d:=ZiT (k:=key a) e;have c:∀x∈l.drop (Zad key (key a) l),key b<key x:=λx H=>by
  have f:=d x H;rcases h x (List.mem_of_mem_drop H)with q|q
  ·omega
  ·exact q
 unfold Zms ZcR;refine List.pairwise_append.2 ⟨e.sublist (List.take_sublist _ _),List.Pairwise.cons ?_ (List.Pairwise.cons c (e.sublist (List.drop_sublist _ _))),?_⟩
 ·intro x H
  rcases Us.1 H with rfl|H
  ·exact j
  ·have:=c x H;omega
 ·intro x H y i
  have f:=o x H;rcases Us.1 i with rfl|i
  ·exact f
  ·rcases Us.1 i with rfl|i
   ·omega
   ·have:=c y i;omega
theorem ZdL {a b x:α}:x∈Zms key l a b<->x=a\/x=b\/x∈l:=by
 unfold Zms;rw[Uu,Us,Us];constructor
 ·rintro(h|h|h|h)
  ·exact .inr (.inr (List.mem_of_mem_take h))
  ·exact .inl h
  ·exact .inr (.inl h)
  ·exact .inr (.inr (List.mem_of_mem_drop h))
 ·rintro(h|h|h)
  ·exact .inr (.inl h)
  ·exact .inr (.inr (.inl h))
  ·rw[<-Kz (Zad key (key a) l) l]at h
   rcases Uu.1 h with q|q
   ·exact .inl q
   ·exact .inr (.inr (.inr q))
theorem Zn6 {α:Type} {key:α->Int} {k:Int}:∀{l:List α},ZcR key l->((∃x∈l,key x=k)<->∃x,l[Zad key k l]?=some x/\key x=k)
 |[],_=>by simp[Zad]
 |y::l,H=>by
  obtain⟨d,f⟩:=KS.1 H;unfold Zad;split
  ·rename_i q
   rw[U3,<-Zn6 f];constructor
   ·rintro⟨x,h,e⟩
    rcases Us.1 h with rfl|h
    ·omega
    ·exact⟨x,h,e⟩
   ·rintro⟨x,h,e⟩
    exact⟨x,UP _ h,e⟩
  ·rename_i q
   rw[KG];constructor
   ·rintro⟨x,h,e⟩
    rcases Us.1 h with rfl|h
    ·exact⟨x,rfl,e⟩
    ·have:=d x h;omega
   ·rintro⟨x,h,e⟩
    injection h with h
    subst h;exact⟨_,UK,e⟩
abbrev RR (L:List Zn) (lv:List Bool) (a c:Int):Prop:=Rch L lv (λx=>x=a) c
def NT (L:List Zn) (lv:List Bool) (v:Int):Prop:=∃c,Live L lv c v/\RR L lv v c
section
variable {N:Nat} {L:List Zn} {lv:List Bool}
theorem RR.refl (a:Int):RR L lv a a:=.base rfl
variable {a c:Int}
theorem RR.trans {b:Int} (d:RR L lv a b) (f:RR L lv b c):RR L lv a c:=by
 induction f with
 |base e=>rw[e];exact d
 |step _ q i=>exact .step i q
theorem ZsM (n:InN N L) (h:Live L lv a c):(0<=a/\a<(N:Int))/\(0<=c/\c<(N:Int)):=by
 obtain⟨k,l,d,_,rfl,rfl⟩:=h;exact n l (Ud d)
variable {v:Int}
theorem NT.inn (n:InN N L) (h:NT L lv v):0<=v/\v<(N:Int):=by
 obtain⟨c,q,_⟩:=h;exact(ZsM n q).2
theorem ZwR {u:Int} (d:RR L lv u v) (f:RR L lv v u) (y:u≠v:=by omega):NT L lv u:=by
 cases f with
 |base e=>exact absurd e y
 |@step c _ p q=>exact⟨c,q,d.trans p⟩
theorem Zsr {S:List Int} (s:∀c∈S,∀a,Live L lv a c->a∈S) (h:RR L lv v c) (q:c∈S):v∈S:=by
 induction h with
 |base e=>rw[<-e];exact q
 |step _ l i=>exact i (s _ q _ l)
variable {out:List Int}
theorem Zuh (h:Rdy lv L out v) (q:Live L lv a v):a∈out:=by
 obtain⟨k,l,d,f,rfl,i⟩:=q;exact h k l d (by rw[f];rfl) i
theorem ZnQ {v:Int}:∀(r out:List Int),Zmy lv L out r->(∀c∈out,∀a,Live L lv a c->a∈out)->v∈r->∃S:List Int,v ∉ S/\(∀c∈S,∀a,Live L lv a c->a∈S)/\∀a,Live L lv a v->a∈S
 |[],_,_,_,h=>by cases h
 |u::r,out,m,y,h=>by
  by_cases e:v=u
  ·subst e
   exact⟨out,m.1.2.1,y,λa n=>Zuh m.1.2.2 n⟩
  ·refine ZnQ r (out++[u]) m.2 (λc q a n=>?_) (by
    rcases Us.1 h with h|h
    ·exact absurd h e
    ·exact h)
   rcases Uu.1 q with q|q
   ·exact Uu.2 (.inl (y c q a n))
   ·rw[Ut.1 q]at n
    exact Uu.2 (.inl (Zuh m.1.2.2 n))
theorem Zrb {α:Type} {p q:α->Bool}:∀{l:List α},(∀x∈l,p x=true->q x=true)->(∃x∈l,q x=true/\p x=false)->l.countP p<l.countP q
 |[],_,⟨x,H,_⟩=>by cases H
 |a::l,h,⟨x,H,d,f⟩=>by
  have R:l.countP p<=l.countP q:=List.countP_mono_left λx H=>h x (UP _ H);rw[K1,K1];rcases Us.1 H with rfl|H
  ·rw[d,f]
   simp only[Uk,UN,Uj];omega
  ·have i:=Zrb (λx H=>h x (UP _ H)) ⟨x,H,d,f⟩
   have n:=h a UK;by_cases c:p a=true
   ·rw[Uc c,Uc (n c)];omega
   ·rw[Ue c];omega
theorem descent {P:Int->Prop} (p:∀v,P v->(0<=v/\v<(N:Int))/\∃c,P c/\Live L lv c v) (o:∀v,¬NT L lv v):∀(m:Nat) (v:Int),P v->(ZjH N).countP (λu=>tr (RR L lv u v))<m->False
 |0,_,_,h=>Nat.not_lt_zero _ h
 |m+1,v,a,h=>by
  obtain⟨F,c,H,l⟩:=p v a;refine descent p o m c H (UD (Zrb (λx _ b=>?_) ⟨v,Zhw.2 F,ZR (RR.refl v),ZT λq=>o v ⟨c,l,q⟩⟩) (Nat.lt_succ_iff.1 h));exact ZR (Rch.step ((Xf _).1 b) l)
theorem ZvR (h:∀(k:Nat) (x:Zn),L[k]?=some x->cw lv out v k x=0):Zir lv L out v=0:=by
 have:∀k,k<=L.length->Zir lv (L.take k) out v=0:=by
  intro k;induction k with
  |zero=>intro _;rfl
  |succ k i =>
   intro H;have l:L[k]?=some (L[k]'(by omega)):=Ua _;rw[ZbR l,i (by omega),h k _ l]
 have f:=this L.length (UE _);rw[Ur]at f;exact f
theorem ZrM (n:Nat):(ZjH n).Nodup:=by
 unfold ZjH;rw[List.nodup_iff_pairwise_ne,List.pairwise_map];refine List.Pairwise.imp ?_ (List.nodup_iff_pairwise_ne.1 List.nodup_range);intro a b h e;exact h (by omega)
theorem ZnD (n:InN N L) (o:∀v,¬NT L lv v):∀(m:Nat) (out:List Int),out.length+m=N->(ZrH lv L N m out).2=true
 |0,_,_=>rfl
 |m+1,out,R=>by
  unfold ZrH;cases e:nxt lv L N out with
  |some v=>exact ZnD n o m (out++[(v:Int)]) (by rw[Uh];simp only[Uf,Ug];omega)
  |none =>
   exfalso;unfold nxt at e;rw[List.find?_range_eq_none]at e;have b:∃v:Int,(0<=v/\v<(N:Int))/\v ∉ out:=Uz λq=>by
    have:=ZkU (ZjH N) out (ZrM N) (λx l=>Uz λz=>q ⟨x,Zhw.1 l,z⟩);rw[Zl2]at this;omega
   obtain⟨v,a⟩:=b;refine descent (P:=λv=>(0<=v/\v<(N:Int))/\v ∉ out) (λv a=>⟨a.1,?_⟩) o _ v a (Nat.lt_succ_self _);refine Uz λq=>?_;have h:=e v.toNat (by omega);have j:(v.toNat:Int)=v:=by omega
   rw[j]at h;have T:Zir lv L out v=0:=ZvR λk x l=>by
    unfold cw;split
    ·rename_i H
     split
     ·rename_i t
      split
      ·rfl
      ·rename_i r
       have c:lv[k]?=some true:=by
        cases f:lv[k]? with
        |none=>rw[f]at H;cases H
        |some z=>rw[f]at H;exact Ka some H
       exact absurd ⟨Gc x,⟨(n x (Ud l)).1,r⟩,k,x,l,c,rfl,t⟩ q
     ·rfl
    ·rfl
   rw[UJ a.2,UJ T]at h;cases h
end
variable {b:Zc}
theorem Zhu (h:Xh b):InN (QU b) (Zm b):=λl q=>by
 have:=ZfT h q;have e:=nN b;omega
variable {r:List Int}
theorem ZuW (h:Xh b) (o:(ZaC b r).2=true) (v:Int):¬NT (Zm b) (XG b r) v:=by
 intro a;obtain⟨c,q,F⟩:=a;have k:=ZwY o;have B:=(ZsM (Zhu h) q).2;obtain⟨S,s,d,t⟩:=ZnQ (v:=v) _ [] k.ord (λc H=>by cases H) (k.all v B.1 B.2);exact s (Zsr d F (t c q))
theorem Zpk (h:Xh b) (o:∀v,¬NT (Zm b) (XG b r) v):(ZaC b r).2=true :=
 ZnD (Zhu h) o (QU b) [] (by simp)
structure Zvm (N:Nat) (L:List Zn) (lv:List Bool) (v:Int) (m:List Int):Prop where
 mem:∀c,c∈m<->((0<=c/\c<(N:Int))/\RR L lv v c/\RR L lv c v)
 inc:ZcR (λc:Int=>c) m
variable {N:Nat} {L:List Zn} {lv:List Bool} {v:Int} {m:List Int}
theorem Zvm.unique {M:List Int} (h:Zvm N L lv v m) (H:Zvm N L lv v M):m=M :=
 key_eq h.inc H.inc λx=>(h.mem x).trans (H.mem x).symm
def ZbO (N:Nat) (L:List Zn) (lv:List Bool) (v:Int):List (List Int)->Prop
 |[]=>∀u,0<=u->u<v->¬NT L lv u
 |m::_=>∃w,(0<=w/\w<v)/\NT L lv w/\(∀u,0<=u->u<w->¬NT L lv u)/\Zvm N L lv w m
variable {r:List (List Int)}
theorem ZbO.skip (h:ZbO N L lv v r) (X:r=[]->¬NT L lv v):ZbO N L lv (v+1) r:=by
 cases r with
 |nil =>
  intro u k d;by_cases e:u=v
  ·rw[e];exact X rfl
  ·exact h u k (by omega)
 |cons m t =>
  obtain⟨w,d,f,g,i⟩:=h;exact⟨w,⟨d.1,by omega⟩,f,g,i⟩
theorem ZbO.add (h:ZbO N L lv v r) (k:0<=v) (X:NT L lv v) (R:Zvm N L lv v m):ZbO N L lv (v+1) (r++[m]):=by
 cases r with
 |nil=>exact⟨v,⟨k,by omega⟩,X,h,R⟩
 |cons a t =>
  obtain⟨w,d,f,g,i⟩:=h;exact⟨w,⟨d.1,by omega⟩,f,g,i⟩
theorem ZbO.unique {R:List (List Int)} (h:ZbO N L lv v r) (H:ZbO N L lv v R):(r=[]/\R=[])\/∃m t t',r=m::t/\R=m::t':=by
 cases r with
 |nil =>
  cases R with
  |nil=>exact .inl ⟨rfl,rfl⟩
  |cons M t' =>
   obtain⟨w,d,f,_⟩:=H;exact absurd f (h w d.1 d.2)
 |cons m t =>
  obtain⟨w,d,f,b,i⟩:=h;cases R with
  |nil=>exact absurd f (H w d.1 d.2)
  |cons M t' =>
   obtain⟨w',g,G,s,a⟩:=H;have e:w=w':=by
    rcases Int.lt_trichotomy w w' with q|q|q
    ·exact absurd f (s w d.1 q)
    ·exact q
    ·exact absurd G (b w' g.1 q)
   subst e;have:=i.unique a;subst this;exact .inr ⟨m,t,t',rfl,rfl⟩
theorem Zvm.two (n:InN N L) (h:Zvm N L lv v m) (k:0<=v/\v<(N:Int)):NT L lv v<->(1<m.length\/Live L lv v v):=by
 have f:v∈m:=(h.mem v).2 ⟨k,RR.refl v,RR.refl v⟩;constructor
 ·rintro⟨c,q,F⟩
  by_cases e:c=v
  ·rw[e]at q;exact .inr q
  ·left
   have x:c∈m:=(h.mem c).2 ⟨(ZsM n q).1,F,.step (RR.refl c) q⟩
   match m,f,x with
   |[a],g,i=>exact absurd ((Ut.1 i).trans (Ut.1 g).symm) e
   |a::b::t,_,_=>simp only[Uf];omega
 ·rintro(l|q)
  ·have d:m.Nodup:=by
    rw[List.nodup_iff_pairwise_ne];exact List.Pairwise.imp (λ{a b} (h:a<b) (e:a=b)=>by omega) h.inc
   obtain⟨a,j,H⟩:=nodup_other' v d l;obtain⟨_,r1,r2⟩:=(h.mem a).1 j;exact ZwR r1 r2 (Ne.symm H)
  ·exact⟨v,q,RR.refl v⟩
where
 nodup_other' (v:Int):∀{m:List Int},m.Nodup->1<m.length->∃a,a∈m/\a≠v
  |[],_,h=>by simp at h
  |[_],_,h=>by simp at h
  |a::b::r,hn,_=>by
   by_cases q:a=v
   ·exact⟨b,by simp,λe=>by grind⟩
   ·exact⟨a,by simp,q⟩
end Go.Proofs.YtjkccpcebpeadaaGreatDoor
