/-
  Plain laws: the view is always made.
-/
import Derived.Test.YtcjminfjgckdlaaGreatDoorLA
namespace Go.Proofs.YtcjminfjgckdlaaGreatDoor
set_option linter.unusedVariables false
set_option linter.unusedSimpArgs false
open Go Go.Sx
variable {k:Nat} {w:Zq}
theorem Zka {b:Za} (h:Z4 b) (f:(KZ b)[k]?=some w):∃r,XZ b (k:Int)=some r/\r.length<=1048576:=by
 have F:=h.ok.2.2 k w f;obtain⟨⟨L,S⟩,lr,U,ls,C,O,N,n⟩:=F;obtain⟨nl,g,e⟩:=Zjo h f;have V:=Zw (Zls (Zba (Jb h.sm).2.2 f)).2.2.2;have c:∃r,Q5 b (k:Int)=some r/\r.length=(K3 w).length:=by
  unfold Q5;rw[Zo,f,Bq,g,Bq,Ra,Ra,Ra,Ra];refine Ze5 ((K3 w).length-1) (λm v=>v.1=((m+1:Nat):Int)/\v.2.1.length=(K3 w).length) _ ⟨rfl,by simp[e]⟩ ?_ ?_
  ·rintro m ⟨i,l,⟨⟩⟩ R ⟨H,a⟩
   simp only at H a;subst H;left;have j:(K3 w)[m+1]?=some (K3 w)[m+1]:=Ua (by omega);generalize (K3 w)[m+1]=p at j;have s:=(C (m+1) p j).2 (by omega);obtain⟨q,d,_⟩:=ZgM (l:=l) s.1;have B:(Gx w)[m+1]?=some (Gx w)[m+1]:=Ua (by omega);have A:nl[m+1]?=some nl[m+1]:=Ua (by omega);have T:l[m+1]?=some l[m+1]:=Ua (by omega);simp only[Qc,show((m+1:Nat):Int)<(l.length:Int)from by omega,Ui,Zo,j,d,B,A,T,Bq];exact⟨_,rfl,by rw[YW],by simp[a]⟩
  ·rintro⟨i,l,⟨⟩⟩ ⟨H,a⟩
   simp only at H a;subst H;simp only[Qc,show ¬(((K3 w).length-1+1:Nat):Int)<(l.length:Int)from by omega,Uh];exact⟨_,rfl,a⟩
 obtain⟨nd,c,u⟩:=c;unfold XZ;rw[c,Bq,Zo,f,Bq];refine Zev (l:=Gm w) (λm v=>v.1.length=m/\v.2.1=(m:Int)) _ ⟨rfl,rfl⟩ ?_ ?_
 ·rintro m y ⟨o,i,⟨⟩⟩ z R ⟨x,H⟩
  simp only at H x;subst H;have t:=n y (Ud z);obtain⟨q,d,_⟩:=ZgM (l:=nd) t.1;simp only[X6,show(m:Int)<((Gm w).length:Int)from by omega,Ui,Zo,z,d,Bq];rw[Zi (by simp;omega)];exact⟨_,rfl,by simp[x],by rw[YW]⟩
 ·rintro⟨o,i,⟨⟩⟩ ⟨x,H⟩
  simp only at H x;subst H;simp only[X6,Uf,Uh];exact⟨_,rfl,by omega⟩
variable (a:ZH)
theorem ZqO:∃r,Vz a=some r/\r.length<=4:=by
 unfold Vz;repeat' split
 all_goals exact⟨_,rfl,by simp⟩
variable {x:Ze}
theorem Zsa {b:Za} (h:Z4 b) (s:x∈KY (KX b)) (f:Int):∃r,VA b x f=some r/\r.length<=32:=by
 obtain⟨q,⟨c,a,k⟩,_⟩:=h.ok.1.2.2.1 x s;have w:=(h.ok.1.1.2.1 c (Ud a)).2.2.1.1;unfold VA;rw[Yw q.1 a,Bq];refine Zev (l:=Gh c) (λm v=>v.1.length<=4*m/\v.2.1=(m:Int)) _ ⟨by simp,rfl⟩ ?_ ?_
 ·rintro m y ⟨o,i,⟨⟩⟩ t A ⟨d,H⟩
  simp only at H d;subst H;obtain⟨T,j,p⟩:=ZqO y;simp only[Qw,show(m:Int)<((Gh c).length:Int)from by omega,Ui,Zo,t,j,Bq];obtain⟨r,e,R,rfl,g⟩:=Zev (l:=T) (ρ:=(List Zp×Int×Unit)⊕List Zp) (step:=λv=>XH f (m:Int) y T v.1 v.2.1) (v:=(o,(0:Int),())) (λn v=>v.1.length=o.length+n/\v.2.1=(n:Int)) (λr=>∃R,r=.inl R/\R.1.length<=4*(m+1)/\R.2.1=((m+1:Nat):Int)) ⟨rfl,rfl⟩
   (by
    rintro n z ⟨O,i,⟨⟩⟩ u B ⟨I,H⟩;simp only at H I;subst H;simp only[XH,show (n:Int)<(T.length:Int) from by omega,Ui,Zo,u,Bq];rw[Zi (by simp;omega)];exact ⟨_,rfl,by simp[I];omega,by rw[YW]⟩)
   (by
    rintro ⟨O,i,⟨⟩⟩ ⟨I,H⟩;simp only at H I;subst H;simp only[XH,Uf,Uh];exact ⟨_,rfl,_,rfl,by simp only;omega,by rw[YW]⟩)
  exact⟨R,e,g⟩
 ·rintro⟨o,i,⟨⟩⟩ ⟨d,H⟩
  simp only at H d;subst H;simp only[Qw,Uf,Uh];exact⟨_,rfl,by omega⟩
def Short (l:List (List Int)) (n m:Nat):Prop:=l.length=n/\∀x∈l,x.length<=m
variable {m:Nat}
theorem Short.set {l:List (List Int)} {n:Nat} (h:Short l n m) {x:List Int} (a:x.length<=m) (i:Nat):Short (l.set i x) n m:=by
 refine⟨by simp[h.1],λy H=>?_⟩;rcases U2 H with H|rfl
 ·exact h.2 y H
 ·exact a
theorem Short.mono {l:List (List Int)} {n p:Nat} (h:Short l n m) (g:m<=p):Short l n p:=⟨h.1,λx H=>Kl (h.2 x H) g⟩
theorem ZlN {b:Za} (h:Z4 b):∃v,VI b=some v/\ZM.places v=places (KX b)/\GV v=b:=by
 have B:=h.ok.1;have F:=B.few;have a5:=ZT F;have a1:=F.insts;have a6:=h.ok.2.1;have a2:=B.2.1.2.1;unfold VI;rw[ZQ _ F,Bq];refine Zev (l:=KY (KX b)) (λk v=>v.2.1=(k:Int)/\v.2.2.1.length<=32*k) _ ⟨rfl,by simp⟩ ?_ ?_
 ·rintro k x ⟨n,i,c,⟨⟩⟩ g Y ⟨H,hc⟩
  simp only at H hc;subst H;obtain⟨r,a,d⟩:=Zsa h (Ud g) n;simp only[Za2,show(k:Int)<((KY (KX b)).length:Int)from by omega,Ui,Zo,g,a,Bq,VE];rw[Ra];exact⟨_,rfl,by simp only;rw[YW],by simp only[Ug];omega⟩
 ·rintro⟨n,i,c0,⟨⟩⟩ ⟨H,D⟩
  simp only at H D;subst H;simp only[Za2,Uf,Uh];rw[Ra,Ra,Ra,Ra,Ra];obtain⟨r,a,R,rfl,d⟩:=Zev (l:=places (KX b)) (ρ:=(Int×Int×List Zp×Unit)⊕ZM) (step:=λv=>Vs b (places (KX b)) c0 v.1 v.2.1 v.2.2.1) (v:=((0:Int),List.replicate (Int.toNat (↑(List.length (KZ b)):Int)) (0:Int),List.replicate (Int.toNat (↑(List.length (KZ b)):Int)) (([]:List Int)),()))
   (λk v=>v.1=(k:Int)/\v.2.1.length=(KZ b).length/\Short v.2.2.1 (KZ b).length k)
   (λr=>∃R,r=.inr R/\ZM.places R=places (KX b)/\GV R=b)
   ⟨rfl,by simp,by simp,by
    intro x g;rw[List.mem_replicate] at g;rw[g.2];simp⟩
   (by
    rintro k x ⟨i,l0,L,⟨⟩⟩ g Y ⟨H,o,f⟩;simp only at H o f;subst H;have I:=Qe B (Ud g);have a3:=I.2;simp only[Vs,show(k:Int)<((places (KX b)).length:Int)from by omega,Ui,Zo,g,Bq];obtain⟨q,O,_⟩:=ZgM (l:=l0) I.1;obtain⟨p,M,N⟩:=ZgM (l:=L) I.1 (by have:=f.1;omega);have a4:=f.2 p N;split
    ·rw[show atI l0 (ZL.net x)=some q from O,Bq]
     exact⟨_,rfl,by simp only;rw[YW],by simp[o],f.mono (by omega)⟩
    ·rw[show atI L (ZL.net x)=some p from M,Bq,Zi (by simp;omega)]
     exact ⟨_,rfl,by simp only;rw[YW],o,(f.mono (by omega)).set (by simp;omega) _⟩)
   (by
    rintro⟨i,l0,L,⟨⟩⟩ ⟨H,o,f⟩;simp only at H o f;subst H;simp only[Vs,Uf,Uh];obtain⟨r,a,R,rfl,d⟩:=Zev (l:=KZ b) (ρ:=(Int×List Int×List (List Int)×Unit)⊕((Int×Int×List Zp×Unit)⊕ZM)) (step:=λv=>Vr b (places (KX b)) l0 v.1 v.2.1 v.2.2.1 v.2.2.2.1 v.2.2.2.2.1) (v:=((0:Int),([]:List Int),([]:List (List Int)),c0,L,()))
     (λk v=>v.1=(k:Int)/\v.2.1.length=k/\v.2.2.1.length=k/\v.2.2.2.1.length<=448+156*k/\Short v.2.2.2.2.1 (KZ b).length 78)
     (λr=>∃R,r=.inr (.inr R)/\ZM.places R=places (KX b)/\GV R=b)
     ⟨rfl,rfl,rfl,by simp only;omega,f.mono (by omega)⟩
     (by
      rintro k w ⟨i,c1,c2,C,S,⟨⟩⟩ P Y ⟨H,t,u,V,G⟩;simp only at H t u V G;subst H;obtain⟨nl,K,Z⟩:=Zjo h P;obtain⟨ed,E,W⟩:=Zka h P;have a0:=(h.ok.2.2 k w P).1.1;have J:atI nl (0:Int)=some nl[0]:=(show nl[0]?=some nl[0]from Ua (by omega));obtain⟨X,T⟩:∃X,S[k]?=some X:=⟨_,Ua (by have:=G.1;omega)⟩;have Q:=G.2 X (Ud T);simp only[Vr,show(k:Int)<((KZ b).length:Int)from by omega,Ui,K,J,E,Bq,Zo,T];rw[Zi (by simp;omega),Zi (by simp;omega)];obtain⟨r,a,R,rfl,d⟩:=Zev (l:=X) (ρ:=(Int×List Int×List (List Int)×List Zp×List (List Int)×Unit)⊕((Int×List Int×List (List Int)×Unit)⊕((Int×Int×List Zp×Unit)⊕ZM))) (step:=λv=>Vq l0 (k:Int) c1 c2 S nl[0] ed X v.1 v.2.1) (v:=((0:Int),C,()))
       (λm v=>v.1=(m:Int)/\v.2.1.length=C.length+2*m)
       (λr=>∃R,r=.inl R/\R.1=((k+1:Nat):Int)/\R.2.1.length=k+1/\R.2.2.1.length=k+1/\R.2.2.2.1.length<=448+156*(k+1)/\Short R.2.2.2.2.1 (KZ b).length 78)
       ⟨rfl,rfl⟩
       (by
        rintro m y ⟨i,U,⟨⟩⟩ hy hm ⟨H,A⟩;simp only at H A;subst H;simp only[Vq,show(m:Int)<(X.length:Int)from by omega,Ui,Zo,hy,Bq];have s:l0[k]?=some l0[k]:=Ua (by omega);generalize l0[k]=z at s;obtain⟨r,a,R,rfl,d⟩:=Ze5 (step:=λv=>QF l0 (k:Int) (m:Int) y v.1 v.2.1) 2 (λj v=>v.1=(j:Int)/\v.2.1.length=U.length+j) (λr=>∃R,r=.inl R/\R.1=((m+1:Nat):Int)/\R.2.1.length=U.length+2) (v:=((0:Int),U,())) ⟨rfl,rfl⟩
         (by
          rintro j ⟨i,c5,⟨⟩⟩ hj ⟨H,e⟩;simp only at H e;subst H;left;simp only[QF,show (j:Int)<(2:Int) from by omega,Ui,Zo,s,Bq];rw[Zi (by simp;omega)];exact ⟨_,rfl,by simp only;rw[YW],by simp[e];omega⟩)
         (by
          rintro ⟨i,c5,⟨⟩⟩ ⟨H,e⟩;simp only at H e;subst H;simp only[QF,show ¬((2:Nat):Int)<(2:Int) from by omega,Uh];exact ⟨_,rfl,_,rfl,by simp only;rw[YW],e⟩)
        exact ⟨R,a,d.1,by rw[d.2];omega⟩)
       (by
        rintro ⟨i,U,⟨⟩⟩ ⟨H,A⟩;simp only at H A;subst H;simp only[Vq,Uf,Uh];exact ⟨_,rfl,_,rfl,by simp only;rw[YW],by simp[t],by simp[u],by simp only;omega,G.set Q _⟩)
      exact ⟨R,a,d⟩)
     (by
      rintro ⟨i,c1,c2,C,S,⟨⟩⟩ ⟨H,t,u,V,G⟩;simp only at H;subst H;simp only[Vr,Uf,Uh];exact ⟨_,rfl,_,rfl,rfl,rfl⟩)
    exact ⟨_,a,_,rfl,d⟩)
  exact⟨R,a,d⟩
def Vd (f t a b kind i:Int):Zp:=(2*f+a,2*t+b,kind,i,())
def trs (a:ZH):List (Int×Int×Unit) :=
 if Gb a=2 then[(0,0,()),(0,1,())]else if Gb a=3 then[(1,0,()),(1,1,())]else
  if Gb a=1 then(if GE a=1 then[(0,0,()),(1,1,())]else if GE a=2 then[(0,1,()),(1,0,())]else[(0,0,()),(0,1,()),(1,0,()),(1,1,())])else[]
theorem Zrn:Vz a=some (trs a):=by
 unfold Vz trs;repeat' split
 all_goals rfl
def Zo7 (a:ZH) (f t i:Int):List Zp:=(trs a).map (λp=>Vd f t p.1 p.2.1 1 i)
theorem Zvu (l:List Zp) (f t a b kind i:Int) (q:l.length<=1048576) (c:0<=f/\f<=1048576:=by omega) (r:0<=t/\t<=1048576:=by omega) (h:0<=a/\a<=1:=by omega) (H:0<=b/\b<=1:=by omega) :
  Zbi l f t a b kind i=some (l++[Vd f t a b kind i]):=by
 unfold Zbi Vd;rw[Zi (by simp;omega),QR (n:=2*f),QR (n:=2*t),QR (n:=2*f+a),QR (n:=2*t+b)]
def ZEg (c:ZH) (a b:Int):Bool :=
 if Gb c=1 then(if GE c=3 then true else(decide (GE c=1)==decide (a=b)))else if Gb c=2 then decide (a=0)else if Gb c=3 then decide (a=1)else false
def ZmT (c:ZH) (f t i a b:Int):List Zp:=if ZEg c a b=true then[Vd f t a b 1 i]else[]
theorem Zv4 (c:ZH) (f t i a b:Int) (l:List Zp) (q:l.length<=1048576) (e:0<=f/\f<=1048576) (r:0<=t/\t<=1048576) (h:0<=a/\a<=1) (H:0<=b/\b<=1:=by omega) :
  ZbV c f t i a l b=some (.inl (l++ZmT c f t i a b,b+1,())):=by
 unfold ZbV ZmT ZEg;rw[QP,Zvu l f t a b 1 i q e r h H,QR (n:=b+1)];simp only[Bq];by_cases d:Gb c=1
 ·simp only[d,Ui]
  by_cases s:GE c=3
  ·simp only[s,Ui]
  ·simp only[s,Uh]
   split
   ·rfl
   ·rw[Un]
 by_cases k:Gb c=2
 ·simp only[k,Ui,Int.reduceEq,Uh,Ul]
  split
  ·rfl
  ·rw[Un]
 by_cases R:Gb c=3
 ·simp only[R,Ui,Int.reduceEq,Uh,Ul]
  split
  ·rfl
  ·rw[Un]
 ·simp only[d,k,R,Uh,Ka,Un]
theorem Zpc (c:ZH) (f t i a b:Int):(ZmT c f t i a b).length<=1:=by
 unfold ZmT;split<;>simp
theorem Ztw (c:ZH) (f t i a:Int) (l:List Zp) (q:l.length<=1048000) (H:0<=f/\f<=1048576) (r:0<=t/\t<=1048576) (h:0<=a/\a<=1:=by omega) :
  Zx (λv=>ZbV c f t i a v.1 v.2.1) (l,(0:Int),())=some (.inl (l++ZmT c f t i a 0++ZmT c f t i a 1,a+1,())):=by
 have d:=Zpc c f t i a 0;have b:=Zpc c f t i a 1;rw[Xk (v':=(l++ZmT c f t i a 0,(0:Int)+1,())) (Zv4 c f t i a 0 l (by omega) H r h),
  Xk (v':=(l++ZmT c f t i a 0++ZmT c f t i a 1,(0:Int)+1+1,())) (Zv4 c f t i a (0+1) _ (by rw[Ug];omega) H r h),Xi]
 simp only[ZbV];rw[QQ,QR (n:=a+1)]
theorem ZA0 (c:ZH) (f t a:Int) (q:Gb c=1->1<=GE c/\GE c<=3):ZmT c f t a 0 0++ZmT c f t a 0 1++(ZmT c f t a 1 0++ZmT c f t a 1 1)=Zo7 c f t a:=by
 unfold ZmT ZEg Zo7 trs;by_cases d:Gb c=1
 ·have h:=q d
  by_cases s:GE c=1
  ·simp[d,s]
  by_cases S:GE c=2
  ·simp[d,S]
  ·have b:GE c=3:=by omega
   simp[d,b]
 by_cases k:Gb c=2
 ·simp[k]
 by_cases R:Gb c=3
 ·simp[R]
 ·simp[d,k,R]
theorem Zrh (l:List Zp) (c:ZH) (f t a:Int) (e:l.length<=1047000) (h:0<=f/\f<=1048576) (H:0<=t/\t<=1048576) (q:Gb c=1->1<=GE c/\GE c<=3) :
  ZjC l c f t a=some (l++Zo7 c f t a):=by
 have d:=Zpc c f t a 0 0;have b:=Zpc c f t a 0 1;unfold ZjC;have s0:Zal c f t a l 0=some (.inl (l++ZmT c f t a 0 0++ZmT c f t a 0 1,0+1,())):=by
  unfold Zal;rw[QP,Ztw c f t a 0 l (by omega) h H]
 have s:Zal c f t a (l++ZmT c f t a 0 0++ZmT c f t a 0 1) 1=some (.inl (l++ZmT c f t a 0 0++ZmT c f t a 0 1++ZmT c f t a 1 0++ZmT c f t a 1 1,1+1,())):=by
  unfold Zal;rw[QP,Ztw c f t a 1 _ (by simp only[Ug];omega) h H]
 rw[Xk (v':=(l++ZmT c f t a 0 0++ZmT c f t a 0 1,(1:Int),())) s0,Xk (v':=(l++ZmT c f t a 0 0++ZmT c f t a 0 1++ZmT c f t a 1 0++ZmT c f t a 1 1,(2:Int),())) s,Xi (r:=l++Zo7 c f t a)];simp only[Zal];rw[QQ,<-ZA0 c f t a q];simp only[Uk]
def Zxe (c:Zn) (f:Int):List Zp:=cat (λi a=>Zo7 a (f+Gk a) (f+Gp a) (i:Int)) 0 (Gh c)
theorem Zti (a:ZH):(trs a).length<=4:=by
 unfold trs;repeat' split
 all_goals simp
theorem ZiN {b:Za} (h:Z4 b) (B:x∈KY (KX b)) (f:Int) (F:0<=f/\f<=1000000:=by omega) :
  ∃c,(K9 (K4 b))[(Gq x).toNat]?=some c/\Zk3 c/\VA b x f=some (Zxe c f):=by
 obtain⟨t,⟨c,H,u⟩,_⟩:=h.ok.1.2.2.1 x B;have z:=h.ok.1.1.2.1 c (Ud H);have E:=z.2.2.1.1;refine⟨c,H,z,?_⟩;unfold VA;rw[Yw t.1 H,Bq];refine XG (l:=Gh c) (λi a=>Zo7 a (f+Gk a) (f+Gp a) (i:Int)) [] (λk a q J=>?_) ?_
 ·have o:=(z.2.2.1.2 k a q).1
  have w:=z.2.1.2.1;have s:=ZaN (f:=λi a=>Zo7 a (f+Gk a) (f+Gp a) (i:Int)) (c:=4) (l:=(Gh c).take k) (m:=0) (λi a _=>by simp only[Zo7,U1];exact Zti a);rw[Uj]at s;simp only[Uv,Qw,show(k:Int)<((Gh c).length:Int)from by omega,Ui,Zo,q,Zrn,Bq];generalize cat (λi a=>Zo7 a (f+Gk a) (f+Gp a) (i:Int)) 0 ((Gh c).take k)=A at s;have y:=Zti a;have d:∀p∈trs a,(0<=p.1/\p.1<=1)/\(0<=p.2.1/\p.2.1<=1):=by
   intro p g;unfold trs at g;repeat' split at g
   all_goals (simp only[UB,UZ,Kv]at g)
   all_goals first|(rcases g with rfl|rfl|rfl|rfl<;>simp)|(rcases g with rfl|rfl<;>simp)|exact g.elim
  have C:=o.1;have D:=o.2.1;refine(XG (l:=trs a) (ρ:=(List Zp×Int×Unit)⊕List Zp) (λ_ p=>[Vd (f+Gk a) (f+Gp a) p.1 p.2.1 1 (k:Int)]) A (good:=.inl (A++Zo7 a (f+Gk a) (f+Gp a) (k:Int),((k+1:Nat):Int),())) (λj p g G=>?_) ?_)
  ·have v:=d p (Ud g)
   have T:=ZaN (f:=λ(_:Nat) (p:Int×Int×Unit)=>[Vd (f+Gk a) (f+Gp a) p.1 p.2.1 1 (k:Int)]) (c:=1) (l:=(trs a).take j) (m:=0) (λ_ _ _=>by simp);rw[Uj]at T;simp only[XH,show(j:Int)<((trs a).length:Int)from by omega,Ui,Zo,g,Bq];rw[Zi (by rw[Ug,Uz];omega),YW,QR (n:=f+Gk a),QR (n:=f+Gp a),QR (n:=2*(f+Gk a)),QR (n:=2*(f+Gp a)),QR (n:=2*(f+Gk a)+p.1),QR (n:=2*(f+Gp a)+p.2.1)];rfl
  ·have e:cat (λ(_:Nat) (p:Int×Int×Unit)=>[Vd (f+Gk a) (f+Gp a) p.1 p.2.1 1 (k:Int)]) 0 (trs a)=Zo7 a (f+Gk a) (f+Gp a) (k:Int):=by
    unfold Zo7;generalize trs a=l;have:∀(m:Nat),cat (λ(_:Nat) (p:Int×Int×Unit)=>[Vd (f+Gk a) (f+Gp a) p.1 p.2.1 1 (k:Int)]) m l=l.map (λp=>Vd (f+Gk a) (f+Gp a) p.1 p.2.1 1 (k:Int)):=by
     induction l with
     |nil=>intro m;rfl
     |cons p r I=>intro m;simp[cat,I]
    exact this 0
   simp only[XH,Uf,Uh,e];rw[YW]
 ·simp only[Uv,Qw,Uf,Uh];rfl
theorem ZqG (d:Zb) (i j:Int) (h:Few d):Jr d i j=some (Zao (λx:Pl=>decide (x.1=i)&&decide (x.2.1=j)) (places d)):=by
 have H:=ZT h;unfold Jr;rw[ZN d h,Bq];refine QN (out:=λi=>i) (show Len (places d) by show List.length _<=_;omega) (λk x l=>?_) ?_
 ·have a:=(Ub.1 l).1
  simp only[Zbe,show(k:Int)<((places d).length:Int)from by omega,Ui,Zo,l,Bq,Ur,Ul];grind
 ·simp only[Zbe,Uf,Uh]
theorem Zr9 {α β:Type} {g:Nat->α->β}:∀{l:List α} {m j:Nat},(cat (λj n=>[g j n]) m l)[j]?=(l[j]?).map (g (m+j))
 |[],m,j=>by simp[cat]
 |x::r,m,0=>by simp[cat]
 |x::r,m,j+1=>by
  simp only[cat,U4,Uv,Kf];rw[Zr9 (l:=r) (m:=m+1) (j:=j),show m+1+j=m+(j+1) by omega]
theorem Zly {α β:Type} {g:Nat->α->β}:∀{l:List α} {m:Nat},(cat (λj n=>[g j n]) m l).length=l.length
 |[],m=>rfl
 |x::r,m=>by simp[cat,Zly (l:=r)]
theorem Zha (i:Nat) (x:Ze):(YR i x).length=(K7 x).length:=by unfold YR;rw[Zly]
def fst (d:Zb) (i:Nat):Nat:=(cat YR 0 ((KY d).take i)).length
variable {d:Zb} {i:Nat}
theorem Zso (l:(KY d)[i]?=some x):fst d (i+1)=fst d i+(K7 x).length:=by
 unfold fst;rw[ZcS l,Ug,Zha]
theorem Zkq (h:(KY d)[i]?=some x):∃B,places d=cat YR 0 ((KY d).take i)++(YR i x++B):=by
 have l:=Ub.1 h;have e:KY d=(KY d).take i++(x::(KY d).drop (i+1)):=by
  rw[<-l.2,<-Kx l.1,KG]
 refine⟨cat YR (i+1) ((KY d).drop (i+1))++cat ZbQ 0 (Ga d),?_⟩;unfold places
 conv=>lhs;rw[e]
 rw[ZeT];have q:((KY d).take i).length=i:=by grind
 rw[q,Us];simp only[cat,Uk]
theorem Zwl (h:Few d) {j:Nat} (u:(KY d)[i]?=some x) (f:j<(K7 x).length:=by omega) :
  Jr d (i:Int) (j:Int)=some ((fst d i:Int)+(j:Int)):=by
 rw[ZqG d _ _ h];obtain⟨B,e⟩:=Zkq u;congr 1;have v:(K7 x)[j]?=some (K7 x)[j]:=Ua f;have t:∀(q:Nat) (y:Pl),(YR i x)[q]?=some y->y.1=(i:Int)/\y.2.1=(q:Int):=by
  intro q y a;unfold YR at a;rw[Zr9,Us]at a;grind
 have b:∃y,(YR i x)[j]?=some y:=⟨_,Ua (by rw[Zha];exact f)⟩;obtain⟨y,a⟩:=b;have L:=t j y a;have:=Zok (p:=λx:Pl=>decide (x.1=(i:Int))&&decide (x.2.1=(j:Int))) (l:=places d) (k:=fst d i+j) (x:=y)
  (by
   rw[e,UI (by unfold fst;omega),show fst d i+j-(cat YR 0 ((KY d).take i)).length=j by unfold fst;omega,Uu (by grind)];exact a)
  (by simp[L.1,L.2])
  (λq z r T=>by
   rw[e]at T;by_cases c:q<(cat YR 0 ((KY d).take i)).length
   ·rw[Uu c]at T
    obtain⟨S,X,g,H⟩:=Xx.1 (Ud T);have m:S<i:=by
     grind
    rw[Us]at H;have:z.1=(S:Int):=by
     unfold YR at H;obtain⟨J,n,_,o⟩:=Xx.1 H;grind
    grind
   ·have s:q-(cat YR 0 ((KY d).take i)).length<j:=by unfold fst at r;omega
    grind)
 rw[this];omega
def ZhI (b:Za) (i:Nat) (x:Ze):List Zp:=match (K9 (K4 b))[(Gq x).toNat]? with
 |some c=>Zxe c (fst (KX b) i:Int)
 |none=>[]
def ZhJ (b:Za):List Zp:=cat (ZhI b) 0 (KY (KX b))
theorem Ztx (c:Zn) (f:Int) (h:(Gh c).length<=8):(Zxe c f).length<=32:=by
 have:=ZaN (f:=λi a=>Zo7 a (f+Gk a) (f+Gp a) (i:Int)) (c:=4) (l:=Gh c) (m:=0) (λi a _=>by simp only[Zo7,U1];exact Zti a);unfold Zxe;omega
theorem ZDj (h:Few d) (i:Nat):fst d i<=70:=ZeU h i
theorem Zzi {b:Za} (h:Z4 b) (i:Nat) (x:Ze) (l:x∈KY (KX b)):(ZhI b i x).length<=32:=by
 obtain⟨c,d,f,_⟩:=ZiN h l 0;unfold ZhI;rw[d];exact Ztx c _ f.2.2.1.1
theorem Zi9 {b:Za} (h:Z4 b) (k:Nat):(cat (ZhI b) 0 ((KY (KX b)).take k)).length<=448:=by
 have d:=h.ok.1.few.insts;have:=ZaN (f:=ZhI b) (c:=32) (l:=(KY (KX b)).take k) (m:=0) (λi x H=>Zzi h i x (KI H));grind
theorem Zuq {b:Za} (h:Z4 b) (p:(KY (KX b))[i]?=some x) {c:Zn} (t:(K9 (K4 b))[(Gq x).toNat]?=some c) (A:List Zp) (K:A.length<=100000:=by omega) :
  Zx (λv=>Zco b (i:Int) c v.1 v.2.1) (A,(0:Int),())=some (.inl (A++Zxe c (fst (KX b) i:Int),((i+1:Nat):Int),())):=by
 have n:=h.ok.1.few;have M:=(Ub.1 p).1;have y:=n.insts;have q:=Ud p;obtain⟨_,⟨L,H,C⟩,_⟩:=h.ok.1.2.2.1 x q;rw[t]at H;injection H with H;subst H
 have z:=h.ok.1.1.2.1 c (Ud t);have J:=z.2.2.1.1;have F:=z.2.1.2.1;have B:=ZDj n i;refine XG (l:=Gh c) (λk a=>Zo7 a ((fst (KX b) i:Int)+Gk a) ((fst (KX b) i:Int)+Gp a) (k:Int)) A (λk a g N=>?_) ?_
 ·have o:=(z.2.2.1.2 k a g).1
  have w:=ZaN (f:=λk a=>Zo7 a ((fst (KX b) i:Int)+Gk a) ((fst (KX b) i:Int)+Gp a) (k:Int)) (c:=4) (l:=(Gh c).take k) (m:=0) (λi a _=>by simp only[Zo7,U1];exact Zti a);rw[Uj]at w;simp only[Zco,show(k:Int)<((Gh c).length:Int)from by omega,Ui,Zo,g,Bq];generalize cat (λk a=>Zo7 a ((fst (KX b) i:Int)+Gk a) ((fst (KX b) i:Int)+Gp a) (k:Int)) 0 ((Gh c).take k)=r at w;have G:=o.1;have I:=o.2.1;by_cases d:Gb a<=3
  ·have E:=Zwl n p (j:=(Gk a).toNat)
   have s:=Zwl n p (j:=(Gp a).toNat);rw[show ((Gk a).toNat:Int)=Gk a by omega] at E;rw[show ((Gp a).toNat:Int)=Gp a by omega] at s;rw[Uc d,E,Bq,s,Bq,Zrh _ a _ _ _ (by grind) (by omega) (by omega) (λD=>by
    rcases o.2.2 with u|u|u
    all_goals grind),Bq,YW]
  ·rw[Ue d,YW]
   have e:Zo7 a ((fst (KX b) i:Int)+Gk a) ((fst (KX b) i:Int)+Gp a) (k:Int)=[]:=by
    unfold Zo7 trs;grind
   grind
 ·simp only[Zco,Uf,Uh]
  rw[YW];rfl
def ZuK (d:Zb) (n:Int):List Zp:=cat (λj s=>[Vd (ZhW d n) s 0 0 2 (j:Int),Vd (ZhW d n) s 1 1 2 (j:Int)]) 0 (sinks d n)
theorem ZBX (h:Few d) (n:Int):(ZuK d n).length<=156:=by
 have H:=ZaN (f:=λj s=>[Vd (ZhW d n) s 0 0 2 (j:Int),Vd (ZhW d n) s 1 1 2 (j:Int)]) (c:=2) (l:=sinks d n) (m:=0) (λ_ _ _=>by simp);have a:=Zat n (places d) 0;have g:=ZT h;unfold ZuK;have:(sinks d n).length<=78:=by unfold sinks;omega
 omega
theorem ZtC {α β γ:Type} (f:Nat->List γ):∀(l:List α) (r:List β) (m:Nat),l.length=r.length->cat (λk _=>f k) m l=cat (λk _=>f k) m r
 |[],[],_,_=>rfl
 |[],_::_,_,h=>by simp at h
 |_::_,[],_,h=>by simp at h
 |_::l,_::r,m,h=>by simp only[cat];rw[ZtC f l r (m+1) (by simpa using h)]
def Zmw (b:Za):List Zp:=cat (λv _=>ZuK (KX b) (v:Int)) 0 (KZ b)
def Zu (b:Za):List Zp:=ZhJ b++Zmw b
theorem Zlx {b:Za} (h:Z4 b) {α:Type} (l:List α):(cat (λv _=>ZuK (KX b) (v:Int)) 0 l).length<=156*l.length :=
 ZaN (f:=λv _=>ZuK (KX b) (v:Int)) (c:=156) (l:=l) (m:=0) (λv _ _=>ZBX h.ok.1.few _)
theorem Zjk {b:Za} (h:Z4 b):(ZhJ b).length<=448:=by
 have:=Zi9 h (KY (KX b)).length;rw[Uo]at this;exact this
theorem Zwa {b:Za} (h:Z4 b) {v:Nat} (a:v<(K1 (KX b)).length):0<=ZhW (KX b) (v:Int)/\ZhW (KX b) (v:Int)<((places (KX b)).length:Int):=by
 obtain⟨q,y,H,_,e,_⟩:=ZpF h.ok.1 (Jb h.sm).2.1 a;grind
theorem Zcz {b:Za} (h:Z4 b):Zbh b=some (Zu b):=by
 have d:=h.ok.1.few;have p:=d.insts;have r:=h.ok.1.2.1.2.1;have w:=ZT d;unfold Zbh;refine XG (l:=KY (KX b)) (ZhI b) [] (λi x g D=>?_) ?_
 ·have q:=Ud g
  obtain⟨u,⟨c,H,z⟩,_⟩:=h.ok.1.2.2.1 x q;have n:=Zi9 h i;simp only[Uv,ZeN,show(i:Int)<((KY (KX b)).length:Int)from by omega,Ui,Zo,g,Bq,Yw u.1 H];rw[Zuq h g H _];have e:ZhI b i x=Zxe c (fst (KX b) i:Int):=by unfold ZhI;rw[H]
  rw[e]
 ·have K:=Zjk h
  simp only[Uv,ZeN,Uf,Uh];refine XG (l:=K1 (KX b)) (λv _=>ZuK (KX b) (v:Int)) (ZhJ b) (ρ:=(List Zp×Int×Unit)⊕List Zp) (good:=.inr (Zu b)) (λv s G B=>?_) ?_
  ·have V:=Zwa h B
   have n:=Zlx h ((K1 (KX b)).take v);rw[Uj]at n;have E:Zeb (KX b) (v:Int)=some (ZhW (KX b) (v:Int)):=Zn3 _ _ d;simp only[ZeM,show(v:Int)<((K1 (KX b)).length:Int)from by omega,Ui,E,Bq,Xb _ _ d];have A:(sinks (KX b) (v:Int)).length<=78:=by
    have:=Zat (v:Int) (places (KX b)) 0;unfold sinks;omega
   generalize k:ZhJ b++cat (λv _=>ZuK (KX b) (v:Int)) 0 ((K1 (KX b)).take v)=a;have t:a.length<=10000:=by grind
   refine XG (l:=sinks (KX b) (v:Int)) (λj s=>[Vd (ZhW (KX b) (v:Int)) s 0 0 2 (j:Int),Vd (ZhW (KX b) (v:Int)) s 1 1 2 (j:Int)]) a (λj y o F=>?_) ?_
   ·have C:=Zkm (Ud o)
    have T:=ZaN (f:=λj s=>[Vd (ZhW (KX b) (v:Int)) s 0 0 2 (j:Int),Vd (ZhW (KX b) (v:Int)) s 1 1 2 (j:Int)]) (c:=2) (l:=(sinks (KX b) (v:Int)).take j) (m:=0) (λ_ _ _=>by simp);rw[Uj]at T;simp only[ZeL,show(j:Int)<((sinks (KX b) (v:Int)).length:Int)from by omega,Ui,Zo,o,Bq];rw[Zvu _ _ _ _ _ _ _ (by grind),Bq,Zvu _ _ _ _ _ _ _ (by grind),Bq,YW];grind
   ·simp only[ZeL,Uf,Uh]
    rw[YW];rfl
  ·simp only[ZeM,Uf,Uh]
   rw[ZtC (λv=>ZuK (KX b) (v:Int)) (K1 (KX b)) (KZ b) 0 h.ok.2.1.symm];rfl
structure Stand (d:Zb) (n k:Nat) (l0:List Int) (l1:List (List Int)):Prop where
 n0:l0.length=n
 n1:l1.length=n
 drv:∀(v q:Nat) (y:Pl),v<n->q<k->(places d)[q]?=some y->ZuJ (v:Int) y=true->l0[v]?=some (q:Int)
 snk:∀(v:Nat),v<n->l1[v]?=some (cat (QZ (v:Int)) 0 ((places d).take k))
noncomputable def ldF (b:Za) (v:Nat):Int:=((Y4 b (v:Int)).bind (λr=>r[0]?)).getD 0
noncomputable def edF (b:Za) (v:Nat):List Int:=(XZ b (v:Int)).getD []
theorem Zqi {b:Za} (h:Z4 b):∃v,VI b=some v/\ZM.places v=places (KX b)/\GV v=b/\ZM.links v=Zu b/\ZM.loads v=(List.range (KZ b).length).map (ldF b)/\ZM.ZiM v=(List.range (KZ b).length).map (edF b)/\ZM.extras v=[]:=by
 have V:=h.ok.1;have Y:=V.few;have a4:=(Jb h.sm).2.1;have e6:=ZT Y;have d3:=Y.insts;have e9:=h.ok.2.1;have d4:=V.2.1.2.1;have a6:=Zjk h;unfold VI;rw[ZQ _ Y,Bq];refine Zev (l:=KY (KX b)) (λk v=>v.1=(fst (KX b) k:Int)/\v.2.1=(k:Int)/\v.2.2.1=cat (ZhI b) 0 ((KY (KX b)).take k)) _ ⟨rfl,rfl,rfl⟩ ?_ ?_
 ·rintro k x ⟨n,i,c,⟨⟩⟩ o hk ⟨F,a,hc⟩
  simp only at F a hc;subst a;subst F;subst hc;have d5:=ZDj Y k;have hl:=Zi9 h k;obtain⟨c,h1,h2,h3⟩:=ZiN h (Ud o) (fst (KX b) k:Int);have d7:=Ztx c (fst (KX b) k:Int) h2.2.2.1.1;have e5:=Y.nets x (Ud o);simp only[Za2,show(k:Int)<((KY (KX b)).length:Int)from by omega,Ui,Zo,o,h3,Bq,VE];rw[Ra];refine⟨_,rfl,?_,?_,?_⟩
  ·simp only;rw[QR,Zso o];omega
  ·simp only;rw[YW]
  ·simp only
   rw[ZcS o];congr 1;unfold ZhI;rw[h1]
 ·rintro⟨n,i,c0,⟨⟩⟩ ⟨_,a,A⟩
  simp only at a A;subst a;rw[Uo]at A;have b5:c0.length<=448:=by rw[A];exact a6
  simp only[Za2,Uf,Uh];rw[Ra,Ra,Ra,Ra,Ra];obtain⟨r,u,R,rfl,z⟩:=Zev (l:=places (KX b)) (ρ:=(Int×Int×List Zp×Unit)⊕ZM) (step:=λv=>Vs b (places (KX b)) c0 v.1 v.2.1 v.2.2.1) (v:=((0:Int),List.replicate (Int.toNat (↑(List.length (KZ b)):Int)) (0:Int),List.replicate (Int.toNat (↑(List.length (KZ b)):Int)) (([]:List Int)),()))
   (λk v=>v.1=(k:Int)/\Stand (KX b) (KZ b).length k v.2.1 v.2.2.1)
   (λr=>∃R,r=.inr R/\ZM.places R=places (KX b)/\GV R=b/\ZM.links R=Zu b/\ZM.loads R=(List.range (KZ b).length).map (ldF b)/\ZM.ZiM R=(List.range (KZ b).length).map (edF b)/\ZM.extras R=[])
   ⟨rfl,by simp,by simp,λv q y _ hq=>by omega,λv G=>by
    rw[Kt];simp only[cat];rw[Kb,QP]⟩
   (by
    rintro k x ⟨i,l0,O,⟨⟩⟩ o hk ⟨a,g⟩;simp only at a g;subst a;have F:=Qe V (Ud o);have e4:=F.2;have b7:0<=x.2.2.1:=F.1;have e8:ZL.net x=x.2.2.1:=rfl;simp only[Vs,show(k:Int)<((places (KX b)).length:Int)from by omega,Ui,Zo,o,Bq];have B:=g.n0;have a0:=g.n1;obtain⟨q,b2,_⟩:=ZgM (l:=l0) F.1;obtain⟨p,a2,_⟩:=ZgM (l:=O) F.1;have a3:p=cat (QZ x.2.2.1) 0 ((places (KX b)).take k):=by
     have e:=g.snk (x.2.2.1).toNat (by omega);have M:O[(x.2.2.1).toNat]?=some p:=by
      have:=a2;unfold atI at this;rw[Uc F.1]at this;exact this
     rw[e]at M;injection M with M
     rw[<-M,show((x.2.2.1).toNat:Int)=x.2.2.1 by omega]
    have d0:p.length<=78:=by
     rw[a3];have:=Zat x.2.2.1 ((places (KX b)).take k) 0;rw[Uj]at this;omega
    by_cases N:x.2.2.2.1=true
    ·rw[Uc N,show atI l0 (ZL.net x)=some q from b2,Bq]
     refine⟨_,rfl,by simp only;rw[YW],?_,?_,?_,?_⟩
     ·simp[B]
     ·exact a0
     ·intro v P y G b0 d H
      simp only;rw[UN];by_cases t:(ZL.net x).toNat=v
      ·rw[Uc t,QP]
       obtain⟨q',_,_,_,_,I⟩:=ZpF V a4 (v:=v);have b4:ZuJ (v:Int) x=true:=by
        unfold ZuJ;have:x.2.2.1=(v:Int):=by rw[<-t];show x.2.2.1=((x.2.2.1).toNat:Int);omega
        simp[this,N]
       have e1:=I k x o b4;have M:=I P y d H;rw[e1,M]
      ·rw[Ue t]
       have b1:P≠k:=by
        intro e;subst e;rw[o]at d;injection d with d
        subst d;unfold ZuJ at H;simp only[Ur,Ul]at H;exact t (by show(x.2.2.1).toNat=v;omega)
       exact g.drv v P y G (by omega) d H
     ·intro v G
      simp only;rw[g.snk v G,ZcS o];congr 1;have:QZ (v:Int) k x=[]:=by
       unfold QZ;rw[Uc N];split<;>rfl
      rw[this,Un]
    ·rw[Ue N,show atI O (ZL.net x)=some p from a2,Bq,Zi (by simp;omega)]
     refine⟨_,rfl,by simp only;rw[YW],B,?_,?_,?_⟩
     ·simp[a0]
     ·intro v P y G b0 d H
      have b1:P≠k:=by
       intro e;subst e;rw[o]at d;injection d with d
       subst d;unfold ZuJ at H;simp only[Ur]at H;exact N H.2
      exact g.drv v P y G (by omega) d H
     ·intro v G
      simp only;rw[UN,ZcS o];by_cases t:(ZL.net x).toNat=v
      ·have C:x.2.2.1=(v:Int):=by rw[<-t];show x.2.2.1=((x.2.2.1).toNat:Int);omega
       rw[Uc t,QP,a3,C];unfold QZ;rw[Uc C,Ue N]
      ·have C:¬x.2.2.1=(v:Int):=λe=>t (by show(x.2.2.1).toNat=v;omega)
       rw[Ue t,g.snk v G];have:QZ (v:Int) k x=[]:=by unfold QZ;rw[Ue C]
       rw[this,Un])
   (by
    rintro⟨i,l0,O,⟨⟩⟩ ⟨a,g⟩;simp only at a g;subst a;simp only[Vs,Uf,Uh];have d6:=g.n0;obtain⟨r,u,R,rfl,z⟩:=Zev (l:=KZ b) (ρ:=(Int×List Int×List (List Int)×Unit)⊕((Int×Int×List Zp×Unit)⊕ZM)) (step:=λv=>Vr b (places (KX b)) l0 v.1 v.2.1 v.2.2.1 v.2.2.2.1 v.2.2.2.2.1) (v:=((0:Int),([]:List Int),([]:List (List Int)),c0,O,()))
     (λk v=>v.1=(k:Int)/\v.2.1=(List.range k).map (ldF b)/\v.2.2.1=(List.range k).map (edF b)/\v.2.2.2.1=c0++cat (λv _=>ZuK (KX b) (v:Int)) 0 ((KZ b).take k)/\v.2.2.2.2.1=O)
     (λr=>∃R,r=.inr (.inr R)/\ZM.places R=places (KX b)/\GV R=b/\ZM.links R=Zu b/\ZM.loads R=(List.range (KZ b).length).map (ldF b)/\ZM.ZiM R=(List.range (KZ b).length).map (edF b)/\ZM.extras R=[])
     ⟨rfl,rfl,rfl,by simp[cat],rfl⟩
     (by
      rintro k w ⟨i,c1,c2,Q,l2,⟨⟩⟩ hw hk ⟨a,S,T,J,g4⟩;simp only at a S T J g4;subst a;subst g4;have d8:Q.length<=5200:=by
       have:=Zlx h ((KZ b).take k);rw[Uj]at this;rw[J,Ug];omega
      obtain⟨nl,a1,b8⟩:=Zjo h hw;obtain⟨ed,W,b6⟩:=Zka h hw;have b9:=(h.ok.2.2 k w hw).1.1;have d1:c1.length=k:=by rw[S];simp
      have d2:c2.length=k:=by rw[T];simp
      have a8:ldF b k=nl[0]:=by
       unfold ldF;rw[a1,Bq,Ua (by omega)];rfl
      have X:edF b k=ed:=by
       unfold edF;rw[W];rfl
      have B:atI nl (0:Int)=some nl[0]:=(show nl[0]?=some nl[0]from Ua (by omega));have Z:=g.snk k hk;rw[Uo]at Z;obtain⟨D,dy,L,H,a5,_⟩:=ZpF V a4 (v:=k);have a7:=g.drv k D dy hk (Ub.1 L).1 L H;have e3:=(Ub.1 L).1;have E:l2[k]?=some (sinks (KX b) (k:Int)):=Z;have e7:(sinks (KX b) (k:Int)).length<=78:=by
       have:=Zat (k:Int) (places (KX b)) 0;unfold sinks;omega
      simp only[Vr,show(k:Int)<((KZ b).length:Int)from by omega,Ui,a1,B,W,Bq,Zo,E];rw[Zi (by simp;omega),Zi (by simp;omega)];obtain⟨r,u,R,rfl,z⟩:=Zev (l:=sinks (KX b) (k:Int)) (ρ:=(Int×List Int×List (List Int)×List Zp×List (List Int)×Unit)⊕((Int×List Int×List (List Int)×Unit)⊕((Int×Int×List Zp×Unit)⊕ZM))) (step:=λv=>Vq l0 (k:Int) c1 c2 l2 nl[0] ed (sinks (KX b) (k:Int)) v.1 v.2.1) (v:=((0:Int),Q,()))
       (λm v=>v.1=(m:Int)/\v.2.1=Q++cat (λj s=>[Vd (ZhW (KX b) (k:Int)) s 0 0 2 (j:Int),Vd (ZhW (KX b) (k:Int)) s 1 1 2 (j:Int)]) 0 ((sinks (KX b) (k:Int)).take m))
       (λr=>∃R,r=.inl R/\R.1=((k+1:Nat):Int)/\R.2.1=(List.range (k+1)).map (ldF b)/\R.2.2.1=(List.range (k+1)).map (edF b)/\R.2.2.2.1=c0++cat (λv _=>ZuK (KX b) (v:Int)) 0 ((KZ b).take (k+1))/\R.2.2.2.2.1=l2)
       ⟨rfl,by simp[cat]⟩
       (by
        rintro m y ⟨i,U,⟨⟩⟩ d hm ⟨a,K⟩;simp only at a K;subst a;have f0:=Zkm (Ud d);have d9:U.length<=6000:=by
         have:=ZaN (f:=λj s=>[Vd (ZhW (KX b) (k:Int)) s 0 0 2 (j:Int),Vd (ZhW (KX b) (k:Int)) s 1 1 2 (j:Int)]) (c:=2) (l:=(sinks (KX b) (k:Int)).take m) (m:=0) (λ_ _ _=>by simp);rw[Uj]at this;rw[K,Ug];omega
        simp only[Vq,show(m:Int)<((sinks (KX b) (k:Int)).length:Int)from by omega,Ui,Zo,d,Bq];have st:∀(j:Nat) (c5:List Zp),j<2->c5.length<=6100->QF l0 (k:Int) (m:Int) y (j:Int) c5=some (.inl (((j+1:Nat):Int),c5++[Vd (D:Int) y (j:Int) (j:Int) 2 (m:Int)],())):=by
         intro j c5 hj e0;simp only[QF,show(j:Int)<(2:Int)from by omega,Ui,Zo,a7,Bq];rw[Zi (by simp;omega),QR (n:=2*(D:Int)),QR (n:=2*(D:Int)+(j:Int)),QR (n:=2*y),QR (n:=2*y+(j:Int)),YW];rfl
        have s0:=st 0 U (by omega) (by omega);have s1:=st 1 (U++[Vd (D:Int) y ((0:Nat):Int) ((0:Nat):Int) 2 (m:Int)]) (by omega) (by simp;omega);have b3:Zx (λv=>QF l0 (k:Int) (m:Int) y v.1 v.2.1) ((0:Int),U,())=some (.inl (((m+1:Nat):Int),U++[Vd (D:Int) y ((0:Nat):Int) ((0:Nat):Int) 2 (m:Int)]++[Vd (D:Int) y ((1:Nat):Int) ((1:Nat):Int) 2 (m:Int)],())):=by
         rw[Xk (v':=(((0+1:Nat):Int),U++[Vd (D:Int) y ((0:Nat):Int) ((0:Nat):Int) 2 (m:Int)],())) s0,Xk (v':=(((1+1:Nat):Int),U++[Vd (D:Int) y ((0:Nat):Int) ((0:Nat):Int) 2 (m:Int)]++[Vd (D:Int) y ((1:Nat):Int) ((1:Nat):Int) 2 (m:Int)],())) s1,Xi];simp only[QF];rw[QQ,YW]
        refine ⟨_,b3,rfl,?_⟩;simp only;rw[K,ZcS d,a5];simp only[Uk,U4,Uv,Int.natCast_zero,Int.natCast_one])
       (by
        rintro⟨i,U,⟨⟩⟩ ⟨a,K⟩;simp only at a K;subst a;rw[Uo]at K;simp only[Vq,Uf,Uh];refine⟨_,rfl,_,rfl,by simp only;rw[YW],by simp only;rw[S,List.range_succ,U8,List.map_singleton,a8],by simp only;rw[T,List.range_succ,U8,List.map_singleton,X],?_,?_⟩
        ·simp only
         rw[K,J,ZcS hw,Uk];rfl
        ·simp only
         apply Ux;intro i;rw[UN];split
         ·rename_i e
          have e:k=i:=by simpa using e
          subst e;rw[E];split
          ·rfl
          ·rename_i a9
           exact absurd (by have:=g.n1;simpa using(show k<l2.length by omega)) a9
         ·rfl)
      exact ⟨R,u,z⟩)
     (by
      rintro ⟨i,c1,c2,Q,l2,⟨⟩⟩ ⟨a,S,T,J,g4⟩;simp only at a J;subst a;rw[Uo] at J;simp only[Vr,Uf,Uh];refine ⟨_,rfl,_,rfl,rfl,rfl,?_,S,T,rfl⟩;show Q=Zu b;rw[J,A];rfl)
    exact ⟨_,u,_,rfl,z⟩)
  exact⟨R,u,z⟩
theorem ZxI {b:Za} (h:Z4 b):∃v,VI b=some v/\ZM.places v=places (KX b)/\GV v=b/\ZM.links v=Zu b:=by
 obtain⟨v,d,f,g,i,_⟩:=Zqi h;exact⟨v,d,f,g,i⟩
def Zdd (n:Nat) (br:List Int):List Bool:=(List.range n).map (λ(k:Nat)=>!decide ((k:Int)∈br))
theorem Zf5 (n:Nat) (br:List Int):(Zdd n br).length=n:=by simp[Zdd]
theorem ZiF (l:List Int) (x:Int) (q:l.length<=1048576:=by omega):Zgg l x=some (decide (x∈l)):=by
 unfold Zgg;rw[QN (l:=l) (p:=λy=>decide (y=x)) (out:=λi=>decide (0<=i)) (show List.length _<=_ by omega) (λk y H=>by
  have a:=(Ub.1 H).1;simp only[Zgh,show(k:Int)<(l.length:Int)from by omega,Ui,Zo,H,Bq,Ul];split
  ·rw[UQ (by omega)]
  ·rfl) (by simp only[Zgh,Uf,Uh];rfl)]
 congr 1;rw[Ks,Vi,KN];constructor
 ·rintro⟨y,H,e⟩;simp at e;subst e;exact H
 ·intro h;exact⟨x,h,by simp⟩
theorem ZhQ (L:List Zp) (br:List Int) (o:L.length<=6000) (b:br.length<=1048576):Ze3 L br=some (Zdd L.length br):=by
 have e:cat (λk (_:Zp)=>[!decide ((k:Int)∈br)]) 0 L=Zdd L.length br:=by
  apply Ux;intro j;rw[Zr9];unfold Zdd;rw[UK,Us];by_cases h:j<L.length
  ·rw[Ua h,Ku h];rfl
  ·rw[Uy (by omega),Uy (by simp;omega)];rfl
 unfold Ze3;refine XG (l:=L) (λk (_:Zp)=>[!decide ((k:Int)∈br)]) [] (λk x a H=>?_) ?_
 ·have d:(cat (λk (_:Zp)=>[!decide ((k:Int)∈br)]) 0 (L.take k)).length=(L.take k).length:=Zly
  rw[Uj]at d;simp only[Uv,ZfO,show(k:Int)<(L.length:Int)from by omega,Ui,ZiF br _ b,Bq];rw[Zi (by rw[Uz];omega),YW]
 ·simp only[Uv,ZfO,Uf,Uh,e]
theorem Zxv {n:Nat} {s:List Int} {x:Int} (m:0<=x) (d:x<(n:Int):=by omega):List.set (Zdd n s) (Int.toNat x) false=Zdd n (s++[x]):=by
 apply Ux;intro j;rw[UN];unfold Zdd;rw[UK,UK,U1,List.length_range];by_cases b:j<n
 ·rw[Ku b]
  by_cases e:x.toNat=j
  ·rw[Uc e,QP]
   have:(j:Int)=x:=by omega
   simp[this]
  ·rw[Ue e]
   have:¬(j:Int)=x:=by omega
   simp[this]
 ·rw[Uy (l:=List.range n) (by simp;omega)]
  split
  ·rw[QQ];rfl
  ·rfl
theorem ZrD (v:ZM) (br:List Int) (r:(ZM.links v).length<=6000) (d:ZiI br 0 (((ZM.links v).length:Int)-1)) (g:br.length<=1048576):VY v br=some (v,Zdd (ZM.links v).length br,()):=by
 unfold VY;rw[Ra,Ra,Ra,Ra];generalize f:(ZM.links v).length=n at *;have H:List.length (List.replicate (Int.toNat (n:Int)) false)=n:=by simp
 have D:Zx (λw=>Vt v br w.1 w.2.1) ((0:Int),List.replicate n true,())=some (.inr (v,Zdd n br,())):=by
  have:=YP (l:=br) (ρ:=(Int×List Bool×Unit)⊕ZO) (λk=>((k:Int),Zdd n (br.take k),())) (step:=λw=>Vt v br w.1 w.2.1) (good:=.inr (v,Zdd n br,()))
   (λk x b o=>by
    have c:=d x (Ud b);obtain ⟨y,p,_⟩:=ZgM (l:=Zdd n (br.take k)) c.1 (by rw[Zf5];omega);simp only[Vt,show (k:Int)<(br.length:Int) from by omega,Ui,Zo,b,p,Bq];rw[Zxv c.1,Xa b,YW])
   (by simp only[Vt,Uf,Uh,Uo])
  have E:Zdd n (br.take 0)=List.replicate n true:=by
   apply Ux;intro j;simp only[Zdd,Kt,UZ,decide_false,Bool.not_false,UK,Kb];by_cases h:j<n
   ·simp[h]
   ·simp[h]
  rw[<-E];exact this
 refine XC n (λk w=>w.1=(k:Int)/\w.2.1.length=n/\∀j,j<k->w.2.1[j]?=some true) _ ⟨rfl,by simp,λj m=>by omega⟩ ?_ ?_
 ·rintro k ⟨i,l,⟨⟩⟩ o ⟨a,q,s⟩
  simp only at a q s;subst a;have b:l[k]?=some l[k]:=Ua (by omega);left;simp only[Zcf,f,H,show(k:Int)<(n:Int)from by omega,Ui,Zo,b,Bq];refine⟨_,rfl,by simp only;rw[YW],by simp[q],λj m=>?_⟩;simp only[Up];rw[UN];split
  ·rw[QP]
  ·exact s j (by omega)
 ·rintro⟨i,l,⟨⟩⟩ ⟨a,q,s⟩
  simp only at a q s;subst a;have e:l=List.replicate n true:=by
   apply Ux;intro j;rw[Kb];by_cases h:j<n
   ·rw[s j h,Uc h]
   ·rw[Uy (by omega),Ue h]
  simp only[Zcf,f,H,Uf,Uh];rw[e];exact D
def Zit (n:Int) (l:List Int):Prop:=ZiI l 0 (n-1)/\Inc l
theorem ZEm {l:List Int}:Inc l<->Zee l (λk x=>∀y,0<k->l[k-1]?=some y->y<x):=by
 constructor
 ·intro h k x H y a i
  exact h (k-1) y x i (by rw[show k-1+1=k by omega];exact H)
 ·intro h k x y H i
  exact h (k+1) y i x (by omega) H
theorem Zn4 (l:List Int) (n:Int) (e:l.length<=1048576) (f:0<=n/\n<=1048576:=by omega):Zgx l n=some (tr (Zit n l)):=by
 have E:Wq (n-1)=n-1:=QR;unfold Zgx;rw[V3 (l:=l) (show List.length _<=_ by omega) (λk x=>(0<=x/\x<=n-1)/\∀ y,0<k->l[k-1]?=some y->y<x) (bad:=false) (good:=true)
  (λk x h d _=>by
   simp only[Zd4,show(k:Int)<(l.length:Int)from by omega,Ui,Zo,h,Bq,JB,E];by_cases b:0<=x/\x<=n-1
   ·rw[Uc (ZX b)]
    by_cases m:(0:Int)<(k:Int)
    ·obtain⟨y,i⟩:∃y,l[k-1]?=some y:=⟨_,Ua (by omega)⟩
     rw[Uc m,Zk9,Zo,i,Bq];constructor
     ·intro r
      rw[Ue];have:=r.2 y (by omega) rfl;omega
     ·intro r
      rw[Uc];apply UT;intro t;refine r ⟨b,λY _ H=>?_⟩;injection H with H
      have:¬x<=y:=t;omega
    ·rw[Ue m]
     exact⟨λ_=>rfl,λr=>absurd ⟨b,λy a=>by omega⟩ r⟩
   ·rw[Ue (λq=>b ((YL _).1 q))]
    exact ⟨λr=>absurd r.1 b,λ_=>rfl⟩)
  (λ_=>by simp only[Zd4,Uf,Uh]),ZiV]
 congr 1;refine J6 ?_;unfold Zit;rw[ZEm];constructor
 ·intro q
  exact⟨Zef.1 (λk x h=>(q k x h).1),λk x h=>(q k x h).2⟩
 ·rintro⟨Q,c⟩ k x h
  exact⟨Q x (Ud h),c k x h⟩
theorem Zji (l:List Int) (n:Int) (q:l.length<=1048576):((XT l 0 n).bind λb=>if b=true then(VX l).bind λc=>some c else some false)=some (tr (ZiI l 0 n/\Inc l)) :=
 Xm (Zh1 _ _ _ q) (λ_=>ZaM (ZgZ _ (show List.length _<=_ by omega)))
theorem Zb6 {b:Za} (h:Z4 b) {l:Zp} (q:l∈Zu b):(0<=Gd l/\Gd l<2*((places (KX b)).length:Int))/\(0<=Gf l/\Gf l<2*((places (KX b)).length:Int)):=by
 have J:=h.ok.1.few;unfold Zu at q;rcases Ut.1 q with q|q
 ·obtain⟨i,x,m,H⟩:=Xx.1 q
  rw[Us]at H;obtain⟨I,⟨c,f,u⟩,_⟩:=h.ok.1.2.2.1 x (Ud m);have z:=h.ok.1.1.2.1 c (Ud f);unfold ZhI at H;rw[f]at H;obtain⟨k,a,t,d⟩:=Xx.1 H;have o:=(z.2.2.1.2 k a t).1;have F:=o.1;have G:=o.2.1;obtain⟨B,r⟩:=Zkq m;have n:fst (KX b) i+(K7 x).length<=(places (KX b)).length:=by
   rw[r,Ug,Ug,Zha];unfold fst;omega
  unfold Zo7 at d;obtain⟨p,g,rfl⟩:=Kg.1 d;have C:(0<=p.1/\p.1<=1)/\(0<=p.2.1/\p.2.1<=1):=by
   unfold trs at g;repeat' split at g
   all_goals (simp only[UB,UZ,Kv]at g)
   all_goals first|(rcases g with rfl|rfl|rfl|rfl<;>simp)|(rcases g with rfl|rfl<;>simp)|exact g.elim
  simp only[Vd,Gd,Gf];omega
 ·obtain⟨v,w,E,H⟩:=Xx.1 q
  rw[Us]at H;have D:v<(K1 (KX b)).length:=by
   have:=(Ub.1 E).1;have:=h.ok.2.1;omega
  have N:=Zwa h D;obtain⟨j,s,y,e⟩:=Xx.1 H;have A:=Zkm (Ud y);simp only[UB,UZ,Kv]at e;rcases e with rfl|rfl
  ·simp only[Vd,Gd,Gf];omega
  ·simp only[Vd,Gd,Gf];omega
theorem QC {b:Za} (h:Z4 b):(Zu b).length<=6000:=by
 have d:=Zjk h;have f:=Zlx h (KZ b);have g:=h.ok.2.1;have i:=h.ok.1.2.1.2.1;unfold Zu Zmw;rw[Ug];omega
def ZFt (b:Za) (x:Zp) (y:Pl):Prop:=GL x=1/\∃(i:Nat) (u:Ze) (c:Zn) (k:Nat) (a:ZH),y.1=(i:Int)/\(KY (KX b))[i]?=some u/\0<=Gq u/\(K9 (K4 b))[(Gq u).toNat]?=some c/\
 (Gh c)[k]?=some a/\GU x=(k:Int)/\ZdP (GF a) true/\ZdP (GM a) true
def ZHC (b:Za) (x:Zp) (v:Nat):Prop:=GL x=2/\∃(w:Zq) (j:Nat) (z:Int),(KZ b)[v]?=some w/\GU x=(j:Int)/\(Gm w)[j]?=some z
structure Zyj (b:Za) (x:Zp) (y:Pl) (v:Nat):Prop where
 to0:0<=Gf x
 to1:Gf x<=1000000
 place:(places (KX b))[(Gf x/2).toNat]?=some y
 net:y.2.2.1=(v:Int)
 few:v<(KZ b).length
 kind:ZFt b x y\/ZHC b x v
variable {x:Zp}
theorem Zp7 {b:Za} (h:Z4 b) (l:x∈Zu b):∃y v,Zyj b x y v:=by
 have V:=h.ok.1.few;have X:=ZT V;have e:=Zb6 h l;have Z:=h.ok.2.1;unfold Zu at l;rcases Ut.1 l with l|l
 ·obtain⟨i,u,C,z⟩:=Xx.1 l
  rw[Us]at z;obtain⟨S,⟨c,f,U⟩,r⟩:=h.ok.1.2.2.1 u (Ud C);have R:=h.ok.1.1.2.1 c (Ud f);unfold ZhI at z;rw[f]at z;obtain⟨k,a,K,g⟩:=Xx.1 z;rw[Us]at g;have o:=(R.2.2.1.2 k a K).1;have h1:=o.1;have h2:=o.2.1;obtain⟨B,Q⟩:=Zkq C;unfold Zo7 at g;obtain⟨p,L,rfl⟩:=Kg.1 g;have J:(0<=p.2.1/\p.2.1<=1)/\(Gb a=1\/Gb a=2\/Gb a=3):=by
   unfold trs at L;repeat' split at L
   all_goals grind
  obtain⟨ht,hk⟩:=J;have H:ZdP (GF a) true/\ZdP (GM a) true:=by
   rcases o.2.2 with q|q|q
   all_goals grind
  have D:(K7 u)[(Gp a).toNat]?=some ((K7 u)[(Gp a).toNat]'(by omega)):=Ua _;have t:=r _ (Ud D);generalize (K7 u)[(Gp a).toNat]'(by omega)=n at D t;have F:0<=n/\n<=((K1 (KX b)).length:Int)-1:=t;have d:(cat YR 0 ((KY (KX b)).take i)).length=fst (KX b) i:=rfl;have E:Gf (Vd ((fst (KX b) i:Nat)+Gk a) ((fst (KX b) i:Nat)+Gp a) p.1 p.2.1 1 (k:Int))=2*((fst (KX b) i:Int)+Gp a)+p.2.1:=rfl;have I:((2*((fst (KX b) i:Int)+Gp a)+p.2.1)/2).toNat=fst (KX b) i+(Gp a).toNat:=by omega
  refine⟨((i:Int),((Gp a).toNat:Int),n,decide (((Gp a).toNat:Int)=Wq (((K7 u).length:Int)-1)),()),n.toNat,e.2.1,by grind,?_,by show n=_;omega,by omega,.inl ⟨rfl,i,u,c,k,a,rfl,C,S.1,f,K,rfl,H.1,H.2⟩⟩;rw[E,I,Q,UI (by rw[d];omega),d,Nat.add_sub_cancel_left,Uu (by rw[Zha];omega)];unfold YR;rw[Zr9,D,Us];rfl
 ·obtain⟨v,w,A,z⟩:=Xx.1 l
  rw[Us]at z;have O:=(Ub.1 A).1;obtain⟨j,s,N,m⟩:=Xx.1 z;rw[Us]at m;have Y:((Gm w).length:Int)=((sinks (KX b) (v:Int)).length:Int):=(h.ok.2.2 v w A).2.2.2.1;have W:=(Ub.1 N).1;have T:(Gm w)[j]?=some ((Gm w)[j]'(by omega)):=Ua _;obtain⟨q,y,M,P⟩:=Xx.1 (show s∈cat (QZ (v:Int)) 0 (places (KX b))from Ud N);rw[Us]at P;have G:s=(q:Int)/\y.2.2.1=(v:Int):=by
   unfold QZ at P;grind
  obtain⟨rfl,t⟩:=G;simp only[UB,UZ,Kv]at m;rcases m with rfl|rfl
  ·refine⟨y,v,e.2.1,by grind,?_,t,O,.inr ⟨rfl,w,j,_,A,rfl,T⟩⟩
   rw[show Gf (Vd (ZhW (KX b) (v:Int)) (q:Int) 0 0 2 (j:Int))=2*(q:Int)+0 from rfl,show((2*(q:Int)+0)/2).toNat=q by omega];exact M
  ·refine⟨y,v,e.2.1,by grind,?_,t,O,.inr ⟨rfl,w,j,_,A,rfl,T⟩⟩
   rw[show Gf (Vd (ZhW (KX b) (v:Int)) (q:Int) 1 1 2 (j:Int))=2*(q:Int)+1 from rfl,show((2*(q:Int)+1)/2).toNat=q by omega];exact M
def ZAS (n r:Nat):Prop:=r*r<=n/\n<(r+1)*(r+1)
variable {r:Nat}
theorem ZCd {n:Nat} (h:ZAS n r) (k:Nat):k<=r<->k*k<=n:=by
 constructor
 ·intro q
  exact Kl (Km q q) h.1
 ·intro q
  by_cases c:k<=r
  ·exact c
  ·have:(r+1)*(r+1)<=k*k:=Km (by omega) (by omega)
   have:=h.2;omega
theorem ZDt (k:Nat):(2*k)*(2*k)=4*(k*k):=by
 grind
variable {S:Nat}
theorem ZCc {R:Nat} (h:ZAS S r) (H:ZAS (4*S) R):r/500=R/1000:=by
 have e:∀q:Nat,500*q<=r<->1000*q<=R:=λq=>by
  rw[ZCd h,ZCd H,show 1000*q=2*(500*q) by omega,ZDt];omega
 have E:=e (r/500);have i:=e (R/1000);omega
def upQ (x n:Nat):Nat:=if x%n=0 then x/n else x/n+1
theorem ZDF {x n q:Nat} (f:0<n):upQ x n<=q<->x<=n*q:=by
 unfold upQ;have d:=Nat.div_add_mod x n;have H:=Nat.mod_lt x f;constructor
 ·intro h
  split at h
  ·rename_i c
   have:=Nat.mul_le_mul_left n h;omega
  ·have:=Nat.mul_le_mul_left n h
   grind
 ·intro h
  split
  ·rename_i c
   refine Nat.le_of_mul_le_mul_left (c:=n) ?_ f;omega
  ·rename_i c
   have:n*(x/n)<n*q:=by omega
   have:=Nat.lt_of_mul_lt_mul_left this;omega
theorem ZEL {R:Nat} (h:ZAS S r) (H:ZAS (4*S) R):(if r*r<S then r/500+1 else upQ r 500)=upQ (if R*R<4*S then R+1 else R) 1000:=by
 have p:∀{n x:Nat},ZAS n x->∀k,(if x*x<n then x+1 else x)<=k<->n<=k*k:=by
  intro n x l k;split
  ·rename_i c
   constructor
   ·intro q
    have:(x+1)*(x+1)<=k*k:=Km q q;have:=l.2;omega
   ·intro q
    by_cases w:x+1<=k
    ·exact w
    ·have:k*k<=x*x:=Km (by omega) (by omega)
     omega
  ·rename_i c
   have e:x*x=n:=by have:=l.1;omega
   constructor
   ·intro q
    rw[<-e];exact Km q q
   ·intro q
    by_cases w:x<=k
    ·exact w
    ·have:(k+1)*(k+1)<=x*x:=Km (by omega) (by omega)
     grind
 have E:∀q,(if r*r<S then r/500+1 else upQ r 500)<=q<->S<=(500*q)*(500*q):=λq=>by
  rw[<-p h (500*q)];split
  ·omega
  ·exact ZDF (by decide)
 have i:∀q,upQ (if R*R<4*S then R+1 else R) 1000<=q<->S<=(500*q)*(500*q):=λq=>by
  rw[ZDF (by decide),p H,show 1000*q=2*(500*q) by omega,ZDt];omega
 generalize (if r*r<S then r/500+1 else upQ r 500)=A at E ⊢;generalize upQ (if R*R<4*S then R+1 else R) 1000=B at i ⊢;have a:=(i A).2 ((E A).1 (UO _));have c:=(E B).2 ((i B).1 (UO _));omega
variable {ρ:Type}
theorem Zui {n H:Nat} (i:n<(H+1)*(H+1)) {step:Int×Int×Unit->Option ((Int×Int×Unit)⊕ρ)} {good:Nat->ρ}
  (b:∀o l:Nat,o<l->l<=H->step ((o:Int),(l:Int),())=some (.inl (if(o+l+1)/2*((o+l+1)/2)<=n then((((o+l+1)/2:Nat):Int),(l:Int),())else((o:Int),(((o+l+1)/2-1:Nat):Int),()))))
  (f:∀o:Nat,o<=H->step ((o:Int),(o:Int),())=some (.inr (good o))):∃r,ZAS n r/\r<=H/\Zx step ((0:Int),(H:Int),())=some (good r):=by
 obtain⟨x,e,r,rfl,F,q⟩:=Zgi (step:=step) (v:=((0:Int),(H:Int),())) (λv=>∃o l:Nat,v=((o:Int),(l:Int),())/\o<=l/\l<=H/\o*o<=n/\n<(l+1)*(l+1)) (λv=>(v.2.1-v.1).toNat) (λx=>∃r,x=good r/\ZAS n r/\r<=H)
  ⟨0,H,rfl,by omega,by omega,by omega,i⟩ (by
   rintro _ ⟨o,l,rfl,g,z,a,h⟩;by_cases c:o<l
   ·left
    refine⟨_,b o l c z,?_,?_⟩
    ·split
     ·rename_i d
      exact⟨_,_,rfl,by omega,z,d,h⟩
     ·rename_i d
      refine⟨_,_,rfl,by omega,by omega,a,?_⟩;rw[show(o+l+1)/2-1+1=(o+l+1)/2 by omega];omega
    ·split
     ·simp only;omega
     ·simp only;omega
   ·right
    have:o=l:=by omega
    subst this;exact ⟨_,f o z,o,rfl,⟨a,h⟩,z⟩)
 grind
theorem ZDl {o l:Nat} (h:o+l<=8000000000:=by omega):Wq (Int.tdiv (Wq (Wq ((o:Int)+(l:Int))+(1:Int))) (2:Int))=(((o+l+1)/2:Nat):Int):=by
 rw[QR (n:=(o:Int)+(l:Int)),QR (n:=(o:Int)+(l:Int)+1),U0 (by omega),QR];omega
theorem ZCq (h:m<=3000000000:=by omega):Wq ((m:Int)*(m:Int))=((m*m:Nat):Int):=by
 have:=Km h h;rw[<-Int.natCast_mul];generalize m*m=q at this ⊢;exact QR
theorem ZtS (s:S<(3000000000+1)*(3000000000+1):=by omega):∃r,ZAS S r/\r<=3000000000/\Zmq (S:Int)=some (r:Int):=by
 unfold Zmq;refine Zui (n:=S) (H:=3000000000) (good:=λr=>(r:Int)) s (λo l t z=>?_) (λo q=>?_)
 ·show Zdb (S:Int) (o:Int) (l:Int)=_
  unfold Zdb;rw[QP,ZDl,ZCq];by_cases c:(o+l+1)/2*((o+l+1)/2)<=S
  ·rw[Uc c,QP]
  ·rw[Ue c,QQ,QR,show(((o+l+1)/2:Nat):Int)-1=(((o+l+1)/2-1:Nat):Int) by omega]
 ·show Zdb (S:Int) (o:Int) (o:Int)=_
  unfold Zdb;rw[Ue (Uf _)]
variable {m:Int}
theorem Zky (s:S<(2000000000+1)*(2000000000+1):=by omega):∃r,ZAS S r/\r<=2000000000/\Ze1 (S:Int) m=some (if m=1 then((if r*r<S then r+1 else r:Nat):Int)else(r:Int)):=by
 unfold Ze1;refine Zui (n:=S) (H:=2000000000) (good:=λr=>if m=1 then((if r*r<S then r+1 else r:Nat):Int)else(r:Int)) s (λo l t z=>?_) (λo q=>?_)
 ·show Zbf (S:Int) m (o:Int) (l:Int)=_
  unfold Zbf;rw[QP,ZDl,ZCq];by_cases c:(o+l+1)/2*((o+l+1)/2)<=S
  ·rw[Uc c,QP]
  ·rw[Ue c,QQ,QR,show(((o+l+1)/2:Nat):Int)-1=(((o+l+1)/2-1:Nat):Int) by omega]
 ·show Zbf (S:Int) m (o:Int) (o:Int)=_
  unfold Zbf;rw[Ue (Uf _),ZCq];by_cases M:m=1
  ·rw[Uc M,Uc M]
   by_cases c:o*o<S
   ·rw[QP,Uc c,QR]
    rfl
   ·rw[QQ,Ue c]
  ·rw[Ue M,Ue M]
theorem Zm5 {x n:Nat} (f:0<n) (l:x<=4000000000) (h:n<=1000) (R:m=0\/m=1):Yq (x:Int) (n:Int) m=some (if m=1 then(upQ x n:Int)else((x/n:Nat):Int)):=by
 have E:Int.tmod (x:Int) (n:Int)=((x%n:Nat):Int):=by rw[Int.tmod_eq_emod_of_nonneg (by omega)];omega
 have i:Int.tdiv (x:Int) (n:Int)=((x/n:Nat):Int):=by rw[U0 (by omega)];omega
 have b:=Nat.div_le_self x n;unfold Yq upQ;rw[Ra,E,i];clear E i;generalize x/n=q at b ⊢;rw[QQ,QR (n:=(q:Int))];by_cases c:x%n=0
 ·rw[QQ,Uc c]
  rcases R with rfl|rfl<;>rfl
 ·rw[QP,Ue c]
  rcases R with rfl|rfl
  ·rfl
  ·rw[Uc rfl,Uc rfl,QR]
   rfl
def sqs (s d:Int):Nat:=250000*(s.natAbs*s.natAbs)+d.natAbs*d.natAbs
variable {s:Int}
theorem ZDu {d:Int} (h:-1000000<=s) (f:s<=1000000) (g:0<=d) (i:d<=301000000):sqs s d<=350000000000000000/\(s.natAbs*s.natAbs:Nat)<=1000000000000/\(d.natAbs*d.natAbs:Nat)<=90601000000000000/\s*s=((s.natAbs*s.natAbs:Nat):Int)/\d*d=((d.natAbs*d.natAbs:Nat):Int):=by
 have a:=Km (show s.natAbs<=1000000 by omega) (show s.natAbs<=1000000 by omega);have b:=Km (show d.natAbs<=301000000 by omega) (show d.natAbs<=301000000 by omega);refine⟨?_,by omega,by omega,?_,?_⟩
 ·unfold sqs
  generalize s.natAbs*s.natAbs=x at *;generalize d.natAbs*d.natAbs=y at *;omega
 ·rw[Int.natCast_mul,Int.natAbs_mul_self']
 ·rw[Int.natCast_mul,Int.natAbs_mul_self']
theorem ZAH {d:Int} (b:-1000000<=s) (g:s<=1000000) (j:0<=d) (k:d<=301000000) (p:m=0\/m=1) :
  ∃r,Zg9 s d m=some r/\0<=r/\((Ze1 (Wq (Wq (Wq ((1000000:Int)*s)*s)+Wq (Wq ((4:Int)*d)*d))) m).bind λl=>(Yq l (1000:Int) m).bind λL=>some L)=some r:=by
 obtain⟨U,W,X,E,i⟩:=ZDu b g j k;have C:Wq (Wq (Wq (Wq ((500:Int)*s)*(500:Int))*s)+Wq (d*d))=(sqs s d:Int):=by
  have f:(500:Int)*s*500*s=250000*(s*s):=by
   rw[<-Int.mul_assoc];congr 1;omega
  rw[QR (n:=500*s),QR (n:=500*s*500),f,E,i];unfold sqs;generalize s.natAbs*s.natAbs=x at *;generalize d.natAbs*d.natAbs=y at *;rw[QR (n:=250000*(x:Int)),QR (n:=(y:Int)),QR];omega
 have a:Wq (Wq (Wq ((1000000:Int)*s)*s)+Wq (Wq ((4:Int)*d)*d))=((4*sqs s d:Nat):Int):=by
  rw[QR (n:=1000000*s),QR (n:=4*d),Int.mul_assoc,Int.mul_assoc,E,i];unfold sqs;generalize s.natAbs*s.natAbs=x at *;generalize d.natAbs*d.natAbs=y at *;rw[QR (n:=1000000*(x:Int)),QR (n:=4*(y:Int)),QR];omega
 generalize sqs s d=S at U C a;obtain⟨r,F,t,e⟩:=ZtS (S:=S);obtain⟨R,H,o,h⟩:=Zky (S:=4*S) (m:=m);unfold Zg9;rw[C,a,e,h,Bq,Bq,Zjd,ZCq];rw[show(500:Int)=((500:Nat):Int)from rfl,show(1000:Int)=((1000:Nat):Int)from rfl];rcases p with rfl|rfl
 ·refine⟨((r/500:Nat):Int),?_,by omega,?_⟩
  ·rw[Ue (by decide),Zm5 (by omega) (by omega) (by omega) (.inl rfl),Bq,Ue (by decide)]
  ·rw[Ue (by decide),Zm5 (by omega) (by omega) (by omega) (.inl rfl),Bq,Ue (by decide),ZCc F H]
 ·have q:=ZEL F H
  refine⟨((upQ (if R*R<4*S then R+1 else R) 1000:Nat):Int),?_,by omega,?_⟩
  ·rw[Uc rfl,<-q]
   by_cases c:r*r<S
   ·rw[QP,Uc c,U0 (by omega),QR (n:=(r:Int)/((500:Nat):Int)),QR]
    congr 1
   ·rw[QQ,Ue c,Zm5 (by omega) (by omega) (by omega) (.inr rfl),Bq,Uc rfl]
  ·rw[Uc rfl,Zm5 (by omega) (by split<;>omega) (by omega) (.inr rfl),Bq,Uc rfl]
def Zyh (e l:Int):Prop:=100<=e/\e<=l/\l<=5000
def Jv (c:Zz):Prop:=Za6 (GW c)=true/\Zyh (GZ c) (GY c)/\Zyh (G0 c) (G2 c)
theorem ZCn {c:Zz} (h:sm XP c):(GW c).length<=4611686018427387904:=by
 refine Zi3 ?_;first|exact h.1|exact h.2.1
theorem Zl7 (e l:Int):Zc9 e l=some (tr (Zyh e l)):=by
 unfold Zc9 Zyh;exact YG (λ_=>YG (λ_=>ZcT Ke))
theorem ZjM (c:Zz):Zg3 c=some (tr (Jv c)):=by
 unfold Zg3;exact Xm (by rw[Zgp];exact ZcT Iff.rfl) (λ_=>Xm (Zl7 _ _) (λ_=>ZaM (Zl7 _ _)))
theorem ZoY (c:Zz) (h:sm XP c):Zhe c=some (tr (Jv c)):=by
 unfold Zhe;rw[V3 (l:=[GZ c,GY c,G0 c,G2 c]) (show List.length _<=_ by simp) (λ_ x=>(100:Int)<=x/\x<=5000) (bad:=false) (good:=tr (Za6 (GW c)=true/\GZ c<=GY c/\G0 c<=G2 c))
  (λk x H d _=>by
   simp only[Zex,show(k:Int)<(List.length [GZ c,GY c,G0 c,G2 c]:Int)from by omega,Ui,Zo,H,Bq,JB];constructor
   ·intro r;rw[Uc (ZX r)]
   ·intro r;rw[Ue (λq=>r ((YL _).1 q))])
  (λ_=>by
   simp only[Zex,Uf,Uh,ZbS _ (ZCn h),Bq];by_cases a:Za6 (GW c)=true
   ·rw[Uc a]
    by_cases b:GZ c<=GY c
    ·rw[Uc b]
     congr 2;exact(Zrm (by grind)).symm
    ·rw[Ue b,Ym (λq=>b q.2.1)]
   ·rw[Ue a,Ym (λq=>a q.1)]),ZkR]
 congr 1;refine J6 ?_;rw[Zef];simp only[UB,UZ,Kv,forall_eq_or_imp,forall_eq];unfold Jv Zyh;grind
structure VOk (b:Za) (v:ZM):Prop where
 places:ZM.places v=places (KX b)
 block:GV v=b
 links:ZM.links v=Zu b
 loads:ZM.loads v=(List.range (KZ b).length).map (ldF b)
 ZiM:ZM.ZiM v=(List.range (KZ b).length).map (edF b)
 extras:ZM.extras v=[]
theorem Ztk {b:Za} (h:Z4 b):∃v,VI b=some v/\VOk b v:=by
 obtain⟨v,d,f,g,i,j,I,k⟩:=Zqi h;exact⟨v,d,f,g,i,j,I,k⟩
variable {y:Pl}
theorem ZsE {b:Za} {n:Nat} (N:Zyj b x y n):atI (places (KX b)) (Wq (Int.tdiv (Gf x) (2:Int)))=some y:=by
 have m:=N.to0;have d:=N.to1;rw[U0 m,QR];exact Yw (by omega) N.place
theorem ZwL {b:Za} {v:ZM} (a:VOk b v) {n:Nat} (N:Zyj b x y n):ZbO v x=some (n:Int):=by
 unfold ZbO;rw[a.places,ZsE N,Bq,<-N.net]
theorem Zp5 {b:Za} (h:Z4 b) {n:Nat} (N:Zyj b x y n):Zdn b x=some (n:Int):=by
 unfold Zdn;rw[ZN _ h.ok.1.few,Bq,ZsE N,Bq,<-N.net]
theorem ZDv {l:List ZB} (h:ZdP l true) {n:Int} (H:0<=n):∃t,atI l (Int.tmod n (2:Int))=some t/\JW t/\∀v∈Gr t,0<=v:=by
 have e:0<=Int.tmod n 2/\Int.tmod n 2<2:=by rw[Int.tmod_eq_emod_of_nonneg H];omega
 obtain⟨t,d,f⟩:=ZgM (l:=l) e.1 (by rw[h.1];exact e.2);exact⟨t,d,(h.2 t f).1,(h.2 t f).2 rfl⟩
variable {ld:List Int}
theorem ZBY {b:Za} {n:Nat} (h:ZuM b n w ld):atI ld (0:Int)=some (ldF b n):=by
 have d:=h.n1;have f:=h.nl;have e:ld[0]?=some (ld[0]'(by omega)):=Ua _;show atI ld ((0:Nat):Int)=_;rw[Zo];unfold ldF;rw[h.prog,Bq,e];rfl
theorem ZzA {b:Za} {n:Nat} (h:ZuM b n w ld):edF b n=(Gm w).map (sdl w ld):=by
 unfold edF;rw[Zq1 h];rfl
theorem ZmY {b:Za} (h:Z4 b) {v:ZM} (f:VOk b v) {n:Nat} (N:Zyj b x y n) (z:ZFt b x y) :
  ∃a V t,Zdc v x=some a/\Zdm b x=some (a,ldF b n)/\atI (GF a) (Int.tmod (Gf x) (2:Int))=some V/\JW V/\atI (GM a) (Int.tmod (Gf x) (2:Int))=some t/\JW t/\∀v∈Gr t,0<=v:=by
 obtain⟨D,i,u,c,k,a,E,j,l,m,o,p,q,r⟩:=z;obtain⟨V,F,s,_⟩:=ZDv q N.to0;obtain⟨t,A,B,w⟩:=ZDv r N.to0;have C:(KZ b)[n]?=some ((KZ b)[n]'N.few):=Ua _;obtain⟨ld,H⟩:=ZHc h C;have g:atI (KY (KX b)) (Gn y)=some u:=by
  show atI _ y.1=_;rw[E,Zo];exact j
 have G:atI (KY (KX b)) (GI y)=some u:=g;have d:atI (K9 (K4 b)) (Gq u)=some c:=Yw l m;have e:atI (Gh c) (GU x)=some a:=by rw[p,Zo];exact o
 refine⟨a,V,t,?_,?_,F,s,A,B,w⟩
 ·unfold Zdc
  rw[f.places,f.block,ZsE N,Bq,g,Bq,d,Bq,e];rfl
 ·unfold Zdm
  rw[ZN _ h.ok.1.few,Bq,ZsE N,Bq,G,Bq,d,Bq,e,Bq,show ZC.net y=(n:Int)from N.net,H.ref,Bq,ZBY H];rfl
theorem ZwB {b:Za} {v:ZM} (a:VOk b v) {n:Nat} (f:n<(KZ b).length):atI (ZM.loads v) (n:Int)=some (ldF b n):=by
 rw[Zo,a.loads,UK,Ku f];rfl
theorem ZyS {b:Za} {v:ZM} (a:VOk b v) {n:Nat} (f:n<(KZ b).length):atI (ZM.ZiM v) (n:Int)=some (edF b n):=by
 rw[Zo,a.ZiM,UK,Ku f];rfl
theorem Zy2 {c:Zz} (h:Jv c) (kind:Int) (m:Int):∃F,ZaX c kind m=some F/\Zec c kind m=some F/\0<=F/\F<=5000:=by
 obtain⟨_,⟨a,A,j⟩,⟨U,W,X⟩⟩:=h;unfold ZaX Zec;by_cases d:kind=1
 ·by_cases M:m=0
  ·simp only[d,M,Ui]
   exact⟨_,rfl,rfl,by omega,by omega⟩
  ·simp only[d,M,Ui,Uh]
   exact⟨_,rfl,rfl,by omega,by omega⟩
 ·by_cases M:m=0
  ·simp only[d,M,Ui,Uh]
   exact⟨_,rfl,rfl,by omega,by omega⟩
  ·simp only[d,M,Uh]
   exact⟨_,rfl,rfl,by omega,by omega⟩
theorem ZwY {q F:Int} (Q:-1000000<=q) (c:q<=1000000) (F0:0<=F) (F1:F<=5000) (R:m=0\/m=1):∃r,ZiO q F m=some r/\Yq (Wq (q*F)) (1000:Int) m=some r/\-5000000<=r/\r<=5000000:=by
 have p:=Zqf Q c F0;obtain⟨r,H,h⟩:=Zsi (a:=q*F) (b:=1000) (m:=m) (by omega) (by omega) (by omega) R;have h:=h 5000000 (by omega) (by omega);unfold ZiO;rw[Zjd,QR (n:=q*F),H];exact⟨r,rfl,rfl,h.2.1 (by omega),h.1 (by omega)⟩
theorem Zh4 {b:Za} (h:Z4 b) {v:ZM} (H:VOk b v) {c:Zz} (J:Jv c) (u:(Zu b)[k]?=some x) (s:Int) (R:m=0\/m=1) :
  ∃r,Zar v c (k:Int) s m=some r/\Ji b c x s m=some r/\-5000000<=r/\r<=5000000:=by
 obtain⟨y,n,N⟩:=Zp7 h (Ud u);obtain⟨F,F1,F2,F3,F4⟩:=Zy2 J (GL x) m;have K:atI (ZM.links v) (k:Int)=some x:=by rw[H.links,Zo];exact u
 unfold Zar Ji;rw[K,Bq,ZwL H N,Bq];rcases N.kind with d|I
 ·obtain⟨a,V,Y,c1,c2,C,U,P,S,_⟩:=ZmY h H N d
  obtain⟨q,Q,L,M,O⟩:=look_eq U s (ldF b n) R;obtain⟨r,g,i,l,o⟩:=ZwY M O F3 F4 R;refine⟨r,?_,?_,l,o⟩
  ·rw[Uc d.1,ZwB H N.few,Bq,c1,Bq,C,Bq,Q,Bq,F1,Bq,g]
   rfl
  ·rw[Uc d.1,c2,Bq]
   show(atI (GF a) _).bind _=_;rw[C,Bq];show(Q9 V s (ldF b n) m).bind _=_;rw[L,Bq,F2,Bq,i];rfl
 ·obtain⟨X,w,j,z,A,p,E⟩:=I
  obtain⟨ld,t⟩:=ZHc h A;obtain⟨f,B,D⟩:=Zs2 t R;obtain⟨G,T,W⟩:=B z (Ud E);obtain⟨r,g,i,l,o⟩:=ZwY (q:=f z) (by omega) (by omega) F3 F4 R;have e:¬GL x=1:=by omega
  refine⟨r,?_,?_,l,o⟩
  ·rw[Ue e,ZyS H N.few,Bq,ZzA t,p,Zo,UK,E,UV,Bq,Zjd,G,Bq,F1,Bq,g]
   rfl
  ·rw[Ue e,Zp5 h N,Bq,D,Bq,p,Zo,UK,E,UV,Bq,F2,Bq,i]
   rfl
theorem Zs5 {b:Za} (h:Z4 b) {v:ZM} (H:VOk b v) (o:(Zu b)[k]?=some x) (C:-1000000<=s) (D:s<=1000000) (R:m=0\/m=1) :
  ∃r,Xw v (k:Int) s m=some r/\XY b x s m=some r/\-1000000<=r/\r<=1000000:=by
 obtain⟨y,n,N⟩:=Zp7 h (Ud o);have B:atI (ZM.links v) (k:Int)=some x:=by rw[H.links,Zo];exact o
 unfold Xw XY;rw[B,Bq,ZwL H N,Bq];rcases N.kind with c|F
 ·obtain⟨a,V,T,c1,c2,I,U,P,S,_⟩:=ZmY h H N c
  obtain⟨q,Q,p,g,t⟩:=look_eq S s (ldF b n) R;refine⟨q,?_,?_,g,t⟩
  ·rw[Uc c.1,ZwB H N.few,Bq,c1,Bq,P,Bq,Q,Bq,Int.min_eq_left t]
  ·rw[Uc c.1,c2,Bq]
   show(atI (GM a) _).bind _=_;rw[P,Bq];show(Q9 T s (ldF b n) m).bind _=_;rw[p];rfl
 ·obtain⟨J,w,j,z,i,l,E⟩:=F
  obtain⟨ld,f⟩:=ZHc h i;obtain⟨G,u,A⟩:=f.sink (Ud E);obtain⟨q,Q,p,g⟩:=ZAH (s:=s) (d:=sdl w ld z) (m:=m) C D u A R;have e:¬GL x=1:=by omega
  refine⟨Min.min q 1000000,?_,?_,by omega,by omega⟩
  ·rw[Ue e,ZyS H N.few,Bq,ZzA f,l,Zo,UK,E,UV,Bq,Q]
   rfl
  ·rw[Ue e,Zp5 h N,Bq]
   unfold Zdl;rw[Zo,i,Bq,l,Zo,E,Bq,ZlV f,Bq,G,Bq,g,Bq,Int.min_comm]
theorem spans_eq {b:Za} (h:Z4 b) {v:ZM} (a:VOk b v) {c:Zz} (q:Jv c) (l:(Zu b)[k]?=some x) {s:ZA} (S:-1000000<=Gc s/\Gc s<=1000000) (e:-1000000<=Gg s/\Gg s<=1000000) :
  ∃d o:ZA,ZbP v c (k:Int) s=some (d,o)/\Zbm b c x s=some (d,o)/\(-5000000<=Gc d/\Gc d<=5000000)/\(-5000000<=Gg d/\Gg d<=5000000)/\(-1000000<=Gc o/\Gc o<=1000000)/\(-1000000<=Gg o/\Gg o<=1000000):=by
 obtain⟨D,A,U,c1⟩:=Zh4 h a q l (Gc s) (.inl rfl:(0:Int)=0\/(0:Int)=1);obtain⟨f,n,W,c2⟩:=Zh4 h a q l (Gg s) (.inl rfl:(0:Int)=0\/(0:Int)=1);obtain⟨g,p,X,R⟩:=Zh4 h a q l (Gc s) (.inr rfl:(1:Int)=0\/(1:Int)=1);obtain⟨i,r,Y,G⟩:=Zh4 h a q l (Gg s) (.inr rfl:(1:Int)=0\/(1:Int)=1);obtain⟨O,E,F,I⟩:=Zs5 h a l S.1 S.2 (.inl rfl:(0:Int)=0\/(0:Int)=1);obtain⟨y,t,z,J⟩:=Zs5 h a l e.1 e.2 (.inl rfl:(0:Int)=0\/(0:Int)=1);obtain⟨j,u,B,K⟩:=Zs5 h a l S.1 S.2 (.inr rfl:(1:Int)=0\/(1:Int)=1);obtain⟨m,w,C,L⟩:=Zs5 h a l e.1 e.2 (.inr rfl:(1:Int)=0\/(1:Int)=1);have H:atI (ZM.links v) (k:Int)=some x:=by rw[a.links,Zo];exact l
 refine⟨(Min.min D f,Max.max g i,()),(Min.min O y,Max.max j m,()),?_,?_,?_,?_,?_,?_⟩
 ·unfold ZbP
  rw[A,n,p,r,H,a.extras];simp only[Bq];rw[Ue (by simp),E,t,u,w];rfl
 ·unfold Zbm
  rw[U,W,X,Y,F,z,B,C];rfl
 ·show _<=Min.min D f/\Min.min D f<=_;omega
 ·show _<=Max.max g i/\Max.max g i<=_;omega
 ·show _<=Min.min O y/\Min.min O y<=_;omega
 ·show _<=Max.max j m/\Max.max j m<=_;omega
def Jk (s:ZA):Prop:=0<=Gc s/\Gc s<=Gg s/\Gg s<=1000000
variable (s:ZA)
theorem Zo3:ZfQ s=some (tr (Jk s)):=by
 unfold ZfQ Jk;exact YG (λ_=>YG (λ_=>ZcT Ke))
def ZaI (s:ZA):Prop:=(-1000000000<=Gc s/\Gc s<=1000000000)/\(-1000000000<=Gg s/\Gg s<=1000000000)/\Gc s<=Gg s
theorem ZcE:JJ s=some (tr (ZaI s)):=by
 unfold JJ ZaI Zjh;exact Xm (ZaM (Jt _ _ _)) (λ_=>Xm (ZaM (Jt _ _ _)) (λ_=>ZcT Ke))
theorem ZjN:Zfl s=some (tr (Jk s)):=by
 unfold Zfl Zjg;refine Zan (Xm (ZcE s) (λ_=>Xm (ZaM (Jt _ _ _)) (λ_=>ZaM (ZaM (Jt _ _ _))))) ?_;unfold Jk ZaI;omega
theorem ZiC:Zdi s=some (tr (ZaI s)):=by
 unfold Zdi ZaI;exact Xm (JB _ _ _) (λ_=>Xm (JB _ _ _) (λ_=>ZcT Ke))
def ZaB (n:Int) (l:List Zj) (k:Nat) (x:Zj):Prop :=
 (0<=Ge x/\Ge x<=n-1)/\(∀y,0<k->l[k-1]?=some y->Ge y<Ge x)/\ZaI (GJ x)/\Jk (GN x)
theorem Zir {b:Za} (h:Z4 b) (l:List Zj) (m:l.length<=1048576):Zdo b l=some (tr (Zee l (ZaB (2*((places (KX b)).length:Int)) l))):=by
 have f:=h.ok.1.few;have e:=ZT f;unfold Zdo Vy;rw[ZN _ f,Bq,Bq,YE (n:=2*((places (KX b)).length:Int))];rw[V3 (l:=l) (show Len l by unfold Len;omega) (ZaB (2*((places (KX b)).length:Int)) l) (bad:=false) (good:=true)
  (step:=λv=>Zbl l (2*((places (KX b)).length:Int)) v.1)
  (λk x g j _=>by
   simp only[Zbl,show (k:Int)<(l.length:Int) from by omega,Ui,Zo,g,Bq,JB,ZiC,Zo3,YE (show (-9223372036854775808:Int)<=2*((places (KX b)).length:Int)-1 by omega)];unfold ZaB;have M:∀ (Q:Prop),(Q<->ZaI (GJ x)/\Jk (GN x))->((Q->(if tr (ZaI (GJ x))=true then if tr (Jk (GN x))=true then some (.inl (Wq ((k:Int)+1),())) else some (.inr false) else some (.inr false):Option ((Int×Unit) ⊕ Bool))=some (.inl (Wq ((k:Int)+1),())))/\
     (¬Q->(if tr (ZaI (GJ x))=true then if tr (Jk (GN x))=true then some (.inl (Wq ((k:Int)+1),())) else some (.inr false) else some (.inr false):Option ((Int×Unit) ⊕ Bool))=some (.inr false))):=by
    intro Q H;constructor
    ·intro q
     rw[Uc (ZX (H.1 q).1),Uc (ZX (H.1 q).2)]
    ·intro q
     by_cases s:ZaI (GJ x)
     ·rw[Uc (ZX s),Ue (λS=>q (H.2 ⟨s,(YL _).1 S⟩))]
     ·rw[Ue (λS=>s ((YL _).1 S))]
   by_cases a:0<=Ge x/\Ge x<=2*((places (KX b)).length:Int)-1
   ·rw[Uc (ZX a)]
    by_cases c:k=0
    ·subst c
     rw[Ue (show ¬(0:Int)<((0:Nat):Int) by omega)];refine M _ ⟨λq=>q.2.2,λq=>⟨a,λy h=>by omega,q⟩⟩
    ·have i:l[k-1]?=some l[k-1]:=Ua (by omega)
     have L:atI l ((k:Int)-1)=some l[k-1]:=Yw (by omega) (by rw[<-i];congr 1;omega);generalize l[k-1]=y at i L;rw[QP,QR (n:=(k:Int)-1),L,Bq];by_cases d:Ge x<=Ge y
     ·rw[Uc d]
      exact⟨λq=>by have:=q.2.1 y (by omega) i;omega,λ_=>rfl⟩
     ·rw[Ue d]
      refine M _ ⟨λq=>q.2.2,λq=>⟨a,λz _ T=>?_,q⟩⟩;rw[i]at T;injection T with T;subst T;omega
   ·rw[Ue (λq=>a ((YL _).1 q))]
    exact ⟨λq=>absurd q.1 a,λ_=>rfl⟩)
  (λ_=>by simp only[Zbl,Uf,Uh]),ZiV]
theorem Zfm {b:Za} (h:Z4 b) (v:ZM) (j:ZM.places v=places (KX b)) (l:List Zj) (p:l.length<=1048576):VF v l=some (tr (Zee l (ZaB (2*((places (KX b)).length:Int)) l))):=by
 have d:=h.ok.1.few;have g:=ZT d;have e:∀n,Zem v n=some (tr (0<=n/\n<=2*((places (KX b)).length:Int)-1)):=by
  intro n;unfold Zem YC;rw[show Y1 (ZM.places v)=some ((ZM.places v).length:Int)from rfl,Bq,Bq,j,YE (n:=2*((places (KX b)).length:Int)),QR];exact ZaM (Jt _ _ _)
 unfold VF;rw[V3 (l:=l) (show Len l by unfold Len;omega) (ZaB (2*((places (KX b)).length:Int)) l) (bad:=false) (good:=true)
  (step:=λu=>VN v l u.1)
  (λk x m o _=>by
   simp only[VN,show(k:Int)<(l.length:Int)from by omega,Ui,Zo,m,Bq,e,ZcE,ZjN];unfold ZaB;by_cases Q:0<=Ge x/\Ge x<=2*((places (KX b)).length:Int)-1
   ·rw[Uc (ZX Q)]
    by_cases c:ZaI (GJ x)
    ·rw[Uc (ZX c)]
     by_cases f:Jk (GN x)
     ·rw[Uc (ZX f)]
      by_cases H:k=0
      ·subst H
       rw[Ue (show ¬(0:Int)<((0:Nat):Int) by omega)];exact⟨λ_=>rfl,λq=>absurd ⟨Q,λy h=>by omega,c,f⟩ q⟩
      ·have i:l[k-1]?=some l[k-1]:=Ua (by omega)
       have L:atI l ((k:Int)-1)=some l[k-1]:=Yw (by omega) (by rw[<-i];congr 1;omega);generalize l[k-1]=y at i L;rw[QP,QR (n:=(k:Int)-1),L,Bq];by_cases a:Ge x<=Ge y
       ·rw[Uc a]
        exact⟨λq=>by have:=q.2.1 y (by omega) i;omega,λ_=>rfl⟩
       ·rw[Ue a]
        refine⟨λ_=>rfl,λq=>absurd ⟨Q,λz _ T=>?_,c,f⟩ q⟩;rw[i]at T;injection T with T;subst T;omega
     ·rw[Ue (λq=>f ((YL _).1 q))]
      exact⟨λq=>absurd q.2.2.2 f,λ_=>rfl⟩
    ·rw[Ue (λq=>c ((YL _).1 q))]
     exact⟨λq=>absurd q.2.2.1 c,λ_=>rfl⟩
   ·rw[Ue (λq=>Q ((YL _).1 q))]
    exact ⟨λq=>absurd q.1 Q,λ_=>rfl⟩)
  (λ_=>by simp only[VN,Uf,Uh]),ZiV]
def Zero (s:ZA):Prop:=Gc s=0/\Gg s=0
def Zym (t:Zf) (k:Nat) (r:Bool):Prop :=
 ∃a s,(Gu t)[k]?=some a/\(Gs t)[k]?=some s/\ZaI a/\Jk s/\(r=false->Zero a/\Zero s)
def Ziu (n:Int) (t:Zf):Prop :=
 ((K6 t).length:Int)=n/\((Gu t).length:Int)=n/\((Gs t).length:Int)=n/\Zee (K6 t) (Zym t)
variable {t:Zf} {a s:ZA}
theorem ZCQ {x:Bool} {n bd:ρ} (H:(Gu t)[k]?=some a) (b:(Gs t)[k]?=some s) :
  (Zym t k x->((if tr (ZaI a)=true then(if tr (Jk s)=true then(if x=true then some n else if(Decidable.decide (Gc a=(0:Int))&&Decidable.decide (Gg a=(0:Int)))=true then(if(Decidable.decide (Gc s=(0:Int))&&Decidable.decide (Gg s=(0:Int)))=true then some n else some bd)else some bd)else some bd)else some bd):Option ρ)=some n)/\
  (¬Zym t k x->((if tr (ZaI a)=true then(if tr (Jk s)=true then(if x=true then some n else if(Decidable.decide (Gc a=(0:Int))&&Decidable.decide (Gg a=(0:Int)))=true then(if(Decidable.decide (Gc s=(0:Int))&&Decidable.decide (Gg s=(0:Int)))=true then some n else some bd)else some bd)else some bd)else some bd):Option ρ)=some bd):=by
 have z:Zym t k x<->ZaI a/\Jk s/\(x=false->Zero a/\Zero s):=by
  constructor
  ·rintro⟨A,S,d,f,g⟩
   grind
  ·exact λh=>⟨a,s,H,b,h⟩
 rw[z];have T:∀u:ZA,((Decidable.decide (Gc u=(0:Int))&&Decidable.decide (Gg u=(0:Int)))=true)<->Zero u:=λu=>by
  unfold Zero;grind
 by_cases c1:ZaI a
 ·rw[Uc (ZX c1)]
  by_cases c2:Jk s
  ·rw[Uc (ZX c2)]
   grind
  ·rw[Ue (λq=>c2 ((YL _).1 q))]
   grind
 ·rw[Ue (λq=>c1 ((YL _).1 q))]
  grind
theorem ZjO {b:Za} (h:Z4 b) (v:ZM) (c:ZM.places v=places (KX b)) (t:Zf):Za3 v t=some (tr (Ziu (2*((places (KX b)).length:Int)) t)):=by
 have i:=ZT h.ok.1.few;unfold Za3 YC;rw[show Y1 (ZM.places v)=some ((ZM.places v).length:Int) from rfl,Bq,Bq,c,YE (n:=2*((places (KX b)).length:Int)),
  show Zcv (K6 t)=some ((K6 t).length:Int) from rfl,show Jp (Gu t)=some ((Gu t).length:Int) from rfl,show Jp (Gs t)=some ((Gs t).length:Int) from rfl]
 simp only[Bq];unfold Ziu;refine YG λQ=>YG λf=>YG λg=>?_;rw[V3 (l:=K6 t) (show Len (K6 t) by unfold Len;omega) (Zym t) (bad:=false) (good:=true) (step:=λv=>JA t v.1)
  (λk x d e _=>by
   have H:(Gu t)[k]?=some ((Gu t)[k]'(by omega)):=Ua _;have q:(Gs t)[k]?=some ((Gs t)[k]'(by omega)):=Ua _;generalize (Gu t)[k]'(by omega)=a at H;generalize (Gs t)[k]'(by omega)=s at q;simp only[JA,show (k:Int)<((K6 t).length:Int) from by omega,Ui,Zo,d,H,q,Bq,ZcE,ZjN];exact ZCQ H q)
  (λ_=>by simp only[JA,Uf,Uh]),ZiV]
theorem Zo2 {b:Za} (h:Few (KX b)):Vy b=some (2*((places (KX b)).length:Int)):=by
 have i:=ZT h;unfold Vy;rw[ZN _ h,Bq,QR]
abbrev NSt:=Option (ZA×ZA)
def VH:ZA:=((0:Int),(0:Int),())
def hul (a b:ZA):ZA:=(Min.min (Gc a) (Gc b),Max.max (Gg a) (Gg b),())
def Zzn (st:NSt) (a s:ZA):NSt:=match st with
 |none=>some (a,s)
 |some q=>some (hul q.1 a,hul q.2 s)
def ZsU (a d:ZA):ZA:=(Wq (Gc a+Gc d),Wq (Gg a+Gg d),())
def encI (node:Int) (st:NSt):Int×Int×Int×Int×Int×Bool×Unit:=match st with
 |none=>(node,0,0,0,0,false,())
 |some q=>(node,Gc q.1,Gg q.1,Gc q.2,Gg q.2,true,())
def Zyc (node:Int) (st:NSt):Bool×Zj:=match st with
 |none=>(false,((0:Int),VH,VH,()))
 |some q=>(true,(node,q.1,q.2,()))
theorem Zwq (a b:ZA):hul a b=hul b a:=by unfold hul;rw[Int.min_comm,Int.max_comm]
noncomputable def spn (b:Za) (c:Zz) (x:Zp) (s:ZA):ZA×ZA:=(Zbm b c x s).getD (VH,VH)
noncomputable def Zow (b:Za) (c:Zz) (t:Zf) (x:Zp) (st:NSt):NSt :=
 if(atI (K6 t) (Gd x)).getD false=true then Zzn st (ZsU ((atI (Gu t) (Gd x)).getD VH) (spn b c x ((atI (Gs t) (Gd x)).getD VH)).1) (spn b c x ((atI (Gs t) (Gd x)).getD VH)).2 else st
def ZAT (s:ZA):Prop:=(-1000000<=Gc s/\Gc s<=1000000)/\(-1000000<=Gg s/\Gg s<=1000000)
structure Zg1 (n:Nat) (t:Zf):Prop where
 lr:(K6 t).length=n
 la:(Gu t).length=n
 ls:(Gs t).length=n
 sl:∀s∈Gs t,ZAT s
theorem Zu5 {b:Za} (h:Z4 b) (H:Zg1 (2*(places (KX b)).length) t) (c:x∈Zu b) :
  ∃r a s,atI (K6 t) (Gd x)=some r/\atI (Gu t) (Gd x)=some a/\atI (Gs t) (Gd x)=some s/\ZAT s:=by
 have f:=(Zb6 h c).1;obtain⟨r,F,_⟩:=ZgM (l:=K6 t) f.1 (by rw[H.lr];omega);obtain⟨a,n,_⟩:=ZgM (l:=Gu t) f.1 (by rw[H.la];omega);obtain⟨s,q,R⟩:=ZgM (l:=Gs t) f.1 (by rw[H.ls];omega);exact⟨r,a,s,F,n,q,H.sl s R⟩
theorem ZtR (node:Int) (st:NSt) (a s:ZA):∃j,ZaQ (node,((encI node st).2.1,(encI node st).2.2.1,()),((encI node st).2.2.2.1,(encI node st).2.2.2.2.1,()),()) (encI node st).2.2.2.2.2.1 a s=some j/\(j.fst.fst,j.fst.snd.fst.fst,j.fst.snd.fst.snd.fst,j.fst.snd.snd.fst.fst,j.fst.snd.snd.fst.snd.fst,j.snd,())=encI node (Zzn st a s):=by
 cases st with
 |none=>exact⟨_,rfl,rfl⟩
 |some q=>exact⟨_,rfl,rfl⟩
variable {L:List Int} {node:Int}
theorem Zq5 {b:Za} (h:Z4 b) {v:ZM} (f:VOk b v) {c:Zz} (g:Jv c) {live:List Bool} (w:Zg1 (2*(places (KX b)).length) t) {m:Nat} (R:L[m]?=some (k:Int)) (l:(Zu b)[k]?=some x) (H:m<=1048576) (st:NSt) :
  XJ (v,live,()) c t L (m:Int) (encI node st).1 (encI node st).2.1 (encI node st).2.2.1 (encI node st).2.2.2.1 (encI node st).2.2.2.2.1 (encI node st).2.2.2.2.2.1=some (.inl (((m+1:Nat):Int),encI node (Zow b c t x st))):=by
 have B:=(Ub.1 R).1;obtain⟨r,a,s,F,n,e,A⟩:=Zu5 h w (Ud l);obtain⟨d,o,E,i,_⟩:=spans_eq h f g l A.1 A.2;have p:atI (ZM.links (GB ((v,live,()):ZO))) (k:Int)=some x:=by
  show atI (ZM.links v) (k:Int)=some x;rw[f.links,Zo];exact l
 have hsp:spn b c x s=(d,o):=by unfold spn;rw[i];rfl
 have y:Zow b c t x st=if r=true then Zzn st (ZsU a d) o else st:=by
  unfold Zow;rw[F,n,e];simp only[UW,hsp]
 have u:(encI node st).1=node:=by cases st<;>rfl
 obtain⟨j,J,z⟩:=ZtR node st (ZsU a d) o;unfold XJ;rw[QP,Zo,R,Bq,p,Bq,F,Bq,y];by_cases q:r=true
 ·rw[Uc q,Uc q,e,Bq]
  show(ZbP v c (k:Int) s).bind _=_;rw[E,Bq,n,Bq];show(ZaQ _ _ (ZsU a d) o).bind _=_;rw[u,J,Bq,YW H,<-z]
 ·rw[Ue q,Ue q,YW H]
variable (st:NSt)
theorem Zsr {g:ZO} {c:Zz} :
  XJ g c t L (L.length:Int) (encI node st).1 (encI node st).2.1 (encI node st).2.2.1 (encI node st).2.2.2.1 (encI node st).2.2.2.2.1 (encI node st).2.2.2.2.2.1=some (.inr (Zyc node st)):=by
 unfold XJ;rw[Ue (Uf _)];cases st<;>rfl
theorem Zq4 {b:Za} (h:Z4 b) {v:ZM} (g:VOk b v) {c:Zz} (q:Jv c) {live:List Bool} (r:Zg1 (2*(places (KX b)).length) t) (n:L.length<=1048576) {f:Int->NSt->NSt}
  (a:∀y∈L,∃(k:Nat) (x:Zp),y=(k:Int)/\(Zu b)[k]?=some x/\∀st,f y st=Zow b c t x st) (s:NSt) :
  Zx (λu=>XJ (v,live,()) c t L u.1 u.2.1 u.2.2.1 u.2.2.2.1 u.2.2.2.2.1 u.2.2.2.2.2.1 u.2.2.2.2.2.2.1) ((0:Int),encI node s)=some (Zyc node (foldI (λ_ y st=>f y st) 0 L s)):=by
 refine ZfY (l:=L) (by unfold Len;omega) (λst i=>(i,encI node st)) (f:=λ_ y st=>f y st) (s0:=s) (λ_ _=>True) trivial (λm y st H _ _=>⟨?_,trivial⟩) (λst _ e=>?_)
 ·have R:=(Ub.1 H).1
  obtain⟨k,x,rfl,j,d⟩:=a y (Ud H);rw[d,YW];exact Zq5 h g q r H j (by omega) st
 ·rw[<-e]
  exact Zsr st
def encS (node:Int) (st:NSt) (i:Int):Bool×Int×Int×Int×Int×Int×Int×Unit:=match st with
 |none=>(false,i,0,0,0,0,0,())
 |some q=>(true,i,node,Gc q.1,Gg q.1,Gc q.2,Gg q.2,())
theorem Zrj {b:Za} (h:Z4 b) {v:ZM} (y:VOk b v) {c:Zz} (j:Jv c) {live:List Bool} (u:Zg1 (2*(places (KX b)).length) t) {L:Bool} (l:(Zu b)[k]?=some x) (H:live[k]?=some L) (m:k<=1048576) (st:NSt) :
  QK b c (Zu b) live t node (encS node st (k:Int)).1 (k:Int) (encS node st (k:Int)).2.2.1 (encS node st (k:Int)).2.2.2.1 (encS node st (k:Int)).2.2.2.2.1 (encS node st (k:Int)).2.2.2.2.2.1 (encS node st (k:Int)).2.2.2.2.2.2.1=some (.inl (encS node (if L=true then(if Gf x=node then Zow b c t x st else st)else st) ((k+1:Nat):Int))):=by
 have p:=(Ub.1 l).1;obtain⟨r,a,s,F,n,g,A⟩:=Zu5 h u (Ud l);obtain⟨d,o,E,i,_⟩:=spans_eq h y j l A.1 A.2;have hsp:spn b c x s=(d,o):=by unfold spn;rw[i];rfl
 have w:Zow b c t x st=if r=true then Zzn st (ZsU a d) o else st:=by
  unfold Zow;rw[F,n,g];simp only[UW,hsp]
 unfold QK;rw[QP,Zo,l,Bq,Zo,H,Bq,YW m];by_cases Q:L=true
 ·rw[Uc Q,Uc Q]
  by_cases e:Gf x=node
  ·rw[Uc e,Uc e,F,Bq,w]
   by_cases f:r=true
   ·rw[Uc f,Uc f,g,Bq,i,Bq,n,Bq]
    cases st with
    |none=>rfl
    |some q =>
     show some (Sum.inl (true,((k+1:Nat):Int),node,Gc (hul (ZsU a d) q.1),Gg (hul (ZsU a d) q.1),Gc (hul o q.2),Gg (hul o q.2),()))=_;rw[Zwq (ZsU a d),Zwq o];rfl
   ·rw[Ue f,Ue f]
    cases st<;>rfl
  ·rw[Ue e,Ue e]
   cases st<;>rfl
 ·rw[Ue Q,Ue Q]
  cases st<;>rfl
def toF (live:List Bool) (node:Int) (k:Nat) (x:Zp):List Int:=if(live[k]?).getD false=true then(if Gf x=node then[(k:Int)]else[])else[]
def toL (b:Za) (live:List Bool) (node:Int):List Int:=cat (toF live node) 0 (Zu b)
theorem ZE4 (live:List Bool) (node:Int) (k:Nat) (x:Zp):(toF live node k x).length<=1:=by
 unfold toF;split
 ·split<;>simp
 ·simp
theorem ZvP {b:Za} (h:Z4 b) (live:List Bool) (node:Int) (n:Nat):(cat (toF live node) 0 ((Zu b).take n)).length<=6000:=by
 have d:=ZaN (f:=toF live node) (c:=1) (l:=(Zu b).take n) (m:=0) (λk x _=>ZE4 live node k x);have H:=QC h;rw[Uj]at d;omega
theorem ZpT {b:Za} (h:Z4 b) {v:ZM} (a:VOk b v) {live:List Bool} (d:live.length=(Zu b).length) (node:Int):Zce (v,live,()) node=some (toL b live node):=by
 have I:=QC h;have e:ZM.links (GB ((v,live,()):ZO))=Zu b:=a.links;have j:ZO.live ((v,live,()):ZO)=live:=rfl;unfold Zce QA;have:=XG (l:=Zu b) (ρ:=List Int) (toF live node) [] (step:=λu=>Y6 (v,live,()) (node,()) u.1 u.2.1) (good:=toL b live node)
  (λk x H c=>by
   have f:live[k]?=some (live[k]'(by omega)):=Ua _;have n:=ZvP h live node k;simp only[Y6,e,j,show(k:Int)<((Zu b).length:Int)from by omega,Ui,Zo,H,f,Bq,ZgP,Uv,YW (show k<=1048576 by omega)];unfold toF at *;rw[f];simp only[UW];by_cases Q:live[k]'(by omega)=true
   ·rw[Uc Q,Uc Q]
    by_cases q:Gf x=node
    ·rw[Uc (UQ q),Uc q,Zi (by simp only[Um,Uq];omega)]
    ·rw[Ue (by rw[Ul];exact q),Ue q,Un]
   ·rw[Ue Q,Ue Q,Un])
  (by simp only[Y6,e,Uf,Uh,Uv];rfl)
 rw[this];rfl
theorem ZtJ {β σ:Type} (f:β->σ->σ):∀(l:List β) (m n:Nat) (s:σ),foldI (λ_ y s=>f y s) m l s=foldI (λ_ y s=>f y s) n l s
 |[],_,_,_=>rfl
 |x::l,m,n,s=>by simp only[foldI];exact ZtJ f l _ _ _
theorem Zmk {α β σ:Type} {g:Nat->α->List β} (f:β->σ->σ):∀(l:List α) (m:Nat) (s:σ),foldI (λ_ y s=>f y s) 0 (cat g m l) s=foldI (λk x s=>foldI (λ_ y s=>f y s) 0 (g k x) s) m l s
 |[],_,_=>rfl
 |x::l,m,s=>by
  show foldI (λ_ y s=>f y s) 0 (g m x++cat g (m+1) l) s=_;rw[Zh7,ZtJ f (cat g (m+1) l) _ 0,Zmk f l (m+1)];rfl
theorem ZlG {α σ:Type} {f g:Nat->α->σ->σ}:∀(l:List α) (m:Nat) (s:σ),(∀k x s,l[k]?=some x->f (m+k) x s=g (m+k) x s)->foldI f m l s=foldI g m l s
 |[],_,_,_=>rfl
 |x::l,m,s,h=>by
  simp only[foldI];have H:=h 0 x s rfl;rw[Kd]at H;rw[H];refine ZlG l (m+1) _ λk y s i=>?_;rw[show m+1+k=m+(k+1) by omega];exact h (k+1) y s (by rw[Kf];exact i)
def ZgI (l:List Zj) (node:Int):NSt:=foldI (λ_ x st=>if Ge x=node then some (GJ x,GN x)else st) 0 l none
def ZvX (l:List Zj):Prop:=∀(i j:Nat) (x y:Zj),l[i]?=some x->l[j]?=some y->Ge x=Ge y->i=j
variable {L:List Zp}
theorem Zs9 {l:List Zj} (a:Len l) {b:Za} {c:Zz} {live:List Bool} {R:Bool×Zj}
  (H:Zx (λv=>QK b c L live t node v.1 v.2.1 v.2.2.1 v.2.2.2.1 v.2.2.2.2.1 v.2.2.2.2.2.1 v.2.2.2.2.2.2.1) (encS node (ZgI l node) 0)=some (.inr R)):Zb5 b c L live l t node=some R:=by
 unfold Zb5;refine ZfY (l:=l) a (λst i=>encS node st i) (f:=λ_ x st=>if Ge x=node then some (GJ x,GN x)else st) (s0:=none) (λ_ _=>True) trivial (λk x st h _ _=>⟨?_,trivial⟩) (λst _ m=>?_)
 ·have d:=(Ub.1 h).1
  have e:∀st:NSt,(encS node st (k:Int)).2.1=(k:Int):=λst=>by cases st<;>rfl
  show Zbk b c L live l t node (encS node st (k:Int)).1 (encS node st (k:Int)).2.1 (encS node st (k:Int)).2.2.1 (encS node st (k:Int)).2.2.2.1 (encS node st (k:Int)).2.2.2.2.1 (encS node st (k:Int)).2.2.2.2.2.1 (encS node st (k:Int)).2.2.2.2.2.2.1=_;rw[e];unfold Zbk;rw[QP,Zo,h,Bq];by_cases q:Ge x=node
  ·rw[Uc q,Uc q,q]
   rfl
  ·rw[Ue q,Ue q]
   cases st<;>rfl
 ·have s:st=ZgI l node:=m
  subst s;have e:∀st:NSt,(encS node st (l.length:Int)).2.1=(l.length:Int):=λst=>by cases st<;>rfl
  show Zbk b c L live l t node (encS node (ZgI l node) (l.length:Int)).1 (encS node (ZgI l node) (l.length:Int)).2.1 (encS node (ZgI l node) (l.length:Int)).2.2.1 (encS node (ZgI l node) (l.length:Int)).2.2.2.1 (encS node (ZgI l node) (l.length:Int)).2.2.2.2.1 (encS node (ZgI l node) (l.length:Int)).2.2.2.2.2.1 (encS node (ZgI l node) (l.length:Int)).2.2.2.2.2.2.1=_;rw[e];unfold Zbk;rw[Ue (Uf _),<-H];cases ZgI l node<;>rfl
theorem Zri {b:Za} (h:Z4 b) {v:ZM} (d:VOk b v) {c:Zz} (q:Jv c) {live:List Bool} (j:live.length=(Zu b).length) (r:Zg1 (2*(places (KX b)).length) t) (s:NSt) :
  Zx (λv=>QK b c (Zu b) live t node v.1 v.2.1 v.2.2.1 v.2.2.2.1 v.2.2.2.2.1 v.2.2.2.2.2.1 v.2.2.2.2.2.2.1) (encS node s 0)=some (.inr (Zyc node (foldI (λk x st=>if(live[k]?).getD false=true then(if Gf x=node then Zow b c t x st else st)else st) 0 (Zu b) s))):=by
 have I:=QC h;refine ZfY (l:=Zu b) (by unfold Len;omega) (λst i=>encS node st i) (f:=λk x st=>if(live[k]?).getD false=true then(if Gf x=node then Zow b c t x st else st)else st) (s0:=s) (λ_ _=>True) trivial (λk x st a _ _=>⟨?_,trivial⟩) (λst _ m=>?_)
 ·have g:=(Ub.1 a).1
  have H:live[k]?=some (live[k]'(by omega)):=Ua _;have e:∀st:NSt,(encS node st (k:Int)).2.1=(k:Int):=λst=>by cases st<;>rfl
  have:=Zrj h d q r (node:=node) a H (by omega) st;rw[H,UW,YW,<-this];show QK b c (Zu b) live t node (encS node st (k:Int)).1 (encS node st (k:Int)).2.1 _ _ _ _ _=_;rw[e]
 ·rw[<-m]
  have e:∀st:NSt,(encS node st ((Zu b).length:Int)).2.1=((Zu b).length:Int):=λst=>by cases st<;>rfl
  show QK b c (Zu b) live t node (encS node st ((Zu b).length:Int)).1 (encS node st ((Zu b).length:Int)).2.1 _ _ _ _ _=_;rw[e];unfold QK;rw[Ue (Uf _)];cases st<;>rfl
theorem Zta {node:Int}:∀(l:List Zj) (m:Nat) (st:NSt),(∀x∈l,Ge x≠node)->foldI (λ_ x st=>if Ge x=node then some (GJ x,GN x)else st) m l st=st
 |[],_,_,_=>rfl
 |x::l,m,st,h=>by
  simp only[foldI];rw[Ue (h x UH)];exact Zta l (m+1) st λy i=>h y (UM _ i)
theorem ZCr {l:List Zj} (d:ZvX l) {x:Zj} (h:l[i]?=some x) (f:Ge x=node):ZgI l node=some (GJ x,GN x):=by
 have H:=(Ub.1 h).1;have e:l=l.take i++x::l.drop (i+1):=by
  have:=KG i l;rw[Kx H,(Ub.1 h).2]at this;exact this.symm
 have D:∀y∈l.drop (i+1),Ge y≠node:=λy a q=>by
  obtain⟨j,b⟩:=UA.1 a;rw[Kz]at b;have:=d i (i+1+j) x y h b (by rw[f,q]);omega
 unfold ZgI;rw[e,Zh7];simp only[foldI];rw[Uc f];exact Zta _ _ _ D
theorem ZvI {l:List Zj} (a:Len l) (d:ZvX l) (node:Int):∃r:Zj×Bool,Zg8 l node=some r/\(r.2=true->ZgI l node=some (GJ r.1,GN r.1))/\(r.2=false->ZgI l node=none):=by
 unfold Zg8;rw[Vg a (λx=>decide (Ge x=node)) (λx _=>rfl),Bq];unfold Zao;cases e:l.findIdx? (λx=>decide (Ge x=node))with
 |none =>
  rw[Ue (by decide)];refine⟨_,rfl,(λq=>Bool.noConfusion q),λ_=>?_⟩;rw[List.findIdx?_eq_none_iff]at e;exact Zta l 0 none λx h q=>by have:=e x h;rw[Kr]at this;exact this q
 |some i =>
  rw[Ko]at e;obtain⟨H,g,_⟩:=e;have h:l[i]?=some l[i]:=Ua H;dsimp only;rw[QP,Zo,h,Bq];exact⟨_,rfl,λ_=>ZCr d h (of_decide_eq_true g),λq=>Bool.noConfusion q⟩
noncomputable def ZaJ (b:Za) (c:Zz) (live:List Bool) (l:List Zj) (t:Zf) (node:Int):NSt:=foldI (λk x st=>if(live[k]?).getD false=true then(if Gf x=node then Zow b c t x st else st)else st) 0 (Zu b) (ZgI l node)
theorem Zus {b:Za} (h:Z4 b) {v:ZM} (a:VOk b v) {c:Zz} (q:Jv c) {live:List Bool} (H:live.length=(Zu b).length) (r:Zg1 (2*(places (KX b)).length) t) {l:List Zj} (s:Len l) (node:Int) :
  Zb5 b c (Zu b) live l t node=some (Zyc node (ZaJ b c live l t node)) :=
 Zs9 s (Zri h a q H r (ZgI l node))
theorem Zon {b:Za} (h:Z4 b) {v:ZM} (g:VOk b v) {c:Zz} (q:Jv c) {live:List Bool} (m:live.length=(Zu b).length) (p:Zg1 (2*(places (KX b)).length) t) {l:List Zj} (s:Len l) (i:ZvX l) (node:Int) :
  Xj (v,live,()) c l t node=some (Zyc node (ZaJ b c live l t node)):=by
 obtain⟨r,R,w,z⟩:=ZvI s i node;have n:=ZvP h live node (Zu b).length;rw[Uo]at n;have o:=ZpT h g m node
 let f:Int->NSt->NSt:=λy st=>match (Zu b)[y.toNat]? with
  |some x=>Zow b c t x st
  |none=>st
 have j:∀y∈toL b live node,∃(k:Nat) (x:Zp),y=(k:Int)/\(Zu b)[k]?=some x/\∀st,f y st=Zow b c t x st:=λy u=>by
  obtain⟨k,x,a,H⟩:=Xx.1 u;rw[Us]at H;unfold toF at H;split at H
  ·split at H
   ·have E:=Uw.1 H
    refine ⟨k,x,E,a,λst=>?_⟩;show (match (Zu b)[y.toNat]? with
     |some x=>Zow b c t x st
     | none=>st)=_
    rw[E,Up,a]
   ·cases H
  ·cases H
 have K:=Zq4 h g q p (live:=live) (L:=toL b live node) (node:=node) (by unfold toL;omega) j (ZgI l node);have d:foldI (λ_ y st=>f y st) 0 (toL b live node) (ZgI l node)=ZaJ b c live l t node:=by
  unfold toL ZaJ;rw[Zmk f];refine ZlG _ _ _ λk x st a=>?_;rw[Us];unfold toF;split
  ·split
   ·show (match (Zu b)[(k:Int).toNat]? with
     |some x=>Zow b c t x st
     | none=>st)=_
    rw[Up,a]
   ·rfl
  ·rfl
 rw[d]at K;unfold Xj;rw[R,Bq,o];cases e:r.2 with
 |true =>
  rw[Uc rfl];rw[w e]at K;exact K
 |false =>
  rw[Ue (by decide),Bq];rw[z e]at K;exact K
def cw (live:List Bool) (out:List Int) (v:Int) (k:Nat) (x:Zp):Nat:=if(live[k]?).getD false=true then(if Gf x=v then(if Gd x∈out then 0 else 1)else 0)else 0
def ZkC (live:List Bool) (L:List Zp) (out:List Int) (v:Int):Nat:=foldI (λk x s=>s+cw live out v k x) 0 L 0
def nxt (live:List Bool) (L:List Zp) (n:Nat) (out:List Int):Option Nat:=(List.range n).find? λv=>decide ((v:Int) ∉ out)&&decide (ZkC live L out (v:Int)=0)
def Zvt (live:List Bool) (L:List Zp) (n:Nat):Nat->List Int->List Int×Bool
 |0,out=>(out,true)
 |m+1,out=>match nxt live L n out with
  |none=>([],false)
  |some v=>Zvt live L n m (out++[(v:Int)])
def ZnK (n:Nat) (p:Nat->Bool):List Bool:=(List.range n).map p
variable {p:Nat->Bool}
theorem Zgt {n:Nat} {v:Nat} (h:v<n:=by omega):(ZnK n p)[v]?=some (p v):=by
 unfold ZnK;rw[UK,Ku h];rfl
theorem Zpf (n:Nat) (p:Nat->Bool):(ZnK n p).length=n:=by unfold ZnK;simp
theorem ZwF {n:Nat} {q:Nat->Bool} {b:Bool} (l:i<n) (d:q i=b) (f:∀j,j≠i->q j=p j):List.set (ZnK n p) i b=ZnK n q:=by
 apply Ux;intro j;rw[UN];by_cases c:i=j
 ·subst c
  rw[Uc rfl,Uc (by rw[Zpf];exact l),Zgt l,d]
 ·rw[Ue c]
  by_cases h:j<n
  ·rw[Zgt h,Zgt h,f j (λe=>c e.symm)]
  ·rw[Uy (by rw[Zpf];omega),Uy (by rw[Zpf];omega)]
theorem ZrH (n:Nat):List.replicate n false=ZnK n λ_=>false:=by
 apply Ux;intro j;by_cases b:j<n
 ·rw[Zgt b,Kb,Uc b]
 ·rw[Uy (by rw[UR];omega),Uy (by rw[Zpf];omega)]
structure Zx9 (live:List Bool) (L:List Zp) (n:Nat):Prop where
 few:L.length<=6000
 ll:live.length=L.length
 n0:n<=1000
 bd:∀x∈L,(0<=Gd x/\Gd x<(n:Int))/\0<=Gf x/\Gf x<(n:Int)
variable {out:List Int}
theorem Zd5 {live:List Bool} {v:Int} (l:L[k]?=some x):ZkC live (L.take (k+1)) out v=ZkC live (L.take k) out v+cw live out v k x:=by
 unfold ZkC;rw[ZfX l]
theorem ZxZ {live:List Bool} {n:Nat} (h:Zx9 live L n) {Q:(List Int×List Bool×Unit)⊕(List Int×Bool)}
  (H:Zx (λv=>XL (n:Int) out (ZnK n λv=>decide ((v:Int)∈out)) (ZnK n λv=>decide (ZkC live L out (v:Int)≠0)) v.1) ((0:Int),())=some (.inr Q)) :
  Zx (λv=>Zaz (n:Int) L live out (ZnK n λv=>decide ((v:Int)∈out)) v.1 v.2.1) ((0:Int),List.replicate (Int.toNat (n:Int)) false,())=some Q:=by
 have i:=h.few;have e:=h.ll;refine XC L.length (λk v=>v=((k:Int),ZnK n (λv=>decide (ZkC live (L.take k) out (v:Int)≠0)),())) _ ?_ ?_ ?_
 ·rw[Up,ZrH]
  rfl
 ·rintro k _ d rfl
  have l:L[k]?=some (L[k]'(by omega)):=Ua _;have f:live[k]?=some (live[k]'(by omega)):=Ua _;generalize L[k]'(by omega)=x at l;generalize live[k]'(by omega)=g at f;obtain⟨⟨G,F⟩,t0,V⟩:=h.bd x (Ud l);have m:atI (ZnK n λv=>decide ((v:Int)∈out)) (Gd x)=some (decide (Gd x∈out)):=by
   refine Yw G ?_;rw[Zgt,show((Gd x).toNat:Int)=Gd x by omega]
  have o:∀p:Nat->Bool,atI (ZnK n p) (Gf x)=some (p (Gf x).toNat):=λp=>Yw t0 (Zgt);refine .inl ⟨(((k+1:Nat):Int),ZnK n (λv=>decide (ZkC live (L.take (k+1)) out (v:Int)≠0)),()),?_,rfl⟩;simp only[Zaz,show(k:Int)<(L.length:Int)from by omega,Ui,Zo,l,f,Bq,m,o,YW (show k<=1048576 by omega)];have c:(∀v:Nat,cw live out (v:Int) k x=0)->ZnK n (λv=>decide (ZkC live (L.take (k+1)) out (v:Int)≠0))=ZnK n (λv=>decide (ZkC live (L.take k) out (v:Int)≠0)):=λT=>by
   unfold ZnK;refine Kw λv _=>?_;rw[Zd5 l,T,Kd]
  by_cases a:g=true
  ·rw[Uc a]
   by_cases b:Gd x∈out
   ·rw[Uc (UQ b),c (λv=>by unfold cw;rw[f,UW,Uc a,Uc b];split<;>rfl)]
   ·rw[Ue (by rw[Ul];exact b)]
    rw[ZwF (q:=λv=>decide (ZkC live (L.take (k+1)) out (v:Int)≠0)) (by omega) ?_ ?_]
    ·rw[Ul,Zd5 l]
     unfold cw;rw[f,UW,Uc a,QP,Ue b];omega
    ·intro j r
     rw[Zd5 l];unfold cw;rw[f,UW,Uc a,QQ,Kd]
  ·rw[Ue a,c (λv=>by unfold cw;rw[f,UW,Ue a])]
 ·rintro _ rfl
  show Zaz (n:Int) L live out (ZnK n λv=>decide ((v:Int)∈out)) (L.length:Int) (ZnK n λv=>decide (ZkC live (L.take L.length) out (v:Int)≠0))=_;unfold Zaz;rw[Ue (Uf _),Uo];exact H
theorem ZAm {live:List Bool} {n:Nat} (h:Zx9 live L n) (x:out.length<=1000:=by omega) :
  Zx (λv=>XL (n:Int) out (ZnK n λv=>decide ((v:Int)∈out)) (ZnK n λv=>decide (ZkC live L out (v:Int)≠0)) v.1) ((0:Int),()) =
   some (.inr (match nxt live L n out with
    |none=>.inr ([],false)
    | some v=>.inl (out++[(v:Int)],ZnK n (λu=>decide ((u:Int)∈out++[(v:Int)])),()))):=by
 have f:=h.n0;have step:∀k:Nat,k<n->(decide ((k:Int) ∉ out)&&decide (ZkC live L out (k:Int)=0))=false->XL (n:Int) out (ZnK n λv=>decide ((v:Int)∈out)) (ZnK n λv=>decide (ZkC live L out (v:Int)≠0)) (k:Int)=some (.inl (((k+1:Nat):Int),())):=λk H g=>by
  unfold XL;rw[QP,Zo,Zgt H,Bq,YW];by_cases q:(k:Int)∈out
  ·rw[Uc (UQ q)]
  ·rw[Ue (by rw[Ul];exact q),Zo,Zgt H,Bq]
   have c:ZkC live L out (k:Int)≠0:=λz=>by
    rw[UQ q,UQ z]at g;exact Bool.noConfusion g
   rw[Uc (UQ c)]
 cases e:nxt live L n out with
 |none =>
  unfold nxt at e;rw[List.find?_range_eq_none]at e;refine XC n (λk v=>v=((k:Int),())) _ rfl ?_ ?_
  ·rintro k _ H rfl
   exact .inl ⟨_,step k H (by have:=e k H;rw[UU]at this;exact this),rfl⟩
  ·rintro _ rfl
   show XL _ _ _ _ (n:Int)=_;unfold XL;rw[Ue (Uf _),Uc rfl]
 |some v =>
  unfold nxt at e;rw[List.find?_range_eq_some]at e;obtain⟨g,a,w⟩:=e;have a:=KF.1 a;rw[Ur,Ul,Ul]at g;refine XC v (λk u=>u=((k:Int),())) _ rfl ?_ ?_
  ·rintro k _ H rfl
   exact .inl ⟨_,step k (by omega) (by have:=w k H;rw[UU]at this;exact this),rfl⟩
  ·rintro _ rfl
   show XL _ _ _ _ (v:Int)=_;unfold XL;rw[QP,Zo,Zgt a,Bq,Ue (by rw[Ul];exact g.1),Zo,Zgt a,Bq,Ue (by rw[Ul];exact λz=>z g.2),QQ,Zi (by simp only[Um,Uq];omega),Up];rw[ZwF (q:=λu=>decide ((u:Int)∈out++[(v:Int)])) a (UQ (Ut.2 (.inr (Uw.2 rfl)))) (λj b=>by
    rw[Ks,Ut,Uw];constructor
    ·rintro(z|z)
     ·exact z
     ·omega
    ·exact .inl)]
theorem ZqJ {live:List Bool} {L:List Zp} {n:Nat} (h:Zx9 live L n):∀(m:Nat) (out:List Int),out.length+m=n->
  Zx (λv=>Jc (n:Int) L live v.1 v.2.1) (out,ZnK n (λu=>decide ((u:Int)∈out)),())=some (Zvt live L n m out)
 |0,out,R=>by
  refine Xi ?_;show Jc (n:Int) L live out _=_;unfold Jc;rw[QQ];rfl
 |m+1,out,R=>by
  have f:=h.n0;have c:=ZxZ h (ZAm h (out:=out));have q:Jc (n:Int) L live out (ZnK n (λu=>decide ((u:Int)∈out)))=some (match nxt live L n out with
    |none=>.inr ([],false)
    | some v=>.inl (out++[(v:Int)],ZnK n (λu=>decide ((u:Int)∈out++[(v:Int)])),())):=by
   unfold Jc;rw[QP];exact c
  unfold Zvt;cases e:nxt live L n out with
  |none =>
   rw[e]at q;exact Xi q
  |some v =>
   rw[e]at q;exact(Xk q).trans (ZqJ h m (out++[(v:Int)]) (by rw[Ug];simp only[Um,Uq];omega))
theorem Zs8 {live:List Bool} {n:Nat} (h:Zx9 live L n):Zhl (n:Int) L live=some (Zvt live L n n []):=by
 have f:=h.n0;unfold Zhl;rw[Ra,Ra,Ra,Ra,Up,ZrH];have:=ZqJ h n [] (by simp);simpa using this
def ZlZ (n:Nat) (p:Nat->Int):List Int:=(List.range n).map p
variable {p:Nat->Int}
theorem Zgr {n:Nat} {v:Nat} (h:v<n:=by omega):(ZlZ n p)[v]?=some (p v):=by
 unfold ZlZ;grind
theorem Zgs (n:Nat) (p:Nat->Int):(ZlZ n p).length=n:=by unfold ZlZ;simp
theorem ZsF {n:Nat} {q:Nat->Int} {b:Int} (l:i<n) (d:q i=b) (f:∀j,j≠i->q j=p j):List.set (ZlZ n p) i b=ZlZ n q:=by
 apply Ux;intro j;rw[UN];by_cases c:i=j
 ·subst c
  rw[Uc rfl,Uc (by rw[Zgs];exact l),Zgr l,d]
 ·rw[Ue c]
  by_cases h:j<n
  ·rw[Zgr h,Zgr h,f j (λe=>c e.symm)]
  ·rw[Uy (by rw[Zgs];omega),Uy (by rw[Zgs];omega)]
def Zq2 (live:List Bool) (node:Int) (k:Nat) (x:Zp):List Int:=if(live[k]?).getD false=true then(if Gd x=node then[(k:Int)]else[])else[]
def ZtM (b:Za) (live:List Bool) (node:Int):List Int:=cat (Zq2 live node) 0 (Zu b)
theorem Zy8 (live:List Bool) (node:Int) (k:Nat) (x:Zp):(Zq2 live node k x).length<=1:=by
 unfold Zq2;grind
theorem ZtN {b:Za} (h:Z4 b) (live:List Bool) (node:Int) (n:Nat):(cat (Zq2 live node) 0 ((Zu b).take n)).length<=6000:=by
 have d:=ZaN (f:=Zq2 live node) (c:=1) (l:=(Zu b).take n) (m:=0) (λk x _=>Zy8 live node k x);have H:=QC h;grind
theorem Zsp {b:Za} (h:Z4 b) {v:ZM} (a:VOk b v) {live:List Bool} (d:live.length=(Zu b).length) (node:Int):Zfn (v,live,()) node=some (ZtM b live node):=by
 have I:=QC h;have e:ZM.links (GB ((v,live,()):ZO))=Zu b:=a.links;have j:ZO.live ((v,live,()):ZO)=live:=rfl;unfold Zfn Qd;have:=XG (l:=Zu b) (ρ:=List Int) (Zq2 live node) [] (step:=λu=>YZ (v,live,()) (node,()) u.1 u.2.1) (good:=ZtM b live node)
  (λk x H c=>by
   have f:live[k]?=some (live[k]'(by omega)):=Ua _;have n:=ZtN h live node k;simp only[YZ,e,j,show(k:Int)<((Zu b).length:Int)from by omega,Ui,Zo,H,f,Bq,Zfo,Uv,YW (show k<=1048576 by omega)];unfold Zq2 at *;rw[f];simp only[UW];by_cases Q:live[k]'(by omega)=true
   ·rw[Uc Q,Uc Q]
    by_cases q:Gd x=node
    ·rw[Uc (UQ q),Uc q,Zi (by grind)]
    grind
   grind)
  (by simp only[YZ,e,Uf,Uh,Uv];rfl)
 rw[this];rfl
theorem Zxr {n:Nat} (f:n<=1000):Za8 (ZlZ n p) 0=some (match (List.range n).find? (λv=>decide (p v=0)) with
  |none=>-1
  | some v=>(v:Int)):=by
 unfold Za8;cases e:(List.range n).find? (λv=>decide (p v=0))with
 |none =>
  rw[List.find?_range_eq_none]at e;refine XC n (λk v=>v=((k:Int),())) _ rfl ?_ ?_
  ·rintro k _ H rfl
   have T:=e k H;rw[UU,Kr]at T;simp only[Qf,Zgs,show(k:Int)<(n:Int)from by omega,Ui,Zo,Zgr H,Bq,YW (show k<=1048576 by omega)];grind
  ·rintro _ rfl
   simp only[Qf,Zgs,Uf,Uh]
 |some v =>
  rw[List.find?_range_eq_some]at e;obtain⟨g,a,w⟩:=e;have a:=KF.1 a;rw[Ul]at g;refine XC v (λk u=>u=((k:Int),())) _ rfl ?_ ?_
  ·rintro k _ H rfl
   have T:=w k H;rw[UU,Kr]at T;simp only[Qf,Zgs,show(k:Int)<(n:Int)from by omega,Ui,Zo,Zgr (show k<n by omega),Bq,YW (show k<=1048576 by omega)];grind
  ·rintro _ rfl
   simp only[Qf,Zgs,show(v:Int)<(n:Int)from by omega,Ui,Zo,Zgr a,Bq];rw[Uc g.symm]
def Zv0 (live:List Bool) (k:Nat) (x:Zp):List Int:=if(live[k]?).getD false=true then[(k:Int)]else[]
theorem Zv1 (live:List Bool) (k:Nat) (x:Zp):(Zv0 live k x).length<=1:=by
 unfold Zv0;split<;>simp
theorem Zsb {b:Za} (h:Z4 b) {v:ZM} (a:VOk b v) {live:List Bool} (q:live.length=(Zu b).length):Xl (v,live,()) ()=some (cat (Zv0 live) 0 (Zu b)):=by
 have I:=QC h;have e:ZM.links (GB ((v,live,()):ZO))=Zu b:=a.links;have j:ZO.live ((v,live,()):ZO)=live:=rfl;unfold Xl;exact XG (l:=Zu b) (ρ:=List Int) (Zv0 live) [] (step:=λu=>YU (v,live,()) u.1 u.2.1) (good:=cat (Zv0 live) 0 (Zu b))
  (λk x d g=>by
   have H:live[k]?=some (live[k]'(by omega)):=Ua _;have n:=ZaN (f:=Zv0 live) (c:=1) (l:=(Zu b).take k) (m:=0) (λk x _=>Zv1 live k x);rw[Uj]at n;simp only[YU,e,j,show(k:Int)<((Zu b).length:Int)from by omega,Ui,Zo,d,H,Bq,Zer,Uv,YW (show k<=1048576 by omega)];unfold Zv0 at *;rw[H];simp only[UW];by_cases Q:live[k]'(by omega)=true
   ·rw[Uc Q,Uc Q,Zi (by grind)]
   grind)
  (by simp only[YU,e,Uf,Uh,Uv])
def Zya (L:List Zp) (c:Int) (y:Int) (l:List Int):List Int:=match L[y.toNat]? with
 |some x=>List.set l (Gf x).toNat ((l[(Gf x).toNat]?).getD 0+c)
 |none=>l
theorem Zsu {c:Int} (h:L[k]?=some x) (l:List Int):Zya L c (k:Int) l=List.set l (Gf x).toNat ((l[(Gf x).toNat]?).getD 0+c):=by
 unfold Zya;grind
theorem Zrw {live:List Bool} {L:List Zp} {n:Nat} (h:Zx9 live L n):∀k,k<=L.length->foldI (λk x l=>foldI (λ_ y l=>Zya L 1 y l) 0 (Zv0 live k x) l) 0 (L.take k) (List.replicate n 0)=ZlZ n λv=>(ZkC live (L.take k) [] (v:Int):Int)
 |0,_=>by
  rw[Kt];apply Ux;intro j;by_cases b:j<n
  ·rw[Zgr b]
   simp only[foldI];rw[Kb,Uc b];rfl
  ·rw[Uy (by simp only[foldI];grind),Uy (by rw[Zgs];omega)]
 |k+1,c=>by
  have m:=h.ll;have H:L[k]?=some (L[k]'(by omega)):=Ua _;have f:live[k]?=some (live[k]'(by omega)):=Ua _;generalize L[k]'(by omega)=x at H;generalize live[k]'(by omega)=a at f;obtain⟨_,t0,V⟩:=h.bd x (Ud H);rw[ZfX H,Zrw h k (by omega)];unfold Zv0;rw[f,UW];by_cases q:a=true
  ·rw[Uc q]
   show Zya L 1 (k:Int) _=_;rw[Zsu H,Zgr,UW];refine ZsF (by omega) ?_ (λj b=>?_)
   ·rw[Zd5 H]
    unfold cw;grind
   ·rw[Zd5 H]
    unfold cw;grind
  ·rw[Ue q]
   show ZlZ n _=ZlZ n _;unfold ZlZ;refine Kw λv _=>?_;rw[Zd5 H];unfold cw;grind
theorem Zxk {b:Za} (h:Z4 b) {v:ZM} (t:VOk b v) {live:List Bool} {n:Nat} (j:Zx9 live (Zu b) n) {R:List Int×Bool}
  (B:Zx (λu=>Xf (v,live,()) (ZlZ n λu=>(ZkC live (Zu b) [] (u:Int):Int)) u.1 u.2.1 u.2.2.1) (([]:List Int),(0:Int),ZlZ n (λu=>(ZkC live (Zu b) [] (u:Int):Int)),())=some (.inr R)) :
  Zx (λu=>QM (v,live,()) (cat (Zv0 live) 0 (Zu b)) u.1 u.2.1) ((0:Int),List.replicate n (0:Int),())=some R:=by
 have I:=j.few;have E:ZM.links (GB ((v,live,()):ZO))=Zu b:=t.links;have w:=ZaN (f:=Zv0 live) (c:=1) (l:=Zu b) (m:=0) (λk x _=>Zv1 live k x);refine ZfY (l:=cat (Zv0 live) 0 (Zu b)) (by unfold Len;omega) (λs i=>(i,s,())) (f:=λ_ y s=>Zya (Zu b) 1 y s) (s0:=List.replicate n (0:Int)) (λk s=>s.length=n/\∀z∈s,0<=z/\z<=(k:Int)) ⟨UR,λz T=>by grind⟩ (λm y s g p _=>?_) (λs p e=>?_)
 ·obtain⟨r,A⟩:=p
  have D:=(Ub.1 g).1;obtain⟨k,x,d,a⟩:=Xx.1 (Ud g);rw[Us]at a;have q:y=(k:Int):=by
   unfold Zv0 at a;grind
  subst q;obtain⟨_,t0,V⟩:=j.bd x (Ud d);have T:s[(Gf x).toNat]?=some (s[(Gf x).toNat]'(by omega)):=Ua _;have o:=A _ (Ud T);generalize s[(Gf x).toNat]'(by omega)=z at T o;have C:Zya (Zu b) 1 (k:Int) s=List.set s (Gf x).toNat (z+1):=by rw[Zsu d,T];rfl
  refine⟨?_,?_⟩
  ·show QM (v,live,()) _ (m:Int) s=_
   unfold QM;rw[QP,Zo,g,Bq,E,Zo,d,Bq,Yw t0 T,Bq,QR (n:=z+1),C]
  grind
 ·rw[Zmk (λy s=>Zya (Zu b) 1 y s)]at e
  have H:=Zrw j (Zu b).length (UO _);rw[Uo]at H;rw[H]at e;subst e;show QM (v,live,()) _ ((cat (Zv0 live) 0 (Zu b)).length:Int) _=_;unfold QM;grind
def dw (live:List Bool) (w v:Int) (k:Nat) (x:Zp):Nat:=if(live[k]?).getD false=true then(if Gf x=v then(if Gd x=w then 1 else 0)else 0)else 0
def ZD4 (live:List Bool) (L:List Zp) (w v:Int):Nat:=foldI (λk x s=>s+dw live w v k x) 0 L 0
variable {w:Int}
theorem Zma {live:List Bool} {v:Int} (l:L[k]?=some x):ZD4 live (L.take (k+1)) w v=ZD4 live (L.take k) w v+dw live w v k x:=by
 unfold ZD4;rw[ZfX l]
theorem ZBg (live:List Bool) (c:w ∉ out) (v:Int) (k:Nat) (x:Zp):cw live out v k x=cw live (out++[w]) v k x+dw live w v k x:=by
 unfold cw dw;grind
theorem Zm1 (live:List Bool) (L:List Zp) {out:List Int} {w:Int} (c:w ∉ out) (v:Int):∀k,k<=L.length->ZkC live (L.take k) out v=ZkC live (L.take k) (out++[w]) v+ZD4 live (L.take k) w v
 |0,_=>rfl
 |k+1,H=>by
  have l:L[k]?=some (L[k]'(by omega)):=Ua _;rw[Zd5 l,Zd5 l,Zma l,Zm1 live L c v k (by omega),ZBg live c v k];omega
theorem ZD7 (live:List Bool) (L:List Zp) (out:List Int) (v:Int):∀(m k:Nat) (x:Zp),m<=L.length->k<m->L[k]?=some x->cw live out v k x<=ZkC live (L.take m) out v
 |0,k,x,_,H,_=>by omega
 |m+1,k,x,R,H,l=>by
  have i:L[m]?=some (L[m]'(by omega)):=Ua _;rw[Zd5 i];by_cases e:k=m
  ·grind
  ·have:=ZD7 live L out v m k x (by omega) (by omega) l
   omega
noncomputable def opn (live:List Bool) (L:List Zp) (out:List Int) (u:Nat):Int:=if(u:Int)∈out then -1 else(ZkC live L out (u:Int):Int)
def Clo (live:List Bool) (L:List Zp) (out:List Int):Prop:=∀u∈out,ZkC live L out u=0
theorem Zv7 {live:List Bool} {L:List Zp} {n:Nat} (h:Zx9 live L n) {out:List Int} {w:Nat} (b:w<n) (p:(w:Int) ∉ out) (d:ZkC live L out (w:Int)=0) (a:Clo live L out):∀k,k<=L.length->
  foldI (λk x l=>foldI (λ_ y l=>Zya L (-1) y l) 0 (Zq2 live (w:Int) k x) l) 0 (L.take k) (List.set (ZlZ n (opn live L out)) w (-1))=ZlZ n λu=>if(u:Int)∈out++[(w:Int)]then -1 else(ZkC live L out (u:Int):Int)-(ZD4 live (L.take k) (w:Int) (u:Int):Int)
 |0,_=>by
  rw[Kt];simp only[foldI];refine ZsF b ?_ (λj i=>?_)
  ·grind
  ·unfold opn
   by_cases q:(j:Int)∈out
   ·grind
   ·rw[Ue q,Ue (λz=>by
     grind)]
    show _-((0:Nat):Int)=_;omega
 |k+1,r=>by
  have m:=h.ll;have H:L[k]?=some (L[k]'(by omega)):=Ua _;have f:live[k]?=some (live[k]'(by omega)):=Ua _;generalize L[k]'(by omega)=x at H;generalize live[k]'(by omega)=v at f;obtain⟨_,t0,V⟩:=h.bd x (Ud H);rw[ZfX H,Zv7 h b p d a k (by omega)];have e:=ZD7 live L out (Gf x) L.length k x (UO _) (by omega) H;rw[Uo]at e;have c:(∀u:Int,dw live (w:Int) u k x=0)->ZlZ n (λu=>if(u:Int)∈out++[(w:Int)]then -1 else(ZkC live L out (u:Int):Int)-(ZD4 live (L.take k) (w:Int) (u:Int):Int))=ZlZ n λu=>if(u:Int)∈out++[(w:Int)]then -1 else(ZkC live L out (u:Int):Int)-(ZD4 live (L.take (k+1)) (w:Int) (u:Int):Int):=λT=>by
   unfold ZlZ;refine Kw λu _=>?_;rw[Zma H,T,Kd]
  unfold Zq2;rw[f,UW];by_cases q:v=true
  ·rw[Uc q]
   by_cases Q:Gd x=(w:Int)
   ·rw[Uc Q]
    have g:cw live out (Gf x) k x=1:=by
     unfold cw;grind
    have o:Gf x ∉ out++[(w:Int)]:=λz=>by
     rcases Ut.1 z with z|z
     ·have:=a _ z;omega
     grind
    show Zya L (-1) (k:Int) _=_;rw[Zsu H,Zgr,UW,show((Gf x).toNat:Int)=Gf x by omega,Ue o];refine ZsF (by omega) ?_ (λj i=>?_)
    ·rw[show((Gf x).toNat:Int)=Gf x by omega,Ue o,Zma H]
     unfold dw;grind
    ·have N:dw live (w:Int) (j:Int) k x=0:=by
      unfold dw;grind
     rw[Zma H,N,Kd]
   ·rw[Ue Q]
    exact c λu=>by unfold dw;grind
  ·rw[Ue q]
   exact c λu=>by unfold dw;grind
theorem ZyL (live:List Bool) (L:List Zp) (out:List Int) (v:Int):∀k,k<=L.length->ZkC live (L.take k) out v<=k
 |0,_=>UO _
 |k+1,H=>by
  have l:L[k]?=some (L[k]'(by omega)):=Ua _;rw[Zd5 l];have:=ZyL live L out v k (by omega);have d:cw live out v k (L[k]'(by omega))<=1:=by
   unfold cw;split
   ·split
    ·split<;>omega
    ·omega
   ·omega
  omega
theorem ZF7 {live:List Bool} {n:Nat} (h:Zx9 live L n) (out:List Int) (u:Nat):-1<=opn live L out u/\opn live L out u<=6000:=by
 have d:=ZyL live L out (u:Int) L.length (UO _);have f:=h.few;rw[Uo]at d;unfold opn;split<;>omega
theorem ZBa {live:List Bool} (f:w ∉ out) (c:ZkC live L out w=0) (h:Clo live L out):Clo live L (out++[w]):=by
 intro u a;have s:=Zm1 live L f u L.length (UO _);rw[Uo]at s;rcases Ut.1 a with q|q
 ·have:=h u q
  omega
 ·rw[Uw.1 q]at s ⊢
  omega
theorem Zy9 {b:Za} {live:List Bool} {y:Int} (i:y∈ZtM b live w):∃(k:Nat) (x:Zp),y=(k:Int)/\(Zu b)[k]?=some x/\Gd x=w:=by
 obtain⟨k,x,l,H⟩:=Xx.1 i;rw[Us]at H;unfold Zq2 at H;split at H
 ·split at H
  ·rename_i q
   exact⟨k,x,Uw.1 H,l,q⟩
  ·cases H
 ·cases H
theorem ZBj {b:Za} (h:Z4 b) {v:ZM} (D:VOk b v) {live:List Bool} {n:Nat} (j:Zx9 live (Zu b) n) {w:Nat} (F:w<n) (r:(w:Int) ∉ out) (t:ZkC live (Zu b) out (w:Int)=0) (L:Clo live (Zu b) out) (i:Int) :
  Zx (λu=>QL (v,live,()) out i (w:Int) (ZtM b live (w:Int)) u.1 u.2.1) ((0:Int),List.set (ZlZ n (opn live (Zu b) out)) w (-1:Int),()) =
   some (.inl (out++[(w:Int)],Wq (i+1),ZlZ n (opn live (Zu b) (out++[(w:Int)])),())):=by
 have I:=j.few;have E:ZM.links (GB ((v,live,()):ZO))=Zu b:=D.links;have p:(ZtM b live (w:Int)).length<=6000:=by
  have:=ZtN h live (w:Int) (Zu b).length;rw[Uo]at this;exact this
 refine ZfY (l:=ZtM b live (w:Int)) (by unfold Len;omega) (λs i=>(i,s,())) (f:=λ_ y s=>Zya (Zu b) (-1) y s) (s0:=List.set (ZlZ n (opn live (Zu b) out)) w (-1:Int)) (λk s=>s.length=n/\∀z∈s,-1-(k:Int)<=z/\z<=6000) ⟨by rw[UF,Zgs],λz T=>?_⟩ (λm y s a d _=>?_) (λs d e=>?_)
 ·rcases U2 T with q|q
  ·unfold ZlZ at q
   obtain⟨u,_,rfl⟩:=Kg.1 q;have:=ZF7 j out u;omega
  ·omega
 ·obtain⟨g,A⟩:=d
  have R:=(Ub.1 a).1;obtain⟨k,x,rfl,H,_⟩:=Zy9 (Ud a);obtain⟨_,t0,V⟩:=j.bd x (Ud H);have T:s[(Gf x).toNat]?=some (s[(Gf x).toNat]'(by omega)):=Ua _;have o:=A _ (Ud T);generalize s[(Gf x).toNat]'(by omega)=z at T o;have C:Zya (Zu b) (-1) (k:Int) s=List.set s (Gf x).toNat (z-1):=by rw[Zsu H,T];rfl
  refine⟨?_,?_⟩
  ·show QL (v,live,()) out i (w:Int) _ (m:Int) s=_
   unfold QL;rw[QP,Zo,a,Bq,E,Zo,H,Bq,Yw t0 T,Bq,QR (n:=z-1),C]
  ·rw[C]
   refine⟨by rw[UF];exact g,λZ c=>?_⟩;rcases U2 c with q|q
   ·have:=A Z q;omega
   ·omega
 ·have N:=Zv7 j F r t L (Zu b).length (UO _)
  unfold ZtM at e;rw[Zmk (λy s=>Zya (Zu b) (-1) y s)]at e;rw[Uo]at N;rw[N]at e;subst e;show QL (v,live,()) out i (w:Int) _ ((ZtM b live (w:Int)).length:Int) _=_;unfold QL;rw[Ue (Uf _)];congr 6;unfold ZlZ;refine Kw λu _=>?_;have B:=Zm1 live (Zu b) r (u:Int) (Zu b).length (UO _);rw[Uo]at B;unfold opn;split
  ·rfl
  ·omega
theorem ZF6 (live:List Bool) (L:List Zp) (n:Nat) (out:List Int):(List.range n).find? (λv=>decide (opn live L out v=0))=nxt live L n out:=by
 unfold nxt;congr 1;funext v;unfold opn;by_cases q:(v:Int)∈out
 ·rw[Uc q,decide_eq_false (by omega),decide_eq_false (λz=>z q),Bool.false_and]
 ·rw[Ue q,UQ q,Bool.true_and,Ks]
  omega
theorem ZpY {b:Za} (h:Z4 b) {v:ZM} (a:VOk b v) {live:List Bool} {n:Nat} (j:Zx9 live (Zu b) n) {l0:List Int} (k:l0.length=n):∀(m:Nat) (out:List Int),out.length+m=n->Clo live (Zu b) out->
  Zx (λu=>Xf (v,live,()) l0 u.1 u.2.1 u.2.2.1) (out,(out.length:Int),ZlZ n (opn live (Zu b) out),())=some (.inr (Zvt live (Zu b) n m out))
 |0,out,R,L=>by
  refine Xi ?_;show Xf (v,live,()) l0 out (out.length:Int) _=_;unfold Xf;rw[QQ];rfl
 |m+1,out,R,L=>by
  have f:=j.n0;have l:=Zxr (p:=opn live (Zu b) out) j.n0;rw[ZF6]at l;unfold Zvt;cases e:nxt live (Zu b) n out with
  |none =>
   rw[e]at l;refine Xi ?_;show Xf (v,live,()) l0 out (out.length:Int) _=_;unfold Xf;rw[QP,l];rfl
  |some w =>
   rw[e]at l;have E:=e;unfold nxt at E;rw[List.find?_range_eq_some]at E;obtain⟨g,c,_⟩:=E;have c:=KF.1 c;rw[Ur,Ul,Ul]at g;have H:Xf (v,live,()) l0 out (out.length:Int) (ZlZ n (opn live (Zu b) out))=some (.inl (out++[(w:Int)],((out++[(w:Int)]).length:Int),ZlZ n (opn live (Zu b) (out++[(w:Int)])),())):=by
    unfold Xf;rw[QP,l,Bq];show(if(w:Int)<0 then _ else _)=_;rw[QQ,Zo,Zgr c,Bq,Zi (by simp only[Um,Uq];omega),Zsp h a j.ll,Bq,Up,ZBj h a j c g.1 g.2 L,YW];rw[Ug];rfl
   exact(Xk H).trans (ZpY h a j k m (out++[(w:Int)]) (by rw[Ug];simp only[Um,Uq];omega) (ZBa g.1 g.2 L))
theorem Zss {b:Za} (h:Z4 b) {v:ZM} (a:VOk b v) {live:List Bool} {n:Nat} (j:Zx9 live (Zu b) n) (f:YC v=some (n:Int)):ZaR (v,live,())=some (Zvt live (Zu b) n n []):=by
 have d:=j.n0;unfold ZaR;show(YC v).bind _=_;rw[f,Bq,Ra,Ra,Ra,Ra,Zsb h a j.ll,Bq,Up];refine Zxk h a j ?_;have:=ZpY h a j (l0:=ZlZ n λu=>(ZkC live (Zu b) [] (u:Int):Int)) (Zgs _ _) n [] (by simp) (λu H=>by cases H);have e:ZlZ n (opn live (Zu b) [])=ZlZ n λu=>(ZkC live (Zu b) [] (u:Int):Int):=by
  unfold ZlZ;refine Kw λu _=>?_;unfold opn;rw[Ue (by simp)]
 rw[e]at this;exact this
abbrev Yt (b:Za):Nat:=2*(places (KX b)).length
abbrev VO (b:Za) (br:List Int):List Bool:=Zdd (Zu b).length br
def V4 (b:Za) (br:List Int):List Int×Bool:=Zvt (VO b br) (Zu b) (Yt b) (Yt b) []
theorem nN (b:Za):Yt b=2*(places (KX b)).length:=rfl
theorem Zhc {b:Za} (h:Z4 b):Yt b<=156:=by
 have:=ZT h.ok.1.few;have:=nN b;omega
theorem ZKq {b:Za} (h:Z4 b) (br:List Int):Zx9 (VO b br) (Zu b) (Yt b) where
 few:=QC h
 ll:=Zf5 _ _
 n0:=by have:=Zhc h;omega
 bd:=λx l=>by
  have:=Zb6 h l;have:=nN b;omega
theorem Zpg {b:Za} (h:Z4 b) {v:ZM} (a:VOk b v):YC v=some (Yt b:Int):=by
 have:=Zhc h;have e:=nN b;unfold YC;rw[show Y1 (ZM.places v)=some ((ZM.places v).length:Int)from rfl,Bq,a.places,QR];congr 1
theorem Zp2 {b:Za} (h:Z4 b) {v:ZM} (a:VOk b v) {br:List Int} (r:br.length<=1048576):QG v br=some (tr (Zit ((Zu b).length:Int) br)):=by
 have s:=QC h;unfold QG;rw[show Za1 (ZM.links v)=some ((ZM.links v).length:Int)from rfl,Bq,a.links,QR];exact Zji br _ r
theorem ZrG {b:Za} (h:Z4 b) {br:List Int} (r:br.length<=1048576):ZgG b br=some (sel (Zit ((Zu b).length:Int) br) 0 2):=by
 have s:=QC h;unfold ZgG;rw[XO b h.sm,Bq,Uc (ZX h.ok),Zcz h,Bq,Zn4 br _ r,Bq];by_cases q:Zit ((Zu b).length:Int) br
 ·rw[Uc (ZX q),QY q]
 ·rw[Ue (λz=>q ((YL _).1 z)),Qs q]
theorem Zoo {b:Za} (h:Z4 b):Vy b=some (Yt b:Int):=by
 rw[Zo2 h.ok.1.few];congr 1
theorem ZE6 {b:Za} (h:Z4 b) {br:List Int} (r:br.length<=1048576) (H:Zit ((Zu b).length:Int) br):Zbb b br=some (if(V4 b br).2=true then((V4 b br).1,0)else([],7)):=by
 have s:=QC h;unfold Zbb;rw[ZrG h r,Bq,QY H,Uc rfl,Zcz h,Bq,Zoo h,Bq,ZhQ _ _ s r,Bq,Zs8 (ZKq h br),Bq];show(if(V4 b br).2=true then _ else _)=_;split<;>rfl
theorem ZwS {b:Za} (h:Z4 b) {v:ZM} (a:VOk b v) (br:List Int):ZaR (v,VO b br,())=some (V4 b br) :=
 Zss h a (ZKq h br) (Zpg h a)
theorem ZrE {b:Za} (h:Z4 b) {v:ZM} (a:VOk b v) {br:List Int} (r:br.length<=1048576) (H:Zit ((Zu b).length:Int) br):VY v br=some (v,VO b br,()):=by
 have s:=QC h;have:=ZrD v br (by rw[a.links];exact s) (by rw[a.links];exact H.1) r;rw[a.links]at this;exact this
theorem ZKr {b:Za} (r:Ziu (2*((places (KX b)).length:Int)) t):Zg1 (Yt b) t:=by
 obtain⟨d,f,g,h⟩:=r;have E:=nN b;refine⟨by omega,by omega,by omega,λs q=>?_⟩;obtain⟨k,H⟩:=UA.1 q;have l:=(Ub.1 H).1;obtain⟨a,S,_,e,_,i,_⟩:=h k _ (Ua (show k<(K6 t).length by omega));rw[H]at e;injection e with e
 subst e;obtain⟨z,Z,c⟩:=i;exact⟨⟨by omega,by omega⟩,by omega,by omega⟩
theorem ZAp {n:Int} {l:List Zj} (h:Zee l (ZaB n l)) {i:Nat} {x:Zj} (a:l[i]?=some x):∀(m:Nat) (y:Zj),l[i+m+1]?=some y->Ge x<Ge y
 |0,y,H=>(h (i+1) y H).2.1 x (by omega) a
 |m+1,y,H=>by
  have q:=(Ub.1 H).1;have T:l[i+m+1]?=some (l[i+m+1]'(by omega)):=Ua _;have d:=ZAp h a m _ T;have f:=(h (i+m+1+1) y H).2.1 _ (by omega) T;omega
theorem ZDp {n:Int} {l:List Zj} (h:Zee l (ZaB n l)):ZvX l:=by
 intro i j x y H a m;rcases KJ i j with q|q|q
 ·have:=ZAp h H (j-i-1) y (by rw[show i+(j-i-1)+1=j by omega];exact a)
  omega
 ·exact q
 ·have:=ZAp h a (i-j-1) x (by rw[show j+(i-j-1)+1=i by omega];exact H)
  omega
structure ZjV (b:Za) (c:Zz) (br:List Int) (l:List Zj):Prop where
 blk:Z4 b
 cor:Jv c
 ris:Zit ((Zu b).length:Int) br
 src:Zee l (ZaB (2*((places (KX b)).length:Int)) l)
 ord:(V4 b br).2=true
structure Pre (b:Za) (c:Zz) (br:List Int) (l:List Zj):Prop where
 blk:Z4 b
 cor:Jv c
 ris:Zit ((Zu b).length:Int) br
 src:Zee l (ZaB (2*((places (KX b)).length:Int)) l)
theorem ZjV.pre {b:Za} {c:Zz} {br:List Int} {l:List Zj} (h:ZjV b c br l):Pre b c br l:=⟨h.blk,h.cor,h.ris,h.src⟩
theorem ZAJ (b:Za) (c:Zz) (br:List Int) (l:List Zj) (t:Zf) (e:sm Yg b) (g:sm XP c) (r:br.length<=1048576) (f:l.length<=1048576) :
  (∃code:Int,code≠0/\QT b c br l (some t)=some (none,[],code)/\(code=7/\Pre b c br l/\Ziu (2*((places (KX b)).length:Int)) t/\(V4 b br).2≠true\/¬(Pre b c br l/\Ziu (2*((places (KX b)).length:Int)) t)))\/
  (∃v,ZjV b c br l/\Ziu (2*((places (KX b)).length:Int)) t/\VOk b v/\QT b c br l (some t)=some (some (v,VO b br,()),(V4 b br).1,0)):=by
 unfold QT;rw[Zc7 b e,Bq];by_cases j:Zis b;rotate_left
 ·rw[Ue (λq=>j ((YL _).1 q))]
  exact .inl ⟨1,by decide,rfl,.inr λq=>j q.1.blk.ok⟩
 have h:Z4 b:=⟨j,e⟩;rw[Uc (ZX j),ZjM c,Bq];by_cases z:Jv c;rotate_left
 ·rw[Ue (λq=>z ((YL _).1 q))]
  exact .inl ⟨1,by decide,rfl,.inr λq=>z q.1.cor⟩
 obtain⟨v,p,a⟩:=Ztk h;have n:=Zhc h;have E:=nN b;rw[Uc (ZX z),p,Bq,Ue (by simp),Bq,ZjO h v a.places t,Bq];by_cases d:Ziu (2*((places (KX b)).length:Int)) t;rotate_left
 ·rw[Ue (λq=>d ((YL _).1 q))]
  exact .inl ⟨1,by decide,rfl,.inr λq=>d q.2⟩
 rw[Uc (ZX d),Zp2 h a r,Bq];by_cases H:Zit ((Zu b).length:Int) br;rotate_left
 ·rw[Ue (λq=>H ((YL _).1 q))]
  exact .inl ⟨2,by decide,rfl,.inr λq=>H q.1.ris⟩
 rw[Uc (ZX H),Zfm h v a.places l f,Bq];by_cases s:Zee l (ZaB (2*((places (KX b)).length:Int)) l);rotate_left
 ·rw[Ue (λq=>s ((YL _).1 q))]
  exact .inl ⟨2,by decide,rfl,.inr λq=>s q.1.src⟩
 rw[Uc (ZX s),ZrE h a r H,Bq,ZwS h a br,Bq];by_cases o:(V4 b br).2=true;rotate_left
 ·rw[Ue o]
  exact .inl ⟨7,by decide,rfl,.inl ⟨rfl,⟨h,z,H,s⟩,d,o⟩⟩
 rw[Uc o];exact .inr ⟨v,⟨h,z,H,s,o⟩,d,a,rfl⟩
def eqS (a b:ZA):Bool:=decide (Gc a=Gc b)&&decide (Gg a=Gg b)
theorem Zwh (a b:ZA):eqS a b=eqS b a:=by
 unfold eqS;congr 1<;>exact Ks.2 ⟨Eq.symm,Eq.symm⟩
def ZFk (x:Bool) (a s:ZA) (r:Bool×Zj):Bool:=if(x==r.1)=true then(if eqS a (GJ r.2)=true then !(eqS s (GN r.2))else true)else true
def ZiT (t:Zf) (k:Nat) (r:Bool×Zj):Zf:=(List.set (K6 t) k r.1,List.set (Gu t) k (GJ r.2),List.set (Gs t) k (GN r.2),())
theorem Ztf {n:Nat} (r:Zg1 n t) (H:k<n):∃x a s,atI (K6 t) (k:Int)=some x/\atI (Gu t) (k:Int)=some a/\atI (Gs t) (k:Int)=some s:=by
 have d:=r.lr;have f:=r.la;have g:=r.ls;exact⟨_,_,_,by rw[Zo];exact Ua (by omega),by rw[Zo];exact Ua (by omega),by rw[Zo];exact Ua (by omega)⟩
noncomputable def ZjU (b:Za) (c:Zz) (live:List Bool) (l:List Zj) (t:Zf) (k:Nat):Bool :=
 ZFk ((atI (K6 t) (k:Int)).getD false) ((atI (Gu t) (k:Int)).getD VH) ((atI (Gs t) (k:Int)).getD VH) (Zyc (k:Int) (ZaJ b c live l t (k:Int)))
def Fed (b:Za) (live:List Bool) (c:List Bool) (node:Int) (m:Nat):Prop:=∃(k:Nat) (x:Zp),k<m/\(Zu b)[k]?=some x/\live[k]?=some true/\Gf x=node/\atI c (Gd x)=some true
noncomputable def due (b:Za) (live:List Bool) (dirty:List Int) (c:List Bool) (node:Int):Bool:=tr (node∈dirty\/Fed b live c node (Zu b).length)
theorem ZvQ {b:Za} {live:List Bool} {y:Int}:y∈toL b live node<->∃(k:Nat) (x:Zp),(Zu b)[k]?=some x/\y=(k:Int)/\live[k]?=some true/\Gf x=node:=by
 unfold toL;rw[Xx];constructor
 ·rintro⟨k,x,l,i⟩
  rw[Us]at i;unfold toF at i;split at i
  ·rename_i q
   split at i
   ·rename_i Q
    refine⟨k,x,l,Uw.1 i,?_,Q⟩;cases e:live[k]? with
    |none=>rw[e]at q;cases q
    |some L=>rw[e]at q;rw[show L=true from q]
   ·cases i
  ·cases i
 ·rintro⟨k,x,l,rfl,d,f⟩
  refine⟨k,x,l,?_⟩;rw[Us];unfold toF;rw[d,UW,Uc rfl,Uc f];exact Uw.2 rfl
theorem ZE5 {b:Za} (h:Z4 b) (live:List Bool) (node:Int):(toL b live node).length<=6000:=by
 have:=ZvP h live node (Zu b).length;rw[Uo]at this;exact this
variable {C:List Bool}
theorem ZFP {b:Za} (h:Z4 b) (H:C.length=Yt b) (a:x∈Zu b):∃c,atI C (Gd x)=some c:=by
 have:=(Zb6 h a).1;have e:=nN b;obtain⟨c,q,_⟩:=ZgM (l:=C) this.1;exact⟨c,q⟩
theorem ZBv {b:Za} (h:Z4 b) {v:ZM} (j:VOk b v) {live:List Bool} (H:C.length=Yt b) (node:Int) :
  ZR (toL b live node) (C,((v,live,()):ZO),())=some (tr (Fed b live C node (Zu b).length)):=by
 have n:=ZE5 h live node;have e:ZM.links (GB ((v,live,()):ZO))=Zu b:=j.links;rw[V9 (by unfold Len;omega) (λy=>((atI (Zu b) y).bind λx=>atI C (Gd x)).getD false) (λy i=>by
  obtain ⟨k,x,l,rfl,_,_⟩:=ZvQ.1 i;obtain ⟨c,q⟩:=ZFP h H (Ud l);show VD (k:Int) C ((v,live,()):ZO)=_;unfold VD;rw[e,Zo,l,Bq,Bq,q];rfl)]
 congr 1;rw[KA,KN,YL];constructor
 ·rintro⟨y,i,g⟩
  obtain⟨k,x,l,rfl,d,f⟩:=ZvQ.1 i;rw[Zo,l,Bq]at g;obtain⟨c,q⟩:=ZFP h H (Ud l);rw[q,UW]at g;subst g;exact⟨k,x,(Ub.1 l).1,l,d,f,q⟩
 ·rintro⟨k,x,m,l,d,f,a⟩
  refine⟨(k:Int),ZvQ.2 ⟨k,x,l,rfl,d,f⟩,?_⟩;rw[Zo,l,Bq,a];rfl
theorem ZfW {α σ:Type} {f:Nat->α->σ->σ} {I:σ->Prop}:∀(l:List α) (m:Nat) (s:σ),I s->(∀k x s,l[k]?=some x->I s->I (f (m+k) x s))->I (foldI f m l s)
 |[],_,_,h,_=>h
 |x::l,m,s,h,a=>by
  simp only[foldI];have H:=a 0 x s rfl h;rw[Kd]at H;refine ZfW l (m+1) _ H λk y s i q=>?_;rw[show m+1+k=m+(k+1) by omega];exact a (k+1) y s (by rw[Kf];exact i) q
def StB (st:NSt):Prop:=∀q,st=some q->ZAT q.2
theorem ZDr:ZAT VH:=by
 refine⟨⟨?_,?_⟩,?_,?_⟩<;>decide
theorem ZAi (h:Jk s):ZAT s:=by
 obtain⟨z,Z,c⟩:=h;exact⟨⟨by omega,by omega⟩,by omega,by omega⟩
theorem ZCl (n:ZAT a) (q:ZAT s):ZAT (hul a s):=by
 obtain⟨⟨A,b⟩,j,k⟩:=n;obtain⟨⟨U,W⟩,X,Y⟩:=q;unfold hul;refine⟨⟨?_,?_⟩,?_,?_⟩
 ·show -1000000<=Min.min _ _;omega
 ·show Min.min _ _<=1000000;omega
 ·show -1000000<=Max.max _ _;omega
 ·show Max.max _ _<=1000000;omega
variable {st:NSt}
theorem ZCT {b:Za} (h:Z4 b) {v:ZM} (j:VOk b v) {c:Zz} (f:Jv c) (g:Zg1 (Yt b) t) (l:(Zu b)[k]?=some x) (e:StB st):StB (Zow b c t x st):=by
 obtain⟨r,a,s,F,n,J,A⟩:=Zu5 h g (Ud l);obtain⟨d,o,E,i,_,_,O,y⟩:=spans_eq h j f l A.1 A.2;have hsp:spn b c x s=(d,o):=by unfold spn;rw[i];rfl
 have u:Zow b c t x st=if r=true then Zzn st (ZsU a d) o else st:=by
  unfold Zow;rw[F,n,J];simp only[UW,hsp]
 rw[u];split
 ·intro q H
  cases st with
  |none =>
   injection H with H
   rw[<-H];exact⟨O,y⟩
  |some p =>
   injection H with H
   rw[<-H];exact ZCl (e p rfl) ⟨O,y⟩
 ·exact e
theorem ZnP {b:Za} {c:Zz} {br:List Int} {l:List Zj} (a:ZjV b c br l) {v:ZM} (d:VOk b v) (r:Zg1 (Yt b) t) (live:List Bool) (node:Int):StB (ZaJ b c live l t node):=by
 unfold ZaJ;refine ZfW _ _ _ ?_ (λk x st H s=>?_)
 ·unfold ZgI
  refine ZfW _ _ _ (λq h=>by cases h) (λk x st H s=>?_);show StB (if Ge x=node then _ else st);split
  ·intro q h
   injection h with h
   rw[<-h];exact ZAi (a.src k x H).2.2.2
  ·exact s
 ·show StB (if(live[0+k]?).getD false=true then _ else st)
  split
  ·split
   ·exact ZCT a.blk d a.cor r H s
   ·exact s
  ·exact s
theorem Zqp {n:Nat} (h:Zg1 n t) (k:Nat) {r:Bool×Zj} (F:ZAT (GN r.2)):Zg1 n (ZiT t k r):=by
 refine⟨?_,?_,?_,λs H=>?_⟩
 ·show(List.set (K6 t) k r.1).length=n
  rw[UF];exact h.lr
 ·show(List.set (Gu t) k (GJ r.2)).length=n
  rw[UF];exact h.la
 ·show(List.set (Gs t) k (GN r.2)).length=n
  rw[UF];exact h.ls
 ·rcases U2 (show s∈List.set (Gs t) k (GN r.2)from H)with q|q
  ·exact h.sl s q
  ·rw[q];exact F
theorem ZsY (h:StB st) (node:Int):ZAT (GN (Zyc node st).2):=by
 cases st with
 |none=>exact ZDr
 |some q=>exact h q rfl
theorem ZDo {live:List Bool} {n:Nat} {v:Nat} (h:nxt live L n out=some v):v<n/\(v:Int) ∉ out/\ZkC live L out (v:Int)=0:=by
 unfold nxt at h;rw[List.find?_range_eq_some]at h;obtain⟨g,a,_⟩:=h;rw[Ur,Ul,Ul]at g;exact⟨KF.1 a,g⟩
theorem ZzQ (live:List Bool) (L:List Zp) (n:Nat):∀(m:Nat) (out:List Int),(∀u∈out,0<=u/\u<(n:Int))->(Zvt live L n m out).1.length<=out.length+m/\∀u∈(Zvt live L n m out).1,0<=u/\u<(n:Int)
 |0,out,h=>⟨by show out.length<=_;omega,h⟩
 |m+1,out,h=>by
  unfold Zvt;cases e:nxt live L n out with
  |none=>exact⟨by simp,λu a=>by cases a⟩
  |some v =>
   have H:=(ZDo e).1;obtain ⟨d,f⟩:=ZzQ live L n m (out++[(v:Int)]) (λu a=>by
    rcases Ut.1 a with q|q
    ·exact h u q
    ·rw[Uw.1 q];omega)
   refine⟨?_,f⟩;rw[Ug]at d;simp only[Um,Uq]at d;show(Zvt live L n m (out++[(v:Int)])).1.length<=_;omega
theorem ZsR (b:Za) (br:List Int):(V4 b br).1.length<=Yt b/\∀u∈(V4 b br).1,0<=u/\u<(Yt b:Int):=by
 have:=ZzQ (VO b br) (Zu b) (Yt b) (Yt b) [] (λu a=>by cases a);rw[Uq,Us]at this;exact this
noncomputable def newV (b:Za) (c:Zz) (live:List Bool) (l:List Zj) (t:Zf) (node:Int):Bool×Zj:=Zyc node (ZaJ b c live l t node)
noncomputable def Zr7 (r:Bool×Zj):Bool:=r.1&&!tr (ZaI (GJ r.2))
noncomputable def ZnY (b:Za) (c:Zz) (live:List Bool) (l:List Zj) (dirty:List Int):List Int->List Int->Zf->List Bool->Bool×List Int×Zf
 |[],d,t,_=>(true,d,t)
 |node::r,d,t,h=>match due b live dirty h node with
  |true=>match Zr7 (newV b c live l t node)with
   |true=>(false,[],t)
   |false=>ZnY b c live l dirty r (d++[node]) (ZiT t node.toNat (newV b c live l t node)) (List.set h node.toNat (ZjU b c live l t node.toNat))
  |false=>ZnY b c live l dirty r d t h
theorem ZAM {b:Za} {c:Zz} {live:List Bool} {l:List Zj} {x:Bool} (h:atI (K6 t) (k:Int)=some x) (n:atI (Gu t) (k:Int)=some a) (q:atI (Gs t) (k:Int)=some s):ZjU b c live l t k=ZFk x a s (newV b c live l t (k:Int)):=by
 unfold ZjU newV;rw[h,n,q];rfl
theorem Zs0 (b:Za) (c:Zz) (live:List Bool) (l:List Zj) (dirty:List Int) {n:Nat} {P:Zf->Prop} (p:∀(t:Zf) (node:Int),P t->P (ZiT t node.toNat (newV b c live l t node))) :
  ∀(r d:List Int) (t:Zf) (C:List Bool),P t->(ZnY b c live l dirty r d t C).2.1.length<=d.length+r.length/\P (ZnY b c live l dirty r d t C).2.2
 |[],d,t,C,h=>⟨by show d.length<=_;simp,h⟩
 |node::r,d,t,C,h=>by
  unfold ZnY;split
  ·split
   ·exact⟨by simp,h⟩
   ·have:=Zs0 b c live l dirty (n:=n) p r (d++[node]) _ (List.set C node.toNat (ZjU b c live l t node.toNat)) (p t node h)
    rw[Ug]at this;simp only[Um,Uq]at this ⊢;exact⟨by omega,this.2⟩
  ·have:=Zs0 b c live l dirty (n:=n) p r d t C h
   simp only[Um];exact⟨by omega,this.2⟩
def noT:Zf:=([],[],[],())
section
variable {b:Za} {c:Zz} {br:List Int} {l:List Zj} {v:ZM}
variable {C:List Bool} {ρ:Type}
theorem ZBu (d:ZjV b c br l) (a:VOk b v) (H:C.length=Yt b) (node:Int) {dirty:List Int} (N:dirty.length<=1048576) (T F:Option ρ) :
  ((Yj dirty node).bind λx=>if x=true then T else(Zce ((v,VO b br,()):ZO) node).bind λto0=>(ZR to0 (C,((v,VO b br,()):ZO),())).bind λy=>if y=true then T else F)=if due b (VO b br) dirty C node=true then T else F:=by
 have h:=d.blk;have m:(VO b br).length=(Zu b).length:=Zf5 _ _;rw[Zga (by unfold Len;omega),Bq,ZpT h a m,Bq,ZBv h a H,Bq];unfold due;by_cases q:node∈dirty
 ·rw[Uc (UQ q),Uc (ZX (.inl q))]
 ·rw[Ue (by rw[Ul];exact q)]
  by_cases Q:Fed b (VO b br) C node (Zu b).length
  ·rw[Uc (ZX Q),Uc (ZX (.inr Q))]
  ·rw[Ue (λz=>Q ((YL _).1 z)),Ue (λz=>by rcases(YL _).1 z with z|z;exact q z;exact Q z)]
variable {node:Int}
theorem ZER {l0 c:List Bool} {L j:List ZA} {x C:Bool} {a s:ZA} (l:atI l0 node=some x) (n:atI L node=some a) (h:atI j node=some s) (q:atI c node=some C) (r:Bool×Zj) (F:Bool->ρ) :
  ((atI l0 node).bind λX=>if (r.1 == X)=true then (atI L node).bind λb=>if eqS (GJ r.2) b=true then (atI j node).bind λA=>(atI c node).bind λ_=>some (F (!(eqS (GN r.2) A))) else (atI c node).bind λ_=>(atI j node).bind λ_=>some (F true)
   else (atI c node).bind λ_=>(atI L node).bind λ_=>(atI j node).bind λ_=>some (F true))=some (F (ZFk x a s r)):=by
 rw[l,n,h,q];simp only[Bq];unfold ZFk;rw[show(r.1==x)=(x==r.1)from Bool.beq_comm,Zwh _ a,Zwh _ s];split
 ·split
  ·rfl
  ·rfl
 ·rfl
variable {t:Zf} {k:Nat}
theorem ZEO {n:Nat} {c:List Bool} (r:Zg1 n t) (H:c.length=n) (h:k<n):∃C,atI c (k:Int)=some C:=⟨_,by rw[Zo];exact Ua (by omega)⟩
theorem Zst (g:ZjV b c br l) (E:VOk b v) (O:l.length<=1048576) {dirty ord:List Int} (N:dirty.length<=1048576) {d:List Int} (u:Zg1 (Yt b) t) (f:C.length=Yt b) (B:ord[k]?=some node) (o:k<=1048576) (I:d.length<=1048576) (P:0<=node/\node<(Yt b:Int)) :
  XK ((v,VO b br,()):ZO) c l dirty ord d (k:Int) (K6 t) (Gu t) (Gs t) C=some (match due b (VO b br) dirty C node with
   |true=>match Zr7 (newV b c (VO b br) l t node)with
    |true=>.inr ([],false,t)
    |false=>.inl (d++[node],((k+1:Nat):Int),K6 (ZiT t node.toNat (newV b c (VO b br) l t node)),Gu (ZiT t node.toNat (newV b c (VO b br) l t node)),Gs (ZiT t node.toNat (newV b c (VO b br) l t node)),List.set C node.toNat (ZjU b c (VO b br) l t node.toNat),())
   | false=>.inl (d,((k+1:Nat):Int),K6 t,Gu t,Gs t,C,())):=by
 have h:=g.blk;have K:=Zhc h;have p:(VO b br).length=(Zu b).length:=Zf5 _ _;have n:Len l:=by unfold Len;omega
 have J:=(Ub.1 B).1;obtain⟨j,rfl⟩:∃j:Nat,node=(j:Int):=⟨node.toNat,by omega⟩;have A:j<Yt b:=by omega
 obtain⟨x,a,s,G,w,D⟩:=Ztf u A;obtain⟨M,m⟩:=ZEO u f A;have L:=ZAM (b:=b) (c:=c) (live:=VO b br) (l:=l) G w D;have e:=Zon h E g.cor p u n (ZDp g.src) (j:Int);rw[show Zyc (j:Int) (ZaJ b c (VO b br) l t (j:Int))=newV b c (VO b br) l t (j:Int)from rfl]at e;unfold XK;rw[QP,Zo,B,Bq,ZBu g E f (j:Int) N,YW o,Zi (by simp only[Um,Uq];omega)];cases y:due b (VO b br) dirty C (j:Int)with
 |false=>rw[Ue (by decide)]
 |true =>
  rw[Uc rfl];show(Xj _ c l t (j:Int)).bind _=_;rw[e,Bq,Up,L];generalize newV b c (VO b br) l t (j:Int)=r;have H:=ZER G w D m r (F:=λz=>(Sum.inl (d++[(j:Int)],((k+1:Nat):Int),K6 (ZiT t j r),Gu (ZiT t j r),Gs (ZiT t j r),List.set C j z,()):(List Int×Int×List Bool×List ZA×List ZA×List Bool×Unit)⊕(List Int×Bool×Zf)));by_cases Q:r.1=true
  ·rw[Uc Q,show JJ r.2.2.1=some (tr (ZaI (GJ r.2)))from ZcE _,Bq]
   have i:Zr7 r = !tr (ZaI (GJ r.2)):=by
    unfold Zr7;rw[Q,Bool.true_and]
   rw[i];by_cases q:ZaI (GJ r.2)
   ·rw[Uc (ZX q),ZX q]
    exact H
   ·rw[Ue (λz=>q ((YL _).1 z)),Ym q]
    rfl
  ·rw[Ue Q]
   have i:Zr7 r=false:=by
    unfold Zr7;rw[Bool.not_eq_true]at Q;rw[Q,Bool.false_and]
   rw[i];exact H
end
section
variable {b:Za} {c:Zz} {br:List Int} {l:List Zj} {v:ZM}
theorem Zn9 (m:ZjV b c br l) (n:VOk b v) (s:l.length<=1048576) {dirty:List Int} (N:dirty.length<=1048576) {TO:List Int×Int} (o:TO.1.length<=1000/\∀u∈TO.1,0<=u/\u<(Yt b:Int)) :
  ∀(r:List Int) (k:Nat) (d:List Int) (t:Zf) (h:List Bool),TO.1.drop k=r->k<=TO.1.length->d.length<=k->Zg1 (Yt b) t->h.length=Yt b->
   Zx (λu=>XK ((v,VO b br,()):ZO) c l dirty TO.1 u.1 u.2.1 u.2.2.1 u.2.2.2.1 u.2.2.2.2.1 u.2.2.2.2.2.1) (d,(k:Int),K6 t,Gu t,Gs t,h,())=some ((ZnY b c (VO b br) l dirty r d t h).2.1,(ZnY b c (VO b br) l dirty r d t h).1,(ZnY b c (VO b br) l dirty r d t h).2.2)
 |[],k,d,t,h,F,w,p,j,f=>by
  have q:k=TO.1.length:=by
   have:=US List.length F;grind
  subst q;refine Xi ?_;show XK ((v,VO b br,()):ZO) c l dirty TO.1 d (TO.1.length:Int) (K6 t) (Gu t) (Gs t) h=_;unfold XK;rw[Ue (Uf _)];rfl
 |node::r,k,d,t,h,F,w,p,j,f=>by
  have g:k<TO.1.length:=by
   grind
  have e:TO.1[k]?=some node:=by
   have:=US (λz=>z[0]?) F;grind
  have i:TO.1.drop (k+1)=r:=by
   rw[<-List.tail_drop,F];rfl
  have C:=o.2 node (Ud e);have a:=Zst m n s N (ord:=TO.1) j f e (by omega) (d:=d) (by omega) C;unfold ZnY;cases y:due b (VO b br) dirty h node with
  |false =>
   rw[y]at a;have I:=Zn9 m n s N o r (k+1) d t h i g (by omega) j f;exact(Xk a).trans I
  |true =>
   rw[y]at a;cases H:Zr7 (newV b c (VO b br) l t node)with
   |true =>
    rw[H]at a;exact Xi a
   |false =>
    rw[H]at a;have I:=Zn9 m n s N o r (k+1) (d++[node]) (ZiT t node.toNat (newV b c (VO b br) l t node)) (List.set h node.toNat (ZjU b c (VO b br) l t node.toNat)) i g (by grind)
     (Zqp j _ (ZsY (ZnP m n j _ _) _)) (by grind)
    exact(Xk a).trans I
end
variable {t:Zf}
theorem ZBb {n:Nat} (r:Zg1 n t) (h:n<=1048576:=by omega):Zdz t=some t:=by
 have d:=r.lr;have f:=r.la;have g:=r.ls;unfold Zdz Zcj X8;rw[Zi (by grind),Zi (by grind),Zi (by grind)];rfl
theorem ZuQ {b:Za} (h:Z4 b) {v:ZM} (a:VOk b v) {nd:List Int} (c:nd.length<=1048576):X7 v nd=some (tr (Zit (Yt b:Int) nd)):=by
 have f:=Zhc h;unfold X7;rw[Zpg h a,Bq,QR];exact Zji nd _ c
theorem ZvT (b:Za) (c:Zz) (br:List Int) (l:List Zj) (t:Zf) (dirty:List Int) (p:sm Yg b) (u:sm XP c) (j:br.length<=1048576) (k:l.length<=1048576) (N:dirty.length<=1048576:=by omega) :
    ∃r n,ZdA b c br l t dirty=some r/\r.2.1.length<=1048576/\Zg1 n r.1/\n<=1048576/\
      ((ZjV b c br l/\Ziu (Yt b:Int) t/\Zit (Yt b:Int) dirty/\((r.2.2=0/\(true,r.2.1,r.1)=ZnY b c (VO b br) l dirty (V4 b br).1 [] t (List.replicate (Yt b) false))\/(r.2.2=3/\r.1=noT/\r.2.1=[]/\(ZnY b c (VO b br) l dirty (V4 b br).1 [] t (List.replicate (Yt b) false)).1=false)))\/
       (r.2.2≠0/\r.1=noT/\r.2.1=[]/\(r.2.2=7/\Pre b c br l/\Ziu (Yt b:Int) t/\(V4 b br).2≠true\/¬(Pre b c br l/\Ziu (Yt b:Int) t/\Zit (Yt b:Int) dirty)))):=by
  have M:(Yt b:Int)=2*((places (KX b)).length:Int):=by have:=nN b;omega
  rw[M];unfold ZdA;have e:Zg1 0 noT:=⟨rfl,rfl,rfl,λs w=>by cases w⟩;rcases ZAJ b c br l t p u j k with⟨code,f,E,x⟩|⟨v,a,i,g,E⟩
  · rw[E,Bq,Ue f]
    exact⟨_,0,rfl,by simp,e,by omega,.inr ⟨f,rfl,rfl,x.elim .inl λq=>.inr λz=>q ⟨z.1,z.2.1⟩⟩⟩
  · have h:=a.blk
    have y:=Zhc h;rw[E,Bq,Uc rfl,Bq,show X7 (GB ((v,VO b br,()):ZO)) dirty=_ from ZuQ h g N,Bq];rw[<-M];by_cases d:Zit (Yt b:Int) dirty
    · have H:=ZKr i
      have o:=ZsR b br;rw[Uc (ZX d),ZBb H,Bq];unfold Zf1;rw[show YC (GB ((v,VO b br,()):ZO))=some (Yt b:Int)from Zpg h g,Bq,Ra,Ra,Ra,Ra];have w1:=Zn9 a g k N (TO:=((V4 b br).1,0)) ⟨by grind,o.2⟩ (V4 b br).1 0 [] t (List.replicate (Yt b) false) rfl (Nat.zero_le _) (UO _) H (UR);rw[Up];obtain⟨A,U⟩:=Zs0 b c (VO b br) l dirty (n:=Yt b) (P:=Zg1 (Yt b)) (λt node m=>Zqp m _ (ZsY (ZnP a g m _ _) _)) (V4 b br).1 [] t (List.replicate (Yt b) false) H;generalize ZnY b c (VO b br) l dirty (V4 b br).1 [] t (List.replicate (Yt b) false)=R at *;rw[show(Zx (λV=>XK ((v,VO b br,()):ZO) c l dirty (V4 b br).1 V.1 V.2.1 V.2.2.1 V.2.2.2.1 V.2.2.2.2.1 V.2.2.2.2.2.1) (([]:List Int),(0:Int),K6 t,Gu t,Gs t,List.replicate (Yt b) false,()))=_ from w1,Bq];obtain⟨ok,dn,T⟩:=R;cases ok with
      |true=>exact⟨_,Yt b,rfl,by grind,U,by omega,.inl ⟨a,by rw[M];exact i,d,.inl ⟨rfl,rfl⟩⟩⟩
      |false=>exact⟨_,0,rfl,by simp,e,by omega,.inl ⟨a,by rw[M];exact i,d,.inr ⟨rfl,rfl,rfl,rfl⟩⟩⟩
    · rw[Ue (λq=>d ((YL _).1 q))]
      exact⟨_,0,rfl,by simp,e,by omega,.inr ⟨by grind,rfl,rfl,.inr λz=>d z.2.2⟩⟩
theorem ZEb {a b:Int} (H:0<b) (h:0<=a) (j:a<=4000000000000000000):∃r R,Yq a b 0=some r/\Yq a b 1=some R/\0<=r/\r<=R:=by
 have t0:=Ky b h;have D:=Int.tdiv_nonneg h (show 0<=b by omega);have d:Int.tdiv a b<=a:=by
  rw[U0 h];exact Int.ediv_le_self b h
 have ex:∀m:Int,Yq a b m=some (if m=1/\0<Int.tmod a b then Int.tdiv a b+1 else Int.tdiv a b):=λm=>by
  unfold Yq;rw[Ra,QR (n:=Int.tdiv a b),QQ];by_cases f:(0:Int)<Int.tmod a b
  ·rw[Uc f]
   by_cases c:m=1
   ·rw[Uc c,Uc ⟨c,f⟩,QR]
   ·rw[Ue c,Ue (λq=>c q.1)]
  ·rw[Ue f,Ue (λq=>f q.2)]
 refine⟨_,_,ex 0,ex 1,?_,?_⟩
 ·rw[Ue (λq=>absurd q.1 (by decide))];exact D
 ·rw[Ue (λq=>absurd q.1 (by decide))]
  split<;>omega
variable {α:Type}
theorem at_mem {l:List α} {i:Int} {x:α} (h:atI l i=some x):x∈l:=by
 unfold atI at h;split at h
 ·exact Ud h
 ·cases h
theorem ZmP {t:ZB} (g:∀v∈Gr t,0<=v) (i k a c:Int):0<=tm t i k a c:=by
 unfold tm;split
 ·refine Int.mul_nonneg ?_ (by omega)
  unfold ZmZ;cases e:atI (Gr t) (i*((Gt t).length:Int)+k)with
  |none=>exact U6 _
  |some x=>exact g x (at_mem e)
 ·exact U6 _
theorem ZBO {t:ZB} (h:JW t) (g:∀v∈Gr t,0<=v) (s l:Int):∃R r,Q9 t s l 0=some R/\Q9 t s l 1=some r/\0<=R/\R<=r/\r<=1000000:=by
 obtain⟨j,a,b,H,G,Q⟩:=ZkS h.1 s;obtain⟨k,c,d,f,I,S⟩:=ZkS h.2.1 l;obtain⟨q,_,o,_,M⟩:=look_eq h s l (.inr rfl:(1:Int)=0\/(1:Int)=1);have U:=H.ab;have N:=H.a0;have V:=H.b0;have J:=H.j0;have p:=H.jl;have u:=H.jb;have W:=f.ab;have O:=f.a0;have X:=f.b0;have K:=f.j0;have w:=f.jl;have y:=f.jb;have p1:=Zg0 (show 0<=a by omega) (show a<=100000 by omega) (show 0<=c by omega) (show c<=100000 by omega);have p2:=Zg0 (show 0<=a by omega) (show a<=100000 by omega) (show 0<=d by omega) (show d<=100000 by omega);have p3:=Zg0 (show 0<=b by omega) (show b<=100000 by omega) (show 0<=c by omega) (show c<=100000 by omega);have p4:=Zg0 (show 0<=b by omega) (show b<=100000 by omega) (show 0<=d by omega) (show d<=100000 by omega);have pp:=Int.mul_pos N O;have q1:=ZqN h (i:=j) (k:=k) (a:=a) (c:=c) (λ_=>⟨J,p⟩) (λ_=>⟨K,w⟩);have q2:=ZqN h (i:=j) (k:=k+1) (a:=a) (c:=d) (λ_=>⟨J,p⟩) (λz=>⟨by omega,y z⟩);have q3:=ZqN h (i:=j+1) (k:=k) (a:=b) (c:=c) (λz=>⟨by omega,u z⟩) (λ_=>⟨K,w⟩);have q4:=ZqN h (i:=j+1) (k:=k+1) (a:=b) (c:=d) (λz=>⟨by omega,u z⟩) (λz=>⟨by omega,y z⟩);have n1:=ZmP g j k a c;have Y:=ZmP g j (k+1) a d;have Z:=ZmP g (j+1) k b c;have n4:=ZmP g (j+1) (k+1) b d;have T:(a+b)*(c+d)=a*c+a*d+(b*c+b*d):=by rw[Int.add_mul,Int.mul_add,Int.mul_add]
 have L:∀m:Int,Q9 t s l m=Yq (ZqQ t j a b k c d) ((a+b)*(c+d)) m:=λm=>by
  unfold Q9;rw[G,I,Bq,Bq];have r:=Zpl h H f (v1:=0) (s:=0) (A:=a) (.inl ⟨rfl,rfl⟩);have P:=Zpl h H f (v1:=1) (s:=tm t j k a c+tm t j (k+1) a d) (A:=b) (.inr ⟨rfl,rfl⟩);refine(Xk (v':=(tm t j k a c+tm t j (k+1) a d,(1:Int),())) ?_).trans ((Xk (v':=(ZqQ t j a b k c d,(2:Int),())) ?_).trans ?_)
  ·show YO t m (j,a,b) (k,c,d) 0 0=_
   unfold YO;rw[Uc (by decide)];refine r.trans ?_;rw[KW,Int.zero_add];rfl
  ·show YO t m (j,a,b) (k,c,d) (tm t j k a c+tm t j (k+1) a d) 1=_
   unfold YO;rw[Uc (by decide)];exact P
  ·have F:YO t m (j,a,b) (k,c,d) (ZqQ t j a b k c d) 2=(Yq (ZqQ t j a b k c d) ((a+b)*(c+d)) m).bind λx=>some (.inr x):=by
    unfold YO;rw[Ue (by decide)];show(Yq (ZqQ t j a b k c d) (Wq (Wq (a+b)*Wq (c+d))) m).bind _=_;rw[QR (n:=a+b),QR (n:=c+d),QR (n:=(a+b)*(c+d))]
   cases e:Yq (ZqQ t j a b k c d) ((a+b)*(c+d)) m with
   |none =>
    rw[e]at F;rw[ZqT];rw[show YO t m (j,a,b) (k,c,d) ((ZqQ t j a b k c d,(2:Int),()):Int×Int×Unit).1 ((ZqQ t j a b k c d,(2:Int),()):Int×Int×Unit).2.1=none from F]
   |some x =>
    rw[e]at F;exact Xi F
 obtain⟨R,r,B,D,C,E⟩:=ZEb (a:=ZqQ t j a b k c d) (b:=(a+b)*(c+d)) (by omega) (by unfold ZqQ;omega) (by unfold ZqQ;omega);rw[L]at o;rw[D]at o;injection o with o
 exact⟨R,r,(L 0).trans B,(L 1).trans D,C,E,by omega⟩
variable {s:Int}
theorem ZC1 {d:Int} (j:-1000000<=s) (k:s<=1000000) (o:0<=d) (p:d<=301000000) :
  ∃f b:Int,(∀m:Int,m=0\/m=1->((Ze1 (Wq (Wq (Wq ((1000000:Int)*s)*s)+Wq (Wq ((4:Int)*d)*d))) m).bind λl=>(Yq l (1000:Int) m).bind λL=>some L)=some (if m=1 then b else f))/\0<=f/\f<=b:=by
 obtain⟨U,W,X,c,i⟩:=ZDu j k o p;have E:Wq (Wq (Wq ((1000000:Int)*s)*s)+Wq (Wq ((4:Int)*d)*d))=((4*sqs s d:Nat):Int):=by
  rw[QR (n:=1000000*s),QR (n:=4*d),Int.mul_assoc,Int.mul_assoc,c,i];unfold sqs;generalize s.natAbs*s.natAbs=x at *;generalize d.natAbs*d.natAbs=y at *;rw[QR (n:=1000000*(x:Int)),QR (n:=4*(y:Int)),QR];omega
 generalize sqs s d=S at U E;obtain⟨R0,H,a,h⟩:=Zky (S:=4*S) (m:=0);obtain⟨R,r,q,e⟩:=Zky (S:=4*S) (m:=1);have g:R0=R:=Nat.le_antisymm ((ZCd r R0).2 H.1) ((ZCd H R).2 r.1);subst g;rw[E];refine⟨((R0/1000:Nat):Int),((upQ (if R0*R0<4*S then R0+1 else R0) 1000:Nat):Int),λm t=>?_,by omega,?_⟩
 ·rw[show(1000:Int)=((1000:Nat):Int)from rfl]
  rcases t with rfl|rfl
  ·rw[h,Bq,Ue (by decide),Zm5 (by omega) (by omega) (by omega) (.inl rfl),Bq,Ue (by decide),Ue (by decide)]
  ·rw[e,Bq,Uc rfl,Zm5 (by omega) (by split<;>omega) (by omega) (.inr rfl),Bq,Uc rfl,Uc rfl]
 ·unfold upQ
  split<;>split<;>omega
variable {k:Nat} {x:Zp}
theorem Zw3 {b:Za} (h:Z4 b) {v:ZM} (B:VOk b v) (D:(Zu b)[k]?=some x) (I:-1000000<=s:=by omega) (J:s<=1000000:=by omega) :
  ∃f R,XY b x s 0=some f/\XY b x s 1=some R/\0<=f/\f<=R/\R<=1000000:=by
 obtain⟨y,n,N⟩:=Zp7 h (Ud D);rcases N.kind with H|F
 ·obtain⟨a,V,t,c1,c2,K,U,P,S,C⟩:=ZmY h B N H
  obtain⟨f,R,Q,q,i⟩:=ZBO S C s (ldF b n);have ex:∀m r:Int,Q9 t s (ldF b n) m=some r->XY b x s m=some r:=λm r A=>by
   unfold XY;rw[Uc H.1,c2,Bq];show(atI (GM a) _).bind _=_;rw[P,Bq];show(Q9 t s (ldF b n) m).bind _=_;rw[A];rfl
  exact⟨f,R,ex 0 f Q,ex 1 R q,i⟩
 ·obtain⟨L,w,j,z,E,l,c⟩:=F
  obtain⟨ld,g⟩:=ZHc h E;obtain⟨G,o,p⟩:=g.sink (Ud c);obtain⟨f,R,Q,q,i⟩:=ZC1 (s:=s) (d:=sdl w ld z) I J o p;have e:¬GL x=1:=by omega
  have ex:∀m:Int,m=0\/m=1->XY b x s m=some (Min.min 1000000 (if m=1 then R else f)):=λm u=>by
   unfold XY;rw[Ue e,Zp5 h N,Bq];unfold Zdl;rw[Zo,E,Bq,l,Zo,c,Bq,ZlV g,Bq,G,Bq,Q m u,Bq]
  refine⟨_,_,ex 0 (.inl rfl),ex 1 (.inr rfl),?_,?_,?_⟩
  ·rw[Ue (by decide)];omega
  ·rw[Ue (by decide),Uc rfl];omega
  ·omega
variable {s:ZA}
theorem ZAn {b:Za} (h:Z4 b) {v:ZM} (a:VOk b v) {c:Zz} (q:Jv c) (n:x∈Zu b) (l:Jk s):Jk (spn b c x s).2:=by
 obtain⟨k,H⟩:=UA.1 n;obtain⟨S,w,z⟩:=l;obtain⟨D,_,U,_⟩:=Zh4 h a q H (Gc s) (.inl rfl:(0:Int)=0\/(0:Int)=1);obtain⟨d,_,W,_⟩:=Zh4 h a q H (Gg s) (.inl rfl:(0:Int)=0\/(0:Int)=1);obtain⟨g,_,X,_⟩:=Zh4 h a q H (Gc s) (.inr rfl:(1:Int)=0\/(1:Int)=1);obtain⟨i,_,Y,_⟩:=Zh4 h a q H (Gg s) (.inr rfl:(1:Int)=0\/(1:Int)=1);obtain⟨O,j,f,A,G,o,t⟩:=Zw3 h a H (s:=Gc s);obtain⟨y,m,F,B,p,r,u⟩:=Zw3 h a H (s:=Gg s);have e:Zbm b c x s=some ((Min.min D d,Max.max g i,()),(Min.min O y,Max.max j m,())):=by
  unfold Zbm;rw[U,W,X,Y,f,F,A,B];rfl
 unfold spn;rw[e];refine⟨?_,?_,?_⟩
 ·show 0<=Min.min O y;omega
 ·show Min.min O y<=Max.max j m;omega
 ·show Max.max j m<=1000000;omega
def StO (st:NSt):Prop:=∀q,st=some q->Jk q.2
theorem Zs4:Jk VH:=by
 refine⟨?_,?_,?_⟩<;>decide
variable {a:ZA}
theorem ZrS (n:Jk a) (q:Jk s):Jk (hul a s):=by
 obtain⟨A,b,j⟩:=n;obtain⟨U,W,X⟩:=q;unfold hul;refine⟨?_,?_,?_⟩
 ·show 0<=Min.min _ _;omega
 ·show Min.min _ _<=Max.max _ _;omega
 ·show Max.max _ _<=1000000;omega
theorem ZFD {l:List ZA} (h:∀s∈l,Jk s) (i:Int):Jk ((atI l i).getD VH):=by
 cases e:atI l i with
 |none=>exact Zs4
 |some s=>exact h s (at_mem e)
theorem ZCU {b:Za} (h:Z4 b) {v:ZM} (f:VOk b v) {c:Zz} (d:Jv c) (e:∀s∈Gs t,Jk s) (l:x∈Zu b) {st:NSt} (a:StO st):StO (Zow b c t x st):=by
 have o:=ZAn h f d l (ZFD e (Gd x));unfold Zow;split
 ·intro q H
  cases st with
  |none =>
   have H:some (_,(spn b c x ((atI (Gs t) (Gd x)).getD VH)).2)=some q:=H;injection H with H
   rw[<-H];exact o
  |some r =>
   have H:some (_,hul r.2 (spn b c x ((atI (Gs t) (Gd x)).getD VH)).2)=some q:=H;injection H with H
   rw[<-H];exact ZrS (a r rfl) o
 ·exact a
theorem ZxL {b:Za} (h:Z4 b) {v:ZM} (f:VOk b v) {c:Zz} (d:Jv c) (r:∀s∈Gs t,Jk s) {l:List Zj} (e:∀x∈l,Jk (GN x)) (live:List Bool) (node:Int):StO (ZaJ b c live l t node):=by
 unfold ZaJ;refine ZfW (I:=StO) _ _ _ ?_ λk x st a hst=>?_
 ·unfold ZgI
  refine ZfW (I:=StO) _ _ _ (λq H=>by cases H) λk x st a hst=>?_;split
  ·intro q H
   injection H with H
   rw[<-H];exact e x (Ud a)
  ·exact hst
 ·split
  ·split
   ·exact ZCU h f d r (Ud a) hst
   ·exact hst
  ·exact hst
theorem Zqk:∀(A B:List Int),A.Nodup->(∀x∈A,x∈B)->A.length<=B.length
 |[],_,_,_=>Nat.zero_le _
 |a::A,B,h,q=>by
  obtain ⟨s,t,rfl⟩:=List.append_of_mem (q a UH);have d:=List.nodup_cons.1 h;have:=Zqk A (s++t) d.2 (λx l=>by
   grind)
  grind
def Zuc (n:Nat):List Int:=(List.range n).map λ(k:Nat)=>(k:Int)
theorem ZrJ {n:Nat} {x:Int}:x∈Zuc n<->0<=x/\x<(n:Int):=by
 unfold Zuc;simp only[Kg,KF];constructor
 ·grind
 ·rintro⟨m,d⟩;exact⟨x.toNat,by omega,by omega⟩
theorem ZxP (n:Nat):(Zuc n).length=n:=by unfold Zuc;simp
variable {u:Int}
theorem ZzI {A:List Int} {n:Nat} (h:A.Nodup) (H:A.length=n) (c:∀x∈A,0<=x/\x<(n:Int)) (m:0<=u) (d:u<(n:Int)):u∈A:=by
 refine UT λq=>?_;have:=Zqk (u::A) (Zuc n) (List.nodup_cons.2 ⟨q,h⟩) (λx l=>by
  rcases UB.1 l with rfl|l
  ·exact ZrJ.2 ⟨m,d⟩
  ·exact ZrJ.2 (c x l))
 rw[ZxP]at this;grind
theorem Zzh {l:List Int} (h:Inc l):l.Nodup:=by
 rw[List.nodup_iff_pairwise_ne,List.pairwise_iff_getElem];intro i j H b Z e;have:=ZlI h Z (Ua H) (Ua b);omega
def Rdy (live:List Bool) (L:List Zp) (out:List Int) (v:Int):Prop:=∀(k:Nat) (x:Zp),L[k]?=some x->(live[k]?).getD false=true->Gf x=v->Gd x∈out
variable {L:List Zp} {out:List Int}
theorem ZF8 {live:List Bool} {v:Int} (h:ZkC live L out v=0):Rdy live L out v:=by
 intro k x l q r;have H:=(Ub.1 l).1;have:=ZD7 live L out v L.length k x (UO _) H l;rw[Uo,h]at this;unfold cw at this;grind
theorem Rdy.mono {live:List Bool} {o:List Int} {v:Int} (h:Rdy live L out v) (s:∀x∈out,x∈o):Rdy live L o v:=λk x l q r=>s _ (h k x l q r)
def Zl3 (live:List Bool) (L:List Zp):List Int->List Int->Prop
 |_,[]=>True
 |out,v::r=>(0<=v/\v ∉ out/\Rdy live L out v)/\Zl3 live L (out++[v]) r
theorem ZwQ {live:List Bool} {L:List Zp} {n:Nat}:∀(m:Nat) (out:List Int),(Zvt live L n m out).2=true->∃r,(Zvt live L n m out).1=out++r/\r.length=m/\Zl3 live L out r
 |0,out,_=>⟨[],by rw[Un];rfl,rfl,trivial⟩
 |m+1,out,h=>by
  unfold Zvt at h ⊢;cases e:nxt live L n out with
  |none=>rw[e]at h;cases h
  |some v =>
   rw[e]at h;obtain⟨d,f,g⟩:=ZDo e;obtain⟨r,a,b,l⟩:=ZwQ m (out++[(v:Int)]) h;refine⟨(v:Int)::r,?_,by grind,⟨by omega,f,ZF8 g⟩,l⟩;grind
theorem Zl3.nodup {live:List Bool} {L:List Zp}:∀(r out:List Int),Zl3 live L out r->out.Nodup->(out++r).Nodup
 |[],out,_,h=>by grind
 |v::r,out,h,x=>by
  have:=Zl3.nodup r (out++[v]) h.2 (by
   rw[U3];refine ⟨x,by simp,λa n b H e=>?_⟩;rw[Uw.1 H] at e;exact h.1.2.1 (e▸n))
  grind
structure ZFw (b:Za) (br:List Int) (R:List Int):Prop where
 ord:Zl3 (VO b br) (Zu b) [] R
 len:R.length=Yt b
 nd:R.Nodup
 inn:∀u∈R,0<=u/\u<(Yt b:Int)
 all:∀u:Int,0<=u->u<(Yt b:Int)->u∈R
theorem ZwR {b:Za} {br:List Int} (h:(V4 b br).2=true):ZFw b br (V4 b br).1:=by
 obtain⟨r,c,R,a⟩:=ZwQ (Yt b) [] h;have e:(V4 b br).1=r:=c;have l:=(ZsR b br).2;rw[e]at l;have f:r.Nodup:=Zl3.nodup r [] a List.nodup_nil;rw[e];exact⟨a,R,f,l,λu m d=>ZzI f R l m d⟩
abbrev Row:=Bool×ZA×ZA
def JM (t:Zf) (k:Int):Row:=((atI (K6 t) k).getD false,(atI (Gu t) k).getD VH,(atI (Gs t) k).getD VH)
def Zks (r:Bool×Zj):Row:=(r.1,GJ r.2,GN r.2)
variable {t':Zf}
theorem ZCS {b:Za} {c:Zz} (h:JM t (Gd x)=JM t' (Gd x)) (st:NSt):Zow b c t x st=Zow b c t' x st:=by
 unfold JM at h;have d:=US Prod.fst h;have f:=US (λz:Row=>z.2.1) h;have g:=US (λz:Row=>z.2.2) h;dsimp only at d f g;unfold Zow;rw[d,f,g]
variable {node:Int}
theorem ZwM {b:Za} {c:Zz} {live:List Bool} {l:List Zj} (h:∀(k:Nat) (x:Zp),(Zu b)[k]?=some x->(live[k]?).getD false=true->Gf x=node->JM t (Gd x)=JM t' (Gd x)):newV b c live l t node=newV b c live l t' node:=by
 unfold newV ZaJ;congr 1;refine ZlG _ _ _ λk x st H=>?_;rw[Us];split
 ·rename_i q
  split
  ·rename_i r
   exact ZCS (h k x H q r) st
  ·rfl
 ·rfl
theorem Zmx {b:Za} {c:Zz} {live:List Bool} {l:List Zj} (F:Rdy live (Zu b) out node) (h:∀u∈out,JM t u=JM t' u):newV b c live l t node=newV b c live l t' node :=
 ZwM λk x H q r=>h _ (F k x H q r)
theorem ZCp {b:ZA} (d:Gc a=Gc b) (f:Gg a=Gg b):a=b:=by
 grind
theorem Zm6 {b:ZA}:eqS a b=true<->a=b:=by
 unfold eqS;grind
variable {r:Bool×Zj}
theorem ZA9 {x:Bool}:ZFk x a s r=false<->(x,a,s)=Zks r:=by
 unfold ZFk Zks;by_cases d:(x==r.1)=true
 ·rw[Uc d]
  have d:x=r.1:=eq_of_beq d;by_cases f:eqS a (GJ r.2)=true
  ·rw[Uc f]
   have f:=Zm6.1 f;by_cases g:eqS s (GN r.2)=true
   ·rw[g]
    have g:=Zm6.1 g;grind
   ·rw[show eqS s (GN r.2)=false by grind]
    refine⟨λq=>(by cases q),λq=>absurd (Zm6.2 (US (λz:Row=>z.2.2) q)) g⟩
  ·rw[Ue f]
   exact⟨λq=>(by cases q),λq=>absurd (Zm6.2 (US (λz:Row=>z.2.1) q)) f⟩
 grind
theorem Zx8 {b:Za} {c:Zz} {live:List Bool} {l:List Zj}:ZjU b c live l t k=false<->JM t (k:Int)=Zks (newV b c live l t (k:Int)):=ZA9
theorem at_set {l:List α} {x:α}:atI (l.set k x) u=if u=(k:Int)then(atI l u).map (λ_=>x)else atI l u:=by
 unfold atI;grind
theorem Zhu (h:u≠(k:Int):=by omega):JM (ZiT t k r) u=JM t u:=by
 unfold JM ZiT;show((atI (List.set (K6 t) k r.1) u).getD false,(atI (List.set (Gu t) k _) u).getD VH,(atI (List.set (Gs t) k _) u).getD VH)=_;rw[at_set,at_set,at_set,Ue h,Ue h,Ue h]
theorem ZkQ {n:Nat} (b:Zg1 n t) (H:k<n) (r:Bool×Zj):JM (ZiT t k r) (k:Int)=Zks r:=by
 obtain⟨x,a,s,l,h,q⟩:=Ztf b H;unfold JM ZiT Zks;show((atI (List.set (K6 t) k r.1) (k:Int)).getD false,(atI (List.set (Gu t) k _) (k:Int)).getD VH,(atI (List.set (Gs t) k _) (k:Int)).getD VH)=_;rw[at_set,at_set,at_set,Uc rfl,Uc rfl,Uc rfl,l,h,q];rfl
theorem ZEK {n:Nat} (r:Zg1 n t) (d:Zg1 n t') (h:∀k:Nat,k<n->JM t (k:Int)=JM t' (k:Int)):t=t':=by
 have one:∀{α:Type} (l l':List α) (z:α),l.length=n->l'.length=n->(∀k:Nat,k<n->(atI l (k:Int)).getD z=(atI l' (k:Int)).getD z)->l=l':=λl l' z E i f=>by
  apply Ux;intro k;by_cases H:k<n
  ·have:=f k H
   rw[Zo,Zo,Ua (by omega),Ua (by omega)]at this;grind
  grind
 obtain⟨a,b,c,⟨⟩⟩:=t;obtain⟨A,X,L,⟨⟩⟩:=t';have E:a=A:=one a A false r.lr d.lr λk H=>US Prod.fst (h k H);have i:b=X:=one b X VH r.la d.la λk H=>US (λz:Row=>z.2.1) (h k H);have e:c=L:=one c L VH r.ls d.ls λk H=>US (λz:Row=>z.2.2) (h k H);rw[E,i,e]
def Right (b:Za) (c:Zz) (live:List Bool) (l:List Zj) (t:Zf):Prop:=∀u:Int,0<=u->u<(Yt b:Int)->JM t u=Zks (newV b c live l t u)
def Zoz (r:Row):Prop:=r.1=true->ZaI r.2.1
theorem Zo8:Zr7 r=false<->Zoz (Zks r):=by
 unfold Zr7 Zoz Zks;dsimp only;cases r.1 with
 |true =>
  rw[Bool.true_and];by_cases q:ZaI (GJ r.2)
  ·rw[ZX q];grind
  ·rw[Ym q];grind
 |false=>grind
section
variable {b:Za} {c:Zz} {live:List Bool} {l:List Zj}
theorem ZrQ {t t':Zf}:∀(r out:List Int),Zl3 live (Zu b) out r->(∀u∈out,JM t u=JM t' u)->(∀u∈r,JM t u=Zks (newV b c live l t u))->(∀u∈r,JM t' u=Zks (newV b c live l t' u))->∀u∈r,JM t u=JM t' u
 |[],_,_,_,_,_,u,a=>by cases a
 |v::r,out,h,x,d,f,u,a=>by
  have H:JM t v=JM t' v:=by
   rw[d v UH,f v UH,Zmx h.1.2.2 x]
  rcases UB.1 a with rfl|a
  ·exact H
  ·exact ZrQ r (out++[v]) h.2 (all_in x H) (λu a=>d u (UM _ a)) (λu a=>f u (UM _ a)) u a
where
 all_in {t t':Zf} {out:List Int} {v:Int} (ho:∀u∈out,JM t u=JM t' u) (hv:JM t v=JM t' v):∀u∈out++[v],JM t u=JM t' u:=λu hu=>by
  grind
variable {t:Zf}
theorem Zuh {br:List Int} {t':Zf} (o:ZFw b br (V4 b br).1) (r:Zg1 (Yt b) t) (H:Zg1 (Yt b) t') (h:Right b c (VO b br) l t) (d:Right b c (VO b br) l t'):t=t':=by
 have:=ZrQ (t:=t) (t':=t') (V4 b br).1 [] o.ord (λu a=>by cases a) (λu a=>h u (o.inn u a).1 (o.inn u a).2) (λu a=>d u (o.inn u a).1 (o.inn u a).2);exact ZEK r H λk e=>this _ (o.all _ (by omega) (by omega))
noncomputable def Zpi (b:Za) (c:Zz) (live:List Bool) (l:List Zj):List Int->Zf->Bool×Zf
 |[],t=>(true,t)
 |v::r,t=>match Zr7 (newV b c live l t v)with
  |true=>(false,noT)
  |false=>Zpi b c live l r (ZiT t v.toNat (newV b c live l t v))
theorem Zmy {n:Nat} (hst:∀(t:Zf) (u:Int),Zg1 n t->StB (ZaJ b c live l t u)) (r:Zg1 n t) (k:Nat) (v:Int):Zg1 n (ZiT t k (newV b c live l t v)):=Zqp r _ (ZsY (hst t v r) _)
theorem Zub {n:Nat} (g:Zg1 n t) {out:List Int} {v:Int} (m:0<=v) (j:v<(n:Int)) (i:v ∉ out) (F:Rdy live (Zu b) out v) (f:∀u∈out,Rdy live (Zu b) out u) (r:∀u∈out,JM t u=Zks (newV b c live l t u)) :
  let t':=ZiT t v.toNat (newV b c live l t v)
  (∀u∈out++[v],Rdy live (Zu b) (out++[v]) u)/\(∀u∈out++[v],JM t' u=Zks (newV b c live l t' u))/\(∀u:Int,u≠v->JM t' u=JM t u)/\JM t' v=Zks (newV b c live l t v):=by
 have H:∀u:Int,u≠v->JM (ZiT t v.toNat (newV b c live l t v)) u=JM t u:=λu a=>Zhu;have y:JM (ZiT t v.toNat (newV b c live l t v)) v=Zks (newV b c live l t v):=by
  have:=ZkQ g (k:=v.toNat) (by omega) (newV b c live l t v);grind
 have h:∀u∈out,JM (ZiT t v.toNat (newV b c live l t v)) u=JM t u:=λu a=>H u (λe=>i (e▸a));refine⟨λu a=>?_,λu a=>?_,H,y⟩
 ·rcases Ut.1 a with q|q
  ·exact(f u q).mono λx d=>Ut.2 (.inl d)
  ·rw[Uw.1 q];exact F.mono λx d=>Ut.2 (.inl d)
 ·rcases Ut.1 a with q|q
  ·rw[h u q,r u q,Zmx (f u q) h]
  ·rw[Uw.1 q,y,Zmx F h]
theorem Zz9 {n:Nat} (hst:∀(t:Zf) (u:Int),Zg1 n t->StB (ZaJ b c live l t u)):∀(r out:List Int) (t:Zf),Zl3 live (Zu b) out r->(∀u∈r,u<(n:Int))->Zg1 n t->(∀u∈out,Rdy live (Zu b) out u)->(∀u∈out,JM t u=Zks (newV b c live l t u)/\Zoz (JM t u))->
  (Zpi b c live l r t).1=true->Zg1 n (Zpi b c live l r t).2/\∀u∈out++r,JM (Zpi b c live l r t).2 u=Zks (newV b c live l (Zpi b c live l r t).2 u)/\Zoz (JM (Zpi b c live l r t).2 u)
 |[],out,t,_,_,H,_,d,_=>by rw[Un];exact⟨H,d⟩
 |v::r,out,t,h,f,H,g,d,k=>by
  unfold Zpi at k ⊢;cases e:Zr7 (newV b c live l t v)with
  |true=>grind
  |false =>
   rw[e] at k;obtain ⟨K,i,R,m⟩:=Zub H h.1.1 (f v UH) h.1.2.1 h.1.2.2 g λu a=>(d u a).1;have:=Zz9 hst r (out++[v]) (ZiT t v.toNat (newV b c live l t v)) h.2 (λu a=>f u (UM _ a)) (Zmy hst H _ _) K (λu a=>⟨i u a,by
    rcases Ut.1 a with q|q
    ·grind
    ·rw[Uw.1 q,m];exact Zo8.1 e⟩) k
   grind
theorem Zuj {n:Nat} {T:Zf} (hst:∀(t:Zf) (u:Int),Zg1 n t->StB (ZaJ b c live l t u)):∀(r out:List Int) (t:Zf),Zl3 live (Zu b) out r->(∀u∈r,u<(n:Int))->Zg1 n t->(∀u∈out,JM t u=JM T u)->(∀u∈r,JM T u=Zks (newV b c live l T u)/\Zoz (JM T u))->(Zpi b c live l r t).1=true
 |[],_,_,_,_,_,_,_=>rfl
 |v::r,out,t,h,f,g,x,d=>by
  have H:=d v UH;have e:newV b c live l t v=newV b c live l T v:=Zmx h.1.2.2 x;have j:=f v UH;unfold Zpi;rw[show Zr7 (newV b c live l t v)=false by rw[e,Zo8,<-H.1];exact H.2];refine Zuj hst r (out++[v]) _ h.2 (λu a=>f u (UM _ a)) (Zmy hst g _ _) (λu a=>?_) (λu a=>d u (UM _ a));rcases Ut.1 a with q|q
  ·rw[Zhu (by intro z;exact h.1.2.1 (by rw[show v=u by have:=h.1.1;omega];exact q))]
   exact x u q
  ·rw[Uw.1 q]
   have:=ZkQ g (k:=v.toNat) (by have:=h.1.1;omega) (newV b c live l t v);rw[show(v.toNat:Int)=v by have:=h.1.1;omega]at this;rw[this,e,H.1]
end
theorem ZBo {b:Za} {live:List Bool} {dirty:List Int} {c:List Bool} {v:Int} (h:due b live dirty c v=true):v∈dirty\/Fed b live c v (Zu b).length:=(YL _).1 h
theorem ZpG {b:Za} {live:List Bool} {dirty:List Int} {c:List Bool} {v:Int} (h:due b live dirty c v=false):v ∉ dirty/\∀(k:Nat) (x:Zp),(Zu b)[k]?=some x->(live[k]?).getD false=true->Gf x=v->atI c (Gd x)≠some true:=by
 have f:¬(v∈dirty\/Fed b live c v (Zu b).length):=λq=>by
  have:=ZX q;unfold due at h;rw[this]at h;cases h
 refine⟨λq=>f (.inl q),λk x H l r a=>f (.inr ⟨k,x,(Ub.1 H).1,H,?_,r,a⟩)⟩;cases e:live[k]? with
 |none=>rw[e]at l;cases l
 |some z=>rw[e]at l;rw[show z=true from l]
variable {k:Nat} {w:Bool}
theorem Zvl {c:List Bool} {u:Int} (h:u≠(k:Int):=by omega):atI (c.set k w) u=atI c u:=by rw[at_set,Ue h]
theorem mark_eq {c:List Bool} {n:Nat} (q:c.length=n) (H:k<n):atI (c.set k w) (k:Int)=some w:=by
 rw[at_set,Uc rfl,Zo,Ua (by omega)];rfl
section
variable {b:Za} {c:Zz} {live:List Bool} {l:List Zj} {dirty:List Int} {t0:Zf} {n:Nat}
structure Mid (b:Za) (live:List Bool) (t0:Zf) (n:Nat) (out:List Int) (t:Zf) (ch:List Bool):Prop where
 tb:Zg1 n t
 cl:ch.length=n
 clo:∀u∈out,Rdy live (Zu b) out u
 rest:∀u:Int,u ∉ out->JM t u=JM t0 u/\atI ch u≠some true
 keep:∀u∈out,atI ch u≠some true->JM t u=JM t0 u
variable {out:List Int} {t:Zf}
theorem Mid.skip {c:List Bool} {v:Int} (h:Mid b live t0 n out t c) (d:v ∉ out) (F:Rdy live (Zu b) out v):Mid b live t0 n (out++[v]) t c where
 tb:=h.tb
 cl:=h.cl
 clo:=λu a=>by
  rcases Ut.1 a with q|q
  ·exact(h.clo u q).mono λx l=>Ut.2 (.inl l)
  ·rw[Uw.1 q];exact F.mono λx l=>Ut.2 (.inl l)
 rest:=λu a=>h.rest u λq=>a (Ut.2 (.inl q))
 keep:=λu a H=>by
  rcases Ut.1 a with q|q
  ·exact h.keep u q H
  ·rw[Uw.1 q];exact(h.rest v d).1
variable {C:List Bool}
theorem Mid.put (hst:∀(t:Zf) (u:Int),Zg1 n t->StB (ZaJ b c live l t u)) {v:Int} (h:Mid b live t0 n out t C) (m:0<=v) (i:v<(n:Int)) (f:v ∉ out) (F:Rdy live (Zu b) out v):Mid b live t0 n (out++[v]) (ZiT t v.toNat (newV b c live l t v)) (List.set C v.toNat (ZjU b c live l t v.toNat)) where
 tb:=Zmy hst h.tb _ _
 cl:=by rw[UF];exact h.cl
 clo:=(h.skip f F).clo
 rest:=λu a=>by
  have d:u≠v:=λe=>a (Ut.2 (.inr (by rw[e];exact Uw.2 rfl)));have:=h.rest u λq=>a (Ut.2 (.inl q));rw[Zhu,Zvl];exact this
 keep:=λu a H=>by
  have j:(v.toNat:Int)=v:=by omega
  rcases Ut.1 a with q|q
  ·have d:u≠v:=λe=>f (e▸q)
   rw[Zvl]at H;rw[Zhu];exact h.keep u q H
  ·have a:=Uw.1 q
   subst a;have R:=mark_eq (w:=ZjU b c live l t u.toNat) h.cl (show u.toNat<n by omega);rw[j]at R;rw[R]at H;have g:ZjU b c live l t u.toNat=false:=by
    cases e:ZjU b c live l t u.toNat with
    |false=>rfl
    |true=>rw[e]at H;exact absurd rfl H
   have:=Zx8.1 g;rw[j]at this;have e:=ZkQ h.tb (show u.toNat<n by omega) (newV b c live l t u);rw[j]at e;rw[e,<-this];exact(h.rest u f).1
theorem Mid.still {v:Int} (h:Mid b live t0 n out t C) (f:v ∉ out) (F:Rdy live (Zu b) out v) (r:v ∉ dirty->JM t0 v=Zks (newV b c live l t0 v)) (N:due b live dirty C v=false):JM t v=JM t0 v/\JM t v=Zks (newV b c live l t v):=by
 obtain⟨D,d⟩:=ZpG N;have e:newV b c live l t v=newV b c live l t0 v:=ZwM λk x a q H=>h.keep _ (F k x a q H) (d k x a q H);have:=(h.rest v f).1;exact⟨this,by rw[this,e];exact r D⟩
theorem ZvC (hst:∀(t:Zf) (u:Int),Zg1 n t->StB (ZaJ b c live l t u)) {C:Int->Prop} (j:∀u∈dirty,C u) (m:∀(k:Nat) (x:Zp),(Zu b)[k]?=some x->live[k]?=some true->C (Gd x)->C (Gf x)):∀(r d out:List Int) (t:Zf) (g:List Bool),Zl3 live (Zu b) out r->(∀u∈r,u<(n:Int))->(∀u∈r,u ∉ dirty->JM t0 u=Zks (newV b c live l t0 u)/\Zoz (JM t0 u))->Mid b live t0 n out t g->(∀u∈out,JM t u=Zks (newV b c live l t u)/\Zoz (JM t u))->(∀u,atI g u=some true->C u)->
  (ZnY b c live l dirty r d t g).1=true->Zg1 n (ZnY b c live l dirty r d t g).2.2/\(∀u∈out++r,JM (ZnY b c live l dirty r d t g).2.2 u=Zks (newV b c live l (ZnY b c live l dirty r d t g).2.2 u)/\Zoz (JM (ZnY b c live l dirty r d t g).2.2 u))/\∃D,(ZnY b c live l dirty r d t g).2.1=d++D/\D.Sublist r/\(∀u∈r,u∈dirty->u∈D)/\∀u∈D,C u
 |[],d,out,t,g,_,_,_,F,s,_,_=>by
  rw[Un];exact⟨F.tb,s,[],by rw[Un];rfl,List.Sublist.refl _,λu a=>(by cases a),λu a=>(by cases a)⟩
 |v::r,d,out,t,g,h,z,f,F,s,o,H=>by
  have M:=h.1.1;have w:=z v UH;unfold ZnY at H ⊢;cases N:due b live dirty g v with
  |false =>
   rw[N] at H;obtain ⟨S,T⟩:=F.still h.1.2.1 h.1.2.2 (λq=>(f v UH q).1) N;obtain ⟨A,K,D,R,B,E,G⟩:=ZvC hst j m r d (out++[v]) t g h.2 (λu a=>z u (UM _ a)) (λu a=>f u (UM _ a)) (F.skip h.1.2.1 h.1.2.2) (λu a=>by
    rcases Ut.1 a with q|q
    ·exact s u q
    ·rw[Uw.1 q]
     exact ⟨T,by rw[S];exact (f v UH (ZpG N).1).2⟩) o H
   rw[Uk]at K;refine⟨A,K,D,R,B.cons v,λu a i=>?_,G⟩;rcases UB.1 a with rfl|a
   ·exact absurd i (ZpG N).1
   ·exact E u a i
  |true =>
   rw[N]at H;cases y:Zr7 (newV b c live l t v)with
   |true=>simp only[y]at H;cases H
   |false =>
    simp only[y]at H ⊢;have p:C v:=by
     rcases ZBo N with q|⟨k,x,_,O,J,L,I⟩
     ·exact j v q
     ·rw[<-L];exact m k x O J (o _ I)
    obtain ⟨p1,P,Q,W⟩:=Zub F.tb h.1.1 w h.1.2.1 h.1.2.2 F.clo λu a=>(s u a).1;obtain ⟨A,K,D,R,B,E,G⟩:=ZvC hst j m r (d++[v]) (out++[v]) (ZiT t v.toNat (newV b c live l t v)) (List.set g v.toNat (ZjU b c live l t v.toNat)) h.2 (λu a=>z u (UM _ a)) (λu a=>f u (UM _ a)) (F.put hst h.1.1 w h.1.2.1 h.1.2.2) (λu a=>⟨P u a,by
     rcases Ut.1 a with q|q
     ·rw[Q u (λe=>h.1.2.1 (e▸q))];exact(s u q).2
     ·rw[Uw.1 q,W];exact Zo8.1 y⟩) (λu a=>by
     by_cases e:u=v
     ·rw[e];exact p
     ·rw[Zvl]at a
      exact o u a) H
    rw[Uk]at K;refine⟨A,K,v::D,by rw[R,Uk];rfl,B.cons_cons v,λu a i=>?_,λu a=>?_⟩
    ·rcases UB.1 a with rfl|a
     ·exact UH
     ·exact UM _ (E u a i)
    ·rcases UB.1 a with rfl|a
     ·exact p
     ·exact G u a
theorem Zqt (hst:∀(t:Zf) (u:Int),Zg1 n t->StB (ZaJ b c live l t u)) {T:Zf}:∀(r d out:List Int) (t:Zf) (C:List Bool),Zl3 live (Zu b) out r->(∀u∈r,u<(n:Int))->(∀u∈r,u ∉ dirty->JM t0 u=Zks (newV b c live l t0 u))->Mid b live t0 n out t C->(∀u∈out,JM t u=JM T u)->(∀u∈r,JM T u=Zks (newV b c live l T u)/\Zoz (JM T u))->
  (ZnY b c live l dirty r d t C).1=true
 |[],_,_,_,_,_,_,_,_,_,_=>rfl
 |v::r,d,out,t,C,h,i,H,F,x,g=>by
  have f:=g v UH;have e:newV b c live l t v=newV b c live l T v:=Zmx h.1.2.2 x;have j:=i v UH;unfold ZnY;cases N:due b live dirty C v with
  |false =>
   obtain⟨s,S⟩:=F.still h.1.2.1 h.1.2.2 (λq=>H v UH q) N;refine Zqt hst r d (out++[v]) t C h.2 (λu a=>i u (UM _ a)) (λu a=>H u (UM _ a)) (F.skip h.1.2.1 h.1.2.2) (λu a=>?_) (λu a=>g u (UM _ a));rcases Ut.1 a with q|q
   ·exact x u q
   ·rw[Uw.1 q,S,e,f.1]
  |true =>
   have m:Zr7 (newV b c live l t v)=false:=by rw[e,Zo8,<-f.1];exact f.2
   simp only[m];refine Zqt hst r (d++[v]) (out++[v]) _ _ h.2 (λu a=>i u (UM _ a)) (λu a=>H u (UM _ a)) (F.put hst h.1.1 j h.1.2.1 h.1.2.2) (λu a=>?_) (λu a=>g u (UM _ a));have o:=h.1.1;rcases Ut.1 a with q|q
   ·rw[Zhu (by intro z;exact h.1.2.1 (by rw[show v=u by omega];exact q))]
    exact x u q
   ·rw[Uw.1 q]
    have:=ZkQ F.tb (k:=v.toNat) (by omega) (newV b c live l t v);rw[show(v.toNat:Int)=v by omega]at this;rw[this,e,f.1]
end
def Zyl (r:Row):Prop:=ZaI r.2.1/\Jk r.2.2/\(r.1=false->r.2.1=VH/\r.2.2=VH)
def ZJU:Row:=(false,VH,VH)
theorem ZCo:ZaI VH:=by
 refine⟨⟨?_,?_⟩,⟨?_,?_⟩,?_⟩<;>decide
theorem Zz6:Zyl ZJU:=⟨ZCo,Zs4,λ_=>⟨rfl,rfl⟩⟩
variable {s:ZA}
theorem Zpo:Zero s<->s=VH:=⟨λh=>ZCp h.1 h.2,λh=>by rw[h];exact⟨rfl,rfl⟩⟩
variable {t:Zf} {k:Nat}
theorem Zz8 {x:Bool} {a:ZA} (l:(K6 t)[k]?=some x) (n:(Gu t)[k]?=some a) (q:(Gs t)[k]?=some s):JM t (k:Int)=(x,a,s):=by
 unfold JM;rw[Zo,Zo,Zo,l,n,q];rfl
theorem ZrW {n:Nat} (h:Ziu (n:Int) t) (c:k<n:=by omega):Zyl (JM t (k:Int)):=by
 obtain⟨d,f,g,i⟩:=h;have l:(K6 t)[k]?=some ((K6 t)[k]'(by omega)):=Ua _;obtain⟨a,s,H,b,O,y,j⟩:=i k _ l;rw[Zz8 l H b];exact⟨O,y,λq=>⟨Zpo.1 (j q).1,Zpo.1 (j q).2⟩⟩
theorem ZrR {n:Nat} (h:Zg1 n t) (F:∀k:Nat,k<n->Zyl (JM t (k:Int))):Ziu (n:Int) t:=by
 have d:=h.lr;have f:=h.la;have g:=h.ls;refine⟨by omega,by omega,by omega,λk x l=>?_⟩;have H:=(Ub.1 l).1;have a:(Gu t)[k]?=some ((Gu t)[k]'(by omega)):=Ua _;have s:(Gs t)[k]?=some ((Gs t)[k]'(by omega)):=Ua _;have:=F k (by omega);rw[Zz8 l a s]at this;exact⟨_,_,a,s,this.1,this.2.1,λq=>⟨Zpo.2 (this.2.2 q).1,Zpo.2 (this.2.2 q).2⟩⟩
theorem ZxH {b:Za} {c:Zz} {live:List Bool} {l:List Zj} {u:Int} (h:StO (ZaJ b c live l t u)) (a:Zoz (Zks (newV b c live l t u))):Zyl (Zks (newV b c live l t u)):=by
 unfold newV at a ⊢;cases e:ZaJ b c live l t u with
 |none=>exact Zz6
 |some q =>
  rw[e]at a;exact⟨a rfl,h q e,λz=>by cases z⟩
end Go.Proofs.YtcjminfjgckdlaaGreatDoor
