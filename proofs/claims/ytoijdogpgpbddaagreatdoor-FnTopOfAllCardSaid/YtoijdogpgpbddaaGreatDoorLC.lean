/-
  Plain laws: edits: range, possibility, code.
-/
import Derived.Test.YtoijdogpgpbddaaGreatDoorLB
import Derived.Test.YtoijdogpgpbddaaGreatDoorLA
import Derived.Test.YtoijdogpgpbddaaGreatDoorSxSort
namespace Go.Proofs.YtoijdogpgpbddaaGreatDoor
set_option linter.unusedVariables false
set_option linter.unusedSimpArgs false
open Go Go.Sx
def Zdw (b:Za) (e:Zh):Prop :=
 ((K7 e=1\/K7 e=2)->(0<=K9 e/\K9 e<=((Zg (K2 b)).length:Int)-1)/\(0<=Gy e/\Gy e<=((Gd (K6 b)).length:Int)-1))/\
 (K7 e=4->(0<=K9 e/\K9 e<=((Zg (K2 b)).length:Int)-1)/\ZbJ (K2 b) (Gk e)/\∃w,(K4 b)[(Gk e).toNat]?=some w/\(0<=GC e/\GC e<=((K8 w).length:Int)-1))/\
 (K7 e=5->ZbJ (K2 b) (Gk e))
variable {b:Za} {n:Int}
theorem Zhs (h:Z7 b) (f:ZbJ (K2 b) n):∃w,(K4 b)[n.toNat]?=some w/\atI (K4 b) n=some w/\Zcs w ((Xx (K2 b) n).length:Int):=by
 have Z:=h.ok.2.1;have t:n.toNat<(K4 b).length:=by have:=f.1;have:=f.2;omega
 have c:=Ub t;refine⟨_,c,Yr f.1 c,?_⟩;have this:Zcs _ ((Xx (K2 b) (n.toNat:Int)).length:Int):=h.ok.2.2 n.toNat _ c
 rwa [show(n.toNat:Int)=n by have:=f.1;omega]at this
theorem Zpv (h:Z7 b):(Gd (K6 b)).length<=1048576:=Zv (ZoZ (Vi h.sm).1)
variable {w:Zq}
theorem ZAA (h:Z7 b) (e:Zh) (c:(K4 b)[(Gk e).toNat]?=some w):Wq (((K8 w).length:Int)-1)=((K8 w).length:Int)-1:=by
 have:=h.ok.2.2 _ _ c;have d:=this.1;rw[QR]
theorem Zkr (h:Z7 b) (e:Zh) (u:sm XI e):ZhQ b e=some (tr (Zdw b e)):=by
 have H:=h.ok.1;have f:=H.few;have l:=ZQ f;have t:=Zpv h;have Z:=h.ok.2.1;have r:=H.2.1.2.1;have E:Wq (((Zg (K2 b)).length:Int)-1)=((Zg (K2 b)).length:Int)-1:=QR;have i:Wq (((Gd (K6 b)).length:Int)-1)=((Gd (K6 b)).length:Int)-1:=QR;have a:Wq (((K4 b).length:Int)-1)=((K5 (K2 b)).length:Int)-1:=by rw[QR];omega
 have net:(Z4 (Gk e) 0 (((K5 (K2 b)).length:Int)-1))=some (tr (ZbJ (K2 b) (Gk e))):=Jy _ _ _;unfold ZhQ;rw[ZP _ f,Bq,E,i,a];have p:((Z4 (K9 e) 0 (((Zg (K2 b)).length:Int)-1)).bind λx=>if x=true then(Z4 (Gy e) 0 (((Gd (K6 b)).length:Int)-1)).bind λy=>some y else some false) =
   some (tr ((0<=K9 e/\K9 e<=((Zg (K2 b)).length:Int)-1)/\(0<=Gy e/\Gy e<=((Gd (K6 b)).length:Int)-1))) :=
  XA (Jy _ _ _) λ_=>Za6 (Jy _ _ _)
 have m:((Z4 (K9 e) 0 (((Zg (K2 b)).length:Int)-1)).bind λx=>if x=true then (Z4 (Gk e) 0 (((K5 (K2 b)).length:Int)-1)).bind λy=>if y=true then
    (atI (K4 b) (Gk e)).bind λw=>(Z4 (GC e) 0 (Wq (((K8 w).length:Int)-1))).bind λz=>some z else some false else some false) =
   some (tr ((0<=K9 e/\K9 e<=((Zg (K2 b)).length:Int)-1)/\ZbJ (K2 b) (Gk e)/\∃w,(K4 b)[(Gk e).toNat]?=some w/\(0<=GC e/\GC e<=((K8 w).length:Int)-1))):=by
  refine XA (Jy _ _ _) λ_=>XA net λg=>?_;obtain⟨w,c,n,_⟩:=Zhs h g;rw[n,Bq,ZAA h e c];refine ZaH (Za6 (Jy _ _ _)) ⟨λq=>⟨w,c,q⟩,λ⟨w',j,q⟩=>?_⟩;grind
 by_cases d:K7 e=1
 ·rw[Uc d,Uc d]
  refine ZaH p ?_;unfold Zdw;grind
 rw[Ue d];by_cases k:K7 e=2
 ·rw[Uc k]
  refine ZaH p ?_;unfold Zdw;grind
 rw[Ue k];by_cases o:K7 e=4
 ·rw[Uc o]
  refine ZaH m ?_;unfold Zdw;grind
 rw[Ue o];by_cases s:K7 e=5
 ·rw[Uc s]
  refine ZaH (Za6 net) ?_;unfold Zdw;grind
 ·rw[Ue s]
  refine(Zdl (P:=Zdw b e) ⟨λ_=>?_,λ_=>rfl⟩);unfold Zdw;grind
theorem ZnI (h:Z7 b) (e:Zh) (r:sm XI e):ZcD e b=some (tr (Blank e/\Zdw b e)):=by
 have l:=h.ok.1;have f:=l.few;have u:=ZQ f;have A:=Zpv h;have Y:=(Vi h.sm).2.1;have E:Wq (((Zg (K2 b)).length:Int)-1)=((Zg (K2 b)).length:Int)-1:=QR;have i:Wq (((Gd (K6 b)).length:Int)-1)=((Gd (K6 b)).length:Int)-1:=QR;obtain⟨c,o,x⟩:=ZC2 e r;unfold ZcD;rw[c,Bq];by_cases H:1<=K7 e/\K7 e<=5
 ·rw[Uc (ZY H)]
  rcases x with⟨a,I⟩|x
  ·rw[a,Bq,I,Bq]
   by_cases j:Blank e
   ·rw[Uc (ZY (.inr (.inr j))),ZM _ f,Bq,show XU (Zg (K2 b))=some ((Zg (K2 b)).length:Int) from rfl,Bq,E,JN,Bq,
     show Vn (Gd (K6 b))=some ((Gd (K6 b)).length:Int) from rfl]
    simp only[Bq,i];have net:=Zej (K2 b) (Gk e) Y;have p:(if tr (0<=K9 e/\K9 e<=((Zg (K2 b)).length:Int)-1)=true then(YC (Gy e) 0 (((Gd (K6 b)).length:Int)-1)).bind λy=>some y else some false) =
      some (tr ((0<=K9 e/\K9 e<=((Zg (K2 b)).length:Int)-1)/\(0<=Gy e/\Gy e<=((Gd (K6 b)).length:Int)-1))) :=
     ZGs (Za6 (JN _ _ _))
    by_cases d:K7 e=1
    ·rw[Uc d,Uc d]
     refine ZaH p ?_;unfold Zdw;grind
    rw[Ue d];by_cases k:K7 e=2
    ·rw[Uc k]
     refine ZaH p ?_;unfold Zdw;grind
    rw[Ue k];by_cases K:K7 e=4
    ·rw[Uc K]
     have M:(if tr (0<=K9 e/\K9 e<=((Zg (K2 b)).length:Int)-1)=true then (XD (K2 b) (Gk e)).bind λy=>if y=true then
        (atI (K4 b) (Gk e)).bind λw=>(XE (K8 w)).bind λn=>(YC (GC e) 0 (Wq (n-1))).bind λz=>some z else some false else some false) =
       some (tr ((0<=K9 e/\K9 e<=((Zg (K2 b)).length:Int)-1)/\ZbJ (K2 b) (Gk e)/\∃w,(K4 b)[(Gk e).toNat]?=some w/\(0<=GC e/\GC e<=((K8 w).length:Int)-1))):=by
      by_cases g:0<=K9 e/\K9 e<=((Zg (K2 b)).length:Int)-1
      ·rw[Uc (ZY g)]
       refine ZaH (XA net λt=>?_) (P:=ZbJ (K2 b) (Gk e)/\∃w,(K4 b)[(Gk e).toNat]?=some w/\(0<=GC e/\GC e<=((K8 w).length:Int)-1)) ⟨λq=>⟨g,q⟩,λq=>q.2⟩;obtain⟨w,c,m,_⟩:=Zhs h t;rw[m,Bq,VZ,Bq,ZAA h e c];refine ZaH (Za6 (JN _ _ _)) ⟨λq=>⟨w,c,q⟩,λ⟨w',v,q⟩=>?_⟩;grind
      ·rw[Ue (λq=>g ((YS _).1 q)),Yq (λq=>g q.1)]
     refine ZaH M ?_;unfold Zdw;grind
    rw[Ue K];by_cases s:K7 e=5
    ·rw[Uc s]
     refine ZaH (Za6 net) ?_;unfold Zdw;grind
    ·rw[Ue s]
     refine(Zdl (P:=Blank e/\Zdw b e) ⟨λ_=>⟨j,?_⟩,λ_=>rfl⟩);unfold Zdw;grind
   ·rw[Ue (λq=>by rcases(YS _).1 q with q|q|q<;>first|omega|exact j q),Yq (λq=>j q.1)]
  ·exact absurd H x
 ·rw[Ue (λq=>H ((YS _).1 q)),Yq (λq=>?_)]
  have:=q.1;unfold Blank at this;omega
theorem ZBS (a b:Zo) (n:sm Zcq a):ZhD a b=Vd a b/\∃r,Vd a b=some r:=by
 have s:(Gb a).length<=1048576:=by have:=(Zxu n).pins.1;omega
 unfold ZhD Vd Yi;by_cases k:GI a=GI b
 ·rw[Uc k,Uc k]
  by_cases q:((Gb a).length:Int)=((Gb b).length:Int)
  ·rw[Uc q,Uc q]
   rw[V8 (l:=Gb a) (show Len _ by unfold Len;omega) (λk x=>∀ y,(Gb b)[k]?=some y->(Gn x == Gn y)=true) (bad:=false) (good:=true)
    (step:=λv=>ZR (Gb a) (Gb b) v.1)
    (λk x h H _=>by
     have i:(Gb b)[k]?=some (Gb b)[k]:=Ub (by omega);simp only[ZR,Zhk,show (k:Int)<((Gb a).length:Int) from by omega,Ui,Zp,h,i,Bq,Option.some.injEq,forall_eq'];grind)
    (λ_=>by simp only[ZR,Uf,Uh]),
    V8 (l:=Gb a) (show Len _ by unfold Len;omega) (λk x=>∀y,(Gb b)[k]?=some y->(Gn x==Gn y)=true) (bad:=false) (good:=true)
    (step:=λv=>Vj a b v.1)
    (λk x h H _=>by
     have i:(Gb b)[k]?=some (Gb b)[k]:=Ub (by omega);simp only[Vj,show (k:Int)<((Gb a).length:Int) from by omega,Ui,Zp,h,i,Bq,Option.some.injEq,forall_eq'];grind)
    (λ_=>by simp only[Vj,Uf,Uh])]
   grind
  grind
 grind
variable (d:Zb) (s:List UInt8)
theorem ZkN (N:sm YN d):Zdn d s=some (Jw (λx=>decide (Gq x=s)) (K3 d))/\Zdr d s=some (Jw (λx=>decide (Gq x=s)) (K3 d)):=by
 have q:=QK (Zbw N).1;constructor
 ·unfold Zdn
  rw[QH q (λx=>decide (Gq x=s)) (λx _=>rfl),Bq]
 ·unfold Zdr
  refine Q0 q (out:=λi=>i) (λk x l=>?_) ?_
  ·have H:=(Ua.1 l).1
   simp only[Zcf,show(k:Int)<((K3 d).length:Int)from by omega,Ui,Zp,l,Bq,Ul];split<;>rfl
  ·simp only[Zcf,Uf,Uh]
theorem Zma (N:sm YN d):ZbT d s=some (Jw (λx=>decide (s=x)) (K5 d))/\ZhM d s=some (Jw (λx=>decide (s=x)) (K5 d)):=by
 have q:=QK (Zbw N).2.2;constructor
 ·unfold ZbT
  rw[Zhe q,Bq]
 ·unfold ZhM Zka
  rw[Q0 q (p:=λx=>decide (s=x)) (out:=λi=>i) (λk x l=>by
   have H:=(Ua.1 l).1;simp only[Ze6,show (k:Int)<((K5 d).length:Int) from by omega,Ui,Zp,l,Bq,Ul];grind) (by simp only[Ze6,Uf,Uh]),Bq]
def Zjb (b:Za):Prop:=∃(x:Zd) (c:Zo) (w:Zq) (m:Int),
 0<(K3 (K2 b)).length/\(K3 (K2 b))[(K3 (K2 b)).length-1]?=some x/\
 (Gd (K6 b))[(Gr x).toNat]?=some c/\GI c=1/\(Gb c).length=2/\
 (Gc x).length=2/\atI (Gc x) 0=some m/\atI (Gc x) 1=some (((K5 (K2 b)).length:Int)-1)/\m≠((K5 (K2 b)).length:Int)-1/\
 atI (K5 (K2 b)) (((K5 (K2 b)).length:Int)-1)=some (Gq x)/\
 atI (K4 b) (((K5 (K2 b)).length:Int)-1)=some w/\(Gu w).length=1/\(Xx (K2 b) (((K5 (K2 b)).length:Int)-1)).length=1/\(K8 w).length=1/\atI (GE w) 0=some 0
theorem ZBY (h:Z7 b):∃r,ZaV b=some r/\Zfw b=some r/\
  (r=true->Zjb b):=by
 have d:=h.ok.1;have s:=d.few;have B:=s.insts;have C:=d.2.1.2.1;have Z:=h.ok.2.1;unfold ZaV Zfw;by_cases i:((K3 (K2 b)).length:Int)=0
 ·rw[Uc i,i,QR,QP]
  grind
 rw[Ue i,YI (n:=((K3 (K2 b)).length:Int)-1),QQ];have g:(K3 (K2 b)).length-1<(K3 (K2 b)).length:=by omega
 have l:=Ub g;generalize (K3 (K2 b))[(K3 (K2 b)).length-1]=x at l;have J:atI (K3 (K2 b)) (((K3 (K2 b)).length:Int)-1)=some x:=Yr (by omega) (by simp_all);obtain⟨⟨c0,c1⟩,⟨c,o,p⟩,t⟩:=d.2.2.1 x (Ud l);have z:atI (Gd (K6 b)) (Gr x)=some c:=Yr c0 o;rw[J];simp only[Bq,z,show XG (K5 (K2 b))=some ((K5 (K2 b)).length:Int)from rfl];rw[show JC c=Zak c from rfl];have f:Zak c=some (tr (GI c=1/\(Gb c).length=2)):=by
  unfold Zak;refine ZaH (YP λ_=>Zdl Kf) ?_;omega
 rw[f,Bq,Bq];by_cases H:GI c=1/\(Gb c).length=2
 ·rw[Uc (ZY H),Uc (ZY H)]
  have T:(Gc x).length=2:=by rw[p];exact H.2
  have n0:atI (Gc x) 0=some ((Gc x)[0]'(by omega)):=Ub (by omega);have n1:atI (Gc x) 1=some ((Gc x)[1]'(by omega)):=Ub (by omega);have a:=t ((Gc x)[1]'(by omega)) (List.getElem_mem _);have I:1<=(K5 (K2 b)).length:=by have:=a.1;have:=a.2;omega
  generalize (Gc x)[1]'(by omega)=K at n1 a;generalize (Gc x)[0]'(by omega)=M at n0;have E:Wq (((K5 (K2 b)).length:Int)-1)=((K5 (K2 b)).length:Int)-1:=QR;have A:Wq (((K4 b).length:Int)-1)=((K5 (K2 b)).length:Int)-1:=by grind
  have D:ZbJ (K2 b) (((K5 (K2 b)).length:Int)-1):=⟨by omega,by omega⟩;obtain ⟨w,F,e,y⟩:=Zhs h D;have N:atI (K5 (K2 b)) (((K5 (K2 b)).length:Int)-1)=some ((K5 (K2 b))[(K5 (K2 b)).length-1]'(by omega)):=Yr (by omega) (by
   simp_all)
  generalize (K5 (K2 b))[(K5 (K2 b)).length-1]'(by omega)=L at N;have G:atI (GE w) 0=some ((GE w)[0]'(by have:=y.1;have:=y.2.2.1;omega)):=Ub (by have:=y.1;have:=y.2.2.1;omega);generalize (GE w)[0]'(by have:=y.1;have:=y.2.2.1;omega)=cp at G;have k:=y.2.2.2.1;simp only[E,A,n0,n1,N,e,Bq,Xn _ _ s,ZiT,G];rw[<-k];by_cases Q:K=((K5 (K2 b)).length:Int)-1
  ·rw[Uc Q,Uc Q]
   by_cases j:M=((K5 (K2 b)).length:Int)-1
   ·simp_all
   ·rw[Ue j]
    by_cases m:L=Gq x
    ·rw[Uc m,Uc m]
     simp only[Ue j];by_cases u:((Gu w).length:Int)=1
     ·rw[Uc u,Uc u]
      by_cases v:((K8 w).length:Int)=1
      ·simp only[Uc v]
       refine⟨_,rfl,rfl,λq=>?_⟩;have O:=of_decide_eq_true q;subst Q O;exact⟨x,c,w,M,by omega,l,o,H.1,H.2,T,n0,n1,j,by rw[N,m],e,by omega,by omega,by omega,G⟩
      ·simp only[Ue v]
       exact⟨_,rfl,rfl,λq=>by cases q⟩
     simp_all
    simp_all
  simp_all
 ·rw[Ue (λq=>H ((YS _).1 q)),Ue (λq=>H ((YS _).1 q))]
  grind
variable {i:Int}
theorem Zvd (h:Z7 b) (m:0<=i) (d:i<=((Gd (K6 b)).length:Int)-1):∃c,atI (Gd (K6 b)) i=some c/\sm Zcq c:=by
 have t:i.toNat<(Gd (K6 b)).length:=by omega
 have q:=Ub t;exact⟨_,Yr m q,JJ (ZoZ (Vi h.sm).1) q⟩
theorem Zs0 (h:Z7 b) (m:0<=i) (d:i<=((Zg (K2 b)).length:Int)-1):∃p,atI (Zg (K2 b)) i=some p/\p∈Zg (K2 b):=by
 have t:i.toNat<(Zg (K2 b)).length:=by omega
 have q:=Ub t;exact⟨_,Yr m q,List.getElem_mem _⟩
variable {d:Zb} {p:Pl}
theorem ZrP (g:p∈Zg d) (m:0<=p.1):∃x,(K3 d)[p.1.toNat]?=some x/\x∈K3 d:=by
 unfold Zg at g;rcases Uu.1 g with g|g
 ·obtain⟨i,z,l,T⟩:=XQ.1 g
  unfold YW at T;obtain⟨j,n,b,f⟩:=XQ.1 T;grind
 ·obtain⟨j,q,b,h⟩:=XQ.1 g
  simp only[Zcd,Ux]at h;grind
theorem Zjb.two (h:Zjb b):0<(K3 (K2 b)).length/\∃x,(K3 (K2 b))[(K3 (K2 b)).length-1]?=some x/\(Gc x).length=2:=by
 obtain⟨x,c,w,m,d,f,_,_,_,g,_⟩:=h;grind
def J5 (b:Za) (e:Zh) (p:Pl):Prop:=0<=K9 e/\(Zg (K2 b))[(K9 e).toNat]?=some p
variable {e:Zh}
theorem Zsa (m:0<=K9 e) (g:atI (Zg (K2 b)) (K9 e)=some p):J5 b e p:=by
 refine⟨m,?_⟩;rw[show K9 e=((K9 e).toNat:Int) by omega,Zp]at g;exact g
theorem J5.mem (h:J5 b e p):p∈Zg (K2 b):=Ud h.2
theorem J5.at (h:J5 b e p):atI (Zg (K2 b)) (K9 e)=some p:=Yr h.1 h.2
def ZDF (b:Za) (e:Zh):Prop :=
 (K7 e=1->∃(p:Pl) (x:Zd) (c c2:Zo),J5 b e p/\0<=p.1/\p.2.2.2.1=true/\atI (K3 (K2 b)) p.1=some x/\atI (Gd (K6 b)) (Gr x)=some c/\atI (Gd (K6 b)) (Gy e)=some c2/\Vd c c2=some true)/\
 (K7 e=2->∃ (p:Pl) (c:Zo),J5 b e p/\p.2.2.2.1=false/\atI (Gd (K6 b)) (Gy e)=some c/\GI c=1/\(Gb c).length=2/\Zbr (Gg e)=true/\
  Jw (λx=>decide (Gq x=Gg e)) (K3 (K2 b))<0/\Jw (λx=>decide (Gg e=x)) (K5 (K2 b))<0)/\
 (K7 e=3->Zjb b)/\
 (K7 e=4->∃p:Pl,J5 b e p/\p.2.2.2.1=false/\p.2.2.1≠Gk e)/\
 (K7 e=5->Zcs (GG e) ((Xx (K2 b) (Gk e)).length:Int))
theorem ZvP (h:Z7 b) (e:Zh) (P:sm XI e) (O:Blank e) (n:Zdw b e):∃r,ZbV e b=some r/\Zee b e=some r/\
  (r=true->ZDF b e):=by
 have F:=h.ok.1;have u:=F.few;have Y:=(Vi h.sm).2.1;obtain⟨t,j⟩:=Zhx P;unfold ZbV Zee;rw[ZM _ u,ZP _ u,Bq,Bq];by_cases K:K7 e=1
 ·rw[Uc K,Uc K]
  obtain⟨⟨p0,p1⟩,c0,c1⟩:=n.1 (.inl K);obtain⟨p,g,m⟩:=Zs0 h p0 p1;obtain⟨c2,z,s⟩:=Zvd h c0 c1;rw[g];simp only[Bq,z];by_cases f:(0:Int)<=p.1
  ·rw[Uc f,Uc f]
   by_cases Q:p.2.2.2.1=true
   ·rw[Uc Q,Uc Q]
    obtain⟨x,T,B⟩:=ZrP m f;have J:atI (K3 (K2 b)) p.1=some x:=Yr f T;obtain⟨⟨M,N⟩,_,_⟩:=F.2.2.1 x B;obtain⟨c,G,X⟩:=Zvd h M N;obtain⟨L,r,D⟩:=ZBS c c2 X;have E:Gt p=p.1:=rfl;have i:GL p=p.1:=rfl;simp only[E,i,J,Bq,G,L,D];exact⟨r,rfl,rfl,λq=>⟨λ_=>⟨p,x,c,c2,Zsa p0 g,f,Q,J,G,z,by rw[D,q]⟩,λk=>by omega,λk=>by omega,λk=>by omega,λk=>by omega⟩⟩
   simp_all
  ·rw[Ue f,Ue f]
   grind
 rw[Ue K,Ue K];by_cases l:K7 e=2
 ·rw[Uc l,Uc l]
  obtain⟨⟨p0,p1⟩,c0,c1⟩:=n.1 (.inr l);obtain⟨p,g,m⟩:=Zs0 h p0 p1;obtain⟨c2,z,s⟩:=Zvd h c0 c1;have H:Zak c2=some (tr (GI c2=1/\(Gb c2).length=2)):=by
   unfold Zak;refine ZaH (YP λ_=>Zdl Kf) ?_;omega
  have v:(Gg e).length<=4611686018427387904:=by have:((Gg e).length:Int)<=1048576:=t;omega
  rw[g];simp only[Bq,z,show JC c2=Zak c2 from rfl,H,ZgU,Zch _ v,(ZkN _ (Gg e) Y).1,(ZkN _ (Gg e) Y).2,(Zma _ (Gg e) Y).1,(Zma _ (Gg e) Y).2];have E:GW p=p.2.2.2.1:=rfl;have i:GX p=p.2.2.2.1:=rfl;rw[E,i];by_cases Q:p.2.2.2.1=true
  ·grind
  simp only[Ue Q];by_cases C:tr (GI c2=1/\(Gb c2).length=2)=true
  ·simp only[Uc C]
   by_cases I:Zbr (Gg e)=true
   ·simp only[Uc I]
    split
    ·rename_i V
     refine⟨_,rfl,rfl,λq=>⟨λk=>by omega,λ_=>⟨p,c2,Zsa p0 g,by simpa using Q,z,((YS _).1 C).1,((YS _).1 C).2,I,V,of_decide_eq_true q⟩,λk=>by omega,λk=>by omega,λk=>by omega⟩⟩
    grind
   grind
  grind
 rw[Ue l,Ue l];by_cases R:K7 e=3
 ·rw[Uc R,Uc R]
  obtain⟨r,a,c,d⟩:=ZBY h;rw[a,c];exact⟨r,rfl,rfl,λq=>⟨λk=>by omega,λk=>by omega,λ_=>d q,λk=>by omega,λk=>by omega⟩⟩
 rw[Ue R,Ue R];by_cases o:K7 e=4
 ·rw[Uc o,Uc o]
  obtain⟨⟨p0,p1⟩,_⟩:=n.2.1 o;obtain⟨p,g,m⟩:=Zs0 h p0 p1;rw[g];simp only[Bq];have E:GW p=p.2.2.2.1:=rfl;have i:GX p=p.2.2.2.1:=rfl;rw[E,i];by_cases Q:p.2.2.2.1=true
  ·simp_all
  ·simp only[Ue Q]
   refine⟨_,rfl,rfl,λq=>⟨λk=>by omega,λk=>by omega,λk=>by omega,λ_=>⟨p,Zsa p0 g,by simpa using Q,by grind⟩,λk=>by omega⟩⟩
 rw[Ue o,Ue o];have U:K7 e=5:=by unfold Blank at O;omega
 obtain⟨w,S,y,A⟩:=Zhs h (n.2.2 U);rw[y,Xn _ _ u];simp only[Bq,VZ,ZlN _ _ j,Zi6 _ _ j,A.2.2.2.1];exact⟨_,rfl,rfl,λq=>⟨λk=>by omega,λk=>by omega,λk=>by omega,λk=>by omega,λ_=>(YS _).1 q⟩⟩
structure Ve (b:Za) (e:Zh):Prop where
 blk:Z7 b
 blank:Blank e
 range:Zdw b e
 poss:ZDF b e
 lim:K7 e=2->(K3 (K2 b)).length<=13/\(K5 (K2 b)).length<=29
theorem Ve.last (h:Ve b e) (R:K7 e=3):0<(K3 (K2 b)).length/\∃x,(K3 (K2 b))[(K3 (K2 b)).length-1]?=some x/\(Gc x).length=2:=(h.poss.2.2.1 R).two
theorem ZkM (h:Z7 b) (e:Zh) (m:sm XI e):∃c,Zez e b=some c/\VQ b e=some c/\(c=0->Ve b e):=by
 have j:=h.ok;unfold VQ Zez;rw[Qb b h.sm,Bq,Uc (ZY j)]
 ·have Z:=j.2.1
  rw[ZnI h e m,Zkq e m,Zkr h e m];simp only[Bq];by_cases H:Blank e
  ·rw[Uc (ZY H)]
   by_cases f:Zdw b e
   ·rw[Uc (ZY ⟨H,f⟩),Uc (ZY f)]
    obtain⟨r,a,c,d⟩:=ZvP h e m H f;rw[a,c];simp only[Bq];by_cases F:r=true
    ·rw[Uc F,Uc F]
     have y:=j.1.few.insts;have g:=j.1.2.1.2.1;by_cases K:K7 e=2
     ·rw[Uc K,Uc K]
      by_cases Q:((K3 (K2 b)).length:Int)=14
      ·simp_all
      ·rw[Ue Q,Ue Q]
       by_cases i:((K5 (K2 b)).length:Int)=30
       ·simp_all
       ·rw[Ue i,QQ]
        exact⟨_,rfl,rfl,λ_=>⟨h,H,f,d F,λ_=>⟨by omega,by omega⟩⟩⟩
     ·rw[Ue K,Ue K]
      exact⟨_,rfl,rfl,λ_=>⟨h,H,f,d F,λk=>absurd k K⟩⟩
    simp_all
   ·rw[Ue (λq=>f ((YS _).1 q).2),Ue (λq=>f ((YS _).1 q))]
    grind
  ·rw[Ue (λq=>H ((YS _).1 q).1),Ue (λq=>H ((YS _).1 q))]
   grind
theorem Zs4:∀(l:List Z6) (m:Nat),(cat Zcd m l).length=l.length
 |[],_=>rfl
 |x::r,m=>by simp only[cat,Ug,Zcd,Uo,Zs4 r,Um];omega
variable {i:Nat} {x:Zd}
theorem ZsD (g:p∈YW i x):p.1=(i:Int):=by
 unfold YW at g;obtain⟨j,n,b,f⟩:=XQ.1 g;grind
theorem ZCy (i:Nat) (x:Zd):(YW i x).length=(Gc x).length:=by
 have:∀(l:List Int) (m:Nat) (c:Int),(cat (λj n=>[((i:Int),(j:Int),n,decide ((j:Int)=c),())]) m l).length=l.length:=by
  intro l;induction l with
  |nil=>intro m c;rfl
  |cons y r h=>intro m c;simp only[cat,Ug,Uo,h,Um];omega
 unfold YW;exact this _ _ _
variable {k:Nat}
theorem Zcc (g:(Zg d)[k]?=some p):(p.1<0<->(Zg d).length<=k+(Ge d).length)/\-1<=p.1:=by
 have c:(Zg d).length=(cat YW 0 (K3 d)).length+(Ge d).length:=by unfold Zg;rw[Ug,Zs4]
 by_cases a:k<(cat YW 0 (K3 d)).length
 ·have h:p∈cat YW 0 (K3 d):=by
   unfold Zg at g;grind
  obtain⟨i,z,l,T⟩:=XQ.1 h;have:=ZsD T;omega
 ·have h:p∈cat Zcd 0 (Ge d):=by
   unfold Zg at g;grind
  obtain⟨j,q,H,b⟩:=XQ.1 h;simp only[Zcd,Ux]at b;grind
theorem Zn0 (n:0<(K3 d).length) (l:(K3 d)[(K3 d).length-1]?=some x) (H:(Zg d)[k]?=some p) (m:0<=p.1:=by omega) :
  p.1=((K3 d).length:Int)-1<->(Zg d).length<=k+(Ge d).length+(Gc x).length:=by
 have f:(Zg d).length=(cat YW 0 (K3 d)).length+(Ge d).length:=by unfold Zg;rw[Ug,Zs4]
 have q:cat YW 0 (K3 d)=cat YW 0 ((K3 d).take ((K3 d).length-1))++YW ((K3 d).length-1) x:=by
  rw[<-Zdk l,show(K3 d).length-1+1=(K3 d).length by omega,Uq]
 have g:=UN List.length q;rw[Ug,ZCy]at g;have b:k<(cat YW 0 (K3 d)).length:=by
  have:=(Zcc H).1;omega
 have h:(cat YW 0 (K3 d))[k]?=some p:=by
  unfold Zg at H;grind
 rw[q]at h;by_cases c:k<(cat YW 0 ((K3 d).take ((K3 d).length-1))).length
 ·rw[Ut c]at h
  obtain⟨i,z,a,T⟩:=XQ.1 (Ud h);have e:=ZsD T;grind
 ·rw[UE (by omega)]at h
  have e:=ZsD (Ud h);omega
noncomputable def Zdt (b:Za) (e:Zh) (k:Nat) (p:Pl):Int :=
 if K7 e=2/\p.1<0 then(k:Int)+2
 else if K7 e=3/\p.1<0 then(k:Int)-2
 else if K7 e=3/\p.1=((K3 (K2 b)).length:Int)-1 then -1
 else(k:Int)
theorem Zrq (f:K7 e=2) (Q:p.1<0):Zdt b e k p=(k:Int)+2:=by unfold Zdt;grind
theorem Zrr (R:K7 e=3) (Q:p.1<0):Zdt b e k p=(k:Int)-2:=by unfold Zdt;grind
theorem ZyQ (R:K7 e=3) (Q:¬p.1<0) (q:p.1=((K3 (K2 b)).length:Int)-1):Zdt b e k p=-1:=by unfold Zdt;grind
theorem Zrs (R:K7 e=3) (Q:¬p.1<0:=by omega) (q:¬p.1=((K3 (K2 b)).length:Int)-1:=by omega):Zdt b e k p=(k:Int):=by unfold Zdt;grind
theorem Zjd (R:¬K7 e=3) (Q:¬(K7 e=2/\p.1<0)):Zdt b e k p=(k:Int):=by unfold Zdt;grind
noncomputable def after (b:Za) (e:Zh):List Int:=cat (λk p=>[Zdt b e k p]) 0 (Zg (K2 b))
theorem Zsd {α β:Type} {g:Nat->α->β}:∀(l:List α) (m:Nat),(cat (λj n=>[g j n]) m l).length=l.length
 |[],_=>rfl
 |x::r,m=>by simp only[cat,Ug,Uo,Zsd r,Um];omega
theorem Zid (h:Ve b e):JH e b=some (after b e):=by
 have d:=h.blk.ok.1;have H:=d.few;have m:=ZQ H;have y:=H.insts;unfold JH;rw[show Q6 (K3 (K2 b))=some ((K3 (K2 b)).length:Int)from rfl,ZM _ H,Bq,Bq];have:=Qp (l:=Zg (K2 b)) (ρ:=List Int) (λk p=>[Zdt b e k p]) [] (step:=λv=>VD e ((K3 (K2 b)).length:Int) (Zg (K2 b)) v.1 v.2.1) (good:=after b e)
  (λk p c r=>by
   have j:=Zsd (g:=Zdt b e) ((Zg (K2 b)).take k) 0;rw[Uk]at j;have o:=Zcc c;have i:∀n:Int,(([]++cat (λk p=>[Zdt b e k p]) 0 ((Zg (K2 b)).take k)).length+[n].length)*8<=140737488355328:=λn=>by
    grind
   simp only[VD,show(k:Int)<((Zg (K2 b)).length:Int)from by omega,Ui,Zp,c,Bq,Zk (i _),Y3 (show k<=1048576 by omega),YI (show(-9223372036854775808:Int)<=(k:Int)+2 by omega),YI (show(-9223372036854775808:Int)<=(k:Int)-2 by omega),YI (show(-9223372036854775808:Int)<=((K3 (K2 b)).length:Int)-1 by omega),Gt];by_cases f:K7 e=2
   ·have R:¬K7 e=3:=by omega
    by_cases Q:p.1<0
    ·rw[Zrq f Q,Uc f,Uc Q]
    ·rw[Zjd R (λq=>Q q.2),Uc f,Ue Q,Ue R,Ue R]
   ·rw[Ue f]
    by_cases R:K7 e=3
    ·by_cases Q:p.1<0
     ·rw[Zrr R Q,Uc R,Uc Q]
     ·by_cases a:p.1=((K3 (K2 b)).length:Int)-1
      ·rw[ZyQ R Q a,Uc R,Ue Q,Uc R,Uc a]
      ·rw[Zrs R Q a,Uc R,Ue Q,Uc R,Ue a]
    ·rw[Zjd R (λq=>f q.1),Ue R,Ue R])
  (by simp only[VD,Uf,Uh];rfl)
 exact this
theorem ZyS (b:Za) (e:Zh):(after b e).length=(Zg (K2 b)).length:=Zsd _ _
abbrev Key:Ty:=.pair (.int .i64) (.pair (.int .i64) .unit)
theorem ZsI (x y:Key.den):keq Key x y=true<->x=y:=by
 obtain⟨a,b,⟨⟩⟩:=x;obtain⟨c,d,⟨⟩⟩:=y;simp[keq]
theorem Zqb {k v:Ty} (H:∀x y:k.den,keq k x y=true<->x=y) (x z:k.den) (y:v.den):∀(d:List (k.den×v.den)),Zkx k v (ZoA k v d x y) z=if keq k z x=true then some y else Zkx k v d z
 |[]=>by simp only[ZoA,Zkx]
 |e::l=>by
  by_cases h:keq k x e.1=true
  ·simp only[ZoA,Uc h,Zkx]
   grind
  ·simp only[ZoA,Ue h,Zkx]
   by_cases g:keq k z e.1=true
   ·grind
   ·simp only[Ue g,Zqb H x z y l]
variable {v:Ty} (d:List (Key.den×v.den))
theorem Zqc (x:Key.den) (y:v.den):Zkx Key v (ZoA Key v d x y) x=some y:=by
 rw[Zqb ZsI,Uc ((ZsI _ _).2 rfl)]
variable (y:v.den)
theorem ZnU {x z:Key.den} (h:z≠x):Zkx Key v (ZoA Key v d x y) z=Zkx Key v d z:=by
 rw[Zqb ZsI,Ue (λq=>h ((ZsI _ _).1 q))]
abbrev ZlW:=List (Key.den×(Ty.int .i64).den)
def ZwR (p:Pl):Key.den:=(p.1,p.2.1,())
def Maps (nodes:ZlW) (pl:List Pl) (nd:Nat->Int):Prop:=∀(k:Nat) (p:Pl),pl[k]?=some p->p.2.2.2.1=false->Zkx Key (.int .i64) nodes (ZwR p)=some (nd k)
variable {d:Zb} {K:Nat}
theorem ZwS {Z:Pl} (g:(Zg d)[k]?=some p) (C:(Zg d)[K]?=some Z) (h:ZwR p=ZwR Z):k=K:=by
 unfold ZwR at h;injection h with H f
 injection f with f _
 exact key_inj g C H f
variable {nodes:ZlW} {nd:Nat->Int} {p0:Pl}
theorem Maps.put (h:Maps nodes (Zg d) nd) (H:(Zg d)[K]?=some p0) (v:Int):Maps (ZoA Key (.int .i64) nodes (ZwR p0) v) (Zg d) (λk=>if k=K then v else nd k):=by
 intro k p g N;by_cases e:k=K
 ·subst e
  rw[H]at g;injection g with g
  subst g;simp only[Ui];exact Zqc _ _ _
 ·simp only[Ue e]
  rw[ZnU _ _ (λq=>e (ZwS g H q))];exact h k p g N
variable {pl:List Pl}
theorem Maps.set (h:Maps nodes pl nd) (H:pl[K]?=some p0) (n:Int):Maps nodes (pl.set K (p0.1,p0.2.1,n,p0.2.2.2.1,())) nd:=by
 intro k p g N;by_cases e:K=k
 ·subst e
  rw[UG (Ua.1 H).1]at g;injection g with g
  subst g;exact h K p0 H N
 ·rw[UF e]at g
  exact h k p g N
def Xw (d:Zb) (x:Zd) (s:List UInt8):Zb:=(K3 d++[x],K5 d++[s],Ge d,())
theorem ZhX (d:Zb) (x:Zd) (s:List UInt8):Zg (Xw d x s)=cat YW 0 (K3 d)++YW (K3 d).length x++cat Zcd 0 (Ge d):=by
 unfold Zg Xw;show cat YW 0 (K3 d++[x])++_=_;rw[Zc4,Us];simp only[cat,Un]
variable {s:List UInt8}
theorem ZlG (H:k<Z5 d:=by omega):(Zg (Xw d x s))[k]?=(Zg d)[k]?:=by
 rw[ZhX,Uj,Ut H];unfold Zg;rw[Ut H]
variable {j:Nat}
theorem add_mid (b:j<(Gc x).length:=by omega):(Zg (Xw d x s))[Z5 d+j]?=(YW (K3 d).length x)[j]?:=by
 rw[ZhX,Uj,UE (by unfold Z5;omega),show Z5 d+j-(cat YW 0 (K3 d)).length=j by unfold Z5;omega,Ut (by rw[Q9];exact b)]
theorem ZkA (H:Z5 d<=k:=by omega):(Zg (Xw d x s))[k+(Gc x).length]?=(Zg d)[k]?:=by
 have h:(cat YW 0 (K3 d)).length<=k:=H;rw[ZhX,UE (by rw[Ug,Q9];omega),Ug,Q9];unfold Zg;rw[UE h];congr 1;omega
def ZoV (nd:Nat->Int) (m:Nat) (v:Int) (k:Nat):Int:=if k<m then nd k else if k=m then v else if k=m+1 then 0 else nd (k-2)
theorem Maps.add (h:Maps nodes (Zg d) nd) (b:(Gc x).length=2) (l:(K3 d).length<=1048576) (v:Int) :
  Maps (ZoA Key (.int .i64) nodes (((K3 d).length:Int),0,()) v) (Zg (Xw d x s)) (ZoV nd (Z5 d) v):=by
 intro k p H N;have O:∀(c:Nat),(Zg d)[c]?=some p->Zkx Key (.int .i64) (ZoA Key (.int .i64) nodes (((K3 d).length:Int),0,()) v) (ZwR p)=Zkx Key (.int .i64) nodes (ZwR p):=by
  intro c C;refine ZnU _ _ (λq=>?_);unfold ZwR at q;injection q with Q _
  rcases QN C with⟨i,j,y,n,e,_,_,rfl⟩|⟨j,m,_,_,rfl⟩
  ·have:=(Ua.1 e).1
   simp only[ZcI]at Q;omega
  ·simp only at Q
   omega
 unfold ZoV;by_cases K:k<Z5 d
 ·rw[Uc K]
  rw[ZlG K]at H;rw[O k H];exact h k p H N
 ·rw[Ue K]
  by_cases f:k=Z5 d
  ·rw[Uc f]
   have g:=add_mid (d:=d) (x:=x) (s:=s) (j:=0);rw[U7,<-f,H]at g;have a:(Gc x)[0]?=some (Gc x)[0]:=Ub (by omega);rw[Zda a]at g;injection g with g
   rw[g];exact Zqc _ _ _
  ·rw[Ue f]
   by_cases R:k=Z5 d+1
   ·-- it drives
    exfalso;have g:=add_mid (d:=d) (x:=x) (s:=s) (j:=1);rw[<-R,H]at g;have a:(Gc x)[1]?=some (Gc x)[1]:=Ub (by omega);rw[Zda a]at g;injection g with g
    rw[g]at N;simp only[ZcI,b,Kr]at N;exact N (by rw[QR];rfl)
   ·rw[Ue R]
    have g:=ZkA (d:=d) (x:=x) (s:=s) (k:=k-2);rw[b,show k-2+2=k by omega,H]at g;rw[O (k-2) g.symm];exact h (k-2) p g.symm N
def YK (d:Zb):Zb:=((K3 d).take ((K3 d).length-1),(K5 d).take ((K5 d).length-1),Ge d,())
theorem Zpy (f:0<(K3 d).length) (l:(K3 d)[(K3 d).length-1]?=some x):K3 d=K3 (YK d)++[x]:=by
 show K3 d=(K3 d).take ((K3 d).length-1)++[x];rw[<-Xf l,show(K3 d).length-1+1=(K3 d).length by omega,Uq]
theorem ZhY (f:0<(K3 d).length) (l:(K3 d)[(K3 d).length-1]?=some x):Zg d=Zg (Xw (YK d) x s):=by
 unfold Zg;show cat YW 0 (K3 d)++cat Zcd 0 (Ge d)=cat YW 0 (K3 (YK d)++[x])++cat Zcd 0 (Ge d);rw[<-Zpy f l]
def Zqe (nd:Nat->Int) (m:Nat) (k:Nat):Int:=if k<m then nd k else nd (k+2)
theorem Maps.cut (h:Maps nodes (Zg d) nd) (n:0<(K3 d).length) (l:(K3 d)[(K3 d).length-1]?=some x) (f:(Gc x).length=2) :
  Maps nodes (Zg (YK d)) (Zqe nd (Z5 (YK d))):=by
 rw[ZhY (s:=[]) n l]at h;intro k p H N;unfold Zqe;by_cases K:k<Z5 (YK d)
 ·rw[Uc K]
  exact h k p (by rw[ZlG K];exact H) N
 ·rw[Ue K]
  have g:=ZkA (d:=YK d) (x:=x) (s:=[]) (k:=k);rw[f,H]at g;exact h (k+2) p g N
def Zcb (pl:List Pl) (f:Nat->Int):Nat->ZlW
 |0=>[]
 |k+1=>match pl[k]? with
  |some p=>if p.2.2.2.1=true then Zcb pl f k else ZoA Key (.int .i64) (Zcb pl f k) (ZwR p) (f k)
  |none=>Zcb pl f k
variable {f:Nat->Int}
theorem ZoB (g:pl[k]?=some p) (h:p.2.2.2.1=true):Zcb pl f (k+1)=Zcb pl f k:=by
 simp only[Zcb,g,h,Ui]
theorem Zqh (g:pl[k]?=some p) (h:¬p.2.2.2.1=true):Zcb pl f (k+1)=ZoA Key (.int .i64) (Zcb pl f k) (ZwR p) (f k):=by
 simp only[Zcb,g,h,Uh];rfl
theorem ZkV (d:Zb) (f:Nat->Int):∀(k:Nat),k<=(Zg d).length->∀(j:Nat) (p:Pl),j<k->(Zg d)[j]?=some p->p.2.2.2.1=false->Zkx Key (.int .i64) (Zcb (Zg d) f k) (ZwR p)=some (f j)
 |0,_,j,p,a,_,_=>by omega
 |k+1,c,j,p,a,g,N=>by
  have b:(Zg d)[k]?=some (Zg d)[k]:=Ub (by omega);generalize (Zg d)[k]=q at b;by_cases H:q.2.2.2.1=true
  ·rw[ZoB b H]
   refine ZkV d f k (by omega) j p ?_ g N;grind
  ·rw[Zqh b H]
   by_cases e:j=k
   ·subst e
    rw[g]at b;injection b with b
    subst b;exact Zqc _ _ _
   ·rw[ZnU _ _ (λh=>e (ZwS g b h))]
    exact ZkV d f k (by omega) j p (by omega) g N
theorem Zjk (d:Zb) (f:Nat->Int):Maps (Zcb (Zg d) f (Zg d).length) (Zg d) f:=λk p g N=>ZkV d f _ (UO _) k p (Ua.1 g).1 g N
def Zqf (l:List Int) (k:Nat):Int:=(l[k]?).getD 0
variable {l:List Int} {v:Int}
theorem ZsR (h:i<l.length) (k:Nat):Zqf (l.set i v) k=if k=i then v else Zqf l k:=by
 unfold Zqf;grind
variable {m:Nat}
theorem ZCW (h:m<=l.length) (v:Int) (k:Nat):Zqf (l.take m++[v,0]++l.drop m) k=ZoV (Zqf l) m v k:=by
 unfold Zqf ZoV;have q:(l.take m).length=m:=by grind
 by_cases d:k<m
 ·grind
 ·rw[Ue d]
  by_cases f:k=m
  ·grind
  ·rw[Ue f]
   by_cases R:k=m+1
   ·grind
   ·rw[Ue R,UE (by grind),Ug,q,Um,Uz,Ky]
    congr 2;omega
theorem ZCV (R:m+2<=l.length) (k:Nat):Zqf (l.take m++l.drop (m+2)) k=Zqe (Zqf l) m k:=by
 unfold Zqf Zqe;grind
variable {a:Int}
theorem Zsk {b:Int} (H:a<((K3 d).length:Int)):Xl (Xw d x s) a b n=Xw (Xl d a b n) x s:=by
 unfold Xl;by_cases h:a<0
 ·rw[Uc h,Uc h];rfl
 ·rw[Ue h,Ue h]
  have t:a.toNat<(K3 d).length:=by omega
  have i:=Ub t;generalize (K3 d)[a.toNat]=y at i;have e:(K3 (Xw d x s))[a.toNat]?=some y:=by
   show(K3 d++[x])[a.toNat]?=some y;rw[Ut t];exact i
  rw[e,i];have E:List.set (K3 (Xw d x s)) a.toNat (ZcZ y b.toNat n)=(K3 d).set a.toNat (ZcZ y b.toNat n)++[x]:=by
   show List.set (K3 d++[x]) a.toNat _=_;rw[List.set_append,Uc t]
  show(List.set (K3 (Xw d x s)) a.toNat (ZcZ y b.toNat n),_)=_;rw[E];rfl
theorem YG {b:Int}:(K3 (Xl d a b n)).length=(K3 d).length:=by
 unfold Xl;split
 ·rfl
 ·show(match (K3 d)[a.toNat]? with|some x=>(K3 d).set a.toNat (ZcZ x b.toNat n)|none=>K3 d).length=_
  split
  ·rw[UH]
  ·rfl
theorem X0 {b:Int}:K5 (Xl d a b n)=K5 d:=by
 unfold Xl;split<;>rfl
theorem Zfp {b:Int}:(Ge (Xl d a b n)).length=(Ge d).length:=by
 unfold Xl;split
 ·show(match (Ge d)[b.toNat]? with|some x=>(Ge d).set b.toNat (setPort x n)|none=>Ge d).length=_
  split
  ·rw[UH]
  ·rfl
 ·rfl
theorem Zdy {b:Int} {y:Zd} (H:(K3 (Xl d a b n))[i]?=some y):∃x,(K3 d)[i]?=some x/\Gq y=Gq x/\Gr y=Gr x/\(Gc y).length=(Gc x).length/\((i:Int)≠a->y=x)/\∀m∈Gc y,m∈Gc x\/m=n:=by
 unfold Xl at H;split at H
 ·exact⟨y,H,rfl,rfl,rfl,λ_=>rfl,λm R=>.inl R⟩
 ·rename_i h
  have H:(match (K3 d)[a.toNat]? with|some x=>(K3 d).set a.toNat (ZcZ x b.toNat n)|none=>K3 d)[i]?=some y:=H
  split at H
  ·rename_i x l
   rw[UR]at H;split at H
   ·rename_i e
    split at H
    ·injection H with H
     subst H;refine⟨x,by rw[<-e];exact l,rfl,rfl,UH,λq=>absurd (by omega) q,λm R=>?_⟩;rcases U5 R with R|R
     ·exact .inl R
     ·exact .inr R
    ·cases H
   ·exact⟨y,H,rfl,rfl,rfl,λ_=>rfl,λm R=>.inl R⟩
  ·exact⟨y,H,rfl,rfl,rfl,λ_=>rfl,λm R=>.inl R⟩
theorem Few.Xl (h:Few d) (a b n:Int):Few (Xl d a b n):=by
 refine⟨by rw[YG];exact h.insts,by rw[Zfp];exact h.ports,λy c=>?_⟩;obtain⟨i,l⟩:=U4 c;obtain⟨x,H,_,_,q,_⟩:=Zdy l;rw[q];exact h.nets x (Ud H)
theorem Few.add (h:Few d) (H:(K3 d).length<=13) (l:(Gc x).length<=5) (s:List UInt8):Few (Xw d x s):=by
 refine⟨?_,h.ports,λy i=>?_⟩
 ·show(K3 d++[x]).length<=14
  rw[Ug,Uz];omega
 ·rcases Uu.1 (show y∈K3 d++[x]from i)with i|i
  ·exact h.nets y i
  ·rw[Ux]at i
   subst i;exact l
theorem Few.cut (h:Few d):Few (YK d):=by
 refine⟨?_,h.ports,λy i=>h.nets y (KJ (show y∈(K3 d).take _ from i))⟩;show((K3 d).take _).length<=14;rw[Uk];have:=h.insts;omega
def ZlB (pl:List Pl) (n:Nat):Prop:=∀p∈pl,p.2.2.2.1=false->0<=p.2.2.1/\p.2.2.1<(n:Int)
variable {m:Int}
theorem ZlB.set {n:Nat} (h:ZlB pl n) (H:0<=m) (d:m<(n:Int)):ZlB (pl.set K (p0.1,p0.2.1,m,p0.2.2.2.1,())) n:=by
 intro p g N;rcases U5 g with g|g
 ·exact h p g N
 ·subst g;exact⟨H,d⟩
def ZdT (b:Za) (i:Int) (c:Int):Za:=(K6 b,(match (K3 (K2 b))[i.toNat]? with
 |some x=>(K3 (K2 b)).set i.toNat (Gq x,c,Gc x,())
 | none=>K3 (K2 b),K5 (K2 b),Ge (K2 b),()),K4 b,())
def mvD (b:Za) (p:Pl) (n:Int):Zb:=Xl (K2 b) p.1 p.2.1 n
def mvN (b:Za) (k:Nat) (v:Int) (j:Nat):Int:=if j=k then v else YF b j
def moved (b:Za) (k:Nat) (p:Pl) (n v:Int):Za:=(K6 b,mvD b p n,JM (Zg (mvD b p n)) (K4 b) (mvN b k v),())
abbrev ZqW:Zq:=([-1],[0],[0],[],())
def Zgs (b:Za) (e:Zh) (p:Pl):Zd:=(Gg e,Gy e,[p.2.2.1,((K5 (K2 b)).length:Int)],())
def Zg7 (b:Za) (e:Zh) (p:Pl):Zb:=Xw (Xl (K2 b) p.1 p.2.1 ((K5 (K2 b)).length:Int)) (Zgs b e p) (Gg e)
def ZjG (b:Za) (k:Nat):Nat:=if k<Z5 (K2 b)then k else k+2
def ZtC (b:Za) (k:Nat) (j:Nat):Int:=if j=ZjG b k then 0 else ZoV (YF b) (Z5 (K2 b)) (YF b k) j
def X6 (b:Za) (e:Zh) (k:Nat) (p:Pl):Za:=(K6 b,Zg7 b e p,JM (Zg (Zg7 b e p)) (K4 b++[ZqW]) (ZtC b k),())
def unD (b:Za) (p:Pl) (m:Int):Zb:=YK (Xl (K2 b) p.1 p.2.1 m)
def unN (b:Za) (k:Nat):Nat->Int:=Zqe (mvN b k (YF b (Z5 (K2 b)-2))) (Z5 (K2 b)-2)
def YO (b:Za) (k:Nat) (p:Pl) (m:Int):Za:=(K6 b,unD b p m,JM (Zg (unD b p m)) ((K4 b).take ((K4 b).length-1)) (unN b k),())
def ZxB (b:Za) (n:Int) (w:Zq):Za:=(K6 b,K2 b,(K4 b).set n.toNat w,())
variable {α:Type}
theorem JX {l:List α} {x:α} (h:l[k]?=some x):l.set k x=l:=by
 apply Uy;grind
theorem Zc5 (l:List Int) (h:l.length<=1048576:=by omega):ZN l=some l:=by
 unfold ZN;rw[Zk (by grind)];rfl
theorem ZfW (l:List Int) (h:l.length<=1048576:=by omega):Xc l=some l:=by
 unfold Xc;rw[Zk (by grind)];rfl
theorem Zdp (w:Zq) (c:sm ZbR w):Zb8 w=some w:=by
 obtain⟨a,A,j,k⟩:=Zk1 c;unfold Zb8;rw[Zc5 _ (Zv a),Bq,Zc5 _ (Zv A),Bq,Zc5 _ (Zv j),Bq,Zc5 _ (Zv k),Bq]
theorem Zk5 (w:Zq) (c:sm ZbR w):ZdP w=some w:=by
 obtain⟨a,A,j,k⟩:=Zk1 c;unfold ZdP;rw[ZfW _ (Zv a),Bq,ZfW _ (Zv A),Bq,ZfW _ (Zv j),Bq,ZfW _ (Zv k),Bq]
theorem Zlw (d:Zb) (N:sm YN d):ZaA d=some d:=by
 obtain⟨s,S,t⟩:=Zbw N;have L:=Zv s;have j:=Zv S;have a:=Zv t;unfold ZaA Qk ZaO VO;rw[Zk (by grind),Bq,Zk (by grind),Bq,Zk (by grind),Bq];simp only[Uw];refine Yv (l:=K3 d) (λk=>((k:Int),(K3 d,(k:Int)),())) (λk x h H=>?_) ?_
 ·have J:=Zc5 (Gc x) (Zv (Zjt (JJ s h)).2)
  simp only[VA,show(k:Int)<((K3 d).length:Int) by omega,Ui,Zp,h,Bq,U6,J,Zk trivial,Y3 (show k<=1048576 by omega),Up];rw[show List.set (K3 d) k (Gq x,Gr x,Gc x,())=K3 d from JX h];rfl
 ·simp only[VA,Uf,Uh,Zk trivial]
theorem Zia (l:List ZE) (H:sm (.sl Zaw) l):ZcV l=some l:=by
 have d:=Zv H;unfold ZcV;have:=Yv (l:=l) (λk=>(l.take k,(k:Int),())) (step:=λv=>ZaZ l v.1 v.2.1) (good:=l) (λk x h b=>by
  have q:sm Zaw x:=JJ H h;have E:=Zc5 (GS x) (Zv (t:=.int .i64) q.1);have i:=Zc5 (GA x) (Zv (t:=.int .i64) q.2.1);have e:=Zc5 (Gz x) (Zv (t:=.int .i64) q.2.2.1);have a:((l.take k).length+[(GS x,GA x,Gz x,())].length)*72<=140737488355328:=by grind
  simp only[ZaZ,show(k:Int)<(l.length:Int) by omega,Ui,Zp,h,Bq,E,i,e,Zk a,Y3 (show k<=1048576 by omega)];rw[Xf h]) (by
  simp only[ZaZ,Uf,Uh,Uq])
 simpa using this
theorem Zly (a:Zu) (n:sm X9 a):ZaD a=some a:=by
 have c:=ZoZ n;have d:=Zv c;unfold ZaD;have:=Yv (l:=Gd a) (λk=>((k:Int),(Gd a).take k,())) (step:=λv=>Qz a v.1 v.2.1) (good:=a) (λk x h e=>by
  have q:sm Zcq x:=JJ c h;have p1:sm (.sl Znm) (Gb x):=q.2.2.1;have p:sm (.sl Zof) (Gp x):=q.2.2.2.1;have P:sm (.sl (.int .i64)) (GD x):=q.2.2.2.2.1;have f:=Zv p1;have m:=Zv p;have L:=Zv P;simp only[Qz,show(k:Int)<((Gd a).length:Int) by omega,Ui,Zp,h,Bq];unfold Jq Jp;rw[Zk (by grind),Bq,Zc5 _ L,Bq,Zk (by grind),Bq];simp only[Uw];have g:∀y:Zo,(((Gd a).take k).length+[y].length)*112<=140737488355328:=λy=>by grind
  refine Yv (l:=Gp x) (λj=>((j:Int),(Gp x,(j:Int)),())) (λj y i H=>?_) ?_
  ·obtain⟨Q,b⟩:=ZDi (JJ p i)
   simp only[VF,show(j:Int)<((Gp x).length:Int) by omega,Ui,Zp,i,Bq,U6,Zia _ Q,Zia _ b,Zk trivial,Y3 (show j<=1048576 by omega),Up];rw[show List.set (Gp x) j (Gf y,Gs y,Gw y,GH y,GJ y,GQ y,())=Gp x from JX i];rfl
  ·simp only[VF,Uf,Uh,Zk trivial,Zk (g _),Y3 (show k<=1048576 by omega)]
   rw[Xf h]) (by
  simp only[Qz,Uf,Uh,Uq])
 simpa using this
theorem Vf (b:Za) (H:sm Ya b):ZcS b=some b:=by
 obtain ⟨U,W,X⟩:=Vi H;have d:=Zv X;unfold ZcS;rw[Zly _ U,Bq,Zlw _ W,Bq];have:=Yv (l:=K4 b) (λk=>((k:Int),(K4 b).take k,())) (step:=λv=>ZaW b (K6 b) (K2 b) v.1 v.2.1) (good:=b) (λk x h c=>by
  have a:(((K4 b).take k).length+[x].length)*96<=140737488355328:=by grind
  simp only[ZaW,show(k:Int)<((K4 b).length:Int) by omega,Ui,Zp,h,Bq,Zdp x (JJ X h),Zk a,Y3 (show k<=1048576 by omega)];rw[Xf h]) (by
  simp only[ZaW,Uf,Uh,Uq])
 simpa using this
theorem ZEZ (g:pl[k]?=some p) (f:p.2.2.2.1=false):nth pl p.2.2.1 (k+1)=nth pl p.2.2.1 k+1:=by
 unfold nth;rw[Zdk g,Zjs rfl f,Ug,Uz]
variable {net:Int}
theorem ZDW (g:pl[k]?=some p) (h:¬(p.2.2.1=net/\p.2.2.2.1=false)):nth pl net (k+1)=nth pl net k:=by
 unfold nth;rw[Zdk g,Zjr h,Un]
def seen (pl:List Pl) (n k:Nat):List Int:=(List.range n).map (λ(v:Nat)=>((nth pl (v:Int) k:Nat):Int))
theorem Zpj {n v:Nat} (a:v<n):(seen pl n k)[v]?=some ((nth pl (v:Int) k:Nat):Int):=by
 unfold seen;grind
theorem ZA5 (pl:List Pl) (n:Nat):List.replicate n (0:Int)=seen pl n 0:=by
 apply Uy;intro v;by_cases a:v<n
 ·rw[Zpj a,Kb,Uc a]
  unfold nth;simp[cat]
 ·rw[UA (by simp;omega),UA (by unfold seen;simp;omega)]
theorem ZDf {n:Nat} (g:pl[k]?=some p) (f:p.2.2.2.1=false) (m:0<=p.2.2.1) (d:p.2.2.1<(n:Int)):(seen pl n k).set p.2.2.1.toNat (((nth pl p.2.2.1 k+1:Nat):Int))=seen pl n (k+1):=by
 apply Uy;intro v;by_cases a:v<n
 ·rw[UR,Zpj a,Zpj a]
  split
  ·rename_i e
   rw[Uc (by unfold seen;simp;omega)];subst e;rw[show(p.2.2.1.toNat:Int)=p.2.2.1 by omega,ZEZ g f]
  ·rename_i e
   rw[ZDW g (λq=>e (by have:=q.1;omega))]
 ·rw[UA (by unfold seen;simp;omega),UA (by unfold seen;simp;omega)]
theorem ZFa {n:Nat} (g:pl[k]?=some p) (f:p.2.2.2.1=true):seen pl n (k+1)=seen pl n k:=by
 unfold seen;apply Kj;intro v _;rw[ZDW g (λq=>by grind)]
theorem ZsU (h:Z7 b) (g:(Zg (K2 b))[k]?=some p) (f:p.2.2.2.1=false) :
  ∃w,atI (K4 b) p.2.2.1=some w/\(K4 b)[p.2.2.1.toNat]?=some w/\atI (Gu w) (nth (Zg (K2 b)) p.2.2.1 k:Int)=some (YF b k)/\Zcs w ((Xx (K2 b) p.2.2.1).length:Int):=by
 have n:=XP h.ok.1 (Ud g);obtain⟨w,F,H,y⟩:=Zhs h n;have t:=ZAD g rfl f;have q:=y.2.2.2.1;have c:nth (Zg (K2 b)) p.2.2.1 k<(Gu w).length:=by
  have:(Xx (K2 b) p.2.2.1).length=(cat (Qu p.2.2.1) 0 (Zg (K2 b))).length:=rfl;omega
 refine⟨w,H,F,?_,y⟩;rw[Zp];have e:YF b k=((Gu w)[nth (Zg (K2 b)) p.2.2.1 k]?).getD 0:=by
  unfold YF;grind
 grind
theorem ZdG (h:Z7 b):Vz b=some (Zcb (Zg (K2 b)) (YF b) (Zg (K2 b)).length):=by
 have H:=h.ok.1.few;have a:=ZQ H;have r:=h.ok.1.2.1.2.1;have Z:=h.ok.2.1;have d:(K4 b).length<=1048576:=Zv (Vi h.sm).2.2;unfold Vz;rw[Ra,Ra,Ra,Ra,ZM _ H,Bq,Up,ZA5 (Zg (K2 b))];refine Yv (l:=Zg (K2 b)) (λk=>((k:Int),Zcb (Zg (K2 b)) (YF b) k,seen (Zg (K2 b)) (K4 b).length k,())) (λk p g j=>?_) ?_
 ·simp only[Zb1,show(k:Int)<((Zg (K2 b)).length:Int) by omega,Ui,Zp,g,Bq,Y3 (show k<=1048576 by omega)]
  have E:GW p=p.2.2.2.1:=rfl;have i:ZL.net p=p.2.2.1:=rfl;by_cases f:p.2.2.2.1=true
  ·rw[E,Uc f,ZoB g f,ZFa g f]
  ·have I:p.2.2.2.1=false:=by simpa using f
   obtain⟨w,F,e,y,c⟩:=ZsU h g I;have n:=XP h.ok.1 (Ud g);have v:p.2.2.1<((K4 b).length:Int):=by have:=n.2;omega
   have q:atI (seen (Zg (K2 b)) (K4 b).length k) p.2.2.1=some (nth (Zg (K2 b)) p.2.2.1 k:Int):=by
    refine Yr n.1 ?_;rw[Zpj (by have:=n.1;omega),show(p.2.2.1.toNat:Int)=p.2.2.1 by have:=n.1;omega]
   have t:=ZAD g rfl I;have m:=ZaN p.2.2.1 (Zg (K2 b)) 0;rw[E,Ue f,i,F,Bq,q,Bq,y,Bq,Y3 (show nth (Zg (K2 b)) p.2.2.1 k<=1048576 by omega),ZDf g I n.1 v,Zqh g f];rfl
 ·simp only[Zb1,Uf,Uh]
theorem Zxs {pl:List Pl} {net:Int}:∀(n:Nat),n<=pl.length->∀(i:Nat) (x:Int),(cat (Qu net) 0 (pl.take n))[i]?=some x->
  ∃(k:Nat) (p:Pl),k<n/\pl[k]?=some p/\x=(k:Int)/\p.2.2.1=net/\p.2.2.2.1=false/\nth pl net k=i
 |0,_,i,x,h=>by simp[cat]at h
 |n+1,f,i,x,h=>by
  have g:pl[n]?=some pl[n]:=Ub (by omega);generalize pl[n]=p at g;rw[Zdk g]at h;by_cases l:i<(cat (Qu net) 0 (pl.take n)).length
  ·rw[Ut l]at h
   obtain⟨k,q,a,r⟩:=Zxs n (by omega) i x h;exact⟨k,q,by omega,r⟩
  ·rw[UE (by omega)]at h
   by_cases s:p.2.2.1=net/\p.2.2.2.1=false
   ·rw[Zjs s.1 s.2]at h
    have m:=(Ua.1 h).1;rw[Uz]at m;rw[show i-(cat (Qu net) 0 (pl.take n)).length=0 by omega]at h;injection h with h
    exact⟨n,p,by omega,g,h.symm,s.1,s.2,by unfold nth;omega⟩
   ·rw[Zjr s]at h
    cases h
theorem Znd {x:Int} (h:(cat (Qu net) 0 pl)[i]?=some x) :
  ∃(k:Nat) (p:Pl),pl[k]?=some p/\x=(k:Int)/\p.2.2.1=net/\p.2.2.2.1=false/\nth pl net k=i:=by
 obtain⟨k,p,_,r⟩:=Zxs (pl:=pl) (net:=net) pl.length (UO _) i x (by rw[Uq];exact h);exact⟨k,p,r⟩
def filled (b:Za) (P:Nat->Pl->Bool):List Int:=cat (λk p=>[if P k p=true then YF b k else 0]) 0 (Zg (K2 b))
theorem ZdZ (b:Za) (P:Nat->Pl->Bool) (k:Nat):(filled b P)[k]?=((Zg (K2 b))[k]?).map (λp=>if P k p=true then YF b k else 0):=by
 unfold filled;rw[Zcx,Us]
theorem ZnE (b:Za) (P:Nat->Pl->Bool):(filled b P).length=(Zg (K2 b)).length:=ZbL _ _
theorem Zot {P Q:Nat->Pl->Bool} (h:∀(k:Nat) (p:Pl),(Zg (K2 b))[k]?=some p->P k p=Q k p):filled b P=filled b Q:=by
 apply Uy;intro k;rw[ZdZ,ZdZ];cases g:(Zg (K2 b))[k]? with
 |none=>rfl
 |some p=>simp only[UV,h k p g]
def ZC3 (v:Nat) (k:Nat) (p:Pl):Bool:=decide (p.2.2.1<(v:Int))&&!p.2.2.2.1
def pIn (b:Za) (v i:Nat) (k:Nat) (p:Pl):Bool:=!p.2.2.2.1&&(decide (p.2.2.1<(v:Int))||(decide (p.2.2.1=(v:Int))&&decide (nth (Zg (K2 b)) (v:Int) k<i)))
def Zco (b:Za):List Int:=filled b (λ_ _=>true)
theorem ZkT (H:k<(Zg (K2 b)).length:=by omega):(Zco b)[k]?=some (YF b k):=by
 unfold Zco;rw[ZdZ,Ub H];rfl
theorem ZcY (b:Za):(Zco b).length=(Zg (K2 b)).length:=ZnE _ _
theorem Zhq (h:Z7 b):Zed b=some (Zco b):=by
 have o:=h.ok.1.few;have L:=ZQ o;have D:=h.ok.1.2.1.2.1;have Z:=h.ok.2.1;have O:(K4 b).length<=1048576:=Zv (Vi h.sm).2.2;have first:List.replicate (Zg (K2 b)).length (0:Int)=filled b (ZC3 0):=by
  apply Uy;intro k;rw[ZdZ,Kb];split
  ·rename_i s
   have g:=Ub s;rw[g];have n:=(XP h.ok.1 (Ud g)).1;rw[UV,Ue];unfold ZC3;simp only[Ur,Ul,not_and];intro q;omega
  ·rw[UA (by omega)];rfl
 have last:filled b (ZC3 (K4 b).length)=Zco b:=by
  apply Uy;intro k;unfold Zco;rw[ZdZ,ZdZ];cases g:(Zg (K2 b))[k]? with
  |none=>rfl
  |some p =>
   have n:=(XP h.ok.1 (Ud g)).2;simp only[UV,Ui];by_cases f:p.2.2.2.1=true
   ·have:YF b k=0:=by unfold YF;simp only[g,f,Ui]
    simp only[this,ite_self]
   ·rw[Uc]
    unfold ZC3;simp only[Ur,Ul,UT];exact⟨by omega,by simpa using f⟩
 unfold Zed;rw[ZP _ o,Bq,Ra,Ra,Ra,Ra,Up,first];refine Yv (l:=K4 b) (λv=>((v:Int),filled b (ZC3 v),())) (λv w R Q=>?_) ?_
 ·simp only[Zfe,show(v:Int)<((K4 b).length:Int) by omega,Ui,Xn _ _ o,Bq]
  have E:filled b (ZC3 v)=filled b (pIn b v 0):=Zot λk p _=>by unfold ZC3 pIn;simp[Bool.and_comm]
  have C:filled b (pIn b v (Xx (K2 b) (v:Int)).length)=filled b (ZC3 (v+1)):=Zot λk p g=>by
   unfold ZC3 pIn;by_cases f:p.2.2.2.1=true
   ·simp[f]
   ·have I:p.2.2.2.1=false:=by simpa using f
    rw[I,Bool.not_false,KU,Bool.and_true];by_cases a:p.2.2.1=(v:Int)
    ·have u:nth (Zg (K2 b)) (v:Int) k<(Xx (K2 b) (v:Int)).length:=ZAD g a I
     rw[UU u,UU a,UU (show p.2.2.1<((v+1:Nat):Int) by omega)];simp
    ·rw[decide_eq_false a,KX,Bool.or_false]
     exact Kz.2 (by omega)
  rw[E];refine Yv (l:=Xx (K2 b) (v:Int)) (λi=>((i:Int),filled b (pIn b v i),())) (λi x z P=>?_) ?_
  ·obtain⟨k,p,g,ex,n,f,H⟩:=Znd (pl:=Zg (K2 b)) z
   obtain⟨w',F,M,y,N⟩:=ZsU h g f;have s:=(Ua.1 g).1;have t:=ZaN (v:Int) (Zg (K2 b)) 0;have B:(Xx (K2 b) (v:Int)).length<=(Zg (K2 b)).length:=t;rw[n,H]at y;rw[n]at F;have r:(filled b (pIn b v i))[k]?=some ((filled b (pIn b v i))[k]'(by rw[ZnE];exact s)):=Ub _;simp only[Zfd,show(i:Int)<((Xx (K2 b) (v:Int)).length:Int) by omega,Ui,Zp,z,Bq,<-Zp (K4 b),F,<-Zp (Gu w'),y,Y3 (show i<=1048576 by omega)];subst ex;rw[Zp,r,Bq,Up];have:List.set (filled b (pIn b v i)) k (YF b k)=filled b (pIn b v (i+1)):=by
    apply Uy;intro j;rw[UR,ZnE];split
    ·rename_i e
     subst e;rw[ZdZ,g,UV,Uc];unfold pIn;rw[f,H];simp[n]
    ·rename_i e
     rw[ZdZ,ZdZ];cases a:(Zg (K2 b))[j]? with
     |none=>rfl
     |some q =>
      have:pIn b v i j q=pIn b v (i+1) j q:=by
       unfold pIn;by_cases A:q.2.2.2.1=true
       ·simp[A]
       ·have m:q.2.2.2.1=false:=by simpa using A
        by_cases c:q.2.2.1=(v:Int)
        ·have K:nth (Zg (K2 b)) (v:Int) j≠i:=by
          intro J;have d:=Zij a c m;rw[J]at d;have G:(cat (Qu (v:Int)) 0 (Zg (K2 b)))[i]?=some (k:Int):=z;rw[G]at d;injection d with d
          omega
         rw[show decide (nth (Zg (K2 b)) (v:Int) j<i)=decide (nth (Zg (K2 b)) (v:Int) j<i+1)from Kz.2 (by omega)]
        ·rw[decide_eq_false c,KX,KX]
      rw[UV,UV,this]
   rw[this]
  ·simp only[Zfd,Uf,Uh,Y3 (show v<=1048576 by omega),C]
 ·simp only[Zfe,Uf,Uh,last]
def wip (ws:List Zq) (k:Nat):List Zq:=cat (λj w=>[if j<k then Zce w []else w]) 0 ws
variable (ws:List Zq)
theorem Zoj (k v:Nat):(wip ws k)[v]?=(ws[v]?).map (λw=>if v<k then Zce w []else w):=by
 unfold wip;rw[Zcx,Us]
theorem ZF1 (k:Nat):(wip ws k).length=ws.length:=ZbL _ _
theorem ZDw:wip ws 0=ws:=by
 apply Uy;intro v;rw[Zoj];simp
theorem ZF0 (pl:List Pl) (ws:List Zq) (nd:Nat->Int):wip ws ws.length=Zis pl ws nd 0:=by
 apply Uy;intro v;unfold Zis;rw[Zoj,Qc];cases a:ws[v]? with
 |none=>rfl
 |some w =>
  have:=(Ua.1 a).1;simp only[UV,Uc this,Kt,cat,KZ]
variable {ws:List Zq}
theorem ZDv (c:ws[k]?=some w):(wip ws k)[k]?=some w/\(wip ws k).set k (Zce w [])=wip ws (k+1):=by
 constructor
 ·rw[Zoj,c];simp
 ·apply Uy
  intro v;rw[UR,ZF1];split
  ·rename_i e
   subst e;rw[Uc (Ua.1 c).1,Zoj,c,UV,QP]
  ·rw[Zoj,Zoj]
   congr 1;funext w';by_cases h:v<k
   ·rw[Uc h,QP]
   ·rw[Ue h,QQ]
theorem Zib (H:Few (K2 b)) (R:Maps nodes (Zg (K2 b)) nd) (n:ZlB (Zg (K2 b)) (K4 b).length) (o:(K4 b).length<=1048576) :
  Vy b nodes=some (K6 b,K2 b,JM (Zg (K2 b)) (K4 b) nd,()):=by
 have d:=ZQ H;unfold Vy;have:=Yv (l:=K4 b) (λk=>((k:Int),wip (K4 b) k,())) (step:=λv=>JU b nodes v.1 v.2.1) (good:=(K6 b,K2 b,JM (Zg (K2 b)) (K4 b) nd,())) (λk w a t=>by
  obtain⟨A,c⟩:=ZDv a;simp only[JU,show(k:Int)<((K4 b).length:Int) by omega,Ui,Zp,A,Bq,Y3 (show k<=1048576 by omega),Up];rw[<-c];rfl) (by
  simp only[JU,Uf,Uh,ZM _ H,Bq,ZF0 (Zg (K2 b)) (K4 b) nd];refine Yv (l:=Zg (K2 b)) (λk=>((k:Int),Zis (Zg (K2 b)) (K4 b) nd k,())) (λk p g a=>?_) ?_
  ·simp only[Zb0,show(k:Int)<((Zg (K2 b)).length:Int) by omega,Ui,Zp,g,Bq,Y3 (show k<=1048576 by omega)]
   have E:GW p=p.2.2.2.1:=rfl;have i:ZL.net p=p.2.2.1:=rfl;have e:Zkx ZcQ (Ty.int IntKind.i64) nodes (Gt p,ZL.pin p,())=Zkx Key (.int .i64) nodes (ZwR p):=rfl;by_cases f:p.2.2.2.1=true
   ·rw[E,Uc f,ZuX g f]
   ·have I:p.2.2.2.1=false:=by simpa using f
    obtain ⟨m,j⟩:=n p (Ud g) I;have h:(K4 b)[p.2.2.1.toNat]?=some ((K4 b)[p.2.2.1.toNat]'(by omega)):=Ub (by omega);obtain ⟨w1,w2⟩:=ZuY (nd:=nd) g I m h;have q:=ZaN p.2.2.1 ((Zg (K2 b)).take k) 0;rw[E,Ue f,i,Yr m w1,Bq,e,R k p g I,Zk (by
     show ((List.map _ _).length+1)*8<=_;rw[UW];rw[Uk] at q;omega),<-w2]
    rfl
  ·simp only[Zb0,Uf,Uh]
   unfold Zis;rw[Uq])
 rw[ZDw]at this;exact this
theorem ZgV (g:(Zg (K2 b))[k]?=some p) (n:Int):Zay b (p.1,p.2.1,()) n=some (K6 b,Xl (K2 b) p.1 p.2.1 n,K4 b,()):=by
 unfold Zay Xl;rcases QN g with⟨i,j,x,m,l,f,e,rfl⟩|⟨j,q,h,e,rfl⟩
 ·have c:¬((i:Int)<0):=by omega
  simp only[ZcI,G7,Za5.pin,Ue c,Zp,l,Bq,Up];have Q:x.2.2.1[j]?=some m:=f;rw[Q];rfl
 ·have c:((-1:Int)<0):=by omega
  simp only[G7,Za5.pin,Uc c,Zp,h,Bq,Up];rfl
theorem Zm4 (f:0<(K3 d).length) (h:p∈Zg (YK d)):p∈Zg d:=by
 have l:(K3 d)[(K3 d).length-1]?=some (K3 d)[(K3 d).length-1]:=Ub (by omega);rw[ZhY (s:=[]) f l,ZhX];unfold Zg at h;rcases Uu.1 h with h|h
 ·exact List.mem_append_left _ (List.mem_append_left _ h)
 ·exact List.mem_append_right _ h
theorem Zjb.sink (h:Z7 b) (o:Zjb b):∃(k:Nat) (p:Pl),Xx (K2 b) (((K5 (K2 b)).length:Int)-1)=[(k:Int)]/\(Zg (K2 b))[k]?=some p/\p.2.2.1=((K5 (K2 b)).length:Int)-1/\p.2.2.2.1=false/\p.1≠((K3 (K2 b)).length:Int)-1:=by
 obtain⟨x,c,w,m,I,D,E,t,u,T,R,F,a,z,J,B,g,A,r⟩:=o
 match hs:Xx (K2 b) (((K5 (K2 b)).length:Int)-1),g with
 |[v],_ =>
  obtain ⟨k,p,l,e,d,f,_⟩:=Znd (pl:=Zg (K2 b)) (net:=((K5 (K2 b)).length:Int)-1) (i:=0) (x:=v) (by
   show (Xx (K2 b) (((K5 (K2 b)).length:Int)-1))[0]?=some v;rw[hs];rfl)
  subst e;refine⟨k,p,rfl,l,d,f,λq=>?_⟩;rcases QN l with⟨i,j,y,n,H,G,_,rfl⟩|⟨j,y,_,_,rfl⟩
  ·simp only[ZcI]at q d f
   have C:i=(K3 (K2 b)).length-1:=by omega
   rw[C,D]at H;injection H with H
   subst H;have s:=(Ua.1 G).1;rw[T]at f s;have:j=0\/j=1:=by omega
   rcases this with rfl|rfl
   ·rw[show atI (Gc x) 0=(Gc x)[0]? from rfl,G]at R
    injection R with R
    exact a (R.symm.trans d)
   ·exact absurd f (by simp only[Kr,Classical.not_not];rw[QR];rfl)
  ·simp only at q
   omega
theorem ZAw (h:Z7 b) (n:0<(K3 (K2 b)).length) (s:Xx (K2 b) (((K5 (K2 b)).length:Int)-1)=[(k:Int)]) (o:(Zg (K2 b))[k]?=some p) (c:0<=m) (r:m<((K5 (K2 b)).length:Int)-1) :
  ZlB (Zg (unD b p m)) ((K4 b).length-1):=by
 have Z:=h.ok.2.1;have l:ZlB (Zg (Xl (K2 b) p.1 p.2.1 m)) ((K4 b).length-1):=by
  rw[XC o];intro q a N;obtain⟨j,H⟩:=U4 a;rw[UR]at H;split at H
  ·split at H
   ·injection H with H
    subst H;exact⟨c,by show m<_;omega⟩
   ·cases H
  ·rename_i e
   have t:=XP h.ok.1 (Ud H);refine⟨t.1,?_⟩;by_cases f:q.2.2.1=((K5 (K2 b)).length:Int)-1
   ·have g:=Zij H f N
    have i:(Xx (K2 b) (((K5 (K2 b)).length:Int)-1))[nth (Zg (K2 b)) (((K5 (K2 b)).length:Int)-1) j]?=some (j:Int):=g;rw[s]at i;have d:=Ud i;rw[Ux]at d;exact absurd (by omega) e
   ·have:=t.2
    omega
 intro q a N;exact l q (Zm4 (by rw[YG];exact n) a) N
theorem Zhb (n:0<(K3 d).length) (l:(K3 d)[(K3 d).length-1]?=some x) (f:(Gc x).length=2):Z5 (YK d)+2=Z5 d:=by
 have h:=Zpy n l;unfold Z5;rw[h,Zc4,Ug];simp only[cat,Un,Q9,f]
theorem ZrH (h:0<(K3 d).length) (l:(K3 d)[(K3 d).length-1]?=some x) (f:(Gc x).length=2):Zgn d ((K3 d).length-1)=Z5 d-2:=by
 have H:=Zhb h l f;have:Zgn d ((K3 d).length-1)=Z5 (YK d):=rfl;omega
theorem Zhn (h:Z7 b) (F:Zjb b):∃(k:Nat) (p:Pl) (m v:Int),Xx (K2 b) (((K5 (K2 b)).length:Int)-1)=[(k:Int)]/\(Zg (K2 b))[k]?=some p/\p.1≠((K3 (K2 b)).length:Int)-1/\
  (∀y,(K3 (K2 b))[(K3 (K2 b)).length-1]?=some y->atI (Gc y) 0=some m)/\v=YF b (Z5 (K2 b)-2)/\
  ZaI b=some ((p.1,p.2.1,()),(K6 b,unD b p m,JM (Zg (unD b p m)) ((K4 b).take ((K4 b).length-1)) (Zqe (λj=>if j=k then v else YF b j) (Z5 (unD b p m))),())):=by
 obtain⟨k,p,A,g,a3,a1,z⟩:=F.sink h;obtain⟨x,c,w,m,K,a,hc,W,X,T,R,hl,Y,Z,hw,a4,a5,a0,V⟩:=F;have s:=h.ok.1;have f:=s.few;have a2:=ZQ f;have P:=f.insts;have Q:=s.2.1.2.1;have a6:=h.ok.2.1;obtain⟨_,_,t⟩:=s.2.2.1 x (Ud a);have q:(Gc x)[0]?=some m:=R;have H:=t m (Ud q);have L:1<=(K5 (K2 b)).length:=by have:=H.1;have:=H.2;omega
 have r:m<((K5 (K2 b)).length:Int)-1:=by have:=H.2;omega
 have J:atI (K3 (K2 b)) (((K3 (K2 b)).length:Int)-1)=some x:=Yr (by omega) (by rw[<-a];congr 1;omega);have t1:Int.toNat (((K3 (K2 b)).length:Int)-1)=(K3 (K2 b)).length-1:=by omega
 have t2:Int.toNat (((K5 (K2 b)).length:Int)-1)=(K5 (K2 b)).length-1:=by omega
 have t3:Int.toNat (((K4 b).length:Int)-1)=(K4 b).length-1:=by omega
 have e:((K6 b,(List.set (K3 (K2 b)) ((K3 (K2 b)).length-1) x,(K2 b).snd),b.snd.snd):Za)=b:=by rw[JX a]
 refine⟨k,p,m,(Option.getD (Zkx Key (Ty.int IntKind.i64) (Zcb (Zg (K2 b)) (YF b) (Zg (K2 b)).length) ((((K3 (K2 b)).length:Int)-1),(0:Int),())) (0:Int)),A,g,z,λy i=>by rw[a]at i;injection i with i;rw[<-i];exact R,?_,?_⟩
 ·have E:=Zbs a q
  rw[U7,ZrH K a T] at E;have I:=Zjk (K2 b) (YF b) _ _ E (by
   show decide ((0:Int)=Wq (((Gc x).length:Int)-1))=false;rw[T,QR];decide)
  have S:ZwR (ZcI ((K3 (K2 b)).length-1) x 0 m)=((((K3 (K2 b)).length:Int)-1),(0:Int),()):=by
   show((((K3 (K2 b)).length-1:Nat):Int),(0:Int),())=_;rw[show(((K3 (K2 b)).length-1:Nat):Int)=((K3 (K2 b)).length:Int)-1 by omega]
  rw[S]at I;rw[I];rfl
 unfold ZaI;rw[ZdG h,Bq,ZM _ f,Bq,show XG (K5 (K2 b))=some ((K5 (K2 b)).length:Int) from rfl,Bq,
  YI (n:=((K5 (K2 b)).length:Int)-1),ZbU _ _ f,Bq,A,show atI [(k:Int)] 0=some (k:Int)from rfl,Bq,Zp,g,Bq,
  YI (n:=((K3 (K2 b)).length:Int)-1),J,Bq,show x.snd.snd.fst=Gc x from rfl,R,Bq,t1,e,
  show (Gt p,ZL.pin p,())=(p.1,p.2.1,()) from rfl,ZgV g m,Bq]
 have M:K2 ((K6 b,Xl (K2 b) p.1 p.2.1 m,K4 b,()):Za)=Xl (K2 b) p.1 p.2.1 m:=rfl;have O:K4 ((K6 b,Xl (K2 b) p.1 p.2.1 m,K4 b,()):Za)=K4 b:=rfl;have N:K6 ((K6 b,Xl (K2 b) p.1 p.2.1 m,K4 b,()):Za)=K6 b:=rfl;rw[M,O,N,X0,YI (n:=((K5 (K2 b)).length:Int)-1),QR (n:=((K4 b).length:Int)-1),t2,t3,
  Ra,Zk (by rw[YG];omega),Ra,Ra,Ra,Ra]
 simp only[Int.toNat_zero,Nat.sub_zero,KE];have U:((K6 b,(List.take ((K3 (K2 b)).length-1) (K3 (Xl (K2 b) p.1 p.2.1 m)),List.take ((K5 (K2 b)).length-1) (K5 (K2 b)),(Xl (K2 b) p.1 p.2.1 m).snd.snd),List.take ((K4 b).length-1) (K4 b),()):Za)
   = (K6 b,unD b p m,List.take ((K4 b).length-1) (K4 b),()):=by
  unfold unD YK;rw[YG,X0]
 rw[U];have d:(K3 (Xl (K2 b) p.1 p.2.1 m))[(K3 (Xl (K2 b) p.1 p.2.1 m)).length-1]?=some ((K3 (Xl (K2 b) p.1 p.2.1 m))[(K3 (Xl (K2 b) p.1 p.2.1 m)).length-1]'(by rw[YG];omega)):=Ub _;generalize (K3 (Xl (K2 b) p.1 p.2.1 m))[(K3 (Xl (K2 b) p.1 p.2.1 m)).length-1]'(by rw[YG];omega)=x' at d;have B:(Gc x').length=2:=by
  obtain⟨y,i,_,_,D,_⟩:=Zdy d;rw[YG,a]at i;injection i with i
  rw[D,<-i,T]
 have G:=(((Zjk (K2 b) (YF b)).put g (Option.getD (Zkx Key (Ty.int IntKind.i64) (Zcb (Zg (K2 b)) (YF b) (Zg (K2 b)).length) ((((K3 (K2 b)).length:Int)-1),(0:Int),())) (0:Int))).set g m);rw[<-XC g m]at G;have u:=G.cut (by rw[YG];omega) d B;have l:(List.take ((K4 b).length-1) (K4 b)).length=(K4 b).length-1:=by rw[Uk];omega
 have:=Zib (b:=(K6 b,unD b p m,List.take ((K4 b).length-1) (K4 b),())) (f.Xl p.1 p.2.1 m).cut u (by
  show ZlB (Zg (unD b p m)) (List.take ((K4 b).length-1) (K4 b)).length;rw[l];exact ZAw h K A g H.1 r) (by
  show (List.take ((K4 b).length-1) (K4 b)).length<=_;rw[l];omega)
 exact Eq.trans (UN (λo=>Option.bind o λC=>some ((p.1,p.2.1,()),C)) this) rfl
theorem Zcs.put {s:Int} (h:Zcs w s) (q:Zja l 0 (((K8 w).length:Int)-1)):Zcs (Zce w l) (l.length:Int) :=
 ⟨h.1,h.2.1,h.2.2.1,rfl,h.2.2.2.2.1,h.2.2.2.2.2.1,h.2.2.2.2.2.2.1,q⟩
def Fits (pl:List Pl) (ws:List Zq) (nd:Nat->Int):Prop:=∀(k:Nat) (p:Pl) (w:Zq),pl[k]?=some p->p.2.2.2.1=false->ws[p.2.2.1.toNat]?=some w->0<=nd k/\nd k<=((K8 w).length:Int)-1
theorem Ztx (c:∀(v:Nat) (w:Zq),ws[v]?=some w->∃s,Zcs w s) (H:Fits pl ws nd) :
  Zei (JM pl ws nd) (λv w=>Zcs w ((cat (Qu (v:Int)) 0 pl).length:Int)):=by
 intro v w a;rw[Qc]at a;cases h:ws[v]? with
 |none=>grind
 |some y =>
  rw[h]at a;injection a with a
  subst a;obtain ⟨s,q⟩:=c v y h;have:=q.put (l:=(cat (Qu (v:Int)) 0 pl).map (λk=>nd k.toNat)) (λz T=>by
   obtain ⟨j,b,rfl⟩:=Ke.1 T;obtain ⟨k,p,rfl,g,d,f⟩:=Zne b;exact H k p y g f (by rw[d];exact h))
  grind
theorem Zlg (h:Z7 b):Fits (Zg (K2 b)) (K4 b) (YF b):=by
 intro k p w g f c;obtain⟨w',_,F,e,y⟩:=ZsU h g f;rw[F]at c;injection c with c
 subst c;rw[Zp]at e;exact y.2.2.2.2.2.2.2 _ (Ud e)
theorem Fits.set (h:Fits pl ws nd) (n v:Int) (a:∀w,ws[n.toNat]?=some w->0<=v/\v<=((K8 w).length:Int)-1) :
  Fits (pl.set K (p0.1,p0.2.1,n,p0.2.2.2.1,())) ws (λj=>if j=K then v else nd j):=by
 intro k p w g f c;rw[UR]at g;split at g
 ·grind
 ·rename_i e
  show 0<=(if k=K then v else nd k)/\(if k=K then v else nd k)<=_;rw[Ue (λq=>e q.symm)];exact h k p w g f c
variable {l:List (List UInt8)}
theorem J6.snoc (h:J6 l l.length) (d:Zbr s=true) (f:s ∉ l):J6 (l++[s]) (l++[s]).length:=by
 intro j t H r;by_cases e:j<l.length
 ·rw[Ut e]at r
  obtain⟨a,b⟩:=h j t e r;grind
 grind
theorem J6.take (h:J6 l l.length) (m:Nat):J6 (l.take m) (l.take m).length:=by
 intro j t H r;rw[Uk]at H;rw[UB,QP]at r;obtain⟨a,b⟩:=h j t (by omega) r;grind
theorem Zh5 (d:Zb) (a b n:Int):Q7 (Xl d a b n)=Q7 d:=by
 unfold Xl;split
 ·rfl
 ·show List.map Gq (match (K3 d)[a.toNat]? with|some x=>(K3 d).set a.toNat (ZcZ x b.toNat n)|none=>K3 d)=List.map Gq (K3 d)
  split
  ·rename_i x l
   rw[List.map_set];exact JX (by rw[UL,l];rfl)
  ·rfl
theorem ZtS (d:Zb) (a b n:Int):Zel (Xl d a b n)=Zel d:=by
 unfold Xl;split
 ·show List.map GT (match (Ge d)[b.toNat]? with|some x=>(Ge d).set b.toNat (setPort x n)|none=>Ge d)=List.map GT (Ge d)
  split
  ·rename_i x l
   rw[List.map_set];exact JX (by rw[UL,l];rfl)
  ·rfl
 ·rfl
theorem ZtT {b:Int} {y:Z6} (h:(Ge (Xl d a b n))[i]?=some y):∃x,(Ge d)[i]?=some x/\GT y=GT x/\GF y=GF x/\(GK y=GK x\/GK y=n):=by
 unfold Xl at h;split at h
 ·have h:(match (Ge d)[b.toNat]? with|some x=>(Ge d).set b.toNat (setPort x n)|none=>Ge d)[i]?=some y:=h
  split at h
  ·rename_i x l
   rw[UR]at h;split at h
   ·rename_i e
    split at h
    ·injection h with h
     subst h;exact⟨x,by rw[<-e];exact l,rfl,rfl,.inr rfl⟩
    ·cases h
   grind
  grind
 grind
theorem ZmK {α:Type} {f:α->Bool} {y:α} (b:f y=false):∀{l:List α} {i:Nat} {x:α},l[i]?=some x->f x=false->(l.set i y).filter f=l.filter f
 |[],i,x,h,_=>by simp at h
 |a::l,0,x,h,H=>by
  grind
 |a::l,i+1,x,h,H=>by
  have:=ZmK b (l:=l) (i:=i) (by simpa using h) H;grind
theorem Zli (h:0<(Gc x).length:=by omega):(Gc x)[(Gc x).length-1]?=some (QA x):=by
 unfold QA;grind
theorem Zrb (h:j+1≠(Gc x).length:=by omega):QA (ZcZ x j n)=QA x:=by
 by_cases m:0<(Gc x).length
 ·have d:=Zli (x:=ZcZ x j n) (by show 0<(List.set (Gc x) j n).length;grind)
  have f:(List.set (Gc x) j n)[(List.set (Gc x) j n).length-1]?=some (QA (ZcZ x j n)):=d;rw[UH,UR,QQ,Zli m]at f;grind
 ·have e:Gc x=[]:=KM.1 (by omega)
  unfold QA;show(List.set (Gc x) j n).getLastD 0=_;rw[e];rfl
theorem Zzu (h:Few d) (b:(Zg d)[k]?=some p) (f:p.2.2.2.1=false) (n:Int):ZoO (Xl d p.1 p.2.1 n)=ZoO d:=by
 unfold ZoO;rcases QN b with⟨i,j,x,m,o,H,e,rfl⟩|⟨j,q,l,e,rfl⟩
 ·have t:=h.nets x (Ud o)
  have s:=(Ua.1 H).1;have g:decide ((j:Int)=Wq (((Gc x).length:Int)-1))=false:=f;rw[QR]at g;have r:¬((j:Int)=((Gc x).length:Int)-1):=of_decide_eq_false g;have c:¬((i:Int)<0):=by omega
  have E:K3 (Xl d (ZcI i x j m).1 (ZcI i x j m).2.1 n)=(K3 d).set i (ZcZ x j n):=by
   unfold Xl;show K3 (if(i:Int)<0 then _ else _)=_;rw[Ue c];show(match (K3 d)[(i:Int).toNat]? with|some x=>(K3 d).set (i:Int).toNat (ZcZ x (j:Int).toNat n)|none=>K3 d)=_
   grind
  have a:Ge (Xl d (ZcI i x j m).1 (ZcI i x j m).2.1 n)=Ge d:=by
   unfold Xl;show Ge (if(i:Int)<0 then _ else _)=_;rw[Ue c]
  rw[E,a,List.map_set,Zrb,JX (by grind)]
 ·have g:decide (GF q=1)=false:=f
  have E:K3 (Xl d (-1) (j:Int) n)=K3 d:=by
   unfold Xl;grind
  have a:Ge (Xl d (-1) (j:Int) n)=(Ge d).set j (setPort q n):=by
   unfold Xl;grind
  show(K3 (Xl d (-1) (j:Int) n)).map QA++((Ge (Xl d (-1) (j:Int) n)).filter (λp=>decide (GF p=1))).map GK=_;rw[E,a,ZmK (by exact g) l g]
variable {a:Zu}
theorem Zve (h:Ql a d) (F:(Zg d)[k]?=some p) (C:p.2.2.2.1=false) (t:ZbJ d n):Ql a (Xl d p.1 p.2.1 n):=by
 obtain⟨s,⟨n1,N,w,z,A,B⟩,o,v,u⟩:=h;have E:Few d:=Ql.few (a:=a) ⟨s,⟨n1,N,w,z,A,B⟩,o,v,u⟩;refine⟨s,⟨by rw[YG];exact n1,by rw[X0];exact N,by rw[Zfp];exact w,by rw[Zh5];exact z,by rw[X0];exact A,by rw[ZtS];exact B⟩,λy f=>?_,λy f=>?_,?_⟩
 ·obtain⟨i,H⟩:=U4 f
  obtain⟨x,e,_,j,l,_,R⟩:=Zdy H;obtain⟨r,⟨c,g,G⟩,I⟩:=o x (Ud e);refine⟨by rw[j];exact r,⟨c,by rw[j];exact g,by rw[l];exact G⟩,λm b=>?_⟩;unfold ZbJ;rw[X0];rcases R m b with q|q
  ·exact I m q
  ·rw[q];exact t
 ·obtain⟨i,H⟩:=U4 f
  obtain⟨x,e,_,D,R⟩:=ZtT H;obtain⟨r,g⟩:=v x (Ud e);refine⟨by rw[D];exact r,?_⟩;unfold ZbJ;rw[X0];rcases R with q|q
  ·rw[q];exact g
  ·rw[q];exact t
 ·unfold Zjc
  rw[X0,Zzu E F C];exact u
theorem Zwy (h:Ql a d):∀v∈ZoO d,ZbJ d v:=by
 have f:=h.few;intro v H;unfold ZoO at H;rcases Uu.1 H with H|H
 ·obtain⟨x,l,rfl⟩:=Ke.1 H
  have:=f.nets x l;exact((h.2.2.1 x l).last h.1 (by omega)).2
 ·obtain⟨q,b,rfl⟩:=Ke.1 H
  exact(h.2.2.2.1 q (KI.1 b).1).2
theorem ZnZ:Zjc d<->∀v:Nat,v<(K5 d).length->(ZoO d).countP (λx=>decide (x=(v:Int)))=1:=by
 unfold Zjc;constructor
 ·intro h v a
  have:=h _ (Ud (ZjI (s:=ZoO d) a));omega
 ·intro h x l
  obtain⟨j,b⟩:=U4 l;have t:=(Ua.1 b).1;rw[Zld]at t;rw[ZjI t]at b;grind
variable {l:List Int}
theorem Zvg (h:∀x∈l,x≠v):l.countP (λx=>decide (x=v))=0:=by
 grind
variable {c:Int}
theorem ZGr (h:Ql a d) {cell:Zo} (q:Zbr s=true) (k:s ∉ Q7 d) (u:s ∉ K5 d) (o:(K3 d).length<=13) (w:(K5 d).length<=29)
  (H:0<=c) (b:c<=((Gd a).length:Int)-1) (z:(Gd a)[c.toNat]?=some cell) (F:(Gb cell).length=2) (T:ZbJ d m) :
  Ql a (Xw d (s,c,[m,((K5 d).length:Int)],()) s):=by
 have C:=Zwy h;obtain⟨B,⟨n1,U,N,L,M,O⟩,A,G,D⟩:=h;have E:K3 (Xw d (s,c,[m,((K5 d).length:Int)],()) s)=K3 d++[(s,c,[m,((K5 d).length:Int)],())]:=rfl;have g:K5 (Xw d (s,c,[m,((K5 d).length:Int)],()) s)=K5 d++[s]:=rfl;have j:Ge (Xw d (s,c,[m,((K5 d).length:Int)],()) s)=Ge d:=rfl;have t:∀n,ZbJ d n->ZbJ (Xw d (s,c,[m,((K5 d).length:Int)],()) s) n:=λn f=>by
  unfold ZbJ at *;grind
 refine⟨B,⟨by grind,by grind,N,?_,by rw[g];exact M.snoc q u,O⟩,λy i=>?_,λy i=>?_,?_⟩
 ·have:Q7 (Xw d (s,c,[m,((K5 d).length:Int)],()) s)=Q7 d++[s]:=by
   unfold Q7;grind
  rw[this];exact L.snoc q k
 ·rw[E]at i
  rcases Uu.1 i with i|i
  ·obtain⟨r,R,P⟩:=A y i
   exact⟨r,R,λn f=>t n (P n f)⟩
  ·rw[Ux]at i
   subst i;refine⟨⟨H,b⟩,⟨cell,z,by rw[F];rfl⟩,λn f=>?_⟩;have f:n∈[m,((K5 d).length:Int)]:=f;rcases UD.1 f with f|f
   ·grind
   ·rw[Ux]at f
    subst f;unfold ZbJ;grind
 ·obtain⟨r,R⟩:=G y i
  exact⟨r,t _ R⟩
 ·rw[ZnZ]at D ⊢
  intro v I;rw[g,Ug,Uz]at I;have e:ZoO (Xw d (s,c,[m,((K5 d).length:Int)],()) s)=(K3 d).map QA++[((K5 d).length:Int)]++((Ge d).filter (λp=>decide (GF p=1))).map GK:=by
   unfold ZoO;rw[E,j,Kd];rfl
  have Q:ZoO d=(K3 d).map QA++((Ge d).filter (λp=>decide (GF p=1))).map GK:=rfl;rw[e,Kp,Kp,List.countP_singleton];by_cases J:v<(K5 d).length
  ·grind
  ·have S:=Zvg (l:=ZoO d) (v:=(v:Int)) (λx K=>by have:=(C x K).2;omega)
   grind
theorem ZED (a:Few d) (c:p∈Zg d) (H:p.2.2.2.1=true):p.2.2.1∈ZoO d:=by
 obtain⟨k,b⟩:=U4 c;unfold ZoO;rcases QN b with⟨i,j,x,m,l,f,e,rfl⟩|⟨j,q,s,e,rfl⟩
 ·have r:=a.nets x (Ud l)
  have o:=(Ua.1 f).1;have g:decide ((j:Int)=Wq (((Gc x).length:Int)-1))=true:=H;rw[QR]at g;have n:(j:Int)=((Gc x).length:Int)-1:=of_decide_eq_true g;refine List.mem_append_left _ (Ke.2 ⟨x,Ud l,?_⟩);have h:=Zli (x:=x);rw[show(Gc x).length-1=j by omega,f]at h;injection h with h
  exact h.symm
 grind
theorem ZGG (h:Ql a d) (k:0<(K3 d).length) (m:(K3 d)[(K3 d).length-1]?=some x) (z:QA x=((K5 d).length:Int)-1)
  (B:∀p∈Zg d,p.2.2.2.1=false->p.2.2.1≠((K5 d).length:Int)-1):Ql a (YK d):=by
 have C:=Zwy h;have s:=h.few;have t:=Zpy k m;obtain⟨w,⟨n1,U,N,F,G,J⟩,u,A,o⟩:=h;have I:1<=(K5 d).length:=by
  have:=C (QA x) (List.mem_append_left _ (Ke.2 ⟨x,Ud m,rfl⟩));unfold ZbJ at this;omega
 have g:(K5 (YK d)).length=(K5 d).length-1:=by
  show(List.take ((K5 d).length-1) (K5 d)).length=_;grind
 have P:ZoO d=(K3 (YK d)).map QA++[QA x]++((Ge d).filter (λp=>decide (GF p=1))).map GK:=by
  unfold ZoO;grind
 have O:ZoO (YK d)=(K3 (YK d)).map QA++((Ge d).filter (λp=>decide (GF p=1))).map GK:=rfl;have K:∀v:Int,(ZoO d).countP (λy=>decide (y=v))=(ZoO (YK d)).countP (λy=>decide (y=v))+if QA x=v then 1 else 0:=λv=>by
  grind
 rw[ZnZ]at o;have none:∀p∈Zg (YK d),p.2.2.1≠((K5 d).length:Int)-1:=by
  intro p l e;cases f:p.2.2.2.1 with
  |false=>exact B p (Zm4 k l) f e
  |true =>
   have T:=ZED s.cut l f;have q:=o ((K5 d).length-1) (by omega);rw[K,QP]at q;grind
 have c:∀n,ZbJ d n->n≠((K5 d).length:Int)-1->ZbJ (YK d) n:=λn S f=>by
  unfold ZbJ at *;rw[g];omega
 have E:∀i y,(K3 (YK d))[i]?=some y->(K3 d)[i]?=some y:=λi y H=>by
  rw[t,Ut (Ua.1 H).1];exact H
 refine⟨w,⟨by grind,by rw[g];omega,N,?_,G.take _,J⟩,λy H=>?_,λy H=>?_,?_⟩
 ·have:Q7 (YK d)=(Q7 d).take ((K3 d).length-1):=by
   unfold Q7;show List.map Gq (List.take _ (K3 d))=_;rw[List.map_take]
  rw[this];exact F.take _
 ·obtain⟨i,L⟩:=U4 H
  obtain⟨r,R,M⟩:=u y (Ud (E i y L));refine⟨r,R,λn Q=>c n (M n Q) ?_⟩;obtain⟨j,b⟩:=U4 Q;exact none _ (Ud (Zbs L b))
 ·obtain⟨r,R⟩:=A y H
  obtain⟨j,b⟩:=U4 H;exact⟨r,c _ R (none _ (Ud (Zs3 (d:=YK d) b)))⟩
 ·rw[ZnZ]
  intro v D;rw[g]at D;have:=o v (by omega);rw[K,QQ]at this;exact this
theorem Zqx (h:l.length<=1048576):sm (.sl (.int .i64)) l:=⟨by omega,λ_ _=>trivial⟩
theorem Zqy (d:sm .str s) (f:l.length<=1048576):sm Jf (s,c,l,()):=⟨d,trivial,Zqx f,trivial⟩
theorem Zju {a b c d:List Int} (h:a.length<=1048576) (f:b.length<=1048576) (g:c.length<=1048576) (i:d.length<=1048576):sm ZbR (a,b,c,d,()):=⟨Zqx h,Zqx f,Zqx g,Zqx i,trivial⟩
theorem ZgH {a:List Zd} {b:List (List UInt8)} {c:List Z6} (d:sm (.sl Jf) a) (f:sm (.sl .str) b) (g:sm (.sl Zo7) c):sm YN (a,b,c,()):=⟨d,f,g,trivial⟩
theorem Zft {b:Zb} {c:List Zq} (d:sm X9 a) (f:sm YN b) (g:sm (.sl ZbR) c):sm Ya (a,b,c,()):=⟨d,f,g,trivial⟩
theorem ZvZ (h:sm YN d) (a b n:Int):sm YN (Xl d a b n):=by
 obtain⟨k,m,o⟩:=Zbw h;have e:Xl d a b n=(K3 (Xl d a b n),K5 (Xl d a b n),Ge (Xl d a b n),()):=rfl;rw[e];refine ZgH ⟨by rw[YG];exact k.1,λy j=>?_⟩ (by rw[X0];exact o) ⟨by rw[Zfp];exact m.1,λy j=>?_⟩
 ·obtain⟨i,H⟩:=U4 j
  obtain⟨x,g,f,_,q,_⟩:=Zdy H;obtain⟨S,p⟩:=Zjt (JJ k g);have t:=Zv p;exact Zqy (s:=Gq y) (c:=Gr y) (l:=Gc y) (by rw[f];exact S) (by rw[q];exact t)
 ·obtain⟨i,H⟩:=U4 j
  obtain⟨x,g,f,_⟩:=ZtT H;have S:=ZD1 (JJ m g);have:sm .str (GT y):=by rw[f];exact S
  exact⟨this,trivial,trivial,trivial⟩
theorem ZG2 (h:sm YN d) (a:(K3 d).length<=100) (n:(K5 d).length<=100) (l:sm Jf x) (q:sm .str s):sm YN (Xw d x s):=by
 obtain⟨H,f,g⟩:=Zbw h;refine ZgH ⟨by grind,λy i=>?_⟩ ⟨by grind,λy i=>?_⟩ f
 ·rcases Uu.1 i with i|i
  ·exact H.2 y i
  grind
 ·rcases Uu.1 i with i|i
  ·exact g.2 y i
  grind
theorem Zv0 {t:Ty} {l:List t.den} (h:sm (.sl t) l) (m:Nat):sm (.sl t) (l.take m):=by
 have:=h.1;exact⟨by grind,λx H=>h.2 x (KJ H)⟩
theorem ZG3 (h:sm YN d):sm YN (YK d):=by
 obtain⟨H,f,g⟩:=Zbw h;exact ZgH (Zv0 H _) (Zv0 g _) f
theorem Ztg (h:sm (.sl ZbR) ws) (g:pl.length<=1048576:=by omega):sm (.sl ZbR) (JM pl ws nd):=by
 have d:=h.1;refine⟨by rw[ZeE];exact d,λy i=>?_⟩;obtain⟨v,a⟩:=U4 i;rw[Qc]at a;cases l:ws[v]? with
 |none=>grind
 |some w =>
  rw[l]at a;injection a with a
  subst a;obtain⟨A,b,j,k⟩:=Zk1 (JJ h l);have:=ZaN (v:Int) pl 0;exact Zju (Zv A) (Zv b) (Zv j) (by grind)
theorem Zw5 (h:Z7 b) (g:(Zg (K2 b))[k]?=some p) (f:p.2.2.2.1=false) (H:ZbJ (K2 b) n) (a:∀w,(K4 b)[n.toNat]?=some w->0<=v/\v<=((K8 w).length:Int)-1):Z7 (moved b k p n v):=by
 have i:Zg (mvD b p n)=(Zg (K2 b)).set k (p.1,p.2.1,n,p.2.2.2.1,()):=XC g n;obtain⟨U,W,X⟩:=Vi h.sm;have d:Ql (K6 b) (mvD b p n):=Zve h.ok.1 g f H;refine⟨⟨d,?_,?_⟩,?_⟩
 ·show(JM (Zg (mvD b p n)) (K4 b) (mvN b k v)).length=(K5 (Xl (K2 b) p.1 p.2.1 n)).length
  rw[ZeE,X0];exact h.ok.2.1
 ·exact Ztx (λv w c=>⟨_,h.ok.2.2 v w c⟩) (by rw[i];exact(Zlg h).set n v a)
 ·have q:=ZQ d.few
  exact Zft U (ZvZ W _ _ _) (Ztg X)
theorem ZtK {c c2:Zo} (d:sm Zcq c) (f:sm Zcq c2) (h:Vd c c2=some true):(Gb c2).length=(Gb c).length:=by
 unfold Vd at h;grind
theorem Zg4 (l:(K3 d)[i]?=some x) (c:Int):Zg ((K3 d).set i (Gq x,c,Gc x,()),K5 d,Ge d,())=Zg d:=by
 show cat YW 0 ((K3 d).set i (Gq x,c,Gc x,()))++cat Zcd 0 (Ge d)=_;unfold Zg;congr 1;have t:=(Ua.1 l).1;have E:=Zh4 YW l;have J:((K3 d).set i (Gq x,c,Gc x,()))[i]?=some (Gq x,c,Gc x,()):=UG t;have e:=Zh4 YW J;rw[E,e,List.take_set_of_le (UO _),List.drop_set_of_lt (by omega)];rfl
theorem ZrY (h:Z7 b) {i:Int} (F:0<=i) (l:(K3 (K2 b))[i.toNat]?=some x) {c1 c2:Zo} (f:(Gd (K6 b))[(Gr x).toNat]?=some c1) (z:(Gd (K6 b))[c.toNat]?=some c2)
  (q:0<=c/\c<=((Gd (K6 b)).length:Int)-1) (n:(Gb c2).length=(Gb c1).length):Z7 (ZdT b i c):=by
 obtain⟨U,W,X⟩:=Vi h.sm;obtain⟨s,S,E⟩:=Zbw W;obtain⟨⟨g,⟨n1,N,u,v,A,B⟩,a,p,o⟩,Z,t⟩:=h.ok;have e:ZdT b i c=(K6 b,((K3 (K2 b)).set i.toNat (Gq x,c,Gc x,()),K5 (K2 b),Ge (K2 b),()),K4 b,()):=by
  unfold ZdT;rw[l]
 have j:=Zg4 l c;rw[e];have m:∀y∈(K3 (K2 b)).set i.toNat (Gq x,c,Gc x,()),y∈K3 (K2 b)\/y=(Gq x,c,Gc x,()):=λy H=>U5 H;refine⟨⟨⟨g,⟨by grind,N,u,?_,A,B⟩,λy H=>?_,p,?_⟩,Z,?_⟩,?_⟩
 ·have:Q7 ((K3 (K2 b)).set i.toNat (Gq x,c,Gc x,()),K5 (K2 b),Ge (K2 b),())=Q7 (K2 b):=by
   show List.map Gq (List.set _ _ _)=_;rw[List.map_set];exact JX (by grind)
  exact this▸v
 ·rcases m y H with H|H
  ·exact a y H
  ·subst H
   obtain⟨G,⟨L,r,R⟩,D⟩:=a x (Ud l);have r:(Gd (K6 b))[(Gr x).toNat]?=some L:=r;rw[f]at r;injection r with r
   subst r;exact⟨q,⟨c2,z,by rw[n];exact R⟩,D⟩
 ·unfold Zjc
  have:ZoO ((K3 (K2 b)).set i.toNat (Gq x,c,Gc x,()),K5 (K2 b),Ge (K2 b),())=ZoO (K2 b):=by
   unfold ZoO;congr 1;show List.map QA (List.set _ _ _)=_;rw[List.map_set];exact JX (by rw[UL,l];rfl)
  rw[this];exact o
 ·intro k w d
  have:=t k w d;unfold Xx at *;grind
 ·refine Zft U (ZgH ⟨by grind,λy H=>?_⟩ E S) X
  rcases m y H with H|H
  ·exact s.2 y H
  ·subst H
   obtain⟨Q,C⟩:=Zjt (JJ s l);exact Zqy Q (Zv C)
theorem ZuV (h:Z7 b) (f:ZbJ (K2 b) n) (c:Zcs w ((Xx (K2 b) n).length:Int)) (q:sm ZbR w):Z7 (ZxB b n w):=by
 obtain⟨U,W,X⟩:=Vi h.sm;obtain⟨d,Z,F⟩:=h.ok;refine⟨⟨d,by show(List.set _ _ _).length=_;rw[UH];exact Z,?_⟩,Zft U W ⟨by rw[UH];exact X.1,λy i=>?_⟩⟩
 ·intro k y H
  have H:((K4 b).set n.toNat w)[k]?=some y:=H;rw[UR]at H;split at H
  ·rename_i e
   split at H
   ·injection H with H
    subst H;rw[<-e];show Zcs w ((Xx (K2 b) (n.toNat:Int)).length:Int);rw[show(n.toNat:Int)=n by have:=f.1;omega];exact c
   ·cases H
  ·exact F k y H
 ·rcases U5 i with i|i
  ·exact X.2 y i
  ·rw[i];exact q
variable {q:Pl}
theorem Zfn (h:Z7 b) (g:(Zg (K2 b))[k]?=some p):(Zg (Xw (K2 b) (Zgs b e q) (Gg e)))[ZjG b k]?=some p:=by
 unfold ZjG;by_cases H:k<Z5 (K2 b)
 ·rw[Uc H,ZlG H];exact g
 ·rw[Ue H]
  have:=ZkA (d:=K2 b) (x:=Zgs b e q) (s:=Gg e) (k:=k);rw[show(Gc (Zgs b e q)).length=2 from rfl]at this;rw[this];exact g
theorem Zs1 (g:(Zg d)[k]?=some p) (h:p.1<((K3 d).length:Int)\/True):p.1<((K3 d).length:Int):=by
 rcases QN g with⟨i,j,x,m,l,f,e,rfl⟩|⟨j,q,b,e,rfl⟩
 ·have:=(Ua.1 l).1
  show(i:Int)<_;omega
 grind
theorem Zh1 (g:(Zg (K2 b))[k]?=some p):Zg7 b e p=Xl (Xw (K2 b) (Zgs b e p) (Gg e)) p.1 p.2.1 ((K5 (K2 b)).length:Int) :=
 (Zsk (Zs1 g (.inr trivial))).symm
theorem ZEj:Zcs ZqW 0:=by
 refine⟨⟨by decide,by decide⟩,rfl,rfl,rfl,λk x H=>?_,?_,?_,?_⟩
 ·match k,H with
  |0,H =>
   injection H with H
   exact⟨λ_=>⟨H.symm,rfl⟩,λh=>by omega⟩
  |k+1,H=>cases H
 ·intro x l
  grind
 ·intro x l
  grind
 ·intro x l
  cases l
theorem ZCj (h:Z7 b) (l:(Zg (K2 b))[k]?=some p) (r:p.2.2.2.1=false) :
  Fits (Zg (Xw (K2 b) (Zgs b e p) (Gg e))) (K4 b++[ZqW]) (ZoV (YF b) (Z5 (K2 b)) (YF b k)):=by
 have u:=h.ok.1.few;have H:=Zlg h;have a:∀(m:Int) (w:Zq),ZbJ (K2 b) m->(K4 b++[ZqW])[m.toNat]?=some w->(K4 b)[m.toNat]?=some w:=λm w t c=>by
  rw[Ut (by rw[h.ok.2.1];unfold ZbJ at t;omega)]at c;exact c
 intro j q w f N c;unfold ZoV;have K:Z5 (K2 b)<=Z5 (K2 b):=UO _;by_cases c1:j<Z5 (K2 b)
 ·rw[Uc c1]
  rw[ZlG c1]at f;exact H j q w f N (a _ _ (XP h.ok.1 (Ud f)) c)
 ·rw[Ue c1]
  by_cases c2:j=Z5 (K2 b)
  ·rw[Uc c2]
   have:=add_mid (d:=K2 b) (x:=Zgs b e p) (s:=Gg e) (j:=0) (by show 0<2;omega);rw[U7,<-c2,f]at this;have E:q=ZcI (K3 (K2 b)).length (Zgs b e p) 0 p.2.2.1:=by
    have g:=Zda (i:=(K3 (K2 b)).length) (x:=Zgs b e p) (j:=0) (n:=p.2.2.1) rfl;grind
   have o:q.2.2.1=p.2.2.1:=by rw[E];rfl
   rw[o]at c;exact H k p w l r (a _ _ (XP h.ok.1 (Ud l)) c)
  ·rw[Ue c2]
   by_cases R:j=Z5 (K2 b)+1
   ·exfalso
    have:=add_mid (d:=K2 b) (x:=Zgs b e p) (s:=Gg e) (j:=1) (by show 1<2;omega);rw[<-R,f]at this;have g:=Zda (i:=(K3 (K2 b)).length) (x:=Zgs b e p) (j:=1) (n:=((K5 (K2 b)).length:Int)) rfl;rw[<-this]at g;injection g with g
    rw[g]at N;revert N;show ¬(decide ((1:Int)=Wq ((2:Int)-1))=false);rw[QR];simp
   ·rw[Ue R]
    have:=ZkA (d:=K2 b) (x:=Zgs b e p) (s:=Gg e) (k:=j-2);rw[show(Gc (Zgs b e p)).length=2 from rfl,show j-2+2=j by omega,f]at this;exact H (j-2) q w this.symm N (a _ _ (XP h.ok.1 (Ud this.symm)) c)
theorem ZrD {p:α->Bool} {l:List α} (h:Jw p l<0):∀x∈l,p x=false:=by
 intro x H;cases g:p x with
 |false=>rfl
 |true =>
  have:=Vx.2 (KO.2 ⟨x,H,g⟩);omega
theorem Zh2 (h:Ve b e) (f:K7 e=2) (o:sm .str (Gg e)) (g:J5 b e p):Z7 (X6 b e (K9 e).toNat p):=by
 have j:=h.blk;obtain⟨U,W,X⟩:=Vi j.sm;obtain⟨L,F⟩:=h.lim f;obtain⟨Z,c,C,N,A,G,s,z,M,d⟩:=h.poss.2.1 f;have:Z=p:=by
  have:=C.2;rw[g.2]at this;grind
 subst this;obtain⟨_,r⟩:=h.range.1 (.inr f);have a:(Gd (K6 b))[(Gy e).toNat]?=some c:=by
  have:=A;unfold atI at this;grind
 have t:Ql (K6 b) (Xw (K2 b) (Zgs b e Z) (Gg e)):=by
  refine ZGr j.ok.1 z (λR=>?_) (λR=>?_) L F r.1 r.2 a s (XP j.ok.1 g.mem)
  ·obtain⟨x,D,E⟩:=Ke.1 R
   have:=ZrD M x D;simp[E]at this
  ·have:=ZrD d _ R
   simp at this
 have u:ZbJ (Xw (K2 b) (Zgs b e Z) (Gg e)) ((K5 (K2 b)).length:Int):=by
  unfold ZbJ;show 0<=_/\_<=((K5 (K2 b)++[Gg e]).length:Int)-1;grind
 have k:=Zfn (e:=e) (q:=Z) j g.2;have m:Ql (K6 b) (Zg7 b e Z):=by
  rw[Zh1 g.2];exact Zve t k N u
 have I:=ZQ m.few;have n:=j.ok.2.1;have l:Zg (Zg7 b e Z)=(Zg (Xw (K2 b) (Zgs b e Z) (Gg e))).set (ZjG b (K9 e).toNat) (Z.1,Z.2.1,((K5 (K2 b)).length:Int),Z.2.2.2.1,()):=by
  rw[Zh1 g.2];exact XC k _
 refine⟨⟨m,?_,?_⟩,?_⟩
 ·show(JM (Zg (Zg7 b e Z)) (K4 b++[ZqW]) (ZtC b (K9 e).toNat)).length=(K5 (Xl (K2 b) Z.1 Z.2.1 _)++[Gg e]).length
  rw[ZeE,Ug,Ug,X0,n];rfl
 ·refine Ztx (pl:=Zg (Zg7 b e Z)) (λv w H=>?_) ?_
  ·by_cases B:v<(K4 b).length
   ·rw[Ut B]at H
    exact⟨_,j.ok.2.2 v w H⟩
   ·rw[UE (by omega)]at H
    have:=Ud H;rw[Ux]at this;rw[this];exact⟨_,ZEj⟩
  ·rw[l]
   refine(ZCj j g.2 N).set _ 0 (λw H=>?_);rw[Up,<-n,UE (UO _),Nat.sub_self]at H;grind
 ·refine Zft U ?_ (Ztg ⟨?_,λy i=>?_⟩)
  ·exact ZG2 (ZvZ W _ _ _) (by rw[YG];omega) (by rw[X0];omega) (Zqy o (by show 2<=_;omega)) o
  ·grind
  ·rcases Uu.1 i with i|i
   ·exact X.2 y i
   ·rw[Ux]at i
    rw[i];exact Zju (by decide) (by decide) (by decide) (by decide)
theorem Fits.cut (h:Fits (Zg d) ws nd) (n:0<(K3 d).length) (l:(K3 d)[(K3 d).length-1]?=some x) (f:(Gc x).length=2) (m:Nat) :
  Fits (Zg (YK d)) (ws.take m) (Zqe nd (Z5 (YK d))):=by
 intro k p w g N H;rw[UB]at H;split at H
 ·unfold Zqe
  have a:=ZhY (s:=[]) n l;by_cases c:k<Z5 (YK d)
  ·rw[Uc c]
   exact h k p w (by rw[a,ZlG c];exact g) N H
  ·rw[Ue c]
   have:=ZkA (d:=YK d) (x:=x) (s:=[]) (k:=k);rw[f]at this;exact h (k+2) p w (by grind) N H
 ·cases H
theorem Zbb (d:Zb):(Zg d).length=Z5 d+(Ge d).length:=by
 unfold Zg Z5;rw[Ug,Zus]
theorem ZgA (g:(Zg d)[k]?=some p) (n:Int):Z5 (Xl d p.1 p.2.1 n)=Z5 d:=by
 have h:=Zbb d;have f:=Zbb (Xl d p.1 p.2.1 n);rw[XC g,UH,Zfp]at f;omega
theorem Zkg (h:Z7 b) (G:Zjb b) (hs:Xx (K2 b) (((K5 (K2 b)).length:Int)-1)=[(k:Int)]) (g:(Zg (K2 b))[k]?=some p) (a7:p.1≠((K3 (K2 b)).length:Int)-1)
  (hm:∀x,(K3 (K2 b))[(K3 (K2 b)).length-1]?=some x->atI (Gc x) 0=some m):Z7 (YO b k p m):=by
 obtain⟨U,W,X⟩:=Vi h.sm;obtain⟨k',p',b0,C,a9,t,L⟩:=G.sink h;have P:k=k':=by
  grind
 subst P;rw[g]at C;injection C with C
 subst C;obtain⟨x,c,w,M,K,l,hc,a1,a2,T,o,hl,a4,a5,a,b4,b5,a6,V⟩:=G;have R:M=m:=by
  grind
 subst R;have F:=h.ok.1;have Z:=h.ok.2.1;have H:(Gc x)[0]?=some M:=o;have a3:(Gc x)[1]?=some (((K5 (K2 b)).length:Int)-1):=hl;have r:=(F.2.2.1 x (Ud l)).2.2 M (Ud H);have z:QA x=((K5 (K2 b)).length:Int)-1:=by
  have:=Zli (x:=x);grind
 have S:Ql (K6 b) (Xl (K2 b) p.1 p.2.1 M):=Zve F g t r;have Q:0<(K3 (Xl (K2 b) p.1 p.2.1 M)).length:=by rw[YG];exact K
 have J:(K3 (Xl (K2 b) p.1 p.2.1 M))[(K3 (Xl (K2 b) p.1 p.2.1 M)).length-1]?=some x:=by
  have B:(K3 (Xl (K2 b) p.1 p.2.1 M))[(K3 (Xl (K2 b) p.1 p.2.1 M)).length-1]?=some ((K3 (Xl (K2 b) p.1 p.2.1 M))[(K3 (Xl (K2 b) p.1 p.2.1 M)).length-1]'(by omega)):=Ub _;generalize (K3 (Xl (K2 b) p.1 p.2.1 M))[(K3 (Xl (K2 b) p.1 p.2.1 M)).length-1]'(by omega)=y at B;obtain⟨x',O,_,_,_,he,_⟩:=Zdy B;rw[YG,l]at O;injection O with O
  rw[B,O,he (by rw[YG];omega)]
 have u:∀q∈Zg (Xl (K2 b) p.1 p.2.1 M),q.2.2.2.1=false->q.2.2.1≠((K5 (Xl (K2 b) p.1 p.2.1 M)).length:Int)-1:=by
  intro q N Y e;rw[X0]at e;rw[XC g]at N;obtain⟨j,n⟩:=U4 N;rw[UR]at n;split at n
  ·grind
  ·rename_i a0
   have i:=Zij n e Y;have E:(Xx (K2 b) (((K5 (K2 b)).length:Int)-1))[nth (Zg (K2 b)) (((K5 (K2 b)).length:Int)-1) j]?=some (j:Int):=i;rw[hs]at E;have d:=Ud E;rw[Ux]at d;grind
 have I:Ql (K6 b) (unD b p M):=ZGG S Q J (by rw[X0];exact z) u;have s:Z5 (unD b p M)=Z5 (K2 b)-2:=by
  have D:=Zhb Q J T;have f:=ZgA g M;unfold unD;omega
 have a8:=ZQ I.few;refine⟨⟨I,?_,?_⟩,?_⟩
 ·show(JM (Zg (unD b p M)) ((K4 b).take ((K4 b).length-1)) (unN b k)).length=((K5 (Xl (K2 b) p.1 p.2.1 M)).take ((K5 (Xl (K2 b) p.1 p.2.1 M)).length-1)).length
  rw[ZeE,Uk,Uk,X0,Z]
 ·refine Ztx (pl:=Zg (unD b p M)) (λv w a=>?_) ?_
  ·rw[UB]at a
   split at a
   ·exact⟨_,h.ok.2.2 v w a⟩
   ·cases a
  ·have D:Fits (Zg (Xl (K2 b) p.1 p.2.1 M)) (K4 b) (mvN b k (YF b (Z5 (K2 b)-2))):=by
    rw[XC g];refine(Zlg h).set M _ (λw' A=>?_);have d:=Zbs l H;rw[U7,ZrH K l T]at d;refine Zlg h _ _ w' d ?_ A;show decide ((0:Int)=Wq (((Gc x).length:Int)-1))=false;rw[T,QR];decide
   have f:=D.cut Q J T ((K4 b).length-1);have i:Z5 (YK (Xl (K2 b) p.1 p.2.1 M))=Z5 (K2 b)-2:=s;rw[i]at f;exact f
 ·exact Zft U (ZG3 (ZvZ W _ _ _)) (Ztg (Zv0 X _))
theorem Zo5 (t:ZE) (r:sm Zaw t):Zj7 t=some t:=by
 have E:=ZfW (GS t) (Zv (t:=.int .i64) r.1);have i:=ZfW (GA t) (Zv (t:=.int .i64) r.2.1);have k:=ZfW (Gz t) (Zv (t:=.int .i64) r.2.2.1);unfold Zj7;rw[E,i,k];rfl
theorem Zjy (l:List ZE) (q:sm (.sl Zaw) l):Zci l=some l:=by
 have d:=Zv q;unfold Zci;have:=Yv (l:=l) (λk=>(l.take k,(k:Int),())) (step:=λv=>Zan l v.1 v.2.1) (good:=l) (λk x h H=>by
  have a:((l.take k).length+[x].length)*72<=140737488355328:=by grind
  simp only[Zan,show(k:Int)<(l.length:Int) by omega,Ui,Zp,h,Bq,Zo5 x (JJ q h),Zk a,Y3 (show k<=1048576 by omega)];rw[Xf h]) (by
  simp only[Zan,Uf,Uh,Uq])
 simpa using this
theorem ZqF (c:Zo) (q:sm Zcq c):Zj9 c=some c:=by
 have p1:sm (.sl Znm) (Gb c):=q.2.2.1;have p:sm (.sl Zof) (Gp c):=q.2.2.2.1;have P:sm (.sl (.int .i64)) (GD c):=q.2.2.2.2.1;have d:=Zv p1;have j:=Zv p;have L:=Zv P;unfold Zj9;rw[Zk (by grind),ZfW _ L,Bq];have:=Yv (l:=Gp c) (λk=>((k:Int),(Gp c).take k,())) (step:=λv=>Zd9 c (GD c) v.1 v.2.1) (good:=c) (λk x h H=>by
  obtain⟨Q,b⟩:=ZDi (JJ p h);have a:∀y:ZK,(((Gp c).take k).length+[y].length)*80<=140737488355328:=λy=>by grind
  simp only[Zd9,show(k:Int)<((Gp c).length:Int) by omega,Ui,Zp,h,Bq,Zjy _ Q,Zjy _ b,Zk (a _),Y3 (show k<=1048576 by omega)];rw[Xf h]) (by
  simp only[Zd9,Uf,Uh,Uq];rfl)
 simpa using this
theorem Zng (a:Zu) (n:sm X9 a):Zds a=some a:=by
 have q:=ZoZ n;have d:=Zv q;unfold Zds;have:=Yv (l:=Gd a) (λk=>((k:Int),(Gd a).take k,())) (step:=λv=>JZ a v.1 v.2.1) (good:=a) (λk x h H=>by
  have g:(((Gd a).take k).length+[x].length)*112<=140737488355328:=by grind
  simp only[JZ,show(k:Int)<((Gd a).length:Int) by omega,Ui,Zp,h,Bq,ZqF x (JJ q h),Zk g,Y3 (show k<=1048576 by omega)];rw[Xf h]) (by
  simp only[JZ,Uf,Uh,Uq])
 simpa using this
theorem Zoe (d:Zb) (N:sm YN d):Zkb d=some d:=by
 obtain ⟨s,S,t⟩:=Zbw N;have L:=Zv s;have j:=Zv S;have b:=Zv t;unfold Zkb;rw[Zk (by grind),Zk (by grind)];have:=Yv (l:=K3 d) (λk=>((k:Int),(K3 d).take k,())) (step:=λv=>Zeb d v.1 v.2.1) (good:=d) (λk x h H=>by
  have J:=ZfW (Gc x) (Zv (Zjt (JJ s h)).2);have a:∀y:Zd,(((K3 d).take k).length+[y].length)*48<=140737488355328:=λy=>by grind
  simp only[Zeb,show(k:Int)<((K3 d).length:Int) by omega,Ui,Zp,h,Bq,J,Zk (a _),Y3 (show k<=1048576 by omega)];rw[Xf h]) (by
  simp only[Zeb,Uf,Uh,Uq];rfl)
 simpa using this
theorem ZqG (b:Za) (H:sm Ya b):Zin b=some b:=by
 obtain ⟨U,W,X⟩:=Vi H;have d:=Zv X;unfold Zin;rw[Zng _ U,Bq,Zoe _ W,Bq];have:=Yv (l:=K4 b) (λk=>((k:Int),(K4 b).take k,())) (step:=λv=>Zec b (K6 b) (K2 b) v.1 v.2.1) (good:=b) (λk x h c=>by
  have a:(((K4 b).take k).length+[x].length)*96<=140737488355328:=by grind
  simp only[Zec,show(k:Int)<((K4 b).length:Int) by omega,Ui,Zp,h,Bq,Zk5 x (JJ X h),Zk a,Y3 (show k<=1048576 by omega)];rw[Xf h]) (by
  simp only[Zec,Uf,Uh,Uq])
 simpa using this
theorem Zil (g:(Zg d)[k]?=some p) (n:Int):Zck d p n=some (Xl d p.1 p.2.1 n):=by
 unfold Zck Xl;rcases QN g with⟨i,j,x,m,l,f,e,rfl⟩|⟨j,q,b,e,rfl⟩
 ·have c:¬((i:Int)<0):=by omega
  simp only[ZcI,GL,ZG.pin,Ue c,Zp,l,Bq,Up];have Q:x.2.2.1[j]?=some m:=f;rw[Q];rfl
 ·have c:((-1:Int)<0):=by omega
  simp only[GL,ZG.pin,Uc c,Zp,b,Bq,Up];rfl
def ZBH (pl:List Pl) (ws:List Zq) (nd:Nat->Int) (k:Nat):List Zq:=cat (λv w=>[if v<k then Zce w ((cat (Qu (v:Int)) 0 pl).map (λk=>nd k.toNat))else w]) 0 ws
variable (pl:List Pl) (ws:List Zq) (nd:Nat->Int)
theorem Zls (k v:Nat):(ZBH pl ws nd k)[v]?=(ws[v]?).map (λw=>if v<k then Zce w ((cat (Qu (v:Int)) 0 pl).map (λk=>nd k.toNat))else w):=by
 unfold ZBH;rw[Zcx,Us]
theorem Zty (k:Nat):(ZBH pl ws nd k).length=ws.length:=ZbL _ _
theorem ZBJ:ZBH pl ws nd 0=ws:=by
 apply Uy;intro v;rw[Zls];simp
theorem ZDy:ZBH pl ws nd ws.length=JM pl ws nd:=by
 apply Uy;intro v;rw[Zls,Qc];grind
theorem ZBI {pl:List Pl} {ws:List Zq} {nd:Nat->Int} (c:ws[k]?=some w):(ZBH pl ws nd k)[k]?=some w/\(ZBH pl ws nd k).set k (Zce w ((cat (Qu (k:Int)) 0 pl).map (λk=>nd k.toNat)))=ZBH pl ws nd (k+1):=by
 constructor
 ·rw[Zls,c];simp
 ·apply Uy
  intro v;rw[UR,Zty];split
  ·rename_i e
   subst e;rw[Uc (Ua.1 c).1,Zls,c,UV,QP]
  ·rw[Zls,Zls]
   grind
theorem Zi7 {nodes:List Int} (f:Few (K2 b)) (r:nodes.length=(Zg (K2 b)).length) (u:(K4 b).length<=1048576) :
  JB b nodes=some (K6 b,K2 b,JM (Zg (K2 b)) (K4 b) (Zqf nodes),()):=by
 have e:=ZQ f;unfold JB;have:=Yv (l:=K4 b) (λk=>((k:Int),ZBH (Zg (K2 b)) (K4 b) (Zqf nodes) k,())) (step:=λv=>ZbX b nodes v.1 v.2.1) (good:=(K6 b,K2 b,JM (Zg (K2 b)) (K4 b) (Zqf nodes),())) (λk w c t=>by
  obtain⟨a,A⟩:=ZBI (nd:=Zqf nodes) (pl:=Zg (K2 b)) c;have m:(Xx (K2 b) (k:Int)).length<=(Zg (K2 b)).length:=ZaN (k:Int) (Zg (K2 b)) 0;simp only[ZbX];rw[Uc (show(k:Int)<((ZBH (Zg (K2 b)) (K4 b) (Zqf nodes) k).length:Int) by rw[Zty];omega),Xn _ _ f,Bq];refine Yv (l:=Xx (K2 b) (k:Int)) (λi=>(((Xx (K2 b) (k:Int)).take i).map (λx=>Zqf nodes x.toNat),(i:Int),())) (λi x h o=>?_) ?_
  ·obtain⟨j,p,d,ex,s,n,H⟩:=Znd (pl:=Zg (K2 b)) h
   have q:=(Ua.1 d).1;have G:nodes[j]?=some (Zqf nodes j):=by
    unfold Zqf;grind
   simp only[Zeu,show(i:Int)<((Xx (K2 b) (k:Int)).length:Int) by omega,Ui,Zp,h,Bq];have g:=Xf h;subst ex;rw[Zp,G,Bq,Zk (by grind),Y3 (show i<=1048576 by omega),g,Kd];rfl
  ·simp only[Zeu,Uf,Uh,Zp,a,Bq,Y3 (show k<=1048576 by omega),Up,Uq]
   rw[<-A];rfl) (by
  simp only[ZbX];rw[Ue (show ¬((K4 b).length:Int)<((ZBH (Zg (K2 b)) (K4 b) (Zqf nodes) (K4 b).length).length:Int) by rw[Zty];omega),ZDy])
 rw[ZBJ]at this;exact this
theorem ZnV (b:Za):Zqf (Zco b)=YF b:=by
 funext k;unfold Zqf;by_cases H:k<(Zg (K2 b)).length
 ·rw[ZkT H];rfl
 ·rw[UA (by rw[ZcY];omega)]
  unfold YF;grind
theorem Zow (h:Z7 b) (g:(Zg (K2 b))[k]?=some p) (c:p.2.2.2.1=false) (f:ZbJ (K2 b) n) :
  Vy (K6 b,Xl (K2 b) p.1 p.2.1 n,K4 b,()) (ZoA Key (.int .i64) (Zcb (Zg (K2 b)) (YF b) (Zg (K2 b)).length) (ZwR p) v)=some (moved b k p n v):=by
 have F:=((Zjk (K2 b) (YF b)).put g v).set g n;rw[<-XC g n]at F;have d:(K4 b).length<=1048576:=Zv (Vi h.sm).2.2;have a:n<((K4 b).length:Int):=by rw[h.ok.2.1];have:=f.2;omega
 exact Zib (b:=(K6 b,Xl (K2 b) p.1 p.2.1 n,K4 b,())) (h.ok.1.few.Xl p.1 p.2.1 n) F (by
  show ZlB (Zg (Xl (K2 b) p.1 p.2.1 n)) (K4 b).length;rw[XC g];refine ZlB.set (λq H N=>?_) f.1 a;have:=XP h.ok.1 H;rw[h.ok.2.1];exact ⟨this.1,by have:=this.2;omega⟩) d
theorem ZuJ (h:Z7 b) (g:(Zg (K2 b))[k]?=some p) (n v:Int) :
  JB (K6 b,Xl (K2 b) p.1 p.2.1 n,K4 b,()) ((Zco b).set k v)=some (moved b k p n v):=by
 have H:=(Ua.1 g).1;have f:=h.ok.1.few.Xl p.1 p.2.1 n;have e:=Zi7 (b:=(K6 b,Xl (K2 b) p.1 p.2.1 n,K4 b,())) (nodes:=(Zco b).set k v) f (by
  show ((Zco b).set k v).length=(Zg (Xl (K2 b) p.1 p.2.1 n)).length;rw[UH,ZcY,XC g,UH]) (Zv (Vi h.sm).2.2)
 rw[e];have i:Zqf ((Zco b).set k v)=mvN b k v:=by
  funext j;rw[ZsR (by rw[ZcY];exact H),ZnV];rfl
 rw[i];rfl
theorem ZAv (h:Z7 b):ZlB (Zg (K2 b)) (K4 b).length:=λq H _=>by
 have:=XP h.ok.1 H;rw[h.ok.2.1];exact⟨this.1,by have:=this.2;omega⟩
theorem Zr1 {w':Zq} (h:∀l,Zce w l=Zce w' l):JM pl (ws++[w]) nd=JM pl (ws++[w']) nd:=by
 unfold JM;rw[Zc4,Zc4];simp only[cat,h]
theorem ZlO (h:Ve b e) (K:K7 e=2) (m:sm .str (Gg e)) (g:J5 b e p) (N:p.2.2.2.1=false):Zd1 b e=some (X6 b e (K9 e).toNat p):=by
 have j:=h.blk;have f:=j.ok.1.few;have y:=f.insts;have i:=j.ok.1.2.1.2.1;have Z:=j.ok.2.1;have r:=Zh2 h K m g;have k:=Zfn (e:=e) (q:=p) j g.2;have H:=Zjk (K2 b) (YF b);have v:Zkx Key (.int .i64) (Zcb (Zg (K2 b)) (YF b) (Zg (K2 b)).length) (p.1,p.2.1,())=some (YF b (K9 e).toNat):=H _ p g.2 N;have a:=H.add (x:=Zgs b e p) (s:=Gg e) rfl (by omega) (YF b (K9 e).toNat);have u:=(a.put k 0).set k ((K5 (K2 b)).length:Int);rw[<-XC k,<-Zh1 g.2] at u;have n:=ZAv r;have l:(K4 (X6 b e (K9 e).toNat p)).length=(K4 b++[ZqW]).length:=ZeE _ _ _;rw[l] at n;have z:=Zib (b:=(K6 b,Zg7 b e p,K4 b++[ZqW],())) r.ok.1.few u n (by
  grind)
 have c:=ZgV (b:=(K6 b,Xw (K2 b) (Zgs b e p) (Gg e),K4 b++[ZqW],())) k ((K5 (K2 b)).length:Int);have d:Xl (K2 ((K6 b,Xw (K2 b) (Zgs b e p) (Gg e),K4 b++[ZqW],()):Za)) p.1 p.2.1 ((K5 (K2 b)).length:Int)=Zg7 b e p:=(Zh1 g.2).symm;rw[d] at c;unfold Zd1;rw[ZdG j,Bq,ZM _ f,Bq,g.at,Bq,
  show XG (K5 (K2 b))=some ((K5 (K2 b)).length:Int)from rfl,Bq,
  show Q6 (K3 (K2 b))=some ((K3 (K2 b)).length:Int)from rfl,Bq,
  Zk (by grind),Zk (by grind),Zk (by grind)]
 refine Eq.trans (UN (λo=>Option.bind o _) c) ?_;rw[Bq];have E:Option.getD (Zkx ZcQ (Ty.int IntKind.i64) (Zcb (Zg (K2 b)) (YF b) (Zg (K2 b)).length) (Gt p,ZL.pin p,())) (0:Int)=YF b (K9 e).toNat:=by
  grind
 rw[E];refine Eq.trans (UN (λo=>Option.bind o _) z) ?_;rfl
theorem ZAs (H:k<(Zg (K2 b)).length) (v:Int) (a:v=YF b k) :
  Zqf (((Zco b).take (Z5 (K2 b))++[v,0]++(Zco b).drop (Z5 (K2 b))).set (ZjG b k) 0)=ZtC b k:=by
 have f:=Zbb (K2 b);have R:Z5 (K2 b)<=(Zco b).length:=by rw[ZcY];omega
 funext j;rw[ZsR (by
  rw[Ug,Ug,Uk,UY,ZcY];unfold ZjG;grind),ZCW R,ZnV,a]
 rfl
theorem Zrg (h:Ve b e) (K:K7 e=2) (G:sm .str (Gg e)) (g:J5 b e p) (O:p.2.2.2.1=false):Zdc b e=some (X6 b e (K9 e).toNat p):=by
 have j:=h.blk;have f:=j.ok.1.few;have E:=ZQ f;have r:=f.insts;have L:=f.ports;have t:=j.ok.1.2.1.2.1;have Z:=j.ok.2.1;have m:=(Ua.1 g.2).1;have I:=g.1;have s:=Zbb (K2 b);have v:=Zh2 h K G g;have F:Wq (((Zco b).length:Int)-((Ge (K2 b)).length:Int))=(Z5 (K2 b):Int):=by
  rw[ZcY,QR];omega
 have V:List.take ((Zco b).length-Z5 (K2 b)) (List.drop (Z5 (K2 b)) (Zco b))=List.drop (Z5 (K2 b)) (Zco b):=KC (by grind);have H:Zav 1 0=some (([-1],[0],[0],[0],()):Zq):=by
  unfold Zav;rw[Ra,Ra,Ra,Ra];rfl
 have M:((Zco b).take (Z5 (K2 b))++[YF b (K9 e).toNat,0]++(Zco b).drop (Z5 (K2 b))).length=(Zg (K2 b)).length+2:=by
  rw[Ug,Ug,Uk,UY,ZcY];grind
 have z:ZjG b (K9 e).toNat<(Zg (K2 b)).length+2:=by
  unfold ZjG;split<;>omega
 have o:(Zg (Zg7 b e p)).length=(Zg (K2 b)).length+2:=by
  have J:=Zbb (Zg7 b e p);rw[Zh1 g.2,XC (Zfn (e:=e) (q:=p) j g.2),UH];rw[ZhX,Ug,Ug,Q9,Zus,s];unfold Z5 Zgs;grind
 have d:=Zi7 (b:=(K6 b,Zg7 b e p,K4 b++[([-1],[0],[0],[0],())],())) (nodes:=((Zco b).take (Z5 (K2 b))++[YF b (K9 e).toNat,0]++(Zco b).drop (Z5 (K2 b))).set (ZjG b (K9 e).toNat) 0) v.ok.1.few (by
  grind) (by
  grind)
 rw[ZAs m _ rfl]at d;have u:JB (K6 b,Zg7 b e p,K4 b++[([-1],[0],[0],[0],())],()) ((((Zco b).take (Z5 (K2 b))++[YF b (K9 e).toNat,0]++(Zco b).drop (Z5 (K2 b)))).set (ZjG b (K9 e).toNat) 0)=some (X6 b e (K9 e).toNat p):=by
  rw[d];show some (K6 b,Zg7 b e p,JM (Zg (Zg7 b e p)) (K4 b++[([-1],[0],[0],[0],())]) (ZtC b (K9 e).toNat),())=_;rw[Zr1 _ _ _ (w:=([-1],[0],[0],[0],())) (w':=ZqW) (λl=>rfl)];rfl
 unfold Zdc;rw[ZP _ f,Bq,g.at,Bq,Zhq j,Bq,Yr g.1 (ZkT m),Bq,F];simp only[Up,Int.toNat_zero,Nat.sub_zero,KE,V];have A:(K3 (Xl (K2 b) p.1 p.2.1 ((K4 b).length:Int))).length=(K3 (K2 b)).length:=YG;have B:(K5 (Xl (K2 b) p.1 p.2.1 ((K4 b).length:Int))).length=(K5 (K2 b)).length:=by rw[X0]
 have D:(List.take (Z5 (K2 b)) (Zco b)).length=Z5 (K2 b):=by grind
 have T:(List.drop (Z5 (K2 b)) (Zco b)).length=(Ge (K2 b)).length:=by grind
 rw[Ra,Zk (by rw[ZcY];omega),ZfW _,Bq,
  Zk (by grind),Ra,Zk (by grind),
  Zil g.2,Bq]
 have x:∀(i:Nat),i<(Zg (K2 b)).length+2->∃y,((Zco b).take (Z5 (K2 b))++[YF b (K9 e).toNat,0]++(Zco b).drop (Z5 (K2 b)))[i]?=some y:=λi C=>⟨_,Ub (by rw[M];exact C)⟩;have k:((K3 (Xl (K2 b) p.1 p.2.1 ((K4 b).length:Int))++[(Gg e,Gy e,[ZG.net p,((K4 b).length:Int)],())],K5 (Xl (K2 b) p.1 p.2.1 ((K4 b).length:Int))++[Gg e],(Xl (K2 b) p.1 p.2.1 ((K4 b).length:Int)).snd.snd):Zb)=Zg7 b e p:=by
  rw[Z];rfl
 by_cases N:Z5 (K2 b)<=(K9 e).toNat
 ·have a:ZjG b (K9 e).toNat=(K9 e).toNat+2:=by unfold ZjG;grind
  obtain ⟨y,c⟩:=x ((K9 e).toNat+2) (by omega);rw[QP,QR (n:=K9 e+2),show K9 e+2=(((K9 e).toNat+2:Nat):Int) by omega,Zp,c,Bq,
   Zk (by grind),Zk (by grind),H,Bq,Zk (by grind),Up,<-a,k]
  grind
 ·have a:ZjG b (K9 e).toNat=(K9 e).toNat:=by unfold ZjG;grind
  obtain ⟨y,c⟩:=x (K9 e).toNat (by omega);rw[QQ,Yr g.1 c,Bq,
   Zk (by grind),Zk (by grind),H,Bq,Zk (by grind),k]
  grind
theorem Zo6 (h:Z7 b) (G:Zjb b) (K:Xx (K2 b) (((K5 (K2 b)).length:Int)-1)=[(k:Int)]) (g:(Zg (K2 b))[k]?=some p) (z:p.1≠((K3 (K2 b)).length:Int)-1)
  (R:∀x,(K3 (K2 b))[(K3 (K2 b)).length-1]?=some x->atI (Gc x) 0=some m):Zg2 b=some (YO b k p m):=by
 have S:=Zkg h G K g z R;obtain⟨X,x,H,T⟩:=G.two;have v:=R x H;have f:=h.ok.1.few;have Y:=ZQ f;have L:=f.insts;have h8:=f.ports;have M:=h.ok.1.2.1.2.1;have a0:=h.ok.2.1;have W:=(Ua.1 g).1;have h2:=Zbb (K2 b);have U:=Zhb X H T;have J:1<=(K5 (K2 b)).length:=by
  have:=XP h.ok.1 (Ud g);unfold ZbJ at this;omega
 have a1:atI (K3 (K2 b)) (((K3 (K2 b)).length:Int)-1)=some x:=Yr (by omega) (by simp_all);have t1:Int.toNat (((K3 (K2 b)).length:Int)-1)=(K3 (K2 b)).length-1:=by omega
 have q:((List.set (K3 (K2 b)) ((K3 (K2 b)).length-1) x,(K2 b).snd):Zb)=K2 b:=by rw[JX H]
 have c:Wq (((K4 b).length:Int)-1)=(((K4 b).length-1:Nat):Int):=by rw[QR];omega
 have d:Wq (((Zco b).length:Int)-((Ge (K2 b)).length:Int))=(Z5 (K2 b):Int):=by rw[ZcY,QR];omega
 have e:Wq ((Z5 (K2 b):Int)-2)=((Z5 (K2 b)-2:Nat):Int):=by rw[QR];omega
 have n:Wq (((K3 (K2 b)).length:Int)-1)=(((K3 (K2 b)).length-1:Nat):Int):=by rw[QR];omega
 have C:Xv (K2 b) (((K4 b).length-1:Nat):Int)=some [(k:Int)]:=by
  rw[Xn _ _ f,show(((K4 b).length-1:Nat):Int)=((K5 (K2 b)).length:Int)-1 by omega,K]
 have D:atI (K3 (K2 b)) (((K3 (K2 b)).length-1:Nat):Int)=some x:=by grind
 have s:(List.set (Zco b) k (YF b (Z5 (K2 b)-2))).length=(Zg (K2 b)).length:=by rw[UH,ZcY]
 have V:List.take ((List.set (Zco b) k (YF b (Z5 (K2 b)-2))).length-Z5 (K2 b)) (List.drop (Z5 (K2 b)) (List.set (Zco b) k (YF b (Z5 (K2 b)-2))))=List.drop (Z5 (K2 b)) (List.set (Zco b) k (YF b (Z5 (K2 b)-2))):=KC (by grind);have A:(K3 (Xl (K2 b) p.1 p.2.1 m)).length=(K3 (K2 b)).length:=YG;have r:(K5 (Xl (K2 b) p.1 p.2.1 m)).length=(K5 (K2 b)).length:=by rw[X0]
 have t:(List.take (Z5 (K2 b)-2) (List.set (Zco b) k (YF b (Z5 (K2 b)-2)))).length=Z5 (K2 b)-2:=by grind
 have u:(List.drop (Z5 (K2 b)) (List.set (Zco b) k (YF b (Z5 (K2 b)-2)))).length=(Ge (K2 b)).length:=by grind
 have I:Z5 (unD b p m)=Z5 (K2 b)-2:=by
  have Q:0<(K3 (Xl (K2 b) p.1 p.2.1 m)).length:=by grind
  have B:(K3 (Xl (K2 b) p.1 p.2.1 m))[(K3 (Xl (K2 b) p.1 p.2.1 m)).length-1]?=some ((K3 (Xl (K2 b) p.1 p.2.1 m))[(K3 (Xl (K2 b) p.1 p.2.1 m)).length-1]'(by omega)):=Ub _;generalize (K3 (Xl (K2 b) p.1 p.2.1 m))[(K3 (Xl (K2 b) p.1 p.2.1 m)).length-1]'(by omega)=x' at B;obtain⟨y,a,_,_,E,_⟩:=Zdy B;rw[YG,H]at a;injection a with a
  have N:=Zhb Q B (by rw[E,<-a,T]);have O:=ZgA g m;unfold unD;omega
 have Z:(Zg (unD b p m)).length=(Zg (K2 b)).length-2:=by
  have N:=Zbb (unD b p m);have O:(Ge (unD b p m)).length=(Ge (K2 b)).length:=Zfp;omega
 have F:=Zi7 (b:=(K6 b,unD b p m,(K4 b).take ((K4 b).length-1),())) (nodes:=(Zco b |>.set k (YF b (Z5 (K2 b)-2))).take (Z5 (K2 b)-2)++(Zco b |>.set k (YF b (Z5 (K2 b)-2))).drop (Z5 (K2 b))) S.ok.1.few (by
  grind) (by
  grind)
 have w:Zqf ((Zco b |>.set k (YF b (Z5 (K2 b)-2))).take (Z5 (K2 b)-2)++(Zco b |>.set k (YF b (Z5 (K2 b)-2))).drop (Z5 (K2 b)))=unN b k:=by
  funext j;have:=ZCV (l:=(Zco b).set k (YF b (Z5 (K2 b)-2))) (m:=Z5 (K2 b)-2) (by omega) j;rw[show Z5 (K2 b)-2+2=Z5 (K2 b) by omega]at this;rw[this];unfold unN;congr 1;funext i;rw[ZsR (by grind),ZnV];rfl
 rw[w]at F;have P:((List.take ((K3 (K2 b)).length-1) (K3 (Xl (K2 b) p.1 p.2.1 m)),List.take ((K4 b).length-1) (K5 (Xl (K2 b) p.1 p.2.1 m)),(Xl (K2 b) p.1 p.2.1 m).snd.snd):Zb)=unD b p m:=by
  unfold unD YK;grind
 unfold Zg2;rw[Zhq h,Bq,c,C,Bq,show atI [(k:Int)] 0=some (k:Int) from rfl,Bq,d,e,Zp,ZkT,Bq,Zp,ZkT W,Bq,n,D,Bq,
  show x.snd.snd.fst=Gc x from rfl,v,Bq]
 simp only[Up,Int.toNat_zero,Nat.sub_zero,KE];rw[q,ZP _ f,Bq,Zp,g,Bq,Zil g,Bq,Ra,Zk (by rw[s];omega),ZfW _,Bq,
  Ra,Zk (by rw[s];omega),Ra,V,Zk (by rw[t,u];omega),Ra,Zk (by rw[A];omega),Ra,Zk (by rw[r];omega),Ra,P]
 refine Eq.trans (UN (λo=>Option.bind o _) F) ?_;rfl
def Lens (b:Za) (e:Zh) (r:Za):Prop:=(Zg (K2 r)).length+(if K7 e=3 then 2 else 0)=(Zg (K2 b)).length+(if K7 e=2 then 2 else 0)
theorem ZyP (d:Zb) (x:Zd) (s:List UInt8):(Zg (Xw d x s)).length=(Zg d).length+(Gc x).length:=by
 rw[ZhX,Ug,Ug,Q9];unfold Zg;grind
theorem ZEk (h:Z7 b) (g:(Zg (K2 b))[k]?=some p):(Zg (Zg7 b e p)).length=(Zg (K2 b)).length+2:=by
 rw[Zh1 g,XC (Zfn h g),UH,ZyP];rfl
variable {r:Za}
theorem ZvB (f:K7 e≠2) (g:K7 e≠3) (h:(Zg (K2 r)).length=(Zg (K2 b)).length):Lens b e r:=by
 unfold Lens;grind
theorem Zg5 (h:Ve b e) (W:sm XI e):∃r,ZH e b=some r/\Zgh b e=some r/\Z7 r/\K6 r=K6 b/\Lens b e r:=by
 have j:=h.blk;have M:=j.ok.1.few;have a3:=j.ok.2.1;obtain⟨U,b2,b3⟩:=Vi j.sm;unfold ZH Zgh;rw[Vf _ j.sm,Bq,ZqG _ j.sm,Bq,ZP _ M,Bq];by_cases d:K7 e=1
 ·obtain⟨p,x,c,c2,g,h0,N,F,hc,I,ha⟩:=h.poss.1 d
  obtain⟨_,L⟩:=h.range.1 (.inl d);have J:(K3 (K2 b))[p.1.toNat]?=some x:=by
   unfold atI at F;grind
  obtain⟨⟨a4,_⟩,_,_⟩:=j.ok.1.2.2.1 x (Ud J);have i:(Gd (K6 b))[(Gr x).toNat]?=some c:=by
   unfold atI at hc;grind
  have t:(Gd (K6 b))[(Gy e).toNat]?=some c2:=by
   unfold atI at I;grind
  have H:=ZrY j h0 J i t L (ZtK (JJ (ZoZ U) i) (JJ (ZoZ U) t) ha);rw[Uc d,Uc d,ZM _ M,Bq,g.at,Bq];have Y:Gt p=p.1:=rfl;have Z:GL p=p.1:=rfl;simp only[Y,Z,F,Bq];refine⟨ZdT b p.1 (Gy e),?_,?_,H,rfl,ZvB (by omega) (by omega) ?_⟩
  ·unfold ZdT;rw[J]
  ·unfold ZdT;rw[J]
  ·unfold ZdT;rw[J];exact UN List.length (Zg4 J _)
 rw[Ue d,Ue d];by_cases f:K7 e=2
 ·obtain⟨p,c,g,N,_⟩:=h.poss.2.1 f
  have q:=(Zhx W).1;rw[Uc f,Uc f,ZlO h f q g N,Zrg h f q g N];exact⟨_,rfl,rfl,Zh2 h f q g,rfl,by unfold Lens;rw[QQ,Uc f];exact ZEk j g.2⟩
 rw[Ue f,Ue f];by_cases R:K7 e=3
 ·have E:=h.poss.2.2.1 R
  obtain⟨k,p,m,v,q,g,z,X,hv,P⟩:=Zhn j E;have H:=Zkg j E q g z X;rw[Uc R,Uc R,P,Zo6 j E q g z X];obtain⟨n,x,F,T⟩:=E.two;have Q:0<(K3 (Xl (K2 b) p.1 p.2.1 m)).length:=by rw[YG];exact n
  have B:(K3 (Xl (K2 b) p.1 p.2.1 m))[(K3 (Xl (K2 b) p.1 p.2.1 m)).length-1]?=some ((K3 (Xl (K2 b) p.1 p.2.1 m))[(K3 (Xl (K2 b) p.1 p.2.1 m)).length-1]'(by omega)):=Ub _;generalize (K3 (Xl (K2 b) p.1 p.2.1 m))[(K3 (Xl (K2 b) p.1 p.2.1 m)).length-1]'(by omega)=x' at B;obtain⟨y,A,_,_,D,_⟩:=Zdy B;rw[YG,F]at A;injection A with A
  have h5:=Zhb Q B (by rw[D,<-A,T]);have h6:=ZgA g m;have u:Z5 (unD b p m)=Z5 (K2 b)-2:=by unfold unD;omega
  refine⟨YO b k p m,by rw[u,hv];rfl,rfl,H,rfl,?_⟩;have V:=UN List.length (ZhY (s:=[]) Q B);rw[ZyP,D,<-A,T,XC g,UH]at V;unfold Lens;rw[Uc R,QQ];exact V.symm
 rw[Ue R,Ue R];by_cases K:K7 e=4
 ·obtain⟨p,g,N,a0⟩:=h.poss.2.2.2.1 K
  obtain ⟨_,n,w,hw,O⟩:=h.range.2.1 K;have hk:=(Ua.1 g.2).1;have H:=Zw5 j g.2 N n (v:=GC e) (λw' a1=>by grind);rw[Uc K,Uc K,ZdG j,Bq,ZM _ M,Bq,g.at,Bq,Zhq j,Bq,Yr g.1 (ZkT hk),Bq,Bq,Zil g.2,Bq,
   show (Gt p,ZL.pin p,())=(p.1,p.2.1,()) from rfl,ZgV g.2,Bq]
  refine⟨moved b (K9 e).toNat p (Gk e) (GC e),?_,?_,H,rfl,ZvB f R (by show(Zg (Xl _ _ _ _)).length=_;rw[XC g.2,UH])⟩
  ·exact UN (λo=>Option.bind o λC=>some C) (Zow j g.2 N n (v:=GC e))
  ·exact UN (λo=>Option.bind o λl=>some l) (ZuJ j g.2 (Gk e) (GC e))
 ·have G:K7 e=5:=by have:=h.blank;unfold Blank at this;omega
  have n:=h.range.2.2 G;obtain⟨w,a2,S,_⟩:=Zhs j n;have a:=(Zhx W).2;have H:=ZuV j n (h.poss.2.2.2.2 G) a;rw[Ue K,Ue K,Uc G,Uc G,Zdp _ a,Bq,Zk5 _ a,Bq,S,Bq];exact⟨ZxB b (Gk e) (GG e),rfl,rfl,H,rfl,ZvB f R rfl⟩
theorem Zwn (h:Ve b e) (m:sm XI e):∃r,ZH e b=some r/\Zgh b e=some r/\Z7 r/\K6 r=K6 b:=by
 obtain⟨r,d,f,g,i,_⟩:=Zg5 h m;grind
abbrev ZvL:Za:=((([]:List Zo),()),(([]:List Zd),([]:List (List UInt8)),([]:List Z6),()),([]:List Zq),())
theorem Zyo:sm Ya ZvL:=by
 refine Zft ⟨⟨by simp,λx l=>by cases l⟩,trivial⟩ (ZgH ⟨by simp,λx l=>by cases l⟩ ⟨by simp,λx l=>by cases l⟩ ⟨by simp,λx l=>by cases l⟩) ⟨by simp,λx l=>by cases l⟩
theorem ZpC (b:Za) (e:Zh) (h:sm Ya b) (m:sm XI e):∃c,VB b e=some c/\VQ b e=some c/\(c=0->Ve b e):=by
 unfold VB;rw[ZfK b h,Bq];by_cases j:ZiV b
 ·obtain⟨c,d,f,g⟩:=ZkM ⟨j,h⟩ e m
  rw[Uc (ZY j),d];exact⟨c,rfl,f,g⟩
 ·rw[Ue (λq=>j ((YS _).1 q))]
  refine⟨1,rfl,?_,λq=>by cases q⟩;unfold VQ;rw[Qb b h,Bq,Ue (λq=>j ((YS _).1 q))]
theorem Zv2 (b:Za) (e:Zh) (h:sm Ya b) (m:sm XI e):∃c,VQ b e=some c/\(c=0->Ve b e):=by
 by_cases j:ZiV b
 ·obtain⟨c,d,f,g⟩:=ZkM ⟨j,h⟩ e m
  exact⟨c,f,g⟩
 ·refine⟨1,?_,λq=>by cases q⟩
  unfold VQ;rw[Qb b h,Bq,Ue (λq=>j ((YS _).1 q))]
theorem ZtI (g:(Zg (K2 b))[k]?=some p):(after b e)[k]?=some (Zdt b e k p):=by
 unfold after;rw[Zcx,g];simp
theorem Zr7 (h:Ve b e) (o:Lens b e r) (g:(Zg (K2 b))[k]?=some p):-1<=Zdt b e k p/\Zdt b e k p<((Zg (K2 r)).length:Int):=by
 have m:=(Ua.1 g).1;obtain⟨a,i⟩:=Zcc g;unfold Lens at o;have s:(Ge (K2 b)).length<=(Zg (K2 b)).length:=by rw[Zbb];omega
 by_cases f:K7 e=2
 ·rw[QQ,Uc f]at o
  by_cases Q:p.1<0
  ·rw[Zrq f Q];omega
  ·rw[Zjd (by omega) (λq=>Q q.2)];omega
 ·by_cases R:K7 e=3
  ·rw[Uc R,Ue f]at o
   obtain⟨n,x,l,J⟩:=h.last R;by_cases Q:p.1<0
   ·rw[Zrr R Q]
    have:=a.1 Q;obtain⟨y,j⟩:∃y,(Gc x)[1]?=some y:=⟨_,Ub (by omega)⟩;have H:=Zbs l j;obtain⟨c,_⟩:=Zcc H;have:¬(ZcI ((K3 (K2 b)).length-1) x 1 y).1<0:=by
     show ¬(((K3 (K2 b)).length-1:Nat):Int)<0;omega
    grind
   ·have c:=Zn0 n l g
    rw[J]at c;by_cases d:p.1=((K3 (K2 b)).length:Int)-1
    ·rw[ZyQ R Q d];omega
    ·rw[Zrs R Q d]
     grind
  ·rw[Ue R,Ue f]at o
   rw[Zjd R (λq=>f q.1)];omega
def ZBO (n:Nat):Zf:=(List.replicate n false,List.replicate n (0,0,()),List.replicate n (0,0,()),())
theorem ZnJ (h:Few (K2 b)) (v:ZW) (a:ZW.Zg v=Zg (K2 b)):Jk v=some (ZBO (2*(Zg (K2 b)).length)):=by
 have i:=ZQ h;unfold Jk Xe;rw[show XU (ZW.Zg v)=some ((ZW.Zg v).length:Int)from rfl,Bq,Bq,a,YI (n:=2*((Zg (K2 b)).length:Int))];rw[Ra,Ra,Ra,Ra,Ra];rw[show(2*((Zg (K2 b)).length:Int)).toNat=2*(Zg (K2 b)).length by omega];rfl
def ZjC (af:List Int) (t:Zf) (k:Nat) (r:Bool) (o:Zf):Zf :=
 if(af[k/2]?).getD 0<0 then o else
  (List.set (Ga o) (2*(af[k / 2]?).getD 0+((k % 2:Nat):Int)).toNat r,List.set (Gx o) (2*(af[k / 2]?).getD 0+((k % 2:Nat):Int)).toNat (((Gx t)[k]?).getD (0,0,())),
   List.set (Gv o) (2*(af[k / 2]?).getD 0+((k % 2:Nat):Int)).toNat (((Gv t)[k]?).getD (0,0,())),())
def ZbQ (af:List Int) (t:Zf) (n:Nat):Zf:=V7 (ZjC af t) 0 (Ga t) (ZBO n)
def Zr5 (n:Nat) (o:Zf):Prop:=(Ga o).length=n/\(Gx o).length=n/\(Gv o).length=n
theorem Zog {af:List Int} {t:Zf} {n:Nat} {r:Bool} {o:Zf} (h:Zr5 n o):Zr5 n (ZjC af t k r o):=by
 unfold ZjC;split
 ·exact h
 ·obtain⟨d,f,g⟩:=h
  refine⟨?_,?_,?_⟩;all_goals grind
theorem ZsT (n:Nat):Zr5 n (ZBO n):=⟨UQ,UQ,UQ⟩
theorem ZpJ {α σ:Type} {f:Nat->α->σ->σ} (I:σ->Prop) (H:∀k x s,I s->I (f k x s)):∀(l:List α) (m:Nat) (s:σ),I s->I (V7 f m l s)
 |[],_,_,h=>h
 |x::r,m,s,h=>ZpJ I H r (m+1) (f m x s) (H m x s h)
theorem Zv8 (af:List Int) (t:Zf) (n:Nat):Zr5 n (ZbQ af t n):=ZpJ (Zr5 n) (λk x s h=>Zog h) _ _ _ (ZsT n)
theorem ZFV (h:k<=1048576:=by omega):Wq (Int.tdiv (k:Int) 2)=((k/2:Nat):Int):=by
 rw[U1 (by omega),QR];omega
theorem ZFW (k:Nat):Int.tmod (k:Int) 2=((k%2:Nat):Int):=by
 grind
theorem ZEY {x:Int}:x∈srt l<->x∈l:=List.mem_mergeSort
variable (l:List Int)
theorem ZBj:(srt l).length=l.length:=List.length_mergeSort _
theorem ZAr {l:List Int} {x:Int}:x∈Znt l<->x∈l:=by
 unfold Znt Lib.compactUpTo;rw[Ke];constructor
 ·grind
 ·intro h
  obtain⟨j,b,e⟩:=List.getElem_of_mem h;have y:∀(n j:Nat),j<=n->(b:j<l.length)->l[j]=x->∃a,a∈(List.range l.toArray.size).filter (Lib.keeps l.toArray)/\l.toArray[a]! = x:=by
   intro n;induction n with
   |zero =>
    intro j f b e;have:j=0:=by omega
    subst this;refine⟨0,KI.2 ⟨KG.2 (by simpa using b),by unfold Lib.keeps;simp⟩,?_⟩;grind
   |succ n I =>
    intro j f b e;have i:l.toArray[j]! = x:=by grind
    by_cases H:Lib.keeps l.toArray j=true
    ·grind
    ·unfold Lib.keeps at H
     grind
  exact y j j (UO _) b e
theorem ZB5:(Znt l).length<=l.length:=Zpw l
theorem Zmg (x:Int) (q:l.length<=1048576):Ym l x=some (decide (x∈l)):=by
 have o:Len l:=by unfold Len;omega
 unfold Ym XM;rw[Q0 (l:=l) o (p:=λy=>decide (x=y)) (out:=λi=>i) (step:=λv=>YA l x v.1)
  (λk y h=>by
   have H:=(Ua.1 h).1;simp only[YA,show (k:Int)<(l.length:Int) from by omega,Ui,Zp,h,Bq,Ul];split<;>rfl)
  (by simp only[YA,Uf,Uh]),Bq]
 congr 1;apply KA.2;rw[Kf,Kf,Vx];simp
def ZoK (b:Za) (e:Zh) (l:List Int):Prop :=
 (K7 e=1/\∃(p:Pl) (x:Zd),J5 b e p/\0<=p.1/\(K3 (K2 b))[p.1.toNat]?=some x/\l=Gc x)\/
 (K7 e=2/\∃p:Pl,J5 b e p/\l=[p.2.2.1,((K5 (K2 b)).length:Int)])\/
 (K7 e=3/\∃(x:Zd) (y:Int),(K3 (K2 b))[(K3 (K2 b)).length-1]?=some x/\(Gc x)[0]?=some y/\l=[y])\/
 (K7 e=4/\∃p:Pl,J5 b e p/\l=[p.2.2.1,Gk e])\/
 (K7 e=5/\l=[Gk e])
theorem ZBt (h:Ve b e):∃l l',ZoK b e l/\ZaB e b=some l'/\(∀x,x∈l'<->x∈l)/\l.length<=1048576/\l'.length<=1048576:=by
 have t:=h.blk.ok.1.few;have M:∀l:List Int,0<l.length->l.length<=1048576->∃l',((ZyE l).bind λs=>(Zkj s).bind λc=>some c)=some l'/\(∀x,x∈l'<->x∈l)/\l'.length<=1048576:=by
  intro l m d;refine⟨Znt (srt l),?_,λx=>by rw[ZAr,ZEY],?_⟩
  ·unfold ZyE Zkj
   rw[QP,Bq,Uc (by rw[ZBj];exact m)];rfl
  ·have:=ZB5 (srt l)
   rw[ZBj]at this;omega
 unfold ZaB;simp only[ZM _ t,Bq];by_cases k:K7 e=1
 ·obtain⟨p,x,c,c2,g,m,N,a,_⟩:=h.poss.1 k
  have H:(K3 (K2 b))[p.1.toNat]?=some x:=by
   obtain⟨X,d,r⟩:=ZrP g.mem m;have:=Yr m d;rw[a]at this;injection this with this;rw[this];exact d
  have O:=t.nets x (Ud H);have I:0<(Gc x).length:=by
   obtain⟨i,j,X,n,d,r,u,C⟩|⟨j,q,d,r,u⟩:=QN g.2
   ·have D:p.1=(i:Int):=by rw[C];rfl
    rw[D,Up]at H;rw[H]at d;injection d with d;subst d
    have:=(Ua.1 r).1;omega
   ·rw[u]at m;exact absurd (show(0:Int)<=-1 from m) (by decide)
  obtain⟨l',f,F,A⟩:=M (Gc x) I (by omega);have L:ZN (Gc x)=some (Gc x):=Zc5 _;rw[Uc k,g.at,Bq,show atI (K3 (K2 b)) (Gt p)=some x from a,Bq,L,Bq];exact⟨_,l',.inl ⟨k,p,x,g,m,H,rfl⟩,f,F,by omega,A⟩
 rw[Ue k];by_cases K:K7 e=2
 ·obtain⟨p,c,g,N,_⟩:=h.poss.2.1 K
  obtain⟨l',f,F,A⟩:=M [p.2.2.1,((K5 (K2 b)).length:Int)] (by simp) (by simp);rw[Uc K,g.at,Bq,show XG (K5 (K2 b))=some ((K5 (K2 b)).length:Int)from rfl,Bq];exact⟨_,l',.inr (.inl ⟨K,p,g,rfl⟩),f,F,by simp,A⟩
 rw[Ue K];by_cases R:K7 e=3
 ·obtain⟨P,x,a,J⟩:=h.last R
  have B:=t.insts;obtain⟨y,v⟩:∃y,(Gc x)[0]?=some y:=⟨_,Ub (by omega)⟩;have E:atI (K3 (K2 b)) (Wq (((K3 (K2 b)).length:Int)-1))=some x:=by
   rw[QR];exact Yr (by omega) (by rw[show(((K3 (K2 b)).length:Int)-1).toNat=(K3 (K2 b)).length-1 by omega];exact a)
  have z:atI (Gc x) 0=some y:=Yr (by omega) v;obtain⟨l',f,F,A⟩:=M [y] (by simp) (by simp);rw[Uc R,E,Bq,z,Bq];exact⟨_,l',.inr (.inr (.inl ⟨R,x,y,a,v,rfl⟩)),f,F,by simp,A⟩
 rw[Ue R];by_cases o:K7 e=4
 ·obtain⟨p,g,N,G⟩:=h.poss.2.2.2.1 o
  obtain⟨l',f,F,A⟩:=M [p.2.2.1,Gk e] (by simp) (by simp);rw[Uc o,g.at,Bq];exact⟨_,l',.inr (.inr (.inr (.inl ⟨o,p,g,rfl⟩))),f,F,by simp,A⟩
 rw[Ue o];have w:K7 e=5:=by have:=h.blank;unfold Blank at this;omega
 obtain⟨l',f,F,A⟩:=M [Gk e] (by simp) (by simp);rw[Uc w];exact⟨_,l',.inr (.inr (.inr (.inr ⟨w,rfl⟩))),f,F,by simp,A⟩
noncomputable def ZiD (nets:List Int) (k:Nat) (p:Pl):List Int:=if p.2.2.1∈nets then[2*(k:Int),2*(k:Int)+1]else[]
noncomputable def ZiE (r:Za) (nets:List Int):List Int:=cat (ZiD nets) 0 (Zg (K2 r))
variable {nets:List Int}
theorem Zlf (h:p.2.2.1∈nets):ZiD nets k p=[2*(k:Int),2*(k:Int)+1]:=Uc h
theorem Zny (h:¬p.2.2.1∈nets):ZiD nets k p=[]:=Ue h
theorem ZxN (nets:List Int) (k:Nat) (p:Pl):(ZiD nets k p).length<=2:=by
 unfold ZiD;split<;>simp
theorem Zzo (h:Ve b e) (m:sm XI e) (F:ZH e b=some r):∃l,ZoK b e l/\ZaJ e b=some (ZiE r l)/\(ZiE r l).length<=200:=by
 obtain⟨w,a,y,R,_⟩:=Zwn h m;rw[F]at a;injection a with a
 subst a;have f:=R.ok.1.few;have o:=ZQ f;obtain⟨l,l',d,H,g,u,i⟩:=ZBt h;have L:∀k,(cat (ZiD l) 0 ((Zg (K2 r)).take k)).length<=2*78:=λk=>by
  refine Ko (ZbK (c:=2) (λj x _=>ZxN l j x)) ?_;rw[Uk];omega
 refine⟨l,d,?_,?_⟩
 ·unfold ZaJ
  rw[H,F,Bq,Bq,ZM _ f,Bq];refine Qp (l:=Zg (K2 r)) (ZiD l) [] (λk x t v=>?_) ?_
  ·have n:∀p q:Int,(([]++cat (ZiD l) 0 ((Zg (K2 r)).take k)).length+[p,q].length)*8<=140737488355328:=λp q=>by
    rw[Uw];have:=L k;simp only[Um,Uo];omega
   have s:(ZL.net x∈l')=(x.2.2.1∈l):=propext (g _);simp only[JG,show(k:Int)<((Zg (K2 r)).length:Int)from by omega,Ui,Zp,t,Bq,Zmg l' _ i,Ul,s,Y3 (show k<=1048576 by omega),YI (show(-9223372036854775808:Int)<=2*(k:Int) by omega),YI (show(-9223372036854775808:Int)<=2*(k:Int)+1 by omega)];by_cases c:x.2.2.1∈l
   ·rw[Uc c,Zlf c,Zk (n _ _)]
   ·rw[Ue c,Zny c,Un]
  ·simp only[JG,Uf,Uh,Uw]
   rfl
 ·have:=L (Zg (K2 r)).length
  rw[Uq]at this;exact Ko this (by omega)
theorem ZkU {lib:Zu} {ws:List Zq} {nd:Nat->Int} (g:(Zg d)[k]?=some p) (f:p.2.2.2.1=false) (m:0<=p.2.2.1) (h:p.2.2.1<(ws.length:Int)) :
  YF ((lib,d,JM (Zg d) ws nd,()):Za) k=nd k:=by
 have c:=Ub (show p.2.2.1.toNat<ws.length by omega);generalize ws[p.2.2.1.toNat]=w at c;have n:=Zij g rfl f;have e:(JM (Zg d) ws nd)[p.2.2.1.toNat]?=some (Zce w ((cat (Qu p.2.2.1) 0 (Zg d)).map (λk=>nd k.toNat))):=by
  rw[Qc,c,Int.toNat_of_nonneg m];rfl
 have E:(Zg (K2 ((lib,d,JM (Zg d) ws nd,()):Za)))[k]?=some p:=g;have i:(K4 ((lib,d,JM (Zg d) ws nd,()):Za))[p.2.2.1.toNat]?=some (Zce w ((cat (Qu p.2.2.1) 0 (Zg d)).map (λk=>nd k.toNat))):=e;have a:(((cat (Qu p.2.2.1) 0 (Zg d)).map (λk=>nd k.toNat))[nth (Zg d) p.2.2.1 k]?).getD 0=nd k:=by
  grind
 unfold YF;simp only[E,f,i];exact a
theorem ZqU (p:List Pl) (ws:List Zq) (nd nd':Nat->Int):JM pl (JM p ws nd') nd=JM pl ws nd:=by
 apply Uy;intro v;rw[Qc,Qc,Qc];cases ws[v]? with
 |none=>rfl
 |some w=>rfl
theorem Zyy (m:Nat):(JM pl ws nd).take m=JM pl (ws.take m) nd:=by
 apply Uy;intro v;rw[Qc,UB,UB];split
 ·exact Qc ..
 ·rfl
theorem Znk (h:Z7 b):JM (Zg (K2 b)) (K4 b) (YF b)=K4 b:=by
 have Z:=h.ok.2.1;apply Uy;intro v;rw[Qc];cases c:(K4 b)[v]? with
 |none=>rfl
 |some w =>
  have o:=(Ua.1 c).1;obtain⟨w',F,e,y⟩:=Zhs h (n:=(v:Int)) ⟨by omega,by omega⟩;rw[Up,c]at F;injection F with F
  subst F;have q:=y.2.2.2.1;have:((cat (Qu (v:Int)) 0 (Zg (K2 b))).map (λk=>YF b k.toNat))=Gu w:=by
   apply Uy;intro i;rw[UL];cases l:(cat (Qu (v:Int)) 0 (Zg (K2 b)))[i]? with
   |none =>
    have m:=List.getElem?_eq_none_iff.1 l;have f:(Xx (K2 b) (v:Int)).length=(cat (Qu (v:Int)) 0 (Zg (K2 b))).length:=rfl;grind
   |some x =>
    obtain⟨k,p,g,ex,a,f,H⟩:=Znd l;obtain⟨w',d,A,j,_⟩:=ZsU h g f;rw[a,Up,c]at A;injection A with A
    subst A;rw[a,H,Zp]at j;grind
  rw[UV,this];rfl
variable {a:Int}
theorem ZmB {b:Int} (h:¬a<0) (l:(K3 d)[a.toNat]?=some x):Xl d a b n=((K3 d).set a.toNat (ZcZ x b.toNat n),K5 d,Ge d,()):=by
 unfold Xl;rw[Ue h,l]
theorem Zle {b:Int} (h:a<0) {q:Z6} (H:(Ge d)[b.toNat]?=some q):Xl d a b n=(K3 d,K5 d,(Ge d).set b.toNat (setPort q n),()):=by
 unfold Xl;rw[Uc h,H]
variable {l:List α}
theorem ZA8 {x y:α} (h:l[i]?=some x):(l.set i y)[i]?=some y:=by
 grind
theorem Znv (g:(Zg d)[k]?=some p) (m n:Int):Xl (Xl d p.1 p.2.1 m) p.1 p.2.1 n=Xl d p.1 p.2.1 n:=by
 rcases QN g with⟨i,j,x,N,l,f,e,rfl⟩|⟨j,q,b,e,rfl⟩
 ·have h:¬((ZcI i x j N).1<0):=by simp only[ZcI];omega
  have O:(K3 d)[(ZcI i x j N).1.toNat]?=some x:=by simp only[ZcI,Up];exact l
  rw[ZmB (n:=m) h O,ZmB (n:=n) h O];rw[ZmB h (x:=ZcZ x (ZcI i x j N).2.1.toNat m) (ZA8 O)];show(List.set (List.set (K3 d) _ _) _ _,_)=_;rw[List.set_set];have:ZcZ (ZcZ x (ZcI i x j N).2.1.toNat m) (ZcI i x j N).2.1.toNat n=ZcZ x (ZcI i x j N).2.1.toNat n:=by
   show(_,_,List.set (List.set _ _ _) _ _,_)=_;rw[List.set_set];rfl
  rw[this]
 ·have h:(((-1:Int),(j:Int),GK q,decide (GF q=1),()):Pl).1<0:=by grind
  have H:(Ge d)[(j:Int).toNat]?=some q:=by grind
  show Xl (Xl d (-1) (j:Int) m) (-1) (j:Int) n=Xl d (-1) (j:Int) n;rw[Zle (n:=m) (by omega) H,Zle (n:=n) (by omega) H];rw[Zle (by omega) (q:=setPort q m) (ZA8 H)];show(_,_,List.set (List.set _ _ _) _ _,_)=_;rw[List.set_set];rfl
theorem ZmC (g:(Zg d)[k]?=some p):Xl d p.1 p.2.1 p.2.2.1=d:=by
 rcases QN g with⟨i,j,x,N,l,f,e,rfl⟩|⟨j,q,b,e,rfl⟩
 ·show Xl d (i:Int) (j:Int) N=d
  rw[ZmB (by omega) (x:=x) (by grind)];have:ZcZ x (j:Int).toNat N=x:=by
   unfold ZcZ;rw[Up,JX f]
  rw[this,Up,JX l]
 ·show Xl d (-1) (j:Int) (GK q)=d
  rw[Zle (by omega) (q:=q) (by grind),Up,show setPort q (GK q)=q from rfl,JX b]
variable (d:Zb)
theorem Zpz (x:Zd) (s:List UInt8):YK (Xw d x s)=d:=by
 unfold YK Xw;show (List.take _ (K3 d++[x]),List.take _ (K5 d++[s]),Ge d,())=d;rw[show (K3 ((K3 d++[x],K5 d++[s],Ge d,()):Zb)).length-1=(K3 d).length from by grind,
  show(K5 ((K3 d++[x],K5 d++[s],Ge d,()):Zb)).length-1=(K5 d).length from by grind,
  KF,KF]
theorem ZC0 {pl:List Pl} (H:pl[k]?=some p) (h:p.2.2.1=net) (f:p.2.2.2.1=false)
  (u:∀(K:Nat) (Z:Pl),pl[K]?=some Z->Z.2.2.1=net->Z.2.2.2.1=false->K=k):cat (Qu net) 0 pl=[(k:Int)]:=by
 have g:=Zij H h f;have all:∀i x,(cat (Qu net) 0 pl)[i]?=some x->i=nth pl net k/\x=(k:Int):=by
  intro i x j;obtain⟨K,Z,a,b,c,d,e⟩:=Znd j;grind
 have q:=(Ua.1 g).1;generalize cat (Qu net) 0 pl=l at g all q
 match l,q,all with
 |[v],_,all=>rw[(all 0 v rfl).2]
 |v::w::r,_,all =>
  have a0:=(all 0 v rfl).1;have A:=(all 1 w rfl).1;omega
def ZDB (a b:Zo):Prop:=GI a=GI b/\(Gb a).length=(Gb b).length/\Zei (Gb a) (λk x=>∀y,(Gb b)[k]?=some y->(Gn x==Gn y)=true)
theorem ZtJ {a b:Zo} (n:sm Zcq a):Vd a b=some true<->ZDB a b:=by
 have s:(Gb a).length<=1048576:=by have:=(Zxu n).pins.1;omega
 unfold Vd ZDB;by_cases k:GI a=GI b
 ·rw[Uc k]
  by_cases H:((Gb a).length:Int)=((Gb b).length:Int)
  ·rw[Uc H,V8 (l:=Gb a) (show Len _ by unfold Len;omega) (λk x=>∀ y,(Gb b)[k]?=some y->(Gn x == Gn y)=true) (bad:=false) (good:=true)
    (step:=λv=>Vj a b v.1)
    (λk x d e _=>by
     have i:(Gb b)[k]?=some (Gb b)[k]:=Ub (by omega);simp only[Vj,show (k:Int)<((Gb a).length:Int) from by omega,Ui,Zp,d,i,Bq,Option.some.injEq,forall_eq'];grind)
    (λ_=>by simp only[Vj,Uf,Uh])]
   have c:(Gb a).length=(Gb b).length:=by omega
   constructor
   ·intro h
    injection h with h
    refine⟨k,c,?_⟩;by_cases q:Zei (Gb a) (λk x=>∀y,(Gb b)[k]?=some y->(Gn x==Gn y)=true)
    ·exact q
    ·rw[QF q]at h;cases h
   ·rintro⟨_,_,h⟩
    rw[Vh h]
  grind
 grind
theorem ZxD {a b:Zo} (n:sm Zcq a) (H:sm Zcq b) (h:Vd a b=some true):Vd b a=some true:=by
 obtain⟨d,f,g⟩:=(ZtJ n).1 h;refine(ZtJ H).2 ⟨d.symm,f.symm,λk y i x l=>?_⟩;have:=g k x l y i;grind
theorem Zy5 (h:Z7 b) (o:Zjb b):Zfw b=some true:=by
 obtain⟨x,c,w,m,D,C,q,k,l,T,R,p,e,g,B,u,v,s,y⟩:=o;have d:=h.ok.1;have i:=d.few;have j:=i.insts;have r:=d.2.1.2.1;have Z:=h.ok.2.1;obtain⟨⟨c0,c1⟩,_,t⟩:=d.2.2.1 x (Ud C);have J:atI (K3 (K2 b)) (((K3 (K2 b)).length:Int)-1)=some x:=Yr (by omega) (by simp_all);have z:atI (Gd (K6 b)) (Gr x)=some c:=Yr c0 q;have A:Wq (((K4 b).length:Int)-1)=((K5 (K2 b)).length:Int)-1:=by rw[QR];omega
 have f:JC c=some true:=by
  unfold JC;grind
 have a:((Xx (K2 b) (((K5 (K2 b)).length:Int)-1)).length:Int)=1:=by omega
 have H:((K8 w).length:Int)=1:=by omega
 unfold Zfw;rw[YI (n:=((K3 (K2 b)).length:Int)-1),QQ,J];simp only[Bq,z,f,Ui,A,p,g,R,B,Ue e,Xn _ _ i,a,ZiT,H,y,decide_true]
theorem ZC6 (h:Ve b e) (n:sm XI e):Zee b e=some true:=by
 have j:=h.blk;have l:=j.ok.1;have a:=l.few;have Y:=(Vi j.sm).2.1;obtain⟨J,H⟩:=Zhx n;unfold Zee;rw[ZP _ a,Bq];by_cases k:K7 e=1
 ·obtain⟨p,x,c,c2,g,u,N,C,q,m,A⟩:=h.poss.1 k
  rw[Uc k,g.at];grind
 rw[Ue k];by_cases K:K7 e=2
 ·obtain⟨p,c,g,N,q,B,s,z,M,d⟩:=h.poss.2.1 K
  have v:(Gg e).length<=4611686018427387904:=by have:((Gg e).length:Int)<=1048576:=J;omega
  have f:JC c=some true:=by
   unfold JC
   simp_all
  rw[Uc K,g.at];simp only[Bq,show GX p=p.2.2.2.1 from rfl,N,q,f,Zch _ v,z,(ZkN _ (Gg e) Y).2,(Zma _ (Gg e) Y).2,Ui,Uc M,UU d,Ka,Uh]
 rw[Ue K];by_cases R:K7 e=3
 ·rw[Uc R,Zy5 j (h.poss.2.2.1 R)]
  rfl
 rw[Ue R];by_cases o:K7 e=4
 ·obtain⟨p,g,N,r⟩:=h.poss.2.2.2.1 o
  rw[Uc o,g.at];grind
 rw[Ue o];have i:K7 e=5:=by have:=h.blank;unfold Blank at this;omega
 obtain⟨w,F,t,y⟩:=Zhs j (h.range.2.2 i);rw[Xn _ _ a];simp only[Bq,Zi6 _ _ H];rw[ZY (h.poss.2.2.2.2 i)]
theorem Zws (h:Ve b e) (m:sm XI e):Zez e b=some 0/\VQ b e=some 0:=by
 have j:=h.blk;have Z:=j.ok.2.1;have H:VQ b e=some 0:=by
  unfold VQ;rw[Qb b j.sm,Bq,Uc (ZY j.ok),Zkq e m,Bq,Uc (ZY h.blank),Zkr j e m,Bq,Uc (ZY h.range),ZC6 h m,Bq,Uc rfl];by_cases f:K7 e=2
  ·have:=h.lim f
   grind
  ·rw[Ue f]
 obtain⟨c,g,i,_⟩:=ZkM j e m;grind
theorem ZxQ {p:α->Bool} {x:α} (h:l[k]?=some x) (g:p x=true) (f:∀(j:Nat) (y:α),j<k->l[j]?=some y->p y=false):Jw p l=(k:Int):=by
 have H:=(Ua.1 h);have:l.findIdx? p=some k:=by
  rw[Kh];refine⟨H.1,by rw[H.2];exact g,λj b=>?_⟩;have:=f j (l[j]'(by have:=H.1;omega)) b (Ub _);simp[this]
 unfold Jw;rw[this]
theorem ZpV (H:Few d) (g:(Zg d)[k]?=some p):ZcB d p.1 p.2.1=some (k:Int):=by
 have i:=ZQ H;unfold ZcB;rw[ZM _ H,Bq,Va (l:=Zg d) (f:=(p.1,p.2.1,())) (show (Zg d).length<=_ by omega) (λq=>decide (q.1=p.1)&&decide (q.2.1=p.2.1)) (λq _=>by
  unfold ZaY;show(if q.1=p.1 then some (decide (q.2.1=p.2.1))else some false)=_;by_cases h:q.1=p.1
  ·rw[Uc h,UU h,KU]
  ·rw[Ue h,decide_eq_false h,KX]),Bq]
 congr 1;refine ZxQ g (by simp) (λj y c a=>?_);cases b:(decide (y.1=p.1)&&decide (y.2.1=p.2.1))with
 |false=>rfl
 |true =>
  simp only[Ur,Ul]at b;have:=key_inj a g b.1 b.2;omega
theorem Zxm (u:0<(K3 (K2 b)).length) (w:(K3 (K2 b))[(K3 (K2 b)).length-1]?=some x) (T:(Gc x).length=2) (o:(Zg (K2 b))[k]?=some p) (v:p.1≠((K3 (K2 b)).length:Int)-1) :
  (p.1<0->2<=k)/\(Zg (unD b p m))[if p.1<0 then k-2 else k]?=some (p.1,p.2.1,m,p.2.2.2.1,()):=by
 have l:(Zg (Xl (K2 b) p.1 p.2.1 m))[k]?=some (p.1,p.2.1,m,p.2.2.2.1,()):=by
  rw[XC o,UG (Ua.1 o).1]
 have Q:0<(K3 (Xl (K2 b) p.1 p.2.1 m)).length:=by rw[YG];exact u
 have H:(K3 (Xl (K2 b) p.1 p.2.1 m))[(K3 (Xl (K2 b) p.1 p.2.1 m)).length-1]?=some ((K3 (Xl (K2 b) p.1 p.2.1 m))[(K3 (Xl (K2 b) p.1 p.2.1 m)).length-1]'(by omega)):=Ub _;generalize (K3 (Xl (K2 b) p.1 p.2.1 m))[(K3 (Xl (K2 b) p.1 p.2.1 m)).length-1]'(by omega)=X at H;have B:(Gc X).length=2:=by
  obtain⟨y,a,_,_,D,_⟩:=Zdy H;rw[YG,w]at a;injection a with a
  rw[D,<-a,T]
 have C:=Zpy Q H;have K:Z5 (Xl (K2 b) p.1 p.2.1 m)=Z5 (unD b p m)+2:=by
  unfold Z5 unD;rw[C,Zc4,Ug];simp only[cat,Un,Q9,B]
 rcases QN l with⟨i,j,y,n,a,G,e,f⟩|⟨j,q,f,e,g⟩
 ·have E:p.1=(i:Int):=by
   have:=UN Prod.fst f;simpa[ZcI]using this
  have t:=(Ua.1 a).1;rw[YG]at t;refine⟨λh=>by omega,?_⟩;rw[QQ];have L:(K3 (unD b p m))[i]?=some y:=by
   show((K3 (Xl (K2 b) p.1 p.2.1 m)).take _)[i]?=some y;rw[UB,Uc (by rw[YG];omega),a]
  have c:=Zbs L G;have r:Zgn (unD b p m) i=Zgn (Xl (K2 b) p.1 p.2.1 m) i:=by
   unfold Zgn;show(cat YW 0 (((K3 (Xl (K2 b) p.1 p.2.1 m)).take _).take i)).length=_;rw[List.take_take,Nat.min_eq_left (by rw[YG];omega)]
  rw[r,<-e]at c;rw[c,f]
 ·have E:p.1=-1:=UN Prod.fst g
  refine⟨λ_=>by omega,?_⟩;rw[QP];have c:=ZkA (d:=unD b p m) (x:=X) (s:=[]) (k:=k-2);rw[B,show k-2+2=k by omega]at c;rw[<-c];unfold unD;rw[<-ZhY Q H];exact l
theorem Zxv:sm (.sl (.int .i64)) ([]:List Int):=⟨by simp,λ_ _=>trivial⟩
theorem Zjv:sm ZbR (([]:List Int),([]:List Int),([]:List Int),([]:List Int),()):=⟨Zxv,Zxv,Zxv,Zxv,trivial⟩
theorem Zk2:sm .str ([]:List UInt8):=by show((0:Nat):Int)<=_;omega
theorem Zn9 {b d e:Int} (q:sm .str s) (h:sm ZbR w):sm XI (a,b,c,d,e,s,w,()):=⟨trivial,trivial,trivial,trivial,trivial,q,h,trivial⟩
theorem ZBw (h:Z7 b) (g:(Zg (K2 b))[k]?=some p) (n v:Int) :
  moved (moved b k p n v) k (p.1,p.2.1,n,p.2.2.2.1,()) p.2.2.1 (YF b k)=b:=by
 have Z:=h.ok.2.1;have E:mvD (moved b k p n v) (p.1,p.2.1,n,p.2.2.2.1,()) p.2.2.1=K2 b:=(Znv g n p.2.2.1).trans (ZmC g);have i:JM (Zg (K2 b)) (K4 b) (mvN (moved b k p n v) k (YF b k))=K4 b:=by
  refine(Zmo (nd':=YF b) λj q a N=>?_).trans (Znk h);unfold mvN;by_cases c:j=k
  ·rw[Uc c,c]
  ·rw[Ue c]
   have f:(Zg (mvD b p n))[j]?=some q:=by
    show(Zg (Xl _ _ _ _))[j]?=_;rw[XC g,UF (Ne.symm c)];exact a
   have H:=XP h.ok.1 (Ud a);have:=ZkU (lib:=K6 b) (ws:=K4 b) (nd:=mvN b k v) f N H.1 (by have:=H.2;omega);refine this.trans ?_;unfold mvN;rw[Ue c]
 show((K6 b,mvD (moved b k p n v) (p.1,p.2.1,n,p.2.2.2.1,()) p.2.2.1,JM (Zg (mvD (moved b k p n v) (p.1,p.2.1,n,p.2.2.2.1,()) p.2.2.1)) (JM (Zg (mvD b p n)) (K4 b) (mvN b k v)) (mvN (moved b k p n v) k (YF b k)),()):Za)=b;rw[E,ZqU,i]
theorem Zpt (h:Z7 b) (g:(Zg (K2 b))[k]?=some p) :
  Zg (Zg7 b e p)=(Zg (Xw (K2 b) (Zgs b e p) (Gg e))).set (ZjG b k) (p.1,p.2.1,((K5 (K2 b)).length:Int),p.2.2.2.1,()):=by
 rw[Zh1 g];exact XC (Zfn h g) _
theorem Zy1 {r:Pl} (h:(Zg (Xw (K2 b) (Zgs b e q) (Gg e)))[j]?=some r) :
  (j<Z5 (K2 b)/\(Zg (K2 b))[j]?=some r)\/(j=Z5 (K2 b)/\r.2.2.1=q.2.2.1)\/(j=Z5 (K2 b)+1/\r.2.2.2.1=true)\/(Z5 (K2 b)+2<=j/\(Zg (K2 b))[j-2]?=some r):=by
 by_cases c1:j<Z5 (K2 b)
 ·rw[ZlG c1]at h
  grind
 by_cases c2:j=Z5 (K2 b)
 ·have:=add_mid (d:=K2 b) (x:=Zgs b e q) (s:=Gg e) (j:=0) (by show 0<2;omega)
  rw[U7,<-c2,h]at this;have g:=Zda (i:=(K3 (K2 b)).length) (x:=Zgs b e q) (j:=0) (n:=q.2.2.1) rfl;rw[<-this]at g;injection g with g
  exact .inr (.inl ⟨c2,by rw[g];rfl⟩)
 by_cases R:j=Z5 (K2 b)+1
 ·have:=add_mid (d:=K2 b) (x:=Zgs b e q) (s:=Gg e) (j:=1) (by show 1<2;omega)
  rw[<-R,h]at this;have g:=Zda (i:=(K3 (K2 b)).length) (x:=Zgs b e q) (j:=1) (n:=((K5 (K2 b)).length:Int)) rfl;rw[<-this]at g;injection g with g
  refine .inr (.inr (.inl ⟨R,?_⟩));rw[g];show decide ((1:Int)=Wq ((2:Int)-1))=true;rw[QR];rfl
 ·have:=ZkA (d:=K2 b) (x:=Zgs b e q) (s:=Gg e) (k:=j-2)
  rw[show(Gc (Zgs b e q)).length=2 from rfl,show j-2+2=j by omega,h]at this;grind
theorem Zmx (b:Za) (e:Zh) (p:Pl):(K5 (Zg7 b e p)).length=(K5 (K2 b)).length+1:=by
 show(K5 (Xl (K2 b) p.1 p.2.1 _)++[Gg e]).length=_;rw[Ug,X0];rfl
theorem Zwp (h:Ve b e) (K:K7 e=2) (l:J5 b e p) (N:p.2.2.2.1=false) :
  Zjb (X6 b e (K9 e).toNat p)/\Xx (Zg7 b e p) ((K5 (K2 b)).length:Int)=[(ZjG b (K9 e).toNat:Int)]/\
  (Zg (Zg7 b e p))[ZjG b (K9 e).toNat]?=some (p.1,p.2.1,((K5 (K2 b)).length:Int),p.2.2.2.1,()):=by
 have i:=h.blk;have Z:=i.ok.2.1;obtain⟨P,c,C,_,u,w,s,n,M,x⟩:=h.poss.2.1 K;obtain⟨_,v⟩:=h.range.1 (.inr K);have z:(Gd (K6 b))[(Gy e).toNat]?=some c:=by
  have:=u;unfold atI at this;grind
 have y:=Zfn (e:=e) (q:=p) i l.2;have o:=Zpt (e:=e) i l.2;have f:(Zg (Zg7 b e p))[ZjG b (K9 e).toNat]?=some (p.1,p.2.1,((K5 (K2 b)).length:Int),p.2.2.2.1,()):=by grind
 have d:∀(j:Nat) (q:Pl),(Zg (K2 b))[j]?=some q->q.2.2.1≠((K5 (K2 b)).length:Int):=λj q m=>by
  have:=(XP i.ok.1 (Ud m)).2;omega
 have g:Xx (Zg7 b e p) ((K5 (K2 b)).length:Int)=[(ZjG b (K9 e).toNat:Int)]:=by
  refine ZC0 f rfl N (λj q m r A=>?_);by_cases c:j=ZjG b (K9 e).toNat
  ·exact c
  exfalso;rw[o,UF (Ne.symm c)]at m;rcases Zy1 m with⟨_,a⟩|⟨_,a⟩|⟨_,a⟩|⟨_,a⟩
  ·exact d _ _ a r
  ·exact d _ _ l.2 (a.symm.trans r)
  all_goals grind
 have t:=Zmx b e p;have H:((K5 (Zg7 b e p)).length:Int)-1=((K5 (K2 b)).length:Int):=by omega
 refine⟨⟨Zgs b e p,c,Zce ZqW ((cat (Qu ((K5 (K2 b)).length:Int)) 0 (Zg (Zg7 b e p))).map λk=>ZtC b (K9 e).toNat k.toNat),p.2.2.1,?_,?_,z,w,s,rfl,rfl,?_,?_,?_,?_,?_,?_,rfl,rfl⟩,g,f⟩
 ·show 0<(K3 (Xl (K2 b) p.1 p.2.1 _)++[_]).length
  grind
 ·show(K3 (Xl (K2 b) p.1 p.2.1 _)++[Zgs b e p])[(K3 (Xl (K2 b) p.1 p.2.1 _)++[Zgs b e p]).length-1]?=some _
  simp_all
 ·show some ((K5 (K2 b)).length:Int)=some (((K5 (Zg7 b e p)).length:Int)-1)
  rw[H]
 ·show p.2.2.1≠((K5 (Zg7 b e p)).length:Int)-1
  rw[H];exact d _ _ l.2
 ·show atI (K5 (Xl (K2 b) p.1 p.2.1 _)++[Gg e]) (((K5 (Zg7 b e p)).length:Int)-1)=some (Gg e)
  rw[H,Zp,X0];simp
 ·show atI (JM (Zg (Zg7 b e p)) (K4 b++[ZqW]) _) (((K5 (Zg7 b e p)).length:Int)-1)=some _
  rw[H,Zp,Qc]
  simp_all
 ·show(List.map _ _).length=1
  rw[UW];exact UN List.length g
 ·show(Xx (Zg7 b e p) (((K5 (Zg7 b e p)).length:Int)-1)).length=1
  rw[H,g];rfl
theorem ZAa (x:Zd) (s:List UInt8):Z5 (Xw d x s)=Z5 d+(Gc x).length:=by
 show(cat YW 0 (K3 d++[x])).length=_;rw[Zc4,Ug];simp only[cat,Un,Q9]
theorem Zwc (h:Ve b e) (K:K7 e=2) (J:sm .str (Gg e)) (r:J5 b e p) (N:p.2.2.2.1=false) :
  YO (X6 b e (K9 e).toNat p) (ZjG b (K9 e).toNat) (p.1,p.2.1,((K5 (K2 b)).length:Int),p.2.2.2.1,()) p.2.2.1=b:=by
 have u:=h.blk;have Z:=u.ok.2.1;have D:=Zh2 h K J r;have I:=Zpt (e:=e) u r.2;obtain⟨M,L,F⟩:=Zwp h K r N;generalize G:(K9 e).toNat=k at *;have a:(Zg (K2 b))[k]?=some p:=by rw[<-G];exact r.2
 have E:unD (X6 b e k p) (p.1,p.2.1,((K5 (K2 b)).length:Int),p.2.2.2.1,()) p.2.2.1=K2 b:=by
  have:Xl (Zg7 b e p) p.1 p.2.1 p.2.2.1=Xw (K2 b) (Zgs b e p) (Gg e):=by
   show Xl (Xw (Xl (K2 b) p.1 p.2.1 _) (Zgs b e p) (Gg e)) p.1 p.2.1 p.2.2.1=_;rw[Zsk (by rw[YG];exact Zs1 a (.inr trivial)),Znv a,ZmC a]
  show YK (Xl (Zg7 b e p) p.1 p.2.1 p.2.2.1)=_;rw[this,Zpz]
 have z:(K4 (X6 b e k p)).take ((K4 (X6 b e k p)).length-1)=JM (Zg (Zg7 b e p)) (K4 b) (ZtC b k):=by
  show(JM (Zg (Zg7 b e p)) (K4 b++[ZqW]) (ZtC b k)).take ((JM (Zg (Zg7 b e p)) (K4 b++[ZqW]) (ZtC b k)).length-1)=_;rw[ZeE,Zyy,Ug,Uz,Nat.add_sub_cancel,KF]
 have B:Z5 (K2 (X6 b e k p))-2=Z5 (K2 b):=by
  have v:=ZAa (Xl (K2 b) p.1 p.2.1 ((K5 (K2 b)).length:Int)) (Zgs b e p) (Gg e);rw[ZgA a]at v;show Z5 (Zg7 b e p)-2=_;have g:Z5 (Zg7 b e p)=Z5 (K2 b)+2:=v;omega
 have H:∀(i:Nat) (q:Pl),(Zg (Zg7 b e p))[i]?=some q->q.2.2.2.1=false->YF (X6 b e k p) i=ZtC b k i:=λi q f g=>by
  have o:=XP D.ok.1 (x:=q) (Ud f);have w:q.2.2.1<=((K5 (Zg7 b e p)).length:Int)-1:=o.2;have t:=Zmx b e p;exact ZkU (lib:=K6 b) (ws:=K4 b++[ZqW]) (nd:=ZtC b k) f g o.1 (by grind)
 have C:ZjG b k=if k<Z5 (K2 b)then k else k+2:=rfl;have c:∀(i:Nat) (q:Pl),(Zg (Xw (K2 b) (Zgs b e p) (Gg e)))[i]?=some q->i≠ZjG b k->(Zg (Zg7 b e p))[i]?=some q:=λi q f l=>by
  grind
 have m:YF (X6 b e k p) (Z5 (K2 b))=YF b k:=by
  have l:Z5 (K2 b)≠ZjG b k:=by grind
  have w:=Zda (i:=(K3 (K2 b)).length) (x:=Zgs b e p) (j:=0) (n:=p.2.2.1) rfl;have t:=add_mid (d:=K2 b) (x:=Zgs b e p) (s:=Gg e) (j:=0) (by show 0<2;omega);rw[w,U7] at t;rw[H _ _ (c _ _ t l) (by
   show decide ((0:Int)=Wq ((2:Int)-1))=false;rw[QR];rfl)]
  unfold ZtC ZoV;grind
 have A:JM (Zg (K2 b)) (K4 b) (unN (X6 b e k p) (ZjG b k))=K4 b:=by
  refine(Zmo (nd':=YF b) λj q f g=>?_).trans (Znk u);unfold unN Zqe mvN;rw[B,m];by_cases c1:j<Z5 (K2 b)
  ·rw[Uc c1]
   by_cases c2:j=ZjG b k
   ·grind
   ·rw[Ue c2,H _ _ (c j q (by rw[ZlG c1];exact f) c2) g]
    unfold ZtC ZoV;grind
  ·rw[Ue c1]
   by_cases c2:j+2=ZjG b k
   ·rw[Uc c2]
    rw[C]at c2;split at c2;all_goals grind
   ·have y:=ZkA (d:=K2 b) (x:=Zgs b e p) (s:=Gg e) (k:=j)
    rw[show(Gc (Zgs b e p)).length=2 from rfl,f]at y;rw[Ue c2,H _ _ (c (j+2) q y c2) g];unfold ZtC ZoV;rw[Ue c2,QQ,QQ,QQ,Nat.add_sub_cancel]
 show((K6 b,unD (X6 b e k p) _ _,JM (Zg (unD (X6 b e k p) _ _)) ((K4 (X6 b e k p)).take ((K4 (X6 b e k p)).length-1)) (unN (X6 b e k p) (ZjG b k)),()):Za)=b;rw[E,z,ZqU,A]
theorem Zzi {d:Zb} (n:0<(K3 d).length) (l:(K3 d)[(K3 d).length-1]?=some x) (q:(K5 d)[(K5 d).length-1]?=some s):Xw (YK d) x s=d:=by
 have h:=Zpy n l;have m:=(Ua.1 q).1;have f:(K5 d).take ((K5 d).length-1)++[s]=K5 d:=by
  have:=Xf q;grind
 show(K3 (YK d)++[x],(K5 d).take ((K5 d).length-1)++[s],Ge d,())=d;rw[f,<-h]
theorem Zxz {l:List Int} {b:Int} (h:l.length=2) (m:atI l 0=some a) (d:atI l 1=some b):l=[a,b]:=by
 match l,h with
 |[u,v],_ =>
  injection (show some u=some a from m)with m
  injection (show some v=some b from d)with d
  rw[m,d]
theorem Zyx (p:List Pl) (A:List Zq) (c:Zq) (nd nd':Nat->Int):JM pl (JM p A nd'++[c]) nd=JM pl (A++[c]) nd:=by
 apply Uy;intro v;rw[Qc,Qc,List.getElem?_append,List.getElem?_append,ZeE];split
 ·rw[Qc]
  cases A[v]? with
  |none=>rfl
  |some w=>rfl
 ·rfl
theorem ZyZ {s:Int} (h:Zcs w s) (d:(K8 w).length=1) (f:atI (GE w) 0=some 0) (l:List Int):Zce ZqW l=Zce w l:=by
 obtain⟨_,A,j,_,F,_⟩:=h;rw[d]at A j;have p:K8 w=[-1]/\GB w=[0]:=by
  match hp:K8 w,d with
  |[u],_ =>
   obtain⟨Q,b⟩:=(F 0 u (by rw[hp];rfl)).1 rfl
   match hr:GB w,A with
   |[v],_ =>
    grind
 have z:GE w=[0]:=by
  match hc:GE w,j with
  |[u],_ =>
   rw[hc]at f;injection (show some u=some 0 from f)with f
   rw[f]
 unfold Zce;rw[p.1,p.2,z]
def unK (k:Nat) (p:Pl):Nat:=if p.1<0 then k-2 else k
theorem Ztt (h:Z7 b) (hL:Zjb b) (hs:Xx (K2 b) (((K5 (K2 b)).length:Int)-1)=[(k:Int)]) (G:(Zg (K2 b))[k]?=some p)
  (J:p.1≠((K3 (K2 b)).length:Int)-1) (y:(K3 (K2 b))[(K3 (K2 b)).length-1]?=some x) (hm:atI (Gc x) 0=some m)
  (hR:Z7 (YO b k p m)) {f:Zh} (b0:Gy f=Gr x) (V:Gg f=Gq x) :
  (Zg (unD b p m))[unK k p]?=some (p.1,p.2.1,m,p.2.2.2.1,())/\p.2.2.2.1=false/\X6 (YO b k p m) f (unK k p) (p.1,p.2.1,m,p.2.2.2.1,())=b:=by
 have a5:=h.ok.2.1;obtain⟨k',p',b7,C,a0,u,_⟩:=hL.sink h;have ek:k=k':=by grind
 subst ek;rw[G]at C;injection C with C
 subst C;obtain⟨x',c,w,M,P,O,hc,b2,b3,T,b4,hl,b5,Y,hw,b8,b9,Z,U⟩:=hL;rw[y]at O;injection O with O
 subst O;have em:M=m:=by grind
 subst em;have a7:=Zxz T hm hl;obtain⟨_,_,E⟩:=h.ok.1.2.2.1 x (Ud y);have D:=E M (by grind);have a8:1<=(K5 (K2 b)).length:=by have:=D.1;have:=D.2;omega
 have tN:Int.toNat (((K5 (K2 b)).length:Int)-1)=(K5 (K2 b)).length-1:=by omega
 have Q:(K5 (K2 b))[(K5 (K2 b)).length-1]?=some (Gq x):=by
  unfold atI at Y;grind
 have a4:(K4 b)[(K4 b).length-1]?=some w:=by
  unfold atI at hw;grind
 have e:=Zzi P y Q;obtain⟨B,K⟩:=Zxm (m:=M) P y T G J;have H:(Zg (YK (K2 b)))[unK k p]?=some p:=by
  have:=(Zxm (m:=p.2.2.1) P y T G J).2;unfold unD at this;rw[ZmC G]at this;exact this
 have X:=Zs1 H (.inr trivial);have l:unD b p M=Xl (YK (K2 b)) p.1 p.2.1 M:=by
  have:Xl (K2 b) p.1 p.2.1 M=Xw (Xl (YK (K2 b)) p.1 p.2.1 M) x (Gq x) :=
   (UN (λz=>Xl z p.1 p.2.1 M) e).symm.trans (Zsk X)
  unfold unD;rw[this,Zpz]
 have b6:(K5 (unD b p M)).length=(K5 (K2 b)).length-1:=by
  rw[l,X0];show(List.take _ _).length=_
  simp_all
 have F:((K5 (unD b p M)).length:Int)=p.2.2.1:=by rw[a0];omega
 have S:Zgs (YO b k p M) f (p.1,p.2.1,M,p.2.2.2.1,())=x:=by
  show(Gg f,Gy f,[M,((K5 (unD b p M)).length:Int)],())=x;grind
 have e1:Zg7 (YO b k p M) f (p.1,p.2.1,M,p.2.2.2.1,())=K2 b:=by
  show Xw (Xl (unD b p M) p.1 p.2.1 ((K5 (unD b p M)).length:Int)) (Zgs (YO b k p M) f (p.1,p.2.1,M,p.2.2.2.1,())) (Gg f)=_;rw[S,F,l,Znv H,ZmC H,V,e]
 have hI:=Zhb P y T;have A:Z5 (unD b p M)=Z5 (YK (K2 b)):=by rw[l,ZgA H]
 have a2:=Zcc H;have a9:=Zbb (YK (K2 b));have g:(p.1<0->Z5 (YK (K2 b))<=unK k p/\unK k p+2=k)/\(¬p.1<0->unK k p<Z5 (YK (K2 b))/\unK k p=k):=by
  constructor
  ·intro q
   have h3:=a2.1.1 q;have h4:=B q;have:unK k p=k-2:=Uc q;omega
  ·intro q
   have:unK k p=k:=Ue q;grind
 have hK:ZjG (YO b k p M) (unK k p)=k:=by
  show(if unK k p<Z5 (unD b p M)then unK k p else unK k p+2)=k;rw[A];by_cases q:p.1<0;all_goals grind
 have r:Zg (unD b p M)=(Zg (YK (K2 b))).set (unK k p) (p.1,p.2.1,M,p.2.2.2.1,()):=by rw[l,XC H]
 have d0:(K4 b).length=(K5 (K2 b)).length:=a5;have a:∀(i:Nat) (q:Pl),(Zg (unD b p M))[i]?=some q->q.2.2.2.1=false->YF (YO b k p M) i=unN b k i:=λi q o v=>by
  have N:=XP hR.ok.1 (x:=q) (Ud o);have h3:q.2.2.1<=((K5 (unD b p M)).length:Int)-1:=N.2;exact ZkU (lib:=K6 b) (ws:=(K4 b).take ((K4 b).length-1)) (nd:=unN b k) o v N.1 (by rw[Uk];omega)
 have hu:∀i,unN b k i=if i<Z5 (YK (K2 b))then mvN b k (YF b (Z5 (YK (K2 b)))) i else mvN b k (YF b (Z5 (YK (K2 b)))) (i+2):=λi=>by
  unfold unN Zqe;rw[show Z5 (K2 b)-2=Z5 (YK (K2 b)) by omega]
 have W:YF (YO b k p M) (unK k p)=YF b (Z5 (YK (K2 b))):=by
  have L:(Zg (unD b p M))[unK k p]?=some (p.1,p.2.1,M,p.2.2.2.1,()):=K;rw[a _ _ L u,hu];by_cases q:p.1<0
  ·have:=g.1 q
   rw[QQ,this.2];unfold mvN;rw[Uc rfl]
  ·have:=g.2 q
   rw[Uc this.1,this.2];unfold mvN;rw[Uc rfl]
 obtain⟨w',a1,_,a3⟩:=Zhs h (n:=((K5 (K2 b)).length:Int)-1) ⟨by omega,by omega⟩;have ew:w'=w:=by
  grind
 subst ew;have b1:YF b k=0:=by
  have:=Zlg h k p w' G u (by grind);grind
 have I:Zg (K2 b)=Zg (Xw (YK (K2 b)) x (Gq x)):=UN Zg e.symm;have e2:JM (Zg (K2 b)) (K4 b) (ZtC (YO b k p M) (unK k p))=K4 b:=by
  refine(Zmo (nd':=YF b) λj q o v=>?_).trans (Znk h);unfold ZtC ZoV;rw[hK,W,show Z5 (K2 (YO b k p M))=Z5 (YK (K2 b))from A];by_cases c0:j=k
  ·grind
  rw[Ue c0];rw[I]at o;by_cases c1:j<Z5 (YK (K2 b))
  ·rw[ZlG c1]at o
   have c2:j≠unK k p:=by
    grind
   rw[Uc c1,a j q (by rw[r,UF (Ne.symm c2)];exact o) v,hu,Uc c1];unfold mvN;rw[Ue c0]
  rw[Ue c1];by_cases R:j=Z5 (YK (K2 b))
  ·rw[Uc R,R]
  rw[Ue R];by_cases c4:j=Z5 (YK (K2 b))+1
  ·exfalso
   have t:=add_mid (d:=YK (K2 b)) (x:=x) (s:=Gq x) (j:=1) (by rw[T];omega);have h6:=Zda (i:=(K3 (YK (K2 b))).length) (x:=x) (j:=1) (n:=((K5 (K2 b)).length:Int)-1) (by rw[a7];rfl);rw[<-c4,o,h6]at t;injection t with t
   rw[t]at v;revert v;show ¬(decide ((1:Int)=Wq (((Gc x).length:Int)-1))=false);rw[T,QR];simp
  ·have t:=ZkA (d:=YK (K2 b)) (x:=x) (s:=Gq x) (k:=j-2)
   rw[T,show j-2+2=j by omega,o]at t;have c2:j-2≠unK k p:=by
    omega
   rw[Ue c4,a (j-2) q (by rw[r,UF (Ne.symm c2)];exact t.symm) v,hu,QQ,show j-2+2=j by omega];unfold mvN;rw[Ue c0]
 have a6:(K4 b).take ((K4 b).length-1)++[w']=K4 b:=by
  have:=Xf a4;rw[show(K4 b).length-1+1=(K4 b).length by omega,Uq]at this;exact this.symm
 refine⟨K,u,?_⟩;show((K6 b,Zg7 (YO b k p M) f (p.1,p.2.1,M,p.2.2.2.1,()),JM (Zg (Zg7 (YO b k p M) f (p.1,p.2.1,M,p.2.2.2.1,()))) (JM (Zg (unD b p M)) ((K4 b).take ((K4 b).length-1)) (unN b k)++[ZqW]) (ZtC (YO b k p M) (unK k p)),()):Za)=b;rw[e1,Zyx,Zr1 _ _ _ (w':=w') (ZyZ a3 Z U),a6,e2]
theorem app1 (j:Z7 b) (d:K7 e=1) (g:J5 b e p) (m:0<=p.1) (l:(K3 (K2 b))[p.1.toNat]?=some x):ZH e b=some (ZdT b p.1 (Gy e)):=by
 unfold ZH;rw[Vf _ j.sm,Bq,Uc d,ZM _ j.ok.1.few,Bq,g.at,Bq];simp only[show Gt p=p.1 from rfl,Yr m l,Bq];unfold ZdT;rw[l]
theorem app2 (h:Ve b e) (f:K7 e=2) (q:sm .str (Gg e)) (g:J5 b e p) (N:p.2.2.2.1=false):ZH e b=some (X6 b e (K9 e).toNat p):=by
 unfold ZH;rw[Vf _ h.blk.sm,Bq,QQ,Uc f,ZlO h f q g N];rfl
theorem app3 (j:Z7 b) (o:Zjb b) (K:K7 e=3):∃(k:Nat) (p:Pl) (m:Int),Xx (K2 b) (((K5 (K2 b)).length:Int)-1)=[(k:Int)]/\(Zg (K2 b))[k]?=some p/\p.1≠((K3 (K2 b)).length:Int)-1/\
  (∀y,(K3 (K2 b))[(K3 (K2 b)).length-1]?=some y->atI (Gc y) 0=some m)/\ZH e b=some (YO b k p m):=by
 obtain⟨k,p,m,v,q,h,g,R,a,n⟩:=Zhn j o;obtain⟨f,x,l,T⟩:=o.two;have Q:0<(K3 (Xl (K2 b) p.1 p.2.1 m)).length:=by rw[YG];exact f
 have B:(K3 (Xl (K2 b) p.1 p.2.1 m))[(K3 (Xl (K2 b) p.1 p.2.1 m)).length-1]?=some ((K3 (Xl (K2 b) p.1 p.2.1 m))[(K3 (Xl (K2 b) p.1 p.2.1 m)).length-1]'(by omega)):=Ub _;generalize (K3 (Xl (K2 b) p.1 p.2.1 m))[(K3 (Xl (K2 b) p.1 p.2.1 m)).length-1]'(by omega)=X at B;obtain⟨y,i,_,_,D,_⟩:=Zdy B;rw[YG,l]at i;injection i with i
 have H:=Zhb Q B (by rw[D,<-i,T]);have I:=ZgA h m;have s:Z5 (unD b p m)=Z5 (K2 b)-2:=by unfold unD;omega
 refine⟨k,p,m,q,h,g,R,?_⟩;unfold ZH;rw[Vf _ j.sm,Bq,QQ,QQ,Uc K,n,s,a];rfl
theorem app4 (j:Z7 b) (k:K7 e=4) (g:J5 b e p) (N:p.2.2.2.1=false) (f:ZbJ (K2 b) (Gk e)):ZH e b=some (moved b (K9 e).toNat p (Gk e) (GC e)):=by
 unfold ZH;rw[Vf _ j.sm,Bq,QQ,QQ,QQ,Uc k,ZdG j,Bq,ZM _ j.ok.1.few,Bq,g.at,Bq,
  show (Gt p,ZL.pin p,())=(p.1,p.2.1,()) from rfl,ZgV g.2,Bq]
 exact UN (λo=>Option.bind o λC=>some C) (Zow j g.2 N f (v:=GC e))
theorem ZF3 (j:Z7 b) (s:K7 e=5) (f:ZbJ (K2 b) (Gk e)) (q:sm ZbR (GG e)):ZH e b=some (ZxB b (Gk e) (GG e)):=by
 obtain⟨w,F,h,_⟩:=Zhs j f;unfold ZH;rw[Vf _ j.sm,Bq,QQ,QQ,QQ,QQ,Uc s,Zdp _ q,Bq,h,Bq];rfl
theorem ZpF {p:α->Bool} (h:∀x∈l,p x=false):Jw p l<0:=by
 rcases Int.lt_or_le (Jw p l) 0 with d|d
 ·exact d
 ·obtain⟨x,H,g⟩:=KO.1 (Vx.1 d)
  grind
abbrev noW:Zq:=(([]:List Int),([]:List Int),([]:List Int),([]:List Int),())
theorem Zxc:Zkz noW:=⟨rfl,rfl,rfl,rfl⟩
theorem undo (h:Ve b e) (he:sm XI e):∃(r:Za) (f:Zh),ZH e b=some r/\Xm e b=some f/\Z7 r/\sm XI f/\Ve r f/\ZH f r=some b:=by
 have j:=h.blk;have W:=j.ok.1.few;have f2:=ZQ W;have e5:=W.insts;have e6:=j.ok.1.2.1.2.1;have f9:=j.ok.2.1;obtain⟨b1,b2,b3⟩:=Vi j.sm;by_cases P:K7 e=1
 ·obtain⟨p,x,c,c2,g,R,N,I,hc,T,ha⟩:=h.poss.1 P
  obtain⟨D,b6⟩:=h.range.1 (.inl P);have J:(K3 (K2 b))[p.1.toNat]?=some x:=by
   unfold atI at I;grind
  obtain⟨⟨L,e4⟩,_,_⟩:=j.ok.1.2.2.1 x (Ud J);have U:(Gd (K6 b))[(Gr x).toNat]?=some c:=by
   unfold atI at hc;grind
  have V:(Gd (K6 b))[(Gy e).toNat]?=some c2:=by
   unfold atI at T;grind
  have a6:=JJ (ZoZ b1) U;have u:=JJ (ZoZ b1) V;have a:=ZrY j R J U V b6 (ZtK a6 u ha);have e0:ZdT b p.1 (Gy e)=(K6 b,((K3 (K2 b)).set p.1.toNat (Gq x,Gy e,Gc x,()),K5 (K2 b),Ge (K2 b),()),K4 b,()):=by
   unfold ZdT;rw[J]
  have B:=app1 j P g R J;have H:Xm e b=some (1,K9 e,Gr x,0,0,[],noW,()):=by
   unfold Xm;rw[Uc P,ZM _ W,Bq,g.at,Bq];grind
  rw[e0]at a B;generalize hr:((K6 b,((K3 (K2 b)).set p.1.toNat (Gq x,Gy e,Gc x,()),K5 (K2 b),Ge (K2 b),()),K4 b,()):Za)=r at a B;have t:Zg (K2 r)=Zg (K2 b):=by rw[<-hr];exact Zg4 J (Gy e)
  have M:(K3 (K2 r))[p.1.toNat]?=some (Gq x,Gy e,Gc x,()):=by grind
  have Y:K6 r=K6 b:=by rw[<-hr]
  have d:J5 r ((1,K9 e,Gr x,0,0,[],noW,()):Zh) p:=⟨g.1,by rw[t];exact g.2⟩;have z:Ve r (1,K9 e,Gr x,0,0,[],noW,()):=by
   refine ⟨a,.inl ⟨rfl,rfl,rfl,rfl,Zxc⟩,⟨λ_=>⟨by rw[t];exact D,by grind⟩,λ(k:(1:Int)=4)=>by omega,λ(k:(1:Int)=5)=>by omega⟩,
    ⟨λ_=>⟨p,(Gq x,Gy e,Gc x,()),c2,c,d,R,N,Yr R M,by rw[Y];exact T,by rw[Y];exact hc,ZxD a6 u ha⟩,λ(k:(1:Int)=2)=>by omega,λ(k:(1:Int)=3)=>by omega,λ(k:(1:Int)=4)=>by omega,λ(k:(1:Int)=5)=>by omega⟩,λ(k:(1:Int)=2)=>by omega⟩
  refine⟨r,_,B,H,a,Zn9 Zk2 Zjv,z,?_⟩;rw[app1 a rfl d R M];unfold ZdT;rw[M];show some ((K6 r,((K3 (K2 r)).set p.1.toNat (Gq x,Gr x,Gc x,()),K5 (K2 r),Ge (K2 r),()),K4 r,()):Za)=some b;rw[<-hr];show some ((K6 b,(List.set (List.set (K3 (K2 b)) p.1.toNat _) p.1.toNat x,K5 (K2 b),Ge (K2 b),()),K4 b,()):Za)=some b;rw[List.set_set,JX J]
 by_cases K:K7 e=2
 ·obtain⟨p,c,g,N,_⟩:=h.poss.2.1 K
  have Q:=(Zhx he).1;have a:=Zh2 h K Q g;obtain⟨o,d5,d3⟩:=Zwp h K g N;have H:Xm e b=some (3,0,0,0,0,[],noW,()):=by
   unfold Xm;grind
  refine ⟨_,_,app2 h K Q g N,H,a,Zn9 Zk2 Zjv,⟨a,.inr (.inr (.inl ⟨rfl,rfl,rfl,rfl,rfl,rfl,Zxc⟩)),⟨λ(k:(3:Int)=1\/(3:Int)=2)=>by omega,λ(k:(3:Int)=4)=>by omega,λ(k:(3:Int)=5)=>by omega⟩,
   ⟨λ(k:(3:Int)=1)=>by omega,λ(k:(3:Int)=2)=>by omega,λ_=>o,λ(k:(3:Int)=4)=>by omega,λ(k:(3:Int)=5)=>by omega⟩,λ(k:(3:Int)=2)=>by omega⟩,?_⟩
  obtain⟨k',p',m',g1,g2,g3,g4,g5⟩:=app3 (e:=((3,0,0,0,0,[],noW,()):Zh)) a o rfl;rw[g5];have e7:=Zmx b e p;have b4:((K5 (Zg7 b e p)).length:Int)-1=((K5 (K2 b)).length:Int):=by omega
  have A:Xx (Zg7 b e p) (((K5 (Zg7 b e p)).length:Int)-1)=[(k':Int)]:=g1;rw[b4,d5]at A;injection A with A _
  have ek:k'=ZjG b (K9 e).toNat:=by omega
  subst ek;have G:(Zg (Zg7 b e p))[ZjG b (K9 e).toNat]?=some p':=g2;rw[d3]at G;injection G with G
  subst G;have g6:=g4 (Zgs b e p) (by
   show(K3 (Xl (K2 b) p.1 p.2.1 _)++[Zgs b e p])[(K3 (Xl (K2 b) p.1 p.2.1 _)++[Zgs b e p]).length-1]?=some _
   simp_all)
  injection (show some p.2.2.1=some m' from g6)with g6
  subst g6;rw[Zwc h K Q g N]
 by_cases k3:K7 e=3
 ·have o:=h.poss.2.2.1 k3
  obtain⟨k,p,m,Q,g,a3,hm,b5⟩:=app3 j o k3;have a:=Zkg j o Q g a3 hm;obtain⟨s,x,I,f0⟩:=o.two;have a8:sm Jf x:=JJ (Zbw b2).1 I;have Z:=hm x I;obtain⟨L,⟨c',e3,e8⟩,a1⟩:=j.ok.1.2.2.1 x (Ud I);have J:atI (K3 (K2 b)) (((K3 (K2 b)).length:Int)-1)=some x:=Yr (by omega) (by simp_all);obtain⟨E,a2,F⟩:=Ztt j o Q g a3 I Z a (f:=((2,(unK k p:Int),Gr x,0,0,Gq x,noW,()):Zh)) rfl rfl;have H:Xm e b=some (2,(unK k p:Int),Gr x,0,0,Gq x,noW,()):=by
   unfold Xm;rw[Ue P,Ue K,Uc k3];obtain⟨k',p',m',v',f7,C,d9,f1,_,d6⟩:=Zhn j o;have ek:k=k':=by grind
   subst ek;rw[g]at C;injection C with C
   subst C;have em:m=m':=by
    grind
   subst em;have f3:=ZpV (unD b p m) (W.Xl p.1 p.2.1 m).cut E;rw[Vf _ j.sm,Bq,d6,Bq,YI (n:=((K3 (K2 b)).length:Int)-1),J,Bq];grind
  have d:J5 (YO b k p m) ((2,(unK k p:Int),Gr x,0,0,Gq x,noW,()):Zh) (p.1,p.2.1,m,p.2.2.2.1,()):=⟨by grind,E⟩;have a5:=o;obtain⟨x',c,w,m',_,O,hc,b8,b9,_,_,hl,_,d1,hw,_,_,_,_⟩:=a5;rw[I]at O;injection O with O
  subst O;have e2:1<=(K5 (K2 b)).length:=by
   have q:=a1 m (Ud (show(Gc x)[0]?=some m from Z));have:=q.1;have:=q.2;omega
  have tN:Int.toNat (((K5 (K2 b)).length:Int)-1)=(K5 (K2 b)).length-1:=by omega
  have S:(K5 (K2 b))[(K5 (K2 b)).length-1]?=some (Gq x):=by
   unfold atI at d1;grind
  have X:(Q7 (K2 b))[(K3 (K2 b)).length-1]?=some (Gq x):=by
   show(List.map Gq _)[_]?=_;grind
  have b7:=j.ok.1.2.1.2.2.2.1 _ _ (Ua.1 X).1 X;have e9:=j.ok.1.2.1.2.2.2.2.1 _ _ (Ua.1 S).1 S;have f4:Q7 (unD b p m)=(Q7 (K2 b)).take ((K3 (K2 b)).length-1):=by
   have:=Zh5 (K2 b) p.1 p.2.1 m;show List.map Gq ((K3 (Xl (K2 b) p.1 p.2.1 m)).take _)=_;rw[List.map_take,YG];exact UN (λl=>List.take ((K3 (K2 b)).length-1) l) this
  have f6:K5 (unD b p m)=(K5 (K2 b)).take ((K5 (K2 b)).length-1):=by
   show(K5 (Xl (K2 b) p.1 p.2.1 m)).take _=_;rw[X0]
  have f5:(K3 (unD b p m)).length=(K3 (K2 b)).length-1:=by
   show((K3 (Xl (K2 b) p.1 p.2.1 m)).take _).length=_;rw[Uk,YG];omega
  have z:Ve (YO b k p m) ((2,(unK k p:Int),Gr x,0,0,Gq x,noW,()):Zh):=by
   refine ⟨a,.inr (.inl ⟨rfl,rfl,rfl,Zxc⟩),⟨λ_=>⟨⟨by grind,?_⟩,L⟩,λ(k:(2:Int)=4)=>by omega,λ(k:(2:Int)=5)=>by omega⟩,
    ⟨λ(k:(2:Int)=1)=>by omega,λ_=>⟨_,c,d,a2,Yr L.1 hc,b8,b9,b7.1,?_,?_⟩,λ(k:(2:Int)=3)=>by omega,λ(k:(2:Int)=4)=>by omega,λ(k:(2:Int)=5)=>by omega⟩,λ_=>⟨?_,?_⟩⟩
   ·have:=(Ua.1 E).1
    show(unK k p:Int)<=((Zg (unD b p m)).length:Int)-1;omega
   ·refine ZpF λy hy=>?_
    have h1:Gq y∈Q7 (unD b p m):=List.mem_map_of_mem hy;grind
   ·refine ZpF λy hy=>?_
    have h1:y∈K5 (unD b p m):=hy;grind
   ·show(K3 (unD b p m)).length<=13
    omega
   ·show(K5 (unD b p m)).length<=29
    grind
  have d4:sm XI ((2,(unK k p:Int),Gr x,0,0,Gq x,noW,()):Zh):=Zn9 (Zjt a8).1 Zjv;refine⟨_,_,b5,H,a,d4,z,?_⟩;rw[app2 z rfl (Zjt a8).1 d a2];exact UN some F
 by_cases k4:K7 e=4
 ·obtain⟨p,g,N,d0⟩:=h.poss.2.2.2.1 k4
  obtain⟨D,s,w,hw,d2⟩:=h.range.2.1 k4;have a:=Zw5 j g.2 N s (v:=GC e) (λw' f8=>by grind);have hm:=Zjk (K2 b) (YF b) (K9 e).toNat p g.2 N;have H:Xm e b=some (4,K9 e,0,p.2.2.1,YF b (K9 e).toNat,[],noW,()):=by
   unfold Xm;rw[Ue P,Ue K,Ue k3,Uc k4,ZM _ W,Bq,g.at,Bq,ZdG j,Bq];rw[show Zkx ZcQ (Ty.int IntKind.i64) (Zcb (Zg (K2 b)) (YF b) (Zg (K2 b)).length) (Gt p,ZL.pin p,())=some (YF b (K9 e).toNat)from hm];rfl
  have e1:Zg (mvD b p (Gk e))=(Zg (K2 b)).set (K9 e).toNat (p.1,p.2.1,Gk e,p.2.2.2.1,()):=XC g.2 _;have d:J5 (moved b (K9 e).toNat p (Gk e) (GC e)) ((4,K9 e,0,p.2.2.1,YF b (K9 e).toNat,[],noW,()):Zh) (p.1,p.2.1,Gk e,p.2.2.2.1,()):=⟨g.1,by
   show (Zg (mvD b p (Gk e)))[(K9 e).toNat]?=_;grind⟩
  have a4:=XP j.ok.1 g.mem;have a0:ZbJ (mvD b p (Gk e)) p.2.2.1:=by
   unfold ZbJ mvD;rw[X0];exact a4
  obtain⟨w0,a9,_,_⟩:=Zhs j a4;have z:Ve (moved b (K9 e).toNat p (Gk e) (GC e)) ((4,K9 e,0,p.2.2.1,YF b (K9 e).toNat,[],noW,()):Zh):=by
   refine ⟨a,.inr (.inr (.inr (.inl ⟨rfl,rfl,rfl,Zxc⟩))),⟨λ(k:(4:Int)=1\/(4:Int)=2)=>by omega,λ_=>⟨⟨D.1,?_⟩,a0,Zce w0 ((cat (Qu (p.2.2.1.toNat:Int)) 0 (Zg (mvD b p (Gk e)))).map λk=>mvN b (K9 e).toNat (GC e) k.toNat),?_,Zlg j _ p w0 g.2 N a9⟩,λ(k:(4:Int)=5)=>by omega⟩,
    ⟨λ(k:(4:Int)=1)=>by omega,λ(k:(4:Int)=2)=>by omega,λ(k:(4:Int)=3)=>by omega,λ_=>⟨_,d,N,λq=>d0 (show p.2.2.1=Gk e from Eq.symm q)⟩,λ(k:(4:Int)=5)=>by omega⟩,λ(k:(4:Int)=2)=>by omega⟩
   ·show K9 e<=((Zg (mvD b p (Gk e))).length:Int)-1
    grind
   ·show(JM (Zg (mvD b p (Gk e))) (K4 b) (mvN b (K9 e).toNat (GC e)))[p.2.2.1.toNat]?=_
    rw[Qc,a9];rfl
  refine⟨_,_,app4 j k4 g N s,H,a,Zn9 Zk2 Zjv,z,?_⟩;rw[app4 a rfl d N a0];exact UN some (ZBw j g.2 (Gk e) (GC e))
 ·have k5:K7 e=5:=by have:=h.blank;unfold Blank at this;omega
  have s:=h.range.2.2 k5;obtain⟨w,b0,d7,d8⟩:=Zhs j s;have a7:=(Zhx he).2;have i:sm ZbR w:=JJ b3 b0;have a:=ZuV j s (h.poss.2.2.2.2 k5) a7;have H:Xm e b=some (5,0,0,Gk e,0,[],w,()):=by
   unfold Xm;rw[Ue P,Ue K,Ue k3,Ue k4,d7,Bq,Zdp _ i];rfl
  have z:Ve (ZxB b (Gk e) (GG e)) ((5,0,0,Gk e,0,[],w,()):Zh):=by
   refine ⟨a,.inr (.inr (.inr (.inr ⟨rfl,rfl,rfl,rfl,rfl⟩))),⟨λ(k:(5:Int)=1\/(5:Int)=2)=>by omega,λ(k:(5:Int)=4)=>by omega,λ_=>s⟩,
    ⟨λ(k:(5:Int)=1)=>by omega,λ(k:(5:Int)=2)=>by omega,λ(k:(5:Int)=3)=>by omega,λ(k:(5:Int)=4)=>by omega,λ_=>d8⟩,λ(k:(5:Int)=2)=>by omega⟩
  refine⟨_,_,ZF3 j k5 s a7,H,a,Zn9 Zk2 i,z,?_⟩;rw[ZF3 (e:=((5,0,0,Gk e,0,[],w,()):Zh)) a rfl s i];show some ((K6 b,K2 b,List.set (List.set (K4 b) _ _) (Gk e).toNat w,()):Za)=some b;rw[List.set_set,JX b0]
end Go.Proofs.YtoijdogpgpbddaaGreatDoor
