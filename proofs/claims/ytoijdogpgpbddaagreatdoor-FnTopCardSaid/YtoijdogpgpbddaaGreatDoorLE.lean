/-
  Plain laws: a timing brought up to date behind an edit is the one from scratch.
-/
import Derived.Test.YtoijdogpgpbddaaGreatDoorLD
namespace Go.Proofs.YtoijdogpgpbddaaGreatDoor
set_option linter.unusedVariables false
set_option linter.unusedSimpArgs false
open Go Go.Sx
variable {r:Za} {nets:List Int} {u:Int}
theorem Zqa:u∈ZiE r nets<->∃(k:Nat) (p:Pl),(Zg (K2 r))[k]?=some p/\p.2.2.1∈nets/\(u=2*(k:Int)\/u=2*(k:Int)+1):=by
 unfold ZiE;rw[XQ];constructor
 ·rintro⟨k,p,g,a⟩
  rw[Us]at a;by_cases q:p.2.2.1∈nets
  ·rw[Zlf q]at a
   grind
  ·rw[Zny q]at a
   cases a
 ·rintro⟨k,p,g,q,a⟩
  refine⟨k,p,g,?_⟩;rw[Us,Zlf q];grind
theorem Zwv (nets:List Int):∀(l:List Pl) (m:Nat),(cat (ZiD nets) m l).Pairwise (·<·)/\∀x∈cat (ZiD nets) m l,2*(m:Int)<=x
 |[],m=>⟨List.Pairwise.nil,λx h=>by cases h⟩
 |p::l,m=>by
  obtain⟨d,f⟩:=Zwv nets l (m+1);show(ZiD nets m p++cat (ZiD nets) (m+1) l).Pairwise (·<·)/\∀x∈ZiD nets m p++cat (ZiD nets) (m+1) l,2*(m:Int)<=x;by_cases q:p.2.2.1∈nets
  ·rw[Zlf q]
   grind
  ·rw[Zny q]
   grind
theorem Zzq (r:Za) (nets:List Int):Zlt (YD r:Int) (ZiE r nets):=by
 refine⟨λx l=>?_,λk x y l H=>?_⟩
 ·obtain⟨k,p,g,_,a⟩:=Zqa.1 l
  grind
 ·have h:=(Zwv nets (Zg (K2 r)) 0).1
  rw[List.pairwise_iff_getElem]at h;obtain⟨d,E⟩:=Ua.1 l;obtain⟨f,i⟩:=Ua.1 H;have:=h k (k+1) d f (by omega);rw[<-E,<-i];exact this
variable {b:Za} {e:Zh} {l:List Int}
theorem ZBp (h:Ve b e) (s:sm XI e) (F:ZH e b=some r) (A:ZoK b e l):∃n∈l,0<=n/\n<((K5 (K2 r)).length:Int):=by
 have d:=h.blk;have P:∀{p:Pl},J5 b e p->ZbJ (K2 b) p.2.2.1:=λg=>XP d.ok.1 g.mem;rcases A with⟨I,p,x,g,o,a,rfl⟩|⟨t,p,g,rfl⟩|⟨R,x,y,a,D,rfl⟩|⟨K,p,g,rfl⟩|⟨u,rfl⟩
 ·rw[app1 d I g o a]at F
  injection F with F
  subst F;obtain⟨i,j,z,Q,T,f,_⟩:=ZgB g.2 o;rw[show p.1.toNat=i by omega,T]at a;injection a with a
  subst a;have:=P g;exact⟨_,Ud f,this.1,by have:=this.2;show _<((K5 (K2 b)).length:Int);omega⟩
 ·obtain⟨p0,c,H,N,_⟩:=h.poss.2.1 t
  obtain rfl:=at_one H g;rw[app2 h t (Zhx s).1 H N]at F;injection F with F
  subst F;have:=P g;refine⟨_,UJ,this.1,?_⟩;have E:(K5 (K2 (X6 b e (K9 e).toNat p0))).length=(K5 (K2 b)).length+1:=Zmx b e p0;rw[E];have:=this.2;omega
 ·have q:=h.poss.2.2.1 R
  obtain⟨X,c,w,O,V,L,W,Y,Z,l6,M,l8,l9,J,_⟩:=id q;obtain⟨G,p0,m,U,H,B,S,k⟩:=app3 d q R;rw[k]at F;injection F with F
  subst F;rw[L]at a;injection a with a
  subst a;have v:y=O:=by
   have:=(Zo9 M).2;grind
  subst v;have C:=(d.ok.1.2.2.1 X (Ud L)).2.2 y (Ud D);refine⟨y,Ux.2 rfl,C.1,?_⟩;have E:(K5 (K2 (YO b G p0 m))).length=(K5 (K2 b)).length-1:=by
   show((K5 (Xl (K2 b) p0.1 p0.2.1 m)).take _).length=_;rw[X0,Uk];omega
  rw[E];have:=C.2;omega
 ·obtain⟨p0,H,N,_⟩:=h.poss.2.2.2.1 K
  have f:=(h.range.2.1 K).2.1;rw[app4 d K H N f]at F;injection F with F
  subst F;refine⟨Gk e,by simp,f.1,?_⟩;have E:K5 (K2 (moved b (K9 e).toNat p0 (Gk e) (GC e)))=K5 (K2 b):=X0;rw[E];have:=f.2;omega
 ·have f:=h.range.2.2 u
  rw[ZF3 d u f (Zhx s).2]at F;injection F with F
  subst F;exact⟨_,Ux.2 rfl,f.1,by have:=f.2;show _<((K5 (K2 b)).length:Int);omega⟩
theorem Zzp (h:Ve b e) (m:sm XI e) (F:ZH e b=some r) (H:Z7 r) (a:ZoK b e l):0<(ZiE r l).length:=by
 obtain⟨n,g,d,f⟩:=ZBp h m F a;obtain⟨q,y,c,i,_⟩:=Zos H.ok.1 (Vi H.sm).2.1 (v:=n.toNat);unfold Zu0 at i;rw[Ur,Ul]at i;exact List.length_pos_of_mem (Zqa.2 ⟨q,y,c,by grind,.inl rfl⟩)
theorem ZA1 (n m:Int) (st:NSt):ZkZ (ZyD n st)=ZkZ (ZyD m st):=by cases st<;>rfl
variable {c:ZB} {l:List Zj} {T:Zf}
theorem Zy9 (h:Ve b e) (S:sm XI e) (W:ZH e b=some r) (d:Z7 r) (I:Lens b e r) (V:ZoK b e nets) (y:Is b c [] l T) (Q:Zei l (λ_ x=>0<=goes (after b e) (Gi x))) (G:0<=u) (h1:u<(YD r:Int)) (R:u ∉ ZiE r nets) :
  Zab (ZbQ (after b e) T (YD r)) u=ZkZ (newV r c (Jg r []) (l.map (carry (after b e))) (ZbQ (after b e) T (YD r)) u):=by
 have o:=h.blk;have er:=nN r;have Z:=nN b;have H:=ZCI h S W V;have Y:=d.ok.2.1;have K:∀v:Nat,Tch b r nets (v:Int)->v<(K4 r).length:=λv X=>by have:=X.2;omega
 have i:(u/2).toNat<(Zg (K2 r)).length:=by omega
 have C:(Zg (K2 r))[(u/2).toNat]?=some ((Zg (K2 r))[(u/2).toNat]'i):=Ub _;generalize (Zg (K2 r))[(u/2).toNat]'i=p at C;have F:=XP d.ok.1 (Ud C);have f:Tch b r nets p.2.2.1:=⟨λq=>R (Zqa.2 ⟨_,p,C,q,by omega⟩),by have:=F.2;omega⟩;obtain⟨k,hk,g⟩:=H.fro _ p C f;have D:0<=Zdt b e k p:=H.alv k p g f p g;have B:(afN b e k:Int)=Zdt b e k p:=by rw[ZlH g];omega
 obtain⟨a,n,P⟩:∃a:Int,(0<=a/\a<=1)/\u=2*(afN b e k:Int)+a:=⟨u%2,by omega,by omega⟩;have U:=(Ua.1 g).1;obtain⟨M,_⟩:=Zon (r:=r) h I (t:=T) y.tb.lr;have w:∀(j:Nat) (q:Pl) (A:Int),(0<=A/\A<=1)->(Zg (K2 b))[j]?=some q->ZyU b e j->Zab (ZbQ (after b e) T (YD r)) (2*(afN b e j:Int)+A)=Zab T (2*(j:Int)+A):=λj q A z m J=>by
  have G:=J q m;have:=M j q A.toNat (by omega) m G;rw[show(A.toNat:Int)=A by omega]at this;rw[show(afN b e j:Int)=Zdt b e j q by rw[ZlH m];omega];exact this
 rw[P,w k p a n g (H.alv k p g f),y.right (2*(k:Int)+a) (by omega) (by omega)];unfold newV;rw[Zyc H o d K g f n (c:=c) (l:=l) (l':=l.map (carry (after b e))) (t:=T) (t':=ZbQ (after b e) T (YD r)) ?_ ?_ ?_]
 ·exact ZA1 _ _ _
 ·rw[B]
  exact Zv5 h I d y.asked.src Q g D n
 ·intro x L E
  obtain⟨j,q,A,z,m,J,N,O⟩:=ZAm H o d K g f n L E;rw[N,O];grind
 ·intro x L E s
  exact ZFh H o d g f n E c s
theorem ZmS (h:Ve b e) (H:sm XI e) (F:ZH e b=some r) (z:ZiW (YD b:Int) T):ZeL b e T=some (ZbQ (after b e) T (YD r),0):=by
 have M:(YD b:Int)=2*((Zg (K2 b)).length:Int):=by have:=nN b;omega
 rw[M]at z;obtain⟨v,p,m,_⟩:=Zmc h.blk;unfold ZeL;rw[(Zi2 h H F).1,Bq,Uc rfl,p,Bq,Zko h.blk v m,Bq,Uc (ZY z),Ztq h H F z];rfl
theorem Zz9 (h:Ve b e) (o:sm XI e) (O:sm XR c) (hl:l.length<=1048576) (F:ZH e b=some r) (B:Is b c [] l T) (G:Zei l (λ_ x=>0<=goes (after b e) (Gi x))) :
  ∃(u:Zf×List Int×Int) (q:Zf×Int) (nets:List Int),YV b e c l T=some u/\XV r c [] (l.map (carry (after b e)))=some q/\ZaJ e b=some (ZiE r nets)/\ZoK b e nets/\Z7 r/\u.2.2=q.2/\
   (q.2=0->Is r c [] (l.map (carry (after b e))) q.1/\u.1=q.1/\u.2.1.length<=1048576/\(ZiE r nets).length<=u.2.1.length/\0<(ZiE r nets).length/\∀C:Int->Prop,(∀x∈ZiE r nets,C x)->(∀(k:Nat) (x:Zt),(Zz r)[k]?=some x->(Jg r [])[k]?=some true->C (Gj x)->C (Gm x))->∀x∈u.2.1,C x):=by
 obtain⟨r',R,r2,i,_,I⟩:=Zg5 h o;rw[F]at R;injection R with R
 subst R;have hB:=h.blk;have V:(YD r:Int)=2*((Zg (K2 r)).length:Int):=by have:=nN r;omega
 have eb:(YD b:Int)=2*((Zg (K2 b)).length:Int):=by have:=nN b;omega
 have N:=B.ZKS;obtain⟨U,s1,s3,hs⟩:=ZgI b e l hB.sm o hl;have A:U.2=0/\U.1=l.map (carry (after b e)):=by
  rcases hs with⟨E,_,_,_,Z⟩|⟨_,_,z⟩
  ·exact⟨E,Z⟩
  ·exact absurd ⟨h,B.asked.src,G⟩ z
 obtain⟨nets,L,P,a0⟩:=Zzo h o F;have w:(l.map (carry (after b e))).length<=1048576:=by grind
 obtain⟨u,n,u1,u3,_,_,S⟩:=Zwe r c [] (l.map (carry (after b e))) (ZbQ (after b e) T (YD r)) (ZiE r nets) i.sm O (by simp) w;obtain⟨q,q1,_,Q⟩:=Zqm r c [] (l.map (carry (after b e))) i.sm O (by simp) w;have J:=Zyt h I N;have H:Pre r c [] (l.map (carry (after b e))):=⟨i,B.asked.cor,⟨λx a=>(by cases a),λk x y a=>(by simp at a)⟩,by rw[<-V];exact ZB0 h I i (by grind) G⟩;have s:=Zzq r nets;refine⟨u,q,nets,?_,q1,P,L,i,?_⟩
 ·unfold YV
  rw[s1,Bq,Uc A.1,ZmS h o F N,Bq,Uc rfl,F,Bq,P,Bq,A.2,u1];rfl
 by_cases p:(Jm r []).2=true;rotate_left
 ·have Z:u.2.2=7:=by
   rcases S with⟨f,_⟩|⟨_,_,_,⟨z,_⟩|z⟩
   ·exact absurd f.ord p
   all_goals grind
  have z2:q.2=7:=by
   rcases Q with⟨_,f⟩|⟨_,_,⟨_,f⟩|⟨_,_,z⟩⟩
   ·exact absurd f.asked.ord p
   ·exact absurd f.ord p
   ·exact z H
  grind
 have f:Zkt r c [] (l.map (carry (after b e))):=⟨H.blk,H.cor,H.ris,H.src,p⟩;have v:∀x:Int,0<=x->x<(YD r:Int)->x ∉ ZiE r nets->Zab (ZbQ (after b e) T (YD r)) x=ZkZ (newV r c (Jg r []) (l.map (carry (after b e))) (ZbQ (after b e) T (YD r)) x):=λx X Y a=>Zy9 h o F i I L B G X Y a;have K:=λ(C:Int->Prop) j m=>ZBy (b:=r) (c:=c) (br:=[]) (l:=l.map (carry (after b e))) (t:=ZbQ (after b e) T (YD r)) (dirty:=ZiE r nets) f J v (C:=C) j m;obtain⟨D,k2⟩:=K (λ_=>True) (λ_ _=>trivial) (λ_ _ _ _ _=>trivial);rcases S with⟨_,_,_,⟨E,Z⟩|⟨E,Z,z2,z3⟩⟩|⟨_,_,_,⟨_,_,_,z⟩|z⟩;rotate_left
 ·grind
 ·exact absurd p z
 ·grind
 have d:=UN Prod.fst Z;have D:=D d.symm;rw[<-Z]at D;obtain⟨w1,w2,w3,_⟩:=D;rcases Q with⟨W,M⟩|⟨_,g,_⟩;rotate_left
 ·exact absurd w1 (g _)
 refine⟨by rw[E,W],λ_=>⟨M,w1.unique M,u3,?_,Zzp h o F i L,λC j m=>?_⟩⟩
 ·exact Zqi _ _ (Zz8 s.2) λx a=>w3 x (s.1 x a).1 (by have:=(s.1 x a).2;omega) a
 ·have:=((K C j m).1 d.symm).2.2.2
  grind
theorem Zn1 (h:sm Ya b) (q:sm XR c) {br:List Int} (H:br.length<=7000) (a:l.length<=400):Y8 (Y2 b c br l) (λ_=>True):=by
 obtain⟨r,_,e,_⟩:=Zqm b c br l h q;exact .of e trivial
theorem ZsJ {s:Zm} (o:Src s):Y8 (Zfy s) (λr=>(Zr4 r.1/\sm XI r.2.1)/\sm XR r.2.2.1/\r.2.2.2.1.length<=400):=by
 unfold Zfy;refine (Zy7 o).bind λe ⟨j,v,c,H,d⟩=>?_;have h:sm XR e.2.1:=ZBe;rw[Qb _ j.1.1,Bq];have rest:∀ {t:Zm},Src t->Y8 ((ZbC t e.fst).bind λl =>
   (Y2 e.fst e.snd.fst (([]:List Int)) e.snd.snd.snd.fst).bind λPropagateTiming0 =>
   (Zl l.snd (8:Int)).bind λb =>
   if b.fst=(0:Int)then
    if(0:Int)<(↑(List.length e.snd.snd.fst):Int)then
     (Y2 e.fst e.snd.fst e.snd.snd.fst e.snd.snd.snd.fst).bind λPropagateTiming1 =>
     some (e.fst,l.fst,e.snd.fst,e.snd.snd.snd.fst,PropagateTiming1.fst,b.snd)
    else
     some (e.fst,l.fst,e.snd.fst,e.snd.snd.snd.fst,PropagateTiming0.fst,b.snd)
   else
    some (e.fst,l.fst,e.snd.fst,e.snd.snd.snd.fst,PropagateTiming0.fst,b.snd))
   (λr:Za×Zh×ZB×(List Zj)×Zf×Zm=>(Zr4 r.1/\sm XI r.2.1)/\sm XR r.2.2.1/\r.2.2.2.1.length<=400):=λp=>by
  refine(ZmE p j.1).bind λR ⟨m,f⟩=>?_;refine(Zn1 j.1.1 h (by simp) H).bind λ_ _=>(ZI f _).bind λu _=>?_;exact Y8.ite (λ_=>Y8.ite (λ_=>(Zn1 j.1.1 h c H).bind λ_ _=>.ret ⟨⟨j.1,m⟩,h,H⟩) (λ_=>.ret ⟨⟨j.1,m⟩,h,H⟩)) (λ_=>.ret ⟨⟨j.1,m⟩,h,H⟩)
 refine Y8.ite (λ_=>?_) (λ_=>rest d);refine(ZI d _).bind λR ⟨_,f⟩=>?_;refine Y8.ite (λ_=>?_) (λ_=>rest f);refine(ZrB f j.1 (most:=1)).bind λu ⟨⟨_,q⟩,g⟩=>?_;refine(Zpr j.1 q).bind λw i=>?_;refine(ZoF g i.1).bind λx ⟨a,k⟩=>?_;refine(ZmE k i).bind λy ⟨m,n⟩=>?_;refine(Zn1 i.1 h (by simp) a).bind λ_ _=>(ZI n _).bind λz _=>?_;exact Y8.ite (λ_=>Y8.ite (λ_=>.ret ⟨⟨i,m⟩,h,a⟩) (λ_=>.ret ⟨⟨i,m⟩,h,a⟩)) (λ_=>.ret ⟨⟨i,m⟩,h,a⟩)
variable {code:List Int}
theorem ZtW (q:∀x∈code,0<=x/\x<=255) (h:code.length<=5000):Y8 (Jc code) (λr=>sm Ya r.1/\sm XI r.2.1/\sm XR r.2.2.1/\r.2.2.2.1.length<=400):=by
 unfold Jc;refine(ZrF q h).bind λs H=>?_;exact(ZsJ H).bind λr ⟨⟨d,f⟩,g,i⟩=>.ret ⟨d.1,f,g,i⟩
theorem Zpq (b:Za) (e:Zh) (h:sm Ya b) (m:sm XI e):∃(r:Za) (k:Int),VB b e=some k/\Zaq b e=some (r,k)/\JA b e=some (r,k)/\(k=0->Ve b e/\ZH e b=some r):=by
 obtain⟨k,d,f,g⟩:=ZpC b e h m;unfold Zaq JA;rw[d,f,Bq,Bq];by_cases H:k=0
 ·obtain⟨r,a,A,_⟩:=Zg5 (g H) m
  rw[Uc H,Uc H,a,A,Bq,H];exact⟨r,0,rfl,rfl,rfl,λ_=>⟨g H,rfl⟩⟩
 ·rw[Ue H,Ue H]
  exact⟨ZvL,k,rfl,rfl,rfl,λq=>absurd q H⟩
theorem Zso (q:∀x∈code,0<=x/\x<=255) (l:code.length<=4096):Y8 (ZcK code) (λr=>Zr4 r.1/\sm (.sl XI) r.2):=by
 unfold ZcK;refine(Zz2 q l).bind λs a=>?_;refine(ZyV a).bind λR ⟨b,h⟩=>?_;refine(ZrB h b (most:=4)).bind λc ⟨⟨H,w⟩,d⟩=>?_;refine(ZI d 8).bind λi ⟨_,f⟩=>?_;have same:Y8 (some (R.1,c.1)) (λr:Za×List Zh=>Zr4 r.1/\sm (.sl XI) r.2):=.ret ⟨b,smL (by dsimp only;omega) w⟩;refine Y8.ite (λ_=>?_) (λ_=>Y8.ite (λ_=>?_) (λ_=>same))
 ·refine(ZmE f b).bind λg ⟨m,_⟩=>?_
  refine .guard (by grind) (.ret ⟨b,smL ?_ (ZeH w m)⟩);grind
 ·refine(ZI f 5).bind λg _=>?_
  refine Y8.ite (λ_=>?_) (λ_=>same);refine .ret ⟨b,smL ?_ (λe m=>?_)⟩
  ·grind
  ·rw[List.eq_of_mem_replicate m]
   exact Zn9 Zk2 Zjv
theorem Zu9 (h:Ve b e) (d:sm XI e) (F:ZH e b=some r):(Ge (K2 r)).length=(Ge (K2 b)).length:=by
 have j:=h.blk;by_cases f:K7 e=1
 ·obtain⟨p0,x,c,c2,H,a,_,l,_⟩:=h.poss.1 f
  rw[app1 j f H a (Zo9 l).2]at F;injection F with F
  rw[<-F];rfl
 by_cases g:K7 e=2
 ·obtain⟨p0,c,H,N,_⟩:=h.poss.2.1 g
  rw[app2 h g (Zhx d).1 H N]at F;injection F with F
  rw[<-F];exact Zfp
 by_cases R:K7 e=3
 ·obtain⟨p,p0,m,q,H,i,o,k⟩:=app3 j (h.poss.2.2.1 R) R
  rw[k]at F;injection F with F
  rw[<-F];exact Zfp
 by_cases K:K7 e=4
 ·obtain⟨p0,H,N,_⟩:=h.poss.2.2.2.1 K
  rw[app4 j K H N (h.range.2.1 K).2.1]at F;injection F with F
  rw[<-F];exact Zfp
 ·have n:K7 e=5:=by have:=h.blank;unfold Blank at this;omega
  rw[ZF3 j n (h.range.2.2 n) (Zhx d).2]at F;injection F with F
  rw[<-F];rfl
def Zky (b:Za) (l:List Zj):Prop:=∀x∈l,∃(k:Nat) (p:Pl) (a:Int),(0<=a/\a<=1)/\(Zg (K2 b))[k]?=some p/\p.1<0/\Gi x=2*(k:Int)+a
theorem Zph (h:Ve b e) (H:sm XI e) (F:ZH e b=some r) (o:Lens b e r) {k:Nat} {p:Pl} (g:(Zg (K2 b))[k]?=some p) (q:p.1<0) :
  0<=Zdt b e k p/\Zdt b e k p=(k:Int)+((Zg (K2 r)).length:Int)-((Zg (K2 b)).length:Int)/\∃P,(Zg (K2 r))[(Zdt b e k p).toNat]?=some P/\P.1<0:=by
 have m:=(Zcc g).1.1 q;have d:=(Ua.1 g).1;have c:=Zu9 h H F;have a:=Zbb (K2 r);have E:Zdt b e k p=(k:Int)+((Zg (K2 r)).length:Int)-((Zg (K2 b)).length:Int):=by
  unfold Lens at o;by_cases f:K7 e=2
  ·rw[QQ,Uc f]at o
   rw[Zrq f q];omega
  by_cases R:K7 e=3
  ·rw[Uc R,Ue f]at o
   rw[Zrr R q];omega
  ·rw[Ue R,Ue f]at o
   rw[Zjd R (λz=>f z.1)];omega
 refine⟨by omega,E,?_⟩;have t:(Zdt b e k p).toNat<(Zg (K2 r)).length:=by omega
 have l:(Zg (K2 r))[(Zdt b e k p).toNat]?=some ((Zg (K2 r))[(Zdt b e k p).toNat]'t):=Ub _;exact⟨_,l,(Zcc l).1.2 (by omega)⟩
section
variable {b r:Za} {e f:Zh} {l:List Zj}
theorem Zxn (h:Ve b e) (m:sm XI e) (F:ZH e b=some r) (o:Lens b e r) (j:Z7 r) (g:Zky b l):Zei l (λ_ x=>0<=goes (after b e) (Gi x))/\Zky r (l.map (carry (after b e))):=by
 have Y:=ZQ j.ok.1.few;refine⟨λi x d=>?_,λy s=>?_⟩
 ·obtain⟨k,p,a,n,H,q,f⟩:=g x (Ud d)
  have:=(Zph h m F o H q).1;unfold goes;rw[f,show((2*(k:Int)+a)/2).toNat=k by omega,after_at H];exact this
 ·obtain⟨x,d,rfl⟩:=Ke.1 s
  obtain⟨k,p,a,n,H,q,f⟩:=g x d;obtain⟨u,v,P,C,c⟩:=Zph h m F o H q;have t:=(Ua.1 C).1;exact⟨_,P,a,n,C,c,by rw[Zla H n f];omega⟩
theorem ZxI (h:Ve b e) (u:sm XI e) (F:ZH e b=some r) (s:Lens b e r) (q:Ve r f) (v:sm XI f) (c:ZH f r=some b) (i:Lens r f b) (t:Z7 r) (z:Zky b l):(l.map (carry (after b e))).map (carry (after r f))=l:=by
 have Y:=ZQ t.ok.1.few;have L:=ZQ h.blk.ok.1.few;rw[List.map_map];refine(Kj λx B=>?_).trans (List.map_id _);obtain⟨k,p,a,d,H,A,g⟩:=z x B;obtain⟨D,I,P,C,n⟩:=Zph h u F s H A;have y:=(Ua.1 C).1;have w:=(Ua.1 H).1;have E:=Zla (b:=b) (e:=e) (x:=x) H d g;obtain⟨W,G,_⟩:=Zph q v c i C n;have j:=Zla (b:=r) (e:=f) (x:=carry (after b e) x) C d (by rw[E];omega);show carry (after r f) (carry (after b e) x)=x;have m:Gi (carry (after r f) (carry (after b e) x))=Gi x:=by rw[j,g];omega
 have o:(carry (after r f) (carry (after b e) x)).2=x.2:=rfl;exact Prod.ext m o
end
inductive ZuZ (c:ZB) (b0:Za) (l0:List Zj) (T0:Zf):List Za->List Zh->Za->List Zj->Zf->Prop
 |nil:Is b0 c [] l0 T0->Zky b0 l0->ZuZ c b0 l0 T0 [b0] [] b0 l0 T0
 |snoc {bs fs b l T e f r U}:ZuZ c b0 l0 T0 bs fs b l T->Ve b e->sm XI e->ZH e b=some r->Ve r f->sm XI f->ZH f r=some b->Is r c [] (l.map (carry (after b e))) U->Zky r (l.map (carry (after b e)))->ZuZ c b0 l0 T0 (bs++[r]) (fs++[f]) r (l.map (carry (after b e))) U
section
variable {c:ZB} {b0:Za} {l0:List Zj} {T0:Zf} {bs:List Za} {fs:List Zh} {b:Za} {l:List Zj} {T:Zf}
theorem ZuZ.is (h:ZuZ c b0 l0 T0 bs fs b l T):Is b c [] l T/\Zky b l:=by
 cases h with
 |nil d f=>exact⟨d,f⟩
 |snoc _ _ _ _ _ _ _ d f=>exact⟨d,f⟩
theorem ZuZ.len (h:ZuZ c b0 l0 T0 bs fs b l T):bs.length=fs.length+1/\bs[fs.length]?=some b:=by
 induction h with
 |nil _ _=>exact⟨rfl,rfl⟩
 |snoc _ _ _ _ _ _ _ _ _ i =>
  rw[Ug,Ug];refine⟨by have:=i.1;simp only[Um,Uo];omega,?_⟩;rw[UE (by simp only[Um,Uo];have:=i.1;omega)];simp only[Um,Uo];rw[show ∀n m:Nat,m=n+1->n+(0+1)-m=0 from λn m e=>by omega]
  ·rfl
  ·exact i.1
theorem ZuZ.srcs (h:ZuZ c b0 l0 T0 bs fs b l T):l.length=l0.length:=by
 induction h with
 |nil _ _=>rfl
 |snoc _ _ _ _ _ _ _ _ _ i=>rw[UW];exact i
theorem Zw9 {r:Za} (H:Z7 r) (f:0<(K5 (K2 r)).length:=by omega):0<YD r:=by
 obtain⟨q,y,b,_⟩:=Zos H.ok.1 (Vi H.sm).2.1 (v:=0) f;have:=(Ua.1 b).1;have:=nN r;omega
theorem ZuZ.empty (h:ZuZ c b0 l0 T0 bs fs b l T) (z:YD b=0):(K4 b0).length=0:=by
 cases h with
 |nil d f =>
  have j:=d.asked.blk;have w:=j.ok.2.1;refine Nat.eq_zero_of_not_pos λq=>?_;have:=Zw9 j;omega
 |snoc m d f g i H I k a =>
  exfalso;obtain⟨nets,r,_⟩:=Zzo d f g;obtain⟨n,_,n0,n1⟩:=ZBp d f g r;have:=Zw9 k.asked.blk;omega
theorem Zui:Vo=XW:=by
 funext a P v2 v4 v6 v7 c3 c4 c5;unfold Vo XW;rfl
theorem ZBx (G:sm XR c) (hl:l0.length<=1000) {P:Int} (h:ZuZ c b0 l0 T0 bs fs b l T):∀(X:List Za) (Y:List Zh),fs.length<=1048576->
  ZA (λv=>XW c (T0,P) (bs++X) (fs++Y) v.1 v.2.1 v.2.2.1 v.2.2.2.1 v.2.2.2.2.1) (l,Wq ((fs.length:Int)-1),Ga T,Gx T,Gv T,())=some (.inr (.inr true)):=by
 induction h with
 |nil d g =>
  intro X Y _;refine Y1 ?_;have hn:=ZgZ d.asked.blk;show XW c (T0,P) ([b0]++X) ([]++Y) l0 (Wq (((0:Nat):Int)-1)) (Ga T0) (Gx T0) (Gv T0)=_;rw[QR];unfold XW;have w:=ZHk d.tb d.tb;rw[ZY rfl]at w;rw[QQ,show VL (Ga T0,Gx T0,Gv T0,()) (T0,P).fst=some true from w];rfl
 |@snoc bs fs b l T e f r U p d g A i j I C N ih =>
  intro X Y a;obtain⟨J,t⟩:=p.len;obtain⟨E,x⟩:=p.is;have a0:=p.srcs;obtain⟨r',R,_,F,_,O⟩:=Zg5 d g;rw[A]at R;injection R with R
  subst R;obtain⟨b',B,_,o,_,H⟩:=Zg5 i j;rw[I]at B;injection B with B
  subst B;have k:=ZxI d g A O i j I H F x;obtain⟨D,_⟩:=Zxn i j I H o N;have m:(l.map (carry (after b e))).length<=1048576:=by rw[UW];omega
  obtain⟨u,q,nets,u1,L,_,_,_,u5,M⟩:=Zz9 i j G m I C D;rw[k]at L M;obtain⟨q',Q,_,W⟩:=Zqm b c [] l o.sm G (by simp);rw[L]at Q;injection Q with Q
  subst Q;have y:q.2=0:=by
   rcases W with⟨z,_⟩|⟨_,z,_⟩
   ·exact z
   ·exact absurd E (z T)
  obtain⟨w1,w2,_⟩:=M y;have S:u.1=T:=by rw[w2];exact w1.unique E
  obtain⟨K,s1,_,Z⟩:=ZgI r f (l.map (carry (after b e))) F.sm j m;have s:K.2=0/\K.1=l:=by
   rcases Z with⟨z0,_,_,_,z1⟩|⟨_,_,z⟩
   ·exact⟨z0,by rw[z1,k]⟩
   ·exact absurd ⟨i,C.asked.src,D⟩ z
  have V:=(Zi2 i j I).2;rw[Ug] at a;simp only[Um,Uo] at a;refine (Xk (v':=(l,Wq ((fs.length:Int)-1),Ga T,Gx T,Gv T,())) ?_).trans (by
   rw[Uj,Uj];exact ih ([r]++X) ([f]++Y) (by omega))
  show XW c (T0,P) (bs++[r]++X) (fs++[f]++Y) (l.map (carry (after b e))) (Wq (((fs++[f]).length:Int)-1)) (Ga U) (Gx U) (Gv U)=_;rw[show(((fs++[f]).length:Nat):Int)-1=(fs.length:Int) by rw[Ug];simp only[Um,Uo];omega,QR (n:=(fs.length:Int))];have x2:atI (bs++[r]++X) (Wq ((fs.length:Int)+1))=some r:=by
   rw[Y3 (show fs.length<=1048576 by omega),Zp,Uj,UE (by omega),show fs.length+1-bs.length=0 by omega];rfl
  have x3:atI (fs++[f]++Y) (fs.length:Int)=some f:=by
   rw[Zp,Uj,UE (UO _),Nat.sub_self];rfl
  have x4:atI (bs++[r]++X) (fs.length:Int)=some b:=by
   rw[Zp,Uj,Ut (by omega)];exact t
  unfold XW;rw[QP,x2,Bq,x3,Bq,show YV r f c (l.map (carry (after b e))) (Ga U,Gx U,Gv U,())=some u from u1,Bq,s1,Bq,V,Bq,QP,Uc s.1,Uc rfl,x4,Bq,ZuU b o.sm,Bq,Uc rfl,s.2,S]
end
section
variable {c:ZB} {b0:Za} {l0:List Zj} {T0:Zf}
theorem closing (H:sm XR c) (g:l0.length<=1000) {P:Int} {bs:List Za} {fs:List Zh} {b:Za} {l:List Zj} {T:Zf} (h:ZuZ c b0 l0 T0 bs fs b l T) (f:fs.length<=1048576:=by omega) :
  ((XV b c (([]:List Int)) l).bind λPropagateTiming2 =>
  if PropagateTiming2.snd=(0:Int)then
   (VL PropagateTiming2.fst (Ga T,Gx T,Gv T,())).bind λW =>
   if W=true then
    if(↑(List.length PropagateTiming2.fst.fst):Int)=(0:Int)then
     if(↑(List.length (K4 b0)):Int)=(0:Int)then
      some (.inr (.inr (Decidable.decide (PropagateTiming2.snd=(0:Int)))))
     else
      some (.inr (.inr Bool.false))
    else
     ZA (λv=>XW c (T0,P) bs fs v.1 v.2.1 v.2.2.1 v.2.2.2.1 v.2.2.2.2.1) (l,Wq ((↑(List.length fs):Int)-(1:Int)),Ga T,Gx T,Gv T,())
   else
    if(↑(List.length (K4 b0)):Int)=(0:Int)then
     some (.inr (.inr (Decidable.decide (PropagateTiming2.snd=(0:Int)))))
    else
     some (.inr (.inr Bool.false))
  else
   if(↑(List.length (K4 b0)):Int)=(0:Int)then
    some (.inr (.inr (Decidable.decide (PropagateTiming2.snd=(0:Int)))))
   else
    some (.inr (.inr Bool.false)):Option (((List Za)×(List Zj)×(List Zh)×Int×(List Bool)×(List ZC)×(List ZC)×Unit) ⊕ (((List Zj)×Int×Unit) ⊕ Bool)))=some (.inr (.inr true)):=by
 obtain⟨m,x⟩:=h.is;have j:=m.asked.blk;have o:=ZgZ j;have k:=h.srcs;obtain⟨q,Q,_,i⟩:=Zqm b c [] l j.sm H (by simp);have n:q=(T,0):=by
  rcases i with⟨z,Z⟩|⟨_,z,_⟩
  ·obtain⟨a,d⟩:=q
   have E:a=T:=Z.unique m;grind
  grind
 have w:=ZHk m.tb m.tb;rw[ZY rfl]at w;rw[Q,Bq,n,Uc rfl,show VL (T,(0:Int)).fst (Ga T,Gx T,Gv T,())=some true from w,Bq,Uc rfl];by_cases e:YD b=0
 ·rw[Uc (by show((Ga T).length:Int)=0;rw[m.tb.lr,e];rfl),Uc (by rw[h.empty e];rfl)]
  rfl
 ·rw[Ue (by show ¬((Ga T).length:Int)=0;rw[m.tb.lr];omega)]
  have:=ZBx H g (P:=P) h [] [] f;grind
theorem forth (p:sm XR c) (D:l0.length<=1000) {P:Int} {s:List Zh} (d:∀x∈s,sm XI x) (C:s.length<=1048576):∀(m:Nat) {bs:List Za} {fs:List Zh} {b:Za} {l:List Zj} {T:Zf},ZuZ c b0 l0 T0 bs fs b l T->fs.length+m=s.length->
  ZA (λv=>QB b0 s c (T0,P) v.1 v.2.1 v.2.2.1 v.2.2.2.1 v.2.2.2.2.1 v.2.2.2.2.2.1 v.2.2.2.2.2.2.1) (bs,l,fs,(fs.length:Int),Ga T,Gx T,Gv T,())=some (.inr true)
 |0,bs,fs,b,l,T,h,Y=>by
  obtain⟨i,t⟩:=h.len;refine Y1 ?_;show QB b0 s c (T0,P) bs l fs (fs.length:Int) (Ga T) (Gx T) (Gv T)=_;unfold QB;rw[QQ,QR,show(bs.length:Int)-1=(fs.length:Int) by omega,Zp,t,Bq];exact closing p D h
 |m+1,bs,fs,b,l,T,h,Y=>by
  obtain⟨i,t⟩:=h.len;obtain⟨w,B⟩:=h.is;have J:=w.asked.blk;have a4:=h.srcs;have M:fs.length<s.length:=by omega
  have G:s[fs.length]?=some (s[fs.length]'M):=Ub _;generalize s[fs.length]'M=e at G;have H:=d e (Ud G);obtain⟨r,k,a0,O,Q,U⟩:=Zpq b e J.sm H;obtain⟨I,S,_,N⟩:=ZgI b e l J.sm H;have x0:atI bs (Wq ((bs.length:Int)-1))=some b:=by
   rw[QR,show(bs.length:Int)-1=(fs.length:Int) by omega,Zp];exact t
  have L:=closing p D (P:=P) h;have o:QB b0 s c (T0,P) bs l fs (fs.length:Int) (Ga T) (Gx T) (Gv T)=QB b0 s c (T0,P) bs l fs (fs.length:Int) (Ga T) (Gx T) (Gv T):=rfl
  conv at o=>rhs;unfold QB
  rw[QP,x0,Bq,Zp,G,Bq,O,Bq,Q]at o;by_cases a:k=0
  ·obtain⟨n,F⟩:=U a
   subst a;obtain⟨r',R,_,X,_,W⟩:=Zg5 n H;rw[F]at R;injection R with R
   subst R;obtain⟨K,A⟩:=Zxn n H F W X B;obtain⟨u,q,nets,u1,u2,_,_,_,u5,u6⟩:=Zz9 n H p (by omega) F w K;rw[show YV b e c l (Ga T,Gx T,Gv T,())=some u from u1,Bq,Bq,Uc rfl,Uc rfl]at o;by_cases j:u.2.2=0
   ·obtain⟨w1,w2,_⟩:=u6 (by omega)
    obtain⟨r2,f,Z,z2,_,z4,z5,z6⟩:=undo n H;rw[F]at Z;injection Z with Z
    subst Z;have g:ZeJ b e=some (f,0):=by
     unfold ZeJ;rw[a0,Bq,Uc rfl,z2];rfl
    have z:I.2=0/\I.1=l.map (carry (after b e)):=by
     rcases N with⟨y0,_,_,_,y1⟩|⟨_,_,y⟩
     ·exact⟨y0,y1⟩
     ·exact absurd ⟨n,w.asked.src,K⟩ y
    have V:ZuZ c b0 l0 T0 (bs++[r]) (fs++[f]) r (l.map (carry (after b e))) u.1:=.snoc h n H F z5 z4 z6 (by rw[w2];exact w1) A;have ih:=forth p D (P:=P) d C m V (by rw[Ug];simp only[Um,Uo];omega);rw[Uc j,g,Bq,S,Bq,Uc rfl,Uc z.1,Zk (by simp only[Um,Uo];omega),Zk (by simp only[Um,Uo];omega),Y3,z.2]at o;refine(Xk (v':=(bs++[r],l.map (carry (after b e)),fs++[f],((fs.length+1:Nat):Int),Ga u.1,Gx u.1,Gv u.1,())) o).trans ?_;rw[show fs.length+1=(fs++[f]).length by rw[Ug];rfl];exact ih
   ·rw[Ue j,Zui]at o
    exact Y1 (o.trans L)
  ·have E:∃u,YV b e c l T=some u:=by
    unfold YV;have z:I.2≠0:=by
     rcases N with⟨_,y,_⟩|⟨y,_⟩
     ·intro _
      have:=(Zi2 y H (Zg5 y H).choose_spec.1).1;rw[a0]at this;injection this with this
      exact a this
     ·exact y
    rw[S,Bq,Ue z];exact⟨_,rfl⟩
   obtain⟨u,E⟩:=E;rw[show YV b e c l (Ga T,Gx T,Gv T,())=some u from E,Bq,Bq,Uc rfl,Ue a,Zui]at o;exact Y1 (o.trans L)
end
theorem at_eq {a:Zu} {d:Zb} (n:sm X9 a) (N:sm YN d) (h:Ql a d) {k:Nat} {p:Pl} (g:(Zg d)[k]?=some p):Zjw a d (k:Int)=some (p,true):=by
 have i:=ZQ h.few;have H:=(Ua.1 g).1;unfold Zjw;rw[Zc0 _ _ n N,Bq,Uc (ZY h),ZP _ h.few,Bq,QR,Jy,Bq,Uc (ZY ⟨by omega,by omega⟩),Zp,g];rfl
theorem ZEO (b:Za) (s:List Zh) (c:ZB) (m:sm Ya b) (H:sm (.sl XI) s) (o:sm XR c):ZeV b s c=some true:=by
 obtain⟨S,e,I⟩:=Vi m;have C:s.length<=1048576:=by have:=H.1;omega
 have i:∀x∈s,sm XI x:=H.2;have tail:∀(v0:List Zj) (v1 n:Int),v0.length<=1000->Zky b v0->Zcg (K6 b) (K2 b)=some n->¬v1<n->Jl b s c v0 v1=some (.inr true):=λv0 v1 n a h A F=>by
  obtain⟨q,Q,f,D⟩:=Zqm b c [] v0 m o (by simp);unfold Jl;rw[A,Bq,Ue F,Q,Bq,f,Bq,Uc rfl];rcases D with⟨z,w⟩|⟨z,_,y⟩
  ·rw[Uc z]
   obtain⟨T,P⟩:=q;have:=forth (c:=c) (b0:=b) (l0:=v0) (T0:=T) o a (P:=P) i C s.length (ZuZ.nil w h) (by simp);exact this
  ·rw[QQ,z]
   rfl
 unfold ZeV;by_cases d:Ql (K6 b) (K2 b);rotate_left
 ·refine Y1 ?_
  refine tail [] 0 (-1) (by simp) (λx l=>by cases l) ?_ (by omega);unfold Zcg;rw[Zc0 _ _ S e,Bq,Ue (λz=>d ((YS _).1 z))]
 have j:=d.few;have B:=ZQ j;have K:Zcg (K6 b) (K2 b)=some ((Zg (K2 b)).length:Int):=by
  unfold Zcg;rw[Zc0 _ _ S e,Bq,Uc (ZY d),ZP _ j];rfl
 refine XJ (Zg (K2 b)).length (λk v=>v.2.1=(k:Int)/\v.1.length<=2*k/\Zky b v.1) _ ⟨rfl,by simp,λx l=>by cases l⟩ ?_ ?_
 ·rintro k ⟨v0,v1,⟨⟩⟩ r ⟨rfl,a,h⟩
  dsimp only at a h;have g:(Zg (K2 b))[k]?=some ((Zg (K2 b))[k]'r):=Ub _;generalize (Zg (K2 b))[k]'r=p at g;have E:Zf1 (K6 b) (K2 b) (k:Int)=some (p.1,p.2.1):=by
   unfold Zf1;rw[at_eq S e d g,Bq,Uc rfl]
  have t:Zf4 (K6 b) (K2 b) (k:Int)=some p.2.2.1:=by
   unfold Zf4;rw[at_eq S e d g,Bq,Uc rfl]
  have u:∀n,∃z,ZhK (K6 b) (K2 b) n=some z:=λn=>by
   unfold ZhK;rw[Zc0 _ _ S e,Bq,Uc (ZY d),Zjx _ _ j];exact⟨_,rfl⟩
  left;show ∃v',Jl b s c v0 (k:Int)=some (.inl v')/\_;unfold Jl;rw[K,Bq,QP,E,Bq,Y3];by_cases Q:p.1=-1
  ·obtain⟨z,G⟩:=u p.2.2.1
   rw[Uc Q,t,Bq,G,Bq];by_cases f:z=(k:Int)
   ·rw[Uc f,Zk (by grind),QR (n:=2*(k:Int)),QR (n:=2*(k:Int)+1)]
    refine⟨_,rfl,rfl,by grind,λx l=>?_⟩;rcases Uu.1 l with l|l
    ·exact h x l
    ·simp only[UD,UZ,Ks]at l
     rcases l with rfl|rfl
     ·exact⟨k,p,0,by omega,g,by omega,by grind⟩
     ·exact⟨k,p,1,by omega,g,by omega,rfl⟩
   ·rw[Ue f]
    grind
  ·rw[Ue Q]
   grind
 ·rintro⟨v0,v1,⟨⟩⟩ ⟨rfl,a,h⟩
  dsimp only at a h;exact tail v0 _ _ (by omega) h K (Uf _)
theorem ZsK (code:List Int) (f:bnd (.sl (.int .u8)) code):Zji code=some true:=by
 unfold Zji ZsL;rw[Bq];by_cases h:decide ((4096:Int)<(code.length:Int))=true
 ·rw[Uc h]
 rw[Ue h];have l:code.length<=4096:=by
  grind
 have L:=bytesD f;obtain⟨⟨b,s⟩,N,j,a⟩:=Zso L l;have e:IntKind.wrap IntKind.u8 ((5:Int)+7)=12:=by decide
 have d:IntKind.wrap IntKind.u8 ((3:Int)*5)=15:=by decide
 obtain ⟨⟨X,E,c,l',t'⟩,H,_,_,z,_⟩:=ZtW (code:=[5,12,15]++code) (λx g=>by
  grind) (by grind)
 unfold ZnP;rw[N,Bq,e,d,Zk (by grind),Bq,H,Bq,show ZeV (b,s).fst (b,s).snd (X,E,c,l',t').snd.snd.fst=some true from ZEO b s c j.1 a z];rfl
end Go.Proofs.YtoijdogpgpbddaaGreatDoor
