/-
  Plain laws: a timing from scratch is valid; what an update from a right timing leaves.
-/
import Derived.Test.YtcjminfjgckdlaaGreatDoorLD
import Derived.Test.YtcjminfjgckdlaaGreatDoorLB
namespace Go.Proofs.YtcjminfjgckdlaaGreatDoor
set_option linter.unusedVariables false
set_option linter.unusedSimpArgs false
open Go Go.Sx
theorem Is.ZJQ {b:Za} {c:Zz} {br:List Int} {l:List Zj} {t:Zf} (h:Is b c br l t):Ziu (Yt b:Int) t:=by
 obtain⟨v,_,i⟩:=Ztk h.asked.blk;have g:∀x∈l,Jk (GN x):=λx w=>by
  obtain⟨k,d⟩:=UA.1 w;exact(h.asked.src k x d).2.2.2
 have H:=ZwR h.asked.ord;have y:∀(r out:List Int),Zl3 (VO b br) (Zu b) out r->(∀u∈r,0<=u/\u<(Yt b:Int))->(∀u∈out,Jk (JM t u).2.2)->∀u∈out++r,Jk (JM t u).2.2:=by
  intro r;induction r with
  |nil=>grind
  |cons v' r I =>
   intro out m n o;have:=I (out++[v']) m.2 (λu f=>n u (UM _ f)) (λu f=>by
    rcases Ut.1 f with q|q
    ·exact o u q
    ·rw[Uw.1 q,h.right v' (n v' UH).1 (n v' UH).2]
     exact newV_slw h.asked i g m.1.2.2 o)
   grind
 have p:=y (V4 b br).1 [] H.ord H.inn (λu f=>by cases f);have a:∀s∈Gs t,Jk s:=λs J=>by
  obtain⟨k,d⟩:=UA.1 J;have j:=(Ub.1 d).1;have:=p (k:Int) (by rw[Uv];exact H.all _ (by omega) (by have:=h.tb.ls;omega));unfold JM at this;rw[show atI (Gs t) (k:Int)=some s by rw[Zo];exact d]at this;exact this
 refine ZrR h.tb λk d=>?_;have e:=h.right (k:Int) (by omega) (by omega);rw[e];exact ZxH (ZxL h.asked.blk i h.asked.cor a g _ _) (by rw[<-e];exact h.good _ (by omega) (by omega))
where
 newV_slw {b:Za} {c:Zz} {br:List Int} {l:List Zj} {t:Zf} {v:ZM} (hA:ZjV b c br l) (hv:VOk b v) (hsl:∀x∈l,Jk (GN x)) {out:List Int} {u:Int} (hr:Rdy (VO b br) (Zu b) out u) (ho:∀w∈out,Jk (JM t w).2.2):Jk (Zks (newV b c (VO b br) l t u)).2.2:=by
  have hst:StO (ZaJ b c (VO b br) l t u):=by
   unfold ZaJ;refine ZfW (I:=StO) _ _ _ ?_ λk x st hx hst=>?_
   ·unfold ZgI
    refine ZfW (I:=StO) _ _ _ (λq hq=>by cases hq) λk x st hx hst=>?_;split
    ·intro q hq
     grind
    ·exact hst
   ·rw[Us]
    split
    ·rename_i hlv
     split
     ·rename_i ht
      have hf:=ho _ (hr k x hx hlv ht);have hsp:=ZAn hA.blk hv hA.cor (Ud hx) hf;unfold Zow;split
      ·intro q hq
       cases st with
       |none =>
        have hq:some (_,(spn b c x ((atI (Gs t) (Gd x)).getD VH)).2)=some q:=hq;injection hq with hq
        rw[<-hq];exact hsp
       |some r =>
        have hq:some (_,hul r.2 (spn b c x ((atI (Gs t) (Gd x)).getD VH)).2)=some q:=hq;injection hq with hq
        rw[<-hq];exact ZrS (hst r rfl) hsp
      ·exact hst
     ·exact hst
    ·exact hst
  unfold newV;cases e:ZaJ b c (VO b br) l t u with
  |none=>exact Zs4
  |some q=>exact hst q e
theorem Zug {n:Nat} (u:Int):atI (List.replicate n false) u≠some true:=by
 unfold atI;grind
section
variable {b:Za} {c:Zz} {br:List Int} {l:List Zj} {t:Zf}
theorem Zt1 (r:Zg1 (Yt b) t):Mid b (VO b br) t (Yt b) [] t (List.replicate (Yt b) false) where
 tb:=r
 cl:=UR
 clo:=λu a=>by cases a
 rest:=λu _=>⟨rfl,Zug u⟩
 keep:=λu a=>by cases a
theorem ZAB (e:ZjV b c br l) {dirty:List Int} (z:Ziu (Yt b:Int) t) (r:∀u:Int,0<=u->u<(Yt b:Int)->u ∉ dirty->JM t u=Zks (newV b c (VO b br) l t u)) {C:Int->Prop} (j:∀u∈dirty,C u) (g:∀(k:Nat) (x:Zp),(Zu b)[k]?=some x->(VO b br)[k]?=some true->C (Gd x)->C (Gf x)) :
  ((ZnY b c (VO b br) l dirty (V4 b br).1 [] t (List.replicate (Yt b) false)).1=true->Is b c br l (ZnY b c (VO b br) l dirty (V4 b br).1 [] t (List.replicate (Yt b) false)).2.2/\
   (ZnY b c (VO b br) l dirty (V4 b br).1 [] t (List.replicate (Yt b) false)).2.1.Sublist (V4 b br).1/\(∀ u:Int,0<=u->u<(Yt b:Int)->u∈dirty->u∈(ZnY b c (VO b br) l dirty (V4 b br).1 [] t (List.replicate (Yt b) false)).2.1)/\∀ u∈(ZnY b c (VO b br) l dirty (V4 b br).1 [] t (List.replicate (Yt b) false)).2.1,C u)/\
  (∀T,Is b c br l T->(ZnY b c (VO b br) l dirty (V4 b br).1 [] t (List.replicate (Yt b) false)).1=true):=by
 obtain⟨v,_,n⟩:=Ztk e.blk;have h:=ZwR e.ord;have f:=ZKr (b:=b) (t:=t) (by grind);have d:∀u∈(V4 b br).1,Zoz (JM t u):=λu a _=>by
  have:=ZrW z (k:=u.toNat) (by have:=h.inn u a;omega);rw[show(u.toNat:Int)=u by have:=h.inn u a;omega]at this;exact this.1
 refine⟨λF=>?_,λT i=>?_⟩
 ·obtain⟨o,K,D,R,p,q,s⟩:=ZvC (b:=b) (c:=c) (live:=VO b br) (l:=l) (t0:=t) (hst e n) j g (V4 b br).1 [] [] t (List.replicate (Yt b) false) h.ord (λu a=>(h.inn u a).2) (λu a N=>⟨r u (h.inn u a).1 (h.inn u a).2 N,d u a⟩) (Zt1 f) (λu a=>by cases a) (λu a=>absurd a (Zug u)) F
  rw[Uv]at K R;refine⟨⟨e,o,λu m H=>(K u (h.all u m H)).1,λu m H=>(K u (h.all u m H)).2⟩,by rw[R];exact p,λu m H N=>by rw[R];exact q u (h.all u m H) N,by rw[R];exact s⟩
 ·exact Zqt (b:=b) (c:=c) (live:=VO b br) (l:=l) (t0:=t) (T:=T) (hst e n) (V4 b br).1 [] [] t (List.replicate (Yt b) false) h.ord (λu a=>(h.inn u a).2) (λu a N=>r u (h.inn u a).1 (h.inn u a).2 N) (Zt1 f) (λu a=>by cases a) (λu a=>⟨i.right u (h.inn u a).1 (h.inn u a).2,i.good u (h.inn u a).1 (h.inn u a).2⟩)
end
variable {r:Za} {nets:List Int} {u:Int}
theorem Zqc:u∈ZdQ r nets<->∃(k:Nat) (p:Pl),(places (KX r))[k]?=some p/\p.2.2.1∈nets/\(u=2*(k:Int)\/u=2*(k:Int)+1):=by
 unfold ZdQ;rw[Xx];constructor
 ·rintro⟨k,p,g,a⟩
  rw[Us]at a;by_cases q:p.2.2.1∈nets
  ·rw[ZkE q]at a
   grind
  ·rw[Zm4 q]at a
   cases a
 ·rintro⟨k,p,g,q,a⟩
  refine⟨k,p,g,?_⟩;rw[Us,ZkE q];grind
theorem Zv9 (nets:List Int):∀(l:List Pl) (m:Nat),(cat (Zh6 nets) m l).Pairwise (·<·)/\∀x∈cat (Zh6 nets) m l,2*(m:Int)<=x
 |[],m=>⟨List.Pairwise.nil,λx h=>by cases h⟩
 |p::l,m=>by
  obtain⟨d,f⟩:=Zv9 nets l (m+1);show(Zh6 nets m p++cat (Zh6 nets) (m+1) l).Pairwise (·<·)/\∀x∈Zh6 nets m p++cat (Zh6 nets) (m+1) l,2*(m:Int)<=x;by_cases q:p.2.2.1∈nets
  ·rw[ZkE q]
   grind
  ·rw[Zm4 q]
   grind
theorem ZtG (r:Za) (nets:List Int):Zit (Yt r:Int) (ZdQ r nets):=by
 refine⟨λx l=>?_,λk x y l H=>?_⟩
 ·obtain⟨k,p,g,_,a⟩:=Zqc.1 l
  grind
 ·have h:=(Zv9 nets (places (KX r)) 0).1
  rw[List.pairwise_iff_getElem]at h;obtain⟨d,E⟩:=Ub.1 l;obtain⟨f,i⟩:=Ub.1 H;have:=h k (k+1) d f (by omega);rw[<-E,<-i];exact this
variable {e:Zg}
theorem ZES {b:Za} (h:JV b e) (s:sm Qh e) (F:ZK e b=some r) {l:List Int} (A:ZoA b e l):∃n∈l,0<=n/\n<((K1 (KX r)).length:Int):=by
 have d:=h.blk;have P:∀{p:Pl},ZbC b e p->ZbE (KX b) p.2.2.1:=λg=>Qe d.ok.1 g.mem;rcases A with⟨I,p,x,g,o,a,rfl⟩|⟨t,p,g,rfl⟩|⟨R,x,y,a,D,rfl⟩|⟨K,p,g,rfl⟩|⟨u,rfl⟩
 ·rw[app1 d I g o a]at F
  injection F with F
  subst F;obtain⟨i,j,z,Q,T,f,_⟩:=Zf3 g.2 o;rw[show p.1.toNat=i by omega,T]at a;injection a with a
  subst a;have:=P g;exact⟨_,Ud f,this.1,by have:=this.2;show _<((K1 (KX b)).length:Int);omega⟩
 ·obtain⟨p0,c,H,N,_⟩:=h.poss.2.1 t
  obtain rfl:=at_one H g;rw[app2 h t (ZjR s).1 H N]at F;injection F with F
  subst F;have:=P g;refine⟨_,UH,this.1,?_⟩;have E:(K1 (KX (buffered b e (K8 e).toNat p0))).length=(K1 (KX b)).length+1:=Zyz b e p0;rw[E];have:=this.2;omega
 ·have q:=h.poss.2.2.1 R
  obtain⟨X,c,w,O,V,L,W,Y,Z,l6,M,l8,l9,J,_⟩:=id q;obtain⟨G,p0,m,U,H,B,S,k⟩:=app3 d q R;rw[k]at F;injection F with F
  subst F;rw[L]at a;injection a with a
  subst a;have v:y=O:=by
   have:=(Zr5 M).2;grind
  subst v;have C:=(d.ok.1.2.2.1 X (Ud L)).2.2 y (Ud D);refine⟨y,Uw.2 rfl,C.1,?_⟩;have E:(K1 (KX (Va b G p0 m))).length=(K1 (KX b)).length-1:=by
   show((K1 (conn (KX b) p0.1 p0.2.1 m)).take _).length=_;rw[Qv,Uj];omega
  rw[E];have:=C.2;omega
 ·obtain⟨p0,H,N,_⟩:=h.poss.2.2.2.1 K
  have f:=(h.range.2.1 K).2.1;rw[app4 d K H N f]at F;injection F with F
  subst F;refine⟨Gl e,by simp,f.1,?_⟩;have E:K1 (KX (moved b (K8 e).toNat p0 (Gl e) (Gz e)))=K1 (KX b):=Qv;rw[E];have:=f.2;omega
 ·have f:=h.range.2.2 u
  rw[ZHD d u f (ZjR s).2]at F;injection F with F
  subst F;exact⟨_,Uw.2 rfl,f.1,by have:=f.2;show _<((K1 (KX b)).length:Int);omega⟩
theorem ZyW {b:Za} (h:JV b e) (m:sm Qh e) (F:ZK e b=some r) (H:Z4 r) {l:List Int} (a:ZoA b e l):0<(ZdQ r l).length:=by
 obtain⟨n,g,d,f⟩:=ZES h m F a;obtain⟨q,y,c,i,_⟩:=ZpF H.ok.1 (Jb H.sm).2.1 (v:=n.toNat);unfold ZuJ at i;rw[Ur,Ul]at i;exact List.length_pos_of_mem (Zqc.2 ⟨q,y,c,by grind,.inl rfl⟩)
theorem Zz7 (n m:Int) (st:NSt):Zks (Zyc n st)=Zks (Zyc m st):=by cases st<;>rfl
variable {T:Zf}
theorem ZyI {b:Za} {c:Zz} {l:List Zj} (h:JV b e) (S:sm Qh e) (W:ZK e b=some r) (d:Z4 r) (I:Lens b e r) (V:ZoA b e nets) (y:Is b c [] l T) (Q:Zee l (λ_ x=>0<=goes (after b e) (Ge x))) (G:0<=u) (h1:u<(Yt r:Int)) (R:u ∉ ZdQ r nets) :
  JM (Zbu (after b e) T (Yt r)) u=Zks (newV r c (VO r []) (l.map (carry (after b e))) (Zbu (after b e) T (Yt r)) u):=by
 have o:=h.blk;have er:=nN r;have Z:=nN b;have H:=ZBH h S W V;have Y:=d.ok.2.1;have K:∀v:Nat,Tch b r nets (v:Int)->v<(KZ r).length:=λv X=>by have:=X.2;omega
 have i:(u/2).toNat<(places (KX r)).length:=by omega
 have C:(places (KX r))[(u/2).toNat]?=some ((places (KX r))[(u/2).toNat]'i):=Ua _;generalize (places (KX r))[(u/2).toNat]'i=p at C;have F:=Qe d.ok.1 (Ud C);have f:Tch b r nets p.2.2.1:=⟨λq=>R (Zqc.2 ⟨_,p,C,q,by omega⟩),by have:=F.2;omega⟩;obtain⟨k,hk,g⟩:=H.fro _ p C f;have D:0<=Zdq b e k p:=H.alv k p g f p g;have B:(afN b e k:Int)=Zdq b e k p:=by rw[Zla g];omega
 obtain⟨a,n,P⟩:∃a:Int,(0<=a/\a<=1)/\u=2*(afN b e k:Int)+a:=⟨u%2,by omega,by omega⟩;have U:=(Ub.1 g).1;obtain⟨M,_⟩:=Zoe (r:=r) h I (t:=T) y.tb.lr;have w:∀(j:Nat) (q:Pl) (A:Int),(0<=A/\A<=1)->(places (KX b))[j]?=some q->Zyu b e j->JM (Zbu (after b e) T (Yt r)) (2*(afN b e j:Int)+A)=JM T (2*(j:Int)+A):=λj q A z m J=>by
  have G:=J q m;have:=M j q A.toNat (by omega) m G;rw[show(A.toNat:Int)=A by omega]at this;rw[show(afN b e j:Int)=Zdq b e j q by rw[Zla m];omega];exact this
 rw[P,w k p a n g (H.alv k p g f),y.right (2*(k:Int)+a) (by omega) (by omega)];unfold newV;rw[ZxK H o d K g f n (c:=c) (l:=l) (l':=l.map (carry (after b e))) (t:=T) (t':=Zbu (after b e) T (Yt r)) ?_ ?_ ?_]
 ·exact Zz7 _ _ _
 ·rw[B]
  exact ZvM h I d y.asked.src Q g D n
 ·intro x L E
  obtain⟨j,q,A,z,m,J,N,O⟩:=Zzt H o d K g f n L E;rw[N,O];grind
 ·intro x L E s
  exact ZEP H o d g f n E c s
theorem Zmr {b:Za} (h:JV b e) (H:sm Qh e) (F:ZK e b=some r) (z:Ziu (Yt b:Int) T):Zek b e T=some (Zbu (after b e) T (Yt r),0):=by
 have M:(Yt b:Int)=2*((places (KX b)).length:Int):=by have:=nN b;omega
 rw[M]at z;obtain⟨v,p,m,_⟩:=ZlN h.blk;unfold Zek;rw[(Zli h H F).1,Bq,Uc rfl,p,Bq,ZjO h.blk v m,Bq,Uc (ZX z),Ztg h H F z];rfl
theorem ZEn {b:Za} {c:Zz} {l:List Zj} (h:JV b e) (o:sm Qh e) (O:sm XP c) (hl:l.length<=1048576) (F:ZK e b=some r) (B:Is b c [] l T) (G:Zee l (λ_ x=>0<=goes (after b e) (Ge x))) :
  ∃(u:Zf×List Int×Int) (q:Zf×Int) (nets:List Int),XB b e c l T=some u/\XW r c [] (l.map (carry (after b e)))=some q/\Jl e b=some (ZdQ r nets)/\ZoA b e nets/\Z4 r/\u.2.2=q.2/\
   (q.2=0->Is r c [] (l.map (carry (after b e))) q.1/\u.1=q.1/\u.2.1.length<=1048576/\(ZdQ r nets).length<=u.2.1.length/\0<(ZdQ r nets).length/\∀C:Int->Prop,(∀x∈ZdQ r nets,C x)->(∀(k:Nat) (x:Zp),(Zu r)[k]?=some x->(VO r [])[k]?=some true->C (Gd x)->C (Gf x))->∀x∈u.2.1,C x):=by
 obtain⟨r',R,r2,i,_,I⟩:=Zl5 h o;rw[F]at R;injection R with R
 subst R;have hB:=h.blk;have V:(Yt r:Int)=2*((places (KX r)).length:Int):=by have:=nN r;omega
 have eb:(Yt b:Int)=2*((places (KX b)).length:Int):=by have:=nN b;omega
 have N:=B.ZJQ;obtain⟨U,s1,_,s3,hs⟩:=Zi0 b e l hB.sm o hl;have A:U.2=0/\U.1=l.map (carry (after b e)):=by
  rcases hs with⟨E,_,_,_,Z⟩|⟨_,_,z⟩
  ·exact⟨E,Z⟩
  ·exact absurd ⟨h,B.asked.src,G⟩ z
 obtain⟨nets,L,P,a0⟩:=ZEa h o F;have w:(l.map (carry (after b e))).length<=1048576:=by grind
 obtain⟨u,n,u1,u3,_,_,S⟩:=ZvT r c [] (l.map (carry (after b e))) (Zbu (after b e) T (Yt r)) (ZdQ r nets) i.sm O (by simp) w;obtain⟨q,q1,_,Q⟩:=Zvw r c [] (l.map (carry (after b e))) i.sm O (by simp) w;have J:=Zx3 h I N;have H:Pre r c [] (l.map (carry (after b e))):=⟨i,B.asked.cor,⟨λx a=>(by cases a),λk x y a=>(by simp at a)⟩,by rw[<-V];exact ZA7 h I i (by grind) G⟩;have s:=ZtG r nets;refine⟨u,q,nets,?_,q1,P,L,i,?_⟩
 ·unfold XB
  rw[s1,Bq,Uc A.1,Zmr h o F N,Bq,Uc rfl,F,Bq,P,Bq,A.2,u1];rfl
 by_cases p:(V4 r []).2=true;rotate_left
 ·have Z:u.2.2=7:=by
   rcases S with⟨f,_⟩|⟨_,_,_,⟨z,_⟩|z⟩
   ·exact absurd f.ord p
   all_goals grind
  have z2:q.2=7:=by
   rcases Q with⟨_,f⟩|⟨_,_,⟨_,f⟩|⟨_,_,z⟩⟩
   ·exact absurd f.asked.ord p
   ·exact absurd f.ord p
   ·exact z H
  grind
 have f:ZjV r c [] (l.map (carry (after b e))):=⟨H.blk,H.cor,H.ris,H.src,p⟩;have v:∀x:Int,0<=x->x<(Yt r:Int)->x ∉ ZdQ r nets->JM (Zbu (after b e) T (Yt r)) x=Zks (newV r c (VO r []) (l.map (carry (after b e))) (Zbu (after b e) T (Yt r)) x):=λx X Y a=>ZyI h o F i I L B G X Y a;have K:=λ(C:Int->Prop) j m=>ZAB (b:=r) (c:=c) (br:=[]) (l:=l.map (carry (after b e))) (t:=Zbu (after b e) T (Yt r)) (dirty:=ZdQ r nets) f J v (C:=C) j m;obtain⟨D,k2⟩:=K (λ_=>True) (λ_ _=>trivial) (λ_ _ _ _ _=>trivial);rcases S with⟨_,_,_,⟨E,Z⟩|⟨E,Z,z2,z3⟩⟩|⟨_,_,_,⟨_,_,_,z⟩|z⟩;rotate_left
 ·grind
 ·exact absurd p z
 ·grind
 have d:=US Prod.fst Z;have D:=D d.symm;rw[<-Z]at D;obtain⟨w1,w2,w3,_⟩:=D;rcases Q with⟨W,M⟩|⟨_,g,_⟩;rotate_left
 ·exact absurd w1 (g _)
 refine⟨by rw[E,W],λ_=>⟨M,w1.unique M,u3,?_,ZyW h o F i L,λC j m=>?_⟩⟩
 ·exact Zqk _ _ (Zzh s.2) λx a=>w3 x (s.1 x a).1 (by have:=(s.1 x a).2;omega) a
 ·have:=((K C j m).1 d.symm).2.2.2
  grind
theorem Zzg {b:Za} (h:Z4 b):InN (2*(places (KX b)).length) (Zu b):=λl q=>by
 have:=Zb6 h q;omega
theorem Zvp {b:Za} {br:List Int} (h:Z4 b) (a:Zit ((Zu b).length:Int) br) (r:br.length<=1048576):∃v,Zg6 b br=some (some (v,Zdd (Zu b).length br,()),0)/\ZM.places v=places (KX b)/\ZM.links v=Zu b:=by
 have s:=QC h;obtain⟨v,p,m,_,H⟩:=ZxI h;have k:QG v br=some (tr (Zit ((Zu b).length:Int) br)):=by
  unfold QG;rw[show Za1 (ZM.links v)=some ((ZM.links v).length:Int)from rfl,Bq,H,QR];exact Zji br _ r
 have g:=ZrD v br (by rw[H];exact s) (by rw[H];exact a.1) r;rw[H]at g;refine⟨v,?_,m,H⟩;unfold Zg6;rw[Zc7 b h.sm,Bq,Uc (ZX h.ok),p,Bq,k,Bq,Uc (ZX a),g];rfl
theorem Zze (l:List Int) (x:Int) (q:l.length<=1048576):Zjl l x=some (decide (x∈l)):=by
 unfold Zjl;rw[QN (l:=l) (p:=λy=>decide (y=x)) (out:=λi=>decide (0<=i)) (show List.length _<=_ by omega) (λk y h=>by
  have H:=(Ub.1 h).1;simp only[Zf4,show (k:Int)<(l.length:Int) from by omega,Ui,Zo,h,Bq,Ul];split;all_goals simp_all) (by simp only[Zf4,Uf,Uh];rfl)]
 congr 1;rw[Ks,Vi,KN];grind
theorem mem_listed {s:List Bool} {y:Int}:y∈cat Zeu 0 s<->∃k:Nat,s[k]?=some true/\y=(k:Int):=by
 rw[Xx];constructor
 ·rintro⟨k,x,H,i⟩
  unfold Zeu at i;grind
 ·rintro⟨k,H,rfl⟩
  exact⟨k,true,H,by simp[Zeu]⟩
theorem ZnS {b:Za} (h:sm Yg b) {c:Zz} (q:sm XP c) {br:List Int} (H:br.length<=7000) {l:List Zj} (a:l.length<=400):Gets (YF b c br l) (λ_=>True):=by
 obtain⟨r,_,e,_⟩:=Zvw b c br l h q;exact .of e trivial
theorem ZsC {s:Zk} (o:Src s):Gets (Ze4 s) (λr=>(ZuH r.1/\sm Qh r.2.1)/\sm XP r.2.2.1/\r.2.2.2.1.length<=400):=by
 unfold Ze4;refine (ZyG o).bind λf ⟨j,v,d,H,e⟩=>?_;have h:sm XP f.2.1:=ZAk;rw[XO _ j.1.1,Bq];have rest:∀ {t:Zk},Src t->Gets ((Zb4 t f.fst).bind λl =>
   (YF f.fst f.snd.fst (([]:List Int)) f.snd.snd.snd.fst).bind λPropagateTiming0 =>
   (Zl l.snd (8:Int)).bind λg =>
   if g.fst=(0:Int)then
    if(0:Int)<(↑(List.length f.snd.snd.fst):Int)then
     (YF f.fst f.snd.fst f.snd.snd.fst f.snd.snd.snd.fst).bind λPropagateTiming1 =>
     some (f.fst,l.fst,f.snd.fst,f.snd.snd.snd.fst,PropagateTiming1.fst,g.snd)
    else
     some (f.fst,l.fst,f.snd.fst,f.snd.snd.snd.fst,PropagateTiming0.fst,g.snd)
   else
    some (f.fst,l.fst,f.snd.fst,f.snd.snd.snd.fst,PropagateTiming0.fst,g.snd))
   (λr:Za×Zg×Zz×(List Zj)×Zf×Zk=>(ZuH r.1/\sm Qh r.2.1)/\sm XP r.2.2.1/\r.2.2.2.1.length<=400):=λp=>by
  refine(ZpE p j.1).bind λR ⟨m,c⟩=>?_;refine(ZnS j.1.1 h (by simp) H).bind λ_ _=>(ZE c _).bind λu _=>?_;exact Gets.ite (λ_=>Gets.ite (λ_=>(ZnS j.1.1 h d H).bind λ_ _=>.ret ⟨⟨j.1,m⟩,h,H⟩) (λ_=>.ret ⟨⟨j.1,m⟩,h,H⟩)) (λ_=>.ret ⟨⟨j.1,m⟩,h,H⟩)
 refine Gets.ite (λ_=>?_) (λ_=>rest e);refine(ZE e _).bind λR ⟨_,c⟩=>?_;refine Gets.ite (λ_=>?_) (λ_=>rest c);refine(Zxo c j.1 (most:=1)).bind λu ⟨⟨_,q⟩,i⟩=>?_;refine(Zpv j.1 q).bind λw b=>?_;refine(Zov i b.1).bind λx ⟨a,k⟩=>?_;refine(ZpE k b).bind λy ⟨m,n⟩=>?_;refine(ZnS b.1 h (by simp) a).bind λ_ _=>(ZE n _).bind λz _=>?_;exact Gets.ite (λ_=>Gets.ite (λ_=>.ret ⟨⟨b,m⟩,h,a⟩) (λ_=>.ret ⟨⟨b,m⟩,h,a⟩)) (λ_=>.ret ⟨⟨b,m⟩,h,a⟩)
theorem ZtH {code:List Int} (q:∀x∈code,0<=x/\x<=255) (h:code.length<=5000:=by omega):Gets (VP code) (λr=>sm Yg r.1/\sm Qh r.2.1/\sm XP r.2.2.1/\r.2.2.2.1.length<=400):=by
 unfold VP;refine(Zxq q h).bind λs H=>?_;exact(ZsC H).bind λr ⟨⟨d,f⟩,g,i⟩=>.ret ⟨d.1,f,g,i⟩
theorem Zpu (b:Za) (e:Zg) (h:sm Yg b) (m:sm Qh e):∃(r:Za) (k:Int),Vl b e=some k/\J7 b e=some (r,k)/\Zbq b e=some (r,k)/\(k=0->JV b e/\ZK e b=some r):=by
 obtain⟨k,d,f,g⟩:=ZlC b e h m;unfold J7 Zbq;rw[d,f,Bq,Bq];by_cases H:k=0
 ·obtain⟨r,a,A,_⟩:=Zl5 (g H) m
  rw[Uc H,Uc H,a,A,Bq,H];exact⟨r,0,rfl,rfl,rfl,λ_=>⟨g H,rfl⟩⟩
 ·rw[Ue H,Ue H]
  exact⟨Zvr,k,rfl,rfl,rfl,λq=>absurd q H⟩
theorem ZFQ {b:Za} (h:Z4 b) {nd:List Int} (i:Zit (Yt b:Int) nd) (d:nd.length<=1048576):∃s:List Bool,ZhB b [] nd=some (cat Zeu 0 s,0)/\s.length=Yt b/\∀(a:Nat) (c:Bool),s[a]?=some c->(c=true<->Rch (Zu b) (VO b []) (λa=>a∈nd) (a:Int)):=by
 have e:=QC h;have p:=ZT h.ok.1.few;have M:=nN b;have r:Zit ((Zu b).length:Int) []:=⟨λx l=>(by cases l),λk x y l=>(by simp at l)⟩;obtain⟨v,t,m,H⟩:=Zvp h r (by simp);have o:X7 v nd=some (tr (Zit (Yt b:Int) nd)):=by
  unfold X7 YC;rw[show Y1 (ZM.places v)=some ((ZM.places v).length:Int)from rfl,Bq,Bq,m,YE (n:=2*((places (KX b)).length:Int)),QR,show 2*((places (KX b)).length:Int)-1=(Yt b:Int)-1 by omega];exact Zji nd _ d
 obtain⟨s,w,T,f⟩:=ZxR (g:=(v,Zdd (Zu b).length [],())) (nodes:=nd) (N:=2*(places (KX b)).length) (by show _=2*((ZM.places v).length:Int);rw[m];omega) (by omega) (by show InN _ (ZM.links v);rw[H];exact Zzg h) (by show(ZM.links v).length<=6000;rw[H];exact e) (by show(Zdd (Zu b).length []).length=(ZM.links v).length;rw[H,Zf5]) (λa j=>by have:=i.1 a j;omega) d;refine⟨s,?_,T,λa c q=>?_⟩
 ·unfold ZhB
  rw[t,Bq,Uc rfl,Bq,show X7 (GB (v,Zdd (Zu b).length [],())) nd=_ from o,Bq,Uc (ZX i),w,Bq,ZnB s];rfl
 ·have:=f a c q
  rw[show ZM.links (GB (v,Zdd (Zu b).length [],()))=Zu b from H]at this;exact this
theorem Zkj (code:List Int) (hb:bnd (.sl (.int .u8)) code):Za4 code=some true:=by
 unfold Za4 ZsD;rw[Bq];by_cases h:decide ((4096:Int)<(code.length:Int))=true
 ·rw[Uc h]
 rw[Ue h];have L:code.length<=4096:=by
  simp only[Ul]at h;omega
 obtain⟨⟨b,e,c,l,t⟩,hd,j,d,i,J⟩:=ZtH (bytesD hb);have j:sm Yg b:=j;have d:sm Qh e:=d;have i:sm XP c:=i;have J:l.length<=400:=J;rw[hd,Bq];obtain⟨q,Q,R,M⟩:=Zvw b c [] l j i (by simp);rw[show XW (b,e,c,l,t).fst (b,e,c,l,t).snd.snd.fst ([]:List Int) (b,e,c,l,t).snd.snd.snd.fst=some q from Q,Bq,show YF (b,e,c,l,t).fst (b,e,c,l,t).snd.snd.fst ([]:List Int) (b,e,c,l,t).snd.snd.snd.fst=some q from R,Bq,Uc rfl];by_cases g:q.2=0;rotate_left
 ·rcases M with⟨z,_⟩|⟨z,_⟩
  ·exact absurd z g
  ·rw[Ue g,z]
   rfl
 rw[Uc g];rcases M with⟨_,Z⟩|⟨_,_,⟨z,_⟩|⟨z,_⟩⟩;rotate_left
 ·omega
 ·omega
 obtain⟨rs,S,N,s3,hs⟩:=Zi0 b e l j d;obtain⟨r,k,a0,D,a2,E⟩:=Zpu b e j d;rcases hs with⟨T,n,hS,Y,V⟩|⟨T,_,_⟩;rotate_left
 ·have hu:XB b e c l q.1=some (noT,[],rs.2):=by
   unfold XB;rw[S,Bq,Ue T];rfl
  rw[show XB (b,e,c,l,t).fst (b,e,c,l,t).snd.fst (b,e,c,l,t).snd.snd.fst (b,e,c,l,t).snd.snd.snd.fst q.fst=_ from hu,Bq,show J7 (b,e,c,l,t).fst (b,e,c,l,t).snd.fst=_ from D,Bq,show VW (b,e,c,l,t).fst (b,e,c,l,t).snd.fst (b,e,c,l,t).snd.snd.snd.fst=_ from S,Bq,show Zak (b,e,c,l,t).fst (b,e,c,l,t).snd.fst (b,e,c,l,t).snd.snd.snd.fst=_ from N,Bq,Uc rfl];by_cases v:k=0
  ·rw[Uc v,Ue T,UQ rfl]
  ·rw[Ue v,UQ rfl]
 have B:k=0/\ZK e b=some r:=by
  have:=(Zli n d (E (by
   have I:=(Zse n d).2;obtain⟨K,U,W,_⟩:=ZlC b e j d;rw[I]at W;injection W with W
   rw[a0]at U;injection U with U
   omega)).2).1
  rw[a0]at this;injection this with this
  exact⟨this,(E this).2⟩
 obtain⟨u,p,nets,u1,u2,u3,u4,m,P,u6⟩:=ZEn n d i (by omega) B.2 Z Y;rw[show XB (b,e,c,l,t).fst (b,e,c,l,t).snd.fst (b,e,c,l,t).snd.snd.fst (b,e,c,l,t).snd.snd.snd.fst q.fst=_ from u1,Bq,show J7 (b,e,c,l,t).fst (b,e,c,l,t).snd.fst=_ from D,Bq,show VW (b,e,c,l,t).fst (b,e,c,l,t).snd.fst (b,e,c,l,t).snd.snd.snd.fst=_ from S,Bq,show Zak (b,e,c,l,t).fst (b,e,c,l,t).snd.fst (b,e,c,l,t).snd.snd.snd.fst=_ from N,Bq,Uc rfl,Uc B.1,Uc T,V,show XW (r,k).fst (b,e,c,l,t).snd.snd.fst ([]:List Int) (l.map (carry (after b e)))=_ from u2,Bq,Uc P];by_cases A:p.2=0;rotate_left
 ·rw[QQ,UQ P]
 rw[QP];obtain⟨w1,w2,w3,w4,w5,w6⟩:=u6 A;have H:=ZtG r nets;have hn:=Zhc m;have F:(ZdQ r nets).length<=1048576:=by omega
 obtain⟨s,k1,k2,k3⟩:=ZFQ m H F;have C:Zap b e=some (ZdQ r nets,0):=by
  unfold Zap;rw[a0,Bq,Uc B.1,u3];rfl
 rw[show Zap (b,e,c,l,t).fst (b,e,c,l,t).snd.fst=_ from C,Bq,show ZhB (r,k).fst ([]:List Int) (ZdQ r nets,(0:Int)).fst=_ from k1,Bq];have o:∀x∈u.2.1,x∈cat Zeu 0 s:=λx f=>by
  have:=w6 (λx=>0<=x/\x<(Yt r:Int)/\Rch (Zu r) (VO r []) (λa=>a∈ZdQ r nets) x) (λx f=>⟨(H.1 x f).1,by have:=(H.1 x f).2;omega,.base f⟩) (λK x' O y hf=>by
   have:=Zb6 m (Ud O);have en:=nN r;exact ⟨this.2.1,by omega,.step hf.2.2 ⟨K,x',O,y,rfl,rfl⟩⟩) x f
  obtain⟨h0,I,X⟩:=this;have G:s[x.toNat]?=some (s[x.toNat]'(by omega)):=Ua _;have ex:(x.toNat:Int)=x:=by omega
  have:=(k3 x.toNat _ G).2 (by rw[ex];exact X);rw[this]at G;exact mem_listed.2 ⟨x.toNat,G,ex.symm⟩
 have a4:=Zp9 s 0;refine YP (l:=u.2.1) (λk=>((k:Int),())) (λK x f v=>?_) ?_
 ·show XD u p (ZdQ r nets,(0:Int)) (cat Zeu 0 s,(0:Int)) (K:Int)=_
  unfold XD;rw[QP,Zo,f,Bq,Zze _ _ (by show(cat Zeu 0 s).length<=_;omega),Bq,Uc (UQ (o x (Ud f))),YW]
 ·show XD u p (ZdQ r nets,(0:Int)) (cat Zeu 0 s,(0:Int)) (u.2.1.length:Int)=_
  have w:=ZJT w1.tb w1.tb;rw[ZX rfl,<-w2]at w;unfold XD;rw[Ue (Uf _),Uc rfl,<-w2,w,Bq,Uc rfl,Uc (by show((ZdQ r nets).length:Int)<=(u.2.1.length:Int);omega),UQ (by show(0:Int)<((ZdQ r nets).length:Int);omega)]
end Go.Proofs.YtcjminfjgckdlaaGreatDoor
