/-
  Plain laws: an edit undone.
-/
import Derived.Test.YtcjminfjgckdlaaGreatDoorLC
import Derived.Test.YtcjminfjgckdlaaGreatDoorLB
import Derived.Test.YtcjminfjgckdlaaGreatDoorLA
import Derived.Test.YtcjminfjgckdlaaGreatDoorM
import Derived.Test.YtcjminfjgckdlaaGreatDoorE1
namespace Go.Proofs.YtcjminfjgckdlaaGreatDoor
set_option linter.unusedVariables false
set_option linter.unusedSimpArgs false
open Go Go.Sx
variable {k:Nat} {p:Pl}
theorem ZyA {b:Za} (h:Z4 b) {e:Zg} (g:(places (KX b))[k]?=some p) :
  places (Zpx b e p)=(places (addInst (KX b) (Zlc b e p) (Gi e))).set (Zpy b k) (p.1,p.2.1,((K1 (KX b)).length:Int),p.2.2.2.1,()):=by
 rw[Zhv g];exact X3 (ZfV h g) _
theorem Zyz (b:Za) (e:Zg) (p:Pl):(K1 (Zpx b e p)).length=(K1 (KX b)).length+1:=by
 show(K1 (conn (KX b) p.1 p.2.1 _)++[Gi e]).length=_;rw[Ug,Qv];rfl
theorem ZCR {l:List Int} {a b:Int} (h:l.length=2) (m:atI l 0=some a) (d:atI l 1=some b):l=[a,b]:=by
 match l,h with
 |[u,v],_ =>
  injection (show some u=some a from m)with m
  injection (show some v=some b from d)with d
  rw[m,d]
variable {x:Ze}
theorem app1 {b:Za} {e:Zg} (j:Z4 b) (d:K2 e=1) (g:ZbC b e p) (m:0<=p.1) (l:(KY (KX b))[p.1.toNat]?=some x):ZK e b=some (swapped b p.1 (Gw e)):=by
 unfold ZK;rw[VU _ j.sm,Bq,Uc d,ZQ _ j.ok.1.few,Bq,g.at,Bq];simp only[show Gn p=p.1 from rfl,Yw m l,Bq];unfold swapped;rw[l]
theorem app2 {b:Za} {e:Zg} (h:JV b e) (f:K2 e=2) (q:sm .str (Gi e)) (g:ZbC b e p) (N:p.2.2.2.1=false):ZK e b=some (buffered b e (K8 e).toNat p):=by
 unfold ZK;rw[VU _ h.blk.sm,Bq,QQ,Uc f,Zlj h f q g N];rfl
theorem app3 {b:Za} {e:Zg} (j:Z4 b) (o:ZjZ b) (K:K2 e=3):∃(k:Nat) (p:Pl) (m:Int),sinks (KX b) (((K1 (KX b)).length:Int)-1)=[(k:Int)]/\(places (KX b))[k]?=some p/\p.1≠((KY (KX b)).length:Int)-1/\
  (∀y,(KY (KX b))[(KY (KX b)).length-1]?=some y->atI (K7 y) 0=some m)/\ZK e b=some (Va b k p m):=by
 obtain⟨k,p,m,v,q,H,g,R,a,n⟩:=ZjP j o;obtain⟨f,x,l,T⟩:=o.two;have h:0<(KY (conn (KX b) p.1 p.2.1 m)).length:=by rw[Xh];exact f
 have B:(KY (conn (KX b) p.1 p.2.1 m))[(KY (conn (KX b) p.1 p.2.1 m)).length-1]?=some ((KY (conn (KX b) p.1 p.2.1 m))[(KY (conn (KX b) p.1 p.2.1 m)).length-1]'(by omega)):=Ua _;generalize (KY (conn (KX b) p.1 p.2.1 m))[(KY (conn (KX b) p.1 p.2.1 m)).length-1]'(by omega)=X at B;obtain⟨y,i,_,_,D,_⟩:=Zd6 B;rw[Xh,l]at i;injection i with i
 have c:=ZhH h B (by rw[D,<-i,T]);have I:=ZiP H m;have s:YA (unD b p m)=YA (KX b)-2:=by unfold unD;omega
 refine⟨k,p,m,q,H,g,R,?_⟩;unfold ZK;rw[VU _ j.sm,Bq,QQ,QQ,Uc K,n,s,a];rfl
theorem app4 {b:Za} {e:Zg} (j:Z4 b) (m:K2 e=4) (g:ZbC b e p) (N:p.2.2.2.1=false) (f:ZbE (KX b) (Gl e)):ZK e b=some (moved b (K8 e).toNat p (Gl e) (Gz e)):=by
 unfold ZK;rw[VU _ j.sm,Bq,QQ,QQ,QQ,Uc m,Zfp j,Bq,ZQ _ j.ok.1.few,Bq,g.at,Bq,
  show (Gn p,ZL.pin p,())=(p.1,p.2.1,()) from rfl,Zgq g.2,Bq]
 exact US (λo=>Option.bind o λC=>some C) (Zom j g.2 N f (v:=Gz e))
theorem ZHD {b:Za} {e:Zg} (j:Z4 b) (n:K2 e=5) (f:ZbE (KX b) (Gl e)) (q:sm ZcR (GA e)):ZK e b=some (ZAE b (Gl e) (GA e)):=by
 obtain⟨w,F,h,_⟩:=ZjH j f;unfold ZK;rw[VU _ j.sm,Bq,QQ,QQ,QQ,QQ,Uc n,Zfk _ q,Bq,h,Bq];rfl
variable {α:Type} {i:Int}
theorem Zr5 {l:List α} {x:α} (h:atI l i=some x):0<=i/\l[i.toNat]?=some x:=by
 unfold atI at h;grind
noncomputable def afN (b:Za) (e:Zg) (k:Nat):Nat:=match (places (KX b))[k]? with
 |some p=>(Zdq b e k p).toNat
 |none=>0
theorem Zla {b:Za} {e:Zg} (g:(places (KX b))[k]?=some p):afN b e k=(Zdq b e k p).toNat:=by
 unfold afN;rw[g]
def Zyu (b:Za) (e:Zg) (k:Nat):Prop:=∀p,(places (KX b))[k]?=some p->0<=Zdq b e k p
variable {q:Pl}
theorem at_one {b:Za} {e:Zg} (g:ZbC b e p) (h:ZbC b e q):p=q:=by
 have:=g.2;rw[h.2]at this;grind
theorem Zqv {pl:List Pl} {K:Nat} {p0:Pl} (m:pl[K]?=some p0) (d:p.2.2.1≠p0.2.2.1) (f:p.2.2.1≠q.2.2.1):(pl.set K q)[k]?=some p<->pl[k]?=some p:=by
 grind
def ZKt (d D:Zb) (i:Nat):Prop:=∀x,(KY d)[i]?=some x->∃X,(KY D)[i]?=some X/\Gq X=Gq x/\(K7 X).length=(K7 x).length
theorem Zms (d:Zb) (a b n:Int) (i:Nat):ZKt d (conn d a b n) i:=λx h=>by
 have q:=(Ub.1 h).1;have T:i<(KY (conn d a b n)).length:=by rw[Xh];exact q
 have y:(KY (conn d a b n))[i]?=some ((KY (conn d a b n))[i]'T):=Ua _;obtain⟨z,H,_,c,f,_⟩:=Zd6 y;grind
theorem Zmm {d D:Zb}:∀i,i<=(KY d).length->(∀j,j<i->∀x,(KY d)[j]?=some x->∃X,(KY D)[j]?=some X/\(K7 X).length=(K7 x).length)->fst D i=fst d i
 |0,_,_=>rfl
 |i+1,H,h=>by
  have l:(KY d)[i]?=some ((KY d)[i]'(by omega)):=Ua _;obtain⟨X,O,q⟩:=h i (by omega) _ l;rw[Zso l,Zso O,q,Zmm i (by omega) λj b=>h j (by omega)]
variable {d:Zb}
theorem Zf3 (g:(places d)[k]?=some p) (m:0<=p.1):∃(i j:Nat) (x:Ze),p.1=(i:Int)/\(KY d)[i]?=some x/\(K7 x)[j]?=some p.2.2.1/\k=fst d i+j:=by
 rcases V5 g with⟨i,j,x,n,l,f,e,rfl⟩|⟨j,q,b,e,rfl⟩
 ·exact⟨i,j,x,rfl,l,f,e⟩
 grind
variable {j:Nat}
theorem ZiR {i:Nat} (l:(KY d)[i]?=some x) (b:j<(K7 x).length):∃p,(places d)[fst d i+j]?=some p/\p.1=(i:Int):=by
 have f:(K7 x)[j]?=some ((K7 x)[j]):=Ua _;exact⟨_,Zb1 l f,rfl⟩
theorem ZqU {b r:Za} {af:Nat->Nat} {U:Int->Prop} (h:Z4 b) (o:ZAW b r af U) {v:Nat} (a:U (v:Int)) {ws:List Zq} {nd:Nat->Int} (F:KZ r=wired (places (KX r)) ws nd) (H:ws[v]?=(KZ b)[v]?)
  (c:∀(k:Nat) (p:Pl),(places (KX b))[k]?=some p->p.2.2.1=(v:Int)->p.2.2.2.1=false->nd (af k)=Xv b k):(KZ r)[v]?=(KZ b)[v]?:=by
 have d:=US (λz:List Zq=>z[v]?) (ZAI h);rw[ZcA]at d;rw[F,ZcA,H,<-d,Option.map_map]
 conv=>rhs;rw[d]
 have q:cat (QZ (v:Int)) 0 (places (KX r))=(cat (QZ (v:Int)) 0 (places (KX b))).map λy=>(af y.toNat:Int):=Zqa o a;have e:(cat (QZ (v:Int)) 0 (places (KX r))).map (λk=>nd k.toNat)=(cat (QZ (v:Int)) 0 (places (KX b))).map (λk=>Xv b k.toNat):=by
  rw[q,List.map_map];refine Kw λy i=>?_;obtain⟨k,p,rfl,g,Q,j⟩:=Zqx i;show nd ((af (k:Int).toNat:Int)).toNat=Xv b (k:Int).toNat;rw[Up,Up];grind
 rw[e];cases f:(KZ b)[v]? with
 |none=>rfl
 |some w =>
  grind
abbrev Tch (b r:Za) (l:List Int) (n:Int):Prop:=n ∉ l/\n<((KZ r).length:Int)
theorem ZBK {b r:Za} {e:Zg} (h:JV b e) (F:ZK e b=some r) (K:K2 e=1) {l:List Int} (A:ZoA b e l):Loc b r (afN b e) (Tch b r l) (Zyu b e):=by
 have m:=h.blk;have D:=m.ok.1.few;obtain⟨_,p0,x,c,H,J,rfl⟩|q|q|q|q:=A<;>try (have:=q.1;omega)
 rw[app1 m K c H J]at F;injection F with F
 subst F;have d:KX (swapped b p0.1 (Gw e))=((KY (KX b)).set p0.1.toNat (Gv x,Gw e,K7 x,()),K1 (KX b),Ga (KX b),()):=by
  unfold swapped;rw[J]
 have E:places (KX (swapped b p0.1 (Gw e)))=places (KX b):=by rw[d,ZiG J]
 have n:∀(k:Nat) (p:Pl),Zdq b e k p=(k:Int):=λk p=>ZhZ (by omega) (λq=>by have:=q.1;omega);have a:∀k,Zyu b e k:=λk p _=>by rw[n];omega
 have f:∀(k:Nat) (p:Pl),(places (KX b))[k]?=some p->afN b e k=k:=λk p g=>by
  rw[Zla g,n,Up]
 refine⟨⟨λk p g u=>by grind,λk p g u=>⟨k,f k p (E▸g),E▸g⟩,λj k p q g o _ _ w=>by grind⟩,rfl,λv _=>rfl,λk p g u t=>?_,λk _ _ _=>a k⟩
 ·obtain⟨i,j,y,G,s,L,I⟩:=Zf3 g t
  have B:p0.1.toNat≠i:=λq=>by
   grind
  rw[show p.1.toNat=i by omega];refine⟨y,y,s,?_,rfl,?_,λq o=>?_⟩
  ·grind
  ·refine Zmm i (by grind) λq _ z T=>?_
   rw[d];grind
  ·obtain⟨P,C,_⟩:=ZiR s o
   grind
theorem ZBL {b r:Za} {e:Zg} (h:JV b e) (o:sm Qh e) (F:ZK e b=some r) (K:K2 e=5) {l:List Int} (t:ZoA b e l):Loc b r (afN b e) (Tch b r l) (Zyu b e):=by
 have c:=h.blk;have x:=c.ok.1.few;rw[ZHD c K (h.range.2.2 K) (ZjR o).2]at F;injection F with F
 subst F;have n:∀(k:Nat) (p:Pl),Zdq b e k p=(k:Int):=λk p=>ZhZ (by omega) (λq=>by have:=q.1;omega);have a:∀k,Zyu b e k:=λk p _=>by rw[n];omega
 have f:∀(k:Nat) (p:Pl),(places (KX b))[k]?=some p->afN b e k=k:=λk p g=>by
  rw[Zla g,n,Up]
 obtain q|q|q|q|⟨_,rfl⟩:=t<;>try (have:=q.1;omega)
 refine⟨⟨λk p g u=>by rw[f k p g];exact g,λk p g u=>⟨k,f k p g,g⟩,λj k p q g d _ _ s=>by grind⟩,rfl,λv B=>?_,λk p g u m=>?_,λk p g u=>?_⟩
 ·show((KZ b).set (Gl e).toNat _)[v]?=_
  have w:=(h.range.2.2 K).1;grind
 ·obtain⟨i,j,y,z,H,w,A⟩:=Zf3 g m
  rw[show p.1.toNat=i by omega];refine⟨y,y,H,H,rfl,rfl,λq d=>?_⟩;obtain⟨P,C,_⟩:=ZiR H d;grind
 ·exact a k
theorem ZBI {b r:Za} {e:Zg} (h:JV b e) (F:ZK e b=some r) (K:K2 e=4) {l:List Int} (w:ZoA b e l):Loc b r (afN b e) (Tch b r l) (Zyu b e):=by
 have m:=h.blk;have M:=m.ok.1.few;obtain q|q|q|⟨_,p1,hp1,rfl⟩|q:=w<;>try (have:=q.1;omega)
 obtain⟨p0,H,N,_⟩:=h.poss.2.2.2.1 K;obtain rfl:=at_one H hp1;rw[app4 m K H N (h.range.2.1 K).2.1]at F;injection F with F
 subst F;have d:places (KX (moved b (K8 e).toNat p0 (Gl e) (Gz e)))=(places (KX b)).set (K8 e).toNat (p0.1,p0.2.1,Gl e,p0.2.2.2.1,()):=X3 H.2 _;have n:∀(k:Nat) (p:Pl),Zdq b e k p=(k:Int):=λk p=>ZhZ (by omega) (λq=>by have:=q.1;omega);have E:∀k,Zyu b e k:=λk p _=>by rw[n];omega
 have f:∀(k:Nat) (p:Pl),(places (KX b))[k]?=some p->afN b e k=k:=λk p g=>by
  rw[Zla g,n,Up]
 have t:∀(k:Nat) (p:Pl),Tch b (moved b (K8 e).toNat p0 (Gl e) (Gz e)) [p0.2.2.1,Gl e] p.2.2.1->((places (KX (moved b (K8 e).toNat p0 (Gl e) (Gz e))))[k]?=some p<->(places (KX b))[k]?=some p):=λk p a=>by
  rw[d];have c:=a.1;simp only[UB,UZ,Kv,not_or]at c;exact Zqv H.2 c.1 c.2
 have u:ZAW b (moved b (K8 e).toNat p0 (Gl e) (Gz e)) (afN b e) (Tch b (moved b (K8 e).toNat p0 (Gl e) (Gz e)) [p0.2.2.1,Gl e]) :=
  ⟨λk p g a=>by grind,λk p g a=>⟨k,f k p ((t k p a).1 g),(t k p a).1 g⟩,λj k p q g x _ _ I=>by grind⟩
 refine⟨u,rfl,λv A=>?_,λk p g a C=>?_,λk p g a=>?_⟩
 ·refine ZqU m u A (ws:=KZ b) (nd:=mvN b (K8 e).toNat (Gz e)) rfl rfl λk p g J _=>?_
  rw[f k p g];unfold mvN;refine Ue λq=>A.1 ?_;rw[q,H.2]at g;grind
 ·obtain⟨i,j,y,O,o,J,P⟩:=Zf3 g C
  obtain⟨Y,s,D,w⟩:=Zms (KX b) p0.1 p0.2.1 (Gl e) i y o;rw[show p.1.toNat=i by omega];refine⟨y,Y,o,s,D,?_,λq x=>?_⟩
  ·refine Zmm i (by grind) λq _ z T=>?_
   obtain⟨Z,G,_,B⟩:=Zms (KX b) p0.1 p0.2.1 (Gl e) q z T;exact⟨Z,G,B⟩
  ·obtain⟨Q,L,_⟩:=ZiR o x
   grind
 ·exact E k
theorem ZxB {b r:Za} {e:Zg} (h:JV b e) (he:sm Qh e) (F:ZK e b=some r) (K:K2 e=2) {l:List Int} (U:ZoA b e l):Loc b r (afN b e) (Tch b r l) (Zyu b e):=by
 have o:=h.blk;have hf:=o.ok.1.few;have a4:=o.ok.2.1;have V:=ZcH (KX b);obtain q|⟨_,p1,hp1,rfl⟩|q|q|q:=U<;>try (have:=q.1;omega)
 obtain⟨p0,c,H,hd,_⟩:=h.poss.2.1 K;obtain rfl:=at_one H hp1;rw[app2 h K (ZjR he).1 H hd]at F;injection F with F
 subst F;have D:places (KX (buffered b e (K8 e).toNat p0))=(places (addInst (KX b) (Zlc b e p0) (Gi e))).set (Zpy b (K8 e).toNat) (p0.1,p0.2.1,((K1 (KX b)).length:Int),p0.2.2.2.1,()):=ZyA o H.2;have W:(KZ (buffered b e (K8 e).toNat p0)).length=(KZ b).length+1:=by
  show(wired _ (KZ b++[Zxg]) _).length=_;rw[ZgL,Ug];rfl
 have f:∀(k:Nat) (p:Pl),(places (KX b))[k]?=some p->afN b e k=Zpy b k:=λk p g=>by
  have m:=ZdC g;rw[Zla g];unfold Zpy;by_cases q:p.1<0
  ·rw[Zrp K q,Ue (by grind)]
   omega
  ·rw[ZhZ (by omega) (λz=>q z.2),Uc (Nat.lt_of_not_le λz=>q (m.1.2 (by omega))),Up]
 have E:∀k,Zyu b e k:=λk p g=>by
  by_cases q:p.1<0
  ·rw[Zrp K q];omega
  ·rw[ZhZ (by omega) (λz=>q z.2)];omega
 have A:∀{n:Int},Tch b (buffered b e (K8 e).toNat p0) [p0.2.2.1,((K1 (KX b)).length:Int)] n->n≠p0.2.2.1/\n≠((K1 (KX b)).length:Int):=λa=>by
  grind
 have t:∀(k:Nat) (p:Pl),Tch b (buffered b e (K8 e).toNat p0) [p0.2.2.1,((K1 (KX b)).length:Int)] p.2.2.1->((places (KX (buffered b e (K8 e).toNat p0)))[k]?=some p<->(places (addInst (KX b) (Zlc b e p0) (Gi e)))[k]?=some p):=λk p a=>by
  rw[D];exact Zqv (ZfV (q:=p0) o H.2) (A a).1 (A a).2
 have u:∀(k:Nat) (p:Pl),Tch b (buffered b e (K8 e).toNat p0) [p0.2.2.1,((K1 (KX b)).length:Int)] p.2.2.1->(places (addInst (KX b) (Zlc b e p0) (Gi e)))[k]?=some p->∃j,Zpy b j=k/\(places (KX b))[j]?=some p:=λk p a g=>by
  by_cases c1:k<YA (KX b)
  ·rw[Zpr c1]at g
   exact⟨k,Uc c1,g⟩
  by_cases c2:k<YA (KX b)+2
  ·exfalso
   have J:k-YA (KX b)<(K7 (Zlc b e p0)).length:=by show _<2;omega
   have R:=add_mid (d:=KX b) (s:=Gi e) J;rw[show YA (KX b)+(k-YA (KX b))=k by omega,g]at R;have L:(K7 (Zlc b e p0))[k-YA (KX b)]?=some ((K7 (Zlc b e p0))[k-YA (KX b)]'J):=Ua _;have B:=Zhr (i:=(KY (KX b)).length) L;rw[<-R]at B;injection B with B
   have w:p.2.2.1∈K7 (Zlc b e p0):=by
    rw[B];exact List.getElem_mem J
   have:p.2.2.1∈[p0.2.2.1,((K1 (KX b)).length:Int)]:=w;exact a.1 this
  ·have R:=Zpq (d:=KX b) (x:=Zlc b e p0) (s:=Gi e) (k:=k-2)
   rw[show(K7 (Zlc b e p0)).length=2 from rfl,show k-2+2=k by omega,g]at R;exact⟨k-2,by unfold Zpy;grind,R.symm⟩
 have S:ZAW b (buffered b e (K8 e).toNat p0) (afN b e) (Tch b (buffered b e (K8 e).toNat p0) [p0.2.2.1,((K1 (KX b)).length:Int)]):=by
  refine⟨λk p g a=>?_,λk p g a=>?_,λj k p q g N _ _ a1=>?_⟩
  ·rw[f k p g]
   exact(t _ p a).2 (ZfV (q:=p0) o g)
  ·obtain⟨j,I,G⟩:=u k p a ((t k p a).1 g)
   grind
  ·rw[f j p g,f k q N]
   unfold Zpy;split<;>split<;>omega
 refine⟨S,rfl,λv hv=>?_,λk p g a Y=>?_,λk p g a=>?_⟩
 ·have O:v<(KZ b).length:=by
   grind
  refine ZqU o S hv (ws:=KZ b++[Zxg]) (nd:=ZFf b (K8 e).toNat) rfl (Uu O) λk p g L _=>?_;have a3:k≠(K8 e).toNat:=λq=>by
   rw[q,H.2]at g;grind
  rw[f k p g];unfold ZFf;rw[Ue (by unfold Zpy;grind)];unfold Zt3 Zpy;by_cases c1:k<YA (KX b)
  ·grind
  ·rw[Ue c1,QQ,QQ,QQ,show k+2-2=k by omega]
 ·obtain⟨i,j,y,hi,C,L,hk⟩:=Zf3 g Y
  have a2:=(Ub.1 C).1;have Q:∀(q:Nat) (z:Ze),(KY (KX b))[q]?=some z->∃Z,(KY (KX (buffered b e (K8 e).toNat p0)))[q]?=some Z/\Gq Z=Gq z/\(K7 Z).length=(K7 z).length:=λq z T=>by
   obtain⟨Z,I,G,X⟩:=Zms (KX b) p0.1 p0.2.1 ((K1 (KX b)).length:Int) q z T;refine⟨Z,?_,G,X⟩;show(KY (conn (KX b) p0.1 p0.2.1 _)++[Zlc b e p0])[q]?=some Z;grind
  obtain⟨y',P,hc,U⟩:=Q i y C;rw[show p.1.toNat=i by omega];refine⟨y,y',C,P,hc,?_,λq N=>?_⟩
  ·refine Zmm i (by omega) λq _ z T=>?_
   obtain⟨Z,I,_,G⟩:=Q q z T;exact⟨Z,I,G⟩
  ·obtain⟨p',M,a0⟩:=ZiR C N
   exact⟨E _,by rw[Zla M,ZhZ (by omega) (λz=>by have:=z.2;omega),Up]⟩
 ·exact E k
theorem ZtZ {b r:Za} {e:Zg} (h:JV b e) (hr:ZK e b=some r) (R:K2 e=3) {l:List Int} (hl:ZoA b e l):Loc b r (afN b e) (Tch b r l) (Zyu b e):=by
 have hB:=h.blk;have hf:=hB.ok.1.few;have b8:=hB.ok.2.1;have b0:=hf.insts;have a8:=ZcH (KX b);have hL:=h.poss.2.2.1 R;obtain⟨x,c,w,M,l1,Y,l3,l4,l5,l6,l7,l8,l9,a6,b9,d0,d1,d2,d3⟩:=id hL;obtain⟨K,p0,m,hs,I,b5,hm,a0⟩:=app3 hB hL R;obtain q|q|⟨_,x3,y3,B,hy3,rfl⟩|q|q:=hl<;>try (have:=q.1;omega)
 rw[Y]at B;injection B with B
 subst B;have ey:M=y3:=by
  have:=(Zr5 l7).2;grind
 subst ey;have em:=hm x Y;rw[l7]at em;injection em with em
 subst em;rw[a0]at hr;injection hr with hr
 subst hr;have G:K7 x=[M,((K1 (KX b)).length:Int)-1]:=ZCR l6 l7 l8;have a7:p0.2.2.1=((K1 (KX b)).length:Int)-1:=by
  have:(K:Int)∈sinks (KX b) (((K1 (KX b)).length:Int)-1):=by grind
  obtain⟨k',p',E,o,e3,_⟩:=J2.1 this;grind
 have a9:(KZ (Va b K p0 M)).length=(KZ b).length-1:=by
  show(wired _ ((KZ b).take ((KZ b).length-1)) _).length=_;rw[ZgL,Uj];omega
 have a2:0<(K1 (KX b)).length:=by
  have:=(Zr5 a6).2;have:=(Ub.1 this).1;omega
 have U:0<(KY (conn (KX b) p0.1 p0.2.1 M)).length:=by rw[Xh];exact l1
 have C:(KY (conn (KX b) p0.1 p0.2.1 M))[(KY (conn (KX b) p0.1 p0.2.1 M)).length-1]?=some ((KY (conn (KX b) p0.1 p0.2.1 M))[(KY (conn (KX b) p0.1 p0.2.1 M)).length-1]'(by omega)):=Ua _;generalize (KY (conn (KX b) p0.1 p0.2.1 M))[(KY (conn (KX b) p0.1 p0.2.1 M)).length-1]'(by omega)=x' at C;obtain⟨y,D,_,_,a5,_⟩:=Zd6 C;rw[Xh,Y]at D;injection D with D
 have a3:(K7 x').length=2:=by rw[a5,<-D,l6]
 have h5:=ZhH U C a3;have h6:=ZiP I M;have P:=ZiS (s:=[]) U C;have W:=X3 I M;have eD:KX (Va b K p0 M)=Qz (conn (KX b) p0.1 p0.2.1 M):=rfl;have X:∀{n:Int},Tch b (Va b K p0 M) [M] n->n≠M/\n≠((K1 (KX b)).length:Int)-1/\n<((K1 (KX b)).length:Int)-1:=λ{n} a=>by
  grind
 have t:∀(k:Nat) (p:Pl),Tch b (Va b K p0 M) [M] p.2.2.1->((places (conn (KX b) p0.1 p0.2.1 M))[k]?=some p<->(places (KX b))[k]?=some p):=λk p a=>by
  rw[W];exact Zqv I (by grind) (X a).1
 have S:∀k,k+2<YA (KX b)->(places (KX (Va b K p0 M)))[k]?=(places (conn (KX b) p0.1 p0.2.1 M))[k]?:=λk hk=>by
  rw[eD,P];exact(Zpr).symm
 have Q:∀k,YA (KX b)<=k+2->(places (KX (Va b K p0 M)))[k]?=(places (conn (KX b) p0.1 p0.2.1 M))[k+2]?:=λk hk=>by
  have:=Zpq (d:=Qz (conn (KX b) p0.1 p0.2.1 M)) (x:=x') (s:=[]) (k:=k);grind
 have F:∀(k:Nat) (p:Pl),(places (KX b))[k]?=some p->Tch b (Va b K p0 M) [M] p.2.2.1->0<=p.1->p.1≠((KY (KX b)).length:Int)-1/\k+2<YA (KX b):=λk p g a O=>by
  have H:p.1≠((KY (KX b)).length:Int)-1:=λq=>by
   obtain⟨i,j,z,hi,T,hn,hk⟩:=Zf3 g O;rw[show i=(KY (KX b)).length-1 by omega,Y]at T;injection T with T
   have:=Ud hn;rw[<-T,G]at this;simp only[UB,UZ,Kv]at this;rcases this with z|z
   all_goals grind
  refine⟨H,?_⟩;have:=ZkM l1 Y g O;grind
 have a1:2<=YA (KX b):=by omega
 have f:∀(k:Nat) (p:Pl),(places (KX b))[k]?=some p->Tch b (Va b K p0 M) [M] p.2.2.1->(0<=Zdq b e k p/\afN b e k=k/\k+2<YA (KX b))\/(0<=Zdq b e k p/\afN b e k=k-2/\YA (KX b)<=k):=λk p g a=>by
  have J:=ZdC g;by_cases q:p.1<0
  ·have:=J.1.1 q
   refine .inr ⟨by rw[Zrq R q];omega,?_,by omega⟩;rw[Zla g,Zrq R q];omega
  ·obtain⟨L,N⟩:=F k p g a (by omega)
   refine .inl ⟨by rw[Zps R q L];omega,?_,N⟩;rw[Zla g,Zps R q L,Up]
 have hP:ZAW b (Va b K p0 M) (afN b e) (Tch b (Va b K p0 M) [M]):=by
  refine⟨λk p g a=>?_,λk p g a=>?_,λj k p q g A up uq b2=>?_⟩
  ·rcases f k p g a with⟨_,E,o⟩|⟨_,E,o⟩
   ·rw[E,S k o]
    exact(t k p a).2 g
   ·rw[E,Q (k-2) (by omega),show k-2+2=k by omega]
    exact(t k p a).2 g
  ·by_cases c1:k+2<YA (KX b)
   ·rw[S k c1]at g
    have g:=(t k p a).1 g;rcases f k p g a with⟨_,E,o⟩|⟨_,E,o⟩
    ·exact⟨k,E,g⟩
    ·omega
   ·rw[Q k (by omega)]at g
    have g:=(t (k+2) p a).1 g;rcases f (k+2) p g a with⟨_,E,o⟩|⟨_,E,o⟩
    ·omega
    ·exact⟨k+2,by rw[E];omega,g⟩
  ·rcases f j p g up with⟨_,E,o⟩|⟨_,E,o⟩<;>rcases f k q A uq with⟨_,f1,f2⟩|⟨_,f1,f2⟩<;>rw[E,f1]<;>omega
 refine⟨hP,rfl,λv hv=>?_,λk p g a O=>?_,λk p g a=>?_⟩
 ·have b7:=(X hv).2.2
  refine ZqU hB hP hv (ws:=(KZ b).take ((KZ b).length-1)) (nd:=unN b K) rfl (by rw[UC,QP]) λk p g hn _=>?_;have a:Tch b (Va b K p0 M) [M] p.2.2.1:=by rw[hn];exact hv
  have H:k≠K:=λq=>by
   grind
  unfold unN ZsJ mvN;rcases f k p g a with⟨_,E,o⟩|⟨_,E,o⟩
  ·rw[E,QP,Ue H]
  ·rw[E,QQ,show k-2+2=k by omega,Ue H]
 ·obtain⟨i,j,y,hi,D,hn,hk⟩:=Zf3 g O
  have b3:=(Ub.1 D).1;obtain⟨b4,_⟩:=F k p g a O;have hK:∀(q:Nat) (z:Ze),q+1<(KY (KX b)).length->(KY (KX b))[q]?=some z->∃Z,(KY (KX (Va b K p0 M)))[q]?=some Z/\Gq Z=Gq z/\(K7 Z).length=(K7 z).length:=λq z A T=>by
   obtain⟨Z,L,N,g3⟩:=Zms (KX b) p0.1 p0.2.1 M q z T;refine⟨Z,?_,N,g3⟩;show((KY (conn (KX b) p0.1 p0.2.1 M)).take _)[q]?=some Z;rw[Xh,UC,QP];exact L
  obtain⟨y',a4,hc,hl⟩:=hK i y (by omega) D;rw[show p.1.toNat=i by omega];refine⟨y,y',D,a4,hc,?_,λq A=>?_⟩
  ·refine Zmm i (by omega) λq b6 z T=>?_
   obtain⟨Z,L,_,N⟩:=hK q z (by omega) T;exact⟨Z,L,N⟩
  ·obtain⟨p',V,b1⟩:=ZiR D A
   have ea:=Zps (b:=b) (k:=fst (KX b) i+q) R (p:=p');exact ⟨λp2 u=>by
    rw[V]at u;injection u with u
    rw[<-u,ea];omega,by rw[Zla V,ea,Up]⟩
 ·intro q A
  rw[g]at A;injection A with A
  subst A;rcases f k p g a with⟨e0,_⟩|⟨e0,_⟩<;>exact e0
theorem ZBH {b r:Za} {e:Zg} (h:JV b e) (m:sm Qh e) (F:ZK e b=some r) {l:List Int} (q:ZoA b e l):Loc b r (afN b e) (Tch b r l) (Zyu b e):=by
 by_cases d:K2 e=1
 ·exact ZBK h F d q
 by_cases f:K2 e=2
 ·exact ZxB h m F f q
 by_cases R:K2 e=3
 ·exact ZtZ h F R q
 by_cases k:K2 e=4
 ·exact ZBI h F k q
 ·exact ZBL h m F (by have:=h.blank;unfold Blank at this;omega) q
def goes (af:List Int) (n:Int):Int:=(af[(n/2).toNat]?).getD 0
def carry (af:List Int) (x:Zj):Zj:=(Wq (Wq (2*goes af (Ge x))+Int.tmod (Ge x) 2),x.2)
theorem ZEj {af:List Int} {n:Int} (m:0<=n) (d:n<=2*(af.length:Int)-1) (f:af.length<=1048576):atI af (Wq (Int.tdiv n 2))=some (goes af n):=by
 rw[U0 m,QR];have t:(n/2).toNat<af.length:=by omega
 have a:=Ua t;rw[Yw (by omega) a];unfold goes;rw[a];rfl
variable {x:Zj}
theorem ZAe {l:List Zj} {f:Zj->Zj} (H:l[k]?=some x):List.set ((l.take k).map f++l.drop k) k (f x)=(l.take (k+1)).map f++l.drop (k+1):=by
 have a:=(Ub.1 H).1;have h:((l.take k).map f).length=k:=by grind
 have N:l.drop k=x::l.drop (k+1):=by
  rw[Kx a];grind
 rw[N,Xa H,U8,List.set_append]
 simp_all
theorem ZA6 {l:List Zj} {f:Zj->Zj} (h:l[k]?=some x):((l.take k).map f++l.drop k)[k]?=some x:=by
 grind
theorem Zi0 (b:Za) (e:Zg) (l:List Zj) (y:sm Yg b) (g:sm Qh e) (n:l.length<=1048576:=by omega):∃r,VW b e l=some r/\Zak b e l=some r/\r.1.length<=1048576/\
  ((r.2=0/\JV b e/\Zee l (ZaB (2*((places (KX b)).length:Int)) l)/\Zee l (λ_ x=>0<=goes (after b e) (Ge x))/\r.1=l.map (carry (after b e)))\/(r.2≠0/\r.1=[]/\¬(JV b e/\Zee l (ZaB (2*((places (KX b)).length:Int)) l)/\Zee l (λ_ x=>0<=goes (after b e) (Ge x))))):=by
 obtain⟨c,o,u,w⟩:=ZlC b e y g;unfold VW Zak;rw[o,u,Bq,Bq];by_cases a:c=0
 ·have h:=w a
  have B:=ZT h.blk.ok.1.few;obtain⟨v,p,m,_⟩:=ZlN h.blk;rw[Uc a,Uc a,p,Bq,Zfm h.blk v m l n,Zir h.blk l n,Bq,Bq];by_cases s:Zee l (ZaB (2*((places (KX b)).length:Int)) l)
  ·have t:=Zyr b e
   rw[Uc (ZX s),Uc (ZX s),ZhG h,Bq];unfold ZhS QD;rw[Zn5 h,Bq,Zi (by grind),Bq,Uv];have d:∀(k:Nat) (x:Zj),l[k]?=some x->atI (after b e) (Wq (Int.tdiv (Ge x) 2))=some (goes (after b e) (Ge x)):=λk x H=>by
    have:=(s k x H).1;exact ZEj this.1 (by rw[t];omega) (by rw[t];omega)
   have j:=Zid (l:=l) (ρ:=List Zj×Int) (λk=>((k:Int),(l.take k).map (carry (after b e))++l.drop k,())) (λ_ x=>0<=goes (after b e) (Ge x)) (step:=λv=>JY l (after b e) v.1 v.2.1) (bad:=([],5)) (good:=(l.map (carry (after b e)),0))
    (λk x H A _=>by
     simp only[JY,show(k:Int)<(l.length:Int)from by omega,Ui,Zo,H,Bq,ZgA,d k x H,Ul,ZA6 H,Up,YW (show k<=1048576 by omega)];constructor
     ·intro q
      rw[Uc q,show((Wq (Wq (2*goes (after b e) (Ge x))+Int.tmod (Ge x) 2),x.2):Zj)=carry (after b e) x from rfl,ZAe H]
     grind)
    (λ_=>by simp only[JY,Uf,Uh,Uo,List.drop_length,Un])
   have i:=Zid (l:=l) (ρ:=List Zj×Bool) (λk=>((l.take k).map (carry (after b e)),(k:Int),())) (λ_ x=>0<=goes (after b e) (Ge x)) (step:=λv=>Zbn l (after b e) v.1 v.2.1) (bad:=([],false)) (good:=(l.map (carry (after b e)),true))
    (λk x H A _=>by
     simp only[Zbn,show(k:Int)<(l.length:Int)from by omega,Ui,Zo,H,Bq,d k x H,YW (show k<=1048576 by omega)];rw[Zi (by grind)];constructor
     ·intro q
      rw[QQ,Xa H,U8];rfl
     grind)
    (λ_=>by simp only[Zbn,Uf,Uh,Uo])
   simp only[Kt,KV,Uv,KE]at j i;rw[show((0:Nat):Int)=0 from rfl]at j i;rw[j,i,Bq];by_cases f:Zee l (λ_ x=>0<=goes (after b e) (Ge x))
   ·rw[QY f,QY f]
    grind
   ·rw[Qs f,Qs f]
    grind
  ·rw[Ue (λq=>s ((YL _).1 q)),Ue (λq=>s ((YL _).1 q))]
   grind
 ·rw[Ue a,Ue a]
  exact ⟨_,rfl,rfl,by simp,.inr ⟨a,rfl,λz=>by
   have:=(Zse z.1 g).2;grind⟩⟩
theorem ZGw {b:Za} {e:Zg} {r:Za} (h:JV b e) (o:Lens b e r) (H:k<2*(places (KX b)).length:=by omega) :
  ∃q,atI (after b e) (Wq (Int.tdiv (k:Int) 2))=some q/\((after b e)[k/2]?).getD 0=q/\-1<=q/\q<((places (KX r)).length:Int):=by
 have i:=ZT h.blk.ok.1.few;have g:(places (KX b))[k/2]?=some ((places (KX b))[k/2]'(by omega)):=Ua _;generalize (places (KX b))[k/2]'(by omega)=p at g;have a:=Ztv (e:=e) g;obtain⟨d,f⟩:=Zr2 h o g;exact⟨Zdq b e (k/2) p,by rw[ZE8,Zo,a],by rw[a];rfl,d,f⟩
variable {n:Nat}
theorem ZE2 {q:Int} (m:0<=q:=by omega) (d:2*q+2<=(n:Int):=by omega) (f:n<=1048576:=by omega):Wq (Wq (2*q)+Int.tmod (k:Int) 2)=2*q+((k%2:Nat):Int)/\(2*q+((k%2:Nat):Int)).toNat<n:=by
 rw[ZE9,QR (n:=2*q),QR];grind
theorem ZvN {l:List α} (q:l.length=n) (m:0<=i) (d:i.toNat<n):∃x,atI l i=some x :=
 ⟨l[i.toNat]'(by omega),Yw m (Ua _)⟩
variable {t:Zf}
theorem Zth {b:Za} {e:Zg} {r:Za} (h:JV b e) (F:Z4 r) (o:Lens b e r) (y:Ziu (2*((places (KX b)).length:Int)) t) :
  Zx (λv=>Vn t (after b e) ((K6 t).length:Int) v.1 v.2.1 v.2.2.1 v.2.2.2.1) ((0:Int),K6 (ZAU (2*(places (KX r)).length)),Gu (ZAU (2*(places (KX r)).length)),Gs (ZAU (2*(places (KX r)).length)),())=some (Zbu (after b e) t (2*(places (KX r)).length)):=by
 have p:=ZT h.blk.ok.1.few;have u:=ZT F.ok.1.few;obtain⟨V,T,U,W⟩:=y;have j:Len (K6 t):=by unfold Len;omega
 generalize B:2*(places (KX r)).length=n;refine ZfY (l:=K6 t) j (λ(s:Zf) (i:Int)=>(i,K6 s,Gu s,Gs s,())) (f:=Zi5 (after b e) t) (λ_ s=>Zr0 n s) (ZsM n) ?_ ?_
 ·intro k x s g m _
  have A:=(Ub.1 g).1;obtain⟨q,Q,z,C,D⟩:=ZGw h o (k:=k);have d:(Gu t)[k]?=some ((Gu t)[k]'(by omega)):=Ua _;have H:(Gs t)[k]?=some ((Gs t)[k]'(by omega)):=Ua _;generalize (Gu t)[k]'(by omega)=a at d;generalize (Gs t)[k]'(by omega)=w at H;refine⟨?_,Zn8 m⟩;simp only[Vn,ZgA,show(k:Int)<((K6 t).length:Int)from by omega,Ui,Q,Bq,Zo,g,d,H,Ul];unfold Zi5;rw[z,d,H];by_cases c:q<0
  ·grind
  ·obtain⟨w1,w2⟩:=ZE2 (n:=n) (k:=k) (q:=q)
   rw[QP,Ue c,w1];obtain⟨X,Y⟩:=ZvN m.1 (by omega) w2;obtain⟨E,I⟩:=ZvN m.2.1 (by omega) w2;obtain⟨G,J⟩:=ZvN m.2.2 (by omega) w2;grind
 ·intro s m H
  simp only[Vn,Uf,Uh];rw[H];rfl
theorem Ztg {b r:Za} {e:Zg} (h:JV b e) (H:sm Qh e) (F:ZK e b=some r) (d:Ziu (2*((places (KX b)).length:Int)) t):ZaY e b t=some (Zbu (after b e) t (2*(places (KX r)).length)):=by
 obtain⟨f,a,g,l,_,R⟩:=Zl5 h H;rw[F]at a;injection a with a
 subst a;have c:=ZT l.ok.1.few;obtain⟨v,p,m,_⟩:=ZlN l;unfold ZaY;rw[F,Bq,p,Bq,ZnD l.ok.1.few v m,Bq,ZhG h,Bq,show Zcv (K6 t)=some ((K6 t).length:Int)from rfl,Bq];exact Zth h l R d
theorem ZvZ {b:Za} {e:Zg} (h:JV b e) (g:(places (KX b))[k]?=some p) (m:0<=Zdq b e k p) :
  (K2 e=2/\(p.1<0/\Zdq b e k p=(k:Int)+2\/¬p.1<0/\Zdq b e k p=(k:Int)))\/
  (K2 e=3/\(p.1<0/\Zdq b e k p=(k:Int)-2\/¬p.1<0/\k+(Ga (KX b)).length+2<(places (KX b)).length/\Zdq b e k p=(k:Int)))\/
  (K2 e≠2/\K2 e≠3/\Zdq b e k p=(k:Int)):=by
 by_cases f:K2 e=2
 ·refine .inl ⟨f,?_⟩
  by_cases q:p.1<0
  ·exact .inl ⟨q,Zrp f q⟩
  ·exact .inr ⟨q,ZhZ (by omega) (λz=>q z.2)⟩
 by_cases R:K2 e=3
 ·refine .inr (.inl ⟨R,?_⟩)
  by_cases q:p.1<0
  ·exact .inl ⟨q,Zrq R q⟩
  ·refine .inr ⟨q,?_⟩
   obtain⟨n,x,l,T⟩:=h.last R;have H:=ZkM n l g;by_cases z:p.1=((KY (KX b)).length:Int)-1
   ·rw[ZvY R q z]at m
    omega
   ·refine⟨?_,Zps R q z⟩
    grind
 ·exact .inr (.inr ⟨f,R,ZhZ R (λq=>f q.1)⟩)
theorem ZmW {b:Za} {e:Zg} (h:JV b e) (g:(places (KX b))[j]?=some p) (H:(places (KX b))[k]?=some q) (m:0<=Zdq b e j p) (d:0<=Zdq b e k q) (c:j<k:=by omega):Zdq b e j p<Zdq b e k q:=by
 have G:=ZdC g;have a:=ZdC H;have f:=ZvZ h g m;have F:=ZvZ h H d;omega
theorem Zyq {b:Za} {e:Zg} (h:JV b e) (g:(places (KX b))[j]?=some p) (H:(places (KX b))[k]?=some q) (m:0<=Zdq b e j p) (d:0<=Zdq b e k q) (c:Zdq b e j p=Zdq b e k q:=by omega):j=k:=by
 rcases KJ j k with z|z|z
 ·have:=ZmW h g H m d z;omega
 ·exact z
 ·have:=ZmW h H g d m z;omega
def alv (af:List Int) (k:Nat):Prop:=0<=(af[k/2]?).getD 0
def pos (af:List Int) (k:Nat):Int:=2*(af[k/2]?).getD 0+((k%2:Nat):Int)
variable {x:Bool}
theorem Zx4 {af:List Int} {o:Zf} (a:(K6 t)[k]?=some x) (H:Zr0 n o) (h:alv af k) (f:pos af k<(n:Int)) (u:Int):JM (Zi5 af t k x o) u=if u=pos af k then JM t (k:Int)else JM o u:=by
 have I:0<=pos af k:=by unfold pos;unfold alv at h;omega
 have e:((2*(af[k/2]?).getD 0+((k%2:Nat):Int)).toNat:Int)=pos af k:=by unfold pos at I ⊢;omega
 obtain⟨L,j,b⟩:=H;unfold Zi5;rw[Ue (by unfold alv at h;omega)];by_cases q:u=pos af k
 ·rw[Uc q]
  subst q;have g:∀{α:Type} (l:List α) (y:α),l.length=n->atI (List.set l (2*(af[k/2]?).getD 0+((k%2:Nat):Int)).toNat y) (pos af k)=some y:=λl y H=>by
   rw[at_set,Uc e.symm];unfold atI;grind
  unfold JM;show((atI (List.set (K6 o) _ x) (pos af k)).getD false,(atI (List.set (Gu o) _ _) (pos af k)).getD VH,(atI (List.set (Gs o) _ _) (pos af k)).getD VH)=_;rw[g _ _ L,g _ _ j,g _ _ b,Zo,Zo,Zo,a];rfl
 ·rw[Ue q]
  unfold JM;show((atI (List.set (K6 o) _ x) u).getD false,(atI (List.set (Gu o) _ _) u).getD VH,(atI (List.set (Gs o) _ _) u).getD VH)=_;rw[at_set,at_set,at_set,Ue (by rw[e];exact q),Ue (by rw[e];exact q),Ue (by rw[e];exact q)]
theorem ZAw {af:List Int} {o:Zf} (n:¬alv af k):Zi5 af t k x o=o:=by
 unfold Zi5;rw[Uc (by unfold alv at n;omega)]
theorem ZAx {af:List Int} {t:Zf} {n:Nat} (I:∀k,k<(K6 t).length->alv af k->pos af k<(n:Int)) (H:∀j k,j<(K6 t).length->k<(K6 t).length->alv af j->alv af k->pos af j=pos af k->j=k):∀m,m<=(K6 t).length->
  (∀k,k<m->alv af k->JM (foldI (Zi5 af t) 0 ((K6 t).take m) (ZAU n)) (pos af k)=JM t (k:Int))/\(∀u:Int,(∀k,k<m->alv af k->pos af k≠u)->JM (foldI (Zi5 af t) 0 ((K6 t).take m) (ZAU n)) u=ZJU)
 |0,_=>by
  refine⟨λk b=>by omega,λu _=>?_⟩;have g:∀{α:Type} (z:α),(atI (List.replicate n z) u).getD z=z:=λz=>by
   unfold atI;grind
  show(((atI (List.replicate n false) u).getD false,(atI (List.replicate n VH) u).getD VH,(atI (List.replicate n VH) u).getD VH):Row)=_;rw[g,g];rfl
 |m+1,R=>by
  obtain⟨f,i⟩:=ZAx I H m (by omega);have l:(K6 t)[m]?=some ((K6 t)[m]'(by omega)):=Ua _;rw[ZfX l];have q:Zr0 n (foldI (Zi5 af t) 0 ((K6 t).take m) (ZAU n)):=ZpM (Zr0 n) (λk x s h=>Zn8 h) _ _ _ (ZsM n);generalize foldI (Zi5 af t) 0 ((K6 t).take m) (ZAU n)=o at *;by_cases a:alv af m
  ·have e:=Zx4 l q a (I m (by omega) a)
   refine⟨λk b d=>?_,λu c=>?_⟩
   ·grind
   ·rw[e,Ue (λz=>c m (by omega) a z.symm)]
    exact i u λk b=>c k (by omega)
  ·rw[ZAw a]
   refine⟨λk b d=>?_,λu c=>i u λk b=>c k (by omega)⟩;grind
theorem after_at {b:Za} {e:Zg} (g:(places (KX b))[k]?=some p):((after b e)[k]?).getD 0=Zdq b e k p:=by
 rw[Ztv g];rfl
section
variable {b r:Za} {e:Zg}
variable {k:Nat}
theorem ZkJ {d:Zb} (H:k<2*(places d).length:=by omega):∃p,(places d)[k/2]?=some p:=⟨_,Ua (by omega)⟩
variable {t:Zf}
theorem Zoe (h:JV b e) (s:Lens b e r) (C:(K6 t).length=Yt b) :
  (∀(k:Nat) (p:Pl) (a:Nat),a<2->(places (KX b))[k]?=some p->0<=Zdq b e k p->JM (Zbu (after b e) t (Yt r)) (2*Zdq b e k p+(a:Int))=JM t (2*(k:Int)+(a:Int)))/\
  (∀u:Int,(∀(k:Nat) (p:Pl) (a:Nat),a<2->(places (KX b))[k]?=some p->0<=Zdq b e k p->2*Zdq b e k p+(a:Int)≠u)->JM (Zbu (after b e) t (Yt r)) u=ZJU):=by
 have x:=nN b;have y:=nN r;have H:∀ (k:Nat) (p:Pl),(places (KX b))[k / 2]?=some p->((after b e)[k / 2]?).getD 0=Zdq b e (k / 2) p:=λk p g=>after_at g;have M:=ZAx (af:=after b e) (t:=t) (n:=Yt r) (λk l f=>by
  obtain⟨p,g⟩:=ZkJ (d:=KX b) (k:=k);have:=(Zr2 h s g).2;unfold alv at f;unfold pos;grind) (λj k B l A i c=>by
  obtain ⟨p,g⟩:=ZkJ (d:=KX b) (k:=j);obtain ⟨q,m⟩:=ZkJ (d:=KX b) (k:=k);unfold alv at A i;unfold pos at c;rw[H j p g] at A c;rw[H k q m] at i c;have:=Zyq h g m A i;omega) (K6 t).length (UO _)
 rw[Uo]at M;obtain⟨v,w⟩:=M;refine⟨λk p a f g z=>?_,λu D=>?_⟩
 ·have l:=(Ub.1 g).1
  have E:(2*k+a)/2=k:=by omega
  have o:(2*k+a)%2=a:=by omega
  have:=v (2*k+a) (by omega) (by unfold alv;grind);unfold pos at this;rw[E,o,after_at g]at this;rw[show 2*(k:Int)+(a:Int)=((2*k+a:Nat):Int) by omega,<-this];rfl
 ·refine w u λk l f=>?_
  obtain⟨p,g⟩:=ZkJ (d:=KX b) (k:=k);unfold alv at f;unfold pos;grind
theorem ZmO (h:JV b e) (o:Lens b e r) (H:Ziu (Yt b:Int) t) (k:Nat):Zyl (JM (Zbu (after b e) t (Yt r)) (k:Int)):=by
 obtain⟨c1,c2⟩:=Zoe (r:=r) h o (t:=t) (by have:=H.1;omega);by_cases q:∃(j:Nat) (p:Pl) (a:Nat),a<2/\(places (KX b))[j]?=some p/\0<=Zdq b e j p/\2*Zdq b e j p+(a:Int)=(k:Int)
 ·obtain⟨j,p,a,n,g,m,c⟩:=q
  rw[<-c,c1 j p a n g m];have d:=(Ub.1 g).1;have x:=nN b;have:=ZrW H (k:=2*j+a);grind
 ·rw[c2 (k:Int) λj p a n g m z=>q ⟨j,p,a,n,g,m,z⟩]
  exact Zz6
theorem Zuz (h:JV b e) (o:Lens b e r) (a:Ziu (Yt b:Int) t):Zg1 (Yt r) (Zbu (after b e) t (Yt r)):=by
 obtain⟨L,j,c⟩:=ZvO (after b e) t (Yt r);refine⟨L,j,c,λs q=>?_⟩;obtain⟨k,H⟩:=UA.1 q;have l:=(Ub.1 H).1;have x:(K6 (Zbu (after b e) t (Yt r)))[k]?=some ((K6 (Zbu (after b e) t (Yt r)))[k]'(by omega)):=Ua _;have n:(Gu (Zbu (after b e) t (Yt r)))[k]?=some ((Gu (Zbu (after b e) t (Yt r)))[k]'(by omega)):=Ua _;have:=ZmO (r:=r) h o a k;rw[Zz8 x n H]at this;exact ZAi this.2.1
theorem Zx3 (h:JV b e) (o:Lens b e r) (H:Ziu (Yt b:Int) t):Ziu (Yt r:Int) (Zbu (after b e) t (Yt r)) :=
 ZrR (Zuz h o H) λk _=>ZmO h o H k
variable {x:Zj} {p:Pl} {a:Int}
theorem Zxh (g:(places (KX b))[k]?=some p) (H:0<=a/\a<=1:=by omega) (l:Ge x=2*(k:Int)+a:=by omega) (o:-2<=Zdq b e k p:=by omega) (i:Zdq b e k p<=1000000:=by omega):Ge (carry (after b e) x)=2*Zdq b e k p+a:=by
 show Wq (Wq (2*goes (after b e) (Ge x))+Int.tmod (Ge x) 2)=_;have h:goes (after b e) (Ge x)=Zdq b e k p:=by
  unfold goes;rw[l,show((2*(k:Int)+a)/2).toNat=k by omega];exact after_at g
 rw[h,l,Int.tmod_eq_emod_of_nonneg (by omega),show(2*(k:Int)+a)%2=a by omega,QR (n:=2*Zdq b e k p),QR]
theorem ZlT (h:JV b e) (o:Lens b e r) (F:Z4 r) (l:0<=Ge x/\Ge x<=(Yt b:Int)-1) (m:0<=goes (after b e) (Ge x)):∃(k:Nat) (p:Pl) (a:Int),(0<=a/\a<=1)/\(places (KX b))[k]?=some p/\Ge x=2*(k:Int)+a/\0<=Zdq b e k p/\Zdq b e k p<((places (KX r)).length:Int)/\Ge (carry (after b e) x)=2*Zdq b e k p+a:=by
 have E:=nN b;have d:=ZT F.ok.1.few;have H:(Ge x/2).toNat<(places (KX b)).length:=by omega
 have g:(places (KX b))[(Ge x/2).toNat]?=some ((places (KX b))[(Ge x/2).toNat]'H):=Ua _;generalize (places (KX b))[(Ge x/2).toNat]'H=p at g;have c:goes (after b e) (Ge x)=Zdq b e (Ge x/2).toNat p:=after_at g;rw[c]at m;have C:=Zr2 h o g;refine⟨(Ge x/2).toNat,p,Ge x%2,by omega,g,by omega,m,C.2,Zxh g⟩
theorem ZA7 (h:JV b e) (o:Lens b e r) (F:Z4 r) {l:List Zj} (s:Zee l (ZaB (Yt b:Int) l)) (g:Zee l (λ_ x=>0<=goes (after b e) (Ge x))):Zee (l.map (carry (after b e))) (ZaB (Yt r:Int) (l.map (carry (after b e)))):=by
 have M:=nN r;intro k y i;rw[UK,Kk]at i;obtain⟨x,H,rfl⟩:=i;obtain⟨S,w,A,B⟩:=s k x H;obtain⟨j,p,a,K,v,G,d,I,m⟩:=ZlT h o F S (g k x H);refine⟨by omega,λy n i=>?_,A,B⟩;rw[UK,Kk]at i;obtain⟨X,O,rfl⟩:=i;obtain⟨J,P,D,t,C,z,E,f,c⟩:=ZlT h o F (s _ X O).1 (g _ X O);have u:=w X n O;rw[m,c];by_cases q:J=j
 ·grind
 ·have:=ZmW h C v E d
  omega
theorem ZvM (h:JV b e) (o:Lens b e r) (F:Z4 r) {l:List Zj} (s:Zee l (ZaB (Yt b:Int) l)) (n:Zee l (λ_ x=>0<=goes (after b e) (Ge x))) (v:(places (KX b))[k]?=some p) (d:0<=Zdq b e k p) (D:0<=a/\a<=1) :
  ZgI (l.map (carry (after b e))) (2*Zdq b e k p+a)=ZgI l (2*(k:Int)+a):=by
 have y:∀x∈l,(Ge (carry (after b e) x)=2*Zdq b e k p+a<->Ge x=2*(k:Int)+a):=λx w=>by
  obtain⟨i,H⟩:=UA.1 w;obtain⟨j,P,A,t,C,E,c,B,f⟩:=ZlT h o F (s i x H).1 (n i x H);rw[f,E];constructor
  ·intro z
   have:=Zyq h C v c d;omega
  grind
 have g:∀(l:List Zj) (m:Nat) (st:NSt),(∀x∈l,(Ge (carry (after b e) x)=2*Zdq b e k p+a<->Ge x=2*(k:Int)+a))->foldI (λ_ x st=>if Ge x=2*Zdq b e k p+a then some (GJ x,GN x)else st) m (l.map (carry (after b e))) st=foldI (λ_ x st=>if Ge x=2*(k:Int)+a then some (GJ x,GN x)else st) m l st:=by
  intro l;induction l with
  |nil=>exact λ_ _ _=>rfl
  |cons x l I =>
   intro m st u;show foldI _ (m+1) (l.map (carry (after b e))) _=foldI _ (m+1) l _;have E:(if Ge (carry (after b e) x)=2*Zdq b e k p+a then some (GJ (carry (after b e) x),GN (carry (after b e) x))else st)=(if Ge x=2*(k:Int)+a then some (GJ x,GN x)else st):=by
    by_cases q:Ge x=2*(k:Int)+a
    ·rw[Uc q,Uc ((u x UH).2 q)]
     rfl
    grind
   simp_all
 exact g l 0 none y
end
theorem fold_filter {σ:Type} (f:Zp->σ->σ) (u:Int) (live:List Bool):∀(L:List Zp) (m:Nat) (s:σ),(∀k,k<L.length->(live[m+k]?).getD false=true)->
  foldI (λk x st=>if(live[k]?).getD false=true then(if Gf x=u then f x st else st)else st) m L s=(L.filter (toB u)).foldl (λst x=>f x st) s
 |[],_,_,_=>rfl
 |x::L,m,s,h=>by
  have H:=h 0 (by simp);rw[Kd] at H;simp only[foldI];rw[Uc H,fold_filter f u live L (m+1) _ λk a=>by
   rw[show m+1+k=m+(k+1) by omega]
   simp_all]
  by_cases q:Gf x=u
  ·rw[Uc q,List.filter_cons_of_pos (by unfold toB;grind)]
   rfl
  ·rw[Ue q,List.filter_cons_of_neg (by unfold toB;grind)]
theorem ZrA {α σ:Type} {f g:σ->α->σ}:∀(L:List α) (s:σ),(∀x∈L,∀st,f st x=g st x)->L.foldl f s=L.foldl g s
 |[],_,_=>rfl
 |x::L,s,h=>by
  rw[List.foldl_cons,List.foldl_cons,h x UH,ZrA L _ λy i=>h y (UM _ i)]
theorem ZF2 {b:Za} {k:Nat} (H:k<(Zu b).length):((VO b [])[k]?).getD false=true:=by
 unfold VO Zdd;grind
theorem ZmC {b:Za} {c:Zz} {l:List Zj} {t:Zf} {u:Int}:ZaJ b c (VO b []) l t u=((Zu b).filter (toB u)).foldl (λst x=>Zow b c t x st) (ZgI l u):=by
 unfold ZaJ;exact fold_filter (λx st=>Zow b c t x st) u (VO b []) (Zu b) 0 _ λk H=>by rw[Us];exact ZF2 H
section
variable {b r:Za} {af:Nat->Nat} {U:Int->Prop} {A:Nat->Prop}
variable {k:Nat} {p:Pl} {a:Int}
theorem ZxK (h:Loc b r af U A) (m:Z4 b) (F:Z4 r) (K:∀v:Nat,U (v:Int)->v<(KZ r).length) (o:(places (KX b))[k]?=some p) (u:U p.2.2.1) (j:0<=a/\a<=1) {c:Zz} {l l':List Zj} {t t':Zf}
  (H:ZgI l' (2*(af k:Int)+a)=ZgI l (2*(k:Int)+a)) (n:∀x∈Zu b,Gf x=2*(k:Int)+a->JM t' (Gd (shL af x))=JM t (Gd x)) (hsp:∀x∈Zu b,Gf x=2*(k:Int)+a->∀s,spn r c (shL af x) s=spn b c x s) :
  ZaJ r c (VO r []) l' t' (2*(af k:Int)+a)=ZaJ b c (VO b []) l t (2*(k:Int)+a):=by
 rw[ZmC,ZmC,Zzw h m F K o u j,List.foldl_map,H];refine ZrA _ _ λx q st=>?_;obtain⟨d,J⟩:=KH.1 q;unfold toB at J;rw[Ul]at J;have e:=n x d J;have E:=hsp x d J;unfold JM at e;have f:=US Prod.fst e;have g:=US (λz:Row=>z.2.1) e;have i:=US (λz:Row=>z.2.2) e;dsimp only at f g i;unfold Zow;rw[f,g,i,E]
theorem Zzt (h:Loc b r af U A) (g:Z4 b) (F:Z4 r) (K:∀v:Nat,U (v:Int)->v<(KZ r).length) (s:(places (KX b))[k]?=some p) (B:U p.2.2.1) (u:0<=a/\a<=1) {x:Zp} (V:x∈Zu b) (ht:Gf x=2*(k:Int)+a) :
  ∃(j:Nat) (q:Pl) (c:Int),(0<=c/\c<=1)/\(places (KX b))[j]?=some q/\A j/\Gd x=2*(j:Int)+c/\Gd (shL af x)=2*(af j:Int)+c:=by
 have o:=Qe g.ok.1 (Ud s);obtain⟨v,C⟩:∃v:Nat,p.2.2.1=(v:Int):=⟨p.2.2.1.toNat,by have:=o.1;omega⟩;have Q:v<(KZ r).length:=K v (C▸B);have R:=g.ok.2.1;have T:=F.ok.2.1;have P:v<(K1 (KX b)).length:=by have:=o.2;omega
 have i:x∈(Zu b).filter (toB (2*(k:Int)+a)):=KH.2 ⟨V,by unfold toB;grind⟩;have S:∀(j:Nat) (c:Int),(0<=c/\c<=1)->Gd x=2*(j:Int)+c->Gd (shL af x)=2*(af j:Int)+c:=λj c H e=>by
  show 2*(af (Gd x/2).toNat:Int)+Gd x%2=_;grind
 cases N:p.2.2.2.1 with
 |false =>
  rw[ZnJ g s u N (by omega) C]at i;obtain⟨j,q,c,H,_,_,_,_,l,_⟩:=ZsL (KH.1 i).1;obtain⟨d,y,G,X,E,Y,_⟩:=Zzv h.toZAW g F (v:=v) (by omega) (by omega) (C▸B);rw[G]at l;exact⟨d,y,c,H,E,h.alv d y E (by grind),l,S d c H l⟩
 |true =>
  by_cases z:p.1<0
  ·rw[ZnI g s u N z]at i
   cases i
  ·obtain⟨y,y',D,W,Z,L,w⟩:=h.inst k p s B (by omega)
   rw[Zp8 g s u N D]at i;obtain⟨f,n,j,t,c1,ix,m,M,I,e,J,_⟩:=Zmt g D (KH.1 i).1;obtain⟨q,O,_⟩:=ZiR D m;have l:Gd x=2*((fst (KX b) p.1.toNat+f:Nat):Int)+t:=by rw[e];rfl
   exact⟨_,q,t,M,O,(w f m).1,l,S _ t M l⟩
end
theorem ZFB {α β:Type} (g:α->β) (l:List α) (i:Int):atI (l.map g) i=(atI l i).map g:=by
 unfold atI;grind
section
variable {b r:Za} {af:Nat->Nat} {U:Int->Prop} {A:Nat->Prop}
variable {k:Nat} {p:Pl}
theorem ZD0 (h:Loc b r af U A) (g:(places (KX b))[k]?=some p) (a:U p.2.2.1):ZhO (K4 r) (KX r) p=ZhO (K4 b) (KX b) p:=by
 unfold ZhO;have C:GI p=p.1:=rfl;by_cases q:GI p<0
 ·grind
 ·obtain⟨x,X,l,O,c,_⟩:=h.inst k p g a (by omega)
  rw[Ue q,Ue q,C,Yw (by omega) l,Yw (by omega) O,Bq,Bq,h.lib,c]
variable {w:Zq}
theorem ZtY (h:Loc b r af U A) (e:Z4 b) (F:Z4 r) {v:Nat} (d:U (v:Int)) (m:(KZ b)[v]?=some w):J5 r (v:Int)=J5 b (v:Int):=by
 have H:=e.ok.1.few;have a:=F.ok.1.few;unfold J5;rw[Zo,Zo,h.wire v d,m,Bq,Bq,ZN _ H,ZN _ a,Xb _ _ H,Xb _ _ a];refine US (Option.bind _) ?_;funext l0;simp only[Bq];refine US (λf=>Zx f _) ?_;funext u;obtain⟨i,l,⟨⟩⟩:=u;show Zay r w (places (KX r)) (sinks (KX r) (v:Int)) i l=Zay b w (places (KX b)) (sinks (KX b) (v:Int)) i l;unfold Zay;rw[Zqa h.toZAW d,U1];by_cases q:i<((sinks (KX b) (v:Int)).length:Int)
 ·rw[Uc q,Uc q,ZFB]
  cases atI (Gm w) i with
  |none=>rfl
  |some z =>
   rw[Bq,Bq];cases atI l z with
   |none=>rfl
   |some y =>
    rw[Bq,Bq];cases j:atI (sinks (KX b) (v:Int)) i with
    |none=>rfl
    |some s =>
     obtain⟨k,p,rfl,g,E,_⟩:=J2.1 (at_mem j);have c:U p.2.2.1:=by rw[E];exact d
     rw[UV,Bq,Bq,Up,Zo,Zo,h.to k p g c,g,Bq,Bq,ZD0 h g c]
 grind
theorem Zrx (h:Loc b r af U A) (H:Z4 b) (F:Z4 r) {v:Nat} (a:U (v:Int)) (c:(KZ b)[v]?=some w):J9 r (v:Int)=J9 b (v:Int):=by
 unfold J9;rw[Zo,Zo,h.wire v a,ZtY h H F a c]
theorem Zrc (h:Loc b r af U A) (H:Z4 b) (F:Z4 r) {v:Nat} (a:U (v:Int)) (c:(KZ b)[v]?=some w) (m:Int):Vx r (v:Int) m=Vx b (v:Int) m:=by
 unfold Vx;rw[Zrx h H F a c];refine US (Option.bind _) ?_;funext l0;refine US (λf=>Zx f _) ?_;funext u;show X9 r (v:Int) m l0 u.1 u.2.1=X9 b (v:Int) m l0 u.1 u.2.1;unfold X9;rw[Zo,Zo,h.wire v a]
theorem ZCk (h:Loc b r af U A) (H:Z4 b) (F:Z4 r) {v:Nat} (a:U (v:Int)) (c:(KZ b)[v]?=some w) (i s m:Int):Zdl r (v:Int) i s m=Zdl b (v:Int) i s m:=by
 unfold Zdl;rw[Zo,Zo,h.wire v a,Zrx h H F a c]
theorem ZEP (h:Loc b r af U A) (g:Z4 b) (F:Z4 r) (j:(places (KX b))[k]?=some p) (u:U p.2.2.1) {a:Int} (S:0<=a/\a<=1) {x:Zp} (Q:Gf x=2*(k:Int)+a) (c:Zz) (s:ZA):spn r c (shL af x) s=spn b c x s:=by
 have d:=g.ok.1.few;have e:=F.ok.1.few;have C:=h.to k p j u;have J:=(Ub.1 j).1;have K:=(Ub.1 C).1;have L:=ZT d;have O:=ZT e;have i:=Qe g.ok.1 (Ud j);obtain⟨v,B⟩:∃v:Nat,p.2.2.1=(v:Int):=⟨p.2.2.1.toNat,by have:=i.1;omega⟩;have w:v<(KZ b).length:=by have:=i.2;have:=g.ok.2.1;omega
 have n:(KZ b)[v]?=some ((KZ b)[v]'w):=Ua _;have f:U (v:Int):=B▸u;have l:Gf (shL af x)=2*(af k:Int)+a:=by
  show 2*(af (Gf x/2).toNat:Int)+Gf x%2=_;grind
 have E:atI (places (KX b)) (Wq (Int.tdiv (Gf x) (2:Int)))=some p:=by
  rw[Q,U0 (by omega),QR,show(2*(k:Int)+a)/2=(k:Int) by omega,Zo];exact j
 have M:atI (places (KX r)) (Wq (Int.tdiv (Gf (shL af x)) (2:Int)))=some p:=by
  rw[l,U0 (by omega),QR,show(2*(af k:Int)+a)/2=(af k:Int) by omega,Zo];exact C
 have z:Int.tmod (Gf (shL af x)) (2:Int)=Int.tmod (Gf x) (2:Int):=by
  grind
 have H:Zdm r (shL af x)=Zdm b x:=by
  unfold Zdm;rw[ZN _ d,ZN _ e,Bq,Bq,E,M,Bq,Bq];have D:GI p=p.1:=rfl;have G:ZC.net p=(v:Int):=B;rw[D,G,ZtY h g F f n,h.lib];by_cases q:0<=p.1
  ·obtain⟨y,Y,R,o,I,_⟩:=h.inst k p j u q
   rw[Yw q R,Yw q o,Bq,Bq,I];rfl
  ·unfold atI
   grind
 have t:Zdn r (shL af x)=some (v:Int)/\Zdn b x=some (v:Int):=by
  unfold Zdn;rw[ZN _ d,ZN _ e,Bq,Bq,E,M];grind
 have N:∀s m:Int,Ji r c (shL af x) s m=Ji b c x s m:=λs m=>by
  unfold Ji;rw[H,z,t.1,t.2,Bq,Bq,Zrc h g F f n];rfl
 have P:∀s m:Int,XY r (shL af x) s m=XY b x s m:=λs m=>by
  unfold XY;rw[H,z,t.1,t.2,Bq,Bq,ZCk h g F f n];rfl
 unfold spn Zbm;simp only[N,P]
end
theorem ZD1 (b:Za) (c:Zz) (br:List Int) (l:List Zj) (d:sm Yg b) (f:sm XP c) (r:br.length<=1048576) (e:l.length<=1048576) :
  (∃code:Int,(code=1\/code=2\/code=7)/\QT b c br l none=some (none,[],code)/\ZgH b c br l=some ([],code)/\¬ZjV b c br l/\(Pre b c br l->code=7))\/
  (∃v,ZjV b c br l/\VOk b v/\QT b c br l none=some (some (v,VO b br,()),(V4 b br).1,0)/\ZgH b c br l=some ((V4 b br).1,0)):=by
 unfold QT ZgH;rw[XO b d,Zc7 b d,Bq,Bq];by_cases j:Zis b;rotate_left
 ·rw[Ue (λq=>j ((YL _).1 q)),Ue (λq=>j ((YL _).1 q))]
  exact .inl ⟨1,.inl rfl,rfl,rfl,λq=>j q.blk.ok,λq=>absurd q.blk.ok j⟩
 have h:Z4 b:=⟨j,d⟩;rw[Uc (ZX j),Uc (ZX j),ZoY c f,ZjM c,Bq,Bq];by_cases z:Jv c;rotate_left
 ·rw[Ue (λq=>z ((YL _).1 q)),Ue (λq=>z ((YL _).1 q))]
  exact .inl ⟨1,.inl rfl,rfl,rfl,λq=>z q.cor,λq=>absurd q.cor z⟩
 obtain⟨v,p,a⟩:=Ztk h;rw[Uc (ZX z),Uc (ZX z),p,Bq,Uc (by rfl),ZrG h r,Zp2 h a r,Bq,Bq];by_cases H:Zit ((Zu b).length:Int) br;rotate_left
 ·rw[Ue (λq=>H ((YL _).1 q)),Qs H,Ue (by decide)]
  exact .inl ⟨2,.inr (.inl rfl),rfl,rfl,λq=>H q.ris,λq=>absurd q.ris H⟩
 rw[Uc (ZX H),QY H,Uc rfl,Zfm h v a.places l e,Zir h l e,Bq,Bq];by_cases s:Zee l (ZaB (2*((places (KX b)).length:Int)) l);rotate_left
 ·rw[Ue (λq=>s ((YL _).1 q)),Ue (λq=>s ((YL _).1 q))]
  exact .inl ⟨2,.inr (.inl rfl),rfl,rfl,λq=>s q.src,λq=>absurd q.src s⟩
 rw[Uc (ZX s),Uc (ZX s),ZrE h a r H,Bq,ZwS h a br,ZE6 h r H,Bq,Bq];by_cases o:(V4 b br).2=true;rotate_left
 ·rw[Ue o,Ue o]
  exact .inl ⟨7,.inr (.inr rfl),rfl,rfl,λq=>o q.ord,λ_=>rfl⟩
 rw[Uc o,Uc o];exact .inr ⟨v,⟨h,z,H,s,o⟩,a,rfl,rfl⟩
section
variable {b:Za} {c:Zz} {br:List Int} {l:List Zj} {v:ZM}
theorem hst (h:ZjV b c br l) (a:VOk b v) (t:Zf) (u:Int) (r:Zg1 (Yt b) t):StB (ZaJ b c (VO b br) l t u):=ZnP h a r _ _
variable {k:Nat}
theorem set_self {α:Type} {l:List α} {x:α} (h:l[k]?=some x):l.set k x=l:=by
 apply Ux;grind
variable {t:Zf}
theorem ZB7 {n:Nat} (j:Zg1 n t) (H:k<n) (T:JM t (k:Int)=(false,VH,VH)) {r:Bool×Zj} (F:Zks r=(false,VH,VH)):ZiT t k r=t:=by
 obtain⟨x,a,s,l,h,q⟩:=Ztf j H;unfold JM at T;rw[l,h,q]at T;injection T with d T
 injection T with f g
 dsimp only[Option.getD_some]at d f g;subst d f g;unfold Zks at F;injection F with G F
 injection F with e i
 rw[Zo]at l h q;obtain⟨a,b,c,⟨⟩⟩:=t;unfold ZiT;rw[G,e,i];show(List.set a k false,List.set b k VH,List.set c k VH,())=(a,b,c,());rw[set_self l,set_self h,set_self q]
theorem ZzE {live:List Bool} {u:Int} (h:(newV b c live l t u).1=false):Zks (newV b c live l t u)=(false,VH,VH):=by
 unfold newV at h ⊢;cases e:ZaJ b c live l t u with
 |none=>rfl
 |some q=>rw[e]at h;cases h
theorem ZDQ {r:Bool×Zj} (h:r.1=true):Zr7 r = !tr (ZaI (GJ r.2)):=by
 unfold Zr7;rw[h,Bool.true_and]
theorem ZnT (H:ZjV b c br l) (p:VOk b v) (W:l.length<=1048576) {ord:List Int} (G:ord.length<=1000) {c0:List Bool} {c1 c2:List ZA} :
  ∀(r out:List Int) (k:Nat) (t:Zf),ord.drop k=r->k<=ord.length->Zl3 (VO b br) (Zu b) out r->(∀u∈r,0<=u/\u<(Yt b:Int))->Zg1 (Yt b) t->(∀u:Int,u ∉ out->JM t u=(false,VH,VH))->
   Zx (λu=>Yr ((v,VO b br,()):ZO) c l ord u.1 u.2.1 u.2.2.1 u.2.2.2.1 u.2.2.2.2.1 u.2.2.2.2.2.1 u.2.2.2.2.2.2.1) ((k:Int),c0,c1,c2,K6 t,Gu t,Gs t,())=some ((Zpi b c (VO b br) l r t).2,(Zpi b c (VO b br) l r t).1)/\
   Zx (λu=>XU b c (Zu b) (VO b br) l ord u.1 u.2.1 u.2.2.1 u.2.2.2.1 u.2.2.2.2.1 u.2.2.2.2.2.1 u.2.2.2.2.2.2.1) ((k:Int),c0,c1,c2,K6 t,Gu t,Gs t,())=some ((Zpi b c (VO b br) l r t).2,(Zpi b c (VO b br) l r t).1)
 |[],out,k,t,F,V,w,C,d,T=>by
  have A:k=ord.length:=by
   have:=US List.length F;grind
  subst A;constructor
  ·refine Xi ?_
   show Yr ((v,VO b br,()):ZO) c l ord (ord.length:Int) c0 c1 c2 (K6 t) (Gu t) (Gs t)=_;unfold Yr;rw[Ue (Uf _)];rfl
  ·refine Xi ?_
   show XU b c (Zu b) (VO b br) l ord (ord.length:Int) c0 c1 c2 (K6 t) (Gu t) (Gs t)=_;unfold XU;rw[Ue (Uf _)];rfl
 |node::r,out,k,t,F,V,w,C,d,T=>by
  have h:=H.blk;have X:=Zhc h;have m:(VO b br).length=(Zu b).length:=Zf5 _ _;have n:Len l:=by unfold Len;omega
  have B:k<ord.length:=by
   grind
  have e:ord[k]?=some node:=by
   have:=US (λz=>z[0]?) F;grind
  have J:ord.drop (k+1)=r:=by
   rw[<-List.tail_drop,F];rfl
  have U:=C node UH;obtain⟨j,rfl⟩:∃j:Nat,node=(j:Int):=⟨node.toNat,by omega⟩;have P:j<Yt b:=by omega
  obtain⟨x,a,s,M,y,K⟩:=Ztf d P;have E:=Zon h p H.cor m d n (ZDp H.src) (j:Int);have o:=Zus h p H.cor m d n (j:Int);rw[show Zyc (j:Int) (ZaJ b c (VO b br) l t (j:Int))=newV b c (VO b br) l t (j:Int)from rfl]at E o;have i:=Zmy (hst H p) d j (j:Int);have N:∀u:Int,u ∉ out++[(j:Int)]->JM (ZiT t j (newV b c (VO b br) l t (j:Int))) u=(false,VH,VH):=λu L=>by
   rw[Zhu (λz=>L (Ut.2 (.inr (by grind))))];grind
  have I:=ZnT H p W G (c0:=c0) (c1:=c1) (c2:=c2) r (out++[(j:Int)]) (k+1) (ZiT t j (newV b c (VO b br) l t (j:Int))) J B w.2 (λu L=>C u (UM _ L)) i N;have D:=ZzE (b:=b) (c:=c) (l:=l) (t:=t) (live:=VO b br) (u:=(j:Int));have f:(newV b c (VO b br) l t (j:Int)).1=false->ZiT t j (newV b c (VO b br) l t (j:Int))=t:=λq=>ZB7 d P (T _ w.1.2.1) (D q);unfold Zpi;rw[Up];generalize newV b c (VO b br) l t (j:Int)=R at *;by_cases Q:R.1=true
  ·rw[ZDQ Q]
   by_cases g:ZaI (GJ R.2)
   ·rw[ZX g]
    refine⟨(Xk (v':=(((k+1:Nat):Int),c0,c1,c2,K6 (ZiT t j R),Gu (ZiT t j R),Gs (ZiT t j R),())) ?_).trans I.1,(Xk (v':=(((k+1:Nat):Int),c0,c1,c2,K6 (ZiT t j R),Gu (ZiT t j R),Gs (ZiT t j R),())) ?_).trans I.2⟩
    ·show Yr ((v,VO b br,()):ZO) c l ord (k:Int) c0 c1 c2 (K6 t) (Gu t) (Gs t)=_
     unfold Yr;rw[QP,Zo,e,Bq];show(Xj _ c l t (j:Int)).bind _=_;rw[E,Bq,Uc Q,show JJ R.2.2.1=some (tr (ZaI (GJ R.2)))from ZcE _,Bq,Uc (ZX g),M,y,K,Bq,Bq,Bq,YW,Up];rfl
    ·show XU b c (Zu b) (VO b br) l ord (k:Int) c0 c1 c2 (K6 t) (Gu t) (Gs t)=_
     unfold XU;rw[QP,Zo,e,Bq];show(Zb5 b c (Zu b) (VO b br) l t (j:Int)).bind _=_;rw[o,Bq,Uc Q,show Zdi R.2.2.1=some (tr (ZaI (GJ R.2)))from ZiC _,Bq,Uc (ZX g),M,y,K,Bq,Bq,Bq,YW,Up];unfold ZiT;rw[Q]
   ·rw[Ym g]
    refine⟨Xi ?_,Xi ?_⟩
    ·show Yr ((v,VO b br,()):ZO) c l ord (k:Int) c0 c1 c2 (K6 t) (Gu t) (Gs t)=_
     unfold Yr;rw[QP,Zo,e,Bq];show(Xj _ c l t (j:Int)).bind _=_;rw[E,Bq,Uc Q,show JJ R.2.2.1=some (tr (ZaI (GJ R.2)))from ZcE _,Bq,Ue (λz=>g ((YL _).1 z))];rfl
    ·show XU b c (Zu b) (VO b br) l ord (k:Int) c0 c1 c2 (K6 t) (Gu t) (Gs t)=_
     unfold XU;rw[QP,Zo,e,Bq];show(Zb5 b c (Zu b) (VO b br) l t (j:Int)).bind _=_;rw[o,Bq,Uc Q,show Zdi R.2.2.1=some (tr (ZaI (GJ R.2)))from ZiC _,Bq,Ue (λz=>g ((YL _).1 z))];rfl
  ·have O:R.1=false:=by grind
   have S:Zr7 R=false:=by
    unfold Zr7;grind
   rw[S];refine⟨(Xk (v':=(((k+1:Nat):Int),c0,c1,c2,K6 (ZiT t j R),Gu (ZiT t j R),Gs (ZiT t j R),())) ?_).trans I.1,(Xk (v':=(((k+1:Nat):Int),c0,c1,c2,K6 (ZiT t j R),Gu (ZiT t j R),Gs (ZiT t j R),())) ?_).trans I.2⟩
   ·show Yr ((v,VO b br,()):ZO) c l ord (k:Int) c0 c1 c2 (K6 t) (Gu t) (Gs t)=_
    unfold Yr;rw[QP,Zo,e,Bq];show(Xj _ c l t (j:Int)).bind _=_;rw[E,Bq,Ue Q,M,y,K,Bq,Bq,Bq,YW,Up];rfl
   ·show XU b c (Zu b) (VO b br) l ord (k:Int) c0 c1 c2 (K6 t) (Gu t) (Gs t)=_
    unfold XU;rw[QP,Zo,e,Bq];show(Zb5 b c (Zu b) (VO b br) l t (j:Int)).bind _=_;rw[o,Bq,Ue Q,YW,f O]
end
def ZxJ (n:Nat):Zf:=(List.replicate n false,List.replicate n VH,List.replicate n VH,())
variable (n:Nat)
theorem Zmz:Zg1 n (ZxJ n):=⟨UR,UR,UR,λs q=>by
 rw[List.eq_of_mem_replicate q];exact ZDr⟩
theorem ZwN (u:Int):JM (ZxJ n) u=(false,VH,VH):=by
 have g:∀{α:Type} (z:α),(atI (List.replicate n z) u).getD z=z:=λz=>by
  unfold atI;grind
 show(((atI (List.replicate n false) u).getD false,(atI (List.replicate n VH) u).getD VH,(atI (List.replicate n VH) u).getD VH):Row)=_;rw[g,g]
structure Is (b:Za) (c:Zz) (br:List Int) (l:List Zj) (t:Zf):Prop where
 asked:ZjV b c br l
 tb:Zg1 (Yt b) t
 right:Right b c (VO b br) l t
 good:∀u:Int,0<=u->u<(Yt b:Int)->Zoz (JM t u)
theorem Is.unique {b:Za} {c:Zz} {br:List Int} {l:List Zj} {t t':Zf} (h:Is b c br l t) (H:Is b c br l t'):t=t' :=
 Zuh (ZwR h.asked.ord) h.tb H.tb h.right H.right
theorem Zvw (b:Za) (c:Zz) (br:List Int) (l:List Zj) (w:sm Yg b) (x:sm XP c) (d:br.length<=1048576:=by omega) (q:l.length<=1048576:=by omega) :
  ∃r:Zf×Int,XW b c br l=some r/\YF b c br l=some r/\
   ((r.2=0/\Is b c br l r.1)\/(r.1=noT/\(∀t,¬Is b c br l t)/\(r.2=3/\ZjV b c br l\/(r.2=1\/r.2=2\/r.2=7)/\¬ZjV b c br l/\(Pre b c br l->r.2=7)))):=by
 unfold XW YF;rcases ZD1 b c br l w x d q with⟨code,g,E,i,j,o⟩|⟨v,H,e,E,i⟩
 ·rw[E,i,Bq,Bq,Ue (by grind),Ue (by grind)]
  exact⟨_,rfl,rfl,.inr ⟨rfl,λt z=>j z.asked,.inr ⟨g,j,o⟩⟩⟩
 ·have h:=H.blk
  have D:=Zhc h;have C:=ZsR b br;have k:=ZwR H.ord;have y:=ZT h.ok.1.few;have M:=nN b;rw[E,i,Bq,Uc rfl,Bq,Bq,Uc rfl];rw[Zcz h,Bq,ZhQ _ _ (QC h) d,Bq];have L:JO ((v,VO b br,()):ZO) c l (V4 b br).1=some ((Zpi b c (VO b br) l (V4 b br).1 (ZxJ (Yt b))).2,(Zpi b c (VO b br) l (V4 b br).1 (ZxJ (Yt b))).1):=by
   unfold JO VZ;rw[show YC (GB ((v,VO b br,()):ZO))=some (Yt b:Int)from Zpg h e,Bq];rw[Ra,Ra,Ra,Ra,Ra,Bq,Up];exact(ZnT H e q (ord:=(V4 b br).1) (by omega) (V4 b br).1 [] 0 (ZxJ (Yt b)) rfl (Nat.zero_le _) k.ord k.inn (Zmz _) (λu _=>ZwN _ u)).1
  have B:ZhR b c (Zu b) (VO b br) l (V4 b br).1=some ((Zpi b c (VO b br) l (V4 b br).1 (ZxJ (Yt b))).2,(Zpi b c (VO b br) l (V4 b br).1 (ZxJ (Yt b))).1):=by
   unfold ZhR ZjD;rw[Zoo h,Bq];rw[Ra,Ra,Ra,Ra,Ra,Bq,Up];exact(ZnT H e q (ord:=(V4 b br).1) (by omega) (V4 b br).1 [] 0 (ZxJ (Yt b)) rfl (Nat.zero_le _) k.ord k.inn (Zmz _) (λu _=>ZwN _ u)).2
  rw[show JO ((v,VO b br,()):ZO) c l (some ((v,VO b br,()):ZO),(V4 b br).1,(0:Int)).snd.fst=_ from L];rw[show ZhR b c (Zu b) (Zdd (Zu b).length br) l ((V4 b br).1,(0:Int)).fst=_ from B];rw[Bq];have K:=Zz9 (b:=b) (c:=c) (live:=VO b br) (l:=l) (hst H e) (V4 b br).1 [] (ZxJ (Yt b)) k.ord (λu a=>(k.inn u a).2) (Zmz _) (λu a=>by cases a) (λu a=>by cases a);have A:=λT=>Zuj (b:=b) (c:=c) (live:=VO b br) (l:=l) (T:=T) (hst H e) (V4 b br).1 [] (ZxJ (Yt b)) k.ord (λu a=>(k.inn u a).2) (Zmz _) (λu a=>by cases a);have F:(Zpi b c (VO b br) l (V4 b br).1 (ZxJ (Yt b))).1=false->(Zpi b c (VO b br) l (V4 b br).1 (ZxJ (Yt b))).2=noT:=runP_bad _ _;generalize Zpi b c (VO b br) l (V4 b br).1 (ZxJ (Yt b))=R at *;cases s:R.1 with
  |true =>
   obtain⟨p,G⟩:=K s;exact⟨_,rfl,rfl,.inl ⟨rfl,H,p,λu m f=>(G u (k.all u m f)).1,λu m f=>(G u (k.all u m f)).2⟩⟩
  |false =>
   refine⟨_,rfl,rfl,.inr ⟨rfl,λT n=>?_,.inl ⟨rfl,H⟩⟩⟩;have:=A T λu a=>⟨n.right u (k.inn u a).1 (k.inn u a).2,n.good u (k.inn u a).1 (k.inn u a).2⟩;grind
where
 runP_bad {b:Za} {c:Zz} {live:List Bool} {l:List Zj}:∀(r:List Int) (t:Zf),(Zpi b c live l r t).1=false->(Zpi b c live l r t).2=noT
  |[],t,h=>by cases h
  |v::r,t,h=>by
   unfold Zpi at h ⊢;cases e:Zr7 (newV b c live l t v)with
   |true=>rfl
   |false =>
    rw[e]at h;exact runP_bad r _ h
def Gets {α:Type} (o:Option α) (Q:α->Prop):Prop:=∃a,o=some a/\Q a
variable {α:Type} {a:α} {Q:α->Prop}
theorem Gets.ret (h:Q a):Gets (some a) Q:=⟨a,rfl,h⟩
variable {β:Type} {o:Option α} {P:α->Prop}
theorem Gets.bind {f:α->Option β} {Q:β->Prop} (h:Gets o P) (k:∀a,P a->Gets (f a) Q):Gets (o.bind f) Q:=by
 obtain⟨a,e,g⟩:=h;rw[e];exact k a g
variable {p:Prop}
theorem Gets.guard (h:p) (k:Gets o Q):Gets (Zt p o) Q:=by rw[Zi h];exact k
theorem Gets.ite [Decidable p] {a b:Option α} (d:p->Gets a Q) (f:¬p->Gets b Q):Gets (if p then a else b) Q:=by
 split
 ·exact d (by assumption)
 ·exact f (by assumption)
variable {i:Int}
theorem Gets.at {l:List α} {f:α->Option β} {Q:β->Prop} (m:0<=i) (d:i<(l.length:Int)) (k:∀x,x∈l->l[i.toNat]?=some x->Gets (f x) Q):Gets ((atI l i).bind f) Q:=by
 obtain⟨x,e,h⟩:=Zrt m d;rw[e];exact k x (Ud h) h
theorem Gets.mono (h:Gets o P) (k:∀a,P a->Q a):Gets o Q:=by
 obtain⟨a,e,g⟩:=h;exact⟨a,e,k a g⟩
theorem Gets.of (e:o=some a) (h:Q a):Gets o Q:=⟨a,e,h⟩
def Rnd {τ ρ:Type} (I:τ->Prop) (μ:τ->Nat) (m:Nat) (Q:ρ->Prop):τ⊕ρ->Prop
 | .inl v=>I v/\μ v<m
 | .inr r=>Q r
theorem Gets.loop {τ ρ:Type} {step:τ->Option (τ⊕ρ)} (I:τ->Prop) (μ:τ->Nat) {Q:ρ->Prop} {v:τ} (m:I v) (q:∀v,I v->Gets (step v) (Rnd I μ (μ v) Q)):Gets (Zx step v) Q:=by
 refine Zgi I μ Q m (λv i=>?_);obtain⟨r,e,h⟩:=q v i;cases r with
 |inl v'=>exact .inl ⟨v',e,h⟩
 |inr r=>exact .inr ⟨r,e,h⟩
structure Src (s:Zk):Prop where
 code:∀x∈G4 s,0<=x/\x<=255
 len:(G4 s).length<=5000
 at0:0<=Zk.at s
 at1:Zk.at s<=5000
 sd0:0<=GP s
 sd1:GP s<2147483647
def Bel (n k:Int):Prop:=0<=k/\(k<n\/k=0)
variable {s:Zk}
theorem ZE (H:Src s) (n:Int):Gets (Zl s n) (λr=>Bel n r.1/\Src r.2):=by
 obtain⟨h,l,a0,A,s0,S⟩:=H;unfold Zl;split
 ·exact .ret ⟨⟨U6 _,.inr rfl⟩,⟨h,l,a0,A,s0,S⟩⟩
 rename_i d;split
 ·rename_i t
  refine .at a0 t λx b _=>?_;obtain⟨b0,U⟩:=h x b;have E:Wq (Zk.at s+1)=Zk.at s+1:=QR;have i:Wq x=x:=QR;have k:Wq (GP s*48271)=GP s*48271:=QR;have f:Wq (GP s*48271+x)=GP s*48271+x:=QR;have e:Wq (GP s*48271+x+1)=GP s*48271+x+1:=QR;simp only[i,k,f,e,E];split
  ·refine .guard (by omega) (.ret ⟨⟨Ky _ b0,.inl (Kq _ (by omega))⟩,⟨h,l,?_,?_,s0,S⟩⟩)
   ·show 0<=Zk.at s+1;omega
   ·show Zk.at s+1<=5000;omega
  ·have M:=Ky (a:=GP s*48271+x+1) 2147483647 (by omega)
   have c:=Kq (GP s*48271+x+1) (show(0:Int)<2147483647 by omega);refine .guard (by omega) (.ret ⟨⟨Ky _ M,.inl (Kq _ (by omega))⟩,⟨h,l,?_,?_,M,c⟩⟩)
   ·show 0<=Zk.at s+1;omega
   ·show Zk.at s+1<=5000;omega
 ·have k:Wq (GP s*48271)=GP s*48271:=QR
  have f:Wq (GP s*48271+11)=GP s*48271+11:=QR;simp only[k,f];have M:=Ky (a:=GP s*48271+11) 2147483647 (by omega);have c:=Kq (GP s*48271+11) (show(0:Int)<2147483647 by omega);generalize (GP s*48271+11).tmod 2147483647=q at M c;have D:q.tdiv 7=q/7:=U0 M;rw[D,QR (n:=q/7)];exact .guard (by omega) (.ret ⟨⟨Ky _ (by omega),.inl (Kq _ (by omega))⟩,⟨h,l,a0,A,M,c⟩⟩)
variable {code:List Int}
theorem Zxq (q:∀x∈code,0<=x/\x<=255) (H:code.length<=5000):Gets (Zik code) Src:=by
 unfold Zik;refine Gets.loop (λv=>0<=v.1/\v.1<=64/\0<=v.2.1/\v.2.1<2147483647) (λv=>(64-v.1).toNat) ⟨U6 _,by show(0:Int)<=64;omega,by show(0:Int)<=12345;omega,by show(12345:Int)<2147483647;omega⟩ ?_;rintro⟨i,c,⟨⟩⟩ ⟨I,j,c0,c1⟩;simp only at I j c0 c1;have M:Gets (some (.inr (code,(0:Int),c,()):(Int×Int×Unit)⊕Zk)) (Rnd (λv:Int×Int×Unit=>0<=v.1/\v.1<=64/\0<=v.2.1/\v.2.1<2147483647) (λv=>(64-v.1).toNat) ((λv:Int×Int×Unit=>(64-v.1).toNat) (i,c,())) Src) :=
  .ret (show Src (code,(0:Int),c,())from⟨q,H,U6 _,by show(0:Int)<=5000;omega,c0,c1⟩)
 show Gets (ZfA code i c) _;unfold ZfA;split
 ·rename_i l
  split
  ·rename_i h
   refine .at I l λx a _=>?_;obtain⟨b0,U⟩:=q x a;have E:Wq (i+1)=i+1:=QR;have e:Wq x=x:=QR;have k:Wq (c*31)=c*31:=QR;have f:Wq (c*31+x)=c*31+x:=QR;simp only[E,e,k,f];refine .ret ⟨⟨?_,?_,Ky _ (by omega),Kq _ (by omega)⟩,?_⟩
   ·show 0<=i+1;omega
   ·show i+1<=64;omega
   ·show(64-(i+1)).toNat<(64-i).toNat;omega
  ·exact M
 ·exact M
theorem ZsP {n:Int} (c:0<=n:=by omega) (d:n<100:=by omega):Gets (Vh n) (λr=>r.length<=2):=by
 have one:∀(k:Nat) (m:Int),0<=m->m<10->VJ (k+1) m=some (bytesOf [IntKind.wrap IntKind.u8 (Wq (48+m))]):=λk m a b=>by
  show XA (VJ k) m=_;unfold XA;rw[QQ,Uc b]
 have H:∀x:Int,(bytesOf [x]).length=1:=λx=>rfl;unfold Vh;by_cases h:n<10
 ·refine .of (ZzZ ⟨1,one 0 n c h⟩ (λk r F=>?_)) (by rw[H];omega)
  cases k with
  |zero=>cases F
  |succ k=>rw[one k n c h]at F;injection F with F;exact F.symm
 ·have N:n.tdiv 10=n/10:=U0 c
  have two:∀k:Nat,VJ (k+2) n=some (bytesOf [IntKind.wrap IntKind.u8 (Wq (48+n/10))]++bytesOf [IntKind.wrap IntKind.u8 (Wq (48+n.tmod 10))]):=λk=>by
   show XA (VJ (k+1)) n=_;unfold XA;rw[QQ,Ue h,N,QR (n:=n/10),one k (n/10) (by omega) (by omega),Bq,Zi (by rw[H,H];omega)]
  refine .of (ZzZ ⟨2,two 0⟩ (λk r F=>?_)) (by rw[Ug,H,H];omega)
  match k,F with
  |0,F=>cases F
  |1,F =>
   exfalso;revert F;show ¬XA (VJ 0) n=some r;unfold XA;rw[QQ,Ue h];intro F;cases F
  |k+2,F=>rw[two k]at F;injection F with F;exact F.symm
variable {x:α}
theorem Ze9 {l:List α} (h:∀y∈l,P y) (H:P x):∀y∈l++[x],P y:=by
 intro y i;rcases Ut.1 i with i|i
 ·exact h y i
 ·rw[Uw]at i
  rw[i];exact H
theorem Zr3 {l:List α} {i:Nat} (h:∀y∈l,P y) (a:P x):∀y∈l.set i x,P y:=by
 intro y H;rcases U2 H with H|H
 ·exact h y H
 ·rw[H];exact a
theorem smI {l:List Int} (h:l.length<=1048576):sm (.sl (.int .i64)) l:=⟨by omega,λ_ _=>trivial⟩
theorem smS {s:List UInt8} (h:s.length<=1048576):sm .str s:=by show(s.length:Int)<=1048576;omega
theorem smL {t:Ty} {l:List t.den} (h:l.length<=1048576) (f:∀x∈l,sm t x):sm (.sl t) l:=⟨by omega,f⟩
theorem Zty (q:Src s) (st:Int):Gets (Zcy s st) (λr=>(1<=r.1.length/\r.1.length<=3)/\Src r.2):=by
 unfold Zcy;refine(ZE q st).bind λg ⟨_,m⟩=>?_;refine(ZE m 3).bind λR ⟨⟨a,b⟩,d⟩=>?_;have e:Wq (1+R.1)=1+R.1:=QR;rw[e];refine Gets.loop (λv=>0<=v.2.2.1/\(v.1.length:Int)+v.2.2.1=1+R.1/\Src (v.2.2.2.1,v.2.2.2.2.1,v.2.2.2.2.2.1,())) (λv=>v.2.2.1.toNat) ⟨by dsimp only;omega,by dsimp only[List.length_nil];omega,d⟩ ?_;rintro⟨out,t,n,c0,c1,c2,⟨⟩⟩ ⟨j,I,i⟩;dsimp only at j I i;show Gets (ZcM st out t n c0 c1 c2) _;unfold ZcM;have c:Wq (n-1)=n-1:=QR;rw[c];split
 ·refine .guard (by simp only[Um,Uq];omega) ?_
  refine(ZE i st).bind λr ⟨_,f⟩=>?_;refine .ret ⟨⟨by dsimp only;omega,by dsimp only;simp only[Ug,Um,Uq];omega,f⟩,by dsimp only;omega⟩
 ·exact .ret ⟨⟨by dsimp only;omega,by dsimp only;omega⟩,i⟩
theorem ZEF {a b:Nat} (n:1<=a/\a<=3) (h:1<=b/\b<=3):(b:Int)<=(a:Int)*(b:Int)/\(a:Int)*(b:Int)<=9:=by
 have:a=1\/a=2\/a=3:=by omega
 rcases this with rfl|rfl|rfl<;>omega
theorem ZrV (j:Src s) (base:Int):Gets (ZgF s base) (λr=>sm Zac r.1/\Src r.2):=by
 unfold ZgF;refine(Zty j 60).bind λf ⟨h,m⟩=>?_;refine(Zty m 40).bind λa ⟨H,d⟩=>?_;obtain⟨p1,P⟩:=ZEF h H;refine Gets.loop (λv=>0<=v.2.1/\v.2.1<=9/\(v.1.length:Int)=v.2.1/\Src (v.2.2.1,v.2.2.2.1,v.2.2.2.2.1,())) (λv=>(9-v.2.1).toNat) ⟨by dsimp only;omega,by dsimp only;omega,by dsimp only[List.length_nil];omega,d⟩ ?_;rintro⟨out,i,c0,c1,c2,⟨⟩⟩ ⟨o,p,u,I⟩;dsimp only at o p u I;show Gets (ZfD base f a out i c0 c1 c2) _;unfold ZfD;have E:Wq ((f.1.length:Int)*(a.1.length:Int))=(f.1.length:Int)*(a.1.length:Int):=QR;have e:Wq (i+1)=i+1:=QR;have b:Wq (i-1)=i-1:=QR;have k:Wq (i-(a.1.length:Int))=i-(a.1.length:Int):=QR;rw[E,e,b,k];split
 ·rename_i y
  have n:∀(x:Int) (t:Zk),Src t->Gets (Zt ((List.length out+List.length [x])*(8:Nat)<=(140737488355328:Nat)) (some (.inl (out++[x],i+1,t.fst,t.snd.fst,t.snd.snd.fst,()):(List Int×Int×List Int×Int×Int×Unit)⊕(ZB×Zk))))
    (Rnd (λv:List Int×Int×List Int×Int×Int×Unit=>0<=v.2.1/\v.2.1<=9/\(v.1.length:Int)=v.2.1/\Src (v.2.2.1,v.2.2.2.1,v.2.2.2.2.1,())) (λv=>(9-v.2.1).toNat) (9-i).toNat (λr=>sm Zac r.1/\Src r.2)):=λx t l =>
   .guard (by simp only[Um,Uq];omega) (.ret ⟨⟨by dsimp only;omega,by dsimp only;omega,by dsimp only;simp only[Ug,Um,Uq];omega,l⟩,by dsimp only;omega⟩)
  refine(ZE I 10).bind λr ⟨_,W⟩=>?_;refine .guard (by omega) ?_;split
  ·rename_i R
   have c:i≠0:=by
    intro q;rw[q,Int.zero_tmod]at R;omega
   refine .at (by omega) (by omega) λA _ _=>?_;refine(ZE W 20).bind λz ⟨_,g⟩=>?_;split
   ·refine .at (by omega) (by omega) λX _ _=>?_
    refine(ZE g 20).bind λw ⟨_,G⟩=>?_;exact n _ _ G
   ·exact n _ _ g
  ·split
   ·refine .at (by omega) (by omega) λX _ _=>?_
    refine(ZE W 20).bind λw ⟨_,G⟩=>?_;exact n _ _ G
   ·exact n _ _ W
 ·exact .ret ⟨⟨smI (by dsimp only;omega),smI (by dsimp only;omega),smI (by dsimp only;omega),trivial⟩,I⟩
theorem ZlY (q:Src s) (base:Int):Gets (JD s base) (λr=>sm (.sl Zac) r.1/\Src r.2):=by
 unfold JD;refine(ZrV q base).bind λf ⟨a,m⟩=>?_;refine(ZrV m base).bind λR ⟨b,d⟩=>?_;refine .ret ⟨smL (by dsimp only[List.length_cons,List.length_nil];omega) (λx l=>?_),d⟩;rcases UB.1 l with rfl|l
 ·exact a
 ·rw[Uw]at l
  rw[l];exact b
theorem Zl6 (q:Src s) (k f t e:Int):Gets (Jq s k f t e) (λr=>sm Zn7 r.1/\Src r.2):=by
 unfold Jq;split
 ·refine(ZE q 10).bind λR ⟨_,m⟩=>?_
  refine(ZlY m _).bind λc ⟨a,d⟩=>?_;exact .ret ⟨⟨trivial,trivial,trivial,trivial,a,smL (by simp) (by simp),trivial⟩,d⟩
 ·refine(ZE q 20).bind λR ⟨_,m⟩=>?_
  refine(ZlY m _).bind λc ⟨a,d⟩=>?_;refine(ZlY d _).bind λg ⟨b,h⟩=>?_;exact .ret ⟨⟨trivial,trivial,trivial,trivial,a,b,trivial⟩,h⟩
variable {pin:Int}
theorem ZiW {c:Zn} {b:Int} (u:(0:Int)<=IntKind.wrap IntKind.u64 pin) (h:Wq ((1:Int)*(2:Int)^Min.min (Int.toNat (IntKind.wrap IntKind.u64 pin)) (IntKind.bits IntKind.i64))=b) (d:(Gy c).length<=8) (b0:0<=b) (U:b<=8)
  (H:∀i:Int,0<=i->i<((Gy c).length:Int)->Go.bits Go.BinOp.and IntKind.i64 i b=0->i+b<((Gy c).length:Int)):Gets (ZfH c pin) (λ_=>True):=by
 unfold ZfH;refine .guard u ?_;refine Gets.loop (λv=>0<=v.2.2.1/\v.2.2.1<=8) (λv=>(8-v.2.2.1).toNat) ⟨by dsimp only;omega,by dsimp only;omega⟩ ?_;rintro⟨R,o,i,⟨⟩⟩ ⟨I,j⟩;dsimp only at I j;show Gets (ZeB c pin R o i) _;unfold ZeB;have E:Wq (i+1)=i+1:=QR;have e:Wq (i+b)=i+b:=QR;simp only[h,E,e];split
 ·rename_i a
  have n:∀r l:Bool,Gets (some (.inl (r,l,i+1,()):(Bool×Bool×Int×Unit)⊕Int)) (Rnd (λv:Bool×Bool×Int×Unit=>0<=v.2.2.1/\v.2.2.1<=8) (λv=>(8-v.2.2.1).toNat) (8-i).toNat (λ_=>True)):=λr l =>
   .ret ⟨⟨by dsimp only;omega,by dsimp only;omega⟩,by dsimp only;omega⟩
  split
  ·rename_i T
   have t:=H i I a T;repeat' first
    |exact n _ _
    |split
    |refine Gets.at (by omega) (by omega) λ_ _ _=>?_
  ·exact n _ _
 ·repeat' first
   |exact Gets.ret (show Rnd _ _ _ (λ_=>True) (.inr _)from trivial)
   |split
theorem eight (m:0<=i) (d:i<8:=by omega):i=0\/i=1\/i=2\/i=3\/i=4\/i=5\/i=6\/i=7:=by omega
theorem ZxV {c:Zn} (h:((Gy c).length=2/\pin=0)\/((Gy c).length=4/\(pin=0\/pin=1))\/((Gy c).length=8/\(pin=0\/pin=1\/pin=2))):Gets (ZfH c pin) (λ_=>True):=by
 have K:∀L:Int,(L=2\/L=4\/L=8)->∀i:Int,0<=i->i<L->Go.bits Go.BinOp.and IntKind.i64 i 1=0->i+1<L:=by
  intro L o i m d T;rcases eight m with rfl|rfl|rfl|rfl|rfl|rfl|rfl|rfl<;>first|omega|exact absurd T (by decide)
 have k:∀L:Int,(L=4\/L=8)->∀i:Int,0<=i->i<L->Go.bits Go.BinOp.and IntKind.i64 i 2=0->i+2<L:=by
  intro L o i m d T;rcases eight m with rfl|rfl|rfl|rfl|rfl|rfl|rfl|rfl<;>first|omega|exact absurd T (by decide)
 have f:∀L:Int,L=8->∀i:Int,0<=i->i<L->Go.bits Go.BinOp.and IntKind.i64 i 4=0->i+4<L:=by
  intro L o i m d T;rcases eight m with rfl|rfl|rfl|rfl|rfl|rfl|rfl|rfl<;>first|omega|exact absurd T (by decide)
 rcases h with⟨q,rfl⟩|⟨q,rfl|rfl⟩|⟨q,rfl|rfl|rfl⟩
 ·exact ZiW (b:=1) (by decide) (by decide) (by omega) (by omega) (by omega) (K _ (by omega))
 ·exact ZiW (b:=1) (by decide) (by decide) (by omega) (by omega) (by omega) (K _ (by omega))
 ·exact ZiW (b:=2) (by decide) (by decide) (by omega) (by omega) (by omega) (k _ (by omega))
 ·exact ZiW (b:=1) (by decide) (by decide) (by omega) (by omega) (by omega) (K _ (by omega))
 ·exact ZiW (b:=2) (by decide) (by decide) (by omega) (by omega) (by omega) (k _ (by omega))
 ·exact ZiW (b:=4) (by decide) (by decide) (by omega) (by omega) (by omega) (f _ (by omega))
variable {L:List UInt8}
theorem Zkc (q:Src s) (k:L.length<=5) {tr:List Int} (y:tr.length=2\/tr.length=4\/tr.length=8):Gets (Zb2 s L tr) (λr=>sm ZcQ r.1/\Src r.2):=by
 unfold Zb2;refine(ZE q 50).bind λR ⟨_,m⟩=>?_;refine(ZE m 80).bind λa ⟨_,h⟩=>?_;refine Gets.loop (λv=>((v.1.length=0/\v.2.1=1)\/(v.1.length=1/\v.2.1=2)\/(v.1.length=2/\v.2.1=4)\/(v.1.length=3/\v.2.1=8))/\v.2.1<=(tr.length:Int)/\(∀x∈v.1,sm ZmU x)/\Src (v.2.2.1,v.2.2.2.1,v.2.2.2.2.1,())) (λv=>(8-v.2.1).toNat)
  ⟨.inl ⟨rfl,rfl⟩,by dsimp only;omega,λx l=>(by cases l),h⟩ ?_
 rintro⟨pins,n,c0,c1,c2,⟨⟩⟩ ⟨j,e,i,I⟩;dsimp only at j e i I;show Gets (ZfF L tr R a pins n c0 c1 c2) _;unfold ZfF;split
 ·rename_i t
  refine .at (by omega) (by simp only[Um,Uq];omega) λx l _=>?_;have c:x.length<=1:=by
   simp only[UB,UZ,Kv]at l;rcases l with rfl|rfl|rfl|rfl<;>exact UO _
  refine(ZE I 9).bind λr ⟨_,f⟩=>?_;have E:Wq (2*n)=2*n:=QR;rw[E];refine .guard (by simp only[Um,Uq];omega) (.ret ⟨⟨?_,by dsimp only;omega,Ze9 i ⟨smS (by(try dsimp only);omega),trivial,trivial,trivial,trivial⟩,f⟩,by dsimp only;omega⟩);dsimp only;simp only[Ug,Um,Uq];omega
 ·refine .guard (by simp only[Um,Uq];omega) ?_
  refine Gets.loop (λv=>0<=v.2.1/\v.2.1<=3/\(v.1.length:Int)<=v.2.1/\(∀x∈v.1,sm Zn7 x)/\Src (v.2.2.1,v.2.2.2.1,v.2.2.2.2.1,())) (λv=>(3-v.2.1).toNat) ⟨by dsimp only;omega,by dsimp only;omega,by dsimp only[List.length_nil];omega,λx l=>(by cases l),I⟩ ?_;rintro⟨arcs,p,D,d,b,⟨⟩⟩ ⟨j0,g,u,w,J⟩;dsimp only at j0 g u w J;show Gets (ZfE L tr R a pins arcs p D d b) _;unfold ZfE;have E:Wq (p+1)=p+1:=QR;rw[E];split
  ·rename_i o
   refine (ZxV (by
    show (tr.length=2/\p=0)\/(tr.length=4/\(p=0\/p=1))\/(tr.length=8/\(p=0\/p=1\/p=2));omega)).bind λS _=>?_
   split
   ·exact .ret ⟨⟨by dsimp only;omega,by dsimp only;omega,by dsimp only;omega,w,J⟩,by dsimp only;omega⟩
   ·refine(Zl6 J 1 p _ S).bind λr ⟨H,f⟩=>?_
    refine .guard (by simp only[Um,Uq];omega) (.ret ⟨⟨by dsimp only;omega,by dsimp only;omega,?_,Ze9 w H,f⟩,by dsimp only;omega⟩);dsimp only;simp only[Ug,Um,Uq];omega
  ·refine .ret ⟨⟨smS (by(try dsimp only);omega),trivial,smL ?_ (Ze9 i ⟨smS (by dsimp only[List.length_cons,List.length_nil];omega),trivial,trivial,trivial,trivial⟩),smL (by(try dsimp only);omega) w,smI (by(try dsimp only);omega),trivial,trivial,trivial⟩,J⟩
   (try dsimp only)
   simp only[Ug,Um,Uq];omega
theorem ZpL (q:Src s) (u:L.length<=5) (k e:Int):Gets (ZaS s L k e) (λr=>sm ZcQ r.1/\Src r.2):=by
 have g:∀a b:Int,sm (.sl ZmU) [([(100:UInt8)],(1:Int),a,Bool.false,()),([(99:UInt8),(107:UInt8)],(1:Int),b,Bool.true,()),([(113:UInt8)],(2:Int),(0:Int),Bool.false,())]:=λa b=>by
  refine smL (by(try dsimp only);simp only[Um,Uq];omega) (λx l=>?_);simp only[UB,UZ,Kv]at l;rcases l with rfl|rfl|rfl<;>exact⟨smS (by simp only[Um,Uq];omega),trivial,trivial,trivial,trivial⟩
 unfold ZaS;refine(ZE q 50).bind λR ⟨_,m⟩=>?_;refine(ZE m 80).bind λv ⟨_,H⟩=>?_;refine(ZE H 9).bind λw ⟨_,f⟩=>?_;refine(ZE f 9).bind λy ⟨_,i⟩=>?_;refine(Zl6 i e 1 2 0).bind λa0 ⟨W,j⟩=>?_;refine(Zl6 j 4 1 0 0).bind λA ⟨G,n⟩=>?_;refine(Zl6 n 5 1 0 0).bind λc ⟨d,I⟩=>?_;have h:∀x∈[a0.1,A.1,c.1],sm Zn7 x:=λx l=>by
  simp only[UB,UZ,Kv]at l;rcases l with rfl|rfl|rfl
  ·exact W
  ·exact G
  ·exact d
 split
 ·refine(Zl6 I 1 0 2 1).bind λp ⟨t,o⟩=>?_
  refine .guard (by simp only[Um,Uq];omega) (.ret ⟨⟨smS (by(try dsimp only);omega),trivial,g _ _,smL (by(try dsimp only);simp only[Ug,Um,Uq];omega) (Ze9 h t),smI (by simp),trivial,trivial,trivial⟩,o⟩)
 ·exact .ret ⟨⟨smS (by(try dsimp only);omega),trivial,g _ _,smL (by(try dsimp only);simp only[Um,Uq];omega) h,smI (by simp),trivial,trivial,trivial⟩,I⟩
theorem ZBE (q:Src s):Gets (Zil s) (λr=>(sm QW r.1/\(K9 r.1).length=8)/\Src r.2):=by
 unfold Zil;refine(Zkc q (by simp only[Um,Uq];omega) (by simp)).bind λR ⟨W,m⟩=>?_;refine(Zkc m (by simp only[Um,Uq];omega) (by simp)).bind λh ⟨G,d⟩=>?_;refine(Zkc d (by simp only[Um,Uq];omega) (by simp)).bind λn ⟨a,f⟩=>?_;refine(Zkc f (by simp only[Um,Uq];omega) (by simp)).bind λo ⟨t,g⟩=>?_;refine(Zkc g (by simp only[Um,Uq];omega) (by simp)).bind λp ⟨b,i⟩=>?_;refine(ZpL i (by simp only[Um,Uq];omega) 2 2).bind λv ⟨c,j⟩=>?_;refine(ZpL j (by simp only[Um,Uq];omega) 2 3).bind λw ⟨u,I⟩=>?_;refine(ZpL I (by simp only[Um,Uq];omega) 3 2).bind λy ⟨e,k⟩=>?_;refine .ret ⟨⟨⟨smL (by(try dsimp only);simp only[Um,Uq];omega) (λx l=>?_),trivial⟩,rfl⟩,k⟩;simp only[UB,UZ,Kv]at l;rcases l with rfl|rfl|rfl|rfl|rfl|rfl|rfl|rfl<;>assumption
def Zyi (x:Ze):Prop:=(∃r,Gv x=117::r/\r.length<=2)/\(2<=(K7 x).length/\(K7 x).length<=4)
def ZHA (s:List UInt8):Prop:=∃r,s=110::r/\r.length<=2
def Zyk (p:Z8):Prop:=(GQ p).length<=2
structure ZAV (d:Zb):Prop where
 n0:2<=(KY d).length
 n1:(KY d).length<=9
 inst:∀x∈KY d,Zyi x
 nl:(K1 d).length=(KY d).length+3
 net:∀s∈K1 d,ZHA s
 p0:4<=(Ga d).length
 p1:(Ga d).length<=5
 port:∀p∈Ga d,Zyk p
variable {most:Int}
theorem ZuZ (X:Src s) (T:1<=most) (U:most<=8) (d:Bool):Gets (Zin s most d) (λr=>ZAV r.1/\Src r.2):=by
 unfold Zin;have F:Wq (most-1)=most-1:=QR;rw[F];refine(ZE X _).bind λR ⟨⟨a0,a1⟩,K⟩=>?_;have e:Wq (2+R.1)=2+R.1:=QR;rw[e];have P:2<=2+R.1/\2+R.1<=9:=by omega
 generalize 2+R.1=N at P;refine Gets.loop (λv=>0<=v.2.2.1/\(v.1.length:Int)+v.2.2.1=N/\v.2.1.length=v.1.length+3/\(∀x∈v.1,Zyi x)/\(∀x∈v.2.1,ZHA x)/\Src (v.2.2.2.1,v.2.2.2.2.1,v.2.2.2.2.2.1,())) (λv=>v.2.2.1.toNat)
  ⟨by dsimp only;omega,by grind,rfl,λx b=>(by cases b),λx b=>?_,K⟩ ?_
 ·simp only[Uv,UB,UZ,Kv]at b
  rcases b with rfl|rfl|rfl
  ·exact⟨_,rfl,UO _⟩
  ·exact⟨_,rfl,by simp⟩
  ·exact⟨_,rfl,by simp⟩
 rintro⟨I,nets,n,c0,c1,c2,⟨⟩⟩ ⟨Z,i2,i3,y,g,A⟩;dsimp only at Z i2 i3 y g A;show Gets (ZfK d I nets n c0 c1 c2) _;unfold ZfK;split
 ·rename_i V
  refine(ZE A 12).bind λr ⟨⟨b0,b1⟩,H⟩=>?_;refine .at b0 (by simp only[Um,Uq];omega) λx b _=>?_;have t:0<=x/\x<=7:=by
   simp only[UB,UZ,Kv]at b;omega
  refine(ZsP (n:=(I.length:Int))).bind λL z=>?_;refine .guard (by grind) ?_;refine Gets.loop (λv=>0<=v.1/\v.1<=3/\(v.2.2.2.2.1.length:Int)=v.1/\Src (v.2.1,v.2.2.1,v.2.2.2.1,())) (λv=>(3-v.1).toNat) ⟨by dsimp only;omega,by dsimp only;omega,rfl,H⟩ ?_;rintro⟨p,D,j,m,l,⟨⟩⟩ ⟨j0,J,u,w⟩;dsimp only at j0 J u w;show Gets (ZfI I nets n x L p D j m l) _;unfold ZfI;refine .at t.1 (by grind) λk Q _=>?_;have S:2<=k/\k<=4:=by
   simp only[UB,UZ,Kv]at Q;omega
  have G:Wq (k-1)=k-1:=QR;have E:Wq (p+1)=p+1:=QR;have M:Wq (n-1)=n-1:=QR;simp only[G,E,M];split
  ·rename_i W
   refine(ZE w _).bind λC ⟨_,c⟩=>?_;refine(ZE c 3).bind λr3 ⟨_,O⟩=>?_;repeat' first
    |split
    |refine Gets.guard (by simp only[Ug,Um,Uq];omega) ?_
    |exact .ret ⟨⟨by dsimp only;omega,by dsimp only;omega,by grind,O⟩,by dsimp only;omega⟩
  ·refine .guard (by grind) ?_
   refine .guard (by grind) ?_;refine(ZsP (n:=(nets.length:Int))).bind λnn o=>?_;refine .guard (by grind) ?_;refine .guard (by grind) ?_;refine .guard (by grind) ?_;refine .ret ⟨⟨by dsimp only;omega,by grind,by grind,Ze9 y ⟨⟨L,rfl,z⟩,?_⟩,Ze9 g ⟨nn,rfl,o⟩,w⟩,by dsimp only;omega⟩;grind
 ·rename_i V
  refine Gets.loop (λv=>0<=v.1/\v.1<=9/\v.2.2.2.2.1.length=I.length/\(∀x∈v.2.2.2.2.1,Zyi x)/\Src (v.2.1,v.2.2.1,v.2.2.2.1,())) (λv=>(9-v.1).toNat) ⟨by dsimp only;omega,by dsimp only;omega,rfl,y,A⟩ ?_;rintro⟨p,D,j,m,l,⟨⟩⟩ ⟨j0,J,u,w,B⟩;dsimp only at j0 J u w B;show Gets (ZfJ d nets p D j m l) _;unfold ZfJ;have E:Wq (p+1)=p+1:=QR;simp only[E];split
  ·rename_i q
   refine(ZE B 4).bind λr ⟨_,H⟩=>?_;split
   ·refine .at j0 q λx b Y=>?_
    have h:=w x b;have st:∀v:Int,Gets ((Zl r.2 v).bind λi=>(atI x.snd.snd.fst (0:Int)).bind λx1=>some (.inl (p+1,i.snd.fst,i.snd.snd.fst,i.snd.snd.snd.fst,List.set l (Int.toNat p) (x.fst,x.snd.fst,List.set x.snd.snd.fst (Int.toNat (0:Int)) (Wq ((1:Int)+i.fst)),()),()):(Int×(List Int)×Int×Int×(List (List UInt8×Int×List Int×Unit))×Unit)⊕(((List Ze)×(List (List UInt8))×Int×(List Int)×Int×Int×Unit)⊕(Zb×Zk))))
      (Rnd (λv:Int×(List Int)×Int×Int×(List (List UInt8×Int×List Int×Unit))×Unit=>0<=v.1/\v.1<=9/\v.2.2.2.2.1.length=I.length/\(∀ x∈v.2.2.2.2.1,Zyi x)/\Src (v.2.1,v.2.2.1,v.2.2.2.1,())) (λv=>(9-v.1).toNat) (9-p).toNat
       (Rnd (λv:(List Ze)×(List (List UInt8))×Int×(List Int)×Int×Int×Unit=>0<=v.2.2.1/\(v.1.length:Int)+v.2.2.1=N/\v.2.1.length=v.1.length+3/\(∀ x∈v.1,Zyi x)/\(∀ x∈v.2.1,ZHA x)/\Src (v.2.2.2.1,v.2.2.2.2.1,v.2.2.2.2.2.1,())) (λv=>v.2.2.1.toNat) n.toNat (λr=>ZAV r.1/\Src r.2))):=λv=>by
     refine(ZE H v).bind λC ⟨_,c⟩=>?_;refine .at (by omega) (by have:=h.2.1;grind) λ_ _ _=>?_;refine .ret ⟨⟨by dsimp only;omega,by dsimp only;omega,by grind,Zr3 w ⟨h.1,?_⟩,c⟩,by dsimp only;omega⟩;show 2<=(List.set (K7 x) _ _).length/\(List.set (K7 x) _ _).length<=4;rw[UF];exact h.2
    repeat' first
     |exact st _
     |split
     |exact .ret ⟨⟨by dsimp only;omega,by dsimp only;omega,by grind,Zr3 w h,H⟩,by dsimp only;omega⟩
   ·exact .ret ⟨⟨by dsimp only;omega,by dsimp only;omega,u,w,H⟩,by dsimp only;omega⟩
  ·refine .guard (by grind) ?_
   refine(ZE B 2).bind λr ⟨_,H⟩=>?_;have f:∀a:Int,∀p∈(([]:List (List UInt8×Int×Int×Unit))++[([(99:UInt8),(107:UInt8)],(1:Int),(0:Int),()),([(97:UInt8)],(1:Int),(1:Int),()),([(98:UInt8)],(1:Int),(2:Int),())]++[([(121:UInt8)],(2:Int),a,())]),Zyk p:=λa p q=>by
    simp only[Uv,U4,UB,UZ,Kv]at q;unfold Zyk;grind
   split
   ·refine(ZE H _).bind λC ⟨_,c⟩=>?_
    refine .guard (by grind) ?_;refine .ret ⟨⟨?_,?_,w,?_,g,?_,?_,Ze9 (f _) (show 1<=2 by omega)⟩,c⟩;all_goals grind
   ·refine .ret ⟨⟨?_,?_,w,?_,g,?_,?_,f _⟩,H⟩
    all_goals grind
variable {d:Zb}
theorem ZAV.few (h:ZAV d):Few d:=⟨by have:=h.n1;omega,by have:=h.p1;omega,λx l=>by have:=(h.inst x l).2.2;omega⟩
theorem ZAV.sm (h:ZAV d):sm Y8 d:=by
 have:=h.n1;have:=h.p1;have:=h.nl;refine⟨smL (by grind) (λx l=>?_),smL (by grind) (λx l=>?_),smL (by grind) (λx l=>?_),trivial⟩
 ·obtain⟨⟨r,e,F⟩,f⟩:=h.inst x l
  refine⟨smS ?_,trivial,smI ?_,trivial⟩;all_goals grind
 ·obtain⟨r,e,F⟩:=h.net x l
  refine smS ?_;grind
 ·have:=h.port x l
  unfold Zyk at this;exact⟨smS (by grind),trivial,trivial,trivial⟩
def Zyo (w:Zq):Prop:=(1<=(K3 w).length/\(K3 w).length<=4)/\(Gx w).length=(K3 w).length/\(GD w).length=(K3 w).length/\(Gm w).length<=100
variable {w:Zq}
theorem Zyo.sm (h:Zyo w):sm ZcR w:=by
 obtain⟨d,f,g,i⟩:=h;exact⟨smI (by grind),smI (by grind),smI (by grind),smI (by grind),trivial⟩
theorem Zsx (l:List Int) (h:l.length<=1048576:=by omega):Y3 l=some l:=by
 have f:((([]:List Int).length+l.length)*8<=140737488355328):=by grind
 unfold Y3;first
  |(rw[Zi f,Uv])
  |(rw[Zi f];rfl)
  |rfl
variable {k:Int}
theorem ZuE (o:Src s) (C:0<=k:=by omega) (F:k<=100:=by omega):Gets (QV s k) (λr=>Zyo r.1/\Src r.2):=by
 unfold QV;refine(ZE o 6).bind λR ⟨_,W⟩=>?_;have q:Zab k R.1=some ([(-1:Int)],[(0:Int)],[R.1],List.replicate (Int.toNat k) (0:Int),()):=by
  unfold Zab;rw[Ra,Ra,Ra,Ra]
 rw[q,Bq];refine(ZE W 4).bind λz ⟨⟨a,b⟩,G⟩=>?_;refine Gets.loop (λv=>0<=v.1/\(v.2.2.2.2.1.length:Int)+v.1=1+z.1/\1<=v.2.2.2.2.1.length/\v.2.2.2.2.2.1.length=v.2.2.2.2.1.length/\v.2.2.2.2.2.2.1.length=v.2.2.2.2.1.length/\v.2.2.2.2.2.2.2.1.length<=100/\Src (v.2.1,v.2.2.1,v.2.2.2.1,())) (λv=>v.1.toNat)
  ⟨a,by grind,UO _,rfl,rfl,by grind,G⟩ ?_
 rintro⟨n,c0,c1,c2,L,j,c,S,⟨⟩⟩ ⟨t,u,x,i,I,g,A⟩;dsimp only at t u x i I g A;show Gets (ZcO n c0 c1 c2 L j c S) _;unfold ZcO;have M:Wq (n-1)=n-1:=QR;simp only[M];split
 ·rw[Zsx L,Bq,Zsx j,Zsx c]
  refine(ZE A _).bind λB ⟨_,f⟩=>?_;refine .guard (by grind) ?_;rw[Bq];refine(ZE f _).bind λK ⟨_,h⟩=>?_;refine .guard (by grind) ?_;rw[Bq];refine(ZE h _).bind λN ⟨_,H⟩=>?_;refine .guard (by grind) ?_;refine .ret ⟨⟨by dsimp only;omega,?_,?_,?_,?_,g,H⟩,by dsimp only;omega⟩;all_goals grind
 ·refine Gets.loop (λv=>0<=v.1/\v.1<=100/\v.2.2.2.2.1.length=S.length/\Src (v.2.1,v.2.2.1,v.2.2.2.1,())) (λv=>(100-v.1).toNat) ⟨by dsimp only;omega,by dsimp only;omega,rfl,A⟩ ?_
  rintro⟨p,D,d,e,l,⟨⟩⟩ ⟨j0,J,y,w⟩;dsimp only at j0 J y w;show Gets (ZcN L j c p D d e l) _;unfold ZcN;have E:Wq (p+1)=p+1:=QR;simp only[E];split
  ·rename_i m
   refine(ZE w _).bind λB ⟨_,f⟩=>?_;refine .at j0 m λ_ _ _=>?_;exact .ret ⟨⟨by dsimp only;omega,by dsimp only;omega,by grind,f⟩,by dsimp only;omega⟩
  ·refine .ret ⟨⟨⟨?_,?_⟩,i,I,?_⟩,w⟩
   all_goals grind
structure ZFr (b:Za):Prop where
 lib:sm QW (K4 b)
 des:ZAV (KX b)
 wl:(KZ b).length=(K1 (KX b)).length
 wires:∀w∈KZ b,Zyo w
theorem ZFr.sm {b:Za} (h:ZFr b):sm Yg b:=by
 have:=h.wl;have:=h.des.nl;have:=h.des.n1;exact⟨h.lib,h.des.sm,smL (by grind) (λw c=>(h.wires w c).sm),trivial⟩
theorem ZmX (e:Src s) (t:1<=most) (b:most<=8) (d:Bool):Gets (Zaa s most d) (λr=>ZFr r.1/\Src r.2):=by
 unfold Zaa;refine(ZBE e).bind λR ⟨q,m⟩=>?_;refine(ZuZ m t b d).bind λa ⟨N,h⟩=>?_;have l:=N.nl;have K:=N.n1;refine Gets.loop (λv=>0<=v.2.1/\v.2.1<=((K1 a.1).length:Int)/\(v.1.length:Int)=v.2.1/\(∀w∈v.1,Zyo w)/\Src (v.2.2.1,v.2.2.2.1,v.2.2.2.2.1,())) (λv=>(100-v.2.1).toNat)
  ⟨by dsimp only;omega,by dsimp only;omega,rfl,λw c=>(by cases c),h⟩ ?_
 rintro⟨ws,n,c0,c1,c2,⟨⟩⟩ ⟨j,o,p,i,I⟩;dsimp only at j o p i I;show Gets (ZfM R a ws n c0 c1 c2) _;unfold ZfM;have M:Wq (n+1)=n+1:=QR;simp only[M];split
 ·rename_i f
  have f:n<((K1 a.1).length:Int):=f;rw[Xb a.1 n N.few,Bq];have g:(sinks a.1 n).length<=78:=Kl (Zat n (places a.1) 0) (ZT N.few);refine(ZuE I (k:=((sinks a.1 n).length:Int))).bind λr ⟨c,H⟩=>?_;refine .guard (by grind) (.ret ⟨⟨by dsimp only;omega,by dsimp only;omega,?_,Ze9 i c,H⟩,by dsimp only;omega⟩);grind
 ·rename_i f
  have f:¬n<((K1 a.1).length:Int):=f;refine .ret ⟨⟨q.1,N,?_,i⟩,I⟩;grind
def DN (d:Zb):Prop:=(K1 d).length=(Vu d).length+3/\(∃r,(Vu d)[0]?=some (117::r))/\∃r,(K1 d)[3]?=some (110::r)
theorem ZAV.dn (h:ZAV d):DN d:=by
 have f:=h.n0;have l:=Ua (show 0<(KY d).length by omega);generalize (KY d)[0]=x at l;have q:=Ua (show 3<(K1 d).length by have:=h.nl;omega);generalize (K1 d)[3]'(by have:=h.nl;omega)=s at q;obtain⟨⟨r,e,_⟩,_⟩:=h.inst x (Ud l);obtain⟨b,i,_⟩:=h.net s (Ud q);refine⟨by unfold Vu;rw[U1];exact h.nl,⟨r,?_⟩,⟨b,by rw[q,i]⟩⟩;unfold Vu;grind
theorem ZEc {D:Zb} (h:DN d) (H:Vu D=Vu d) (f:K1 D=K1 d):DN D:=by
 unfold DN;rw[H,f];exact h
theorem ZAZ {b:Za} {e:Zg} (h:JV b e) (H:sm Qh e) (N:DN (KX b)) {r:Za} (F:ZK e b=some r):DN (KX r):=by
 have j:=h.blk;by_cases n:K2 e=1
 ·obtain⟨p,x,c,c2,g,A,_,a,_⟩:=h.poss.1 n
  have J:(KY (KX b))[p.1.toNat]?=some x:=by
   unfold atI at a;grind
  rw[app1 j n g A J]at F;injection F with F
  subst F;refine ZEc N ?_ ?_
  ·unfold swapped
   rw[J];show List.map Gv (List.set _ _ _)=_;rw[List.map_set];exact Zci (by grind)
  ·unfold swapped
   rw[J]
 by_cases q:K2 e=2
 ·obtain⟨p,c,g,u,_⟩:=h.poss.2.1 q
  rw[app2 h q (ZjR H).1 g u]at F;injection F with F
  subst F;obtain⟨y,⟨t,D⟩,⟨v,d⟩⟩:=N;have E:Vu (Zpx b e p)=Vu (KX b)++[Gi e]:=by
   show List.map Gv (KY (conn (KX b) p.1 p.2.1 _)++[Zlc b e p])=_;rw[U8];exact US (·++[Gi e]) (Zjb (KX b) p.1 p.2.1 _)
  have i:K1 (Zpx b e p)=K1 (KX b)++[Gi e]:=by
   show K1 (conn (KX b) p.1 p.2.1 _)++[Gi e]=_;rw[Qv]
  have M:=(Ub.1 D).1;have O:=(Ub.1 d).1;show DN (Zpx b e p);unfold DN;grind
 by_cases R:K2 e=3
 ·have o:=h.poss.2.2.1 R
  obtain⟨k,p,m,_,_,_,_,C⟩:=app3 j o R;rw[C]at F;injection F with F
  subst F;obtain⟨x,c,w,P,f,a,_,_,_,_,_,_,_,z,_⟩:=o;obtain⟨y,⟨t,D⟩,⟨v,d⟩⟩:=N;have G:(Vu (KX b)).length=(KY (KX b)).length:=U1 ..;have B:(K1 (KX b))[(K1 (KX b)).length-1]?=some (Gv x):=by
   have T:Int.toNat (((K1 (KX b)).length:Int)-1)=(K1 (KX b)).length-1:=by omega
   unfold atI at z;grind
  have I:(Vu (KX b))[(KY (KX b)).length-1]?=some (Gv x):=by
   show(List.map Gv _)[_]?=_;grind
  have L:2<=(KY (KX b)).length:=by
   grind
  have E:Vu (unD b p m)=(Vu (KX b)).take ((KY (KX b)).length-1):=by
   have:=Zjb (KX b) p.1 p.2.1 m;show List.map Gv ((KY (conn (KX b) p.1 p.2.1 m)).take _)=_;rw[List.map_take,Xh];exact US (λl=>List.take ((KY (KX b)).length-1) l) this
  have i:K1 (unD b p m)=(K1 (KX b)).take ((K1 (KX b)).length-1):=by
   show(K1 (conn (KX b) p.1 p.2.1 m)).take _=_;rw[Qv]
  show DN (unD b p m);unfold DN;rw[E,i];refine⟨by grind,⟨t,?_⟩,⟨v,?_⟩⟩;all_goals grind
 by_cases K:K2 e=4
 ·obtain⟨p,g,u,_⟩:=h.poss.2.2.2.1 K
  obtain⟨_,f,_⟩:=h.range.2.1 K;rw[app4 j K g u f]at F;injection F with F
  subst F;exact ZEc N (Zjb _ _ _ _) Qv
 ·have s:K2 e=5:=by have:=h.blank;unfold Blank at this;omega
  rw[ZHD j s (h.range.2.2 s) (ZjR H).2]at F;injection F with F
  subst F;exact N
def ZuH (b:Za):Prop:=sm Yg b/\(Zis b->KZ b≠[]->DN (KX b))
theorem DN.insts (h:DN d):1<=(KY d).length:=by
 obtain⟨_,⟨r,e⟩,_⟩:=h;have:=(Ub.1 e).1;unfold Vu at this;grind
theorem Zy6 (f:Few d) (i p:Int):Gets (Jr d i p) (λ_=>True):=by
 have q:=ZT f;unfold Jr;rw[ZN d f,Bq];refine Gets.loop (λv=>0<=v.1/\v.1<=100) (λv=>(100-v.1).toNat) ⟨U6 _,by dsimp only;omega⟩ ?_;rintro⟨k,⟨⟩⟩ ⟨I,j⟩;dsimp only at I j;show Gets (Zbe i p (places d) k) _;unfold Zbe;split
 ·rename_i H
  have H:k<((places d).length:Int):=H;have G:Wq (k+1)=k+1:=QR;simp only[G];refine .at I H λx _ _=>?_;repeat' first
   |exact Gets.ret (show Rnd _ _ _ (λ_=>True) (.inr _)from trivial)
   |exact .ret ⟨⟨by dsimp only;omega,by dsimp only;omega⟩,by dsimp only;omega⟩
   |split
 ·exact Gets.ret (show Rnd _ _ _ (λ_=>True) (.inr _)from trivial)
theorem Zum (q:Src s) {b:Za} (f:Few (KX b)) (e:1<=(places (KX b)).length):Gets (Xq s b) (λr=>Src r.2):=by
 have p:=ZT f;unfold Xq;rw[ZN _ f,Bq];refine (ZE q _).bind λR ⟨⟨a0,A⟩,m⟩=>?_;refine Gets.loop (λv=>(0<=v.1/\v.1<((places (KX b)).length:Int))/\0<=v.2.1/\v.2.1<=100) (λv=>(100-v.2.1).toNat) ⟨⟨a0,by dsimp only;omega⟩,by dsimp only;omega,by dsimp only;omega⟩ ?_;rintro ⟨k,i,⟨⟩⟩ ⟨⟨a,c⟩,I,j⟩;dsimp only at a c I j;have M:∀ K:Int,Gets ((Zl R.snd (12:Int)).bind λg =>
   if g.fst=(0:Int)then
    (Zl g.snd (Wq ((↑(List.length (places (KX b))):Int)+(2:Int)))).bind λl =>
    some (.inr (Wq (l.fst-(1:Int)),l.snd))
   else
    some (.inr (K,g.snd):(Int×Int×Unit) ⊕ (Int×Zk)))
   (Rnd (λv:Int×Int×Unit=>(0<=v.1/\v.1<((places (KX b)).length:Int))/\0<=v.2.1/\v.2.1<=100) (λv=>(100-v.2.1).toNat) (100-i).toNat (λr=>Src r.2)):=λK=>by
  refine(ZE m 12).bind λn ⟨_,d⟩=>?_;split
  ·refine(ZE d _).bind λo ⟨_,H⟩=>?_
   exact .ret (show Src o.2 from H)
  ·exact .ret (show Src n.2 from d)
 show Gets (ZcP (places (KX b)) R k i) _;unfold ZcP;split
 ·rename_i h
  have h:i<((places (KX b)).length:Int):=h;refine .at a c λx _ _=>?_;split
  ·have G:Wq (k+1)=k+1:=QR
   have C:Wq (i+1)=i+1:=QR;rw[G,C];refine .guard (by grind) (.ret ⟨⟨⟨Ky _ (by omega),Kq _ (by omega)⟩,by dsimp only;omega,by dsimp only;omega⟩,by dsimp only;omega⟩)
  ·exact M k
 ·exact M k
noncomputable def tl (b:Za) (P:List ZC) (k p c n d:Int) (L:List UInt8) (w:Zq) (s:Zk):Option (Zg×Zk) :=
 (Zl s (30:Int)).bind λr =>
 if r.fst=(0:Int)then
  (Zl r.snd (7:Int)).bind λR=>some ((R.fst,p,c,n,d,L,w,()),R.snd)
 else
  if r.fst=(1:Int)then
   (Zl r.snd (10:Int)).bind λR=>some ((k,p,Wq (R.fst-(1:Int)),n,d,L,w,()),R.snd)
  else
   if r.fst=(2:Int)then
    (Zl r.snd (Wq ((↑(List.length (KZ b)):Int)+(2:Int)))).bind λR=>some ((k,p,c,Wq (R.fst-(1:Int)),d,L,w,()),R.snd)
   else
    if r.fst=(3:Int)then
     (Zl r.snd (Wq ((↑(List.length P):Int)+(2:Int)))).bind λR=>some ((k,Wq (R.fst-(1:Int)),c,n,d,L,w,()),R.snd)
    else
     if r.fst=(4:Int)then
      some ((k,p,c,n,d,[(66:UInt8),(97:UInt8),(100:UInt8)],w,()),r.snd)
     else
      some ((k,p,c,n,d,L,w,()),r.snd)
abbrev ZC5 (r:Zg×Zk):Prop:=sm Qh r.1/\Src r.2
theorem ZqM {b:Za} {P:List ZC} {p c n d:Int} (q:Src s) (a:L.length<=10) (g:sm ZcR w):Gets (tl b P k p c n d L w s) ZC5:=by
 have e:∀(k p c n d:Int) (L:List UInt8),L.length<=10->sm Qh ((k,p,c,n,d,L,w,()):Zg):=λk p c n d L h=>⟨trivial,trivial,trivial,trivial,trivial,smS (by dsimp only;omega),g,trivial⟩;unfold tl;refine(ZE q 30).bind λr ⟨_,H⟩=>?_;split
 ·exact(ZE H _).bind λR ⟨_,f⟩=>.ret ⟨e _ _ _ _ _ _ a,f⟩
 split
 ·exact(ZE H _).bind λR ⟨_,f⟩=>.ret ⟨e _ _ _ _ _ _ a,f⟩
 split
 ·exact(ZE H _).bind λR ⟨_,f⟩=>.ret ⟨e _ _ _ _ _ _ a,f⟩
 split
 ·exact(ZE H _).bind λR ⟨_,f⟩=>.ret ⟨e _ _ _ _ _ _ a,f⟩
 split
 ·exact .ret ⟨e _ _ _ _ _ _ (by show 3<=10;omega),H⟩
 ·exact .ret ⟨e _ _ _ _ _ _ a,H⟩
abbrev ZF5:Zq:=(([]:List Int),([]:List Int),([]:List Int),([]:List Int),())
theorem ZqB:sm ZcR ZF5:=ZAl
noncomputable def kd1 (b:Za) (P:List ZC) (s:Zk):Option (Zg×Zk) :=
 (Zl s (↑(List.length (KY (KX b))):Int)).bind λg =>
 (atI (KY (KX b)) g.fst).bind λX =>
 (Jr (KX b) g.fst (Wq ((↑(List.length (K7 X)):Int)-(1:Int)))).bind λl =>
 (atI ([(1:Int),(0:Int),(3:Int),(2:Int),(4:Int),(6:Int),(5:Int),(7:Int)]) (Int.tmod (Gq X) (8:Int))).bind λx =>
 tl b P 1 l x 0 0 [] ZF5 g.snd
noncomputable def kd2 (b:Za) (P:List ZC) (s:Zk):Option (Zg×Zk) :=
 (Xq s b).bind λl =>
 (Zl l.snd (2:Int)).bind λg =>
 (Zl g.snd (3:Int)).bind λi =>
 (Vh i.fst).bind λL =>
 Zt ((↑(List.length [(120:UInt8)]):Int)+(↑(List.length L):Int)<=(9223372036854775807:Int)) <|
 tl b P 2 l.fst g.fst 0 0 ([(120:UInt8)]++L) ZF5 i.snd
noncomputable def kd4 (b:Za) (P:List ZC) (s:Zk):Option (Zg×Zk) :=
 (Xq s b).bind λl =>
 (Zl l.snd (↑(List.length (KZ b)):Int)).bind λg =>
 (atI (KZ b) g.fst).bind λX =>
 (Zl g.snd (↑(List.length (K3 X)):Int)).bind λi =>
 tl b P 4 l.fst 0 g.fst i.fst [] ZF5 i.snd
noncomputable def kd5 (b:Za) (P:List ZC) (s:Zk):Option (Zg×Zk) :=
 (Zl s (↑(List.length (KZ b)):Int)).bind λg =>
 (Xg (KX b) g.fst).bind λL =>
 (QV g.snd (↑(List.length L):Int)).bind λl =>
 tl b P 5 0 0 g.fst 0 [] l.fst l.snd
theorem ZpE (i:Src s) {b:Za} (B:ZuH b):Gets (Zb4 s b) ZC5:=by
 obtain⟨V,C⟩:=B;unfold Zb4;rw[XO b V,Bq];have u:Gets (some (((3:Int),(0:Int),(0:Int),(0:Int),(0:Int),([]:List UInt8),(([]:List Int),([]:List Int),([]:List Int),([]:List Int),()),()),s)) ZC5 :=
  .ret ⟨⟨trivial,trivial,trivial,trivial,trivial,smS (by simp),ZqB,trivial⟩,i⟩
 refine Gets.ite (λj=>?_) (λ_=>u);have j:Z4 b:=⟨(YL _).1 j,V⟩;refine Gets.ite (λ_=>u) (λw=>?_);have e:=j.ok.1.few;have I:1<=(KZ b).length:=by omega
 have z:=C j.ok (by grind);have K:=z.insts;have g:1<=(places (KX b)).length:=by
  have l:=Ua (show 0<(KY (KX b)).length by omega);generalize (KY (KX b))[0]=x at l;obtain⟨_,⟨c,q,L⟩,_⟩:=j.ok.1.2.2.1 x (Ud l);have q:(K9 (K4 b))[(Gq x).toNat]?=some c:=q;have H:2<=(K5 c).length:=(j.ok.1.1.2.1 c (Ud q)).2.1.1;have D:=Ua (show 0<(K7 x).length by omega);have:=(Ub.1 (Zb1 l D)).1;omega
 rw[ZN _ e,Bq];have G:∀S,Src S->Gets (kd1 b (places (KX b)) S) ZC5:=λS h=>by
  unfold kd1;refine(ZE h _).bind λR ⟨⟨a0,A⟩,d⟩=>?_;refine .at a0 (by omega) λx l _=>?_;obtain⟨⟨c0,_⟩,_⟩:=j.ok.1.2.2.1 x l;refine(Zy6 e _ _).bind λf _=>?_;have t0:=Ky (a:=Gq x) 8 c0;have T:=Kq (Gq x) (show(0:Int)<8 by omega);refine .at t0 (by grind) λy _ _=>?_;exact ZqM d (by simp) ZqB
 have o:∀S,Src S->Gets (kd2 b (places (KX b)) S) ZC5:=λS h=>by
  unfold kd2;refine(Zum h e g).bind λJ m=>?_;refine(ZE m 2).bind λR ⟨_,d⟩=>?_;refine(ZE d 3).bind λn ⟨⟨a0,A⟩,H⟩=>?_;refine(ZsP a0).bind λN E=>?_;refine .guard (by grind) ?_;exact ZqM H (by grind) ZqB
 have t:∀S,Src S->Gets (tl b (places (KX b)) 3 0 0 0 0 [] ZF5 S) ZC5:=λS h=>ZqM h (by simp) ZqB;have p:∀S,Src S->Gets (kd4 b (places (KX b)) S) ZC5:=λS h=>by
  unfold kd4;refine(Zum h e g).bind λJ m=>?_;refine(ZE m _).bind λR ⟨⟨a0,A⟩,d⟩=>?_;refine .at a0 (by omega) λx l _=>?_;refine(ZE d _).bind λn ⟨_,H⟩=>?_;exact ZqM H (by simp) ZqB
 have v:∀S,Src S->Gets (kd5 b (places (KX b)) S) ZC5:=λS h=>by
  unfold kd5;refine(ZE h _).bind λR ⟨_,d⟩=>?_;rw[Xb _ _ e,Bq];have F:(sinks (KX b) R.1).length<=78:=Kl (Zat R.1 (places (KX b)) 0) (ZT e);refine(ZuE d (k:=((sinks (KX b) R.1).length:Int))).bind λn ⟨w,H⟩=>?_;exact ZqM H (by simp) w.sm
 refine(ZE i 8).bind λr ⟨_,d⟩=>?_;repeat' first
  |exact G _ d
  |exact o _ d
  |exact t _ d
  |exact p _ d
  |exact v _ d
  |refine Gets.ite (λ_=>?_) (λ_=>?_)
theorem JV.net {b:Za} {e:Zg} (h:JV b e):1<=(K1 (KX b)).length:=by
 have j:=h.blk;have a:∀{n:Int},ZbE (KX b) n->1<=(K1 (KX b)).length:=λ{n} f=>by
  have:=f.1;have:=f.2;omega
 by_cases d:K2 e=1
 ·obtain⟨p,x,c,c2,g,_⟩:=h.poss.1 d
  exact a (Qe j.ok.1 g.mem)
 by_cases k:K2 e=2
 ·obtain⟨p,c,g,_⟩:=h.poss.2.1 k
  exact a (Qe j.ok.1 g.mem)
 by_cases K:K2 e=3
 ·obtain⟨x,c,w,m,f,l,_,_,_,_,R,_⟩:=h.poss.2.2.1 K
  obtain⟨_,_,t⟩:=j.ok.1.2.2.1 x (Ud l);exact a (t m (Ud (show(K7 x)[0]?=some m from R)))
 by_cases i:K2 e=4
 ·obtain⟨p,g,_⟩:=h.poss.2.2.2.1 i
  exact a (Qe j.ok.1 g.mem)
 ·have o:K2 e=5:=by have:=h.blank;unfold Blank at this;omega
  exact a (h.range.2.2 o)
theorem Zr8:ZuH Zvr:=⟨ZxX,λ_ h=>absurd rfl h⟩
theorem ZqE (b:Za) (e:Zg) (H:ZuH b) (m:sm Qh e):Gets (Zbq b e) (λr=>ZuH r.1):=by
 obtain⟨c,f,g⟩:=ZvJ b e H.1 m;unfold Zbq;rw[f,Bq];by_cases h:c=0
 ·have z:=g h
  obtain⟨r,a,A,j,_⟩:=Zv3 z m;rw[Uc h,A,Bq];have w:=z.blk.ok.2.1;have n:=z.net;exact .ret ⟨j.sm,λ_ _=>ZAZ z m (H.2 z.blk.ok (by intro q;rw[q]at w;simp only[Uq]at w;omega)) a⟩
 ·rw[Ue h]
  exact .ret Zr8
theorem Zxo (a:Src s) {b:Za} (h:ZuH b) (k:0<=most:=by omega) (o:most<=10:=by omega):Gets (ZdK s b most) (λr=>(r.1.length<=10/\∀e∈r.1,sm Qh e)/\Src r.2):=by
 unfold ZdK;rw[QR (n:=most+1)];refine(ZE a _).bind λt ⟨⟨a0,A⟩,W⟩=>?_;refine Gets.loop (λv=>0<=v.2.1/\v.2.1<=10/\(v.1.length:Int)+v.2.1<=10/\(∀e∈v.1,sm Qh e)/\Src (v.2.2.1,v.2.2.2.1,v.2.2.2.2.1,())/\ZuH ((v.2.2.2.2.2.1,()),(v.2.2.2.2.2.2.1,v.2.2.2.2.2.2.2.1,v.2.2.2.2.2.2.2.2.1,()),v.2.2.2.2.2.2.2.2.2.1,())) (λv=>v.2.1.toNat)
  ⟨a0,by dsimp only;omega,by dsimp only[List.length_nil];omega,λx l=>(by cases l),W,h⟩ ?_
 rintro⟨out,n,c0,c1,c2,R,U,P,S,C,⟨⟩⟩ ⟨c,j,d,i,I,g⟩;dsimp only at c j d i I g;show Gets (Zcn out n c0 c1 c2 R U P S C) _;unfold Zcn;have M:Wq (n-1)=n-1:=QR;rw[M];refine Gets.ite (λp=>?_) (λ_=>?_)
 ·refine(ZpE I g).bind λr ⟨m,f⟩=>?_
  refine(ZqE _ _ g m).bind λq H=>?_;refine Gets.ite (λ_=>?_) (λ_=>?_)
  ·exact .guard (by simp only[Um,Uq];omega) (.ret ⟨⟨by dsimp only;omega,by dsimp only;omega,by dsimp only;simp only[Ug,Um,Uq];omega,Ze9 i m,f,H⟩,by dsimp only;omega⟩)
  ·exact .ret ⟨⟨by dsimp only;omega,by dsimp only;omega,by dsimp only;omega,i,f,g⟩,by dsimp only;omega⟩
 ·exact .ret (show(out.length<=10/\∀e∈out,sm Qh e)/\Src (c0,c1,c2,())from⟨⟨by omega,i⟩,I⟩)
theorem Zpv {b:Za} (h:ZuH b) {l:List Zg} (g:∀e∈l,sm Qh e):Gets (Zfx b l) (λr=>ZuH r.1):=by
 unfold Zfx;rw[XO b h.1,Bq];refine Gets.ite (λ_=>Gets.ite (λ_=>.ret Zr8) (λH=>?_)) (λ_=>.ret Zr8);rw[ZqI b h.1,Bq];refine Gets.loop (λv=>0<=v.1/\v.1<=20/\ZuH ((v.2.2.2.2.2.2.1,()),(v.2.2.2.2.2.2.2.1,v.2.2.2.2.2.2.2.2.1,v.2.2.2.2.2.2.2.2.2.1,()),v.2.2.2.2.2.2.2.2.2.2.1,())) (λv=>(20-v.1).toNat)
  ⟨U6 _,by dsimp only;omega,h⟩ ?_
 rintro⟨i,c0,c1,c2,R,U,P,S,C,c,d,⟨⟩⟩ ⟨a,k,I⟩;dsimp only at a k I;show Gets (Zdh l i c0 c1 c2 R U P S C c d) _;unfold Zdh;have M:Wq (i+1)=i+1:=QR;rw[M];refine Gets.ite (λf=>?_) (λ_=>.ret (show ZuH _ from I));refine .at a f λe m _=>?_;refine(ZqE _ _ I (g e m)).bind λq j=>?_;refine Gets.ite (λ_=>?_) (λ_=>.ret (show ZuH _ from Zr8));exact .ret ⟨⟨by dsimp only;omega,by dsimp only;omega,j⟩,by dsimp only;omega⟩
theorem Zxb (q:Src s):Gets (ZfL s) (λr=>(ZuH r.1/\Few (KX r.1))/\Src r.2):=by
 unfold ZfL;refine(ZE q 3).bind λD ⟨_,m⟩=>?_;refine(ZmX m (most:=6) (by omega) (by omega) _).bind λa ⟨H,h⟩=>?_;obtain⟨l,bd,B,b⟩:=H;have C:=bd.dn;have j:=bd.nl;have e:=bd.n0;have K:=bd.n1;have o:5<=(KZ a.1).length/\(KZ a.1).length<=12:=by omega
 refine(ZE h _).bind λR ⟨⟨a0,A⟩,f⟩=>?_;have A:R.1<((KZ a.1).length:Int):=by
  have A:R.1<((KZ a.1).length:Int)\/R.1=0:=A;omega
 refine(ZE f 20).bind λF ⟨_,g⟩=>?_;have d:∀w∈KZ a.1,sm ZcR w:=λw c=>(b w c).sm;have S:∀(w:Zq),sm ZcR w->sm (.sl ZcR) (List.set (KZ a.1) (Int.toNat R.1) w):=λw c=>smL (by rw[UF];omega) (Zr3 d c);have M:∀(ws:List Zq) (t:Zk),sm (.sl ZcR) ws->Src t->Gets (some ((a.1.1,a.1.2.1,ws,()),t)) (λr:Za×Zk=>(ZuH r.1/\Few (KX r.1))/\Src r.2):=λws t c n =>
  .ret ⟨⟨⟨Ze0 l bd.sm c,λ_ _=>C⟩,bd.few⟩,n⟩
 refine Gets.ite (λ_=>?_) (λ_=>?_)
 ·refine .guard (by show(1:Int)<=((KZ a.1).length:Int);omega) (.guard (U6 _) ?_)
  refine M _ _ (smL ?_ (λw c=>d w ?_)) g
  ·show(List.take _ (List.drop _ (KZ a.1))).length<=_
   rw[Uj,UX];omega
  ·exact List.mem_of_mem_drop (KI c)
 refine Gets.ite (λ_=>?_) (λ_=>?_)
 ·refine .at a0 A λw c _=>?_
  obtain⟨⟨w1,w2⟩,w3,w4,w5⟩:=b w c;have w5:(w.snd.snd.snd.fst).length<=100:=w5;rw[Zsx _,Bq];refine .guard (by simp only[Um,Uq];omega) (M _ _ (S _ ?_) g);refine ZiZ (by show(K3 w).length<=_;omega) (by show(Gx w).length<=_;omega) (by show(GD w).length<=_;omega) ?_;rw[Ug];simp only[Um,Uq];omega
 refine Gets.ite (λ_=>?_) (λ_=>?_)
 ·refine .at a0 A λw c _=>?_
  obtain⟨⟨w1,w2⟩,w3,w4,w5⟩:=b w c;refine .at (by omega) (by show(0:Int)<((Gx w).length:Int);omega) λ_ _ _=>M _ _ (S _ ?_) g;refine ZiZ (by show(K3 w).length<=_;omega) (by show(List.set (Gx w) _ _).length<=_;rw[UF];omega) (by show(GD w).length<=_;omega) (by show(Gm w).length<=_;omega)
 refine Gets.ite (λ_=>?_) (λ_=>?_)
 ·refine .at a0 A λw c _=>?_
  obtain⟨⟨w1,w2⟩,w3,w4,w5⟩:=b w c;refine(ZE g 3).bind λv ⟨⟨b0,U⟩,i⟩=>?_;refine .at b0 (by simp only[Um,Uq];omega) λ_ _ _=>?_;refine .at (by omega) (by show(0:Int)<((GD w).length:Int);omega) λ_ _ _=>M _ _ (S _ ?_) i;refine ZiZ (by show(K3 w).length<=_;omega) (by show(Gx w).length<=_;omega) (by show(List.set (GD w) _ _).length<=_;rw[UF];omega) (by show(Gm w).length<=_;omega)
 refine Gets.ite (λ_=>?_) (λ_=>?_)
 ·refine .at a0 A λw c _=>?_
  obtain⟨⟨w1,w2⟩,w3,w4,w5⟩:=b w c;refine(ZE g 5).bind λv ⟨_,i⟩=>?_;have E:Wq (((K3 w).length:Int)-1)=((K3 w).length:Int)-1:=QR;refine .at (by show(0:Int)<=Wq (((K3 w).length:Int)-1);omega) (by show Wq (((K3 w).length:Int)-1)<((K3 w).length:Int);omega) λ_ _ _=>M _ _ (S _ ?_) i;refine ZiZ (by show(List.set (K3 w) _ _).length<=_;rw[UF];omega) (by show(Gx w).length<=_;omega) (by show(GD w).length<=_;omega) (by show(Gm w).length<=_;omega)
 refine Gets.ite (λ_=>?_) (λ_=>?_)
 ·refine .at (by omega) (by show(0:Int)<((Ga (KX a.1)).length:Int);have:=bd.p0;omega) λp k _=>?_
  obtain⟨x,y,z⟩:=Zck bd.sm;have u:=bd.port p k;unfold Zyk at u;refine .ret ⟨⟨⟨Ze0 l (Zgb x z ?_) (smL (by show(KZ a.1).length<=_;omega) d),λ_ _=>ZEc C rfl rfl⟩,⟨bd.few.insts,by show(List.set (Ga (KX a.1)) _ _).length<=_;rw[UF];exact bd.few.ports,bd.few.nets⟩⟩,g⟩;refine smL (by show(List.set (Ga (KX a.1)) _ _).length<=_;rw[UF];have:=bd.p1;omega) (Zr3 y.2 ⟨smS (by show(GQ p).length<=_;omega),trivial,trivial,trivial⟩)
 ·exact M _ _ (smL (by show(KZ a.1).length<=_;omega) d) g
theorem Zli {b:Za} {e:Zg} (h:JV b e) (m:sm Qh e) {r:Za} (F:ZK e b=some r):Vl b e=some 0/\J7 b e=some (r,0):=by
 have E:Vl b e=some 0:=by
  unfold Vl;rw[Zc7 b h.blk.sm,Bq,Uc (ZX h.blk.ok),(Zse h m).1];rfl
 refine⟨E,?_⟩;unfold J7;rw[E,Bq,Uc rfl,F];rfl
theorem bytesD (b:bnd (.sl (.int .u8)) code):∀x∈code,0<=x/\x<=255:=λx l=>b.2 x l
def Live (L:List Zp) (v:List Bool) (a c:Int):Prop:=∃(k:Nat) (l:Zp),L[k]?=some l/\v[k]?=some true/\Gd l=a/\Gf l=c
inductive Rch (L:List Zp) (lv:List Bool) (S:Int->Prop):Int->Prop
 |base {a:Int}:S a->Rch L lv S a
 |step {a c:Int}:Rch L lv S a->Live L lv a c->Rch L lv S c
variable {L:List Zp} {S:Int->Prop} {a:Int}
theorem Rch.sub {l:List Bool} {T:Int->Prop} (m:∀a,S a->T a) (d:∀a c,T a->Live L l a c->T c) (h:Rch L l S a):T a:=by
 induction h with
 |base h=>exact m _ h
 |step _ q i=>exact d _ _ i q
theorem Rch.mono {l:List Bool} {T:Int->Prop} (m:∀a,S a->T a) (h:Rch L l S a):Rch L l T a:=h.sub (λa n=>.base (m a n)) (λa c n q=>.step n q)
def wt:List (List Int)->List Bool->Nat
 |x::xs,b::s=>(if b=true then 0 else 1+x.length)+wt xs s
 |_,_=>0
theorem ZDI:∀(L:List (List Int)) (j:List Bool) (i:Nat) (x:List Int),L[i]?=some x->j[i]?=some false->wt L (j.set i true)+(1+x.length)=wt L j
 |[],_,_,_,h,_=>by simp at h
 |_::_,[],_,_,_,h=>by simp at h
 |y::L,b::j,0,x,d,f=>by
  simp at d f;subst d;subst f;simp[wt];omega
 |y::L,b::j,i+1,x,d,f=>by
  have:=ZDI L j i x (by simpa using d) (by simpa using f);simp only[List.set_cons_succ,wt];omega
theorem ZGz:∀(L:List (List Int)) (j:List Bool) (m:Nat),(∀x∈L,x.length<=m)->wt L j<=(1+m)*L.length
 |[],_,_,_=>by simp[wt]
 |_::_,[],_,_=>by simp[wt]
 |y::L,b::j,m,h=>by
  have d:=ZGz L j m (λx l=>h x (by simp[l]));have f:=h y (by simp);simp only[wt,Um,Nat.mul_add,Nat.mul_one];grind
theorem ZAf {l:List α} {i:Nat} (h:l[i]?=some x):l.set i x=l:=by
 apply Ux;grind
def InN (N:Nat) (L:List Zp):Prop:=∀l∈L,(0<=Gd l/\Gd l<(N:Int))/\(0<=Gf l/\Gf l<(N:Int))
structure ZHB (N:Nat) (L:List Zp) (lv:List Bool) (k:Nat) (nx:List (List Int)):Prop where
 len:nx.length=N
 short:∀x∈nx,x.length<=k
 mem:∀(a:Nat) (x:List Int),nx[a]?=some x->∀c,c∈x<->∃(j:Nat) (l:Zp),j<k/\L[j]?=some l/\lv[j]?=some true/\Gd l=(a:Int)/\Gf l=c
variable {N:Nat}
theorem ZxR {g:ZO} {nodes:List Int} (hN:(N:Int)=2*((ZM.places (GB g)).length:Int)) (a3:N<=1000) (O:InN N (ZM.links (GB g))) (a2:(ZM.links (GB g)).length<=6000)
  (a5:(ZO.live g).length=(ZM.links (GB g)).length) (U:∀a∈nodes,0<=a/\a<(N:Int)) (a6:nodes.length<=1048576) :
  ∃r,Qa g nodes ()=some r/\r.length=N/\∀(a:Nat) (b:Bool),r[a]?=some b->(b=true<->Rch (ZM.links (GB g)) (ZO.live g) (λa=>a∈nodes) (a:Int)):=by
 generalize w:ZM.links (GB g)=L at *;unfold Qa YC;rw[show Y1 (ZM.places (GB g))=some ((ZM.places (GB g)).length:Int) from rfl,Bq,Bq,<-hN,QR (n:=(N:Int)),Ra,Ra,Ra,Ra];refine Zev (l:=L) (λk v=>v.1=(k:Int)/\ZHB N L (ZO.live g) k v.2.1) _ ⟨rfl,by simp,λx W=>by
  grind,λa x W c=>by
  grind⟩ ?_ ?_
 ·rintro k l ⟨i,m,⟨⟩⟩ q hk ⟨B,s⟩
  simp only at B s;subst B;have S:=O l (Ud q);have p:(ZO.live g)[k]?=some (ZO.live g)[k]:=Ua (by omega);generalize (ZO.live g)[k]=bl at p;have e:=s.len;obtain⟨x,E,Z⟩:=ZgM (l:=m) S.1.1;have f:m[(Gd l).toNat]?=some x:=by
   have:=E;unfold atI at this;grind
  have a7:=s.short x Z;simp only[Qn,w,show(k:Int)<(L.length:Int)from by omega,Ui,Zo,q,Zkf,p,E,Bq];by_cases o:bl=true
  ·rw[Uc o,Zi (by simp;omega),YW]
   subst o;refine⟨_,rfl,rfl,by simp[e],?_,?_⟩
   ·intro y d
    rcases U2 d with d|rfl
    ·have:=s.short y d;omega
    ·simp;omega
   ·intro a y d c
    simp only at d;rw[UN]at d;split at d
    ·rename_i ea
     rw[QP]at d;injection d with d
     subst d;rw[Ut,Uw,s.mem _ x f c];grind
    ·rename_i ea
     rw[s.mem a y d c];grind
  ·rw[Ue o,YW]
   have J:bl=false:=by simpa using o
   subst J;refine⟨_,rfl,rfl,e,λy d=>by have:=s.short y d;omega,λa y d c=>?_⟩;rw[s.mem a y d c];grind
 ·rintro⟨i,m,⟨⟩⟩ ⟨B,s⟩
  simp only at B s;subst B;have e:=s.len;simp only[Qn,w,Uf,Uh];unfold ZG;rw[Ra,Zi (by simp;omega),Bq];have t:∀(a:Nat) (x:List Int),m[a]?=some x->∀c,c∈x<->Live L (ZO.live g) (a:Int) c:=by
   intro a x W c;rw[s.mem a x W c];constructor
   ·rintro⟨j,l',K,h2,h3,M,h5⟩;exact⟨j,l',h2,h3,M,h5⟩
   ·rintro⟨j,l',h2,h3,M,h5⟩;grind
  have a8:=ZGz m (List.replicate N false) L.length s.short;have a0:(1+L.length)*m.length<=6001*1000:=Km (by omega) (by omega);have:=Zgi (σ:=List Int×List (List Int)×List Bool×Unit) (ρ:=(Int×List (List Int)×Unit)⊕List Bool) (step:=λv=>Qm v.1 v.2.1 v.2.2.1)
   (λv=>v.2.1=m/\v.2.2.1.length=N/\v.1.length+wt m v.2.2.1<=8000000/\
    (∀a∈v.1,0<=a/\a<(N:Int)/\Rch L (ZO.live g) (λa=>a∈nodes) a)/\
    (∀(a:Nat),v.2.2.1[a]?=some true->Rch L (ZO.live g) (λa=>a∈nodes) (a:Int))/\
    (∀a∈nodes,a∈v.1\/v.2.2.1[a.toNat]?=some true)/\
    (∀ (a:Nat) (c:Int),v.2.2.1[a]?=some true->Live L (ZO.live g) (a:Int) c->c∈v.1\/v.2.2.1[c.toNat]?=some true))
   (λv=>v.1.length+wt m v.2.2.1)
   (λr=>∃r',r=.inr r'/\r'.length=N/\∀(a:Nat) (b:Bool),r'[a]?=some b->(b=true<->Rch L (ZO.live g) (λa=>a∈nodes) (a:Int)))
   (v:=([]++nodes,m,List.replicate (Int.toNat (N:Int)) false,()))
   ⟨rfl,by simp,by grind,λa H=>by
     simp only[Uv] at H;exact ⟨(U a H).1,(U a H).2,.base H⟩,λa H=>(by
     grind),λa H=>.inl (by simpa using H),λa c H _=>(by
     grind)⟩
   (by
    rintro⟨op,u,R,⟨⟩⟩ ⟨e1,G,e3,I,e5,e6,e7⟩;simp only at e1 G e3 I e5 e6 e7;subst e1;simp only[Qm];cases op with
    |nil =>
     rw[Ue (by simp)];refine .inr ⟨_,rfl,R,rfl,G,λa b o=>?_⟩;constructor
     ·grind
     ·intro h
      have z:∀c:Int,Rch L (ZO.live g) (λa=>a∈nodes) c->(0<=c/\R[c.toNat]?=some true):=by
       intro c hc;refine hc.sub (T:=λc=>0<=c/\R[c.toNat]?=some true) (λa H=>⟨(U a H).1,?_⟩) (λa c H q=>?_)
       ·grind
       ·obtain⟨k,l,K,_,_,M⟩:=id q
        have P:=O l (Ud K);have a4:Live L (ZO.live g) (a.toNat:Int) c:=by rw[show(a.toNat:Int)=a by omega];exact q
        grind
      have:=(z (a:Int) h).2
      simp_all
    |cons X rest =>
     obtain⟨C,b1,Y⟩:=I X (by simp);have V:List.take (Int.toNat (((X::rest).length:Nat):Int)-Int.toNat (1:Int)) (List.drop (Int.toNat (1:Int)) (X::rest))=rest:=by simp
     obtain⟨b0,A,_⟩:=ZgM (l:=R) C;have Q:R[X.toNat]?=some b0:=by
      have:=A;unfold atI at this;grind
     rw[Uc (by grind),show atI (X::rest) (0:Int)=some X from rfl,Bq,Zi (by grind),Ra,A,Bq];simp only[V];simp only[Um]at e3;by_cases o:b0=true
     ·subst o
      rw[Uc rfl];refine .inl ⟨_,rfl,⟨rfl,G,by simp only;omega,λa H=>I a (by simp[H]),e5,λa H=>?_,λa c H q=>?_⟩,by grind⟩;all_goals grind
     ·have J:b0=false:=by simpa using o
      subst J;obtain⟨x2,F,a1⟩:=ZgM (l:=u) C;have f:u[X.toNat]?=some x2:=by
       have:=F;unfold atI at this;grind
      have a9:=ZDI u R X.toNat x2 f Q;have D:(X.toNat:Int)=X:=by omega
      rw[Ue o,F,Bq,Ra,ZAf f];have up:∀a:Nat,R[a]?=some true->(R.set X.toNat true)[a]?=some true:=by
       intro a H;rw[UN];split;all_goals grind
      have at0:(R.set X.toNat true)[X.toNat]?=some true:=by grind
      refine .inl ⟨_,rfl,⟨rfl,by simp[G],by grind,λa H=>?_,λa H=>?_,λa H=>?_,λa c H q=>?_⟩,by grind⟩
      ·rcases Ut.1 H with H|H
       ·exact I a (by simp[H])
       ·have q:=(t _ x2 f a).1 H
        rw[D]at q;obtain⟨k,l,K,_,_,M⟩:=id q;have P:=O l (Ud K);exact⟨by omega,by omega,.step Y q⟩
      ·simp only at H
       rw[UN]at H;split at H;all_goals grind
      ·rcases e6 a H with h|h
       all_goals grind
      ·simp only at H
       rw[UN]at H;split at H
       ·grind
       ·rcases e7 a c H q with h|h
        all_goals grind)
  grind
def cf (l:List Bool):Nat:=l.countP (λb=>!b)
theorem ZDf:∀(l:List Bool) (i:Nat),l[i]?=some false->cf (l.set i true)+1=cf l
 |[],_,h=>by simp at h
 |b::l,0,h=>by simp at h;subst h;simp[cf]
 |b::l,i+1,h=>by
  have:=ZDf l i (by simpa using h);unfold cf at this ⊢;simp only[List.set_cons_succ,List.countP_cons];omega
theorem bat {l:List Bool} {b:Bool} (h:atI l i=some b) (m:0<=i):l[i.toNat]?=some b:=by
 unfold atI at h;rw[Uc m]at h;exact h
theorem ZGe {l:List Bool} {i:Nat} (a:Nat) (h:l[a]?=some true):(l.set i true)[a]?=some true:=by
 rw[UN];split
 ·have:=(Ub.1 h).1
  rw[QP]
 ·exact h
def Closed (L:List Zp) (v:List Bool) (k:Nat) (s:List Bool):Prop:=∀(j:Nat) (l:Zp),j<k->L[j]?=some l->v[j]?=some true->s[(Gd l).toNat]?=some true->s[(Gf l).toNat]?=some true
structure ZGB (N:Nat) (L:List Zp) (lv:List Bool) (S:Int->Prop) (k:Nat) (s0:List Bool) (ch:Bool) (s:List Bool):Prop where
 len:s.length=N
 snd:∀a:Nat,s[a]?=some true->Rch L lv S (a:Int)
 up:∀a:Nat,s0[a]?=some true->s[a]?=some true
 still:ch=false->s=s0/\Closed L lv k s0
 less:cf s+(if ch=true then 1 else 0)<=cf s0
theorem round_eq {f:List Bool} (U:InN N L) (V:L.length<=6000) (Z:f.length=L.length) {s0:List Bool} (Q:s0.length=N) (T:∀a:Nat,s0[a]?=some true->Rch L f S (a:Int)) :
  ∃C s,Zx (λv=>Qg L f true v.1 v.2.1 v.2.2.1) (false,(0:Int),s0,())=some (.inl (C,s,()))/\ZGB N L f S L.length s0 C s:=by
 obtain⟨r,R,C,s,rfl,x⟩:=Zev (l:=L) (ρ:=(Bool×List Bool×Unit)⊕List Bool) (step:=λv=>Qg L f true v.1 v.2.1 v.2.2.1) (v:=(false,(0:Int),s0,()))
  (λk v=>v.2.1=(k:Int)/\ZGB N L f S k s0 v.1 v.2.2.1) (λr=>∃C s,r=.inl (C,s,())/\ZGB N L f S L.length s0 C s)
  ⟨rfl,Q,T,λa h=>h,λ_=>⟨rfl,λj l Y=>by omega⟩,by simp⟩
  (by
   rintro k l ⟨C,i,s,⟨⟩⟩ y hk ⟨u,c⟩;simp only at u c;subst u;have g:=U l (Ud y);have J:=c.len;have p:f[k]?=some f[k]:=Ua (by omega);generalize f[k]=z at p;obtain ⟨X,w,_⟩:=ZgM (l:=s) g.1.1;obtain ⟨K,B,_⟩:=ZgM (l:=s) g.2.1;have m:=bat w g.1.1;have o:=bat B g.2.1;simp only[Qg,show (k:Int)<(L.length:Int) from by omega,Ui,Zo,y,p,w,B,Bq];have keep:(z=true->X=true->K=true)->ZGB N L f S (k+1) s0 C s:=λF=>⟨c.len,c.snd,c.up,λE=>by
    obtain⟨M,P⟩:=c.still E;refine⟨M,λj l' Y d b H=>?_⟩;by_cases G:j=k
    ·subst G
     rw[y]at d;injection d with d;subst d
     rw[p]at b;injection b with b
     subst M;rw[m]at H;injection H with H
     rw[o,F b H]
    ·exact P j l' (by omega) d b H,c.less⟩
   by_cases q:z=true
   ·subst q
    by_cases x:X=true
    ·subst x
     by_cases O:K=true
     ·subst O
      simp only[Ui];exact⟨_,rfl,by simp only;rw[YW],keep (λ_ _=>rfl)⟩
     ·have D:K=false:=by simpa using O
      subst D;simp only[Ui,Ka,Uh];have W:=ZDf s (Gf l).toNat o;have I:=c.less;refine⟨_,rfl,by simp only;rw[YW],by simp[J],λa n=>?_,λa n=>ZGe a (c.up a n),λh=>(by cases h),?_⟩
      ·simp only at n
       rw[UN]at n;split at n
       ·rename_i e
        rw[<-e,show((Gf l).toNat:Int)=Gf l by omega];have H:=c.snd _ m;rw[show((Gd l).toNat:Int)=Gd l by omega]at H;exact .step H ⟨k,l,y,p,rfl,rfl⟩
       ·exact c.snd a n
      ·simp only[Ui]
       have:(if C=true then 1 else 0)<=1:=by split<;>omega
       omega
    ·have A:X=false:=by simpa using x
     subst A;simp only[Ui,Ka,Uh];exact⟨_,rfl,by simp only;rw[YW],keep (λ_ h=>by cases h)⟩
   ·have t:z=false:=by simpa using q
    subst t;simp only[Ui,Ka,Uh];exact ⟨_,rfl,by simp only;rw[YW],keep (λh=>by cases h)⟩)
  (by
   rintro ⟨C,i,s,⟨⟩⟩ ⟨u,c⟩;simp only at u c;subst u;simp only[Qg,Uf,Uh];exact ⟨_,rfl,C,s,rfl,c⟩)
 exact⟨C,s,R,x⟩
variable {d:List Bool}
theorem ZrT (J:N<=1000) (z:InN N L) (p:L.length<=6000) (t:d.length=L.length) {node:Int} (u:0<=node/\node<(N:Int)) :
  ∃r,Zbj (N:Int) L d node true=some r/\r.length=N/\∀(a:Nat) (b:Bool),r[a]?=some b->(b=true<->Rch L d (λa=>a=node) (a:Int)):=by
 unfold Zbj;obtain⟨x,O,_⟩:=ZgM (l:=List.replicate (Int.toNat (N:Int)) false) u.1 (by simp;exact u.2);rw[Ra,Ra,Ra,Ra,O,Bq];have w:(node.toNat:Int)=node:=by omega
 have:=Zgi (σ:=Bool×List Bool×Unit) (ρ:=List Bool) (step:=λv=>Jd L d true v.1 v.2.1)
  (λv=>v.2.1.length=N/\(∀a:Nat,v.2.1[a]?=some true->Rch L d (λa=>a=node) (a:Int))/\v.2.1[node.toNat]?=some true/\(v.1=false->Closed L d L.length v.2.1))
  (λv=>2*cf v.2.1+(if v.1=true then 1 else 0))
  (λr=>r.length=N/\∀(a:Nat) (b:Bool),r[a]?=some b->(b=true<->Rch L d (λa=>a=node) (a:Int)))
  (v:=(true,List.set (List.replicate (Int.toNat (N:Int)) false) (Int.toNat node) true,()))
  ⟨by simp,λa n=>(by
   simp only at n;rw[UN]at n;split at n
   ·rename_i e;rw[<-e];exact .base w
   ·rw[Kb]at n
    split at n
    ·cases n
    ·cases n),(by simp only;rw[UD (by simp;omega)]),λh=>(by cases h)⟩
  (by
   rintro⟨B,s,⟨⟩⟩ ⟨E,m,o,y⟩;simp only at E m o y;simp only[Jd];by_cases q:B=true
   ·rw[Uc q]
    obtain⟨C,S,f,g⟩:=round_eq z p t E m;rw[f];refine .inl ⟨_,rfl,⟨g.len,g.snd,g.up _ o,λh=>?_⟩,?_⟩
    ·obtain⟨e,H⟩:=g.still h
     simp only;rw[e];exact H
    ·have I:=g.less
     simp only[q,Ui];by_cases j:C=true
     ·simp only[j,Ui]at I ⊢;omega
     ·simp only[j,Uh]at I ⊢;omega
   ·rw[Ue q]
    have H:=y (by simpa using q);refine .inr ⟨s,rfl,E,λa b A=>?_⟩;constructor
    ·intro h;subst h;exact m a A
    ·intro h
     have i:∀c:Int,Rch L d (λa=>a=node) c->(0<=c/\s[c.toNat]?=some true):=by
      intro c q;refine q.sub (T:=λc=>0<=c/\s[c.toNat]?=some true) (λa n=>by subst n;exact⟨u.1,o⟩) (λa c n M=>?_);obtain⟨k,l,f,D,F,G⟩:=M;have K:=z l (Ud f);refine⟨by omega,?_⟩;rw[<-G];exact H k l (Ub.1 f).1 f D (by rw[F];exact n.2)
     have:=(i (a:Int) h).2;rw[Up,A] at this;injection this)
 exact this
def Zeu (k:Nat) (b:Bool):List Int:=if b=true then[(k:Int)]else[]
theorem Zp9 (l:List Bool) (m:Nat):(cat Zeu m l).length<=l.length:=by
 have:=ZaN (f:=Zeu) (c:=1) (l:=l) (m:=m) (λi x _=>by unfold Zeu;split<;>simp)
 omega
theorem ZnB (l:List Bool) (q:l.length<=1000:=by omega):Zgo l=some (cat Zeu 0 l):=by
 unfold Zgo;refine XG (l:=l) Zeu [] (λk x h H=>?_) ?_
 ·have d:=Zp9 (l.take k) 0
  rw[Uj]at d;simp only[Uv,ZdS,show(k:Int)<(l.length:Int)from by omega,Ui,Zo,h,Bq,YW (show k<=1048576 by omega)];generalize cat Zeu 0 (l.take k)=a at d;unfold Zeu;split
  ·rw[Zi (by show(a.length+1)*8<=_;omega)]
  ·rw[Un]
 ·simp only[Uv,ZdS,Uf,Uh]
def ZkV (L:List Zp):List Zp:=L.map (λl=>(Gf l,Gd l,GL l,l.2.2.2))
theorem Zsk (L:List Zp):(ZkV L).length=L.length:=U1 ..
theorem ZDP (f:α->β) (l:List α) (i:Int):atI (l.map f) i=(atI l i).map f:=by
 unfold atI;grind
theorem ZxQ (n node:Int) (L:List Zp) (l:List Bool):Zbj n L l node false=Zbj n (ZkV L) l node true:=by
 have E:∀(c:Bool) (k:Int) (a:List Bool),Qg L l false c k a=Qg (ZkV L) l true c k a:=by
  intro c k a;unfold Qg;rw[Zsk];by_cases h:k<(L.length:Int)
  ·rw[Uc h,Uc h]
   unfold ZkV;rw[ZDP];cases atI L k with
   |none=>rfl
   |some x=>rfl
  grind
 have e:∀(c:Bool) (l0:List Bool),Jd L l false c l0=Jd (ZkV L) l true c l0:=by
  intro c l0;unfold Jd;simp only[E]
 unfold Zbj;simp only[e]
theorem Zzu {v:List Bool} {c:Int} (h:Live (ZkV L) v a c):Live L v c a:=by
 obtain⟨k,l,d,f,g,i⟩:=h;unfold ZkV at d;rw[UK,Kk]at d;obtain⟨x,H,rfl⟩:=d;exact⟨k,x,H,f,i,g⟩
theorem Zxw {v:List Bool} {c:Int} (h:Live L v c a):Live (ZkV L) v a c:=by
 obtain⟨k,l,d,f,g,i⟩:=h;exact⟨k,_,by unfold ZkV;rw[UK,d];rfl,f,i,g⟩
theorem ZBw (h:InN N L):InN N (ZkV L):=λl q=>by
 unfold ZkV at q;obtain⟨x,H,rfl⟩:=Kg.1 q;exact⟨(h x H).2,(h x H).1⟩
structure Scc (N:Nat) (L:List Zp) (lv:List Bool) (v:Int) (m:List Int):Prop where
 mem:∀c,c∈m<->((0<=c/\c<(N:Int))/\Rch L lv (λa=>a=v) c/\Rch (ZkV L) lv (λa=>a=v) c)
 nod:m.Nodup
 len:m.length<=N
 more:1<m.length\/∃(k:Nat) (l:Zp),L[k]?=some l/\lv[k]?=some true/\Gd l=v/\Gf l=v
 v0:0<=v/\v<(N:Int)
theorem Zvs (v:Int):∀{m:List Int},m.Nodup->1<m.length->∃a,a∈m/\a≠v
 |[],_,h=>by simp at h
 |[_],_,h=>by simp at h
 |a::b::r,f,_=>by
  by_cases q:a=v
  ·refine⟨b,by simp,λe=>?_⟩
   grind
  simp_all
variable {m:List Int}
theorem Scc.cell {v:Int} (h:Scc N L d v m) {D:Int->Prop} (t:InN N L) (E:∀l∈L,GL l=1\/(D (Gd l)/\¬D (Gf l))) :
  ∃(k:Nat) (l:Zp),L[k]?=some l/\d[k]?=some true/\GL l=1/\Gd l∈m/\Gf l∈m:=by
 apply UT;intro x;have y:∀(a c:Int),Live L d a c->a∈m->c∈m->D a/\¬D c:=by
  rintro a c ⟨k,l,e,j,rfl,rfl⟩ n o;grind
 have inn:∀{a c:Int},Live L d a c->(0<=a/\a<(N:Int))/\(0<=c/\c<(N:Int)):=by
  rintro a c ⟨k,l,e,j,rfl,rfl⟩;exact t l (Ud e)
 have F:v∈m:=(h.mem v).2 ⟨h.v0,.base rfl,.base rfl⟩;rcases h.more with w|⟨k,l,e,j,A,B⟩
 ·obtain⟨a,n,b⟩:=Zvs v h.nod w
  obtain⟨_,p,s⟩:=(h.mem a).1 n;have r:=p;have R:=s;cases p with
  |base q=>exact b q
  |@step c _ z f =>
   have o:c∈m:=(h.mem c).2 ⟨(inn f).1,z,R.step (Zxw f)⟩;have K:=y _ _ f o n;cases s with
   |base q=>exact b q
   |@step C _ i g =>
    have H:=Zzu g;have u:C∈m:=(h.mem C).2 ⟨(inn H).2,r.step H,i⟩;grind
 grind
variable {a:List Bool}
theorem ZAc (H:L.length<=6000) (c:a.length=L.length) (v:Int):Gets (Ziq L a v) (λr=>r=true->∃(k:Nat) (l:Zp),L[k]?=some l/\a[k]?=some true/\Gd l=v/\Gf l=v):=by
 unfold Ziq;refine Gets.loop (λs=>0<=s.1/\s.1<=6000) (λs=>(6000-s.1).toNat) ⟨U6 _,by dsimp only;omega⟩ ?_;rintro⟨k,⟨⟩⟩ ⟨K,e⟩;dsimp only at K e;show Gets (ZfP L a v k) _;unfold ZfP;have M:Wq (k+1)=k+1:=QR;simp only[M];refine Gets.ite (λb=>?_) (λ_=>.ret (show false=true->_ from λq=>by cases q));refine .at K (by omega) λx i J=>?_;refine Gets.ite (λh=>?_) (λ_=>.ret ⟨⟨by dsimp only;omega,by dsimp only;omega⟩,by dsimp only;omega⟩);refine .at K b λl g T=>?_;refine Gets.ite (λd=>?_) (λ_=>.ret ⟨⟨by dsimp only;omega,by dsimp only;omega⟩,by dsimp only;omega⟩);refine Gets.ite (λf=>?_) (λ_=>.ret ⟨⟨by dsimp only;omega,by dsimp only;omega⟩,by dsimp only;omega⟩);exact .ret (show true=true->_ from λ_=>⟨k.toNat,l,T,by rw[J,h],d,f⟩)
theorem ZxE (e:N<=1000) (B:InN N L) (H:L.length<=6000) (f:d.length=L.length):Gets (Zhm (N:Int) L d) (λr=>∀m∈r,∃v,Scc N L d v m):=by
 unfold Zhm;refine .guard (by omega) (.guard (U6 _) (.guard (by omega) (.guard (by omega) ?_)));refine Gets.loop (λs=>0<=s.2.1/\s.2.1<=(N:Int)/\(s.1.length:Int)<=s.2.1/\(∀m∈s.1,∃v,Scc N L d v m)/\s.2.2.1.length=N) (λs=>((N:Int)-s.2.1).toNat) ⟨U6 _,by dsimp only;omega,by grind,λm R=>(by cases R),by simp⟩ ?_;rintro⟨out,v,l0,⟨⟩⟩ ⟨I,W,X,i,u⟩;dsimp only at I W X i u;show Gets (ZeS (N:Int) L d out v l0) _;unfold ZeS;have M:Wq (v+1)=v+1:=QR;refine Gets.ite (λj=>?_) (λ_=>.ret (show ∀m∈out,_ from i));refine .at I (by omega) λx T _=>?_;refine Gets.ite (λ_=>?_) (λ_=>?_)
 ·rw[M]
  exact .ret ⟨⟨by dsimp only;omega,by dsimp only;omega,by dsimp only;omega,i,u⟩,by dsimp only;omega⟩
 obtain⟨r0,F,a2,P⟩:=ZrT e B H f (node:=v) ⟨I,j⟩;obtain⟨r1,E,a3,z⟩:=ZrT (L:=ZkV L) e (ZBw B) (by rw[Zsk];exact H) (by rw[Zsk];exact f) (node:=v) ⟨I,j⟩;rw[<-ZxQ]at E;rw[F,Bq,E,Bq];refine Gets.loop (λs=>0<=s.2.1/\s.2.1<=(N:Int)/\(s.1.length:Int)<=s.2.1/\s.1.Nodup/\s.2.2.1.length=N/\∀c,c∈s.1<->((0<=c/\c<s.2.1)/\Rch L d (λa=>a=v) c/\Rch (ZkV L) d (λa=>a=v) c)) (λs=>((N:Int)-s.2.1).toNat)
  ⟨U6 _,by dsimp only;omega,by grind,List.nodup_nil,u,λc=>⟨λh=>(by cases h),λh=>by grind⟩⟩ ?_
 rintro⟨m,k,l,⟨⟩⟩ ⟨j0,Y,Z,w,J,D⟩;dsimp only at j0 Y Z w J D;show Gets (ZeR (N:Int) L d out v r0 r1 m k l) _;unfold ZeR;have O:Wq (k+1)=k+1:=QR;simp only[O,M];refine Gets.ite (λQ=>?_) (λQ=>?_)
 ·refine .at j0 (by omega) λx T o=>?_
  have g:(k.toNat:Int)=k:=by omega
  have a0:=P k.toNat x o;rw[g]at a0;have skip:(¬(Rch L d (λa=>a=v) k/\Rch (ZkV L) d (λa=>a=v) k))->∀c,c∈m<->((0<=c/\c<k+1)/\Rch L d (λa=>a=v) c/\Rch (ZkV L) d (λa=>a=v) c):=λhn c=>by
   grind
  refine Gets.ite (λU=>?_) (λp=>?_)
  ·refine .at j0 (by omega) λy hy t=>?_
   have A:=z k.toNat y t;rw[g]at A;refine Gets.ite (λV=>?_) (λG=>?_)
   ·refine .guard (by grind) ?_
    refine .at j0 (by omega) λ_ _ _=>?_;refine .ret ⟨⟨by dsimp only;omega,by dsimp only;omega,by simp_all,?_,by grind,λc=>?_⟩,by dsimp only;omega⟩
    ·dsimp only
     rw[U3];refine⟨w,by simp,λa ha b hb=>?_⟩;grind
    grind
   ·exact .ret ⟨⟨by dsimp only;omega,by dsimp only;omega,by dsimp only;omega,w,J,skip λq=>G (A.2 q.2)⟩,by dsimp only;omega⟩
  ·exact .ret ⟨⟨by dsimp only;omega,by dsimp only;omega,by dsimp only;omega,w,J,skip λq=>p (a0.2 q.1)⟩,by dsimp only;omega⟩
 ·have n:k=(N:Int):=by omega
  have C:(1<m.length\/∃(k:Nat) (l:Zp),L[k]?=some l/\d[k]?=some true/\Gd l=v/\Gf l=v)->Scc N L d v m:=λR=>⟨λc=>by rw[D c,n],w,by omega,R,⟨I,j⟩⟩;refine Gets.ite (λz=>?_) (λ_=>?_)
  ·refine .guard (by grind) (.ret ⟨⟨by dsimp only;omega,by dsimp only;omega,by grind,Ze9 i ⟨v,C (.inl (by omega))⟩,J⟩,by dsimp only;omega⟩)
  ·refine(ZAc H f v).bind λq S=>?_
   refine Gets.ite (λK=>?_) (λ_=>?_)
   ·exact .guard (by grind) (.ret ⟨⟨by dsimp only;omega,by dsimp only;omega,by grind,Ze9 i ⟨v,C (.inr (S K))⟩,J⟩,by dsimp only;omega⟩)
   ·exact .ret ⟨⟨by dsimp only;omega,by dsimp only;omega,by dsimp only;omega,i,J⟩,by dsimp only;omega⟩
def Drv (b:Za) (a:Int):Prop:=∃p,(places (KX b))[(a/2).toNat]?=some p/\p.2.2.2.1=true
theorem Zxu {b:Za} (h:Z4 b):∀l∈Zu b,GL l=1\/(Drv b (Gd l)/\¬Drv b (Gf l)):=by
 intro l d;unfold Zu at d;rcases Ut.1 d with d|d
 ·left
  obtain⟨i,x,F,H⟩:=Xx.1 d;unfold ZhI at H;split at H
  ·obtain⟨k,a,D,e⟩:=Xx.1 H
   unfold Zo7 at e;obtain⟨p,o,rfl⟩:=Kg.1 e;rfl
  ·cases H
 ·right
  obtain⟨v,w,B,H⟩:=Xx.1 d;rw[Us]at H;have A:v<(K1 (KX b)).length:=by
   have:=(Ub.1 B).1;have:=h.ok.2.1;omega
  obtain⟨q,y,C,n,t,_⟩:=ZpF h.ok.1 (Jb h.sm).2.1 A;obtain⟨j,s,z,f⟩:=Xx.1 H;have g:=Ud z;unfold sinks at g;obtain⟨k,x,r,G⟩:=Xx.1 g;have T:s=(k:Int)/\¬x.2.2.2.1=true:=by
   unfold QZ at G;grind
  have m:y.2.2.2.1=true:=by
   unfold ZuJ at n;grind
  have two:∀c:Int,c=0\/c=1->Drv b (2*ZhW (KX b) (v:Int)+c)/\¬Drv b (2*s+c):=λc E=>by
   refine⟨⟨y,?_,m⟩,λN=>?_⟩
   ·rw[t,show((2*(q:Int)+c)/2).toNat=q by omega]
    exact C
   ·obtain⟨p,o,u⟩:=N
    rw[T.1,show((2*(k:Int)+c)/2).toNat=k by omega,r]at o;grind
  simp only[UB,UZ,Kv]at f;rcases f with rfl|rfl
  ·exact two 0 (.inl rfl)
  ·exact two 1 (.inr rfl)
theorem Zvf {d:Za} (f:Few (KX d)):Vy d=some ((2*(places (KX d)).length:Nat):Int):=by
 have i:=ZT f;unfold Vy;rw[ZN _ f,Bq,QR];congr 1
def ct (l:List Bool):Nat:=l.countP (λb=>b)
theorem ZDg:∀(l:List Bool) (i:Nat),l[i]?=some true->ct (l.set i false)+1=ct l
 |[],_,h=>by simp at h
 |b::l,0,h=>by simp at h;subst h;simp[ct]
 |b::l,i+1,h=>by
  have:=ZDg l i (by simpa using h);unfold ct at this ⊢;grind
def Found (L:List Zp) (a:List Bool) (m:List Int) (k v:Int):Prop :=
 (v=-1/\∀(j:Nat) (l:Zp),(j:Int)<k->L[j]?=some l->a[j]?=some true->GL l=1->Gd l∈m->Gf l∈m->False)\/(0<=v/\v<(a.length:Int)/\a[v.toNat]?=some true)
theorem Found.stay {v:Int} (h:Found L a m k v) (H:0<=k) (f:∀l,L[k.toNat]?=some l->a[k.toNat]?=some true->GL l=1->Gd l∈m->Gf l∈m->False):Found L a m (k+1) v:=by
 rcases h with⟨e,h⟩|h
 ·refine .inl ⟨e,λj l b q=>?_⟩
  grind
 ·exact .inr h
theorem Zxf {b:Za} (h:Z4 b):Gets (ZdO b) (λr=>r.length<=6000):=by
 have H:=QC h;have u:=h.ok.1.few;have A:=ZT u;have n:InN (2*(places (KX b)).length) (Zu b):=λl a=>by
  have:=Zb6 h a;omega
 unfold ZdO;rw[Zcz h,Bq,ZhQ _ _ H (by simp),Bq,Zvf u,Bq];refine Gets.loop (λs=>s.1.length=(Zu b).length) (λs=>ct s.1) (Zf5 _ _) ?_;rintro⟨L,⟨⟩⟩ a;dsimp only at a;show Gets (ZeQ (Zu b) ((2*(places (KX b)).length:Nat):Int) L) _;unfold ZeQ;refine(ZxE (by omega) n H a).bind λloops p=>?_;refine Gets.ite (λf=>?_) (λf=>?_)
 ·refine Gets.loop (λs=>0<=s.2.1/\s.2.1<=6000/\(s.1.length:Int)<=s.2.1) (λs=>(6000-s.2.1).toNat) ⟨U6 _,by dsimp only;omega,by grind⟩ ?_
  rintro⟨out,k,⟨⟩⟩ ⟨i,t,I⟩;dsimp only at i t I;show Gets (ZeO L out k) _;unfold ZeO;have M:Wq (k+1)=k+1:=QR;simp only[M];refine Gets.ite (λg=>?_) (λ_=>.ret (show out.length<=6000 by omega));refine .at i g λx _ _=>Gets.ite (λ_=>?_) (λ_=>?_)
  ·exact .ret ⟨⟨by dsimp only;omega,by dsimp only;omega,by dsimp only;omega⟩,by dsimp only;omega⟩
  ·exact .guard (by grind) (.ret ⟨⟨by dsimp only;omega,by dsimp only;omega,by grind⟩,by dsimp only;omega⟩)
 ·match loops,f,p with
  |[],f,_=>exact absurd rfl f
  |m::r,_,p =>
   obtain⟨v,c⟩:=p m (by simp);obtain⟨O,ll,c1,c2,R,U,P⟩:=c.cell n (Zxu h);have z:=c.len;refine Gets.loop (λs=>0<=s.2.1/\s.2.1<=((Zu b).length:Int)/\s.2.2.1=m::r/\Found (Zu b) L m s.2.1 s.1) (λs=>(((Zu b).length:Int)-s.2.1).toNat)
    ⟨U6 _,by dsimp only;omega,rfl,.inl ⟨rfl,λj l G=>by grind⟩⟩ ?_
   rintro⟨w,k,S,⟨⟩⟩ ⟨i,t,I,o⟩;dsimp only at i t I o;subst I;show Gets (ZeP (Zu b) L w k (m::r)) _;unfold ZeP;have M:Wq (k+1)=k+1:=QR;simp only[M];refine Gets.ite (λg=>?_) (λg=>?_)
   ·refine .at i (by omega) λx N J=>?_
    refine Gets.ite (λC=>?_) (λB=>?_)
    ·refine .at i g λl a T=>?_
     have stay:¬(GL l=1/\Gd l∈m/\Gf l∈m)->Found (Zu b) L m (k+1) w:=λK=>o.stay i λl' E _ Q e V=>by
      grind
     refine Gets.ite (λd=>?_) (λd=>?_)
     ·rw[show atI (m::r) (0:Int)=some m from rfl,Bq,ZiF _ _,Bq]
      refine Gets.ite (λQ=>?_) (λQ=>?_)
      ·rw[ZiF _ _,Bq]
       refine Gets.ite (λe=>?_) (λe=>?_)
       ·exact .ret ⟨⟨by dsimp only;omega,by dsimp only;omega,rfl,.inr ⟨i,by omega,by grind⟩⟩,by dsimp only;omega⟩
       ·exact .ret ⟨⟨by dsimp only;omega,by dsimp only;omega,rfl,stay λq=>e (UQ q.2.2)⟩,by dsimp only;omega⟩
      ·exact .ret ⟨⟨by dsimp only;omega,by dsimp only;omega,rfl,stay λq=>Q (UQ q.2.1)⟩,by dsimp only;omega⟩
     ·exact .ret ⟨⟨by dsimp only;omega,by dsimp only;omega,rfl,stay λq=>d q.1⟩,by dsimp only;omega⟩
    ·exact .ret ⟨⟨by dsimp only;omega,by dsimp only;omega,rfl,o.stay i λl' _ F _ _ _=>by
      grind⟩,by dsimp only;omega⟩
   ·have y:=(Ub.1 c1).1
    rcases o with⟨_,q⟩|⟨D,Q,e⟩
    ·grind
    ·refine .at D Q λx _ _=>?_
     have:=ZDg L w.toNat e;refine .ret ⟨?_,?_⟩;all_goals grind
def ZDJ (b:Za):Prop:=ZuH b/\Few (KX b)
theorem ZFr.f {b:Za} (h:ZFr b):ZDJ b:=⟨⟨h.sm,λ_ _=>h.des.dn⟩,h.des.few⟩
theorem Zq0 (q:Src s):Gets (ZdN s) (λr=>ZDJ r.1/\Src r.2):=by
 unfold ZdN;have b:∀{t:Zk} (d:Bool),Src t->Gets ((Zaa t (6:Int) d).bind λl=>some (l.fst,l.snd)) (λr:Za×Zk=>ZDJ r.1/\Src r.2):=λd a =>
  (ZmX a (most:=6) (by omega) (by omega) d).bind λr ⟨h,H⟩=>.ret ⟨h.f,H⟩
 refine(ZE q 12).bind λR ⟨_,m⟩=>?_;refine Gets.ite (λ_=>?_) (λ_=>?_)
 ·exact(Zxb m).bind λr ⟨h,H⟩=>.ret ⟨h,H⟩
 grind
theorem ZuR (q:Src s) {b:Za} (H:sm Yg b):Gets (JG s b) (λr=>r.1.length<=7000/\Src r.2):=by
 unfold JG;rw[XO b H,Bq];refine Gets.ite (λp=>?_) (λ_=>.ret ⟨by simp,q⟩);have h:Z4 b:=⟨(YL _).1 p,H⟩;have t:=QC h;refine(ZE q 3).bind λR ⟨_,m⟩=>?_;refine Gets.ite (λ_=>.ret ⟨by simp,m⟩) (λ_=>?_);rw[Zcz h,Bq];refine(ZE m 8).bind λa ⟨⟨a0,A⟩,j⟩=>?_;have E:Wq (1+a.1)=1+a.1:=QR;rw[E];refine(ZE j _).bind λz ⟨⟨b0,U⟩,n⟩=>?_;refine Gets.loop (λv=>0<=v.2.1/\v.2.1<=6100/\(v.1.length:Int)<=v.2.1/\Src (v.2.2.1,v.2.2.2.1,v.2.2.2.2.1,())) (λv=>(6200-v.2.1).toNat) ⟨b0,by dsimp only;omega,by grind,n⟩ ?_;rintro⟨out,k,D,d,c,⟨⟩⟩ ⟨I,u,w,i⟩;dsimp only at I u w i;show Gets (ZbW (Zu b) a out k D d c) _;unfold ZbW;rw[E];refine Gets.ite (λy=>?_) (λ_=>?_)
 ·refine .guard (by grind) ?_
  refine(ZE i _).bind λl ⟨⟨G,F⟩,g⟩=>?_;have x:l.1<=8:=by omega
  have e:Wq (1+l.1)=1+l.1:=QR;have f:Wq (k+(1+l.1))=k+(1+l.1):=QR;rw[e,f];exact .ret ⟨⟨by dsimp only;omega,by dsimp only;omega,by grind,g⟩,by dsimp only;omega⟩
 ·refine(ZE i _).bind λl ⟨_,g⟩=>?_
  refine Gets.ite (λ_=>?_) (λ_=>.ret (show out.length<=7000/\Src l.2 from⟨by omega,g⟩));refine(ZE g _).bind λB ⟨_,o⟩=>?_;refine .guard (by grind) (.ret ⟨?_,o⟩);grind
theorem ZuV (q:Src s):Gets (JH s) (λr=>(GW r.1).length<=5/\Src r.2):=by
 unfold JH;refine(ZE q 3).bind λR ⟨⟨a0,a⟩,m⟩=>?_;refine .at a0 (by grind) λx l _=>?_;have h:x.length<=5:=by
  grind
 refine(ZE m _).bind λb ⟨_,d⟩=>?_;refine(ZE d _).bind λc ⟨_,f⟩=>?_;refine(ZE f _).bind λe ⟨_,g⟩=>?_;refine(ZE g _).bind λo ⟨_,i⟩=>?_;refine(ZE i _).bind λk ⟨_,j⟩=>?_;refine Gets.ite (λ_=>.ret ⟨h,j⟩) (λ_=>?_);refine Gets.ite (λ_=>?_) (λ_=>?_)
 ·refine(ZE j 3).bind λw ⟨⟨b0,U⟩,I⟩=>?_
  exact .at b0 (by grind) λ_ _ _=>.ret ⟨h,I⟩
 refine Gets.ite (λ_=>?_) (λ_=>?_)
 ·exact(ZE j 2).bind λw ⟨_,I⟩=>.ret ⟨h,I⟩
 ·exact Gets.ite (λ_=>.ret ⟨by grind,j⟩) (λ_=>.ret ⟨h,j⟩)
theorem Zov (O:Src s) {b:Za} (L:sm Yg b):Gets (Yc s b) (λr=>r.1.length<=400/\Src r.2):=by
 unfold Yc;rw[XO b L,Bq];refine Gets.ite (λU=>?_) (λ_=>.ret ⟨by simp,O⟩);have h:Z4 b:=⟨(YL _).1 U,L⟩;have j:=h.ok.1.few;have E:=ZT j;rw[ZN _ j,Bq];generalize places (KX b)=P at E;refine Gets.loop (λv=>0<=v.2.1/\v.2.1<=(P.length:Int)/\(v.1.length:Int)<=2*v.2.1/\Src (v.2.2.1,v.2.2.2.1,v.2.2.2.2.1,())) (λv=>((P.length:Int)-v.2.1).toNat) ⟨U6 _,by dsimp only;omega,by grind,O⟩ ?_;rintro⟨out,p,c0,c1,c2,⟨⟩⟩ ⟨S,W,X,i⟩;dsimp only at S W X i;show Gets (Zbt P out p c0 c1 c2) _;unfold Zbt;have K:Wq (p+1)=p+1:=QR;refine Gets.ite (λN=>?_) (λN=>?_)
 ·refine .at S N λx _ _=>?_
  refine Gets.ite (λ_=>?_) (λ_=>?_)
  ·refine Gets.loop (λv=>0<=v.2.1/\v.2.1<=2/\(v.1.length:Int)<=2*p+v.2.1/\Src (v.2.2.1,v.2.2.2.1,v.2.2.2.2.1,())) (λv=>(2-v.2.1).toNat) ⟨U6 _,by dsimp only;omega,by dsimp only;omega,i⟩ ?_
   rintro⟨o,k,D,l,m,⟨⟩⟩ ⟨j0,J,I,w⟩;dsimp only at j0 J I w;show Gets (Zbr p x o k D l m) _;unfold Zbr;have G:Wq (k+1)=k+1:=QR;rw[G,K];have F:∀{t:Zk} {β:Type} {Q:β->Prop} {f:Int×Zk->Int×Zk->Int×Zk->Int×Zk->Option β},Src t->(∀q a c e:Int×Zk,Src e.2->Gets (f q a c e) Q)->
     Gets ((Zl t (200:Int)).bind λq=>(Zl q.snd (30:Int)).bind λa=>(Zl a.snd (40:Int)).bind λc=>(Zl c.snd (12:Int)).bind λe=>f q a c e) Q:=λV j =>
    (ZE V _).bind λq ⟨_,n⟩=>(ZE n _).bind λa ⟨_,u⟩=>(ZE u _).bind λc ⟨_,z⟩=>(ZE z _).bind λe ⟨_,B⟩=>j q a c e B
   refine Gets.ite (λC=>?_) (λC=>?_)
   ·refine Gets.ite (λ_=>?_) (λ_=>?_)
    ·refine(ZE w _).bind λr ⟨_,d⟩=>?_
     refine Gets.ite (λ_=>?_) (λ_=>?_)
     ·refine F d λq a c e g=>?_
      exact .guard (by grind) (.ret ⟨⟨by dsimp only;omega,by dsimp only;omega,by grind,g⟩,by dsimp only;omega⟩)
     ·refine(ZE d _).bind λr ⟨_,H⟩=>?_
      refine Gets.ite (λ_=>?_) (λ_=>?_)
      ·refine F H λq a c e g=>?_
       exact .guard (by grind) (.ret ⟨⟨by dsimp only;omega,by dsimp only;omega,by grind,g⟩,by dsimp only;omega⟩)
      ·exact .ret ⟨⟨by dsimp only;omega,by dsimp only;omega,by dsimp only;omega,H⟩,by dsimp only;omega⟩
    ·refine(ZE w _).bind λr ⟨_,d⟩=>?_
     refine Gets.ite (λ_=>?_) (λ_=>?_)
     ·refine F d λq a c e g=>?_
      exact .guard (by grind) (.ret ⟨⟨by dsimp only;omega,by dsimp only;omega,by grind,g⟩,by dsimp only;omega⟩)
     ·exact .ret ⟨⟨by dsimp only;omega,by dsimp only;omega,by dsimp only;omega,d⟩,by dsimp only;omega⟩
   ·exact .ret ⟨⟨by dsimp only;omega,by dsimp only;omega,by dsimp only;omega,w⟩,by dsimp only;omega⟩
  ·refine Gets.loop (λv=>0<=v.2.1/\v.2.1<=2/\(v.1.length:Int)<=2*p+v.2.1/\Src (v.2.2.1,v.2.2.2.1,v.2.2.2.2.1,())) (λv=>(2-v.2.1).toNat) ⟨U6 _,by dsimp only;omega,by dsimp only;omega,i⟩ ?_
   rintro⟨o,k,D,l,m,⟨⟩⟩ ⟨j0,J,I,w⟩;dsimp only at j0 J I w;show Gets (Zbs p o k D l m) _;unfold Zbs;have G:Wq (k+1)=k+1:=QR;rw[G,K];refine Gets.ite (λC=>?_) (λC=>?_)
   ·refine(ZE w _).bind λr ⟨_,d⟩=>?_
    refine Gets.ite (λ_=>?_) (λ_=>?_)
    ·refine(ZE d _).bind λq ⟨_,n⟩=>(ZE n _).bind λa ⟨_,u⟩=>(ZE u _).bind λc ⟨_,z⟩=>(ZE z _).bind λe ⟨_,B⟩=>?_
     exact .guard (by grind) (.ret ⟨⟨by dsimp only;omega,by dsimp only;omega,by grind,B⟩,by dsimp only;omega⟩)
    ·exact .ret ⟨⟨by dsimp only;omega,by dsimp only;omega,by dsimp only;omega,d⟩,by dsimp only;omega⟩
   ·exact .ret ⟨⟨by dsimp only;omega,by dsimp only;omega,by dsimp only;omega,w⟩,by dsimp only;omega⟩
 ·refine Gets.ite (λT=>?_) (λ_=>.ret (show out.length<=400/\Src (c0,c1,c2,())from⟨by omega,i⟩))
  refine(ZE i _).bind λr ⟨⟨a0,Y⟩,d⟩=>?_;have A:r.1<(out.length:Int):=by omega
  refine(ZE d _).bind λR ⟨_,H⟩=>?_;have M:∀y:Zj,Gets (some (.inr (List.set out (Int.toNat r.1) y,R.2)):Option (((List Zj)×Int×(List Int)×Int×Int×Unit)⊕((List Zj)×Zk))) (Rnd (λv:(List Zj)×Int×(List Int)×Int×Int×Unit=>0<=v.2.1/\v.2.1<=(P.length:Int)/\(v.1.length:Int)<=2*v.2.1/\Src (v.2.2.1,v.2.2.2.1,v.2.2.2.2.1,())) (λv=>((P.length:Int)-v.2.1).toNat) ((P.length:Int)-p).toNat (λr=>r.1.length<=400/\Src r.2)):=λy =>
   .ret (show(List.set out (Int.toNat r.1) y).length<=400/\Src R.2 from⟨by grind,H⟩)
  refine Gets.ite (λ_=>?_) (λ_=>?_)
  ·exact .at (U6 _) T λ_ _ _=>.at a0 A λ_ _ _=>M _
  refine Gets.ite (λ_=>?_) (λ_=>?_)
  ·exact .at a0 A λ_ _ _=>M _
  refine Gets.ite (λ_=>?_) (λ_=>?_)
  ·exact .at a0 A λ_ _ _=>M _
  refine Gets.ite (λ_=>?_) (λ_=>?_)
  ·exact .at a0 A λ_ _ _=>M _
  ·exact .ret (show out.length<=400/\Src R.2 from⟨by omega,H⟩)
theorem ZyG (w:Src s):Gets (ZaT s) (λr=>ZDJ r.1/\(GW r.2.1).length<=5/\r.2.2.1.length<=7000/\r.2.2.2.1.length<=400/\Src r.2.2.2.2):=by
 unfold ZaT;refine (Zq0 w).bind λx ⟨h,o⟩=>?_;refine (ZuV o).bind λR ⟨v,p⟩=>?_;refine (ZE p _).bind λy ⟨_,j⟩=>?_;have rest:∀ (b:Za) {t:Zk},ZDJ b->Src t->Gets ((JG t b).bind λL =>
   (QI b).bind λIsBlock0 =>
   if IsBlock0=true then
    if(↑(List.length L.fst):Int)=(0:Int)then
     (Zl L.snd (6:Int)).bind λa =>
     if(0:Int)<a.fst then
      (ZdO b).bind λc =>
      (Yc a.snd b).bind λl =>
      some (b,R.fst,c,l.fst,l.snd)
     else
      (Yc a.snd b).bind λl =>
      some (b,R.fst,L.fst,l.fst,l.snd)
    else
     (Yc L.snd b).bind λl =>
     some (b,R.fst,L.fst,l.fst,l.snd)
   else
    (Yc L.snd b).bind λl =>
    some (b,R.fst,L.fst,l.fst,l.snd))
   (λr:Za×Zz×(List Int)×(List Zj)×Zk=>ZDJ r.1/\(GW r.2.1).length<=5/\r.2.2.1.length<=7000/\r.2.2.2.1.length<=400/\Src r.2.2.2.2):=λb t h i=>by
  refine(ZuR i h.1.1).bind λn ⟨e,H⟩=>?_;rw[XO b h.1.1,Bq];have src:∀{t:Zk} (br:List Int),Src t->br.length<=7000->Gets ((Yc t b).bind λl=>some (b,R.fst,br,l.fst,l.snd)) (λr:Za×Zz×(List Int)×(List Zj)×Zk=>ZDJ r.1/\(GW r.2.1).length<=5/\r.2.2.1.length<=7000/\r.2.2.2.1.length<=400/\Src r.2.2.2.2):=λbr i d =>
   (Zov i h.1.1).bind λq ⟨m,g⟩=>.ret ⟨h,v,d,m,g⟩
  refine Gets.ite (λu=>?_) (λ_=>src _ H e);refine Gets.ite (λ_=>?_) (λ_=>src _ H e);refine(ZE H _).bind λz ⟨_,k⟩=>?_;refine Gets.ite (λ_=>?_) (λ_=>src _ k e);exact(Zxf ⟨(YL _).1 u,h.1.1⟩).bind λq m=>src _ k (by omega)
 refine Gets.ite (λ_=>?_) (λ_=>rest x.1 h j);exact(ZmX j (most:=5) (by omega) (by omega) _).bind λn ⟨N,H⟩=>rest n.1 N.f H
theorem ZAk {c:Zz} (h:(GW c).length<=1048576:=by omega):sm XP c:=⟨smS h,trivial,trivial,trivial,trivial,trivial⟩
theorem Zkk {a b:List ZA} (d:a.length=b.length) (f:a.length<=1000:=by omega):Zd9 a b=some (tr (a=b)):=by
 unfold Zd9;rw[QP,V3 (l:=a) (show Len a by unfold Len;omega) (λk x=>b[k]?=some x) (bad:=false) (good:=true) (step:=λv=>QB a b v.1)
  (λk x H c _=>by
   have i:b[k]?=some (b[k]'(by omega)):=Ua _;generalize b[k]'(by omega)=y at i;show(_->QB a b (k:Int)=_)/\(_->QB a b (k:Int)=_);unfold QB;rw[QP,Zo,Zo,H,i,Bq,Bq];have e:(decide (Gc x=Gc y)&&decide (Gg x=Gg y))=eqS x y:=rfl;rw[e];constructor
   ·intro q
    injection q with q
    rw[Uc (Zm6.2 q.symm)]
   ·intro q
    rw[Ue (λz=>q (by rw[Zm6.1 z]))])
  (λ_=>by
   show QB a b (a.length:Int)=_;unfold QB;rw[Ue (Uf _)]),ZiV]
 congr 1;refine tr_same ⟨λh=>?_,λh=>by subst h;exact λk x H=>H⟩;apply Ux;intro k;by_cases c:k<a.length
 ·have H:a[k]?=some (a[k]'c):=Ua _
  rw[H,h k _ H]
 ·rw[Uy (by omega),Uy (by omega)]
where
 tr_same {p q:Prop} (h:p<->q):tr p=tr q:=by
  by_cases z:q
  ·rw[ZX z,ZX (h.2 z)]
  ·rw[Ym z,Ym (λy=>z (h.1 y))]
theorem ZJT {t t':Zf} {n:Nat} (r:Zg1 n t) (H:Zg1 n t') (s:n<=1000:=by omega):Zhb t t'=some (tr (t=t')):=by
 have m:=r.lr;have o:=r.la;have p:=r.ls;have g:=H.lr;have G:=H.la;have j:=H.ls;unfold Zhb;rw[QP,Zkk (by omega),Bq];by_cases Q:Gu t=Gu t';rotate_left
 ·rw[Ue (λz=>Q ((YL _).1 z)),Ym (λz=>Q (by rw[z]))]
 rw[Uc (ZX Q),Zkk (by omega),Bq];by_cases e:Gs t=Gs t';rotate_left
 ·rw[Ue (λz=>e ((YL _).1 z)),Ym (λz=>e (by rw[z]))]
 rw[Uc (ZX e),V3 (l:=K6 t) (show Len (K6 t) by unfold Len;omega) (λk x=>(K6 t')[k]?=some x) (bad:=false) (good:=true) (step:=λv=>QX t t' v.1)
  (λk x d f _=>by
   have i:(K6 t')[k]?=some ((K6 t')[k]'(by omega)):=Ua _;generalize (K6 t')[k]'(by omega)=y at i;show(_->QX t t' (k:Int)=_)/\(_->QX t t' (k:Int)=_);unfold QX;rw[QP,Zo,Zo,d,i,Bq,Bq];constructor
   ·intro q
    injection q with q
    rw[Uc (by rw[q];exact beq_self_eq_true _)]
   ·intro q
    rw[Ue (λz=>q (by rw[eq_of_beq z]))])
  (λ_=>by
   show QX t t' ((K6 t).length:Int)=_;unfold QX;rw[Ue (Uf _)]),ZiV]
 congr 1;refine Zkk.tr_same ⟨λh=>?_,λh=>by subst h;exact λk x d=>d⟩;have E:K6 t=K6 t':=by
  apply Ux;intro k;by_cases f:k<(K6 t).length
  ·have d:(K6 t)[k]?=some ((K6 t)[k]'f):=Ua _
   rw[d,h k _ d]
  ·rw[Uy (by omega),Uy (by omega)]
 obtain⟨a,b,c,⟨⟩⟩:=t;obtain⟨A,X,L,⟨⟩⟩:=t';have E:a=A:=E;have Q:b=X:=Q;have e:c=L:=e;rw[E,Q,e]
end Go.Proofs.YtcjminfjgckdlaaGreatDoor
