/-
  Plain laws: what an edit leaves: Zg, instances, wires at nets that it does not touch.
-/
import Derived.Test.YtoijdogpgpbddaaGreatDoorLB
import Derived.Test.YtoijdogpgpbddaaGreatDoorLC
import Derived.Test.YtoijdogpgpbddaaGreatDoorLA
import Derived.Test.YtoijdogpgpbddaaGreatDoorM
import Derived.Test.YtoijdogpgpbddaaGreatDoorE1
namespace Go.Proofs.YtoijdogpgpbddaaGreatDoor
set_option linter.unusedVariables false
set_option linter.unusedSimpArgs false
open Go Go.Sx
variable {α:Type} {i:Int}
theorem Zo9 {l:List α} {x:α} (h:atI l i=some x):0<=i/\l[i.toNat]?=some x:=by
 unfold atI at h;grind
noncomputable def afN (b:Za) (e:Zh) (k:Nat):Nat:=match (Zg (K2 b))[k]? with
 |some p=>(Zdt b e k p).toNat
 |none=>0
variable {b:Za} {e:Zh} {k:Nat} {p:Pl}
theorem ZlH (g:(Zg (K2 b))[k]?=some p):afN b e k=(Zdt b e k p).toNat:=by
 unfold afN;rw[g]
def ZyU (b:Za) (e:Zh) (k:Nat):Prop:=∀p,(Zg (K2 b))[k]?=some p->0<=Zdt b e k p
variable {q:Pl}
theorem at_one (g:J5 b e p) (h:J5 b e q):p=q:=by
 have:=g.2;rw[h.2]at this;grind
theorem Zqu {pl:List Pl} {K:Nat} {p0:Pl} (m:pl[K]?=some p0) (d:p.2.2.1≠p0.2.2.1) (f:p.2.2.1≠q.2.2.1):(pl.set K q)[k]?=some p<->pl[k]?=some p:=by
 grind
def ZLy (d D:Zb) (i:Nat):Prop:=∀x,(K3 d)[i]?=some x->∃X,(K3 D)[i]?=some X/\Gr X=Gr x/\(Gc X).length=(Gc x).length
theorem ZmT (d:Zb) (a b n:Int) (i:Nat):ZLy d (Xl d a b n) i:=λx h=>by
 have q:=(Ua.1 h).1;have T:i<(K3 (Xl d a b n)).length:=by rw[YG];exact q
 have y:(K3 (Xl d a b n))[i]?=some ((K3 (Xl d a b n))[i]'T):=Ub _;obtain⟨z,H,_,c,f,_⟩:=Zdy y;grind
theorem ZmN {d D:Zb}:∀i,i<=(K3 d).length->(∀j,j<i->∀x,(K3 d)[j]?=some x->∃X,(K3 D)[j]?=some X/\(Gc X).length=(Gc x).length)->fst D i=fst d i
 |0,_,_=>rfl
 |i+1,H,h=>by
  have l:(K3 d)[i]?=some ((K3 d)[i]'(by omega)):=Ub _;obtain⟨X,O,q⟩:=h i (by omega) _ l;rw[Zsv l,Zsv O,q,ZmN i (by omega) λj b=>h j (by omega)]
variable {d:Zb}
theorem ZgB (g:(Zg d)[k]?=some p) (m:0<=p.1):∃(i j:Nat) (x:Zd),p.1=(i:Int)/\(K3 d)[i]?=some x/\(Gc x)[j]?=some p.2.2.1/\k=fst d i+j:=by
 rcases QN g with⟨i,j,x,n,l,f,e,rfl⟩|⟨j,q,b,e,rfl⟩
 ·exact⟨i,j,x,rfl,l,f,e⟩
 grind
variable {j:Nat}
theorem Zjl {i:Nat} {x:Zd} (l:(K3 d)[i]?=some x) (b:j<(Gc x).length):∃p,(Zg d)[fst d i+j]?=some p/\p.1=(i:Int):=by
 have f:(Gc x)[j]?=some ((Gc x)[j]):=Ub _;exact⟨_,Zbs l f,rfl⟩
variable {r:Za}
theorem ZqT {af:Nat->Nat} {U:Int->Prop} (h:Z7 b) (o:ZBQ b r af U) {v:Nat} (a:U (v:Int)) {ws:List Zq} {nd:Nat->Int} (F:K4 r=JM (Zg (K2 r)) ws nd) (H:ws[v]?=(K4 b)[v]?)
  (c:∀(k:Nat) (p:Pl),(Zg (K2 b))[k]?=some p->p.2.2.1=(v:Int)->p.2.2.2.1=false->nd (af k)=YF b k):(K4 r)[v]?=(K4 b)[v]?:=by
 have d:=UN (λz:List Zq=>z[v]?) (Znk h);rw[Qc]at d;rw[F,Qc,H,<-d,Option.map_map]
 conv=>rhs;rw[d]
 have q:cat (Qu (v:Int)) 0 (Zg (K2 r))=(cat (Qu (v:Int)) 0 (Zg (K2 b))).map λy=>(af y.toNat:Int):=Zp8 o a;have e:(cat (Qu (v:Int)) 0 (Zg (K2 r))).map (λk=>nd k.toNat)=(cat (Qu (v:Int)) 0 (Zg (K2 b))).map (λk=>YF b k.toNat):=by
  rw[q,List.map_map];refine Kj λy i=>?_;obtain⟨k,p,rfl,g,Q,j⟩:=Zne i;show nd ((af (k:Int).toNat:Int)).toNat=YF b (k:Int).toNat;rw[Up,Up];grind
 rw[e];cases f:(K4 b)[v]? with
 |none=>rfl
 |some w =>
  grind
abbrev Tch (b r:Za) (l:List Int) (n:Int):Prop:=n ∉ l/\n<((K4 r).length:Int)
variable {l:List Int}
theorem ZCL (h:Ve b e) (F:ZH e b=some r) (K:K7 e=1) (A:ZoK b e l):Loc b r (afN b e) (Tch b r l) (ZyU b e):=by
 have m:=h.blk;have D:=m.ok.1.few;obtain⟨_,p0,x,c,H,J,rfl⟩|q|q|q|q:=A<;>try (have:=q.1;omega)
 rw[app1 m K c H J]at F;injection F with F
 subst F;have d:K2 (ZdT b p0.1 (Gy e))=((K3 (K2 b)).set p0.1.toNat (Gq x,Gy e,Gc x,()),K5 (K2 b),Ge (K2 b),()):=by
  unfold ZdT;rw[J]
 have E:Zg (K2 (ZdT b p0.1 (Gy e)))=Zg (K2 b):=by rw[d,Zg4 J]
 have n:∀(k:Nat) (p:Pl),Zdt b e k p=(k:Int):=λk p=>Zjd (by omega) (λq=>by have:=q.1;omega);have a:∀k,ZyU b e k:=λk p _=>by rw[n];omega
 have f:∀(k:Nat) (p:Pl),(Zg (K2 b))[k]?=some p->afN b e k=k:=λk p g=>by
  rw[ZlH g,n,Up]
 refine⟨⟨λk p g u=>by grind,λk p g u=>⟨k,f k p (E▸g),E▸g⟩,λj k p q g o _ _ w=>by grind⟩,rfl,λv _=>rfl,λk p g u t=>?_,λk _ _ _=>a k⟩
 ·obtain⟨i,j,y,G,s,L,I⟩:=ZgB g t
  have B:p0.1.toNat≠i:=λq=>by
   grind
  rw[show p.1.toNat=i by omega];refine⟨y,y,s,?_,rfl,?_,λq o=>?_⟩
  ·grind
  ·refine ZmN i (by grind) λq _ z T=>?_
   rw[d];grind
  ·obtain⟨Z,C,_⟩:=Zjl s o
   grind
theorem ZCM (h:Ve b e) (o:sm XI e) (F:ZH e b=some r) (s:K7 e=5) (w:ZoK b e l):Loc b r (afN b e) (Tch b r l) (ZyU b e):=by
 have c:=h.blk;have z:=c.ok.1.few;rw[ZF3 c s (h.range.2.2 s) (Zhx o).2]at F;injection F with F
 subst F;have n:∀(k:Nat) (p:Pl),Zdt b e k p=(k:Int):=λk p=>Zjd (by omega) (λq=>by have:=q.1;omega);have a:∀k,ZyU b e k:=λk p _=>by rw[n];omega
 have f:∀(k:Nat) (p:Pl),(Zg (K2 b))[k]?=some p->afN b e k=k:=λk p g=>by
  rw[ZlH g,n,Up]
 obtain q|q|q|q|⟨_,rfl⟩:=w<;>try (have:=q.1;omega)
 refine⟨⟨λk p g u=>by rw[f k p g];exact g,λk p g u=>⟨k,f k p g,g⟩,λj k p q g d _ _ t=>by grind⟩,rfl,λv D=>?_,λk p g u m=>?_,λk p g u=>?_⟩
 ·show((K4 b).set (Gk e).toNat _)[v]?=_
  have x:=(h.range.2.2 s).1;grind
 ·obtain⟨i,j,y,A,H,x,B⟩:=ZgB g m
  rw[show p.1.toNat=i by omega];refine⟨y,y,H,H,rfl,rfl,λq d=>?_⟩;obtain⟨Z,C,_⟩:=Zjl H d;grind
 ·exact a k
theorem ZCJ (h:Ve b e) (F:ZH e b=some r) (K:K7 e=4) (w:ZoK b e l):Loc b r (afN b e) (Tch b r l) (ZyU b e):=by
 have m:=h.blk;have M:=m.ok.1.few;obtain q|q|q|⟨_,p1,hp1,rfl⟩|q:=w<;>try (have:=q.1;omega)
 obtain⟨p0,H,N,_⟩:=h.poss.2.2.2.1 K;obtain rfl:=at_one H hp1;rw[app4 m K H N (h.range.2.1 K).2.1]at F;injection F with F
 subst F;have d:Zg (K2 (moved b (K9 e).toNat p0 (Gk e) (GC e)))=(Zg (K2 b)).set (K9 e).toNat (p0.1,p0.2.1,Gk e,p0.2.2.2.1,()):=XC H.2 _;have n:∀(k:Nat) (p:Pl),Zdt b e k p=(k:Int):=λk p=>Zjd (by omega) (λq=>by have:=q.1;omega);have E:∀k,ZyU b e k:=λk p _=>by rw[n];omega
 have f:∀(k:Nat) (p:Pl),(Zg (K2 b))[k]?=some p->afN b e k=k:=λk p g=>by
  rw[ZlH g,n,Up]
 have t:∀(k:Nat) (p:Pl),Tch b (moved b (K9 e).toNat p0 (Gk e) (GC e)) [p0.2.2.1,Gk e] p.2.2.1->((Zg (K2 (moved b (K9 e).toNat p0 (Gk e) (GC e))))[k]?=some p<->(Zg (K2 b))[k]?=some p):=λk p a=>by
  rw[d];have c:=a.1;simp only[UD,UZ,Ks,not_or]at c;exact Zqu H.2 c.1 c.2
 have u:ZBQ b (moved b (K9 e).toNat p0 (Gk e) (GC e)) (afN b e) (Tch b (moved b (K9 e).toNat p0 (Gk e) (GC e)) [p0.2.2.1,Gk e]) :=
  ⟨λk p g a=>by grind,λk p g a=>⟨k,f k p ((t k p a).1 g),(t k p a).1 g⟩,λj k p q g x _ _ I=>by grind⟩
 refine⟨u,rfl,λv A=>?_,λk p g a C=>?_,λk p g a=>?_⟩
 ·refine ZqT m u A (ws:=K4 b) (nd:=mvN b (K9 e).toNat (GC e)) rfl rfl λk p g J _=>?_
  rw[f k p g];unfold mvN;refine Ue λq=>A.1 ?_;rw[q,H.2]at g;grind
 ·obtain⟨i,j,y,O,o,J,P⟩:=ZgB g C
  obtain⟨Y,s,D,w⟩:=ZmT (K2 b) p0.1 p0.2.1 (Gk e) i y o;rw[show p.1.toNat=i by omega];refine⟨y,Y,o,s,D,?_,λq x=>?_⟩
  ·refine ZmN i (by grind) λq _ z T=>?_
   obtain⟨Z,G,_,B⟩:=ZmT (K2 b) p0.1 p0.2.1 (Gk e) q z T;exact⟨Z,G,B⟩
  ·obtain⟨Q,L,_⟩:=Zjl o x
   grind
 ·exact E k
theorem Zx4 (h:Ve b e) (he:sm XI e) (F:ZH e b=some r) (K:K7 e=2) (U:ZoK b e l):Loc b r (afN b e) (Tch b r l) (ZyU b e):=by
 have o:=h.blk;have hf:=o.ok.1.few;have a4:=o.ok.2.1;have V:=Zbb (K2 b);obtain q|⟨_,p1,hp1,rfl⟩|q|q|q:=U<;>try (have:=q.1;omega)
 obtain⟨p0,c,H,hd,_⟩:=h.poss.2.1 K;obtain rfl:=at_one H hp1;rw[app2 h K (Zhx he).1 H hd]at F;injection F with F
 subst F;have D:Zg (K2 (X6 b e (K9 e).toNat p0))=(Zg (Xw (K2 b) (Zgs b e p0) (Gg e))).set (ZjG b (K9 e).toNat) (p0.1,p0.2.1,((K5 (K2 b)).length:Int),p0.2.2.2.1,()):=Zpt o H.2;have W:(K4 (X6 b e (K9 e).toNat p0)).length=(K4 b).length+1:=by
  show(JM _ (K4 b++[ZqW]) _).length=_;rw[ZeE,Ug];rfl
 have f:∀(k:Nat) (p:Pl),(Zg (K2 b))[k]?=some p->afN b e k=ZjG b k:=λk p g=>by
  have m:=Zcc g;rw[ZlH g];unfold ZjG;by_cases q:p.1<0
  ·rw[Zrq K q,Ue (by grind)]
   omega
  ·rw[Zjd (by omega) (λz=>q z.2),Uc (Nat.lt_of_not_le λz=>q (m.1.2 (by omega))),Up]
 have E:∀k,ZyU b e k:=λk p g=>by
  by_cases q:p.1<0
  ·rw[Zrq K q];omega
  ·rw[Zjd (by omega) (λz=>q z.2)];omega
 have A:∀{n:Int},Tch b (X6 b e (K9 e).toNat p0) [p0.2.2.1,((K5 (K2 b)).length:Int)] n->n≠p0.2.2.1/\n≠((K5 (K2 b)).length:Int):=λa=>by
  grind
 have t:∀(k:Nat) (p:Pl),Tch b (X6 b e (K9 e).toNat p0) [p0.2.2.1,((K5 (K2 b)).length:Int)] p.2.2.1->((Zg (K2 (X6 b e (K9 e).toNat p0)))[k]?=some p<->(Zg (Xw (K2 b) (Zgs b e p0) (Gg e)))[k]?=some p):=λk p a=>by
  rw[D];exact Zqu (Zfn (q:=p0) o H.2) (A a).1 (A a).2
 have u:∀(k:Nat) (p:Pl),Tch b (X6 b e (K9 e).toNat p0) [p0.2.2.1,((K5 (K2 b)).length:Int)] p.2.2.1->(Zg (Xw (K2 b) (Zgs b e p0) (Gg e)))[k]?=some p->∃j,ZjG b j=k/\(Zg (K2 b))[j]?=some p:=λk p a g=>by
  by_cases c1:k<Z5 (K2 b)
  ·rw[ZlG c1]at g
   exact⟨k,Uc c1,g⟩
  by_cases c2:k<Z5 (K2 b)+2
  ·exfalso
   have J:k-Z5 (K2 b)<(Gc (Zgs b e p0)).length:=by show _<2;omega
   have R:=add_mid (d:=K2 b) (s:=Gg e) J;rw[show Z5 (K2 b)+(k-Z5 (K2 b))=k by omega,g]at R;have L:(Gc (Zgs b e p0))[k-Z5 (K2 b)]?=some ((Gc (Zgs b e p0))[k-Z5 (K2 b)]'J):=Ub _;have B:=Zda (i:=(K3 (K2 b)).length) L;rw[<-R]at B;injection B with B
   have w:p.2.2.1∈Gc (Zgs b e p0):=by
    rw[B];exact List.getElem_mem J
   have:p.2.2.1∈[p0.2.2.1,((K5 (K2 b)).length:Int)]:=w;exact a.1 this
  ·have R:=ZkA (d:=K2 b) (x:=Zgs b e p0) (s:=Gg e) (k:=k-2)
   rw[show(Gc (Zgs b e p0)).length=2 from rfl,show k-2+2=k by omega,g]at R;exact⟨k-2,by unfold ZjG;grind,R.symm⟩
 have S:ZBQ b (X6 b e (K9 e).toNat p0) (afN b e) (Tch b (X6 b e (K9 e).toNat p0) [p0.2.2.1,((K5 (K2 b)).length:Int)]):=by
  refine⟨λk p g a=>?_,λk p g a=>?_,λj k p q g N _ _ a1=>?_⟩
  ·rw[f k p g]
   exact(t _ p a).2 (Zfn (q:=p0) o g)
  ·obtain⟨j,I,G⟩:=u k p a ((t k p a).1 g)
   grind
  ·rw[f j p g,f k q N]
   unfold ZjG;split<;>split<;>omega
 refine⟨S,rfl,λv hv=>?_,λk p g a Y=>?_,λk p g a=>?_⟩
 ·have O:v<(K4 b).length:=by
   grind
  refine ZqT o S hv (ws:=K4 b++[ZqW]) (nd:=ZtC b (K9 e).toNat) rfl (Ut O) λk p g L _=>?_;have a3:k≠(K9 e).toNat:=λq=>by
   rw[q,H.2]at g;grind
  rw[f k p g];unfold ZtC;rw[Ue (by unfold ZjG;grind)];unfold ZoV ZjG;by_cases c1:k<Z5 (K2 b)
  ·grind
  ·rw[Ue c1,QQ,QQ,QQ,show k+2-2=k by omega]
 ·obtain⟨i,j,y,hi,C,L,hk⟩:=ZgB g Y
  have a2:=(Ua.1 C).1;have Q:∀(q:Nat) (z:Zd),(K3 (K2 b))[q]?=some z->∃Z,(K3 (K2 (X6 b e (K9 e).toNat p0)))[q]?=some Z/\Gr Z=Gr z/\(Gc Z).length=(Gc z).length:=λq z T=>by
   obtain⟨Z,I,G,X⟩:=ZmT (K2 b) p0.1 p0.2.1 ((K5 (K2 b)).length:Int) q z T;refine⟨Z,?_,G,X⟩;show(K3 (Xl (K2 b) p0.1 p0.2.1 _)++[Zgs b e p0])[q]?=some Z;grind
  obtain⟨y',P,hc,U⟩:=Q i y C;rw[show p.1.toNat=i by omega];refine⟨y,y',C,P,hc,?_,λq N=>?_⟩
  ·refine ZmN i (by omega) λq _ z T=>?_
   obtain⟨Z,I,_,G⟩:=Q q z T;exact⟨Z,I,G⟩
  ·obtain⟨p',M,a0⟩:=Zjl C N
   exact⟨E _,by rw[ZlH M,Zjd (by omega) (λz=>by have:=z.2;omega),Up]⟩
 ·exact E k
theorem Zuh (h:Ve b e) (hr:ZH e b=some r) (R:K7 e=3) (hl:ZoK b e l):Loc b r (afN b e) (Tch b r l) (ZyU b e):=by
 have hB:=h.blk;have hf:=hB.ok.1.few;have b8:=hB.ok.2.1;have b0:=hf.insts;have a8:=Zbb (K2 b);have hL:=h.poss.2.2.1 R;obtain⟨x,c,w,g,l1,Y,l3,l4,l5,l6,l7,l8,l9,a6,b9,d0,d1,d2,d3⟩:=id hL;obtain⟨K,p0,m,hs,J,b5,hm,a0⟩:=app3 hB hL R;obtain q|q|⟨_,x3,y3,C,hy3,rfl⟩|q|q:=hl<;>try (have:=q.1;omega)
 rw[Y]at C;injection C with C
 subst C;have ey:g=y3:=by
  have:=(Zo9 l7).2;grind
 subst ey;have em:=hm x Y;rw[l7]at em;injection em with em
 subst em;rw[a0]at hr;injection hr with hr
 subst hr;have I:Gc x=[g,((K5 (K2 b)).length:Int)-1]:=Zxz l6 l7 l8;have a7:p0.2.2.1=((K5 (K2 b)).length:Int)-1:=by
  have:(K:Int)∈Xx (K2 b) (((K5 (K2 b)).length:Int)-1):=by grind
  obtain⟨k',p',E,o,e3,_⟩:=Zal.1 this;grind
 have a9:(K4 (YO b K p0 g)).length=(K4 b).length-1:=by
  show(JM _ ((K4 b).take ((K4 b).length-1)) _).length=_;rw[ZeE,Uk];omega
 have a2:0<(K5 (K2 b)).length:=by
  have:=(Zo9 a6).2;have:=(Ua.1 this).1;omega
 have U:0<(K3 (Xl (K2 b) p0.1 p0.2.1 g)).length:=by rw[YG];exact l1
 have D:(K3 (Xl (K2 b) p0.1 p0.2.1 g))[(K3 (Xl (K2 b) p0.1 p0.2.1 g)).length-1]?=some ((K3 (Xl (K2 b) p0.1 p0.2.1 g))[(K3 (Xl (K2 b) p0.1 p0.2.1 g)).length-1]'(by omega)):=Ub _;generalize (K3 (Xl (K2 b) p0.1 p0.2.1 g))[(K3 (Xl (K2 b) p0.1 p0.2.1 g)).length-1]'(by omega)=x' at D;obtain⟨y,F,_,_,a5,_⟩:=Zdy D;rw[YG,Y]at F;injection F with F
 have a3:(Gc x').length=2:=by rw[a5,<-F,l6]
 have h5:=Zhb U D a3;have h6:=ZgA J g;have P:=ZhY (s:=[]) U D;have W:=XC J g;have eD:K2 (YO b K p0 g)=YK (Xl (K2 b) p0.1 p0.2.1 g):=rfl;have X:∀{n:Int},Tch b (YO b K p0 g) [g] n->n≠g/\n≠((K5 (K2 b)).length:Int)-1/\n<((K5 (K2 b)).length:Int)-1:=λ{n} a=>by
  grind
 have t:∀(k:Nat) (p:Pl),Tch b (YO b K p0 g) [g] p.2.2.1->((Zg (Xl (K2 b) p0.1 p0.2.1 g))[k]?=some p<->(Zg (K2 b))[k]?=some p):=λk p a=>by
  rw[W];exact Zqu J (by grind) (X a).1
 have S:∀k,k+2<Z5 (K2 b)->(Zg (K2 (YO b K p0 g)))[k]?=(Zg (Xl (K2 b) p0.1 p0.2.1 g))[k]?:=λk hk=>by
  rw[eD,P];exact(ZlG).symm
 have Q:∀k,Z5 (K2 b)<=k+2->(Zg (K2 (YO b K p0 g)))[k]?=(Zg (Xl (K2 b) p0.1 p0.2.1 g))[k+2]?:=λk hk=>by
  have:=ZkA (d:=YK (Xl (K2 b) p0.1 p0.2.1 g)) (x:=x') (s:=[]) (k:=k);grind
 have G:∀(k:Nat) (p:Pl),(Zg (K2 b))[k]?=some p->Tch b (YO b K p0 g) [g] p.2.2.1->0<=p.1->p.1≠((K3 (K2 b)).length:Int)-1/\k+2<Z5 (K2 b):=λk p H a O=>by
  have u:p.1≠((K3 (K2 b)).length:Int)-1:=λq=>by
   obtain⟨i,j,z,hi,T,hn,hk⟩:=ZgB H O;rw[show i=(K3 (K2 b)).length-1 by omega,Y]at T;injection T with T
   have:=Ud hn;rw[<-T,I]at this;simp only[UD,UZ,Ks]at this;rcases this with z|z
   all_goals grind
  refine⟨u,?_⟩;have:=Zn0 l1 Y H O;grind
 have a1:2<=Z5 (K2 b):=by omega
 have f:∀(k:Nat) (p:Pl),(Zg (K2 b))[k]?=some p->Tch b (YO b K p0 g) [g] p.2.2.1->(0<=Zdt b e k p/\afN b e k=k/\k+2<Z5 (K2 b))\/(0<=Zdt b e k p/\afN b e k=k-2/\Z5 (K2 b)<=k):=λk p H a=>by
  have L:=Zcc H;by_cases q:p.1<0
  ·have:=L.1.1 q
   refine .inr ⟨by rw[Zrr R q];omega,?_,by omega⟩;rw[ZlH H,Zrr R q];omega
  ·obtain⟨M,N⟩:=G k p H a (by omega)
   refine .inl ⟨by rw[Zrs R q M];omega,?_,N⟩;rw[ZlH H,Zrs R q M,Up]
 have hP:ZBQ b (YO b K p0 g) (afN b e) (Tch b (YO b K p0 g) [g]):=by
  refine⟨λk p H a=>?_,λk p H a=>?_,λj k p q H B up uq b2=>?_⟩
  ·rcases f k p H a with⟨_,E,o⟩|⟨_,E,o⟩
   ·rw[E,S k o]
    exact(t k p a).2 H
   ·rw[E,Q (k-2) (by omega),show k-2+2=k by omega]
    exact(t k p a).2 H
  ·by_cases c1:k+2<Z5 (K2 b)
   ·rw[S k c1]at H
    have H:=(t k p a).1 H;rcases f k p H a with⟨_,E,o⟩|⟨_,E,o⟩
    ·exact⟨k,E,H⟩
    ·omega
   ·rw[Q k (by omega)]at H
    have H:=(t (k+2) p a).1 H;rcases f (k+2) p H a with⟨_,E,o⟩|⟨_,E,o⟩
    ·omega
    ·exact⟨k+2,by rw[E];omega,H⟩
  ·rcases f j p H up with⟨_,E,o⟩|⟨_,E,o⟩<;>rcases f k q B uq with⟨_,f1,f2⟩|⟨_,f1,f2⟩<;>rw[E,f1]<;>omega
 refine⟨hP,rfl,λv hv=>?_,λk p H a O=>?_,λk p H a=>?_⟩
 ·have b7:=(X hv).2.2
  refine ZqT hB hP hv (ws:=(K4 b).take ((K4 b).length-1)) (nd:=unN b K) rfl (by rw[UB,QP]) λk p H hn _=>?_;have a:Tch b (YO b K p0 g) [g] p.2.2.1:=by rw[hn];exact hv
  have u:k≠K:=λq=>by
   grind
  unfold unN Zqe mvN;rcases f k p H a with⟨_,E,o⟩|⟨_,E,o⟩
  ·rw[E,QP,Ue u]
  ·rw[E,QQ,show k-2+2=k by omega,Ue u]
 ·obtain⟨i,j,y,hi,F,hn,hk⟩:=ZgB H O
  have b3:=(Ua.1 F).1;obtain⟨b4,_⟩:=G k p H a O;have hK:∀(q:Nat) (z:Zd),q+1<(K3 (K2 b)).length->(K3 (K2 b))[q]?=some z->∃Z,(K3 (K2 (YO b K p0 g)))[q]?=some Z/\Gr Z=Gr z/\(Gc Z).length=(Gc z).length:=λq z B T=>by
   obtain⟨Z,M,N,g3⟩:=ZmT (K2 b) p0.1 p0.2.1 g q z T;refine⟨Z,?_,N,g3⟩;show((K3 (Xl (K2 b) p0.1 p0.2.1 g)).take _)[q]?=some Z;rw[YG,UB,QP];exact M
  obtain⟨y',a4,hc,hl⟩:=hK i y (by omega) F;rw[show p.1.toNat=i by omega];refine⟨y,y',F,a4,hc,?_,λq B=>?_⟩
  ·refine ZmN i (by omega) λq b6 z T=>?_
   obtain⟨Z,M,_,N⟩:=hK q z (by omega) T;exact⟨Z,M,N⟩
  ·obtain⟨p',V,b1⟩:=Zjl F B
   have ea:=Zrs (b:=b) (k:=fst (K2 b) i+q) R (p:=p');exact ⟨λp2 A=>by
    rw[V]at A;injection A with A
    rw[<-A,ea];omega,by rw[ZlH V,ea,Up]⟩
 ·intro q B
  rw[H]at B;injection B with B
  subst B;rcases f k p H a with⟨e0,_⟩|⟨e0,_⟩<;>exact e0
theorem ZCI (h:Ve b e) (m:sm XI e) (F:ZH e b=some r) (q:ZoK b e l):Loc b r (afN b e) (Tch b r l) (ZyU b e):=by
 by_cases d:K7 e=1
 ·exact ZCL h F d q
 by_cases f:K7 e=2
 ·exact Zx4 h m F f q
 by_cases R:K7 e=3
 ·exact Zuh h F R q
 by_cases o:K7 e=4
 ·exact ZCJ h F o q
 ·exact ZCM h m F (by have:=h.blank;unfold Blank at this;omega) q
def goes (af:List Int) (n:Int):Int:=(af[(n/2).toNat]?).getD 0
def carry (af:List Int) (x:Zj):Zj:=(Wq (Wq (2*goes af (Gi x))+Int.tmod (Gi x) 2),x.2)
variable {af:List Int}
theorem ZEI {n:Int} (m:0<=n) (d:n<=2*(af.length:Int)-1) (f:af.length<=1048576):atI af (Wq (Int.tdiv n 2))=some (goes af n):=by
 rw[U1 m,QR];have t:(n/2).toNat<af.length:=by omega
 have a:=Ub t;rw[Yr (by omega) a];unfold goes;rw[a];rfl
variable {l:List Zj} {x:Zj}
theorem ZA9 {f:Zj->Zj} (H:l[k]?=some x):List.set ((l.take k).map f++l.drop k) k (f x)=(l.take (k+1)).map f++l.drop (k+1):=by
 have a:=(Ua.1 H).1;have h:((l.take k).map f).length=k:=by grind
 have N:l.drop k=x::l.drop (k+1):=by
  rw[Kw a];grind
 rw[N,Xf H,Kd,List.set_append]
 simp_all
theorem ZBZ {f:Zj->Zj} (h:l[k]?=some x):((l.take k).map f++l.drop k)[k]?=some x:=by
 grind
theorem ZgI (b:Za) (e:Zh) (l:List Zj) (o:sm Ya b) (g:sm XI e) (u:l.length<=1048576:=by omega):∃r,Ji b e l=some r/\r.1.length<=1048576/\
  ((r.2=0/\Ve b e/\Zei l (ZaU (2*((Zg (K2 b)).length:Int)) l)/\Zei l (λ_ x=>0<=goes (after b e) (Gi x))/\r.1=l.map (carry (after b e)))\/(r.2≠0/\r.1=[]/\¬(Ve b e/\Zei l (ZaU (2*((Zg (K2 b)).length:Int)) l)/\Zei l (λ_ x=>0<=goes (after b e) (Gi x))))):=by
 obtain⟨c,i,y,n⟩:=ZpC b e o g;unfold Ji;rw[i,Bq];by_cases a:c=0
 ·have h:=n a
  have w:=ZQ h.blk.ok.1.few;obtain⟨v,p,m,_⟩:=Zmc h.blk;rw[Uc a,p,Bq,ZfN h.blk v m l u,Bq];by_cases s:Zei l (ZaU (2*((Zg (K2 b)).length:Int)) l)
  ·have t:=ZyS b e
   rw[Uc (ZY s),Zid h,Bq];unfold QO;rw[Zk (by grind),Bq,Uw];have d:∀(k:Nat) (x:Zj),l[k]?=some x->atI (after b e) (Wq (Int.tdiv (Gi x) 2))=some (goes (after b e) (Gi x)):=λk x H=>by
    have:=(s k x H).1;exact ZEI this.1 (by rw[t];omega) (by rw[t];omega)
   have j:=ZjW (l:=l) (ρ:=List Zj×Int) (λk=>((k:Int),(l.take k).map (carry (after b e))++l.drop k,())) (λ_ x=>0<=goes (after b e) (Gi x)) (step:=λv=>Zaj l (after b e) v.1 v.2.1) (bad:=([],5)) (good:=(l.map (carry (after b e)),0))
    (λk x H A _=>by
     simp only[Zaj,show(k:Int)<(l.length:Int)from by omega,Ui,Zp,H,Bq,Zg9,d k x H,Ul,ZBZ H,Up,Y3 (show k<=1048576 by omega)];constructor
     ·intro q
      rw[Uc q,show((Wq (Wq (2*goes (after b e) (Gi x))+Int.tmod (Gi x) 2),x.2):Zj)=carry (after b e) x from rfl,ZA9 H]
     grind)
    (λ_=>by simp only[Zaj,Uf,Uh,Uq,List.drop_length,Un])
   simp only[Kt,KZ,Uw,KE]at j;rw[show((0:Nat):Int)=0 from rfl]at j;rw[j];by_cases f:Zei l (λ_ x=>0<=goes (after b e) (Gi x))
   ·rw[Vh f]
    grind
   ·rw[QF f]
    grind
  ·rw[Ue (λq=>s ((YS _).1 q))]
   grind
 ·rw[Ue a]
  exact ⟨_,rfl,by simp,.inr ⟨a,rfl,λz=>by
   have:=(Zws z.1 g).2;grind⟩⟩
theorem ZHi (h:Ve b e) (o:Lens b e r) (H:k<2*(Zg (K2 b)).length:=by omega) :
  ∃q,atI (after b e) (Wq (Int.tdiv (k:Int) 2))=some q/\((after b e)[k/2]?).getD 0=q/\-1<=q/\q<((Zg (K2 r)).length:Int):=by
 have i:=ZQ h.blk.ok.1.few;have g:(Zg (K2 b))[k/2]?=some ((Zg (K2 b))[k/2]'(by omega)):=Ub _;generalize (Zg (K2 b))[k/2]'(by omega)=p at g;have a:=ZtI (e:=e) g;obtain⟨d,f⟩:=Zr7 h o g;exact⟨Zdt b e (k/2) p,by rw[ZFV,Zp,a],by rw[a];rfl,d,f⟩
variable {n:Nat}
theorem ZFP {q:Int} (m:0<=q:=by omega) (d:2*q+2<=(n:Int):=by omega) (f:n<=1048576:=by omega):Wq (Wq (2*q)+Int.tmod (k:Int) 2)=2*q+((k%2:Nat):Int)/\(2*q+((k%2:Nat):Int)).toNat<n:=by
 rw[ZFW,QR (n:=2*q),QR];grind
theorem Zv7 {l:List α} (q:l.length=n) (m:0<=i) (d:i.toNat<n):∃x,atI l i=some x :=
 ⟨l[i.toNat]'(by omega),Yr m (Ub _)⟩
variable {t:Zf}
theorem Ztr (h:Ve b e) (F:Z7 r) (o:Lens b e r) (y:ZiW (2*((Zg (K2 b)).length:Int)) t) :
  ZA (λv=>VE t (after b e) ((Ga t).length:Int) v.1 v.2.1 v.2.2.1 v.2.2.2.1) ((0:Int),Ga (ZBO (2*(Zg (K2 r)).length)),Gx (ZBO (2*(Zg (K2 r)).length)),Gv (ZBO (2*(Zg (K2 r)).length)),())=some (ZbQ (after b e) t (2*(Zg (K2 r)).length)):=by
 have p:=ZQ h.blk.ok.1.few;have u:=ZQ F.ok.1.few;obtain⟨V,T,U,W⟩:=y;have j:Len (Ga t):=by unfold Len;omega
 generalize B:2*(Zg (K2 r)).length=n;refine Zgv (l:=Ga t) j (λ(s:Zf) (i:Int)=>(i,Ga s,Gx s,Gv s,())) (f:=ZjC (after b e) t) (λ_ s=>Zr5 n s) (ZsT n) ?_ ?_
 ·intro k x s g m _
  have A:=(Ua.1 g).1;obtain⟨q,Q,z,C,D⟩:=ZHi h o (k:=k);have d:(Gx t)[k]?=some ((Gx t)[k]'(by omega)):=Ub _;have H:(Gv t)[k]?=some ((Gv t)[k]'(by omega)):=Ub _;generalize (Gx t)[k]'(by omega)=a at d;generalize (Gv t)[k]'(by omega)=w at H;refine⟨?_,Zog m⟩;simp only[VE,Zg9,show(k:Int)<((Ga t).length:Int)from by omega,Ui,Q,Bq,Zp,g,d,H,Ul];unfold ZjC;rw[z,d,H];by_cases c:q<0
  ·grind
  ·obtain⟨w1,w2⟩:=ZFP (n:=n) (k:=k) (q:=q)
   rw[QP,Ue c,w1];obtain⟨X,Y⟩:=Zv7 m.1 (by omega) w2;obtain⟨E,I⟩:=Zv7 m.2.1 (by omega) w2;obtain⟨G,J⟩:=Zv7 m.2.2 (by omega) w2;grind
 ·intro s m H
  simp only[VE,Uf,Uh];rw[H];rfl
theorem Ztq (h:Ve b e) (H:sm XI e) (F:ZH e b=some r) (d:ZiW (2*((Zg (K2 b)).length:Int)) t):Zbi e b t=some (ZbQ (after b e) t (2*(Zg (K2 r)).length)):=by
 obtain⟨f,a,g,i,_,R⟩:=Zg5 h H;rw[F]at a;injection a with a
 subst a;have c:=ZQ i.ok.1.few;obtain⟨v,p,m,_⟩:=Zmc i;unfold Zbi;rw[F,Bq,p,Bq,ZnJ i.ok.1.few v m,Bq,Zid h,Bq,show ZcW (Ga t)=some ((Ga t).length:Int)from rfl,Bq];exact Ztr h i R d
theorem Zwj (h:Ve b e) (g:(Zg (K2 b))[k]?=some p) (m:0<=Zdt b e k p) :
  (K7 e=2/\(p.1<0/\Zdt b e k p=(k:Int)+2\/¬p.1<0/\Zdt b e k p=(k:Int)))\/
  (K7 e=3/\(p.1<0/\Zdt b e k p=(k:Int)-2\/¬p.1<0/\k+(Ge (K2 b)).length+2<(Zg (K2 b)).length/\Zdt b e k p=(k:Int)))\/
  (K7 e≠2/\K7 e≠3/\Zdt b e k p=(k:Int)):=by
 by_cases f:K7 e=2
 ·refine .inl ⟨f,?_⟩
  by_cases q:p.1<0
  ·exact .inl ⟨q,Zrq f q⟩
  ·exact .inr ⟨q,Zjd (by omega) (λz=>q z.2)⟩
 by_cases R:K7 e=3
 ·refine .inr (.inl ⟨R,?_⟩)
  by_cases q:p.1<0
  ·exact .inl ⟨q,Zrr R q⟩
  ·refine .inr ⟨q,?_⟩
   obtain⟨n,x,l,T⟩:=h.last R;have H:=Zn0 n l g;by_cases z:p.1=((K3 (K2 b)).length:Int)-1
   ·rw[ZyQ R q z]at m
    omega
   ·refine⟨?_,Zrs R q z⟩
    grind
 ·exact .inr (.inr ⟨f,R,Zjd R (λq=>f q.1)⟩)
theorem Zno (h:Ve b e) (g:(Zg (K2 b))[j]?=some p) (H:(Zg (K2 b))[k]?=some q) (m:0<=Zdt b e j p) (d:0<=Zdt b e k q) (a:j<k:=by omega):Zdt b e j p<Zdt b e k q:=by
 have G:=Zcc g;have c:=Zcc H;have f:=Zwj h g m;have F:=Zwj h H d;omega
theorem ZyR (h:Ve b e) (g:(Zg (K2 b))[j]?=some p) (H:(Zg (K2 b))[k]?=some q) (m:0<=Zdt b e j p) (d:0<=Zdt b e k q) (a:Zdt b e j p=Zdt b e k q:=by omega):j=k:=by
 rcases KK j k with z|z|z
 ·have:=Zno h g H m d z;omega
 ·exact z
 ·have:=Zno h H g d m z;omega
def alv (af:List Int) (k:Nat):Prop:=0<=(af[k/2]?).getD 0
def pos (af:List Int) (k:Nat):Int:=2*(af[k/2]?).getD 0+((k%2:Nat):Int)
variable {x:Bool}
theorem Zyu {o:Zf} (a:(Ga t)[k]?=some x) (H:Zr5 n o) (h:alv af k) (f:pos af k<(n:Int)) (u:Int):Zab (ZjC af t k x o) u=if u=pos af k then Zab t (k:Int)else Zab o u:=by
 have I:0<=pos af k:=by unfold pos;unfold alv at h;omega
 have e:((2*(af[k/2]?).getD 0+((k%2:Nat):Int)).toNat:Int)=pos af k:=by unfold pos at I ⊢;omega
 obtain⟨L,j,b⟩:=H;unfold ZjC;rw[Ue (by unfold alv at h;omega)];by_cases q:u=pos af k
 ·rw[Uc q]
  subst q;have g:∀{α:Type} (l:List α) (y:α),l.length=n->atI (List.set l (2*(af[k/2]?).getD 0+((k%2:Nat):Int)).toNat y) (pos af k)=some y:=λl y H=>by
   rw[at_set,Uc e.symm];unfold atI;grind
  unfold Zab;show((atI (List.set (Ga o) _ x) (pos af k)).getD false,(atI (List.set (Gx o) _ _) (pos af k)).getD V5,(atI (List.set (Gv o) _ _) (pos af k)).getD V5)=_;rw[g _ _ L,g _ _ j,g _ _ b,Zp,Zp,Zp,a];rfl
 ·rw[Ue q]
  unfold Zab;show((atI (List.set (Ga o) _ x) u).getD false,(atI (List.set (Gx o) _ _) u).getD V5,(atI (List.set (Gv o) _ _) u).getD V5)=_;rw[at_set,at_set,at_set,Ue (by rw[e];exact q),Ue (by rw[e];exact q),Ue (by rw[e];exact q)]
theorem ZBr {o:Zf} (n:¬alv af k):ZjC af t k x o=o:=by
 unfold ZjC;rw[Uc (by unfold alv at n;omega)]
theorem ZBs {af:List Int} {t:Zf} {n:Nat} (I:∀k,k<(Ga t).length->alv af k->pos af k<(n:Int)) (H:∀j k,j<(Ga t).length->k<(Ga t).length->alv af j->alv af k->pos af j=pos af k->j=k):∀m,m<=(Ga t).length->
  (∀k,k<m->alv af k->Zab (V7 (ZjC af t) 0 ((Ga t).take m) (ZBO n)) (pos af k)=Zab t (k:Int))/\(∀u:Int,(∀k,k<m->alv af k->pos af k≠u)->Zab (V7 (ZjC af t) 0 ((Ga t).take m) (ZBO n)) u=ZKW)
 |0,_=>by
  refine⟨λk b=>by omega,λu _=>?_⟩;have g:∀{α:Type} (z:α),(atI (List.replicate n z) u).getD z=z:=λz=>by
   unfold atI;grind
  show(((atI (List.replicate n false) u).getD false,(atI (List.replicate n V5) u).getD V5,(atI (List.replicate n V5) u).getD V5):Row)=_;rw[g,g];rfl
 |m+1,R=>by
  obtain⟨f,i⟩:=ZBs I H m (by omega);have l:(Ga t)[m]?=some ((Ga t)[m]'(by omega)):=Ub _;rw[Zgu l];have q:Zr5 n (V7 (ZjC af t) 0 ((Ga t).take m) (ZBO n)):=ZpJ (Zr5 n) (λk x s h=>Zog h) _ _ _ (ZsT n);generalize V7 (ZjC af t) 0 ((Ga t).take m) (ZBO n)=o at *;by_cases a:alv af m
  ·have e:=Zyu l q a (I m (by omega) a)
   refine⟨λk b d=>?_,λu c=>?_⟩
   ·grind
   ·rw[e,Ue (λz=>c m (by omega) a z.symm)]
    exact i u λk b=>c k (by omega)
  ·rw[ZBr a]
   refine⟨λk b d=>?_,λu c=>i u λk b=>c k (by omega)⟩;grind
theorem after_at (g:(Zg (K2 b))[k]?=some p):((after b e)[k]?).getD 0=Zdt b e k p:=by
 rw[ZtI g];rfl
section
variable {b r:Za} {e:Zh}
variable {k:Nat}
theorem Zlk {d:Zb} (H:k<2*(Zg d).length:=by omega):∃p,(Zg d)[k/2]?=some p:=⟨_,Ub (by omega)⟩
variable {t:Zf}
theorem Zon (h:Ve b e) (s:Lens b e r) (B:(Ga t).length=YD b) :
  (∀(k:Nat) (p:Pl) (a:Nat),a<2->(Zg (K2 b))[k]?=some p->0<=Zdt b e k p->Zab (ZbQ (after b e) t (YD r)) (2*Zdt b e k p+(a:Int))=Zab t (2*(k:Int)+(a:Int)))/\
  (∀u:Int,(∀(k:Nat) (p:Pl) (a:Nat),a<2->(Zg (K2 b))[k]?=some p->0<=Zdt b e k p->2*Zdt b e k p+(a:Int)≠u)->Zab (ZbQ (after b e) t (YD r)) u=ZKW):=by
 have x:=nN b;have N:=nN r;have c:∀ (k:Nat) (p:Pl),(Zg (K2 b))[k / 2]?=some p->((after b e)[k / 2]?).getD 0=Zdt b e (k / 2) p:=λk p g=>after_at g;have M:=ZBs (af:=after b e) (t:=t) (n:=YD r) (λk l f=>by
  obtain⟨p,g⟩:=Zlk (d:=K2 b) (k:=k);have:=(Zr7 h s g).2;unfold alv at f;unfold pos;grind) (λj k z l A i H=>by
  obtain ⟨p,g⟩:=Zlk (d:=K2 b) (k:=j);obtain ⟨q,m⟩:=Zlk (d:=K2 b) (k:=k);unfold alv at A i;unfold pos at H;rw[c j p g] at A H;rw[c k q m] at i H;have:=ZyR h g m A i;omega) (Ga t).length (UO _)
 rw[Uq]at M;obtain⟨v,w⟩:=M;refine⟨λk p a f g y=>?_,λu C=>?_⟩
 ·have l:=(Ua.1 g).1
  have E:(2*k+a)/2=k:=by omega
  have o:(2*k+a)%2=a:=by omega
  have:=v (2*k+a) (by omega) (by unfold alv;grind);unfold pos at this;rw[E,o,after_at g]at this;rw[show 2*(k:Int)+(a:Int)=((2*k+a:Nat):Int) by omega,<-this];rfl
 ·refine w u λk l f=>?_
  obtain⟨p,g⟩:=Zlk (d:=K2 b) (k:=k);unfold alv at f;unfold pos;grind
theorem Znh (h:Ve b e) (o:Lens b e r) (H:ZiW (YD b:Int) t) (k:Nat):ZyL (Zab (ZbQ (after b e) t (YD r)) (k:Int)):=by
 obtain⟨c1,c2⟩:=Zon (r:=r) h o (t:=t) (by have:=H.1;omega);by_cases q:∃(j:Nat) (p:Pl) (a:Nat),a<2/\(Zg (K2 b))[j]?=some p/\0<=Zdt b e j p/\2*Zdt b e j p+(a:Int)=(k:Int)
 ·obtain⟨j,p,a,n,g,m,c⟩:=q
  rw[<-c,c1 j p a n g m];have d:=(Ua.1 g).1;have x:=nN b;have:=Zr0 H (k:=2*j+a);grind
 ·rw[c2 (k:Int) λj p a n g m z=>q ⟨j,p,a,n,g,m,z⟩]
  exact ZA0
theorem ZuQ (h:Ve b e) (o:Lens b e r) (a:ZiW (YD b:Int) t):Zhy (YD r) (ZbQ (after b e) t (YD r)):=by
 obtain⟨L,j,c⟩:=Zv8 (after b e) t (YD r);refine⟨L,j,c,λs q=>?_⟩;obtain⟨k,H⟩:=UC.1 q;have l:=(Ua.1 H).1;have x:(Ga (ZbQ (after b e) t (YD r)))[k]?=some ((Ga (ZbQ (after b e) t (YD r)))[k]'(by omega)):=Ub _;have n:(Gx (ZbQ (after b e) t (YD r)))[k]?=some ((Gx (ZbQ (after b e) t (YD r)))[k]'(by omega)):=Ub _;have:=Znh (r:=r) h o a k;rw[ZA2 x n H]at this;exact ZBd this.2.1
theorem Zyt (h:Ve b e) (o:Lens b e r) (H:ZiW (YD b:Int) t):ZiW (YD r:Int) (ZbQ (after b e) t (YD r)) :=
 ZrU (ZuQ h o H) λk _=>Znh h o H k
variable {x:Zj} {p:Pl} {a:Int}
theorem Zla (g:(Zg (K2 b))[k]?=some p) (H:0<=a/\a<=1:=by omega) (l:Gi x=2*(k:Int)+a:=by omega) (o:-2<=Zdt b e k p:=by omega) (i:Zdt b e k p<=1000000:=by omega):Gi (carry (after b e) x)=2*Zdt b e k p+a:=by
 show Wq (Wq (2*goes (after b e) (Gi x))+Int.tmod (Gi x) 2)=_;have h:goes (after b e) (Gi x)=Zdt b e k p:=by
  unfold goes;rw[l,show((2*(k:Int)+a)/2).toNat=k by omega];exact after_at g
 rw[h,l,Int.tmod_eq_emod_of_nonneg (by omega),show(2*(k:Int)+a)%2=a by omega,QR (n:=2*Zdt b e k p),QR]
theorem Zmi (h:Ve b e) (o:Lens b e r) (F:Z7 r) (l:0<=Gi x/\Gi x<=(YD b:Int)-1) (m:0<=goes (after b e) (Gi x)):∃(k:Nat) (p:Pl) (a:Int),(0<=a/\a<=1)/\(Zg (K2 b))[k]?=some p/\Gi x=2*(k:Int)+a/\0<=Zdt b e k p/\Zdt b e k p<((Zg (K2 r)).length:Int)/\Gi (carry (after b e) x)=2*Zdt b e k p+a:=by
 have E:=nN b;have d:=ZQ F.ok.1.few;have H:(Gi x/2).toNat<(Zg (K2 b)).length:=by omega
 have g:(Zg (K2 b))[(Gi x/2).toNat]?=some ((Zg (K2 b))[(Gi x/2).toNat]'H):=Ub _;generalize (Zg (K2 b))[(Gi x/2).toNat]'H=p at g;have c:goes (after b e) (Gi x)=Zdt b e (Gi x/2).toNat p:=after_at g;rw[c]at m;have C:=Zr7 h o g;refine⟨(Gi x/2).toNat,p,Gi x%2,by omega,g,by omega,m,C.2,Zla g⟩
variable {l:List Zj}
theorem ZB0 (h:Ve b e) (o:Lens b e r) (F:Z7 r) (s:Zei l (ZaU (YD b:Int) l)) (g:Zei l (λ_ x=>0<=goes (after b e) (Gi x))):Zei (l.map (carry (after b e))) (ZaU (YD r:Int) (l.map (carry (after b e)))):=by
 have N:=nN r;intro k y i;rw[UL,Km]at i;obtain⟨x,H,rfl⟩:=i;obtain⟨S,w,A,B⟩:=s k x H;obtain⟨j,p,a,K,v,G,d,I,m⟩:=Zmi h o F S (g k x H);refine⟨by omega,λy n i=>?_,A,B⟩;rw[UL,Km]at i;obtain⟨X,O,rfl⟩:=i;obtain⟨J,Z,D,t,C,z,E,f,c⟩:=Zmi h o F (s _ X O).1 (g _ X O);have u:=w X n O;rw[m,c];by_cases q:J=j
 ·grind
 ·have:=Zno h C v E d
  omega
theorem Zv5 (h:Ve b e) (o:Lens b e r) (F:Z7 r) (s:Zei l (ZaU (YD b:Int) l)) (n:Zei l (λ_ x=>0<=goes (after b e) (Gi x))) (v:(Zg (K2 b))[k]?=some p) (d:0<=Zdt b e k p) (D:0<=a/\a<=1) :
  Zhj (l.map (carry (after b e))) (2*Zdt b e k p+a)=Zhj l (2*(k:Int)+a):=by
 have y:∀x∈l,(Gi (carry (after b e) x)=2*Zdt b e k p+a<->Gi x=2*(k:Int)+a):=λx w=>by
  obtain⟨i,H⟩:=UC.1 w;obtain⟨j,Z,A,t,C,E,c,B,f⟩:=Zmi h o F (s i x H).1 (n i x H);rw[f,E];constructor
  ·intro z
   have:=ZyR h C v c d;omega
  grind
 have g:∀(l:List Zj) (m:Nat) (st:NSt),(∀x∈l,(Gi (carry (after b e) x)=2*Zdt b e k p+a<->Gi x=2*(k:Int)+a))->V7 (λ_ x st=>if Gi x=2*Zdt b e k p+a then some (GM x,GR x)else st) m (l.map (carry (after b e))) st=V7 (λ_ x st=>if Gi x=2*(k:Int)+a then some (GM x,GR x)else st) m l st:=by
  intro l;induction l with
  |nil=>exact λ_ _ _=>rfl
  |cons x l I =>
   intro m st u;show V7 _ (m+1) (l.map (carry (after b e))) _=V7 _ (m+1) l _;have E:(if Gi (carry (after b e) x)=2*Zdt b e k p+a then some (GM (carry (after b e) x),GR (carry (after b e) x))else st)=(if Gi x=2*(k:Int)+a then some (GM x,GR x)else st):=by
    by_cases q:Gi x=2*(k:Int)+a
    ·rw[Uc q,Uc ((u x UJ).2 q)]
     rfl
    grind
   simp_all
 exact g l 0 none y
end
theorem fold_filter {σ:Type} (f:Zt->σ->σ) (u:Int) (live:List Bool):∀(L:List Zt) (m:Nat) (s:σ),(∀k,k<L.length->(live[m+k]?).getD false=true)->
  V7 (λk x st=>if(live[k]?).getD false=true then(if Gm x=u then f x st else st)else st) m L s=(L.filter (toB u)).foldl (λst x=>f x st) s
 |[],_,_,_=>rfl
 |x::L,m,s,h=>by
  have H:=h 0 (by simp);rw[U7] at H;simp only[V7];rw[Uc H,fold_filter f u live L (m+1) _ λk a=>by
   rw[show m+1+k=m+(k+1) by omega]
   simp_all]
  by_cases q:Gm x=u
  ·rw[Uc q,List.filter_cons_of_pos (by unfold toB;grind)]
   rfl
  ·rw[Ue q,List.filter_cons_of_neg (by unfold toB;grind)]
theorem ZrE {α σ:Type} {f g:σ->α->σ}:∀(L:List α) (s:σ),(∀x∈L,∀st,f st x=g st x)->L.foldl f s=L.foldl g s
 |[],_,_=>rfl
 |x::L,s,h=>by
  rw[List.foldl_cons,List.foldl_cons,h x UJ,ZrE L _ λy i=>h y (UM _ i)]
variable {b:Za}
theorem ZGP {k:Nat} (H:k<(Zz b).length):((Jg b [])[k]?).getD false=true:=by
 unfold Jg Zgp;grind
theorem Zm3 {c:ZB} {l:List Zj} {t:Zf} {u:Int}:Za3 b c (Jg b []) l t u=((Zz b).filter (toB u)).foldl (λst x=>ZoG b c t x st) (Zhj l u):=by
 unfold Za3;exact fold_filter (λx st=>ZoG b c t x st) u (Jg b []) (Zz b) 0 _ λk H=>by rw[Us];exact ZGP H
section
variable {b r:Za} {af:Nat->Nat} {U:Int->Prop} {A:Nat->Prop}
variable {k:Nat} {p:Pl} {a:Int}
theorem Zyc (h:Loc b r af U A) (m:Z7 b) (F:Z7 r) (I:∀v:Nat,U (v:Int)->v<(K4 r).length) (o:(Zg (K2 b))[k]?=some p) (u:U p.2.2.1) (j:0<=a/\a<=1) {c:ZB} {l l':List Zj} {t t':Zf}
  (H:Zhj l' (2*(af k:Int)+a)=Zhj l (2*(k:Int)+a)) (n:∀x∈Zz b,Gm x=2*(k:Int)+a->Zab t' (Gj (shL af x))=Zab t (Gj x)) (hsp:∀x∈Zz b,Gm x=2*(k:Int)+a->∀s,spn r c (shL af x) s=spn b c x s) :
  Za3 r c (Jg r []) l' t' (2*(af k:Int)+a)=Za3 b c (Jg b []) l t (2*(k:Int)+a):=by
 rw[Zm3,Zm3,ZAp h m F I o u j,List.foldl_map,H];refine ZrE _ _ λx q st=>?_;obtain⟨d,J⟩:=KI.1 q;unfold toB at J;rw[Ul]at J;have e:=n x d J;have E:=hsp x d J;unfold Zab at e;have f:=UN Prod.fst e;have g:=UN (λz:Row=>z.2.1) e;have i:=UN (λz:Row=>z.2.2) e;dsimp only at f g i;unfold ZoG;rw[f,g,i,E]
theorem ZAm (h:Loc b r af U A) (g:Z7 b) (F:Z7 r) (I:∀v:Nat,U (v:Int)->v<(K4 r).length) (s:(Zg (K2 b))[k]?=some p) (B:U p.2.2.1) (u:0<=a/\a<=1) {x:Zt} (V:x∈Zz b) (ht:Gm x=2*(k:Int)+a) :
  ∃(j:Nat) (q:Pl) (c:Int),(0<=c/\c<=1)/\(Zg (K2 b))[j]?=some q/\A j/\Gj x=2*(j:Int)+c/\Gj (shL af x)=2*(af j:Int)+c:=by
 have o:=XP g.ok.1 (Ud s);obtain⟨v,C⟩:∃v:Nat,p.2.2.1=(v:Int):=⟨p.2.2.1.toNat,by have:=o.1;omega⟩;have Q:v<(K4 r).length:=I v (C▸B);have R:=g.ok.2.1;have T:=F.ok.2.1;have P:v<(K5 (K2 b)).length:=by have:=o.2;omega
 have i:x∈(Zz b).filter (toB (2*(k:Int)+a)):=KI.2 ⟨V,by unfold toB;grind⟩;have S:∀(j:Nat) (c:Int),(0<=c/\c<=1)->Gj x=2*(j:Int)+c->Gj (shL af x)=2*(af j:Int)+c:=λj c H e=>by
  show 2*(af (Gj x/2).toNat:Int)+Gj x%2=_;grind
 cases N:p.2.2.2.1 with
 |false =>
  rw[ZnR g s u N (by omega) C]at i;obtain⟨j,q,c,H,_,_,_,_,l,_⟩:=ZsS (KI.1 i).1;obtain⟨d,y,G,X,E,Y,_⟩:=ZAo h.toZBQ g F (v:=v) (by omega) (by omega) (C▸B);rw[G]at l;exact⟨d,y,c,H,E,h.alv d y E (by grind),l,S d c H l⟩
 |true =>
  by_cases z:p.1<0
  ·rw[ZnQ g s u N z]at i
   cases i
  ·obtain⟨y,y',D,W,Z,L,w⟩:=h.inst k p s B (by omega)
   rw[Zp7 g s u N D]at i;obtain⟨f,n,j,t,c1,ix,m,M,J,e,K,_⟩:=ZmU g D (KI.1 i).1;obtain⟨q,O,_⟩:=Zjl D m;have l:Gj x=2*((fst (K2 b) p.1.toNat+f:Nat):Int)+t:=by rw[e];rfl
   exact⟨_,q,t,M,O,(w f m).1,l,S _ t M l⟩
end
theorem ZGu {α β:Type} (g:α->β) (l:List α) (i:Int):atI (l.map g) i=(atI l i).map g:=by
 unfold atI;grind
section
variable {b r:Za} {af:Nat->Nat} {U:Int->Prop} {A:Nat->Prop}
variable {k:Nat} {p:Pl}
theorem ZEp (h:Loc b r af U A) (g:(Zg (K2 b))[k]?=some p) (a:U p.2.2.1):Zim (K6 r) (K2 r) p=Zim (K6 b) (K2 b) p:=by
 unfold Zim;have C:GL p=p.1:=rfl;by_cases q:GL p<0
 ·grind
 ·obtain⟨x,X,l,O,c,_⟩:=h.inst k p g a (by omega)
  rw[Ue q,Ue q,C,Yr (by omega) l,Yr (by omega) O,Bq,Bq,h.lib,c]
variable {v:Nat} {w:Zq}
theorem Zug (h:Loc b r af U A) (e:Z7 b) (F:Z7 r) (d:U (v:Int)) (m:(K4 b)[v]?=some w):Zao r (v:Int)=Zao b (v:Int):=by
 have H:=e.ok.1.few;have a:=F.ok.1.few;unfold Zao;rw[Zp,Zp,h.wire v d,m,Bq,Bq,ZP _ H,ZP _ a,Xn _ _ H,Xn _ _ a];refine UN (Option.bind _) ?_;funext l0;simp only[Bq];refine UN (λf=>ZA f _) ?_;funext u;obtain⟨i,l,⟨⟩⟩:=u;show ZaS r w (Zg (K2 r)) (Xx (K2 r) (v:Int)) i l=ZaS b w (Zg (K2 b)) (Xx (K2 b) (v:Int)) i l;unfold ZaS;rw[Zp8 h.toZBQ d,UW];by_cases q:i<((Xx (K2 b) (v:Int)).length:Int)
 ·rw[Uc q,Uc q,ZGu]
  cases atI (Gu w) i with
  |none=>rfl
  |some z =>
   rw[Bq,Bq];cases atI l z with
   |none=>rfl
   |some y =>
    rw[Bq,Bq];cases j:atI (Xx (K2 b) (v:Int)) i with
    |none=>rfl
    |some s =>
     obtain⟨k,p,rfl,g,E,_⟩:=Zal.1 (at_mem j);have c:U p.2.2.1:=by rw[E];exact d
     rw[UV,Bq,Bq,Up,Zp,Zp,h.to k p g c,g,Bq,Bq,ZEp h g c]
 grind
theorem ZrA (h:Loc b r af U A) (H:Z7 b) (F:Z7 r) (a:U (v:Int)) (c:(K4 b)[v]?=some w):Zat r (v:Int)=Zat b (v:Int):=by
 unfold Zat;rw[Zp,Zp,h.wire v a,Zug h H F a c]
theorem Zre (h:Loc b r af U A) (H:Z7 b) (F:Z7 r) (a:U (v:Int)) (c:(K4 b)[v]?=some w) (m:Int):VR r (v:Int) m=VR b (v:Int) m:=by
 unfold VR;rw[ZrA h H F a c];refine UN (Option.bind _) ?_;funext l0;refine UN (λf=>ZA f _) ?_;funext u;show Qq r (v:Int) m l0 u.1 u.2.1=Qq b (v:Int) m l0 u.1 u.2.1;unfold Qq;rw[Zp,Zp,h.wire v a]
theorem ZDg (h:Loc b r af U A) (H:Z7 b) (F:Z7 r) (a:U (v:Int)) (c:(K4 b)[v]?=some w) (i s m:Int):ZdQ r (v:Int) i s m=ZdQ b (v:Int) i s m:=by
 unfold ZdQ;rw[Zp,Zp,h.wire v a,ZrA h H F a c]
theorem ZFh (h:Loc b r af U A) (g:Z7 b) (F:Z7 r) (j:(Zg (K2 b))[k]?=some p) (u:U p.2.2.1) {a:Int} (R:0<=a/\a<=1) {x:Zt} (P:Gm x=2*(k:Int)+a) (c:ZB) (s:ZC):spn r c (shL af x) s=spn b c x s:=by
 have d:=g.ok.1.few;have e:=F.ok.1.few;have C:=h.to k p j u;have J:=(Ua.1 j).1;have K:=(Ua.1 C).1;have L:=ZQ d;have Y:=ZQ e;have i:=XP g.ok.1 (Ud j);obtain⟨v,B⟩:∃v:Nat,p.2.2.1=(v:Int):=⟨p.2.2.1.toNat,by have:=i.1;omega⟩;have w:v<(K4 b).length:=by have:=i.2;have:=g.ok.2.1;omega
 have n:(K4 b)[v]?=some ((K4 b)[v]'w):=Ub _;have f:U (v:Int):=B▸u;have l:Gm (shL af x)=2*(af k:Int)+a:=by
  show 2*(af (Gm x/2).toNat:Int)+Gm x%2=_;grind
 have E:atI (Zg (K2 b)) (Wq (Int.tdiv (Gm x) (2:Int)))=some p:=by
  rw[P,U1 (by omega),QR,show(2*(k:Int)+a)/2=(k:Int) by omega,Zp];exact j
 have N:atI (Zg (K2 r)) (Wq (Int.tdiv (Gm (shL af x)) (2:Int)))=some p:=by
  rw[l,U1 (by omega),QR,show(2*(af k:Int)+a)/2=(af k:Int) by omega,Zp];exact C
 have z:Int.tmod (Gm (shL af x)) (2:Int)=Int.tmod (Gm x) (2:Int):=by
  grind
 have H:ZdR r (shL af x)=ZdR b x:=by
  unfold ZdR;rw[ZP _ d,ZP _ e,Bq,Bq,E,N,Bq,Bq];have D:GL p=p.1:=rfl;have M:ZG.net p=(v:Int):=B;rw[D,M,Zug h g F f n,h.lib];by_cases q:0<=p.1
  ·obtain⟨y,S,Q,o,G,_⟩:=h.inst k p j u q
   rw[Yr q Q,Yr q o,Bq,Bq,G];rfl
  ·unfold atI
   grind
 have t:ZdS r (shL af x)=some (v:Int)/\ZdS b x=some (v:Int):=by
  unfold ZdS;rw[ZP _ d,ZP _ e,Bq,Bq,E,N];grind
 have I:∀s m:Int,JD r c (shL af x) s m=JD b c x s m:=λs m=>by
  unfold JD;rw[H,z,t.1,t.2,Bq,Bq,Zre h g F f n];rfl
 have O:∀s m:Int,Qh r (shL af x) s m=Qh b x s m:=λs m=>by
  unfold Qh;rw[H,z,t.1,t.2,Bq,Bq,ZDg h g F f n];rfl
 unfold spn ZbI;simp only[I,O]
end
theorem ZCw {b:Za} (h:Z7 b) {v:ZW} (j:VOk b v) {live:List Bool} {C:List Bool} (H:C.length=YD b) (node:Int) :
  ZU (toL b live node) (C,((v,live,()):Yc),())=some (tr (Fed b live C node (Zz b).length)):=by
 have n:=ZFS h live node;have e:ZW.links (GO ((v,live,()):Yc))=Zz b:=j.links;rw[Jr (by unfold Len;omega) (λy=>((atI (Zz b) y).bind λx=>atI C (Gj x)).getD false) (λy i=>by
  obtain ⟨k,x,l,rfl,_,_⟩:=Zwa.1 i;obtain ⟨c,q⟩:=ZGF h H (Ud l);show VY (k:Int) C ((v,live,()):Yc)=_;unfold VY;rw[e,Zp,l,Bq,Bq,q];rfl)]
 congr 1;rw[KA,KO,YS];constructor
 ·rintro⟨y,i,g⟩
  obtain⟨k,x,l,rfl,d,f⟩:=Zwa.1 i;rw[Zp,l,Bq]at g;obtain⟨c,q⟩:=ZGF h H (Ud l);rw[q,UX]at g;subst g;exact⟨k,x,(Ua.1 l).1,l,d,f,q⟩
 ·rintro⟨k,x,m,l,d,f,a⟩
  refine⟨(k:Int),Zwa.2 ⟨k,x,l,rfl,d,f⟩,?_⟩;rw[Zp,l,Bq,a];rfl
section
variable {b:Za} {c:ZB} {br:List Int} {l:List Zj} {v:ZW}
variable {C:List Bool} {dirty:List Int} {ρ:Type}
theorem ZCv (d:Zkt b c br l) (a:VOk b v) (H:C.length=YD b) (node:Int) (N:dirty.length<=1048576) (T F:Option ρ) :
  ((Ym dirty node).bind λx=>if x=true then T else(ZcF ((v,Jg b br,()):Yc) node).bind λto0=>(ZU to0 (C,((v,Jg b br,()):Yc),())).bind λy=>if y=true then T else F)=if due b (Jg b br) dirty C node=true then T else F:=by
 have h:=d.blk;have m:(Jg b br).length=(Zz b).length:=ZhW _ _;rw[ZgG (by unfold Len;omega),Bq,ZpQ h a m,Bq,ZCw h a H,Bq];unfold due;by_cases q:node∈dirty
 ·rw[Uc (UU q),Uc (ZY (.inl q))]
 grind
variable {node:Int}
theorem ZFi {l0 c:List Bool} {L j:List ZC} {x C:Bool} {a s:ZC} (l:atI l0 node=some x) (n:atI L node=some a) (h:atI j node=some s) (q:atI c node=some C) (r:Bool×Zj) (F:Bool->ρ) :
  ((atI l0 node).bind λX=>if (r.1 == X)=true then (atI L node).bind λb=>if eqS (GM r.2) b=true then (atI j node).bind λA=>(atI c node).bind λ_=>some (F (!(eqS (GR r.2) A))) else (atI c node).bind λ_=>(atI j node).bind λ_=>some (F true)
   else (atI c node).bind λ_=>(atI L node).bind λ_=>(atI j node).bind λ_=>some (F true))=some (F (ZGb x a s r)):=by
 rw[l,n,h,q];simp only[Bq];unfold ZGb;rw[show(r.1==x)=(x==r.1)from Bool.beq_comm,ZwD _ a,ZwD _ s];grind
variable {t:Zf} {k:Nat}
theorem ZFc {n:Nat} {c:List Bool} (r:Zhy n t) (H:c.length=n) (h:k<n):∃C,atI c (k:Int)=some C:=⟨_,by rw[Zp];exact Ub (by omega)⟩
theorem ZsA (g:Zkt b c br l) (E:VOk b v) (O:l.length<=1048576) {ord:List Int} (N:dirty.length<=1048576) {d:List Int} (u:Zhy (YD b) t) (f:C.length=YD b) (B:ord[k]?=some node) (o:k<=1048576) (I:d.length<=1048576) (P:0<=node/\node<(YD b:Int)) :
  X7 ((v,Jg b br,()):Yc) c l dirty ord d (k:Int) (Ga t) (Gx t) (Gv t) C=some (match due b (Jg b br) dirty C node with
   |true=>match Zsb (newV b c (Jg b br) l t node)with
    |true=>.inr ([],false,t)
    |false=>.inl (d++[node],((k+1:Nat):Int),Ga (Zjm t node.toNat (newV b c (Jg b br) l t node)),Gx (Zjm t node.toNat (newV b c (Jg b br) l t node)),Gv (Zjm t node.toNat (newV b c (Jg b br) l t node)),List.set C node.toNat (Zks b c (Jg b br) l t node.toNat),())
   | false=>.inl (d,((k+1:Nat):Int),Ga t,Gx t,Gv t,C,())):=by
 have h:=g.blk;have K:=ZgZ h;have p:(Jg b br).length=(Zz b).length:=ZhW _ _;have n:Len l:=by unfold Len;omega
 have J:=(Ua.1 B).1;obtain⟨j,rfl⟩:∃j:Nat,node=(j:Int):=⟨node.toNat,by omega⟩;have A:j<YD b:=by omega
 obtain⟨x,a,s,G,w,D⟩:=Ztp u A;obtain⟨M,m⟩:=ZFc u f A;have L:=ZBG (b:=b) (c:=c) (live:=Jg b br) (l:=l) G w D;have e:=Zox h E g.cor p u n (ZDY g.src) (j:Int);rw[show ZyD (j:Int) (Za3 b c (Jg b br) l t (j:Int))=newV b c (Jg b br) l t (j:Int)from rfl]at e;unfold X7;rw[QP,Zp,B,Bq,ZCv g E f (j:Int) N,Y3 o,Zk (by grind)];cases y:due b (Jg b br) dirty C (j:Int)with
 |false=>grind
 |true =>
  rw[Uc rfl];show(Xy _ c l t (j:Int)).bind _=_;rw[e,Bq,Up,L];generalize newV b c (Jg b br) l t (j:Int)=r;have H:=ZFi G w D m r (F:=λz=>(Sum.inl (d++[(j:Int)],((k+1:Nat):Int),Ga (Zjm t j r),Gx (Zjm t j r),Gv (Zjm t j r),List.set C j z,()):(List Int×Int×List Bool×List ZC×List ZC×List Bool×Unit)⊕(List Int×Bool×Zf)));by_cases Q:r.1=true
  ·rw[Uc Q,show J7 r.2.2.1=some (tr (Za2 (GM r.2)))from Zc7 _,Bq]
   have i:Zsb r = !tr (Za2 (GM r.2)):=by
    unfold Zsb;grind
   rw[i];by_cases q:Za2 (GM r.2)
   ·rw[Uc (ZY q),ZY q]
    exact H
   ·rw[Ue (λz=>q ((YS _).1 z)),Yq q]
    rfl
  ·rw[Ue Q]
   have i:Zsb r=false:=by
    unfold Zsb;grind
   rw[i];exact H
theorem Zoh (m:Zkt b c br l) (n:VOk b v) (s:l.length<=1048576) {dirty:List Int} (N:dirty.length<=1048576) {TO:List Int×Int} (o:TO.1.length<=1000/\∀u∈TO.1,0<=u/\u<(YD b:Int)) :
  ∀(r:List Int) (k:Nat) (d:List Int) (t:Zf) (h:List Bool),TO.1.drop k=r->k<=TO.1.length->d.length<=k->Zhy (YD b) t->h.length=YD b->
   ZA (λu=>X7 ((v,Jg b br,()):Yc) c l dirty TO.1 u.1 u.2.1 u.2.2.1 u.2.2.2.1 u.2.2.2.2.1 u.2.2.2.2.2.1) (d,(k:Int),Ga t,Gx t,Gv t,h,())=some ((Zn7 b c (Jg b br) l dirty r d t h).2.1,(Zn7 b c (Jg b br) l dirty r d t h).1,(Zn7 b c (Jg b br) l dirty r d t h).2.2)
 |[],k,d,t,h,F,w,p,j,f=>by
  have q:k=TO.1.length:=by
   have:=UN List.length F;grind
  subst q;refine Y1 ?_;show X7 ((v,Jg b br,()):Yc) c l dirty TO.1 d (TO.1.length:Int) (Ga t) (Gx t) (Gv t) h=_;unfold X7;rw[Ue (Uf _)];rfl
 |node::r,k,d,t,h,F,w,p,j,f=>by
  have g:k<TO.1.length:=by
   grind
  have e:TO.1[k]?=some node:=by
   have:=UN (λz=>z[0]?) F;grind
  have i:TO.1.drop (k+1)=r:=by
   rw[<-List.tail_drop,F];rfl
  have C:=o.2 node (Ud e);have a:=ZsA m n s N (ord:=TO.1) j f e (by omega) (d:=d) (by omega) C;unfold Zn7;cases y:due b (Jg b br) dirty h node with
  |false =>
   rw[y]at a;have I:=Zoh m n s N o r (k+1) d t h i g (by omega) j f;exact(Xk a).trans I
  |true =>
   rw[y]at a;cases H:Zsb (newV b c (Jg b br) l t node)with
   |true =>
    rw[H]at a;exact Y1 a
   |false =>
    rw[H]at a;have I:=Zoh m n s N o r (k+1) (d++[node]) (Zjm t node.toNat (newV b c (Jg b br) l t node)) (List.set h node.toNat (Zks b c (Jg b br) l t node.toNat)) i g (by grind)
     (Zqo j _ (Zs7 (ZnX m n j _ _) _)) (by grind)
    exact(Xk a).trans I
end
theorem ZB4 {t:Zf} {n:Nat} (r:Zhy n t) (h:n<=1048576:=by omega):Zd3 t=some t:=by
 have d:=r.lr;have f:=r.la;have g:=r.ls;unfold Zd3 ZcJ Qn;rw[Zk (by grind),Zk (by grind),Zk (by grind)];rfl
variable {b:Za}
theorem Zva (h:Z7 b) {v:ZW} (a:VOk b v) {nd:List Int} (c:nd.length<=1048576):Zbm v nd=some (tr (Zlt (YD b:Int) nd)):=by
 have f:=ZgZ h;unfold Zbm;rw[Zpg h a,Bq,QR];exact ZpW nd _ c
theorem Zwe (b:Za) (c:ZB) (br:List Int) (l:List Zj) (t:Zf) (dirty:List Int) (p:sm Ya b) (u:sm XR c) (j:br.length<=1048576) (k:l.length<=1048576) (N:dirty.length<=1048576:=by omega) :
    ∃r n,Zd4 b c br l t dirty=some r/\r.2.1.length<=1048576/\Zhy n r.1/\n<=1048576/\
      ((Zkt b c br l/\ZiW (YD b:Int) t/\Zlt (YD b:Int) dirty/\((r.2.2=0/\(true,r.2.1,r.1)=Zn7 b c (Jg b br) l dirty (Jm b br).1 [] t (List.replicate (YD b) false))\/(r.2.2=3/\r.1=noT/\r.2.1=[]/\(Zn7 b c (Jg b br) l dirty (Jm b br).1 [] t (List.replicate (YD b) false)).1=false)))\/
       (r.2.2≠0/\r.1=noT/\r.2.1=[]/\(r.2.2=7/\Pre b c br l/\ZiW (YD b:Int) t/\(Jm b br).2≠true\/¬(Pre b c br l/\ZiW (YD b:Int) t/\Zlt (YD b:Int) dirty)))):=by
  have M:(YD b:Int)=2*((Zg (K2 b)).length:Int):=by have:=nN b;omega
  rw[M];unfold Zd4;have e:Zhy 0 noT:=⟨rfl,rfl,rfl,λs w=>by cases w⟩;rcases ZBD b c br l t p u j k with⟨code,f,E,x⟩|⟨v,a,i,g,E⟩
  · rw[E,Bq,Ue f]
    exact⟨_,0,rfl,by simp,e,by omega,.inr ⟨f,rfl,rfl,x.elim .inl λq=>.inr λz=>q ⟨z.1,z.2.1⟩⟩⟩
  · have h:=a.blk
    have y:=ZgZ h;rw[E,Bq,Uc rfl,Bq,show Zbm (GO ((v,Jg b br,()):Yc)) dirty=_ from Zva h g N,Bq];rw[<-M];by_cases d:Zlt (YD b:Int) dirty
    · have H:=ZLw i
      have o:=ZsY b br;rw[Uc (ZY d),ZB4 H,Bq];unfold Zgy;rw[show Xe (GO ((v,Jg b br,()):Yc))=some (YD b:Int)from Zpg h g,Bq,Ra,Ra,Ra,Ra];have w1:=Zoh a g k N (TO:=((Jm b br).1,0)) ⟨by grind,o.2⟩ (Jm b br).1 0 [] t (List.replicate (YD b) false) rfl (Nat.zero_le _) (UO _) H (UQ);rw[Up];obtain⟨A,U⟩:=Zs9 b c (Jg b br) l dirty (n:=YD b) (P:=Zhy (YD b)) (λt node m=>Zqo m _ (Zs7 (ZnX a g m _ _) _)) (Jm b br).1 [] t (List.replicate (YD b) false) H;generalize Zn7 b c (Jg b br) l dirty (Jm b br).1 [] t (List.replicate (YD b) false)=R at *;rw[show(ZA (λV=>X7 ((v,Jg b br,()):Yc) c l dirty (Jm b br).1 V.1 V.2.1 V.2.2.1 V.2.2.2.1 V.2.2.2.2.1 V.2.2.2.2.2.1) (([]:List Int),(0:Int),Ga t,Gx t,Gv t,List.replicate (YD b) false,()))=_ from w1,Bq];obtain⟨ok,dn,T⟩:=R;cases ok with
      |true=>exact⟨_,YD b,rfl,by grind,U,by omega,.inl ⟨a,by rw[M];exact i,d,.inl ⟨rfl,rfl⟩⟩⟩
      |false=>exact⟨_,0,rfl,by simp,e,by omega,.inl ⟨a,by rw[M];exact i,d,.inr ⟨rfl,rfl,rfl,rfl⟩⟩⟩
    · rw[Ue (λq=>d ((YS _).1 q))]
      exact⟨_,0,rfl,by simp,e,by omega,.inr ⟨by grind,rfl,rfl,.inr λz=>d z.2.2⟩⟩
def Y8 {α:Type} (o:Option α) (Q:α->Prop):Prop:=∃a,o=some a/\Q a
variable {α:Type} {a:α} {Q:α->Prop}
theorem Y8.ret (h:Q a):Y8 (some a) Q:=⟨a,rfl,h⟩
variable {β:Type} {o:Option α} {P:α->Prop}
theorem Y8.bind {f:α->Option β} {Q:β->Prop} (h:Y8 o P) (k:∀a,P a->Y8 (f a) Q):Y8 (o.bind f) Q:=by
 obtain⟨a,e,g⟩:=h;rw[e];exact k a g
variable {p:Prop}
theorem Y8.guard (h:p) (k:Y8 o Q):Y8 (Zy p o) Q:=by rw[Zk h];exact k
theorem Y8.ite [Decidable p] {a b:Option α} (d:p->Y8 a Q) (f:¬p->Y8 b Q):Y8 (if p then a else b) Q:=by
 split
 ·exact d (by assumption)
 ·exact f (by assumption)
variable {l:List α} {i:Int}
theorem Y8.at {f:α->Option β} {Q:β->Prop} (m:0<=i) (d:i<(l.length:Int)) (k:∀x,x∈l->l[i.toNat]?=some x->Y8 (f x) Q):Y8 ((atI l i).bind f) Q:=by
 obtain⟨x,e,h⟩:=Zrw m d;rw[e];exact k x (Ud h) h
theorem Y8.mono (h:Y8 o P) (k:∀a,P a->Q a):Y8 o Q:=by
 obtain⟨a,e,g⟩:=h;exact⟨a,e,k a g⟩
theorem Y8.of (e:o=some a) (h:Q a):Y8 o Q:=⟨a,e,h⟩
def Rnd {τ ρ:Type} (I:τ->Prop) (μ:τ->Nat) (m:Nat) (Q:ρ->Prop):τ⊕ρ->Prop
 | .inl v=>I v/\μ v<m
 | .inr r=>Q r
theorem Y8.loop {τ ρ:Type} {step:τ->Option (τ⊕ρ)} (I:τ->Prop) (μ:τ->Nat) {Q:ρ->Prop} {v:τ} (m:I v) (q:∀v,I v->Y8 (step v) (Rnd I μ (μ v) Q)):Y8 (ZA step v) Q:=by
 refine Zh0 I μ Q m (λv i=>?_);obtain⟨r,e,h⟩:=q v i;cases r with
 |inl v'=>exact .inl ⟨v',e,h⟩
 |inr r=>exact .inr ⟨r,e,h⟩
structure Src (s:Zm):Prop where
 code:∀x∈G8 s,0<=x/\x<=255
 len:(G8 s).length<=5000
 at0:0<=Zm.at s
 at1:Zm.at s<=5000
 sd0:0<=GU s
 sd1:GU s<2147483647
def Bel (n k:Int):Prop:=0<=k/\(k<n\/k=0)
variable {s:Zm}
theorem ZI (H:Src s) (n:Int):Y8 (Zl s n) (λr=>Bel n r.1/\Src r.2):=by
 obtain⟨h,l,a0,A,s0,S⟩:=H;unfold Zl;split
 ·exact .ret ⟨⟨U6 _,.inr rfl⟩,⟨h,l,a0,A,s0,S⟩⟩
 rename_i d;split
 ·rename_i t
  refine .at a0 t λx c _=>?_;obtain⟨b0,U⟩:=h x c;have E:Wq (Zm.at s+1)=Zm.at s+1:=QR;have i:Wq x=x:=QR;have e:Wq (GU s*48271)=GU s*48271:=QR;have f:Wq (GU s*48271+x)=GU s*48271+x:=QR;have b:Wq (GU s*48271+x+1)=GU s*48271+x+1:=QR;simp only[i,e,f,b,E];split
  ·refine .guard (by omega) (.ret ⟨⟨Kx _ b0,.inl (Kq _ (by omega))⟩,⟨h,l,?_,?_,s0,S⟩⟩)
   ·show 0<=Zm.at s+1;omega
   ·show Zm.at s+1<=5000;omega
  ·have g:=Kx (a:=GU s*48271+x+1) 2147483647 (by omega)
   have k:=Kq (GU s*48271+x+1) (show(0:Int)<2147483647 by omega);refine .guard (by omega) (.ret ⟨⟨Kx _ g,.inl (Kq _ (by omega))⟩,⟨h,l,?_,?_,g,k⟩⟩)
   ·show 0<=Zm.at s+1;omega
   ·show Zm.at s+1<=5000;omega
 ·have e:Wq (GU s*48271)=GU s*48271:=QR
  have f:Wq (GU s*48271+11)=GU s*48271+11:=QR;simp only[e,f];have g:=Kx (a:=GU s*48271+11) 2147483647 (by omega);have k:=Kq (GU s*48271+11) (show(0:Int)<2147483647 by omega);generalize (GU s*48271+11).tmod 2147483647=q at g k;have D:q.tdiv 7=q/7:=U1 g;rw[D,QR (n:=q/7)];exact .guard (by omega) (.ret ⟨⟨Kx _ (by omega),.inl (Kq _ (by omega))⟩,⟨h,l,a0,A,g,k⟩⟩)
variable {code:List Int}
theorem ZrF (q:∀x∈code,0<=x/\x<=255) (H:code.length<=5000:=by omega):Y8 (Zfu code) Src:=by
 unfold Zfu;refine Y8.loop (λv=>0<=v.1/\v.1<=64/\0<=v.2.1/\v.2.1<2147483647) (λv=>(64-v.1).toNat) ⟨U6 _,by show(0:Int)<=64;omega,by show(0:Int)<=12345;omega,by show(12345:Int)<2147483647;omega⟩ ?_;rintro⟨i,c,⟨⟩⟩ ⟨I,j,c0,c1⟩;simp only at I j c0 c1;have M:Y8 (some (.inr (code,(0:Int),c,()):(Int×Int×Unit)⊕Zm)) (Rnd (λv:Int×Int×Unit=>0<=v.1/\v.1<=64/\0<=v.2.1/\v.2.1<2147483647) (λv=>(64-v.1).toNat) ((λv:Int×Int×Unit=>(64-v.1).toNat) (i,c,())) Src) :=
  .ret (show Src (code,(0:Int),c,())from⟨q,H,U6 _,by show(0:Int)<=5000;omega,c0,c1⟩)
 show Y8 (Zf5 code i c) _;unfold Zf5;split
 ·rename_i l
  split
  ·rename_i h
   refine .at I l λx a _=>?_;obtain⟨b0,U⟩:=q x a;have E:Wq (i+1)=i+1:=QR;have e:Wq x=x:=QR;have k:Wq (c*31)=c*31:=QR;have f:Wq (c*31+x)=c*31+x:=QR;simp only[E,e,k,f];refine .ret ⟨⟨?_,?_,Kx _ (by omega),Kq _ (by omega)⟩,?_⟩
   ·show 0<=i+1;omega
   ·show i+1<=64;omega
   ·show(64-(i+1)).toNat<(64-i).toNat;omega
  ·exact M
 ·exact M
theorem Zz2 (q:∀x∈code,0<=x/\x<=255) (h:code.length<=4096):Y8 (Zfu code) Src:=ZrF q
theorem ZsW {n:Int} (c:0<=n:=by omega) (d:n<100:=by omega):Y8 (Vw n) (λr=>r.length<=2):=by
 have one:∀(k:Nat) (m:Int),0<=m->m<10->V6 (k+1) m=some (bytesOf [IntKind.wrap IntKind.u8 (Wq (48+m))]):=λk m a b=>by
  show XO (V6 k) m=_;unfold XO;rw[QQ,Uc b]
 have H:∀x:Int,(bytesOf [x]).length=1:=λx=>rfl;unfold Vw;by_cases h:n<10
 ·refine .of (ZAT ⟨1,one 0 n c h⟩ (λk r F=>?_)) (by rw[H];omega)
  cases k with
  |zero=>cases F
  |succ k=>rw[one k n c h]at F;injection F with F;exact F.symm
 ·have N:n.tdiv 10=n/10:=U1 c
  have two:∀k:Nat,V6 (k+2) n=some (bytesOf [IntKind.wrap IntKind.u8 (Wq (48+n/10))]++bytesOf [IntKind.wrap IntKind.u8 (Wq (48+n.tmod 10))]):=λk=>by
   show XO (V6 (k+1)) n=_;unfold XO;rw[QQ,Ue h,N,QR (n:=n/10),one k (n/10) (by omega) (by omega),Bq,Zk (by rw[H,H];omega)]
  refine .of (ZAT ⟨2,two 0⟩ (λk r F=>?_)) (by rw[Ug,H,H];omega)
  match k,F with
  |0,F=>cases F
  |1,F =>
   exfalso;revert F;show ¬XO (V6 0) n=some r;unfold XO;rw[QQ,Ue h];intro F;cases F
  |k+2,F=>rw[two k]at F;injection F with F;exact F.symm
variable {x:α}
theorem ZeH (h:∀y∈l,P y) (H:P x):∀y∈l++[x],P y:=by
 intro y i;rcases Uu.1 i with i|i
 ·exact h y i
 ·rw[Ux]at i
  rw[i];exact H
theorem Zr8 {i:Nat} (h:∀y∈l,P y) (a:P x):∀y∈l.set i x,P y:=by
 intro y H;rcases U5 H with H|H
 ·exact h y H
 ·rw[H];exact a
theorem smI {l:List Int} (h:l.length<=1048576):sm (.sl (.int .i64)) l:=⟨by omega,λ_ _=>trivial⟩
theorem smS {s:List UInt8} (h:s.length<=1048576):sm .str s:=by show(s.length:Int)<=1048576;omega
theorem smL {t:Ty} {l:List t.den} (h:l.length<=1048576) (f:∀x∈l,sm t x):sm (.sl t) l:=⟨by omega,f⟩
theorem ZtN (q:Src s) (st:Int):Y8 (Zc1 s st) (λr=>(1<=r.1.length/\r.1.length<=3)/\Src r.2):=by
 unfold Zc1;refine(ZI q st).bind λg ⟨_,m⟩=>?_;refine(ZI m 3).bind λR ⟨⟨a,b⟩,d⟩=>?_;have e:Wq (1+R.1)=1+R.1:=QR;rw[e];refine Y8.loop (λv=>0<=v.2.2.1/\(v.1.length:Int)+v.2.2.1=1+R.1/\Src (v.2.2.2.1,v.2.2.2.2.1,v.2.2.2.2.2.1,())) (λv=>v.2.2.1.toNat) ⟨by dsimp only;omega,by grind,d⟩ ?_;rintro⟨out,t,n,c0,c1,c2,⟨⟩⟩ ⟨j,I,i⟩;dsimp only at j I i;show Y8 (Zdg st out t n c0 c1 c2) _;unfold Zdg;have c:Wq (n-1)=n-1:=QR;rw[c];split
 ·refine .guard (by grind) ?_
  refine(ZI i st).bind λr ⟨_,f⟩=>?_;refine .ret ⟨⟨by dsimp only;omega,by grind,f⟩,by dsimp only;omega⟩
 ·exact .ret ⟨⟨by dsimp only;omega,by dsimp only;omega⟩,i⟩
theorem ZE3 {a b:Nat} (n:1<=a/\a<=3) (h:1<=b/\b<=3):(b:Int)<=(a:Int)*(b:Int)/\(a:Int)*(b:Int)<=9:=by
 have:a=1\/a=2\/a=3:=by omega
 grind
theorem ZrZ (j:Src s) (base:Int):Y8 (Zhg s base) (λr=>sm Zaw r.1/\Src r.2):=by
 unfold Zhg;refine(ZtN j 60).bind λe ⟨h,m⟩=>?_;refine(ZtN m 40).bind λa ⟨H,d⟩=>?_;obtain⟨p1,P⟩:=ZE3 h H;refine Y8.loop (λv=>0<=v.2.1/\v.2.1<=9/\(v.1.length:Int)=v.2.1/\Src (v.2.2.1,v.2.2.2.1,v.2.2.2.2.1,())) (λv=>(9-v.2.1).toNat) ⟨by dsimp only;omega,by dsimp only;omega,by grind,d⟩ ?_;rintro⟨out,i,c0,c1,c2,⟨⟩⟩ ⟨o,p,u,I⟩;dsimp only at o p u I;show Y8 (Zf8 base e a out i c0 c1 c2) _;unfold Zf8;have E:Wq ((e.1.length:Int)*(a.1.length:Int))=(e.1.length:Int)*(a.1.length:Int):=QR;have b:Wq (i+1)=i+1:=QR;have c:Wq (i-1)=i-1:=QR;have k:Wq (i-(a.1.length:Int))=i-(a.1.length:Int):=QR;rw[E,b,c,k];split
 ·rename_i w
  have n:∀(x:Int) (t:Zm),Src t->Y8 (Zy ((List.length out+List.length [x])*(8:Nat)<=(140737488355328:Nat)) (some (.inl (out++[x],i+1,t.fst,t.snd.fst,t.snd.snd.fst,()):(List Int×Int×List Int×Int×Int×Unit)⊕(ZE×Zm))))
    (Rnd (λv:List Int×Int×List Int×Int×Int×Unit=>0<=v.2.1/\v.2.1<=9/\(v.1.length:Int)=v.2.1/\Src (v.2.2.1,v.2.2.2.1,v.2.2.2.2.1,())) (λv=>(9-v.2.1).toNat) (9-i).toNat (λr=>sm Zaw r.1/\Src r.2)):=λx t l =>
   .guard (by grind) (.ret ⟨⟨by dsimp only;omega,by dsimp only;omega,by grind,l⟩,by dsimp only;omega⟩)
  refine(ZI I 10).bind λr ⟨_,W⟩=>?_;refine .guard (by omega) ?_;split
  ·rename_i y
   have f:i≠0:=by
    intro q
    simp_all
   refine .at (by omega) (by omega) λA _ _=>?_;refine(ZI W 20).bind λz ⟨_,g⟩=>?_;split
   ·refine .at (by omega) (by omega) λX _ _=>?_
    refine(ZI g 20).bind λR ⟨_,G⟩=>?_;exact n _ _ G
   ·exact n _ _ g
  ·split
   ·refine .at (by omega) (by omega) λX _ _=>?_
    refine(ZI W 20).bind λR ⟨_,G⟩=>?_;exact n _ _ G
   ·exact n _ _ W
 ·exact .ret ⟨⟨smI (by dsimp only;omega),smI (by dsimp only;omega),smI (by dsimp only;omega),trivial⟩,I⟩
theorem Zmn (q:Src s) (base:Int):Y8 (JY s base) (λr=>sm (.sl Zaw) r.1/\Src r.2):=by
 unfold JY;refine(ZrZ q base).bind λe ⟨a,m⟩=>?_;refine(ZrZ m base).bind λR ⟨b,d⟩=>?_;refine .ret ⟨smL (by grind) (λx l=>?_),d⟩;grind
theorem Zmv (q:Src s) (k f t S:Int):Y8 (JK s k f t S) (λr=>sm Zof r.1/\Src r.2):=by
 unfold JK;split
 ·refine(ZI q 10).bind λe ⟨_,m⟩=>?_
  refine(Zmn m _).bind λR ⟨a,d⟩=>?_;exact .ret ⟨⟨trivial,trivial,trivial,trivial,a,smL (by simp) (by simp),trivial⟩,d⟩
 ·refine(ZI q 20).bind λe ⟨_,m⟩=>?_
  refine(Zmn m _).bind λR ⟨a,d⟩=>?_;refine(Zmn d _).bind λc ⟨b,h⟩=>?_;exact .ret ⟨⟨trivial,trivial,trivial,trivial,a,b,trivial⟩,h⟩
variable {c:Zo} {pin:Int}
theorem Zjp {b:Int} (u:(0:Int)<=IntKind.wrap IntKind.u64 pin) (h:Wq ((1:Int)*(2:Int)^Min.min (Int.toNat (IntKind.wrap IntKind.u64 pin)) (IntKind.bits IntKind.i64))=b) (d:(GD c).length<=8) (b0:0<=b) (U:b<=8)
  (H:∀i:Int,0<=i->i<((GD c).length:Int)->Go.bits Go.BinOp.and IntKind.i64 i b=0->i+b<((GD c).length:Int)):Y8 (Zgc c pin) (λ_=>True):=by
 unfold Zgc;refine .guard u ?_;refine Y8.loop (λv=>0<=v.2.2.1/\v.2.2.1<=8) (λv=>(8-v.2.2.1).toNat) ⟨by dsimp only;omega,by dsimp only;omega⟩ ?_;rintro⟨R,o,i,⟨⟩⟩ ⟨I,j⟩;dsimp only at I j;show Y8 (Ze5 c pin R o i) _;unfold Ze5;have E:Wq (i+1)=i+1:=QR;have e:Wq (i+b)=i+b:=QR;simp only[h,E,e];split
 ·rename_i a
  have n:∀r l:Bool,Y8 (some (.inl (r,l,i+1,()):(Bool×Bool×Int×Unit)⊕Int)) (Rnd (λv:Bool×Bool×Int×Unit=>0<=v.2.2.1/\v.2.2.1<=8) (λv=>(8-v.2.2.1).toNat) (8-i).toNat (λ_=>True)):=λr l =>
   .ret ⟨⟨by dsimp only;omega,by dsimp only;omega⟩,by dsimp only;omega⟩
  split
  ·rename_i T
   have t:=H i I a T;repeat' first
    |exact n _ _
    |split
    |refine Y8.at (by omega) (by omega) λ_ _ _=>?_
  ·exact n _ _
 ·repeat' first
   |exact Y8.ret (show Rnd _ _ _ (λ_=>True) (.inr _)from trivial)
   |split
theorem eight (m:0<=i) (d:i<8:=by omega):i=0\/i=1\/i=2\/i=3\/i=4\/i=5\/i=6\/i=7:=by omega
theorem Zym (h:((GD c).length=2/\pin=0)\/((GD c).length=4/\(pin=0\/pin=1))\/((GD c).length=8/\(pin=0\/pin=1\/pin=2))):Y8 (Zgc c pin) (λ_=>True):=by
 have K:∀L:Int,(L=2\/L=4\/L=8)->∀i:Int,0<=i->i<L->Go.bits Go.BinOp.and IntKind.i64 i 1=0->i+1<L:=by
  intro L o i m d T;rcases eight m with rfl|rfl|rfl|rfl|rfl|rfl|rfl|rfl<;>first|omega|exact absurd T (by decide)
 have k:∀L:Int,(L=4\/L=8)->∀i:Int,0<=i->i<L->Go.bits Go.BinOp.and IntKind.i64 i 2=0->i+2<L:=by
  intro L o i m d T;rcases eight m with rfl|rfl|rfl|rfl|rfl|rfl|rfl|rfl<;>first|omega|exact absurd T (by decide)
 have f:∀L:Int,L=8->∀i:Int,0<=i->i<L->Go.bits Go.BinOp.and IntKind.i64 i 4=0->i+4<L:=by
  intro L o i m d T;rcases eight m with rfl|rfl|rfl|rfl|rfl|rfl|rfl|rfl<;>first|omega|exact absurd T (by decide)
 rcases h with⟨q,rfl⟩|⟨q,rfl|rfl⟩|⟨q,rfl|rfl|rfl⟩
 ·exact Zjp (b:=1) (by decide) (by decide) (by omega) (by omega) (by omega) (K _ (by omega))
 ·exact Zjp (b:=1) (by decide) (by decide) (by omega) (by omega) (by omega) (K _ (by omega))
 ·exact Zjp (b:=2) (by decide) (by decide) (by omega) (by omega) (by omega) (k _ (by omega))
 ·exact Zjp (b:=1) (by decide) (by decide) (by omega) (by omega) (by omega) (K _ (by omega))
 ·exact Zjp (b:=2) (by decide) (by decide) (by omega) (by omega) (by omega) (k _ (by omega))
 ·exact Zjp (b:=4) (by decide) (by decide) (by omega) (by omega) (by omega) (f _ (by omega))
variable {L:List UInt8}
theorem ZkK (q:Src s) (o:L.length<=5) {tr:List Int} (z:tr.length=2\/tr.length=4\/tr.length=8):Y8 (Zcu s L tr) (λr=>sm Zcq r.1/\Src r.2):=by
 unfold Zcu;refine(ZI q 50).bind λe ⟨_,m⟩=>?_;refine(ZI m 80).bind λa ⟨_,h⟩=>?_;refine Y8.loop (λv=>((v.1.length=0/\v.2.1=1)\/(v.1.length=1/\v.2.1=2)\/(v.1.length=2/\v.2.1=4)\/(v.1.length=3/\v.2.1=8))/\v.2.1<=(tr.length:Int)/\(∀x∈v.1,sm Znm x)/\Src (v.2.2.1,v.2.2.2.1,v.2.2.2.2.1,())) (λv=>(8-v.2.1).toNat)
  ⟨.inl ⟨rfl,rfl⟩,by dsimp only;omega,λx l=>(by cases l),h⟩ ?_
 rintro⟨pins,n,c0,c1,c2,⟨⟩⟩ ⟨j,g,i,I⟩;dsimp only at j g i I;show Y8 (Zga L tr e a pins n c0 c1 c2) _;unfold Zga;split
 ·rename_i t
  refine .at (by omega) (by grind) λx l _=>?_;have c:x.length<=1:=by
   grind
  refine(ZI I 9).bind λr ⟨_,f⟩=>?_;have E:Wq (2*n)=2*n:=QR;rw[E];refine .guard (by grind) (.ret ⟨⟨?_,by dsimp only;omega,ZeH i ⟨smS (by grind),trivial,trivial,trivial,trivial⟩,f⟩,by dsimp only;omega⟩);grind
 ·refine .guard (by grind) ?_
  refine Y8.loop (λv=>0<=v.2.1/\v.2.1<=3/\(v.1.length:Int)<=v.2.1/\(∀x∈v.1,sm Zof x)/\Src (v.2.2.1,v.2.2.2.1,v.2.2.2.2.1,())) (λv=>(3-v.2.1).toNat) ⟨by dsimp only;omega,by dsimp only;omega,by grind,λx l=>(by cases l),I⟩ ?_;rintro⟨arcs,p,D,d,b,⟨⟩⟩ ⟨j0,k,u,w,J⟩;dsimp only at j0 k u w J;show Y8 (Zf9 L tr e a pins arcs p D d b) _;unfold Zf9;have E:Wq (p+1)=p+1:=QR;rw[E];split
  ·rename_i y
   refine (Zym (by
    grind)).bind λS _=>?_
   split
   ·exact .ret ⟨⟨by dsimp only;omega,by dsimp only;omega,by dsimp only;omega,w,J⟩,by dsimp only;omega⟩
   ·refine(Zmv J 1 p _ S).bind λr ⟨H,f⟩=>?_
    refine .guard (by grind) (.ret ⟨⟨by dsimp only;omega,by dsimp only;omega,?_,ZeH w H,f⟩,by dsimp only;omega⟩);grind
  ·refine .ret ⟨⟨smS (by grind),trivial,smL ?_ (ZeH i ⟨smS (by grind),trivial,trivial,trivial,trivial⟩),smL (by grind) w,smI (by grind),trivial,trivial,trivial⟩,J⟩
   grind
theorem ZpI (q:Src s) (u:L.length<=5) (k e:Int):Y8 (Zbc s L k e) (λr=>sm Zcq r.1/\Src r.2):=by
 have g:∀a b:Int,sm (.sl Znm) [([(100:UInt8)],(1:Int),a,Bool.false,()),([(99:UInt8),(107:UInt8)],(1:Int),b,Bool.true,()),([(113:UInt8)],(2:Int),(0:Int),Bool.false,())]:=λa b=>by
  refine smL (by grind) (λx l=>?_);simp only[UD,UZ,Ks]at l;rcases l with rfl|rfl|rfl<;>exact⟨smS (by grind),trivial,trivial,trivial,trivial⟩
 unfold Zbc;refine(ZI q 50).bind λR ⟨_,m⟩=>?_;refine(ZI m 80).bind λv ⟨_,d⟩=>?_;refine(ZI d 9).bind λw ⟨_,f⟩=>?_;refine(ZI f 9).bind λy ⟨_,H⟩=>?_;refine(Zmv H e 1 2 0).bind λa0 ⟨W,i⟩=>?_;refine(Zmv i 4 1 0 0).bind λA ⟨G,j⟩=>?_;refine(Zmv j 5 1 0 0).bind λc ⟨p,I⟩=>?_;have h:∀x∈[a0.1,A.1,c.1],sm Zof x:=λx l=>by
  grind
 split
 ·refine(Zmv I 1 0 2 1).bind λo ⟨t,n⟩=>?_
  refine .guard (by grind) (.ret ⟨⟨smS (by grind),trivial,g _ _,smL (by grind) (ZeH h t),smI (by simp),trivial,trivial,trivial⟩,n⟩)
 ·exact .ret ⟨⟨smS (by grind),trivial,g _ _,smL (by grind) h,smI (by simp),trivial,trivial,trivial⟩,I⟩
theorem ZCF (q:Src s):Y8 (ZiQ s) (λr=>(sm X9 r.1/\(Gd r.1).length=8)/\Src r.2):=by
 unfold ZiQ;refine(ZkK q (by grind) (by simp)).bind λe ⟨W,m⟩=>?_;refine(ZkK m (by grind) (by simp)).bind λR ⟨G,d⟩=>?_;refine(ZkK d (by grind) (by simp)).bind λh ⟨a,f⟩=>?_;refine(ZkK f (by grind) (by simp)).bind λn ⟨t,g⟩=>?_;refine(ZkK g (by grind) (by simp)).bind λp ⟨b,i⟩=>?_;refine(ZpI i (by grind) 2 2).bind λv ⟨o,j⟩=>?_;refine(ZpI j (by grind) 2 3).bind λw ⟨u,I⟩=>?_;refine(ZpI I (by grind) 3 2).bind λy ⟨c,k⟩=>?_;refine .ret ⟨⟨⟨smL (by simp_all) (λx l=>?_),trivial⟩,rfl⟩,k⟩;simp only[UD,UZ,Ks]at l;grind
def ZyI (x:Zd):Prop:=(∃r,Gq x=117::r/\r.length<=2)/\(2<=(Gc x).length/\(Gc x).length<=4)
def ZH3 (s:List UInt8):Prop:=∃r,s=110::r/\r.length<=2
def ZyK (p:Z6):Prop:=(GT p).length<=2
structure ZBP (d:Zb):Prop where
 n0:2<=(K3 d).length
 n1:(K3 d).length<=9
 inst:∀x∈K3 d,ZyI x
 nl:(K5 d).length=(K3 d).length+3
 net:∀s∈K5 d,ZH3 s
 p0:4<=(Ge d).length
 p1:(Ge d).length<=5
 port:∀p∈Ge d,ZyK p
variable {most:Int}
theorem Zvh (X:Src s) (T:1<=most) (U:most<=8) (d:Bool):Y8 (ZiS s most d) (λr=>ZBP r.1/\Src r.2):=by
 unfold ZiS;have C:Wq (most-1)=most-1:=QR;rw[C];refine(ZI X _).bind λR ⟨⟨a0,a1⟩,K⟩=>?_;have e:Wq (2+R.1)=2+R.1:=QR;rw[e];have P:2<=2+R.1/\2+R.1<=9:=by omega
 generalize 2+R.1=N at P;refine Y8.loop (λv=>0<=v.2.2.1/\(v.1.length:Int)+v.2.2.1=N/\v.2.1.length=v.1.length+3/\(∀x∈v.1,ZyI x)/\(∀x∈v.2.1,ZH3 x)/\Src (v.2.2.2.1,v.2.2.2.2.1,v.2.2.2.2.2.1,())) (λv=>v.2.2.1.toNat)
  ⟨by dsimp only;omega,by grind,rfl,λx b=>(by cases b),λx b=>?_,K⟩ ?_
 ·simp only[Uw,UD,UZ,Ks]at b
  rcases b with rfl|rfl|rfl
  ·exact⟨_,rfl,UO _⟩
  ·exact⟨_,rfl,by simp⟩
  ·exact⟨_,rfl,by simp⟩
 rintro⟨i,nets,n,c0,c1,c2,⟨⟩⟩ ⟨Z,i2,i3,t,I,y⟩;dsimp only at Z i2 i3 t I y;show Y8 (Zgf d i nets n c0 c1 c2) _;unfold Zgf;split
 ·rename_i V
  refine(ZI y 12).bind λr ⟨⟨b0,b1⟩,H⟩=>?_;refine .at b0 (by simp only[Um,Uo];omega) λx b _=>?_;have q:0<=x/\x<=7:=by
   simp only[UD,UZ,Ks]at b;omega
  refine(ZsW (n:=(i.length:Int))).bind λL z=>?_;refine .guard (by grind) ?_;refine Y8.loop (λv=>0<=v.1/\v.1<=3/\(v.2.2.2.2.1.length:Int)=v.1/\Src (v.2.1,v.2.2.1,v.2.2.2.1,())) (λv=>(3-v.1).toNat) ⟨by dsimp only;omega,by dsimp only;omega,rfl,H⟩ ?_;rintro⟨p,D,g,j,l,⟨⟩⟩ ⟨j0,J,u,w⟩;dsimp only at j0 J u w;show Y8 (Zgd i nets n x L p D g j l) _;unfold Zgd;refine .at q.1 (by grind) λk Q _=>?_;have S:2<=k/\k<=4:=by
   simp only[UD,UZ,Ks]at Q;omega
  have G:Wq (k-1)=k-1:=QR;have E:Wq (p+1)=p+1:=QR;have M:Wq (n-1)=n-1:=QR;simp only[G,E,M];split
  ·rename_i W
   refine(ZI w _).bind λB ⟨_,c⟩=>?_;refine(ZI c 3).bind λr3 ⟨_,O⟩=>?_;repeat' first
    |split
    |refine Y8.guard (by simp only[Ug,Um,Uo];omega) ?_
    |exact .ret ⟨⟨by dsimp only;omega,by dsimp only;omega,by grind,O⟩,by dsimp only;omega⟩
  ·refine .guard (by grind) ?_
   refine .guard (by grind) ?_;refine(ZsW (n:=(nets.length:Int))).bind λnn m=>?_;refine .guard (by grind) ?_;refine .guard (by grind) ?_;refine .guard (by grind) ?_;refine .ret ⟨⟨by dsimp only;omega,by grind,by grind,ZeH t ⟨⟨L,rfl,z⟩,?_⟩,ZeH I ⟨nn,rfl,m⟩,w⟩,by dsimp only;omega⟩;grind
 ·rename_i V
  refine Y8.loop (λv=>0<=v.1/\v.1<=9/\v.2.2.2.2.1.length=i.length/\(∀x∈v.2.2.2.2.1,ZyI x)/\Src (v.2.1,v.2.2.1,v.2.2.2.1,())) (λv=>(9-v.1).toNat) ⟨by dsimp only;omega,by dsimp only;omega,rfl,t,y⟩ ?_;rintro⟨p,D,g,j,l,⟨⟩⟩ ⟨j0,J,u,w,A⟩;dsimp only at j0 J u w A;show Y8 (Zge d nets p D g j l) _;unfold Zge;have E:Wq (p+1)=p+1:=QR;simp only[E];split
  ·rename_i o
   refine(ZI A 4).bind λr ⟨_,H⟩=>?_;split
   ·refine .at j0 o λx b Y=>?_
    have h:=w x b;have st:∀v:Int,Y8 ((Zl r.2 v).bind λf=>(atI x.snd.snd.fst (0:Int)).bind λx1=>some (.inl (p+1,f.snd.fst,f.snd.snd.fst,f.snd.snd.snd.fst,List.set l (Int.toNat p) (x.fst,x.snd.fst,List.set x.snd.snd.fst (Int.toNat (0:Int)) (Wq ((1:Int)+f.fst)),()),()):(Int×(List Int)×Int×Int×(List (List UInt8×Int×List Int×Unit))×Unit)⊕(((List Zd)×(List (List UInt8))×Int×(List Int)×Int×Int×Unit)⊕(Zb×Zm))))
      (Rnd (λv:Int×(List Int)×Int×Int×(List (List UInt8×Int×List Int×Unit))×Unit=>0<=v.1/\v.1<=9/\v.2.2.2.2.1.length=i.length/\(∀ x∈v.2.2.2.2.1,ZyI x)/\Src (v.2.1,v.2.2.1,v.2.2.2.1,())) (λv=>(9-v.1).toNat) (9-p).toNat
       (Rnd (λv:(List Zd)×(List (List UInt8))×Int×(List Int)×Int×Int×Unit=>0<=v.2.2.1/\(v.1.length:Int)+v.2.2.1=N/\v.2.1.length=v.1.length+3/\(∀ x∈v.1,ZyI x)/\(∀ x∈v.2.1,ZH3 x)/\Src (v.2.2.2.1,v.2.2.2.2.1,v.2.2.2.2.2.1,())) (λv=>v.2.2.1.toNat) n.toNat (λr=>ZBP r.1/\Src r.2))):=λv=>by
     refine(ZI H v).bind λB ⟨_,c⟩=>?_;refine .at (by omega) (by have:=h.2.1;grind) λ_ _ _=>?_;refine .ret ⟨⟨by dsimp only;omega,by dsimp only;omega,by grind,Zr8 w ⟨h.1,?_⟩,c⟩,by dsimp only;omega⟩;show 2<=(List.set (Gc x) _ _).length/\(List.set (Gc x) _ _).length<=4;rw[UH];exact h.2
    repeat' first
     |exact st _
     |split
     |exact .ret ⟨⟨by dsimp only;omega,by dsimp only;omega,by grind,Zr8 w h,H⟩,by dsimp only;omega⟩
   ·exact .ret ⟨⟨by dsimp only;omega,by dsimp only;omega,u,w,H⟩,by dsimp only;omega⟩
  ·refine .guard (by grind) ?_
   refine(ZI A 2).bind λr ⟨_,H⟩=>?_;have F:∀a:Int,∀p∈(([]:List (List UInt8×Int×Int×Unit))++[([(99:UInt8),(107:UInt8)],(1:Int),(0:Int),()),([(97:UInt8)],(1:Int),(1:Int),()),([(98:UInt8)],(1:Int),(2:Int),())]++[([(121:UInt8)],(2:Int),a,())]),ZyK p:=λa p o=>by
    simp only[Uw,U3,UD,UZ,Ks]at o;unfold ZyK;grind
   split
   ·refine(ZI H _).bind λB ⟨_,c⟩=>?_
    refine .guard (by grind) ?_;refine .ret ⟨⟨?_,?_,w,?_,I,?_,?_,ZeH (F _) (show 1<=2 by omega)⟩,c⟩;all_goals grind
   ·refine .ret ⟨⟨?_,?_,w,?_,I,?_,?_,F _⟩,H⟩
    all_goals grind
variable {d:Zb}
theorem ZBP.few (h:ZBP d):Few d:=⟨by have:=h.n1;omega,by have:=h.p1;omega,λx l=>by have:=(h.inst x l).2.2;omega⟩
theorem ZBP.sm (h:ZBP d):sm YN d:=by
 have:=h.n1;have:=h.p1;have:=h.nl;refine⟨smL (by grind) (λx l=>?_),smL (by grind) (λx l=>?_),smL (by grind) (λx l=>?_),trivial⟩
 ·obtain⟨⟨r,e,F⟩,f⟩:=h.inst x l
  refine⟨smS ?_,trivial,smI ?_,trivial⟩;all_goals grind
 ·obtain⟨r,e,F⟩:=h.net x l
  refine smS ?_;grind
 ·have:=h.port x l
  unfold ZyK at this;exact⟨smS (by grind),trivial,trivial,trivial⟩
def ZyO (w:Zq):Prop:=(1<=(K8 w).length/\(K8 w).length<=4)/\(GB w).length=(K8 w).length/\(GE w).length=(K8 w).length/\(Gu w).length<=100
variable {w:Zq}
theorem ZyO.sm (h:ZyO w):sm ZbR w:=by
 obtain⟨d,f,g,i⟩:=h;exact⟨smI (by grind),smI (by grind),smI (by grind),smI (by grind),trivial⟩
variable (l:List Int)
theorem ZsE (h:l.length<=1048576:=by omega):Xc l=some l:=by
 have f:((([]:List Int).length+l.length)*8<=140737488355328):=by grind
 unfold Xc;first
  |(rw[Zk f,Uw])
  |(rw[Zk f];rfl)
  |rfl
variable {k:Int}
theorem ZuW (t:Src s) (C:0<=k:=by omega) (F:k<=100:=by omega):Y8 (Vb s k) (λr=>ZyO r.1/\Src r.2):=by
 unfold Vb;refine(ZI t 6).bind λe ⟨_,W⟩=>?_;have q:Zav k e.1=some ([(-1:Int)],[(0:Int)],[e.1],List.replicate (Int.toNat k) (0:Int),()):=by
  unfold Zav;rw[Ra,Ra,Ra,Ra]
 rw[q,Bq];refine(ZI W 4).bind λR ⟨⟨a,b⟩,G⟩=>?_;refine Y8.loop (λv=>0<=v.1/\(v.2.2.2.2.1.length:Int)+v.1=1+R.1/\1<=v.2.2.2.2.1.length/\v.2.2.2.2.2.1.length=v.2.2.2.2.1.length/\v.2.2.2.2.2.2.1.length=v.2.2.2.2.1.length/\v.2.2.2.2.2.2.2.1.length<=100/\Src (v.2.1,v.2.2.1,v.2.2.2.1,())) (λv=>v.1.toNat)
  ⟨a,by grind,UO _,rfl,rfl,by grind,G⟩ ?_
 rintro⟨n,c0,c1,c2,L,j,c,S,⟨⟩⟩ ⟨u,x,z,i,I,d,y⟩;dsimp only at u x z i I d y;show Y8 (Zdi n c0 c1 c2 L j c S) _;unfold Zdi;have M:Wq (n-1)=n-1:=QR;simp only[M];split
 ·rw[ZsE L,Bq,ZsE j,ZsE c]
  refine(ZI y _).bind λB ⟨_,f⟩=>?_;refine .guard (by grind) ?_;rw[Bq];refine(ZI f _).bind λK ⟨_,H⟩=>?_;refine .guard (by grind) ?_;rw[Bq];refine(ZI H _).bind λN ⟨_,m⟩=>?_;refine .guard (by grind) ?_;refine .ret ⟨⟨by dsimp only;omega,?_,?_,?_,?_,d,m⟩,by dsimp only;omega⟩;all_goals grind
 ·refine Y8.loop (λv=>0<=v.1/\v.1<=100/\v.2.2.2.2.1.length=S.length/\Src (v.2.1,v.2.2.1,v.2.2.2.1,())) (λv=>(100-v.1).toNat) ⟨by dsimp only;omega,by dsimp only;omega,rfl,y⟩ ?_
  rintro⟨p,D,g,h,l,⟨⟩⟩ ⟨j0,J,A,w⟩;dsimp only at j0 J A w;show Y8 (Zdh L j c p D g h l) _;unfold Zdh;have E:Wq (p+1)=p+1:=QR;simp only[E];split
  ·rename_i o
   refine(ZI w _).bind λB ⟨_,f⟩=>?_;refine .at j0 o λ_ _ _=>?_;exact .ret ⟨⟨by dsimp only;omega,by dsimp only;omega,by grind,f⟩,by dsimp only;omega⟩
  ·refine .ret ⟨⟨⟨?_,?_⟩,i,I,?_⟩,w⟩
   all_goals grind
structure ZGk (b:Za):Prop where
 lib:sm X9 (K6 b)
 des:ZBP (K2 b)
 wl:(K4 b).length=(K5 (K2 b)).length
 wires:∀w∈K4 b,ZyO w
theorem ZGk.sm (h:ZGk b):sm Ya b:=by
 have:=h.wl;have:=h.des.nl;have:=h.des.n1;exact⟨h.lib,h.des.sm,smL (by grind) (λw c=>(h.wires w c).sm),trivial⟩
theorem Znq (j:Src s) (i:1<=most) (b:most<=8) (d:Bool):Y8 (Zau s most d) (λr=>ZGk r.1/\Src r.2):=by
 unfold Zau;refine(ZCF j).bind λR ⟨q,m⟩=>?_;refine(Zvh m i b d).bind λa ⟨N,h⟩=>?_;have l:=N.nl;have g:=N.n1;refine Y8.loop (λv=>0<=v.2.1/\v.2.1<=((K5 a.1).length:Int)/\(v.1.length:Int)=v.2.1/\(∀w∈v.1,ZyO w)/\Src (v.2.2.1,v.2.2.2.1,v.2.2.2.2.1,())) (λv=>(100-v.2.1).toNat)
  ⟨by dsimp only;omega,by dsimp only;omega,rfl,λw c=>(by cases c),h⟩ ?_
 rintro⟨ws,n,c0,c1,c2,⟨⟩⟩ ⟨p,t,u,I,e⟩;dsimp only at p t u I e;show Y8 (Zgg R a ws n c0 c1 c2) _;unfold Zgg;have M:Wq (n+1)=n+1:=QR;simp only[M];split
 ·rename_i f
  have f:n<((K5 a.1).length:Int):=f;rw[Xn a.1 n N.few,Bq];have o:(Xx a.1 n).length<=78:=Ko (ZaN n (Zg a.1) 0) (ZQ N.few);refine(ZuW e (k:=((Xx a.1 n).length:Int))).bind λr ⟨c,H⟩=>?_;refine .guard (by grind) (.ret ⟨⟨by dsimp only;omega,by dsimp only;omega,?_,ZeH I c,H⟩,by dsimp only;omega⟩);grind
 ·rename_i f
  have f:¬n<((K5 a.1).length:Int):=f;refine .ret ⟨⟨q.1,N,?_,I⟩,e⟩;grind
def DN (d:Zb):Prop:=(K5 d).length=(Q7 d).length+3/\(∃r,(Q7 d)[0]?=some (117::r))/\∃r,(K5 d)[3]?=some (110::r)
theorem ZBP.dn (h:ZBP d):DN d:=by
 have f:=h.n0;have l:=Ub (show 0<(K3 d).length by omega);generalize (K3 d)[0]=x at l;have q:=Ub (show 3<(K5 d).length by have:=h.nl;omega);generalize (K5 d)[3]'(by have:=h.nl;omega)=s at q;obtain⟨⟨r,e,_⟩,_⟩:=h.inst x (Ud l);obtain⟨b,i,_⟩:=h.net s (Ud q);refine⟨by unfold Q7;rw[UW];exact h.nl,⟨r,?_⟩,⟨b,by rw[q,i]⟩⟩;unfold Q7;grind
theorem ZEB {D:Zb} (h:DN d) (H:Q7 D=Q7 d) (f:K5 D=K5 d):DN D:=by
 unfold DN;rw[H,f];exact h
variable {e:Zh} {r:Za}
theorem ZBT (h:Ve b e) (a:sm XI e) (N:DN (K2 b)) (F:ZH e b=some r):DN (K2 r):=by
 have j:=h.blk;by_cases K:K7 e=1
 ·obtain⟨p,x,c,c2,g,A,_,n,_⟩:=h.poss.1 K
  have J:(K3 (K2 b))[p.1.toNat]?=some x:=by
   unfold atI at n;grind
  rw[app1 j K g A J]at F;injection F with F
  subst F;refine ZEB N ?_ ?_
  ·unfold ZdT
   rw[J];show List.map Gq (List.set _ _ _)=_;rw[List.map_set];exact JX (by grind)
  ·unfold ZdT
   rw[J]
 by_cases q:K7 e=2
 ·obtain⟨p,c,g,t,_⟩:=h.poss.2.1 q
  rw[app2 h q (Zhx a).1 g t]at F;injection F with F
  subst F;obtain⟨y,⟨u,D⟩,⟨v,d⟩⟩:=N;have E:Q7 (Zg7 b e p)=Q7 (K2 b)++[Gg e]:=by
   show List.map Gq (K3 (Xl (K2 b) p.1 p.2.1 _)++[Zgs b e p])=_;rw[Kd];exact UN (·++[Gg e]) (Zh5 (K2 b) p.1 p.2.1 _)
  have i:K5 (Zg7 b e p)=K5 (K2 b)++[Gg e]:=by
   show K5 (Xl (K2 b) p.1 p.2.1 _)++[Gg e]=_;rw[X0]
  have L:=(Ua.1 D).1;have M:=(Ua.1 d).1;show DN (Zg7 b e p);unfold DN;grind
 by_cases R:K7 e=3
 ·have H:=h.poss.2.2.1 R
  obtain⟨k,p,m,_,_,_,_,B⟩:=app3 j H R;rw[B]at F;injection F with F
  subst F;obtain⟨x,c,w,O,f,n,_,_,_,_,_,_,_,z,_⟩:=H;obtain⟨y,⟨u,D⟩,⟨v,d⟩⟩:=N;have C:(Q7 (K2 b)).length=(K3 (K2 b)).length:=UW ..;have Q:(K5 (K2 b))[(K5 (K2 b)).length-1]?=some (Gq x):=by
   have T:Int.toNat (((K5 (K2 b)).length:Int)-1)=(K5 (K2 b)).length-1:=by omega
   unfold atI at z;grind
  have G:(Q7 (K2 b))[(K3 (K2 b)).length-1]?=some (Gq x):=by
   show(List.map Gq _)[_]?=_;grind
  have I:2<=(K3 (K2 b)).length:=by
   grind
  have E:Q7 (unD b p m)=(Q7 (K2 b)).take ((K3 (K2 b)).length-1):=by
   have:=Zh5 (K2 b) p.1 p.2.1 m;show List.map Gq ((K3 (Xl (K2 b) p.1 p.2.1 m)).take _)=_;rw[List.map_take,YG];exact UN (λl=>List.take ((K3 (K2 b)).length-1) l) this
  have i:K5 (unD b p m)=(K5 (K2 b)).take ((K5 (K2 b)).length-1):=by
   show(K5 (Xl (K2 b) p.1 p.2.1 m)).take _=_;rw[X0]
  show DN (unD b p m);unfold DN;rw[E,i];refine⟨by grind,⟨u,?_⟩,⟨v,?_⟩⟩;all_goals grind
 by_cases o:K7 e=4
 ·obtain⟨p,g,t,_⟩:=h.poss.2.2.2.1 o
  obtain⟨_,f,_⟩:=h.range.2.1 o;rw[app4 j o g t f]at F;injection F with F
  subst F;exact ZEB N (Zh5 _ _ _ _) X0
 ·have s:K7 e=5:=by have:=h.blank;unfold Blank at this;omega
  rw[ZF3 j s (h.range.2.2 s) (Zhx a).2]at F;injection F with F
  subst F;exact N
def Zr4 (b:Za):Prop:=sm Ya b/\(ZiV b->K4 b≠[]->DN (K2 b))
theorem DN.insts (h:DN d):1<=(K3 d).length:=by
 obtain⟨_,⟨r,e⟩,_⟩:=h;have:=(Ua.1 e).1;unfold Q7 at this;grind
theorem ZzA (f:Few d) (i p:Int):Y8 (JL d i p) (λ_=>True):=by
 have q:=ZQ f;unfold JL;rw[ZP d f,Bq];refine Y8.loop (λv=>0<=v.1/\v.1<=100) (λv=>(100-v.1).toNat) ⟨U6 _,by dsimp only;omega⟩ ?_;rintro⟨k,⟨⟩⟩ ⟨I,j⟩;dsimp only at I j;show Y8 (ZbA i p (Zg d) k) _;unfold ZbA;split
 ·rename_i H
  have H:k<((Zg d).length:Int):=H;have G:Wq (k+1)=k+1:=QR;simp only[G];refine .at I H λx _ _=>?_;repeat' first
   |exact Y8.ret (show Rnd _ _ _ (λ_=>True) (.inr _)from trivial)
   |exact .ret ⟨⟨by dsimp only;omega,by dsimp only;omega⟩,by dsimp only;omega⟩
   |split
 ·exact Y8.ret (show Rnd _ _ _ (λ_=>True) (.inr _)from trivial)
theorem ZuE (q:Src s) (h:Few (K2 b)) (j:1<=(Zg (K2 b)).length):Y8 (XF s b) (λr=>Src r.2):=by
 have p:=ZQ h;unfold XF;rw[ZP _ h,Bq];refine (ZI q _).bind λe ⟨⟨a0,A⟩,m⟩=>?_;refine Y8.loop (λv=>(0<=v.1/\v.1<((Zg (K2 b)).length:Int))/\0<=v.2.1/\v.2.1<=100) (λv=>(100-v.2.1).toNat) ⟨⟨a0,by dsimp only;omega⟩,by dsimp only;omega,by dsimp only;omega⟩ ?_;rintro ⟨k,i,⟨⟩⟩ ⟨⟨a,c⟩,I,n⟩;dsimp only at a c I n;have M:∀ K:Int,Y8 ((Zl e.snd (12:Int)).bind λl =>
   if l.fst=(0:Int)then
    (Zl l.snd (Wq ((↑(List.length (Zg (K2 b))):Int)+(2:Int)))).bind λf =>
    some (.inr (Wq (f.fst-(1:Int)),f.snd))
   else
    some (.inr (K,l.snd):(Int×Int×Unit) ⊕ (Int×Zm)))
   (Rnd (λv:Int×Int×Unit=>(0<=v.1/\v.1<((Zg (K2 b)).length:Int))/\0<=v.2.1/\v.2.1<=100) (λv=>(100-v.2.1).toNat) (100-i).toNat (λr=>Src r.2)):=λK=>by
  refine(ZI m 12).bind λR ⟨_,d⟩=>?_;split
  ·refine(ZI d _).bind λo ⟨_,g⟩=>?_
   exact .ret (show Src o.2 from g)
  ·exact .ret (show Src R.2 from d)
 show Y8 (Zdj (Zg (K2 b)) e k i) _;unfold Zdj;split
 ·rename_i H
  have H:i<((Zg (K2 b)).length:Int):=H;refine .at a c λx _ _=>?_;split
  ·have G:Wq (k+1)=k+1:=QR
   have C:Wq (i+1)=i+1:=QR;rw[G,C];refine .guard (by grind) (.ret ⟨⟨⟨Kx _ (by omega),Kq _ (by omega)⟩,by dsimp only;omega,by dsimp only;omega⟩,by dsimp only;omega⟩)
  ·exact M k
 ·exact M k
noncomputable def tl (b:Za) (P:List ZG) (k p c n d:Int) (L:List UInt8) (w:Zq) (s:Zm):Option (Zh×Zm) :=
 (Zl s (30:Int)).bind λr =>
 if r.fst=(0:Int)then
  (Zl r.snd (7:Int)).bind λR=>some ((R.fst,p,c,n,d,L,w,()),R.snd)
 else
  if r.fst=(1:Int)then
   (Zl r.snd (10:Int)).bind λR=>some ((k,p,Wq (R.fst-(1:Int)),n,d,L,w,()),R.snd)
  else
   if r.fst=(2:Int)then
    (Zl r.snd (Wq ((↑(List.length (K4 b)):Int)+(2:Int)))).bind λR=>some ((k,p,c,Wq (R.fst-(1:Int)),d,L,w,()),R.snd)
   else
    if r.fst=(3:Int)then
     (Zl r.snd (Wq ((↑(List.length P):Int)+(2:Int)))).bind λR=>some ((k,Wq (R.fst-(1:Int)),c,n,d,L,w,()),R.snd)
    else
     if r.fst=(4:Int)then
      some ((k,p,c,n,d,[(66:UInt8),(97:UInt8),(100:UInt8)],w,()),r.snd)
     else
      some ((k,p,c,n,d,L,w,()),r.snd)
abbrev ZDC (r:Zh×Zm):Prop:=sm XI r.1/\Src r.2
variable {c:Int}
theorem ZqK {P:List ZG} {p n d:Int} (q:Src s) (a:L.length<=10) (g:sm ZbR w):Y8 (tl b P k p c n d L w s) ZDC:=by
 have e:∀(k p c n d:Int) (L:List UInt8),L.length<=10->sm XI ((k,p,c,n,d,L,w,()):Zh):=λk p c n d L h=>⟨trivial,trivial,trivial,trivial,trivial,smS (by dsimp only;omega),g,trivial⟩;unfold tl;refine(ZI q 30).bind λr ⟨_,H⟩=>?_;split
 ·exact(ZI H _).bind λR ⟨_,f⟩=>.ret ⟨e _ _ _ _ _ _ a,f⟩
 split
 ·exact(ZI H _).bind λR ⟨_,f⟩=>.ret ⟨e _ _ _ _ _ _ a,f⟩
 split
 ·exact(ZI H _).bind λR ⟨_,f⟩=>.ret ⟨e _ _ _ _ _ _ a,f⟩
 split
 ·exact(ZI H _).bind λR ⟨_,f⟩=>.ret ⟨e _ _ _ _ _ _ a,f⟩
 split
 ·exact .ret ⟨e _ _ _ _ _ _ (by show 3<=10;omega),H⟩
 ·exact .ret ⟨e _ _ _ _ _ _ a,H⟩
abbrev ZGS:Zq:=(([]:List Int),([]:List Int),([]:List Int),([]:List Int),())
theorem Zqz:sm ZbR ZGS:=Zjv
noncomputable def kd1 (b:Za) (P:List ZG) (s:Zm):Option (Zh×Zm) :=
 (Zl s (↑(List.length (K3 (K2 b))):Int)).bind λl =>
 (atI (K3 (K2 b)) l.fst).bind λX =>
 (JL (K2 b) l.fst (Wq ((↑(List.length (Gc X)):Int)-(1:Int)))).bind λL =>
 (atI ([(1:Int),(0:Int),(3:Int),(2:Int),(4:Int),(6:Int),(5:Int),(7:Int)]) (Int.tmod (Gr X) (8:Int))).bind λx =>
 tl b P 1 L x 0 0 [] ZGS l.snd
noncomputable def kd2 (b:Za) (P:List ZG) (s:Zm):Option (Zh×Zm) :=
 (XF s b).bind λl =>
 (Zl l.snd (2:Int)).bind λa =>
 (Zl a.snd (3:Int)).bind λf =>
 (Vw f.fst).bind λL =>
 Zy ((↑(List.length [(120:UInt8)]):Int)+(↑(List.length L):Int)<=(9223372036854775807:Int)) <|
 tl b P 2 l.fst a.fst 0 0 ([(120:UInt8)]++L) ZGS f.snd
noncomputable def kd4 (b:Za) (P:List ZG) (s:Zm):Option (Zh×Zm) :=
 (XF s b).bind λl =>
 (Zl l.snd (↑(List.length (K4 b)):Int)).bind λL =>
 (atI (K4 b) L.fst).bind λX =>
 (Zl L.snd (↑(List.length (K8 X)):Int)).bind λf =>
 tl b P 4 l.fst 0 L.fst f.fst [] ZGS f.snd
noncomputable def kd5 (b:Za) (P:List ZG) (s:Zm):Option (Zh×Zm) :=
 (Zl s (↑(List.length (K4 b)):Int)).bind λL =>
 (Xv (K2 b) L.fst).bind λa =>
 (Vb L.snd (↑(List.length a):Int)).bind λl =>
 tl b P 5 0 0 L.fst 0 [] l.fst l.snd
theorem ZmE (i:Src s) (B:Zr4 b):Y8 (ZbC s b) ZDC:=by
 obtain⟨V,C⟩:=B;unfold ZbC;rw[Qb b V,Bq];have u:Y8 (some (((3:Int),(0:Int),(0:Int),(0:Int),(0:Int),([]:List UInt8),(([]:List Int),([]:List Int),([]:List Int),([]:List Int),()),()),s)) ZDC :=
  .ret ⟨⟨trivial,trivial,trivial,trivial,trivial,smS (by simp),Zqz,trivial⟩,i⟩
 refine Y8.ite (λj=>?_) (λ_=>u);have j:Z7 b:=⟨(YS _).1 j,V⟩;refine Y8.ite (λ_=>u) (λw=>?_);have e:=j.ok.1.few;have I:1<=(K4 b).length:=by omega
 have z:=C j.ok (by grind);have K:=z.insts;have g:1<=(Zg (K2 b)).length:=by
  have l:=Ub (show 0<(K3 (K2 b)).length by omega);generalize (K3 (K2 b))[0]=x at l;obtain⟨_,⟨c,q,L⟩,_⟩:=j.ok.1.2.2.1 x (Ud l);have q:(Gd (K6 b))[(Gr x).toNat]?=some c:=q;have H:2<=(Gb c).length:=(j.ok.1.1.2.1 c (Ud q)).2.1.1;have D:=Ub (show 0<(Gc x).length by omega);have:=(Ua.1 (Zbs l D)).1;omega
 rw[ZP _ e,Bq];have G:∀S,Src S->Y8 (kd1 b (Zg (K2 b)) S) ZDC:=λS h=>by
  unfold kd1;refine(ZI h _).bind λR ⟨⟨a0,A⟩,d⟩=>?_;refine .at a0 (by omega) λx l _=>?_;obtain⟨⟨c0,_⟩,_⟩:=j.ok.1.2.2.1 x l;refine(ZzA e _ _).bind λf _=>?_;have t0:=Kx (a:=Gr x) 8 c0;have T:=Kq (Gr x) (show(0:Int)<8 by omega);refine .at t0 (by grind) λy _ _=>?_;exact ZqK d (by simp) Zqz
 have o:∀S,Src S->Y8 (kd2 b (Zg (K2 b)) S) ZDC:=λS h=>by
  unfold kd2;refine(ZuE h e g).bind λJ m=>?_;refine(ZI m 2).bind λR ⟨_,d⟩=>?_;refine(ZI d 3).bind λn ⟨⟨a0,A⟩,H⟩=>?_;refine(ZsW a0).bind λN E=>?_;refine .guard (by grind) ?_;exact ZqK H (by grind) Zqz
 have t:∀S,Src S->Y8 (tl b (Zg (K2 b)) 3 0 0 0 0 [] ZGS S) ZDC:=λS h=>ZqK h (by simp) Zqz;have p:∀S,Src S->Y8 (kd4 b (Zg (K2 b)) S) ZDC:=λS h=>by
  unfold kd4;refine(ZuE h e g).bind λJ m=>?_;refine(ZI m _).bind λR ⟨⟨a0,A⟩,d⟩=>?_;refine .at a0 (by omega) λx l _=>?_;refine(ZI d _).bind λn ⟨_,H⟩=>?_;exact ZqK H (by simp) Zqz
 have v:∀S,Src S->Y8 (kd5 b (Zg (K2 b)) S) ZDC:=λS h=>by
  unfold kd5;refine(ZI h _).bind λR ⟨_,d⟩=>?_;rw[Xn _ _ e,Bq];have F:(Xx (K2 b) R.1).length<=78:=Ko (ZaN R.1 (Zg (K2 b)) 0) (ZQ e);refine(ZuW d (k:=((Xx (K2 b) R.1).length:Int))).bind λn ⟨w,H⟩=>?_;exact ZqK H (by simp) w.sm
 refine(ZI i 8).bind λr ⟨_,d⟩=>?_;repeat' first
  |exact G _ d
  |exact o _ d
  |exact t _ d
  |exact p _ d
  |exact v _ d
  |refine Y8.ite (λ_=>?_) (λ_=>?_)
theorem Ve.net (h:Ve b e):1<=(K5 (K2 b)).length:=by
 have j:=h.blk;have a:∀{n:Int},ZbJ (K2 b) n->1<=(K5 (K2 b)).length:=λ{n} f=>by
  have:=f.1;have:=f.2;omega
 by_cases d:K7 e=1
 ·obtain⟨p,x,c,c2,g,_⟩:=h.poss.1 d
  exact a (XP j.ok.1 g.mem)
 by_cases k:K7 e=2
 ·obtain⟨p,c,g,_⟩:=h.poss.2.1 k
  exact a (XP j.ok.1 g.mem)
 by_cases K:K7 e=3
 ·obtain⟨x,c,w,m,f,l,_,_,_,_,R,_⟩:=h.poss.2.2.1 K
  obtain⟨_,_,t⟩:=j.ok.1.2.2.1 x (Ud l);exact a (t m (Ud (show(Gc x)[0]?=some m from R)))
 by_cases o:K7 e=4
 ·obtain⟨p,g,_⟩:=h.poss.2.2.2.1 o
  exact a (XP j.ok.1 g.mem)
 ·have s:K7 e=5:=by have:=h.blank;unfold Blank at this;omega
  exact a (h.range.2.2 s)
theorem Zsc:Zr4 ZvL:=⟨Zyo,λ_ h=>absurd rfl h⟩
theorem ZqC (b:Za) (e:Zh) (h:Zr4 b) (m:sm XI e):Y8 (JA b e) (λr=>Zr4 r.1):=by
 obtain⟨c,f,g⟩:=Zv2 b e h.1 m;unfold JA;rw[f,Bq];by_cases q:c=0
 ·have z:=g q
  obtain⟨r,a,A,j,_⟩:=Zwn z m;rw[Uc q,A,Bq];have w:=z.blk.ok.2.1;have n:=z.net;exact .ret ⟨j.sm,λ_ _=>ZBT z m (h.2 z.blk.ok (by grind)) a⟩
 ·rw[Ue q]
  exact .ret Zsc
theorem ZrB (c:Src s) (h:Zr4 b) (k:0<=most:=by omega) (o:most<=10:=by omega):Y8 (Zcl s b most) (λr=>(r.1.length<=10/\∀e∈r.1,sm XI e)/\Src r.2):=by
 unfold Zcl;rw[QR (n:=most+1)];refine(ZI c _).bind λt ⟨⟨a0,A⟩,W⟩=>?_;refine Y8.loop (λv=>0<=v.2.1/\v.2.1<=10/\(v.1.length:Int)+v.2.1<=10/\(∀e∈v.1,sm XI e)/\Src (v.2.2.1,v.2.2.2.1,v.2.2.2.2.1,())/\Zr4 ((v.2.2.2.2.2.1,()),(v.2.2.2.2.2.2.1,v.2.2.2.2.2.2.2.1,v.2.2.2.2.2.2.2.2.1,()),v.2.2.2.2.2.2.2.2.2.1,())) (λv=>v.2.1.toNat)
  ⟨a0,by dsimp only;omega,by grind,λx l=>(by cases l),W,h⟩ ?_
 rintro⟨out,n,c0,c1,c2,R,U,O,P,C,⟨⟩⟩ ⟨d,j,g,i,a,I⟩;dsimp only at d j g i a I;show Y8 (ZcN out n c0 c1 c2 R U O P C) _;unfold ZcN;have M:Wq (n-1)=n-1:=QR;rw[M];refine Y8.ite (λp=>?_) (λ_=>?_)
 ·refine(ZmE a I).bind λr ⟨m,f⟩=>?_
  refine(ZqC _ _ I m).bind λq H=>?_;refine Y8.ite (λ_=>?_) (λ_=>?_)
  ·exact .guard (by grind) (.ret ⟨⟨by dsimp only;omega,by dsimp only;omega,by grind,ZeH i m,f,H⟩,by dsimp only;omega⟩)
  ·exact .ret ⟨⟨by dsimp only;omega,by dsimp only;omega,by dsimp only;omega,i,f,I⟩,by dsimp only;omega⟩
 ·exact .ret (show(out.length<=10/\∀e∈out,sm XI e)/\Src (c0,c1,c2,())from⟨⟨by omega,i⟩,a⟩)
theorem Zpr (h:Zr4 b) {l:List Zh} (g:∀e∈l,sm XI e):Y8 (Zf0 b l) (λr=>Zr4 r.1):=by
 unfold Zf0;rw[Qb b h.1,Bq];refine Y8.ite (λ_=>Y8.ite (λ_=>.ret Zsc) (λH=>?_)) (λ_=>.ret Zsc);rw[ZqG b h.1,Bq];refine Y8.loop (λv=>0<=v.1/\v.1<=20/\Zr4 ((v.2.2.2.2.2.2.1,()),(v.2.2.2.2.2.2.2.1,v.2.2.2.2.2.2.2.2.1,v.2.2.2.2.2.2.2.2.2.1,()),v.2.2.2.2.2.2.2.2.2.2.1,())) (λv=>(20-v.1).toNat)
  ⟨U6 _,by dsimp only;omega,h⟩ ?_
 rintro⟨i,c0,c1,c2,R,U,O,P,C,c,d,⟨⟩⟩ ⟨a,k,I⟩;dsimp only at a k I;show Y8 (ZdM l i c0 c1 c2 R U O P C c d) _;unfold ZdM;have M:Wq (i+1)=i+1:=QR;rw[M];refine Y8.ite (λf=>?_) (λ_=>.ret (show Zr4 _ from I));refine .at a f λe m _=>?_;refine(ZqC _ _ I (g e m)).bind λq j=>?_;refine Y8.ite (λ_=>?_) (λ_=>.ret (show Zr4 _ from Zsc));exact .ret ⟨⟨by dsimp only;omega,by dsimp only;omega,j⟩,by dsimp only;omega⟩
theorem Zrv (q:Src s):Y8 (Zcj s) (λr=>(Zr4 r.1/\Few (K2 r.1))/\Src r.2):=by
 unfold Zcj;refine(ZI q 3).bind λF ⟨_,m⟩=>?_;refine(Znq m (most:=6) (by omega) (by omega) _).bind λa ⟨e,H⟩=>?_;obtain⟨l,bd,D,b⟩:=e;have C:=bd.dn;have n:=bd.nl;have j:=bd.n0;have k:=bd.n1;have v:5<=(K4 a.1).length/\(K4 a.1).length<=12:=by omega
 refine(ZI H _).bind λR ⟨⟨a0,A⟩,f⟩=>?_;have A:R.1<((K4 a.1).length:Int):=by
  grind
 refine(ZI f 20).bind λG ⟨_,g⟩=>?_;have d:∀w∈K4 a.1,sm ZbR w:=λw c=>(b w c).sm;have S:∀(w:Zq),sm ZbR w->sm (.sl ZbR) (List.set (K4 a.1) (Int.toNat R.1) w):=λw c=>smL (by grind) (Zr8 d c);have M:∀(ws:List Zq) (t:Zm),sm (.sl ZbR) ws->Src t->Y8 (some ((a.1.1,a.1.2.1,ws,()),t)) (λr:Za×Zm=>(Zr4 r.1/\Few (K2 r.1))/\Src r.2):=λws t c u =>
  .ret ⟨⟨⟨Zft l bd.sm c,λ_ _=>C⟩,bd.few⟩,u⟩
 refine Y8.ite (λ_=>?_) (λ_=>?_)
 ·refine .guard (by grind) (.guard (U6 _) ?_)
  refine M _ _ (smL ?_ (λw c=>d w ?_)) g;all_goals grind
 refine Y8.ite (λ_=>?_) (λ_=>?_)
 ·refine .at a0 A λw c _=>?_
  obtain⟨⟨w1,w2⟩,w3,w4,w5⟩:=b w c;have w5:(w.snd.snd.snd.fst).length<=100:=w5;rw[ZsE _,Bq];refine .guard (by grind) (M _ _ (S _ ?_) g);refine Zju (by grind) (by grind) (by grind) ?_;grind
 refine Y8.ite (λ_=>?_) (λ_=>?_)
 ·refine .at a0 A λw c _=>?_
  obtain⟨⟨w1,w2⟩,w3,w4,w5⟩:=b w c;refine .at (by omega) (by grind) λ_ _ _=>M _ _ (S _ ?_) g;refine Zju (by grind) (by grind) (by grind) (by grind)
 refine Y8.ite (λ_=>?_) (λ_=>?_)
 ·refine .at a0 A λw c _=>?_
  obtain⟨⟨w1,w2⟩,w3,w4,w5⟩:=b w c;refine(ZI g 3).bind λx ⟨⟨b0,U⟩,i⟩=>?_;refine .at b0 (by grind) λ_ _ _=>?_;refine .at (by omega) (by grind) λ_ _ _=>M _ _ (S _ ?_) i;refine Zju (by grind) (by grind) (by grind) (by grind)
 refine Y8.ite (λ_=>?_) (λ_=>?_)
 ·refine .at a0 A λw c _=>?_
  obtain⟨⟨w1,w2⟩,w3,w4,w5⟩:=b w c;refine(ZI g 5).bind λx ⟨_,i⟩=>?_;have E:Wq (((K8 w).length:Int)-1)=((K8 w).length:Int)-1:=QR;refine .at (by grind) (by grind) λ_ _ _=>M _ _ (S _ ?_) i;refine Zju (by show(List.set (K8 w) _ _).length<=_;rw[UH];omega) (by grind) (by grind) (by grind)
 refine Y8.ite (λ_=>?_) (λ_=>?_)
 ·refine .at (by omega) (by show(0:Int)<((Ge (K2 a.1)).length:Int);have:=bd.p0;omega) λp o _=>?_
  obtain⟨y,z,B⟩:=Zbw bd.sm;have h:=bd.port p o;unfold ZyK at h;refine .ret ⟨⟨⟨Zft l (ZgH y B ?_) (smL (by grind) d),λ_ _=>ZEB C rfl rfl⟩,⟨bd.few.insts,by show(List.set (Ge (K2 a.1)) _ _).length<=_;rw[UH];exact bd.few.ports,bd.few.nets⟩⟩,g⟩;refine smL (by show(List.set (Ge (K2 a.1)) _ _).length<=_;rw[UH];have:=bd.p1;omega) (Zr8 z.2 ⟨smS (by grind),trivial,trivial,trivial⟩)
 ·exact M _ _ (smL (by grind) d) g
theorem ZyV (q:Src s):Y8 (Zcj s) (λr=>Zr4 r.1/\Src r.2):=(Zrv q).mono λ_ h=>⟨h.1.1,h.2⟩
theorem ZfU (h:l.length<=1048576):Zbp l l=some true:=by
 unfold Zbp;rw[Uc rfl];refine Yv (l:=l) (λk=>((k:Int),())) (λk x H a=>?_) ?_
 ·simp only[ZeW,show(k:Int)<(l.length:Int) by omega,Ui,Zp,H,Bq,Y3 (show k<=1048576 by omega)]
 ·simp only[ZeW,Uf,Uh]
theorem Zwf (w:Zq) (h:sm ZbR w):ZjT w w=some true:=by
 obtain⟨a,b,c,d⟩:=Zk1 h;unfold ZjT;rw[ZfU _ (Zv a),ZfU _ (Zv b),ZfU _ (Zv c),ZfU _ (Zv d)];rfl
theorem Ztw (d:Zb) (h:sm YN d):ZhI d d=some true:=by
 obtain⟨a,b,c⟩:=Zbw h;have n:=Zv a;have f:=Zv b;have q:=Zv c;unfold ZhI;rw[Uc rfl,Uc rfl,Uc rfl];refine Yv (l:=K3 d) (λk=>((k:Int),())) (λk x H e=>?_) ?_
 ·simp only[ZeZ,show(k:Int)<((K3 d).length:Int) by omega,Ui,Zp,H,Bq,ZfU _ (Zv (Zjt (JJ a H)).2),Y3 (show k<=1048576 by omega)]
 simp only[ZeZ,Uf,Uh];refine Yv (l:=K5 d) (λk=>((k:Int),())) (λk x H e=>?_) ?_
 ·simp only[ZeY,show(k:Int)<((K5 d).length:Int) by omega,Ui,Zp,H,Bq,Y3 (show k<=1048576 by omega)]
 simp only[ZeY,Uf,Uh];refine Yv (l:=Ge d) (λk=>((k:Int),())) (λk x H e=>?_) ?_
 ·simp only[ZeX,show(k:Int)<((Ge d).length:Int) by omega,Ui,Zp,H,Bq,decide_true,Bool.and_self,Y3 (show k<=1048576 by omega)]
 ·simp only[ZeX,Uf,Uh]
theorem ZuU (b:Za) (h:sm Ya b):Zhc b b=some true:=by
 obtain⟨a,d,c⟩:=Vi h;have q:=Zv c;unfold Zhc;rw[Ztw _ d,Bq,Uc rfl,Uc rfl,Uc rfl];refine Yv (l:=K4 b) (λk=>((k:Int),())) (λk x H e=>?_) ?_
 ·simp only[ZfS,show(k:Int)<((K4 b).length:Int) by omega,Ui,Zp,H,Bq,Zwf _ (JJ c H),Y3 (show k<=1048576 by omega)]
 ·simp only[ZfS,Uf,Uh]
theorem Zi2 (h:Ve b e) (m:sm XI e) (F:ZH e b=some r):VB b e=some 0/\Zaq b e=some (r,0):=by
 have E:VB b e=some 0:=by
  unfold VB;rw[ZfK b h.blk.sm,Bq,Uc (ZY h.blk.ok),(Zws h m).1];rfl
 refine⟨E,?_⟩;unfold Zaq;grind
theorem bytesD (b:bnd (.sl (.int .u8)) code):∀x∈code,0<=x/\x<=255:=λx l=>b.2 x l
def Live (L:List Zt) (v:List Bool) (a c:Int):Prop:=∃(k:Nat) (l:Zt),L[k]?=some l/\v[k]?=some true/\Gj l=a/\Gm l=c
inductive Rch (L:List Zt) (lv:List Bool) (S:Int->Prop):Int->Prop
 |base {a:Int}:S a->Rch L lv S a
 |step {a c:Int}:Rch L lv S a->Live L lv a c->Rch L lv S c
variable {L:List Zt} {l:List Bool} {S:Int->Prop} {a:Int}
theorem Rch.sub {T:Int->Prop} (m:∀a,S a->T a) (d:∀a c,T a->Live L l a c->T c) (h:Rch L l S a):T a:=by
 induction h with
 |base h=>exact m _ h
 |step _ q i=>exact d _ _ i q
theorem Rch.mono {T:Int->Prop} (m:∀a,S a->T a) (h:Rch L l S a):Rch L l T a:=h.sub (λa n=>.base (m a n)) (λa c n q=>.step n q)
def InN (N:Nat) (L:List Zt):Prop:=∀l∈L,(0<=Gj l/\Gj l<(N:Int))/\(0<=Gm l/\Gm l<(N:Int))
def cf (l:List Bool):Nat:=l.countP (λb=>!b)
theorem ZDO:∀(l:List Bool) (i:Nat),l[i]?=some false->cf (l.set i true)+1=cf l
 |[],_,h=>by simp at h
 |b::l,0,h=>by simp at h;subst h;simp[cf]
 |b::l,i+1,h=>by
  have:=ZDO l i (by simpa using h);unfold cf at this ⊢;simp only[List.set_cons_succ,List.countP_cons];omega
theorem bat {b:Bool} (h:atI l i=some b) (m:0<=i):l[i.toNat]?=some b:=by
 unfold atI at h;rw[Uc m]at h;exact h
theorem ZG1 {i:Nat} (a:Nat) (h:l[a]?=some true):(l.set i true)[a]?=some true:=by
 rw[UR];split
 ·have:=(Ua.1 h).1
  rw[QP]
 ·exact h
def Closed (L:List Zt) (v:List Bool) (k:Nat) (s:List Bool):Prop:=∀(j:Nat) (l:Zt),j<k->L[j]?=some l->v[j]?=some true->s[(Gj l).toNat]?=some true->s[(Gm l).toNat]?=some true
structure ZHn (N:Nat) (L:List Zt) (lv:List Bool) (S:Int->Prop) (k:Nat) (s0:List Bool) (ch:Bool) (s:List Bool):Prop where
 len:s.length=N
 snd:∀a:Nat,s[a]?=some true->Rch L lv S (a:Int)
 up:∀a:Nat,s0[a]?=some true->s[a]?=some true
 still:ch=false->s=s0/\Closed L lv k s0
 less:cf s+(if ch=true then 1 else 0)<=cf s0
variable {N:Nat}
theorem round_eq {g:List Bool} (U:InN N L) (V:L.length<=6000) (Z:g.length=L.length) {s0:List Bool} (Q:s0.length=N) (T:∀a:Nat,s0[a]?=some true->Rch L g S (a:Int)) :
  ∃C s,ZA (λv=>Qw L g true v.1 v.2.1 v.2.2.1) (false,(0:Int),s0,())=some (.inl (C,s,()))/\ZHn N L g S L.length s0 C s:=by
 obtain⟨r,R,C,s,rfl,x⟩:=ZfV (l:=L) (ρ:=(Bool×List Bool×Unit)⊕List Bool) (step:=λv=>Qw L g true v.1 v.2.1 v.2.2.1) (v:=(false,(0:Int),s0,()))
  (λk v=>v.2.1=(k:Int)/\ZHn N L g S k s0 v.1 v.2.2.1) (λr=>∃C s,r=.inl (C,s,())/\ZHn N L g S L.length s0 C s)
  ⟨rfl,Q,T,λa h=>h,λ_=>⟨rfl,λj l Y=>by omega⟩,by simp⟩
  (by
   rintro k l ⟨C,i,s,⟨⟩⟩ y hk ⟨u,c⟩;simp only at u c;subst u;have m:=U l (Ud y);have J:=c.len;have d:g[k]?=some g[k]:=Ub (by omega);generalize g[k]=z at d;obtain ⟨X,w,_⟩:=Zit (l:=s) m.1.1;obtain ⟨K,B,_⟩:=Zit (l:=s) m.2.1;have o:=bat w m.1.1;have p:=bat B m.2.1;simp only[Qw,show (k:Int)<(L.length:Int) from by omega,Ui,Zp,y,d,w,B,Bq];have keep:(z=true->X=true->K=true)->ZHn N L g S (k+1) s0 C s:=λF=>⟨c.len,c.snd,c.up,λE=>by
    obtain⟨M,P⟩:=c.still E;refine⟨M,λj l' Y f b H=>?_⟩;by_cases G:j=k
    ·subst G
     rw[y]at f;injection f with f;subst f
     rw[d]at b;injection b with b
     subst M;rw[o]at H;injection H with H
     rw[p,F b H]
    ·exact P j l' (by omega) f b H,c.less⟩
   by_cases q:z=true
   ·subst q
    by_cases x:X=true
    ·subst x
     by_cases O:K=true
     ·subst O
      simp only[Ui];exact⟨_,rfl,by simp only;rw[Y3],keep (λ_ _=>rfl)⟩
     ·have D:K=false:=by simpa using O
      subst D;simp only[Ui,Ka,Uh];have W:=ZDO s (Gm l).toNat p;have I:=c.less;refine⟨_,rfl,by simp only;rw[Y3],by simp[J],λa n=>?_,λa n=>ZG1 a (c.up a n),λh=>(by cases h),?_⟩
      ·simp only at n
       rw[UR]at n;split at n
       ·rename_i e
        rw[<-e,show((Gm l).toNat:Int)=Gm l by omega];have H:=c.snd _ o;rw[show((Gj l).toNat:Int)=Gj l by omega]at H;exact .step H ⟨k,l,y,d,rfl,rfl⟩
       ·exact c.snd a n
      ·simp only[Ui]
       have:(if C=true then 1 else 0)<=1:=by split<;>omega
       omega
    ·have A:X=false:=by simpa using x
     subst A;simp only[Ui,Ka,Uh];exact⟨_,rfl,by simp only;rw[Y3],keep (λ_ h=>by cases h)⟩
   ·have t:z=false:=by simpa using q
    subst t;simp only[Ui,Ka,Uh];exact ⟨_,rfl,by simp only;rw[Y3],keep (λh=>by cases h)⟩)
  (by
   rintro ⟨C,i,s,⟨⟩⟩ ⟨u,c⟩;simp only at u c;subst u;simp only[Qw,Uf,Uh];exact ⟨_,rfl,C,s,rfl,c⟩)
 exact⟨C,s,R,x⟩
variable {d:List Bool}
theorem ZrW (J:N<=1000) (z:InN N L) (p:L.length<=6000) (t:d.length=L.length) {node:Int} (u:0<=node/\node<(N:Int)) :
  ∃r,ZbF (N:Int) L d node true=some r/\r.length=N/\∀(a:Nat) (b:Bool),r[a]?=some b->(b=true<->Rch L d (λa=>a=node) (a:Int)):=by
 unfold ZbF;obtain⟨x,O,_⟩:=Zit (l:=List.replicate (Int.toNat (N:Int)) false) u.1 (by simp;exact u.2);rw[Ra,Ra,Ra,Ra,O,Bq];have w:(node.toNat:Int)=node:=by omega
 have:=Zh0 (σ:=Bool×List Bool×Unit) (ρ:=List Bool) (step:=λv=>Ju L d true v.1 v.2.1)
  (λv=>v.2.1.length=N/\(∀a:Nat,v.2.1[a]?=some true->Rch L d (λa=>a=node) (a:Int))/\v.2.1[node.toNat]?=some true/\(v.1=false->Closed L d L.length v.2.1))
  (λv=>2*cf v.2.1+(if v.1=true then 1 else 0))
  (λr=>r.length=N/\∀(a:Nat) (b:Bool),r[a]?=some b->(b=true<->Rch L d (λa=>a=node) (a:Int)))
  (v:=(true,List.set (List.replicate (Int.toNat (N:Int)) false) (Int.toNat node) true,()))
  ⟨by simp,λa n=>(by
   simp only at n;rw[UR]at n;split at n
   ·rename_i e;rw[<-e];exact .base w
   ·rw[Kb]at n
    split at n
    ·cases n
    ·cases n),(by simp only;rw[UG (by simp;omega)]),λh=>(by cases h)⟩
  (by
   rintro⟨B,s,⟨⟩⟩ ⟨E,m,o,y⟩;simp only at E m o y;simp only[Ju];by_cases q:B=true
   ·rw[Uc q]
    obtain⟨C,S,f,g⟩:=round_eq z p t E m;rw[f];refine .inl ⟨_,rfl,⟨g.len,g.snd,g.up _ o,λh=>?_⟩,?_⟩
    ·obtain⟨e,H⟩:=g.still h
     simp only;rw[e];exact H
    ·have I:=g.less
     simp only[q,Ui];by_cases j:C=true
     ·simp only[j,Ui]at I ⊢;omega
     ·simp only[j,Uh]at I ⊢;omega
   ·rw[Ue q]
    have H:=y (by simpa using q);refine .inr ⟨s,rfl,E,λa b A=>?_⟩;constructor
    ·intro h;subst h;exact m a A
    ·intro h
     have i:∀c:Int,Rch L d (λa=>a=node) c->(0<=c/\s[c.toNat]?=some true):=by
      intro c q;refine q.sub (T:=λc=>0<=c/\s[c.toNat]?=some true) (λa n=>by subst n;exact⟨u.1,o⟩) (λa c n M=>?_);obtain⟨k,l,f,D,F,G⟩:=M;have K:=z l (Ud f);refine⟨by omega,?_⟩;rw[<-G];exact H k l (Ua.1 f).1 f D (by rw[F];exact n.2)
     have:=(i (a:Int) h).2;rw[Up,A] at this;injection this)
 exact this
def Zlv (L:List Zt):List Zt:=L.map (λl=>(Gm l,Gj l,GP l,l.2.2.2))
theorem Zsq (L:List Zt):(Zlv L).length=L.length:=UW ..
theorem ZEe (f:α->β) (l:List α) (i:Int):atI (l.map f) i=(atI l i).map f:=by
 unfold atI;grind
theorem Zyi (n node:Int) (L:List Zt) (l:List Bool):ZbF n L l node false=ZbF n (Zlv L) l node true:=by
 have E:∀(c:Bool) (k:Int) (a:List Bool),Qw L l false c k a=Qw (Zlv L) l true c k a:=by
  intro c k a;unfold Qw;rw[Zsq];by_cases h:k<(L.length:Int)
  ·rw[Uc h,Uc h]
   unfold Zlv;rw[ZEe];cases atI L k with
   |none=>rfl
   |some x=>rfl
  grind
 have e:∀(c:Bool) (l0:List Bool),Ju L l false c l0=Ju (Zlv L) l true c l0:=by
  intro c l0;unfold Ju;simp only[E]
 unfold ZbF;simp only[e]
variable {v:List Bool}
theorem ZAn (h:Live (Zlv L) v a c):Live L v c a:=by
 obtain⟨k,l,d,f,g,i⟩:=h;unfold Zlv at d;rw[UL,Km]at d;obtain⟨x,H,rfl⟩:=d;exact⟨k,x,H,f,i,g⟩
theorem ZxZ (h:Live L v c a):Live (Zlv L) v a c:=by
 obtain⟨k,l,d,f,g,i⟩:=h;exact⟨k,_,by unfold Zlv;rw[UL,d];rfl,f,i,g⟩
theorem ZCx (h:InN N L):InN N (Zlv L):=λl q=>by
 unfold Zlv at q;obtain⟨x,H,rfl⟩:=Ke.1 q;exact⟨(h x H).2,(h x H).1⟩
structure Scc (N:Nat) (L:List Zt) (lv:List Bool) (v:Int) (m:List Int):Prop where
 mem:∀c,c∈m<->((0<=c/\c<(N:Int))/\Rch L lv (λa=>a=v) c/\Rch (Zlv L) lv (λa=>a=v) c)
 nod:m.Nodup
 len:m.length<=N
 more:1<m.length\/∃(k:Nat) (l:Zt),L[k]?=some l/\lv[k]?=some true/\Gj l=v/\Gm l=v
 v0:0<=v/\v<(N:Int)
theorem ZvM (v:Int):∀{m:List Int},m.Nodup->1<m.length->∃a,a∈m/\a≠v
 |[],_,h=>by simp at h
 |[_],_,h=>by simp at h
 |a::b::r,f,_=>by
  by_cases q:a=v
  ·refine⟨b,by simp,λe=>?_⟩
   grind
  simp_all
variable {v:Int} {m:List Int}
theorem Scc.cell (h:Scc N L d v m) {D:Int->Prop} (t:InN N L) (E:∀l∈L,GP l=1\/(D (Gj l)/\¬D (Gm l))) :
  ∃(k:Nat) (l:Zt),L[k]?=some l/\d[k]?=some true/\GP l=1/\Gj l∈m/\Gm l∈m:=by
 apply US;intro x;have y:∀(a c:Int),Live L d a c->a∈m->c∈m->D a/\¬D c:=by
  rintro a c ⟨k,l,e,j,rfl,rfl⟩ n o;grind
 have inn:∀{a c:Int},Live L d a c->(0<=a/\a<(N:Int))/\(0<=c/\c<(N:Int)):=by
  rintro a c ⟨k,l,e,j,rfl,rfl⟩;exact t l (Ud e)
 have F:v∈m:=(h.mem v).2 ⟨h.v0,.base rfl,.base rfl⟩;rcases h.more with w|⟨k,l,e,j,A,B⟩
 ·obtain⟨a,n,b⟩:=ZvM v h.nod w
  obtain⟨_,p,s⟩:=(h.mem a).1 n;have r:=p;have R:=s;cases p with
  |base q=>exact b q
  |@step c _ z f =>
   have o:c∈m:=(h.mem c).2 ⟨(inn f).1,z,R.step (ZxZ f)⟩;have K:=y _ _ f o n;cases s with
   |base q=>exact b q
   |@step C _ i g =>
    have H:=ZAn g;have u:C∈m:=(h.mem C).2 ⟨(inn H).2,r.step H,i⟩;grind
 grind
variable {a:List Bool}
theorem ZA6 (H:L.length<=6000) (c:a.length=L.length) (v:Int):Y8 (ZiU L a v) (λr=>r=true->∃(k:Nat) (l:Zt),L[k]?=some l/\a[k]?=some true/\Gj l=v/\Gm l=v):=by
 unfold ZiU;refine Y8.loop (λs=>0<=s.1/\s.1<=6000) (λs=>(6000-s.1).toNat) ⟨U6 _,by dsimp only;omega⟩ ?_;rintro⟨k,⟨⟩⟩ ⟨K,e⟩;dsimp only at K e;show Y8 (Zgj L a v k) _;unfold Zgj;have M:Wq (k+1)=k+1:=QR;simp only[M];refine Y8.ite (λb=>?_) (λ_=>.ret (show false=true->_ from λq=>by cases q));refine .at K (by omega) λx i J=>?_;refine Y8.ite (λh=>?_) (λ_=>.ret ⟨⟨by dsimp only;omega,by dsimp only;omega⟩,by dsimp only;omega⟩);refine .at K b λl g T=>?_;refine Y8.ite (λd=>?_) (λ_=>.ret ⟨⟨by dsimp only;omega,by dsimp only;omega⟩,by dsimp only;omega⟩);refine Y8.ite (λf=>?_) (λ_=>.ret ⟨⟨by dsimp only;omega,by dsimp only;omega⟩,by dsimp only;omega⟩);exact .ret (show true=true->_ from λ_=>⟨k.toNat,l,T,by rw[J,h],d,f⟩)
theorem Zx7 (e:N<=1000) (B:InN N L) (H:L.length<=6000) (f:d.length=L.length):Y8 (ZhS (N:Int) L d) (λr=>∀m∈r,∃v,Scc N L d v m):=by
 unfold ZhS;refine .guard (by omega) (.guard (U6 _) (.guard (by omega) (.guard (by omega) ?_)));refine Y8.loop (λs=>0<=s.2.1/\s.2.1<=(N:Int)/\(s.1.length:Int)<=s.2.1/\(∀m∈s.1,∃v,Scc N L d v m)/\s.2.2.1.length=N) (λs=>((N:Int)-s.2.1).toNat) ⟨U6 _,by dsimp only;omega,by grind,λm R=>(by cases R),by simp⟩ ?_;rintro⟨out,v,l0,⟨⟩⟩ ⟨I,W,X,i,u⟩;dsimp only at I W X i u;show Y8 (Zfm (N:Int) L d out v l0) _;unfold Zfm;have M:Wq (v+1)=v+1:=QR;refine Y8.ite (λj=>?_) (λ_=>.ret (show ∀m∈out,_ from i));refine .at I (by omega) λx T _=>?_;refine Y8.ite (λ_=>?_) (λ_=>?_)
 ·rw[M]
  exact .ret ⟨⟨by dsimp only;omega,by dsimp only;omega,by dsimp only;omega,i,u⟩,by dsimp only;omega⟩
 obtain⟨r0,F,a2,P⟩:=ZrW e B H f (node:=v) ⟨I,j⟩;obtain⟨r1,E,a3,z⟩:=ZrW (L:=Zlv L) e (ZCx B) (by rw[Zsq];exact H) (by rw[Zsq];exact f) (node:=v) ⟨I,j⟩;rw[<-Zyi]at E;rw[F,Bq,E,Bq];refine Y8.loop (λs=>0<=s.2.1/\s.2.1<=(N:Int)/\(s.1.length:Int)<=s.2.1/\s.1.Nodup/\s.2.2.1.length=N/\∀c,c∈s.1<->((0<=c/\c<s.2.1)/\Rch L d (λa=>a=v) c/\Rch (Zlv L) d (λa=>a=v) c)) (λs=>((N:Int)-s.2.1).toNat)
  ⟨U6 _,by dsimp only;omega,by grind,KW,u,λc=>⟨λh=>(by cases h),λh=>by grind⟩⟩ ?_
 rintro⟨m,k,l,⟨⟩⟩ ⟨j0,Y,Z,w,J,D⟩;dsimp only at j0 Y Z w J D;show Y8 (Zfl (N:Int) L d out v r0 r1 m k l) _;unfold Zfl;have O:Wq (k+1)=k+1:=QR;simp only[O,M];refine Y8.ite (λQ=>?_) (λQ=>?_)
 ·refine .at j0 (by omega) λx T o=>?_
  have g:(k.toNat:Int)=k:=by omega
  have a0:=P k.toNat x o;rw[g]at a0;have skip:(¬(Rch L d (λa=>a=v) k/\Rch (Zlv L) d (λa=>a=v) k))->∀c,c∈m<->((0<=c/\c<k+1)/\Rch L d (λa=>a=v) c/\Rch (Zlv L) d (λa=>a=v) c):=λhn c=>by
   grind
  refine Y8.ite (λU=>?_) (λp=>?_)
  ·refine .at j0 (by omega) λy hy t=>?_
   have A:=z k.toNat y t;rw[g]at A;refine Y8.ite (λV=>?_) (λG=>?_)
   ·refine .guard (by grind) ?_
    refine .at j0 (by omega) λ_ _ _=>?_;refine .ret ⟨⟨by dsimp only;omega,by dsimp only;omega,by simp_all,?_,by grind,λc=>?_⟩,by dsimp only;omega⟩
    ·dsimp only
     rw[U2];refine⟨w,by simp,λa ha b hb=>?_⟩;grind
    grind
   ·exact .ret ⟨⟨by dsimp only;omega,by dsimp only;omega,by dsimp only;omega,w,J,skip λq=>G (A.2 q.2)⟩,by dsimp only;omega⟩
  ·exact .ret ⟨⟨by dsimp only;omega,by dsimp only;omega,by dsimp only;omega,w,J,skip λq=>p (a0.2 q.1)⟩,by dsimp only;omega⟩
 ·have n:k=(N:Int):=by omega
  have C:(1<m.length\/∃(k:Nat) (l:Zt),L[k]?=some l/\d[k]?=some true/\Gj l=v/\Gm l=v)->Scc N L d v m:=λR=>⟨λc=>by rw[D c,n],w,by omega,R,⟨I,j⟩⟩;refine Y8.ite (λz=>?_) (λ_=>?_)
  ·refine .guard (by grind) (.ret ⟨⟨by dsimp only;omega,by dsimp only;omega,by grind,ZeH i ⟨v,C (.inl (by omega))⟩,J⟩,by dsimp only;omega⟩)
  ·refine(ZA6 H f v).bind λq S=>?_
   refine Y8.ite (λK=>?_) (λ_=>?_)
   ·exact .guard (by grind) (.ret ⟨⟨by dsimp only;omega,by dsimp only;omega,by grind,ZeH i ⟨v,C (.inr (S K))⟩,J⟩,by dsimp only;omega⟩)
   ·exact .ret ⟨⟨by dsimp only;omega,by dsimp only;omega,by dsimp only;omega,i,J⟩,by dsimp only;omega⟩
def Drv (b:Za) (a:Int):Prop:=∃p,(Zg (K2 b))[(a/2).toNat]?=some p/\p.2.2.2.1=true
theorem ZxX (h:Z7 b):∀l∈Zz b,GP l=1\/(Drv b (Gj l)/\¬Drv b (Gm l)):=by
 intro l d;unfold Zz at d;rcases Uu.1 d with d|d
 ·left
  obtain⟨i,x,F,H⟩:=XQ.1 d;unfold Zie at H;split at H
  ·obtain⟨k,a,D,e⟩:=XQ.1 H
   unfold Zo8 at e;obtain⟨p,o,rfl⟩:=Ke.1 e;rfl
  ·cases H
 ·right
  obtain⟨v,w,B,H⟩:=XQ.1 d;rw[Us]at H;have A:v<(K5 (K2 b)).length:=by
   have:=(Ua.1 B).1;have:=h.ok.2.1;omega
  obtain⟨q,y,C,n,u,_⟩:=Zos h.ok.1 (Vi h.sm).2.1 A;obtain⟨j,s,z,f⟩:=XQ.1 H;have g:=Ud z;unfold Xx at g;obtain⟨k,x,r,G⟩:=XQ.1 g;have T:s=(k:Int)/\¬x.2.2.2.1=true:=by
   unfold Qu at G;grind
  have m:y.2.2.2.1=true:=by
   unfold Zu0 at n;grind
  have two:∀c:Int,c=0\/c=1->Drv b (2*Ziu (K2 b) (v:Int)+c)/\¬Drv b (2*s+c):=λc E=>by
   refine⟨⟨y,?_,m⟩,λN=>?_⟩
   ·rw[u,show((2*(q:Int)+c)/2).toNat=q by omega]
    exact C
   ·obtain⟨p,o,t⟩:=N
    rw[T.1,show((2*(k:Int)+c)/2).toNat=k by omega,r]at o;grind
  simp only[UD,UZ,Ks]at f;rcases f with rfl|rfl
  ·exact two 0 (.inl rfl)
  ·exact two 1 (.inr rfl)
theorem Zvz {d:Za} (f:Few (K2 d)):VT d=some ((2*(Zg (K2 d)).length:Nat):Int):=by
 have i:=ZQ f;unfold VT;rw[ZP _ f,Bq,QR];congr 1
def ct (l:List Bool):Nat:=l.countP (λb=>b)
theorem ZDP:∀(l:List Bool) (i:Nat),l[i]?=some true->ct (l.set i false)+1=ct l
 |[],_,h=>by simp at h
 |b::l,0,h=>by simp at h;subst h;simp[ct]
 |b::l,i+1,h=>by
  have:=ZDP l i (by simpa using h);unfold ct at this ⊢;grind
def Found (L:List Zt) (a:List Bool) (m:List Int) (k v:Int):Prop :=
 (v=-1/\∀(j:Nat) (l:Zt),(j:Int)<k->L[j]?=some l->a[j]?=some true->GP l=1->Gj l∈m->Gm l∈m->False)\/(0<=v/\v<(a.length:Int)/\a[v.toNat]?=some true)
theorem Found.stay (h:Found L a m k v) (H:0<=k) (f:∀l,L[k.toNat]?=some l->a[k.toNat]?=some true->GP l=1->Gj l∈m->Gm l∈m->False):Found L a m (k+1) v:=by
 rcases h with⟨e,h⟩|h
 ·refine .inl ⟨e,λj l b q=>?_⟩
  grind
 ·exact .inr h
theorem ZxH (h:Z7 b):Y8 (Zeg b) (λr=>r.length<=6000):=by
 have H:=VN h;have u:=h.ok.1.few;have A:=ZQ u;have n:InN (2*(Zg (K2 b)).length) (Zz b):=λl a=>by
  have:=ZfC h a;omega
 unfold Zeg;rw[Zc2 h,Bq,Zio _ _ H (by simp),Bq,Zvz u,Bq];refine Y8.loop (λs=>s.1.length=(Zz b).length) (λs=>ct s.1) (ZhW _ _) ?_;rintro⟨L,⟨⟩⟩ a;dsimp only at a;show Y8 (Zfk (Zz b) ((2*(Zg (K2 b)).length:Nat):Int) L) _;unfold Zfk;refine(Zx7 (by omega) n H a).bind λloops p=>?_;refine Y8.ite (λf=>?_) (λf=>?_)
 ·refine Y8.loop (λs=>0<=s.2.1/\s.2.1<=6000/\(s.1.length:Int)<=s.2.1) (λs=>(6000-s.2.1).toNat) ⟨U6 _,by dsimp only;omega,by grind⟩ ?_
  rintro⟨out,k,⟨⟩⟩ ⟨i,t,I⟩;dsimp only at i t I;show Y8 (Zfi L out k) _;unfold Zfi;have M:Wq (k+1)=k+1:=QR;simp only[M];refine Y8.ite (λg=>?_) (λ_=>.ret (show out.length<=6000 by omega));refine .at i g λx _ _=>Y8.ite (λ_=>?_) (λ_=>?_)
  ·exact .ret ⟨⟨by dsimp only;omega,by dsimp only;omega,by dsimp only;omega⟩,by dsimp only;omega⟩
  ·exact .guard (by grind) (.ret ⟨⟨by dsimp only;omega,by dsimp only;omega,by grind⟩,by dsimp only;omega⟩)
 ·match loops,f,p with
  |[],f,_=>exact absurd rfl f
  |m::r,_,p =>
   obtain⟨v,c⟩:=p m (by simp);obtain⟨P,ll,c1,c2,R,U,O⟩:=c.cell n (ZxX h);have z:=c.len;refine Y8.loop (λs=>0<=s.2.1/\s.2.1<=((Zz b).length:Int)/\s.2.2.1=m::r/\Found (Zz b) L m s.2.1 s.1) (λs=>(((Zz b).length:Int)-s.2.1).toNat)
    ⟨U6 _,by dsimp only;omega,rfl,.inl ⟨rfl,λj l G=>by grind⟩⟩ ?_
   rintro⟨w,k,S,⟨⟩⟩ ⟨i,t,I,o⟩;dsimp only at i t I o;subst I;show Y8 (Zfj (Zz b) L w k (m::r)) _;unfold Zfj;have M:Wq (k+1)=k+1:=QR;simp only[M];refine Y8.ite (λg=>?_) (λg=>?_)
   ·refine .at i (by omega) λx N J=>?_
    refine Y8.ite (λC=>?_) (λB=>?_)
    ·refine .at i g λl a T=>?_
     have stay:¬(GP l=1/\Gj l∈m/\Gm l∈m)->Found (Zz b) L m (k+1) w:=λK=>o.stay i λl' E _ Q e V=>by
      grind
     refine Y8.ite (λd=>?_) (λd=>?_)
     ·rw[show atI (m::r) (0:Int)=some m from rfl,Bq,Zi8 _ _,Bq]
      refine Y8.ite (λQ=>?_) (λQ=>?_)
      ·rw[Zi8 _ _,Bq]
       refine Y8.ite (λe=>?_) (λe=>?_)
       ·exact .ret ⟨⟨by dsimp only;omega,by dsimp only;omega,rfl,.inr ⟨i,by omega,by grind⟩⟩,by dsimp only;omega⟩
       ·exact .ret ⟨⟨by dsimp only;omega,by dsimp only;omega,rfl,stay λq=>e (UU q.2.2)⟩,by dsimp only;omega⟩
      ·exact .ret ⟨⟨by dsimp only;omega,by dsimp only;omega,rfl,stay λq=>Q (UU q.2.1)⟩,by dsimp only;omega⟩
     ·exact .ret ⟨⟨by dsimp only;omega,by dsimp only;omega,rfl,stay λq=>d q.1⟩,by dsimp only;omega⟩
    ·exact .ret ⟨⟨by dsimp only;omega,by dsimp only;omega,rfl,o.stay i λl' _ F _ _ _=>by
      grind⟩,by dsimp only;omega⟩
   ·have y:=(Ua.1 c1).1
    rcases o with⟨_,q⟩|⟨D,Q,e⟩
    ·grind
    ·refine .at D Q λx _ _=>?_
     have:=ZDP L w.toNat e;refine .ret ⟨?_,?_⟩;all_goals grind
def ZD8 (b:Za):Prop:=Zr4 b/\Few (K2 b)
theorem ZGk.f (h:ZGk b):ZD8 b:=⟨⟨h.sm,λ_ _=>h.des.dn⟩,h.des.few⟩
theorem Zq2 (q:Src s):Y8 (Zef s) (λr=>ZD8 r.1/\Src r.2):=by
 unfold Zef;have b:∀{t:Zm} (d:Bool),Src t->Y8 ((Zau t (6:Int) d).bind λl=>some (l.fst,l.snd)) (λr:Za×Zm=>ZD8 r.1/\Src r.2):=λd a =>
  (Znq a (most:=6) (by omega) (by omega) d).bind λr ⟨h,H⟩=>.ret ⟨h.f,H⟩
 refine(ZI q 12).bind λe ⟨_,m⟩=>?_;refine Y8.ite (λ_=>?_) (λ_=>?_)
 ·exact(Zrv m).bind λr ⟨h,H⟩=>.ret ⟨h,H⟩
 grind
theorem Zvb (q:Src s) (H:sm Ya b):Y8 (J3 s b) (λr=>r.1.length<=7000/\Src r.2):=by
 unfold J3;rw[Qb b H,Bq];refine Y8.ite (λo=>?_) (λ_=>.ret ⟨by simp,q⟩);have h:Z7 b:=⟨(YS _).1 o,H⟩;have p:=VN h;refine(ZI q 3).bind λR ⟨_,m⟩=>?_;refine Y8.ite (λ_=>.ret ⟨by simp,m⟩) (λ_=>?_);rw[Zc2 h,Bq];refine(ZI m 8).bind λa ⟨⟨a0,A⟩,j⟩=>?_;have E:Wq (1+a.1)=1+a.1:=QR;rw[E];refine(ZI j _).bind λz ⟨⟨b0,U⟩,l⟩=>?_;refine Y8.loop (λv=>0<=v.2.1/\v.2.1<=6100/\(v.1.length:Int)<=v.2.1/\Src (v.2.2.1,v.2.2.2.1,v.2.2.2.2.1,())) (λv=>(6200-v.2.1).toNat) ⟨b0,by dsimp only;omega,by grind,l⟩ ?_;rintro⟨out,k,D,d,c,⟨⟩⟩ ⟨t,u,w,I⟩;dsimp only at t u w I;show Y8 (Zcn (Zz b) a out k D d c) _;unfold Zcn;rw[E];refine Y8.ite (λy=>?_) (λ_=>?_)
 ·refine .guard (by grind) ?_
  refine(ZI I _).bind λi ⟨⟨G,F⟩,g⟩=>?_;have x:i.1<=8:=by omega
  have e:Wq (1+i.1)=1+i.1:=QR;have f:Wq (k+(1+i.1))=k+(1+i.1):=QR;rw[e,f];exact .ret ⟨⟨by dsimp only;omega,by dsimp only;omega,by grind,g⟩,by dsimp only;omega⟩
 ·refine(ZI I _).bind λi ⟨_,g⟩=>?_
  refine Y8.ite (λ_=>?_) (λ_=>.ret (show out.length<=7000/\Src i.2 from⟨by omega,g⟩));refine(ZI g _).bind λB ⟨_,n⟩=>?_;refine .guard (by grind) (.ret ⟨?_,n⟩);grind
theorem Zvf (q:Src s):Y8 (J4 s) (λr=>(GZ r.1).length<=5/\Src r.2):=by
 unfold J4;refine(ZI q 3).bind λe ⟨⟨a0,a⟩,m⟩=>?_;refine .at a0 (by grind) λx l _=>?_;have h:x.length<=5:=by
  grind
 refine(ZI m _).bind λR ⟨_,d⟩=>?_;refine(ZI d _).bind λb ⟨_,f⟩=>?_;refine(ZI f _).bind λc ⟨_,g⟩=>?_;refine(ZI g _).bind λk ⟨_,i⟩=>?_;refine(ZI i _).bind λn ⟨_,j⟩=>?_;refine Y8.ite (λ_=>.ret ⟨h,j⟩) (λ_=>?_);refine Y8.ite (λ_=>?_) (λ_=>?_)
 ·refine(ZI j 3).bind λw ⟨⟨b0,U⟩,I⟩=>?_
  exact .at b0 (by grind) λ_ _ _=>.ret ⟨h,I⟩
 refine Y8.ite (λ_=>?_) (λ_=>?_)
 ·exact(ZI j 2).bind λw ⟨_,I⟩=>.ret ⟨h,I⟩
 ·exact Y8.ite (λ_=>.ret ⟨by grind,j⟩) (λ_=>.ret ⟨h,j⟩)
theorem ZoF (O:Src s) (L:sm Ya b):Y8 (Yg s b) (λr=>r.1.length<=400/\Src r.2):=by
 unfold Yg;rw[Qb b L,Bq];refine Y8.ite (λU=>?_) (λ_=>.ret ⟨by simp,O⟩);have h:Z7 b:=⟨(YS _).1 U,L⟩;have j:=h.ok.1.few;have E:=ZQ j;rw[ZP _ j,Bq];generalize Zg (K2 b)=P at E;refine Y8.loop (λv=>0<=v.2.1/\v.2.1<=(P.length:Int)/\(v.1.length:Int)<=2*v.2.1/\Src (v.2.2.1,v.2.2.2.1,v.2.2.2.2.1,())) (λv=>((P.length:Int)-v.2.1).toNat) ⟨U6 _,by dsimp only;omega,by grind,O⟩ ?_;rintro⟨out,p,c0,c1,c2,⟨⟩⟩ ⟨S,W,X,i⟩;dsimp only at S W X i;show Y8 (ZbP P out p c0 c1 c2) _;unfold ZbP;have K:Wq (p+1)=p+1:=QR;refine Y8.ite (λN=>?_) (λN=>?_)
 ·refine .at S N λx _ _=>?_
  refine Y8.ite (λ_=>?_) (λ_=>?_)
  ·refine Y8.loop (λv=>0<=v.2.1/\v.2.1<=2/\(v.1.length:Int)<=2*p+v.2.1/\Src (v.2.2.1,v.2.2.2.1,v.2.2.2.2.1,())) (λv=>(2-v.2.1).toNat) ⟨U6 _,by dsimp only;omega,by dsimp only;omega,i⟩ ?_
   rintro⟨o,k,D,l,m,⟨⟩⟩ ⟨j0,J,I,w⟩;dsimp only at j0 J I w;show Y8 (ZbN p x o k D l m) _;unfold ZbN;have G:Wq (k+1)=k+1:=QR;rw[G,K];have F:∀{t:Zm} {β:Type} {Q:β->Prop} {f:Int×Zm->Int×Zm->Int×Zm->Int×Zm->Option β},Src t->(∀q a c e:Int×Zm,Src e.2->Y8 (f q a c e) Q)->
     Y8 ((Zl t (200:Int)).bind λq=>(Zl q.snd (30:Int)).bind λa=>(Zl a.snd (40:Int)).bind λc=>(Zl c.snd (12:Int)).bind λe=>f q a c e) Q:=λV j =>
    (ZI V _).bind λq ⟨_,n⟩=>(ZI n _).bind λa ⟨_,u⟩=>(ZI u _).bind λc ⟨_,z⟩=>(ZI z _).bind λe ⟨_,B⟩=>j q a c e B
   refine Y8.ite (λC=>?_) (λC=>?_)
   ·refine Y8.ite (λ_=>?_) (λ_=>?_)
    ·refine(ZI w _).bind λr ⟨_,d⟩=>?_
     refine Y8.ite (λ_=>?_) (λ_=>?_)
     ·refine F d λq a c e g=>?_
      exact .guard (by grind) (.ret ⟨⟨by dsimp only;omega,by dsimp only;omega,by grind,g⟩,by dsimp only;omega⟩)
     ·refine(ZI d _).bind λr ⟨_,H⟩=>?_
      refine Y8.ite (λ_=>?_) (λ_=>?_)
      ·refine F H λq a c e g=>?_
       exact .guard (by grind) (.ret ⟨⟨by dsimp only;omega,by dsimp only;omega,by grind,g⟩,by dsimp only;omega⟩)
      ·exact .ret ⟨⟨by dsimp only;omega,by dsimp only;omega,by dsimp only;omega,H⟩,by dsimp only;omega⟩
    ·refine(ZI w _).bind λr ⟨_,d⟩=>?_
     refine Y8.ite (λ_=>?_) (λ_=>?_)
     ·refine F d λq a c e g=>?_
      exact .guard (by grind) (.ret ⟨⟨by dsimp only;omega,by dsimp only;omega,by grind,g⟩,by dsimp only;omega⟩)
     ·exact .ret ⟨⟨by dsimp only;omega,by dsimp only;omega,by dsimp only;omega,d⟩,by dsimp only;omega⟩
   ·exact .ret ⟨⟨by dsimp only;omega,by dsimp only;omega,by dsimp only;omega,w⟩,by dsimp only;omega⟩
  ·refine Y8.loop (λv=>0<=v.2.1/\v.2.1<=2/\(v.1.length:Int)<=2*p+v.2.1/\Src (v.2.2.1,v.2.2.2.1,v.2.2.2.2.1,())) (λv=>(2-v.2.1).toNat) ⟨U6 _,by dsimp only;omega,by dsimp only;omega,i⟩ ?_
   rintro⟨o,k,D,l,m,⟨⟩⟩ ⟨j0,J,I,w⟩;dsimp only at j0 J I w;show Y8 (ZbO p o k D l m) _;unfold ZbO;have G:Wq (k+1)=k+1:=QR;rw[G,K];refine Y8.ite (λC=>?_) (λC=>?_)
   ·refine(ZI w _).bind λr ⟨_,d⟩=>?_
    refine Y8.ite (λ_=>?_) (λ_=>?_)
    ·refine(ZI d _).bind λq ⟨_,n⟩=>(ZI n _).bind λa ⟨_,u⟩=>(ZI u _).bind λc ⟨_,z⟩=>(ZI z _).bind λe ⟨_,B⟩=>?_
     exact .guard (by grind) (.ret ⟨⟨by dsimp only;omega,by dsimp only;omega,by grind,B⟩,by dsimp only;omega⟩)
    ·exact .ret ⟨⟨by dsimp only;omega,by dsimp only;omega,by dsimp only;omega,d⟩,by dsimp only;omega⟩
   ·exact .ret ⟨⟨by dsimp only;omega,by dsimp only;omega,by dsimp only;omega,w⟩,by dsimp only;omega⟩
 ·refine Y8.ite (λT=>?_) (λ_=>.ret (show out.length<=400/\Src (c0,c1,c2,())from⟨by omega,i⟩))
  refine(ZI i _).bind λr ⟨⟨a0,Y⟩,d⟩=>?_;have A:r.1<(out.length:Int):=by omega
  refine(ZI d _).bind λR ⟨_,H⟩=>?_;have M:∀y:Zj,Y8 (some (.inr (List.set out (Int.toNat r.1) y,R.2)):Option (((List Zj)×Int×(List Int)×Int×Int×Unit)⊕((List Zj)×Zm))) (Rnd (λv:(List Zj)×Int×(List Int)×Int×Int×Unit=>0<=v.2.1/\v.2.1<=(P.length:Int)/\(v.1.length:Int)<=2*v.2.1/\Src (v.2.2.1,v.2.2.2.1,v.2.2.2.2.1,())) (λv=>((P.length:Int)-v.2.1).toNat) ((P.length:Int)-p).toNat (λr=>r.1.length<=400/\Src r.2)):=λy =>
   .ret (show(List.set out (Int.toNat r.1) y).length<=400/\Src R.2 from⟨by grind,H⟩)
  refine Y8.ite (λ_=>?_) (λ_=>?_)
  ·exact .at (U6 _) T λ_ _ _=>.at a0 A λ_ _ _=>M _
  refine Y8.ite (λ_=>?_) (λ_=>?_)
  ·exact .at a0 A λ_ _ _=>M _
  refine Y8.ite (λ_=>?_) (λ_=>?_)
  ·exact .at a0 A λ_ _ _=>M _
  refine Y8.ite (λ_=>?_) (λ_=>?_)
  ·exact .at a0 A λ_ _ _=>M _
  ·exact .ret (show out.length<=400/\Src R.2 from⟨by omega,H⟩)
theorem Zy7 (w:Src s):Y8 (Zbd s) (λr=>ZD8 r.1/\(GZ r.2.1).length<=5/\r.2.2.1.length<=7000/\r.2.2.2.1.length<=400/\Src r.2.2.2.2):=by
 unfold Zbd;refine (Zq2 w).bind λx ⟨h,o⟩=>?_;refine (Zvf o).bind λR ⟨v,p⟩=>?_;refine (ZI p _).bind λy ⟨_,j⟩=>?_;have rest:∀ (b:Za) {t:Zm},ZD8 b->Src t->Y8 ((J3 t b).bind λL =>
   (QV b).bind λIsBlock0 =>
   if IsBlock0=true then
    if(↑(List.length L.fst):Int)=(0:Int)then
     (Zl L.snd (6:Int)).bind λa =>
     if(0:Int)<a.fst then
      (Zeg b).bind λc =>
      (Yg a.snd b).bind λl =>
      some (b,R.fst,c,l.fst,l.snd)
     else
      (Yg a.snd b).bind λl =>
      some (b,R.fst,L.fst,l.fst,l.snd)
    else
     (Yg L.snd b).bind λl =>
     some (b,R.fst,L.fst,l.fst,l.snd)
   else
    (Yg L.snd b).bind λl =>
    some (b,R.fst,L.fst,l.fst,l.snd))
   (λr:Za×ZB×(List Int)×(List Zj)×Zm=>ZD8 r.1/\(GZ r.2.1).length<=5/\r.2.2.1.length<=7000/\r.2.2.2.1.length<=400/\Src r.2.2.2.2):=λb t h i=>by
  refine(Zvb i h.1.1).bind λn ⟨e,H⟩=>?_;rw[Qb b h.1.1,Bq];have src:∀{t:Zm} (br:List Int),Src t->br.length<=7000->Y8 ((Yg t b).bind λl=>some (b,R.fst,br,l.fst,l.snd)) (λr:Za×ZB×(List Int)×(List Zj)×Zm=>ZD8 r.1/\(GZ r.2.1).length<=5/\r.2.2.1.length<=7000/\r.2.2.2.1.length<=400/\Src r.2.2.2.2):=λbr i d =>
   (ZoF i h.1.1).bind λq ⟨m,g⟩=>.ret ⟨h,v,d,m,g⟩
  refine Y8.ite (λu=>?_) (λ_=>src _ H e);refine Y8.ite (λ_=>?_) (λ_=>src _ H e);refine(ZI H _).bind λz ⟨_,k⟩=>?_;refine Y8.ite (λ_=>?_) (λ_=>src _ k e);exact(ZxH ⟨(YS _).1 u,h.1.1⟩).bind λq m=>src _ k (by omega)
 refine Y8.ite (λ_=>?_) (λ_=>rest x.1 h j);exact(Znq j (most:=5) (by omega) (by omega) _).bind λn ⟨N,H⟩=>rest n.1 N.f H
theorem ZEq (b:Za) (c:ZB) (br:List Int) (l:List Zj) (d:sm Ya b) (f:sm XR c) (r:br.length<=1048576) (e:l.length<=1048576) :
  (∃code:Int,(code=1\/code=2\/code=7)/\Q8 b c br l none=some (none,[],code)/\Zhi b c br l=some ([],code)/\¬Zkt b c br l/\(Pre b c br l->code=7))\/
  (∃v,Zkt b c br l/\VOk b v/\Q8 b c br l none=some (some (v,Jg b br,()),(Jm b br).1,0)/\Zhi b c br l=some ((Jm b br).1,0)):=by
 unfold Q8 Zhi;rw[Qb b d,ZfK b d,Bq,Bq];by_cases j:ZiV b;rotate_left
 ·rw[Ue (λq=>j ((YS _).1 q)),Ue (λq=>j ((YS _).1 q))]
  exact .inl ⟨1,.inl rfl,rfl,rfl,λq=>j q.blk.ok,λq=>absurd q.blk.ok j⟩
 have h:Z7 b:=⟨j,d⟩;rw[Uc (ZY j),Uc (ZY j),Zo0 c f,Zkm c,Bq,Bq];by_cases z:JQ c;rotate_left
 ·rw[Ue (λq=>z ((YS _).1 q)),Ue (λq=>z ((YS _).1 q))]
  exact .inl ⟨1,.inl rfl,rfl,rfl,λq=>z q.cor,λq=>absurd q.cor z⟩
 obtain⟨v,p,a⟩:=Ztv h;rw[Uc (ZY z),Uc (ZY z),p,Bq,Uc (by rfl),ZrJ h r,Zp1 h a r,Bq,Bq];by_cases H:Zlt ((Zz b).length:Int) br;rotate_left
 ·rw[Ue (λq=>H ((YS _).1 q)),QF H,Ue (by decide)]
  exact .inl ⟨2,.inr (.inl rfl),rfl,rfl,λq=>H q.ris,λq=>absurd q.ris H⟩
 rw[Uc (ZY H),Vh H,Uc rfl,ZfN h v a.Zg l e,Znf h l e,Bq,Bq];by_cases s:Zei l (ZaU (2*((Zg (K2 b)).length:Int)) l);rotate_left
 ·rw[Ue (λq=>s ((YS _).1 q)),Ue (λq=>s ((YS _).1 q))]
  exact .inl ⟨2,.inr (.inl rfl),rfl,rfl,λq=>s q.src,λq=>absurd q.src s⟩
 rw[Uc (ZY s),Uc (ZY s),ZrI h a r H,Bq,Zxh h a br,ZFT h r H,Bq,Bq];by_cases o:(Jm b br).2=true;rotate_left
 ·rw[Ue o,Ue o]
  exact .inl ⟨7,.inr (.inr rfl),rfl,rfl,λq=>o q.ord,λ_=>rfl⟩
 rw[Uc o,Uc o];exact .inr ⟨v,⟨h,z,H,s,o⟩,a,rfl,rfl⟩
section
variable {b:Za} {c:ZB} {br:List Int} {l:List Zj} {v:ZW}
theorem hst (h:Zkt b c br l) (a:VOk b v) (t:Zf) (u:Int) (r:Zhy (YD b) t):StB (Za3 b c (Jg b br) l t u):=ZnX h a r _ _
variable {k:Nat}
theorem set_self {α:Type} {l:List α} {x:α} (h:l[k]?=some x):l.set k x=l:=by
 apply Uy;grind
variable {t:Zf} {r:Bool×Zj}
theorem ZC7 {n:Nat} (j:Zhy n t) (H:k<n) (T:Zab t (k:Int)=(false,V5,V5)) (F:ZkZ r=(false,V5,V5)):Zjm t k r=t:=by
 obtain⟨x,a,s,l,h,q⟩:=Ztp j H;unfold Zab at T;rw[l,h,q]at T;injection T with d T
 injection T with f g
 dsimp only[Option.getD_some]at d f g;subst d f g;unfold ZkZ at F;injection F with G F
 injection F with e i
 rw[Zp]at l h q;obtain⟨a,b,c,⟨⟩⟩:=t;unfold Zjm;rw[G,e,i];show(List.set a k false,List.set b k V5,List.set c k V5,())=(a,b,c,());rw[set_self l,set_self h,set_self q]
theorem ZAx {live:List Bool} {u:Int} (h:(newV b c live l t u).1=false):ZkZ (newV b c live l t u)=(false,V5,V5):=by
 unfold newV at h ⊢;cases e:Za3 b c live l t u with
 |none=>rfl
 |some q=>rw[e]at h;cases h
theorem ZEf (h:r.1=true):Zsb r = !tr (Za2 (GM r.2)):=by
 unfold Zsb;rw[h,KU]
theorem Zn2 (H:Zkt b c br l) (p:VOk b v) (W:l.length<=1048576) {ord:List Int} (G:ord.length<=1000) {c0:List Bool} {c1 c2:List ZC} :
  ∀(r out:List Int) (k:Nat) (t:Zf),ord.drop k=r->k<=ord.length->Zmt (Jg b br) (Zz b) out r->(∀u∈r,0<=u/\u<(YD b:Int))->Zhy (YD b) t->(∀u:Int,u ∉ out->Zab t u=(false,V5,V5))->
   ZA (λu=>Yy ((v,Jg b br,()):Yc) c l ord u.1 u.2.1 u.2.2.1 u.2.2.2.1 u.2.2.2.2.1 u.2.2.2.2.2.1 u.2.2.2.2.2.2.1) ((k:Int),c0,c1,c2,Ga t,Gx t,Gv t,())=some ((Zpi b c (Jg b br) l r t).2,(Zpi b c (Jg b br) l r t).1)/\
   ZA (λu=>Qf b c (Zz b) (Jg b br) l ord u.1 u.2.1 u.2.2.1 u.2.2.2.1 u.2.2.2.2.1 u.2.2.2.2.2.1 u.2.2.2.2.2.2.1) ((k:Int),c0,c1,c2,Ga t,Gx t,Gv t,())=some ((Zpi b c (Jg b br) l r t).2,(Zpi b c (Jg b br) l r t).1)
 |[],out,k,t,F,V,w,C,d,T=>by
  have A:k=ord.length:=by
   have:=UN List.length F;grind
  subst A;constructor
  ·refine Y1 ?_
   show Yy ((v,Jg b br,()):Yc) c l ord (ord.length:Int) c0 c1 c2 (Ga t) (Gx t) (Gv t)=_;unfold Yy;rw[Ue (Uf _)];rfl
  ·refine Y1 ?_
   show Qf b c (Zz b) (Jg b br) l ord (ord.length:Int) c0 c1 c2 (Ga t) (Gx t) (Gv t)=_;unfold Qf;rw[Ue (Uf _)];rfl
 |node::r,out,k,t,F,V,w,C,d,T=>by
  have h:=H.blk;have X:=ZgZ h;have m:(Jg b br).length=(Zz b).length:=ZhW _ _;have n:Len l:=by unfold Len;omega
  have B:k<ord.length:=by
   grind
  have e:ord[k]?=some node:=by
   have:=UN (λz=>z[0]?) F;grind
  have J:ord.drop (k+1)=r:=by
   rw[<-List.tail_drop,F];rfl
  have U:=C node UJ;obtain⟨j,rfl⟩:∃j:Nat,node=(j:Int):=⟨node.toNat,by omega⟩;have P:j<YD b:=by omega
  obtain⟨x,a,s,M,y,K⟩:=Ztp d P;have E:=Zox h p H.cor m d n (ZDY H.src) (j:Int);have o:=ZuK h p H.cor m d n (j:Int);rw[show ZyD (j:Int) (Za3 b c (Jg b br) l t (j:Int))=newV b c (Jg b br) l t (j:Int)from rfl]at E o;have i:=ZmZ (hst H p) d j (j:Int);have N:∀u:Int,u ∉ out++[(j:Int)]->Zab (Zjm t j (newV b c (Jg b br) l t (j:Int))) u=(false,V5,V5):=λu L=>by
   rw[ZhZ (λz=>L (Uu.2 (.inr (by grind))))];grind
  have I:=Zn2 H p W G (c0:=c0) (c1:=c1) (c2:=c2) r (out++[(j:Int)]) (k+1) (Zjm t j (newV b c (Jg b br) l t (j:Int))) J B w.2 (λu L=>C u (UM _ L)) i N;have D:=ZAx (b:=b) (c:=c) (l:=l) (t:=t) (live:=Jg b br) (u:=(j:Int));have f:(newV b c (Jg b br) l t (j:Int)).1=false->Zjm t j (newV b c (Jg b br) l t (j:Int))=t:=λq=>ZC7 d P (T _ w.1.2.1) (D q);unfold Zpi;rw[Up];generalize newV b c (Jg b br) l t (j:Int)=R at *;by_cases Q:R.1=true
  ·rw[ZEf Q]
   by_cases g:Za2 (GM R.2)
   ·rw[ZY g]
    refine⟨(Xk (v':=(((k+1:Nat):Int),c0,c1,c2,Ga (Zjm t j R),Gx (Zjm t j R),Gv (Zjm t j R),())) ?_).trans I.1,(Xk (v':=(((k+1:Nat):Int),c0,c1,c2,Ga (Zjm t j R),Gx (Zjm t j R),Gv (Zjm t j R),())) ?_).trans I.2⟩
    ·show Yy ((v,Jg b br,()):Yc) c l ord (k:Int) c0 c1 c2 (Ga t) (Gx t) (Gv t)=_
     unfold Yy;rw[QP,Zp,e,Bq];show(Xy _ c l t (j:Int)).bind _=_;rw[E,Bq,Uc Q,show J7 R.2.2.1=some (tr (Za2 (GM R.2)))from Zc7 _,Bq,Uc (ZY g),M,y,K,Bq,Bq,Bq,Y3,Up];rfl
    ·show Qf b c (Zz b) (Jg b br) l ord (k:Int) c0 c1 c2 (Ga t) (Gx t) (Gv t)=_
     unfold Qf;rw[QP,Zp,e,Bq];show(Zcw b c (Zz b) (Jg b br) l t (j:Int)).bind _=_;rw[o,Bq,Uc Q,show ZdN R.2.2.1=some (tr (Za2 (GM R.2)))from Zi5 _,Bq,Uc (ZY g),M,y,K,Bq,Bq,Bq,Y3,Up];unfold Zjm;rw[Q]
   ·rw[Yq g]
    refine⟨Y1 ?_,Y1 ?_⟩
    ·show Yy ((v,Jg b br,()):Yc) c l ord (k:Int) c0 c1 c2 (Ga t) (Gx t) (Gv t)=_
     unfold Yy;rw[QP,Zp,e,Bq];show(Xy _ c l t (j:Int)).bind _=_;rw[E,Bq,Uc Q,show J7 R.2.2.1=some (tr (Za2 (GM R.2)))from Zc7 _,Bq,Ue (λz=>g ((YS _).1 z))];rfl
    ·show Qf b c (Zz b) (Jg b br) l ord (k:Int) c0 c1 c2 (Ga t) (Gx t) (Gv t)=_
     unfold Qf;rw[QP,Zp,e,Bq];show(Zcw b c (Zz b) (Jg b br) l t (j:Int)).bind _=_;rw[o,Bq,Uc Q,show ZdN R.2.2.1=some (tr (Za2 (GM R.2)))from Zi5 _,Bq,Ue (λz=>g ((YS _).1 z))];rfl
  ·have O:R.1=false:=by grind
   have S:Zsb R=false:=by
    unfold Zsb;grind
   rw[S];refine⟨(Xk (v':=(((k+1:Nat):Int),c0,c1,c2,Ga (Zjm t j R),Gx (Zjm t j R),Gv (Zjm t j R),())) ?_).trans I.1,(Xk (v':=(((k+1:Nat):Int),c0,c1,c2,Ga (Zjm t j R),Gx (Zjm t j R),Gv (Zjm t j R),())) ?_).trans I.2⟩
   ·show Yy ((v,Jg b br,()):Yc) c l ord (k:Int) c0 c1 c2 (Ga t) (Gx t) (Gv t)=_
    unfold Yy;rw[QP,Zp,e,Bq];show(Xy _ c l t (j:Int)).bind _=_;rw[E,Bq,Ue Q,M,y,K,Bq,Bq,Bq,Y3,Up];rfl
   ·show Qf b c (Zz b) (Jg b br) l ord (k:Int) c0 c1 c2 (Ga t) (Gx t) (Gv t)=_
    unfold Qf;rw[QP,Zp,e,Bq];show(Zcw b c (Zz b) (Jg b br) l t (j:Int)).bind _=_;rw[o,Bq,Ue Q,Y3,f O]
end
def Zyb (n:Nat):Zf:=(List.replicate n false,List.replicate n V5,List.replicate n V5,())
variable (n:Nat)
theorem Zm0:Zhy n (Zyb n):=⟨UQ,UQ,UQ,λs q=>by
 rw[List.eq_of_mem_replicate q];exact ZD0⟩
variable (u:Int)
theorem Zxb:Zab (Zyb n) u=(false,V5,V5):=by
 have g:∀{α:Type} (z:α),(atI (List.replicate n z) u).getD z=z:=λz=>by
  unfold atI;grind
 show(((atI (List.replicate n false) u).getD false,(atI (List.replicate n V5) u).getD V5,(atI (List.replicate n V5) u).getD V5):Row)=_;rw[g,g]
structure Is (b:Za) (c:ZB) (br:List Int) (l:List Zj) (t:Zf):Prop where
 asked:Zkt b c br l
 tb:Zhy (YD b) t
 right:Right b c (Jg b br) l t
 good:∀u:Int,0<=u->u<(YD b:Int)->ZoJ (Zab t u)
variable {b:Za} {c:ZB} {br:List Int} {l:List Zj} {t:Zf}
theorem Is.unique {t':Zf} (h:Is b c br l t) (H:Is b c br l t'):t=t' :=
 Zuz (Zxg h.asked.ord) h.tb H.tb h.right H.right
theorem Zqm (b:Za) (c:ZB) (br:List Int) (l:List Zj) (w:sm Ya b) (x:sm XR c) (d:br.length<=1048576:=by omega) (q:l.length<=1048576:=by omega) :
  ∃r:Zf×Int,XV b c br l=some r/\Y2 b c br l=some r/\
   ((r.2=0/\Is b c br l r.1)\/(r.1=noT/\(∀t,¬Is b c br l t)/\(r.2=3/\Zkt b c br l\/(r.2=1\/r.2=2\/r.2=7)/\¬Zkt b c br l/\(Pre b c br l->r.2=7)))):=by
 unfold XV Y2;rcases ZEq b c br l w x d q with⟨code,g,E,i,j,o⟩|⟨v,H,e,E,i⟩
 ·rw[E,i,Bq,Bq,Ue (by grind),Ue (by grind)]
  exact⟨_,rfl,rfl,.inr ⟨rfl,λt z=>j z.asked,.inr ⟨g,j,o⟩⟩⟩
 ·have h:=H.blk
  have D:=ZgZ h;have C:=ZsY b br;have k:=Zxg H.ord;have y:=ZQ h.ok.1.few;have M:=nN b;rw[E,i,Bq,Uc rfl,Bq,Bq,Uc rfl];rw[Zc2 h,Bq,Zio _ _ (VN h) d,Bq];have L:Zad ((v,Jg b br,()):Yc) c l (Jm b br).1=some ((Zpi b c (Jg b br) l (Jm b br).1 (Zyb (YD b))).2,(Zpi b c (Jg b br) l (Jm b br).1 (Zyb (YD b))).1):=by
   unfold Zad Jk;rw[show Xe (GO ((v,Jg b br,()):Yc))=some (YD b:Int)from Zpg h e,Bq];rw[Ra,Ra,Ra,Ra,Ra,Bq,Up];exact(Zn2 H e q (ord:=(Jm b br).1) (by omega) (Jm b br).1 [] 0 (Zyb (YD b)) rfl (Nat.zero_le _) k.ord k.inn (Zm0 _) (λu _=>Zxb _ u)).1
  have B:Ziq b c (Zz b) (Jg b br) l (Jm b br).1=some ((Zpi b c (Jg b br) l (Jm b br).1 (Zyb (YD b))).2,(Zpi b c (Jg b br) l (Jm b br).1 (Zyb (YD b))).1):=by
   unfold Ziq Zkd;rw[Zoy h,Bq];rw[Ra,Ra,Ra,Ra,Ra,Bq,Up];exact(Zn2 H e q (ord:=(Jm b br).1) (by omega) (Jm b br).1 [] 0 (Zyb (YD b)) rfl (Nat.zero_le _) k.ord k.inn (Zm0 _) (λu _=>Zxb _ u)).2
  rw[show Zad ((v,Jg b br,()):Yc) c l (some ((v,Jg b br,()):Yc),(Jm b br).1,(0:Int)).snd.fst=_ from L];rw[show Ziq b c (Zz b) (Zgp (Zz b).length br) l ((Jm b br).1,(0:Int)).fst=_ from B];rw[Bq];have K:=ZA3 (b:=b) (c:=c) (live:=Jg b br) (l:=l) (hst H e) (Jm b br).1 [] (Zyb (YD b)) k.ord (λu a=>(k.inn u a).2) (Zm0 _) (λu a=>by cases a) (λu a=>by cases a);have A:=λT=>ZuB (b:=b) (c:=c) (live:=Jg b br) (l:=l) (T:=T) (hst H e) (Jm b br).1 [] (Zyb (YD b)) k.ord (λu a=>(k.inn u a).2) (Zm0 _) (λu a=>by cases a);have F:(Zpi b c (Jg b br) l (Jm b br).1 (Zyb (YD b))).1=false->(Zpi b c (Jg b br) l (Jm b br).1 (Zyb (YD b))).2=noT:=runP_bad _ _;generalize Zpi b c (Jg b br) l (Jm b br).1 (Zyb (YD b))=R at *;cases s:R.1 with
  |true =>
   obtain⟨p,G⟩:=K s;exact⟨_,rfl,rfl,.inl ⟨rfl,H,p,λu m f=>(G u (k.all u m f)).1,λu m f=>(G u (k.all u m f)).2⟩⟩
  |false =>
   refine⟨_,rfl,rfl,.inr ⟨rfl,λT n=>?_,.inl ⟨rfl,H⟩⟩⟩;have:=A T λu a=>⟨n.right u (k.inn u a).1 (k.inn u a).2,n.good u (k.inn u a).1 (k.inn u a).2⟩;grind
where
 runP_bad {b:Za} {c:ZB} {live:List Bool} {l:List Zj}:∀(r:List Int) (t:Zf),(Zpi b c live l r t).1=false->(Zpi b c live l r t).2=noT
  |[],t,h=>by cases h
  |v::r,t,h=>by
   unfold Zpi at h ⊢;cases e:Zsb (newV b c live l t v)with
   |true=>rfl
   |false =>
    rw[e]at h;exact runP_bad r _ h
theorem ZBe (h:(GZ c).length<=1048576:=by omega):sm XR c:=⟨smS h,trivial,trivial,trivial,trivial,trivial⟩
theorem ZkQ {a b:List ZC} (d:a.length=b.length) (f:a.length<=1000:=by omega):ZeA a b=some (tr (a=b)):=by
 unfold ZeA;rw[QP,V8 (l:=a) (show Len a by unfold Len;omega) (λk x=>b[k]?=some x) (bad:=false) (good:=true) (step:=λv=>QM a b v.1)
  (λk x H c _=>by
   have i:b[k]?=some (b[k]'(by omega)):=Ub _;generalize b[k]'(by omega)=y at i;show(_->QM a b (k:Int)=_)/\(_->QM a b (k:Int)=_);unfold QM;rw[QP,Zp,Zp,H,i,Bq,Bq];have e:(decide (Gh x=Gh y)&&decide (Gl x=Gl y))=eqS x y:=rfl;rw[e];constructor
   ·intro q
    injection q with q
    rw[Uc (ZnA.2 q.symm)]
   ·intro q
    rw[Ue (λz=>q (by rw[ZnA.1 z]))])
  (λ_=>by
   show QM a b (a.length:Int)=_;unfold QM;rw[Ue (Uf _)]),Zjo]
 congr 1;refine tr_same ⟨λh=>?_,λh=>by subst h;exact λk x H=>H⟩;apply Uy;intro k;by_cases c:k<a.length
 ·have H:a[k]?=some (a[k]'c):=Ub _
  rw[H,h k _ H]
 ·rw[UA (by omega),UA (by omega)]
where
 tr_same {p q:Prop} (h:p<->q):tr p=tr q:=by
  by_cases z:q
  ·rw[ZY z,ZY (h.2 z)]
  ·rw[Yq z,Yq (λy=>z (h.1 y))]
variable {n:Nat}
theorem ZHk {t':Zf} (r:Zhy n t) (H:Zhy n t') (s:n<=1000:=by omega):VL t t'=some (tr (t=t')):=by
 have m:=r.lr;have o:=r.la;have p:=r.ls;have g:=H.lr;have G:=H.la;have j:=H.ls;unfold VL;rw[QP,ZkQ (by omega),Bq];by_cases Q:Gx t=Gx t';rotate_left
 ·rw[Ue (λz=>Q ((YS _).1 z)),Yq (λz=>Q (by rw[z]))]
 rw[Uc (ZY Q),ZkQ (by omega),Bq];by_cases e:Gv t=Gv t';rotate_left
 ·rw[Ue (λz=>e ((YS _).1 z)),Yq (λz=>e (by rw[z]))]
 rw[Uc (ZY e),V8 (l:=Ga t) (show Len (Ga t) by unfold Len;omega) (λk x=>(Ga t')[k]?=some x) (bad:=false) (good:=true) (step:=λv=>Vg t t' v.1)
  (λk x d f _=>by
   have i:(Ga t')[k]?=some ((Ga t')[k]'(by omega)):=Ub _;generalize (Ga t')[k]'(by omega)=y at i;show(_->Vg t t' (k:Int)=_)/\(_->Vg t t' (k:Int)=_);unfold Vg;rw[QP,Zp,Zp,d,i,Bq,Bq];constructor
   ·intro q
    injection q with q
    rw[Uc (by rw[q];exact beq_self_eq_true _)]
   ·intro q
    rw[Ue (λz=>q (by rw[eq_of_beq z]))])
  (λ_=>by
   show Vg t t' ((Ga t).length:Int)=_;unfold Vg;rw[Ue (Uf _)]),Zjo]
 congr 1;refine ZkQ.tr_same ⟨λh=>?_,λh=>by subst h;exact λk x d=>d⟩;have E:Ga t=Ga t':=by
  apply Uy;intro k;by_cases f:k<(Ga t).length
  ·have d:(Ga t)[k]?=some ((Ga t)[k]'f):=Ub _
   rw[d,h k _ d]
  ·rw[UA (by omega),UA (by omega)]
 obtain⟨a,b,c,⟨⟩⟩:=t;obtain⟨A,X,L,⟨⟩⟩:=t';have E:a=A:=E;have Q:b=X:=Q;have e:c=L:=e;rw[E,Q,e]
theorem Is.ZKS (h:Is b c br l t):ZiW (YD b:Int) t:=by
 obtain⟨v,_,i⟩:=Ztv h.asked.blk;have g:∀x∈l,JF (GR x):=λx w=>by
  obtain⟨k,d⟩:=UC.1 w;exact(h.asked.src k x d).2.2.2
 have H:=Zxg h.asked.ord;have y:∀(r out:List Int),Zmt (Jg b br) (Zz b) out r->(∀u∈r,0<=u/\u<(YD b:Int))->(∀u∈out,JF (Zab t u).2.2)->∀u∈out++r,JF (Zab t u).2.2:=by
  intro r;induction r with
  |nil=>grind
  |cons v' r I =>
   intro out m n o;have:=I (out++[v']) m.2 (λu f=>n u (UM _ f)) (λu f=>by
    rcases Uu.1 f with q|q
    ·exact o u q
    ·rw[Ux.1 q,h.right v' (n v' UJ).1 (n v' UJ).2]
     exact newV_slw h.asked i g m.1.2.2 o)
   grind
 have p:=y (Jm b br).1 [] H.ord H.inn (λu f=>by cases f);have a:∀s∈Gv t,JF s:=λs J=>by
  obtain⟨k,d⟩:=UC.1 J;have j:=(Ua.1 d).1;have:=p (k:Int) (by rw[Uw];exact H.all _ (by omega) (by have:=h.tb.ls;omega));unfold Zab at this;rw[show atI (Gv t) (k:Int)=some s by rw[Zp];exact d]at this;exact this
 refine ZrU h.tb λk d=>?_;have e:=h.right (k:Int) (by omega) (by omega);rw[e];exact Zya (Zyd h.asked.blk i h.asked.cor a g _ _) (by rw[<-e];exact h.good _ (by omega) (by omega))
where
 newV_slw {b:Za} {c:ZB} {br:List Int} {l:List Zj} {t:Zf} {v:ZW} (hA:Zkt b c br l) (hv:VOk b v) (hsl:∀x∈l,JF (GR x)) {out:List Int} {u:Int} (hr:Rdy (Jg b br) (Zz b) out u) (ho:∀w∈out,JF (Zab t w).2.2):JF (ZkZ (newV b c (Jg b br) l t u)).2.2:=by
  have hst:StO (Za3 b c (Jg b br) l t u):=by
   unfold Za3;refine Zgt (I:=StO) _ _ _ ?_ λk x st hx hst=>?_
   ·unfold Zhj
    refine Zgt (I:=StO) _ _ _ (λq hq=>by cases hq) λk x st hx hst=>?_;split
    ·intro q hq
     grind
    ·exact hst
   ·rw[Us]
    split
    ·rename_i hlv
     split
     ·rename_i ht
      have hf:=ho _ (hr k x hx hlv ht);have hsp:=ZBg hA.blk hv hA.cor (Ud hx) hf;unfold ZoG;split
      ·intro q hq
       cases st with
       |none =>
        have hq:some (_,(spn b c x ((atI (Gv t) (Gj x)).getD V5)).2)=some q:=hq;injection hq with hq
        rw[<-hq];exact hsp
       |some r =>
        have hq:some (_,hul r.2 (spn b c x ((atI (Gv t) (Gj x)).getD V5)).2)=some q:=hq;injection hq with hq
        rw[<-hq];exact ZrV (hst r rfl) hsp
      ·exact hst
     ·exact hst
    ·exact hst
  unfold newV;cases e:Za3 b c (Jg b br) l t u with
  |none=>exact Ztd
  |some q=>exact hst q e
theorem Zuy:atI (List.replicate n false) u≠some true:=by
 unfold atI;grind
section
variable {b:Za} {c:ZB} {br:List Int} {l:List Zj} {t:Zf}
theorem Zuk (r:Zhy (YD b) t):Mid b (Jg b br) t (YD b) [] t (List.replicate (YD b) false) where
 tb:=r
 cl:=UQ
 clo:=λu a=>by cases a
 rest:=λu _=>⟨rfl,Zuy u⟩
 keep:=λu a=>by cases a
theorem ZBy (e:Zkt b c br l) {dirty:List Int} (z:ZiW (YD b:Int) t) (r:∀u:Int,0<=u->u<(YD b:Int)->u ∉ dirty->Zab t u=ZkZ (newV b c (Jg b br) l t u)) {C:Int->Prop} (j:∀u∈dirty,C u) (g:∀(k:Nat) (x:Zt),(Zz b)[k]?=some x->(Jg b br)[k]?=some true->C (Gj x)->C (Gm x)) :
  ((Zn7 b c (Jg b br) l dirty (Jm b br).1 [] t (List.replicate (YD b) false)).1=true->Is b c br l (Zn7 b c (Jg b br) l dirty (Jm b br).1 [] t (List.replicate (YD b) false)).2.2/\
   (Zn7 b c (Jg b br) l dirty (Jm b br).1 [] t (List.replicate (YD b) false)).2.1.Sublist (Jm b br).1/\(∀ u:Int,0<=u->u<(YD b:Int)->u∈dirty->u∈(Zn7 b c (Jg b br) l dirty (Jm b br).1 [] t (List.replicate (YD b) false)).2.1)/\∀ u∈(Zn7 b c (Jg b br) l dirty (Jm b br).1 [] t (List.replicate (YD b) false)).2.1,C u)/\
  (∀T,Is b c br l T->(Zn7 b c (Jg b br) l dirty (Jm b br).1 [] t (List.replicate (YD b) false)).1=true):=by
 obtain⟨v,_,n⟩:=Ztv e.blk;have h:=Zxg e.ord;have f:=ZLw (b:=b) (t:=t) (by grind);have d:∀u∈(Jm b br).1,ZoJ (Zab t u):=λu a _=>by
  have:=Zr0 z (k:=u.toNat) (by have:=h.inn u a;omega);rw[show(u.toNat:Int)=u by have:=h.inn u a;omega]at this;exact this.1
 refine⟨λF=>?_,λT i=>?_⟩
 ·obtain⟨o,K,D,R,p,s,q⟩:=ZvV (b:=b) (c:=c) (live:=Jg b br) (l:=l) (t0:=t) (hst e n) j g (Jm b br).1 [] [] t (List.replicate (YD b) false) h.ord (λu a=>(h.inn u a).2) (λu a N=>⟨r u (h.inn u a).1 (h.inn u a).2 N,d u a⟩) (Zuk f) (λu a=>by cases a) (λu a=>absurd a (Zuy u)) F
  rw[Uw]at K R;refine⟨⟨e,o,λu m H=>(K u (h.all u m H)).1,λu m H=>(K u (h.all u m H)).2⟩,by rw[R];exact p,λu m H N=>by rw[R];exact s u (h.all u m H) N,by rw[R];exact q⟩
 ·exact Zqs (b:=b) (c:=c) (live:=Jg b br) (l:=l) (t0:=t) (T:=T) (hst e n) (Jm b br).1 [] [] t (List.replicate (YD b) false) h.ord (λu a=>(h.inn u a).2) (λu a N=>r u (h.inn u a).1 (h.inn u a).2 N) (Zuk f) (λu a=>by cases a) (λu a=>⟨i.right u (h.inn u a).1 (h.inn u a).2,i.good u (h.inn u a).1 (h.inn u a).2⟩)
end
variable {r:Za} {nets:List Int} {u:Int}
theorem Zqa:u∈ZiE r nets<->∃(k:Nat) (p:Pl),(Zg (K2 r))[k]?=some p/\p.2.2.1∈nets/\(u=2*(k:Int)\/u=2*(k:Int)+1):=by
 unfold ZiE;rw[XQ];constructor
 ·rintro⟨k,p,g,a⟩
  rw[Us]at a;by_cases q:p.2.2.1∈nets
  ·rw[Zlf q]at a
   grind
  ·rw[Zny q]at a
   cases a
 ·rintro⟨k,p,g,q,a⟩
  refine⟨k,p,g,?_⟩;rw[Us,Zlf q];grind
theorem Zwv (nets:List Int):∀(l:List Pl) (m:Nat),(cat (ZiD nets) m l).Pairwise (·<·)/\∀x∈cat (ZiD nets) m l,2*(m:Int)<=x
 |[],m=>⟨List.Pairwise.nil,λx h=>by cases h⟩
 |p::l,m=>by
  obtain⟨d,f⟩:=Zwv nets l (m+1);show(ZiD nets m p++cat (ZiD nets) (m+1) l).Pairwise (·<·)/\∀x∈ZiD nets m p++cat (ZiD nets) (m+1) l,2*(m:Int)<=x;by_cases q:p.2.2.1∈nets
  ·rw[Zlf q]
   grind
  ·rw[Zny q]
   grind
theorem Zzq (r:Za) (nets:List Int):Zlt (YD r:Int) (ZiE r nets):=by
 refine⟨λx l=>?_,λk x y l H=>?_⟩
 ·obtain⟨k,p,g,_,a⟩:=Zqa.1 l
  grind
 ·have h:=(Zwv nets (Zg (K2 r)) 0).1
  rw[List.pairwise_iff_getElem]at h;obtain⟨d,E⟩:=Ua.1 l;obtain⟨f,i⟩:=Ua.1 H;have:=h k (k+1) d f (by omega);rw[<-E,<-i];exact this
variable {b:Za} {e:Zh} {l:List Int}
theorem ZBp (h:Ve b e) (t:sm XI e) (F:ZH e b=some r) (A:ZoK b e l):∃n∈l,0<=n/\n<((K5 (K2 r)).length:Int):=by
 have d:=h.blk;have P:∀{p:Pl},J5 b e p->ZbJ (K2 b) p.2.2.1:=λg=>XP d.ok.1 g.mem;rcases A with⟨I,p,x,g,q,a,rfl⟩|⟨K,p,g,rfl⟩|⟨R,x,y,a,D,rfl⟩|⟨o,p,g,rfl⟩|⟨u,rfl⟩
 ·rw[app1 d I g q a]at F
  injection F with F
  subst F;obtain⟨i,j,z,Q,T,f,_⟩:=ZgB g.2 q;rw[show p.1.toNat=i by omega,T]at a;injection a with a
  subst a;have:=P g;exact⟨_,Ud f,this.1,by have:=this.2;show _<((K5 (K2 b)).length:Int);omega⟩
 ·obtain⟨p0,c,H,N,_⟩:=h.poss.2.1 K
  obtain rfl:=at_one H g;rw[app2 h K (Zhx t).1 H N]at F;injection F with F
  subst F;have:=P g;refine⟨_,UJ,this.1,?_⟩;have E:(K5 (K2 (X6 b e (K9 e).toNat p0))).length=(K5 (K2 b)).length+1:=Zmx b e p0;rw[E];have:=this.2;omega
 ·have s:=h.poss.2.2.1 R
  obtain⟨X,c,w,O,V,L,W,Y,Z,l6,M,l8,l9,J,_⟩:=id s;obtain⟨G,p0,m,U,H,B,S,k⟩:=app3 d s R;rw[k]at F;injection F with F
  subst F;rw[L]at a;injection a with a
  subst a;have v:y=O:=by
   have:=(Zo9 M).2;grind
  subst v;have C:=(d.ok.1.2.2.1 X (Ud L)).2.2 y (Ud D);refine⟨y,Ux.2 rfl,C.1,?_⟩;have E:(K5 (K2 (YO b G p0 m))).length=(K5 (K2 b)).length-1:=by
   show((K5 (Xl (K2 b) p0.1 p0.2.1 m)).take _).length=_;rw[X0,Uk];omega
  rw[E];have:=C.2;omega
 ·obtain⟨p0,H,N,_⟩:=h.poss.2.2.2.1 o
  have f:=(h.range.2.1 o).2.1;rw[app4 d o H N f]at F;injection F with F
  subst F;refine⟨Gk e,by simp,f.1,?_⟩;have E:K5 (K2 (moved b (K9 e).toNat p0 (Gk e) (GC e)))=K5 (K2 b):=X0;rw[E];have:=f.2;omega
 ·have f:=h.range.2.2 u
  rw[ZF3 d u f (Zhx t).2]at F;injection F with F
  subst F;exact⟨_,Ux.2 rfl,f.1,by have:=f.2;show _<((K5 (K2 b)).length:Int);omega⟩
theorem Zzp (h:Ve b e) (m:sm XI e) (F:ZH e b=some r) (H:Z7 r) (a:ZoK b e l):0<(ZiE r l).length:=by
 obtain⟨n,g,d,f⟩:=ZBp h m F a;obtain⟨q,y,c,i,_⟩:=Zos H.ok.1 (Vi H.sm).2.1 (v:=n.toNat);unfold Zu0 at i;rw[Ur,Ul]at i;exact List.length_pos_of_mem (Zqa.2 ⟨q,y,c,by grind,.inl rfl⟩)
theorem ZA1 (n m:Int) (st:NSt):ZkZ (ZyD n st)=ZkZ (ZyD m st):=by cases st<;>rfl
variable {c:ZB} {l:List Zj} {T:Zf}
theorem Zy9 (h:Ve b e) (S:sm XI e) (W:ZH e b=some r) (d:Z7 r) (I:Lens b e r) (V:ZoK b e nets) (y:Is b c [] l T) (Q:Zei l (λ_ x=>0<=goes (after b e) (Gi x))) (G:0<=u) (h1:u<(YD r:Int)) (R:u ∉ ZiE r nets) :
  Zab (ZbQ (after b e) T (YD r)) u=ZkZ (newV r c (Jg r []) (l.map (carry (after b e))) (ZbQ (after b e) T (YD r)) u):=by
 have o:=h.blk;have er:=nN r;have Z:=nN b;have H:=ZCI h S W V;have Y:=d.ok.2.1;have J:∀v:Nat,Tch b r nets (v:Int)->v<(K4 r).length:=λv X=>by have:=X.2;omega
 have i:(u/2).toNat<(Zg (K2 r)).length:=by omega
 have C:(Zg (K2 r))[(u/2).toNat]?=some ((Zg (K2 r))[(u/2).toNat]'i):=Ub _;generalize (Zg (K2 r))[(u/2).toNat]'i=p at C;have F:=XP d.ok.1 (Ud C);have f:Tch b r nets p.2.2.1:=⟨λq=>R (Zqa.2 ⟨_,p,C,q,by omega⟩),by have:=F.2;omega⟩;obtain⟨k,hk,g⟩:=H.fro _ p C f;have D:0<=Zdt b e k p:=H.alv k p g f p g;have B:(afN b e k:Int)=Zdt b e k p:=by rw[ZlH g];omega
 obtain⟨a,n,P⟩:∃a:Int,(0<=a/\a<=1)/\u=2*(afN b e k:Int)+a:=⟨u%2,by omega,by omega⟩;have U:=(Ua.1 g).1;obtain⟨M,_⟩:=Zon (r:=r) h I (t:=T) y.tb.lr;have w:∀(j:Nat) (q:Pl) (A:Int),(0<=A/\A<=1)->(Zg (K2 b))[j]?=some q->ZyU b e j->Zab (ZbQ (after b e) T (YD r)) (2*(afN b e j:Int)+A)=Zab T (2*(j:Int)+A):=λj q A z m K=>by
  have G:=K q m;have:=M j q A.toNat (by omega) m G;rw[show(A.toNat:Int)=A by omega]at this;rw[show(afN b e j:Int)=Zdt b e j q by rw[ZlH m];omega];exact this
 rw[P,w k p a n g (H.alv k p g f),y.right (2*(k:Int)+a) (by omega) (by omega)];unfold newV;rw[Zyc H o d J g f n (c:=c) (l:=l) (l':=l.map (carry (after b e))) (t:=T) (t':=ZbQ (after b e) T (YD r)) ?_ ?_ ?_]
 ·exact ZA1 _ _ _
 ·rw[B]
  exact Zv5 h I d y.asked.src Q g D n
 ·intro x L E
  obtain⟨j,q,A,z,m,K,N,O⟩:=ZAm H o d J g f n L E;rw[N,O];grind
 ·intro x L E s
  exact ZFh H o d g f n E c s
theorem ZmS (h:Ve b e) (H:sm XI e) (F:ZH e b=some r) (z:ZiW (YD b:Int) T):ZeL b e T=some (ZbQ (after b e) T (YD r),0):=by
 have M:(YD b:Int)=2*((Zg (K2 b)).length:Int):=by have:=nN b;omega
 rw[M]at z;obtain⟨v,p,m,_⟩:=Zmc h.blk;unfold ZeL;rw[(Zi2 h H F).1,Bq,Uc rfl,p,Bq,Zko h.blk v m,Bq,Uc (ZY z),Ztq h H F z];rfl
theorem Zz9 (h:Ve b e) (o:sm XI e) (O:sm XR c) (hl:l.length<=1048576) (F:ZH e b=some r) (B:Is b c [] l T) (G:Zei l (λ_ x=>0<=goes (after b e) (Gi x))) :
  ∃(u:Zf×List Int×Int) (q:Zf×Int) (nets:List Int),YV b e c l T=some u/\XV r c [] (l.map (carry (after b e)))=some q/\ZaJ e b=some (ZiE r nets)/\ZoK b e nets/\Z7 r/\u.2.2=q.2/\
   (q.2=0->Is r c [] (l.map (carry (after b e))) q.1/\u.1=q.1/\u.2.1.length<=1048576/\(ZiE r nets).length<=u.2.1.length/\0<(ZiE r nets).length/\∀C:Int->Prop,(∀x∈ZiE r nets,C x)->(∀(k:Nat) (x:Zt),(Zz r)[k]?=some x->(Jg r [])[k]?=some true->C (Gj x)->C (Gm x))->∀x∈u.2.1,C x):=by
 obtain⟨r',R,r2,i,_,I⟩:=Zg5 h o;rw[F]at R;injection R with R
 subst R;have hB:=h.blk;have V:(YD r:Int)=2*((Zg (K2 r)).length:Int):=by have:=nN r;omega
 have eb:(YD b:Int)=2*((Zg (K2 b)).length:Int):=by have:=nN b;omega
 have N:=B.ZKS;obtain⟨U,s1,s3,hs⟩:=ZgI b e l hB.sm o hl;have A:U.2=0/\U.1=l.map (carry (after b e)):=by
  rcases hs with⟨E,_,_,_,Z⟩|⟨_,_,z⟩
  ·exact⟨E,Z⟩
  ·exact absurd ⟨h,B.asked.src,G⟩ z
 obtain⟨nets,L,P,a0⟩:=Zzo h o F;have w:(l.map (carry (after b e))).length<=1048576:=by grind
 obtain⟨u,n,u1,u3,_,_,S⟩:=Zwe r c [] (l.map (carry (after b e))) (ZbQ (after b e) T (YD r)) (ZiE r nets) i.sm O (by simp) w;obtain⟨q,q1,_,Q⟩:=Zqm r c [] (l.map (carry (after b e))) i.sm O (by simp) w;have J:=Zyt h I N;have H:Pre r c [] (l.map (carry (after b e))):=⟨i,B.asked.cor,⟨λx a=>(by cases a),λk x y a=>(by simp at a)⟩,by rw[<-V];exact ZB0 h I i (by grind) G⟩;have s:=Zzq r nets;refine⟨u,q,nets,?_,q1,P,L,i,?_⟩
 ·unfold YV
  rw[s1,Bq,Uc A.1,ZmS h o F N,Bq,Uc rfl,F,Bq,P,Bq,A.2,u1];rfl
 by_cases p:(Jm r []).2=true;rotate_left
 ·have Z:u.2.2=7:=by
   rcases S with⟨f,_⟩|⟨_,_,_,⟨z,_⟩|z⟩
   ·exact absurd f.ord p
   all_goals grind
  have z2:q.2=7:=by
   rcases Q with⟨_,f⟩|⟨_,_,⟨_,f⟩|⟨_,_,z⟩⟩
   ·exact absurd f.asked.ord p
   ·exact absurd f.ord p
   ·exact z H
  grind
 have f:Zkt r c [] (l.map (carry (after b e))):=⟨H.blk,H.cor,H.ris,H.src,p⟩;have v:∀x:Int,0<=x->x<(YD r:Int)->x ∉ ZiE r nets->Zab (ZbQ (after b e) T (YD r)) x=ZkZ (newV r c (Jg r []) (l.map (carry (after b e))) (ZbQ (after b e) T (YD r)) x):=λx X Y a=>Zy9 h o F i I L B G X Y a;have K:=λ(C:Int->Prop) j m=>ZBy (b:=r) (c:=c) (br:=[]) (l:=l.map (carry (after b e))) (t:=ZbQ (after b e) T (YD r)) (dirty:=ZiE r nets) f J v (C:=C) j m;obtain⟨D,k2⟩:=K (λ_=>True) (λ_ _=>trivial) (λ_ _ _ _ _=>trivial);rcases S with⟨_,_,_,⟨E,Z⟩|⟨E,Z,z2,z3⟩⟩|⟨_,_,_,⟨_,_,_,z⟩|z⟩;rotate_left
 ·grind
 ·exact absurd p z
 ·grind
 have d:=UN Prod.fst Z;have D:=D d.symm;rw[<-Z]at D;obtain⟨w1,w2,w3,_⟩:=D;rcases Q with⟨W,M⟩|⟨_,g,_⟩;rotate_left
 ·exact absurd w1 (g _)
 refine⟨by rw[E,W],λ_=>⟨M,w1.unique M,u3,?_,Zzp h o F i L,λC j m=>?_⟩⟩
 ·exact Zqi _ _ (Zz8 s.2) λx a=>w3 x (s.1 x a).1 (by have:=(s.1 x a).2;omega) a
 ·have:=((K C j m).1 d.symm).2.2.2
  grind
theorem Zn1 (h:sm Ya b) (q:sm XR c) {br:List Int} (H:br.length<=7000) (a:l.length<=400):Y8 (Y2 b c br l) (λ_=>True):=by
 obtain⟨r,_,e,_⟩:=Zqm b c br l h q;exact .of e trivial
theorem ZsJ {s:Zm} (o:Src s):Y8 (Zfy s) (λr=>(Zr4 r.1/\sm XI r.2.1)/\sm XR r.2.2.1/\r.2.2.2.1.length<=400):=by
 unfold Zfy;refine (Zy7 o).bind λe ⟨j,v,c,H,d⟩=>?_;have h:sm XR e.2.1:=ZBe;rw[Qb _ j.1.1,Bq];have rest:∀ {t:Zm},Src t->Y8 ((ZbC t e.fst).bind λl =>
   (Y2 e.fst e.snd.fst (([]:List Int)) e.snd.snd.snd.fst).bind λPropagateTiming0 =>
   (Zl l.snd (8:Int)).bind λb =>
   if b.fst=(0:Int)then
    if(0:Int)<(↑(List.length e.snd.snd.fst):Int)then
     (Y2 e.fst e.snd.fst e.snd.snd.fst e.snd.snd.snd.fst).bind λPropagateTiming1 =>
     some (e.fst,l.fst,e.snd.fst,e.snd.snd.snd.fst,PropagateTiming1.fst,b.snd)
    else
     some (e.fst,l.fst,e.snd.fst,e.snd.snd.snd.fst,PropagateTiming0.fst,b.snd)
   else
    some (e.fst,l.fst,e.snd.fst,e.snd.snd.snd.fst,PropagateTiming0.fst,b.snd))
   (λr:Za×Zh×ZB×(List Zj)×Zf×Zm=>(Zr4 r.1/\sm XI r.2.1)/\sm XR r.2.2.1/\r.2.2.2.1.length<=400):=λp=>by
  refine(ZmE p j.1).bind λR ⟨m,f⟩=>?_;refine(Zn1 j.1.1 h (by simp) H).bind λ_ _=>(ZI f _).bind λu _=>?_;exact Y8.ite (λ_=>Y8.ite (λ_=>(Zn1 j.1.1 h c H).bind λ_ _=>.ret ⟨⟨j.1,m⟩,h,H⟩) (λ_=>.ret ⟨⟨j.1,m⟩,h,H⟩)) (λ_=>.ret ⟨⟨j.1,m⟩,h,H⟩)
 refine Y8.ite (λ_=>?_) (λ_=>rest d);refine(ZI d _).bind λR ⟨_,f⟩=>?_;refine Y8.ite (λ_=>?_) (λ_=>rest f);refine(ZrB f j.1 (most:=1)).bind λu ⟨⟨_,q⟩,g⟩=>?_;refine(Zpr j.1 q).bind λw i=>?_;refine(ZoF g i.1).bind λx ⟨a,k⟩=>?_;refine(ZmE k i).bind λy ⟨m,n⟩=>?_;refine(Zn1 i.1 h (by simp) a).bind λ_ _=>(ZI n _).bind λz _=>?_;exact Y8.ite (λ_=>Y8.ite (λ_=>.ret ⟨⟨i,m⟩,h,a⟩) (λ_=>.ret ⟨⟨i,m⟩,h,a⟩)) (λ_=>.ret ⟨⟨i,m⟩,h,a⟩)
variable {code:List Int}
theorem ZtW (q:∀x∈code,0<=x/\x<=255) (h:code.length<=5000):Y8 (Jc code) (λr=>sm Ya r.1/\sm XI r.2.1/\sm XR r.2.2.1/\r.2.2.2.1.length<=400):=by
 unfold Jc;refine(ZrF q h).bind λs H=>?_;exact(ZsJ H).bind λr ⟨⟨d,f⟩,g,i⟩=>.ret ⟨d.1,f,g,i⟩
theorem Zpq (b:Za) (e:Zh) (h:sm Ya b) (m:sm XI e):∃(r:Za) (k:Int),VB b e=some k/\Zaq b e=some (r,k)/\JA b e=some (r,k)/\(k=0->Ve b e/\ZH e b=some r):=by
 obtain⟨k,d,f,g⟩:=ZpC b e h m;unfold Zaq JA;rw[d,f,Bq,Bq];by_cases H:k=0
 ·obtain⟨r,a,A,_⟩:=Zg5 (g H) m
  rw[Uc H,Uc H,a,A,Bq,H];exact⟨r,0,rfl,rfl,rfl,λ_=>⟨g H,rfl⟩⟩
 ·rw[Ue H,Ue H]
  exact⟨ZvL,k,rfl,rfl,rfl,λq=>absurd q H⟩
theorem Zso (q:∀x∈code,0<=x/\x<=255) (l:code.length<=4096):Y8 (ZcK code) (λr=>Zr4 r.1/\sm (.sl XI) r.2):=by
 unfold ZcK;refine(Zz2 q l).bind λs a=>?_;refine(ZyV a).bind λR ⟨b,h⟩=>?_;refine(ZrB h b (most:=4)).bind λc ⟨⟨H,w⟩,d⟩=>?_;refine(ZI d 8).bind λg ⟨_,f⟩=>?_;have same:Y8 (some (R.1,c.1)) (λr:Za×List Zh=>Zr4 r.1/\sm (.sl XI) r.2):=.ret ⟨b,smL (by dsimp only;omega) w⟩;refine Y8.ite (λ_=>?_) (λ_=>Y8.ite (λ_=>?_) (λ_=>same))
 ·refine(ZmE f b).bind λi ⟨m,_⟩=>?_
  refine .guard (by grind) (.ret ⟨b,smL ?_ (ZeH w m)⟩);grind
 ·refine(ZI f 5).bind λi _=>?_
  refine Y8.ite (λ_=>?_) (λ_=>same);refine .ret ⟨b,smL ?_ (λe m=>?_)⟩
  ·grind
  ·rw[List.eq_of_mem_replicate m]
   exact Zn9 Zk2 Zjv
theorem Zu9 (h:Ve b e) (d:sm XI e) (F:ZH e b=some r):(Ge (K2 r)).length=(Ge (K2 b)).length:=by
 have j:=h.blk;by_cases K:K7 e=1
 ·obtain⟨p0,x,c,c2,H,a,_,l,_⟩:=h.poss.1 K
  rw[app1 j K H a (Zo9 l).2]at F;injection F with F
  rw[<-F];rfl
 by_cases f:K7 e=2
 ·obtain⟨p0,c,H,N,_⟩:=h.poss.2.1 f
  rw[app2 h f (Zhx d).1 H N]at F;injection F with F
  rw[<-F];exact Zfp
 by_cases R:K7 e=3
 ·obtain⟨n,p0,m,q,H,g,i,k⟩:=app3 j (h.poss.2.2.1 R) R
  rw[k]at F;injection F with F
  rw[<-F];exact Zfp
 by_cases o:K7 e=4
 ·obtain⟨p0,H,N,_⟩:=h.poss.2.2.2.1 o
  rw[app4 j o H N (h.range.2.1 o).2.1]at F;injection F with F
  rw[<-F];exact Zfp
 ·have s:K7 e=5:=by have:=h.blank;unfold Blank at this;omega
  rw[ZF3 j s (h.range.2.2 s) (Zhx d).2]at F;injection F with F
  rw[<-F];rfl
def Zky (b:Za) (l:List Zj):Prop:=∀x∈l,∃(k:Nat) (p:Pl) (a:Int),(0<=a/\a<=1)/\(Zg (K2 b))[k]?=some p/\p.1<0/\Gi x=2*(k:Int)+a
theorem Zph (h:Ve b e) (H:sm XI e) (F:ZH e b=some r) (o:Lens b e r) {k:Nat} {p:Pl} (g:(Zg (K2 b))[k]?=some p) (q:p.1<0) :
  0<=Zdt b e k p/\Zdt b e k p=(k:Int)+((Zg (K2 r)).length:Int)-((Zg (K2 b)).length:Int)/\∃Z,(Zg (K2 r))[(Zdt b e k p).toNat]?=some Z/\Z.1<0:=by
 have m:=(Zcc g).1.1 q;have d:=(Ua.1 g).1;have c:=Zu9 h H F;have a:=Zbb (K2 r);have E:Zdt b e k p=(k:Int)+((Zg (K2 r)).length:Int)-((Zg (K2 b)).length:Int):=by
  unfold Lens at o;by_cases f:K7 e=2
  ·rw[QQ,Uc f]at o
   rw[Zrq f q];omega
  by_cases R:K7 e=3
  ·rw[Uc R,Ue f]at o
   rw[Zrr R q];omega
  ·rw[Ue R,Ue f]at o
   rw[Zjd R (λz=>f z.1)];omega
 refine⟨by omega,E,?_⟩;have t:(Zdt b e k p).toNat<(Zg (K2 r)).length:=by omega
 have l:(Zg (K2 r))[(Zdt b e k p).toNat]?=some ((Zg (K2 r))[(Zdt b e k p).toNat]'t):=Ub _;exact⟨_,l,(Zcc l).1.2 (by omega)⟩
section
variable {b r:Za} {e f:Zh} {l:List Zj}
theorem Zxn (h:Ve b e) (m:sm XI e) (F:ZH e b=some r) (o:Lens b e r) (j:Z7 r) (g:Zky b l):Zei l (λ_ x=>0<=goes (after b e) (Gi x))/\Zky r (l.map (carry (after b e))):=by
 have Y:=ZQ j.ok.1.few;refine⟨λi x d=>?_,λy s=>?_⟩
 ·obtain⟨k,p,a,n,H,q,f⟩:=g x (Ud d)
  have:=(Zph h m F o H q).1;unfold goes;rw[f,show((2*(k:Int)+a)/2).toNat=k by omega,after_at H];exact this
 ·obtain⟨x,d,rfl⟩:=Ke.1 s
  obtain⟨k,p,a,n,H,q,f⟩:=g x d;obtain⟨u,v,Z,C,c⟩:=Zph h m F o H q;have t:=(Ua.1 C).1;exact⟨_,Z,a,n,C,c,by rw[Zla H n f];omega⟩
theorem ZxI (h:Ve b e) (u:sm XI e) (F:ZH e b=some r) (s:Lens b e r) (q:Ve r f) (v:sm XI f) (c:ZH f r=some b) (i:Lens r f b) (t:Z7 r) (z:Zky b l):(l.map (carry (after b e))).map (carry (after r f))=l:=by
 have Y:=ZQ t.ok.1.few;have L:=ZQ h.blk.ok.1.few;rw[List.map_map];refine(Kj λx B=>?_).trans (List.map_id _);obtain⟨k,p,a,d,H,A,g⟩:=z x B;obtain⟨D,I,Z,C,n⟩:=Zph h u F s H A;have y:=(Ua.1 C).1;have w:=(Ua.1 H).1;have E:=Zla (b:=b) (e:=e) (x:=x) H d g;obtain⟨W,G,_⟩:=Zph q v c i C n;have j:=Zla (b:=r) (e:=f) (x:=carry (after b e) x) C d (by rw[E];omega);show carry (after r f) (carry (after b e) x)=x;have m:Gi (carry (after r f) (carry (after b e) x))=Gi x:=by rw[j,g];omega
 have o:(carry (after r f) (carry (after b e) x)).2=x.2:=rfl;exact Prod.ext m o
end
inductive ZuZ (c:ZB) (b0:Za) (l0:List Zj) (T0:Zf):List Za->List Zh->Za->List Zj->Zf->Prop
 |nil:Is b0 c [] l0 T0->Zky b0 l0->ZuZ c b0 l0 T0 [b0] [] b0 l0 T0
 |snoc {bs fs b l T e f r U}:ZuZ c b0 l0 T0 bs fs b l T->Ve b e->sm XI e->ZH e b=some r->Ve r f->sm XI f->ZH f r=some b->Is r c [] (l.map (carry (after b e))) U->Zky r (l.map (carry (after b e)))->ZuZ c b0 l0 T0 (bs++[r]) (fs++[f]) r (l.map (carry (after b e))) U
section
variable {c:ZB} {b0:Za} {l0:List Zj} {T0:Zf} {bs:List Za} {fs:List Zh} {b:Za} {l:List Zj} {T:Zf}
theorem ZuZ.is (h:ZuZ c b0 l0 T0 bs fs b l T):Is b c [] l T/\Zky b l:=by
 cases h with
 |nil d f=>exact⟨d,f⟩
 |snoc _ _ _ _ _ _ _ d f=>exact⟨d,f⟩
theorem ZuZ.len (h:ZuZ c b0 l0 T0 bs fs b l T):bs.length=fs.length+1/\bs[fs.length]?=some b:=by
 induction h with
 |nil _ _=>exact⟨rfl,rfl⟩
 |snoc _ _ _ _ _ _ _ _ _ i =>
  simp_all
theorem ZuZ.srcs (h:ZuZ c b0 l0 T0 bs fs b l T):l.length=l0.length:=by
 induction h with
 |nil _ _=>rfl
 |snoc _ _ _ _ _ _ _ _ _ i=>grind
theorem Zw9 {r:Za} (H:Z7 r) (f:0<(K5 (K2 r)).length:=by omega):0<YD r:=by
 obtain⟨q,y,b,_⟩:=Zos H.ok.1 (Vi H.sm).2.1 (v:=0) f;grind
theorem ZuZ.empty (h:ZuZ c b0 l0 T0 bs fs b l T) (z:YD b=0):(K4 b0).length=0:=by
 cases h with
 |nil d f =>
  have j:=d.asked.blk;have w:=j.ok.2.1;refine Nat.eq_zero_of_not_pos λq=>?_;have:=Zw9 j;omega
 |snoc m d f g i H I k a =>
  exfalso;obtain⟨nets,r,_⟩:=Zzo d f g;obtain⟨n,_,n0,n1⟩:=ZBp d f g r;have:=Zw9 k.asked.blk;omega
theorem Zui:Vo=XW:=by
 funext a P v2 v4 v6 v7 c3 c4 c5;unfold Vo XW;rfl
theorem ZBx (F:sm XR c) (hl:l0.length<=1000) {P:Int} (h:ZuZ c b0 l0 T0 bs fs b l T):∀(X:List Za) (Y:List Zh),fs.length<=1048576->
  ZA (λv=>XW c (T0,P) (bs++X) (fs++Y) v.1 v.2.1 v.2.2.1 v.2.2.2.1 v.2.2.2.2.1) (l,Wq ((fs.length:Int)-1),Ga T,Gx T,Gv T,())=some (.inr (.inr true)):=by
 induction h with
 |nil d g =>
  intro X Y _;refine Y1 ?_;have hn:=ZgZ d.asked.blk;show XW c (T0,P) ([b0]++X) ([]++Y) l0 (Wq (((0:Nat):Int)-1)) (Ga T0) (Gx T0) (Gv T0)=_;rw[QR];unfold XW;have w:=ZHk d.tb d.tb;rw[ZY rfl]at w;grind
 |@snoc bs fs b l T e f r U p d g A i j I C M ih =>
  intro X Y a;obtain⟨G,t⟩:=p.len;obtain⟨N,x⟩:=p.is;have Z:=p.srcs;obtain⟨r',R,_,E,_,O⟩:=Zg5 d g;rw[A]at R;injection R with R
  subst R;obtain⟨b',B,_,o,_,H⟩:=Zg5 i j;rw[I]at B;injection B with B
  subst B;have k:=ZxI d g A O i j I H E x;obtain⟨D,_⟩:=Zxn i j I H o M;have m:(l.map (carry (after b e))).length<=1048576:=by grind
  obtain⟨u,q,nets,u1,K,_,_,_,u5,L⟩:=Zz9 i j F m I C D;rw[k]at K L;obtain⟨q',Q,_,hq⟩:=Zqm b c [] l o.sm F (by simp);rw[K]at Q;injection Q with Q
  subst Q;have y:q.2=0:=by
   grind
  obtain⟨w1,w2,_⟩:=L y;have S:u.1=T:=by rw[w2];exact w1.unique N
  obtain⟨J,s1,_,W⟩:=ZgI r f (l.map (carry (after b e))) E.sm j m;have s:J.2=0/\J.1=l:=by
   rcases W with⟨z0,_,_,_,z1⟩|⟨_,_,z⟩
   ·grind
   ·exact absurd ⟨i,C.asked.src,D⟩ z
  have V:=(Zi2 i j I).2;rw[Ug] at a;simp only[Um,Uo] at a;refine (Xk (v':=(l,Wq ((fs.length:Int)-1),Ga T,Gx T,Gv T,())) ?_).trans (by
   rw[Uj,Uj];exact ih ([r]++X) ([f]++Y) (by omega))
  show XW c (T0,P) (bs++[r]++X) (fs++[f]++Y) (l.map (carry (after b e))) (Wq (((fs++[f]).length:Int)-1)) (Ga U) (Gx U) (Gv U)=_;rw[show(((fs++[f]).length:Nat):Int)-1=(fs.length:Int) by grind,QR (n:=(fs.length:Int))];have x2:atI (bs++[r]++X) (Wq ((fs.length:Int)+1))=some r:=by
   rw[Y3 (show fs.length<=1048576 by omega),Zp,Uj,UE (by omega),show fs.length+1-bs.length=0 by omega];rfl
  have x3:atI (fs++[f]++Y) (fs.length:Int)=some f:=by
   rw[Zp,Uj,UE (UO _),Nat.sub_self];rfl
  have x4:atI (bs++[r]++X) (fs.length:Int)=some b:=by
   rw[Zp,Uj,Ut (by omega)];exact t
  unfold XW;rw[QP,x2,Bq,x3,Bq,show YV r f c (l.map (carry (after b e))) (Ga U,Gx U,Gv U,())=some u from u1,Bq,s1,Bq,V,Bq,QP,Uc s.1,Uc rfl,x4,Bq,ZuU b o.sm,Bq,Uc rfl,s.2,S]
end
end Go.Proofs.YtoijdogpgpbddaaGreatDoor
