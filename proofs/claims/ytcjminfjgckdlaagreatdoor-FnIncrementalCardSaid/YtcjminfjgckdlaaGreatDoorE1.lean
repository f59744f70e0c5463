/-
  Maps: made, looked up, written. Keys: numbers, and structs of numbers.
-/
import Derived.Test.YtcjminfjgckdlaaGreatDoorE0
import Derived.MapKept
import Derived.Orders
import Derived.KernelRfl
import Derived.ProofKit
import Derived.Below
import Derived.Carry
namespace Go.Sx
set_option linter.unusedVariables false
set_option linter.unusedSimpArgs false
def Zq8:EqD->Nat->Ty->Bool
 | .nil,_,.unit=>true
 | .int k o r,n,.pair (.int K) t=>decide (k=K)&&decide (o=n)&&Zq8 r (n+1) t
 |_,_,_=>false
def ZBA (i:TI) (t:Ty):Bool:=match i.kind with
 | .int k=>decide (t=.int k)
 | .st=>!i.eqd.isNil&&decide (i.eqd.depth<=1000)&&Zq8 i.eqd 0 t
 |_=>false
def keq:(t:Ty)->t.den->t.den->Bool
 | .int _,x,y=>decide (x=y)
 | .pair a b,x,y=>keq a x.1 y.1&&keq b x.2 y.2
 |_,_,_=>true
def ZkI (k v:Ty):List (k.den×v.den)->k.den->Option v.den
 |[],_=>none
 |d::l,x=>if keq k x d.1=true then some d.2 else ZkI k v l x
def Zoq (k v:Ty):List (k.den×v.den)->k.den->v.den->List (k.den×v.den)
 |[],x,y=>[(x,y)]
 |d::l,x,y=>if keq k x d.1=true then(x,y)::l else d::Zoq k v l x y
def fnd {k v:Ty}:List (k.den×v.den)->k.den->List MapEntry->Nat->Option (Nat×Value)
 |[],_,_,_=>none
 |d::l,x,s,i=>match s with
  |[]=>none
  |e::r=>if keq k x d.1=true then some (i,e.val)else fnd l x r (i+1)
theorem Zsl {k v:Ty} {R:k.den->List Value->Prop} {Q:v.den->List Value->Prop} {a V:Bool} {x:k.den}:∀(d:List (k.den×v.den)) (s:List MapEntry) (i:Nat),ZfR R Q a V d s->
  (fnd d x s i=none/\ZkI k v d x=none)\/∃j u y e K,fnd d x s i=some (i+j,u)/\ZkI k v d x=some y/\ZjW V u/\Q y u.cells.toList/\s[j]?=some e/\keq k x K=true/\ZjW a e.key/\R K e.key.cells.toList
 |[],s,i,h=>.inl ⟨rfl,rfl⟩
 |d::l,s,i,⟨e,r,c,F,p,g,q,t⟩=>by
  subst c;by_cases b:keq k x d.1=true
  ·exact .inr ⟨0,e.val,d.2,e,d.1,by simp[fnd,b],by simp[ZkI,b],g,q,rfl,b,F,p⟩
  ·rcases Zsl (x:=x) l r (i+1) t with⟨H,f⟩|⟨j,u,y,E,K,H,f,m,n,o,I⟩
   ·exact .inl ⟨by simp[fnd,b,H],by simp[ZkI,b,f]⟩
   ·exact .inr ⟨j+1,u,y,E,K,by simp only[fnd,b,Uh,H];simp;omega,by simp[ZkI,b,f],m,n,by simpa using o,I⟩
theorem Zwe {k v:Ty} {R:k.den->List Value->Prop} {Q:v.den->List Value->Prop} {a c:Bool} {x:k.den} {y:v.den} {K V:Value} {born:Nat} (g:ZjW a K) (H:R x K.cells.toList) (j:ZjW c V) (q:Q y V.cells.toList) :
  ∀(d:List (k.den×v.den)) (s:List MapEntry) (i:Nat),ZfR R Q a c d s->fnd d x s i=none->ZfR R Q a c (Zoq k v d x y) (s++[⟨K,V,born⟩])
 |[],s,i,h,_=>by
  have:s=[]:=h;subst this;exact⟨⟨K,V,born⟩,[],rfl,g,H,j,q,rfl⟩
 |d::l,s,i,⟨e,r,E,F,n,m,o,p⟩,f=>by
  subst E;by_cases b:keq k x d.1=true
  ·simp[fnd,b]at f
  ·simp only[fnd,Ue b]at f
   have:=Zwe (born:=born) g H j q l r (i+1) p f;simp only[Zoq,Ue b];exact⟨e,r++[⟨K,V,born⟩],rfl,F,n,m,o,this⟩
theorem Zwf {k v:Ty} {R:k.den->List Value->Prop} {Q:v.den->List Value->Prop} {a V:Bool} {x:k.den} {y:v.den} {K g:Value} (n:ZjW a K) (m:R x K.cells.toList) (o:ZjW V g) (q:Q y g.cells.toList) :
  ∀(d:List (k.den×v.den)) (s:List MapEntry) (i j:Nat) (u:Value),ZfR R Q a V d s->fnd d x s i=some (i+j,u)->ZfR R Q a V (Zoq k v d x y) (s.modify j λe=>{e with key:=K,val:=g})
 |[],s,i,j,u,h,f=>by simp[fnd]at f
 |d::l,s,i,j,u,⟨e,r,E,F,t,p,w,c⟩,f=>by
  subst E;by_cases b:keq k x d.1=true
  ·simp only[fnd,b,Ui]at f
   have:j=0:=by
    injection f with f
    injection f with f _
    omega
   subst this;simp only[Zoq,b,Ui,List.modify_zero_cons];exact⟨_,r,rfl,n,m,o,q,c⟩
  ·simp only[fnd,Ue b]at f
   cases j with
   |zero =>
    rcases Zsl (x:=x) l r (i+1) c with⟨H,_⟩|⟨J,u',Y,z,A,H,_⟩
    ·rw[H]at f;simp at f
    ·rw[H]at f
     simp at f;have:=f.1;omega
   |succ j =>
    have:=Zwf n m o q l r (i+1) j u c (by rw[show i+1+j=i+(j+1) by omega];exact f);simp only[Zoq,Ue b,List.modify_succ_cons];exact⟨e,_,rfl,F,t,p,w,this⟩
section
variable {P:Program}
open Go.MapKept
variable {q:EqD} {t:Ty}
theorem JQ {o:Nat} (h:Zq8 q o t=true):(q=.nil/\t=.unit)\/∃k r t',q=.int k o r/\t=.pair (.int k) t'/\Zq8 r (o+1) t'=true:=by
 unfold Zq8 at h;split at h
 ·exact .inl ⟨rfl,rfl⟩
 ·simp only[Ur,Ul]at h
  obtain⟨⟨rfl,rfl⟩,h⟩:=h;exact .inr ⟨_,_,_,rfl,rfl,h⟩
 ·cases h
variable {S:Nat->Prop}
theorem Zzp {w:World}:∀(q:EqD) (o:Nat) (t:Ty),Zq8 q o t=true->∀(x y:t.den) (vs s:List Value),rep S w t x vs->rep S w t y s->keq t x y=true->vs=s/\∀u∈vs,∃k n,u=.int k n:=by
 intro q;induction q with
 |nil =>
  intro o t h x y vs s d f _;rcases JQ h with⟨_,rfl⟩|⟨_,_,_,e,_⟩
  ·have d:vs=[]:=d
   have f:s=[]:=f;rw[d,f];simp
  ·cases e
 |int k o' r j =>
  intro o t h x y vs s d f c;rcases JQ h with⟨e,_⟩|⟨K,R,t',e,rfl,F⟩
  ·cases e
  ·injection e with E i l
   subst E;subst i;subst l;obtain⟨v1,V,E,d,I⟩:=d;obtain⟨U,z,i,g,m⟩:=f;simp only[keq,Ur,Ul]at c;obtain⟨a,b⟩:=j _ t' F x.2 y.2 V z I m c.2;have d:v1=[.int k x.1]:=d;have g:U=[.int k y.1]:=g;subst d;subst g;subst E;subst i;subst a;rw[c.1];refine⟨rfl,λu H=>?_⟩;simp only[U4,Uv,UB]at H;rcases H with rfl|H
   ·exact⟨_,_,rfl⟩
   ·exact b u H
 |bool o' r j=>intro o t h;rcases JQ h with⟨e,_⟩|⟨_,_,_,e,_⟩<;>cases e
 |str o' r j=>intro o t h;rcases JQ h with⟨e,_⟩|⟨_,_,_,e,_⟩<;>cases e
 |st o' B A r p v=>intro o t h;rcases JQ h with⟨e,_⟩|⟨_,_,_,e,_⟩<;>cases e
theorem ZtX {w:World} {n:Nat}:∀(q:EqD) (o:Nat) (t:Ty) (l:List Field),Zq8 q o t=true->q.fits P l=true->∀(x y:t.den) (p1 p vs u:List Value),p1.length=o->p.length=o->rep S w t x vs->rep S w t y u->∀w',
  (Op.eqFields (n+1) (p1++vs).toArray (p++u).toArray l).run P w'=.ok (keq t x y) w':=by
 intro q;induction q with
 |nil =>
  intro o t l h a x y p1 p vs u L j d m w';rcases JQ h with⟨_,rfl⟩|⟨_,_,_,e,_⟩
  ·simp only[EqD.fits,KU]at a
   subst a;rfl
  ·cases e
 |int k o' r c =>
  intro o t l h a x y p1 p vs u L j d m w';rcases JQ h with⟨e,_⟩|⟨N,R,t',e,rfl,D⟩
  ·cases e
  ·injection e with E b s
   subst E;subst b;subst s;cases l with
   |nil=>simp[EqD.fits]at a
   |cons f l =>
    simp only[EqD.fits,Ur,bne_iff_ne,Kj]at a;obtain⟨⟨⟨z,F⟩,A⟩,B⟩:=a;obtain⟨v1,V,E,d,I⟩:=d;obtain⟨U,K,b,g,C⟩:=m;have d:v1=[.int k x.1]:=d;have g:U=[.int k y.1]:=g;subst d;subst g;subst E;subst b;have H:=Zki A;have i:=c _ t' l D B x.2 y.2 (p1++[.int k x.1]) (p++[.int k y.1]) V K (by simp[L]) (by simp[j]) I C w';simp only[Uk]at i;refine Zfe z (Zfu H rfl (v:=.int k x.1) ?_ w') (Zfu H rfl (v:=.int k y.1) ?_ w') (by rw[run_equalIn_int w' n f.type k k x.1 y.1 H,ZcB];rfl) i
    ·rw[F,<-L];simp
    ·rw[F,<-j];simp
 |bool o' r c=>intro o t l h;rcases JQ h with⟨e,_⟩|⟨_,_,_,e,_⟩<;>cases e
 |str o' r c=>intro o t l h;rcases JQ h with⟨e,_⟩|⟨_,_,_,e,_⟩<;>cases e
 |st o' O M r G J=>intro o t l h;rcases JQ h with⟨e,_⟩|⟨_,_,_,e,_⟩<;>cases e
variable {T:TypeId} {k:IntKind}
theorem Zof (h:P.underlying T=some (.int k)) (e:Bool) (n:Nat) (K:IntKind) (a:Int) (w:World):(Instr.checkKey e (n+1) T (.int K a)).run P w=.ok () w:=by
 unfold Instr.checkKey;simp only[Sem.run_bind,run_underlying h,Result.andThen_ok];rfl
variable {vs:List Value}
theorem Zzq {s:Array Field} (G:P.underlying T=some (.struct s)) (m:Bool) {w0:World} (D:Zq8 q 0 t=true) (H:q.fits P s.toList=true) (n:Nat) {x:t.den} (F:rep S w0 t x vs) (w:World) :
  (Instr.checkKey m (n+2) T (.agg vs.toArray)).run P w=.ok () w:=by
 rw[show n+2=(n+1)+1 from rfl,Instr.checkKey];simp only[Sem.run_bind,run_underlying G,Result.andThen_ok];rw[<-Array.forIn_toList];generalize s.toList=L at H;have g:∀(q:EqD) (o:Nat) (t:Ty) (L:List Field),Zq8 q o t=true->q.fits P L=true->∀(x:t.den) (pre u:List Value),pre.length=o->pre++u=vs->rep S w0 t x u->
   (forIn L PUnit.unit λf r=>do
    if f.name≠ "_" then do
     let v <-part f.type vs.toArray f.offset
     Instr.checkKey m (n+1) f.type v
     pure (ForInStep.yield PUnit.unit)
    else pure (ForInStep.yield PUnit.unit):Sem PUnit).run P w=.ok () w:=by
  intro q;induction q with
  |nil =>
   intro o t L h H x pre u _ _ _;rcases JQ h with⟨_,rfl⟩|⟨_,_,_,e,_⟩
   ·simp only[EqD.fits,KU]at H
    subst H;simp
   ·cases e
  |int k o' r i =>
   intro o t L h H x pre u l c F;rcases JQ h with⟨e,_⟩|⟨N,R,t',e,rfl,a⟩
   ·cases e
   ·injection e with E j p
    subst E;subst j;subst p;cases L with
    |nil=>simp[EqD.fits]at H
    |cons f L =>
     simp only[EqD.fits,Ur,bne_iff_ne,Kj]at H;obtain⟨⟨⟨z,A⟩,B⟩,C⟩:=H;obtain⟨v1,V,E,d,I⟩:=F;have d:v1=[.int k x.1]:=d;subst d;subst E;have y:=Zki B;have p1:=Zfu (P:=P) y rfl (cs:=vs.toArray) (o:=f.offset) (v:=.int k x.1) (by rw[A,<-l,<-c];simp) w;have M:=Zof (P:=P) y m n k x.1 w;have b:=i _ t' L a C x.2 (pre++[.int k x.1]) V (by simp[l]) (by rw[<-c];simp) I;simp only[List.forIn_cons,Sem.run_bind,z,ne_eq,not_false_eq_true,Ui,Result.andThen_ok,p1,M,Sem.run_pure];exact b
  |bool o' r i=>intro o t L h;rcases JQ h with⟨e,_⟩|⟨_,_,_,e,_⟩<;>cases e
  |str o' r i=>intro o t L h;rcases JQ h with⟨e,_⟩|⟨_,_,_,e,_⟩<;>cases e
  |st o' O s r J K=>intro o t L h;rcases JQ h with⟨e,_⟩|⟨_,_,_,e,_⟩<;>cases e
 exact(US (λr=>Result.andThen r _) (g q 0 t L D H x [] vs rfl rfl F)).trans rfl
structure ZvW (P:Program) (T:TypeId) (t:Ty):Prop where
 check:∀(S:Nat->Prop) (w0:World) (x:t.den) (v:Value),ZjW t.agg v->rep S w0 t x v.cells.toList->∀(em:Bool) (w:World),(Instr.checkKey em 10000 T v).run P w=.ok () w
 find:∀(S:Nat->Prop) (w0:World) (x:t.den) (v:Value),ZjW t.agg v->rep S w0 t x v.cells.toList->∀(u:Ty) (Q:u.den->List Value->Prop) (va:Bool) (d:List (t.den×u.den)) (es:List MapEntry),ZfR (rep S w0 t) Q t.agg va d es->∀(w:World),(Instr.findKey T v es).run P w=.ok (fnd d x es 0) w
 stays:∀(S:Nat->Prop) (w0:World) (x y:t.den) (v v':Value),ZjW t.agg v->rep S w0 t x v.cells.toList->ZjW t.agg v'->rep S w0 t y v'.cells.toList->keq t x y=true->∀(w:World),(Instr.keyThatStays v' v).run P w=.ok v w
theorem Zxt (h:P.underlying T=some (.int k)):ZvW P T (.int k) where
 check S w0 x v hf F em w:=by
  have q:=hf.2 rfl;rw[q]at F;have F:[v]=[.int k x]:=F;simp at F;subst F;exact Zof h em 9999 k x w
 find S w0 x v hf F u Q va d s m w:=by
  have q:=hf.2 rfl;rw[q]at F;have F:[v]=[.int k x]:=F;simp at F;subst F;have g:∀(d:List (Int×u.den)) (s:List MapEntry) (i:Nat),ZfR (rep S w0 (.int k)) Q false va d s->Instr.findNow (.int k) (.int k x) s i=some (fnd (k:=.int k) d x s i):=by
   intro d;induction d with
   |nil =>
    intro s i m;have:s=[]:=m;subst this;rfl
   |cons d l I =>
    rintro s i ⟨e,r,rfl,j,a,o,p,R⟩;have f:=j.2 rfl;rw[f]at a;have a:[e.key]=[.int k d.1]:=a;simp at a;by_cases b:x=d.1
    ·simp[Instr.findNow,a,Instr.sameNow,fnd,keq,b]
    ·have n:(x==d.1)=false:=by rw[ZcB];simp[b]
     simp[Instr.findNow,a,Instr.sameNow,fnd,keq,b,I r (i+1) R,n]
  have:=g d s 0 m;unfold Instr.findKey;rw[Sem.run_bind,run_underlying h,Result.andThen_ok,this];rfl
 stays S w0 x y v v' hf F hf' H b w:=by
  have q:=hf.2 rfl;rw[q]at F;have F:[v]=[.int k x]:=F;simp at F;subst F;have c:=hf'.2 rfl;rw[c]at H;have H:[v']=[.int k y]:=H;simp at H;subst H;simp only[keq,Ul]at b;subst b;simp[Instr.keyThatStays,Instr.sameBits]
theorem Zzo {g:TI} (h:Zeo P T g) (hk:g.kind=.st) (W:g.eqd.isNil=false) (q:Zq8 g.eqd 0 t=true):ZvW P T t:=by
 have H:=h.eqd;simp only[W,Bool.false_or]at H;split at H
 ·rename_i L A
  simp only[Ur,UU]at H;obtain⟨⟨M,K⟩,e3⟩:=H;have j:t.agg=true:=by
   rcases JQ q with⟨_,rfl⟩|⟨_,_,_,_,rfl,_⟩<;>rfl
  have F:P.fieldsOf T=L:=by simp[Program.fieldsOf,A]
  have C:∀(S:Nat->Prop) (w0:World) (x y:t.den) (vs U:List Value),rep S w0 t x vs->rep S w0 t y U->∀w,(Op.equal T (.agg vs.toArray) (.agg U.toArray)).run P w=.ok (keq t x y) w:=by
   intro S w0 x y vs U R V w;show(Op.equalIn (9999+1) T _ _).run P w=_;rw[run_equalIn_struct w 9999 T _ _ (by rw[F];exact A) M,F];exact ZtX (n:=9998) g.eqd 0 t L.toList q K x y [] [] vs U rfl rfl R V w
  have c:∀(v:Value),ZjW t.agg v->v=.agg v.cells.toList.toArray:=by
   intro v f;obtain⟨cs,rfl⟩:=f.1 j;simp[Value.cells]
  refine⟨λS w0 x v f o N w=>?_,λS w0 x v f o u Q va d s z w=>?_,λS w0 x y v v' f o D I J w=>?_⟩
  ·rw[c v f]
   exact Zzq A N q K 9998 o w
  ·rw[c v f]
   have G:∀(d:List (t.den×u.den)) (s:List MapEntry) (i:Nat),ZfR (rep S w0 t) Q t.agg va d s->(Instr.findAsking T (.agg v.cells.toList.toArray) s i).run P w=.ok (fnd d x s i) w:=by
    intro d;induction d with
    |nil =>
     intro s i H;have:s=[]:=H;subst this;rfl
    |cons d l Z =>
     rintro s i ⟨e,r,rfl,O,r1,f2,r2,rs⟩;have:=C S w0 x d.1 _ _ o r1 w;rw[<-c e.key O]at this;simp only[Instr.findAsking,Sem.run_bind,this,Result.andThen_ok,fnd];by_cases q:keq t x d.1=true
     ·simp[q]
     ·simp only[q]
      exact Z r (i+1) rs
   unfold Instr.findKey;rw[Sem.run_bind,run_underlying A,Result.andThen_ok];cases s with
   |nil =>
    cases d with
    |nil=>rfl
    |cons=>obtain⟨_,_,e,_⟩:=z;cases e
   |cons e r=>exact G d (e::r) 0 z
  ·obtain⟨a,b⟩:=Zzp g.eqd 0 t q x y _ _ o I J
   rw[c v f,c v' D,<-a];have Y:Instr.sameBits 10000 (.agg v.cells.toList.toArray) (.agg v.cells.toList.toArray)=true:=by
    show Instr.sameBits (9999+1) _ _=true;simp only[Instr.sameBits,beq_self_eq_true,Bool.true_and,KD];intro p X;obtain⟨i,B⟩:=UA.1 X;rw[List.getElem?_zip_eq_some]at B;have:p.1=p.2:=by
     have:=B.1.symm.trans B.2;simpa using this
    obtain⟨k,m,E⟩:=b p.1 (Ud B.1);rw[<-this,E];simp[Instr.sameBits]
   unfold Instr.keyThatStays;rw[Uc Y];rfl
 ·cases H
theorem ZtW {i:TI} (h:Zeo P T i) (H:ZBA i t=true):ZvW P T t:=by
 unfold ZBA at H;split at H
 ·rename_i k d
  simp only[Ul]at H;subst H;exact Zxt (h.intOf d)
 ·rename_i d
  simp only[Ur,UU,Ul]at H;exact Zzo h d H.1.1 H.2
 ·cases H
def SV.isA:SV->Bool
 | .agg _=>true
 |_=>false
variable {s:SV} {v:Value}
theorem Zzj {E:Env} (h:den E s v) (c:s.whole=true) {b:Bool} (H:b=s.isA):ZjW b v:=by
 subst H;constructor
 ·intro n
  cases s<;>simp[SV.isA]at n
  simp only[den]at h;obtain⟨vs,e,_⟩:=h;exact⟨_,e⟩
 ·intro n
  have d:s.one=true:=by cases s<;>simp_all[SV.isA,SV.whole,SV.one]
  exact(Zkp h d).1
def ZJm (t:Ty) (cs:List SV) (K:SV->Prop):Prop :=
 if t.agg=true then K (.agg cs)else match cs with
  |c::_=>K c
  |[]=>False
variable {K:SV->Prop}
theorem ZD8 {E:Env} (h:ZjW t.agg v) {cs:List SV} (N:Yo E cs v.cells.toList) (H:ZJm t cs K):∃s,den E s v/\K s:=by
 obtain⟨d,f⟩:=h;unfold ZJm at H;split at H
 ·rename_i n
  obtain⟨cs,rfl⟩:=d n;exact⟨.agg _,by simp only[den];exact⟨cs.toList,by simp,N⟩,H⟩
 ·rename_i n
  have a:=f (by simpa using n);split at H
  ·rename_i c r
   rw[a]at N;simp only[Yo]at N;exact⟨c,N.1,H⟩
  ·exact H.elim
def ZC3 (b:Bool):Value->Bool
 | .agg _=>b
 |_=>!b
theorem ZC4 {b:Bool} (h:ZC3 b v=true):ZjW b v:=by
 cases b
 ·refine⟨λh=>(by cases h),λ_=>?_⟩
  cases v<;>first|rfl|(simp[ZC3]at h)
 ·refine⟨λ_=>?_,λh=>(by cases h)⟩
  cases v<;>first|exact⟨_,rfl⟩|(simp[ZC3]at h)
def ZJz (s:SV) (H:List Entry) (K:(k v:Ty)->List (k.den×v.den)->Prop):Prop :=
 match s with
 | .mp k v d=>K k v d
 | .mown I=>Zh8 H I λe=>match e with
  | .mpe k v d=>K k v d
  | .frm k v d=>K k v d
  |_=>False
 |_=>False
def MapAt (E:Env) (x:Value) (k v:Ty) (d:List (k.den×v.den)):Prop :=
 (d=[]/\x=.map none)\/∃b s C,x=.map (some b)/\E.w.heap[b]?=some (.map s C)/\ZfR (rep E.S E.w k) (rep E.S E.w v) k.agg v.agg d s.toList
variable {x:Value}
theorem ZEA {B:Base} {E:Env} {H:List Entry} (m:Inv B E H) (q:den E s x) {K:(k v:Ty)->List (k.den×v.den)->Prop} (a:ZJz s H K):∃k v d,MapAt E x k v d/\K k v d:=by
 have D:∀(k v:Ty) (d:List (k.den×v.den)),rep E.S E.w (.mp k v) d [x]->MapAt E x k v d:=by
  intro k v d h;rcases h with⟨c,f⟩|⟨b,g,C,c,_,f,i⟩
  ·simp at f;exact .inl ⟨c,f⟩
  ·simp at c;exact .inr ⟨b,g,C,c,f,i⟩
 unfold ZJz at a;split at a
 ·rename_i k v d
  simp only[den]at q;exact⟨k,v,d,D k v d q,a⟩
 ·rename_i I
  obtain⟨e,j,a⟩:=Xn H a;simp only[den]at q;split at a
  ·rename_i k v d
   obtain⟨b,g,C,c,f,i⟩:=m.ent I _ j;have:=q.1.symm.trans c;simp at this;subst this;exact⟨k,v,d,.inr ⟨b,g,C,rfl,f,i⟩,a⟩
  ·rename_i k v d
   obtain⟨u,c,f⟩:=m.ent I _ j;have:=q.1.symm.trans c;simp at this;subst this;exact⟨k,v,d,D k v d f,a⟩
  ·exact a.elim
 ·exact a.elim
def Zvj (Δ:Tab) (t:TI) (x i:SV) (ok:Bool) (H:List Entry) (K:SV->Prop):Prop :=
 match t.kind with
 | .mp A g=>Zed Δ A λT=>Zed Δ g λe=>ZJz x H λk v d =>
  if i.whole=true/\k.agg=i.isA/\ZBA T k=true/\ZC3 v.agg e.zero=true then Qp k i.cells λy a=>match a with
   |[]=>ZqV e.zero λc=>Qp v c λz b=>match b with
    |[]=>Jj v ((ZkI k v d y).getD z) λcs=>ZJm v cs λs=>if ok=true then K (.tup [s,.bool (ZkI k v d y).isSome])else K s
    |_=>False
   |_=>False
  else False
 |_=>False
variable {t:TI}
theorem Zeo.map (h:Zeo P T t) {A g:TypeId} (H:t.kind=.mp A g):P.underlying T=some (.map A g):=by
 obtain⟨d,N,u⟩:=h.get;rw[H]at u;cases d<;>simp[Zyg]at u
 obtain⟨rfl,rfl⟩:=u;exact N
theorem Zpb {E:Env} (h:Yo E [] vs):vs=[]:=by
 cases vs with
 |nil=>rfl
 |cons=>simp[Yo]at h
theorem ZxD {A g:TypeId} (t:P.underlying T=some (.map A g)) {k:Ty} (KR:ZvW P A k) {z:Value} (c:∀w,(zeroValue g).run P w=.ok z w) {E:Env} {v:Ty} {d:List (k.den×v.den)} (R:MapAt E x k v d)
  {i:Value} {y:k.den} (h:ZjW k.agg i) (r:rep E.S E.w k y i.cells.toList) (ok:Bool) :
  ∃s,ZfR (rep E.S E.w k) (rep E.S E.w v) k.agg v.agg d s/\(Instr.lookup T x i ok).run P E.w=.ok (if ok=true then .tuple #[((fnd d y s 0).map (·.2)).getD z,.bool (fnd d y s 0).isSome]else((fnd d y s 0).map (·.2)).getD z) E.w:=by
 have M:∀ (s:Array MapEntry),ZfR (rep E.S E.w k) (rep E.S E.w v) k.agg v.agg d s.toList->((do
   Instr.checkKey s.isEmpty 10000 A i
   let (v,o) <-match <-Instr.findKey A i s.toList with
    |some (_,v)=>pure (v,true)
    |none=>pure (<-zeroValue g,false)
   pure (if ok then .tuple #[v,.bool o] else v):Sem Value)).run P E.w=.ok (if ok=true then .tuple #[((fnd d y s.toList 0).map (·.2)).getD z,.bool (fnd d y s.toList 0).isSome] else ((fnd d y s.toList 0).map (·.2)).getD z) E.w:=by
  intro s m;have H:=KR.check _ _ y i h r s.isEmpty E.w;have f:=KR.find _ _ y i h r v _ _ d s.toList m E.w;simp only[Sem.run_bind,H,f,Result.andThen_ok];cases fnd d y s.toList 0 with
  |none=>simp[c]
  |some p=>simp
 rcases R with⟨rfl,rfl⟩|⟨b,s,C,rfl,a,m⟩
 ·refine⟨[],rfl,?_⟩
  have:=M #[] rfl;unfold Instr.lookup;simp only[Sem.run_bind,run_underlying t,Result.andThen_ok,Sem.run_pure]at this ⊢;exact this
 ·refine⟨s.toList,m,?_⟩
  have:=M s m;unfold Instr.lookup;simp only[Sem.run_bind,run_underlying t,Result.andThen_ok,Sem.run_pure,Go.MapKept.run_getObj_map a]at this ⊢;exact this
variable {Δ:Tab}
theorem ZxC (hΔ:Δ.ok P) {B:Base} {E:Env} {H:List Entry} (Z:Inv B E H) {N:TI} (h:Zeo P T N) {x i:SV} {Q O:Value} (hx:den E x Q) (M:den E i O) {ok:Bool} (a:Zvj Δ N x i ok H K) :
  ∃u s,(Instr.lookup T Q O ok).run P E.w=.ok u E.w/\den E s u/\K s:=by
 unfold Zvj at a;split at a
 ·rename_i kt W p
  obtain⟨tk,C,a⟩:=XR Δ hΔ a;obtain⟨I,A,a⟩:=XR Δ hΔ a;obtain⟨k,v,d,hm,a⟩:=ZEA Z hx a;split at a
  ·rename_i hc
   obtain⟨c1,c2,R,U⟩:=hc;have o:=Zzj M c1 c2;obtain⟨b,r1,v1,v2,J,r,q,a⟩:=X0 k _ _ _ (ZaU M c1) a;split at a
   ·have:=Zpb q
    subst this;rw[Un]at J;subst J;obtain⟨zc,F,a⟩:=Zho E _ _ a;obtain⟨z,r2,z1,z2,L,G,t,a⟩:=X0 v _ _ _ F a;split at a
    ·have:=Zpb t
     subst this;rw[Un]at L;subst L;obtain⟨a0,g,_,_,D⟩:=A.info';have hz:∀w,(zeroValue W).run P w=.ok I.zero w:=λw=>by simp[zeroValue,typeInfo,g,D]
     obtain⟨n,he,l⟩:=ZxD (h.map p) (ZtW C R) hz hm o r ok;rw[QE]at a;have V:∃u,((fnd d b n 0).map (·.2)).getD I.zero=u/\ZjW v.agg u/\rep E.S E.w v ((ZkI k v d b).getD z) u.cells.toList/\(fnd d b n 0).isSome=(ZkI k v d b).isSome:=by
      rcases Zsl (x:=b) d n 0 he with⟨c,f⟩|⟨j,u,y,e,kd,c,f,X,Y,_⟩
      ·exact⟨I.zero,by rw[c];rfl,ZC4 U,by rw[f];exact G,by rw[c,f];rfl⟩
      ·exact⟨u,by rw[c];rfl,X,by rw[f];exact Y,by rw[c,f];rfl⟩
     obtain⟨u,hu,hf,hr,hs⟩:=V;rw[hu,hs]at l;obtain⟨s,m,a⟩:=ZD8 hf (XV v _ _ hr) a;cases ok
     ·simp only[Ka,Uh]at a l
      exact⟨_,s,l,m,a⟩
     ·simp only[Ui]at a l
      refine⟨_,_,l,?_,a⟩;simp only[den];exact⟨[u,.bool (ZkI k v d b).isSome],rfl,m,by simp only[den],trivial⟩
    ·exact a.elim
   ·exact a.elim
  ·exact a.elim
 ·exact a.elim
def ZvS (Δ:Tab) (t:TI) (x i y:SV) (H:List Entry) (K:List Entry->Prop):Prop :=
 match t.kind,x with
 | .mp A g,.mown I=>Zed Δ A λT=>Zh8 H I λe=>match e with
  | .mpe k v d=>if i.whole=true/\k.agg=i.isA/\ZBA T k=true/\y.whole=true/\v.agg=y.isA then Qp k i.cells λa r=>match r with
   |[]=>Qp v y.cells λV b=>match b with
    |[]=>Zi6 H I (.mpe k v (Zoq k v d a V)) K
    |_=>False
   |_=>False
   else False
  |_=>False
 |_,_=>False
theorem grownBy_set {w:World} {b:Nat} {o o':Obj} (h:w.heap[b]?=some o):w.grownBy {w with heap:=w.heap.setIfInBounds b o'} (some b) :=
 ⟨rfl,rfl,rfl,by simp,λi _ l=>(Go.MapKept.heap_set h).2 i (λe=>l (by rw[e]))⟩
theorem Zx5 (hΔ:Δ.ok P) {B:Base} {E:Env} {H:List Entry} (I:Inv B E H) {ti:TI} (h:Zeo P T ti) {x i y:SV} {vx V n:Value} (X:den E x vx) (hi:den E i V) (hy:den E y n) {K:List Entry->Prop} (a:ZvS Δ ti x i y H K) :
  ∃E' H',(Instr.mapUpdate T vx V n).run P E.w=.ok () E'.w/\Inv B E' H'/\E.le E'/\K H':=by
 unfold ZvS at a;split at a
 ·rename_i kt et id N
  obtain⟨tk,W,a⟩:=XR Δ hΔ a;obtain⟨e,L,a⟩:=Xn H a;split at a
  ·rename_i k v d
   split at a
   ·rename_i hc
    obtain⟨c1,c2,c3,Y,c5⟩:=hc;have l:=Zzj hi c1 c2;have G:=Zzj hy Y c5;obtain⟨key,r1,v1,v2,e1,r,Q,a⟩:=X0 k _ _ _ (ZaU hi c1) a;split at a
    ·have:=Zpb Q
     subst this;rw[Un]at e1;subst e1;obtain⟨val,r2,z1,z2,e2,D,R,a⟩:=X0 v _ _ _ (ZaU hy Y) a;split at a
     ·have:=Zpb R
      subst this;rw[Un]at e2;subst e2;rw[XM]at a;obtain⟨b,s,C,h1,q,z⟩:=I.ent id _ L;simp only[den]at X;have o:=X.1;have:=X.1.symm.trans h1;simp at this;subst this;have KR:=ZtW W c3;have hT:=h.map N;have k1:=KR.check _ _ key V l r false E.w;have k2:=KR.find _ _ key V l r v _ _ d s.toList z E.w;have M:∀(f:Array MapEntry) (c:Nat),(Instr.mapUpdate T (.map (some b)) V n).run P E.w=.ok () {E.w with heap:=E.w.heap.setIfInBounds b (.map f c)}->
        ZfR (rep E.S E.w k) (rep E.S E.w v) k.agg v.agg (Zoq k v d key val) f.toList->∃E' H',(Instr.mapUpdate T (.map (some b)) V n).run P E.w=.ok () E'.w/\Inv B E' H'/\E.le E'/\K H':=by
       intro f c A t;have hg:=grownBy_set (w:=E.w) (o':=.map f c) q;have O:¬E.S b:=(I.free id _ (.map (some b)) b L rfl o rfl).1;have m:=Zff hg I.Slt (λg e=>by simp at e;subst e;exact O);refine⟨⟨E.S,_,E.ids⟩,_,A,I.write L rfl o hg (.mpe k v (Zoq k v d key val)) ?_,m,a⟩;exact⟨b,f,c,o,(Go.MapKept.heap_set q).1,Zc4 (λd vs=>YH m.S m.w k d vs) (λd vs=>YH m.S m.w v d vs) _ _ t⟩
      have U:(Instr.mapUpdate T (.map (some b)) V n).run P E.w=(match fnd d key s.toList 0 with
        | some (j,_)=>(do
          let key' <-Instr.keyThatStays ((s[j]?.map MapEntry.key).getD V) V
          setObj b (.map (s.modify j λe=>{e with key:=key',val:=n}) C):Sem Unit)
        | none=>setObj b (.map (s.push {key:=V,val:=n,born:=C}) (C+1))).run P E.w:=by
       unfold Instr.mapUpdate;simp only[Sem.run_bind,run_underlying hT,Result.andThen_ok,Go.MapKept.run_getObj_map q,k1,k2];cases fnd d key s.toList 0 with
       |none=>rfl
       |some p=>rfl
      rcases Zsl (x:=key) d s.toList 0 z with⟨F,f2⟩|⟨j,u,y',Z,kd,F,f2,f3,f4,f5,f6,f7,f8⟩
      ·refine M (s.push ⟨V,n,C⟩) (C+1) ?_ ?_
       ·rw[U,F]
        exact Go.MapKept.run_setObj_map _ q
       ·rw[Array.toList_push]
        exact Zwe l r G D d s.toList 0 z F
      ·have J:s[j]?=some Z:=by simpa using f5
       refine M (s.modify j λe=>{e with key:=V,val:=n}) C ?_ ?_
       ·rw[U,F]
        have:=KR.stays _ _ key kd V Z.key l r f7 f8 f6 E.w;simp only[Us,J,UV,UW,Sem.run_bind,this,Result.andThen_ok];exact Go.MapKept.run_setObj_map _ q
       ·rw[Array.toList_modify]
        exact Zwf l r G D d s.toList 0 j u z F
     ·exact a.elim
    ·exact a.elim
   ·exact a.elim
  ·exact a.elim
 ·exact a.elim
def ZsG (t:TI) (H:List Entry) (K:SV->List Entry->Prop):Prop :=
 match t.kind with
 | .mp _ _=>Zvg H 0 λn=>Ztp H [.mpe t.ty t.ety []] λH'=>K (.mown n) H'
 |_=>False
theorem Zvk {B:Base} {E:Env} {H:List Entry} (m:Inv B E H) (h:Zeo P T t) {K:SV->List Entry->Prop} (k:ZsG t H K) :
  ∃u E' H' s,(Instr.makeMap T none).run P E.w=.ok u E'.w/\Inv B E' H'/\E.le E'/\den E' s u/\K s H'/\Grow E.w E'.w:=by
 unfold ZsG at k;split at k
 ·rw[ZdT,ZcK,Us]at k
  have e:=Zr4 m (.map #[] 0) (.map (some E.w.heap.size));have d:(E.ids++[Value.map (some E.w.heap.size)])[H.length]?=some (.map (some E.w.heap.size)):=by
   rw[<-m.len];simp
  refine⟨.map (some E.w.heap.size),⟨E.S,E.w.alloc (.map #[] 0),E.ids++[.map (some E.w.heap.size)]⟩,_,_,?_,m.alloc (.map #[] 0) _ _ rfl ?_,e,?_,k,Zdw _ _⟩
  ·simp[Instr.makeMap]
  ·exact⟨_,#[],0,d,Go.heap_alloc_new _ _,rfl⟩
  ·simp only[den]
   exact⟨d,_,rfl⟩
 ·exact k.elim
end
section
variable {P:Program}
def Zxp (R:List SV):List Operand->(List SV->Prop)->Prop
 |[],K=>K []
 |x::r,K=>ZaH R x λs=>Zxp R r λl=>K (s::l)
theorem Zme {E:Env} {R:List SV} {a:Act} (N:Yo E R a.tmps.toList):∀(xs:List Operand) {K:List SV->Prop},Zxp R xs K->∃l,Yo E l (xs.map a.eval)/\K l
 |[],K,h=>⟨[],trivial,h⟩
 |x::r,K,h=>by
  obtain⟨s,H,h⟩:=YM N h;obtain⟨l,q,h⟩:=Zme N r h;exact⟨s::l,⟨H,q⟩,h⟩
def SV.ZEp:SV->Bool
 | .ptr _ _=>true
 | .oep _ _ _ _=>true
 | .fptr _=>true
 | .fn _ _=>true
 |_=>false
variable {s:SV} {v:Value}
theorem Zvq {E:Env} (h:den E s v) (g:s.ZEp=true) :
  (∃a,v=.pointer (some a))\/∃f cs,v=.func (.func f) #[] cs:=by
 cases s<;>simp[SV.ZEp]at g<;>simp only[den]at h
 case ptr=>obtain⟨b,_,e⟩:=h;exact .inl ⟨_,e⟩
 case oep=>obtain⟨b,B,n,c,_,e⟩:=h;exact .inl ⟨_,e⟩
 case fptr=>obtain⟨p,vs,e,_⟩:=h;exact .inl ⟨_,e⟩
 case fn=>obtain⟨vs,e,_⟩:=h;exact .inr ⟨_,_,e⟩
def ZyU (s:SV) (K:SV->Prop):Prop :=
 match s with
 | .nptr t d=>∃x,d=some x/\Jj t x λcs=>K (.fptr cs)
 |s=>K s
variable {K:SV->Prop}
theorem ZyV {E:Env} (q:den E s v) (H:ZyU s K):∃S,den E S v/\K S:=by
 unfold ZyU at H;split at H
 ·rename_i t d
  obtain⟨x,rfl,H⟩:=H;rw[QE]at H;refine⟨_,?_,H⟩;simp only[den]at q ⊢;rcases q with⟨e,_⟩|⟨X,p,xs,e,i,g,h,c,F⟩
  ·cases e
  ·injection e with e;subst e
   simp at i;subst i;exact⟨p,xs,rfl,g,h,c,XV t _ _ F⟩
 ·exact⟨s,q,H⟩
def ZDR (Δ:Tab) (op:BinOp) (T:TypeId) (sx s:SV) (K:SV->Prop):Prop :=
 match sx,s with
 | .agg xs,.agg y=>Zed Δ T λt=>eqK op t (.agg xs) (.agg y) K
 | .bool x,s=>Zed Δ T λt=>eqK op t (.bool x) s K
 | .blit x,s=>Zed Δ T λt=>eqK op t (.blit x) s K
 |sx,.nilp=>Zed Δ T λt=>if Zlm t.kind=true then ZHd op t sx K else False
 |sx,.nsl=>Zed Δ T λt=>if ZtV t.kind=true then ZHd op t sx K else False
 |sx,s=>ZHG op sx s K
variable {Δ:Tab}
theorem ZA1 (hΔ:Δ.ok P) {E:Env} {op:BinOp} {T:TypeId} {x y:SV} (h:ZDR Δ op T x y K) {u:Value} (a:den E x u) (H:den E y v) (o O:Operand) :
  ∃r s,(∀w,((do eqGuard op T o O u v;binOp op T u v:Sem Value)).run P w=.ok r w)/\den E s r/\K s:=by
 unfold ZDR at h;split at h
 ·obtain⟨i,t,h⟩:=XR Δ hΔ h;exact Zy1 t h a H o O
 ·obtain⟨i,t,h⟩:=XR Δ hΔ h;exact Zy1 t h a H o O
 ·obtain⟨i,t,h⟩:=XR Δ hΔ h;exact Zy1 t h a H o O
 ·obtain⟨i,t,h⟩:=XR Δ hΔ h
  split at h
  ·rename_i b
   exact ZzF t (.inl rfl) h ⟨λ_=>rfl,λq=>by cases k:i.kind<;>rw[k]at b q<;>simp[Zlm,ZtV]at b q⟩ a H o O
  ·exact h.elim
 ·obtain⟨i,t,h⟩:=XR Δ hΔ h
  split at h
  ·rename_i b
   exact ZzF t (.inr rfl) h ⟨λq=>by cases k:i.kind<;>rw[k]at b q<;>simp[Zlm,ZtV]at b q,λ_=>rfl⟩ a H o O
  ·exact h.elim
 ·exact ZDS h a H T o O
def opK (Δ:Tab) (R:List SV) (H:List Entry) (op:Op) (K:SV->List Entry->Prop):Prop :=
 match op with
 | .move x=>ZaH R x λs=>K s H
 | .assign x=>ZaH R x λs=>K s H
 | .pick c x y=>ZaH R c λs=>match s with
  | .blit true=>ZaH R x λs=>K s H
  | .blit false=>ZaH R y λs=>K s H
  | .bool p=>(p=true->ZaH R x λs=>K s H)/\(p=false->ZaH R y λs=>K s H)
  |_=>False
 | .alloc T=>Zed Δ T λt=>ZDb t H K
 | .box _ x=>ZaH R x λs=>ZHI s H K
 | .build T P=>Zed Δ T λt=>ZwV R P.toList λl=>ZyB t l λs=>K s H
 | .buildSlice T n P=>Zed Δ T λt=>ZwV R P.toList λl=>Zlv t n l H K
 | .load T x=>Zed Δ T λt=>ZaH R x λs=>ZEw t s H K
 | .store T x y=>Zed Δ T λt=>ZaH R x λj=>ZaH R y λsx=>ZAr t j sx H λH'=>K (.tup []) H'
 | .nilCheck x=>ZaH R x λs=>ZyU s λe=>if e.ZEp=true then K e H else False
 | .binOp op T x y _=>ZaH R x λsx=>ZaH R y λb=>ZDR Δ op T sx b λs=>K s H
 | .unOp op _ x=>ZaH R x λsx=>unK op sx λs=>K s H
 | .convert S T x=>Zed Δ S λd=>Zed Δ T λg=>ZaH R x λs=>match d.kind,g.kind with
  | .sl,.str=>Zed Δ d.elem λm=>ZyO m s H λr=>K r H
  |_,_=>ZD6 d g s H λr=>K r H
 | .makeFunc (.func f) first C=>if first.size=0 then Zxp R C.toList λl=>K (.fn f l) H else False
 | .makeSlice T l c=>Zed Δ T λt=>ZaH R l λsl=>ZaH R c λk=>ZEy t sl k H K
 | .slice T x o h none=>Zed Δ T λt=>ZaH R x λs=>ZAg t R s o h H K
 | .fieldAddr T x f=>Zed Δ T λt=>ZaH R x λs=>Zm8 t s f λr=>K r H
 | .field T x f=>Zed Δ T λt=>ZaH R x λs=>Zy3 t s f λr=>K r H
 | .indexAddr T x i=>Zed Δ T λt=>ZaH R x λs=>ZaH R i λa=>ZkF t s a i H λr=>K r H
 | .index T x i=>Zed Δ T λt=>ZaH R x λs=>ZaH R i λa=>ZAt t s a λr=>K r H
 | .extract x i=>ZaH R x λs=>ZJR s i λr=>K r H
 | .makeMap T none=>Zed Δ T λt=>ZsG t H K
 | .lookup T x i ok=>Zed Δ T λt=>ZaH R x λsx=>ZaH R i λa=>Zvj Δ t sx a ok H λr=>K r H
 | .mapUpdate T x i y=>Zed Δ T λt=>ZaH R x λsx=>ZaH R i λa=>ZaH R y λb=>ZvS Δ t sx a b H λH'=>K (.tup []) H'
 | .call c=>match c.callee,c.args.toList,c.argTypes.toList with
  | .builtin .len,[x],[T]=>Zed Δ T λt=>ZaH R x λs=>ZJy t s H λr=>K r H
  | .builtin .append,[x,y],[T,T']=>if T=T' then Zed Δ T λt=>ZaH R x λsx=>ZaH R y λb=>ZuO t sx b H K else False
  | .builtin .min,x::r,_=>ZaH R x λs=>Zxp R r λl=>ZF3 false s l λr=>K r H
  | .builtin .max,x::r,_=>ZaH R x λs=>Zxp R r λl=>ZF3 true s l λr=>K r H
  |_,_,_=>False
 |_=>False
def Zfs:Op->Bool
 | .move _=>true
 | .assign _=>true
 | .pick _ _ _=>true
 | .build _ _=>true
 | .load _ _=>true
 | .nilCheck _=>true
 | .binOp _ _ _ _ _=>true
 | .unOp _ _ _=>true
 | .fieldAddr _ _ _=>true
 | .field _ _ _=>true
 | .indexAddr _ _ _=>true
 | .index _ _ _=>true
 | .extract _ _=>true
 | .makeFunc _ _ _=>true
 | .call c=>match c.callee with
  | .builtin .len=>true
  | .builtin .min=>true
  | .builtin .max=>true
  |_=>false
 |_=>false
def isLoad:Op->Bool
 | .load _ _=>true
 |_=>false
def Zol:Op->Bool
 | .alloc _=>true
 | .box _ _=>true
 | .buildSlice _ _ _=>true
 | .makeSlice _ _ _=>true
 | .slice _ _ _ _ _=>true
 | .convert _ _ _=>true
 | .makeMap _ _=>true
 |_=>false
def appArg:Op->Option Operand
 | .call ⟨.builtin .append,args,_⟩=>args.toList.head?
 | .store _ x _=>some x
 |_=>none
def Ran (P:Program) (B:Base) (E:Env) (o:Oper) (a:Act) (K:SV->List Entry->Prop):Prop :=
 ∃n v E' H' s,(execOp a.eval o).run P E.w=.ok n E'.w/\(n=.value v\/n=.skip/\v=undef)/\Inv B E' H'/\E.le E'/\den E' s v/\K s H'/\
  (Zfs o.op=true->n=.value v/\E'.w=E.w/\∀w',(isLoad o.op=true->Zto E.w w')->(execOp a.eval o).run P w'=.ok (.value v) w')/\((Zfs o.op||Zol o.op)=true->Grow E.w E'.w)/\∀x,appArg o.op=some x->E.w.grownBy E'.w (YS (a.eval x))
theorem Zu9 {w w':World} (h:w.grownBy w' v.ownBlock):w.grownBy w' (YS v):=⟨h.os,h.tape,h.output,h.size,λk H a=>h.block k H (λe=>a (Zyy v k e.symm).symm)⟩
theorem ZrL {op:Op} {p:Operand->Prop} (n:appArg op=none):∀x,appArg op=some x->p x:=λx e=>by rw[n]at e;cases e
variable {K:SV->List Entry->Prop} {x:Sem Value}
theorem ZzY {B:Base} {E:Env} {H:List Entry} (e:Inv B E H) {o:Oper} {a:Act} (m:execOp a.eval o=(do pure (.value (<-x)):Sem Next)) (q:isLoad o.op=true)
  (h:∃u s E' H',E'.w=E.w/\ZAX P E.w x u/\Inv B E' H'/\E.le E'/\den E' s u/\K s H') (n:appArg o.op=none:=by rfl):Ran P B E o a K:=by
 obtain⟨u,s,E',H',c,d,f,I,g,b⟩:=h;have i:∀w',Zto E.w w'->(execOp a.eval o).run P w'=.ok (.value u) w':=λw' hst=>by rw[m,Sem.run_bind,d w' hst];rfl
 exact⟨_,u,E',H',s,by rw[c];exact i _ (Zto.refl _),.inl rfl,f,I,g,b,λ_=>⟨rfl,c,λw' h=>i w' (h q)⟩,λ_=>by rw[c];exact Grow.refl _,ZrL n⟩
theorem V6 {B:Base} {E:Env} {H:List Entry} (m:Inv B E H) {o:Oper} {a:Act} (e:execOp a.eval o=(do pure (.value (<-x)):Sem Next))
  (h:∃u s,ZqX P x u/\den E s u/\K s H) (n:appArg o.op=none:=by rfl):Ran P B E o a K:=by
 obtain⟨u,s,d,f,g⟩:=h;have i:∀w',(execOp a.eval o).run P w'=.ok (.value u) w':=λw'=>by rw[e,Sem.run_bind,d w'];rfl
 exact⟨_,u,E,H,s,i _,.inl rfl,m,Env.le.refl E,f,g,λ_=>⟨rfl,rfl,λw' _=>i w'⟩,λ_=>Grow.refl _,ZrL n⟩
theorem Zjr {B:Base} {E:Env} {H:List Entry} (h:Inv B E H) {o:Oper} {a:Act} {u:Value} (m:execOp a.eval o=(pure (.value u):Sem Next))
  (f:den E s u) (g:K s H) (n:appArg o.op=none:=by rfl):Ran P B E o a K :=
 ⟨_,u,E,H,s,by rw[m];rfl,.inl rfl,h,Env.le.refl E,f,g,λ_=>⟨rfl,rfl,λw' _=>by rw[m];rfl⟩,λ_=>Grow.refl _,ZrL n⟩
theorem ZeX {B:Base} {E:Env} {o:Oper} {a:Act} (m:execOp a.eval o=(do pure (.value (<-x)):Sem Next)) (q:Zfs o.op=false)
  (h:∃u E' H' s,x.run P E.w=.ok u E'.w/\Inv B E' H'/\E.le E'/\den E' s u/\K s H'/\Grow E.w E'.w) (n:appArg o.op=none:=by rfl):Ran P B E o a K:=by
 obtain⟨u,E',H',s,d,f,g,i,j,I⟩:=h;exact⟨_,u,E',H',s,by rw[m,Sem.run_bind,d];rfl,.inl rfl,f,g,i,j,λe=>(by rw[q]at e;cases e),λ_=>I,ZrL n⟩
theorem ZEH {B:Base} {E:Env} {o:Oper} {a:Act} {r:Operand} (m:execOp a.eval o=(do pure (.value (<-x)):Sem Next)) (q:(Zfs o.op||Zol o.op)=false) (n:appArg o.op=some r)
  (h:∃u E' H' s,x.run P E.w=.ok u E'.w/\Inv B E' H'/\E.le E'/\den E' s u/\K s H'/\E.w.grownBy E'.w (a.eval r).ownBlock):Ran P B E o a K:=by
 obtain⟨u,E',H',s,d,f,g,i,j,I⟩:=h;have c:Zfs o.op=false:=by cases h:Zfs o.op<;>simp[h]at q ⊢
 exact⟨_,u,E',H',s,by rw[m,Sem.run_bind,d];rfl,.inl rfl,f,g,i,j,λe=>(by rw[c]at e;cases e),λe=>(by rw[q]at e;cases e),λx l=>by rw[n]at l;injection l with l;subst l;exact Zu9 I⟩
theorem Zt8 (a:Act) (p:Array (Nat×Operand)):(p.map λx=>(x.1,a.eval x.2)).toList=p.toList.map λx=>(x.1,a.eval x.2):=by simp
theorem ZzO (hΔ:Δ.ok P) {B:Base} {E:Env} {H:List Entry} (m:Inv B E H) {R:List SV} {a:Act} (N:Yo E R a.tmps.toList) {o:Oper}
  (h:opK Δ R H o.op K):Ran P B E o a K:=by
 obtain⟨dst,op,z,pos,after,guard⟩:=o;simp only at h;have a0:∀{x:Operand} (U:Op),(execOp a.eval ⟨dst,U,z,pos,after,guard⟩=pure (.value (a.eval x)))->(ZaH R x λs=>K s H)->appArg U=none->Ran P B E ⟨dst,U,z,pos,after,guard⟩ a K:=by
  intro x U he h ha;obtain⟨s,q,h⟩:=YM N h;exact Zjr m he q h ha
 unfold opK at h;split at h
 ·exact a0 _ rfl h rfl
 ·exact a0 _ rfl h rfl
 ·rename_i c x y
  obtain⟨s,q,h⟩:=YM N h;split at h
  ·simp only[den]at q
   obtain⟨s',J,h⟩:=YM N h;exact Zjr m (u:=a.eval x) (by simp[execOp,q,asBool]) J h
  ·simp only[den]at q
   obtain⟨s',J,h⟩:=YM N h;exact Zjr m (u:=a.eval y) (by simp[execOp,q,asBool]) J h
  ·rename_i p
   simp only[den]at q;cases p
   ·obtain⟨s',J,h⟩:=YM N (h.2 rfl)
    exact Zjr m (u:=a.eval y) (by simp[execOp,q,asBool]) J h
   ·obtain⟨s',J,h⟩:=YM N (h.1 rfl)
    exact Zjr m (u:=a.eval x) (by simp[execOp,q,asBool]) J h
  ·exact h.elim
 ·obtain⟨I,b,h⟩:=XR Δ hΔ h
  exact ZeX rfl rfl (Zyt m b h)
 ·obtain⟨s,q,h⟩:=YM N h
  exact ZeX rfl rfl (ZDT m q h)
 ·rename_i T ps
  obtain⟨I,b,h⟩:=XR Δ hΔ h;obtain⟨l,Q,h⟩:=Zqn N _ h;exact V6 m rfl (ZyC b (by rw[Zt8];exact Q) h)
 ·rename_i T n ps
  obtain⟨I,b,h⟩:=XR Δ hΔ h;obtain⟨l,Q,h⟩:=Zqn N _ h;exact ZeX rfl rfl (ZqY m b (by rw[Zt8];exact Q) h)
 ·obtain⟨I,b,h⟩:=XR Δ hΔ h
  obtain⟨s,q,h⟩:=YM N h;exact ZzY m rfl rfl (ZBG m b q h)
 ·obtain⟨I,b,h⟩:=XR Δ hΔ h
  obtain⟨sa,a7,h⟩:=YM N h;obtain⟨sx,G,h⟩:=YM N h;obtain⟨E',H',C,D,F,h4,h5⟩:=ZAs m b a7 G h;exact⟨.skip,undef,E',H',.tup [],by simp[execOp,C],.inr ⟨rfl,rfl⟩,D,F,by simp only[den];exact⟨[],rfl,trivial⟩,h4,λe=>(by cases e),λe=>(by cases e),λy hy=>by simp only[appArg]at hy;injection hy with hy;subst hy;exact h5⟩
 ·obtain⟨s0,a6,h⟩:=YM N h
  obtain⟨s,q,h⟩:=ZyV a6 h;split at h
  ·rename_i hp
   rcases Zvq q hp with⟨p,Z⟩|⟨f,cs,Z⟩
   ·exact Zjr m (by simp[execOp,Z];rfl) (by rw[<-Z];exact q) h
   ·exact Zjr m (by simp[execOp,Z];rfl) (by rw[<-Z];exact q) h
  ·exact h.elim
 ·obtain⟨sx,G,h⟩:=YM N h
  obtain⟨sy,M,h⟩:=YM N h;obtain⟨r,s,C,D,F⟩:=ZA1 (P:=P) hΔ h G M _ _;exact V6 m rfl ⟨r,s,C,D,F⟩
 ·obtain⟨sx,G,h⟩:=YM N h
  obtain⟨r,s,C,D,F⟩:=ZGx (P:=P) h G;exact V6 m rfl ⟨r,s,C,D,F⟩
 ·obtain⟨ts,Y,h⟩:=XR Δ hΔ h
  obtain⟨td,X,h⟩:=XR Δ hΔ h;obtain⟨s,q,h⟩:=YM N h;split at h
  ·rename_i a4 a5
   obtain⟨te,b0,h⟩:=XR Δ hΔ h;obtain⟨u,r,C,D,F⟩:=ZyP (P:=P) m Y a4 X a5 b0 q h;exact ZeX rfl rfl ⟨u,E,H,r,C,m,Env.le.refl E,D,F,Grow.refl _⟩
  ·obtain⟨u,r,C,D,F⟩:=ZBf (P:=P) Y X q h
   exact V6 m rfl ⟨u,r,C,D,F⟩
 ·rename_i f first V
  split at h
  ·rename_i hf
   obtain⟨V⟩:=V;obtain⟨l,Q,h⟩:=Zme N _ h;have a3:first=#[]:=Array.eq_empty_of_size_eq_zero hf;subst a3;refine V6 m rfl ⟨_,_,λw=>rfl,?_,h⟩;simp only[den];exact⟨_,by simp,Q⟩
  ·exact h.elim
 ·obtain⟨I,b,h⟩:=XR Δ hΔ h
  obtain⟨sl,a9,h⟩:=YM N h;obtain⟨sc,a8,h⟩:=YM N h;exact ZeX rfl rfl (ZBP m b a9 a8 h)
 ·obtain⟨I,b,h⟩:=XR Δ hΔ h
  obtain⟨s,q,h⟩:=YM N h;exact ZeX rfl rfl (ZAh m N b q h)
 ·obtain⟨I,b,h⟩:=XR Δ hΔ h
  obtain⟨s,q,h⟩:=YM N h;exact V6 m rfl (Zsj b q h)
 ·obtain⟨I,b,h⟩:=XR Δ hΔ h
  obtain⟨s,q,h⟩:=YM N h;exact V6 m rfl (Zy4 b q h)
 ·rename_i T x i
  obtain⟨I,b,h⟩:=XR Δ hΔ h;obtain⟨s,q,h⟩:=YM N h;cases i with
  |const v =>
   obtain⟨S,d,h⟩:∃S,(∀j,Zm2 (.const v)=some j->∀k i,S=.int k i->i=(j:Int))/\den E S v/\ZkF I s S (.const v) H λr=>K r H:=by
    have h':=h;obtain⟨S,d,h⟩:=YM N h;have L:den E S v:=d;refine⟨S,λj O k i W=>?_,L,h⟩;subst W;simp only[den]at L;subst L;simp only[Zm2]at O;split at O
    ·simp at O;subst O;rfl
    ·cases O
   exact V6 m rfl (Zjj m b q h.1 h.2 d)
  |tmp t =>
   obtain⟨S,d,h⟩:=YM N h;exact V6 m rfl (Zjj m b q d h (λj O=>by simp[Zm2]at O))
  |global g=>exact h.elim
  |func f =>
   obtain⟨S,d,h⟩:=YM N h;exact V6 m rfl (Zjj m b q d h (λj O=>by simp[Zm2]at O))
 ·obtain⟨I,b,h⟩:=XR Δ hΔ h
  obtain⟨s,q,h⟩:=YM N h;obtain⟨S,d,h⟩:=YM N h;obtain⟨u,r,C,D,F⟩:=ZAu (P:=P) b q d h;exact V6 m rfl ⟨u,r,C,D,F⟩
 ·obtain⟨s,q,h⟩:=YM N h
  obtain⟨u,r,C,D,F⟩:=ZE7 (P:=P) q h;exact V6 m rfl ⟨u,r,C,D,F⟩
 ·obtain⟨I,b,h⟩:=XR Δ hΔ h
  exact ZeX rfl rfl (Zvk m b h)
 ·obtain⟨I,b,h⟩:=XR Δ hΔ h
  obtain⟨sx,G,h⟩:=YM N h;obtain⟨S,d,h⟩:=YM N h;obtain⟨u,r,C,D,F⟩:=ZxC (P:=P) hΔ m b G d h;exact ZeX rfl rfl ⟨u,E,H,r,C,m,Env.le.refl E,D,F,Grow.refl _⟩
 ·obtain⟨I,b,h⟩:=XR Δ hΔ h
  obtain⟨sx,G,h⟩:=YM N h;obtain⟨S,d,h⟩:=YM N h;obtain⟨sy,M,h⟩:=YM N h;obtain⟨E',H',C,D,F,h4⟩:=Zx5 (P:=P) hΔ m b G d M h;exact⟨.skip,undef,E',H',.tup [],by simp[execOp,C],.inr ⟨rfl,rfl⟩,D,F,by simp only[den];exact⟨[],rfl,trivial⟩,h4,λe=>(by cases e),λe=>(by cases e),ZrL rfl⟩
 ·rename_i c
  obtain⟨a1,args,A⟩:=c;obtain⟨args⟩:=args;obtain⟨A⟩:=A;simp only at h;split at h
  ·rename_i x T
   obtain⟨I,b,h⟩:=XR Δ hΔ h;obtain⟨s,q,h⟩:=YM N h;obtain⟨u,r,C,D,F⟩:=ZEu (ty:=z) m b q h;exact V6 m (x:=Builtin.len_ #[T] z #[a.eval x]) (by simp only[execOp,resolve,invoke,builtin,pure_bind,List.map_toArray,List.map_cons,KV]) ⟨u,r,C,D,F⟩
  ·rename_i x y T T'
   split at h
   ·rename_i a2;subst a2
    obtain⟨I,b,h⟩:=XR Δ hΔ h;obtain⟨sx,G,h⟩:=YM N h;obtain⟨sy,M,h⟩:=YM N h;exact ZEH (x:=Builtin.append_ #[T,T] z #[a.eval x,a.eval y]) (by simp only[execOp,resolve,invoke,builtin,pure_bind,List.map_toArray,List.map_cons,KV]) rfl rfl (Zxc (ty:=z) m b G M h)
   ·exact h.elim
  ·rename_i x r
   obtain⟨s,q,h⟩:=YM N h;obtain⟨l,Q,h⟩:=Zme N _ h;obtain⟨u,r',C,D,F⟩:=Zvm (P:=P) (mx:=false) l s _ _ q Q h;exact V6 m (x:=Builtin.min_ A.toArray z ((x::r).toArray.map a.eval)) (by simp only[execOp,resolve,invoke,builtin,pure_bind]) ⟨u,r',λw=>by simpa[Builtin.min_]using C w,D,F⟩
  ·rename_i x r
   obtain⟨s,q,h⟩:=YM N h;obtain⟨l,Q,h⟩:=Zme N _ h;obtain⟨u,r',C,D,F⟩:=Zvm (P:=P) (mx:=true) l s _ _ q Q h;exact V6 m (x:=Builtin.max_ A.toArray z ((x::r).toArray.map a.eval)) (by simp only[execOp,resolve,invoke,builtin,pure_bind]) ⟨u,r',λw=>by simpa[Builtin.max_]using C w,D,F⟩
  ·exact h.elim
 ·exact h.elim
end
inductive Sh
 |dat (t:Ty)
 |own (e:Dp)
 |io (e:Dp)
 |back (e:Dp)
@[reducible] def Sh.den:Sh->Type
 | .dat t=>t.den
 | .own e=>e.ty.den
 | .io e=>e.ty.den
 | .back e=>e.ty.den
@[reducible] def Shs:List Sh->Type
 |[]=>Unit
 |s::r=>s.den×Shs r
@[reducible] def Ios:List Sh->Type
 |[]=>Unit
 | .io e::r=>e.ty.den×Ios r
 | .back e::r=>e.ty.den×Ios r
 | .dat _::r=>Ios r
 | .own _::r=>Ios r
structure Ctr where
 args:List Sh
 rets:List Sh
 tr:Shs args->(Shs rets->Ios args->Prop)->Prop
def ZAD (t:Ty) (v:Value):Prop:=(t.agg=true->∃cs,v=.agg cs)/\(t.agg=false->v.cells=#[v])
def ZFq (S:Nat->Prop) (w:World) (t:Ty) (d:t.den) (v:Value):Prop :=
 (t.agg=true->∃cs,v=.agg cs)/\(t.agg=false->v.cells=#[v])/\rep S w t d v.cells.toList
def ZvF (S:Nat->Prop) (w:World):(s:Sh)->s.den->Value->List Nat->Prop
 | .dat t,d,v,p=>p=[]/\ZFq S w t d v
 | .own e,d,v,p=>ZAD e.ty v/\ZiB S w e d v.cells.toList p
 | .back e,d,v,p=>ZAD e.ty v/\ZiB S w e d v.cells.toList p
 | .io e,d,v,p=>∃b cs T f,v=.pointer (some ⟨b,0,none⟩)/\w.heap[b]?=some (.cells cs T (0,0))/\ZiB S w e d cs.toList f/\p=b::f
def ZeZ (S:Nat->Prop) (w:World):(l:List Sh)->Shs l->List Value->List Nat->Prop
 |[],_,vs,p=>vs=[]/\p=[]
 |s::r,d,vs,p=>∃v vr f fr,vs=v::vr/\p=f++fr/\ZvF S w s d.1 v f/\ZeZ S w r d.2 vr fr
def Zic (S:Nat->Prop) (w:World):(l:List Sh)->Ios l->List Value->List Nat->Prop
 |[],_,_,p=>p=[]
 | .io e::r,d,vs,p=>∃v vr f fr,vs=v::vr/\p=f++fr/\ZvF S w (.io e) d.1 v f/\Zic S w r d.2 vr fr
 | .back e::r,d,vs,p=>∃v vr f fr,vs=v::vr/\p=f++fr/\ZvF S w (.back e) d.1 v f/\Zic S w r d.2 vr fr
 | .dat _::r,d,vs,p=>∃v vr,vs=v::vr/\Zic S w r d vr p
 | .own _::r,d,vs,p=>∃v vr,vs=v::vr/\Zic S w r d vr p
def retv (us:List Value) (v:Value):Prop :=
 match us with
 |[u]=>v=u
 |us=>v=.tuple us.toArray
def Zl0 (P:Program) (f:FuncId):Prop:=∃fn,P.funcs[f]?=some fn/\(fn.name == "runtime.NumGoroutine")=false/\fn.body.isNone=false
def Zc (P:Program) (f:FuncId) (C:Ctr):Prop:=Zl0 P f/\
 ∀(w:World) (S:Nat->Prop) (vs:List Value) (a:Shs C.args) (p:List Nat) (K:Shs C.rets->Ios C.args->Prop),
  (∀b,S b->b<w.heap.size)->ZeZ S w C.args a vs p->p.Nodup->(∀g∈p,¬S g/\g<w.heap.size)->C.tr a K->
  Calls P f vs.toArray w λe w'=>∃v u s i S' fr o,e=.returned v/\retv u v/\K s i/\Keeps ⟨w,S,λb=>b∈p,[]⟩ w'/\(∀b,S b->S' b)/\
   (∀b,S' b->b<w'.heap.size/\(b<w.heap.size->S b\/b∈p))/\ZeZ S' w' C.rets s u fr/\Zic S' w' C.args i vs o/\
   (o++fr).Nodup/\∀g∈o++fr,¬S' g/\g<w'.heap.size/\(w.heap.size<=g\/g∈p)
def SV.isAgg:SV->Bool
 | .agg _=>true
 |_=>false
def ZFl (f:SV->List Entry->(SV->List Entry->Prop)->Prop):List SV->List Entry->(List SV->List Entry->Prop)->Prop
 |[],H,K=>K [] H
 |s::r,H,K=>f s H λS H1=>ZFl f r H1 λR H2=>K (S::R) H2
def ZpS:Nat->SV->List Entry->(SV->List Entry->Prop)->Prop
 |0,s,H,K=>K s H
 |n+1,s,H,K=>match s with
  | .ptr I 0=>Zh8 H I λe=>match e with
   | .box cells=>ZFl (ZpS n) cells H λc H0=>Jw c H0 λC H1=>Zh8 H1 I λE=>match E with
    | .box _=>Zi6 H1 I (.fbx C) λH2=>K (.fptr C) H2
    |_=>False
   | .fbx cells=>K (.fptr cells) H
   |_=>False
  | .own I=>Zh8 H I λe=>match e with
   | .hole _ e d i cells _=>ZFl (ZpS n) cells H λc H0=>Jw c H0 λC H1=>Qp e.ty C λx rest=>match rest with
    |[]=>Zh8 H1 I λE=>match E with
     | .hole _ _ _ _ _ _=>Zi6 H1 I (.frz e.ty (d.set i.toNat x)) λH2=>K (.sl e.ty (d.set i.toNat x)) H2
     |_=>False
    |_=>False
   |_=>K (.own I) H
  |s=>K s H
def Zzc (s:SV) (H:List Entry) (K:SV->List Entry->Prop):Prop:=ZpS 3 s H K
def Zu7 (cs:List SV) (H:List Entry) (K:List SV->List Entry->Prop):Prop:=ZFl Zzc cs H K
def Zza (s:SV) (H:List Entry) (K:List SV->List Entry->Prop):Prop :=
 match s with
 | .fn f C=>Zu7 C H λc H1=>K [.fn f c] H1
 | .ptr I o=>Zzc (.ptr I o) H λS H1=>K [S] H1
 |s=>Zu7 s.cells H λa H0=>Jw a H0 K
def ZtF (t:Ty) (cs:List SV) (K:SV->Prop):Prop :=
 if t.agg=true then K (.agg cs)else match cs with
  |c::_=>K c
  |[]=>False
def ZoB:(l:List Sh)->List SV->List Entry->(Shs l->List Entry->Prop)->Prop
 |[],S,H,K=>match S with
  |[]=>K () H
  |_=>False
 | .dat t::r,S,H,K=>match S with
  |s::S=>if s.whole=true/\t.agg=s.isAgg then Zza s H λcs H1=>Qp t cs λd rest=>match rest with
    |[]=>ZoB r S H1 λD H2=>K (d,D) H2
    |_=>False
   else False
  |_=>False
 | .own e::r,S,H,K=>match S with
  |s::S=>if s.whole=true/\e.ty.agg=s.isAgg then closeAll e s.cells H λd H1=>ZoB r S H1 λD H2=>K (d,D) H2 else False
  |_=>False
 | .back e::r,S,H,K=>match S with
  |s::S=>if s.whole=true/\e.ty.agg=s.isAgg then closeAll e s.cells H λd H1=>ZoB r S H1 λD H2=>K (d,D) H2 else False
  |_=>False
 | .io e::r,S,H,K=>match S with
  | .ptr I 0::S=>Zh8 H I λM=>match M with
   | .box cells=>Zi6 H I .gone λH0=>closeAll e cells H0 λd H1=>ZoB r S H1 λD H2=>K (d,D) H2
   |_=>False
  |_=>False
def Dp.closed:Dp->Bool
 | .flat t=>t.flat
 | .ol _ e=>e.closed
 | .pair a b=>a.closed&&b.closed
 | .mp k v=>k.flat&&v.flat
def Sh.flat:Sh->Bool
 | .dat t=>t.flat
 | .own e=>e.closed
 | .io e=>e.closed
 | .back e=>e.closed
def Zpe:List Sh->Bool
 |[]=>true
 |s::r=>s.flat&&Zpe r
def ZlD:List Sh->Bool
 |[]=>true
 | .io e::r=>e.closed&&ZlD r
 | .back e::r=>e.closed&&ZlD r
 |_::r=>ZlD r
def Zgz:(e:Dp)->List SV->e.ty.den->List Entry->(List SV->List Entry->Prop)->Prop
 | .flat t,cs,_,H,K=>Zj8 cs t.size λr=>K r H
 | .ol g e,cs,d,H,K=>match cs with
  | .nsl::r=>K r H
  | .own I::r=>ZEG g e I d H λH'=>K r H'
  |_=>False
 | .mp k v,cs,d,H,K=>match cs with
  | .mown I::r=>Zi6 H I (.mpe k v d) λH'=>K r H'
  |_=>False
 | .pair a b,cs,d,H,K=>splitK d λx y=>Zgz a cs x H λr H1=>Zgz b r y H1 K
def Zyb:(l:List Sh)->List SV->Ios l->List Entry->(List Entry->Prop)->Prop
 |[],_,_,H,K=>K H
 | .io e::r,S,d,H,K=>match S with
  | .ptr I 0::S=>splitK d λx D=>VQ e x H λcells H1=>Zi6 H1 I (.box cells) λH2=>Zyb r S D H2 K
  |_=>False
 | .back e::r,S,d,H,K=>match S with
  |s::S=>if s.whole=true then splitK d λx D=>Zgz e s.cells x H λ_ H1=>Zyb r S D H1 K else False
  |_=>False
 | .dat _::r,S,d,H,K=>match S with
  |_::S=>Zyb r S d H K
  |_=>False
 | .own _::r,S,d,H,K=>match S with
  |_::S=>Zyb r S d H K
  |_=>False
def ZnX:(l:List Sh)->Shs l->List Entry->(List SV->List Entry->Prop)->Prop
 |[],_,H,K=>K [] H
 | .dat t::r,d,H,K=>splitK d λx D=>Jj t x λcs=>ZtF t cs λs=>ZnX r D H λS H'=>K (s::S) H'
 | .own e::r,d,H,K=>splitK d λx D=>VQ e x H λcs H1=>ZtF e.ty cs λs=>ZnX r D H1 λS H'=>K (s::S) H'
 | .back e::r,d,H,K=>splitK d λx D=>VQ e x H λcs H1=>ZtF e.ty cs λs=>ZnX r D H1 λS H'=>K (s::S) H'
 | .io e::r,d,H,K=>splitK d λx D=>VQ e x H λcs H1=>ZrK cs H1 λs H2=>ZnX r D H2 λS H'=>K (s::S) H'
def ZzN (ss:List SV) (K:SV->Prop):Prop :=
 match ss with
 |[s]=>K s
 |ss=>K (.tup ss)
def Zwm:List Entry->(List Entry->Prop)->Prop
 |[],K=>K []
 |e::r,K=>Zwm r λR=>K (e::R)
theorem ZtK:∀(l:List Entry) (K:List Entry->Prop),Zwm l K=K l
 |[],_=>rfl
 |e::r,K=>by unfold Zwm;exact ZtK r _
def ZDZ (C:Ctr) (a:List SV) (H:List Entry) (K:SV->List Entry->Prop):Prop :=
 ZoB C.args a H λA H1=>C.tr A λr i =>
  if(Zpe C.rets&&ZlD C.args)=true then Zwm (ZoW H H1) λH0=>Zyb C.args a i H0 λH2=>ZnX C.rets r H2 λS H3=>ZzN S λs=>K s H3
  else Zyb C.args a i H1 λH2=>ZnX C.rets r H2 λS H3=>ZzN S λs=>K s H3
def ZFv (B:Base) (f:SV->List Entry->(SV->List Entry->Prop)->Prop):Prop :=
 ∀(E:Env) (H:List Entry),Inv B E H->∀(s:SV) (v:Value),den E s v->∀(K:SV->List Entry->Prop),f s H K->∃E' H' S,Frz E H E' H'/\Inv B E' H'/\den E' S v/\K S H'
theorem Zsn {B:Base} {f:SV->List Entry->(SV->List Entry->Prop)->Prop} (b:ZFv B f):∀(cs:List SV) {E:Env} {H:List Entry} (_:Inv B E H) {vs:List Value} (_:Yo E cs vs) {K:List SV->List Entry->Prop} (_:ZFl f cs H K),
  ∃E' H' C,Frz E H E' H'/\Inv B E' H'/\Yo E' C vs/\K C H'
 |[],E,H,m,vs,N,K,h=>⟨E,H,[],Frz.refl E H,m,N,h⟩
 |s::r,E,H,m,vs,N,K,h=>by
  match vs,N with
  |[],N=>simp[Yo]at N
  |v::vs,N =>
   simp only[Yo]at N;simp only[ZFl]at h;obtain⟨E1,H1,S,x,A,a,h⟩:=b _ _ m _ _ N.1 _ h;obtain⟨E2,H2,R,M,g,c,h⟩:=Zsn b r A (ZV x.le _ _ N.2) h;exact⟨E2,H2,S::R,x.trans M,g,⟨Zh5 M.le _ _ a,c⟩,h⟩
theorem Znz {B:Base}:∀n,ZFv B (ZpS n)
 |0=>λ_ _ q _ _ N _ k=>⟨_,_,_,Frz.refl _ _,q,N,k⟩
 |n+1=>by
  intro E H q s v N K k;unfold ZpS at k;split at k
  ·rename_i M
   obtain⟨e,R,k⟩:=Xn H k;simp only[den]at N;obtain⟨b,P,hv⟩:=N;split at k
   ·rename_i cells
    obtain⟨b',cs,T,z,h2,h3⟩:=q.ent M _ R;have:=P.symm.trans z;simp at this;subst this;obtain⟨E0,H0,Z,G,A,m,k⟩:=Zsn (Znz n) _ q h3 k;obtain⟨E1,H1,C,I,D,t,k,_⟩:=Q0 _ A m k;have a:=G.trans I;obtain⟨e1,J,k⟩:=Xn H1 k;split at k
    ·rename_i c1
     rw[XM]at k;have p:E1.ids[M]?=some (.pointer (some ⟨b,0,none⟩)):=by rw[a.ids];exact P
     have V:E1.w.heap[b]?=some (.cells cs T (0,0)):=by rw[a.w];exact h2
     have W:E1.le ⟨λg=>E1.S g\/ZiH (.box c1) (.pointer (some ⟨b,0,none⟩)) g,E1.w,E1.ids⟩:=⟨λ_ h=>.inl h,λ_ _=>rfl,λ_ _ h=>h⟩;obtain⟨l,F⟩:=D.ZpQ J rfl p (.fbx C) rfl ⟨b,cs,T,p,.inr rfl,V,ZV W _ _ t⟩;refine⟨_,_,_,a.trans (Frz.one J rfl p rfl l (λb r=>r)),F,?_,k⟩;simp only[den];refine⟨⟨b,0,none⟩,cs.toList,hv,rfl,.inr rfl,λj u hu=>?_,ZV l _ _ t⟩;exact Zl8 (w:=E1.w) (b:=b) (cs:=cs) (T:=T) (fr:=(0,0)) V 0 j u (by simpa using hu)
    ·exact k.elim
   ·rename_i cells
    obtain⟨b',cs,T,z,hS,h2,h3⟩:=q.ent M _ R;have:=P.symm.trans z;simp at this;subst this;refine⟨E,H,_,Frz.refl E H,q,?_,k⟩;simp only[den];refine⟨⟨b,0,none⟩,cs.toList,hv,rfl,hS,λj u hu=>?_,h3⟩;exact Zl8 h2 0 j u (by simpa using hu)
   ·exact k.elim
  ·rename_i M
   obtain⟨en,R,k⟩:=Xn H k;split at k
   ·rename_i et e d i cells Y
    have m:=N;simp only[den]at m;obtain⟨v',xs,x1,vx,x2,f1,f2,P,ho,a5,a6,ex,el,a4,a1,a2,a0,y,a7⟩:=q.ent M _ R;have:=P.symm.trans m.1;simp at this;subst this;obtain⟨E0,H0,Z,G,A,Q,k⟩:=Zsn (Znz n) _ q a0 k;obtain⟨E1,H1,C,I,D,t,k,_⟩:=Q0 _ A Q k;have a:=G.trans I;obtain⟨x,rest,u1,u2,O,hr,L,k⟩:=X0 e.ty C _ _ t k;split at k
    ·have a3:u2=[]:=by cases u2 with
      |nil=>rfl
      |cons=>simp[Yo]at L
     subst a3;rw[Un]at O;subst O;obtain⟨e1,J,k⟩:=Xn H1 k;split at k
     ·have c:=a.same M _ J rfl
      rw[R]at c;have c:=Option.some.inj c;rw[<-c]at J;rw[XM]at k;have p:E1.ids[M]?=some v':=by rw[a.ids];exact m.1
      have X:rep (λb=>E1.S b\/ZiH (.hole et e d i cells Y) v' b) E1.w (.sl e.ty) (d.set i.toNat x) [v']:=by
       have hw:=a.w;rw[hw];rw[hw]at hr;refine Zt7 (by rw[UF];exact ho) ?_ (λg U=>.inr (by show g∈Y;rw[y];simp[U]));rw[List.set_eq_take_append_cons_drop,QP,ex,Uk];refine Zju _ _ _ _ (Zjt _ _ _ (λd vs f o h=>Zht (S:=E.S) (λb r=>.inl (a.le.S b r)) e d vs f (λg U=>.inr (by show g∈Y;rw[y];simp[o g U])) h) a1) ⟨vx,x2,rfl,?_,?_⟩
       ·exact YH (λb r=>.inl r) (λ_ _=>rfl) e.ty x vx hr
       ·exact Zjt _ _ _ (λd vs f o h=>Zht (S:=E.S) (λb r=>.inl (a.le.S b r)) e d vs f (λg U=>.inr (by show g∈Y;rw[y];simp[o g U])) h) a2
      obtain⟨l,F⟩:=D.ZpQ J rfl p (.frz e.ty (d.set i.toNat x)) rfl ⟨v',p,X⟩;exact⟨_,_,_,a.trans (Frz.one J rfl p rfl l (λb r=>r)),F,by simp only[den];exact X,k⟩
     ·exact k.elim
    ·exact k.elim
   ·exact⟨E,H,_,Frz.refl E H,q,N,k⟩
  ·exact⟨E,H,_,Frz.refl E H,q,N,k⟩
variable {s:SV} {v:Value}
theorem ZtO {B:Base} {E:Env} {H:List Entry} (m:Inv B E H) (N:den E s v) {K:SV->List Entry->Prop} (h:Zzc s H K) :
  ∃E' H' S,Frz E H E' H'/\Inv B E' H'/\den E' S v/\K S H':=Znz 3 _ _ m _ _ N _ h
variable {vs:List Value} {K:List SV->List Entry->Prop}
theorem ZrB {B:Base} (cs:List SV) {E:Env} {H:List Entry} (m:Inv B E H) (N:Yo E cs vs) (h:Zu7 cs H K) :
  ∃E' H' C,Frz E H E' H'/\Inv B E' H'/\Yo E' C vs/\K C H' :=
 Zsn (λ_ _ m _ _ N _ h=>ZtO m N h) cs m N h
theorem Zzb {B:Base} {E:Env} {H:List Entry} (m:Inv B E H) (N:den E s v) (w:s.whole=true) (h:Zza s H K) :
  ∃E' H' C,Frz E H E' H'/\Inv B E' H'/\Yo E' C v.cells.toList/\K C H':=by
 unfold Zza at h;split at h
 ·rename_i f d
  simp only[den]at N;obtain⟨vs,rfl,N⟩:=N;obtain⟨E1,H1,C,x,A,a,h⟩:=ZrB _ m N h;exact⟨E1,H1,[.fn f C],x,A,⟨by simp only[den];exact⟨vs,rfl,a⟩,trivial⟩,h⟩
 ·rename_i I o
  have q:=(Zkp N rfl).1;obtain⟨E1,H1,S,x,A,a,h⟩:=ZtO m N h;exact⟨E1,H1,[S],x,A,by rw[q];exact⟨a,trivial⟩,h⟩
 ·obtain⟨E0,H0,e,G,b,c,h⟩:=ZrB _ m (ZaU N w) h
  obtain⟨E1,H1,C,x,A,a,h,_⟩:=Q0 _ b c h;exact⟨E1,H1,_,G.trans x,A,a,h⟩
theorem Zw1 {E E':Env} (h:E.le E') {p:List Nat} (c:∀g∈p,E'.w.heap[g]?=E.w.heap[g]?):∀(s:Sh) (d:s.den) (v:Value),ZvF E.S E.w s d v p->ZvF E'.S E'.w s d v p
 | .dat t,_,_,⟨m,H,a,i⟩=>⟨m,H,a,YH h.S h.w t _ _ i⟩
 | .own e,_,_,⟨H,a⟩=>⟨H,YT h.S h.w e _ _ _ c a⟩
 | .back e,_,_,⟨H,a⟩=>⟨H,YT h.S h.w e _ _ _ c a⟩
 | .io e,_,_,⟨b,cs,T,f,H,a,i,j⟩=>⟨b,cs,T,f,H,by rw[c b (by rw[j];simp)];exact a,YT h.S h.w e _ _ _ (λg k=>c g (by rw[j];simp[k])) i,j⟩
theorem Zul {E E':Env} (h:E.le E'):∀(l:List Sh) (d:Shs l) (vs:List Value) (p:List Nat),(∀g∈p,E'.w.heap[g]?=E.w.heap[g]?)->ZeZ E.S E.w l d vs p->ZeZ E'.S E'.w l d vs p
 |[],_,_,_,_,h=>h
 |s::r,_,_,_,c,⟨v,vr,f,fr,e,a,b,i⟩=>⟨v,vr,f,fr,e,a,Zw1 h (λg H=>c g (by rw[a];simp[H])) s _ _ b,Zul h r _ _ _ (λg H=>c g (by rw[a];simp[H])) i⟩
theorem Zvz {α:Type} {R R':α->List Value->List Nat->Prop} (h:∀d vs f,R d vs f->R' d vs f) (l:List α) (xs:List Value) (p:List Nat) (F:ZbY R l xs p):ZbY R' l xs p:=Qr l xs p (λd vs f _=>h d vs f) F
theorem Zdf {S S':Nat->Prop} {w:World}:∀(e:Dp),e.closed=true->∀(d:e.ty.den) (vs:List Value) (p:List Nat),ZiB S w e d vs p->ZiB S' w e d vs p
 | .flat t,q,_,_,_,⟨H,c⟩=>⟨H,ZkN t q _ _ c⟩
 | .ol m e,q,_,_,_,⟨v,xs,s,E,x,l,i⟩=>⟨v,xs,s,E,x,Zvz (λd vs f=>Zdf e q d vs f) _ _ _ l,i⟩
 | .mp k v,q,_,_,_,⟨b,g,C,E,i,r,h⟩=>by
  simp only[Dp.closed,Ur]at q;exact⟨b,g,C,E,i,r,Zc4 (λd vs=>ZkN k q.1 d vs) (λd vs=>ZkN v q.2 d vs) _ _ h⟩
 | .pair a b,q,_,_,_,⟨v1,V,F,j,E,i,H,c⟩=>by
  simp only[Dp.closed,Ur]at q;exact⟨v1,V,F,j,E,i,Zdf a q.1 _ _ _ H,Zdf b q.2 _ _ _ c⟩
theorem ZmL {S S':Nat->Prop} {w:World}:∀(l:List Sh),Zpe l=true->∀(d:Shs l) (vs:List Value) (p:List Nat),ZeZ S w l d vs p->ZeZ S' w l d vs p
 |[],_,_,_,_,h=>h
 |s::r,g,_,_,_,⟨v,vr,f,fr,e,E,H,m⟩=>by
  simp only[Zpe,Ur]at g;refine⟨v,vr,f,fr,e,E,?_,ZmL r g.2 _ _ _ m⟩;cases s with
  |dat t=>obtain⟨a,b,c,d⟩:=H;exact⟨a,b,c,ZkN t g.1 _ _ d⟩
  |own e=>exact⟨H.1,Zdf e g.1 _ _ _ H.2⟩
  |back e=>exact⟨H.1,Zdf e g.1 _ _ _ H.2⟩
  |io e=>obtain⟨b,cs,T,F,A,i,j,k⟩:=H;exact⟨b,cs,T,F,A,i,Zdf e g.1 _ _ _ j,k⟩
theorem Zfr {S S':Nat->Prop} {w:World}:∀(l:List Sh),ZlD l=true->∀(d:Ios l) (vs:List Value) (p:List Nat),Zic S w l d vs p->Zic S' w l d vs p
 |[],_,_,_,_,h=>h
 | .io e::r,H,_,_,_,⟨v,vr,f,fr,j,E,⟨b,cs,T,F,A,c,g,k⟩,a⟩=>by
  simp only[ZlD,Ur]at H;exact⟨v,vr,f,fr,j,E,⟨b,cs,T,F,A,c,Zdf e H.1 _ _ _ g,k⟩,Zfr r H.2 _ _ _ a⟩
 | .back e::r,H,_,_,_,⟨v,vr,f,fr,j,E,⟨A,c⟩,a⟩=>by
  simp only[ZlD,Ur]at H;exact⟨v,vr,f,fr,j,E,⟨A,Zdf e H.1 _ _ _ c⟩,Zfr r H.2 _ _ _ a⟩
 | .dat _::r,H,_,_,_,⟨v,vr,e,a⟩=>⟨v,vr,e,Zfr r H _ _ _ a⟩
 | .own _::r,H,_,_,_,⟨v,vr,e,a⟩=>⟨v,vr,e,Zfr r H _ _ _ a⟩
theorem ZBz {E:Env} (h:den E s v) (c:s.whole=true):(s.isAgg=true->∃cs,v=.agg cs)/\(s.isAgg=false->v.cells=#[v]):=by
 constructor
 ·intro n
  cases s<;>simp[SV.isAgg]at n
  simp only[den]at h;obtain⟨vs,e,_⟩:=h;exact⟨_,e⟩
 ·intro n
  have d:s.one=true:=by cases s<;>simp_all[SV.isAgg,SV.whole,SV.one]
  exact(Zkp h d).1
def Handed (B:Base) (l:List Sh) (E:Env) (H:List Entry) (vs:List Value) (gs:List Nat) (K:Shs l->List Entry->Prop):Prop :=
 ∃E1 H1 a f,Frz E H E1 H1/\Inv B E1 H1/\ZeZ E1.S E1.w l a vs f/\K a H1/\Loose B E1 H1 (f++gs)/\Zk8 E H H1 f
theorem Handed.cons {B:Base} {s:Sh} {r:List Sh} {E E1:Env} {H H1:List Entry} {gs f:List Nat} {d:s.den} (b:Frz E H E1 H1) (q:ZvF E1.S E1.w s d v f) (z:Zk8 E H H1 f) {K:Shs (s::r)->List Entry->Prop}
  (h:Handed B r E1 H1 vs (f++gs) (λD H2=>K (d,D) H2)):Handed B (s::r) E H (v::vs) gs K:=by
 obtain⟨E2,H2,D,p,M,a,k,c,o,Z⟩:=h;refine⟨E2,H2,(d,D),f++p,b.trans M,a,⟨v,vs,f,p,rfl,rfl,Zw1 M.le (λg _=>by rw[M.w]) s _ _ q,k⟩,c,o.perm ?_,(z.later M).append (Zk8.after b Z)⟩;rw[<-Uk];exact UY.append_right gs
variable {t:Ty}
theorem Zsm {E:Env} (N:den E s v) (c:s.whole=true) (p:t.agg=s.isAgg):ZAD t v:=by
 have H:=ZBz N c;exact⟨λh=>H.1 (by rw[<-p];exact h),λh=>H.2 (by rw[<-p];exact h)⟩
theorem ZkA {B:Base}:∀(l:List Sh) (S:List SV) {E:Env} {H:List Entry} (_:Inv B E H) {vs:List Value} (_:Yo E S vs) {gs:List Nat} (_:Loose B E H gs) {K:Shs l->List Entry->Prop} (_:ZoB l S H K),Handed B l E H vs gs K
 |[],S,E,H,m,vs,N,gs,o,K,h=>by
  simp only[ZoB]at h;split at h
  ·match vs,N with
   |[],_=>exact⟨E,H,(),[],Frz.refl E H,m,⟨rfl,rfl⟩,h,o,Zk8.nil _ _ _⟩
   |_::_,N=>simp[Yo]at N
  ·exact h.elim
 | .dat t::r,S,E,H,m,vs,N,gs,o,K,h=>by
  simp only[ZoB]at h;split at h
  ·rename_i s S
   match vs,N with
   |[],N=>simp[Yo]at N
   |v::vs,N =>
    simp only[Yo]at N;split at h
    ·rename_i q
     obtain⟨c,p⟩:=q;obtain⟨E1,H1,cs,x,A,n,h⟩:=Zzb m N.1 c h;obtain⟨d,rest,v1,y,O,F,D,h⟩:=X0 t cs _ _ n h;split at h
     ·have u:y=[]:=by cases y with
       |nil=>rfl
       |cons=>simp[Yo]at D
      subst u;rw[Un]at O;obtain⟨P,Q⟩:=Zsm N.1 c p;exact Handed.cons (s:=.dat t) (d:=d) (f:=[]) x ⟨rfl,P,Q,by rw[O];exact F⟩ (Zk8.nil _ _ _) (ZkA r S A (ZV x.le _ _ N.2) (o.frz x) h)
     ·exact h.elim
    ·exact h.elim
  ·exact h.elim
 | .own e::r,S,E,H,m,vs,N,gs,o,K,h=>by
  simp only[ZoB]at h;split at h
  ·rename_i s S
   match vs,N with
   |[],N=>simp[Yo]at N
   |v::vs,N =>
    simp only[Yo]at N;split at h
    ·rename_i q
     obtain⟨c,p⟩:=q;obtain⟨E1,H1,d,f,x,A,F,h,M,z,_⟩:=VT m (ZaU N.1 c) o h;exact Handed.cons x (s:=.own e) ⟨Zsm N.1 c p,F⟩ z (ZkA r S A (ZV x.le _ _ N.2) M h)
    ·exact h.elim
  ·exact h.elim
 | .back e::r,S,E,H,m,vs,N,gs,o,K,h=>by
  simp only[ZoB]at h;split at h
  ·rename_i s S
   match vs,N with
   |[],N=>simp[Yo]at N
   |v::vs,N =>
    simp only[Yo]at N;split at h
    ·rename_i q
     obtain⟨c,p⟩:=q;obtain⟨E1,H1,d,f,x,A,F,h,M,z,_⟩:=VT m (ZaU N.1 c) o h;exact Handed.cons x (s:=.back e) ⟨Zsm N.1 c p,F⟩ z (ZkA r S A (ZV x.le _ _ N.2) M h)
    ·exact h.elim
  ·exact h.elim
 | .io e::r,S,E,H,m,vs,N,gs,o,K,h=>by
  simp only[ZoB]at h;split at h
  ·rename_i I S
   match vs,N with
   |[],N=>simp[Yo]at N
   |v::vs,N =>
    simp only[Yo]at N;obtain⟨Y,j,h⟩:=Xn H h;split at h
    ·rename_i cells
     rw[XM] at h;have k:=N.1;simp only[den] at k;obtain ⟨b,a,k⟩:=k;obtain ⟨X,C,T,G,J,L⟩:=m.ent I _ j;have:=a.symm.trans G;simp at this;subst this;have V:Frz E H E (H.set I .gone):=Frz.one j rfl a rfl (Env.le.refl E) (λb R=>.inl R);have U:=o.take m j rfl a (f:=[b]) (by simp) (λg i=>by
      simp at i;subst i;rfl)
     have W:Zk8 E H (H.set I .gone) [b]:=λg i=>by
      simp at i;subst i;exact⟨I,_,_,j,rfl,a,rfl,Zzd j⟩
     obtain⟨E1,H1,d,f,x,A,F,h,M,z,_⟩:=VT (m.drop I) L U h;refine Handed.cons (V.trans x) (s:=.io e) (f:=b::f) ⟨b,C,T,f,k,by rw[x.w];exact J,F,rfl⟩ ?_ (ZkA r S A (ZV x.le _ _ N.2) (M.perm ?_) h)
     ·exact((W.later x).append (Zk8.after V z)).sub (λg i=>by simpa using i)
     ·simp only[U4,Uv]
      exact List.perm_middle
    ·exact h.elim
  ·exact h.elim
variable {K:SV->Prop}
theorem ZpP {E:Env} (f:ZAD t v) {cs:List SV} (N:Yo E cs v.cells.toList) (H:ZtF t cs K):∃s,den E s v/\K s:=by
 unfold ZtF at H;split at H
 ·rename_i n
  obtain⟨C,rfl⟩:=f.1 n;exact⟨.agg _,by simp only[den];exact⟨C.toList,by simp,N⟩,H⟩
 ·rename_i n
  have a:=f.2 (by simpa using n);split at H
  ·rename_i c r
   rw[a]at N;simp only[Yo]at N;exact⟨c,N.1,H⟩
  ·exact H.elim
theorem ZBh {E:Env} {d:t.den} (h:ZFq E.S E.w t d v) (H:ZtF t (ZgV t d) K):∃s,den E s v/\K s:=by
 obtain⟨a,f,g⟩:=h;have N:=XV t d _ g;unfold ZtF at H;split at H
 ·rename_i n
  obtain⟨cs,rfl⟩:=a n;exact⟨.agg _,by simp only[den];exact⟨cs.toList,by simp,N⟩,H⟩
 ·rename_i n
  have b:=f (by simpa using n);split at H
  ·rename_i c r y
   rw[y,b]at N;simp only[Yo]at N;exact⟨c,N.1,H⟩
  ·exact H.elim
theorem Zj1 {B:Base} {E:Env}:∀(e:Dp) (cs:List SV) (x:e.ty.den) {H:List Entry} (_:Inv B E H) {vs vr:List Value} (_:Yo E cs (vs++vr)) {f gs:List Nat} (_:ZiB E.S E.w e x vs f) (_:Loose B E H (f++gs)) {K:List SV->List Entry->Prop} (_:Zgz e cs x H K),
  ∃H' r,Inv B E H'/\Loose B E H' gs/\Yo E r vr/\K r H'
 | .flat t,cs,x,H,m,vs,vr,N,f,gs,⟨Q,F⟩,l,K,h=>by
  simp only[Zgz,Zdu]at h;have G:=Qq t x vs F;have:=ZaW _ _ N t.size;rw[<-G,KT]at this;subst Q;exact⟨H,_,m,l,this,by rw[G];exact h⟩
 | .ol Y e,cs,d,H,m,vs,vr,N,f,gs,F,l,K,h=>by
  have y:=F;obtain⟨v,xs,s,q,U,z,p⟩:=F;subst q;simp only[Zgz]at h;split at h
  ·rename_i r
   simp only[U4,Uv,Yo,den]at N;obtain⟨rfl,N⟩:=N;refine⟨H,r,m,?_,N,h⟩;rcases U.2 with⟨_,T⟩|⟨g,J,cur,o,V,_⟩
   ·have:d=[]:=UG T
    subst this;have:s=[]:=z.2;subst this;rw[p]at l;simpa[YS]using l
   ·simp at V
  ·rename_i I r
   simp only[U4,Uv,Yo,den]at N;obtain⟨⟨c,_⟩,N⟩:=N;have i:I<H.length:=by
    have:=(Ub.1 c).1;rw[<-m.len];exact this
   obtain⟨D,j,k,P,_⟩:=ZzX e m i c y l h;exact⟨_,r,j,k,N,P⟩
  ·exact h.elim
 | .mp W X,cs,d,H,m,vs,vr,N,f,gs,⟨b,O,C,D,L,R,F⟩,l,K,h=>by
  subst D;simp only[Zgz]at h;split at h
  ·rename_i I r
   simp only[U4,Uv,Yo,den]at N;obtain⟨⟨c,_⟩,N⟩:=N;rw[XM]at h;have i:I<H.length:=by
    have:=(Ub.1 c).1;rw[<-m.len];exact this
   obtain ⟨j,k⟩:=l.put m i c (.mpe W X d) (λ_ g n=>by
    have n:YS (.map (some b))=some g:=n;simp[YS] at n;rw[L];simp[n]) ⟨b,O,C,c,R,F⟩
   exact⟨_,r,j,k,N,h⟩
  ·exact h.elim
 | .pair a b,cs,d,H,m,vs,vr,N,f,gs,⟨v1,v2,Z,f2,q,p,j,k⟩,l,K,h=>by
  simp only[Zgz,JU]at h;subst q;subst p;rw[Uk]at N l;obtain⟨H1,r,A,M,u,h⟩:=Zj1 a cs d.1 m N j l h;exact Zj1 b r d.2 A u k M h
theorem Zp1 {B:Base}:∀(l:List Sh) (c:List SV) (i:Ios l) {E:Env} {H:List Entry} (_:Inv B E H) {vs:List Value} (_:Yo E c vs) {F gs:List Nat} (_:Zic E.S E.w l i vs F) (_:Loose B E H (F++gs)) {K:List Entry->Prop} (_:Zyb l c i H K),
  ∃E' H',E'.w=E.w/\E'.S=E.S/\Inv B E' H'/\E.le E'/\Loose B E' H' gs/\K H'
 |[],c,i,E,H,m,vs,N,F,gs,o,d,K,h=>by
  have:F=[]:=o;subst this;exact⟨E,H,rfl,rfl,m,Env.le.refl E,d,h⟩
 | .io e::r,c,i,E,H,m,vs,N,F,gs,⟨v,vr,f,fr,j,u,⟨b,cs,T,W,R,t,U,V⟩,o⟩,d,K,h=>by
  simp only[Zyb]at h;subst j;subst u;subst V;subst R;split at h
  ·rename_i Y c
   simp only[Yo,den] at N;obtain ⟨⟨Z,L,n⟩,N⟩:=N;simp at n;subst n;simp only[JU] at h;have M:Loose B E H (W++(b::(fr++gs))):=d.perm (by
    simp only[U4,Uk];exact List.perm_middle.symm)
   obtain⟨E1,H1,cells,k,y,A,G,J,h,C,_⟩:=J8 e i.1 m U M h;rw[XM]at h;have a:=G.ids _ _ L;have P:Y<H1.length:=by
    have:=(Ub.1 a).1;rw[<-A.len];exact this
   obtain ⟨x,D⟩:=Loose.put (f:=[b]) (gs:=fr++gs) C A P a (.box cells) (λ_ g q=>by
    have q:some b=some g:=q;simp at q;simp[q]) ⟨b,cs,T,a,by rw[k];exact t,J⟩
   obtain⟨E2,H2,Q,O,z,p,I,h⟩:=Zp1 r c i.2 x (ZV G _ _ N) (by rw[y,k];exact o) D h;exact⟨E2,H2,Q.trans k,O.trans y,z,G.trans p,I,h⟩
  ·exact h.elim
 | .back e::r,c,i,E,H,m,vs,N,F,gs,⟨v,vr,f,fr,j,u,⟨R,t⟩,o⟩,d,K,h=>by
  simp only[Zyb]at h;subst j;subst u;split at h
  ·rename_i s c
   simp only[Yo]at N;split at h
   ·rename_i X
    simp only[JU]at h;rw[Uk]at d;obtain⟨H1,r',A,M,_,h⟩:=Zj1 e s.cells i.1 m (vs:=v.cells.toList) (vr:=[]) (by rw[Un];exact ZaU N.1 X) t d h;exact Zp1 r c i.2 A N.2 o M h
   ·exact h.elim
  ·exact h.elim
 | .dat _::r,c,i,E,H,m,vs,N,F,gs,⟨v,vr,j,o⟩,d,K,h=>by
  simp only[Zyb]at h;subst j;split at h
  ·simp only[Yo]at N
   exact Zp1 r _ i m N.2 o d h
  ·exact h.elim
 | .own _::r,c,i,E,H,m,vs,N,F,gs,⟨v,vr,j,o⟩,d,K,h=>by
  simp only[Zyb]at h;subst j;split at h
  ·simp only[Yo]at N
   exact Zp1 r _ i m N.2 o d h
  ·exact h.elim
theorem ZkP {B:Base}:∀(l:List Sh) (R:Shs l) (C:List Value) {E:Env} {H:List Entry} (_:Inv B E H) {p gs:List Nat} (_:ZeZ E.S E.w l R C p) (_:Loose B E H (p++gs)) {K:List SV->List Entry->Prop} (_:ZnX l R H K),
  ∃E' H' d,E'.w=E.w/\E'.S=E.S/\Inv B E' H'/\E.le E'/\Yo E' d C/\K d H'
 |[],R,C,E,H,i,p,gs,hd,o,K,h=>by
  obtain⟨rfl,rfl⟩:=hd;exact⟨E,H,[],rfl,rfl,i,Env.le.refl E,trivial,h⟩
 | .dat t::r,R,C,E,H,i,p,gs,⟨u,U,f,fr,e,n,⟨hf,I⟩,v⟩,o,K,h=>by
  subst e;subst hf;subst n;simp only[ZnX,JU,QE]at h;obtain⟨s,L,h⟩:=ZBh I h;obtain⟨E',H',d,z,x,q,a,k,h⟩:=ZkP r R.2 U i v o h;exact⟨E',H',s::d,z,x,q,a,⟨Zh5 a s u L,k⟩,h⟩
 | .own e::r,R,C,E,H,i,p,gs,⟨u,U,f,fr,D,n,⟨m,I⟩,v⟩,o,K,h=>by
  subst D;subst n;simp only[ZnX,JU]at h;rw[Uk]at o;obtain⟨E1,H1,cs,F,y,A,G,c,h,M,_⟩:=J8 e R.1 i I o h;obtain⟨s,L,h⟩:=ZpP m c h;obtain⟨E',H',d,z,x,q,a,k,h⟩:=ZkP r R.2 U A (by rw[y,F];exact v) M h;exact⟨E',H',s::d,z.trans F,x.trans y,q,G.trans a,⟨Zh5 a s u L,k⟩,h⟩
 | .back e::r,R,C,E,H,i,p,gs,⟨u,U,f,fr,D,n,⟨m,I⟩,v⟩,o,K,h=>by
  subst D;subst n;simp only[ZnX,JU]at h;rw[Uk]at o;obtain⟨E1,H1,cs,F,y,A,G,c,h,M,_⟩:=J8 e R.1 i I o h;obtain⟨s,L,h⟩:=ZpP m c h;obtain⟨E',H',d,z,x,q,a,k,h⟩:=ZkP r R.2 U A (by rw[y,F];exact v) M h;exact⟨E',H',s::d,z.trans F,x.trans y,q,G.trans a,⟨Zh5 a s u L,k⟩,h⟩
 | .io e::r,R,C,E,H,i,p,gs,⟨u,U,f,fr,D,n,⟨b,cs,T,Z,V,W,X,Y⟩,v⟩,o,K,h=>by
  subst D;subst n;subst Y;subst V;simp only[ZnX,JU] at h;have M:Loose B E H (Z++(b::(fr++gs))):=o.perm (by
   simp only[U4,Uk];exact List.perm_middle.symm)
  obtain⟨E1,H1,cells,F,y,A,G,c,h,P,_⟩:=J8 e R.1 i X M h;simp only[ZrK,ZdT,ZcK,Us]at h;have J:(E1.ids++[Value.pointer (some ⟨b,0,none⟩)])[H1.length]?=some (.pointer (some ⟨b,0,none⟩)):=by rw[<-A.len];simp
  have j:=Zlg E1 (.pointer (some ⟨b,0,none⟩));obtain ⟨O,Q⟩:=Loose.push (f:=[b]) (gs:=fr++gs) P A (.pointer (some ⟨b,0,none⟩)) (.box cells) (λ_ g N=>by
   have N:some b=some g:=N;simp at N;simp[N]) ⟨b,cs,T,J,by show E1.w.heap[b]?=_;rw[F];exact W,ZV j _ _ c⟩
  obtain ⟨E',H',d,z,x,q,a,k,h⟩:=ZkP r R.2 U O (by
   show ZeZ E1.S E1.w r R.2 U fr;rw[y,F];exact v) Q h
  refine⟨E',H',.ptr H1.length 0::d,z.trans F,x.trans y,q,G.trans (j.trans a),⟨Zh5 a _ _ ?_,k⟩,h⟩;simp only[den];exact⟨b,J,rfl⟩
theorem ZBZ {E:Env} {S:List SV} {U:List Value} (h:Yo E S U) (a:retv U v) (H:ZzN S K):∃s,den E s v/\K s:=by
 unfold ZzN at H;unfold retv at a;split at H
 ·rename_i s
  match U,h with
  |[u],h=>simp only[Yo]at h;subst a;exact⟨s,h.1,H⟩
  |[],h=>simp[Yo]at h
  |_::_::_,h=>simp[Yo]at h
 ·rename_i e
  have q:=Xc _ _ h;split at a
  ·rename_i u
   match S,q with
   |[s],_=>exact absurd rfl (e s)
  ·subst a
   exact⟨.tup S,by simp only[den];exact⟨U,rfl,h⟩,H⟩
theorem Loose.behind {B:Base} {E:Env} {H:List Entry} {F:List Nat} (o:Loose B E H F) (m:Inv B E H) {w':World} {S0:Nat->Prop} (k:Keeps ⟨E.w,S0,λb=>b∈F,[]⟩ w') {S2:Nat->Prop} (x:∀b,E.S b->S2 b)
  (O:∀b,S2 b->b<w'.heap.size/\(b<E.w.heap.size->E.S b\/b∈F)) {l:List Nat} (z:l.Nodup) (J:∀g∈l,¬S2 g/\g<w'.heap.size/\(E.w.heap.size<=g\/g∈F)) :
  E.le ⟨S2,w',E.ids⟩/\Inv B ⟨S2,w',E.ids⟩ H/\Loose B ⟨S2,w',E.ids⟩ H l:=by
 have r:E.le ⟨S2,w',E.ids⟩:=⟨x,λb d=>k.block b (m.Slt b d) (λs=>(o.free b s).1 d),λ_ _ y=>y⟩;refine⟨r,?_,z,λg u=>?_,λg u j e v i f n d=>?_⟩
 ·exact
   {keeps:=⟨k.os.trans m.keeps.os,k.tape.trans m.keeps.tape,k.output.trans m.keeps.output,Kl m.keeps.size k.size,λb d q =>
     (k.block b (UP d m.keeps.size) (λs=>by
      rcases(o.free b s).2.1 with p|p
      ·omega
      ·exact q p)).trans (m.keeps.block b d q)⟩
    Slt:=λb d=>(O b d).1
    Sold:=λb d t=>by
     rcases(O b d).2 (UP t m.keeps.size)with h|h
     ·exact m.Sold b h t
     ·rcases(o.free b h).2.1 with p|p
      ·omega
      ·exact .inr p
    len:=m.len
    pin:=m.pin
    ent:=λj e i=>Zfd r j e (λf v g n d=>k.block g (m.free j e v g i f n d).2.2 (λs=>o.apart g s j e v i f n d)) (m.ent j e i)
    free:=λj e v g i f n d=>by
     obtain⟨a,b,c⟩:=m.free j e v g i f n d;refine⟨λA=>?_,b,UP c k.size⟩;rcases(O g A).2 c with h|h
     ·exact a h
     ·exact o.apart g h j e v i f n d
    sep:=m.sep}
 ·obtain⟨a,b,c⟩:=J g u
  refine⟨a,?_,b⟩;rcases c with c|c
  ·exact .inl (Kl m.keeps.size c)
  ·exact(o.free g c).2.1
 ·obtain⟨_,_,c⟩:=J g u
  rcases c with c|c
  ·have:=(m.free j e v g i f n d).2.2;omega
  ·exact o.apart g c j e v i f n d
def Zfc:List Sh->Bool
 |[]=>true
 | .dat _::r=>Zfc r
 |_::_=>false
theorem ZnZ {S:Nat->Prop} {w:World}:∀(l:List Sh) (d:Shs l) (vs:List Value) (p:List Nat),Zfc l=true->ZeZ S w l d vs p->p=[]
 |[],_,_,_,_,h=>h.2
 | .dat _::r,_,_,_,N,⟨v,vr,f,fr,e,E,⟨H,_⟩,a⟩=>by rw[E,H,ZnZ r _ _ _ N a];rfl
 | .own _::_,_,_,_,h,_=>by simp[Zfc]at h
 | .io _::_,_,_,_,h,_=>by simp[Zfc]at h
 | .back _::_,_,_,_,h,_=>by simp[Zfc]at h
def ZjL:List Sh->Bool
 |[]=>true
 | .dat _::r=>ZjL r
 | .io (.flat _)::r=>ZjL r
 |_::_=>false
def Zmv:List Sh->List Bool
 |[]=>[]
 | .io _::r=>true::Zmv r
 |_::r=>false::Zmv r
def pick {α:Type}:List Bool->List α->List α
 |true::m,x::r=>x::pick m r
 |false::m,_::r=>pick m r
 |_,_=>[]
theorem ZsS {α β:Type} (f:α->β):∀(m:List Bool) (l:List α),pick m (l.map f)=(pick m l).map f
 |[],l=>by cases l<;>rfl
 |true::m,[]=>rfl
 |false::m,[]=>rfl
 |true::m,x::r=>by simp only[List.map_cons,pick,ZsS f m r]
 |false::m,x::r=>by simp only[List.map_cons,pick,ZsS f m r]
theorem ZlQ {S:Nat->Prop} {w:World}:∀(l:List Sh) (d:Shs l) (vs:List Value) (p:List Nat),ZjL l=true->ZeZ S w l d vs p->∀g∈p,∃v∈pick (Zmv l) vs,YS v=some g
 |[],_,_,_,_,h,g,a=>by rw[h.2]at a;cases a
 | .dat _::r,_,_,_,N,⟨v,vr,f,fr,e,E,⟨c,_⟩,H⟩,g,a=>by
  rw[E,c,Uv]at a;rw[e];exact ZlQ r _ _ _ N H g a
 | .io (.flat t)::r,_,_,_,N,⟨v,vr,f,fr,e,E,⟨b,cs,T,F,n,_,k,j⟩,H⟩,g,a=>by
  have D:F=[]:=k.1;rw[E,j,D]at a;rw[e];rcases Ut.1 a with a|a
  ·rw[Uw]at a
   exact⟨v,by simp[Zmv,pick],by rw[n,a];rfl⟩
  ·obtain⟨u,m,i⟩:=ZlQ r _ _ _ N H g a
   exact⟨u,by simp only[Zmv,pick];exact UM _ m,i⟩
 | .io (.ol _ _)::_,_,_,_,h,_,_,_=>by simp[ZjL]at h
 | .io (.pair _ _)::_,_,_,_,h,_,_,_=>by simp[ZjL]at h
 | .io (.mp _ _)::_,_,_,_,h,_,_,_=>by simp[ZjL]at h
 | .own _::_,_,_,_,h,_,_,_=>by simp[ZjL]at h
 | .back _::_,_,_,_,h,_,_,_=>by simp[ZjL]at h
theorem ZA4 {P:Program} {B:Base} {E:Env} {H:List Entry} (U:Inv B E H) {f:FuncId} {C:Ctr} (hC:Zc P f C) {N:List SV} (hd:Yo E N vs)
  {K:SV->List Entry->Prop} (k:ZDZ C N H K) :
  Calls P f vs.toArray E.w λe w'=>∃v E' H' s,e=.returned v/\E'.w=w'/\Inv B E' H'/\E.le E'/\den E' s v/\K s H'/\(Zfc C.args=true->Grow E.w w')/\(ZjL C.args=true->∀b,b<E.w.heap.size->(∀v∈pick (Zmv C.args) vs,YS v≠some b)->w'.heap[b]?=E.w.heap[b]?):=by
 unfold ZDZ at k;obtain⟨E1,H1,as,T,x,A,o,k,M,hT⟩:=ZkA C.args N U hd (Loose.none B E H) k;rw[Un]at M;have l:=hC.2 E1.w E1.S vs as T _ A.Slt o M.nodup (λg Q=>⟨(M.free g Q).1,(M.free g Q).2.2⟩) k;rw[x.w]at l;refine l.mono ?_;rintro e w' ⟨v,us,rs,I,S',fr,R,he,hv,k,d,q,a5,i,m,b4,J⟩;have L:Zfc C.args=true->Grow E.w w':=by
  intro b0 b j;refine d.block b j ?_;rw[ZnZ _ _ _ _ b0 o];simp
 have y:ZjL C.args=true->∀b,b<E.w.heap.size->(∀v∈pick (Zmv C.args) vs,YS v≠some b)->w'.heap[b]?=E.w.heap[b]?:=by
  intro b2 b j b5;refine d.block b j (λhm=>?_);obtain⟨u,hu,a9⟩:=ZlQ _ _ _ _ b2 o b hm;exact b5 u hu a9
 have F:∀(E0:Env) (H0:List Entry) (S2:Nat->Prop),E0.w=E.w->Inv B E0 H0->E.le E0->Loose B E0 H0 T->(∀b,E0.S b->S2 b)->(∀b,S2 b->S' b)->(∀b,S2 b->b<w'.heap.size/\(b<E.w.heap.size->E0.S b\/b∈T))->
   ZeZ S2 w' C.rets rs us fr->Zic S2 w' C.args I vs R->
   (Zyb C.args N I H0 λH2=>ZnX C.rets rs H2 λO H3=>ZzN O λs=>K s H3)->
   ∃v E' H' s,e=.returned v/\E'.w=w'/\Inv B E' H'/\E.le E'/\den E' s v/\K s H'/\(Zfc C.args=true->Grow E.w w')/\(ZjL C.args=true->∀b,b<E.w.heap.size->(∀v∈pick (Zmv C.args) vs,YS v≠some b)->w'.heap[b]?=E.w.heap[b]?):=by
  intro E0 H0 S2 p V W a1 a6 a7 a8 b6 b3 k;obtain ⟨n,X,a2⟩:=a1.behind V (w':=w') (S0:=E1.S) (by rw[p];exact d) (S2:=S2) a6 (by rw[p];exact a8) b4 (λg Q=>by
   obtain ⟨a,b,c⟩:=J g Q;exact ⟨λhs=>a (a7 g hs),b,by rw[p];exact c⟩)
  obtain⟨E2,H2,G,r,Y,z,a3,k⟩:=Zp1 C.args N I X (ZV (W.trans n) _ _ hd) b3 a2 k;obtain⟨E3,H3,O,b7,b8,Z,D,b1,k⟩:=ZkP C.rets rs us Y (gs:=[]) (by rw[r,G];exact b6) (by rw[Un];exact a3) k;obtain⟨s,hs,k⟩:=ZBZ b1 hv k;exact⟨v,E3,H3,s,he,b7.trans G,Z,((W.trans n).trans z).trans D,hs,k,L,y⟩
 split at k
 ·rename_i t
  simp only[Ur]at t;obtain⟨a0,a4⟩:=ZvB U x M hT;rw[ZtK]at k;exact F E (ZoW H H1) E.S rfl a0 (Env.le.refl E) a4 (λb h=>h) (λb h=>q b (x.le.S b h)) (λb j=>⟨UP (U.Slt b j) d.size,λ_=>.inl j⟩)
   (ZmL _ t.1 _ _ _ i) (Zfr _ t.2 _ _ _ m) k
 ·exact F E1 H1 S' x.w A x.le M q (λb h=>h) (λb j=>by
   obtain ⟨a,c⟩:=a5 b j;exact ⟨a,c⟩) i m k
mutual
def ranged (n:Nat):SV->Prop
 | .ptr I _=>I<n
 | .own I=>I<n
 | .mown I=>I<n
 | .oep I _ _ _=>I<n
 | .fptr cs=>Zew n cs
 | .agg cs=>Zew n cs
 | .tup cs=>Zew n cs
 | .fn _ cs=>Zew n cs
 |_=>True
def Zew (n:Nat):List SV->Prop
 |[]=>True
 |c::cs=>ranged n c/\Zew n cs
end
mutual
theorem Zxl {E:Env}:∀(s:SV) (v:Value),den E s v->ranged E.ids.length s
 | .bot,_,_=>by simp only[ranged]
 | .int _ _,_,_=>by simp only[ranged]
 | .bool _,_,_=>by simp only[ranged]
 | .blit _,_,_=>by simp only[ranged]
 | .str _,_,_=>by simp only[ranged]
 | .sl _ _,_,_=>by simp only[ranged]
 | .nsl,_,_=>by simp only[ranged]
 | .nilp,_,_=>by simp only[ranged]
 | .nptr _ _,_,_=>by simp only[ranged]
 | .mp _ _ _,_,_=>by simp only[ranged]
 | .mown I,_,h=>by simp only[den]at h;simp only[ranged];exact(Ub.1 h.1).1
 | .ptr I _,_,h=>by simp only[den]at h;obtain⟨b,e,_⟩:=h;simp only[ranged];exact(Ub.1 e).1
 | .own I,_,h=>by simp only[den]at h;simp only[ranged];exact(Ub.1 h.1).1
 | .oep I _ _ _,_,h=>by simp only[den]at h;obtain⟨b,B,n,c,e,_⟩:=h;simp only[ranged];exact(Ub.1 e).1
 | .fptr cs,_,h=>by simp only[den]at h;obtain⟨p,vs,_,_,_,_,h⟩:=h;simp only[ranged];exact Zbp cs vs h
 | .agg cs,_,h=>by simp only[den]at h;obtain⟨vs,_,h⟩:=h;simp only[ranged];exact Zbp cs vs h
 | .tup cs,_,h=>by simp only[den]at h;obtain⟨vs,_,h⟩:=h;simp only[ranged];exact Zbp cs vs h
 | .fn _ cs,_,h=>by simp only[den]at h;obtain⟨vs,_,h⟩:=h;simp only[ranged];exact Zbp cs vs h
theorem Zbp {E:Env}:∀(cs:List SV) (vs:List Value),Yo E cs vs->Zew E.ids.length cs
 |[],_,_=>by simp only[Zew]
 |c::cs,v::vs,h=>by simp only[Yo]at h;simp only[Zew];exact⟨Zxl c v h.1,Zbp cs vs h.2⟩
 |_::_,[],h=>by simp[Yo]at h
end
mutual
theorem ZyT {E:Env} {n:Nat}:∀(s:SV) (v:Value),ranged n s->den E s v->den ⟨E.S,E.w,E.ids.take n⟩ s v
 | .bot,_,_,h=>h
 | .int _ _,_,_,h=>h
 | .bool _,_,_,h=>h
 | .blit _,_,_,h=>h
 | .str _,_,_,h=>h
 | .sl _ _,_,_,h=>h
 | .nsl,_,_,h=>h
 | .nilp,_,_,h=>h
 | .nptr _ _,_,_,h=>h
 | .mp _ _ _,_,_,h=>h
 | .mown I,_,q,h=>by
  simp only[den]at h ⊢;simp only[ranged]at q;exact⟨by rw[UC,Uc q];exact h.1,h.2⟩
 | .ptr I _,_,q,h=>by
  simp only[den]at h ⊢;simp only[ranged]at q;obtain⟨b,e,i⟩:=h;exact⟨b,by rw[UC,Uc q];exact e,i⟩
 | .own I,_,q,h=>by
  simp only[den]at h ⊢;simp only[ranged]at q;exact⟨by rw[UC,Uc q];exact h.1,h.2⟩
 | .oep I _ _ _,_,q,h=>by
  simp only[den]at h ⊢;simp only[ranged]at q;obtain⟨b,B,m,c,e,i⟩:=h;exact⟨b,B,m,c,by rw[UC,Uc q];exact e,i⟩
 | .fptr cs,_,q,h=>by
  simp only[den]at h ⊢;simp only[ranged]at q;obtain⟨p,vs,a,b,c,d,h⟩:=h;exact⟨p,vs,a,b,c,d,ZcD cs vs q h⟩
 | .agg cs,_,q,h=>by simp only[den]at h ⊢;simp only[ranged]at q;obtain⟨vs,a,h⟩:=h;exact⟨vs,a,ZcD cs vs q h⟩
 | .tup cs,_,q,h=>by simp only[den]at h ⊢;simp only[ranged]at q;obtain⟨vs,a,h⟩:=h;exact⟨vs,a,ZcD cs vs q h⟩
 | .fn _ cs,_,q,h=>by simp only[den]at h ⊢;simp only[ranged]at q;obtain⟨vs,a,h⟩:=h;exact⟨vs,a,ZcD cs vs q h⟩
theorem ZcD {E:Env} {n:Nat}:∀(cs:List SV) (vs:List Value),Zew n cs->Yo E cs vs->Yo ⟨E.S,E.w,E.ids.take n⟩ cs vs
 |[],[],_,_=>trivial
 |c::cs,v::vs,q,h=>by simp only[Yo]at h ⊢;simp only[Zew]at q;exact⟨ZyT c v q.1 h.1,ZcD cs vs q.2 h.2⟩
 |_::_,[],_,h=>by simp[Yo]at h
 |[],_::_,_,h=>by simp[Yo]at h
end
def Zu1 (n:Nat):Entry->Prop
 | .box cells=>Zew n cells
 | .fbx cells=>Zew n cells
 | .hole _ _ _ _ cells _=>Zew n cells
 | .hsp _ _ _ _ cells _=>Zew n cells
 |_=>True
theorem Zu0 {E:Env} {i:Nat} {e:Entry} (h:Zwd E i e):Zu1 E.ids.length e:=by
 cases e with
 |box cells=>obtain⟨b,cs,T,_,_,h⟩:=h;exact Zbp _ _ h
 |fbx cells=>obtain⟨b,cs,T,_,_,_,h⟩:=h;exact Zbp _ _ h
 |hole g e d i cells f=>obtain⟨_,_,_,_,_,_,_,_,_,_,_,_,_,_,_,_,h,_⟩:=h;exact Zbp _ _ h
 |hsp g e d i cells f=>obtain⟨_,_,_,_,_,_,_,_,_,_,_,_,_,_,_,h,_⟩:=h;exact Zbp _ _ h
 |_=>trivial
theorem Inv.trunc {B:Base} {E:Env} {H:List Entry} (h:Inv B E H) (n:Nat) (hn:B.pin.length<=n) (C:∀e∈H.take n,Zu1 n e):Inv B ⟨E.S,E.w,E.ids.take n⟩ (H.take n):=by
 have z:∀(i:Nat) (e:Entry),(H.take n)[i]?=some e->i<n/\H[i]?=some e:=by
  intro i e l;rw[UC]at l;split at l
  ·exact⟨‹_›,l⟩
  ·cases l
 have a:∀(i:Nat) (v:Value),i<n->E.ids[i]?=some v->(E.ids.take n)[i]?=some v:=by
  intro i v l p;rw[UC,Uc l];exact p
 have o:∀(i:Nat) (v:Value),(E.ids.take n)[i]?=some v->E.ids[i]?=some v:=by
  intro i v p;rw[UC]at p;split at p
  ·exact p
  ·cases p
 exact
  {keeps:=h.keeps,Slt:=h.Slt,Sold:=h.Sold,len:=by simp[h.len]
   pin:=λi v p=>a i v (UP (Ub.1 p).1 hn) (h.pin i v p)
   ent:=λi e l=>by
    have m:=Ud l;obtain⟨c,P⟩:=z i e l;have q:=h.ent i e P;cases e with
    |gone=>trivial
    |box cells =>
     obtain⟨b,cs,T,A,f,r⟩:=q;exact⟨b,cs,T,a _ _ c A,f,ZcD _ _ (C _ m) r⟩
    |arr y t d=>obtain⟨v,xs,A,f,r⟩:=q;exact⟨v,xs,a _ _ c A,f,r⟩
    |frz t d=>obtain⟨v,A,f⟩:=q;exact⟨v,a _ _ c A,f⟩
    |mpe k v d=>obtain⟨b,es,L,A,f⟩:=q;exact⟨b,es,L,a _ _ c A,f⟩
    |frm k v d=>obtain⟨u,A,f⟩:=q;exact⟨u,a _ _ c A,f⟩
    |fbx cells =>
     obtain⟨b,cs,T,A,aS,f,r⟩:=q;exact⟨b,cs,T,a _ _ c A,aS,f,ZcD _ _ (C _ m) r⟩
    |darr y e d N=>obtain⟨v,xs,O,A,f⟩:=q;exact⟨v,xs,O,a _ _ c A,f⟩
    |hole y e d i cells N =>
     obtain⟨v,xs,X,W,Y,M,f2,A,f,r,D,F,G,I,J,K,s,x⟩:=q;exact⟨v,xs,X,W,Y,M,f2,a _ _ c A,f,r,D,F,G,I,J,K,ZcD _ _ (C _ m) s,x⟩
    |spl y e d n N=>obtain⟨v,A,f⟩:=q;exact⟨v,a _ _ c A,f⟩
    |hsp y e d i cells N =>
     obtain⟨v,xs,X,W,Y,M,A,f,r,D,F,G,I,J,K,s,x⟩:=q;exact⟨v,xs,X,W,Y,M,a _ _ c A,f,r,D,F,G,I,J,K,ZcD _ _ (C _ m) s,x⟩
   free:=λi e v g l hl p hb=>h.free i e v g (z i e l).2 hl (o _ _ p) hb
   sep:=λi j Z ej vi vj g l hj Q R U V=>h.sep i j Z ej vi vj g (z i Z l).2 (z j ej hj).2 Q R (o _ _ U) (o _ _ V)}
inductive Loc
 |reg (r:Nat) (s:Sh)
 |cell (id off:Nat) (t:Ty)
 |cello (id off:Nat) (e:Dp)
 |ent (id:Nat) (et:TypeId) (e:Dp)
 |entm (id:Nat) (k v:Ty)
 |splt (id:Nat) (et:TypeId) (e:Dp)
def Loc.ZFS (n:Nat):Loc->Prop
 | .ent I _ _=>I<n
 | .entm I _ _=>I<n
 | .splt I _ _=>I<n
 |_=>True
@[reducible] def Loc.den:Loc->Type
 | .reg _ s=>s.den
 | .cell _ _ t=>t.den
 | .cello _ _ e=>e.ty.den
 | .ent _ _ e=>List e.ty.den
 | .entm _ k v=>List (k.den×v.den)
 | .splt _ _ e=>List e.ty.den×Int
@[reducible] def ZuL:List Loc->Type
 |[]=>Unit
 |l::r=>l.den×ZuL r
def Zi4:(ls:List Loc)->List SV->List Entry->(ZuL ls->List Entry->Prop)->Prop
 |[],_,H,K=>K () H
 | .reg r (.dat t)::q,R,H,K=>ZoP R r λs=>Jw [s] H λcs H1=>Qp t cs λd rest=>match rest with
   |[]=>Zi4 q R H1 λD H2=>K (d,D) H2
   |_=>False
 | .reg r (.own e)::q,R,H,K=>ZoP R r λs=>if s.whole=true/\e.ty.agg=s.isAgg then closeAll e s.cells H λd H1=>Zi4 q R H1 λD H2=>K (d,D) H2 else False
 | .reg _ (.io _)::_,_,_,_=>False
 | .reg _ (.back _)::_,_,_,_=>False
 | .cell I o t::q,R,H,K=>Zh8 H I λe=>match e with
   | .box cells=>ZoP cells o λs=>Jw [s] H λcs H1=>Qp t cs λd rest=>match rest with
    |[]=>Zi4 q R H1 λD H2=>K (d,D) H2
    |_=>False
   |_=>False
 | .cello I o e::q,R,H,K=>Zh8 H I λM=>match M with
   | .box cells=>ZoP cells o λs=>closeAll e [s] H λd H1=>Zi4 q R H1 λD H2=>K (d,D) H2
   |_=>False
 | .ent I g e::q,R,H,K=>closeAll (.ol g e) [.own I] H λd H1=>Zi4 q R H1 λD H2=>K (d,D) H2
 | .entm I k v::q,R,H,K=>closeAll (.mp k v) [.mown I] H λd H1=>Zi4 q R H1 λD H2=>K (d,D) H2
 | .splt I g e::q,R,H,K=>ZyJ g e I H λd n H1=>Zi4 q R H1 λD H2=>K ((d,n),D) H2
def ZHh (t:Ty) (d:t.den) (K:SV->Prop):Prop:=Jj t d λcs=>match cs with
 |[c]=>K c
 |_=>False
def Ztr:(ls:List Loc)->ZuL ls->List SV->List Entry->(List SV->List Entry->Prop)->Prop
 |[],_,R,H,K=>K R H
 | .reg r (.dat t)::q,v,R,H,K=>splitK v λx v'=>ZHh t x λc=>ZxW R r c λa=>Ztr q v' a H K
 | .reg r (.own e)::q,v,R,H,K=>splitK v λx v'=>VQ e x H λcs H1=>ZtF e.ty cs λs=>ZxW R r s λa=>Ztr q v' a H1 K
 | .reg _ (.io _)::_,_,_,_,_=>False
 | .reg _ (.back _)::_,_,_,_,_=>False
 | .cell I o t::q,v,R,H,K=>splitK v λx v'=>ZHh t x λc=>Zh8 H I λe=>match e with
   | .box cells=>ZxW cells o c λcells'=>Zi6 H I (.box cells') λH'=>Ztr q v' R H' K
   |_=>False
 | .cello I o e::q,v,R,H,K=>splitK v λx v'=>VQ e x H λcs H1=>match cs with
   |[s]=>Zh8 H1 I λM=>match M with
    | .box cells=>ZxW cells o s λcells'=>Zi6 H1 I (.box cells') λH'=>Ztr q v' R H' K
    |_=>False
   |_=>False
 | .ent I g e::q,v,R,H,K=>splitK v λx v'=>ZEG g e I x H λH'=>Ztr q v' R H' K
 | .entm I k u::q,v,R,H,K=>splitK v λx v'=>Zi6 H I (.mpe k u x) λH'=>Ztr q v' R H' K
 | .splt I g e::q,v,R,H,K=>splitK v λx v'=>∀f:List Nat,Zi6 H I (.spl g e x.1 x.2 f) λH'=>Ztr q v' R H' K
def ZoT:List Loc->List Entry->(List Entry->Prop)->Prop
 |[],H,K=>K H
 | .cell I o _::q,H,K=>Zh8 H I λe=>match e with
   | .box cells=>ZxW cells o .bot λcells'=>Zi6 H I (.box cells') λH'=>ZoT q H' K
   |_=>False
 | .cello I o _::q,H,K=>Zh8 H I λe=>match e with
   | .box cells=>ZxW cells o .bot λcells'=>Zi6 H I (.box cells') λH'=>ZoT q H' K
   |_=>False
 | .reg _ _::q,H,K=>ZoT q H K
 | .ent _ _ _::q,H,K=>ZoT q H K
 | .entm _ _ _::q,H,K=>ZoT q H K
 | .splt _ _ _::q,H,K=>ZoT q H K
def ZxF:List Nat->List SV->(List SV->Prop)->Prop
 |[],s,K=>K s
 |r::q,s,K=>ZxW s r .bot λa=>ZxF q a K
def Zkl:List Loc->List Nat->(List Nat->Prop)->Prop
 |[],W,K=>K W
 | .reg r _::q,W,K=>Zkl q W λW'=>K (r::W')
 | .cell _ _ _::q,W,K=>Zkl q W K
 | .cello _ _ _::q,W,K=>Zkl q W K
 | .ent _ _ _::q,W,K=>Zkl q W K
 | .entm _ _ _::q,W,K=>Zkl q W K
 | .splt _ _ _::q,W,K=>Zkl q W K
theorem ZsH {E:Env}:∀(W:List Nat) (s:List SV) (vs:List Value),Yo E s vs->∀{K:List SV->Prop},ZxF W s K->∃a,Yo E a vs/\K a
 |[],s,vs,N,K,H=>⟨s,N,H⟩
 |r::W,s,vs,N,K,H=>by
  simp only[ZxF,Zf8]at H;have b:Yo E (s.set r .bot) vs:=by
   by_cases F:r<vs.length
   ·have:=Zgl _ _ N r .bot vs[r] (by simp only[den])
    simpa using this
   ·have q:=Xc _ _ N
    rw[List.set_eq_of_length_le (by omega)];exact N
  exact ZsH W _ vs b H
variable {I:Nat} {cells:List SV}
theorem Inv.weaken {B:Base} {E:Env} {H:List Entry} (h:Inv B E H) {cells':List SV} (K:H[I]?=some (.box cells)) (R:∀b cs T,E.ids[I]?=some (.pointer (some ⟨b,0,none⟩))->E.w.heap[b]?=some (.cells cs T (0,0))->Yo E cells cs.toList->Yo E cells' cs.toList) :
  Inv B E (H.set I (.box cells')):=by
 have A:I<H.length:=(Ub.1 K).1;have o:∀(j:Nat) (e:Entry),(H.set I (.box cells'))[j]?=some e->∃a,H[j]?=some a/\(e.live=true->a.live=true)/\(j≠I->e=a)/\(j=I->e=.box cells'/\a=.box cells)/\(∀v g,ZiH e v g->ZiH a v g):=by
  intro j e c;by_cases F:I=j
  ·subst F
   rw[UD A]at c;simp at c;subst c;exact⟨_,K,λ_=>rfl,λl=>absurd rfl l,λ_=>⟨rfl,rfl⟩,λv g h=>h⟩
  ·rw[UL F]at c
   exact⟨e,c,λh=>h,λ_=>rfl,λe=>absurd e.symm F,λv g h=>h⟩
 exact
  {keeps:=h.keeps,Slt:=h.Slt,Sold:=h.Sold,len:=by simp[h.len],pin:=h.pin
   ent:=λj e c=>by
    obtain⟨a,d,_,l,y,_⟩:=o j e c;by_cases F:j=I
    ·obtain⟨rfl,rfl⟩:=y F
     obtain⟨b,cs,T,G,J,M⟩:=h.ent j _ d;subst F;exact⟨b,cs,T,G,J,R b cs T G J M⟩
    ·rw[l F];exact h.ent j a d
   free:=λj e v g c S U Q=>by
    obtain⟨a,d,k,_,_,f⟩:=o j e c;exact h.free j a v g d (k S) U (f v g Q)
   sep:=λi j O P V L g t r x z C D n p=>by
    obtain ⟨a,q,k,_,_,f⟩:=o i O t;obtain ⟨N,s,u,_,_,m⟩:=o j P r;exact h.sep i j a N V L g q s (k x) (u z) C D (f V g n) (m L g p)}
variable {vs:List Value}
theorem Zoi {E:Env} (N:Yo E cells vs) (o:Nat):Yo E (cells.set o .bot) vs:=by
 by_cases F:o<vs.length
 ·have:=Zgl _ _ N o .bot vs[o] (by simp only[den])
  simpa using this
 ·have q:=Xc _ _ N
  rw[List.set_eq_of_length_le (by omega)];exact N
def Zas (B:Base) (E:Env) (H:List Entry) (vs:List Value):(ls:List Loc)->ZuL ls->List Nat->Prop
 |[],_,gs=>gs=[]
 | .reg r (.dat t)::q,v,gs=>(∃u,vs[r]?=some u/\rep E.S E.w t v.1 [u])/\Zas B E H vs q v.2 gs
 | .reg r (.own e)::q,v,gs=>∃u f g,vs[r]?=some u/\ZAD e.ty u/\ZiB E.S E.w e v.1 u.cells.toList f/\gs=f++g/\Zas B E H vs q v.2 g
 | .reg _ (.io _)::_,_,_=>False
 | .reg _ (.back _)::_,_,_=>False
 | .cell I o t::q,v,gs=>(∃b cs T cells u,H[I]?=some (.box cells)/\E.ids[I]?=some (.pointer (some ⟨b,0,none⟩))/\E.w.heap[b]?=some (.cells cs T (0,0))/\cs.toList[o]?=some u/\rep E.S E.w t v.1 [u])/\
   Zas B E H vs q v.2 gs
 | .cello I o e::q,v,gs=>∃b cs T cells u f g,H[I]?=some (.box cells)/\E.ids[I]?=some (.pointer (some ⟨b,0,none⟩))/\E.w.heap[b]?=some (.cells cs T (0,0))/\cs.toList[o]?=some u/\
   ZiB E.S E.w e v.1 [u] f/\gs=f++g/\Zas B E H vs q v.2 g
 | .ent I a e::q,v,gs=>∃u f g,I<H.length/\E.ids[I]?=some u/\(∀c,H[I]?≠some (.box c))/\ZiB E.S E.w (.ol a e) v.1 [u] f/\gs=f++g/\Zas B E H vs q v.2 g
 | .entm I k t::q,v,gs=>∃u f g,I<H.length/\E.ids[I]?=some u/\(∀c,H[I]?≠some (.box c))/\ZiB E.S E.w (.mp k t) v.1 [u] f/\gs=f++g/\Zas B E H vs q v.2 g
 | .splt I a e::q,v,gs=>∃u f g,I<H.length/\E.ids[I]?=some u/\(∀c,H[I]?≠some (.box c))/\ZGc E.S E.w a e v.1.1 v.1.2 u f/\gs=f++g/\Zas B E H vs q v.2 g
def Boxed (H H':List Entry):Prop:=H'.length=H.length/\(∀(i:Nat) (c:List SV),H[i]?=some (.box c)->∃L,H'[i]?=some (.box L))/\∀(i:Nat) (c:List SV),H'[i]?=some (.box c)->∃L,H[i]?=some (.box L)
theorem Boxed.refl (H:List Entry):Boxed H H:=⟨rfl,λ_ c h=>⟨c,h⟩,λ_ c h=>⟨c,h⟩⟩
theorem Boxed.trans {A C D:List Entry} (h:Boxed A C) (k:Boxed C D):Boxed A D :=
 ⟨k.1.trans h.1,λi c l=>by obtain⟨L,H⟩:=h.2.1 i c l;exact k.2.1 i L H,λi c l=>by obtain⟨L,H⟩:=k.2.2 i c l;exact h.2.2 i L H⟩
theorem Boxed.frz {E E':Env} {H H':List Entry} (h:Frz E H E' H') (b:∀(i:Nat) (c:List SV),H[i]?=some (.box c)->H'[i]?=some (.box c)):Boxed H H' :=
 ⟨h.len,λi c l=>⟨c,b i c l⟩,λi c l=>⟨c,h.box i c l⟩⟩
theorem Boxed.ZmK {H:List Entry} {c0 c1:List SV} (h:H[I]?=some (.box c0)):Boxed H (H.set I (.box c1)):=by
 have t:=(Ub.1 h).1;refine⟨by simp,λi c l=>?_,λi c l=>?_⟩
 ·by_cases a:I=i
  ·subst a;exact⟨_,UD t⟩
  ·exact⟨c,by rw[UL a];exact l⟩
 ·by_cases a:I=i
  ·subst a;exact⟨_,h⟩
  ·rw[UL a]at l;exact⟨c,l⟩
theorem Boxed.ZEN {H:List Entry} {E:Entry} (h:∀c,H[I]?≠some (.box c)) (d:∀c,E≠.box c):Boxed H (H.set I E):=by
 refine⟨by simp,λi c l=>?_,λi c l=>?_⟩
 ·by_cases a:I=i
  ·subst a;exact absurd l (h c)
  ·exact⟨c,by rw[UL a];exact l⟩
 ·by_cases a:I=i
  ·subst a
   have t:I<H.length:=by have:=(Ub.1 l).1;simpa using this
   rw[UD t]at l;simp at l;exact absurd l (d c)
  ·rw[UL a]at l;exact⟨c,l⟩
theorem Za5 {B:Base} {E E':Env} {H H':List Entry} (n:E'.w=E.w) (r:∀b,E.S b->E'.S b) (s:∀(i:Nat) (v:Value),i<H'.length->E.ids[i]?=some v->E'.ids[i]?=some v) {vs:List Value}
  (x:∀(i:Nat) (c:List SV),H[i]?=some (.box c)->i<H'.length->∃L,H'[i]?=some (.box L)) (m:∀(i:Nat) (c:List SV),H'[i]?=some (.box c)->∃L,H[i]?=some (.box L)) :
  ∀(ls:List Loc) (v:ZuL ls) (gs:List Nat),(∀I O t,Loc.cell I O t∈ls->I<H'.length)->(∀I O e,Loc.cello I O e∈ls->I<H'.length)->(∀l∈ls,l.ZFS H'.length)->Zas B E H vs ls v gs->Zas B E' H' vs ls v gs
 |[],_,_,_,_,_,h=>h
 | .reg _ (.dat t)::q,v,gs,p1,y,P,⟨⟨u,a,b⟩,h⟩=>⟨⟨u,a,YH r (λ_ _=>by rw[n]) t _ _ b⟩,Za5 n r s x m q v.2 gs (λi o t h=>p1 i o t (by simp[h])) (λi o t h=>y i o t (by simp[h])) (λl h=>P l (by simp[h])) h⟩
 | .reg _ (.own e)::q,v,gs,p1,y,P,⟨u,f,G,a,b,c,d,h⟩=>⟨u,f,G,a,b,YT r (λ_ _=>by rw[n]) e _ _ _ (λg _=>by rw[n]) c,d,Za5 n r s x m q v.2 G (λi o t h=>p1 i o t (by simp[h])) (λi o t h=>y i o t (by simp[h])) (λl h=>P l (by simp[h])) h⟩
 | .cell I O t::q,v,gs,p1,y,P,⟨⟨b,cs,T,cells,u,D,A,z,C,F⟩,h⟩=>by
  have j:=p1 I O t (by simp);obtain⟨L,p⟩:=x I _ D j;exact⟨⟨b,cs,T,L,u,p,s _ _ j A,by rw[n];exact z,C,YH r (λ_ _=>by rw[n]) t _ _ F⟩,Za5 n r s x m q v.2 gs (λi o t h=>p1 i o t (by simp[h])) (λi o t h=>y i o t (by simp[h])) (λl h=>P l (by simp[h])) h⟩
 | .cello I O e::q,v,gs,p1,y,P,⟨b,cs,T,cells,u,f,G,D,A,z,C,F,M,h⟩=>by
  have j:=y I O e (by simp);obtain⟨L,p⟩:=x I _ D j;exact⟨b,cs,T,L,u,f,G,p,s _ _ j A,by rw[n];exact z,C,YT r (λ_ _=>by rw[n]) e _ _ _ (λg _=>by rw[n]) F,M,Za5 n r s x m q v.2 G (λi o t h=>p1 i o t (by simp[h])) (λi o t h=>y i o t (by simp[h])) (λl h=>P l (by simp[h])) h⟩
 | .ent I K e::q,v,gs,p1,y,P,⟨u,f,G,D,A,z,C,F,h⟩=>by
  have j:I<H'.length:=P _ UH;exact⟨u,f,G,j,s _ _ j A,λc J=>by obtain⟨L,p⟩:=m I c J;exact z L p,YT r (λ_ _=>by rw[n]) (.ol K e) _ _ _ (λg _=>by rw[n]) C,F,Za5 n r s x m q v.2 G (λi o t h=>p1 i o t (by simp[h])) (λi o t h=>y i o t (by simp[h])) (λl h=>P l (by simp[h])) h⟩
 | .entm I k t::q,v,gs,p1,y,P,⟨u,f,G,D,A,z,C,F,h⟩=>by
  have j:I<H'.length:=P _ UH;exact⟨u,f,G,j,s _ _ j A,λc J=>by obtain⟨L,p⟩:=m I c J;exact z L p,YT r (λ_ _=>by rw[n]) (.mp k t) _ _ _ (λg _=>by rw[n]) C,F,Za5 n r s x m q v.2 G (λi o t h=>p1 i o t (by simp[h])) (λi o t h=>y i o t (by simp[h])) (λl h=>P l (by simp[h])) h⟩
 | .splt I K e::q,v,gs,p1,y,P,⟨u,f,G,D,A,z,C,F,h⟩=>by
  have j:I<H'.length:=P _ UH;exact⟨u,f,G,j,s _ _ j A,λc J=>by obtain⟨L,p⟩:=m I c J;exact z L p,Zqq r (λ_ _=>by rw[n]) (λg _=>by rw[n]) C,F,Za5 n r s x m q v.2 G (λi o t h=>p1 i o t (by simp[h])) (λi o t h=>y i o t (by simp[h])) (λl h=>P l (by simp[h])) h⟩
def ZF1 (n:Nat) (ls:List Loc):Prop:=(∀I o t,Loc.cell I o t∈ls->I<n)/\(∀I o e,Loc.cello I o e∈ls->I<n)/\∀l∈ls,l.ZFS n
theorem Zea {B:Base} {E:Env} {H:List Entry} {vs:List Value}:∀(ls:List Loc) (v:ZuL ls) (gs:List Nat),Zas B E H vs ls v gs->ZF1 H.length ls
 |[],_,_,_=>⟨λ_ _ _ h=>by simp at h,λ_ _ _ h=>by simp at h,λ_ h=>by simp at h⟩
 | .reg _ (.dat t)::q,v,gs,⟨_,h⟩=>by
  obtain⟨a,b,c⟩:=Zea q v.2 gs h;exact⟨λi o t h=>a i o t (by simpa using h),λi o t h=>b i o t (by simpa using h),λl h=>(UB.1 h).elim (λe=>by subst e;trivial) (c l)⟩
 | .reg _ (.own e)::q,v,gs,⟨_,_,g,_,_,_,_,h⟩=>by
  obtain⟨a,b,c⟩:=Zea q v.2 g h;exact⟨λi o t h=>a i o t (by simpa using h),λi o t h=>b i o t (by simpa using h),λl h=>(UB.1 h).elim (λe=>by subst e;trivial) (c l)⟩
 | .reg _ (.io _)::_,_,_,h=>by simp only[Zas]at h
 | .reg _ (.back _)::_,_,_,h=>by simp only[Zas]at h
 | .cell I O t::q,v,gs,⟨⟨_,_,_,_,_,A,_⟩,h⟩=>by
  obtain⟨a,b,c⟩:=Zea q v.2 gs h;refine⟨λi o t' d=>?_,λi o t h=>b i o t (by simpa using h),λl h=>(UB.1 h).elim (λe=>by subst e;trivial) (c l)⟩;rcases UB.1 d with e|d
  ·injection e with f m n;subst f;exact(Ub.1 A).1
  ·exact a i o t' d
 | .cello I O e::q,v,gs,⟨_,_,_,_,_,_,g,A,_,_,_,_,_,h⟩=>by
  obtain⟨a,b,c⟩:=Zea q v.2 g h;refine⟨λi o t h=>a i o t (by simpa using h),λi o j d=>?_,λl h=>(UB.1 h).elim (λe=>by subst e;trivial) (c l)⟩;rcases UB.1 d with e|d
  ·injection e with f m n;subst f;exact(Ub.1 A).1
  ·exact b i o j d
 | .ent I p e::q,v,gs,⟨_,_,g,A,_,_,_,_,h⟩=>by
  obtain⟨a,b,c⟩:=Zea q v.2 g h;exact⟨λi o t h=>a i o t (by simpa using h),λi o t h=>b i o t (by simpa using h),λl h=>(UB.1 h).elim (λe=>by subst e;exact A) (c l)⟩
 | .entm I k u::q,v,gs,⟨_,_,g,A,_,_,_,_,h⟩=>by
  obtain⟨a,b,c⟩:=Zea q v.2 g h;exact⟨λi o t h=>a i o t (by simpa using h),λi o t h=>b i o t (by simpa using h),λl h=>(UB.1 h).elim (λe=>by subst e;exact A) (c l)⟩
 | .splt I p e::q,v,gs,⟨_,_,g,A,_,_,_,_,h⟩=>by
  obtain⟨a,b,c⟩:=Zea q v.2 g h;exact⟨λi o t h=>a i o t (by simpa using h),λi o t h=>b i o t (by simpa using h),λl h=>(UB.1 h).elim (λe=>by subst e;exact A) (c l)⟩
theorem Zcg {B:Base} {E E':Env} {H H':List Entry} (f:E'.w=E.w) (d:∀b,E.S b->E'.S b) (s:∀(i:Nat) (v:Value),E.ids[i]?=some v->E'.ids[i]?=some v) (a:Boxed H H')
  (ls:List Loc) (v:ZuL ls) (gs:List Nat) (h:Zas B E H vs ls v gs):Zas B E' H' vs ls v gs:=by
 obtain⟨p1,p,P⟩:=Zea ls v gs h;rw[<-a.1]at p1 p P;exact Za5 f d (λi v _ e=>s i v e) (λi c l _=>a.2.1 i c l) a.2.2 ls v gs p1 p P h
theorem Zop {B:Base} {E:Env} {H:List Entry} (E':Env) (l:List Entry) (o:E'.w=E.w) (p:E'.S=E.S) (s:∀(i:Nat) (v:Value),E.ids[i]?=some v->E'.ids[i]?=some v)
  (ls:List Loc) (v:ZuL ls) (gs:List Nat) (h:Zas B E H vs ls v gs):Zas B E' (H++l) vs ls v gs:=by
 obtain⟨p1,P,J⟩:=Zea ls v gs h;have r:H.length<=(H++l).length:=by simp
 have D:∀(ls:List Loc) (v:ZuL ls) (gs:List Nat),Zas B E H vs ls v gs->Zas B E' (H++l) vs ls v gs:=by
  intro ls;induction ls with
  |nil=>intro v gs h;exact h
  |cons x q I =>
   intro v gs h
   match x,v,h with
   | .reg _ (.dat t),v,⟨⟨u,a,b⟩,h⟩=>exact⟨⟨u,a,by rw[p,o];exact b⟩,I v.2 gs h⟩
   | .reg _ (.own e),v,⟨u,f,g,a,b,c,d,h⟩=>exact⟨u,f,g,a,b,by rw[p,o];exact c,d,I v.2 g h⟩
   | .reg _ (.io _),v,h=>simp only[Zas]at h
   | .reg _ (.back _),v,h=>simp only[Zas]at h
   | .cell z O t,v,⟨⟨b,cs,T,cells,u,A,j,m,n,F⟩,h⟩ =>
    exact⟨⟨b,cs,T,cells,u,by rw[Uu (Ub.1 A).1];exact A,s _ _ j,by rw[o];exact m,n,by rw[p,o];exact F⟩,I v.2 gs h⟩
   | .cello z O e,v,⟨b,cs,T,cells,u,f,g,A,j,m,n,F,G,h⟩ =>
    exact⟨b,cs,T,cells,u,f,g,by rw[Uu (Ub.1 A).1];exact A,s _ _ j,by rw[o];exact m,n,by rw[p,o];exact F,G,I v.2 g h⟩
   | .ent z C e,v,⟨u,f,g,A,j,m,n,F,h⟩ =>
    exact⟨u,f,g,UP A r,s _ _ j,λc y=>m c (by rwa [Uu A]at y),by rw[p,o];exact n,F,I v.2 g h⟩
   | .entm z k t,v,⟨u,f,g,A,j,m,n,F,h⟩ =>
    exact⟨u,f,g,UP A r,s _ _ j,λc y=>m c (by rwa [Uu A]at y),by rw[p,o];exact n,F,I v.2 g h⟩
   | .splt z C e,v,⟨u,f,g,A,j,m,n,F,h⟩ =>
    exact⟨u,f,g,UP A r,s _ _ j,λc y=>m c (by rwa [Uu A]at y),by rw[p,o];exact n,F,I v.2 g h⟩
 exact D ls v gs h
def Taken (B:Base) (ls:List Loc) (E:Env) (H:List Entry) (vs:List Value) (gs:List Nat) (K:ZuL ls->List Entry->Prop):Prop :=
 ∃E1 H1 v g,E1.w=E.w/\E1.ids=E.ids/\Inv B E1 H1/\E.le E1/\K v H1/\Zas B E1 H1 vs ls v g/\Loose B E1 H1 (g++gs)/\Boxed H H1
theorem Zhn {B:Base}:∀(ls:List Loc) {E:Env} {H:List Entry} (_:Inv B E H) {R:List SV} {vs:List Value} (_:Yo E R vs) (gs:List Nat) (_:Loose B E H gs) {K:ZuL ls->List Entry->Prop} (_:Zi4 ls R H K),Taken B ls E H vs gs K
 |[],E,H,z,R,vs,J,gs,O,K,a=>⟨E,H,(),[],rfl,rfl,z,Env.le.refl E,a,rfl,O,Boxed.refl H⟩
 | .reg r (.dat t)::q,E,H,z,R,vs,J,gs,O,K,a=>by
  simp only[Zi4]at a;obtain⟨s,u,D,W,a,_⟩:=Zc5 _ _ J a;obtain⟨E1,H1,cs,j,A,a4,a,p⟩:=Q0 [s] z (show Yo E [s] [u]from⟨W,trivial⟩) a;obtain⟨d,rest,v1,v2,X,V,Q,a⟩:=X0 t cs _ _ a4 a;split at a
  ·have a5:v2=[]:=by cases v2 with
    |nil=>rfl
    |cons=>simp[Yo]at Q
   subst a5;rw[Un]at X;obtain⟨E2,H2,v,G,l,i,y,h,a,U,N,m⟩:=Zhn q A (ZV j.le _ _ J) gs (O.frz j) a;refine⟨E2,H2,(d,v),G,l.trans j.w,i.trans j.ids,y,j.le.trans h,a,⟨⟨u,D,?_⟩,U⟩,N,(Boxed.frz j p).trans m⟩;rw[X];exact YH h.S h.w t d v1 V
  ·exact a.elim
 | .reg r (.own e)::q,E,H,z,R,vs,J,gs,O,K,a=>by
  simp only[Zi4]at a;obtain⟨s,u,D,W,a,_⟩:=Zc5 _ _ J a;split at a
  ·rename_i Y
   obtain⟨hw,a6⟩:=Y;obtain⟨E1,H1,d,f,j,A,V,a,M,hT,p⟩:=VT z (ZaU W hw) O a;obtain⟨E2,H2,v,G,l,i,y,h,a,U,N,m⟩:=Zhn q A (ZV j.le _ _ J) (f++gs) M a;refine⟨E2,H2,(d,v),f++G,l.trans j.w,i.trans j.ids,y,j.le.trans h,a,⟨u,f,G,D,Zsm W hw a6,?_,rfl,U⟩,N.perm ?_,(Boxed.frz j p).trans m⟩
   ·exact YT h.S h.w e _ _ _ (λg _=>by rw[l]) V
   ·rw[<-Uk];exact UY.append_right gs
  ·exact a.elim
 | .reg _ (.io _)::_,_,_,_,_,_,_,_,_,_,a=>by simp only[Zi4]at a
 | .reg _ (.back _)::_,_,_,_,_,_,_,_,_,_,a=>by simp only[Zi4]at a
 | .cell I a7 t::q,E,H,z,R,vs,J,gs,O,K,a=>by
  simp only[Zi4]at a;obtain⟨e,L,a⟩:=Xn H a;split at a
  ·rename_i cells
   obtain⟨b,a3,T,e1,e2,e3⟩:=z.ent I _ L;obtain⟨s,u,D,W,a,_⟩:=Zc5 _ _ e3 a;obtain⟨E1,H1,cs,j,A,a4,a,p⟩:=Q0 [s] z (show Yo E [s] [u]from⟨W,trivial⟩) a;obtain⟨d,rest,v1,v2,X,V,Q,a⟩:=X0 t cs _ _ a4 a;split at a
   ·have a5:v2=[]:=by cases v2 with
     |nil=>rfl
     |cons=>simp[Yo]at Q
    subst a5;rw[Un]at X;obtain⟨E2,H2,v,G,l,i,y,h,a,U,N,m⟩:=Zhn q A (ZV j.le _ _ J) gs (O.frz j) a;obtain⟨c',F⟩:=m.2.1 I _ (p _ _ L);refine⟨E2,H2,(d,v),G,l.trans j.w,i.trans j.ids,y,j.le.trans h,a,⟨⟨b,a3,T,c',u,F,by rw[i,j.ids];exact e1,by rw[l,j.w];exact e2,D,?_⟩,U⟩,N,(Boxed.frz j p).trans m⟩;rw[X];exact YH h.S h.w t d v1 V
   ·exact a.elim
  ·exact a.elim
 | .cello I a7 e::q,E,H,z,R,vs,J,gs,O,K,a=>by
  simp only[Zi4]at a;obtain⟨en,L,a⟩:=Xn H a;split at a
  ·rename_i cells
   obtain⟨b,a3,T,e1,e2,e3⟩:=z.ent I _ L;obtain⟨s,u,D,W,a,_⟩:=Zc5 _ _ e3 a;obtain⟨E1,H1,d,f,j,A,V,a,M,hT,p⟩:=VT z (show Yo E [s] [u]from⟨W,trivial⟩) O a;obtain⟨E2,H2,v,G,l,i,y,h,a,U,N,m⟩:=Zhn q A (ZV j.le _ _ J) (f++gs) M a;obtain⟨c',F⟩:=m.2.1 I _ (p _ _ L);refine⟨E2,H2,(d,v),f++G,l.trans j.w,i.trans j.ids,y,j.le.trans h,a,⟨b,a3,T,c',u,f,G,F,by rw[i,j.ids];exact e1,by rw[l,j.w];exact e2,D,?_,rfl,U⟩,N.perm ?_,(Boxed.frz j p).trans m⟩
   ·exact YT h.S h.w e _ _ _ (λg _=>by rw[l]) V
   ·rw[<-Uk];exact UY.append_right gs
  ·exact a.elim
 | .ent I et e::q,E,H,z,R,vs,J,gs,O,K,a=>by
  simp only[Zi4]at a;have x:=a;unfold closeAll at x;simp only[Zad]at x;obtain⟨en,L,x⟩:=Xn H x;have P:=(Ub.1 L).1;obtain⟨u,D⟩:∃u,E.ids[I]?=some u:=⟨_,Ua (show I<E.ids.length by rw[z.len];exact P)⟩;have Z:∀c,H[I]?≠some (.box c):=by
   intro c Y;have:=L.symm.trans Y;simp at this;subst this;exact x.elim
  have W:den E (.own I) u:=by
   simp only[den];refine⟨D,?_⟩;split at x
   ·obtain⟨v',xs,a1,a2,_⟩:=z.ent I _ L
    have:=D.symm.trans a1;simp at this;subst this;rcases a2.2 with⟨rfl,_⟩|⟨g,a0,cur,o,rfl,_⟩<;>exact⟨_,_,_,rfl⟩
   ·obtain⟨v',xs,a9,a1,a2,_⟩:=z.ent I _ L
    have:=D.symm.trans a1;simp at this;subst this;rcases a2.2 with⟨rfl,_⟩|⟨g,a0,cur,o,rfl,_⟩<;>exact⟨_,_,_,rfl⟩
   ·obtain⟨v',xs,x1,vx,x2,f1,f2,a1,a2,_⟩:=z.ent I _ L
    have:=D.symm.trans a1;simp at this;subst this;rcases a2.2 with⟨rfl,_⟩|⟨g,a0,cur,o,rfl,_⟩<;>exact⟨_,_,_,rfl⟩
   ·obtain⟨v',a1,⟨xs,x1,x2,f1,a2,_⟩,_⟩:=z.ent I _ L
    have:=D.symm.trans a1;simp at this;subst this;rcases a2.2 with⟨rfl,_⟩|⟨g,a0,cur,o,rfl,_⟩<;>exact⟨_,_,_,rfl⟩
   ·exact x.elim
  obtain⟨E1,H1,d,f,j,A,V,a,M,hT,p⟩:=VT z (show Yo E [.own I] [u]from⟨W,trivial⟩) O a;obtain⟨E2,H2,v,G,l,i,y,h,a,U,N,m⟩:=Zhn q A (ZV j.le _ _ J) (f++gs) M a;have C:=(Boxed.frz j p).trans m;refine⟨E2,H2,(d,v),f++G,l.trans j.w,i.trans j.ids,y,j.le.trans h,a,⟨u,f,G,by rw[C.1];exact P,by rw[i,j.ids];exact D,λc Y=>?_,?_,rfl,U⟩,N.perm ?_,C⟩
  ·obtain⟨c',F⟩:=C.2.2 I c Y;exact Z c' F
  ·exact YT h.S h.w (.ol et e) _ _ _ (λg _=>by rw[l]) V
  ·rw[<-Uk];exact UY.append_right gs
 | .entm I k t::q,E,H,z,R,vs,J,gs,O,K,a=>by
  simp only[Zi4]at a;have x:=a;unfold closeAll at x;simp only[Zad]at x;obtain⟨en,L,x⟩:=Xn H x;have P:=(Ub.1 L).1;obtain⟨u,D⟩:∃u,E.ids[I]?=some u:=⟨_,Ua (show I<E.ids.length by rw[z.len];exact P)⟩;have Z:∀c,H[I]?≠some (.box c):=by
   intro c Y;have:=L.symm.trans Y;simp at this;subst this;exact x.elim
  have W:den E (.mown I) u:=by
   simp only[den];refine⟨D,?_⟩;split at x
   ·obtain⟨b,es,a8,a1,_⟩:=z.ent I _ L
    have:=D.symm.trans a1;simp at this;subst this;exact⟨_,rfl⟩
   ·exact x.elim
  obtain⟨E1,H1,d,f,j,A,V,a,M,hT,p⟩:=VT z (show Yo E [.mown I] [u]from⟨W,trivial⟩) O a;obtain⟨E2,H2,v,G,l,i,y,h,a,U,N,m⟩:=Zhn q A (ZV j.le _ _ J) (f++gs) M a;have C:=(Boxed.frz j p).trans m;refine⟨E2,H2,(d,v),f++G,l.trans j.w,i.trans j.ids,y,j.le.trans h,a,⟨u,f,G,by rw[C.1];exact P,by rw[i,j.ids];exact D,λc Y=>?_,?_,rfl,U⟩,N.perm ?_,C⟩
  ·obtain⟨c',F⟩:=C.2.2 I c Y;exact Z c' F
  ·exact YT h.S h.w (.mp k t) _ _ _ (λg _=>by rw[l]) V
  ·rw[<-Uk];exact UY.append_right gs
 | .splt I et e::q,E,H,z,R,vs,J,gs,O,K,a=>by
  simp only[Zi4]at a;obtain⟨E1,H1,d,n,u,f,j,A,D,Z,V,a,M,p⟩:=ZyK z O a;obtain⟨E2,H2,v,G,l,i,y,h,a,U,N,m⟩:=Zhn q A (ZV j.le _ _ J) (f++gs) M a;have C:=(Boxed.frz j p).trans m;have P:I<H2.length:=by
   have:=(Ub.1 D).1;rw[m.1,<-A.len];exact this
  refine⟨E2,H2,((d,n),v),f++G,l.trans j.w,i.trans j.ids,y,j.le.trans h,a,⟨u,f,G,P,by rw[i];exact D,λc Y=>?_,?_,rfl,U⟩,N.perm ?_,C⟩
  ·obtain⟨c',F⟩:=C.2.2 I c Y;exact Z c' F
  ·exact Zqq h.S h.w (λg _=>by rw[l]) V
  ·rw[<-Uk];exact UY.append_right gs
theorem Zci {r:Nat} {u:Value} (a:vs[r]?=some u):vs.set r u=vs:=by
 apply Ux;intro j;by_cases b:r=j
 ·subst b
  have:=(Ub.1 a).1;rw[UD this,a]
 ·rw[UL b]
theorem Loose.ZmK {B:Base} {E:Env} {H:List Entry} {gs:List Nat} (o:Loose B E H gs) {c0 c1:List SV} (m:H[I]?=some (.box c0)):Loose B E (H.set I (.box c1)) gs:=by
 have t:=(Ub.1 m).1;refine⟨o.nodup,o.free,λg a j e V b f v h=>?_⟩;by_cases F:I=j
 ·subst F;rw[UD t]at b;simp at b;subst b;exact o.apart g a I _ V m rfl v h
 ·rw[UL F]at b;exact o.apart g a j e V b f v h
theorem Zjq {B:Base}:∀(ls:List Loc) (v:ZuL ls) {E:Env} {H:List Entry} (_:Inv B E H) {R:List SV} {vs:List Value} (_:Yo E R vs) (x:List Nat) (_:Zas B E H vs ls v x) (_:Loose B E H x)
  {K:List SV->List Entry->Prop} (_:Ztr ls v R H K),∃E' H' d,E'.w=E.w/\Inv B E' H'/\Yo E' d vs/\K d H'
 |[],v,E,H,m,R,vs,N,x,p,o,K,a=>⟨E,H,R,rfl,m,N,a⟩
 | .reg r (.dat t)::q,v,E,H,m,R,vs,N,x,⟨⟨u,hu,C⟩,p⟩,o,K,a=>by
  simp only[Ztr,JU,ZHh,QE]at a;have n:=XV t v.1 [u] C;split at a
  ·rename_i c hc
   rw[hc]at n;simp only[Yo]at n;rw[Zf8]at a;have z:=Zgl _ _ N r c u n.1;rw[Zci hu]at z;exact Zjq q v.2 m z x p o a
  ·exact a.elim
 | .reg r (.own e)::q,v,E,H,m,R,vs,N,x,⟨u,f,j,hu,W,C,i,p⟩,o,K,a=>by
  simp only[Ztr,JU]at a;subst i;obtain⟨E1,H1,cs,F,S,A,G,L,a,M,l,X⟩:=J8 e v.1 m C o a;obtain⟨s,hs,a⟩:=ZpP W L a;rw[Zf8]at a;have z:=Zgl _ _ (ZV G _ _ N) r s u hs;rw[Zci hu]at z;subst X;obtain⟨E2,H2,d,Y,Q,U,a⟩:=Zjq q v.2 A z j (Zop E1 l F S G.ids q v.2 j p) M a;exact⟨E2,H2,d,Y.trans F,Q,U,a⟩
 | .reg _ (.io _)::_,_,_,_,_,_,_,_,_,_,_,_,a=>by simp only[Ztr]at a
 | .reg _ (.back _)::_,_,_,_,_,_,_,_,_,_,_,_,a=>by simp only[Ztr]at a
 | .cell id O t::q,v,E,H,m,R,vs,N,x,⟨⟨b,cs,T,J,u,P,y,I,a4,a5⟩,p⟩,o,K,a=>by
  simp only[Ztr,JU,ZHh,QE]at a;have n:=XV t v.1 [u] a5;split at a
  ·rename_i c hc
   rw[hc]at n;simp only[Yo]at n;obtain⟨e,V,a⟩:=Xn H a;split at a
   ·rename_i cells
    rw[Zf8,XM] at a;have A:=m.weaken (cells':=cells.set O c) V (λb' a7 T' h1 Z h3=>by
     have:=y.symm.trans h1;simp at this;subst this;have:=I.symm.trans Z;simp at this;obtain⟨rfl,_⟩:=this;have D:=Zgl _ _ h3 O c u n.1
     rwa [Zci a4] at D)
    exact Zjq q v.2 A N x (Zcg rfl (λ_ h=>h) (λ_ _ h=>h) (Boxed.ZmK V) q v.2 x p) (o.ZmK V) a
   ·exact a.elim
  ·exact a.elim
 | .cello id O e::q,v,E,H,m,R,vs,N,x,⟨b,cs,T,J,u,f,j,P,y,I,a4,C,i,p⟩,o,K,a=>by
  simp only[Ztr,JU]at a;subst i;obtain⟨E1,H1,b0,F,S,A,G,L,a,M,l,X⟩:=J8 e v.1 m C o a;subst X;split at a
  ·rename_i s
   simp only[Yo]at L;obtain⟨en,V,a⟩:=Xn _ a;split at a
   ·rename_i cells
    rw[Zf8,XM] at a;have a0:=G.ids _ _ y;have Q:=A.weaken (cells':=cells.set O s) V (λb' a7 T' h1 Z h3=>by
     have:=a0.symm.trans h1;simp at this;subst this;rw[F]at Z;have:=I.symm.trans Z;simp at this;obtain⟨rfl,_⟩:=this;have D:=Zgl _ _ h3 O s u L.1
     rwa [Zci a4] at D)
    obtain⟨E2,H2,d,Y,a8,U,a⟩:=Zjq q v.2 Q (ZV G _ _ N) j (Zcg rfl (λ_ h=>h) (λ_ _ h=>h) (Boxed.ZmK V) q v.2 j (Zop E1 l F S G.ids q v.2 j p)) (M.ZmK V) a;exact⟨E2,H2,d,Y.trans F,a8,U,a⟩
   ·exact a.elim
  ·exact a.elim
 | .ent id et e::q,v,E,H,m,R,vs,N,x,⟨u,f,j,P,y,I,C,i,p⟩,o,K,a=>by
  simp only[Ztr,JU]at a;subst i;obtain⟨e1,A,M,a,a9⟩:=ZzX e m P y C o a;exact Zjq q v.2 A N j (Zcg rfl (λ_ h=>h) (λ_ _ h=>h) (Boxed.ZEN I a9) q v.2 j p) M a
 | .entm id k t::q,v,E,H,m,R,vs,N,x,⟨u,f,j,P,y,I,⟨b,es,a6,e1,e2,hh,C⟩,i,p⟩,o,K,a=>by
  simp only[Ztr,JU,XM] at a;subst i;simp at e1;subst e1;obtain ⟨A,M⟩:=o.put m P y (.mpe k t v.1) (λ_ g i=>by
   have i:YS (.map (some b))=some g:=i;simp[YS] at i;rw[e2];simp[i]) ⟨b,es,a6,y,hh,C⟩
  exact Zjq q v.2 A N j (Zcg rfl (λ_ h=>h) (λ_ _ h=>h) (Boxed.ZEN I (λc h=>by cases h)) q v.2 j p) M a
 | .splt id et e::q,v,E,H,m,R,vs,N,x,⟨u,f,j,P,y,I,C,i,p⟩,o,K,a=>by
  simp only[Ztr,JU]at a;have a:=a f;rw[XM]at a;subst i;obtain⟨A,M⟩:=o.put m P y (.spl et e v.1.1 v.1.2 f) (λ_ g i=>i) ⟨u,y,C,(U3.1 o.nodup).1⟩;exact Zjq q v.2 A N j (Zcg rfl (λ_ h=>h) (λ_ _ h=>h) (Boxed.ZEN I (λc h=>by cases h)) q v.2 j p) M a
structure Cal where
 run:List SV->List Entry->(SV->List Entry->Prop)->Prop
 dat:Bool
 io:Option (List Bool) -- which arguments are variables,if nothing else is handed over
def ZDK (P:Program) (f:FuncId) (C:Cal):Prop:=Zl0 P f/\
 ∀{B:Base} {E:Env} {H:List Entry},Inv B E H->∀{S:List SV} {vs:List Value},Yo E S vs->∀{K:SV->List Entry->Prop},C.run S H K->
  Calls P f vs.toArray E.w λe w'=>∃v E' H' s,e=.returned v/\E'.w=w'/\Inv B E' H'/\E.le E'/\den E' s v/\K s H'/\(C.dat=true->Grow E.w w')/\(∀m,C.io=some m->∀b,b<E.w.heap.size->(∀v∈pick m vs,YS v≠some b)->w'.heap[b]?=E.w.heap[b]?)
def Ctr.cal (C:Ctr):Cal:=⟨ZDZ C,Zfc C.args,match ZjL C.args with
 |true=>some (Zmv C.args)
 | false=>none⟩
theorem Ctr.ZFN {P:Program} {f:FuncId} {C:Ctr} (h:Zc P f C):ZDK P f C.cal:=⟨h.1,λi _ _ N _ b=>(ZA4 i h N b).mono λe w' ⟨v,E',H',s,a,A,j,k,F,G,I,J⟩=>⟨v,E',H',s,a,A,j,k,F,G,I,λm R=>by
 simp only[Ctr.cal]at R;split at R
 ·rename_i H
  injection R with R
  subst R;exact J H
 ·cases R⟩⟩
abbrev Gam:=List (Nat×Cal)
def Gam.ok (Γ:Gam) (P:Program):Prop:=∀x∈Γ,ZDK P x.1 x.2
def ZBt:Gam->Nat->(Cal->Prop)->Prop
 |[],_,_=>False
 |(n,C)::r,f,K=>if n=f then K C else ZBt r f K
def Zwo:Gam->Nat->Bool
 |[],_=>false
 |(n,C)::r,f=>if n=f then C.dat else Zwo r f
def Zwp:Gam->Nat->Option (List Bool)
 |[],_=>none
 |(n,C)::r,f=>if n=f then C.io else Zwp r f
theorem ZtP {P:Program}:∀(Γ:Gam),Γ.ok P->∀{f:Nat} {K:Cal->Prop},ZBt Γ f K->∃C,ZDK P f C/\K C/\C.dat=Zwo Γ f/\C.io=Zwp Γ f
 |[],_,_,_,h=>h.elim
 |(n,C)::r,hΓ,f,K,h=>by
  unfold ZBt at h;unfold Zwo Zwp;split at h
  ·rename_i e;subst e;exact⟨C,hΓ (n,C) (by simp),h,by rw[Uc rfl],by rw[Uc rfl]⟩
  ·rename_i e;rw[Ue e,Ue e];exact ZtP r (λx l=>hΓ x (by simp[l])) h
def Zkd (Γ:Gam) (op:Op):Bool:=Zfs op||Zol op||match op with
 | .call c=>match c.callee with
  | .value (.func f)=>Zwo Γ f
  |_=>false
 |_=>false
def Zkz (Γ:Gam) (op:Op):Option (List Operand):=match op with
 | .call c=>match c.callee with
  | .value (.func f)=>match Zwp Γ f with
   |some m=>some (pick m c.args.toList)
   |none=>none
  |_=>none
 |_=>none
def Ztb (Δ:Tab) (Γ:Gam) (r:List SV) (H:List Entry) (op:Op) (K:SV->List Entry->Prop):Prop :=
 match op with
 | .call c=>match c.callee with
  | .value o=>ZaH r o λS=>match S with
   | .fn f s=>ZBt Γ f λC=>Zxp r c.args.toList λl=>Ztp l s λl'=>C.run l' H K
   |_=>False
  |_=>opK Δ r H op K
 |op=>opK Δ r H op K
def ZxO (r:List SV) (dst:Option Tmp) (s:SV) (K:List SV->Prop):Prop :=
 match dst with
 |none=>K r
 |some d=>ZxW r d s K
def ZzJ:List Oper->Nat->(Oper->Prop)->Prop
 |[],_,_=>False
 |o::_,0,K=>K o
 |_::r,n+1,K=>ZzJ r n K
theorem ZnQ:∀(l:List Oper) {n:Nat} {K:Oper->Prop},ZzJ l n K->∃o,l[n]?=some o/\K o
 |[],_,_,h=>h.elim
 |o::_,0,K,h=>⟨o,rfl,h⟩
 |_::r,n+1,K,h=>by simpa using ZnQ r (n:=n) h
def ZzM (Δ:Tab) (Γ:Gam) (ops:List Oper) (o:Oper) (r:List SV) (H:List Entry) (K:List SV->List Entry->Prop):Prop :=
 match o.guard with
 |none=>Ztb Δ Γ r H o.op λs H'=>ZxO r o.dst s λa=>K a H'
 |some (j,w)=>ZzJ ops j λO=>match O.dst with
  |none=>False
  |some d=>ZoP r d λg=>match g with
   | .blit b=>if b=w then Ztb Δ Γ r H o.op λs H'=>ZxO r o.dst s λa=>K a H'
     else ZxO r o.dst (.tup []) λa=>K a H
   | .bool p=>(p=w->ZxW r d (.blit w) λR=>Ztb Δ Γ R H o.op λs H'=>ZxO R o.dst s λa=>K a H')/\
     (p = !w->ZxW r d (.blit (!w)) λR=>ZxO R o.dst (.tup []) λa=>K a H)
   | .tup []=>ZxO r o.dst (.tup []) λa=>K a H
   |_=>False
def ZHe (Δ:Tab) (Γ:Gam) (ops:List Oper):List Oper->List SV->List Entry->(List SV->List Entry->Prop)->Prop
 |[],s,H,K=>K s H
 |o::r,s,H,K=>ZzM Δ Γ ops o s H λa H'=>ZHe Δ Γ ops r a H' K
def Conc (B:Base) (r:List SV) (H:List Entry) (a:Act) (w:World):Prop :=
 ∃E,E.w=w/\Inv B E H/\Yo E r a.tmps.toList/\a.defers=[]
section
variable {P:Program}
variable {v:Value}
theorem ZmF {E:Env} {r:List SV} {a:Act} (N:Yo E r a.tmps.toList) {dst:Option Tmp} {s:SV} (q:den E s v) {K:List SV->Prop} (H:ZxO r dst s K) :
  ∃R,Yo E R (a.put dst v).tmps.toList/\K R/\(a.put dst v).defers=a.defers:=by
 cases dst with
 |none=>exact⟨r,N,H,rfl⟩
 |some d =>
  simp only[ZxO,Zf8]at H;refine⟨_,?_,H,rfl⟩;simp only[Act.put,Array.toList_setIfInBounds];exact Zgl _ _ N d s v q
variable {K:SV->List Entry->Prop} {n:Act->World->Prop} {Q:Exit->Act->World->Prop}
theorem ZAC {B:Base} {E:Env} {o:Oper} {a:Act} (h:Ran P B E o a K)
  (f:∀E' H' s v,Inv B E' H'->E.le E'->den E' s v->K s H'->((Zfs o.op||Zol o.op)=true->Grow E.w E'.w)->(∀x,appArg o.op=some x->E.w.grownBy E'.w (YS (a.eval x)))->n (a.put o.dst v) E'.w):o.wp P a E.w n Q:=by
 obtain⟨N,v,E',H',s,d,H,g,i,j,I,_,k,l⟩:=h;unfold Oper.wp;rw[d];rcases H with rfl|⟨rfl,rfl⟩
 ·exact f E' H' s v g i j I k l
 ·exact f E' H' s _ g i j I k l
variable {Δ:Tab} {Γ:Gam} {R:List SV}
theorem ZCs (hΔ:Δ.ok P) (hΓ:Γ.ok P) {B:Base} {E:Env} {H:List Entry} (U:Inv B E H) {a:Act} (O:Yo E R a.tmps.toList) {o:Oper}
  (h:Ztb Δ Γ R H o.op K)
  (Z:∀E' H' s v,Inv B E' H'->E.le E'->den E' s v->K s H'->(Zkd Γ o.op=true->Grow E.w E'.w)->(∀x,appArg o.op=some x->E.w.grownBy E'.w (YS (a.eval x)))->(∀xs,Zkz Γ o.op=some xs->∀b,b<E.w.heap.size->(∀x∈xs,YS (a.eval x)≠some b)->E'.w.heap[b]?=E.w.heap[b]?)->n (a.put o.dst v) E'.w):o.wp P a E.w n Q:=by
 obtain⟨dst,op,T,pos,after,guard⟩:=o;simp only at h;unfold Ztb at h;split at h
 ·rename_i c
  obtain⟨i,args,A⟩:=c;simp only at h;split at h
  ·rename_i S
   obtain⟨sf,N,h⟩:=YM O h;split at h
   ·rename_i f a1
    simp only[den]at N;obtain⟨F,d,t⟩:=N;obtain⟨C,hC,h,W,Y⟩:=ZtP Γ hΓ h;obtain⟨l,hl,h⟩:=Zme O _ h;rw[ZcK]at h;have X:=Zc3 _ _ hl _ _ t;have q:=hC.2 U X h;obtain⟨⟨fn,hf,z,y⟩,_⟩:=hC;have M:(execOp a.eval ⟨dst,.call ⟨.value S,args,A⟩,T,pos,after,guard⟩).run P E.w=.ok (.enter f (args.toList.map a.eval++F).toArray) E.w:=by
     have p:(args.map a.eval)++F.toArray=(args.toList.map a.eval++F).toArray:=by
      apply Array.ext';simp
     simp only[execOp,resolve,d,Deferred.ofValue,pure_bind,invoke,Array.empty_append,p];unfold callFunc;rw[Sem.run_bind,run_program,Result.andThen_ok,hf];simp only[z,y,Ka,Uh];rfl
    unfold Oper.wp;rw[M];refine q.mono ?_;rintro e w' ⟨v,E',H',s,rfl,rfl,D,k,G,I,J,L⟩;refine Z E' H' s v D k G I (λr=>J ?_) (ZrL rfl) (λxs j b hb g=>?_)
    ·rw[W]
     cases S with
     |func f0 =>
      simp only[Act.eval]at d;injection d with d
      injection d with d
      subst d;simpa[Zkd,Zfs,Zol]using r
     |_=>simp[Zkd,Zfs,Zol]at r
    ·cases S with
     |func f0 =>
      simp only[Act.eval]at d;have V:F=[]:=by
       have h:=d;simp at h;first|exact h.2.symm|exact h.2|(rcases h with⟨D,k⟩;simpa using k.symm)|simpa using h.2
      injection d with d
      injection d with d
      subst d;simp only[Zkz]at j;split at j
      ·rename_i m hm
       injection j with j
       subst j;refine L m (Y.trans hm) b hb (λu hu=>?_);have:pick m (args.toList.map a.eval++F)=(pick m args.toList).map a.eval:=by
        rw[<-ZsS,V,Un]
       rw[this]at hu;obtain⟨x,a0,rfl⟩:=Kg.1 hu;exact g x a0
      ·cases j
     |_=>simp[Zkz]at j
   ·exact h.elim
  ·rename_i g
   refine ZAC (ZzO hΔ U O h) (λE' H' s v D k G I J L=>Z E' H' s v D k G I (λr=>J ?_) L (λxs j=>?_))
   ·cases i with
    |value f=>exact absurd rfl (g f)
    |_=>simpa[Zkd,Zol]using r
   ·cases i with
    |value f=>exact absurd rfl (g f)
    |_=>simp[Zkz]at j
 ·rename_i g
  refine ZAC (ZzO hΔ U O h) (λE' H' s v D k G I J L=>Z E' H' s v D k G I (λr=>J ?_) L (λxs j=>?_));rotate_left
  ·cases op with
   |call c=>exact absurd rfl (g c)
   |_=>simp[Zkz]at j
  cases op with
  |call c=>exact absurd rfl (g c)
  |_=>first|rfl|exact r|(simp[Zkd,Zfs,Zol]at r ⊢)
def ZyD:Value->Option Bool
 | .bool b=>some b
 |_=>none
theorem ZrZ {ops:Array Oper} {a:Act} {j d:Nat} {O:Oper} (x:ops.toList[j]?=some O) (N:O.dst=some d) (h:a.tmps.toList[d]?=some v) :
  yielded ops a.tmps j=ZyD v:=by
 have Y:ops[j]?=some O:=by simpa using x
 have i:a.tmps[d]?=some v:=by simpa using h
 unfold yielded;rw[Y,Option.bind_some,N,Option.bind_some,i];cases v<;>rfl
variable {K:List SV->List Entry->Prop}
theorem ZwO (hΔ:Δ.ok P) (hΓ:Γ.ok P) {B:Base} (ops:Array Oper) (o:Oper) {H:List Entry} {a:Act} {E:Env} (U:Inv B E H) (N:Yo E R a.tmps.toList) (f:a.defers=[]) (c:ZzM Δ Γ ops.toList o R H K)
  (X:∀r H' D E',K r H'->Inv B E' H'->Yo E' r D.tmps.toList->D.defers=[]->E.le E'->(Zkd Γ o.op=true->Grow E.w E'.w)->(∀x,appArg o.op=some x->E.w.grownBy E'.w (YS (a.eval x)))->(∀xs,Zkz Γ o.op=some xs->∀b,b<E.w.heap.size->(∀x∈xs,YS (a.eval x)≠some b)->E'.w.heap[b]?=E.w.heap[b]?)->n D E'.w) :
  (if Region.wanted o (yielded ops a.tmps)then o.wp P a E.w n Q\/(o.asks P a E.w/\LetsOut Q)else n (a.put o.dst undef) E.w):=by
 have run:∀{R:List SV},Yo E R a.tmps.toList->(Ztb Δ Γ R H o.op λs H'=>ZxO R o.dst s λr=>K r H')->o.wp P a E.w n Q:=by
  intro R N c;refine ZCs hΔ hΓ U N c (λE' H' s v F A O c y G T=>?_);obtain⟨r,i,c,l⟩:=ZmF (ZV A _ _ N) O c;exact X r H' _ _ c F i (by rw[l];exact f) A y G T
 have skip:∀{R:List SV},Yo E R a.tmps.toList->(ZxO R o.dst (.tup []) λr=>K r H)->n (a.put o.dst undef) E.w:=by
  intro R N c;obtain⟨r,i,c,l⟩:=ZmF N (v:=undef) (by simp only[den];exact⟨[],rfl,trivial⟩) c;exact X r H _ _ c U i (by rw[l];exact f) (Env.le.refl E) (λ_=>Grow.refl _) (λ_ _=>⟨rfl,rfl,rfl,UO _,λ_ _ _=>rfl⟩) (λ_ _ _ _ _=>rfl)
 unfold ZzM at c;split at c
 ·rename_i y
  rw[Uc (by simp[Region.wanted,y])];exact .inl (run N c)
 ·rename_i j W y
  obtain⟨oj,L,e⟩:=ZnQ _ c;clear c;split at e
  ·exact e.elim
  ·rename_i d u
   obtain⟨sg,v,S,g,c,M⟩:=Zc5 _ _ N e;clear M e;have Z:=ZrZ L u S;have t:Region.wanted o (yielded ops a.tmps)=(ZyD v==some W):=by
    simp only[Region.wanted,y,Z]
   have q:∀(s:SV),den E s v->Yo E (R.set d s) a.tmps.toList:=by
    intro s O;have Y:=Zgl _ _ N d s v O;have m:a.tmps.toList.set d v=a.tmps.toList:=by
     apply Ux;intro k;by_cases z:d=k
     ·subst z
      have:=(Ub.1 S).1;rw[UD this,S]
     ·rw[UL z]
    rwa [m]at Y
   split at c
   ·rename_i b
    simp only[den]at g;subst g;split at c
    ·rename_i I;subst I
     rw[Uc (by rw[t];simp[ZyD])];exact .inl (run N c)
    ·rename_i I
     rw[Ue (by rw[t];simp[ZyD];exact I)];exact skip N c
   ·rename_i p
    simp only[den]at g;subst g;by_cases V:p=W
    ·subst V
     rw[Uc (by rw[t];simp[ZyD])];have c:=c.1 rfl;rw[Zf8]at c;exact .inl (run (q _ (by simp only[den])) c)
    ·have C:p = !W:=by cases p<;>cases W<;>simp_all
     rw[Ue (by rw[t];simp[ZyD];exact V)];have c:=c.2 C;rw[Zf8]at c;exact skip (q _ (by simp only[den,C])) c
   ·simp only[den]at g
    obtain⟨vs,m,J⟩:=g;have:v=.tuple #[]:=by
     cases vs with
     |nil=>rw[m]
     |cons=>simp[Yo]at J
    rw[Ue (by rw[t,this];intro h;cases h)];exact skip N c
   ·exact c.elim
theorem ZED (hΔ:Δ.ok P) (hΓ:Γ.ok P) {B:Base} (ops:Array Oper) (o:Oper) {s:List SV} {H:List Entry} {a:Act} {w:World} (c:Conc B s H a w) (k:ZzM Δ Γ ops.toList o s H K)
  (d:∀r H' A w',K r H'->Conc B r H' A w'->(Zkd Γ o.op=true->Grow w w')->n A w') :
  (if Region.wanted o (yielded ops a.tmps)then o.wp P a w n Q\/(o.asks P a w/\LetsOut Q)else n (a.put o.dst undef) w):=by
 obtain⟨E,e,m,N,f⟩:=c;subst e;exact ZwO hΔ hΓ ops o m N f k (λr H' A E' k q b h _ g _ _=>d r H' A _ k ⟨E',rfl,q,b,h⟩ g)
theorem ZzP {Δ:Tab} (hΔ:Δ.ok P) {Γ:Gam} (hΓ:Γ.ok P) {B:Base} (ops:Array Oper) {Q:Exit->Act->World->Prop}:∀(l:List Oper) {s:List SV} {H:List Entry} {a:Act} {w:World} (_:Conc B s H a w)
  {K:List SV->List Entry->Prop} (_:ZHe Δ Γ ops.toList l s H K) (_:∀R H' A w',K R H'->Conc B R H' A w'->Q .normal A w'),wpList P ops Q l a w
 |[],s,H,a,w,q,K,h,b=>b _ _ _ _ h q
 |o::r,s,H,a,w,q,K,h,b=>by
  simp only[ZHe]at h;unfold wpList;exact ZED hΔ hΓ ops o q h (λR H' A w' u c _=>ZzP hΔ hΓ ops r c u b)
def Zl1 (B:Base) (E0:Env) (r:List SV) (H:List Entry) (a:Act) (w:World):Prop :=
 ∃E,E0.le E/\E.w=w/\Inv B E H/\Yo E r a.tmps.toList/\a.defers=[]
theorem Zl1.ZJV {B:Base} {E0:Env} {r:List SV} {H:List Entry} {a:Act} {w:World} (h:Zl1 B E0 r H a w):Conc B r H a w:=by
 obtain⟨E,_,h⟩:=h;exact⟨E,h⟩
theorem Zzs (hΔ:Δ.ok P) {B:Base} (ops:Array Oper) (o:Oper) (L:Zfs o.op=true) {H:List Entry} {a:Act} {E:Env} (U:Inv B E H) (N:Yo E R a.tmps.toList) (m:a.defers=[]) (e:ZzM Δ Γ ops.toList o R H K) :
  ∃v,((Region.wanted o (yielded ops a.tmps)=true/\∀w',(isLoad o.op=true->Zto E.w w')->(execOp a.eval o).run P w'=.ok (.value v) w')\/(Region.wanted o (yielded ops a.tmps)=false/\v=undef))/\
   ∃r H',K r H'/\Zl1 B E r H' (a.put o.dst v) E.w:=by
 have hst:∀(K:SV->List Entry->Prop) (R:List SV),Ztb Δ Γ R H o.op K->opK Δ R H o.op K:=by
  intro K R h;unfold Ztb at h;split at h
  ·rename_i c I
   split at h
   ·rename_i f z
    rw[I]at L;simp[Zfs,z]at L
   ·exact h
  ·exact h
 have run:∀{R:List SV},Yo E R a.tmps.toList->(Ztb Δ Γ R H o.op λs H'=>ZxO R o.dst s λr=>K r H')->
   ∃v,(∀w',(isLoad o.op=true->Zto E.w w')->(execOp a.eval o).run P w'=.ok (.value v) w')/\∃r H',K r H'/\Zl1 B E r H' (a.put o.dst v) E.w:=by
  intro R N e;obtain⟨nx,v,E',H',s,l,y,X,T,Y,Z,h7,_⟩:=ZzO hΔ U N (hst _ _ e);obtain⟨_,S,h8⟩:=h7 L;obtain⟨r,n,e,u⟩:=ZmF (ZV T _ _ N) Y Z;exact⟨v,h8,r,H',e,E',T,S,X,n,by rw[u];exact m⟩
 have skip:∀{R:List SV},Yo E R a.tmps.toList->(ZxO R o.dst (.tup []) λr=>K r H)->∃r H',K r H'/\Zl1 B E r H' (a.put o.dst undef) E.w:=by
  intro R N e;obtain⟨r,n,e,u⟩:=ZmF N (v:=undef) (by simp only[den];exact⟨[],rfl,trivial⟩) e;exact⟨r,H,e,E,Env.le.refl E,rfl,U,n,by rw[u];exact m⟩
 unfold ZzM at e;split at e
 ·rename_i J
  obtain⟨v,l,y⟩:=run N e;exact⟨v,.inl ⟨by simp[Region.wanted,J],l⟩,y⟩
 ·rename_i j W J
  obtain⟨oj,M,i⟩:=ZnQ _ e;clear e;split at i
  ·exact i.elim
  ·rename_i d A
   obtain⟨sg,v,Q,g,e,O⟩:=Zc5 _ _ N i;clear O i;have hy:=ZrZ M A Q;have t:Region.wanted o (yielded ops a.tmps)=(ZyD v==some W):=by
    simp only[Region.wanted,J,hy]
   have q:∀(s:SV),den E s v->Yo E (R.set d s) a.tmps.toList:=by
    intro s hs;have l:=Zgl _ _ N d s v hs;have x:a.tmps.toList.set d v=a.tmps.toList:=by
     apply Ux;intro k;by_cases C:d=k
     ·subst C
      have:=(Ub.1 Q).1;rw[UD this,Q]
     ·rw[UL C]
    rwa [x]at l
   split at e
   ·rename_i b
    simp only[den]at g;subst g;split at e
    ·rename_i F;subst F
     obtain⟨v,l,y⟩:=run N e;exact⟨v,.inl ⟨by rw[t];simp[ZyD],l⟩,y⟩
    ·rename_i F
     exact⟨_,.inr ⟨by rw[t];simp[ZyD];exact F,rfl⟩,skip N e⟩
   ·rename_i p
    simp only[den]at g;subst g;by_cases V:p=W
    ·subst V
     have e:=e.1 rfl;rw[Zf8]at e;obtain⟨v,l,y⟩:=run (q _ (by simp only[den])) e;exact⟨v,.inl ⟨by rw[t];simp[ZyD],l⟩,y⟩
    ·have D:p = !W:=by cases p<;>cases W<;>simp_all
     have e:=e.2 D;rw[Zf8]at e;exact⟨_,.inr ⟨by rw[t];simp[ZyD];exact V,rfl⟩,skip (q _ (by simp only[den,D])) e⟩
   ·simp only[den]at g
    obtain⟨vs,x,G⟩:=g;have:v=.tuple #[]:=by
     cases vs with
     |nil=>rw[x]
     |cons=>simp[Yo]at G
    exact⟨_,.inr ⟨by rw[t,this];rfl,rfl⟩,skip N e⟩
   ·exact e.elim
end
section
variable {P:Program}
variable {T:TypeId} {t:TI} {K:SV->Prop}
theorem Zra {E:Env} (h:Zeo P T t) (W:World->Prop) (p:Addr) {cs:List SV} (H:JC t cs K)
  (vs:List Value) (N:Yo E cs vs) (a:∀w',W w'->∀j u,vs[j]?=some u->w'.cell? (p.add j)=some u) :
  ∃v s,(∀w',W w'->(loadVar T p).run P w'=.ok v w')/\den E s v/\K s:=by
 unfold JC at H;split at H
 ·rename_i n
  rw[ZjE]at H;split at H
  ·rename_i q
   have d:=ZhA cs vs N t.size;have g:=Xc _ _ d;have f:=λw' (hst:W w')=>Zgu h w' p (vs.take t.size) (λj u b=>a w' hst j u (by
    rw[UC]at b;split at b
    ·exact b
    ·cases b)) (λ_=>by rw[<-g];exact q)
   exact⟨_,.agg _,λw' hst=>(f w' hst).1 n,by simp only[den];exact⟨_,rfl,d⟩,H⟩
  ·exact H.elim
 ·rename_i n
  split at H
  ·rename_i c r
   match vs,N,a with
   |v::vs,N,a =>
    simp only[Yo]at N;have f:=λw' (hst:W w')=>Zgu h w' p (v::vs) (λj u b=>a w' hst j u b) (λe=>absurd e n);exact⟨v,c,λw' hst=>(f w' hst).2 (by simpa using n) v rfl,N.1,H⟩
   |[],N,_=>simp[Yo]at N
  ·exact H.elim
variable {I:Nat} {v:Value} {cells:List SV}
theorem Zxx {B:Base} {E:Env} {H:List Entry} (m:Inv B E H) (h:Zeo P T t) {o:Nat} (q:den E (.ptr I o) v) (j:H[I]?=some (.box cells))
  (k:Zj8 cells o λcs=>JC t cs K) :
  ∃b u r,E.ids[I]?=some (.pointer (some ⟨b,0,none⟩))/\(∀w':World,w'.heap[b]?=E.w.heap[b]?->(Instr.loadAt T v).run P w'=.ok u w')/\den E r u/\K r:=by
 rw[Zdu]at k;simp only[den]at q;obtain⟨b,d,rfl⟩:=q;obtain⟨X,cs,T',a,f,i⟩:=m.ent I _ j;have:=d.symm.trans a;simp at this;subst this;obtain⟨u,r,g,G,e⟩:=Zra h (λw'=>w'.heap[b]?=E.w.heap[b]?) ⟨b,o,none⟩ k (cs.toList.drop o) (ZaW _ _ i o) (λw' c=>Zl8 (c.trans f) o);exact⟨b,u,r,d,λw' c=>by simp only[Instr.loadAt,Instr.sureAddr,pure_bind];exact g w' c,G,e⟩
theorem Zpw {B:Base} {E:Env} {H:List Entry} (m:Inv B E H) (e:H[I]?=some (.box cells)) {b:Nat} (a:E.ids[I]?=some (.pointer (some ⟨b,0,none⟩)))
  {k:Nat} {G:Entry} (c:H[k]?=some G) (q:G.live=true) (f:E.ids[k]?=some v) (d:k≠I):¬ZiH G v b:=by
 intro h;exact d (m.sep k I G _ v _ b c e q rfl f a h (by simp[ZiH,YS]))
end
def Zue (m:List Nat) (i:Nat):Nat:=(m[i]?).getD i
mutual
def ZJA (m:List Nat):SV->SV
 | .ptr I o=>.ptr (Zue m I) o
 | .own I=>.own (Zue m I)
 | .oep I z i o=>.oep (Zue m I) z i o
 | .mown I=>.mown (Zue m I)
 | .fptr cs=>.fptr (Zz1 m cs)
 | .agg cs=>.agg (Zz1 m cs)
 | .tup cs=>.tup (Zz1 m cs)
 | .fn f cs=>.fn f (Zz1 m cs)
 | .bot=>.bot
 | .int k n=>.int k n
 | .bool b=>.bool b
 | .blit b=>.blit b
 | .str s=>.str s
 | .sl t d=>.sl t d
 | .nsl=>.nsl
 | .nilp=>.nilp
 | .nptr t d=>.nptr t d
 | .mp k v d=>.mp k v d
def Zz1 (m:List Nat):List SV->List SV
 |[]=>[]
 |c::cs=>ZJA m c::Zz1 m cs
end
def ZGa (m:List Nat):Entry->Entry
 | .box cells=>.box (Zz1 m cells)
 | .fbx cells=>.fbx (Zz1 m cells)
 | .hole g e d i cells f=>.hole g e d i (Zz1 m cells) f
 | .hsp g e d i cells f=>.hsp g e d i (Zz1 m cells) f
 |e=>e
section
variable {E:Env} {ids':List Value} {m:List Nat}
mutual
theorem ZD9 (h:∀i v,E.ids[i]?=some v->ids'[Zue m i]?=some v):∀(s:SV) (v:Value),den E s v->den ⟨E.S,E.w,ids'⟩ (ZJA m s) v
 | .bot,_,_=>trivial
 | .int _ _,_,e=>e
 | .bool _,_,e=>e
 | .blit _,_,e=>e
 | .str _,_,e=>e
 | .sl t d,v,e=>e
 | .nsl,_,e=>e
 | .ptr _ _,_,⟨b,a,f⟩=>⟨b,h _ _ a,f⟩
 | .own _,_,⟨a,f⟩=>⟨h _ _ a,f⟩
 | .oep _ _ _ _,_,⟨b,B,n,c,a,f⟩=>⟨b,B,n,c,h _ _ a,f⟩
 | .fptr cs,_,⟨p,vs,a,f,g,j,l⟩=>⟨p,vs,a,f,g,j,Zgk h cs vs l⟩
 | .agg cs,_,⟨vs,a,f⟩=>⟨vs,a,Zgk h cs vs f⟩
 | .tup cs,_,⟨vs,a,f⟩=>⟨vs,a,Zgk h cs vs f⟩
 | .fn _ cs,_,⟨vs,a,f⟩=>⟨vs,a,Zgk h cs vs f⟩
 | .nilp,_,e=>e
 | .nptr t d,v,e=>e
 | .mown _,_,⟨a,f⟩=>⟨h _ _ a,f⟩
 | .mp k u d,v,e=>e
theorem Zgk (h:∀i v,E.ids[i]?=some v->ids'[Zue m i]?=some v):∀(cs:List SV) (vs:List Value),Yo E cs vs->Yo ⟨E.S,E.w,ids'⟩ (Zz1 m cs) vs
 |[],[],_=>trivial
 |c::cs,v::vs,⟨a,b⟩=>⟨ZD9 h c v a,Zgk h cs vs b⟩
 |[],_::_,e=>e
 |_::_,[],e=>e
end
theorem ZBp (h:∀i v,E.ids[i]?=some v->ids'[Zue m i]?=some v) (i:Nat):∀e:Entry,Zwd E i e->Zwd ⟨E.S,E.w,ids'⟩ (Zue m i) (ZGa m e)
 | .gone,_=>trivial
 | .box cells,⟨b,cs,T,a,l,o⟩=>⟨b,cs,T,h _ _ a,l,Zgk h _ _ o⟩
 | .arr g t d,⟨v,xs,a,r⟩=>⟨v,xs,h _ _ a,r⟩
 | .frz t d,⟨v,a,r⟩=>⟨v,h _ _ a,r⟩
 | .fbx cells,⟨b,cs,T,a,l,o,z⟩=>⟨b,cs,T,h _ _ a,l,o,Zgk h _ _ z⟩
 | .darr g e d q,⟨v,xs,s,a,r⟩=>⟨v,xs,s,h _ _ a,r⟩
 | .hole g e d i cells q,⟨v,xs,X,x,y,p,D,a,A,c,j,f,F,G,I,J,K,r⟩=>⟨v,xs,X,x,y,p,D,h _ _ a,A,c,j,f,F,G,I,J,Zgk h _ _ K,r⟩
 | .spl g e d n q,⟨v,a,r⟩=>⟨v,h _ _ a,r⟩
 | .hsp g e d i cells q,⟨v,xs,X,x,y,p,a,A,c,j,f,F,G,I,J,K,r⟩=>⟨v,xs,X,x,y,p,h _ _ a,A,c,j,f,F,G,I,J,Zgk h _ _ K,r⟩
 | .mpe k v d,⟨b,B,C,a,r⟩=>⟨b,B,C,h _ _ a,r⟩
 | .frm k v d,⟨u,a,r⟩=>⟨u,h _ _ a,r⟩
end
theorem Zud (m:List Nat) (e:Entry):(ZGa m e).live=e.live:=by cases e<;>rfl
theorem ZsW (m:List Nat) (e:Entry) (v:Value) (g:Nat):ZiH (ZGa m e) v g<->ZiH e v g:=by cases e<;>exact Iff.rfl
def ZxS:List Nat->Nat->Nat->(Nat->Prop)->Prop
 |[],_,i,K=>K i
 |a::_,0,_,K=>K a
 |_::r,n+1,i,K=>ZxS r n i K
theorem ZmG:∀(m:List Nat) (n i:Nat) (K:Nat->Prop),ZxS m n i K=K ((m[n]?).getD i)
 |[],_,_,_=>rfl
 |_::_,0,_,_=>rfl
 |_::r,n+1,i,K=>ZmG r n i K
mutual
def Zrb (m:List Nat):SV->(SV->Prop)->Prop
 | .ptr I o,K=>ZxS m I I λj=>K (.ptr j o)
 | .own I,K=>ZxS m I I λj=>K (.own j)
 | .oep I z i o,K=>ZxS m I I λj=>K (.oep j z i o)
 | .mown I,K=>ZxS m I I λj=>K (.mown j)
 | .fptr cs,K=>ZoV m cs λcs=>K (.fptr cs)
 | .agg cs,K=>ZoV m cs λcs=>K (.agg cs)
 | .tup cs,K=>ZoV m cs λcs=>K (.tup cs)
 | .fn f cs,K=>ZoV m cs λcs=>K (.fn f cs)
 | .bot,K=>K .bot
 | .int k n,K=>K (.int k n)
 | .bool b,K=>K (.bool b)
 | .blit b,K=>K (.blit b)
 | .str s,K=>K (.str s)
 | .sl t d,K=>K (.sl t d)
 | .nsl,K=>K .nsl
 | .nilp,K=>K .nilp
 | .nptr t d,K=>K (.nptr t d)
 | .mp k v d,K=>K (.mp k v d)
def ZoV (m:List Nat):List SV->(List SV->Prop)->Prop
 |[],K=>K []
 |c::cs,K=>Zrb m c λc=>ZoV m cs λcs=>K (c::cs)
end
mutual
theorem ZB9 (m:List Nat):∀(s:SV) (K:SV->Prop),Zrb m s K=K (ZJA m s)
 | .ptr I o,K=>by simp only[Zrb,ZmG];rfl
 | .own I,K=>by simp only[Zrb,ZmG];rfl
 | .oep I z i o,K=>by simp only[Zrb,ZmG];rfl
 | .mown I,K=>by simp only[Zrb,ZmG];rfl
 | .fptr cs,K=>by simp only[Zrb,Zjs m cs];rfl
 | .agg cs,K=>by simp only[Zrb,Zjs m cs];rfl
 | .tup cs,K=>by simp only[Zrb,Zjs m cs];rfl
 | .fn f cs,K=>by simp only[Zrb,Zjs m cs];rfl
 | .bot,K=>rfl
 | .int k n,K=>rfl
 | .bool b,K=>rfl
 | .blit b,K=>rfl
 | .str s,K=>rfl
 | .sl t d,K=>rfl
 | .nsl,K=>rfl
 | .nilp,K=>rfl
 | .nptr t d,K=>rfl
 | .mp k v d,K=>rfl
theorem Zjs (m:List Nat):∀(l:List SV) (K:List SV->Prop),ZoV m l K=K (Zz1 m l)
 |[],K=>rfl
 |c::cs,K=>by simp only[ZoV,ZB9 m c,Zjs m cs];rfl
end
def ZEI (m:List Nat):Entry->(Entry->Prop)->Prop
 | .box cells,K=>ZoV m cells λcs=>K (.box cs)
 | .fbx cells,K=>ZoV m cells λcs=>K (.fbx cs)
 | .hole g e d i cells f,K=>ZoV m cells λcs=>K (.hole g e d i cs f)
 | .hsp g e d i cells f,K=>ZoV m cells λcs=>K (.hsp g e d i cs f)
 | .gone,K=>K .gone
 | .arr g t d,K=>K (.arr g t d)
 | .frz t d,K=>K (.frz t d)
 | .darr g e d f,K=>K (.darr g e d f)
 | .spl g e d n f,K=>K (.spl g e d n f)
 | .mpe k v d,K=>K (.mpe k v d)
 | .frm k v d,K=>K (.frm k v d)
theorem ZB8 (m:List Nat) (e:Entry) (K:Entry->Prop):ZEI m e K=K (ZGa m e):=by
 cases e<;>first|rfl|(simp only[ZEI,Zjs];rfl)
def ZB3 (H:List Entry) (m:List Nat):List Nat->(List Entry->Prop)->Prop
 |[],K=>K []
 |j::r,K=>Zh8 H j λe=>ZEI m e λe=>ZB3 H m r λl=>K (e::l)
theorem ZwW (H:List Entry) (m:List Nat):∀(o:List Nat) {K:List Entry->Prop},ZB3 H m o K->∃l,K l/\l.length=o.length/\∀(i:Nat) (E:Entry),l[i]?=some E->∃j e,o[i]?=some j/\H[j]?=some e/\E=ZGa m e
 |[],K,h=>⟨[],h,rfl,λi E a=>by cases a⟩
 |j::r,K,h=>by
  unfold ZB3 at h;obtain⟨e,b,h⟩:=Xn H h;rw[ZB8]at h;obtain⟨l,d,f,g⟩:=ZwW H m r h;refine⟨_,d,by simp[f],λi E a=>?_⟩;cases i with
  |zero =>
   rw[List.getElem?_cons_zero]at a;injection a with a
   exact⟨j,e,rfl,b,a.symm⟩
  |succ i =>
   rw[Kf]at a;exact g i E a
def ZHb:List Nat->Nat->Nat->Bool
 |[],_,_=>false
 |a::_,0,x=>Nat.beq a x
 |_::r,n+1,x=>ZHb r n x
theorem Zvn:∀(l:List Nat) {n x:Nat},ZHb l n x=true->l[n]?=some x
 |[],_,_,h=>by cases h
 |a::_,0,x,h=>by rw[List.getElem?_cons_zero,Nat.eq_of_beq_eq_true h]
 |_::r,n+1,x,h=>by rw[Kf];exact Zvn r h
def ZFV (m:List Nat):List Nat->Nat->Bool
 |[],_=>true
 |j::r,k=>ZHb m j k&&ZFV m r (k+1)
theorem Zvc (m:List Nat):∀(o:List Nat) (k:Nat),ZFV m o k=true->∀(i j:Nat),o[i]?=some j->m[j]?=some (k+i)
 |[],_,_,i,j,h=>by cases h
 |a::r,k,h,i,j,l=>by
  unfold ZFV at h;rw[Ur]at h;cases i with
  |zero =>
   rw[List.getElem?_cons_zero]at l;injection l with l
   subst l;exact Zvn m h.1
  |succ i =>
   rw[Kf]at l;have:=Zvc m r (k+1) h.2 i j l;rw[this];congr 1;omega
def ZG3 (m:List Nat):Nat->Bool
 |0=>true
 |n+1=>ZHb m n n&&ZG3 m n
theorem Zy7 (m:List Nat):∀(n:Nat),ZG3 m n=true->∀i,i<n->m[i]?=some i
 |0,_,i,l=>by omega
 |n+1,h,i,l=>by
  unfold ZG3 at h;rw[Ur]at h;by_cases e:i=n
  ·subst e;exact Zvn m h.1
  ·exact Zy7 m n h.2 i (by omega)
def ZCe {α β:Type}:List α->List β->Bool
 |[],[]=>true
 |_::r,_::s=>ZCe r s
 |_,_=>false
theorem Zs1 {α β:Type}:∀(l:List α) (r:List β),ZCe l r=true->l.length=r.length
 |[],[],_=>rfl
 |_::r,_::s,h=>by simp[Zs1 r s h]
 |[],_::_,h=>by cases h
 |_::_,[],h=>by cases h
def ZG5 (i:Nat):List Nat->Bool
 |[]=>false
 |j::r=>Nat.beq j i||ZG5 i r
def ZFW:List Entry->Nat->Bool
 |[],_=>false
 | .box _::_,0=>true
 |_::_,0=>false
 |_::r,n+1=>ZFW r n
def ZDm (n0:Nat) (H:List Entry):List SV->List Nat->(List Nat->Prop)->Prop
 |[],a,K=>K a
 | .ptr I _::r,a,K=>match Nat.ble n0 I&&ZFW H I&&!ZG5 I a with
  |true=>ZDm n0 H r (I::a) K
  |false=>ZDm n0 H r a K
 | .own I::r,a,K=>match Nat.ble n0 I&&!ZG5 I a with
  |true=>ZDm n0 H r (I::a) K
  |false=>ZDm n0 H r a K
 |_::r,a,K=>ZDm n0 H r a K
theorem Zvo (n0:Nat) (H:List Entry) {K:List Nat->Prop}:∀(l:List SV) (a:List Nat),ZDm n0 H l a K->∃c,K c
 |[],a,h=>⟨a,h⟩
 |s::r,a,h=>by
  cases s<;>unfold ZDm at h<;>first
   |exact Zvo n0 H r _ h
   |(split at h<;>exact Zvo n0 H r _ h)
def Zz5 (c:List Nat):List Entry->Nat->(List Nat->Prop)->Prop
 |[],_,K=>K c
 |_::r,i,K=>match ZG5 i c with
  |true=>Zz5 c r (i+1) K
  |false=>Zz5 c r (i+1) λl=>K (i::l)
theorem ZsZ (c:List Nat):∀(H:List Entry) (i:Nat) {K:List Nat->Prop},Zz5 c H i K->∃o,K o
 |[],_,_,h=>⟨c,h⟩
 |_::r,i,K,h=>by
  unfold Zz5 at h;split at h
  ·exact ZsZ c r (i+1) h
  ·obtain⟨o,h⟩:=ZsZ c r (i+1) h
   exact⟨_,h⟩
def ZBr:List Nat->Nat->Nat->(Nat->Prop)->Prop
 |[],_,k,K=>K k
 |a::r,j,k,K=>match Nat.beq a j with
  |true=>K k
  |false=>ZBr r j (k+1) K
theorem Zwk:∀(o:List Nat) (j k:Nat) {K:Nat->Prop},ZBr o j k K->∃p,K p
 |[],_,k,_,h=>⟨k,h⟩
 |a::r,j,k,K,h=>by
  unfold ZBr at h;split at h
  ·exact⟨k,h⟩
  ·exact Zwk r j (k+1) h
def ZHg (o:List Nat):List Entry->Nat->(List Nat->Prop)->Prop
 |[],_,K=>K []
 |_::r,j,K=>ZBr o j 0 λp=>ZHg o r (j+1) λl=>K (p::l)
theorem ZzV (o:List Nat):∀(H:List Entry) (j:Nat) {K:List Nat->Prop},ZHg o H j K->∃m,K m
 |[],_,_,h=>⟨[],h⟩
 |_::r,j,K,h=>by
  unfold ZHg at h;obtain⟨p,h⟩:=Zwk o j 0 h;obtain⟨m,h⟩:=ZzV o r (j+1) h;exact⟨_,h⟩
def canonK (n0:Nat) (r:List SV) (H:List Entry) (K:List SV->List Entry->Prop):Prop :=
 ZDm n0 H r [] λc=>match c with
  |[]=>K r H
  |c=>Zz5 c H 0 λo=>ZHg o H 0 λm=>match (ZCe o H&&ZCe m H&&ZFV m o 0&&ZFV o m 0&&ZG3 m n0)with
   |true=>ZoV m r λa=>ZB3 H m o λH'=>K a H'
   |false=>False
theorem ZyF {B:Base} {n0:Nat} {r:List SV} {H:List Entry} {a:Act} {w:World} {K:List SV->List Entry->Prop} (x:∀(i:Nat) (v:Value),B.pin[i]?=some v->i<n0) (h:canonK n0 r H K) (N:Conc B r H a w) :
  ∃R H',K R H'/\Conc B R H' a w:=by
 unfold canonK at h;obtain⟨c,h⟩:=Zvo n0 H _ _ h;split at h
 ·exact⟨r,H,h,N⟩
 ·obtain⟨o,h⟩:=ZsZ _ H 0 h
  obtain⟨m,h⟩:=ZzV o H 0 h;split at h
  ·rename_i A
   simp only[Ur]at A;obtain⟨⟨⟨⟨U,W⟩,X⟩,Y⟩,Z⟩:=A;have c1:=Zs1 _ _ U;have c2:=Zs1 _ _ W;have J:=Zvc m o 0 X;have c4:=Zvc o m 0 Y;have c5:=Zy7 m n0 Z;rw[Zjs]at h;obtain⟨H',h,g1,G⟩:=ZwW H m o h;refine⟨_,H',h,?_⟩;obtain⟨E,hw,d,hd,n⟩:=N
   let ids':=o.map λj=>(E.ids[j]?).getD undef
   have hm:∀j,j<H.length->∃k,m[j]?=some k/\o[k]?=some j/\Zue m j=k:=λj p=>by
    have e:m[j]?=some (m[j]'(by omega)):=Ua _;have:=c4 j _ e;rw[Us]at this;exact⟨_,e,this,by unfold Zue;rw[e];rfl⟩
   have s:∀i v,E.ids[i]?=some v->ids'[Zue m i]?=some v:=λi v l=>by
    have u:=(Ub.1 l).1;rw[d.len]at u;obtain⟨k,_,z,e3⟩:=hm i u;rw[e3];show(o.map _)[k]?=_;rw[UK,z];show some ((E.ids[i]?).getD undef)=_;rw[l];rfl
   have b:∀i v,ids'[i]?=some v->∃j,o[i]?=some j/\E.ids[j]?=some v/\Zue m j=i:=λi v l=>by
    have t:(o.map λj=>(E.ids[j]?).getD undef)[i]?=some v:=l;rw[UK]at t;cases e:o[i]? with
    |none=>rw[e]at t;cases t
    |some j =>
     rw[e]at t;have f:=J i j e;rw[Us]at f;have p:j<H.length:=by rw[<-c2];exact(Ub.1 f).1
     have q:E.ids[j]?=some (E.ids[j]'(by rw[d.len];exact p)):=Ua _;refine⟨j,rfl,?_,by unfold Zue;rw[f];rfl⟩;injection t with t
     have ev:v=E.ids[j]'(by rw[d.len];exact p):=by
      rw[<-t];show(E.ids[j]?).getD undef=_;rw[q];rfl
     rw[q,<-ev]
   refine⟨⟨E.S,E.w,ids'⟩,hw,⟨d.keeps,d.Slt,d.Sold,?_,λi v l=>?_,λi f l=>?_,λi f v g l u hv A=>?_,λi j ei ej V F g l p Q T D I bi bj=>?_⟩,Zgk s _ _ hd,n⟩
   ·show(o.map _).length=H'.length
    rw[U1,g1]
   ·have:=s i v (d.pin i v l)
    rw[show Zue m i=i by unfold Zue;rw[c5 i (x i v l)];rfl]at this;exact this
   ·obtain⟨j,e,O,y,rfl⟩:=G i f l
    have:=J i j O;rw[Us]at this;have M:=ZBp s j e (d.ent j e y);rw[show Zue m j=i by unfold Zue;rw[this];rfl]at M;exact M
   ·obtain⟨j,e,O,y,rfl⟩:=G i f l
    obtain⟨j',p1,P,_⟩:=b i v hv;rw[O]at p1;injection p1 with p1
    subst p1;rw[Zud]at u;exact d.free j e v g y u P ((ZsW m e v g).1 A)
   ·obtain⟨j1,L,O,y,rfl⟩:=G i ei l
    obtain⟨j2,z,q1,q2,rfl⟩:=G j ej p;obtain⟨k1,p1,P,p3⟩:=b i V D;obtain⟨k2,C,r2,r3⟩:=b j F I;rw[O]at p1;injection p1 with p1
    subst p1;rw[q1]at C;injection C with C
    subst C;rw[Zud]at Q T;have:=d.sep j1 j2 L z V F g y q2 Q T P r2 ((ZsW m L V g).1 bi) ((ZsW m z F g).1 bj);rw[<-p3,<-r3,this]
  ·exact h.elim
inductive ZbD
 |done
 |op (i:Nat) (p:ZbD)
 |ld (i:Nat) (p:ZbD)
 |alt (i:Nat) (p q:ZbD)
 |can (p:ZbD)
def ZbD.o:List Nat->ZbD->ZbD
 |[],p=>p
 |i::r,p=>.op i (ZbD.o r p)
def ZbD.u:Nat->Nat->ZbD->ZbD
 |_,0,p=>p
 |a,n+1,p=>.op a (ZbD.u (a+1) n p)
def ZbD.l:List Nat->ZbD->ZbD
 |[],p=>p
 |i::r,p=>.ld i (ZbD.l r p)
def ZbD.a:List Nat->ZbD->ZbD
 |[],p=>p
 |i::r,p=>.alt i (ZbD.a r p) .done
def ZbD.d (i:Nat):ZbD:=.alt i .done .done
def ZbD.core:ZbD->ZbD
 | .can p=>p
 |p=>p
section
variable {P:Program} {ops:Array Oper}
inductive Behind (ops:Array Oper) (i:Nat):Nat->Prop
 |edge {j:Nat} {oj:Oper} {e:Edge}:ops[j]?=some oj->e∈oj.after->Region.binds .any e=true->e.on=i->Behind ops i j
 |step {j:Nat} {oj:Oper} {e:Edge}:ops[j]?=some oj->e∈oj.after->Region.binds .any e=true->Behind ops i e.on->Behind ops i j
def ZwH (a:List Nat) (l:List Edge) (m:Nat):Nat :=
 match l with
 |[]=>m
 |e::r=>ZwH a r (if Region.binds .any e then(m ||| 2^e.on) ||| a.getD e.on 0 else m)
def ZlK:List Oper->List Nat->List Nat
 |[],a=>a
 |o::r,a=>ZlK r (a++[ZwH a o.after.toList 0])
def Zdr (M:List Nat) (i j:Nat):Bool:=(M.getD j 0).testBit i
theorem Zt0 {ops:Array Oper} {a:List Nat} (c:∀(j m:Nat),a[j]?=some m->∀i,m.testBit i=true->Behind ops i j) {j:Nat} {O:Oper} (b:ops[j]?=some O) :
  ∀(l:List Edge) (m:Nat),(∀e∈l,e∈O.after)->(∀i,m.testBit i=true->Behind ops i j)->∀i,(ZwH a l m).testBit i=true->Behind ops i j
 |[],m,_,R,i,h=>R i h
 |e::r,m,q,R,i,h=>by
  unfold ZwH at h;refine Zt0 c b r _ (λe f=>q e (by simp[f])) ?_ i h;intro k H;split at H
  ·rename_i d
   rw[Nat.testBit_or,Nat.testBit_or,Nat.testBit_two_pow]at H;simp only[KP,Ul]at H;rcases H with(H|H)|H
   ·exact R k H
   ·exact .edge b (q e (by simp)) d H
   ·cases n:a[e.on]? with
    |none=>simp[n]at H
    |some M=>exact .step b (q e (by simp)) d (c _ _ n k (by simpa[n]using H))
  ·exact R k H
theorem ZrI {ops:Array Oper}:∀(l:List Oper) (a:List Nat),(∀(k:Nat),l[k]?=ops[a.length+k]?)->(∀(j m:Nat),a[j]?=some m->∀i,m.testBit i=true->Behind ops i j)->
  ∀(j m:Nat),(ZlK l a)[j]?=some m->∀i,m.testBit i=true->Behind ops i j
 |[],a,_,h=>h
 |o::r,a,q,h=>by
  unfold ZlK;refine ZrI r _ (λk=>?_) ?_
  ·have:=q (k+1)
   simpa[Nat.add_assoc,Nat.add_comm 1 k]using this
  ·intro j m b i H
   have t:=(Ub.1 b).1;rw[Ug,Uz]at t;by_cases c:j<a.length
   ·rw[Uu c]at b
    exact h j m b i H
   ·have:j=a.length:=by omega
    subst this;rw[UI (by omega)]at b;simp at b;subst b;have d:ops[a.length]?=some o:=by simpa using(q 0).symm
    exact Zt0 h d _ 0 (λe f=>by simpa using f) (λi H=>by simp at H) i H
def Down (ops:Array Oper) (l:Array Bool):Prop:=∀(j:Nat) (O:Oper) (e:Edge),ops[j]?=some O->l.getD j false=true->e∈O.after->Region.binds .any e=true->l.getD e.on false=true
variable {i:Nat}
theorem Down.set {l:Array Bool} (h:Down ops l) (F:i∈Region.ready .any ops l):Down ops (l.setIfInBounds i true):=by
 intro j O e a q m b;by_cases Z:i=j
 ·subst Z
  obtain⟨_,o,x,H⟩:=mem_ready.1 F;rw[a]at x;injection x with x;subst x
  exact getD_set_true (H e m b)
 ·rw[getD_set_ne false Z]at q
  exact getD_set_true (h j O e a q m b)
theorem Zod {l:Array Bool} (N:Down ops l) (d:l.getD i false=false):∀(j:Nat),Behind ops i j->j ∉ Region.ready .any ops l/\l.getD j false=false:=by
 intro j h;have M:∀{j:Nat} {O:Oper} {e:Edge},ops[j]?=some O->e∈O.after->Region.binds .any e=true->l.getD e.on false=false->j ∉ Region.ready .any ops l/\l.getD j false=false:=by
  intro j O e H m b n;constructor
  ·intro F
   obtain⟨_,o,x,a⟩:=mem_ready.1 F;rw[H]at x;injection x with x;subst x
   have:=a e m b;rw[n]at this;cases this
  ·cases q:l.getD j false with
   |false=>rfl
   |true =>
    have:=N j O e H q m b;rw[n]at this;cases this
 induction h with
 |edge H m b c=>exact M H m b (by rw[c];exact d)
 |step H m b _ I=>exact M H m b I.2
def Lit (P:Program) (ops:Array Oper) (R:World->World->Prop) (o:Oper) (v:Value) (a:Act) (w:World):Prop :=
 (Region.wanted o (yielded ops a.tmps)=true/\∀w',R w w'->(execOp a.eval o).run P w'=.ok (.value v) w')\/(Region.wanted o (yielded ops a.tmps)=false/\v=undef)
structure Way (R:World->World->Prop):Prop where
 refl:∀w,R w w
 trans:∀a b c,R a b->R b c->R a c
def Zox (P:Program) (ops:Array Oper) (G:Nat->World->World->Prop) (Q:Exit->Act->World->Prop):Nat->Array Bool->Act->World->Prop
 |0,l,a,w=>Region.ready .any ops l=[]/\Q .normal a w
 |fuel+1,l,a,w=>(Region.ready .any ops l=[]->Q .normal a w)/\
  ∀i∈Region.ready .any ops l,wpOp P ops Q i (λA w'=>G i w w'/\Zox P ops G Q fuel (l.setIfInBounds i true) A w') a w
theorem ZrY {G:Nat->World->World->Prop} {Q:Exit->Act->World->Prop}:∀(fuel:Nat) (l:Array Bool) (a:Act) (w:World),Zox P ops G Q fuel l a w->wpAny P .any ops Q fuel l a w
 |0,_,_,_,h=>h
 |fuel+1,_,_,_,h=>⟨h.1,λi H=>wpOp_mono (λA w' r=>ZrY fuel _ A w' r.2) (h.2 i H)⟩
variable {R:World->World->Prop} {Q:Exit->Act->World->Prop} {v:Value} {K:Act->World->Prop}
theorem Lit.wpOp (H:Way R) {o:Oper} {a:Act} {w:World} (l:ops[i]?=some o) (y:Lit P ops R o v a w) (h:K (a.put o.dst v) w):Go.wpOp P ops Q i K a w:=by
 unfold Go.wpOp;simp only[l];rcases y with⟨c,b⟩|⟨c,rfl⟩
 ·simp only[c,Ui,Oper.wp,b w (H.refl w),Oper.upon];exact .inl h
 ·simp only[c,Ka,Uh];exact h
variable {j:Nat} {O:Oper}
theorem ZAK (D:Way R) {o:Oper} (I:ops[j]?=some O) (G:o.apart ops O=true)
  (N:∀cs b,o.op≠.select cs b) (p:∀cs b,O.op≠.select cs b) (C:∀c a w,¬Q (.panic c) a w) {G1:World->World->Prop} (H:∀w w',G1 w w'->R w w') {a:Act} {w:World} (J:Lit P ops R o v a w) (h:wpOp P ops Q j (λA w'=>G1 w w'/\K A w') (a.put o.dst v) w) :
  wpOp P ops Q j (λA w'=>G1 w w'/\Lit P ops R o v A w'/\K (A.put o.dst v) w') a w:=by
 obtain⟨B,l,t⟩:=Oper.apart_spec G;have keep:∀(A:Act) (w':World),execOp A.eval o=execOp a.eval o->Region.wanted o (yielded ops A.tmps)=Region.wanted o (yielded ops a.tmps)->R w w'->Lit P ops R o v A w':=by
  intro A w' m q F;unfold Lit at *;rw[m,q];rcases J with⟨y,E⟩|y
  ·exact .inl ⟨y,λW z=>E W (D.trans _ _ _ F z)⟩
  ·exact .inr y
 have k:∀(u:Value) (w':World),R w w'->Lit P ops R o v (a.put O.dst u) w':=λu w' F=>keep _ _ (execOp_put o N a O.dst u t) (wanted_put o a O.dst u t) F;have i:∀(d:Deferred) (u:Value) (w':World),R w w'->Lit P ops R o v (({a with defers:=d::a.defers}:Act).put O.dst u) w':=λd u w' F =>
  keep _ _ ((execOp_put o N ({a with defers:=d::a.defers}:Act) O.dst u t).trans rfl) ((wanted_put o ({a with defers:=d::a.defers}:Act) O.dst u t).trans rfl) F
 unfold wpOp at *;simp only[I]at *;rw[wanted_put O a o.dst v B]at h;split
 ·rename_i q
  simp only[q,Ui]at h;rcases h with h|⟨s,g⟩
  case inr=>exact .inr ⟨by unfold Oper.asks at *;rw[execOp_put O p a o.dst v B]at s;exact s,g⟩
  refine .inl ?_;unfold Oper.wp at *;rw[execOp_put O p a o.dst v B]at h;generalize (execOp a.eval O).run P w=r at *;cases r with
  |ok n w' =>
   cases n<;>simp only[Oper.upon]at h ⊢
   case value u=>exact⟨h.1,k u w' (H _ _ h.1),by rw[<-Act.put_comm a v u l];exact h.2⟩
   case skip=>exact⟨h.1,k _ w' (H _ _ h.1),by rw[<-Act.put_comm a v undef l];exact h.2⟩
   case defer d =>
    refine⟨h.1,i d _ w' (H _ _ h.1),?_⟩;rw[<-Act.put_comm _ v undef l,<-Act.put_defers];exact h.2
   case enter f args =>
    refine Calls.mono h λe W m=>?_;cases e with
    |returned u=>exact⟨m.1,k u W (H _ _ m.1),by rw[<-Act.put_comm a v u l];exact m.2⟩
    |panicked c=>exact absurd m (C _ _ _)
    |outgrown=>exact m
   case row row args=>exact Rows.mono h λu W m=>⟨m.1,k u W (H _ _ m.1),by rw[<-Act.put_comm a v u l];exact m.2⟩
  |halt x w' =>
   cases x<;>simp only[Oper.upon]at h ⊢
   case panic u=>exact absurd h (C _ _ _)
 ·rename_i q
  simp only[q]at h;exact⟨h.1,k _ w (D.refl w),by rw[<-Act.put_comm a v undef l];exact h.2⟩
theorem Zoy (s:Way R) {G:Nat->World->World->Prop} (z:ops[i]?=some O) (k:∀w,G i w w)
  (d:∀(j:Nat) (o:Oper) cs b,ops[j]?=some o->o.op≠.select cs b) (M:∀c a w,¬Q (.panic c) a w)
  (J:∀j p,ops[j]?=some p->j≠i->¬Behind ops i j->¬Behind ops j i->O.apart ops p=true/\∀w w',G j w w'->R w w') :
  ∀(f:Nat) (l:Array Bool) (a:Act) (w:World),Down ops l->i∈Region.ready .any ops l->Lit P ops R O v a w->
   Zox P ops G Q f (l.setIfInBounds i true) (a.put O.dst v) w->Zox P ops G Q (f+1) l a w:=by
 have B:∀l:Array Bool,i∈Region.ready .any ops l->l.getD i false=false:=by
  intro l r;have E:=(mem_ready.1 r).1;rcases Nat.lt_or_ge i l.size with e|e
  ·simpa[e]using E
  ·simp[Array.getElem?_eq_none e]
 intro f;induction f with
 |zero =>
  intro l a w N r y H;refine⟨λh=>(by rw[h]at r;cases r),λj g=>?_⟩;by_cases F:j=i
  ·subst F;exact y.wpOp s z ⟨k w,H⟩
  ·have:=ready_mono g F
   rw[H.1]at this;cases this
 |succ f S =>
  intro l a w N r y H;refine⟨λh=>(by rw[h]at r;cases r),λj g=>?_⟩;by_cases F:j=i
  ·subst F;exact y.wpOp s z ⟨k w,H⟩
  ·have I:=H.2 j (ready_mono g F)
   obtain⟨n,p,L,C⟩:=mem_ready.1 g;have A:¬Behind ops i j:=λu=>(Zod N (B _ r) j u).1 g;have m:¬Behind ops j i:=by
    intro u;refine(Zod N ?_ i u).1 r;rcases Nat.lt_or_ge j l.size with e|e
    ·simpa[e]using n
    ·simp[Array.getElem?_eq_none e]
   obtain⟨t,x⟩:=J j p L F A m;have K:=ZAK s L t (λcs b=>d i O cs b z) (λcs b=>d j p cs b L) M x y I;refine wpOp_mono (λD w' q=>⟨q.1,S (l.setIfInBounds j true) D w' (N.set g) (ready_mono r (Ne.symm F)) q.2.1 ?_⟩) K;rw[Array.setIfInBounds_comm _ _ F];exact q.2.2
def ZmB (ops:Array Oper):Bool:=ops.all λo=>match o.op with
 | .select _ _=>false
 |_=>true
def ZFT (Γ:Gam) (ops:Array Oper) (M:List Nat) (i:Nat):Bool :=
 match ops[i]? with
 |none=>false
 |some o=>Zfs o.op&&(List.range ops.size).all λj=>j==i||Zdr M i j||Zdr M j i||match ops[j]? with
  |none=>true
  |some O=>o.apart ops O&&(!isLoad o.op||Zkd Γ O.op)
def ZJo:Op->Bool
 | .indexAddr _ _ _=>true
 |_=>false
def ZFp (ops:List Oper):Bool:=ops.all λo=>match o.op with
 | .store _ (.tmp t) _=>ops.any λo'=>(match o'.dst with
  |some d=>Nat.beq d t
  | none=>false)&&ZJo o'.op
 | .store _ _ _=>false
 |_=>true
def ZDO (st:Bool) (op:Op):Option Operand:=match op with
 | .store _ x _=>match st with
  |true=>some x
  |false=>none
 |op=>appArg op
variable {st:Bool} {op:Op} {x:Operand}
theorem Zv2 (h:ZDO st op=some x):appArg op=some x:=by
 unfold ZDO at h;split at h
 ·split at h
  ·exact h
  ·cases h
 ·exact h
def ZHE (Γ:Gam) (st:Bool) (op:Op):Bool:=(ZDO st op).isSome||(Zkz Γ op).isSome
variable {Γ:Gam}
theorem ZGy (h:appArg op=some x):Zkz Γ op=none:=by
 unfold appArg at h;split at h
 ·rfl
 ·rfl
 ·cases h
def ZzU (o:Oper):Bool:=match o.op,o.guard with
 | .load _ _,none=>true
 |_,_=>false
def ZFU (Γ:Gam) (ops:Array Oper) (M:List Nat) (i:Nat):Bool :=
 match ops[i]? with
 |none=>false
 |some o=>ZzU o&&(List.range ops.size).all λj=>j==i||Zdr M i j||Zdr M j i||match ops[j]? with
  |none=>true
  |some O=>o.apart ops O&&(Zkd Γ O.op||ZHE Γ (ZFp ops.toList) O.op)
def ZcX (Γ:Gam) (ops:Array Oper) (M:List Nat):ZbD->Nat->Array Bool->Option (List Nat)->Bool
 | .done,_,l,none=>(Region.ready .any ops l).isEmpty
 | .done,_,_,some r=>r.isEmpty
 | .op i p,n+1,l,none=>(Region.ready .any ops l).contains i&&ZFT Γ ops M i&&ZcX Γ ops M p n (l.setIfInBounds i true) none
 | .ld i p,n+1,l,none=>(Region.ready .any ops l).contains i&&ZFU Γ ops M i&&ZcX Γ ops M p n (l.setIfInBounds i true) none
 | .alt i p q,n+1,l,none=>(Region.ready .any ops l).contains i&&ZcX Γ ops M p n (l.setIfInBounds i true) none&&ZcX Γ ops M q (n+1) l (some ((Region.ready .any ops l).filter (· != i)))
 | .alt i p q,n+1,l,some r=>ZcX Γ ops M p n (l.setIfInBounds i true) none&&ZcX Γ ops M q (n+1) l (some (r.filter (· != i)))
 |_,_,_,_=>false
def Ze6 (i:Nat):List Nat->Bool
 |[]=>false
 |j::r=>Nat.beq j i||Ze6 i r
def Zj3:List Nat->List Entry->Prop->Prop
 |[],_,K=>K
 |i::r,H,K=>Zh8 H i λe=>match e with
  | .box _=>Zj3 r H K
  |_=>False
def wrK (V:List Nat) (R:List SV) (H:List Entry):List Operand->Prop->Prop
 |[],K=>Zj3 V H K
 |x::r,K=>ZaH R x λs=>match s with
  | .ptr i _=>Ze6 i V=false/\Zh8 H i λe=>match e with
   | .box _=>wrK V R H r K
   |_=>False
  |_=>False
def ZFe (Γ:Gam) (st:Bool) (V:List Nat) (r:List SV) (H:List Entry) (op:Op) (K:Prop):Prop:=match V with
 |[]=>K
 |_=>match ZDO st op with
  |none=>match Zkz Γ op with
   |none=>K
   |some xs=>wrK V r H xs K
  |some x=>ZaH r x λs=>match s with
   | .nsl=>K
   | .own i=>Ze6 i V=false/\Zh8 H i λe=>match e with
    | .arr _ _ _=>Zj3 V H K
    | .darr _ _ _ _=>Zj3 V H K
    |_=>False
   | .oep i _ _ _=>Ze6 i V=false/\Zh8 H i λe=>match e with
    | .arr _ _ _=>Zj3 V H K
    | .darr _ _ _ _=>Zj3 V H K
    | .hole _ _ _ _ _ _=>Zj3 V H K
    |_=>False
   |_=>False
def ldK (Δ:Tab) (V:List Nat) (o:Oper) (R:List SV) (H:List Entry) (K:List SV->Prop):Prop:=match o.op,o.guard with
 | .load T x,none=>Zed Δ T λt=>ZaH R x λs=>match s with
  | .ptr I f=>Ze6 I V=true/\Zh8 H I λe=>match e with
   | .box cells=>Zj8 cells f λcs=>JC t cs λr=>ZxO R o.dst r K
   |_=>False
  |_=>False
 |_,_=>False
def ZFu:Prop:=True
def ZjY (Δ:Tab) (Γ:Gam) (ops:List Oper) (V:List Nat):ZbD->Bool->List SV->List Entry->(List SV->List Entry->Prop)->Prop
 | .done,false,r,H,K=>ZFu/\K r H
 | .done,true,_,_,_=>True
 | .op i p,_,r,H,K=>ZzJ ops i λo=>ZzM Δ Γ ops o r H λa H'=>ZjY Δ Γ ops V p false a H' K
 | .ld i p,_,r,H,K=>ZzJ ops i λo=>ldK Δ V o r H λa=>ZjY Δ Γ ops V p false a H K
 | .can _,_,_,_,_=>False
 | .alt i p .done,_,r,H,K=>ZzJ ops i λo=>ZFe Γ (ZFp ops) V r H o.op (ZzM Δ Γ ops o r H λa H'=>ZjY Δ Γ ops V p false a H' K)
 | .alt i p q,_,r,H,K=>(ZzJ ops i λo=>ZFe Γ (ZFp ops) V r H o.op (ZzM Δ Γ ops o r H λa H'=>ZjY Δ Γ ops V p false a H' K))/\ZjY Δ Γ ops V q true r H K
def ZG4 (Γ:Gam) (ops:Array Oper) (j:Nat):Bool:=match ops[j]? with
 |some o=>Zkd Γ o.op
 |none=>true
def ZDN (Γ:Gam) (ops:Array Oper) (j:Nat):Bool:=match ops[j]? with
 |some o=>ZHE Γ (ZFp ops.toList) o.op
 |none=>false
def VOk (V:List Nat) (Bk:Nat->Option Nat) (E:Env):Prop:=∀I,Ze6 I V=true->∃b,Bk I=some b/\E.ids[I]?=some (.pointer (some ⟨b,0,none⟩))
variable {V:List Nat} {Bk:Nat->Option Nat}
theorem VOk.le {E E':Env} (h:VOk V Bk E) (e:E.le E'):VOk V Bk E':=λI l=>by
 obtain⟨b,d,f⟩:=h I l;exact⟨b,d,e.ids _ _ f⟩
def ZqW (B:Base) (V:List Nat) (Bk:Nat->Option Nat) (r:List SV) (H:List Entry) (a:Act) (w:World):Prop :=
 ∃E,VOk V Bk E/\E.w=w/\Inv B E H/\Yo E r a.tmps.toList/\a.defers=[]
theorem ZqW.ZJV {B:Base} {r:List SV} {H:List Entry} {a:Act} {w:World} (h:ZqW B V Bk r H a w):Conc B r H a w:=by
 obtain⟨E,_,h⟩:=h;exact⟨E,h⟩
def Leaves (Γ:Gam) (ops:Array Oper) (V:List Nat) (Bk:Nat->Option Nat) (j:Nat) (w w':World):Prop :=
 (ZG4 Γ ops j=true->Grow w w')/\(ZDN Γ ops j=true->∀I b,Ze6 I V=true->Bk I=some b->b<w.heap.size->w'.heap[b]?=w.heap[b]?)
theorem Leaves.refl {ops:Array Oper} (w:World):Leaves Γ ops V Bk j w w:=⟨λ_=>Grow.refl w,λ_ _ _ _ _ _=>rfl⟩
def Rb (b:Nat) (w w':World):Prop:=b<w.heap.size->b<w'.heap.size/\w'.heap[b]?=w.heap[b]?
theorem Rb.way (b:Nat):Way (Rb b):=⟨λw h=>⟨h,rfl⟩,λx y z d f h=>by
 obtain ⟨a,A⟩:=d h;obtain ⟨U,W⟩:=f a;exact ⟨U,W.trans A⟩⟩
theorem Rb.of {b:Nat} {w w':World} (h:b<w.heap.size->w'.heap[b]?=w.heap[b]?):Rb b w w':=λH=>by
 refine⟨?_,h H⟩;have:=h H;rw[Array.getElem?_eq_getElem H]at this;exact(U9.1 this).1
theorem Zj4:∀(V:List Nat) {H:List Entry} {K:Prop},Zj3 V H K->K/\∀I,Ze6 I V=true->∃cells,H[I]?=some (.box cells)
 |[],H,K,h=>⟨h,λI l=>by cases l⟩
 |i::r,H,K,h=>by
  unfold Zj3 at h;obtain⟨e,m,h⟩:=Xn H h;split at h
  ·rename_i cells
   obtain⟨k,F⟩:=Zj4 r h;refine⟨k,λI l=>?_⟩;unfold Ze6 at l;rcases KP _ _▸l with b|b
   ·have:=Nat.eq_of_beq_eq_true b
    subst this;exact⟨cells,m⟩
   ·exact F I b
  ·exact h.elim
theorem ZDH {B:Base} {E:Env} {H:List Entry} (j:Inv B E H) {R:List SV} {a:Act} (N:Yo E R a.tmps.toList) {V:List Nat} {Bk:Nat->Option Nat} (v:VOk V Bk E):∀(xs:List Operand) {K:Prop},wrK V R H xs K->
  K/\(∀I,Ze6 I V=true->∃cells,H[I]?=some (.box cells))/\∀I b,Ze6 I V=true->Bk I=some b->∀x∈xs,YS (a.eval x)≠some b
 |[],K,h=>⟨(Zj4 V h).1,(Zj4 V h).2,λI b _ _ x A=>by cases A⟩
 |x::r,K,h=>by
  unfold wrK at h;obtain⟨s,n,h⟩:=YM N h;split at h
  ·rename_i i O
   obtain⟨z,h⟩:=h;obtain⟨M,u,h⟩:=Xn H h;split at h
   ·rename_i cells
    obtain⟨w,c,F⟩:=ZDH j N v r h;refine⟨w,c,λI b l k y g=>?_⟩;rcases UB.1 g with rfl|g
    ·simp only[den]at n
     obtain⟨b0,o,p⟩:=n;rw[p];intro e;simp only[YS,Option.some.injEq]at e;subst e;obtain⟨X,m,f⟩:=v I l;rw[k]at m;injection m with m
     subst m;obtain⟨cells',t⟩:=c I l;have d:i≠I:=λq=>by subst q;rw[z]at l;cases l
     exact Zpw j t f u rfl o d (by simp[ZiH,YS])
    ·exact F I b l k y g
   ·exact h.elim
  ·exact h.elim
theorem ZDM {B:Base} {E:Env} {H:List Entry} (D:Inv B E H) {r:List SV} {a:Act} (X:Yo E r a.tmps.toList) (P:VOk V Bk E) {K:Prop} (h:ZFe Γ st V r H op K) :
  (K/\∀x,ZDO st op=some x->∀w',E.w.grownBy w' (YS (a.eval x))->∀I b,Ze6 I V=true->Bk I=some b->b<E.w.heap.size->w'.heap[b]?=E.w.heap[b]?)/\
  ∀xs,Zkz Γ op=some xs->∀I b,Ze6 I V=true->Bk I=some b->∀x∈xs,YS (a.eval x)≠some b:=by
 unfold ZFe at h;split at h
 ·exact⟨⟨h,λx _ w' _ I b l=>by cases l⟩,λxs _ I b l=>by cases l⟩
 ·split at h
  ·rename_i t
   split at h
   ·rename_i U
    exact⟨⟨h,λx n=>by rw[t]at n;cases n⟩,λxs n=>by rw[U]at n;cases n⟩
   ·rename_i xs U
    obtain⟨L,_,h2⟩:=ZDH D X P xs h;exact⟨⟨L,λx n=>by rw[t]at n;cases n⟩,λys c=>by rw[U]at c;injection c with c;subst c;exact h2⟩
  ·rename_i x t
   refine⟨?_,λxs n=>by rw[ZGy (Zv2 t)]at n;cases n⟩;obtain⟨s,A,h⟩:=YM X h;split at h
   ·simp only[den]at A
    refine⟨h,λy c w' o I b _ _ J=>?_⟩;rw[t]at c;injection c with c;subst c
    rw[A]at o;exact o.block b J (λe=>by simp[YS]at e)
   ·rename_i k
    obtain⟨S,h⟩:=h;obtain⟨G,F,h⟩:=Xn H h;simp only[den]at A;have M:∀{K:Prop},Zj3 V H K->G.live=true->(∀g,YS (a.eval x)=some g->ZiH G (a.eval x) g)->K/\∀y,ZDO st op=some y->∀w',E.w.grownBy w' (YS (a.eval y))->∀I b,Ze6 I V=true->Bk I=some b->b<E.w.heap.size->w'.heap[b]?=E.w.heap[b]?:=by
     intro K h R d;obtain⟨L,f⟩:=Zj4 V h;refine⟨L,λy c w' o I b l z J=>?_⟩;rw[t]at c;injection c with c;subst c
     obtain⟨cells,Q⟩:=f I l;obtain⟨Y,m,u⟩:=P I l;rw[z]at m;injection m with m;subst m
     refine o.block b J (λe=>?_);have j:k≠I:=λq=>by subst q;rw[S]at l;cases l
     exact Zpw D Q u F R A.1 j (d b e.symm)
    split at h
    ·exact M h rfl (λg o=>o)
    ·obtain⟨v,xs,O,N,_,_,p,_⟩:=D.ent k _ F
     have:=A.1.symm.trans N;simp at this;subst this;exact M h rfl (λg o=>by simp only[ZiH];rw[p,o];simp)
    ·exact h.elim
   ·rename_i k sz i a7
    obtain⟨S,h⟩:=h;obtain⟨G,F,h⟩:=Xn H h;simp only[den]at A;obtain⟨W,Z,n0,c0,C,T⟩:=A;have M:∀{K:Prop},Zj3 V H K->G.live=true->ZiH G (.slice (some ⟨W,Z,none⟩) n0 c0) W->K/\∀y,ZDO st op=some y->∀w',E.w.grownBy w' (YS (a.eval y))->∀I b,Ze6 I V=true->Bk I=some b->b<E.w.heap.size->w'.heap[b]?=E.w.heap[b]?:=by
     intro K h R d;obtain⟨L,f⟩:=Zj4 V h;refine⟨L,λy c w' o I b l z J=>?_⟩;rw[t]at c;injection c with c;subst c
     obtain⟨cells,Q⟩:=f I l;obtain⟨Y,m,u⟩:=P I l;rw[z]at m;injection m with m;subst m
     refine o.block b J (λe=>?_);rw[T]at e;simp only[YS,Option.some.injEq]at e;subst e;have j:k≠I:=λq=>by subst q;rw[S]at l;cases l
     exact Zpw D Q u F R C j d
    split at h
    ·exact M h rfl rfl
    ·obtain⟨v,xs,O,N,_,_,p,_⟩:=D.ent k _ F
     have:=C.symm.trans N;simp at this;subst this;exact M h rfl (by simp only[ZiH];rw[p];simp[YS])
    ·obtain⟨v,xs,x1,a8,x2,f1,f2,k1,ho,a2,a3,ex,el,a0,a5,a6,a1,ef,a4⟩:=D.ent k _ F
     have:=C.symm.trans k1;simp at this;subst this;exact M h rfl (by simp only[ZiH];rw[ef];simp[YS])
    ·exact h.elim
   ·exact h.elim
theorem ZBk {M:List Nat} (hM:∀i j,Zdr M i j=true->Behind ops i j) {Δ:Tab} (hΔ:Δ.ok P) {Γ:Gam} (hΓ:Γ.ok P) {B:Base} {V:List Nat} {Bk:Nat->Option Nat} {Q:Exit->Act->World->Prop} (hQ:∀c a w,¬Q (.panic c) a w) (hs:ZmB ops=true) {K:List SV->List Entry->Prop}
  (hq:∀e H' W w',K e H'->ZqW B V Bk e H' W w'->Q .normal W w') :
  ∀(p:ZbD) (n:Nat) (l:Array Bool) (m:Option (List Nat)) (d:List SV) (H:List Entry) (a:Act) (w:World),ZqW B V Bk d H a w->Down ops l->ZcX Γ ops M p n l m=true->ZjY Δ Γ ops.toList V p m.isSome d H K->
   match m with
   |none=>Zox P ops (Leaves Γ ops V Bk) Q n l a w
   |some S=>∀i∈S,i∈Region.ready .any ops l->wpOp P ops Q i (λW w'=>Leaves Γ ops V Bk i w w'/\Zox P ops (Leaves Γ ops V Bk) Q (n-1) (l.setIfInBounds i true) W w') a w:=by
 have Z:∀(j:Nat) (o:Oper) cs b,ops[j]?=some o->o.op≠.select cs b:=by
  intro j o cs b A he;unfold ZmB at hs;rw[Array.all_eq_true_iff_forall_mem]at hs;have:=hs o (Array.mem_of_getElem? A);rw[he]at this;cases this
 have L:∀(i n:Nat) (l:Array Bool) (p:ZbD) (d:List SV) (H:List Entry) (a:Act) (w:World),ZqW B V Bk d H a w->Down ops l->i∈Region.ready .any ops l->ZcX Γ ops M p n (l.setIfInBounds i true) none=true->
   (∀d H a w,ZqW B V Bk d H a w->ZjY Δ Γ ops.toList V p false d H K->Zox P ops (Leaves Γ ops V Bk) Q n (l.setIfInBounds i true) a w)->
   (ZzJ ops.toList i λo=>ZFe Γ (ZFp ops.toList) V d H o.op (ZzM Δ Γ ops.toList o d H λe H'=>ZjY Δ Γ ops.toList V p false e H' K))->
   wpOp P ops Q i (λW w'=>Leaves Γ ops V Bk i w w'/\Zox P ops (Leaves Γ ops V Bk) Q n (l.setIfInBounds i true) W w') a w:=by
  intro i n l p d H a w t N D g ih k;obtain⟨o,ho,k⟩:=ZnQ _ k;have Y:ops[i]?=some o:=by simpa using ho
  unfold wpOp;simp only[Y];obtain⟨E,hV,rfl,X,C,z⟩:=t;obtain⟨⟨k,a8⟩,b9⟩:=ZDM X C hV k;refine ZwO hΔ hΓ ops o X C z k (λe H' W E' O d2 a1 a2 d9 hg d3 e1=>⟨⟨λd8=>hg ?_,λU=>?_⟩,ih e H' W E'.w ⟨E',hV.le d9,rfl,d2,a1,a2⟩ O⟩)
  ·simpa[ZG4,Y]using d8
  ·simp only[ZDN,Y,ZHE,KP,Option.isSome_iff_exists]at U
   rcases U with⟨x,hx⟩|⟨xs,hx⟩
   ·exact a8 x hx _ (d3 x (Zv2 hx))
   ·exact λid b hi a0 a5=>e1 xs hx b a5 (b9 xs hx id b hi a0)
 intro p;induction p with
 |done =>
  intro n l m d H a w t N g k;cases m with
  |none =>
   simp only[ZcX,KU]at g;simp only[ZjY,Option.isSome]at k;cases n with
   |zero=>exact⟨g,hq _ _ _ _ k.2 t⟩
   |succ n=>exact⟨λ_=>hq _ _ _ _ k.2 t,λi hi=>by rw[g]at hi;cases hi⟩
  |some S =>
   simp only[ZcX,KU]at g;subst g;intro i hi;cases hi
 |op i p ih =>
  intro n l m d H a w t N g k;cases m with
  |some S=>cases n<;>simp[ZcX]at g
  |none =>
   cases n with
   |zero=>simp[ZcX]at g
   |succ n =>
    simp only[ZcX,Ur,List.contains_iff_mem]at g;obtain⟨⟨D,G⟩,g⟩:=g;simp only[ZjY]at k;obtain⟨o,ho,k⟩:=ZnQ _ k;have Y:ops[i]?=some o:=by simpa using ho
    unfold ZFT at G;simp only[Y,Ur]at G;obtain⟨hl,G⟩:=G;obtain⟨E,hV,rfl,X,C,z⟩:=t;obtain⟨v,hy,e,H',O,E',b4,a7,d6⟩:=Zzs hΔ ops o hl X C z k;have a3:∀j oj,ops[j]?=some oj->j≠i->Zdr M i j=false->Zdr M j i=false->o.apart ops oj=true/\(isLoad o.op=true->Zkd Γ oj.op=true):=by
     intro j oj A F U J;rw[KD]at G;have:=G j (KF.2 (U9.1 A).1);simp only[A,U,J,KP,Kj,Ur,UU,Ka,Kv]at this;rcases this with h|⟨I,f⟩
     ·exact absurd h F
     ·refine⟨I,λa4=>?_⟩
      rcases f with f|f
      ·rw[a4]at f;cases f
      ·exact f
    refine Zoy (R:=λw w'=>isLoad o.op=true->Zto w w') ⟨λw _=>Zto.refl w,λa b c I f h=>(I h).trans (f h)⟩ Y (λw=>Leaves.refl w) Z hQ ?_ n l a E.w N D hy (ih n _ none e H' _ _ ⟨E',hV.le b4,a7,d6⟩ (N.set D) g O);intro j oj A F U J;have nb:∀x y,¬Behind ops x y->Zdr M x y=false:=λx y h=>by
     cases hh:Zdr M x y with
     |false=>rfl
     |true=>exact absurd (hM x y hh) h
    obtain⟨I,f⟩:=a3 j oj A F (nb _ _ U) (nb _ _ J);exact⟨I,λw w' h a4=>(h.1 (by simpa[ZG4,A]using f a4)).ZMP⟩
 |ld i p ih =>
  intro n l m d H a w t N g k;cases m with
  |some S=>cases n<;>simp[ZcX]at g
  |none =>
   cases n with
   |zero=>simp[ZcX]at g
   |succ n =>
    simp only[ZcX,Ur,List.contains_iff_mem]at g;obtain⟨⟨D,G⟩,g⟩:=g;simp only[ZjY]at k;obtain⟨o,ho,k⟩:=ZnQ _ k;have Y:ops[i]?=some o:=by simpa using ho
    obtain⟨E,hV,rfl,X,C,z⟩:=t;unfold ZFU at G;simp only[Y,Ur]at G;obtain⟨_,G⟩:=G;unfold ldK at k;split at k
    ·rename_i T x b7 hg
     obtain⟨ti,ht,k⟩:=XR Δ hΔ k;obtain⟨s,e0,k⟩:=YM C k;split at k
     ·rename_i id e3
      obtain⟨b1,k⟩:=k;obtain⟨en,he,k⟩:=Xn H k;split at k
      ·rename_i cells
       obtain⟨b,u,r,U,b8,b0,k⟩:=Zxx X ht e0 he k;obtain⟨b',a0,d4⟩:=hV id b1;have:=U.symm.trans d4;simp at this;subst this;have a5:b<E.w.heap.size:=(X.free id _ _ b he rfl U (by simp[ZiH,YS])).2.2;obtain⟨e,a1,O,d7⟩:=ZmF (dst:=o.dst) (v:=u) C b0 k;have b5:Lit P ops (Rb b) o u a E.w:=by
        refine .inl ⟨by simp[Region.wanted,hg],λw' a7=>?_⟩;have I:=b8 w' (a7 a5).2;obtain⟨dst,op,e2,pos,after,guard⟩:=o;simp only at b7;subst b7;show Sem.run P (do pure (Next.value (<-Instr.loadAt T (a.eval x))):Sem Next) w'=_;rw[Sem.run_bind,I];rfl
       refine Zoy (R:=Rb b) (Rb.way b) Y (λw=>Leaves.refl w) Z hQ ?_ n l a E.w N D b5 (ih n _ none e H _ _ ⟨E,hV,rfl,X,a1,by rw[d7];exact z⟩ (N.set D) g O);intro j oj A F d5 J;have nb:∀x y,¬Behind ops x y->Zdr M x y=false:=λx y h=>by
        cases hh:Zdr M x y with
        |false=>rfl
        |true=>exact absurd (hM x y hh) h
       rw[KD]at G;have:=G j (KF.2 (U9.1 A).1);simp only[A,nb _ _ d5,nb _ _ J,KP,Kj,Ur,Ka,Kv]at this;rcases this with h|⟨I,f⟩
       ·exact absurd h F
       ·refine⟨I,λw w' b6=>Rb.of λa9=>?_⟩
        rcases f with f|f
        ·exact b6.1 (by simpa[ZG4,A]using f) b a9
        ·exact b6.2 (by simpa[ZDN,A]using f) id b b1 a0 a9
      ·exact k.elim
     ·exact k.elim
    ·exact k.elim
 |can p ih =>
  intro n l m d H a w t N g k;cases n<;>cases m<;>simp[ZcX]at g
 |alt i p q d0 d1 =>
  intro n l m d H a w t N g k;cases n with
  |zero=>cases m<;>simp[ZcX]at g
  |succ n =>
   obtain⟨b2,b3⟩:(ZzJ ops.toList i λo=>ZFe Γ (ZFp ops.toList) V d H o.op (ZzM Δ Γ ops.toList o d H λe H'=>ZjY Δ Γ ops.toList V p false e H' K))/\ZjY Δ Γ ops.toList V q true d H K:=by
    cases q with
    |done=>exact⟨by simpa only[ZjY]using k,trivial⟩
    |_=>simpa only[ZjY]using k
   cases m with
   |none =>
    simp only[ZcX,Ur,List.contains_iff_mem]at g;obtain⟨⟨D,g⟩,a6⟩:=g;have I:=L i n l p d H a w t N D g (λd H a w t k=>d0 n _ none d H a w t (N.set D) g k) b2;have f:=d1 (n+1) l (some _) d H a w t N a6 b3;refine⟨λh=>(by rw[h]at D;cases D),λj A=>?_⟩;by_cases F:j=i
    ·subst F;exact I
    ·exact f j (KH.2 ⟨A,by simpa using F⟩) A
   |some S =>
    simp only[ZcX,Ur]at g;obtain⟨g,a6⟩:=g;have f:=d1 (n+1) l (some _) d H a w t N a6 b3;intro j A D;by_cases F:j=i
    ·subst F
     exact L j n l p d H a w t N D g (λd H a w t k=>d0 n _ none d H a w t (N.set D) g k) b2
    ·exact f j (KH.2 ⟨A,by simpa using F⟩) D
def ZEd (Δ:Tab) (Γ:Gam) (ops:List Oper) (V:List Nat) (p:ZbD) (r:List SV) (H:List Entry) (K:List SV->List Entry->Prop):Prop:=match p with
 | .can p=>ZjY Δ Γ ops V p false r H λa H'=>Zvg H 0 λn=>canonK n a H' K
 |p=>ZjY Δ Γ ops V p false r H K
def Zzf:ZbD->Bool
 | .done=>false
 | .op _ p=>Zzf p
 | .ld _ _=>true
 | .alt _ p q=>Zzf p||Zzf q
 | .can p=>Zzf p
def Ztj:Nat->List Entry->(List Nat->Prop)->Prop
 |_,[],K=>K []
 |n,e::r,K=>Ztj (n+1) r λV=>match e with
  | .box _=>K (n::V)
  |_=>K V
def ZEf (i:Nat):List Nat->(List Nat->Prop)->Prop
 |[],K=>K []
 |j::r,K=>ZEf i r λR=>match Nat.beq j i with
  |true=>K R
  |false=>K (j::R)
def ZBq:List SV->Nat->List Nat->(List Nat->Prop)->Prop
 |[],_,V,K=>K V
 |s::_,0,V,K=>match s with
  | .ptr i _=>ZEf i V K
  |_=>K V
 |_::r,n+1,V,K=>ZBq r n V K
def ZAo (t:Nat):List Oper->Nat
 |[]=>t
 |o::r=>match o.dst,o.op with
  |some d,.move (.tmp t')=>match Nat.beq d t with
   |true=>t'
   |false=>ZAo t r
  |_,_=>ZAo t r
def ZtI (all:List Oper) (s:List SV):List Operand->List Nat->(List Nat->Prop)->Prop
 |[],V,K=>K V
 |x::r,V,K=>match x with
  | .tmp t=>ZBq s (ZAo t all) V λV'=>ZtI all s r V' K
  |_=>ZtI all s r V K
def ZpH (Γ:Gam) (all:List Oper) (s:List SV):List Oper->List Nat->(List Nat->Prop)->Prop
 |[],V,K=>K V
 |o::r,V,K=>match Zkz Γ o.op with
  |none=>ZpH Γ all s r V K
  |some xs=>ZtI all s xs V λV'=>ZpH Γ all s r V' K
theorem Zwi (i:Nat):∀(V:List Nat) {K:List Nat->Prop},ZEf i V K->∃V',K V'/\∀I,Ze6 I V'=true->Ze6 I V=true
 |[],K,h=>⟨[],h,λI h=>h⟩
 |j::r,K,h=>by
  obtain⟨R,f,F⟩:=Zwi i r h;clear h;split at f
  ·exact⟨R,f,λI h=>by unfold Ze6;rw[F I h,Bool.or_true]⟩
  ·refine⟨j::R,f,λI h=>?_⟩
   unfold Ze6 at h ⊢;rcases KP _ _▸h with h|h
   ·rw[h,Bool.true_or]
   ·rw[F I h,Bool.or_true]
theorem Zwj:∀(l:List SV) (n:Nat) (V:List Nat) {K:List Nat->Prop},ZBq l n V K->∃V',K V'/\∀I,Ze6 I V'=true->Ze6 I V=true
 |[],_,V,K,h=>⟨V,h,λI h=>h⟩
 |s::_,0,V,K,h=>by
  unfold ZBq at h;split at h
  ·exact Zwi _ V h
  ·exact⟨V,h,λI h=>h⟩
 |_::r,n+1,V,K,h=>Zwj r n V h
theorem ZpI (all:List Oper) (s:List SV):∀(xs:List Operand) (V:List Nat) {K:List Nat->Prop},ZtI all s xs V K->∃V',K V'/\∀I,Ze6 I V'=true->Ze6 I V=true
 |[],V,K,h=>⟨V,h,λI h=>h⟩
 |x::r,V,K,h=>by
  unfold ZtI at h;split at h
  ·obtain⟨V1,d,a⟩:=Zwj _ _ _ h
   obtain⟨V2,f,A⟩:=ZpI all s r V1 d;exact⟨V2,f,λI q=>a I (A I q)⟩
  ·exact ZpI all s r V h
theorem Zm7 (Γ:Gam) (all:List Oper) (s:List SV):∀(l:List Oper) (V:List Nat) {K:List Nat->Prop},ZpH Γ all s l V K->∃V',K V'/\∀I,Ze6 I V'=true->Ze6 I V=true
 |[],V,K,h=>⟨V,h,λI h=>h⟩
 |o::r,V,K,h=>by
  unfold ZpH at h;split at h
  ·exact Zm7 Γ all s r V h
  ·obtain⟨V1,d,a⟩:=ZpI _ _ _ _ h
   obtain⟨V2,f,A⟩:=Zm7 Γ all s r V1 d;exact⟨V2,f,λI q=>a I (A I q)⟩
def ZBl (Γ:Gam) (ops:List Oper) (r:List SV) (p:ZbD) (H:List Entry) (K:List Nat->Prop):Prop:=match Zzf p with
 |false=>K []
 |true=>Ztj 0 H λV=>ZpH Γ ops r ops V K
theorem ZqS:∀(H:List Entry) (n:Nat) {K:List Nat->Prop},Ztj n H K->∃V,K V/\∀I,Ze6 I V=true->n<=I/\∃cells,H[I-n]?=some (.box cells)
 |[],n,K,h=>⟨[],h,λI l=>by cases l⟩
 |e::r,n,K,h=>by
  obtain⟨V,f,v⟩:=ZqS r (n+1) h;clear h;have d:∀I,Ze6 I V=true->n<=I/\∃cells,(e::r)[I-n]?=some (.box cells):=by
   intro I l;obtain⟨a,c,q⟩:=v I l;refine⟨by omega,c,?_⟩;rw[show I-n=(I-(n+1))+1 by omega,Kf];exact q
  split at f
  ·rename_i cells
   refine⟨_,f,λI l=>?_⟩;unfold Ze6 at l;rcases KP _ _▸l with b|b
   ·have:=Nat.eq_of_beq_eq_true b
    subst this;exact⟨UO _,cells,by rw[Nat.sub_self];rfl⟩
   ·exact d I b
  ·exact⟨_,f,d⟩
variable {p:ZbD}
theorem ZBm {ops:List Oper} {r:List SV} {H:List Entry} {K:List Nat->Prop} (h:ZBl Γ ops r p H K):∃V,K V/\∀I,Ze6 I V=true->∃cells,H[I]?=some (.box cells):=by
 unfold ZBl at h;split at h
 ·exact⟨[],h,λI l=>by cases l⟩
 ·obtain⟨V,h,v⟩:=ZqS H 0 h
  obtain⟨V',b,a⟩:=Zm7 Γ ops r ops V h;exact⟨V',b,λI l=>(v I (a I l)).2⟩
theorem Conc.drew {B:Base} {r:List SV} {H:List Entry} {a:Act} {w:World} (h:Conc B r H a w):Conc B r H a {w with drawn:=w.drawn+1}:=by
 obtain⟨E,d,m,N,f⟩:=h;subst d;have c:E.le ⟨E.S,{E.w with drawn:=E.w.drawn+1},E.ids⟩:=⟨λb h=>h,λb h=>rfl,λi v h=>h⟩
 refine⟨⟨E.S,{E.w with drawn:=E.w.drawn+1},E.ids⟩,rfl,?_,ZV c _ _ N,f⟩
 exact⟨⟨m.keeps.os,m.keeps.tape,m.keeps.output,m.keeps.size,m.keeps.block⟩,m.Slt,m.Sold,m.len,m.pin,λi e l=>Zfd c i e (λ_ _ _ _ _=>rfl) (m.ent i e l),m.free,m.sep⟩
theorem ZqW.drew {B:Base} {r:List SV} {H:List Entry} {a:Act} {w:World} (h:ZqW B V Bk r H a w):ZqW B V Bk r H a {w with drawn:=w.drawn+1}:=by
 obtain⟨E,d,g,m,N,f⟩:=h;subst g;have c:E.le ⟨E.S,{E.w with drawn:=E.w.drawn+1},E.ids⟩:=⟨λb h=>h,λb h=>rfl,λi v h=>h⟩
 refine⟨⟨E.S,{E.w with drawn:=E.w.drawn+1},E.ids⟩,d,rfl,?_,ZV c _ _ N,f⟩
 exact⟨⟨m.keeps.os,m.keeps.tape,m.keeps.output,m.keeps.size,m.keeps.block⟩,m.Slt,m.Sold,m.len,m.pin,λi e l=>Zfd c i e (λ_ _ _ _ _=>rfl) (m.ent i e l),m.free,m.sep⟩
theorem VOk.ex (V:List Nat) {B:Base} {E:Env} {H:List Entry} (m:Inv B E H) (h:∀I,Ze6 I V=true->∃cells,H[I]?=some (.box cells)):∃Bk,VOk V Bk E:=by
 refine ⟨λI=>match E.ids[I]? with
  |some (.pointer (some ⟨b,_,_⟩))=>some b
  | _=>none,λI l=>?_⟩
 obtain⟨cells,q⟩:=h I l;obtain⟨b,_,_,d,_⟩:=m.ent I _ q;exact⟨b,by simp only[d],d⟩
theorem ZBn {Δ:Tab} (hΔ:Δ.ok P) (hΓ:Γ.ok P) {B:Base} {id:Nat} (W:P.follows .mixedOrders=true) {M:List Nat} (F:ZlK ops.toList []=M) (Y:ZmB ops=true)
  (L:ZcX Γ ops M p.core ops.size (Array.replicate ops.size false) none=true) {s:List SV} {H:List Entry} {a:Act} {w:World} (I:Conc B s H a w)
  {K0:List SV->List Entry->Prop} (x:ZBl Γ ops.toList s p.core H λV=>ZEd Δ Γ ops.toList V p s H K0)
  (k:∀r H' A w',K0 r H'->Conc B r H' A w'->Q .normal A w'):(Code.region id ops true).wp P Q a w:=by
 obtain⟨V,x,t⟩:=ZBm x;have n:∀(i:Nat) (v:Value),B.pin[i]?=some v->i<H.length:=λi v T=>by
  obtain⟨E,_,f,_⟩:=I;have:=(Ub.1 (f.pin i v T)).1;rw[f.len]at this;exact this
 obtain⟨K,J,X⟩:∃K:List SV->List Entry->Prop,ZjY Δ Γ ops.toList V p.core false s H K/\∀r H' A w',K r H'->Conc B r H' A w'->Q .normal A w':=by
  unfold ZEd at x;split at x
  ·refine⟨_,x,λr H' A w' h u=>?_⟩
   rw[ZdT,Us]at h;obtain⟨R,H2,l,z⟩:=ZyF n h u;exact k _ _ _ _ l z
  ·rename_i D
   have y:p.core=p:=by
    cases p with
    |can q=>exact absurd rfl (D q)
    |_=>rfl
   rw[y];exact⟨K0,x,k⟩
 generalize p.core=p at L J;have b:∃Bk,ZqW B V Bk s H a w:=by
  obtain⟨E,Z,f,S,g⟩:=I;obtain⟨Bk,O⟩:=VOk.ex V f t;exact⟨Bk,E,O,Z,f,S,g⟩
 obtain⟨Bk,b⟩:=b;refine Code.wp_mono (Q:=λe a w=>e=.normal/\Q e a w) (λe a w h=>h.2) ?_;refine wp_region_any W (ZrY (G:=Leaves Γ ops V Bk) _ _ _ _ ?_);have o:∀i j,Zdr M i j=true->Behind ops i j:=by
  intro i j h;unfold Zdr at h;cases d:M[j]? with
  |none=>simp[d]at h
  |some m =>
   rw[<-F] at d;exact ZrI ops.toList [] (by simp) (by simp) j m d i (by
    rw[F] at d;simpa[d] using h)
 refine ZBk o hΔ hΓ (Q:=λe a w=>e=.normal/\Q e a w) (λc a w h=>by cases h.1) Y (λr H' A w' N l=>⟨rfl,X r H' A w' N l.ZJV⟩) p ops.size _ none s H a _ b.drew ?_ L J;intro j oj e d U;have C:j<ops.size:=(U9.1 d).1;simp[C]at U
end
def writes:Code->List Nat
 | .region _ ops _=>ops.toList.filterMap (·.dst)
 | .seq a b=>writes a++writes b
 | .cond _ a b=>writes a++writes b
 | .block _ c=>writes c
 | .loop c=>writes c
 | .scope c=>writes c
 |_=>[]
@[irreducible] def Dead:Prop:=False
theorem Dead.no (h:Dead):False:=by unfold Dead at h;exact h
def ZzR:List Oper->Bool
 |[]=>false
 |o::r=>match o.op,o.guard with
  | .panic _,none=>true
  |_,_=>ZzR r
structure Ann where
 loops:List (Nat×List Loc):=[]
 draws:List (Nat×List Nat×ZbD):=[]
def ZBM:List (Nat×List Loc)->Nat->(List Loc->Prop)->Prop
 |[],_,_=>False
 |(n,l)::r,I,K=>if n=I then K l else ZBM r I K
def Zwn:List Nat->(List Nat->Bool)->Bool
 |[],k=>k []
 |x::r,k=>Zwn r λl=>k (x::l)
theorem ZtL:∀(l:List Nat) (k:List Nat->Bool),Zwn l k=k l
 |[],_=>rfl
 |x::r,k=>by unfold Zwn;exact ZtL r _
def ZEE (Γ:Gam) (ops:Array Oper) (M:List Nat) (p:ZbD):Bool:=match M with
 |[]=>Zwn (ZlK ops.toList []) λM=>ZcX Γ ops M p.core ops.size (Array.replicate ops.size false) none
 |_=>ZlK ops.toList []==M&&ZcX Γ ops M p.core ops.size (Array.replicate ops.size false) none
variable {Γ:Gam}
theorem ZB5 {ops:Array Oper} {M:List Nat} {p:ZbD} (h:ZEE Γ ops M p=true):ZcX Γ ops (ZlK ops.toList []) p.core ops.size (Array.replicate ops.size false) none=true:=by
 unfold ZEE at h;split at h
 ·rwa [ZtL]at h
 ·rw[Ur,Kj]at h
  rw[h.1];exact h.2
def ZBN:List (Nat×List Nat×ZbD)->Nat->(List Nat->ZbD->Prop)->Prop
 |[],_,_=>False
 |(n,M,l)::r,I,K=>if n=I then K M l else ZBN r I K
theorem ZwD:∀(A:List (Nat×List Nat×ZbD)) {I:Nat} {K:List Nat->ZbD->Prop},ZBN A I K->∃M l,K M l
 |[],_,_,h=>h.elim
 |(n,M,l)::r,I,K,h=>by
  unfold ZBN at h;split at h
  ·exact⟨M,l,h⟩
  ·exact ZwD r h
theorem ZwC:∀(A:List (Nat×List Loc)) {I:Nat} {K:List Loc->Prop},ZBM A I K->∃l,K l
 |[],_,_,h=>h.elim
 |(n,l)::r,I,K,h=>by
  unfold ZBM at h;split at h
  ·exact⟨l,h⟩
  ·exact ZwC r h
def ZKs:Loc->Bool
 | .cell I _ _=>Nat.ble 1000 I
 | .cello I _ _=>Nat.ble 1000 I
 | .ent I _ _=>Nat.ble 1000 I
 | .splt I _ _=>Nat.ble 1000 I
 |_=>false
def ZDc:List Loc->Bool
 |[]=>false
 |l::r=>match ZKs l with
  |true=>true
  |false=>ZDc r
def ZB0 (I:Nat) (r:List SV) (H:List Entry) (K:Nat->Prop):Prop :=
 ZoP r ((I-1000)/100) λs=>match s with
  | .ptr b o=>Zh8 H b λM=>match M with
   | .box cs=>ZoP cs (o+(I-1000)%100) λc=>match c with
    | .own i=>K i
    |_=>False
   |_=>False
  |_=>False
def Zz3 (r:List SV) (H:List Entry) (K:Loc->Prop) (l:Loc):Prop:=match ZKs l with
 |false=>K l
 |true=>match l with
  | .cell I f t=>ZoP r (I-1000) λs=>match s with
   | .ptr b o=>K (.cell b (o+f) t)
   |_=>False
  | .cello I f e=>ZoP r (I-1000) λs=>match s with
   | .ptr b o=>K (.cello b (o+f) e)
   |_=>False
  | .ent I g e=>ZB0 I r H λi=>K (.ent i g e)
  | .splt I g e=>ZB0 I r H λi=>K (.splt i g e)
  |_=>False
def ZCb (s:List SV) (H:List Entry):List Loc->(List Loc->Prop)->Prop
 |[],K=>K []
 |l::r,K=>Zz3 s H (λl'=>ZCb s H r λR=>K (l'::R)) l
def ZJS (ls:List Loc) (r:List SV) (H:List Entry) (K:List Loc->Prop):Prop:=match ZDc ls with
 |false=>K ls
 |true=>ZCb r H ls K
theorem Zmn:∀(cs:List SV) {n:Nat} {K:SV->Prop},ZoP cs n K->∃s,K s
 |[],_,_,h=>by simp[ZoP]at h
 |s::r,0,_,h=>⟨s,by simpa[ZoP]using h⟩
 |s::r,n+1,_,h=>Zmn r (by simpa[ZoP]using h)
theorem ZwT {I:Nat} {r:List SV} {H:List Entry} {K:Nat->Prop} (h:ZB0 I r H K):∃i,K i:=by
 unfold ZB0 at h;obtain⟨s,h⟩:=Zmn _ h;split at h
 ·obtain⟨M,_,h⟩:=Xn H h
  split at h
  ·obtain⟨c,h⟩:=Zmn _ h
   split at h
   ·exact⟨_,h⟩
   ·exact h.elim
  ·exact h.elim
 ·exact h.elim
theorem Zz4 {r:List SV} {H:List Entry} {K:Loc->Prop} {l:Loc} (h:Zz3 r H K l):∃l',K l':=by
 unfold Zz3 at h;split at h
 ·exact⟨_,h⟩
 ·split at h
  ·obtain⟨s,h⟩:=Zmn _ h
   split at h
   ·exact⟨_,h⟩
   ·exact h.elim
  ·obtain⟨s,h⟩:=Zmn _ h
   split at h
   ·exact⟨_,h⟩
   ·exact h.elim
  ·obtain⟨i,h⟩:=ZwT h
   exact⟨_,h⟩
  ·obtain⟨i,h⟩:=ZwT h
   exact⟨_,h⟩
  ·exact h.elim
theorem ZwX {s:List SV} {H:List Entry}:∀(ls:List Loc) {K:List Loc->Prop},ZCb s H ls K->∃L,K L
 |[],_,h=>⟨[],h⟩
 |l::r,K,h=>by
  obtain⟨l',h⟩:=Zz4 (K:=λl'=>ZCb s H r λR=>K (l'::R)) h;obtain⟨R,h⟩:=ZwX r h;exact⟨_,h⟩
theorem ZFa {ls:List Loc} {r:List SV} {H:List Entry} {K:List Loc->Prop} (h:ZJS ls r H K):∃L,K L:=by
 unfold ZJS at h;split at h
 ·exact⟨_,h⟩
 ·exact ZwX ls h
def sx (Δ:Tab) (Γ:Gam) (A:Ann):Code->Nat->(Exit->List SV->List Entry->Prop)->List SV->List Entry->Prop
 | .skip,_,Q,R,H=>Q .normal R H
 | .label _,_,Q,R,H=>Q .normal R H
 | .ret,_,Q,R,H=>Q .ret R H
 | .exit i,_,Q,R,H=>Q (.exit i) R H
 | .region i ops w,_,Q,R,H=>if ZzR ops.toList=true then Dead else match w with
  |false=>ZHe Δ Γ ops.toList ops.toList R H (Q .normal)
  |true=>ZBN A.draws i λM p=>(ZmB ops&&ZEE Γ ops M p)=true/\ZBl Γ ops.toList R p.core H λV=>ZEd Δ Γ ops.toList V p R H (Q .normal)
 | .seq a b,cur,Q,R,H=>sx Δ Γ A a cur (λe r h=>match e with
  | .normal=>sx Δ Γ A b cur Q r h
  | e=>Q e r h) R H
 | .cond c a b,cur,Q,R,H=>ZaH R c λs=>match s with
  | .blit true=>sx Δ Γ A a cur Q R H
  | .blit false=>sx Δ Γ A b cur Q R H
  | .bool p=>(p=true->sx Δ Γ A a cur Q R H)/\(p=false->sx Δ Γ A b cur Q R H)
  |_=>False
 | .block i c,_,Q,R,H=>sx Δ Γ A c i (λe r h=>match e with
  | .exit f=>if f=i then Q .normal r h else Q (.exit f) r h
  | e=>Q e r h) R H
 | .loop c,cur,Q,R,H=>ZBM A.loops cur λl0=>ZJS l0 R H λls=>Zi4 ls R H λv0 H0=>Zkl ls (writes c) λW=>ZxF W R λd=>ZoT ls H0 λH1=>Zvg H1 0 λn0 =>
   ∃ (I:ZuL ls->Prop) (μ:ZuL ls->Nat),I v0/\∀ v,I v->Ztr ls v d H1 λj Hh=>sx Δ Γ A c cur (λe r h=>match e with
    | .normal=>Zi4 ls r h λv' H2=>ZxF W r λg=>ZoT ls H2 λH3=>Zrk H3 n0 λH4=>(g=d/\H4=H1)/\I v'/\μ v'<μ v
    | e=>Q e r h) j Hh
 |_,_,_,_,_=>False
theorem ZkH {p:Nat->Prop} (h:∃n,p n):∃n,p n/\∀m,p m->n<=m:=by
 obtain⟨n,f⟩:=h;induction n using Nat.strongRecOn with
 |_ n i =>
  by_cases t:∃m,m<n/\p m
  ·obtain⟨m,R,g⟩:=t;exact i m R g
  ·exact⟨n,f,λm R=>Nat.le_of_not_lt λl=>t ⟨m,l,R⟩⟩
variable {n:Nat}
theorem ZAL {P:Program} {c:Code} {Q:Exit->Act->World->Prop} (J:Nat->Act->World->Prop)
  (r:∀n a w,J n a w->c.wp P (Exit.then (λA w'=>∃m,m<n/\J m A w') Q) a w) {a:Act} {w:World} (h:J n a w):(Code.loop c).wp P Q a w:=by
 classical
 let μ:Act->World->Nat:=λa w=>if h:∃n,J n a w then Classical.choose (ZkH h)else 0
 have hμ:∀a w (h:∃n,J n a w),J (μ a w) a w/\∀m,J m a w->μ a w<=m:=by
  intro a w h;have:μ a w=Classical.choose (ZkH h):=by simp only[μ,dif_pos h]
  rw[this];exact KQ (ZkH h)
 refine wp_loop (λa w=>∃n,J n a w) μ ⟨n,h⟩ (λa w j=>?_);have d:=(hμ a w j).1;refine Code.wp_mono ?_ (r _ a w d);intro e A w' b;cases e with
 |normal =>
  obtain⟨m,R,H⟩:=b;exact⟨⟨m,H⟩,Nat.lt_of_le_of_lt ((hμ A w' ⟨m,H⟩).2 m H) R⟩
 |_=>exact b
theorem Zif {B:Base} {E:Env}:∀(ls:List Loc) {H:List Entry} (_:Inv B E H) {gs:List Nat} (_:Loose B E H gs) {K:List Entry->Prop} (_:ZoT ls H K),
  ∃H',Inv B E H'/\Loose B E H' gs/\K H'/\Boxed H H'
 |[],H,m,gs,o,K,h=>⟨H,m,o,h,Boxed.refl H⟩
 | .reg _ _::q,H,m,gs,o,K,h=>Zif q m o h
 | .ent _ _ _::q,H,m,gs,o,K,h=>Zif q m o h
 | .entm _ _ _::q,H,m,gs,o,K,h=>Zif q m o h
 | .splt _ _ _::q,H,m,gs,o,K,h=>Zif q m o h
 | .cell I f t::q,H,m,gs,o,K,h=>by
  simp only[ZoT]at h;obtain⟨e,a,h⟩:=Xn H h;split at h
  ·rename_i cells
   rw[Zf8,XM]at h;have A:=m.weaken (cells':=cells.set f .bot) a (λ_ _ _ _ _ N=>Zoi N f);obtain⟨H',d,b,g,i⟩:=Zif q A (o.ZmK a) h;exact⟨H',d,b,g,(Boxed.ZmK a).trans i⟩
  ·exact h.elim
 | .cello I f c::q,H,m,gs,o,K,h=>by
  simp only[ZoT]at h;obtain⟨e,a,h⟩:=Xn H h;split at h
  ·rename_i cells
   rw[Zf8,XM]at h;have A:=m.weaken (cells':=cells.set f .bot) a (λ_ _ _ _ _ N=>Zoi N f);obtain⟨H',d,b,g,i⟩:=Zif q A (o.ZmK a) h;exact⟨H',d,b,g,(Boxed.ZmK a).trans i⟩
  ·exact h.elim
theorem Zf6:∀(ls:List Loc) {W:List Nat} {K:List Nat->Prop},Zkl ls W K->∃W',K W'
 |[],W,K,h=>⟨W,h⟩
 | .reg r _::q,W,K,h=>by obtain⟨W',h⟩:=Zf6 q h;exact⟨_,h⟩
 | .cell _ _ _::q,W,K,h=>Zf6 q h
 | .cello _ _ _::q,W,K,h=>Zf6 q h
 | .ent _ _ _::q,W,K,h=>Zf6 q h
 | .entm _ _ _::q,W,K,h=>Zf6 q h
 | .splt _ _ _::q,W,K,h=>Zf6 q h
theorem Ztd {P:Program} {Δ:Tab} (hΔ:Δ.ok P) {Γ:Gam} (hΓ:Γ.ok P) (A:Ann) (F:P.follows .mixedOrders=true) {B:Base}:∀(c:Code) (cur:Nat) (Q:Exit->List SV->List Entry->Prop) {b:List SV} {H:List Entry} (_:sx Δ Γ A c cur Q b H)
  {a:Act} {w:World} (_:Conc B b H a w) (R:Exit->Act->World->Prop) (_:∀e k H' O w',Q e k H'->Conc B k H' O w'->R e O w'),c.wp P R a w
 | .skip,_,Q,b,H,h,a,w,q,R,d=>wp_skip (d _ _ _ _ _ h q)
 | .label _,_,Q,b,H,h,a,w,q,R,d=>wp_label (d _ _ _ _ _ h q)
 | .ret,_,Q,b,H,h,a,w,q,R,d=>wp_ret (d _ _ _ _ _ h q)
 | .exit id,_,Q,b,H,h,a,w,q,R,d=>wp_exit (d _ _ _ _ _ h q)
 | .region id ops e8,_,Q,b,H,h,a,w,q,R,d=>by
  simp only[sx]at h;split at h
  ·exact h.no.elim
  split at h
  ·exact wp_region_list (ZzP hΔ hΓ ops ops.toList q h (λk H' O w' l f=>d _ _ _ _ _ l f))
  ·obtain⟨M,p,h⟩:=ZwD _ h
   obtain⟨hb,h⟩:=h;rw[Ur]at hb;exact ZBn hΔ hΓ F rfl hb.1 (ZB5 hb.2) q h (λk H' O w' l f=>d _ _ _ _ _ l f)
 | .seq x y,cur,Q,b,H,h,a,w,q,R,d=>by
  simp only[sx]at h;refine wp_seq (Ztd hΔ hΓ A F x cur _ h q _ ?_);intro e k H' O w' l f;cases e with
  |normal=>exact Ztd hΔ hΓ A F y cur Q l f R d
  |_=>exact d _ _ _ _ _ l f
 | .cond c x y,cur,Q,b,H,h,a,w,q,R,d=>by
  simp only[sx]at h;obtain⟨E,hw,hI,N,m⟩:=q;obtain⟨s,hs,h⟩:=YM N h;split at h
  ·simp only[den]at hs
   exact wp_cond_true hs (Ztd hΔ hΓ A F x cur Q h ⟨E,hw,hI,N,m⟩ R d)
  ·simp only[den]at hs
   exact wp_cond_false hs (Ztd hΔ hΓ A F y cur Q h ⟨E,hw,hI,N,m⟩ R d)
  ·simp only[den]at hs
   exact wp_cond_split hs (λe=>Ztd hΔ hΓ A F x cur Q (h.1 e) ⟨E,hw,hI,N,m⟩ R d) (λe=>Ztd hΔ hΓ A F y cur Q (h.2 e) ⟨E,hw,hI,N,m⟩ R d)
  ·exact h.elim
 | .block id c,cur,Q,b,H,h,a,w,q,R,d=>by
  simp only[sx]at h;refine wp_block (Ztd hΔ hΓ A F c id _ h q _ ?_);intro e k H' O w' l f;cases e with
  |exit f4 =>
   simp only at l;simp only[Exit.inBlock];split at l
   ·rename_i e;rw[Uc e];exact d _ _ _ _ _ l f
   ·rename_i e;rw[Ue e];exact d _ _ _ _ _ l f
  |_=>exact d _ _ _ _ _ l f
 | .loop c,cur,Q,b,H,h,a,w,q,R,d=>by
  simp only[sx]at h;obtain⟨l0,h⟩:=ZwC A.loops h;obtain⟨ls,h⟩:=ZFa h;obtain⟨E,hw,hI,N,m⟩:=q;obtain⟨E0,H0,v0,g0,e3,e9,b7,b3,h,d6,a7,f2⟩:=Zhn ls hI N [] (Loose.none _ _ _) h;rw[Un]at a7;obtain⟨W,h⟩:=Zf6 ls h;obtain⟨C,a9,h⟩:=ZsH W b _ (ZV b3 _ _ N) h;obtain⟨H1,t,d1,h,V⟩:=Zif ls b7 a7 h;rw[ZdT,Us]at h;obtain⟨I,μ,K,o⟩:=h;have b2:=Zcg rfl (λ_ h=>h) (λ_ _ h=>h) V ls v0 g0 d6
  let Q':ZuL ls->Exit->List SV->List Entry->Prop:=λv e r h=>match e with
    | .normal=>Zi4 ls r h λv' H2=>ZxF W r λr1=>ZoT ls H2 λH3=>Zrk H3 H1.length λH4=>(r1=C/\H4=H1)/\I v'/\μ v'<μ v
    |e=>Q e r h
  let J:Nat->Act->World->Prop:=λn a w=>∃v rh Hh,I v/\μ v=n/\Conc B rh Hh a w/\sx Δ Γ A c cur (Q' v) rh Hh
  have a4:J (μ v0) a w:=by
   obtain⟨E',Hh,rh,a3,T,Y,hk⟩:=Zjq ls v0 t a9 g0 b2 d1 (o v0 K);exact⟨v0,rh,Hh,K,rfl,⟨E',by rw[a3,e3,hw],T,Y,m⟩,hk⟩
  have e7:Zew H1.length C:=by have:=Zbp _ _ a9;rwa [t.len]at this
  have a5:∀e∈H1,Zu1 H1.length e:=by
   intro e he;obtain⟨i,D⟩:=UA.1 he;have:=Zu0 (t.ent i e D)
   rwa [t.len]at this
  refine ZAL J ?_ a4;rintro n a1 w1 ⟨v,rh,Hh,f1,hμ,d3,e1⟩;subst hμ;refine Ztd hΔ hΓ A F c cur (Q' v) e1 d3 _ ?_;intro e r' H' O w' l f;cases e with
  |normal =>
   obtain⟨E2,e4,b8,b0,Z⟩:=f;obtain⟨E3,H3,v',g3,e5,f0,b9,b4,l,d7,a8,f3⟩:=Zhn ls b8 b0 [] (Loose.none _ _ _) l;rw[Un]at a8;obtain⟨r1,d4,l⟩:=ZsH W r' _ (ZV b4 _ _ b0) l;obtain⟨H4,d0,U,l,X⟩:=Zif ls b9 a8 l;rw[ZjE]at l;obtain⟨⟨b6,z⟩,L,a2⟩:=l;have b5:B.pin.length<=H1.length:=by
    rcases Nat.eq_zero_or_pos B.pin.length with h0|h0
    ·omega
    ·have a0:B.pin[B.pin.length-1]?=some (B.pin[B.pin.length-1]'(by omega)):=Ua _
     have:=(Ub.1 (t.pin _ _ a0)).1;rw[t.len]at this;omega
   have a6:=d0.trunc H1.length b5 (by rw[z];exact a5);rw[z] at a6;have b1:=ZcD (n:=H1.length) _ _ (by rw[b6];exact e7) d4;rw[b6] at b1;have d8:=Zcg rfl (λ_ h=>h) (λ_ _ h=>h) X ls v' g3 d7;obtain ⟨p1,p2,p3⟩:=Zea ls v0 g0 b2;have d9:Zas B ⟨E3.S,E3.w,E3.ids.take H1.length⟩ H1 _ ls v' g3:=Za5 (E:=E3) (E':=⟨E3.S,E3.w,E3.ids.take H1.length⟩) (H':=H1) rfl (λ_ h=>h) (λi u D hu=>by
    show(E3.ids.take H1.length)[i]?=some u;rw[UC,Uc D];exact hu) (λi c D a2=>by
     rw[<-z,UC,Uc a2];exact⟨c,D⟩) (λi c D=>by
     rw[<-z,UC]at D;split at D
     ·exact⟨c,D⟩
     ·cases D) ls v' g3 p1 p2 p3 d8
   have d2:Loose B ⟨E3.S,E3.w,E3.ids.take H1.length⟩ H1 g3:=⟨U.nodup,U.free,λg hg j ej vj hj e0 hv hb=>by
    have d5:H4[j]?=some ej:=by
     rw[<-z,UC]at hj;split at hj
     ·exact hj
     ·cases hj
    have e2:E3.ids[j]?=some vj:=by
     have G:(E3.ids.take H1.length)[j]?=some vj:=hv;rw[UC]at G;split at G
     ·exact G
     ·cases G
    exact U.apart g hg j ej vj d5 e0 e2 hb⟩
   obtain⟨E',Hh',e6,a3,T,Y,hk⟩:=Zjq ls v' a6 b1 g3 d9 d2 (o v' L);exact⟨μ v',a2,v',e6,Hh',L,rfl,⟨E',by rw[a3];show E3.w=w';rw[e5,e4],T,Y,Z⟩,hk⟩
  |_=>exact d _ _ _ _ _ l f
 | .rangeFunc _ _ _ _,_,Q,b,H,h,a,w,q,R,d=>by simp only[sx]at h
 | .scope _,_,Q,b,H,h,a,w,q,R,d=>by simp only[sx]at h
 | .goto _,_,Q,b,H,h,a,w,q,R,d=>by simp only[sx]at h
 | .refuse _,_,Q,b,H,h,a,w,q,R,d=>by simp only[sx]at h
def Zw8:Nat->List SV->(List SV->Prop)->Prop
 |0,l,K=>K l
 |n+1,l,K=>Zw8 n (.tup []::l) K
theorem ZuC:∀(n:Nat) (l:List SV) (K:List SV->Prop),Zw8 n l K=K (List.replicate n (.tup [])++l)
 |0,_,_=>rfl
 |n+1,l,K=>by
  simp only[Zw8,ZuC n];congr 1;rw[List.replicate_succ',Uk];rfl
def ZFo (Δ:Tab):List ResultVar->List SV->List Entry->(List SV->Prop)->Prop
 |[],_,_,K=>K []
 | .tmp t::r,R,H,K=>ZoP R t λs=>ZFo Δ r R H λS=>K (s::S)
 | .cell a T::r,R,H,K=>ZoP R a λb=>Zed Δ T λi=>Zxy i b H λs=>ZFo Δ r R H λS=>K (s::S)
def Zll:(l:List Sh)->List SV->List Entry->(Ios l->Prop)->Prop
 |[],_,_,K=>K ()
 | .io e::r,S,H,K=>match S with
  | .ptr I 0::S=>Zh8 H I λM=>match M with
   | .box cells=>Zi6 H I .gone λH0=>closeAll e cells H0 λd H1=>Zll r S H1 λD=>K (d,D)
   |_=>False
  |_=>False
 | .back e::r,S,H,K=>match S with
  |s::S=>if s.whole=true then closeAll e s.cells H λd H1=>Zll r S H1 λD=>K (d,D)else False
  |_=>False
 | .dat _::r,S,H,K=>match S with
  |_::S=>Zll r S H K
  |_=>False
 | .own _::r,S,H,K=>match S with
  |_::S=>Zll r S H K
  |_=>False
def ZHf (Δ:Tab) (C:Ctr) (res:List ResultVar) (s r:List SV) (H:List Entry) (K:Shs C.rets->Ios C.args->Prop):Prop :=
 ZFo Δ res r H λS=>ZoB C.rets S H λR H1=>Zll C.args s H1 λi=>K R i
def fnK (Δ:Tab) (Γ:Gam) (A:Ann) (C:Ctr) (fn:Func) (s:Shs C.args) (K:Shs C.rets->Ios C.args->Prop):Prop :=
 match fn.body with
 |none=>False
 |some c=>ZnX C.args s [] λS H=>Zvg S 0 λn=>Zw8 (fn.ntmps-n) [] λu=>Ztp S u λr =>
  sx Δ Γ A c 0 (λe a H'=>match e with
   | .normal=>ZHf Δ C fn.results.toList S a H' K
   | .ret=>ZHf Δ C fn.results.toList S a H' K
   | _=>False) r H
def ZEJ (s:Array Value):ResultVar->Sem Value
 | .tmp t=>pure (s.getD t undef)
 | .cell a t=>asAddr (s.getD a undef) >>= λp=>loadVar t p
theorem ZvA {P:Program} {Δ:Tab} (hΔ:Δ.ok P) {B:Base} {E:Env} {H:List Entry} (j:Inv B E H) {R:List SV} {b:Array Value} (N:Yo E R b.toList):∀(l:List ResultVar) {K:List SV->Prop} (_:ZFo Δ l R H K),
  ∃S U,(l.mapM (ZEJ b)).run P E.w=.ok U E.w/\Yo E S U/\K S
 |[],K,h=>⟨[],[],rfl,trivial,h⟩
 | .tmp t::r,K,h=>by
  simp only[ZFo]at h;obtain⟨s,v,k,q,h,_⟩:=Zc5 _ _ N h;obtain⟨S,U,e,f,g⟩:=ZvA hΔ j N r h;have i:b.getD t undef=v:=by
   have:b[t]?=some v:=by simpa using k
   simp[this]
  refine⟨s::S,v::U,?_,⟨q,f⟩,g⟩;rw[List.mapM_cons,Sem.run_bind,ZEJ,i,Sem.run_pure,Result.andThen_ok,Sem.run_bind,e];rfl
 | .cell a T::r,K,h=>by
  simp only[ZFo]at h;obtain⟨x,V,k,q,h,_⟩:=Zc5 _ _ N h;obtain⟨y,n,h⟩:=XR Δ hΔ h;obtain⟨u,s,m,o,h⟩:=ZwA j n q h;have m:=m.here;obtain⟨S,U,e,f,g⟩:=ZvA hΔ j N r h;have i:b.getD a undef=V:=by
   have:b[a]?=some V:=by simpa using k
   simp[this]
  have c:∃p,V=.pointer (some p):=by
   cases V with
   |pointer p=>cases p with
    |some p=>exact⟨p,rfl⟩
    |none=>simp[Instr.loadAt,Instr.sureAddr]at m
   |_=>simp[Instr.loadAt,Instr.sureAddr]at m
  obtain⟨p,rfl⟩:=c;have d:(loadVar T p).run P E.w=.ok u E.w:=by simpa[Instr.loadAt,Instr.sureAddr]using m
  refine⟨s::S,u::U,?_,⟨o,f⟩,g⟩;rw[List.mapM_cons,Sem.run_bind,ZEJ,i,asAddr,pure_bind,d,Result.andThen_ok,Sem.run_bind,e];rfl
theorem ZxU (fn:Func) (s:Array Value):results fn s=(fn.results.mapM (ZEJ s) >>= λvs=>pure (if h:vs.size=1 then vs[0]else .tuple vs)):=by
 have e:(λx=>match x with
  |ResultVar.tmp t=>pure (s.getD t undef)
  | ResultVar.cell a t=>do loadVar t (<-asAddr (s.getD a undef)):ResultVar->Sem Value)=ZEJ s:=by
  funext x;cases x<;>rfl
 rw[<-e];rfl
variable {fn:Func}
theorem ZvD {P:Program} {s:Array Value} {U:List Value} {w:World} (h:(fn.results.toList.mapM (ZEJ s)).run P w=.ok U w) :
  ∃v,(results fn s).run P w=.ok v w/\retv U v:=by
 have H:(fn.results.mapM (ZEJ s)).run P w=.ok U.toArray w:=by
  rw[<-Array.toArray_toList (xs:=fn.results),List.mapM_toArray];simp only[Sem.run_map,h,Result.andThen_ok]
 rw[ZxU,Sem.run_bind,H,Result.andThen_ok];unfold retv
 match U with
 |[u]=>exact⟨u,rfl,rfl⟩
 |[]=>exact⟨_,rfl,rfl⟩
 |a::b::r=>exact⟨.tuple (a::b::r).toArray,by simp,rfl⟩
theorem Zkh {B:Base}:∀(l:List Sh) (k:List SV) {E:Env} {H:List Entry} (_:Inv B E H) {vs:List Value} (_:Yo E k vs) (_:∃(S:Nat->Prop) (w:World) (A:Shs l) (F:List Nat),ZeZ S w l A vs F) {gs:List Nat} (_:Loose B E H gs) {K:Ios l->Prop} (_:Zll l k H K),
  ∃E1 H1 i o,Frz E H E1 H1/\Inv B E1 H1/\Zic E1.S E1.w l i vs o/\K i/\Loose B E1 H1 (o++gs)
 |[],k,E,H,m,vs,j,hf,gs,n,K,h=>⟨E,H,(),[],Frz.refl E H,m,rfl,h,n⟩
 | .io e::r,k,E,H,m,vs,j,⟨S,w,A,F,v,vr,G,fr,q,_,p,D⟩,gs,n,K,h=>by
  simp only[Zll]at h;subst q;split at h
  ·rename_i L k
   simp only[Yo]at j;obtain⟨en,I,h⟩:=Xn H h;split at h
   ·rename_i cells
    rw[XM] at h;have z:=j.1;simp only[den] at z;obtain ⟨b,y,z⟩:=z;obtain ⟨Z,C,T,P,Q,R⟩:=m.ent L _ I;have:=y.symm.trans P;simp at this;subst this;have X:Frz E H E (H.set L .gone):=Frz.one I rfl y rfl (Env.le.refl E) (λb V=>.inl V);have Y:=n.take m I rfl y (f:=[b]) (by simp) (λg O=>by
     simp at O;subst O;rfl)
    obtain⟨E1,H1,d,f,x,t,J,h,u,U,_⟩:=VT (m.drop L) R Y h;obtain⟨E2,H2,i,o,M,a,c,h,N⟩:=Zkh r k t (ZV x.le _ _ j.2) ⟨S,w,A.2,fr,D⟩ u h;refine⟨E2,H2,(d,i),(b::f)++o,(X.trans x).trans M,a,⟨v,vr,b::f,o,rfl,rfl,⟨b,C,T,f,z,by rw[M.w,x.w];exact Q,?_,rfl⟩,c⟩,h,N.perm ?_⟩
    ·exact YT M.le.S M.le.w e _ _ _ (λg _=>by rw[M.w]) J
    ·simp only[U4,Uv,Uk]
     rw[<-Uk];refine List.perm_middle.trans (List.Perm.cons b ?_);rw[<-Uk];exact UY.append_right gs
   ·exact h.elim
  ·exact h.elim
 | .back e::r,k,E,H,m,vs,j,⟨S,w,A,F,v,vr,G,fr,q,_,p,D⟩,gs,n,K,h=>by
  simp only[Zll]at h;subst q;split at h
  ·rename_i s k
   simp only[Yo]at j;split at h
   ·rename_i W
    obtain⟨E1,H1,d,f,x,t,J,h,u,U,_⟩:=VT m (ZaU j.1 W) n h;obtain⟨E2,H2,i,o,M,a,c,h,N⟩:=Zkh r k t (ZV x.le _ _ j.2) ⟨S,w,A.2,fr,D⟩ u h;refine⟨E2,H2,(d,i),f++o,x.trans M,a,⟨v,vr,f,o,rfl,rfl,⟨p.1,?_⟩,c⟩,h,N.perm ?_⟩
    ·exact YT M.le.S M.le.w e _ _ _ (λg _=>by rw[M.w]) J
    ·rw[<-Uk]
     exact UY.append_right gs
   ·exact h.elim
  ·exact h.elim
 | .dat _::r,k,E,H,m,vs,j,⟨S,w,A,F,v,vr,G,fr,q,_,p,D⟩,gs,n,K,h=>by
  simp only[Zll]at h;subst q;split at h
  ·simp only[Yo]at j
   obtain⟨E2,H2,i,o,M,a,c,h,N⟩:=Zkh r _ m j.2 ⟨S,w,A.2,fr,D⟩ n h;exact⟨E2,H2,i,o,M,a,⟨v,vr,rfl,c⟩,h,N⟩
  ·exact h.elim
 | .own _::r,k,E,H,m,vs,j,⟨S,w,A,F,v,vr,G,fr,q,_,p,D⟩,gs,n,K,h=>by
  simp only[Zll]at h;subst q;split at h
  ·simp only[Yo]at j
   obtain⟨E2,H2,i,o,M,a,c,h,N⟩:=Zkh r _ m j.2 ⟨S,w,A.2,fr,D⟩ n h;exact⟨E2,H2,i,o,M,a,⟨v,vr,rfl,c⟩,h,N⟩
  ·exact h.elim
theorem ZmM {w:World} {S:Nat->Prop}:∀(l:List Sh) (d:Shs l) (vs:List Value) (p:List Nat),ZeZ S w l d vs p->l.length=vs.length
 |[],_,_,_,h=>by rw[h.1];rfl
 |_::r,d,_,_,⟨v,vr,f,fr,e,_,_,h⟩=>by subst e;simp[ZmM r d.2 vr fr h]
theorem Inv.more {B:Base} {E:Env} {H:List Entry} (h:Inv B E H) (j:∀b,B.S b->b<B.w.heap.size/\¬B.io b):Inv B ⟨λb=>E.S b\/B.S b,E.w,E.ids⟩ H/\E.le ⟨λb=>E.S b\/B.S b,E.w,E.ids⟩:=by
 have f:E.le ⟨λb=>E.S b\/B.S b,E.w,E.ids⟩:=⟨λ_ h=>.inl h,λ_ _=>rfl,λ_ _ h=>h⟩;exact ⟨
  {keeps:=h.keeps
   Slt:=λb d=>d.elim (h.Slt b) (λd=>UP (j b d).1 h.keeps.size)
   Sold:=λb d t=>d.elim (λd=>h.Sold b d t) .inl
   len:=h.len,pin:=h.pin
   ent:=λi e l=>Zfd f i e (λ_ _ _ _ _=>rfl) (h.ent i e l)
   free:=λi e v g l m n d=>by
    obtain⟨a,b,c⟩:=h.free i e v g l m n d;refine⟨λq=>q.elim a (λq=>?_),b,c⟩;obtain⟨o,k⟩:=j g q;rcases b with b|b
    ·omega
    ·exact k b
   sep:=h.sep},f⟩
theorem Zh {P:Program} {Δ:Tab} (hΔ:Δ.ok P) (hΓ:Γ.ok P) (hm:P.follows .mixedOrders=true) (A:Ann) {f:FuncId} (hf:P.funcs[f]?=some fn) (G:(fn.name == "runtime.NumGoroutine")=false:=by kernel_rfl) (y:fn.body.isNone=false:=by kernel_rfl) {C:Ctr}
  (b7:∀(J:Shs C.args) (K:Shs C.rets->Ios C.args->Prop),C.tr J K->fnK Δ Γ A C fn J K):Zc P f C:=by
 refine⟨⟨fn,hf,G,y⟩,?_⟩;intro w S vs J F K t T b4 a hK;have D:=b7 J K hK;unfold fnK at D;split at D
 ·exact D.elim
 ·rename_i c m
  let B0:Base:=⟨w,S,λb=>b∈F,[]⟩
  have a6:Inv B0 ⟨S,w,[]⟩ [] :=
   {keeps:=⟨rfl,rfl,rfl,UO _,λ_ _ _=>rfl⟩
    Slt:=t
    Sold:=λb d _=>.inl d
    len:=rfl
    pin:=λ_ _ h=>h
    ent:=λi e W=>by simp at W
    free:=λi e v g W=>by simp at W
    sep:=λi j ei ej vi vj g W=>by simp at W}
  have a8:Loose B0 ⟨S,w,[]⟩ [] (F++[]):=by
   rw[Un];exact⟨b4,λg V=>⟨(a g V).1,.inr V,(a g V).2⟩,λg _ j e v hj=>by simp at hj⟩
  obtain⟨E1,H1,ss,I,O,H,d0,u,D⟩:=ZkP (E:=⟨S,w,[]⟩) C.args J vs a6 T a8 D;rw[ZdT,ZuC,ZcK,Us,Un]at D;have hl:=Xc _ _ u
  let B:Base:=⟨w,S,λb=>b∈F,E1.ids⟩
  have hI:Inv B E1 H1 :=
   {keeps:=⟨H.keeps.os,H.keeps.tape,H.keeps.output,H.keeps.size,H.keeps.block⟩
    Slt:=H.Slt,Sold:=H.Sold,len:=H.len,pin:=λ_ _ h=>h,ent:=H.ent,free:=H.free,sep:=H.sep}
  refine calls_of_wp hf m ?_;have x:Yo E1 (ss++List.replicate (fn.ntmps-ss.length) (.tup [])) (vs.toArray++Array.replicate (fn.ntmps-vs.toArray.size) undef).toList:=by
   rw[Array.toList_append,Array.toList_replicate,List.toList_toArray,Ki,hl];refine Zc3 _ _ u _ _ ?_;have:∀n,Yo E1 (List.replicate n (.tup [])) (List.replicate n undef):=by
    intro n;induction n with
    |zero=>trivial
    |succ n ih=>exact⟨by simp only[den];exact⟨[],rfl,trivial⟩,ih⟩
   exact this _
  rw[<-show E1.w=w from I];refine Ztd hΔ hΓ A hm c 0 _ D (B:=B) ⟨_,rfl,hI,x,rfl⟩ _ ?_;intro e R H' a' w' q b0;obtain ⟨E2,b8,l,b1,Z⟩:=b0;subst b8;rw[show E1.w=w from I];have M:ZHf Δ C fn.results.toList ss R H' K->bodyPost P fn (λe w'=>∃ v us rs s S' fr o,e=.returned v/\retv us v/\K rs s/\Keeps ⟨w,S,λb=>b∈F,[]⟩ w'/\(∀ b,S b->S' b)/\
    (∀b,S' b->b<w'.heap.size/\(b<w.heap.size->S b\/b∈F))/\ZeZ S' w' C.rets rs us fr/\Zic S' w' C.args s vs o/\
    (o++fr).Nodup/\∀ g∈o++fr,¬S' g/\g<w'.heap.size/\(w.heap.size<=g\/g∈F)) .ret a' E2.w:=by
   intro q;unfold ZHf at q;have a5:∀b,B.S b->b<B.w.heap.size/\¬B.io b:=λb d=>⟨t b d,λk=>(a b k).1 d⟩;obtain⟨L,Y⟩:=l.more a5;obtain⟨b9,us,a4,b2,q⟩:=ZvA hΔ L (ZV Y _ _ b1) _ q;have X:E1.le ⟨λb=>E2.S b\/B.S b,E2.w,E2.ids⟩:=by
    refine⟨λb d=>.inr (by rw[O]at d;exact d),λb d=>?_,λi v hv=>l.pin i v hv⟩;have U:S b:=by rw[O]at d;exact d
    rw[I];exact l.keeps.block b (t b U) (λk=>(a b k).1 U)
   have b6:=ZV X _ _ u;obtain⟨E4,H4,rs,fr,z,a7,b5,q,a9,_⟩:=ZkA C.rets b9 L b2 (Loose.none _ _ _) q;obtain⟨E5,H5,s,o,p,N,k,q,r⟩:=Zkh C.args ss a7 (ZV z.le _ _ b6) ⟨S,w,J,F,T⟩ a9 q;rw[Un]at r;obtain⟨v,hv,a0⟩:=ZvD a4;have Q:E5.w=E2.w:=by rw[p.w,z.w]
   refine bodyPost_ret hv Z ⟨v,us,rs,s,E5.S,fr,o,rfl,a0,q,?_,λb d=>p.le.S b (z.le.S b (.inr d)),?_,?_,?_,r.nodup,?_⟩
   ·have:=l.keeps
    exact⟨this.os,this.tape,this.output,this.size,this.block⟩
   ·intro b d
    exact⟨by rw[<-Q];exact N.Slt b d,λb3=>N.Sold b d b3⟩
   ·show ZeZ E5.S E2.w C.rets rs us fr
    rw[<-Q];exact Zul p.le _ _ _ _ (λg _=>by rw[p.w]) b5
   ·show Zic E5.S E2.w C.args s vs o
    rw[<-Q];exact k
   ·intro g V
    obtain⟨a1,a2,a3⟩:=r.free g V;exact⟨a1,by rw[<-Q];exact a3,a2⟩
  cases e with
  |normal=>exact M q
  |ret=>exact M q
  |_=>exact q.elim
def Yf {α:Type} (o:Option α) (k:α->Prop):Prop:=∃r,o=some r/\k r
def iterM {σ ρ:Type} (step:σ->Option (σ⊕ρ)):Nat->σ->Option ρ
 |0,_=>none
 |n+1,v=>match step v with
  |none=>none
  |some (.inl v')=>iterM step n v'
  |some (.inr r)=>some r
theorem ZnH {σ ρ:Type} {step:σ->Option (σ⊕ρ)} {r:ρ}:∀{n m:Nat} {v:σ},iterM step n v=some r->n<=m->iterM step m v=some r
 |0,_,_,h,_=>by simp[iterM]at h
 |n+1,0,_,_,R=>by omega
 |n+1,m+1,v,h,R=>by
  simp only[iterM]at h ⊢;split at h
  ·cases h
  ·exact ZnH h (by omega)
  ·exact h
variable {σ ρ:Type} {step:σ->Option (σ⊕ρ)} {v:σ}
theorem Zzm {r R:ρ} {m:Nat} (h:iterM step n v=some r) (H:iterM step m v=some R):r=R:=by
 have d:=ZnH h (Nat.le_max_left n m);have f:=ZnH H (Nat.le_max_right n m);rw[d]at f;injection f
noncomputable def Zx {σ ρ:Type} (step:σ->Option (σ⊕ρ)) (v:σ):Option ρ :=
 open Classical in if h:∃r n,iterM step n v=some r then some (Classical.choose h)else none
theorem ZjG {r:ρ}:Zx step v=some r<->∃n,iterM step n v=some r:=by
 unfold Zx;constructor
 ·intro h
  split at h
  ·rename_i l
   obtain⟨n,f⟩:=KQ l;injection h with h;rw[h]at f;exact⟨n,f⟩
  ·cases h
 ·rintro⟨n,f⟩
  have l:∃r n,iterM step n v=some r:=⟨r,n,f⟩;rw[dif_pos l];obtain⟨m,R⟩:=KQ l;rw[Zzm R f]
theorem ZqT {σ ρ:Type} (step:σ->Option (σ⊕ρ)) (v:σ):Zx step v=match step v with
  |none=>none
  |some (.inl v')=>Zx step v'
  |some (.inr r)=>some r:=by
 apply Option.ext;intro r;rw[ZjG];constructor
 ·rintro⟨n,f⟩
  cases n with
  |zero=>simp[iterM]at f
  |succ n =>
   simp only[iterM]at f;split
   ·rename_i e;rw[e]at f;cases f
   ·rename_i v' e;rw[e]at f;exact ZjG.2 ⟨n,f⟩
   ·rename_i R e;rw[e]at f;exact f
 ·intro h
  split at h
  ·cases h
  ·rename_i v' e
   obtain⟨n,f⟩:=ZjG.1 h;exact⟨n+1,by simp only[iterM,e];exact f⟩
  ·rename_i R e
   exact⟨1,by simp only[iterM,e];exact h⟩
theorem Xk {v':σ} (h:step v=some (.inl v')):Zx step v=Zx step v':=by rw[ZqT,h]
theorem Xi {r:ρ} (h:step v=some (.inr r)):Zx step v=some r:=by rw[ZqT,h]
theorem Zgi (I:σ->Prop) (μ:σ->Nat) (Q:ρ->Prop) (m:I v)
  (s:∀v,I v->(∃v',step v=some (.inl v')/\I v'/\μ v'<μ v)\/∃r,step v=some (.inr r)/\Q r):∃r,Zx step v=some r/\Q r:=by
 have:∀n v,I v->μ v<n->∃r,Zx step v=some r/\Q r:=by
  intro n;induction n with
  |zero=>intro v _ h;omega
  |succ n a =>
   intro v i H;rcases s v i with⟨v',e,q,t⟩|⟨r,e,b⟩
   ·obtain⟨r,d,f⟩:=a v' q (by omega)
    exact⟨r,by rw[Xk e];exact d,f⟩
   ·exact⟨r,Xi e,b⟩
 exact this (μ v+1) v m (by omega)
def atI {α:Type} (l:List α) (i:Int):Option α:=if 0<=i then l[i.toNat]? else none
noncomputable def Zt {α:Type} (p:Prop) (a:Option α):Option α:=open Classical in if p then a else none
section
variable {α β:Type} {A B:Prop} {r:β} {a b:Option β}
variable {q:Prop}
theorem ZhT {_:Decidable q} (h:(if q then a else b)=some r) (n:a=some r->A) (c:b=some r->B):(decide q=true->A)/\(decide q=false->B):=by
 by_cases H:q
 ·rw[Uc H]at h;exact⟨λ_=>n h,λe=>by simp[H]at e⟩
 ·rw[Ue H]at h;exact⟨λe=>by simp[H]at e,λ_=>c h⟩
theorem ZCW {_:Decidable q} (h:(if q then a else b)=some r) (n:a=some r->A) (H:b=some r->B):(decide q=false->B)/\(decide q=true->A):=⟨(ZhT h n H).2,(ZhT h n H).1⟩
variable {p:Bool}
theorem Zx6 (h:(if p=true then a else b)=some r) (n:a=some r->A) (H:b=some r->B):(p=true->A)/\(p=false->B):=by
 cases p
 ·exact⟨λe=>(by cases e),λ_=>H h⟩
 ·exact⟨λ_=>n h,λe=>(by cases e)⟩
theorem ZCV (h:(if p=true then a else b)=some r) (n:a=some r->A) (H:b=some r->B):(p=false->B)/\(p=true->A):=⟨(Zx6 h n H).2,(Zx6 h n H).1⟩
theorem ZDG (h:(p=true->A)/\(p=false->B)):((!p)=false->A)/\((!p)=true->B):=⟨λe=>h.1 (by simpa using e),λe=>h.2 (by simpa using e)⟩
theorem ZqR (h:(p=true->A)/\(p=false->B)):((!p)=true->B)/\((!p)=false->A):=⟨(ZDG h).2,(ZDG h).1⟩
variable {p:Prop}
theorem ZrX (h:Zt p a=some r) (n:p->a=some r->A):p/\A:=by
 unfold Zt at h;split at h
 ·rename_i g;exact⟨g,n g h⟩
 ·cases h
variable {i:Int} {f:α->Option β}
theorem vAt {l:List α} {A:α->Prop} (h:(atI l i).bind f=some r) (n:∀x,0<=i->i<(l.length:Int)->l[i.toNat]?=some x->f x=some r->A x) :
  0<=i/\i<(l.length:Int)/\∀x,l[i.toNat]?=some x->A x:=by
 unfold atI at h;split at h
 ·rename_i m
  cases H:l[i.toNat]? with
  |none=>rw[H]at h;cases h
  |some x =>
   rw[H]at h;have t:=(Ub.1 H).1;exact⟨m,by omega,λy a=>by injection a with a;subst a;exact n x m (by omega) H h⟩
 ·cases h
theorem atE {l:List α} (h:(atI l i).bind f=some r):∃x,0<=i/\i<(l.length:Int)/\l[i.toNat]?=some x/\f x=some r:=by
 unfold atI at h;split at h
 ·rename_i m
  cases H:l[i.toNat]? with
  |none=>rw[H]at h;cases h
  |some x =>
   rw[H]at h;have t:=(Ub.1 H).1;exact⟨x,m,by omega,rfl,h⟩
 ·cases h
theorem guardE (h:Zt p a=some r):p/\a=some r:=by
 unfold Zt at h;split at h
 ·rename_i g;exact⟨g,h⟩
 ·cases h
variable {k:α->Prop}
theorem Xu {o:Option α} (h:o.bind f=some r) (a:∀x,o=some x->f x=some r->k x):∃x,o=some x/\k x:=by
 cases H:o with
 |none=>rw[H]at h;cases h
 |some x=>rw[H]at h;exact⟨x,rfl,a x H h⟩
theorem ZuD {o:Option α} (h:o.bind f=some r) (H:∀x,o=some x->f x=some r->k x):∀x,o=some x->k x:=by
 intro x l;rw[l]at h;exact H x l h
theorem Z6 {o:Option α} {y:α} {G:α->Prop} (n:o=some y) (k:G y):∀x,o=some x->G x:=by
 intro x l;rw[n]at l;injection l with l;subst l;exact k
theorem ZvU {σ ρ:Type} {step:σ->Option (σ⊕ρ)} {v0:σ} {r:ρ} (h:Zx step v0=some r) {P:(σ->Prop)->(σ->Nat)->σ->Prop}
  (b:∀(I:σ->Prop) (μ:σ->Nat) (v:σ) (s:σ⊕ρ),step v=some s->(∀v',s=.inl v'->I v'/\μ v'<μ v)->(∀R,s=.inr R->R=r)->P I μ v) :
  ∃I μ,I v0/\∀v,I v->P I μ v:=by
 obtain⟨n0,H⟩:=ZjG.1 h
 let I:σ->Prop:=λv=>∃n,iterM step n v=some r
 classical
 let μ:σ->Nat:=λv=>if h:∃n,iterM step n v=some r then Classical.choose (ZkH h)else 0
 have hμ:∀v (h:∃n,iterM step n v=some r),iterM step (μ v) v=some r/\∀m,iterM step m v=some r->μ v<=m:=by
  intro v h;have:μ v=Classical.choose (ZkH h):=by simp only[μ,dif_pos h]
  rw[this];exact KQ (ZkH h)
 refine⟨I,μ,⟨n0,H⟩,λv c=>?_⟩;have d:=(hμ v c).1;cases a:μ v with
 |zero=>rw[a]at d;simp[iterM]at d
 |succ m =>
  rw[a]at d;simp only[iterM]at d;split at d
  ·cases d
  ·rename_i v' e
   refine b I μ v _ e (λV E=>?_) (λR E=>by cases E);injection E with E;subst E
   exact⟨⟨m,d⟩,by have:=(hμ v' ⟨m,d⟩).2 m d;omega⟩
  ·rename_i R e
   refine b I μ v _ e (λV E=>by cases E) (λf E=>?_);injection E with E;subst E;injection d
end
def D1 (a r:Ty) (f:a.den->Option r.den):Ctr:=⟨[.dat a],[.dat r],λx K=>splitK x λp _=>Yf (f p) λr=>K (r,()) ()⟩
def D2 (a b r:Ty) (f:a.den->b.den->Option r.den):Ctr:=⟨[.dat a,.dat b],[.dat r],λx K=>splitK x λp x=>splitK x λq _=>Yf (f p q) λr=>K (r,()) ()⟩
def D3 (a b c r:Ty) (f:a.den->b.den->c.den->Option r.den):Ctr:=⟨[.dat a,.dat b,.dat c],[.dat r],λx K=>splitK x λp x=>splitK x λq x=>splitK x λs _=>Yf (f p q s) λr=>K (r,()) ()⟩
def D4 (a b c d r:Ty) (f:a.den->b.den->c.den->d.den->Option r.den):Ctr:=⟨[.dat a,.dat b,.dat c,.dat d],[.dat r],λx K=>splitK x λp x=>splitK x λq x=>splitK x λs x=>splitK x λt _=>Yf (f p q s t) λr=>K (r,()) ()⟩
theorem ZhV {B:Prop} (k:B):ZFu/\B:=⟨trivial,k⟩
theorem ZHk {α:Type} {v:α} {G:α->Prop} (k:G v):∀x,x=v->G x:=λ_ e=>e▸k
theorem ZCg {α:Type} {o:Option α} {G:α->Prop} (k:∀x,o=some x->G x):∀x,o=some x->G x:=k
theorem ZHl {α:Type} {o:Option α} {G:α->Prop} (k:∃x,o=some x/\G x):∃x,o=some x/\G x:=k
theorem Zj9 {α:Type} {o:Option α} {y:α} {G:α->Prop} (n:o=some y) (k:G y):∃x,o=some x/\G x:=⟨y,n,k⟩
variable {i:Int}
theorem ZHi {α:Type} {l:List α} {G:α->Prop} (k:0<=i/\i<(l.length:Int)/\∀x,l[i.toNat]?=some x->G x):0<=i/\i<(l.length:Int)/\∀x,l[i.toNat]?=some x->G x:=k
theorem Zj0 {α:Type} {l:List α} {y:α} {G:α->Prop} (n:0<=i) (b:i<(l.length:Int)) (h:l[i.toNat]?=some y) (k:G y):0<=i/\i<(l.length:Int)/\∀x,l[i.toNat]?=some x->G x:=⟨n,b,Z6 h k⟩
variable {x y:Bool}
theorem ZHj {A B:Prop} {p:Bool} (k:(p=x->A)/\(p=y->B)):(p=x->A)/\(p=y->B):=k
theorem shD {A B:Prop} {q:Prop} {_:Decidable q} (k:(decide q=x->A)/\(decide q=y->B)):(decide q=x->A)/\(decide q=y->B):=k
theorem ZCi {A B:Prop} {p:Bool} (k:((!p)=x->A)/\((!p)=y->B)):((!p)=x->A)/\((!p)=y->B):=k
theorem ZCh {α:Type} {l:List α} {A B:Prop} (k:(l=[]->A)/\B):(l=[]->A)/\B:=k
theorem ZCj {l:List Oper} {n:Nat} {K:Oper->Prop} {B:Prop} (k:ZzJ l n K/\B):ZzJ l n K/\B:=k
theorem orL {α:Type} {a:α} {P Q:Prop} (k:P):(a=a/\P)\/Q:=.inl ⟨rfl,k⟩
theorem ZBi {α:Type} {x:α} {P:Prop} (h:none=some x):P:=by cases h
variable {σ:Type} {v0:σ}
theorem Zw0 {P:(σ->Prop)->(σ->Nat)->σ->Prop} (k:∃I μ,I v0/\∀v,I v->P I μ v):∃I μ,I v0/\∀v,I v->P I μ v:=k
variable {ρ:Type} {G:Prop}
theorem Zw9 {step:σ->Option (σ⊕ρ)} {r:ρ} (h:Zx step v0=some r) {P:(σ->Prop)->(σ->Nat)->σ->Prop} (k:G)
  (b:∀(I:σ->Prop) (μ:σ->Nat) (v:σ) (s:σ⊕ρ),step v=some s->((∀v',s=.inl v'->I v'/\μ v'<μ v)/\(∀R,s=.inr R->R=r)/\G)->P I μ v) :
  ∃I μ,I v0/\∀v,I v->P I μ v:=ZvU h λI μ v s d f g=>b I μ v s d ⟨f,g,k⟩
theorem pB {α β:Type} {o:Option α} {f:α->Option β} {r:β} (h:o.bind f=some r) (k:∀x,o=some x->f x=some r->G):G:=by
 obtain⟨x,d,H⟩:=UE.1 h;exact k x d H
theorem pA {α β:Type} {l:List α} {f:α->Option β} {r:β} (h:(atI l i).bind f=some r) (k:∀x,0<=i->i<(l.length:Int)->l[i.toNat]?=some x->f x=some r->G):G:=by
 obtain⟨x,d,H,g,a⟩:=atE h;exact k x d H g a
theorem pG {α:Type} {p:Prop} {a:Option α} {r:α} (h:Zt p a=some r) (k:p->a=some r->G):G:=k (guardE h).1 (guardE h).2
theorem pS {α:Type} {a r:α} (h:some a=some r) (k:a=r->G):G:=k (Option.some.inj h)
theorem pR {A P:Prop} {a r:ρ} (h:A/\(∀R,(.inr a:σ⊕ρ)=.inr R->R=r)/\G) (k:a=r->G->P):P:=k (h.2.1 _ rfl) h.2.2
noncomputable def ZF9 {ρ:Type} (g:Nat->Option ρ):Option ρ :=
 open Classical in if h:∃r n,g n=some r then some (Classical.choose h)else none
theorem Zz0 {g:Nat->Option ρ} {r:ρ} (h:ZF9 g=some r):∃n,g n=some r:=by
 unfold ZF9 at h;split at h
 ·rename_i l
  obtain⟨n,f⟩:=KQ l;injection h with h;rw[h]at f;exact⟨n,f⟩
 ·cases h
end Go.Sx
namespace Go.Sx
set_option linter.unusedVariables false
set_option linter.unusedSimpArgs false
open Go.RowKit Go.ChangeShapes Go.WideShapes
mutual
def Zb0 (P:Program):Ty->TypeId->Bool
 | .int k,T=>Zwt k (P.underlying T)
 | .bool,T=>Zsy (P.underlying T)
 | .str,T=>Zwu (P.underlying T)
 | .sl t,T=>match P.underlying T with
  |some (.slice e)=>Zb0 P t e&&P.cellsOf e==t.size&&decide (0<t.size)
  |_=>false
 | .pair a b,T=>match P.underlying T with
  |some (.struct s)=>match s.toList with
   |f::l=>Zb0 P a f.type&&f.offset==0&&P.cellsOf f.type==a.size&&ZjK P b l a.size&&P.cellsOf T==a.size+b.size
   |[]=>false
  |_=>false
 |_,_=>false
def ZjK (P:Program):Ty->List Field->Nat->Bool
 | .unit,l,_=>l.isEmpty
 | .pair a b,l,o=>match l with
  |f::l=>Zb0 P a f.type&&f.offset==o&&P.cellsOf f.type==a.size&&ZjK P b l (o+a.size)
  |[]=>false
 |_,_,_=>false
end
def bnd:(t:Ty)->t.den->Prop
 | .int k,n=>k.min<=n/\n<=k.max
 | .str,s=>(s.length:Int)<=9223372036854775807
 | .sl t,l=>(l.length:Int)<=9223372036854775807/\∀x∈l,bnd t x
 | .pair a b,d=>bnd a d.1/\bnd b d.2
 |_,_=>True
section
variable {H:Type} {enc:TypeId×Value->H} {P:Program} {w:World} {spare:Nat->Bool} {held:Bool}
theorem ZFE (s:ByteArray):(⟨s.data.toList.toArray⟩:ByteArray)=s:=by
 cases s;simp
theorem Zz2 {t:Ty} {S:Nat->Prop} {p:Addr} {n:Nat} (j:t.size=n):∀(len:Nat) (s:List (List Value)),s.length=len->
  (∀(i:Nat) (cs:List Value),s[i]?=some cs->cs.length=n/\∃d:t.den,rep S w t d cs/\bnd t d)->
  ∃l:List t.den,l.length=len/\Ve (rep S w t) l s.flatten/\∀x∈l,bnd t x:=by
 intro len;induction len with
 |zero =>
  intro s q _;have:s=[]:=UG q;subst this;exact⟨[],rfl,rfl,by simp⟩
 |succ len I =>
  intro s q h;cases s with
  |nil=>simp at q
  |cons cs s =>
   obtain⟨_,d,N,b⟩:=h 0 cs rfl;obtain⟨l,a,f,g⟩:=I s (by simpa using q) (λi c e=>h (i+1) c (by simpa using e));refine⟨d::l,by simp[a],⟨cs,s.flatten,by simp,N,f⟩,?_⟩;intro x H;rcases UB.1 H with rfl|H
   ·exact b
   ·exact g x H
theorem ZpJ {n:Nat}:∀(s:List (List Value)) (_:∀cs∈s,cs.length=n) (i j:Nat) (cs:List Value) (_:s[i]?=some cs) (_:j<n),s.flatten[i*n+j]?=cs[j]?
 |[],_,i,j,cs,h,_=>by simp at h
 |c::s,q,0,j,cs,h,b=>by
  simp at h;subst h;have:=q c (by simp);simp[Uu (show j<c.length by omega)]
 |c::s,q,i+1,j,cs,h,b=>by
  have H:=q c (by simp);have:=ZpJ s (λx l=>q x (by simp[l])) i j cs (by simpa using h) b;rw[List.flatten_cons,UI (by rw[H,Kc];omega),H,show(i+1)*n+j-n=i*n+j by rw[Kc];omega];exact this
theorem ZpK {n:Nat}:∀(s:List (List Value)) (_:∀cs∈s,cs.length=n),s.flatten.length=s.length*n
 |[],_=>by simp
 |c::s,q=>by
  have h:=q c (by simp);have:=ZpK s (λx l=>q x (by simp[l]));simp only[List.flatten_cons,Ug,Um,this,h,Kc];omega
mutual
theorem Zpn:∀(ty:Ty) (F:Nat) (T:TypeId) (cs:List Value) (x:DataW H×List MemPlace),Zb0 P ty T=true->DataW.trod enc P w 0 spare held F T cs=some x->
  ∃d:ty.den,rep (λb=>b<w.heap.size) w ty d cs/\bnd ty d
 | .int k,F,T,cs,x,o,h=>by
  simp only[Zb0]at o;obtain⟨n,q,_,hw⟩:=DataW.trod_int (Zki o) h;exact⟨n,q,(by simpa[Go.Lit.wf]using hw:k.min<=n/\n<=k.max)⟩
 | .bool,F,T,cs,x,o,h=>by
  simp only[Zb0]at o;obtain⟨b,q,_⟩:=DataW.trod_bool (ZnE o) h;exact⟨b,q,trivial⟩
 | .str,F,T,cs,x,o,h=>by
  simp only[Zb0]at o;obtain⟨s,q,_,hs⟩:=DataW.trod_string (Zp3 o) h;refine⟨s.data.toList,?_,?_⟩
  ·show cs=[.string ⟨s.data.toList.toArray⟩]
   rw[q,ZFE]
  ·show(s.data.toList.length:Int)<=_
   clear h q;have:s.data.toList.length=s.size:=by cases s;rfl
   unfold maxLen at hs;omega
 | .sl t,F,T,cs,x,o,h=>by
  unfold Zb0 at o;split at o
  ·rename_i e J
   simp only[Ur,Kj,Ul]at o;obtain⟨⟨o,Y⟩,I⟩:=o;rcases DataW.trod_slice J h with⟨q,_⟩|⟨a,len,a0,a1,rest,n,rfl,rfl,_,_,b1,N,a9,v,_⟩
   ·refine⟨[],?_,by show((0:Nat):Int)<=9223372036854775807;omega,λx hx=>(by cases hx)⟩
    show rep _ w (.sl t) [] cs;exact⟨none,0,by rw[q];rfl,by simp,λ_=>rfl,.inl rfl⟩
   ·-- the elements' cells
    have Q:∃C:List (List Value),C.length=len/\∀(i:Nat) (c:List Value),C[i]?=some c->w.cells? 0 (a.add (i*t.size)) t.size=some c/\∃d:t.den,rep (λb=>b<w.heap.size) w t d c/\bnd t d:=by
     have:∀m,m<=len->∃C:List (List Value),C.length=m/\∀(i:Nat) (c:List Value),C[i]?=some c->w.cells? 0 (a.add (i*t.size)) t.size=some c/\∃d:t.den,rep (λb=>b<w.heap.size) w t d c/\bnd t d:=by
      intro m;induction m with
      |zero=>intro _;exact⟨[],rfl,by simp⟩
      |succ m ih =>
       intro hm;obtain⟨C,q,G⟩:=ih (by omega);have U:=v m (by omega);rw[Ua (by omega)]at U;obtain⟨c,B,a3⟩:=UE.1 U;rw[Y]at B;obtain⟨d,hd,M⟩:=Zpn t n e c _ o a3;refine⟨C++[c],by simp[q],λi c' z=>?_⟩;by_cases b0:i<m
       ·rw[Uu (by omega)]at z
        exact G i c' z
       ·have:i=m:=by
         have:=(Ub.1 z).1;simp[q]at this;omega
        subst this;rw[UI (by omega),q]at z;simp at z;subst z;exact⟨B,d,hd,M⟩
     exact this len (UO _)
    obtain⟨C,O,X⟩:=Q;have r:∀c∈C,c.length=t.size:=by
     intro c B;obtain⟨i,z⟩:=UA.1 B;exact(World.cells?_some (X i c z).1).2.1
    obtain⟨l,hl,hr,M⟩:=Zz2 (S:=λb=>b<w.heap.size) (w:=w) (t:=t) (p:=a) rfl len C O (λi c z=>⟨r c (Ud z),(X i c z).2⟩);refine⟨l,?_,by unfold maxLen at N;omega,M⟩;refine⟨some a,a0,by rw[hl],by omega,λe=>(by cases e),?_⟩;cases C with
    |nil =>
     left;simp at O;exact UG (by omega)
    |cons c0 C =>
     right;have K:=(X 0 c0 rfl).1;rw[Nat.zero_mul]at K;have L:a.add 0=a:=by unfold Addr.add;simp
     rw[L]at K;have A:a.spot=none:=by
      have q:=(World.cells?_some K).2.2 0 I;rw[L]at q;have a7:=(World.cells?_some K).2.1;rw[Ua (by omega)]at q;unfold World.cell? at q;split at q
      ·split at q
       ·cases q
       ·rename_i hs;simpa using hs
      ·cases q
     refine⟨a,(c0::C).flatten,rfl,A,World.cells?_block K I,λj u J=>?_,hr⟩;have W:=(Ub.1 J).1;rw[ZpK _ r]at W;have R:j/t.size*t.size+j%t.size=j:=by rw[Nat.mul_comm];exact Nat.div_add_mod j t.size
     have hq:j/t.size<(c0::C).length:=by rw[Nat.div_lt_iff_lt_mul I];exact W
     obtain⟨c,B⟩:∃c,(c0::C)[j/t.size]?=some c:=⟨_,Ua hq⟩;have G:=ZpJ (c0::C) r (j/t.size) (j%t.size) c B (Nat.mod_lt _ I);rw[R,J]at G;have Z:=(World.cells?_some (X _ c B).1).2.2 (j%t.size) (Nat.mod_lt _ I);rw[add_add _ _ _ A,R]at Z;rw[Z];exact G.symm
  ·cases o
 | .pair a b,F,T,cs,x,o,h=>by
  unfold Zb0 at o;split at o
  ·rename_i fs J
   split at o
   ·rename_i f fl D
    simp only[Ur,Kj]at o;obtain⟨⟨⟨⟨q,G⟩,Z⟩,h4⟩,h5⟩:=o;obtain⟨xs,n,rfl,_,a8,b2,v⟩:=DataW.trod_struct J h;have Y:fs.size=fl.length+1:=by
     have:=US List.length D;simpa using this
    have a5:fs[0]?=some f:=by
     have:=US (·[0]?) D;simpa using this
    have U:=v 0 f a5;rw[Ua (by omega),G,Z]at U;obtain⟨d,hd,M⟩:=Zpn a n f.type _ _ q U;have E:∀(i:Nat) (g:Field),fl[i]?=some g->∃y,DataW.trod enc P w 0 spare held n g.type ((cs.drop g.offset).take (P.cellsOf g.type))=some y:=by
     intro i g V;have a6:fs[i+1]?=some g:=by
      have:=US (·[i+1]?) D;simp only[Kf,V,KO]at this;exact this
     have:=v (i+1) g a6;have z:=(Ub.1 V).1;rw[Ua (by omega)]at this;exact⟨_,this⟩
    obtain⟨d2,a4,a2⟩:=ZuB b n fl a.size cs h4 (by omega) E;refine⟨(d,d2),⟨(cs.drop 0).take a.size,cs.drop a.size,by simp,hd,a4⟩,M,a2⟩
   ·cases o
  ·cases o
 | .unit,_,_,_,_,o,_=>by simp[Zb0]at o
 | .ptr _,_,_,_,_,o,_=>by simp[Zb0]at o
 | .fn _ _,_,_,_,_,o,_=>by simp[Zb0]at o
 | .nptr _,_,_,_,_,o,_=>by simp[Zb0]at o
 | .mp _ _,_,_,_,_,o,_=>by simp[Zb0]at o
theorem ZuB:∀(ty:Ty) (n:Nat) (l:List Field) (o:Nat) (cs:List Value),ZjK P ty l o=true->cs.length=o+ty.size->
  (∀(i:Nat) (g:Field),l[i]?=some g->∃y,DataW.trod enc P w 0 spare held n g.type ((cs.drop g.offset).take (P.cellsOf g.type))=some y)->
  ∃d:ty.den,rep (λb=>b<w.heap.size) w ty d (cs.drop o)/\bnd ty d
 | .unit,n,l,o,cs,H,q,h=>by
  refine⟨(),?_,trivial⟩;show cs.drop o=[];simp only[Ty.size]at q;exact List.drop_eq_nil_of_le (by omega)
 | .pair a b,n,l,o,cs,H,q,h=>by
  unfold ZjK at H;split at H
  ·rename_i f l
   simp only[Ur,Kj]at H;obtain⟨⟨⟨j,k⟩,p⟩,r⟩:=H;obtain⟨y,e⟩:=h 0 f rfl;rw[k,p]at e;obtain⟨d,N,s⟩:=Zpn a n f.type _ _ j e;obtain⟨D,c,m⟩:=ZuB b n l (o+a.size) cs r (by simp only[Ty.size]at q;omega) (λi g t=>h (i+1) g (by simpa using t));refine⟨(d,D),⟨(cs.drop o).take a.size,cs.drop (o+a.size),?_,N,c⟩,s,m⟩;rw[<-List.drop_drop];exact(KG _ _).symm
  ·cases H
 | .int _,_,_,_,_,H,_,_=>by simp[ZjK]at H
 | .bool,_,_,_,_,H,_,_=>by simp[ZjK]at H
 | .str,_,_,_,_,H,_,_=>by simp[ZjK]at H
 | .sl _,_,_,_,_,H,_,_=>by simp[ZjK]at H
 | .ptr _,_,_,_,_,H,_,_=>by simp[ZjK]at H
 | .fn _ _,_,_,_,_,H,_,_=>by simp[ZjK]at H
 | .nptr _,_,_,_,_,H,_,_=>by simp[ZjK]at H
 | .mp _ _,_,_,_,_,H,_,_=>by simp[ZjK]at H
end
variable {p:List MemPlace} {base:Nat}
theorem ZAA {ty:Ty} {T:TypeId} {v:Value} {d:DataW H} (f:Zb0 P ty T=true) (c:Value.okWide P w .any base T v) (h:DataW.Trod enc P w 0 spare held T v d p) :
  ∃x:ty.den,ZFq (λb=>b<w.heap.size) w ty x v/\bnd ty x:=by
 obtain⟨l,h⟩:=h;obtain⟨x,j,i⟩:=Zpn ty l T _ _ f h;refine⟨x,⟨?_,?_,j⟩,i⟩
 ·intro n
  cases ty with
  |pair a b =>
   unfold Zb0 at f;split at f
   ·rename_i s u
    obtain⟨cs,X,_⟩:=okWide_struct u c;exact⟨cs,X⟩
   ·cases f
  |unit=>simp[Zb0]at f
  |_=>simp[Ty.agg]at n
 ·intro n
  have g:∀cs,v≠.agg cs:=by
   intro cs e;subst e;cases ty with
   |int k=>simp only[Zb0]at f;simp[Value.okWide,Zki f,Cell.okWide,Cell.ok]at c
   |bool=>simp only[Zb0]at f;simp[Value.okWide,ZnE f,Cell.okWide,Cell.ok]at c
   |str=>simp only[Zb0]at f;simp[Value.okWide,Zp3 f,Cell.okWide,Cell.ok]at c
   |sl t =>
    unfold Zb0 at f;split at f
    ·rename_i e u;simp[Value.okWide,u,Cell.okWide,Cell.ok]at c
    ·cases f
   |pair a b=>simp[Ty.agg]at n
   |unit=>simp[Ty.agg]at n
   |ptr _=>simp[Zb0]at f
   |fn _ _=>simp[Zb0]at f
   |nptr _=>simp[Zb0]at f
   |mp _ _=>simp[Zb0]at f
  cases v<;>first|rfl|exact absurd rfl (g _)
def Zoh:List Ty->List Sh
 |[]=>[]
 |t::r=>.dat t::Zoh r
def ZHH:(l:List Ty)->Shs (Zoh l)->Prop
 |[],_=>True
 |t::r,d=>bnd t d.1/\ZHH r d.2
def Zna (P:Program):List Ty->List TypeId->Bool
 |[],[]=>true
 |t::r,T::q=>Zb0 P t T&&Zna P r q
 |_,_=>false
theorem ZqP {base:Nat}:∀(l:List Ty) (g:List TypeId) (vs:List Value) (s:List (DataW H)) (p:List MemPlace),Zna P l g=true->
  (∀(j:Nat) t v,g[j]?=some t->vs[j]?=some v->Value.okWide P w .any base t v)->DataW.TrodAll enc P w 0 spare held g vs s p->
  ∃a:Shs (Zoh l),ZeZ (λb=>b<w.heap.size) w (Zoh l) a vs []/\ZHH l a
 |[],[],vs,s,p,_,_,h=>by
  obtain⟨rfl,_,_⟩:=trodAll_nil h;exact⟨(),⟨rfl,rfl⟩,trivial⟩
 |t::r,T::q,vs,s,p,f,c,h=>by
  simp only[Zna,Ur]at f;obtain⟨v,V,d,D,p1,z,rfl,rfl,rfl,i,k⟩:=trodAll_cons h;obtain⟨x,y,m⟩:=ZAA f.1 (c 0 T v rfl rfl) i;obtain⟨a,o,e⟩:=ZqP r q V D z f.2 (λj t v n u=>c (j+1) t v (by simpa using n) (by simpa using u)) k;exact⟨(x,a),⟨v,V,[],[],rfl,rfl,⟨rfl,y⟩,o⟩,m,e⟩
 |[],_::_,_,_,_,f,_,_=>by simp[Zna]at f
 |_::_,[],_,_,_,f,_,_=>by simp[Zna]at f
theorem ZmR (q:laidOutB P=true) {W W':World} (c:Below W.heap.size W W'):∀(T:List TypeId) (vs:List Value) (s:List (DataW H)) (p:List MemPlace),(T.all λt=>P.readableRec t&&decide (t<P.types.size))=true->
  DataW.TrodAll enc P W 0 (λ_=>true) true T vs s p->(∀x∈p,x.block<W.heap.size)->DataW.TrodAll enc P W' 0 (λb=>decide (b<W.heap.size)) true T vs s p
 |[],vs,s,p,_,h,_=>by
  obtain⟨rfl,rfl,rfl⟩:=trodAll_nil h;rfl
 |t::T,vs,s,p,F,h,a=>by
  simp only[List.all_cons,Ur,Ul]at F;obtain⟨v,V,d,D,p1,e,rfl,rfl,rfl,f,g⟩:=trodAll_cons h;exact⟨p1,e,Below.trod q F.1.1 F.1.2 f c (λx l=>a x (by simp[l])),ZmR q c T V D e F.2 g (λx l=>a x (by simp[l])),rfl⟩
theorem Zzr {f:FuncId} {l:List Ty} {tr:Shs (Zoh l)->(Shs [.dat .bool]->Ios (Zoh l)->Prop)->Prop} (z:Zc P f ⟨Zoh l,[.dat .bool],tr⟩)
  (c:∀s:Shs (Zoh l),ZHH l s->tr s (λr _=>r.1=true)) {T:List TypeId} {args:Array Value} {D:List (DataW H)} (B:Zna P l T=true)
  (g:∀(j:Nat) t v,T[j]?=some t->args[j]?=some v->Value.okWide P w .any base t v) (h:DataW.TrodAll enc P w 0 spare held T args.toList D p) :
  Calls P f args w λe w'=>e=.returned (.bool true)/\Below w.heap.size w w':=by
 obtain⟨s,o,d⟩:=ZqP l T args.toList D p B (λj t v C m=>g j t v C (by simpa using m)) h;have x:=z.2 w (λb=>b<w.heap.size) args.toList s [] (λr _=>r.1=true) (λb h=>h) o List.nodup_nil (by simp) (c s d);have A:args.toList.toArray=args:=by simp
 rw[A]at x;refine x.mono ?_;rintro e w' ⟨v,Q,R,J,S',fr,F,rfl,a,E,k,N,O,G,_⟩;obtain⟨u,U,K,L,rfl,_,⟨_,I⟩,i⟩:=G;obtain⟨rfl,_⟩:=i;simp only[retv]at a;subst a;refine⟨?_,k.os,k.tape,k.output,k.size,λb d=>k.block b d (by simp)⟩;obtain⟨M,y,n⟩:=I;have m:=y rfl;rw[m]at n;have q:[v]=[.bool R.1]:=n;simp at q;rw[q,E]
end
end Go.Sx
