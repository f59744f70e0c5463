/-
  Maps: made, looked up, written. Keys: numbers, and structs of numbers.
-/
import Derived.Test.YtoijdogpgpbddaaGreatDoorE0
import Derived.MapKept
import Derived.Orders
import Derived.KernelRfl
import Derived.ProofKit
import Derived.Below
import Derived.Carry
namespace Go.Sx
set_option linter.unusedVariables false
set_option linter.unusedSimpArgs false
def Zra:EqD->Nat->Ty->Bool
 | .nil,_,.unit=>true
 | .int k o r,n,.pair (.int K) t=>decide (k=K)&&decide (o=n)&&Zra r (n+1) t
 |_,_,_=>false
def ZCB (i:TI) (t:Ty):Bool:=match i.kind with
 | .int k=>decide (t=.int k)
 | .st=>!i.eqd.isNil&&decide (i.eqd.depth<=1000)&&Zra i.eqd 0 t
 |_=>false
def keq:(t:Ty)->t.den->t.den->Bool
 | .int _,x,y=>decide (x=y)
 | .pair a b,x,y=>keq a x.1 y.1&&keq b x.2 y.2
 |_,_,_=>true
def Zkx (k v:Ty):List (k.den×v.den)->k.den->Option v.den
 |[],_=>none
 |d::l,x=>if keq k x d.1=true then some d.2 else Zkx k v l x
def ZoA (k v:Ty):List (k.den×v.den)->k.den->v.den->List (k.den×v.den)
 |[],x,y=>[(x,y)]
 |d::l,x,y=>if keq k x d.1=true then(x,y)::l else d::ZoA k v l x y
def fnd {k v:Ty}:List (k.den×v.den)->k.den->List MapEntry->Nat->Option (Nat×Value)
 |[],_,_,_=>none
 |d::l,x,s,i=>match s with
  |[]=>none
  |e::r=>if keq k x d.1=true then some (i,e.val)else fnd l x r (i+1)
theorem Zss {k v:Ty} {R:k.den->List Value->Prop} {Q:v.den->List Value->Prop} {a V:Bool} {x:k.den}:∀(d:List (k.den×v.den)) (s:List MapEntry) (i:Nat),Zgo R Q a V d s->
  (fnd d x s i=none/\Zkx k v d x=none)\/∃j u y e K,fnd d x s i=some (i+j,u)/\Zkx k v d x=some y/\Zku V u/\Q y u.cells.toList/\s[j]?=some e/\keq k x K=true/\Zku a e.key/\R K e.key.cells.toList
 |[],s,i,h=>.inl ⟨rfl,rfl⟩
 |d::l,s,i,⟨e,r,c,F,p,g,q,t⟩=>by
  subst c;by_cases b:keq k x d.1=true
  ·exact .inr ⟨0,e.val,d.2,e,d.1,by simp[fnd,b],by simp[Zkx,b],g,q,rfl,b,F,p⟩
  ·rcases Zss (x:=x) l r (i+1) t with⟨H,f⟩|⟨j,u,y,E,K,H,f,m,n,o,I⟩
   ·exact .inl ⟨by simp[fnd,b,H],by simp[Zkx,b,f]⟩
   ·exact .inr ⟨j+1,u,y,E,K,by simp only[fnd,b,Uh,H];simp;omega,by simp[Zkx,b,f],m,n,by simpa using o,I⟩
theorem ZwA {k v:Ty} {R:k.den->List Value->Prop} {Q:v.den->List Value->Prop} {a c:Bool} {x:k.den} {y:v.den} {K V:Value} {born:Nat} (g:Zku a K) (H:R x K.cells.toList) (j:Zku c V) (q:Q y V.cells.toList) :
  ∀(d:List (k.den×v.den)) (s:List MapEntry) (i:Nat),Zgo R Q a c d s->fnd d x s i=none->Zgo R Q a c (ZoA k v d x y) (s++[⟨K,V,born⟩])
 |[],s,i,h,_=>by
  have:s=[]:=h;subst this;exact⟨⟨K,V,born⟩,[],rfl,g,H,j,q,rfl⟩
 |d::l,s,i,⟨e,r,E,F,n,m,o,p⟩,f=>by
  subst E;by_cases b:keq k x d.1=true
  ·simp[fnd,b]at f
  ·simp only[fnd,Ue b]at f
   have:=ZwA (born:=born) g H j q l r (i+1) p f;simp only[ZoA,Ue b];exact⟨e,r++[⟨K,V,born⟩],rfl,F,n,m,o,this⟩
theorem ZwB {k v:Ty} {R:k.den->List Value->Prop} {Q:v.den->List Value->Prop} {a V:Bool} {x:k.den} {y:v.den} {K g:Value} (n:Zku a K) (m:R x K.cells.toList) (o:Zku V g) (q:Q y g.cells.toList) :
  ∀(d:List (k.den×v.den)) (s:List MapEntry) (i j:Nat) (u:Value),Zgo R Q a V d s->fnd d x s i=some (i+j,u)->Zgo R Q a V (ZoA k v d x y) (s.modify j λe=>{e with key:=K,val:=g})
 |[],s,i,j,u,h,f=>by simp[fnd]at f
 |d::l,s,i,j,u,⟨e,r,E,F,t,p,w,c⟩,f=>by
  subst E;by_cases b:keq k x d.1=true
  ·simp only[fnd,b,Ui]at f
   have:j=0:=by
    injection f with f
    injection f with f _
    omega
   subst this;simp only[ZoA,b,Ui,List.modify_zero_cons];exact⟨_,r,rfl,n,m,o,q,c⟩
  ·simp only[fnd,Ue b]at f
   cases j with
   |zero =>
    rcases Zss (x:=x) l r (i+1) c with⟨H,_⟩|⟨J,u',Y,z,A,H,_⟩
    ·rw[H]at f;simp at f
    ·rw[H]at f
     simp at f;have:=f.1;omega
   |succ j =>
    have:=ZwB n m o q l r (i+1) j u c (by rw[show i+1+j=i+(j+1) by omega];exact f);simp only[ZoA,Ue b,List.modify_succ_cons];exact⟨e,_,rfl,F,t,p,w,this⟩
section
variable {P:Program}
open Go.MapKept
variable {q:EqD} {t:Ty}
theorem Zae {o:Nat} (h:Zra q o t=true):(q=.nil/\t=.unit)\/∃k r t',q=.int k o r/\t=.pair (.int k) t'/\Zra r (o+1) t'=true:=by
 unfold Zra at h;split at h
 ·exact .inl ⟨rfl,rfl⟩
 ·simp only[Ur,Ul]at h
  obtain⟨⟨rfl,rfl⟩,h⟩:=h;exact .inr ⟨_,_,_,rfl,rfl,h⟩
 ·cases h
variable {S:Nat->Prop} {w:World}
theorem ZAi:∀(q:EqD) (o:Nat) (t:Ty),Zra q o t=true->∀(x y:t.den) (vs s:List Value),rep S w t x vs->rep S w t y s->keq t x y=true->vs=s/\∀u∈vs,∃k n,u=.int k n:=by
 intro q;induction q with
 |nil =>
  intro o t h x y vs s d f _;rcases Zae h with⟨_,rfl⟩|⟨_,_,_,e,_⟩
  ·have d:vs=[]:=d
   have f:s=[]:=f;rw[d,f];simp
  ·cases e
 |int k o' r j =>
  intro o t h x y vs s d f c;rcases Zae h with⟨e,_⟩|⟨K,R,t',e,rfl,F⟩
  ·cases e
  ·injection e with E i l
   subst E;subst i;subst l;obtain⟨v1,V,E,d,I⟩:=d;obtain⟨U,z,i,g,m⟩:=f;simp only[keq,Ur,Ul]at c;obtain⟨a,b⟩:=j _ t' F x.2 y.2 V z I m c.2;have d:v1=[.int k x.1]:=d;have g:U=[.int k y.1]:=g;subst d;subst g;subst E;subst i;subst a;rw[c.1];refine⟨rfl,λu H=>?_⟩;simp only[U3,Uw,UD]at H;rcases H with rfl|H
   ·exact⟨_,_,rfl⟩
   ·exact b u H
 |bool o' r j=>intro o t h;rcases Zae h with⟨e,_⟩|⟨_,_,_,e,_⟩<;>cases e
 |str o' r j=>intro o t h;rcases Zae h with⟨e,_⟩|⟨_,_,_,e,_⟩<;>cases e
 |st o' B A r p v=>intro o t h;rcases Zae h with⟨e,_⟩|⟨_,_,_,e,_⟩<;>cases e
theorem Zuf {n:Nat}:∀(q:EqD) (o:Nat) (t:Ty) (l:List Field),Zra q o t=true->q.fits P l=true->∀(x y:t.den) (p1 p vs u:List Value),p1.length=o->p.length=o->rep S w t x vs->rep S w t y u->∀w',
  (Op.eqFields (n+1) (p1++vs).toArray (p++u).toArray l).run P w'=.ok (keq t x y) w':=by
 intro q;induction q with
 |nil =>
  intro o t l h a x y p1 p vs u L j d m w';rcases Zae h with⟨_,rfl⟩|⟨_,_,_,e,_⟩
  ·simp only[EqD.fits,KY]at a
   subst a;rfl
  ·cases e
 |int k o' r c =>
  intro o t l h a x y p1 p vs u L j d m w';rcases Zae h with⟨e,_⟩|⟨N,R,t',e,rfl,D⟩
  ·cases e
  ·injection e with E b s
   subst E;subst b;subst s;cases l with
   |nil=>simp[EqD.fits]at a
   |cons f l =>
    simp only[EqD.fits,Ur,bne_iff_ne,Kl]at a;obtain⟨⟨⟨z,F⟩,A⟩,B⟩:=a;obtain⟨v1,V,E,d,I⟩:=d;obtain⟨U,K,b,g,C⟩:=m;have d:v1=[.int k x.1]:=d;have g:U=[.int k y.1]:=g;subst d;subst g;subst E;subst b;have H:=ZkP A;have i:=c _ t' l D B x.2 y.2 (p1++[.int k x.1]) (p++[.int k y.1]) V K (by simp[L]) (by simp[j]) I C w';simp only[Uj]at i;refine ZfF z (ZfX H rfl (v:=.int k x.1) ?_ w') (ZfX H rfl (v:=.int k y.1) ?_ w') (by rw[run_equalIn_int w' n f.type k k x.1 y.1 H,Zc3];rfl) i
    ·rw[F,<-L];simp
    ·rw[F,<-j];simp
 |bool o' r c=>intro o t l h;rcases Zae h with⟨e,_⟩|⟨_,_,_,e,_⟩<;>cases e
 |str o' r c=>intro o t l h;rcases Zae h with⟨e,_⟩|⟨_,_,_,e,_⟩<;>cases e
 |st o' O M r G J=>intro o t l h;rcases Zae h with⟨e,_⟩|⟨_,_,_,e,_⟩<;>cases e
variable {T:TypeId} {k:IntKind}
theorem Zoo (h:P.underlying T=some (.int k)) (e:Bool) (n:Nat) (K:IntKind) (a:Int) (w:World):(Instr.checkKey e (n+1) T (.int K a)).run P w=.ok () w:=by
 unfold Instr.checkKey;simp only[Sem.run_bind,run_underlying h,Result.andThen_ok];rfl
variable {vs:List Value}
theorem ZAj {s:Array Field} (G:P.underlying T=some (.struct s)) (m:Bool) {w0:World} (D:Zra q 0 t=true) (H:q.fits P s.toList=true) (n:Nat) {x:t.den} (F:rep S w0 t x vs) (w:World) :
  (Instr.checkKey m (n+2) T (.agg vs.toArray)).run P w=.ok () w:=by
 rw[show n+2=(n+1)+1 from rfl,Instr.checkKey];simp only[Sem.run_bind,run_underlying G,Result.andThen_ok];rw[<-Array.forIn_toList];generalize s.toList=L at H;have g:∀(q:EqD) (o:Nat) (t:Ty) (L:List Field),Zra q o t=true->q.fits P L=true->∀(x:t.den) (pre u:List Value),pre.length=o->pre++u=vs->rep S w0 t x u->
   (forIn L PUnit.unit λf r=>do
    if f.name≠ "_" then do
     let v <-part f.type vs.toArray f.offset
     Instr.checkKey m (n+1) f.type v
     pure (ForInStep.yield PUnit.unit)
    else pure (ForInStep.yield PUnit.unit):Sem PUnit).run P w=.ok () w:=by
  intro q;induction q with
  |nil =>
   intro o t L h H x pre u _ _ _;rcases Zae h with⟨_,rfl⟩|⟨_,_,_,e,_⟩
   ·simp only[EqD.fits,KY]at H
    subst H;simp
   ·cases e
  |int k o' r i =>
   intro o t L h H x pre u l c F;rcases Zae h with⟨e,_⟩|⟨N,R,t',e,rfl,a⟩
   ·cases e
   ·injection e with E j p
    subst E;subst j;subst p;cases L with
    |nil=>simp[EqD.fits]at H
    |cons f L =>
     simp only[EqD.fits,Ur,bne_iff_ne,Kl]at H;obtain⟨⟨⟨z,A⟩,B⟩,C⟩:=H;obtain⟨v1,V,E,d,I⟩:=F;have d:v1=[.int k x.1]:=d;subst d;subst E;have y:=ZkP B;have p1:=ZfX (P:=P) y rfl (cs:=vs.toArray) (o:=f.offset) (v:=.int k x.1) (by rw[A,<-l,<-c];simp) w;have M:=Zoo (P:=P) y m n k x.1 w;have b:=i _ t' L a C x.2 (pre++[.int k x.1]) V (by simp[l]) (by rw[<-c];simp) I;simp only[List.forIn_cons,Sem.run_bind,z,ne_eq,not_false_eq_true,Ui,Result.andThen_ok,p1,M,Sem.run_pure];exact b
  |bool o' r i=>intro o t L h;rcases Zae h with⟨e,_⟩|⟨_,_,_,e,_⟩<;>cases e
  |str o' r i=>intro o t L h;rcases Zae h with⟨e,_⟩|⟨_,_,_,e,_⟩<;>cases e
  |st o' O s r J K=>intro o t L h;rcases Zae h with⟨e,_⟩|⟨_,_,_,e,_⟩<;>cases e
 exact(UN (λr=>Result.andThen r _) (g q 0 t L D H x [] vs rfl rfl F)).trans rfl
structure Zwh (P:Program) (T:TypeId) (t:Ty):Prop where
 check:∀(S:Nat->Prop) (w0:World) (x:t.den) (v:Value),Zku t.agg v->rep S w0 t x v.cells.toList->∀(em:Bool) (w:World),(Instr.checkKey em 10000 T v).run P w=.ok () w
 find:∀(S:Nat->Prop) (w0:World) (x:t.den) (v:Value),Zku t.agg v->rep S w0 t x v.cells.toList->∀(u:Ty) (Q:u.den->List Value->Prop) (va:Bool) (d:List (t.den×u.den)) (es:List MapEntry),Zgo (rep S w0 t) Q t.agg va d es->∀(w:World),(Instr.findKey T v es).run P w=.ok (fnd d x es 0) w
 stays:∀(S:Nat->Prop) (w0:World) (x y:t.den) (v v':Value),Zku t.agg v->rep S w0 t x v.cells.toList->Zku t.agg v'->rep S w0 t y v'.cells.toList->keq t x y=true->∀(w:World),(Instr.keyThatStays v' v).run P w=.ok v w
theorem ZxW (h:P.underlying T=some (.int k)):Zwh P T (.int k) where
 check S w0 x v hf F em w:=by
  have q:=hf.2 rfl;rw[q]at F;have F:[v]=[.int k x]:=F;simp at F;subst F;exact Zoo h em 9999 k x w
 find S w0 x v hf F u Q va d s m w:=by
  have q:=hf.2 rfl;rw[q]at F;have F:[v]=[.int k x]:=F;simp at F;subst F;have g:∀(d:List (Int×u.den)) (s:List MapEntry) (i:Nat),Zgo (rep S w0 (.int k)) Q false va d s->Instr.findNow (.int k) (.int k x) s i=some (fnd (k:=.int k) d x s i):=by
   intro d;induction d with
   |nil =>
    intro s i m;have:s=[]:=m;subst this;rfl
   |cons d l I =>
    rintro s i ⟨e,r,rfl,j,a,o,p,R⟩;have f:=j.2 rfl;rw[f]at a;have a:[e.key]=[.int k d.1]:=a;simp at a;by_cases b:x=d.1
    ·simp[Instr.findNow,a,Instr.sameNow,fnd,keq,b]
    ·have n:(x==d.1)=false:=by rw[Zc3];simp[b]
     simp[Instr.findNow,a,Instr.sameNow,fnd,keq,b,I r (i+1) R,n]
  have:=g d s 0 m;unfold Instr.findKey;rw[Sem.run_bind,run_underlying h,Result.andThen_ok,this];rfl
 stays S w0 x y v v' hf F hf' H b w:=by
  have q:=hf.2 rfl;rw[q]at F;have F:[v]=[.int k x]:=F;simp at F;subst F;have c:=hf'.2 rfl;rw[c]at H;have H:[v']=[.int k y]:=H;simp at H;subst H;simp only[keq,Ul]at b;subst b;simp[Instr.keyThatStays,Instr.sameBits]
theorem ZAh {g:TI} (h:ZeP P T g) (hk:g.kind=.st) (W:g.eqd.isNil=false) (q:Zra g.eqd 0 t=true):Zwh P T t:=by
 have H:=h.eqd;simp only[W,Bool.false_or]at H;split at H
 ·rename_i L A
  simp only[Ur,UT]at H;obtain⟨⟨M,K⟩,e3⟩:=H;have j:t.agg=true:=by
   rcases Zae q with⟨_,rfl⟩|⟨_,_,_,_,rfl,_⟩<;>rfl
  have F:P.fieldsOf T=L:=by simp[Program.fieldsOf,A]
  have C:∀(S:Nat->Prop) (w0:World) (x y:t.den) (vs U:List Value),rep S w0 t x vs->rep S w0 t y U->∀w,(Op.equal T (.agg vs.toArray) (.agg U.toArray)).run P w=.ok (keq t x y) w:=by
   intro S w0 x y vs U R V w;show(Op.equalIn (9999+1) T _ _).run P w=_;rw[run_equalIn_struct w 9999 T _ _ (by rw[F];exact A) M,F];exact Zuf (n:=9998) g.eqd 0 t L.toList q K x y [] [] vs U rfl rfl R V w
  have c:∀(v:Value),Zku t.agg v->v=.agg v.cells.toList.toArray:=by
   intro v f;obtain⟨cs,rfl⟩:=f.1 j;simp[Value.cells]
  refine⟨λS w0 x v f o N w=>?_,λS w0 x v f o u Q va d s z w=>?_,λS w0 x y v v' f o D I J w=>?_⟩
  ·rw[c v f]
   exact ZAj A N q K 9998 o w
  ·rw[c v f]
   have G:∀(d:List (t.den×u.den)) (s:List MapEntry) (i:Nat),Zgo (rep S w0 t) Q t.agg va d s->(Instr.findAsking T (.agg v.cells.toList.toArray) s i).run P w=.ok (fnd d x s i) w:=by
    intro d;induction d with
    |nil =>
     intro s i H;have:s=[]:=H;subst this;rfl
    |cons d l Z =>
     rintro s i ⟨e,r,rfl,O,r1,f2,r2,rs⟩;have:=C S w0 x d.1 _ _ o r1 w;rw[<-c e.key O]at this;simp only[Instr.findAsking,Sem.run_bind,this,Result.andThen_ok,fnd];by_cases q:keq t x d.1=true
     ·simp[q]
     ·simp only[q]
      exact Z r (i+1) rs
   unfold Instr.findKey;rw[Sem.run_bind,run_underlying A,Result.andThen_ok];cases s with
   |nil =>
    cases d with
    |nil=>rfl
    |cons=>obtain⟨_,_,e,_⟩:=z;cases e
   |cons e r=>exact G d (e::r) 0 z
  ·obtain⟨a,b⟩:=ZAi g.eqd 0 t q x y _ _ o I J
   rw[c v f,c v' D,<-a];have Y:Instr.sameBits 10000 (.agg v.cells.toList.toArray) (.agg v.cells.toList.toArray)=true:=by
    show Instr.sameBits (9999+1) _ _=true;simp only[Instr.sameBits,beq_self_eq_true,KU,KD];intro p X;obtain⟨i,B⟩:=UC.1 X;rw[List.getElem?_zip_eq_some]at B;have:p.1=p.2:=by
     have:=B.1.symm.trans B.2;simpa using this
    obtain⟨k,m,E⟩:=b p.1 (Ud B.1);rw[<-this,E];simp[Instr.sameBits]
   unfold Instr.keyThatStays;rw[Uc Y];rfl
 ·cases H
theorem Zue {i:TI} (h:ZeP P T i) (H:ZCB i t=true):Zwh P T t:=by
 unfold ZCB at H;split at H
 ·rename_i k d
  simp only[Ul]at H;subst H;exact ZxW (h.intOf d)
 ·rename_i d
  simp only[Ur,UT,Ul]at H;exact ZAh h d H.1.1 H.2
 ·cases H
def SV.isA:SV->Bool
 | .agg _=>true
 |_=>false
variable {E:Env} {s:SV} {v:Value} {b:Bool}
theorem ZAc (h:den E s v) (c:s.whole=true) (H:b=s.isA):Zku b v:=by
 subst H;constructor
 ·intro n
  cases s<;>simp[SV.isA]at n
  simp only[den]at h;obtain⟨vs,e,_⟩:=h;exact⟨_,e⟩
 ·intro n
  have d:s.one=true:=by cases s<;>simp_all[SV.isA,SV.whole,SV.one]
  exact(ZkW h d).1
def ZJY (t:Ty) (cs:List SV) (K:SV->Prop):Prop :=
 if t.agg=true then K (.agg cs)else match cs with
  |c::_=>K c
  |[]=>False
variable {K:SV->Prop}
theorem ZEx (h:Zku t.agg v) {cs:List SV} (N:Yu E cs v.cells.toList) (H:ZJY t cs K):∃s,den E s v/\K s:=by
 obtain⟨d,f⟩:=h;unfold ZJY at H;split at H
 ·rename_i n
  obtain⟨cs,rfl⟩:=d n;exact⟨.agg _,by simp only[den];exact⟨cs.toList,by simp,N⟩,H⟩
 ·rename_i n
  have a:=f (by simpa using n);split at H
  ·rename_i c r
   rw[a]at N;simp only[Yu]at N;exact⟨c,N.1,H⟩
  ·exact H.elim
def ZDz (b:Bool):Value->Bool
 | .agg _=>b
 |_=>!b
theorem ZDA (h:ZDz b v=true):Zku b v:=by
 cases b
 ·refine⟨λh=>(by cases h),λ_=>?_⟩
  cases v<;>first|rfl|(simp[ZDz]at h)
 ·refine⟨λ_=>?_,λh=>(by cases h)⟩
  cases v<;>first|exact⟨_,rfl⟩|(simp[ZDz]at h)
def ZKa (s:SV) (H:List Entry) (K:(k v:Ty)->List (k.den×v.den)->Prop):Prop :=
 match s with
 | .mp k v d=>K k v d
 | .mown I=>ZiG H I λe=>match e with
  | .mpe k v d=>K k v d
  | .frm k v d=>K k v d
  |_=>False
 |_=>False
def MapAt (E:Env) (x:Value) (k v:Ty) (d:List (k.den×v.den)):Prop :=
 (d=[]/\x=.map none)\/∃b s C,x=.map (some b)/\E.w.heap[b]?=some (.map s C)/\Zgo (rep E.S E.w k) (rep E.S E.w v) k.agg v.agg d s.toList
variable {B:Base} {H:List Entry} {x:Value}
theorem ZEX (m:Inv B E H) (q:den E s x) {K:(k v:Ty)->List (k.den×v.den)->Prop} (a:ZKa s H K):∃k v d,MapAt E x k v d/\K k v d:=by
 have D:∀(k v:Ty) (d:List (k.den×v.den)),rep E.S E.w (.mp k v) d [x]->MapAt E x k v d:=by
  intro k v d h;rcases h with⟨c,f⟩|⟨b,g,C,c,_,f,i⟩
  ·simp at f;exact .inl ⟨c,f⟩
  ·simp at c;exact .inr ⟨b,g,C,c,f,i⟩
 unfold ZKa at a;split at a
 ·rename_i k v d
  simp only[den]at q;exact⟨k,v,d,D k v d q,a⟩
 ·rename_i I
  obtain⟨e,j,a⟩:=XB H a;simp only[den]at q;split at a
  ·rename_i k v d
   obtain⟨b,g,C,c,f,i⟩:=m.ent I _ j;have:=q.1.symm.trans c;simp at this;subst this;exact⟨k,v,d,.inr ⟨b,g,C,rfl,f,i⟩,a⟩
  ·rename_i k v d
   obtain⟨u,c,f⟩:=m.ent I _ j;have:=q.1.symm.trans c;simp at this;subst this;exact⟨k,v,d,D k v d f,a⟩
  ·exact a.elim
 ·exact a.elim
def ZvD (Δ:Tab) (t:TI) (x i:SV) (ok:Bool) (H:List Entry) (K:SV->Prop):Prop :=
 match t.kind with
 | .mp A g=>ZeD Δ A λT=>ZeD Δ g λe=>ZKa x H λk v d =>
  if i.whole=true/\k.agg=i.isA/\ZCB T k=true/\ZDz v.agg e.zero=true then QC k i.cells λy a=>match a with
   |[]=>ZqV e.zero λc=>QC v c λz b=>match b with
    |[]=>JE v ((Zkx k v d y).getD z) λcs=>ZJY v cs λs=>if ok=true then K (.tup [s,.bool (Zkx k v d y).isSome])else K s
    |_=>False
   |_=>False
  else False
 |_=>False
variable {t:TI}
theorem ZeP.map (h:ZeP P T t) {A g:TypeId} (H:t.kind=.mp A g):P.underlying T=some (.map A g):=by
 obtain⟨d,N,u⟩:=h.get;rw[H]at u;cases d<;>simp[ZyG]at u
 obtain⟨rfl,rfl⟩:=u;exact N
theorem Zpc (h:Yu E [] vs):vs=[]:=by
 cases vs with
 |nil=>rfl
 |cons=>simp[Yu]at h
theorem Zx6 {A g:TypeId} (t:P.underlying T=some (.map A g)) {k:Ty} (KR:Zwh P A k) {z:Value} (c:∀w,(zeroValue g).run P w=.ok z w) {v:Ty} {d:List (k.den×v.den)} (R:MapAt E x k v d)
  {i:Value} {y:k.den} (h:Zku k.agg i) (r:rep E.S E.w k y i.cells.toList) (ok:Bool) :
  ∃s,Zgo (rep E.S E.w k) (rep E.S E.w v) k.agg v.agg d s/\(Instr.lookup T x i ok).run P E.w=.ok (if ok=true then .tuple #[((fnd d y s 0).map (·.2)).getD z,.bool (fnd d y s 0).isSome]else((fnd d y s 0).map (·.2)).getD z) E.w:=by
 have M:∀ (s:Array MapEntry),Zgo (rep E.S E.w k) (rep E.S E.w v) k.agg v.agg d s.toList->((do
   Instr.checkKey s.isEmpty 10000 A i
   let (v,o) <-match <-Instr.findKey A i s.toList with
    |some (_,v)=>pure (v,true)
    |none=>pure (<-zeroValue g,false)
   pure (if ok then .tuple #[v,.bool o] else v):Sem Value)).run P E.w=.ok (if ok=true then .tuple #[((fnd d y s.toList 0).map (·.2)).getD z,.bool (fnd d y s.toList 0).isSome] else ((fnd d y s.toList 0).map (·.2)).getD z) E.w:=by
  intro s m;have H:=KR.check _ _ y i h r s.isEmpty E.w;have f:=KR.find _ _ y i h r v _ _ d s.toList m E.w;simp only[Sem.run_bind,H,f,Result.andThen_ok];cases fnd d y s.toList 0 with
  |none=>simp[c]
  |some p=>simp
 rcases R with⟨rfl,rfl⟩|⟨b,s,C,rfl,a,m⟩
 ·refine⟨[],rfl,?_⟩
  have:=M #[] rfl;unfold Instr.lookup;simp only[Sem.run_bind,run_underlying t,Result.andThen_ok,Sem.run_pure]at this ⊢;exact this
 ·refine⟨s.toList,m,?_⟩
  have:=M s m;unfold Instr.lookup;simp only[Sem.run_bind,run_underlying t,Result.andThen_ok,Sem.run_pure,Go.MapKept.run_getObj_map a]at this ⊢;exact this
variable {Δ:Tab}
theorem Zx5 (hΔ:Δ.ok P) (Z:Inv B E H) {N:TI} (h:ZeP P T N) {x i:SV} {Q O:Value} (hx:den E x Q) (M:den E i O) {ok:Bool} (a:ZvD Δ N x i ok H K) :
  ∃u s,(Instr.lookup T Q O ok).run P E.w=.ok u E.w/\den E s u/\K s:=by
 unfold ZvD at a;split at a
 ·rename_i kt W p
  obtain⟨tk,C,a⟩:=Qd Δ hΔ a;obtain⟨I,A,a⟩:=Qd Δ hΔ a;obtain⟨k,v,d,hm,a⟩:=ZEX Z hx a;split at a
  ·rename_i hc
   obtain⟨c1,c2,R,U⟩:=hc;have o:=ZAc M c1 c2;obtain⟨b,r1,v1,v2,J,r,q,a⟩:=Qj k _ _ _ (Zbe M c1) a;split at a
   ·have:=Zpc q
    subst this;rw[Un]at J;subst J;obtain⟨zc,F,a⟩:=ZhU E _ _ a;obtain⟨z,r2,z1,z2,L,G,t,a⟩:=Qj v _ _ _ F a;split at a
    ·have:=Zpc t
     subst this;rw[Un]at L;subst L;obtain⟨a0,g,_,_,D⟩:=A.info';have hz:∀w,(zeroValue W).run P w=.ok I.zero w:=λw=>by simp[zeroValue,typeInfo,g,D]
     obtain⟨n,he,l⟩:=Zx6 (h.map p) (Zue C R) hz hm o r ok;rw[QS]at a;have V:∃u,((fnd d b n 0).map (·.2)).getD I.zero=u/\Zku v.agg u/\rep E.S E.w v ((Zkx k v d b).getD z) u.cells.toList/\(fnd d b n 0).isSome=(Zkx k v d b).isSome:=by
      rcases Zss (x:=b) d n 0 he with⟨c,f⟩|⟨j,u,y,e,kd,c,f,X,Y,_⟩
      ·exact⟨I.zero,by rw[c];rfl,ZDA U,by rw[f];exact G,by rw[c,f];rfl⟩
      ·exact⟨u,by rw[c];rfl,X,by rw[f];exact Y,by rw[c,f];rfl⟩
     obtain⟨u,hu,hf,hr,hs⟩:=V;rw[hu,hs]at l;obtain⟨s,m,a⟩:=ZEx hf (Qg v _ _ hr) a;cases ok
     ·simp only[Ka,Uh]at a l
      exact⟨_,s,l,m,a⟩
     ·simp only[Ui]at a l
      refine⟨_,_,l,?_,a⟩;simp only[den];exact⟨[u,.bool (Zkx k v d b).isSome],rfl,m,by simp only[den],trivial⟩
    ·exact a.elim
   ·exact a.elim
  ·exact a.elim
 ·exact a.elim
def Zwd (Δ:Tab) (t:TI) (x i y:SV) (H:List Entry) (K:List Entry->Prop):Prop :=
 match t.kind,x with
 | .mp A g,.mown I=>ZeD Δ A λT=>ZiG H I λe=>match e with
  | .mpe k v d=>if i.whole=true/\k.agg=i.isA/\ZCB T k=true/\y.whole=true/\v.agg=y.isA then QC k i.cells λa r=>match r with
   |[]=>QC v y.cells λV b=>match b with
    |[]=>ZjD H I (.mpe k v (ZoA k v d a V)) K
    |_=>False
   |_=>False
   else False
  |_=>False
 |_,_=>False
theorem grownBy_set {b:Nat} {o o':Obj} (h:w.heap[b]?=some o):w.grownBy {w with heap:=w.heap.setIfInBounds b o'} (some b) :=
 ⟨rfl,rfl,rfl,by simp,λi _ l=>(Go.MapKept.heap_set h).2 i (λe=>l (by rw[e]))⟩
theorem Zyv (hΔ:Δ.ok P) (I:Inv B E H) {ti:TI} (h:ZeP P T ti) {x i y:SV} {vx V n:Value} (X:den E x vx) (hi:den E i V) (hy:den E y n) {K:List Entry->Prop} (a:Zwd Δ ti x i y H K) :
  ∃E' H',(Instr.mapUpdate T vx V n).run P E.w=.ok () E'.w/\Inv B E' H'/\E.le E'/\K H':=by
 unfold Zwd at a;split at a
 ·rename_i kt et id N
  obtain⟨tk,W,a⟩:=Qd Δ hΔ a;obtain⟨e,L,a⟩:=XB H a;split at a
  ·rename_i k v d
   split at a
   ·rename_i hc
    obtain⟨c1,c2,c3,Y,c5⟩:=hc;have l:=ZAc hi c1 c2;have G:=ZAc hy Y c5;obtain⟨key,r1,v1,v2,e1,r,Q,a⟩:=Qj k _ _ _ (Zbe hi c1) a;split at a
    ·have:=Zpc Q
     subst this;rw[Un]at e1;subst e1;obtain⟨val,r2,z1,z2,e2,D,R,a⟩:=Qj v _ _ _ (Zbe hy Y) a;split at a
     ·have:=Zpc R
      subst this;rw[Un]at e2;subst e2;rw[Qa]at a;obtain⟨b,s,C,h1,q,z⟩:=I.ent id _ L;simp only[den]at X;have o:=X.1;have:=X.1.symm.trans h1;simp at this;subst this;have KR:=Zue W c3;have hT:=h.map N;have k1:=KR.check _ _ key V l r false E.w;have k2:=KR.find _ _ key V l r v _ _ d s.toList z E.w;have M:∀(f:Array MapEntry) (c:Nat),(Instr.mapUpdate T (.map (some b)) V n).run P E.w=.ok () {E.w with heap:=E.w.heap.setIfInBounds b (.map f c)}->
        Zgo (rep E.S E.w k) (rep E.S E.w v) k.agg v.agg (ZoA k v d key val) f.toList->∃E' H',(Instr.mapUpdate T (.map (some b)) V n).run P E.w=.ok () E'.w/\Inv B E' H'/\E.le E'/\K H':=by
       intro f c A t;have hg:=grownBy_set (w:=E.w) (o':=.map f c) q;have O:¬E.S b:=(I.free id _ (.map (some b)) b L rfl o rfl).1;have m:=ZfG hg I.Slt (λg e=>by simp at e;subst e;exact O);refine⟨⟨E.S,_,E.ids⟩,_,A,I.write L rfl o hg (.mpe k v (ZoA k v d key val)) ?_,m,a⟩;exact⟨b,f,c,o,(Go.MapKept.heap_set q).1,ZdA (λd vs=>YL m.S m.w k d vs) (λd vs=>YL m.S m.w v d vs) _ _ t⟩
      have U:(Instr.mapUpdate T (.map (some b)) V n).run P E.w=(match fnd d key s.toList 0 with
        | some (j,_)=>(do
          let key' <-Instr.keyThatStays ((s[j]?.map MapEntry.key).getD V) V
          setObj b (.map (s.modify j λe=>{e with key:=key',val:=n}) C):Sem Unit)
        | none=>setObj b (.map (s.push {key:=V,val:=n,born:=C}) (C+1))).run P E.w:=by
       unfold Instr.mapUpdate;simp only[Sem.run_bind,run_underlying hT,Result.andThen_ok,Go.MapKept.run_getObj_map q,k1,k2];cases fnd d key s.toList 0 with
       |none=>rfl
       |some p=>rfl
      rcases Zss (x:=key) d s.toList 0 z with⟨F,f2⟩|⟨j,u,y',Z,kd,F,f2,f3,f4,f5,f6,f7,f8⟩
      ·refine M (s.push ⟨V,n,C⟩) (C+1) ?_ ?_
       ·rw[U,F]
        exact Go.MapKept.run_setObj_map _ q
       ·rw[Array.toList_push]
        exact ZwA l r G D d s.toList 0 z F
      ·have J:s[j]?=some Z:=by simpa using f5
       refine M (s.modify j λe=>{e with key:=V,val:=n}) C ?_ ?_
       ·rw[U,F]
        have:=KR.stays _ _ key kd V Z.key l r f7 f8 f6 E.w;simp only[Us,J,UV,UX,Sem.run_bind,this,Result.andThen_ok];exact Go.MapKept.run_setObj_map _ q
       ·rw[Array.toList_modify]
        exact ZwB l r G D d s.toList 0 j u z F
     ·exact a.elim
    ·exact a.elim
   ·exact a.elim
  ·exact a.elim
 ·exact a.elim
def ZsO (t:TI) (H:List Entry) (K:SV->List Entry->Prop):Prop :=
 match t.kind with
 | .mp _ _=>ZvA H 0 λn=>ZtB H [.mpe t.ty t.ety []] λH'=>K (.mown n) H'
 |_=>False
theorem ZvE (m:Inv B E H) (h:ZeP P T t) {K:SV->List Entry->Prop} (k:ZsO t H K) :
  ∃u E' H' s,(Instr.makeMap T none).run P E.w=.ok u E'.w/\Inv B E' H'/\E.le E'/\den E' s u/\K s H'/\Grow E.w E'.w:=by
 unfold ZsO at k;split at k
 ·rw[Zek,Zde,Us]at k
  have e:=Zr9 m (.map #[] 0) (.map (some E.w.heap.size));have d:(E.ids++[Value.map (some E.w.heap.size)])[H.length]?=some (.map (some E.w.heap.size)):=by
   rw[<-m.len];simp
  refine⟨.map (some E.w.heap.size),⟨E.S,E.w.alloc (.map #[] 0),E.ids++[.map (some E.w.heap.size)]⟩,_,_,?_,m.alloc (.map #[] 0) _ _ rfl ?_,e,?_,k,Zd0 _ _⟩
  ·simp[Instr.makeMap]
  ·exact⟨_,#[],0,d,Go.heap_alloc_new _ _,rfl⟩
  ·simp only[den]
   exact⟨d,_,rfl⟩
 ·exact k.elim
end
section
variable {P:Program}
def ZxP (R:List SV):List Operand->(List SV->Prop)->Prop
 |[],K=>K []
 |x::r,K=>Za1 R x λs=>ZxP R r λl=>K (s::l)
theorem ZmH {E:Env} {R:List SV} {a:Act} (N:Yu E R a.tmps.toList):∀(xs:List Operand) {K:List SV->Prop},ZxP R xs K->∃l,Yu E l (xs.map a.eval)/\K l
 |[],K,h=>⟨[],trivial,h⟩
 |x::r,K,h=>by
  obtain⟨s,H,h⟩:=YU N h;obtain⟨l,q,h⟩:=ZmH N r h;exact⟨s::l,⟨H,q⟩,h⟩
def SV.ZEN:SV->Bool
 | .ptr _ _=>true
 | .oep _ _ _ _=>true
 | .fptr _=>true
 | .fn _ _=>true
 |_=>false
variable {E:Env} {s:SV} {v:Value}
theorem ZvK (h:den E s v) (g:s.ZEN=true) :
  (∃a,v=.pointer (some a))\/∃f cs,v=.func (.func f) #[] cs:=by
 cases s<;>simp[SV.ZEN]at g<;>simp only[den]at h
 case ptr=>obtain⟨b,_,e⟩:=h;exact .inl ⟨_,e⟩
 case oep=>obtain⟨b,B,n,c,_,e⟩:=h;exact .inl ⟨_,e⟩
 case fptr=>obtain⟨p,vs,e,_⟩:=h;exact .inl ⟨_,e⟩
 case fn=>obtain⟨vs,e,_⟩:=h;exact .inr ⟨_,_,e⟩
def Zzm (s:SV) (K:SV->Prop):Prop :=
 match s with
 | .nptr t d=>∃x,d=some x/\JE t x λcs=>K (.fptr cs)
 |s=>K s
variable {K:SV->Prop}
theorem Zzn (q:den E s v) (H:Zzm s K):∃S,den E S v/\K S:=by
 unfold Zzm at H;split at H
 ·rename_i t d
  obtain⟨x,rfl,H⟩:=H;rw[QS]at H;refine⟨_,?_,H⟩;simp only[den]at q ⊢;rcases q with⟨e,_⟩|⟨X,p,xs,e,i,g,h,c,F⟩
  ·cases e
  ·injection e with e;subst e
   simp at i;subst i;exact⟨p,xs,rfl,g,h,c,Qg t _ _ F⟩
 ·exact⟨s,q,H⟩
def ZEg (Δ:Tab) (op:BinOp) (T:TypeId) (sx s:SV) (K:SV->Prop):Prop :=
 match sx,s with
 | .agg xs,.agg y=>ZeD Δ T λt=>eqK op t (.agg xs) (.agg y) K
 | .bool x,s=>ZeD Δ T λt=>eqK op t (.bool x) s K
 | .blit x,s=>ZeD Δ T λt=>eqK op t (.blit x) s K
 |sx,.nilp=>ZeD Δ T λt=>if ZlR t.kind=true then ZHY op t sx K else False
 |sx,.nsl=>ZeD Δ T λt=>if Zuc t.kind=true then ZHY op t sx K else False
 |sx,s=>ZH7 op sx s K
variable {Δ:Tab}
theorem ZBV (hΔ:Δ.ok P) {op:BinOp} {T:TypeId} {x y:SV} (h:ZEg Δ op T x y K) {u:Value} (a:den E x u) (H:den E y v) (o O:Operand) :
  ∃r s,(∀w,((do eqGuard op T o O u v;binOp op T u v:Sem Value)).run P w=.ok r w)/\den E s r/\K s:=by
 unfold ZEg at h;split at h
 ·obtain⟨i,t,h⟩:=Qd Δ hΔ h;exact Zzv t h a H o O
 ·obtain⟨i,t,h⟩:=Qd Δ hΔ h;exact Zzv t h a H o O
 ·obtain⟨i,t,h⟩:=Qd Δ hΔ h;exact Zzv t h a H o O
 ·obtain⟨i,t,h⟩:=Qd Δ hΔ h
  split at h
  ·rename_i b
   exact ZAy t (.inl rfl) h ⟨λ_=>rfl,λq=>by cases k:i.kind<;>rw[k]at b q<;>simp[ZlR,Zuc]at b q⟩ a H o O
  ·exact h.elim
 ·obtain⟨i,t,h⟩:=Qd Δ hΔ h
  split at h
  ·rename_i b
   exact ZAy t (.inr rfl) h ⟨λq=>by cases k:i.kind<;>rw[k]at b q<;>simp[ZlR,Zuc]at b q,λ_=>rfl⟩ a H o O
  ·exact h.elim
 ·exact ZEh h a H T o O
def opK (Δ:Tab) (R:List SV) (H:List Entry) (op:Op) (K:SV->List Entry->Prop):Prop :=
 match op with
 | .move x=>Za1 R x λs=>K s H
 | .assign x=>Za1 R x λs=>K s H
 | .pick c x y=>Za1 R c λs=>match s with
  | .blit true=>Za1 R x λs=>K s H
  | .blit false=>Za1 R y λs=>K s H
  | .bool p=>(p=true->Za1 R x λs=>K s H)/\(p=false->Za1 R y λs=>K s H)
  |_=>False
 | .alloc T=>ZeD Δ T λt=>ZDI t H K
 | .box _ x=>Za1 R x λs=>ZH9 s H K
 | .build T P=>ZeD Δ T λt=>Zxk R P.toList λl=>Zy2 t l λs=>K s H
 | .buildSlice T n P=>ZeD Δ T λt=>Zxk R P.toList λl=>ZlX t n l H K
 | .load T x=>ZeD Δ T λt=>Za1 R x λs=>ZET t s H K
 | .store T x y=>ZeD Δ T λt=>Za1 R x λj=>Za1 R y λsx=>ZBk t j sx H λH'=>K (.tup []) H'
 | .nilCheck x=>Za1 R x λs=>Zzm s λe=>if e.ZEN=true then K e H else False
 | .binOp op T x y _=>Za1 R x λsx=>Za1 R y λb=>ZEg Δ op T sx b λs=>K s H
 | .unOp op _ x=>Za1 R x λsx=>unK op sx λs=>K s H
 | .convert S T x=>ZeD Δ S λd=>ZeD Δ T λg=>Za1 R x λs=>match d.kind,g.kind with
  | .sl,.str=>ZeD Δ d.elem λm=>Zzf m s H λr=>K r H
  |_,_=>ZEv d g s H λr=>K r H
 | .makeFunc (.func f) first C=>if first.size=0 then ZxP R C.toList λl=>K (.fn f l) H else False
 | .makeSlice T l c=>ZeD Δ T λt=>Za1 R l λsl=>Za1 R c λk=>ZEV t sl k H K
 | .slice T x o h none=>ZeD Δ T λt=>Za1 R x λs=>ZBb t R s o h H K
 | .fieldAddr T x f=>ZeD Δ T λt=>Za1 R x λs=>ZnD t s f λr=>K r H
 | .field T x f=>ZeD Δ T λt=>Za1 R x λs=>Zzx t s f λr=>K r H
 | .indexAddr T x i=>ZeD Δ T λt=>Za1 R x λs=>Za1 R i λa=>Zlh t s a i H λr=>K r H
 | .index T x i=>ZeD Δ T λt=>Za1 R x λs=>Za1 R i λa=>ZBm t s a λr=>K r H
 | .extract x i=>Za1 R x λs=>ZKU s i λr=>K r H
 | .makeMap T none=>ZeD Δ T λt=>ZsO t H K
 | .lookup T x i ok=>ZeD Δ T λt=>Za1 R x λsx=>Za1 R i λa=>ZvD Δ t sx a ok H λr=>K r H
 | .mapUpdate T x i y=>ZeD Δ T λt=>Za1 R x λsx=>Za1 R i λa=>Za1 R y λb=>Zwd Δ t sx a b H λH'=>K (.tup []) H'
 | .call c=>match c.callee,c.args.toList,c.argTypes.toList with
  | .builtin .len,[x],[T]=>ZeD Δ T λt=>Za1 R x λs=>ZJ9 t s H λr=>K r H
  | .builtin .append,[x,y],[T,T']=>if T=T' then ZeD Δ T λt=>Za1 R x λsx=>Za1 R y λb=>Zu7 t sx b H K else False
  | .builtin .min,x::r,_=>Za1 R x λs=>ZxP R r λl=>ZGQ false s l λr=>K r H
  | .builtin .max,x::r,_=>Za1 R x λs=>ZxP R r λl=>ZGQ true s l λr=>K r H
  |_,_,_=>False
 |_=>False
def ZfT:Op->Bool
 | .move _=>true
 | .assign _=>true
 | .pick _ _ _=>true
 | .build _ _=>true
 | .load _ _=>true
 | .nilCheck _=>true
 | .binOp _ _ _ _ _=>true
 | .unOp _ _ _=>true
 | .fieldAddr _ _ _=>true
 | .field _ _ _=>true
 | .indexAddr _ _ _=>true
 | .index _ _ _=>true
 | .extract _ _=>true
 | .makeFunc _ _ _=>true
 | .call c=>match c.callee with
  | .builtin .len=>true
  | .builtin .min=>true
  | .builtin .max=>true
  |_=>false
 |_=>false
def isLoad:Op->Bool
 | .load _ _=>true
 |_=>false
def Zov:Op->Bool
 | .alloc _=>true
 | .box _ _=>true
 | .buildSlice _ _ _=>true
 | .makeSlice _ _ _=>true
 | .slice _ _ _ _ _=>true
 | .convert _ _ _=>true
 | .makeMap _ _=>true
 |_=>false
def appArg:Op->Option Operand
 | .call ⟨.builtin .append,args,_⟩=>args.toList.head?
 | .store _ x _=>some x
 |_=>none
def Ran (P:Program) (B:Base) (E:Env) (o:Oper) (a:Act) (K:SV->List Entry->Prop):Prop :=
 ∃n v E' H' s,(execOp a.eval o).run P E.w=.ok n E'.w/\(n=.value v\/n=.skip/\v=undef)/\Inv B E' H'/\E.le E'/\den E' s v/\K s H'/\
  (ZfT o.op=true->n=.value v/\E'.w=E.w/\∀w',(isLoad o.op=true->ZtA E.w w')->(execOp a.eval o).run P w'=.ok (.value v) w')/\((ZfT o.op||Zov o.op)=true->Grow E.w E'.w)/\∀x,appArg o.op=some x->E.w.grownBy E'.w (Y4 (a.eval x))
theorem Zvt {w w':World} (h:w.grownBy w' v.ownBlock):w.grownBy w' (Y4 v):=⟨h.os,h.tape,h.output,h.size,λk H a=>h.block k H (λe=>a (Zy0 v k e.symm).symm)⟩
theorem ZrO {op:Op} {p:Operand->Prop} (n:appArg op=none):∀x,appArg op=some x->p x:=λx e=>by rw[n]at e;cases e
variable {B:Base} {H:List Entry} {K:SV->List Entry->Prop} {x:Sem Value}
theorem ZAS (e:Inv B E H) {o:Oper} {a:Act} (m:execOp a.eval o=(do pure (.value (<-x)):Sem Next)) (q:isLoad o.op=true)
  (h:∃u s E' H',E'.w=E.w/\ZBR P E.w x u/\Inv B E' H'/\E.le E'/\den E' s u/\K s H') (n:appArg o.op=none:=by rfl):Ran P B E o a K:=by
 obtain⟨u,s,E',H',c,d,f,I,g,b⟩:=h;have i:∀w',ZtA E.w w'->(execOp a.eval o).run P w'=.ok (.value u) w':=λw' hst=>by rw[m,Sem.run_bind,d w' hst];rfl
 exact⟨_,u,E',H',s,by rw[c];exact i _ (ZtA.refl _),.inl rfl,f,I,g,b,λ_=>⟨rfl,c,λw' h=>i w' (h q)⟩,λ_=>by rw[c];exact Grow.refl _,ZrO n⟩
theorem Jo (m:Inv B E H) {o:Oper} {a:Act} (e:execOp a.eval o=(do pure (.value (<-x)):Sem Next))
  (h:∃u s,ZqZ P x u/\den E s u/\K s H) (n:appArg o.op=none:=by rfl):Ran P B E o a K:=by
 obtain⟨u,s,d,f,g⟩:=h;have i:∀w',(execOp a.eval o).run P w'=.ok (.value u) w':=λw'=>by rw[e,Sem.run_bind,d w'];rfl
 exact⟨_,u,E,H,s,i _,.inl rfl,m,Env.le.refl E,f,g,λ_=>⟨rfl,rfl,λw' _=>i w'⟩,λ_=>Grow.refl _,ZrO n⟩
theorem Zj0 (h:Inv B E H) {o:Oper} {a:Act} {u:Value} (m:execOp a.eval o=(pure (.value u):Sem Next))
  (f:den E s u) (g:K s H) (n:appArg o.op=none:=by rfl):Ran P B E o a K :=
 ⟨_,u,E,H,s,by rw[m];rfl,.inl rfl,h,Env.le.refl E,f,g,λ_=>⟨rfl,rfl,λw' _=>by rw[m];rfl⟩,λ_=>Grow.refl _,ZrO n⟩
theorem Zfq {o:Oper} {a:Act} (m:execOp a.eval o=(do pure (.value (<-x)):Sem Next)) (q:ZfT o.op=false)
  (h:∃u E' H' s,x.run P E.w=.ok u E'.w/\Inv B E' H'/\E.le E'/\den E' s u/\K s H'/\Grow E.w E'.w) (n:appArg o.op=none:=by rfl):Ran P B E o a K:=by
 obtain⟨u,E',H',s,d,f,g,i,j,I⟩:=h;exact⟨_,u,E',H',s,by rw[m,Sem.run_bind,d];rfl,.inl rfl,f,g,i,j,λe=>(by rw[q]at e;cases e),λ_=>I,ZrO n⟩
theorem ZE5 {o:Oper} {a:Act} {r:Operand} (m:execOp a.eval o=(do pure (.value (<-x)):Sem Next)) (q:(ZfT o.op||Zov o.op)=false) (n:appArg o.op=some r)
  (h:∃u E' H' s,x.run P E.w=.ok u E'.w/\Inv B E' H'/\E.le E'/\den E' s u/\K s H'/\E.w.grownBy E'.w (a.eval r).ownBlock):Ran P B E o a K:=by
 obtain⟨u,E',H',s,d,f,g,i,j,I⟩:=h;have c:ZfT o.op=false:=by cases h:ZfT o.op<;>simp[h]at q ⊢
 exact⟨_,u,E',H',s,by rw[m,Sem.run_bind,d];rfl,.inl rfl,f,g,i,j,λe=>(by rw[c]at e;cases e),λe=>(by rw[q]at e;cases e),λx l=>by rw[n]at l;injection l with l;subst l;exact Zvt I⟩
theorem Zuq (a:Act) (p:Array (Nat×Operand)):(p.map λx=>(x.1,a.eval x.2)).toList=p.toList.map λx=>(x.1,a.eval x.2):=by simp
theorem ZAI (hΔ:Δ.ok P) (m:Inv B E H) {R:List SV} {a:Act} (N:Yu E R a.tmps.toList) {o:Oper}
  (h:opK Δ R H o.op K):Ran P B E o a K:=by
 obtain⟨dst,op,z,pos,after,guard⟩:=o;simp only at h;have a0:∀{x:Operand} (U:Op),(execOp a.eval ⟨dst,U,z,pos,after,guard⟩=pure (.value (a.eval x)))->(Za1 R x λs=>K s H)->appArg U=none->Ran P B E ⟨dst,U,z,pos,after,guard⟩ a K:=by
  intro x U he h ha;obtain⟨s,q,h⟩:=YU N h;exact Zj0 m he q h ha
 unfold opK at h;split at h
 ·exact a0 _ rfl h rfl
 ·exact a0 _ rfl h rfl
 ·rename_i c x y
  obtain⟨s,q,h⟩:=YU N h;split at h
  ·simp only[den]at q
   obtain⟨s',J,h⟩:=YU N h;exact Zj0 m (u:=a.eval x) (by simp[execOp,q,asBool]) J h
  ·simp only[den]at q
   obtain⟨s',J,h⟩:=YU N h;exact Zj0 m (u:=a.eval y) (by simp[execOp,q,asBool]) J h
  ·rename_i p
   simp only[den]at q;cases p
   ·obtain⟨s',J,h⟩:=YU N (h.2 rfl)
    exact Zj0 m (u:=a.eval y) (by simp[execOp,q,asBool]) J h
   ·obtain⟨s',J,h⟩:=YU N (h.1 rfl)
    exact Zj0 m (u:=a.eval x) (by simp[execOp,q,asBool]) J h
  ·exact h.elim
 ·obtain⟨I,b,h⟩:=Qd Δ hΔ h
  exact Zfq rfl rfl (ZyT m b h)
 ·obtain⟨s,q,h⟩:=YU N h
  exact Zfq rfl rfl (ZEi m q h)
 ·rename_i T ps
  obtain⟨I,b,h⟩:=Qd Δ hΔ h;obtain⟨l,Q,h⟩:=Zql N _ h;exact Jo m rfl (Zy3 b (by rw[Zuq];exact Q) h)
 ·rename_i T n ps
  obtain⟨I,b,h⟩:=Qd Δ hΔ h;obtain⟨l,Q,h⟩:=Zql N _ h;exact Zfq rfl rfl (Zq0 m b (by rw[Zuq];exact Q) h)
 ·obtain⟨I,b,h⟩:=Qd Δ hΔ h
  obtain⟨s,q,h⟩:=YU N h;exact ZAS m rfl rfl (ZCH m b q h)
 ·obtain⟨I,b,h⟩:=Qd Δ hΔ h
  obtain⟨sa,a7,h⟩:=YU N h;obtain⟨sx,G,h⟩:=YU N h;obtain⟨E',H',C,D,F,h4,h5⟩:=ZBl m b a7 G h;exact⟨.skip,undef,E',H',.tup [],by simp[execOp,C],.inr ⟨rfl,rfl⟩,D,F,by simp only[den];exact⟨[],rfl,trivial⟩,h4,λe=>(by cases e),λe=>(by cases e),λy hy=>by simp only[appArg]at hy;injection hy with hy;subst hy;exact h5⟩
 ·obtain⟨s0,a6,h⟩:=YU N h
  obtain⟨s,q,h⟩:=Zzn a6 h;split at h
  ·rename_i hp
   rcases ZvK q hp with⟨p,Z⟩|⟨f,cs,Z⟩
   ·exact Zj0 m (by simp[execOp,Z];rfl) (by rw[<-Z];exact q) h
   ·exact Zj0 m (by simp[execOp,Z];rfl) (by rw[<-Z];exact q) h
  ·exact h.elim
 ·obtain⟨sx,G,h⟩:=YU N h
  obtain⟨sy,M,h⟩:=YU N h;obtain⟨r,s,C,D,F⟩:=ZBV (P:=P) hΔ h G M _ _;exact Jo m rfl ⟨r,s,C,D,F⟩
 ·obtain⟨sx,G,h⟩:=YU N h
  obtain⟨r,s,C,D,F⟩:=ZHj (P:=P) h G;exact Jo m rfl ⟨r,s,C,D,F⟩
 ·obtain⟨ts,Y,h⟩:=Qd Δ hΔ h
  obtain⟨td,X,h⟩:=Qd Δ hΔ h;obtain⟨s,q,h⟩:=YU N h;split at h
  ·rename_i a4 a5
   obtain⟨te,b0,h⟩:=Qd Δ hΔ h;obtain⟨u,r,C,D,F⟩:=Zzg (P:=P) m Y a4 X a5 b0 q h;exact Zfq rfl rfl ⟨u,E,H,r,C,m,Env.le.refl E,D,F,Grow.refl _⟩
  ·obtain⟨u,r,C,D,F⟩:=ZB7 (P:=P) Y X q h
   exact Jo m rfl ⟨u,r,C,D,F⟩
 ·rename_i f first V
  split at h
  ·rename_i hf
   obtain⟨V⟩:=V;obtain⟨l,Q,h⟩:=ZmH N _ h;have a3:first=#[]:=Array.eq_empty_of_size_eq_zero hf;subst a3;refine Jo m rfl ⟨_,_,λw=>rfl,?_,h⟩;simp only[den];exact⟨_,by simp,Q⟩
  ·exact h.elim
 ·obtain⟨I,b,h⟩:=Qd Δ hΔ h
  obtain⟨sl,a9,h⟩:=YU N h;obtain⟨sc,a8,h⟩:=YU N h;exact Zfq rfl rfl (ZCQ m b a9 a8 h)
 ·obtain⟨I,b,h⟩:=Qd Δ hΔ h
  obtain⟨s,q,h⟩:=YU N h;exact Zfq rfl rfl (ZBc m N b q h)
 ·obtain⟨I,b,h⟩:=Qd Δ hΔ h
  obtain⟨s,q,h⟩:=YU N h;exact Jo m rfl (Zsp b q h)
 ·obtain⟨I,b,h⟩:=Qd Δ hΔ h
  obtain⟨s,q,h⟩:=YU N h;exact Jo m rfl (Zzy b q h)
 ·rename_i T x i
  obtain⟨I,b,h⟩:=Qd Δ hΔ h;obtain⟨s,q,h⟩:=YU N h;cases i with
  |const v =>
   obtain⟨S,d,h⟩:∃S,(∀j,Znw (.const v)=some j->∀k i,S=.int k i->i=(j:Int))/\den E S v/\Zlh I s S (.const v) H λr=>K r H:=by
    have h':=h;obtain⟨S,d,h⟩:=YU N h;have L:den E S v:=d;refine⟨S,λj O k i W=>?_,L,h⟩;subst W;simp only[den]at L;subst L;simp only[Znw]at O;split at O
    ·simp at O;subst O;rfl
    ·cases O
   exact Jo m rfl (ZjR m b q h.1 h.2 d)
  |tmp t =>
   obtain⟨S,d,h⟩:=YU N h;exact Jo m rfl (ZjR m b q d h (λj O=>by simp[Znw]at O))
  |global g=>exact h.elim
  |func f =>
   obtain⟨S,d,h⟩:=YU N h;exact Jo m rfl (ZjR m b q d h (λj O=>by simp[Znw]at O))
 ·obtain⟨I,b,h⟩:=Qd Δ hΔ h
  obtain⟨s,q,h⟩:=YU N h;obtain⟨S,d,h⟩:=YU N h;obtain⟨u,r,C,D,F⟩:=ZBn (P:=P) b q d h;exact Jo m rfl ⟨u,r,C,D,F⟩
 ·obtain⟨s,q,h⟩:=YU N h
  obtain⟨u,r,C,D,F⟩:=ZFU (P:=P) q h;exact Jo m rfl ⟨u,r,C,D,F⟩
 ·obtain⟨I,b,h⟩:=Qd Δ hΔ h
  exact Zfq rfl rfl (ZvE m b h)
 ·obtain⟨I,b,h⟩:=Qd Δ hΔ h
  obtain⟨sx,G,h⟩:=YU N h;obtain⟨S,d,h⟩:=YU N h;obtain⟨u,r,C,D,F⟩:=Zx5 (P:=P) hΔ m b G d h;exact Zfq rfl rfl ⟨u,E,H,r,C,m,Env.le.refl E,D,F,Grow.refl _⟩
 ·obtain⟨I,b,h⟩:=Qd Δ hΔ h
  obtain⟨sx,G,h⟩:=YU N h;obtain⟨S,d,h⟩:=YU N h;obtain⟨sy,M,h⟩:=YU N h;obtain⟨E',H',C,D,F,h4⟩:=Zyv (P:=P) hΔ m b G d M h;exact⟨.skip,undef,E',H',.tup [],by simp[execOp,C],.inr ⟨rfl,rfl⟩,D,F,by simp only[den];exact⟨[],rfl,trivial⟩,h4,λe=>(by cases e),λe=>(by cases e),ZrO rfl⟩
 ·rename_i c
  obtain⟨a1,args,A⟩:=c;obtain⟨args⟩:=args;obtain⟨A⟩:=A;simp only at h;split at h
  ·rename_i x T
   obtain⟨I,b,h⟩:=Qd Δ hΔ h;obtain⟨s,q,h⟩:=YU N h;obtain⟨u,r,C,D,F⟩:=ZER (ty:=z) m b q h;exact Jo m (x:=Builtin.len_ #[T] z #[a.eval x]) (by simp only[execOp,resolve,invoke,builtin,pure_bind,List.map_toArray,List.map_cons,KZ]) ⟨u,r,C,D,F⟩
  ·rename_i x y T T'
   split at h
   ·rename_i a2;subst a2
    obtain⟨I,b,h⟩:=Qd Δ hΔ h;obtain⟨sx,G,h⟩:=YU N h;obtain⟨sy,M,h⟩:=YU N h;exact ZE5 (x:=Builtin.append_ #[T,T] z #[a.eval x,a.eval y]) (by simp only[execOp,resolve,invoke,builtin,pure_bind,List.map_toArray,List.map_cons,KZ]) rfl rfl (ZxE (ty:=z) m b G M h)
   ·exact h.elim
  ·rename_i x r
   obtain⟨s,q,h⟩:=YU N h;obtain⟨l,Q,h⟩:=ZmH N _ h;obtain⟨u,r',C,D,F⟩:=ZvG (P:=P) (mx:=false) l s _ _ q Q h;exact Jo m (x:=Builtin.min_ A.toArray z ((x::r).toArray.map a.eval)) (by simp only[execOp,resolve,invoke,builtin,pure_bind]) ⟨u,r',λw=>by simpa[Builtin.min_]using C w,D,F⟩
  ·rename_i x r
   obtain⟨s,q,h⟩:=YU N h;obtain⟨l,Q,h⟩:=ZmH N _ h;obtain⟨u,r',C,D,F⟩:=ZvG (P:=P) (mx:=true) l s _ _ q Q h;exact Jo m (x:=Builtin.max_ A.toArray z ((x::r).toArray.map a.eval)) (by simp only[execOp,resolve,invoke,builtin,pure_bind]) ⟨u,r',λw=>by simpa[Builtin.max_]using C w,D,F⟩
  ·exact h.elim
 ·exact h.elim
end
inductive Sh
 |dat (t:Ty)
 |own (e:Dp)
 |io (e:Dp)
 |back (e:Dp)
@[reducible] def Sh.den:Sh->Type
 | .dat t=>t.den
 | .own e=>e.ty.den
 | .io e=>e.ty.den
 | .back e=>e.ty.den
@[reducible] def Shs:List Sh->Type
 |[]=>Unit
 |s::r=>s.den×Shs r
@[reducible] def Ios:List Sh->Type
 |[]=>Unit
 | .io e::r=>e.ty.den×Ios r
 | .back e::r=>e.ty.den×Ios r
 | .dat _::r=>Ios r
 | .own _::r=>Ios r
structure Ctr where
 args:List Sh
 rets:List Sh
 tr:Shs args->(Shs rets->Ios args->Prop)->Prop
def ZBB (t:Ty) (v:Value):Prop:=(t.agg=true->∃cs,v=.agg cs)/\(t.agg=false->v.cells=#[v])
def ZGj (S:Nat->Prop) (w:World) (t:Ty) (d:t.den) (v:Value):Prop :=
 (t.agg=true->∃cs,v=.agg cs)/\(t.agg=false->v.cells=#[v])/\rep S w t d v.cells.toList
def ZvY (S:Nat->Prop) (w:World):(s:Sh)->s.den->Value->List Nat->Prop
 | .dat t,d,v,p=>p=[]/\ZGj S w t d v
 | .own e,d,v,p=>ZBB e.ty v/\Zi4 S w e d v.cells.toList p
 | .back e,d,v,p=>ZBB e.ty v/\Zi4 S w e d v.cells.toList p
 | .io e,d,v,p=>∃b cs T f,v=.pointer (some ⟨b,0,none⟩)/\w.heap[b]?=some (.cells cs T (0,0))/\Zi4 S w e d cs.toList f/\p=b::f
def Zfs (S:Nat->Prop) (w:World):(l:List Sh)->Shs l->List Value->List Nat->Prop
 |[],_,vs,p=>vs=[]/\p=[]
 |s::r,d,vs,p=>∃v vr f fr,vs=v::vr/\p=f++fr/\ZvY S w s d.1 v f/\Zfs S w r d.2 vr fr
def Zig (S:Nat->Prop) (w:World):(l:List Sh)->Ios l->List Value->List Nat->Prop
 |[],_,_,p=>p=[]
 | .io e::r,d,vs,p=>∃v vr f fr,vs=v::vr/\p=f++fr/\ZvY S w (.io e) d.1 v f/\Zig S w r d.2 vr fr
 | .back e::r,d,vs,p=>∃v vr f fr,vs=v::vr/\p=f++fr/\ZvY S w (.back e) d.1 v f/\Zig S w r d.2 vr fr
 | .dat _::r,d,vs,p=>∃v vr,vs=v::vr/\Zig S w r d vr p
 | .own _::r,d,vs,p=>∃v vr,vs=v::vr/\Zig S w r d vr p
def retv (us:List Value) (v:Value):Prop :=
 match us with
 |[u]=>v=u
 |us=>v=.tuple us.toArray
def Zmq (P:Program) (f:FuncId):Prop:=∃fn,P.funcs[f]?=some fn/\(fn.name == "runtime.NumGoroutine")=false/\fn.body.isNone=false
def Zc (P:Program) (f:FuncId) (C:Ctr):Prop:=Zmq P f/\
 ∀(w:World) (S:Nat->Prop) (vs:List Value) (a:Shs C.args) (p:List Nat) (K:Shs C.rets->Ios C.args->Prop),
  (∀b,S b->b<w.heap.size)->Zfs S w C.args a vs p->p.Nodup->(∀g∈p,¬S g/\g<w.heap.size)->C.tr a K->
  Calls P f vs.toArray w λe w'=>∃v u s i S' fr o,e=.returned v/\retv u v/\K s i/\Keeps ⟨w,S,λb=>b∈p,[]⟩ w'/\(∀b,S b->S' b)/\
   (∀b,S' b->b<w'.heap.size/\(b<w.heap.size->S b\/b∈p))/\Zfs S' w' C.rets s u fr/\Zig S' w' C.args i vs o/\
   (o++fr).Nodup/\∀g∈o++fr,¬S' g/\g<w'.heap.size/\(w.heap.size<=g\/g∈p)
def SV.isAgg:SV->Bool
 | .agg _=>true
 |_=>false
def ZGc (f:SV->List Entry->(SV->List Entry->Prop)->Prop):List SV->List Entry->(List SV->List Entry->Prop)->Prop
 |[],H,K=>K [] H
 |s::r,H,K=>f s H λS H1=>ZGc f r H1 λR H2=>K (S::R) H2
def ZpP:Nat->SV->List Entry->(SV->List Entry->Prop)->Prop
 |0,s,H,K=>K s H
 |n+1,s,H,K=>match s with
  | .ptr I 0=>ZiG H I λe=>match e with
   | .box cells=>ZGc (ZpP n) cells H λc H0=>JR c H0 λC H1=>ZiG H1 I λE=>match E with
    | .box _=>ZjD H1 I (.fbx C) λH2=>K (.fptr C) H2
    |_=>False
   | .fbx cells=>K (.fptr cells) H
   |_=>False
  | .own I=>ZiG H I λe=>match e with
   | .hole _ e d i cells _=>ZGc (ZpP n) cells H λc H0=>JR c H0 λC H1=>QC e.ty C λx rest=>match rest with
    |[]=>ZiG H1 I λE=>match E with
     | .hole _ _ _ _ _ _=>ZjD H1 I (.frz e.ty (d.set i.toNat x)) λH2=>K (.sl e.ty (d.set i.toNat x)) H2
     |_=>False
    |_=>False
   |_=>K (.own I) H
  |s=>K s H
def Zz5 (s:SV) (H:List Entry) (K:SV->List Entry->Prop):Prop:=ZpP 3 s H K
def Zvr (cs:List SV) (H:List Entry) (K:List SV->List Entry->Prop):Prop:=ZGc Zz5 cs H K
def Zz3 (s:SV) (H:List Entry) (K:List SV->List Entry->Prop):Prop :=
 match s with
 | .fn f C=>Zvr C H λc H1=>K [.fn f c] H1
 | .ptr I o=>Zz5 (.ptr I o) H λS H1=>K [S] H1
 |s=>Zvr s.cells H λa H0=>JR a H0 K
def ZtV (t:Ty) (cs:List SV) (K:SV->Prop):Prop :=
 if t.agg=true then K (.agg cs)else match cs with
  |c::_=>K c
  |[]=>False
def ZoL:(l:List Sh)->List SV->List Entry->(Shs l->List Entry->Prop)->Prop
 |[],S,H,K=>match S with
  |[]=>K () H
  |_=>False
 | .dat t::r,S,H,K=>match S with
  |s::S=>if s.whole=true/\t.agg=s.isAgg then Zz3 s H λcs H1=>QC t cs λd rest=>match rest with
    |[]=>ZoL r S H1 λD H2=>K (d,D) H2
    |_=>False
   else False
  |_=>False
 | .own e::r,S,H,K=>match S with
  |s::S=>if s.whole=true/\e.ty.agg=s.isAgg then closeAll e s.cells H λd H1=>ZoL r S H1 λD H2=>K (d,D) H2 else False
  |_=>False
 | .back e::r,S,H,K=>match S with
  |s::S=>if s.whole=true/\e.ty.agg=s.isAgg then closeAll e s.cells H λd H1=>ZoL r S H1 λD H2=>K (d,D) H2 else False
  |_=>False
 | .io e::r,S,H,K=>match S with
  | .ptr I 0::S=>ZiG H I λM=>match M with
   | .box cells=>ZjD H I .gone λH0=>closeAll e cells H0 λd H1=>ZoL r S H1 λD H2=>K (d,D) H2
   |_=>False
  |_=>False
def Dp.closed:Dp->Bool
 | .flat t=>t.flat
 | .ol _ e=>e.closed
 | .pair a b=>a.closed&&b.closed
 | .mp k v=>k.flat&&v.flat
def Sh.flat:Sh->Bool
 | .dat t=>t.flat
 | .own e=>e.closed
 | .io e=>e.closed
 | .back e=>e.closed
def Zpe:List Sh->Bool
 |[]=>true
 |s::r=>s.flat&&Zpe r
def Zl4:List Sh->Bool
 |[]=>true
 | .io e::r=>e.closed&&Zl4 r
 | .back e::r=>e.closed&&Zl4 r
 |_::r=>Zl4 r
def Zg6:(e:Dp)->List SV->e.ty.den->List Entry->(List SV->List Entry->Prop)->Prop
 | .flat t,cs,_,H,K=>ZkI cs t.size λr=>K r H
 | .ol g e,cs,d,H,K=>match cs with
  | .nsl::r=>K r H
  | .own I::r=>ZE4 g e I d H λH'=>K r H'
  |_=>False
 | .mp k v,cs,d,H,K=>match cs with
  | .mown I::r=>ZjD H I (.mpe k v d) λH'=>K r H'
  |_=>False
 | .pair a b,cs,d,H,K=>Zr d λx y=>Zg6 a cs x H λr H1=>Zg6 b r y H1 K
def ZyC:(l:List Sh)->List SV->Ios l->List Entry->(List Entry->Prop)->Prop
 |[],_,_,H,K=>K H
 | .io e::r,S,d,H,K=>match S with
  | .ptr I 0::S=>Zr d λx D=>Jd e x H λcells H1=>ZjD H1 I (.box cells) λH2=>ZyC r S D H2 K
  |_=>False
 | .back e::r,S,d,H,K=>match S with
  |s::S=>if s.whole=true then Zr d λx D=>Zg6 e s.cells x H λ_ H1=>ZyC r S D H1 K else False
  |_=>False
 | .dat _::r,S,d,H,K=>match S with
  |_::S=>ZyC r S d H K
  |_=>False
 | .own _::r,S,d,H,K=>match S with
  |_::S=>ZyC r S d H K
  |_=>False
def Zn6:(l:List Sh)->Shs l->List Entry->(List SV->List Entry->Prop)->Prop
 |[],_,H,K=>K [] H
 | .dat t::r,d,H,K=>Zr d λx D=>JE t x λcs=>ZtV t cs λs=>Zn6 r D H λS H'=>K (s::S) H'
 | .own e::r,d,H,K=>Zr d λx D=>Jd e x H λcs H1=>ZtV e.ty cs λs=>Zn6 r D H1 λS H'=>K (s::S) H'
 | .back e::r,d,H,K=>Zr d λx D=>Jd e x H λcs H1=>ZtV e.ty cs λs=>Zn6 r D H1 λS H'=>K (s::S) H'
 | .io e::r,d,H,K=>Zr d λx D=>Jd e x H λcs H1=>ZrN cs H1 λs H2=>Zn6 r D H2 λS H'=>K (s::S) H'
def ZAH (ss:List SV) (K:SV->Prop):Prop :=
 match ss with
 |[s]=>K s
 |ss=>K (.tup ss)
def ZwI:List Entry->(List Entry->Prop)->Prop
 |[],K=>K []
 |e::r,K=>ZwI r λR=>K (e::R)
theorem Zt1:∀(l:List Entry) (K:List Entry->Prop),ZwI l K=K l
 |[],_=>rfl
 |e::r,K=>by unfold ZwI;exact Zt1 r _
def ZEo (C:Ctr) (a:List SV) (H:List Entry) (K:SV->List Entry->Prop):Prop :=
 ZoL C.args a H λA H1=>C.tr A λr i =>
  if(Zpe C.rets&&Zl4 C.args)=true then ZwI (ZoX H H1) λH0=>ZyC C.args a i H0 λH2=>Zn6 C.rets r H2 λS H3=>ZAH S λs=>K s H3
  else ZyC C.args a i H1 λH2=>Zn6 C.rets r H2 λS H3=>ZAH S λs=>K s H3
def ZGo (B:Base) (f:SV->List Entry->(SV->List Entry->Prop)->Prop):Prop :=
 ∀(E:Env) (H:List Entry),Inv B E H->∀(s:SV) (v:Value),den E s v->∀(K:SV->List Entry->Prop),f s H K->∃E' H' S,Frz E H E' H'/\Inv B E' H'/\den E' S v/\K S H'
theorem Zsu {B:Base} {f:SV->List Entry->(SV->List Entry->Prop)->Prop} (b:ZGo B f):∀(cs:List SV) {E:Env} {H:List Entry} (_:Inv B E H) {vs:List Value} (_:Yu E cs vs) {K:List SV->List Entry->Prop} (_:ZGc f cs H K),
  ∃E' H' C,Frz E H E' H'/\Inv B E' H'/\Yu E' C vs/\K C H'
 |[],E,H,m,vs,N,K,h=>⟨E,H,[],Frz.refl E H,m,N,h⟩
 |s::r,E,H,m,vs,N,K,h=>by
  match vs,N with
  |[],N=>simp[Yu]at N
  |v::vs,N =>
   simp only[Yu]at N;simp only[ZGc]at h;obtain⟨E1,H1,S,x,A,a,h⟩:=b _ _ m _ _ N.1 _ h;obtain⟨E2,H2,R,M,g,c,h⟩:=Zsu b r A (ZX x.le _ _ N.2) h;exact⟨E2,H2,S::R,x.trans M,g,⟨ZiC M.le _ _ a,c⟩,h⟩
theorem ZnG {B:Base}:∀n,ZGo B (ZpP n)
 |0=>λ_ _ q _ _ N _ k=>⟨_,_,_,Frz.refl _ _,q,N,k⟩
 |n+1=>by
  intro E H q s v N K k;unfold ZpP at k;split at k
  ·rename_i M
   obtain⟨e,R,k⟩:=XB H k;simp only[den]at N;obtain⟨b,P,hv⟩:=N;split at k
   ·rename_i cells
    obtain⟨b',cs,T,z,h2,h3⟩:=q.ent M _ R;have:=P.symm.trans z;simp at this;subst this;obtain⟨E0,H0,Z,G,A,m,k⟩:=Zsu (ZnG n) _ q h3 k;obtain⟨E1,H1,C,I,D,t,k,_⟩:=Vk _ A m k;have a:=G.trans I;obtain⟨e1,J,k⟩:=XB H1 k;split at k
    ·rename_i c1
     rw[Qa]at k;have p:E1.ids[M]?=some (.pointer (some ⟨b,0,none⟩)):=by rw[a.ids];exact P
     have V:E1.w.heap[b]?=some (.cells cs T (0,0)):=by rw[a.w];exact h2
     have W:E1.le ⟨λg=>E1.S g\/Zi9 (.box c1) (.pointer (some ⟨b,0,none⟩)) g,E1.w,E1.ids⟩:=⟨λ_ h=>.inl h,λ_ _=>rfl,λ_ _ h=>h⟩;obtain⟨l,F⟩:=D.ZpN J rfl p (.fbx C) rfl ⟨b,cs,T,p,.inr rfl,V,ZX W _ _ t⟩;refine⟨_,_,_,a.trans (Frz.one J rfl p rfl l (λb r=>r)),F,?_,k⟩;simp only[den];refine⟨⟨b,0,none⟩,cs.toList,hv,rfl,.inr rfl,λj u hu=>?_,ZX l _ _ t⟩;exact Zmy (w:=E1.w) (b:=b) (cs:=cs) (T:=T) (fr:=(0,0)) V 0 j u (by simpa using hu)
    ·exact k.elim
   ·rename_i cells
    obtain⟨b',cs,T,z,hS,h2,h3⟩:=q.ent M _ R;have:=P.symm.trans z;simp at this;subst this;refine⟨E,H,_,Frz.refl E H,q,?_,k⟩;simp only[den];refine⟨⟨b,0,none⟩,cs.toList,hv,rfl,hS,λj u hu=>?_,h3⟩;exact Zmy h2 0 j u (by simpa using hu)
   ·exact k.elim
  ·rename_i M
   obtain⟨en,R,k⟩:=XB H k;split at k
   ·rename_i et e d i cells Y
    have m:=N;simp only[den]at m;obtain⟨v',xs,x1,vx,x2,f1,f2,P,ho,a5,a6,ex,el,a4,a1,a2,a0,y,a7⟩:=q.ent M _ R;have:=P.symm.trans m.1;simp at this;subst this;obtain⟨E0,H0,Z,G,A,Q,k⟩:=Zsu (ZnG n) _ q a0 k;obtain⟨E1,H1,C,I,D,t,k,_⟩:=Vk _ A Q k;have a:=G.trans I;obtain⟨x,rest,u1,u2,O,hr,L,k⟩:=Qj e.ty C _ _ t k;split at k
    ·have a3:u2=[]:=by cases u2 with
      |nil=>rfl
      |cons=>simp[Yu]at L
     subst a3;rw[Un]at O;subst O;obtain⟨e1,J,k⟩:=XB H1 k;split at k
     ·have c:=a.same M _ J rfl
      rw[R]at c;have c:=Option.some.inj c;rw[<-c]at J;rw[Qa]at k;have p:E1.ids[M]?=some v':=by rw[a.ids];exact m.1
      have X:rep (λb=>E1.S b\/Zi9 (.hole et e d i cells Y) v' b) E1.w (.sl e.ty) (d.set i.toNat x) [v']:=by
       have hw:=a.w;rw[hw];rw[hw]at hr;refine Zup (by rw[UH];exact ho) ?_ (λg U=>.inr (by show g∈Y;rw[y];simp[U]));rw[List.set_eq_take_append_cons_drop,QP,ex,Uj];refine Zj3 _ _ _ _ (Zj2 _ _ _ (λd vs f o h=>ZgD (S:=E.S) (λb r=>.inl (a.le.S b r)) e d vs f (λg U=>.inr (by show g∈Y;rw[y];simp[o g U])) h) a1) ⟨vx,x2,rfl,?_,?_⟩
       ·exact YL (λb r=>.inl r) (λ_ _=>rfl) e.ty x vx hr
       ·exact Zj2 _ _ _ (λd vs f o h=>ZgD (S:=E.S) (λb r=>.inl (a.le.S b r)) e d vs f (λg U=>.inr (by show g∈Y;rw[y];simp[o g U])) h) a2
      obtain⟨l,F⟩:=D.ZpN J rfl p (.frz e.ty (d.set i.toNat x)) rfl ⟨v',p,X⟩;exact⟨_,_,_,a.trans (Frz.one J rfl p rfl l (λb r=>r)),F,by simp only[den];exact X,k⟩
     ·exact k.elim
    ·exact k.elim
   ·exact⟨E,H,_,Frz.refl E H,q,N,k⟩
  ·exact⟨E,H,_,Frz.refl E H,q,N,k⟩
variable {B:Base} {E:Env} {H:List Entry} {s:SV} {v:Value}
theorem Zt5 (m:Inv B E H) (N:den E s v) {K:SV->List Entry->Prop} (h:Zz5 s H K) :
  ∃E' H' S,Frz E H E' H'/\Inv B E' H'/\den E' S v/\K S H':=ZnG 3 _ _ m _ _ N _ h
variable {vs:List Value} {K:List SV->List Entry->Prop}
theorem ZrG (cs:List SV) (m:Inv B E H) (N:Yu E cs vs) (h:Zvr cs H K) :
  ∃E' H' C,Frz E H E' H'/\Inv B E' H'/\Yu E' C vs/\K C H' :=
 Zsu (λ_ _ m _ _ N _ h=>Zt5 m N h) cs m N h
theorem Zz4 (m:Inv B E H) (N:den E s v) (w:s.whole=true) (h:Zz3 s H K) :
  ∃E' H' C,Frz E H E' H'/\Inv B E' H'/\Yu E' C v.cells.toList/\K C H':=by
 unfold Zz3 at h;split at h
 ·rename_i f d
  simp only[den]at N;obtain⟨vs,rfl,N⟩:=N;obtain⟨E1,H1,C,x,A,a,h⟩:=ZrG _ m N h;exact⟨E1,H1,[.fn f C],x,A,⟨by simp only[den];exact⟨vs,rfl,a⟩,trivial⟩,h⟩
 ·rename_i I o
  have q:=(ZkW N rfl).1;obtain⟨E1,H1,S,x,A,a,h⟩:=Zt5 m N h;exact⟨E1,H1,[S],x,A,by rw[q];exact⟨a,trivial⟩,h⟩
 ·obtain⟨E0,H0,e,G,b,c,h⟩:=ZrG _ m (Zbe N w) h
  obtain⟨E1,H1,C,x,A,a,h,_⟩:=Vk _ b c h;exact⟨E1,H1,_,G.trans x,A,a,h⟩
theorem Zxr {E E':Env} (h:E.le E') {p:List Nat} (c:∀g∈p,E'.w.heap[g]?=E.w.heap[g]?):∀(s:Sh) (d:s.den) (v:Value),ZvY E.S E.w s d v p->ZvY E'.S E'.w s d v p
 | .dat t,_,_,⟨m,H,a,i⟩=>⟨m,H,a,YL h.S h.w t _ _ i⟩
 | .own e,_,_,⟨H,a⟩=>⟨H,Y5 h.S h.w e _ _ _ c a⟩
 | .back e,_,_,⟨H,a⟩=>⟨H,Y5 h.S h.w e _ _ _ c a⟩
 | .io e,_,_,⟨b,cs,T,f,H,a,i,j⟩=>⟨b,cs,T,f,H,by rw[c b (by rw[j];simp)];exact a,Y5 h.S h.w e _ _ _ (λg k=>c g (by rw[j];simp[k])) i,j⟩
theorem ZuD {E E':Env} (h:E.le E'):∀(l:List Sh) (d:Shs l) (vs:List Value) (p:List Nat),(∀g∈p,E'.w.heap[g]?=E.w.heap[g]?)->Zfs E.S E.w l d vs p->Zfs E'.S E'.w l d vs p
 |[],_,_,_,_,h=>h
 |s::r,_,_,_,c,⟨v,vr,f,fr,e,a,b,i⟩=>⟨v,vr,f,fr,e,a,Zxr h (λg H=>c g (by rw[a];simp[H])) s _ _ b,ZuD h r _ _ _ (λg H=>c g (by rw[a];simp[H])) i⟩
theorem ZvS {α:Type} {R R':α->List Value->List Nat->Prop} (h:∀d vs f,R d vs f->R' d vs f) (l:List α) (xs:List Value) (p:List Nat) (F:Zcp R l xs p):Zcp R' l xs p:=QE l xs p (λd vs f _=>h d vs f) F
theorem ZdK {S S':Nat->Prop} {w:World}:∀(e:Dp),e.closed=true->∀(d:e.ty.den) (vs:List Value) (p:List Nat),Zi4 S w e d vs p->Zi4 S' w e d vs p
 | .flat t,q,_,_,_,⟨H,c⟩=>⟨H,Zlm t q _ _ c⟩
 | .ol m e,q,_,_,_,⟨v,xs,s,E,x,l,i⟩=>⟨v,xs,s,E,x,ZvS (λd vs f=>ZdK e q d vs f) _ _ _ l,i⟩
 | .mp k v,q,_,_,_,⟨b,g,C,E,i,r,h⟩=>by
  simp only[Dp.closed,Ur]at q;exact⟨b,g,C,E,i,r,ZdA (λd vs=>Zlm k q.1 d vs) (λd vs=>Zlm v q.2 d vs) _ _ h⟩
 | .pair a b,q,_,_,_,⟨v1,V,F,j,E,i,H,c⟩=>by
  simp only[Dp.closed,Ur]at q;exact⟨v1,V,F,j,E,i,ZdK a q.1 _ _ _ H,ZdK b q.2 _ _ _ c⟩
theorem Znc {S S':Nat->Prop} {w:World}:∀(l:List Sh),Zpe l=true->∀(d:Shs l) (vs:List Value) (p:List Nat),Zfs S w l d vs p->Zfs S' w l d vs p
 |[],_,_,_,_,h=>h
 |s::r,g,_,_,_,⟨v,vr,f,fr,e,E,H,m⟩=>by
  simp only[Zpe,Ur]at g;refine⟨v,vr,f,fr,e,E,?_,Znc r g.2 _ _ _ m⟩;cases s with
  |dat t=>obtain⟨a,b,c,d⟩:=H;exact⟨a,b,c,Zlm t g.1 _ _ d⟩
  |own e=>exact⟨H.1,ZdK e g.1 _ _ _ H.2⟩
  |back e=>exact⟨H.1,ZdK e g.1 _ _ _ H.2⟩
  |io e=>obtain⟨b,cs,T,F,A,i,j,k⟩:=H;exact⟨b,cs,T,F,A,i,ZdK e g.1 _ _ _ j,k⟩
theorem ZfR {S S':Nat->Prop} {w:World}:∀(l:List Sh),Zl4 l=true->∀(d:Ios l) (vs:List Value) (p:List Nat),Zig S w l d vs p->Zig S' w l d vs p
 |[],_,_,_,_,h=>h
 | .io e::r,H,_,_,_,⟨v,vr,f,fr,j,E,⟨b,cs,T,F,A,c,g,k⟩,a⟩=>by
  simp only[Zl4,Ur]at H;exact⟨v,vr,f,fr,j,E,⟨b,cs,T,F,A,c,ZdK e H.1 _ _ _ g,k⟩,ZfR r H.2 _ _ _ a⟩
 | .back e::r,H,_,_,_,⟨v,vr,f,fr,j,E,⟨A,c⟩,a⟩=>by
  simp only[Zl4,Ur]at H;exact⟨v,vr,f,fr,j,E,⟨A,ZdK e H.1 _ _ _ c⟩,ZfR r H.2 _ _ _ a⟩
 | .dat _::r,H,_,_,_,⟨v,vr,e,a⟩=>⟨v,vr,e,ZfR r H _ _ _ a⟩
 | .own _::r,H,_,_,_,⟨v,vr,e,a⟩=>⟨v,vr,e,ZfR r H _ _ _ a⟩
theorem ZCA (h:den E s v) (c:s.whole=true):(s.isAgg=true->∃cs,v=.agg cs)/\(s.isAgg=false->v.cells=#[v]):=by
 constructor
 ·intro n
  cases s<;>simp[SV.isAgg]at n
  simp only[den]at h;obtain⟨vs,e,_⟩:=h;exact⟨_,e⟩
 ·intro n
  have d:s.one=true:=by cases s<;>simp_all[SV.isAgg,SV.whole,SV.one]
  exact(ZkW h d).1
def Handed (B:Base) (l:List Sh) (E:Env) (H:List Entry) (vs:List Value) (gs:List Nat) (K:Shs l->List Entry->Prop):Prop :=
 ∃E1 H1 a f,Frz E H E1 H1/\Inv B E1 H1/\Zfs E1.S E1.w l a vs f/\K a H1/\Loose B E1 H1 (f++gs)/\ZlE E H H1 f
theorem Handed.cons {s:Sh} {r:List Sh} {E1:Env} {H1:List Entry} {gs f:List Nat} {d:s.den} (b:Frz E H E1 H1) (q:ZvY E1.S E1.w s d v f) (z:ZlE E H H1 f) {K:Shs (s::r)->List Entry->Prop}
  (h:Handed B r E1 H1 vs (f++gs) (λD H2=>K (d,D) H2)):Handed B (s::r) E H (v::vs) gs K:=by
 obtain⟨E2,H2,D,p,M,a,k,c,o,Z⟩:=h;refine⟨E2,H2,(d,D),f++p,b.trans M,a,⟨v,vs,f,p,rfl,rfl,Zxr M.le (λg _=>by rw[M.w]) s _ _ q,k⟩,c,o.perm ?_,(z.later M).append (ZlE.after b Z)⟩;rw[<-Uj];exact U0.append_right gs
variable {t:Ty}
theorem Zst (N:den E s v) (c:s.whole=true) (p:t.agg=s.isAgg):ZBB t v:=by
 have H:=ZCA N c;exact⟨λh=>H.1 (by rw[<-p];exact h),λh=>H.2 (by rw[<-p];exact h)⟩
theorem Zk9 {B:Base}:∀(l:List Sh) (S:List SV) {E:Env} {H:List Entry} (_:Inv B E H) {vs:List Value} (_:Yu E S vs) {gs:List Nat} (_:Loose B E H gs) {K:Shs l->List Entry->Prop} (_:ZoL l S H K),Handed B l E H vs gs K
 |[],S,E,H,m,vs,N,gs,o,K,h=>by
  simp only[ZoL]at h;split at h
  ·match vs,N with
   |[],_=>exact⟨E,H,(),[],Frz.refl E H,m,⟨rfl,rfl⟩,h,o,ZlE.nil _ _ _⟩
   |_::_,N=>simp[Yu]at N
  ·exact h.elim
 | .dat t::r,S,E,H,m,vs,N,gs,o,K,h=>by
  simp only[ZoL]at h;split at h
  ·rename_i s S
   match vs,N with
   |[],N=>simp[Yu]at N
   |v::vs,N =>
    simp only[Yu]at N;split at h
    ·rename_i q
     obtain⟨c,p⟩:=q;obtain⟨E1,H1,cs,x,A,n,h⟩:=Zz4 m N.1 c h;obtain⟨d,rest,v1,y,O,F,D,h⟩:=Qj t cs _ _ n h;split at h
     ·have u:y=[]:=by cases y with
       |nil=>rfl
       |cons=>simp[Yu]at D
      subst u;rw[Un]at O;obtain⟨P,Q⟩:=Zst N.1 c p;exact Handed.cons (s:=.dat t) (d:=d) (f:=[]) x ⟨rfl,P,Q,by rw[O];exact F⟩ (ZlE.nil _ _ _) (Zk9 r S A (ZX x.le _ _ N.2) (o.frz x) h)
     ·exact h.elim
    ·exact h.elim
  ·exact h.elim
 | .own e::r,S,E,H,m,vs,N,gs,o,K,h=>by
  simp only[ZoL]at h;split at h
  ·rename_i s S
   match vs,N with
   |[],N=>simp[Yu]at N
   |v::vs,N =>
    simp only[Yu]at N;split at h
    ·rename_i q
     obtain⟨c,p⟩:=q;obtain⟨E1,H1,d,f,x,A,F,h,M,z,_⟩:=Jh m (Zbe N.1 c) o h;exact Handed.cons x (s:=.own e) ⟨Zst N.1 c p,F⟩ z (Zk9 r S A (ZX x.le _ _ N.2) M h)
    ·exact h.elim
  ·exact h.elim
 | .back e::r,S,E,H,m,vs,N,gs,o,K,h=>by
  simp only[ZoL]at h;split at h
  ·rename_i s S
   match vs,N with
   |[],N=>simp[Yu]at N
   |v::vs,N =>
    simp only[Yu]at N;split at h
    ·rename_i q
     obtain⟨c,p⟩:=q;obtain⟨E1,H1,d,f,x,A,F,h,M,z,_⟩:=Jh m (Zbe N.1 c) o h;exact Handed.cons x (s:=.back e) ⟨Zst N.1 c p,F⟩ z (Zk9 r S A (ZX x.le _ _ N.2) M h)
    ·exact h.elim
  ·exact h.elim
 | .io e::r,S,E,H,m,vs,N,gs,o,K,h=>by
  simp only[ZoL]at h;split at h
  ·rename_i I S
   match vs,N with
   |[],N=>simp[Yu]at N
   |v::vs,N =>
    simp only[Yu]at N;obtain⟨Y,j,h⟩:=XB H h;split at h
    ·rename_i cells
     rw[Qa] at h;have k:=N.1;simp only[den] at k;obtain ⟨b,a,k⟩:=k;obtain ⟨X,C,T,G,J,L⟩:=m.ent I _ j;have:=a.symm.trans G;simp at this;subst this;have V:Frz E H E (H.set I .gone):=Frz.one j rfl a rfl (Env.le.refl E) (λb R=>.inl R);have U:=o.take m j rfl a (f:=[b]) (by simp) (λg i=>by
      simp at i;subst i;rfl)
     have W:ZlE E H (H.set I .gone) [b]:=λg i=>by
      simp at i;subst i;exact⟨I,_,_,j,rfl,a,rfl,Zz6 j⟩
     obtain⟨E1,H1,d,f,x,A,F,h,M,z,_⟩:=Jh (m.drop I) L U h;refine Handed.cons (V.trans x) (s:=.io e) (f:=b::f) ⟨b,C,T,f,k,by rw[x.w];exact J,F,rfl⟩ ?_ (Zk9 r S A (ZX x.le _ _ N.2) (M.perm ?_) h)
     ·exact((W.later x).append (ZlE.after V z)).sub (λg i=>by simpa using i)
     ·simp only[U3,Uw]
      exact List.perm_middle
    ·exact h.elim
  ·exact h.elim
variable {K:SV->Prop}
theorem ZpM (f:ZBB t v) {cs:List SV} (N:Yu E cs v.cells.toList) (H:ZtV t cs K):∃s,den E s v/\K s:=by
 unfold ZtV at H;split at H
 ·rename_i n
  obtain⟨C,rfl⟩:=f.1 n;exact⟨.agg _,by simp only[den];exact⟨C.toList,by simp,N⟩,H⟩
 ·rename_i n
  have a:=f.2 (by simpa using n);split at H
  ·rename_i c r
   rw[a]at N;simp only[Yu]at N;exact⟨c,N.1,H⟩
  ·exact H.elim
theorem ZB9 {d:t.den} (h:ZGj E.S E.w t d v) (H:ZtV t (Zhr t d) K):∃s,den E s v/\K s:=by
 obtain⟨a,f,g⟩:=h;have N:=Qg t d _ g;unfold ZtV at H;split at H
 ·rename_i n
  obtain⟨cs,rfl⟩:=a n;exact⟨.agg _,by simp only[den];exact⟨cs.toList,by simp,N⟩,H⟩
 ·rename_i n
  have b:=f (by simpa using n);split at H
  ·rename_i c r y
   rw[y,b]at N;simp only[Yu]at N;exact⟨c,N.1,H⟩
  ·exact H.elim
theorem ZkB {B:Base} {E:Env}:∀(e:Dp) (cs:List SV) (x:e.ty.den) {H:List Entry} (_:Inv B E H) {vs vr:List Value} (_:Yu E cs (vs++vr)) {f gs:List Nat} (_:Zi4 E.S E.w e x vs f) (_:Loose B E H (f++gs)) {K:List SV->List Entry->Prop} (_:Zg6 e cs x H K),
  ∃H' r,Inv B E H'/\Loose B E H' gs/\Yu E r vr/\K r H'
 | .flat t,cs,x,H,m,vs,vr,N,f,gs,⟨Q,F⟩,l,K,h=>by
  simp only[Zg6,ZdY]at h;have G:=QD t x vs F;have:=Zbg _ _ N t.size;rw[<-G,KV]at this;subst Q;exact⟨H,_,m,l,this,by rw[G];exact h⟩
 | .ol Y e,cs,d,H,m,vs,vr,N,f,gs,F,l,K,h=>by
  have y:=F;obtain⟨v,xs,s,q,U,z,p⟩:=F;subst q;simp only[Zg6]at h;split at h
  ·rename_i r
   simp only[U3,Uw,Yu,den]at N;obtain⟨rfl,N⟩:=N;refine⟨H,r,m,?_,N,h⟩;rcases U.2 with⟨_,T⟩|⟨g,J,cur,o,V,_⟩
   ·have:d=[]:=UI T
    subst this;have:s=[]:=z.2;subst this;rw[p]at l;simpa[Y4]using l
   ·simp at V
  ·rename_i I r
   simp only[U3,Uw,Yu,den]at N;obtain⟨⟨c,_⟩,N⟩:=N;have i:I<H.length:=by
    have:=(Ua.1 c).1;rw[<-m.len];exact this
   obtain⟨D,j,k,P,_⟩:=ZAR e m i c y l h;exact⟨_,r,j,k,N,P⟩
  ·exact h.elim
 | .mp W X,cs,d,H,m,vs,vr,N,f,gs,⟨b,O,C,D,L,R,F⟩,l,K,h=>by
  subst D;simp only[Zg6]at h;split at h
  ·rename_i I r
   simp only[U3,Uw,Yu,den]at N;obtain⟨⟨c,_⟩,N⟩:=N;rw[Qa]at h;have i:I<H.length:=by
    have:=(Ua.1 c).1;rw[<-m.len];exact this
   obtain ⟨j,k⟩:=l.put m i c (.mpe W X d) (λ_ g n=>by
    have n:Y4 (.map (some b))=some g:=n;simp[Y4] at n;rw[L];simp[n]) ⟨b,O,C,c,R,F⟩
   exact⟨_,r,j,k,N,h⟩
  ·exact h.elim
 | .pair a b,cs,d,H,m,vs,vr,N,f,gs,⟨v1,v2,Z,f2,q,p,j,k⟩,l,K,h=>by
  simp only[Zg6,Zag]at h;subst q;subst p;rw[Uj]at N l;obtain⟨H1,r,A,M,u,h⟩:=ZkB a cs d.1 m N j l h;exact ZkB b r d.2 A u k M h
theorem Zp0 {B:Base}:∀(l:List Sh) (c:List SV) (i:Ios l) {E:Env} {H:List Entry} (_:Inv B E H) {vs:List Value} (_:Yu E c vs) {F gs:List Nat} (_:Zig E.S E.w l i vs F) (_:Loose B E H (F++gs)) {K:List Entry->Prop} (_:ZyC l c i H K),
  ∃E' H',E'.w=E.w/\E'.S=E.S/\Inv B E' H'/\E.le E'/\Loose B E' H' gs/\K H'
 |[],c,i,E,H,m,vs,N,F,gs,o,d,K,h=>by
  have:F=[]:=o;subst this;exact⟨E,H,rfl,rfl,m,Env.le.refl E,d,h⟩
 | .io e::r,c,i,E,H,m,vs,N,F,gs,⟨v,vr,f,fr,j,u,⟨b,cs,T,W,R,t,U,V⟩,o⟩,d,K,h=>by
  simp only[ZyC]at h;subst j;subst u;subst V;subst R;split at h
  ·rename_i Y c
   simp only[Yu,den] at N;obtain ⟨⟨Z,L,n⟩,N⟩:=N;simp at n;subst n;simp only[Zag] at h;have M:Loose B E H (W++(b::(fr++gs))):=d.perm (by
    simp only[U3,Uj];exact List.perm_middle.symm)
   obtain⟨E1,H1,cells,k,y,A,G,J,h,C,_⟩:=Zas e i.1 m U M h;rw[Qa]at h;have a:=G.ids _ _ L;have P:Y<H1.length:=by
    have:=(Ua.1 a).1;rw[<-A.len];exact this
   obtain ⟨x,D⟩:=Loose.put (f:=[b]) (gs:=fr++gs) C A P a (.box cells) (λ_ g q=>by
    have q:some b=some g:=q;simp at q;simp[q]) ⟨b,cs,T,a,by rw[k];exact t,J⟩
   obtain⟨E2,H2,Q,O,z,p,I,h⟩:=Zp0 r c i.2 x (ZX G _ _ N) (by rw[y,k];exact o) D h;exact⟨E2,H2,Q.trans k,O.trans y,z,G.trans p,I,h⟩
  ·exact h.elim
 | .back e::r,c,i,E,H,m,vs,N,F,gs,⟨v,vr,f,fr,j,u,⟨R,t⟩,o⟩,d,K,h=>by
  simp only[ZyC]at h;subst j;subst u;split at h
  ·rename_i s c
   simp only[Yu]at N;split at h
   ·rename_i X
    simp only[Zag]at h;rw[Uj]at d;obtain⟨H1,r',A,M,_,h⟩:=ZkB e s.cells i.1 m (vs:=v.cells.toList) (vr:=[]) (by rw[Un];exact Zbe N.1 X) t d h;exact Zp0 r c i.2 A N.2 o M h
   ·exact h.elim
  ·exact h.elim
 | .dat _::r,c,i,E,H,m,vs,N,F,gs,⟨v,vr,j,o⟩,d,K,h=>by
  simp only[ZyC]at h;subst j;split at h
  ·simp only[Yu]at N
   exact Zp0 r _ i m N.2 o d h
  ·exact h.elim
 | .own _::r,c,i,E,H,m,vs,N,F,gs,⟨v,vr,j,o⟩,d,K,h=>by
  simp only[ZyC]at h;subst j;split at h
  ·simp only[Yu]at N
   exact Zp0 r _ i m N.2 o d h
  ·exact h.elim
theorem Zlo {B:Base}:∀(l:List Sh) (R:Shs l) (C:List Value) {E:Env} {H:List Entry} (_:Inv B E H) {p gs:List Nat} (_:Zfs E.S E.w l R C p) (_:Loose B E H (p++gs)) {K:List SV->List Entry->Prop} (_:Zn6 l R H K),
  ∃E' H' d,E'.w=E.w/\E'.S=E.S/\Inv B E' H'/\E.le E'/\Yu E' d C/\K d H'
 |[],R,C,E,H,i,p,gs,hd,o,K,h=>by
  obtain⟨rfl,rfl⟩:=hd;exact⟨E,H,[],rfl,rfl,i,Env.le.refl E,trivial,h⟩
 | .dat t::r,R,C,E,H,i,p,gs,⟨u,U,f,fr,e,n,⟨hf,I⟩,v⟩,o,K,h=>by
  subst e;subst hf;subst n;simp only[Zn6,Zag,QS]at h;obtain⟨s,L,h⟩:=ZB9 I h;obtain⟨E',H',d,z,x,q,a,k,h⟩:=Zlo r R.2 U i v o h;exact⟨E',H',s::d,z,x,q,a,⟨ZiC a s u L,k⟩,h⟩
 | .own e::r,R,C,E,H,i,p,gs,⟨u,U,f,fr,D,n,⟨m,I⟩,v⟩,o,K,h=>by
  subst D;subst n;simp only[Zn6,Zag]at h;rw[Uj]at o;obtain⟨E1,H1,cs,F,y,A,G,c,h,M,_⟩:=Zas e R.1 i I o h;obtain⟨s,L,h⟩:=ZpM m c h;obtain⟨E',H',d,z,x,q,a,k,h⟩:=Zlo r R.2 U A (by rw[y,F];exact v) M h;exact⟨E',H',s::d,z.trans F,x.trans y,q,G.trans a,⟨ZiC a s u L,k⟩,h⟩
 | .back e::r,R,C,E,H,i,p,gs,⟨u,U,f,fr,D,n,⟨m,I⟩,v⟩,o,K,h=>by
  subst D;subst n;simp only[Zn6,Zag]at h;rw[Uj]at o;obtain⟨E1,H1,cs,F,y,A,G,c,h,M,_⟩:=Zas e R.1 i I o h;obtain⟨s,L,h⟩:=ZpM m c h;obtain⟨E',H',d,z,x,q,a,k,h⟩:=Zlo r R.2 U A (by rw[y,F];exact v) M h;exact⟨E',H',s::d,z.trans F,x.trans y,q,G.trans a,⟨ZiC a s u L,k⟩,h⟩
 | .io e::r,R,C,E,H,i,p,gs,⟨u,U,f,fr,D,n,⟨b,cs,T,Z,V,W,X,Y⟩,v⟩,o,K,h=>by
  subst D;subst n;subst Y;subst V;simp only[Zn6,Zag] at h;have M:Loose B E H (Z++(b::(fr++gs))):=o.perm (by
   simp only[U3,Uj];exact List.perm_middle.symm)
  obtain⟨E1,H1,cells,F,y,A,G,c,h,P,_⟩:=Zas e R.1 i X M h;simp only[ZrN,Zek,Zde,Us]at h;have J:(E1.ids++[Value.pointer (some ⟨b,0,none⟩)])[H1.length]?=some (.pointer (some ⟨b,0,none⟩)):=by rw[<-A.len];simp
  have j:=ZlM E1 (.pointer (some ⟨b,0,none⟩));obtain ⟨O,Q⟩:=Loose.push (f:=[b]) (gs:=fr++gs) P A (.pointer (some ⟨b,0,none⟩)) (.box cells) (λ_ g N=>by
   have N:some b=some g:=N;simp at N;simp[N]) ⟨b,cs,T,J,by show E1.w.heap[b]?=_;rw[F];exact W,ZX j _ _ c⟩
  obtain ⟨E',H',d,z,x,q,a,k,h⟩:=Zlo r R.2 U O (by
   show Zfs E1.S E1.w r R.2 U fr;rw[y,F];exact v) Q h
  refine⟨E',H',.ptr H1.length 0::d,z.trans F,x.trans y,q,G.trans (j.trans a),⟨ZiC a _ _ ?_,k⟩,h⟩;simp only[den];exact⟨b,J,rfl⟩
theorem ZCZ {S:List SV} {U:List Value} (h:Yu E S U) (a:retv U v) (H:ZAH S K):∃s,den E s v/\K s:=by
 unfold ZAH at H;unfold retv at a;split at H
 ·rename_i s
  match U,h with
  |[u],h=>simp only[Yu]at h;subst a;exact⟨s,h.1,H⟩
  |[],h=>simp[Yu]at h
  |_::_::_,h=>simp[Yu]at h
 ·rename_i e
  have q:=Xo _ _ h;split at a
  ·rename_i u
   match S,q with
   |[s],_=>exact absurd rfl (e s)
  ·subst a
   exact⟨.tup S,by simp only[den];exact⟨U,rfl,h⟩,H⟩
theorem Loose.behind {F:List Nat} (o:Loose B E H F) (m:Inv B E H) {w':World} {S0:Nat->Prop} (k:Keeps ⟨E.w,S0,λb=>b∈F,[]⟩ w') {S2:Nat->Prop} (x:∀b,E.S b->S2 b)
  (O:∀b,S2 b->b<w'.heap.size/\(b<E.w.heap.size->E.S b\/b∈F)) {l:List Nat} (z:l.Nodup) (J:∀g∈l,¬S2 g/\g<w'.heap.size/\(E.w.heap.size<=g\/g∈F)) :
  E.le ⟨S2,w',E.ids⟩/\Inv B ⟨S2,w',E.ids⟩ H/\Loose B ⟨S2,w',E.ids⟩ H l:=by
 have r:E.le ⟨S2,w',E.ids⟩:=⟨x,λb d=>k.block b (m.Slt b d) (λs=>(o.free b s).1 d),λ_ _ y=>y⟩;refine⟨r,?_,z,λg u=>?_,λg u j e v i f n d=>?_⟩
 ·exact
   {keeps:=⟨k.os.trans m.keeps.os,k.tape.trans m.keeps.tape,k.output.trans m.keeps.output,Ko m.keeps.size k.size,λb d q =>
     (k.block b (UP d m.keeps.size) (λs=>by
      rcases(o.free b s).2.1 with p|p
      ·omega
      ·exact q p)).trans (m.keeps.block b d q)⟩
    Slt:=λb d=>(O b d).1
    Sold:=λb d t=>by
     rcases(O b d).2 (UP t m.keeps.size)with h|h
     ·exact m.Sold b h t
     ·rcases(o.free b h).2.1 with p|p
      ·omega
      ·exact .inr p
    len:=m.len
    pin:=m.pin
    ent:=λj e i=>ZfE r j e (λf v g n d=>k.block g (m.free j e v g i f n d).2.2 (λs=>o.apart g s j e v i f n d)) (m.ent j e i)
    free:=λj e v g i f n d=>by
     obtain⟨a,b,c⟩:=m.free j e v g i f n d;refine⟨λA=>?_,b,UP c k.size⟩;rcases(O g A).2 c with h|h
     ·exact a h
     ·exact o.apart g h j e v i f n d
    sep:=m.sep}
 ·obtain⟨a,b,c⟩:=J g u
  refine⟨a,?_,b⟩;rcases c with c|c
  ·exact .inl (Ko m.keeps.size c)
  ·exact(o.free g c).2.1
 ·obtain⟨_,_,c⟩:=J g u
  rcases c with c|c
  ·have:=(m.free j e v g i f n d).2.2;omega
  ·exact o.apart g c j e v i f n d
def Zcy:List Sh->Bool
 |[]=>true
 | .dat _::r=>Zcy r
 |_::_=>false
theorem Zn8 {S:Nat->Prop} {w:World}:∀(l:List Sh) (d:Shs l) (vs:List Value) (p:List Nat),Zcy l=true->Zfs S w l d vs p->p=[]
 |[],_,_,_,_,h=>h.2
 | .dat _::r,_,_,_,N,⟨v,vr,f,fr,e,E,⟨H,_⟩,a⟩=>by rw[E,H,Zn8 r _ _ _ N a];rfl
 | .own _::_,_,_,_,h,_=>by simp[Zcy]at h
 | .io _::_,_,_,_,h,_=>by simp[Zcy]at h
 | .back _::_,_,_,_,h,_=>by simp[Zcy]at h
def Zkl:List Sh->Bool
 |[]=>true
 | .dat _::r=>Zkl r
 | .io (.flat _)::r=>Zkl r
 |_::_=>false
def ZmW:List Sh->List Bool
 |[]=>[]
 | .io _::r=>true::ZmW r
 |_::r=>false::ZmW r
def pick {α:Type}:List Bool->List α->List α
 |true::m,x::r=>x::pick m r
 |false::m,_::r=>pick m r
 |_,_=>[]
theorem ZsZ {α β:Type} (f:α->β):∀(m:List Bool) (l:List α),pick m (l.map f)=(pick m l).map f
 |[],l=>by cases l<;>rfl
 |true::m,[]=>rfl
 |false::m,[]=>rfl
 |true::m,x::r=>by simp only[List.map_cons,pick,ZsZ f m r]
 |false::m,x::r=>by simp only[List.map_cons,pick,ZsZ f m r]
theorem Zmf {S:Nat->Prop} {w:World}:∀(l:List Sh) (d:Shs l) (vs:List Value) (p:List Nat),Zkl l=true->Zfs S w l d vs p->∀g∈p,∃v∈pick (ZmW l) vs,Y4 v=some g
 |[],_,_,_,_,h,g,a=>by rw[h.2]at a;cases a
 | .dat _::r,_,_,_,N,⟨v,vr,f,fr,e,E,⟨c,_⟩,H⟩,g,a=>by
  rw[E,c,Uw]at a;rw[e];exact Zmf r _ _ _ N H g a
 | .io (.flat t)::r,_,_,_,N,⟨v,vr,f,fr,e,E,⟨b,cs,T,F,n,_,k,j⟩,H⟩,g,a=>by
  have D:F=[]:=k.1;rw[E,j,D]at a;rw[e];rcases Uu.1 a with a|a
  ·rw[Ux]at a
   exact⟨v,by simp[ZmW,pick],by rw[n,a];rfl⟩
  ·obtain⟨u,m,i⟩:=Zmf r _ _ _ N H g a
   exact⟨u,by simp only[ZmW,pick];exact UM _ m,i⟩
 | .io (.ol _ _)::_,_,_,_,h,_,_,_=>by simp[Zkl]at h
 | .io (.pair _ _)::_,_,_,_,h,_,_,_=>by simp[Zkl]at h
 | .io (.mp _ _)::_,_,_,_,h,_,_,_=>by simp[Zkl]at h
 | .own _::_,_,_,_,h,_,_,_=>by simp[Zkl]at h
 | .back _::_,_,_,_,h,_,_,_=>by simp[Zkl]at h
theorem ZBX {P:Program} (U:Inv B E H) {f:FuncId} {C:Ctr} (hC:Zc P f C) {N:List SV} (hd:Yu E N vs)
  {K:SV->List Entry->Prop} (k:ZEo C N H K) :
  Calls P f vs.toArray E.w λe w'=>∃v E' H' s,e=.returned v/\E'.w=w'/\Inv B E' H'/\E.le E'/\den E' s v/\K s H'/\(Zcy C.args=true->Grow E.w w')/\(Zkl C.args=true->∀b,b<E.w.heap.size->(∀v∈pick (ZmW C.args) vs,Y4 v≠some b)->w'.heap[b]?=E.w.heap[b]?):=by
 unfold ZEo at k;obtain⟨E1,H1,as,T,x,A,o,k,M,hT⟩:=Zk9 C.args N U hd (Loose.none B E H) k;rw[Un]at M;have l:=hC.2 E1.w E1.S vs as T _ A.Slt o M.nodup (λg Q=>⟨(M.free g Q).1,(M.free g Q).2.2⟩) k;rw[x.w]at l;refine l.mono ?_;rintro e w' ⟨v,us,rs,I,S',fr,R,he,hv,k,d,q,a5,i,m,b4,J⟩;have L:Zcy C.args=true->Grow E.w w':=by
  intro b0 b j;refine d.block b j ?_;rw[Zn8 _ _ _ _ b0 o];simp
 have y:Zkl C.args=true->∀b,b<E.w.heap.size->(∀v∈pick (ZmW C.args) vs,Y4 v≠some b)->w'.heap[b]?=E.w.heap[b]?:=by
  intro b2 b j b5;refine d.block b j (λhm=>?_);obtain⟨u,hu,a9⟩:=Zmf _ _ _ _ b2 o b hm;exact b5 u hu a9
 have F:∀(E0:Env) (H0:List Entry) (S2:Nat->Prop),E0.w=E.w->Inv B E0 H0->E.le E0->Loose B E0 H0 T->(∀b,E0.S b->S2 b)->(∀b,S2 b->S' b)->(∀b,S2 b->b<w'.heap.size/\(b<E.w.heap.size->E0.S b\/b∈T))->
   Zfs S2 w' C.rets rs us fr->Zig S2 w' C.args I vs R->
   (ZyC C.args N I H0 λH2=>Zn6 C.rets rs H2 λO H3=>ZAH O λs=>K s H3)->
   ∃v E' H' s,e=.returned v/\E'.w=w'/\Inv B E' H'/\E.le E'/\den E' s v/\K s H'/\(Zcy C.args=true->Grow E.w w')/\(Zkl C.args=true->∀b,b<E.w.heap.size->(∀v∈pick (ZmW C.args) vs,Y4 v≠some b)->w'.heap[b]?=E.w.heap[b]?):=by
  intro E0 H0 S2 p V W a1 a6 a7 a8 b6 b3 k;obtain ⟨n,X,a2⟩:=a1.behind V (w':=w') (S0:=E1.S) (by rw[p];exact d) (S2:=S2) a6 (by rw[p];exact a8) b4 (λg Q=>by
   obtain ⟨a,b,c⟩:=J g Q;exact ⟨λhs=>a (a7 g hs),b,by rw[p];exact c⟩)
  obtain⟨E2,H2,G,r,Y,z,a3,k⟩:=Zp0 C.args N I X (ZX (W.trans n) _ _ hd) b3 a2 k;obtain⟨E3,H3,O,b7,b8,Z,D,b1,k⟩:=Zlo C.rets rs us Y (gs:=[]) (by rw[r,G];exact b6) (by rw[Un];exact a3) k;obtain⟨s,hs,k⟩:=ZCZ b1 hv k;exact⟨v,E3,H3,s,he,b7.trans G,Z,((W.trans n).trans z).trans D,hs,k,L,y⟩
 split at k
 ·rename_i t
  simp only[Ur]at t;obtain⟨a0,a4⟩:=ZvU U x M hT;rw[Zt1]at k;exact F E (ZoX H H1) E.S rfl a0 (Env.le.refl E) a4 (λb h=>h) (λb h=>q b (x.le.S b h)) (λb j=>⟨UP (U.Slt b j) d.size,λ_=>.inl j⟩)
   (Znc _ t.1 _ _ _ i) (ZfR _ t.2 _ _ _ m) k
 ·exact F E1 H1 S' x.w A x.le M q (λb h=>h) (λb j=>by
   obtain ⟨a,c⟩:=a5 b j;exact ⟨a,c⟩) i m k
mutual
def ranged (n:Nat):SV->Prop
 | .ptr I _=>I<n
 | .own I=>I<n
 | .mown I=>I<n
 | .oep I _ _ _=>I<n
 | .fptr cs=>Ze0 n cs
 | .agg cs=>Ze0 n cs
 | .tup cs=>Ze0 n cs
 | .fn _ cs=>Ze0 n cs
 |_=>True
def Ze0 (n:Nat):List SV->Prop
 |[]=>True
 |c::cs=>ranged n c/\Ze0 n cs
end
mutual
theorem ZxM {E:Env}:∀(s:SV) (v:Value),den E s v->ranged E.ids.length s
 | .bot,_,_=>by simp only[ranged]
 | .int _ _,_,_=>by simp only[ranged]
 | .bool _,_,_=>by simp only[ranged]
 | .blit _,_,_=>by simp only[ranged]
 | .str _,_,_=>by simp only[ranged]
 | .sl _ _,_,_=>by simp only[ranged]
 | .nsl,_,_=>by simp only[ranged]
 | .nilp,_,_=>by simp only[ranged]
 | .nptr _ _,_,_=>by simp only[ranged]
 | .mp _ _ _,_,_=>by simp only[ranged]
 | .mown I,_,h=>by simp only[den]at h;simp only[ranged];exact(Ua.1 h.1).1
 | .ptr I _,_,h=>by simp only[den]at h;obtain⟨b,e,_⟩:=h;simp only[ranged];exact(Ua.1 e).1
 | .own I,_,h=>by simp only[den]at h;simp only[ranged];exact(Ua.1 h.1).1
 | .oep I _ _ _,_,h=>by simp only[den]at h;obtain⟨b,B,n,c,e,_⟩:=h;simp only[ranged];exact(Ua.1 e).1
 | .fptr cs,_,h=>by simp only[den]at h;obtain⟨p,vs,_,_,_,_,h⟩:=h;simp only[ranged];exact ZbM cs vs h
 | .agg cs,_,h=>by simp only[den]at h;obtain⟨vs,_,h⟩:=h;simp only[ranged];exact ZbM cs vs h
 | .tup cs,_,h=>by simp only[den]at h;obtain⟨vs,_,h⟩:=h;simp only[ranged];exact ZbM cs vs h
 | .fn _ cs,_,h=>by simp only[den]at h;obtain⟨vs,_,h⟩:=h;simp only[ranged];exact ZbM cs vs h
theorem ZbM {E:Env}:∀(cs:List SV) (vs:List Value),Yu E cs vs->Ze0 E.ids.length cs
 |[],_,_=>by simp only[Ze0]
 |c::cs,v::vs,h=>by simp only[Yu]at h;simp only[Ze0];exact⟨ZxM c v h.1,ZbM cs vs h.2⟩
 |_::_,[],h=>by simp[Yu]at h
end
mutual
theorem Zzl {E:Env} {n:Nat}:∀(s:SV) (v:Value),ranged n s->den E s v->den ⟨E.S,E.w,E.ids.take n⟩ s v
 | .bot,_,_,h=>h
 | .int _ _,_,_,h=>h
 | .bool _,_,_,h=>h
 | .blit _,_,_,h=>h
 | .str _,_,_,h=>h
 | .sl _ _,_,_,h=>h
 | .nsl,_,_,h=>h
 | .nilp,_,_,h=>h
 | .nptr _ _,_,_,h=>h
 | .mp _ _ _,_,_,h=>h
 | .mown I,_,q,h=>by
  simp only[den]at h ⊢;simp only[ranged]at q;exact⟨by rw[UB,Uc q];exact h.1,h.2⟩
 | .ptr I _,_,q,h=>by
  simp only[den]at h ⊢;simp only[ranged]at q;obtain⟨b,e,i⟩:=h;exact⟨b,by rw[UB,Uc q];exact e,i⟩
 | .own I,_,q,h=>by
  simp only[den]at h ⊢;simp only[ranged]at q;exact⟨by rw[UB,Uc q];exact h.1,h.2⟩
 | .oep I _ _ _,_,q,h=>by
  simp only[den]at h ⊢;simp only[ranged]at q;obtain⟨b,B,m,c,e,i⟩:=h;exact⟨b,B,m,c,by rw[UB,Uc q];exact e,i⟩
 | .fptr cs,_,q,h=>by
  simp only[den]at h ⊢;simp only[ranged]at q;obtain⟨p,vs,a,b,c,d,h⟩:=h;exact⟨p,vs,a,b,c,d,Zc6 cs vs q h⟩
 | .agg cs,_,q,h=>by simp only[den]at h ⊢;simp only[ranged]at q;obtain⟨vs,a,h⟩:=h;exact⟨vs,a,Zc6 cs vs q h⟩
 | .tup cs,_,q,h=>by simp only[den]at h ⊢;simp only[ranged]at q;obtain⟨vs,a,h⟩:=h;exact⟨vs,a,Zc6 cs vs q h⟩
 | .fn _ cs,_,q,h=>by simp only[den]at h ⊢;simp only[ranged]at q;obtain⟨vs,a,h⟩:=h;exact⟨vs,a,Zc6 cs vs q h⟩
theorem Zc6 {E:Env} {n:Nat}:∀(cs:List SV) (vs:List Value),Ze0 n cs->Yu E cs vs->Yu ⟨E.S,E.w,E.ids.take n⟩ cs vs
 |[],[],_,_=>trivial
 |c::cs,v::vs,q,h=>by simp only[Yu]at h ⊢;simp only[Ze0]at q;exact⟨Zzl c v q.1 h.1,Zc6 cs vs q.2 h.2⟩
 |_::_,[],_,h=>by simp[Yu]at h
 |[],_::_,_,h=>by simp[Yu]at h
end
def Zvj (n:Nat):Entry->Prop
 | .box cells=>Ze0 n cells
 | .fbx cells=>Ze0 n cells
 | .hole _ _ _ _ cells _=>Ze0 n cells
 | .hsp _ _ _ _ cells _=>Ze0 n cells
 |_=>True
variable {E:Env}
theorem Zvi {i:Nat} {e:Entry} (h:Zwz E i e):Zvj E.ids.length e:=by
 cases e with
 |box cells=>obtain⟨b,cs,T,_,_,h⟩:=h;exact ZbM _ _ h
 |fbx cells=>obtain⟨b,cs,T,_,_,_,h⟩:=h;exact ZbM _ _ h
 |hole g e d i cells f=>obtain⟨_,_,_,_,_,_,_,_,_,_,_,_,_,_,_,_,h,_⟩:=h;exact ZbM _ _ h
 |hsp g e d i cells f=>obtain⟨_,_,_,_,_,_,_,_,_,_,_,_,_,_,_,h,_⟩:=h;exact ZbM _ _ h
 |_=>trivial
variable {B:Base} {H:List Entry}
theorem Inv.trunc (h:Inv B E H) (n:Nat) (hn:B.pin.length<=n) (C:∀e∈H.take n,Zvj n e):Inv B ⟨E.S,E.w,E.ids.take n⟩ (H.take n):=by
 have z:∀(i:Nat) (e:Entry),(H.take n)[i]?=some e->i<n/\H[i]?=some e:=by
  intro i e l;rw[UB]at l;split at l
  ·exact⟨‹_›,l⟩
  ·cases l
 have a:∀(i:Nat) (v:Value),i<n->E.ids[i]?=some v->(E.ids.take n)[i]?=some v:=by
  intro i v l p;rw[UB,Uc l];exact p
 have o:∀(i:Nat) (v:Value),(E.ids.take n)[i]?=some v->E.ids[i]?=some v:=by
  intro i v p;rw[UB]at p;split at p
  ·exact p
  ·cases p
 exact
  {keeps:=h.keeps,Slt:=h.Slt,Sold:=h.Sold,len:=by simp[h.len]
   pin:=λi v p=>a i v (UP (Ua.1 p).1 hn) (h.pin i v p)
   ent:=λi e l=>by
    have m:=Ud l;obtain⟨c,P⟩:=z i e l;have q:=h.ent i e P;cases e with
    |gone=>trivial
    |box cells =>
     obtain⟨b,cs,T,A,f,r⟩:=q;exact⟨b,cs,T,a _ _ c A,f,Zc6 _ _ (C _ m) r⟩
    |arr y t d=>obtain⟨v,xs,A,f,r⟩:=q;exact⟨v,xs,a _ _ c A,f,r⟩
    |frz t d=>obtain⟨v,A,f⟩:=q;exact⟨v,a _ _ c A,f⟩
    |mpe k v d=>obtain⟨b,es,L,A,f⟩:=q;exact⟨b,es,L,a _ _ c A,f⟩
    |frm k v d=>obtain⟨u,A,f⟩:=q;exact⟨u,a _ _ c A,f⟩
    |fbx cells =>
     obtain⟨b,cs,T,A,aS,f,r⟩:=q;exact⟨b,cs,T,a _ _ c A,aS,f,Zc6 _ _ (C _ m) r⟩
    |darr y e d N=>obtain⟨v,xs,O,A,f⟩:=q;exact⟨v,xs,O,a _ _ c A,f⟩
    |hole y e d i cells N =>
     obtain⟨v,xs,X,W,Y,M,f2,A,f,r,D,F,G,I,J,K,s,x⟩:=q;exact⟨v,xs,X,W,Y,M,f2,a _ _ c A,f,r,D,F,G,I,J,K,Zc6 _ _ (C _ m) s,x⟩
    |spl y e d n N=>obtain⟨v,A,f⟩:=q;exact⟨v,a _ _ c A,f⟩
    |hsp y e d i cells N =>
     obtain⟨v,xs,X,W,Y,M,A,f,r,D,F,G,I,J,K,s,x⟩:=q;exact⟨v,xs,X,W,Y,M,a _ _ c A,f,r,D,F,G,I,J,K,Zc6 _ _ (C _ m) s,x⟩
   free:=λi e v g l hl p hb=>h.free i e v g (z i e l).2 hl (o _ _ p) hb
   sep:=λi j Z ej vi vj g l hj Q R U V=>h.sep i j Z ej vi vj g (z i Z l).2 (z j ej hj).2 Q R (o _ _ U) (o _ _ V)}
inductive Loc
 |reg (r:Nat) (s:Sh)
 |cell (id off:Nat) (t:Ty)
 |cello (id off:Nat) (e:Dp)
 |ent (id:Nat) (et:TypeId) (e:Dp)
 |entm (id:Nat) (k v:Ty)
 |splt (id:Nat) (et:TypeId) (e:Dp)
def Loc.ZGH (n:Nat):Loc->Prop
 | .ent I _ _=>I<n
 | .entm I _ _=>I<n
 | .splt I _ _=>I<n
 |_=>True
@[reducible] def Loc.den:Loc->Type
 | .reg _ s=>s.den
 | .cell _ _ t=>t.den
 | .cello _ _ e=>e.ty.den
 | .ent _ _ e=>List e.ty.den
 | .entm _ k v=>List (k.den×v.den)
 | .splt _ _ e=>List e.ty.den×Int
@[reducible] def Zu4:List Loc->Type
 |[]=>Unit
 |l::r=>l.den×Zu4 r
def ZjB:(ls:List Loc)->List SV->List Entry->(Zu4 ls->List Entry->Prop)->Prop
 |[],_,H,K=>K () H
 | .reg r (.dat t)::q,R,H,K=>ZoP R r λs=>JR [s] H λcs H1=>QC t cs λd rest=>match rest with
   |[]=>ZjB q R H1 λD H2=>K (d,D) H2
   |_=>False
 | .reg r (.own e)::q,R,H,K=>ZoP R r λs=>if s.whole=true/\e.ty.agg=s.isAgg then closeAll e s.cells H λd H1=>ZjB q R H1 λD H2=>K (d,D) H2 else False
 | .reg _ (.io _)::_,_,_,_=>False
 | .reg _ (.back _)::_,_,_,_=>False
 | .cell I o t::q,R,H,K=>ZiG H I λe=>match e with
   | .box cells=>ZoP cells o λs=>JR [s] H λcs H1=>QC t cs λd rest=>match rest with
    |[]=>ZjB q R H1 λD H2=>K (d,D) H2
    |_=>False
   |_=>False
 | .cello I o e::q,R,H,K=>ZiG H I λM=>match M with
   | .box cells=>ZoP cells o λs=>closeAll e [s] H λd H1=>ZjB q R H1 λD H2=>K (d,D) H2
   |_=>False
 | .ent I g e::q,R,H,K=>closeAll (.ol g e) [.own I] H λd H1=>ZjB q R H1 λD H2=>K (d,D) H2
 | .entm I k v::q,R,H,K=>closeAll (.mp k v) [.mown I] H λd H1=>ZjB q R H1 λD H2=>K (d,D) H2
 | .splt I g e::q,R,H,K=>Zza g e I H λd n H1=>ZjB q R H1 λD H2=>K ((d,n),D) H2
def ZH2 (t:Ty) (d:t.den) (K:SV->Prop):Prop:=JE t d λcs=>match cs with
 |[c]=>K c
 |_=>False
def ZtE:(ls:List Loc)->Zu4 ls->List SV->List Entry->(List SV->List Entry->Prop)->Prop
 |[],_,R,H,K=>K R H
 | .reg r (.dat t)::q,v,R,H,K=>Zr v λx v'=>ZH2 t x λc=>Zyn R r c λa=>ZtE q v' a H K
 | .reg r (.own e)::q,v,R,H,K=>Zr v λx v'=>Jd e x H λcs H1=>ZtV e.ty cs λs=>Zyn R r s λa=>ZtE q v' a H1 K
 | .reg _ (.io _)::_,_,_,_,_=>False
 | .reg _ (.back _)::_,_,_,_,_=>False
 | .cell I o t::q,v,R,H,K=>Zr v λx v'=>ZH2 t x λc=>ZiG H I λe=>match e with
   | .box cells=>Zyn cells o c λcells'=>ZjD H I (.box cells') λH'=>ZtE q v' R H' K
   |_=>False
 | .cello I o e::q,v,R,H,K=>Zr v λx v'=>Jd e x H λcs H1=>match cs with
   |[s]=>ZiG H1 I λM=>match M with
    | .box cells=>Zyn cells o s λcells'=>ZjD H1 I (.box cells') λH'=>ZtE q v' R H' K
    |_=>False
   |_=>False
 | .ent I g e::q,v,R,H,K=>Zr v λx v'=>ZE4 g e I x H λH'=>ZtE q v' R H' K
 | .entm I k u::q,v,R,H,K=>Zr v λx v'=>ZjD H I (.mpe k u x) λH'=>ZtE q v' R H' K
 | .splt I g e::q,v,R,H,K=>Zr v λx v'=>∀f:List Nat,ZjD H I (.spl g e x.1 x.2 f) λH'=>ZtE q v' R H' K
def ZoT:List Loc->List Entry->(List Entry->Prop)->Prop
 |[],H,K=>K H
 | .cell I o _::q,H,K=>ZiG H I λe=>match e with
   | .box cells=>Zyn cells o .bot λcells'=>ZjD H I (.box cells') λH'=>ZoT q H' K
   |_=>False
 | .cello I o _::q,H,K=>ZiG H I λe=>match e with
   | .box cells=>Zyn cells o .bot λcells'=>ZjD H I (.box cells') λH'=>ZoT q H' K
   |_=>False
 | .reg _ _::q,H,K=>ZoT q H K
 | .ent _ _ _::q,H,K=>ZoT q H K
 | .entm _ _ _::q,H,K=>ZoT q H K
 | .splt _ _ _::q,H,K=>ZoT q H K
def Zx8:List Nat->List SV->(List SV->Prop)->Prop
 |[],s,K=>K s
 |r::q,s,K=>Zyn s r .bot λa=>Zx8 q a K
def ZkR:List Loc->List Nat->(List Nat->Prop)->Prop
 |[],W,K=>K W
 | .reg r _::q,W,K=>ZkR q W λW'=>K (r::W')
 | .cell _ _ _::q,W,K=>ZkR q W K
 | .cello _ _ _::q,W,K=>ZkR q W K
 | .ent _ _ _::q,W,K=>ZkR q W K
 | .entm _ _ _::q,W,K=>ZkR q W K
 | .splt _ _ _::q,W,K=>ZkR q W K
theorem ZsP {E:Env}:∀(W:List Nat) (s:List SV) (vs:List Value),Yu E s vs->∀{K:List SV->Prop},Zx8 W s K->∃a,Yu E a vs/\K a
 |[],s,vs,N,K,H=>⟨s,N,H⟩
 |r::W,s,vs,N,K,H=>by
  simp only[Zx8,ZgF]at H;have b:Yu E (s.set r .bot) vs:=by
   by_cases F:r<vs.length
   ·have:=ZgR _ _ N r .bot vs[r] (by simp only[den])
    simpa using this
   ·have q:=Xo _ _ N
    rw[List.set_eq_of_length_le (by omega)];exact N
  exact ZsP W _ vs b H
variable {I:Nat} {cells:List SV}
theorem Inv.weaken (h:Inv B E H) {cells':List SV} (K:H[I]?=some (.box cells)) (R:∀b cs T,E.ids[I]?=some (.pointer (some ⟨b,0,none⟩))->E.w.heap[b]?=some (.cells cs T (0,0))->Yu E cells cs.toList->Yu E cells' cs.toList) :
  Inv B E (H.set I (.box cells')):=by
 have A:I<H.length:=(Ua.1 K).1;have o:∀(j:Nat) (e:Entry),(H.set I (.box cells'))[j]?=some e->∃a,H[j]?=some a/\(e.live=true->a.live=true)/\(j≠I->e=a)/\(j=I->e=.box cells'/\a=.box cells)/\(∀v g,Zi9 e v g->Zi9 a v g):=by
  intro j e c;by_cases F:I=j
  ·subst F
   rw[UG A]at c;simp at c;subst c;exact⟨_,K,λ_=>rfl,λl=>absurd rfl l,λ_=>⟨rfl,rfl⟩,λv g h=>h⟩
  ·rw[UF F]at c
   exact⟨e,c,λh=>h,λ_=>rfl,λe=>absurd e.symm F,λv g h=>h⟩
 exact
  {keeps:=h.keeps,Slt:=h.Slt,Sold:=h.Sold,len:=by simp[h.len],pin:=h.pin
   ent:=λj e c=>by
    obtain⟨a,d,_,l,y,_⟩:=o j e c;by_cases F:j=I
    ·obtain⟨rfl,rfl⟩:=y F
     obtain⟨b,cs,T,G,J,M⟩:=h.ent j _ d;subst F;exact⟨b,cs,T,G,J,R b cs T G J M⟩
    ·rw[l F];exact h.ent j a d
   free:=λj e v g c S U Q=>by
    obtain⟨a,d,k,_,_,f⟩:=o j e c;exact h.free j a v g d (k S) U (f v g Q)
   sep:=λi j O P V L g t r x z C D n p=>by
    obtain ⟨a,q,k,_,_,f⟩:=o i O t;obtain ⟨N,s,u,_,_,m⟩:=o j P r;exact h.sep i j a N V L g q s (k x) (u z) C D (f V g n) (m L g p)}
variable {vs:List Value}
theorem Zor (N:Yu E cells vs) (o:Nat):Yu E (cells.set o .bot) vs:=by
 by_cases F:o<vs.length
 ·have:=ZgR _ _ N o .bot vs[o] (by simp only[den])
  simpa using this
 ·have q:=Xo _ _ N
  rw[List.set_eq_of_length_le (by omega)];exact N
def ZaM (B:Base) (E:Env) (H:List Entry) (vs:List Value):(ls:List Loc)->Zu4 ls->List Nat->Prop
 |[],_,gs=>gs=[]
 | .reg r (.dat t)::q,v,gs=>(∃u,vs[r]?=some u/\rep E.S E.w t v.1 [u])/\ZaM B E H vs q v.2 gs
 | .reg r (.own e)::q,v,gs=>∃u f g,vs[r]?=some u/\ZBB e.ty u/\Zi4 E.S E.w e v.1 u.cells.toList f/\gs=f++g/\ZaM B E H vs q v.2 g
 | .reg _ (.io _)::_,_,_=>False
 | .reg _ (.back _)::_,_,_=>False
 | .cell I o t::q,v,gs=>(∃b cs T cells u,H[I]?=some (.box cells)/\E.ids[I]?=some (.pointer (some ⟨b,0,none⟩))/\E.w.heap[b]?=some (.cells cs T (0,0))/\cs.toList[o]?=some u/\rep E.S E.w t v.1 [u])/\
   ZaM B E H vs q v.2 gs
 | .cello I o e::q,v,gs=>∃b cs T cells u f g,H[I]?=some (.box cells)/\E.ids[I]?=some (.pointer (some ⟨b,0,none⟩))/\E.w.heap[b]?=some (.cells cs T (0,0))/\cs.toList[o]?=some u/\
   Zi4 E.S E.w e v.1 [u] f/\gs=f++g/\ZaM B E H vs q v.2 g
 | .ent I a e::q,v,gs=>∃u f g,I<H.length/\E.ids[I]?=some u/\(∀c,H[I]?≠some (.box c))/\Zi4 E.S E.w (.ol a e) v.1 [u] f/\gs=f++g/\ZaM B E H vs q v.2 g
 | .entm I k t::q,v,gs=>∃u f g,I<H.length/\E.ids[I]?=some u/\(∀c,H[I]?≠some (.box c))/\Zi4 E.S E.w (.mp k t) v.1 [u] f/\gs=f++g/\ZaM B E H vs q v.2 g
 | .splt I a e::q,v,gs=>∃u f g,I<H.length/\E.ids[I]?=some u/\(∀c,H[I]?≠some (.box c))/\ZGZ E.S E.w a e v.1.1 v.1.2 u f/\gs=f++g/\ZaM B E H vs q v.2 g
def Boxed (H H':List Entry):Prop:=H'.length=H.length/\(∀(i:Nat) (c:List SV),H[i]?=some (.box c)->∃L,H'[i]?=some (.box L))/\∀(i:Nat) (c:List SV),H'[i]?=some (.box c)->∃L,H[i]?=some (.box L)
theorem Boxed.refl (H:List Entry):Boxed H H:=⟨rfl,λ_ c h=>⟨c,h⟩,λ_ c h=>⟨c,h⟩⟩
theorem Boxed.trans {A C D:List Entry} (h:Boxed A C) (k:Boxed C D):Boxed A D :=
 ⟨k.1.trans h.1,λi c l=>by obtain⟨L,H⟩:=h.2.1 i c l;exact k.2.1 i L H,λi c l=>by obtain⟨L,H⟩:=k.2.2 i c l;exact h.2.2 i L H⟩
theorem Boxed.frz {E':Env} {H':List Entry} (h:Frz E H E' H') (b:∀(i:Nat) (c:List SV),H[i]?=some (.box c)->H'[i]?=some (.box c)):Boxed H H' :=
 ⟨h.len,λi c l=>⟨c,b i c l⟩,λi c l=>⟨c,h.box i c l⟩⟩
theorem Boxed.Znb {c0 c1:List SV} (h:H[I]?=some (.box c0)):Boxed H (H.set I (.box c1)):=by
 have t:=(Ua.1 h).1;refine⟨by simp,λi c l=>?_,λi c l=>?_⟩
 ·by_cases a:I=i
  ·subst a;exact⟨_,UG t⟩
  ·exact⟨c,by rw[UF a];exact l⟩
 ·by_cases a:I=i
  ·subst a;exact⟨_,h⟩
  ·rw[UF a]at l;exact⟨c,l⟩
theorem Boxed.ZFb {E:Entry} (h:∀c,H[I]?≠some (.box c)) (d:∀c,E≠.box c):Boxed H (H.set I E):=by
 refine⟨by simp,λi c l=>?_,λi c l=>?_⟩
 ·by_cases a:I=i
  ·subst a;exact absurd l (h c)
  ·exact⟨c,by rw[UF a];exact l⟩
 ·by_cases a:I=i
  ·subst a
   have t:I<H.length:=by have:=(Ua.1 l).1;simpa using this
   rw[UG t]at l;simp at l;exact absurd l (d c)
  ·rw[UF a]at l;exact⟨c,l⟩
theorem Zbq {B:Base} {E E':Env} {H H':List Entry} (n:E'.w=E.w) (r:∀b,E.S b->E'.S b) (s:∀(i:Nat) (v:Value),i<H'.length->E.ids[i]?=some v->E'.ids[i]?=some v) {vs:List Value}
  (x:∀(i:Nat) (c:List SV),H[i]?=some (.box c)->i<H'.length->∃L,H'[i]?=some (.box L)) (m:∀(i:Nat) (c:List SV),H'[i]?=some (.box c)->∃L,H[i]?=some (.box L)) :
  ∀(ls:List Loc) (v:Zu4 ls) (gs:List Nat),(∀I O t,Loc.cell I O t∈ls->I<H'.length)->(∀I O e,Loc.cello I O e∈ls->I<H'.length)->(∀l∈ls,l.ZGH H'.length)->ZaM B E H vs ls v gs->ZaM B E' H' vs ls v gs
 |[],_,_,_,_,_,h=>h
 | .reg _ (.dat t)::q,v,gs,p1,y,P,⟨⟨u,a,b⟩,h⟩=>⟨⟨u,a,YL r (λ_ _=>by rw[n]) t _ _ b⟩,Zbq n r s x m q v.2 gs (λi o t h=>p1 i o t (by simp[h])) (λi o t h=>y i o t (by simp[h])) (λl h=>P l (by simp[h])) h⟩
 | .reg _ (.own e)::q,v,gs,p1,y,P,⟨u,f,G,a,b,c,d,h⟩=>⟨u,f,G,a,b,Y5 r (λ_ _=>by rw[n]) e _ _ _ (λg _=>by rw[n]) c,d,Zbq n r s x m q v.2 G (λi o t h=>p1 i o t (by simp[h])) (λi o t h=>y i o t (by simp[h])) (λl h=>P l (by simp[h])) h⟩
 | .cell I O t::q,v,gs,p1,y,P,⟨⟨b,cs,T,cells,u,D,A,z,C,F⟩,h⟩=>by
  have j:=p1 I O t (by simp);obtain⟨L,p⟩:=x I _ D j;exact⟨⟨b,cs,T,L,u,p,s _ _ j A,by rw[n];exact z,C,YL r (λ_ _=>by rw[n]) t _ _ F⟩,Zbq n r s x m q v.2 gs (λi o t h=>p1 i o t (by simp[h])) (λi o t h=>y i o t (by simp[h])) (λl h=>P l (by simp[h])) h⟩
 | .cello I O e::q,v,gs,p1,y,P,⟨b,cs,T,cells,u,f,G,D,A,z,C,F,M,h⟩=>by
  have j:=y I O e (by simp);obtain⟨L,p⟩:=x I _ D j;exact⟨b,cs,T,L,u,f,G,p,s _ _ j A,by rw[n];exact z,C,Y5 r (λ_ _=>by rw[n]) e _ _ _ (λg _=>by rw[n]) F,M,Zbq n r s x m q v.2 G (λi o t h=>p1 i o t (by simp[h])) (λi o t h=>y i o t (by simp[h])) (λl h=>P l (by simp[h])) h⟩
 | .ent I K e::q,v,gs,p1,y,P,⟨u,f,G,D,A,z,C,F,h⟩=>by
  have j:I<H'.length:=P _ UJ;exact⟨u,f,G,j,s _ _ j A,λc J=>by obtain⟨L,p⟩:=m I c J;exact z L p,Y5 r (λ_ _=>by rw[n]) (.ol K e) _ _ _ (λg _=>by rw[n]) C,F,Zbq n r s x m q v.2 G (λi o t h=>p1 i o t (by simp[h])) (λi o t h=>y i o t (by simp[h])) (λl h=>P l (by simp[h])) h⟩
 | .entm I k t::q,v,gs,p1,y,P,⟨u,f,G,D,A,z,C,F,h⟩=>by
  have j:I<H'.length:=P _ UJ;exact⟨u,f,G,j,s _ _ j A,λc J=>by obtain⟨L,p⟩:=m I c J;exact z L p,Y5 r (λ_ _=>by rw[n]) (.mp k t) _ _ _ (λg _=>by rw[n]) C,F,Zbq n r s x m q v.2 G (λi o t h=>p1 i o t (by simp[h])) (λi o t h=>y i o t (by simp[h])) (λl h=>P l (by simp[h])) h⟩
 | .splt I K e::q,v,gs,p1,y,P,⟨u,f,G,D,A,z,C,F,h⟩=>by
  have j:I<H'.length:=P _ UJ;exact⟨u,f,G,j,s _ _ j A,λc J=>by obtain⟨L,p⟩:=m I c J;exact z L p,Zqp r (λ_ _=>by rw[n]) (λg _=>by rw[n]) C,F,Zbq n r s x m q v.2 G (λi o t h=>p1 i o t (by simp[h])) (λi o t h=>y i o t (by simp[h])) (λl h=>P l (by simp[h])) h⟩
def ZwX (n:Nat) (ls:List Loc):Prop:=(∀I o t,Loc.cell I o t∈ls->I<n)/\(∀I o e,Loc.cello I o e∈ls->I<n)/\∀l∈ls,l.ZGH n
theorem ZeB {B:Base} {E:Env} {H:List Entry} {vs:List Value}:∀(ls:List Loc) (v:Zu4 ls) (gs:List Nat),ZaM B E H vs ls v gs->ZwX H.length ls
 |[],_,_,_=>⟨λ_ _ _ h=>by simp at h,λ_ _ _ h=>by simp at h,λ_ h=>by simp at h⟩
 | .reg _ (.dat t)::q,v,gs,⟨_,h⟩=>by
  obtain⟨a,b,c⟩:=ZeB q v.2 gs h;exact⟨λi o t h=>a i o t (by simpa using h),λi o t h=>b i o t (by simpa using h),λl h=>(UD.1 h).elim (λe=>by subst e;trivial) (c l)⟩
 | .reg _ (.own e)::q,v,gs,⟨_,_,g,_,_,_,_,h⟩=>by
  obtain⟨a,b,c⟩:=ZeB q v.2 g h;exact⟨λi o t h=>a i o t (by simpa using h),λi o t h=>b i o t (by simpa using h),λl h=>(UD.1 h).elim (λe=>by subst e;trivial) (c l)⟩
 | .reg _ (.io _)::_,_,_,h=>by simp only[ZaM]at h
 | .reg _ (.back _)::_,_,_,h=>by simp only[ZaM]at h
 | .cell I O t::q,v,gs,⟨⟨_,_,_,_,_,A,_⟩,h⟩=>by
  obtain⟨a,b,c⟩:=ZeB q v.2 gs h;refine⟨λi o t' d=>?_,λi o t h=>b i o t (by simpa using h),λl h=>(UD.1 h).elim (λe=>by subst e;trivial) (c l)⟩;rcases UD.1 d with e|d
  ·injection e with f m n;subst f;exact(Ua.1 A).1
  ·exact a i o t' d
 | .cello I O e::q,v,gs,⟨_,_,_,_,_,_,g,A,_,_,_,_,_,h⟩=>by
  obtain⟨a,b,c⟩:=ZeB q v.2 g h;refine⟨λi o t h=>a i o t (by simpa using h),λi o j d=>?_,λl h=>(UD.1 h).elim (λe=>by subst e;trivial) (c l)⟩;rcases UD.1 d with e|d
  ·injection e with f m n;subst f;exact(Ua.1 A).1
  ·exact b i o j d
 | .ent I p e::q,v,gs,⟨_,_,g,A,_,_,_,_,h⟩=>by
  obtain⟨a,b,c⟩:=ZeB q v.2 g h;exact⟨λi o t h=>a i o t (by simpa using h),λi o t h=>b i o t (by simpa using h),λl h=>(UD.1 h).elim (λe=>by subst e;exact A) (c l)⟩
 | .entm I k u::q,v,gs,⟨_,_,g,A,_,_,_,_,h⟩=>by
  obtain⟨a,b,c⟩:=ZeB q v.2 g h;exact⟨λi o t h=>a i o t (by simpa using h),λi o t h=>b i o t (by simpa using h),λl h=>(UD.1 h).elim (λe=>by subst e;exact A) (c l)⟩
 | .splt I p e::q,v,gs,⟨_,_,g,A,_,_,_,_,h⟩=>by
  obtain⟨a,b,c⟩:=ZeB q v.2 g h;exact⟨λi o t h=>a i o t (by simpa using h),λi o t h=>b i o t (by simpa using h),λl h=>(UD.1 h).elim (λe=>by subst e;exact A) (c l)⟩
theorem ZwX.tail {n:Nat} {l:Loc} {q:List Loc} (h:ZwX n (l::q)):ZwX n q :=
 ⟨λi o t R=>h.1 i o t (by simp[R]),λi o t R=>h.2.1 i o t (by simp[R]),λl R=>h.2.2 l (by simp[R])⟩
theorem ZcH {E':Env} {H':List Entry} (f:E'.w=E.w) (d:∀b,E.S b->E'.S b) (s:∀(i:Nat) (v:Value),E.ids[i]?=some v->E'.ids[i]?=some v) (a:Boxed H H')
  (ls:List Loc) (v:Zu4 ls) (gs:List Nat) (h:ZaM B E H vs ls v gs):ZaM B E' H' vs ls v gs:=by
 obtain⟨p1,p,P⟩:=ZeB ls v gs h;rw[<-a.1]at p1 p P;exact Zbq f d (λi v _ e=>s i v e) (λi c l _=>a.2.1 i c l) a.2.2 ls v gs p1 p P h
theorem Zoz (E':Env) (l:List Entry) (o:E'.w=E.w) (p:E'.S=E.S) (s:∀(i:Nat) (v:Value),E.ids[i]?=some v->E'.ids[i]?=some v)
  (ls:List Loc) (v:Zu4 ls) (gs:List Nat) (h:ZaM B E H vs ls v gs):ZaM B E' (H++l) vs ls v gs:=by
 obtain⟨p1,P,J⟩:=ZeB ls v gs h;have r:H.length<=(H++l).length:=by simp
 have D:∀(ls:List Loc) (v:Zu4 ls) (gs:List Nat),ZaM B E H vs ls v gs->ZaM B E' (H++l) vs ls v gs:=by
  intro ls;induction ls with
  |nil=>intro v gs h;exact h
  |cons x q I =>
   intro v gs h
   match x,v,h with
   | .reg _ (.dat t),v,⟨⟨u,a,b⟩,h⟩=>exact⟨⟨u,a,by rw[p,o];exact b⟩,I v.2 gs h⟩
   | .reg _ (.own e),v,⟨u,f,g,a,b,c,d,h⟩=>exact⟨u,f,g,a,b,by rw[p,o];exact c,d,I v.2 g h⟩
   | .reg _ (.io _),v,h=>simp only[ZaM]at h
   | .reg _ (.back _),v,h=>simp only[ZaM]at h
   | .cell z O t,v,⟨⟨b,cs,T,cells,u,A,j,m,n,F⟩,h⟩ =>
    exact⟨⟨b,cs,T,cells,u,by rw[Ut (Ua.1 A).1];exact A,s _ _ j,by rw[o];exact m,n,by rw[p,o];exact F⟩,I v.2 gs h⟩
   | .cello z O e,v,⟨b,cs,T,cells,u,f,g,A,j,m,n,F,G,h⟩ =>
    exact⟨b,cs,T,cells,u,f,g,by rw[Ut (Ua.1 A).1];exact A,s _ _ j,by rw[o];exact m,n,by rw[p,o];exact F,G,I v.2 g h⟩
   | .ent z C e,v,⟨u,f,g,A,j,m,n,F,h⟩ =>
    exact⟨u,f,g,UP A r,s _ _ j,λc y=>m c (by rwa [Ut A]at y),by rw[p,o];exact n,F,I v.2 g h⟩
   | .entm z k t,v,⟨u,f,g,A,j,m,n,F,h⟩ =>
    exact⟨u,f,g,UP A r,s _ _ j,λc y=>m c (by rwa [Ut A]at y),by rw[p,o];exact n,F,I v.2 g h⟩
   | .splt z C e,v,⟨u,f,g,A,j,m,n,F,h⟩ =>
    exact⟨u,f,g,UP A r,s _ _ j,λc y=>m c (by rwa [Ut A]at y),by rw[p,o];exact n,F,I v.2 g h⟩
 exact D ls v gs h
def Taken (B:Base) (ls:List Loc) (E:Env) (H:List Entry) (vs:List Value) (gs:List Nat) (K:Zu4 ls->List Entry->Prop):Prop :=
 ∃E1 H1 v g,E1.w=E.w/\E1.ids=E.ids/\Inv B E1 H1/\E.le E1/\K v H1/\ZaM B E1 H1 vs ls v g/\Loose B E1 H1 (g++gs)/\Boxed H H1
theorem ZhT {B:Base}:∀(ls:List Loc) {E:Env} {H:List Entry} (_:Inv B E H) {R:List SV} {vs:List Value} (_:Yu E R vs) (gs:List Nat) (_:Loose B E H gs) {K:Zu4 ls->List Entry->Prop} (_:ZjB ls R H K),Taken B ls E H vs gs K
 |[],E,H,z,R,vs,J,gs,O,K,a=>⟨E,H,(),[],rfl,rfl,z,Env.le.refl E,a,rfl,O,Boxed.refl H⟩
 | .reg r (.dat t)::q,E,H,z,R,vs,J,gs,O,K,a=>by
  simp only[ZjB]at a;obtain⟨s,u,D,W,a,_⟩:=ZdB _ _ J a;obtain⟨E1,H1,cs,j,A,a4,a,p⟩:=Vk [s] z (show Yu E [s] [u]from⟨W,trivial⟩) a;obtain⟨d,rest,v1,v2,X,V,Q,a⟩:=Qj t cs _ _ a4 a;split at a
  ·have a5:v2=[]:=by cases v2 with
    |nil=>rfl
    |cons=>simp[Yu]at Q
   subst a5;rw[Un]at X;obtain⟨E2,H2,v,G,l,i,y,h,a,U,N,m⟩:=ZhT q A (ZX j.le _ _ J) gs (O.frz j) a;refine⟨E2,H2,(d,v),G,l.trans j.w,i.trans j.ids,y,j.le.trans h,a,⟨⟨u,D,?_⟩,U⟩,N,(Boxed.frz j p).trans m⟩;rw[X];exact YL h.S h.w t d v1 V
  ·exact a.elim
 | .reg r (.own e)::q,E,H,z,R,vs,J,gs,O,K,a=>by
  simp only[ZjB]at a;obtain⟨s,u,D,W,a,_⟩:=ZdB _ _ J a;split at a
  ·rename_i Y
   obtain⟨hw,a6⟩:=Y;obtain⟨E1,H1,d,f,j,A,V,a,M,hT,p⟩:=Jh z (Zbe W hw) O a;obtain⟨E2,H2,v,G,l,i,y,h,a,U,N,m⟩:=ZhT q A (ZX j.le _ _ J) (f++gs) M a;refine⟨E2,H2,(d,v),f++G,l.trans j.w,i.trans j.ids,y,j.le.trans h,a,⟨u,f,G,D,Zst W hw a6,?_,rfl,U⟩,N.perm ?_,(Boxed.frz j p).trans m⟩
   ·exact Y5 h.S h.w e _ _ _ (λg _=>by rw[l]) V
   ·rw[<-Uj];exact U0.append_right gs
  ·exact a.elim
 | .reg _ (.io _)::_,_,_,_,_,_,_,_,_,_,a=>by simp only[ZjB]at a
 | .reg _ (.back _)::_,_,_,_,_,_,_,_,_,_,a=>by simp only[ZjB]at a
 | .cell I a7 t::q,E,H,z,R,vs,J,gs,O,K,a=>by
  simp only[ZjB]at a;obtain⟨e,L,a⟩:=XB H a;split at a
  ·rename_i cells
   obtain⟨b,a3,T,e1,e2,e3⟩:=z.ent I _ L;obtain⟨s,u,D,W,a,_⟩:=ZdB _ _ e3 a;obtain⟨E1,H1,cs,j,A,a4,a,p⟩:=Vk [s] z (show Yu E [s] [u]from⟨W,trivial⟩) a;obtain⟨d,rest,v1,v2,X,V,Q,a⟩:=Qj t cs _ _ a4 a;split at a
   ·have a5:v2=[]:=by cases v2 with
     |nil=>rfl
     |cons=>simp[Yu]at Q
    subst a5;rw[Un]at X;obtain⟨E2,H2,v,G,l,i,y,h,a,U,N,m⟩:=ZhT q A (ZX j.le _ _ J) gs (O.frz j) a;obtain⟨c',F⟩:=m.2.1 I _ (p _ _ L);refine⟨E2,H2,(d,v),G,l.trans j.w,i.trans j.ids,y,j.le.trans h,a,⟨⟨b,a3,T,c',u,F,by rw[i,j.ids];exact e1,by rw[l,j.w];exact e2,D,?_⟩,U⟩,N,(Boxed.frz j p).trans m⟩;rw[X];exact YL h.S h.w t d v1 V
   ·exact a.elim
  ·exact a.elim
 | .cello I a7 e::q,E,H,z,R,vs,J,gs,O,K,a=>by
  simp only[ZjB]at a;obtain⟨en,L,a⟩:=XB H a;split at a
  ·rename_i cells
   obtain⟨b,a3,T,e1,e2,e3⟩:=z.ent I _ L;obtain⟨s,u,D,W,a,_⟩:=ZdB _ _ e3 a;obtain⟨E1,H1,d,f,j,A,V,a,M,hT,p⟩:=Jh z (show Yu E [s] [u]from⟨W,trivial⟩) O a;obtain⟨E2,H2,v,G,l,i,y,h,a,U,N,m⟩:=ZhT q A (ZX j.le _ _ J) (f++gs) M a;obtain⟨c',F⟩:=m.2.1 I _ (p _ _ L);refine⟨E2,H2,(d,v),f++G,l.trans j.w,i.trans j.ids,y,j.le.trans h,a,⟨b,a3,T,c',u,f,G,F,by rw[i,j.ids];exact e1,by rw[l,j.w];exact e2,D,?_,rfl,U⟩,N.perm ?_,(Boxed.frz j p).trans m⟩
   ·exact Y5 h.S h.w e _ _ _ (λg _=>by rw[l]) V
   ·rw[<-Uj];exact U0.append_right gs
  ·exact a.elim
 | .ent I et e::q,E,H,z,R,vs,J,gs,O,K,a=>by
  simp only[ZjB]at a;have x:=a;unfold closeAll at x;simp only[Zax]at x;obtain⟨en,L,x⟩:=XB H x;have P:=(Ua.1 L).1;obtain⟨u,D⟩:∃u,E.ids[I]?=some u:=⟨_,Ub (show I<E.ids.length by rw[z.len];exact P)⟩;have Z:∀c,H[I]?≠some (.box c):=by
   intro c Y;have:=L.symm.trans Y;simp at this;subst this;exact x.elim
  have W:den E (.own I) u:=by
   simp only[den];refine⟨D,?_⟩;split at x
   ·obtain⟨v',xs,a1,a2,_⟩:=z.ent I _ L
    have:=D.symm.trans a1;simp at this;subst this;rcases a2.2 with⟨rfl,_⟩|⟨g,a0,cur,o,rfl,_⟩<;>exact⟨_,_,_,rfl⟩
   ·obtain⟨v',xs,a9,a1,a2,_⟩:=z.ent I _ L
    have:=D.symm.trans a1;simp at this;subst this;rcases a2.2 with⟨rfl,_⟩|⟨g,a0,cur,o,rfl,_⟩<;>exact⟨_,_,_,rfl⟩
   ·obtain⟨v',xs,x1,vx,x2,f1,f2,a1,a2,_⟩:=z.ent I _ L
    have:=D.symm.trans a1;simp at this;subst this;rcases a2.2 with⟨rfl,_⟩|⟨g,a0,cur,o,rfl,_⟩<;>exact⟨_,_,_,rfl⟩
   ·obtain⟨v',a1,⟨xs,x1,x2,f1,a2,_⟩,_⟩:=z.ent I _ L
    have:=D.symm.trans a1;simp at this;subst this;rcases a2.2 with⟨rfl,_⟩|⟨g,a0,cur,o,rfl,_⟩<;>exact⟨_,_,_,rfl⟩
   ·exact x.elim
  obtain⟨E1,H1,d,f,j,A,V,a,M,hT,p⟩:=Jh z (show Yu E [.own I] [u]from⟨W,trivial⟩) O a;obtain⟨E2,H2,v,G,l,i,y,h,a,U,N,m⟩:=ZhT q A (ZX j.le _ _ J) (f++gs) M a;have C:=(Boxed.frz j p).trans m;refine⟨E2,H2,(d,v),f++G,l.trans j.w,i.trans j.ids,y,j.le.trans h,a,⟨u,f,G,by rw[C.1];exact P,by rw[i,j.ids];exact D,λc Y=>?_,?_,rfl,U⟩,N.perm ?_,C⟩
  ·obtain⟨c',F⟩:=C.2.2 I c Y;exact Z c' F
  ·exact Y5 h.S h.w (.ol et e) _ _ _ (λg _=>by rw[l]) V
  ·rw[<-Uj];exact U0.append_right gs
 | .entm I k t::q,E,H,z,R,vs,J,gs,O,K,a=>by
  simp only[ZjB]at a;have x:=a;unfold closeAll at x;simp only[Zax]at x;obtain⟨en,L,x⟩:=XB H x;have P:=(Ua.1 L).1;obtain⟨u,D⟩:∃u,E.ids[I]?=some u:=⟨_,Ub (show I<E.ids.length by rw[z.len];exact P)⟩;have Z:∀c,H[I]?≠some (.box c):=by
   intro c Y;have:=L.symm.trans Y;simp at this;subst this;exact x.elim
  have W:den E (.mown I) u:=by
   simp only[den];refine⟨D,?_⟩;split at x
   ·obtain⟨b,es,a8,a1,_⟩:=z.ent I _ L
    have:=D.symm.trans a1;simp at this;subst this;exact⟨_,rfl⟩
   ·exact x.elim
  obtain⟨E1,H1,d,f,j,A,V,a,M,hT,p⟩:=Jh z (show Yu E [.mown I] [u]from⟨W,trivial⟩) O a;obtain⟨E2,H2,v,G,l,i,y,h,a,U,N,m⟩:=ZhT q A (ZX j.le _ _ J) (f++gs) M a;have C:=(Boxed.frz j p).trans m;refine⟨E2,H2,(d,v),f++G,l.trans j.w,i.trans j.ids,y,j.le.trans h,a,⟨u,f,G,by rw[C.1];exact P,by rw[i,j.ids];exact D,λc Y=>?_,?_,rfl,U⟩,N.perm ?_,C⟩
  ·obtain⟨c',F⟩:=C.2.2 I c Y;exact Z c' F
  ·exact Y5 h.S h.w (.mp k t) _ _ _ (λg _=>by rw[l]) V
  ·rw[<-Uj];exact U0.append_right gs
 | .splt I et e::q,E,H,z,R,vs,J,gs,O,K,a=>by
  simp only[ZjB]at a;obtain⟨E1,H1,d,n,u,f,j,A,D,Z,V,a,M,p⟩:=Zzb z O a;obtain⟨E2,H2,v,G,l,i,y,h,a,U,N,m⟩:=ZhT q A (ZX j.le _ _ J) (f++gs) M a;have C:=(Boxed.frz j p).trans m;have P:I<H2.length:=by
   have:=(Ua.1 D).1;rw[m.1,<-A.len];exact this
  refine⟨E2,H2,((d,n),v),f++G,l.trans j.w,i.trans j.ids,y,j.le.trans h,a,⟨u,f,G,P,by rw[i];exact D,λc Y=>?_,?_,rfl,U⟩,N.perm ?_,C⟩
  ·obtain⟨c',F⟩:=C.2.2 I c Y;exact Z c' F
  ·exact Zqp h.S h.w (λg _=>by rw[l]) V
  ·rw[<-Uj];exact U0.append_right gs
theorem JX {r:Nat} {u:Value} (a:vs[r]?=some u):vs.set r u=vs:=by
 apply Uy;intro j;by_cases b:r=j
 ·subst b
  have:=(Ua.1 a).1;rw[UG this,a]
 ·rw[UF b]
theorem Loose.Znb {gs:List Nat} (o:Loose B E H gs) {c0 c1:List SV} (m:H[I]?=some (.box c0)):Loose B E (H.set I (.box c1)) gs:=by
 have t:=(Ua.1 m).1;refine⟨o.nodup,o.free,λg a j e V b f v h=>?_⟩;by_cases F:I=j
 ·subst F;rw[UG t]at b;simp at b;subst b;exact o.apart g a I _ V m rfl v h
 ·rw[UF F]at b;exact o.apart g a j e V b f v h
theorem ZjZ {B:Base}:∀(ls:List Loc) (v:Zu4 ls) {E:Env} {H:List Entry} (_:Inv B E H) {R:List SV} {vs:List Value} (_:Yu E R vs) (x:List Nat) (_:ZaM B E H vs ls v x) (_:Loose B E H x)
  {K:List SV->List Entry->Prop} (_:ZtE ls v R H K),∃E' H' d,E'.w=E.w/\Inv B E' H'/\Yu E' d vs/\K d H'
 |[],v,E,H,m,R,vs,N,x,p,o,K,a=>⟨E,H,R,rfl,m,N,a⟩
 | .reg r (.dat t)::q,v,E,H,m,R,vs,N,x,⟨⟨u,hu,C⟩,p⟩,o,K,a=>by
  simp only[ZtE,Zag,ZH2,QS]at a;have n:=Qg t v.1 [u] C;split at a
  ·rename_i c hc
   rw[hc]at n;simp only[Yu]at n;rw[ZgF]at a;have z:=ZgR _ _ N r c u n.1;rw[JX hu]at z;exact ZjZ q v.2 m z x p o a
  ·exact a.elim
 | .reg r (.own e)::q,v,E,H,m,R,vs,N,x,⟨u,f,j,hu,W,C,i,p⟩,o,K,a=>by
  simp only[ZtE,Zag]at a;subst i;obtain⟨E1,H1,cs,F,S,A,G,L,a,M,l,X⟩:=Zas e v.1 m C o a;obtain⟨s,hs,a⟩:=ZpM W L a;rw[ZgF]at a;have z:=ZgR _ _ (ZX G _ _ N) r s u hs;rw[JX hu]at z;subst X;obtain⟨E2,H2,d,Y,Q,U,a⟩:=ZjZ q v.2 A z j (Zoz E1 l F S G.ids q v.2 j p) M a;exact⟨E2,H2,d,Y.trans F,Q,U,a⟩
 | .reg _ (.io _)::_,_,_,_,_,_,_,_,_,_,_,_,a=>by simp only[ZtE]at a
 | .reg _ (.back _)::_,_,_,_,_,_,_,_,_,_,_,_,a=>by simp only[ZtE]at a
 | .cell id O t::q,v,E,H,m,R,vs,N,x,⟨⟨b,cs,T,J,u,P,y,I,a4,a5⟩,p⟩,o,K,a=>by
  simp only[ZtE,Zag,ZH2,QS]at a;have n:=Qg t v.1 [u] a5;split at a
  ·rename_i c hc
   rw[hc]at n;simp only[Yu]at n;obtain⟨e,V,a⟩:=XB H a;split at a
   ·rename_i cells
    rw[ZgF,Qa] at a;have A:=m.weaken (cells':=cells.set O c) V (λb' a7 T' h1 Z h3=>by
     have:=y.symm.trans h1;simp at this;subst this;have:=I.symm.trans Z;simp at this;obtain⟨rfl,_⟩:=this;have D:=ZgR _ _ h3 O c u n.1
     rwa [JX a4] at D)
    exact ZjZ q v.2 A N x (ZcH rfl (λ_ h=>h) (λ_ _ h=>h) (Boxed.Znb V) q v.2 x p) (o.Znb V) a
   ·exact a.elim
  ·exact a.elim
 | .cello id O e::q,v,E,H,m,R,vs,N,x,⟨b,cs,T,J,u,f,j,P,y,I,a4,C,i,p⟩,o,K,a=>by
  simp only[ZtE,Zag]at a;subst i;obtain⟨E1,H1,b0,F,S,A,G,L,a,M,l,X⟩:=Zas e v.1 m C o a;subst X;split at a
  ·rename_i s
   simp only[Yu]at L;obtain⟨en,V,a⟩:=XB _ a;split at a
   ·rename_i cells
    rw[ZgF,Qa] at a;have a0:=G.ids _ _ y;have Q:=A.weaken (cells':=cells.set O s) V (λb' a7 T' h1 Z h3=>by
     have:=a0.symm.trans h1;simp at this;subst this;rw[F]at Z;have:=I.symm.trans Z;simp at this;obtain⟨rfl,_⟩:=this;have D:=ZgR _ _ h3 O s u L.1
     rwa [JX a4] at D)
    obtain⟨E2,H2,d,Y,a8,U,a⟩:=ZjZ q v.2 Q (ZX G _ _ N) j (ZcH rfl (λ_ h=>h) (λ_ _ h=>h) (Boxed.Znb V) q v.2 j (Zoz E1 l F S G.ids q v.2 j p)) (M.Znb V) a;exact⟨E2,H2,d,Y.trans F,a8,U,a⟩
   ·exact a.elim
  ·exact a.elim
 | .ent id et e::q,v,E,H,m,R,vs,N,x,⟨u,f,j,P,y,I,C,i,p⟩,o,K,a=>by
  simp only[ZtE,Zag]at a;subst i;obtain⟨e1,A,M,a,a9⟩:=ZAR e m P y C o a;exact ZjZ q v.2 A N j (ZcH rfl (λ_ h=>h) (λ_ _ h=>h) (Boxed.ZFb I a9) q v.2 j p) M a
 | .entm id k t::q,v,E,H,m,R,vs,N,x,⟨u,f,j,P,y,I,⟨b,es,a6,e1,e2,hh,C⟩,i,p⟩,o,K,a=>by
  simp only[ZtE,Zag,Qa] at a;subst i;simp at e1;subst e1;obtain ⟨A,M⟩:=o.put m P y (.mpe k t v.1) (λ_ g i=>by
   have i:Y4 (.map (some b))=some g:=i;simp[Y4] at i;rw[e2];simp[i]) ⟨b,es,a6,y,hh,C⟩
  exact ZjZ q v.2 A N j (ZcH rfl (λ_ h=>h) (λ_ _ h=>h) (Boxed.ZFb I (λc h=>by cases h)) q v.2 j p) M a
 | .splt id et e::q,v,E,H,m,R,vs,N,x,⟨u,f,j,P,y,I,C,i,p⟩,o,K,a=>by
  simp only[ZtE,Zag]at a;have a:=a f;rw[Qa]at a;subst i;obtain⟨A,M⟩:=o.put m P y (.spl et e v.1.1 v.1.2 f) (λ_ g i=>i) ⟨u,y,C,(U2.1 o.nodup).1⟩;exact ZjZ q v.2 A N j (ZcH rfl (λ_ h=>h) (λ_ _ h=>h) (Boxed.ZFb I (λc h=>by cases h)) q v.2 j p) M a
structure Cal where
 run:List SV->List Entry->(SV->List Entry->Prop)->Prop
 dat:Bool
 io:Option (List Bool) -- which arguments are variables,if nothing else is handed over
def ZD9 (P:Program) (f:FuncId) (C:Cal):Prop:=Zmq P f/\
 ∀{B:Base} {E:Env} {H:List Entry},Inv B E H->∀{S:List SV} {vs:List Value},Yu E S vs->∀{K:SV->List Entry->Prop},C.run S H K->
  Calls P f vs.toArray E.w λe w'=>∃v E' H' s,e=.returned v/\E'.w=w'/\Inv B E' H'/\E.le E'/\den E' s v/\K s H'/\(C.dat=true->Grow E.w w')/\(∀m,C.io=some m->∀b,b<E.w.heap.size->(∀v∈pick m vs,Y4 v≠some b)->w'.heap[b]?=E.w.heap[b]?)
def Ctr.cal (C:Ctr):Cal:=⟨ZEo C,Zcy C.args,match Zkl C.args with
 |true=>some (ZmW C.args)
 | false=>none⟩
theorem Ctr.ZGD {P:Program} {f:FuncId} {C:Ctr} (h:Zc P f C):ZD9 P f C.cal:=⟨h.1,λi _ _ N _ b=>(ZBX i h N b).mono λe w' ⟨v,E',H',s,a,A,j,k,F,G,I,J⟩=>⟨v,E',H',s,a,A,j,k,F,G,I,λm R=>by
 simp only[Ctr.cal]at R;split at R
 ·rename_i H
  injection R with R
  subst R;exact J H
 ·cases R⟩⟩
abbrev Gam:=List (Nat×Cal)
def Gam.ok (Γ:Gam) (P:Program):Prop:=∀x∈Γ,ZD9 P x.1 x.2
def ZCu:Gam->Nat->(Cal->Prop)->Prop
 |[],_,_=>False
 |(n,C)::r,f,K=>if n=f then K C else ZCu r f K
def ZwK:Gam->Nat->Bool
 |[],_=>false
 |(n,C)::r,f=>if n=f then C.dat else ZwK r f
def ZwL:Gam->Nat->Option (List Bool)
 |[],_=>none
 |(n,C)::r,f=>if n=f then C.io else ZwL r f
theorem Zt6 {P:Program}:∀(Γ:Gam),Γ.ok P->∀{f:Nat} {K:Cal->Prop},ZCu Γ f K->∃C,ZD9 P f C/\K C/\C.dat=ZwK Γ f/\C.io=ZwL Γ f
 |[],_,_,_,h=>h.elim
 |(n,C)::r,hΓ,f,K,h=>by
  unfold ZCu at h;unfold ZwK ZwL;split at h
  ·rename_i e;subst e;exact⟨C,hΓ (n,C) (by simp),h,by rw[Uc rfl],by rw[Uc rfl]⟩
  ·rename_i e;rw[Ue e,Ue e];exact Zt6 r (λx l=>hΓ x (by simp[l])) h
def ZkL (Γ:Gam) (op:Op):Bool:=ZfT op||Zov op||match op with
 | .call c=>match c.callee with
  | .value (.func f)=>ZwK Γ f
  |_=>false
 |_=>false
def Zk8 (Γ:Gam) (op:Op):Option (List Operand):=match op with
 | .call c=>match c.callee with
  | .value (.func f)=>match ZwL Γ f with
   |some m=>some (pick m c.args.toList)
   |none=>none
  |_=>none
 |_=>none
def Ztk (Δ:Tab) (Γ:Gam) (r:List SV) (H:List Entry) (op:Op) (K:SV->List Entry->Prop):Prop :=
 match op with
 | .call c=>match c.callee with
  | .value o=>Za1 r o λS=>match S with
   | .fn f s=>ZCu Γ f λC=>ZxP r c.args.toList λl=>ZtB l s λl'=>C.run l' H K
   |_=>False
  |_=>opK Δ r H op K
 |op=>opK Δ r H op K
def Zyg (r:List SV) (dst:Option Tmp) (s:SV) (K:List SV->Prop):Prop :=
 match dst with
 |none=>K r
 |some d=>Zyn r d s K
def ZAC:List Oper->Nat->(Oper->Prop)->Prop
 |[],_,_=>False
 |o::_,0,K=>K o
 |_::r,n+1,K=>ZAC r n K
theorem ZnY:∀(l:List Oper) {n:Nat} {K:Oper->Prop},ZAC l n K->∃o,l[n]?=some o/\K o
 |[],_,_,h=>h.elim
 |o::_,0,K,h=>⟨o,rfl,h⟩
 |_::r,n+1,K,h=>by simpa using ZnY r (n:=n) h
def ZAF (Δ:Tab) (Γ:Gam) (ops:List Oper) (o:Oper) (r:List SV) (H:List Entry) (K:List SV->List Entry->Prop):Prop :=
 match o.guard with
 |none=>Ztk Δ Γ r H o.op λs H'=>Zyg r o.dst s λa=>K a H'
 |some (j,w)=>ZAC ops j λO=>match O.dst with
  |none=>False
  |some d=>ZoP r d λg=>match g with
   | .blit b=>if b=w then Ztk Δ Γ r H o.op λs H'=>Zyg r o.dst s λa=>K a H'
     else Zyg r o.dst (.tup []) λa=>K a H
   | .bool p=>(p=w->Zyn r d (.blit w) λR=>Ztk Δ Γ R H o.op λs H'=>Zyg R o.dst s λa=>K a H')/\
     (p = !w->Zyn r d (.blit (!w)) λR=>Zyg R o.dst (.tup []) λa=>K a H)
   | .tup []=>Zyg r o.dst (.tup []) λa=>K a H
   |_=>False
def ZHZ (Δ:Tab) (Γ:Gam) (ops:List Oper):List Oper->List SV->List Entry->(List SV->List Entry->Prop)->Prop
 |[],s,H,K=>K s H
 |o::r,s,H,K=>ZAF Δ Γ ops o s H λa H'=>ZHZ Δ Γ ops r a H' K
def Conc (B:Base) (r:List SV) (H:List Entry) (a:Act) (w:World):Prop :=
 ∃E,E.w=w/\Inv B E H/\Yu E r a.tmps.toList/\a.defers=[]
section
variable {P:Program}
variable {E:Env} {r:List SV} {v:Value}
theorem Zm6 {a:Act} (N:Yu E r a.tmps.toList) {dst:Option Tmp} {s:SV} (q:den E s v) {K:List SV->Prop} (H:Zyg r dst s K) :
  ∃R,Yu E R (a.put dst v).tmps.toList/\K R/\(a.put dst v).defers=a.defers:=by
 cases dst with
 |none=>exact⟨r,N,H,rfl⟩
 |some d =>
  simp only[Zyg,ZgF]at H;refine⟨_,?_,H,rfl⟩;simp only[Act.put,Array.toList_setIfInBounds];exact ZgR _ _ N d s v q
variable {B:Base} {K:SV->List Entry->Prop} {n:Act->World->Prop} {Q:Exit->Act->World->Prop}
theorem ZBz {o:Oper} {a:Act} (h:Ran P B E o a K)
  (f:∀E' H' s v,Inv B E' H'->E.le E'->den E' s v->K s H'->((ZfT o.op||Zov o.op)=true->Grow E.w E'.w)->(∀x,appArg o.op=some x->E.w.grownBy E'.w (Y4 (a.eval x)))->n (a.put o.dst v) E'.w):o.wp P a E.w n Q:=by
 obtain⟨N,v,E',H',s,d,H,g,i,j,I,_,k,l⟩:=h;unfold Oper.wp;rw[d];rcases H with rfl|⟨rfl,rfl⟩
 ·exact f E' H' s v g i j I k l
 ·exact f E' H' s _ g i j I k l
variable {Δ:Tab} {Γ:Gam} {H:List Entry} {R:List SV}
theorem ZDo (hΔ:Δ.ok P) (hΓ:Γ.ok P) (U:Inv B E H) {a:Act} (O:Yu E R a.tmps.toList) {o:Oper}
  (h:Ztk Δ Γ R H o.op K)
  (Z:∀E' H' s v,Inv B E' H'->E.le E'->den E' s v->K s H'->(ZkL Γ o.op=true->Grow E.w E'.w)->(∀x,appArg o.op=some x->E.w.grownBy E'.w (Y4 (a.eval x)))->(∀xs,Zk8 Γ o.op=some xs->∀b,b<E.w.heap.size->(∀x∈xs,Y4 (a.eval x)≠some b)->E'.w.heap[b]?=E.w.heap[b]?)->n (a.put o.dst v) E'.w):o.wp P a E.w n Q:=by
 obtain⟨dst,op,T,pos,after,guard⟩:=o;simp only at h;unfold Ztk at h;split at h
 ·rename_i c
  obtain⟨i,args,A⟩:=c;simp only at h;split at h
  ·rename_i S
   obtain⟨sf,N,h⟩:=YU O h;split at h
   ·rename_i f a1
    simp only[den]at N;obtain⟨F,d,t⟩:=N;obtain⟨C,hC,h,W,Y⟩:=Zt6 Γ hΓ h;obtain⟨l,hl,h⟩:=ZmH O _ h;rw[Zde]at h;have X:=Zdz _ _ hl _ _ t;have q:=hC.2 U X h;obtain⟨⟨fn,hf,z,y⟩,_⟩:=hC;have M:(execOp a.eval ⟨dst,.call ⟨.value S,args,A⟩,T,pos,after,guard⟩).run P E.w=.ok (.enter f (args.toList.map a.eval++F).toArray) E.w:=by
     have p:(args.map a.eval)++F.toArray=(args.toList.map a.eval++F).toArray:=by
      apply Array.ext';simp
     simp only[execOp,resolve,d,Deferred.ofValue,pure_bind,invoke,Array.empty_append,p];unfold callFunc;rw[Sem.run_bind,run_program,Result.andThen_ok,hf];simp only[z,y,Ka,Uh];rfl
    unfold Oper.wp;rw[M];refine q.mono ?_;rintro e w' ⟨v,E',H',s,rfl,rfl,D,k,G,I,J,L⟩;refine Z E' H' s v D k G I (λr=>J ?_) (ZrO rfl) (λxs j b hb g=>?_)
    ·rw[W]
     cases S with
     |func f0 =>
      simp only[Act.eval]at d;injection d with d
      injection d with d
      subst d;simpa[ZkL,ZfT,Zov]using r
     |_=>simp[ZkL,ZfT,Zov]at r
    ·cases S with
     |func f0 =>
      simp only[Act.eval]at d;have V:F=[]:=by
       have h:=d;simp at h;first|exact h.2.symm|exact h.2|(rcases h with⟨D,k⟩;simpa using k.symm)|simpa using h.2
      injection d with d
      injection d with d
      subst d;simp only[Zk8]at j;split at j
      ·rename_i m hm
       injection j with j
       subst j;refine L m (Y.trans hm) b hb (λu hu=>?_);have:pick m (args.toList.map a.eval++F)=(pick m args.toList).map a.eval:=by
        rw[<-ZsZ,V,Un]
       rw[this]at hu;obtain⟨x,a0,rfl⟩:=Ke.1 hu;exact g x a0
      ·cases j
     |_=>simp[Zk8]at j
   ·exact h.elim
  ·rename_i g
   refine ZBz (ZAI hΔ U O h) (λE' H' s v D k G I J L=>Z E' H' s v D k G I (λr=>J ?_) L (λxs j=>?_))
   ·cases i with
    |value f=>exact absurd rfl (g f)
    |_=>simpa[ZkL,Zov]using r
   ·cases i with
    |value f=>exact absurd rfl (g f)
    |_=>simp[Zk8]at j
 ·rename_i g
  refine ZBz (ZAI hΔ U O h) (λE' H' s v D k G I J L=>Z E' H' s v D k G I (λr=>J ?_) L (λxs j=>?_));rotate_left
  ·cases op with
   |call c=>exact absurd rfl (g c)
   |_=>simp[Zk8]at j
  cases op with
  |call c=>exact absurd rfl (g c)
  |_=>first|rfl|exact r|(simp[ZkL,ZfT,Zov]at r ⊢)
def Zy4:Value->Option Bool
 | .bool b=>some b
 |_=>none
theorem Zr3 {ops:Array Oper} {a:Act} {j d:Nat} {O:Oper} (x:ops.toList[j]?=some O) (N:O.dst=some d) (h:a.tmps.toList[d]?=some v) :
  yielded ops a.tmps j=Zy4 v:=by
 have Y:ops[j]?=some O:=by simpa using x
 have i:a.tmps[d]?=some v:=by simpa using h
 unfold yielded;rw[Y,Option.bind_some,N,Option.bind_some,i];cases v<;>rfl
variable {K:List SV->List Entry->Prop}
theorem Zxd (hΔ:Δ.ok P) (hΓ:Γ.ok P) (ops:Array Oper) (o:Oper) {a:Act} (U:Inv B E H) (N:Yu E R a.tmps.toList) (f:a.defers=[]) (c:ZAF Δ Γ ops.toList o R H K)
  (X:∀r H' D E',K r H'->Inv B E' H'->Yu E' r D.tmps.toList->D.defers=[]->E.le E'->(ZkL Γ o.op=true->Grow E.w E'.w)->(∀x,appArg o.op=some x->E.w.grownBy E'.w (Y4 (a.eval x)))->(∀xs,Zk8 Γ o.op=some xs->∀b,b<E.w.heap.size->(∀x∈xs,Y4 (a.eval x)≠some b)->E'.w.heap[b]?=E.w.heap[b]?)->n D E'.w) :
  (if Region.wanted o (yielded ops a.tmps)then o.wp P a E.w n Q\/(o.asks P a E.w/\LetsOut Q)else n (a.put o.dst undef) E.w):=by
 have run:∀{R:List SV},Yu E R a.tmps.toList->(Ztk Δ Γ R H o.op λs H'=>Zyg R o.dst s λr=>K r H')->o.wp P a E.w n Q:=by
  intro R N c;refine ZDo hΔ hΓ U N c (λE' H' s v F A O c y G T=>?_);obtain⟨r,i,c,l⟩:=Zm6 (ZX A _ _ N) O c;exact X r H' _ _ c F i (by rw[l];exact f) A y G T
 have skip:∀{R:List SV},Yu E R a.tmps.toList->(Zyg R o.dst (.tup []) λr=>K r H)->n (a.put o.dst undef) E.w:=by
  intro R N c;obtain⟨r,i,c,l⟩:=Zm6 N (v:=undef) (by simp only[den];exact⟨[],rfl,trivial⟩) c;exact X r H _ _ c U i (by rw[l];exact f) (Env.le.refl E) (λ_=>Grow.refl _) (λ_ _=>⟨rfl,rfl,rfl,UO _,λ_ _ _=>rfl⟩) (λ_ _ _ _ _=>rfl)
 unfold ZAF at c;split at c
 ·rename_i y
  rw[Uc (by simp[Region.wanted,y])];exact .inl (run N c)
 ·rename_i j W y
  obtain⟨oj,L,e⟩:=ZnY _ c;clear c;split at e
  ·exact e.elim
  ·rename_i d u
   obtain⟨sg,v,S,g,c,M⟩:=ZdB _ _ N e;clear M e;have Z:=Zr3 L u S;have t:Region.wanted o (yielded ops a.tmps)=(Zy4 v==some W):=by
    simp only[Region.wanted,y,Z]
   have q:∀(s:SV),den E s v->Yu E (R.set d s) a.tmps.toList:=by
    intro s O;have Y:=ZgR _ _ N d s v O;have m:a.tmps.toList.set d v=a.tmps.toList:=by
     apply Uy;intro k;by_cases z:d=k
     ·subst z
      have:=(Ua.1 S).1;rw[UG this,S]
     ·rw[UF z]
    rwa [m]at Y
   split at c
   ·rename_i b
    simp only[den]at g;subst g;split at c
    ·rename_i I;subst I
     rw[Uc (by rw[t];simp[Zy4])];exact .inl (run N c)
    ·rename_i I
     rw[Ue (by rw[t];simp[Zy4];exact I)];exact skip N c
   ·rename_i p
    simp only[den]at g;subst g;by_cases V:p=W
    ·subst V
     rw[Uc (by rw[t];simp[Zy4])];have c:=c.1 rfl;rw[ZgF]at c;exact .inl (run (q _ (by simp only[den])) c)
    ·have C:p = !W:=by cases p<;>cases W<;>simp_all
     rw[Ue (by rw[t];simp[Zy4];exact V)];have c:=c.2 C;rw[ZgF]at c;exact skip (q _ (by simp only[den,C])) c
   ·simp only[den]at g
    obtain⟨vs,m,J⟩:=g;have:v=.tuple #[]:=by
     cases vs with
     |nil=>rw[m]
     |cons=>simp[Yu]at J
    rw[Ue (by rw[t,this];intro h;cases h)];exact skip N c
   ·exact c.elim
variable {w:World}
theorem ZE0 (hΔ:Δ.ok P) (hΓ:Γ.ok P) (ops:Array Oper) (o:Oper) {s:List SV} {a:Act} (c:Conc B s H a w) (k:ZAF Δ Γ ops.toList o s H K)
  (d:∀r H' A w',K r H'->Conc B r H' A w'->(ZkL Γ o.op=true->Grow w w')->n A w') :
  (if Region.wanted o (yielded ops a.tmps)then o.wp P a w n Q\/(o.asks P a w/\LetsOut Q)else n (a.put o.dst undef) w):=by
 obtain⟨E,e,m,N,f⟩:=c;subst e;exact Zxd hΔ hΓ ops o m N f k (λr H' A E' k q b h _ g _ _=>d r H' A _ k ⟨E',rfl,q,b,h⟩ g)
theorem ZAJ {Δ:Tab} (hΔ:Δ.ok P) {Γ:Gam} (hΓ:Γ.ok P) {B:Base} (ops:Array Oper) {Q:Exit->Act->World->Prop}:∀(l:List Oper) {s:List SV} {H:List Entry} {a:Act} {w:World} (_:Conc B s H a w)
  {K:List SV->List Entry->Prop} (_:ZHZ Δ Γ ops.toList l s H K) (_:∀R H' A w',K R H'->Conc B R H' A w'->Q .normal A w'),wpList P ops Q l a w
 |[],s,H,a,w,q,K,h,b=>b _ _ _ _ h q
 |o::r,s,H,a,w,q,K,h,b=>by
  simp only[ZHZ]at h;unfold wpList;exact ZE0 hΔ hΓ ops o q h (λR H' A w' u c _=>ZAJ hΔ hΓ ops r c u b)
def Zmr (B:Base) (E0:Env) (r:List SV) (H:List Entry) (a:Act) (w:World):Prop :=
 ∃E,E0.le E/\E.w=w/\Inv B E H/\Yu E r a.tmps.toList/\a.defers=[]
theorem Zmr.ZKX {E0:Env} {a:Act} (h:Zmr B E0 r H a w):Conc B r H a w:=by
 obtain⟨E,_,h⟩:=h;exact⟨E,h⟩
theorem ZAl (hΔ:Δ.ok P) (ops:Array Oper) (o:Oper) (L:ZfT o.op=true) {a:Act} (U:Inv B E H) (N:Yu E R a.tmps.toList) (m:a.defers=[]) (e:ZAF Δ Γ ops.toList o R H K) :
  ∃v,((Region.wanted o (yielded ops a.tmps)=true/\∀w',(isLoad o.op=true->ZtA E.w w')->(execOp a.eval o).run P w'=.ok (.value v) w')\/(Region.wanted o (yielded ops a.tmps)=false/\v=undef))/\
   ∃r H',K r H'/\Zmr B E r H' (a.put o.dst v) E.w:=by
 have hst:∀(K:SV->List Entry->Prop) (R:List SV),Ztk Δ Γ R H o.op K->opK Δ R H o.op K:=by
  intro K R h;unfold Ztk at h;split at h
  ·rename_i c I
   split at h
   ·rename_i f z
    rw[I]at L;simp[ZfT,z]at L
   ·exact h
  ·exact h
 have run:∀{R:List SV},Yu E R a.tmps.toList->(Ztk Δ Γ R H o.op λs H'=>Zyg R o.dst s λr=>K r H')->
   ∃v,(∀w',(isLoad o.op=true->ZtA E.w w')->(execOp a.eval o).run P w'=.ok (.value v) w')/\∃r H',K r H'/\Zmr B E r H' (a.put o.dst v) E.w:=by
  intro R N e;obtain⟨nx,v,E',H',s,l,y,X,T,Y,Z,h7,_⟩:=ZAI hΔ U N (hst _ _ e);obtain⟨_,S,h8⟩:=h7 L;obtain⟨r,n,e,u⟩:=Zm6 (ZX T _ _ N) Y Z;exact⟨v,h8,r,H',e,E',T,S,X,n,by rw[u];exact m⟩
 have skip:∀{R:List SV},Yu E R a.tmps.toList->(Zyg R o.dst (.tup []) λr=>K r H)->∃r H',K r H'/\Zmr B E r H' (a.put o.dst undef) E.w:=by
  intro R N e;obtain⟨r,n,e,u⟩:=Zm6 N (v:=undef) (by simp only[den];exact⟨[],rfl,trivial⟩) e;exact⟨r,H,e,E,Env.le.refl E,rfl,U,n,by rw[u];exact m⟩
 unfold ZAF at e;split at e
 ·rename_i J
  obtain⟨v,l,y⟩:=run N e;exact⟨v,.inl ⟨by simp[Region.wanted,J],l⟩,y⟩
 ·rename_i j W J
  obtain⟨oj,M,i⟩:=ZnY _ e;clear e;split at i
  ·exact i.elim
  ·rename_i d A
   obtain⟨sg,v,Q,g,e,O⟩:=ZdB _ _ N i;clear O i;have hy:=Zr3 M A Q;have t:Region.wanted o (yielded ops a.tmps)=(Zy4 v==some W):=by
    simp only[Region.wanted,J,hy]
   have q:∀(s:SV),den E s v->Yu E (R.set d s) a.tmps.toList:=by
    intro s hs;have l:=ZgR _ _ N d s v hs;have x:a.tmps.toList.set d v=a.tmps.toList:=by
     apply Uy;intro k;by_cases C:d=k
     ·subst C
      have:=(Ua.1 Q).1;rw[UG this,Q]
     ·rw[UF C]
    rwa [x]at l
   split at e
   ·rename_i b
    simp only[den]at g;subst g;split at e
    ·rename_i F;subst F
     obtain⟨v,l,y⟩:=run N e;exact⟨v,.inl ⟨by rw[t];simp[Zy4],l⟩,y⟩
    ·rename_i F
     exact⟨_,.inr ⟨by rw[t];simp[Zy4];exact F,rfl⟩,skip N e⟩
   ·rename_i p
    simp only[den]at g;subst g;by_cases V:p=W
    ·subst V
     have e:=e.1 rfl;rw[ZgF]at e;obtain⟨v,l,y⟩:=run (q _ (by simp only[den])) e;exact⟨v,.inl ⟨by rw[t];simp[Zy4],l⟩,y⟩
    ·have D:p = !W:=by cases p<;>cases W<;>simp_all
     have e:=e.2 D;rw[ZgF]at e;exact⟨_,.inr ⟨by rw[t];simp[Zy4];exact V,rfl⟩,skip (q _ (by simp only[den,D])) e⟩
   ·simp only[den]at g
    obtain⟨vs,x,G⟩:=g;have:v=.tuple #[]:=by
     cases vs with
     |nil=>rw[x]
     |cons=>simp[Yu]at G
    exact⟨_,.inr ⟨by rw[t,this];rfl,rfl⟩,skip N e⟩
   ·exact e.elim
end
section
variable {P:Program}
variable {E:Env} {T:TypeId} {t:TI} {K:SV->Prop}
theorem Zrc (h:ZeP P T t) (W:World->Prop) (p:Addr) {cs:List SV} (H:JW t cs K)
  (vs:List Value) (N:Yu E cs vs) (a:∀w',W w'->∀j u,vs[j]?=some u->w'.cell? (p.add j)=some u) :
  ∃v s,(∀w',W w'->(loadVar T p).run P w'=.ok v w')/\den E s v/\K s:=by
 unfold JW at H;split at H
 ·rename_i n
  rw[Zke]at H;split at H
  ·rename_i q
   have d:=Zh8 cs vs N t.size;have g:=Xo _ _ d;have f:=λw' (hst:W w')=>Zg0 h w' p (vs.take t.size) (λj u b=>a w' hst j u (by
    rw[UB]at b;split at b
    ·exact b
    ·cases b)) (λ_=>by rw[<-g];exact q)
   exact⟨_,.agg _,λw' hst=>(f w' hst).1 n,by simp only[den];exact⟨_,rfl,d⟩,H⟩
  ·exact H.elim
 ·rename_i n
  split at H
  ·rename_i c r
   match vs,N,a with
   |v::vs,N,a =>
    simp only[Yu]at N;have f:=λw' (hst:W w')=>Zg0 h w' p (v::vs) (λj u b=>a w' hst j u b) (λe=>absurd e n);exact⟨v,c,λw' hst=>(f w' hst).2 (by simpa using n) v rfl,N.1,H⟩
   |[],N,_=>simp[Yu]at N
  ·exact H.elim
variable {B:Base} {H:List Entry} {I:Nat} {v:Value} {cells:List SV}
theorem Zx0 (m:Inv B E H) (h:ZeP P T t) {o:Nat} (q:den E (.ptr I o) v) (j:H[I]?=some (.box cells))
  (k:ZkI cells o λcs=>JW t cs K) :
  ∃b u r,E.ids[I]?=some (.pointer (some ⟨b,0,none⟩))/\(∀w':World,w'.heap[b]?=E.w.heap[b]?->(Instr.loadAt T v).run P w'=.ok u w')/\den E r u/\K r:=by
 rw[ZdY]at k;simp only[den]at q;obtain⟨b,d,rfl⟩:=q;obtain⟨X,cs,T',a,f,i⟩:=m.ent I _ j;have:=d.symm.trans a;simp at this;subst this;obtain⟨u,r,g,G,e⟩:=Zrc h (λw'=>w'.heap[b]?=E.w.heap[b]?) ⟨b,o,none⟩ k (cs.toList.drop o) (Zbg _ _ i o) (λw' c=>Zmy (c.trans f) o);exact⟨b,u,r,d,λw' c=>by simp only[Instr.loadAt,Instr.sureAddr,pure_bind];exact g w' c,G,e⟩
theorem Zps (m:Inv B E H) (e:H[I]?=some (.box cells)) {b:Nat} (a:E.ids[I]?=some (.pointer (some ⟨b,0,none⟩)))
  {k:Nat} {G:Entry} (c:H[k]?=some G) (q:G.live=true) (f:E.ids[k]?=some v) (d:k≠I):¬Zi9 G v b:=by
 intro h;exact d (m.sep k I G _ v _ b c e q rfl f a h (by simp[Zi9,Y4]))
end
def Zuw (m:List Nat) (i:Nat):Nat:=(m[i]?).getD i
mutual
def ZKb (m:List Nat):SV->SV
 | .ptr I o=>.ptr (Zuw m I) o
 | .own I=>.own (Zuw m I)
 | .oep I z i o=>.oep (Zuw m I) z i o
 | .mown I=>.mown (Zuw m I)
 | .fptr cs=>.fptr (ZAV m cs)
 | .agg cs=>.agg (ZAV m cs)
 | .tup cs=>.tup (ZAV m cs)
 | .fn f cs=>.fn f (ZAV m cs)
 | .bot=>.bot
 | .int k n=>.int k n
 | .bool b=>.bool b
 | .blit b=>.blit b
 | .str s=>.str s
 | .sl t d=>.sl t d
 | .nsl=>.nsl
 | .nilp=>.nilp
 | .nptr t d=>.nptr t d
 | .mp k v d=>.mp k v d
def ZAV (m:List Nat):List SV->List SV
 |[]=>[]
 |c::cs=>ZKb m c::ZAV m cs
end
def ZGX (m:List Nat):Entry->Entry
 | .box cells=>.box (ZAV m cells)
 | .fbx cells=>.fbx (ZAV m cells)
 | .hole g e d i cells f=>.hole g e d i (ZAV m cells) f
 | .hsp g e d i cells f=>.hsp g e d i (ZAV m cells) f
 |e=>e
section
variable {E:Env} {ids':List Value} {m:List Nat}
mutual
theorem ZEz (h:∀i v,E.ids[i]?=some v->ids'[Zuw m i]?=some v):∀(s:SV) (v:Value),den E s v->den ⟨E.S,E.w,ids'⟩ (ZKb m s) v
 | .bot,_,_=>trivial
 | .int _ _,_,e=>e
 | .bool _,_,e=>e
 | .blit _,_,e=>e
 | .str _,_,e=>e
 | .sl t d,v,e=>e
 | .nsl,_,e=>e
 | .ptr _ _,_,⟨b,a,f⟩=>⟨b,h _ _ a,f⟩
 | .own _,_,⟨a,f⟩=>⟨h _ _ a,f⟩
 | .oep _ _ _ _,_,⟨b,B,n,c,a,f⟩=>⟨b,B,n,c,h _ _ a,f⟩
 | .fptr cs,_,⟨p,vs,a,f,g,j,l⟩=>⟨p,vs,a,f,g,j,ZgQ h cs vs l⟩
 | .agg cs,_,⟨vs,a,f⟩=>⟨vs,a,ZgQ h cs vs f⟩
 | .tup cs,_,⟨vs,a,f⟩=>⟨vs,a,ZgQ h cs vs f⟩
 | .fn _ cs,_,⟨vs,a,f⟩=>⟨vs,a,ZgQ h cs vs f⟩
 | .nilp,_,e=>e
 | .nptr t d,v,e=>e
 | .mown _,_,⟨a,f⟩=>⟨h _ _ a,f⟩
 | .mp k u d,v,e=>e
theorem ZgQ (h:∀i v,E.ids[i]?=some v->ids'[Zuw m i]?=some v):∀(cs:List SV) (vs:List Value),Yu E cs vs->Yu ⟨E.S,E.w,ids'⟩ (ZAV m cs) vs
 |[],[],_=>trivial
 |c::cs,v::vs,⟨a,b⟩=>⟨ZEz h c v a,ZgQ h cs vs b⟩
 |[],_::_,e=>e
 |_::_,[],e=>e
end
theorem ZCg (h:∀i v,E.ids[i]?=some v->ids'[Zuw m i]?=some v) (i:Nat):∀e:Entry,Zwz E i e->Zwz ⟨E.S,E.w,ids'⟩ (Zuw m i) (ZGX m e)
 | .gone,_=>trivial
 | .box cells,⟨b,cs,T,a,l,o⟩=>⟨b,cs,T,h _ _ a,l,ZgQ h _ _ o⟩
 | .arr g t d,⟨v,xs,a,r⟩=>⟨v,xs,h _ _ a,r⟩
 | .frz t d,⟨v,a,r⟩=>⟨v,h _ _ a,r⟩
 | .fbx cells,⟨b,cs,T,a,l,o,z⟩=>⟨b,cs,T,h _ _ a,l,o,ZgQ h _ _ z⟩
 | .darr g e d q,⟨v,xs,s,a,r⟩=>⟨v,xs,s,h _ _ a,r⟩
 | .hole g e d i cells q,⟨v,xs,X,x,y,p,D,a,A,c,j,f,F,G,I,J,K,r⟩=>⟨v,xs,X,x,y,p,D,h _ _ a,A,c,j,f,F,G,I,J,ZgQ h _ _ K,r⟩
 | .spl g e d n q,⟨v,a,r⟩=>⟨v,h _ _ a,r⟩
 | .hsp g e d i cells q,⟨v,xs,X,x,y,p,a,A,c,j,f,F,G,I,J,K,r⟩=>⟨v,xs,X,x,y,p,h _ _ a,A,c,j,f,F,G,I,J,ZgQ h _ _ K,r⟩
 | .mpe k v d,⟨b,B,C,a,r⟩=>⟨b,B,C,h _ _ a,r⟩
 | .frm k v d,⟨u,a,r⟩=>⟨u,h _ _ a,r⟩
end
variable (m:List Nat) (e:Entry)
theorem Zuv:(ZGX m e).live=e.live:=by cases e<;>rfl
theorem Zs5 (v:Value) (g:Nat):Zi9 (ZGX m e) v g<->Zi9 e v g:=by cases e<;>exact Iff.rfl
def Zyj:List Nat->Nat->Nat->(Nat->Prop)->Prop
 |[],_,i,K=>K i
 |a::_,0,_,K=>K a
 |_::r,n+1,i,K=>Zyj r n i K
theorem Zm7:∀(m:List Nat) (n i:Nat) (K:Nat->Prop),Zyj m n i K=K ((m[n]?).getD i)
 |[],_,_,_=>rfl
 |_::_,0,_,_=>rfl
 |_::r,n+1,i,K=>Zm7 r n i K
mutual
def Zrd (m:List Nat):SV->(SV->Prop)->Prop
 | .ptr I o,K=>Zyj m I I λj=>K (.ptr j o)
 | .own I,K=>Zyj m I I λj=>K (.own j)
 | .oep I z i o,K=>Zyj m I I λj=>K (.oep j z i o)
 | .mown I,K=>Zyj m I I λj=>K (.mown j)
 | .fptr cs,K=>ZoW m cs λcs=>K (.fptr cs)
 | .agg cs,K=>ZoW m cs λcs=>K (.agg cs)
 | .tup cs,K=>ZoW m cs λcs=>K (.tup cs)
 | .fn f cs,K=>ZoW m cs λcs=>K (.fn f cs)
 | .bot,K=>K .bot
 | .int k n,K=>K (.int k n)
 | .bool b,K=>K (.bool b)
 | .blit b,K=>K (.blit b)
 | .str s,K=>K (.str s)
 | .sl t d,K=>K (.sl t d)
 | .nsl,K=>K .nsl
 | .nilp,K=>K .nilp
 | .nptr t d,K=>K (.nptr t d)
 | .mp k v d,K=>K (.mp k v d)
def ZoW (m:List Nat):List SV->(List SV->Prop)->Prop
 |[],K=>K []
 |c::cs,K=>Zrd m c λc=>ZoW m cs λcs=>K (c::cs)
end
mutual
theorem ZC9 (m:List Nat):∀(s:SV) (K:SV->Prop),Zrd m s K=K (ZKb m s)
 | .ptr I o,K=>by simp only[Zrd,Zm7];rfl
 | .own I,K=>by simp only[Zrd,Zm7];rfl
 | .oep I z i o,K=>by simp only[Zrd,Zm7];rfl
 | .mown I,K=>by simp only[Zrd,Zm7];rfl
 | .fptr cs,K=>by simp only[Zrd,Zj1 m cs];rfl
 | .agg cs,K=>by simp only[Zrd,Zj1 m cs];rfl
 | .tup cs,K=>by simp only[Zrd,Zj1 m cs];rfl
 | .fn f cs,K=>by simp only[Zrd,Zj1 m cs];rfl
 | .bot,K=>rfl
 | .int k n,K=>rfl
 | .bool b,K=>rfl
 | .blit b,K=>rfl
 | .str s,K=>rfl
 | .sl t d,K=>rfl
 | .nsl,K=>rfl
 | .nilp,K=>rfl
 | .nptr t d,K=>rfl
 | .mp k v d,K=>rfl
theorem Zj1 (m:List Nat):∀(l:List SV) (K:List SV->Prop),ZoW m l K=K (ZAV m l)
 |[],K=>rfl
 |c::cs,K=>by simp only[ZoW,ZC9 m c,Zj1 m cs];rfl
end
def ZE6 (m:List Nat):Entry->(Entry->Prop)->Prop
 | .box cells,K=>ZoW m cells λcs=>K (.box cs)
 | .fbx cells,K=>ZoW m cells λcs=>K (.fbx cs)
 | .hole g e d i cells f,K=>ZoW m cells λcs=>K (.hole g e d i cs f)
 | .hsp g e d i cells f,K=>ZoW m cells λcs=>K (.hsp g e d i cs f)
 | .gone,K=>K .gone
 | .arr g t d,K=>K (.arr g t d)
 | .frz t d,K=>K (.frz t d)
 | .darr g e d f,K=>K (.darr g e d f)
 | .spl g e d n f,K=>K (.spl g e d n f)
 | .mpe k v d,K=>K (.mpe k v d)
 | .frm k v d,K=>K (.frm k v d)
theorem ZC8 (m:List Nat) (e:Entry) (K:Entry->Prop):ZE6 m e K=K (ZGX m e):=by
 cases e<;>first|rfl|(simp only[ZE6,Zj1];rfl)
def ZC4 (H:List Entry) (m:List Nat):List Nat->(List Entry->Prop)->Prop
 |[],K=>K []
 |j::r,K=>ZiG H j λe=>ZE6 m e λe=>ZC4 H m r λl=>K (e::l)
theorem Zxl (H:List Entry) (m:List Nat):∀(o:List Nat) {K:List Entry->Prop},ZC4 H m o K->∃l,K l/\l.length=o.length/\∀(i:Nat) (E:Entry),l[i]?=some E->∃j e,o[i]?=some j/\H[j]?=some e/\E=ZGX m e
 |[],K,h=>⟨[],h,rfl,λi E a=>by cases a⟩
 |j::r,K,h=>by
  unfold ZC4 at h;obtain⟨e,b,h⟩:=XB H h;rw[ZC8]at h;obtain⟨l,d,f,g⟩:=Zxl H m r h;refine⟨_,d,by simp[f],λi E a=>?_⟩;cases i with
  |zero =>
   rw[List.getElem?_cons_zero]at a;injection a with a
   exact⟨j,e,rfl,b,a.symm⟩
  |succ i =>
   rw[Kg]at a;exact g i E a
def ZHW:List Nat->Nat->Nat->Bool
 |[],_,_=>false
 |a::_,0,x=>Nat.beq a x
 |_::r,n+1,x=>ZHW r n x
theorem ZvH:∀(l:List Nat) {n x:Nat},ZHW l n x=true->l[n]?=some x
 |[],_,_,h=>by cases h
 |a::_,0,x,h=>by rw[List.getElem?_cons_zero,Nat.eq_of_beq_eq_true h]
 |_::r,n+1,x,h=>by rw[Kg];exact ZvH r h
def ZGK (m:List Nat):List Nat->Nat->Bool
 |[],_=>true
 |j::r,k=>ZHW m j k&&ZGK m r (k+1)
theorem Zvw (m:List Nat):∀(o:List Nat) (k:Nat),ZGK m o k=true->∀(i j:Nat),o[i]?=some j->m[j]?=some (k+i)
 |[],_,_,i,j,h=>by cases h
 |a::r,k,h,i,j,l=>by
  unfold ZGK at h;rw[Ur]at h;cases i with
  |zero =>
   rw[List.getElem?_cons_zero]at l;injection l with l
   subst l;exact ZvH m h.1
  |succ i =>
   rw[Kg]at l;have:=Zvw m r (k+1) h.2 i j l;rw[this];congr 1;omega
def ZHM (m:List Nat):Nat->Bool
 |0=>true
 |n+1=>ZHW m n n&&ZHM m n
theorem ZzB (m:List Nat):∀(n:Nat),ZHM m n=true->∀i,i<n->m[i]?=some i
 |0,_,i,l=>by omega
 |n+1,h,i,l=>by
  unfold ZHM at h;rw[Ur]at h;by_cases e:i=n
  ·subst e;exact ZvH m h.1
  ·exact ZzB m n h.2 i (by omega)
def ZDe {α β:Type}:List α->List β->Bool
 |[],[]=>true
 |_::r,_::s=>ZDe r s
 |_,_=>false
theorem Zta {α β:Type}:∀(l:List α) (r:List β),ZDe l r=true->l.length=r.length
 |[],[],_=>rfl
 |_::r,_::s,h=>by simp[Zta r s h]
 |[],_::_,h=>by cases h
 |_::_,[],h=>by cases h
def ZHO (i:Nat):List Nat->Bool
 |[]=>false
 |j::r=>Nat.beq j i||ZHO i r
def ZGL:List Entry->Nat->Bool
 |[],_=>false
 | .box _::_,0=>true
 |_::_,0=>false
 |_::r,n+1=>ZGL r n
def ZDV (n0:Nat) (H:List Entry):List SV->List Nat->(List Nat->Prop)->Prop
 |[],a,K=>K a
 | .ptr I _::r,a,K=>match Nat.ble n0 I&&ZGL H I&&!ZHO I a with
  |true=>ZDV n0 H r (I::a) K
  |false=>ZDV n0 H r a K
 | .own I::r,a,K=>match Nat.ble n0 I&&!ZHO I a with
  |true=>ZDV n0 H r (I::a) K
  |false=>ZDV n0 H r a K
 |_::r,a,K=>ZDV n0 H r a K
theorem ZvI (n0:Nat) (H:List Entry) {K:List Nat->Prop}:∀(l:List SV) (a:List Nat),ZDV n0 H l a K->∃c,K c
 |[],a,h=>⟨a,h⟩
 |s::r,a,h=>by
  cases s<;>unfold ZDV at h<;>first
   |exact ZvI n0 H r _ h
   |(split at h<;>exact ZvI n0 H r _ h)
def ZAZ (c:List Nat):List Entry->Nat->(List Nat->Prop)->Prop
 |[],_,K=>K c
 |_::r,i,K=>match ZHO i c with
  |true=>ZAZ c r (i+1) K
  |false=>ZAZ c r (i+1) λl=>K (i::l)
theorem Zs8 (c:List Nat):∀(H:List Entry) (i:Nat) {K:List Nat->Prop},ZAZ c H i K->∃o,K o
 |[],_,_,h=>⟨c,h⟩
 |_::r,i,K,h=>by
  unfold ZAZ at h;split at h
  ·exact Zs8 c r (i+1) h
  ·obtain⟨o,h⟩:=Zs8 c r (i+1) h
   exact⟨_,h⟩
def ZCi:List Nat->Nat->Nat->(Nat->Prop)->Prop
 |[],_,k,K=>K k
 |a::r,j,k,K=>match Nat.beq a j with
  |true=>K k
  |false=>ZCi r j (k+1) K
theorem ZwG:∀(o:List Nat) (j k:Nat) {K:Nat->Prop},ZCi o j k K->∃p,K p
 |[],_,k,_,h=>⟨k,h⟩
 |a::r,j,k,K,h=>by
  unfold ZCi at h;split at h
  ·exact⟨k,h⟩
  ·exact ZwG r j (k+1) h
def ZH1 (o:List Nat):List Entry->Nat->(List Nat->Prop)->Prop
 |[],_,K=>K []
 |_::r,j,K=>ZCi o j 0 λp=>ZH1 o r (j+1) λl=>K (p::l)
theorem ZAP (o:List Nat):∀(H:List Entry) (j:Nat) {K:List Nat->Prop},ZH1 o H j K->∃m,K m
 |[],_,_,h=>⟨[],h⟩
 |_::r,j,K,h=>by
  unfold ZH1 at h;obtain⟨p,h⟩:=ZwG o j 0 h;obtain⟨m,h⟩:=ZAP o r (j+1) h;exact⟨_,h⟩
def idB:List Nat->Nat->Bool
 |[],_=>true
 |j::r,k=>Nat.beq j k&&idB r (k+1)
def canonK (n0:Nat) (r:List SV) (H:List Entry) (K:List SV->List Entry->Prop):Prop :=
 ZDV n0 H r [] λc=>match c with
  |[]=>K r H
  |c=>ZAZ c H 0 λo=>match idB o 0 with
  |true=>K r H
  |false=>ZH1 o H 0 λm=>match (ZDe o H&&ZDe m H&&ZGK m o 0&&ZGK o m 0&&ZHM m n0)with
   |true=>ZoW m r λa=>ZC4 H m o λH'=>K a H'
   |false=>False
theorem Zy6 {B:Base} {n0:Nat} {r:List SV} {H:List Entry} {a:Act} {w:World} {K:List SV->List Entry->Prop} (x:∀(i:Nat) (v:Value),B.pin[i]?=some v->i<n0) (h:canonK n0 r H K) (D:Conc B r H a w) :
  ∃R H',K R H'/\Conc B R H' a w:=by
 unfold canonK at h;obtain⟨c,h⟩:=ZvI n0 H _ _ h;split at h
 ·exact⟨r,H,h,D⟩
 ·obtain⟨o,h⟩:=Zs8 _ H 0 h
  split at h
  ·exact⟨r,H,h,D⟩
  obtain⟨m,h⟩:=ZAP o H 0 h;split at h
  ·rename_i A
   simp only[Ur]at A;obtain⟨⟨⟨⟨U,W⟩,X⟩,Y⟩,Z⟩:=A;have c1:=Zta _ _ U;have c2:=Zta _ _ W;have L:=Zvw m o 0 X;have c4:=Zvw o m 0 Y;have c5:=ZzB m n0 Z;rw[Zj1]at h;obtain⟨H',h,g1,G⟩:=Zxl H m o h;refine⟨_,H',h,?_⟩;obtain⟨E,hw,d,hd,n⟩:=D
   let ids':=o.map λj=>(E.ids[j]?).getD undef
   have hm:∀j,j<H.length->∃k,m[j]?=some k/\o[k]?=some j/\Zuw m j=k:=λj p=>by
    have e:m[j]?=some (m[j]'(by omega)):=Ub _;have:=c4 j _ e;rw[Us]at this;exact⟨_,e,this,by unfold Zuw;rw[e];rfl⟩
   have s:∀i v,E.ids[i]?=some v->ids'[Zuw m i]?=some v:=λi v l=>by
    have u:=(Ua.1 l).1;rw[d.len]at u;obtain⟨k,_,z,e3⟩:=hm i u;rw[e3];show(o.map _)[k]?=_;rw[UL,z];show some ((E.ids[i]?).getD undef)=_;rw[l];rfl
   have b:∀i v,ids'[i]?=some v->∃j,o[i]?=some j/\E.ids[j]?=some v/\Zuw m j=i:=λi v l=>by
    have t:(o.map λj=>(E.ids[j]?).getD undef)[i]?=some v:=l;rw[UL]at t;cases e:o[i]? with
    |none=>rw[e]at t;cases t
    |some j =>
     rw[e]at t;have f:=L i j e;rw[Us]at f;have p:j<H.length:=by rw[<-c2];exact(Ua.1 f).1
     have q:E.ids[j]?=some (E.ids[j]'(by rw[d.len];exact p)):=Ub _;refine⟨j,rfl,?_,by unfold Zuw;rw[f];rfl⟩;injection t with t
     have ev:v=E.ids[j]'(by rw[d.len];exact p):=by
      rw[<-t];show(E.ids[j]?).getD undef=_;rw[q];rfl
     rw[q,<-ev]
   refine⟨⟨E.S,E.w,ids'⟩,hw,⟨d.keeps,d.Slt,d.Sold,?_,λi v l=>?_,λi f l=>?_,λi f v g l u hv A=>?_,λi j ei ej V I g l p Q T F J bi bj=>?_⟩,ZgQ s _ _ hd,n⟩
   ·show(o.map _).length=H'.length
    rw[UW,g1]
   ·have:=s i v (d.pin i v l)
    rw[show Zuw m i=i by unfold Zuw;rw[c5 i (x i v l)];rfl]at this;exact this
   ·obtain⟨j,e,O,y,rfl⟩:=G i f l
    have:=L i j O;rw[Us]at this;have N:=ZCg s j e (d.ent j e y);rw[show Zuw m j=i by unfold Zuw;rw[this];rfl]at N;exact N
   ·obtain⟨j,e,O,y,rfl⟩:=G i f l
    obtain⟨j',p1,P,_⟩:=b i v hv;rw[O]at p1;injection p1 with p1
    subst p1;rw[Zuv]at u;exact d.free j e v g y u P ((Zs5 m e v g).1 A)
   ·obtain⟨j1,M,O,y,rfl⟩:=G i ei l
    obtain⟨j2,z,q1,q2,rfl⟩:=G j ej p;obtain⟨k1,p1,P,p3⟩:=b i V F;obtain⟨k2,C,r2,r3⟩:=b j I J;rw[O]at p1;injection p1 with p1
    subst p1;rw[q1]at C;injection C with C
    subst C;rw[Zuv]at Q T;have:=d.sep j1 j2 M z V I g y q2 Q T P r2 ((Zs5 m M V g).1 bi) ((Zs5 m z I g).1 bj);rw[<-p3,<-r3,this]
  ·exact h.elim
inductive ZbY
 |done
 |op (i:Nat) (p:ZbY)
 |ld (i:Nat) (p:ZbY)
 |alt (i:Nat) (p q:ZbY)
 |can (p:ZbY)
def ZbY.o:List Nat->ZbY->ZbY
 |[],p=>p
 |i::r,p=>.op i (ZbY.o r p)
def ZbY.u:Nat->Nat->ZbY->ZbY
 |_,0,p=>p
 |a,n+1,p=>.op a (ZbY.u (a+1) n p)
def ZbY.l:List Nat->ZbY->ZbY
 |[],p=>p
 |i::r,p=>.ld i (ZbY.l r p)
def ZbY.a:List Nat->ZbY->ZbY
 |[],p=>p
 |i::r,p=>.alt i (ZbY.a r p) .done
def ZbY.d (i:Nat):ZbY:=.alt i .done .done
def ZbY.core:ZbY->ZbY
 | .can p=>p
 |p=>p
section
variable {P:Program} {ops:Array Oper}
inductive Behind (ops:Array Oper) (i:Nat):Nat->Prop
 |edge {j:Nat} {oj:Oper} {e:Edge}:ops[j]?=some oj->e∈oj.after->Region.binds .any e=true->e.on=i->Behind ops i j
 |step {j:Nat} {oj:Oper} {e:Edge}:ops[j]?=some oj->e∈oj.after->Region.binds .any e=true->Behind ops i e.on->Behind ops i j
def Zw3 (a:List Nat) (l:List Edge) (m:Nat):Nat :=
 match l with
 |[]=>m
 |e::r=>Zw3 a r (if Region.binds .any e then(m ||| 2^e.on) ||| a.getD e.on 0 else m)
def Zl9:List Oper->List Nat->List Nat
 |[],a=>a
 |o::r,a=>Zl9 r (a++[Zw3 a o.after.toList 0])
def ZdV (M:List Nat) (i j:Nat):Bool:=(M.getD j 0).testBit i
theorem Zuj {ops:Array Oper} {a:List Nat} (c:∀(j m:Nat),a[j]?=some m->∀i,m.testBit i=true->Behind ops i j) {j:Nat} {O:Oper} (b:ops[j]?=some O) :
  ∀(l:List Edge) (m:Nat),(∀e∈l,e∈O.after)->(∀i,m.testBit i=true->Behind ops i j)->∀i,(Zw3 a l m).testBit i=true->Behind ops i j
 |[],m,_,R,i,h=>R i h
 |e::r,m,q,R,i,h=>by
  unfold Zw3 at h;refine Zuj c b r _ (λe f=>q e (by simp[f])) ?_ i h;intro k H;split at H
  ·rename_i d
   rw[Nat.testBit_or,Nat.testBit_or,Nat.testBit_two_pow]at H;simp only[KQ,Ul]at H;rcases H with(H|H)|H
   ·exact R k H
   ·exact .edge b (q e (by simp)) d H
   ·cases n:a[e.on]? with
    |none=>simp[n]at H
    |some M=>exact .step b (q e (by simp)) d (c _ _ n k (by simpa[n]using H))
  ·exact R k H
theorem ZrL {ops:Array Oper}:∀(l:List Oper) (a:List Nat),(∀(k:Nat),l[k]?=ops[a.length+k]?)->(∀(j m:Nat),a[j]?=some m->∀i,m.testBit i=true->Behind ops i j)->
  ∀(j m:Nat),(Zl9 l a)[j]?=some m->∀i,m.testBit i=true->Behind ops i j
 |[],a,_,h=>h
 |o::r,a,q,h=>by
  unfold Zl9;refine ZrL r _ (λk=>?_) ?_
  ·have:=q (k+1)
   simpa[Nat.add_assoc,Nat.add_comm 1 k]using this
  ·intro j m b i H
   have t:=(Ua.1 b).1;rw[Ug,Uz]at t;by_cases c:j<a.length
   ·rw[Ut c]at b
    exact h j m b i H
   ·have:j=a.length:=by omega
    subst this;rw[UE (by omega)]at b;simp at b;subst b;have d:ops[a.length]?=some o:=by simpa using(q 0).symm
    exact Zuj h d _ 0 (λe f=>by simpa using f) (λi H=>by simp at H) i H
def Down (ops:Array Oper) (l:Array Bool):Prop:=∀(j:Nat) (O:Oper) (e:Edge),ops[j]?=some O->l.getD j false=true->e∈O.after->Region.binds .any e=true->l.getD e.on false=true
variable {i:Nat}
theorem Down.set {l:Array Bool} (h:Down ops l) (F:i∈Region.ready .any ops l):Down ops (l.setIfInBounds i true):=by
 intro j O e a q m b;by_cases Z:i=j
 ·subst Z
  obtain⟨_,o,x,H⟩:=mem_ready.1 F;rw[a]at x;injection x with x;subst x
  exact getD_set_true (H e m b)
 ·rw[getD_set_ne false Z]at q
  exact getD_set_true (h j O e a q m b)
theorem Zol {l:Array Bool} (N:Down ops l) (d:l.getD i false=false):∀(j:Nat),Behind ops i j->j ∉ Region.ready .any ops l/\l.getD j false=false:=by
 intro j h;have M:∀{j:Nat} {O:Oper} {e:Edge},ops[j]?=some O->e∈O.after->Region.binds .any e=true->l.getD e.on false=false->j ∉ Region.ready .any ops l/\l.getD j false=false:=by
  intro j O e H m b n;constructor
  ·intro F
   obtain⟨_,o,x,a⟩:=mem_ready.1 F;rw[H]at x;injection x with x;subst x
   have:=a e m b;rw[n]at this;cases this
  ·cases q:l.getD j false with
   |false=>rfl
   |true =>
    have:=N j O e H q m b;rw[n]at this;cases this
 induction h with
 |edge H m b c=>exact M H m b (by rw[c];exact d)
 |step H m b _ I=>exact M H m b I.2
def Lit (P:Program) (ops:Array Oper) (R:World->World->Prop) (o:Oper) (v:Value) (a:Act) (w:World):Prop :=
 (Region.wanted o (yielded ops a.tmps)=true/\∀w',R w w'->(execOp a.eval o).run P w'=.ok (.value v) w')\/(Region.wanted o (yielded ops a.tmps)=false/\v=undef)
structure Way (R:World->World->Prop):Prop where
 refl:∀w,R w w
 trans:∀a b c,R a b->R b c->R a c
def ZoH (P:Program) (ops:Array Oper) (G:Nat->World->World->Prop) (Q:Exit->Act->World->Prop):Nat->Array Bool->Act->World->Prop
 |0,l,a,w=>Region.ready .any ops l=[]/\Q .normal a w
 |fuel+1,l,a,w=>(Region.ready .any ops l=[]->Q .normal a w)/\
  ∀i∈Region.ready .any ops l,wpOp P ops Q i (λA w'=>G i w w'/\ZoH P ops G Q fuel (l.setIfInBounds i true) A w') a w
theorem Zr2 {G:Nat->World->World->Prop} {Q:Exit->Act->World->Prop}:∀(fuel:Nat) (l:Array Bool) (a:Act) (w:World),ZoH P ops G Q fuel l a w->wpAny P .any ops Q fuel l a w
 |0,_,_,_,h=>h
 |fuel+1,_,_,_,h=>⟨h.1,λi H=>wpOp_mono (λA w' r=>Zr2 fuel _ A w' r.2) (h.2 i H)⟩
variable {R:World->World->Prop} {Q:Exit->Act->World->Prop} {v:Value} {w:World} {K:Act->World->Prop}
theorem Lit.wpOp (H:Way R) {o:Oper} {a:Act} (l:ops[i]?=some o) (y:Lit P ops R o v a w) (h:K (a.put o.dst v) w):Go.wpOp P ops Q i K a w:=by
 unfold Go.wpOp;simp only[l];rcases y with⟨c,b⟩|⟨c,rfl⟩
 ·simp only[c,Ui,Oper.wp,b w (H.refl w),Oper.upon];exact .inl h
 ·simp only[c,Ka,Uh];exact h
variable {j:Nat} {O:Oper}
theorem ZBE (D:Way R) {o:Oper} (I:ops[j]?=some O) (G:o.apart ops O=true)
  (N:∀cs b,o.op≠.select cs b) (p:∀cs b,O.op≠.select cs b) (C:∀c a w,¬Q (.panic c) a w) {G1:World->World->Prop} (H:∀w w',G1 w w'->R w w') {a:Act} (J:Lit P ops R o v a w) (h:wpOp P ops Q j (λA w'=>G1 w w'/\K A w') (a.put o.dst v) w) :
  wpOp P ops Q j (λA w'=>G1 w w'/\Lit P ops R o v A w'/\K (A.put o.dst v) w') a w:=by
 obtain⟨B,l,t⟩:=Oper.apart_spec G;have keep:∀(A:Act) (w':World),execOp A.eval o=execOp a.eval o->Region.wanted o (yielded ops A.tmps)=Region.wanted o (yielded ops a.tmps)->R w w'->Lit P ops R o v A w':=by
  intro A w' m q F;unfold Lit at *;rw[m,q];rcases J with⟨y,E⟩|y
  ·exact .inl ⟨y,λW z=>E W (D.trans _ _ _ F z)⟩
  ·exact .inr y
 have k:∀(u:Value) (w':World),R w w'->Lit P ops R o v (a.put O.dst u) w':=λu w' F=>keep _ _ (execOp_put o N a O.dst u t) (wanted_put o a O.dst u t) F;have i:∀(d:Deferred) (u:Value) (w':World),R w w'->Lit P ops R o v (({a with defers:=d::a.defers}:Act).put O.dst u) w':=λd u w' F =>
  keep _ _ ((execOp_put o N ({a with defers:=d::a.defers}:Act) O.dst u t).trans rfl) ((wanted_put o ({a with defers:=d::a.defers}:Act) O.dst u t).trans rfl) F
 unfold wpOp at *;simp only[I]at *;rw[wanted_put O a o.dst v B]at h;split
 ·rename_i q
  simp only[q,Ui]at h;rcases h with h|⟨s,g⟩
  case inr=>exact .inr ⟨by unfold Oper.asks at *;rw[execOp_put O p a o.dst v B]at s;exact s,g⟩
  refine .inl ?_;unfold Oper.wp at *;rw[execOp_put O p a o.dst v B]at h;generalize (execOp a.eval O).run P w=r at *;cases r with
  |ok n w' =>
   cases n<;>simp only[Oper.upon]at h ⊢
   case value u=>exact⟨h.1,k u w' (H _ _ h.1),by rw[<-Act.put_comm a v u l];exact h.2⟩
   case skip=>exact⟨h.1,k _ w' (H _ _ h.1),by rw[<-Act.put_comm a v undef l];exact h.2⟩
   case defer d =>
    refine⟨h.1,i d _ w' (H _ _ h.1),?_⟩;rw[<-Act.put_comm _ v undef l,<-Act.put_defers];exact h.2
   case enter f args =>
    refine Calls.mono h λe W m=>?_;cases e with
    |returned u=>exact⟨m.1,k u W (H _ _ m.1),by rw[<-Act.put_comm a v u l];exact m.2⟩
    |panicked c=>exact absurd m (C _ _ _)
    |outgrown=>exact m
   case row row args=>exact Rows.mono h λu W m=>⟨m.1,k u W (H _ _ m.1),by rw[<-Act.put_comm a v u l];exact m.2⟩
  |halt x w' =>
   cases x<;>simp only[Oper.upon]at h ⊢
   case panic u=>exact absurd h (C _ _ _)
 ·rename_i q
  simp only[q]at h;exact⟨h.1,k _ w (D.refl w),by rw[<-Act.put_comm a v undef l];exact h.2⟩
theorem ZoI (s:Way R) {G:Nat->World->World->Prop} (z:ops[i]?=some O) (k:∀w,G i w w)
  (d:∀(j:Nat) (o:Oper) cs b,ops[j]?=some o->o.op≠.select cs b) (M:∀c a w,¬Q (.panic c) a w)
  (J:∀j p,ops[j]?=some p->j≠i->¬Behind ops i j->¬Behind ops j i->O.apart ops p=true/\∀w w',G j w w'->R w w') :
  ∀(f:Nat) (l:Array Bool) (a:Act) (w:World),Down ops l->i∈Region.ready .any ops l->Lit P ops R O v a w->
   ZoH P ops G Q f (l.setIfInBounds i true) (a.put O.dst v) w->ZoH P ops G Q (f+1) l a w:=by
 have B:∀l:Array Bool,i∈Region.ready .any ops l->l.getD i false=false:=by
  intro l r;have E:=(mem_ready.1 r).1;rcases Nat.lt_or_ge i l.size with e|e
  ·simpa[e]using E
  ·simp[Array.getElem?_eq_none e]
 intro f;induction f with
 |zero =>
  intro l a w N r y H;refine⟨λh=>(by rw[h]at r;cases r),λj g=>?_⟩;by_cases F:j=i
  ·subst F;exact y.wpOp s z ⟨k w,H⟩
  ·have:=ready_mono g F
   rw[H.1]at this;cases this
 |succ f S =>
  intro l a w N r y H;refine⟨λh=>(by rw[h]at r;cases r),λj g=>?_⟩;by_cases F:j=i
  ·subst F;exact y.wpOp s z ⟨k w,H⟩
  ·have I:=H.2 j (ready_mono g F)
   obtain⟨n,p,L,C⟩:=mem_ready.1 g;have A:¬Behind ops i j:=λu=>(Zol N (B _ r) j u).1 g;have m:¬Behind ops j i:=by
    intro u;refine(Zol N ?_ i u).1 r;rcases Nat.lt_or_ge j l.size with e|e
    ·simpa[e]using n
    ·simp[Array.getElem?_eq_none e]
   obtain⟨t,x⟩:=J j p L F A m;have K:=ZBE s L t (λcs b=>d i O cs b z) (λcs b=>d j p cs b L) M x y I;refine wpOp_mono (λD w' q=>⟨q.1,S (l.setIfInBounds j true) D w' (N.set g) (ready_mono r (Ne.symm F)) q.2.1 ?_⟩) K;rw[Array.setIfInBounds_comm _ _ F];exact q.2.2
def Zm2 (ops:Array Oper):Bool:=ops.all λo=>match o.op with
 | .select _ _=>false
 |_=>true
def ZGI (Γ:Gam) (ops:Array Oper) (M:List Nat) (i:Nat):Bool :=
 match ops[i]? with
 |none=>false
 |some o=>ZfT o.op&&(List.range ops.size).all λj=>j==i||ZdV M i j||ZdV M j i||match ops[j]? with
  |none=>true
  |some O=>o.apart ops O&&(!isLoad o.op||ZkL Γ O.op)
def ZJ0:Op->Bool
 | .indexAddr _ _ _=>true
 |_=>false
def ZGi (ops:List Oper):Bool:=ops.all λo=>match o.op with
 | .store _ (.tmp t) _=>ops.any λo'=>(match o'.dst with
  |some d=>Nat.beq d t
  | none=>false)&&ZJ0 o'.op
 | .store _ _ _=>false
 |_=>true
def ZEd (st:Bool) (op:Op):Option Operand:=match op with
 | .store _ x _=>match st with
  |true=>some x
  |false=>none
 |op=>appArg op
variable {st:Bool} {op:Op} {x:Operand}
theorem Zwm (h:ZEd st op=some x):appArg op=some x:=by
 unfold ZEd at h;split at h
 ·split at h
  ·exact h
  ·cases h
 ·exact h
def ZH5 (Γ:Gam) (st:Bool) (op:Op):Bool:=(ZEd st op).isSome||(Zk8 Γ op).isSome
variable {Γ:Gam}
theorem ZHl (h:appArg op=some x):Zk8 Γ op=none:=by
 unfold appArg at h;split at h
 ·rfl
 ·rfl
 ·cases h
def ZAO (o:Oper):Bool:=match o.op,o.guard with
 | .load _ _,none=>true
 |_,_=>false
def ZGJ (Γ:Gam) (ops:Array Oper) (M:List Nat) (i:Nat):Bool :=
 match ops[i]? with
 |none=>false
 |some o=>ZAO o&&(List.range ops.size).all λj=>j==i||ZdV M i j||ZdV M j i||match ops[j]? with
  |none=>true
  |some O=>o.apart ops O&&(ZkL Γ O.op||ZH5 Γ (ZGi ops.toList) O.op)
def Zdq (Γ:Gam) (ops:Array Oper) (M:List Nat):ZbY->Nat->Array Bool->Option (List Nat)->Bool
 | .done,_,l,none=>(Region.ready .any ops l).isEmpty
 | .done,_,_,some r=>r.isEmpty
 | .op i p,n+1,l,none=>(Region.ready .any ops l).contains i&&ZGI Γ ops M i&&Zdq Γ ops M p n (l.setIfInBounds i true) none
 | .ld i p,n+1,l,none=>(Region.ready .any ops l).contains i&&ZGJ Γ ops M i&&Zdq Γ ops M p n (l.setIfInBounds i true) none
 | .alt i p q,n+1,l,none=>(Region.ready .any ops l).contains i&&Zdq Γ ops M p n (l.setIfInBounds i true) none&&Zdq Γ ops M q (n+1) l (some ((Region.ready .any ops l).filter (· != i)))
 | .alt i p q,n+1,l,some r=>Zdq Γ ops M p n (l.setIfInBounds i true) none&&Zdq Γ ops M q (n+1) l (some (r.filter (· != i)))
 |_,_,_,_=>false
def ZfA (i:Nat):List Nat->Bool
 |[]=>false
 |j::r=>Nat.beq j i||ZfA i r
def ZkD:List Nat->List Entry->Prop->Prop
 |[],_,K=>K
 |i::r,H,K=>ZiG H i λe=>match e with
  | .box _=>ZkD r H K
  |_=>False
def wrK (V:List Nat) (R:List SV) (H:List Entry):List Operand->Prop->Prop
 |[],K=>ZkD V H K
 |x::r,K=>Za1 R x λs=>match s with
  | .ptr i _=>ZfA i V=false/\ZiG H i λe=>match e with
   | .box _=>wrK V R H r K
   |_=>False
  |_=>False
def ZF4 (Γ:Gam) (st:Bool) (V:List Nat) (r:List SV) (H:List Entry) (op:Op) (K:Prop):Prop:=match V with
 |[]=>K
 |_=>match ZEd st op with
  |none=>match Zk8 Γ op with
   |none=>K
   |some xs=>wrK V r H xs K
  |some x=>Za1 r x λs=>match s with
   | .nsl=>K
   | .own i=>ZfA i V=false/\ZiG H i λe=>match e with
    | .arr _ _ _=>ZkD V H K
    | .darr _ _ _ _=>ZkD V H K
    |_=>False
   | .oep i _ _ _=>ZfA i V=false/\ZiG H i λe=>match e with
    | .arr _ _ _=>ZkD V H K
    | .darr _ _ _ _=>ZkD V H K
    | .hole _ _ _ _ _ _=>ZkD V H K
    |_=>False
   |_=>False
def ldK (Δ:Tab) (V:List Nat) (o:Oper) (R:List SV) (H:List Entry) (K:List SV->Prop):Prop:=match o.op,o.guard with
 | .load T x,none=>ZeD Δ T λt=>Za1 R x λs=>match s with
  | .ptr I f=>ZfA I V=true/\ZiG H I λe=>match e with
   | .box cells=>ZkI cells f λcs=>JW t cs λr=>Zyg R o.dst r K
   |_=>False
  |_=>False
 |_,_=>False
def ZGn:Prop:=True
def Zkw (Δ:Tab) (Γ:Gam) (ops:List Oper) (V:List Nat):ZbY->Bool->List SV->List Entry->(List SV->List Entry->Prop)->Prop
 | .done,false,r,H,K=>ZGn/\K r H
 | .done,true,_,_,_=>True
 | .op i p,_,r,H,K=>ZAC ops i λo=>ZAF Δ Γ ops o r H λa H'=>Zkw Δ Γ ops V p false a H' K
 | .ld i p,_,r,H,K=>ZAC ops i λo=>ldK Δ V o r H λa=>Zkw Δ Γ ops V p false a H K
 | .can _,_,_,_,_=>False
 | .alt i p .done,_,r,H,K=>ZAC ops i λo=>ZF4 Γ (ZGi ops) V r H o.op (ZAF Δ Γ ops o r H λa H'=>Zkw Δ Γ ops V p false a H' K)
 | .alt i p q,_,r,H,K=>(ZAC ops i λo=>ZF4 Γ (ZGi ops) V r H o.op (ZAF Δ Γ ops o r H λa H'=>Zkw Δ Γ ops V p false a H' K))/\Zkw Δ Γ ops V q true r H K
def ZHN (Γ:Gam) (ops:Array Oper) (j:Nat):Bool:=match ops[j]? with
 |some o=>ZkL Γ o.op
 |none=>true
def ZEc (Γ:Gam) (ops:Array Oper) (j:Nat):Bool:=match ops[j]? with
 |some o=>ZH5 Γ (ZGi ops.toList) o.op
 |none=>false
def VOk (V:List Nat) (Bk:Nat->Option Nat) (E:Env):Prop:=∀I,ZfA I V=true->∃b,Bk I=some b/\E.ids[I]?=some (.pointer (some ⟨b,0,none⟩))
variable {V:List Nat} {Bk:Nat->Option Nat} {E:Env}
theorem VOk.le {E':Env} (h:VOk V Bk E) (e:E.le E'):VOk V Bk E':=λI l=>by
 obtain⟨b,d,f⟩:=h I l;exact⟨b,d,e.ids _ _ f⟩
def ZqY (B:Base) (V:List Nat) (Bk:Nat->Option Nat) (r:List SV) (H:List Entry) (a:Act) (w:World):Prop :=
 ∃E,VOk V Bk E/\E.w=w/\Inv B E H/\Yu E r a.tmps.toList/\a.defers=[]
variable {B:Base} {r:List SV} {H:List Entry}
theorem ZqY.ZKX {a:Act} (h:ZqY B V Bk r H a w):Conc B r H a w:=by
 obtain⟨E,_,h⟩:=h;exact⟨E,h⟩
def Leaves (Γ:Gam) (ops:Array Oper) (V:List Nat) (Bk:Nat->Option Nat) (j:Nat) (w w':World):Prop :=
 (ZHN Γ ops j=true->Grow w w')/\(ZEc Γ ops j=true->∀I b,ZfA I V=true->Bk I=some b->b<w.heap.size->w'.heap[b]?=w.heap[b]?)
theorem Leaves.refl {ops:Array Oper} (w:World):Leaves Γ ops V Bk j w w:=⟨λ_=>Grow.refl w,λ_ _ _ _ _ _=>rfl⟩
def Rb (b:Nat) (w w':World):Prop:=b<w.heap.size->b<w'.heap.size/\w'.heap[b]?=w.heap[b]?
theorem Rb.way (b:Nat):Way (Rb b):=⟨λw h=>⟨h,rfl⟩,λx y z d f h=>by
 obtain ⟨a,A⟩:=d h;obtain ⟨U,W⟩:=f a;exact ⟨U,W.trans A⟩⟩
theorem Rb.of {b:Nat} {w':World} (h:b<w.heap.size->w'.heap[b]?=w.heap[b]?):Rb b w w':=λH=>by
 refine⟨?_,h H⟩;have:=h H;rw[Array.getElem?_eq_getElem H]at this;exact(U9.1 this).1
theorem ZkE:∀(V:List Nat) {H:List Entry} {K:Prop},ZkD V H K->K/\∀I,ZfA I V=true->∃cells,H[I]?=some (.box cells)
 |[],H,K,h=>⟨h,λI l=>by cases l⟩
 |i::r,H,K,h=>by
  unfold ZkD at h;obtain⟨e,m,h⟩:=XB H h;split at h
  ·rename_i cells
   obtain⟨k,F⟩:=ZkE r h;refine⟨k,λI l=>?_⟩;unfold ZfA at l;rcases KQ _ _▸l with b|b
   ·have:=Nat.eq_of_beq_eq_true b
    subst this;exact⟨cells,m⟩
   ·exact F I b
  ·exact h.elim
theorem ZD7 {B:Base} {E:Env} {H:List Entry} (j:Inv B E H) {R:List SV} {a:Act} (N:Yu E R a.tmps.toList) {V:List Nat} {Bk:Nat->Option Nat} (v:VOk V Bk E):∀(xs:List Operand) {K:Prop},wrK V R H xs K->
  K/\(∀I,ZfA I V=true->∃cells,H[I]?=some (.box cells))/\∀I b,ZfA I V=true->Bk I=some b->∀x∈xs,Y4 (a.eval x)≠some b
 |[],K,h=>⟨(ZkE V h).1,(ZkE V h).2,λI b _ _ x A=>by cases A⟩
 |x::r,K,h=>by
  unfold wrK at h;obtain⟨s,n,h⟩:=YU N h;split at h
  ·rename_i i O
   obtain⟨z,h⟩:=h;obtain⟨M,u,h⟩:=XB H h;split at h
   ·rename_i cells
    obtain⟨w,c,F⟩:=ZD7 j N v r h;refine⟨w,c,λI b l k y g=>?_⟩;rcases UD.1 g with rfl|g
    ·simp only[den]at n
     obtain⟨b0,o,p⟩:=n;rw[p];intro e;simp only[Y4,Option.some.injEq]at e;subst e;obtain⟨X,m,f⟩:=v I l;rw[k]at m;injection m with m
     subst m;obtain⟨cells',t⟩:=c I l;have d:i≠I:=λq=>by subst q;rw[z]at l;cases l
     exact Zps j t f u rfl o d (by simp[Zi9,Y4])
    ·exact F I b l k y g
   ·exact h.elim
  ·exact h.elim
theorem ZEb (D:Inv B E H) {a:Act} (X:Yu E r a.tmps.toList) (P:VOk V Bk E) {K:Prop} (h:ZF4 Γ st V r H op K) :
  (K/\∀x,ZEd st op=some x->∀w',E.w.grownBy w' (Y4 (a.eval x))->∀I b,ZfA I V=true->Bk I=some b->b<E.w.heap.size->w'.heap[b]?=E.w.heap[b]?)/\
  ∀xs,Zk8 Γ op=some xs->∀I b,ZfA I V=true->Bk I=some b->∀x∈xs,Y4 (a.eval x)≠some b:=by
 unfold ZF4 at h;split at h
 ·exact⟨⟨h,λx _ w' _ I b l=>by cases l⟩,λxs _ I b l=>by cases l⟩
 ·split at h
  ·rename_i t
   split at h
   ·rename_i U
    exact⟨⟨h,λx n=>by rw[t]at n;cases n⟩,λxs n=>by rw[U]at n;cases n⟩
   ·rename_i xs U
    obtain⟨L,_,h2⟩:=ZD7 D X P xs h;exact⟨⟨L,λx n=>by rw[t]at n;cases n⟩,λys c=>by rw[U]at c;injection c with c;subst c;exact h2⟩
  ·rename_i x t
   refine⟨?_,λxs n=>by rw[ZHl (Zwm t)]at n;cases n⟩;obtain⟨s,A,h⟩:=YU X h;split at h
   ·simp only[den]at A
    refine⟨h,λy c w' o I b _ _ J=>?_⟩;rw[t]at c;injection c with c;subst c
    rw[A]at o;exact o.block b J (λe=>by simp[Y4]at e)
   ·rename_i k
    obtain⟨S,h⟩:=h;obtain⟨G,F,h⟩:=XB H h;simp only[den]at A;have M:∀{K:Prop},ZkD V H K->G.live=true->(∀g,Y4 (a.eval x)=some g->Zi9 G (a.eval x) g)->K/\∀y,ZEd st op=some y->∀w',E.w.grownBy w' (Y4 (a.eval y))->∀I b,ZfA I V=true->Bk I=some b->b<E.w.heap.size->w'.heap[b]?=E.w.heap[b]?:=by
     intro K h R d;obtain⟨L,f⟩:=ZkE V h;refine⟨L,λy c w' o I b l z J=>?_⟩;rw[t]at c;injection c with c;subst c
     obtain⟨cells,Q⟩:=f I l;obtain⟨Y,m,u⟩:=P I l;rw[z]at m;injection m with m;subst m
     refine o.block b J (λe=>?_);have j:k≠I:=λq=>by subst q;rw[S]at l;cases l
     exact Zps D Q u F R A.1 j (d b e.symm)
    split at h
    ·exact M h rfl (λg o=>o)
    ·obtain⟨v,xs,O,N,_,_,p,_⟩:=D.ent k _ F
     have:=A.1.symm.trans N;simp at this;subst this;exact M h rfl (λg o=>by simp only[Zi9];rw[p,o];simp)
    ·exact h.elim
   ·rename_i k sz i a7
    obtain⟨S,h⟩:=h;obtain⟨G,F,h⟩:=XB H h;simp only[den]at A;obtain⟨W,Z,n0,c0,C,T⟩:=A;have M:∀{K:Prop},ZkD V H K->G.live=true->Zi9 G (.slice (some ⟨W,Z,none⟩) n0 c0) W->K/\∀y,ZEd st op=some y->∀w',E.w.grownBy w' (Y4 (a.eval y))->∀I b,ZfA I V=true->Bk I=some b->b<E.w.heap.size->w'.heap[b]?=E.w.heap[b]?:=by
     intro K h R d;obtain⟨L,f⟩:=ZkE V h;refine⟨L,λy c w' o I b l z J=>?_⟩;rw[t]at c;injection c with c;subst c
     obtain⟨cells,Q⟩:=f I l;obtain⟨Y,m,u⟩:=P I l;rw[z]at m;injection m with m;subst m
     refine o.block b J (λe=>?_);rw[T]at e;simp only[Y4,Option.some.injEq]at e;subst e;have j:k≠I:=λq=>by subst q;rw[S]at l;cases l
     exact Zps D Q u F R C j d
    split at h
    ·exact M h rfl rfl
    ·obtain⟨v,xs,O,N,_,_,p,_⟩:=D.ent k _ F
     have:=C.symm.trans N;simp at this;subst this;exact M h rfl (by simp only[Zi9];rw[p];simp[Y4])
    ·obtain⟨v,xs,x1,a8,x2,f1,f2,k1,ho,a2,a3,ex,el,a0,a5,a6,a1,ef,a4⟩:=D.ent k _ F
     have:=C.symm.trans k1;simp at this;subst this;exact M h rfl (by simp only[Zi9];rw[ef];simp[Y4])
    ·exact h.elim
   ·exact h.elim
theorem ZCb {M:List Nat} (hM:∀i j,ZdV M i j=true->Behind ops i j) {Δ:Tab} (hΔ:Δ.ok P) {Γ:Gam} (hΓ:Γ.ok P) {B:Base} {V:List Nat} {Bk:Nat->Option Nat} {Q:Exit->Act->World->Prop} (hQ:∀c a w,¬Q (.panic c) a w) (hs:Zm2 ops=true) {K:List SV->List Entry->Prop}
  (hq:∀e H' W w',K e H'->ZqY B V Bk e H' W w'->Q .normal W w') :
  ∀(p:ZbY) (n:Nat) (l:Array Bool) (m:Option (List Nat)) (d:List SV) (H:List Entry) (a:Act) (w:World),ZqY B V Bk d H a w->Down ops l->Zdq Γ ops M p n l m=true->Zkw Δ Γ ops.toList V p m.isSome d H K->
   match m with
   |none=>ZoH P ops (Leaves Γ ops V Bk) Q n l a w
   |some S=>∀i∈S,i∈Region.ready .any ops l->wpOp P ops Q i (λW w'=>Leaves Γ ops V Bk i w w'/\ZoH P ops (Leaves Γ ops V Bk) Q (n-1) (l.setIfInBounds i true) W w') a w:=by
 have Z:∀(j:Nat) (o:Oper) cs b,ops[j]?=some o->o.op≠.select cs b:=by
  intro j o cs b A he;unfold Zm2 at hs;rw[Array.all_eq_true_iff_forall_mem]at hs;have:=hs o (Array.mem_of_getElem? A);rw[he]at this;cases this
 have L:∀(i n:Nat) (l:Array Bool) (p:ZbY) (d:List SV) (H:List Entry) (a:Act) (w:World),ZqY B V Bk d H a w->Down ops l->i∈Region.ready .any ops l->Zdq Γ ops M p n (l.setIfInBounds i true) none=true->
   (∀d H a w,ZqY B V Bk d H a w->Zkw Δ Γ ops.toList V p false d H K->ZoH P ops (Leaves Γ ops V Bk) Q n (l.setIfInBounds i true) a w)->
   (ZAC ops.toList i λo=>ZF4 Γ (ZGi ops.toList) V d H o.op (ZAF Δ Γ ops.toList o d H λe H'=>Zkw Δ Γ ops.toList V p false e H' K))->
   wpOp P ops Q i (λW w'=>Leaves Γ ops V Bk i w w'/\ZoH P ops (Leaves Γ ops V Bk) Q n (l.setIfInBounds i true) W w') a w:=by
  intro i n l p d H a w t N D g ih k;obtain⟨o,ho,k⟩:=ZnY _ k;have Y:ops[i]?=some o:=by simpa using ho
  unfold wpOp;simp only[Y];obtain⟨E,hV,rfl,X,C,z⟩:=t;obtain⟨⟨k,a8⟩,b9⟩:=ZEb X C hV k;refine Zxd hΔ hΓ ops o X C z k (λe H' W E' O d2 a1 a2 d9 hg d3 e1=>⟨⟨λd8=>hg ?_,λU=>?_⟩,ih e H' W E'.w ⟨E',hV.le d9,rfl,d2,a1,a2⟩ O⟩)
  ·simpa[ZHN,Y]using d8
  ·simp only[ZEc,Y,ZH5,KQ,Option.isSome_iff_exists]at U
   rcases U with⟨x,hx⟩|⟨xs,hx⟩
   ·exact a8 x hx _ (d3 x (Zwm hx))
   ·exact λid b hi a0 a5=>e1 xs hx b a5 (b9 xs hx id b hi a0)
 intro p;induction p with
 |done =>
  intro n l m d H a w t N g k;cases m with
  |none =>
   simp only[Zdq,KY]at g;simp only[Zkw,Option.isSome]at k;cases n with
   |zero=>exact⟨g,hq _ _ _ _ k.2 t⟩
   |succ n=>exact⟨λ_=>hq _ _ _ _ k.2 t,λi hi=>by rw[g]at hi;cases hi⟩
  |some S =>
   simp only[Zdq,KY]at g;subst g;intro i hi;cases hi
 |op i p ih =>
  intro n l m d H a w t N g k;cases m with
  |some S=>cases n<;>simp[Zdq]at g
  |none =>
   cases n with
   |zero=>simp[Zdq]at g
   |succ n =>
    simp only[Zdq,Ur,List.contains_iff_mem]at g;obtain⟨⟨D,G⟩,g⟩:=g;simp only[Zkw]at k;obtain⟨o,ho,k⟩:=ZnY _ k;have Y:ops[i]?=some o:=by simpa using ho
    unfold ZGI at G;simp only[Y,Ur]at G;obtain⟨hl,G⟩:=G;obtain⟨E,hV,rfl,X,C,z⟩:=t;obtain⟨v,hy,e,H',O,E',b4,a7,d6⟩:=ZAl hΔ ops o hl X C z k;have a3:∀j oj,ops[j]?=some oj->j≠i->ZdV M i j=false->ZdV M j i=false->o.apart ops oj=true/\(isLoad o.op=true->ZkL Γ oj.op=true):=by
     intro j oj A F U J;rw[KD]at G;have:=G j (KG.2 (U9.1 A).1);simp only[A,U,J,KQ,Kl,Ur,UT,Ka,Ks]at this;rcases this with h|⟨I,f⟩
     ·exact absurd h F
     ·refine⟨I,λa4=>?_⟩
      rcases f with f|f
      ·rw[a4]at f;cases f
      ·exact f
    refine ZoI (R:=λw w'=>isLoad o.op=true->ZtA w w') ⟨λw _=>ZtA.refl w,λa b c I f h=>(I h).trans (f h)⟩ Y (λw=>Leaves.refl w) Z hQ ?_ n l a E.w N D hy (ih n _ none e H' _ _ ⟨E',hV.le b4,a7,d6⟩ (N.set D) g O);intro j oj A F U J;have nb:∀x y,¬Behind ops x y->ZdV M x y=false:=λx y h=>by
     cases hh:ZdV M x y with
     |false=>rfl
     |true=>exact absurd (hM x y hh) h
    obtain⟨I,f⟩:=a3 j oj A F (nb _ _ U) (nb _ _ J);exact⟨I,λw w' h a4=>(h.1 (by simpa[ZHN,A]using f a4)).ZNZ⟩
 |ld i p ih =>
  intro n l m d H a w t N g k;cases m with
  |some S=>cases n<;>simp[Zdq]at g
  |none =>
   cases n with
   |zero=>simp[Zdq]at g
   |succ n =>
    simp only[Zdq,Ur,List.contains_iff_mem]at g;obtain⟨⟨D,G⟩,g⟩:=g;simp only[Zkw]at k;obtain⟨o,ho,k⟩:=ZnY _ k;have Y:ops[i]?=some o:=by simpa using ho
    obtain⟨E,hV,rfl,X,C,z⟩:=t;unfold ZGJ at G;simp only[Y,Ur]at G;obtain⟨_,G⟩:=G;unfold ldK at k;split at k
    ·rename_i T x b7 hg
     obtain⟨ti,ht,k⟩:=Qd Δ hΔ k;obtain⟨s,e0,k⟩:=YU C k;split at k
     ·rename_i id e3
      obtain⟨b1,k⟩:=k;obtain⟨en,he,k⟩:=XB H k;split at k
      ·rename_i cells
       obtain⟨b,u,r,U,b8,b0,k⟩:=Zx0 X ht e0 he k;obtain⟨b',a0,d4⟩:=hV id b1;have:=U.symm.trans d4;simp at this;subst this;have a5:b<E.w.heap.size:=(X.free id _ _ b he rfl U (by simp[Zi9,Y4])).2.2;obtain⟨e,a1,O,d7⟩:=Zm6 (dst:=o.dst) (v:=u) C b0 k;have b5:Lit P ops (Rb b) o u a E.w:=by
        refine .inl ⟨by simp[Region.wanted,hg],λw' a7=>?_⟩;have I:=b8 w' (a7 a5).2;obtain⟨dst,op,e2,pos,after,guard⟩:=o;simp only at b7;subst b7;show Sem.run P (do pure (Next.value (<-Instr.loadAt T (a.eval x))):Sem Next) w'=_;rw[Sem.run_bind,I];rfl
       refine ZoI (R:=Rb b) (Rb.way b) Y (λw=>Leaves.refl w) Z hQ ?_ n l a E.w N D b5 (ih n _ none e H _ _ ⟨E,hV,rfl,X,a1,by rw[d7];exact z⟩ (N.set D) g O);intro j oj A F d5 J;have nb:∀x y,¬Behind ops x y->ZdV M x y=false:=λx y h=>by
        cases hh:ZdV M x y with
        |false=>rfl
        |true=>exact absurd (hM x y hh) h
       rw[KD]at G;have:=G j (KG.2 (U9.1 A).1);simp only[A,nb _ _ d5,nb _ _ J,KQ,Kl,Ur,Ka,Ks]at this;rcases this with h|⟨I,f⟩
       ·exact absurd h F
       ·refine⟨I,λw w' b6=>Rb.of λa9=>?_⟩
        rcases f with f|f
        ·exact b6.1 (by simpa[ZHN,A]using f) b a9
        ·exact b6.2 (by simpa[ZEc,A]using f) id b b1 a0 a9
      ·exact k.elim
     ·exact k.elim
    ·exact k.elim
 |can p ih =>
  intro n l m d H a w t N g k;cases n<;>cases m<;>simp[Zdq]at g
 |alt i p q d0 d1 =>
  intro n l m d H a w t N g k;cases n with
  |zero=>cases m<;>simp[Zdq]at g
  |succ n =>
   obtain⟨b2,b3⟩:(ZAC ops.toList i λo=>ZF4 Γ (ZGi ops.toList) V d H o.op (ZAF Δ Γ ops.toList o d H λe H'=>Zkw Δ Γ ops.toList V p false e H' K))/\Zkw Δ Γ ops.toList V q true d H K:=by
    cases q with
    |done=>exact⟨by simpa only[Zkw]using k,trivial⟩
    |_=>simpa only[Zkw]using k
   cases m with
   |none =>
    simp only[Zdq,Ur,List.contains_iff_mem]at g;obtain⟨⟨D,g⟩,a6⟩:=g;have I:=L i n l p d H a w t N D g (λd H a w t k=>d0 n _ none d H a w t (N.set D) g k) b2;have f:=d1 (n+1) l (some _) d H a w t N a6 b3;refine⟨λh=>(by rw[h]at D;cases D),λj A=>?_⟩;by_cases F:j=i
    ·subst F;exact I
    ·exact f j (KI.2 ⟨A,by simpa using F⟩) A
   |some S =>
    simp only[Zdq,Ur]at g;obtain⟨g,a6⟩:=g;have f:=d1 (n+1) l (some _) d H a w t N a6 b3;intro j A D;by_cases F:j=i
    ·subst F
     exact L j n l p d H a w t N D g (λd H a w t k=>d0 n _ none d H a w t (N.set D) g k) b2
    ·exact f j (KI.2 ⟨A,by simpa using F⟩) D
def ZEC (Δ:Tab) (Γ:Gam) (ops:List Oper) (V:List Nat) (p:ZbY) (r:List SV) (H:List Entry) (K:List SV->List Entry->Prop):Prop:=match p with
 | .can p=>Zkw Δ Γ ops V p false r H λa H'=>ZvA H 0 λn=>canonK n a H' K
 |p=>Zkw Δ Γ ops V p false r H K
def Zz7:ZbY->Bool
 | .done=>false
 | .op _ p=>Zz7 p
 | .ld _ _=>true
 | .alt _ p q=>Zz7 p||Zz7 q
 | .can p=>Zz7 p
def Ztu:Nat->List Entry->(List Nat->Prop)->Prop
 |_,[],K=>K []
 |n,e::r,K=>Ztu (n+1) r λV=>match e with
  | .box _=>K (n::V)
  |_=>K V
def ZEE (i:Nat):List Nat->(List Nat->Prop)->Prop
 |[],K=>K []
 |j::r,K=>ZEE i r λR=>match Nat.beq j i with
  |true=>K R
  |false=>K (j::R)
def ZCh:List SV->Nat->List Nat->(List Nat->Prop)->Prop
 |[],_,V,K=>K V
 |s::_,0,V,K=>match s with
  | .ptr i _=>ZEE i V K
  |_=>K V
 |_::r,n+1,V,K=>ZCh r n V K
def ZBh (t:Nat):List Oper->Nat
 |[]=>t
 |o::r=>match o.dst,o.op with
  |some d,.move (.tmp t')=>match Nat.beq d t with
   |true=>t'
   |false=>ZBh t r
  |_,_=>ZBh t r
def ZtX (all:List Oper) (s:List SV):List Operand->List Nat->(List Nat->Prop)->Prop
 |[],V,K=>K V
 |x::r,V,K=>match x with
  | .tmp t=>ZCh s (ZBh t all) V λV'=>ZtX all s r V' K
  |_=>ZtX all s r V K
def ZpD (Γ:Gam) (all:List Oper) (s:List SV):List Oper->List Nat->(List Nat->Prop)->Prop
 |[],V,K=>K V
 |o::r,V,K=>match Zk8 Γ o.op with
  |none=>ZpD Γ all s r V K
  |some xs=>ZtX all s xs V λV'=>ZpD Γ all s r V' K
theorem ZwE (i:Nat):∀(V:List Nat) {K:List Nat->Prop},ZEE i V K->∃V',K V'/\∀I,ZfA I V'=true->ZfA I V=true
 |[],K,h=>⟨[],h,λI h=>h⟩
 |j::r,K,h=>by
  obtain⟨R,f,F⟩:=ZwE i r h;clear h;split at f
  ·exact⟨R,f,λI h=>by unfold ZfA;rw[F I h,Bool.or_true]⟩
  ·refine⟨j::R,f,λI h=>?_⟩
   unfold ZfA at h ⊢;rcases KQ _ _▸h with h|h
   ·rw[h,Bool.true_or]
   ·rw[F I h,Bool.or_true]
theorem ZwF:∀(l:List SV) (n:Nat) (V:List Nat) {K:List Nat->Prop},ZCh l n V K->∃V',K V'/\∀I,ZfA I V'=true->ZfA I V=true
 |[],_,V,K,h=>⟨V,h,λI h=>h⟩
 |s::_,0,V,K,h=>by
  unfold ZCh at h;split at h
  ·exact ZwE _ V h
  ·exact⟨V,h,λI h=>h⟩
 |_::r,n+1,V,K,h=>ZwF r n V h
theorem ZpE (all:List Oper) (s:List SV):∀(xs:List Operand) (V:List Nat) {K:List Nat->Prop},ZtX all s xs V K->∃V',K V'/\∀I,ZfA I V'=true->ZfA I V=true
 |[],V,K,h=>⟨V,h,λI h=>h⟩
 |x::r,V,K,h=>by
  unfold ZtX at h;split at h
  ·obtain⟨V1,d,a⟩:=ZwF _ _ _ h
   obtain⟨V2,f,A⟩:=ZpE all s r V1 d;exact⟨V2,f,λI q=>a I (A I q)⟩
  ·exact ZpE all s r V h
theorem ZnC (Γ:Gam) (all:List Oper) (s:List SV):∀(l:List Oper) (V:List Nat) {K:List Nat->Prop},ZpD Γ all s l V K->∃V',K V'/\∀I,ZfA I V'=true->ZfA I V=true
 |[],V,K,h=>⟨V,h,λI h=>h⟩
 |o::r,V,K,h=>by
  unfold ZpD at h;split at h
  ·exact ZnC Γ all s r V h
  ·obtain⟨V1,d,a⟩:=ZpE _ _ _ _ h
   obtain⟨V2,f,A⟩:=ZnC Γ all s r V1 d;exact⟨V2,f,λI q=>a I (A I q)⟩
def ZCc (Γ:Gam) (ops:List Oper) (r:List SV) (p:ZbY) (H:List Entry) (K:List Nat->Prop):Prop:=match Zz7 p with
 |false=>K []
 |true=>Ztu 0 H λV=>ZpD Γ ops r ops V K
theorem ZqR:∀(H:List Entry) (n:Nat) {K:List Nat->Prop},Ztu n H K->∃V,K V/\∀I,ZfA I V=true->n<=I/\∃cells,H[I-n]?=some (.box cells)
 |[],n,K,h=>⟨[],h,λI l=>by cases l⟩
 |e::r,n,K,h=>by
  obtain⟨V,f,v⟩:=ZqR r (n+1) h;clear h;have d:∀I,ZfA I V=true->n<=I/\∃cells,(e::r)[I-n]?=some (.box cells):=by
   intro I l;obtain⟨a,c,q⟩:=v I l;refine⟨by omega,c,?_⟩;rw[show I-n=(I-(n+1))+1 by omega,Kg];exact q
  split at f
  ·rename_i cells
   refine⟨_,f,λI l=>?_⟩;unfold ZfA at l;rcases KQ _ _▸l with b|b
   ·have:=Nat.eq_of_beq_eq_true b
    subst this;exact⟨UO _,cells,by rw[Nat.sub_self];rfl⟩
   ·exact d I b
  ·exact⟨_,f,d⟩
variable {p:ZbY}
theorem ZCd {ops:List Oper} {K:List Nat->Prop} (h:ZCc Γ ops r p H K):∃V,K V/\∀I,ZfA I V=true->∃cells,H[I]?=some (.box cells):=by
 unfold ZCc at h;split at h
 ·exact⟨[],h,λI l=>by cases l⟩
 ·obtain⟨V,h,v⟩:=ZqR H 0 h
  obtain⟨V',b,a⟩:=ZnC Γ ops r ops V h;exact⟨V',b,λI l=>(v I (a I l)).2⟩
theorem Conc.drew {a:Act} (h:Conc B r H a w):Conc B r H a {w with drawn:=w.drawn+1}:=by
 obtain⟨E,d,m,N,f⟩:=h;subst d;have c:E.le ⟨E.S,{E.w with drawn:=E.w.drawn+1},E.ids⟩:=⟨λb h=>h,λb h=>rfl,λi v h=>h⟩
 refine⟨⟨E.S,{E.w with drawn:=E.w.drawn+1},E.ids⟩,rfl,?_,ZX c _ _ N,f⟩
 exact⟨⟨m.keeps.os,m.keeps.tape,m.keeps.output,m.keeps.size,m.keeps.block⟩,m.Slt,m.Sold,m.len,m.pin,λi e l=>ZfE c i e (λ_ _ _ _ _=>rfl) (m.ent i e l),m.free,m.sep⟩
theorem ZqY.drew {a:Act} (h:ZqY B V Bk r H a w):ZqY B V Bk r H a {w with drawn:=w.drawn+1}:=by
 obtain⟨E,d,g,m,N,f⟩:=h;subst g;have c:E.le ⟨E.S,{E.w with drawn:=E.w.drawn+1},E.ids⟩:=⟨λb h=>h,λb h=>rfl,λi v h=>h⟩
 refine⟨⟨E.S,{E.w with drawn:=E.w.drawn+1},E.ids⟩,d,rfl,?_,ZX c _ _ N,f⟩
 exact⟨⟨m.keeps.os,m.keeps.tape,m.keeps.output,m.keeps.size,m.keeps.block⟩,m.Slt,m.Sold,m.len,m.pin,λi e l=>ZfE c i e (λ_ _ _ _ _=>rfl) (m.ent i e l),m.free,m.sep⟩
theorem VOk.ex (V:List Nat) (m:Inv B E H) (h:∀I,ZfA I V=true->∃cells,H[I]?=some (.box cells)):∃Bk,VOk V Bk E:=by
 refine ⟨λI=>match E.ids[I]? with
  |some (.pointer (some ⟨b,_,_⟩))=>some b
  | _=>none,λI l=>?_⟩
 obtain⟨cells,q⟩:=h I l;obtain⟨b,_,_,d,_⟩:=m.ent I _ q;exact⟨b,by simp only[d],d⟩
theorem ZCe {Δ:Tab} (hΔ:Δ.ok P) (hΓ:Γ.ok P) {id:Nat} (W:P.follows .mixedOrders=true) {M:List Nat} (F:Zl9 ops.toList []=M) (Y:Zm2 ops=true)
  (L:Zdq Γ ops M p.core ops.size (Array.replicate ops.size false) none=true) {s:List SV} {a:Act} (I:Conc B s H a w)
  {K0:List SV->List Entry->Prop} (x:ZCc Γ ops.toList s p.core H λV=>ZEC Δ Γ ops.toList V p s H K0)
  (k:∀r H' A w',K0 r H'->Conc B r H' A w'->Q .normal A w'):(Code.region id ops true).wp P Q a w:=by
 obtain⟨V,x,t⟩:=ZCd x;have n:∀(i:Nat) (v:Value),B.pin[i]?=some v->i<H.length:=λi v T=>by
  obtain⟨E,_,f,_⟩:=I;have:=(Ua.1 (f.pin i v T)).1;rw[f.len]at this;exact this
 obtain⟨K,J,X⟩:∃K:List SV->List Entry->Prop,Zkw Δ Γ ops.toList V p.core false s H K/\∀r H' A w',K r H'->Conc B r H' A w'->Q .normal A w':=by
  unfold ZEC at x;split at x
  ·refine⟨_,x,λr H' A w' h u=>?_⟩
   rw[Zek,Us]at h;obtain⟨R,H2,l,z⟩:=Zy6 n h u;exact k _ _ _ _ l z
  ·rename_i D
   have y:p.core=p:=by
    cases p with
    |can q=>exact absurd rfl (D q)
    |_=>rfl
   rw[y];exact⟨K0,x,k⟩
 generalize p.core=p at L J;have b:∃Bk,ZqY B V Bk s H a w:=by
  obtain⟨E,Z,f,S,g⟩:=I;obtain⟨Bk,O⟩:=VOk.ex V f t;exact⟨Bk,E,O,Z,f,S,g⟩
 obtain⟨Bk,b⟩:=b;refine Code.wp_mono (Q:=λe a w=>e=.normal/\Q e a w) (λe a w h=>h.2) ?_;refine wp_region_any W (Zr2 (G:=Leaves Γ ops V Bk) _ _ _ _ ?_);have o:∀i j,ZdV M i j=true->Behind ops i j:=by
  intro i j h;unfold ZdV at h;cases d:M[j]? with
  |none=>simp[d]at h
  |some m =>
   rw[<-F] at d;exact ZrL ops.toList [] (by simp) (by simp) j m d i (by
    rw[F] at d;simpa[d] using h)
 refine ZCb o hΔ hΓ (Q:=λe a w=>e=.normal/\Q e a w) (λc a w h=>by cases h.1) Y (λr H' A w' N l=>⟨rfl,X r H' A w' N l.ZKX⟩) p ops.size _ none s H a _ b.drew ?_ L J;intro j oj e d U;have C:j<ops.size:=(U9.1 d).1;simp[C]at U
end
def writes:Code->List Nat
 | .region _ ops _=>ops.toList.filterMap (·.dst)
 | .seq a b=>writes a++writes b
 | .cond _ a b=>writes a++writes b
 | .block _ c=>writes c
 | .loop c=>writes c
 | .scope c=>writes c
 |_=>[]
def ZAL:List Oper->Bool
 |[]=>false
 |o::r=>match o.op,o.guard with
  | .panic _,none=>true
  |_,_=>ZAL r
structure Ann where
 loops:List (Nat×List Loc):=[]
 draws:List (Nat×List Nat×ZbY):=[]
def ZCN:List (Nat×List Loc)->Nat->(List Loc->Prop)->Prop
 |[],_,_=>False
 |(n,l)::r,I,K=>if n=I then K l else ZCN r I K
def ZwJ:List Nat->(List Nat->Bool)->Bool
 |[],k=>k []
 |x::r,k=>ZwJ r λl=>k (x::l)
theorem Zt2:∀(l:List Nat) (k:List Nat->Bool),ZwJ l k=k l
 |[],_=>rfl
 |x::r,k=>by unfold ZwJ;exact Zt2 r _
def ZE2 (Γ:Gam) (ops:Array Oper) (M:List Nat) (p:ZbY):Bool:=match M with
 |[]=>ZwJ (Zl9 ops.toList []) λM=>Zdq Γ ops M p.core ops.size (Array.replicate ops.size false) none
 |_=>Zl9 ops.toList []==M&&Zdq Γ ops M p.core ops.size (Array.replicate ops.size false) none
variable {Γ:Gam}
theorem ZC5 {ops:Array Oper} {M:List Nat} {p:ZbY} (h:ZE2 Γ ops M p=true):Zdq Γ ops (Zl9 ops.toList []) p.core ops.size (Array.replicate ops.size false) none=true:=by
 unfold ZE2 at h;split at h
 ·rwa [Zt2]at h
 ·rw[Ur,Kl]at h
  rw[h.1];exact h.2
def ZCO:List (Nat×List Nat×ZbY)->Nat->(List Nat->ZbY->Prop)->Prop
 |[],_,_=>False
 |(n,M,l)::r,I,K=>if n=I then K M l else ZCO r I K
theorem ZwZ:∀(A:List (Nat×List Nat×ZbY)) {I:Nat} {K:List Nat->ZbY->Prop},ZCO A I K->∃M l,K M l
 |[],_,_,h=>h.elim
 |(n,M,l)::r,I,K,h=>by
  unfold ZCO at h;split at h
  ·exact⟨M,l,h⟩
  ·exact ZwZ r h
theorem ZwY:∀(A:List (Nat×List Loc)) {I:Nat} {K:List Loc->Prop},ZCN A I K->∃l,K l
 |[],_,_,h=>h.elim
 |(n,l)::r,I,K,h=>by
  unfold ZCN at h;split at h
  ·exact⟨l,h⟩
  ·exact ZwY r h
def ZLx:Loc->Bool
 | .cell I _ _=>Nat.ble 1000 I
 | .cello I _ _=>Nat.ble 1000 I
 | .ent I _ _=>Nat.ble 1000 I
 | .splt I _ _=>Nat.ble 1000 I
 |_=>false
def ZDJ:List Loc->Bool
 |[]=>false
 |l::r=>match ZLx l with
  |true=>true
  |false=>ZDJ r
def ZC1 (I:Nat) (r:List SV) (H:List Entry) (K:Nat->Prop):Prop :=
 ZoP r ((I-1000)/100) λs=>match s with
  | .ptr b o=>ZiG H b λM=>match M with
   | .box cs=>ZoP cs (o+(I-1000)%100) λc=>match c with
    | .own i=>K i
    |_=>False
   |_=>False
  |_=>False
def ZAX (r:List SV) (H:List Entry) (K:Loc->Prop) (l:Loc):Prop:=match ZLx l with
 |false=>K l
 |true=>match l with
  | .cell I f t=>ZoP r (I-1000) λs=>match s with
   | .ptr b o=>K (.cell b (o+f) t)
   |_=>False
  | .cello I f e=>ZoP r (I-1000) λs=>match s with
   | .ptr b o=>K (.cello b (o+f) e)
   |_=>False
  | .ent I g e=>ZC1 I r H λi=>K (.ent i g e)
  | .splt I g e=>ZC1 I r H λi=>K (.splt i g e)
  |_=>False
def ZDb (s:List SV) (H:List Entry):List Loc->(List Loc->Prop)->Prop
 |[],K=>K []
 |l::r,K=>ZAX s H (λl'=>ZDb s H r λR=>K (l'::R)) l
def ZKV (ls:List Loc) (r:List SV) (H:List Entry) (K:List Loc->Prop):Prop:=match ZDJ ls with
 |false=>K ls
 |true=>ZDb r H ls K
theorem ZmO:∀(cs:List SV) {n:Nat} {K:SV->Prop},ZoP cs n K->∃s,K s
 |[],_,_,h=>by simp[ZoP]at h
 |s::r,0,_,h=>⟨s,by simpa[ZoP]using h⟩
 |s::r,n+1,_,h=>ZmO r (by simpa[ZoP]using h)
variable {r:List SV} {H:List Entry}
theorem Zxi {I:Nat} {K:Nat->Prop} (h:ZC1 I r H K):∃i,K i:=by
 unfold ZC1 at h;obtain⟨s,h⟩:=ZmO _ h;split at h
 ·obtain⟨M,_,h⟩:=XB H h
  split at h
  ·obtain⟨c,h⟩:=ZmO _ h
   split at h
   ·exact⟨_,h⟩
   ·exact h.elim
  ·exact h.elim
 ·exact h.elim
theorem ZAY {K:Loc->Prop} {l:Loc} (h:ZAX r H K l):∃l',K l':=by
 unfold ZAX at h;split at h
 ·exact⟨_,h⟩
 ·split at h
  ·obtain⟨s,h⟩:=ZmO _ h
   split at h
   ·exact⟨_,h⟩
   ·exact h.elim
  ·obtain⟨s,h⟩:=ZmO _ h
   split at h
   ·exact⟨_,h⟩
   ·exact h.elim
  ·obtain⟨i,h⟩:=Zxi h
   exact⟨_,h⟩
  ·obtain⟨i,h⟩:=Zxi h
   exact⟨_,h⟩
  ·exact h.elim
theorem Zxo {s:List SV} {H:List Entry}:∀(ls:List Loc) {K:List Loc->Prop},ZDb s H ls K->∃L,K L
 |[],_,h=>⟨[],h⟩
 |l::r,K,h=>by
  obtain⟨l',h⟩:=ZAY (K:=λl'=>ZDb s H r λR=>K (l'::R)) h;obtain⟨R,h⟩:=Zxo r h;exact⟨_,h⟩
theorem ZFZ {ls:List Loc} {K:List Loc->Prop} (h:ZKV ls r H K):∃L,K L:=by
 unfold ZKV at h;split at h
 ·exact⟨_,h⟩
 ·exact Zxo ls h
def sx (Δ:Tab) (Γ:Gam) (A:Ann):Code->Nat->(Exit->List SV->List Entry->Prop)->List SV->List Entry->Prop
 | .skip,_,Q,R,H=>Q .normal R H
 | .label _,_,Q,R,H=>Q .normal R H
 | .ret,_,Q,R,H=>Q .ret R H
 | .exit i,_,Q,R,H=>Q (.exit i) R H
 | .region i ops w,_,Q,R,H=>if ZAL ops.toList=true then Dead else match w with
  |false=>ZHZ Δ Γ ops.toList ops.toList R H (Q .normal)
  |true=>ZCO A.draws i λM p=>(Zm2 ops&&ZE2 Γ ops M p)=true/\ZCc Γ ops.toList R p.core H λV=>ZEC Δ Γ ops.toList V p R H (Q .normal)
 | .seq a b,cur,Q,R,H=>sx Δ Γ A a cur (λe r h=>match e with
  | .normal=>sx Δ Γ A b cur Q r h
  | e=>Q e r h) R H
 | .cond c a b,cur,Q,R,H=>Za1 R c λs=>match s with
  | .blit true=>sx Δ Γ A a cur Q R H
  | .blit false=>sx Δ Γ A b cur Q R H
  | .bool p=>(p=true->sx Δ Γ A a cur Q R H)/\(p=false->sx Δ Γ A b cur Q R H)
  |_=>False
 | .block i c,_,Q,R,H=>sx Δ Γ A c i (λe r h=>match e with
  | .exit f=>if f=i then Q .normal r h else Q (.exit f) r h
  | e=>Q e r h) R H
 | .loop c,cur,Q,R,H=>ZCN A.loops cur λl0=>ZKV l0 R H λls=>ZjB ls R H λv0 H0=>ZkR ls (writes c) λW=>Zx8 W R λd=>ZoT ls H0 λH1=>ZvA H1 0 λn0 =>
   ∃ (I:Zu4 ls->Prop) (μ:Zu4 ls->Nat),I v0/\∀ v,I v->ZtE ls v d H1 λj Hh=>sx Δ Γ A c cur (λe r h=>match e with
    | .normal=>ZjB ls r h λv' H2=>Zx8 W r λg=>ZoT ls H2 λH3=>Zrl H3 n0 λH4=>(g=d/\H4=H1)/\I v'/\μ v'<μ v
    | e=>Q e r h) j Hh
 |_,_,_,_,_=>False
theorem Zlj {p:Nat->Prop} (h:∃n,p n):∃n,p n/\∀m,p m->n<=m:=by
 obtain⟨n,f⟩:=h;induction n using Nat.strongRecOn with
 |_ n i =>
  by_cases t:∃m,m<n/\p m
  ·obtain⟨m,R,g⟩:=t;exact i m R g
  ·exact⟨n,f,λm R=>Nat.le_of_not_lt λl=>t ⟨m,l,R⟩⟩
variable {P:Program} {n:Nat} {w:World}
theorem ZBF {c:Code} {Q:Exit->Act->World->Prop} (J:Nat->Act->World->Prop)
  (r:∀n a w,J n a w->c.wp P (Exit.then (λA w'=>∃m,m<n/\J m A w') Q) a w) {a:Act} (h:J n a w):(Code.loop c).wp P Q a w:=by
 classical
 let μ:Act->World->Nat:=λa w=>if h:∃n,J n a w then Classical.choose (Zlj h)else 0
 have hμ:∀a w (h:∃n,J n a w),J (μ a w) a w/\∀m,J m a w->μ a w<=m:=by
  intro a w h;have:μ a w=Classical.choose (Zlj h):=by simp only[μ,dif_pos h]
  rw[this];exact KS (Zlj h)
 refine wp_loop (λa w=>∃n,J n a w) μ ⟨n,h⟩ (λa w j=>?_);have d:=(hμ a w j).1;refine Code.wp_mono ?_ (r _ a w d);intro e A w' b;cases e with
 |normal =>
  obtain⟨m,R,H⟩:=b;exact⟨⟨m,H⟩,Nat.lt_of_le_of_lt ((hμ A w' ⟨m,H⟩).2 m H) R⟩
 |_=>exact b
theorem ZiL {B:Base} {E:Env}:∀(ls:List Loc) {H:List Entry} (_:Inv B E H) {gs:List Nat} (_:Loose B E H gs) {K:List Entry->Prop} (_:ZoT ls H K),
  ∃H',Inv B E H'/\Loose B E H' gs/\K H'/\Boxed H H'
 |[],H,m,gs,o,K,h=>⟨H,m,o,h,Boxed.refl H⟩
 | .reg _ _::q,H,m,gs,o,K,h=>ZiL q m o h
 | .ent _ _ _::q,H,m,gs,o,K,h=>ZiL q m o h
 | .entm _ _ _::q,H,m,gs,o,K,h=>ZiL q m o h
 | .splt _ _ _::q,H,m,gs,o,K,h=>ZiL q m o h
 | .cell I f t::q,H,m,gs,o,K,h=>by
  simp only[ZoT]at h;obtain⟨e,a,h⟩:=XB H h;split at h
  ·rename_i cells
   rw[ZgF,Qa]at h;have A:=m.weaken (cells':=cells.set f .bot) a (λ_ _ _ _ _ N=>Zor N f);obtain⟨H',d,b,g,i⟩:=ZiL q A (o.Znb a) h;exact⟨H',d,b,g,(Boxed.Znb a).trans i⟩
  ·exact h.elim
 | .cello I f c::q,H,m,gs,o,K,h=>by
  simp only[ZoT]at h;obtain⟨e,a,h⟩:=XB H h;split at h
  ·rename_i cells
   rw[ZgF,Qa]at h;have A:=m.weaken (cells':=cells.set f .bot) a (λ_ _ _ _ _ N=>Zor N f);obtain⟨H',d,b,g,i⟩:=ZiL q A (o.Znb a) h;exact⟨H',d,b,g,(Boxed.Znb a).trans i⟩
  ·exact h.elim
theorem ZgC:∀(ls:List Loc) {W:List Nat} {K:List Nat->Prop},ZkR ls W K->∃W',K W'
 |[],W,K,h=>⟨W,h⟩
 | .reg r _::q,W,K,h=>by obtain⟨W',h⟩:=ZgC q h;exact⟨_,h⟩
 | .cell _ _ _::q,W,K,h=>ZgC q h
 | .cello _ _ _::q,W,K,h=>ZgC q h
 | .ent _ _ _::q,W,K,h=>ZgC q h
 | .entm _ _ _::q,W,K,h=>ZgC q h
 | .splt _ _ _::q,W,K,h=>ZgC q h
theorem Ztm {P:Program} {Δ:Tab} (hΔ:Δ.ok P) {Γ:Gam} (hΓ:Γ.ok P) (A:Ann) (F:P.follows .mixedOrders=true) {B:Base}:∀(c:Code) (cur:Nat) (Q:Exit->List SV->List Entry->Prop) {b:List SV} {H:List Entry} (_:sx Δ Γ A c cur Q b H)
  {a:Act} {w:World} (_:Conc B b H a w) (R:Exit->Act->World->Prop) (_:∀e k H' O w',Q e k H'->Conc B k H' O w'->R e O w'),c.wp P R a w
 | .skip,_,Q,b,H,h,a,w,q,R,d=>wp_skip (d _ _ _ _ _ h q)
 | .label _,_,Q,b,H,h,a,w,q,R,d=>wp_label (d _ _ _ _ _ h q)
 | .ret,_,Q,b,H,h,a,w,q,R,d=>wp_ret (d _ _ _ _ _ h q)
 | .exit id,_,Q,b,H,h,a,w,q,R,d=>wp_exit (d _ _ _ _ _ h q)
 | .region id ops e8,_,Q,b,H,h,a,w,q,R,d=>by
  simp only[sx]at h;split at h
  ·exact h.no.elim
  split at h
  ·exact wp_region_list (ZAJ hΔ hΓ ops ops.toList q h (λk H' O w' l f=>d _ _ _ _ _ l f))
  ·obtain⟨M,p,h⟩:=ZwZ _ h
   obtain⟨hb,h⟩:=h;rw[Ur]at hb;exact ZCe hΔ hΓ F rfl hb.1 (ZC5 hb.2) q h (λk H' O w' l f=>d _ _ _ _ _ l f)
 | .seq x y,cur,Q,b,H,h,a,w,q,R,d=>by
  simp only[sx]at h;refine wp_seq (Ztm hΔ hΓ A F x cur _ h q _ ?_);intro e k H' O w' l f;cases e with
  |normal=>exact Ztm hΔ hΓ A F y cur Q l f R d
  |_=>exact d _ _ _ _ _ l f
 | .cond c x y,cur,Q,b,H,h,a,w,q,R,d=>by
  simp only[sx]at h;obtain⟨E,hw,hI,N,m⟩:=q;obtain⟨s,hs,h⟩:=YU N h;split at h
  ·simp only[den]at hs
   exact wp_cond_true hs (Ztm hΔ hΓ A F x cur Q h ⟨E,hw,hI,N,m⟩ R d)
  ·simp only[den]at hs
   exact wp_cond_false hs (Ztm hΔ hΓ A F y cur Q h ⟨E,hw,hI,N,m⟩ R d)
  ·simp only[den]at hs
   exact wp_cond_split hs (λe=>Ztm hΔ hΓ A F x cur Q (h.1 e) ⟨E,hw,hI,N,m⟩ R d) (λe=>Ztm hΔ hΓ A F y cur Q (h.2 e) ⟨E,hw,hI,N,m⟩ R d)
  ·exact h.elim
 | .block id c,cur,Q,b,H,h,a,w,q,R,d=>by
  simp only[sx]at h;refine wp_block (Ztm hΔ hΓ A F c id _ h q _ ?_);intro e k H' O w' l f;cases e with
  |exit f4 =>
   simp only at l;simp only[Exit.inBlock];split at l
   ·rename_i e;rw[Uc e];exact d _ _ _ _ _ l f
   ·rename_i e;rw[Ue e];exact d _ _ _ _ _ l f
  |_=>exact d _ _ _ _ _ l f
 | .loop c,cur,Q,b,H,h,a,w,q,R,d=>by
  simp only[sx]at h;obtain⟨l0,h⟩:=ZwY A.loops h;obtain⟨ls,h⟩:=ZFZ h;obtain⟨E,hw,hI,N,m⟩:=q;obtain⟨E0,H0,v0,g0,e3,e9,b7,b3,h,d6,a7,f2⟩:=ZhT ls hI N [] (Loose.none _ _ _) h;rw[Un]at a7;obtain⟨W,h⟩:=ZgC ls h;obtain⟨C,a9,h⟩:=ZsP W b _ (ZX b3 _ _ N) h;obtain⟨H1,t,d1,h,V⟩:=ZiL ls b7 a7 h;rw[Zek,Us]at h;obtain⟨I,μ,K,o⟩:=h;have b2:=ZcH rfl (λ_ h=>h) (λ_ _ h=>h) V ls v0 g0 d6
  let Q':Zu4 ls->Exit->List SV->List Entry->Prop:=λv e r h=>match e with
    | .normal=>ZjB ls r h λv' H2=>Zx8 W r λr1=>ZoT ls H2 λH3=>Zrl H3 H1.length λH4=>(r1=C/\H4=H1)/\I v'/\μ v'<μ v
    |e=>Q e r h
  let J:Nat->Act->World->Prop:=λn a w=>∃v rh Hh,I v/\μ v=n/\Conc B rh Hh a w/\sx Δ Γ A c cur (Q' v) rh Hh
  have a4:J (μ v0) a w:=by
   obtain⟨E',Hh,rh,a3,T,Y,hk⟩:=ZjZ ls v0 t a9 g0 b2 d1 (o v0 K);exact⟨v0,rh,Hh,K,rfl,⟨E',by rw[a3,e3,hw],T,Y,m⟩,hk⟩
  have e7:Ze0 H1.length C:=by have:=ZbM _ _ a9;rwa [t.len]at this
  have a5:∀e∈H1,Zvj H1.length e:=by
   intro e he;obtain⟨i,D⟩:=UC.1 he;have:=Zvi (t.ent i e D)
   rwa [t.len]at this
  refine ZBF J ?_ a4;rintro n a1 w1 ⟨v,rh,Hh,f1,hμ,d3,e1⟩;subst hμ;refine Ztm hΔ hΓ A F c cur (Q' v) e1 d3 _ ?_;intro e r' H' O w' l f;cases e with
  |normal =>
   obtain⟨E2,e4,b8,b0,Z⟩:=f;obtain⟨E3,H3,v',g3,e5,f0,b9,b4,l,d7,a8,f3⟩:=ZhT ls b8 b0 [] (Loose.none _ _ _) l;rw[Un]at a8;obtain⟨r1,d4,l⟩:=ZsP W r' _ (ZX b4 _ _ b0) l;obtain⟨H4,d0,U,l,X⟩:=ZiL ls b9 a8 l;rw[Zke]at l;obtain⟨⟨b6,z⟩,L,a2⟩:=l;have b5:B.pin.length<=H1.length:=by
    rcases Nat.eq_zero_or_pos B.pin.length with h0|h0
    ·omega
    ·have a0:B.pin[B.pin.length-1]?=some (B.pin[B.pin.length-1]'(by omega)):=Ub _
     have:=(Ua.1 (t.pin _ _ a0)).1;rw[t.len]at this;omega
   have a6:=d0.trunc H1.length b5 (by rw[z];exact a5);rw[z] at a6;have b1:=Zc6 (n:=H1.length) _ _ (by rw[b6];exact e7) d4;rw[b6] at b1;have d8:=ZcH rfl (λ_ h=>h) (λ_ _ h=>h) X ls v' g3 d7;obtain ⟨p1,p2,p3⟩:=ZeB ls v0 g0 b2;have d9:ZaM B ⟨E3.S,E3.w,E3.ids.take H1.length⟩ H1 _ ls v' g3:=Zbq (E:=E3) (E':=⟨E3.S,E3.w,E3.ids.take H1.length⟩) (H':=H1) rfl (λ_ h=>h) (λi u D hu=>by
    show(E3.ids.take H1.length)[i]?=some u;rw[UB,Uc D];exact hu) (λi c D a2=>by
     rw[<-z,UB,Uc a2];exact⟨c,D⟩) (λi c D=>by
     rw[<-z,UB]at D;split at D
     ·exact⟨c,D⟩
     ·cases D) ls v' g3 p1 p2 p3 d8
   have d2:Loose B ⟨E3.S,E3.w,E3.ids.take H1.length⟩ H1 g3:=⟨U.nodup,U.free,λg hg j ej vj hj e0 hv hb=>by
    have d5:H4[j]?=some ej:=by
     rw[<-z,UB]at hj;split at hj
     ·exact hj
     ·cases hj
    have e2:E3.ids[j]?=some vj:=by
     have G:(E3.ids.take H1.length)[j]?=some vj:=hv;rw[UB]at G;split at G
     ·exact G
     ·cases G
    exact U.apart g hg j ej vj d5 e0 e2 hb⟩
   obtain⟨E',Hh',e6,a3,T,Y,hk⟩:=ZjZ ls v' a6 b1 g3 d9 d2 (o v' L);exact⟨μ v',a2,v',e6,Hh',L,rfl,⟨E',by rw[a3];show E3.w=w';rw[e5,e4],T,Y,Z⟩,hk⟩
  |_=>exact d _ _ _ _ _ l f
 | .rangeFunc _ _ _ _,_,Q,b,H,h,a,w,q,R,d=>by simp only[sx]at h
 | .scope _,_,Q,b,H,h,a,w,q,R,d=>by simp only[sx]at h
 | .goto _,_,Q,b,H,h,a,w,q,R,d=>by simp only[sx]at h
 | .refuse _,_,Q,b,H,h,a,w,q,R,d=>by simp only[sx]at h
def ZxA:Nat->List SV->(List SV->Prop)->Prop
 |0,l,K=>K l
 |n+1,l,K=>ZxA n (.tup []::l) K
theorem ZuT:∀(n:Nat) (l:List SV) (K:List SV->Prop),ZxA n l K=K (List.replicate n (.tup [])++l)
 |0,_,_=>rfl
 |n+1,l,K=>by
  simp only[ZxA,ZuT n];congr 1;rw[List.replicate_succ',Uj];rfl
def ZGh (Δ:Tab):List ResultVar->List SV->List Entry->(List SV->Prop)->Prop
 |[],_,_,K=>K []
 | .tmp t::r,R,H,K=>ZoP R t λs=>ZGh Δ r R H λS=>K (s::S)
 | .cell a T::r,R,H,K=>ZoP R a λb=>ZeD Δ T λi=>Zx1 i b H λs=>ZGh Δ r R H λS=>K (s::S)
def ZlQ:(l:List Sh)->List SV->List Entry->(Ios l->Prop)->Prop
 |[],_,_,K=>K ()
 | .io e::r,S,H,K=>match S with
  | .ptr I 0::S=>ZiG H I λM=>match M with
   | .box cells=>ZjD H I .gone λH0=>closeAll e cells H0 λd H1=>ZlQ r S H1 λD=>K (d,D)
   |_=>False
  |_=>False
 | .back e::r,S,H,K=>match S with
  |s::S=>if s.whole=true then closeAll e s.cells H λd H1=>ZlQ r S H1 λD=>K (d,D)else False
  |_=>False
 | .dat _::r,S,H,K=>match S with
  |_::S=>ZlQ r S H K
  |_=>False
 | .own _::r,S,H,K=>match S with
  |_::S=>ZlQ r S H K
  |_=>False
def ZH0 (Δ:Tab) (C:Ctr) (res:List ResultVar) (s r:List SV) (H:List Entry) (K:Shs C.rets->Ios C.args->Prop):Prop :=
 ZGh Δ res r H λS=>ZoL C.rets S H λR H1=>ZlQ C.args s H1 λi=>K R i
def fnK (Δ:Tab) (Γ:Gam) (A:Ann) (C:Ctr) (fn:Func) (s:Shs C.args) (K:Shs C.rets->Ios C.args->Prop):Prop :=
 match fn.body with
 |none=>False
 |some c=>Zn6 C.args s [] λS H=>ZvA S 0 λn=>ZxA (fn.ntmps-n) [] λu=>ZtB S u λr =>
  sx Δ Γ A c 0 (λe a H'=>match e with
   | .normal=>ZH0 Δ C fn.results.toList S a H' K
   | .ret=>ZH0 Δ C fn.results.toList S a H' K
   | _=>False) r H
def ZE7 (s:Array Value):ResultVar->Sem Value
 | .tmp t=>pure (s.getD t undef)
 | .cell a t=>asAddr (s.getD a undef) >>= λp=>loadVar t p
theorem ZvT {P:Program} {Δ:Tab} (hΔ:Δ.ok P) {B:Base} {E:Env} {H:List Entry} (j:Inv B E H) {R:List SV} {b:Array Value} (N:Yu E R b.toList):∀(l:List ResultVar) {K:List SV->Prop} (_:ZGh Δ l R H K),
  ∃S U,(l.mapM (ZE7 b)).run P E.w=.ok U E.w/\Yu E S U/\K S
 |[],K,h=>⟨[],[],rfl,trivial,h⟩
 | .tmp t::r,K,h=>by
  simp only[ZGh]at h;obtain⟨s,v,k,q,h,_⟩:=ZdB _ _ N h;obtain⟨S,U,e,f,g⟩:=ZvT hΔ j N r h;have i:b.getD t undef=v:=by
   have:b[t]?=some v:=by simpa using k
   simp[this]
  refine⟨s::S,v::U,?_,⟨q,f⟩,g⟩;rw[List.mapM_cons,Sem.run_bind,ZE7,i,Sem.run_pure,Result.andThen_ok,Sem.run_bind,e];rfl
 | .cell a T::r,K,h=>by
  simp only[ZGh]at h;obtain⟨x,V,k,q,h,_⟩:=ZdB _ _ N h;obtain⟨y,n,h⟩:=Qd Δ hΔ h;obtain⟨u,s,m,o,h⟩:=ZwV j n q h;have m:=m.here;obtain⟨S,U,e,f,g⟩:=ZvT hΔ j N r h;have i:b.getD a undef=V:=by
   have:b[a]?=some V:=by simpa using k
   simp[this]
  have c:∃p,V=.pointer (some p):=by
   cases V with
   |pointer p=>cases p with
    |some p=>exact⟨p,rfl⟩
    |none=>simp[Instr.loadAt,Instr.sureAddr]at m
   |_=>simp[Instr.loadAt,Instr.sureAddr]at m
  obtain⟨p,rfl⟩:=c;have d:(loadVar T p).run P E.w=.ok u E.w:=by simpa[Instr.loadAt,Instr.sureAddr]using m
  refine⟨s::S,u::U,?_,⟨o,f⟩,g⟩;rw[List.mapM_cons,Sem.run_bind,ZE7,i,asAddr,pure_bind,d,Result.andThen_ok,Sem.run_bind,e];rfl
theorem Zyl (fn:Func) (s:Array Value):results fn s=(fn.results.mapM (ZE7 s) >>= λvs=>pure (if h:vs.size=1 then vs[0]else .tuple vs)):=by
 have e:(λx=>match x with
  |ResultVar.tmp t=>pure (s.getD t undef)
  | ResultVar.cell a t=>do loadVar t (<-asAddr (s.getD a undef)):ResultVar->Sem Value)=ZE7 s:=by
  funext x;cases x<;>rfl
 rw[<-e];rfl
variable {fn:Func}
theorem ZvW {s:Array Value} {U:List Value} (h:(fn.results.toList.mapM (ZE7 s)).run P w=.ok U w) :
  ∃v,(results fn s).run P w=.ok v w/\retv U v:=by
 have H:(fn.results.mapM (ZE7 s)).run P w=.ok U.toArray w:=by
  rw[<-Array.toArray_toList (xs:=fn.results),List.mapM_toArray];simp only[Sem.run_map,h,Result.andThen_ok]
 rw[Zyl,Sem.run_bind,H,Result.andThen_ok];unfold retv
 match U with
 |[u]=>exact⟨u,rfl,rfl⟩
 |[]=>exact⟨_,rfl,rfl⟩
 |a::b::r=>exact⟨.tuple (a::b::r).toArray,by simp,rfl⟩
theorem ZkO {B:Base}:∀(l:List Sh) (k:List SV) {E:Env} {H:List Entry} (_:Inv B E H) {vs:List Value} (_:Yu E k vs) (_:∃(S:Nat->Prop) (w:World) (A:Shs l) (F:List Nat),Zfs S w l A vs F) {gs:List Nat} (_:Loose B E H gs) {K:Ios l->Prop} (_:ZlQ l k H K),
  ∃E1 H1 i o,Frz E H E1 H1/\Inv B E1 H1/\Zig E1.S E1.w l i vs o/\K i/\Loose B E1 H1 (o++gs)
 |[],k,E,H,m,vs,j,hf,gs,n,K,h=>⟨E,H,(),[],Frz.refl E H,m,rfl,h,n⟩
 | .io e::r,k,E,H,m,vs,j,⟨S,w,A,F,v,vr,G,fr,q,_,p,D⟩,gs,n,K,h=>by
  simp only[ZlQ]at h;subst q;split at h
  ·rename_i L k
   simp only[Yu]at j;obtain⟨en,I,h⟩:=XB H h;split at h
   ·rename_i cells
    rw[Qa] at h;have z:=j.1;simp only[den] at z;obtain ⟨b,y,z⟩:=z;obtain ⟨Z,C,T,P,Q,R⟩:=m.ent L _ I;have:=y.symm.trans P;simp at this;subst this;have X:Frz E H E (H.set L .gone):=Frz.one I rfl y rfl (Env.le.refl E) (λb V=>.inl V);have Y:=n.take m I rfl y (f:=[b]) (by simp) (λg O=>by
     simp at O;subst O;rfl)
    obtain⟨E1,H1,d,f,x,t,J,h,u,U,_⟩:=Jh (m.drop L) R Y h;obtain⟨E2,H2,i,o,M,a,c,h,N⟩:=ZkO r k t (ZX x.le _ _ j.2) ⟨S,w,A.2,fr,D⟩ u h;refine⟨E2,H2,(d,i),(b::f)++o,(X.trans x).trans M,a,⟨v,vr,b::f,o,rfl,rfl,⟨b,C,T,f,z,by rw[M.w,x.w];exact Q,?_,rfl⟩,c⟩,h,N.perm ?_⟩
    ·exact Y5 M.le.S M.le.w e _ _ _ (λg _=>by rw[M.w]) J
    ·simp only[U3,Uw,Uj]
     rw[<-Uj];refine List.perm_middle.trans (List.Perm.cons b ?_);rw[<-Uj];exact U0.append_right gs
   ·exact h.elim
  ·exact h.elim
 | .back e::r,k,E,H,m,vs,j,⟨S,w,A,F,v,vr,G,fr,q,_,p,D⟩,gs,n,K,h=>by
  simp only[ZlQ]at h;subst q;split at h
  ·rename_i s k
   simp only[Yu]at j;split at h
   ·rename_i W
    obtain⟨E1,H1,d,f,x,t,J,h,u,U,_⟩:=Jh m (Zbe j.1 W) n h;obtain⟨E2,H2,i,o,M,a,c,h,N⟩:=ZkO r k t (ZX x.le _ _ j.2) ⟨S,w,A.2,fr,D⟩ u h;refine⟨E2,H2,(d,i),f++o,x.trans M,a,⟨v,vr,f,o,rfl,rfl,⟨p.1,?_⟩,c⟩,h,N.perm ?_⟩
    ·exact Y5 M.le.S M.le.w e _ _ _ (λg _=>by rw[M.w]) J
    ·rw[<-Uj]
     exact U0.append_right gs
   ·exact h.elim
  ·exact h.elim
 | .dat _::r,k,E,H,m,vs,j,⟨S,w,A,F,v,vr,G,fr,q,_,p,D⟩,gs,n,K,h=>by
  simp only[ZlQ]at h;subst q;split at h
  ·simp only[Yu]at j
   obtain⟨E2,H2,i,o,M,a,c,h,N⟩:=ZkO r _ m j.2 ⟨S,w,A.2,fr,D⟩ n h;exact⟨E2,H2,i,o,M,a,⟨v,vr,rfl,c⟩,h,N⟩
  ·exact h.elim
 | .own _::r,k,E,H,m,vs,j,⟨S,w,A,F,v,vr,G,fr,q,_,p,D⟩,gs,n,K,h=>by
  simp only[ZlQ]at h;subst q;split at h
  ·simp only[Yu]at j
   obtain⟨E2,H2,i,o,M,a,c,h,N⟩:=ZkO r _ m j.2 ⟨S,w,A.2,fr,D⟩ n h;exact⟨E2,H2,i,o,M,a,⟨v,vr,rfl,c⟩,h,N⟩
  ·exact h.elim
theorem Zj5 {w:World} {S:Nat->Prop}:∀(l:List Sh) (d:Shs l) (vs:List Value) (p:List Nat),Zfs S w l d vs p->l.length=vs.length
 |[],_,_,_,h=>by rw[h.1];rfl
 |_::r,d,_,_,⟨v,vr,f,fr,e,_,_,h⟩=>by subst e;simp[Zj5 r d.2 vr fr h]
theorem Inv.more {B:Base} {E:Env} (h:Inv B E H) (j:∀b,B.S b->b<B.w.heap.size/\¬B.io b):Inv B ⟨λb=>E.S b\/B.S b,E.w,E.ids⟩ H/\E.le ⟨λb=>E.S b\/B.S b,E.w,E.ids⟩:=by
 have f:E.le ⟨λb=>E.S b\/B.S b,E.w,E.ids⟩:=⟨λ_ h=>.inl h,λ_ _=>rfl,λ_ _ h=>h⟩;exact ⟨
  {keeps:=h.keeps
   Slt:=λb d=>d.elim (h.Slt b) (λd=>UP (j b d).1 h.keeps.size)
   Sold:=λb d t=>d.elim (λd=>h.Sold b d t) .inl
   len:=h.len,pin:=h.pin
   ent:=λi e l=>ZfE f i e (λ_ _ _ _ _=>rfl) (h.ent i e l)
   free:=λi e v g l m n d=>by
    obtain⟨a,b,c⟩:=h.free i e v g l m n d;refine⟨λq=>q.elim a (λq=>?_),b,c⟩;obtain⟨o,k⟩:=j g q;rcases b with b|b
    ·omega
    ·exact k b
   sep:=h.sep},f⟩
theorem Zi {Δ:Tab} (hΔ:Δ.ok P) (hΓ:Γ.ok P) (hm:P.follows .mixedOrders=true) (A:Ann) {f:FuncId} (hf:P.funcs[f]?=some fn) (G:(fn.name == "runtime.NumGoroutine")=false:=by kernel_rfl) (y:fn.body.isNone=false:=by kernel_rfl) {C:Ctr}
  (b7:∀(J:Shs C.args) (K:Shs C.rets->Ios C.args->Prop),C.tr J K->fnK Δ Γ A C fn J K):Zc P f C:=by
 refine⟨⟨fn,hf,G,y⟩,?_⟩;intro w S vs J F K t T b4 a hK;have D:=b7 J K hK;unfold fnK at D;split at D
 ·exact D.elim
 ·rename_i c m
  let B0:Base:=⟨w,S,λb=>b∈F,[]⟩
  have a6:Inv B0 ⟨S,w,[]⟩ [] :=
   {keeps:=⟨rfl,rfl,rfl,UO _,λ_ _ _=>rfl⟩
    Slt:=t
    Sold:=λb d _=>.inl d
    len:=rfl
    pin:=λ_ _ h=>h
    ent:=λi e W=>by simp at W
    free:=λi e v g W=>by simp at W
    sep:=λi j ei ej vi vj g W=>by simp at W}
  have a8:Loose B0 ⟨S,w,[]⟩ [] (F++[]):=by
   rw[Un];exact⟨b4,λg V=>⟨(a g V).1,.inr V,(a g V).2⟩,λg _ j e v hj=>by simp at hj⟩
  obtain⟨E1,H1,ss,I,O,H,d0,u,D⟩:=Zlo (E:=⟨S,w,[]⟩) C.args J vs a6 T a8 D;rw[Zek,ZuT,Zde,Us,Un]at D;have hl:=Xo _ _ u
  let B:Base:=⟨w,S,λb=>b∈F,E1.ids⟩
  have hI:Inv B E1 H1 :=
   {keeps:=⟨H.keeps.os,H.keeps.tape,H.keeps.output,H.keeps.size,H.keeps.block⟩
    Slt:=H.Slt,Sold:=H.Sold,len:=H.len,pin:=λ_ _ h=>h,ent:=H.ent,free:=H.free,sep:=H.sep}
  refine calls_of_wp hf m ?_;have x:Yu E1 (ss++List.replicate (fn.ntmps-ss.length) (.tup [])) (vs.toArray++Array.replicate (fn.ntmps-vs.toArray.size) undef).toList:=by
   rw[Array.toList_append,Array.toList_replicate,List.toList_toArray,Kk,hl];refine Zdz _ _ u _ _ ?_;have:∀n,Yu E1 (List.replicate n (.tup [])) (List.replicate n undef):=by
    intro n;induction n with
    |zero=>trivial
    |succ n ih=>exact⟨by simp only[den];exact⟨[],rfl,trivial⟩,ih⟩
   exact this _
  rw[<-show E1.w=w from I];refine Ztm hΔ hΓ A hm c 0 _ D (B:=B) ⟨_,rfl,hI,x,rfl⟩ _ ?_;intro e R H' a' w' q b0;obtain ⟨E2,b8,l,b1,Z⟩:=b0;subst b8;rw[show E1.w=w from I];have M:ZH0 Δ C fn.results.toList ss R H' K->bodyPost P fn (λe w'=>∃ v us rs s S' fr o,e=.returned v/\retv us v/\K rs s/\Keeps ⟨w,S,λb=>b∈F,[]⟩ w'/\(∀ b,S b->S' b)/\
    (∀b,S' b->b<w'.heap.size/\(b<w.heap.size->S b\/b∈F))/\Zfs S' w' C.rets rs us fr/\Zig S' w' C.args s vs o/\
    (o++fr).Nodup/\∀ g∈o++fr,¬S' g/\g<w'.heap.size/\(w.heap.size<=g\/g∈F)) .ret a' E2.w:=by
   intro q;unfold ZH0 at q;have a5:∀b,B.S b->b<B.w.heap.size/\¬B.io b:=λb d=>⟨t b d,λk=>(a b k).1 d⟩;obtain⟨L,Y⟩:=l.more a5;obtain⟨b9,us,a4,b2,q⟩:=ZvT hΔ L (ZX Y _ _ b1) _ q;have X:E1.le ⟨λb=>E2.S b\/B.S b,E2.w,E2.ids⟩:=by
    refine⟨λb d=>.inr (by rw[O]at d;exact d),λb d=>?_,λi v hv=>l.pin i v hv⟩;have U:S b:=by rw[O]at d;exact d
    rw[I];exact l.keeps.block b (t b U) (λk=>(a b k).1 U)
   have b6:=ZX X _ _ u;obtain⟨E4,H4,rs,fr,z,a7,b5,q,a9,_⟩:=Zk9 C.rets b9 L b2 (Loose.none _ _ _) q;obtain⟨E5,H5,s,o,p,N,k,q,r⟩:=ZkO C.args ss a7 (ZX z.le _ _ b6) ⟨S,w,J,F,T⟩ a9 q;rw[Un]at r;obtain⟨v,hv,a0⟩:=ZvW a4;have Q:E5.w=E2.w:=by rw[p.w,z.w]
   refine bodyPost_ret hv Z ⟨v,us,rs,s,E5.S,fr,o,rfl,a0,q,?_,λb d=>p.le.S b (z.le.S b (.inr d)),?_,?_,?_,r.nodup,?_⟩
   ·have:=l.keeps
    exact⟨this.os,this.tape,this.output,this.size,this.block⟩
   ·intro b d
    exact⟨by rw[<-Q];exact N.Slt b d,λb3=>N.Sold b d b3⟩
   ·show Zfs E5.S E2.w C.rets rs us fr
    rw[<-Q];exact ZuD p.le _ _ _ _ (λg _=>by rw[p.w]) b5
   ·show Zig E5.S E2.w C.args s vs o
    rw[<-Q];exact k
   ·intro g V
    obtain⟨a1,a2,a3⟩:=r.free g V;exact⟨a1,by rw[<-Q];exact a3,a2⟩
  cases e with
  |normal=>exact M q
  |ret=>exact M q
  |_=>exact q.elim
def Yk {α:Type} (o:Option α) (k:α->Prop):Prop:=∃r,o=some r/\k r
def iterM {σ ρ:Type} (step:σ->Option (σ⊕ρ)):Nat->σ->Option ρ
 |0,_=>none
 |n+1,v=>match step v with
  |none=>none
  |some (.inl v')=>iterM step n v'
  |some (.inr r)=>some r
theorem ZnO {σ ρ:Type} {step:σ->Option (σ⊕ρ)} {r:ρ}:∀{n m:Nat} {v:σ},iterM step n v=some r->n<=m->iterM step m v=some r
 |0,_,_,h,_=>by simp[iterM]at h
 |n+1,0,_,_,R=>by omega
 |n+1,m+1,v,h,R=>by
  simp only[iterM]at h ⊢;split at h
  ·cases h
  ·exact ZnO h (by omega)
  ·exact h
variable {σ ρ:Type} {step:σ->Option (σ⊕ρ)} {r:ρ} {v:σ}
theorem ZAf {R:ρ} {m:Nat} (h:iterM step n v=some r) (H:iterM step m v=some R):r=R:=by
 have d:=ZnO h (Nat.le_max_left n m);have f:=ZnO H (Nat.le_max_right n m);rw[d]at f;injection f
noncomputable def ZA {σ ρ:Type} (step:σ->Option (σ⊕ρ)) (v:σ):Option ρ :=
 open Classical in if h:∃r n,iterM step n v=some r then some (Classical.choose h)else none
theorem Zkh:ZA step v=some r<->∃n,iterM step n v=some r:=by
 unfold ZA;constructor
 ·intro h
  split at h
  ·rename_i l
   obtain⟨n,f⟩:=KS l;injection h with h;rw[h]at f;exact⟨n,f⟩
  ·cases h
 ·rintro⟨n,f⟩
  have l:∃r n,iterM step n v=some r:=⟨r,n,f⟩;rw[dif_pos l];obtain⟨m,R⟩:=KS l;rw[ZAf R f]
theorem ZqS {σ ρ:Type} (step:σ->Option (σ⊕ρ)) (v:σ):ZA step v=match step v with
  |none=>none
  |some (.inl v')=>ZA step v'
  |some (.inr r)=>some r:=by
 apply Option.ext;intro r;rw[Zkh];constructor
 ·rintro⟨n,f⟩
  cases n with
  |zero=>simp[iterM]at f
  |succ n =>
   simp only[iterM]at f;split
   ·rename_i e;rw[e]at f;cases f
   ·rename_i v' e;rw[e]at f;exact Zkh.2 ⟨n,f⟩
   ·rename_i R e;rw[e]at f;exact f
 ·intro h
  split at h
  ·cases h
  ·rename_i v' e
   obtain⟨n,f⟩:=Zkh.1 h;exact⟨n+1,by simp only[iterM,e];exact f⟩
  ·rename_i R e
   exact⟨1,by simp only[iterM,e];exact h⟩
theorem Xk {v':σ} (h:step v=some (.inl v')):ZA step v=ZA step v':=by rw[ZqS,h]
theorem Y1 (h:step v=some (.inr r)):ZA step v=some r:=by rw[ZqS,h]
theorem Zh0 (I:σ->Prop) (μ:σ->Nat) (Q:ρ->Prop) (m:I v)
  (s:∀v,I v->(∃v',step v=some (.inl v')/\I v'/\μ v'<μ v)\/∃r,step v=some (.inr r)/\Q r):∃r,ZA step v=some r/\Q r:=by
 have:∀n v,I v->μ v<n->∃r,ZA step v=some r/\Q r:=by
  intro n;induction n with
  |zero=>intro v _ h;omega
  |succ n a =>
   intro v i H;rcases s v i with⟨v',e,q,t⟩|⟨r,e,b⟩
   ·obtain⟨r,d,f⟩:=a v' q (by omega)
    exact⟨r,by rw[Xk e];exact d,f⟩
   ·exact⟨r,Y1 e,b⟩
 exact this (μ v+1) v m (by omega)
def atI {α:Type} (l:List α) (i:Int):Option α:=if 0<=i then l[i.toNat]? else none
noncomputable def Zy {α:Type} (p:Prop) (a:Option α):Option α:=open Classical in if p then a else none
section
variable {α β:Type} {A B:Prop} {r:β} {a b:Option β}
variable {q:Prop}
theorem Zdu {_:Decidable q} (h:(if q then a else b)=some r) (n:a=some r->A) (c:b=some r->B):(decide q=true->A)/\(decide q=false->B):=by
 by_cases H:q
 ·rw[Uc H]at h;exact⟨λ_=>n h,λe=>by simp[H]at e⟩
 ·rw[Ue H]at h;exact⟨λe=>by simp[H]at e,λ_=>c h⟩
theorem ZFY {_:Decidable q} (h:(if q then a else b)=some r) (n:a=some r->A) (H:b=some r->B):(decide q=false->B)/\(decide q=true->A):=⟨(Zdu h n H).2,(Zdu h n H).1⟩
variable {p:Bool}
theorem Zu3 (h:(if p=true then a else b)=some r) (n:a=some r->A) (H:b=some r->B):(p=true->A)/\(p=false->B):=by
 cases p
 ·exact⟨λe=>(by cases e),λ_=>H h⟩
 ·exact⟨λ_=>n h,λe=>(by cases e)⟩
theorem ZFX (h:(if p=true then a else b)=some r) (n:a=some r->A) (H:b=some r->B):(p=false->B)/\(p=true->A):=⟨(Zu3 h n H).2,(Zu3 h n H).1⟩
theorem ZqX (h:(p=true->A)/\(p=false->B)):((!p)=false->A)/\((!p)=true->B):=⟨λe=>h.1 (by simpa using e),λe=>h.2 (by simpa using e)⟩
theorem ZqQ (h:(p=true->A)/\(p=false->B)):((!p)=true->B)/\((!p)=false->A):=⟨(ZqX h).2,(ZqX h).1⟩
variable {p:Prop}
theorem Zro (h:Zy p a=some r) (n:p->a=some r->A):p/\A:=by
 unfold Zy at h;split at h
 ·rename_i g;exact⟨g,n g h⟩
 ·cases h
variable {i:Int} {f:α->Option β}
theorem vAt {l:List α} {A:α->Prop} (h:(atI l i).bind f=some r) (n:∀x,0<=i->i<(l.length:Int)->l[i.toNat]?=some x->f x=some r->A x) :
  0<=i/\i<(l.length:Int)/\∀x,l[i.toNat]?=some x->A x:=by
 unfold atI at h;split at h
 ·rename_i m
  cases H:l[i.toNat]? with
  |none=>rw[H]at h;cases h
  |some x =>
   rw[H]at h;have t:=(Ua.1 H).1;exact⟨m,by omega,λy a=>by injection a with a;subst a;exact n x m (by omega) H h⟩
 ·cases h
theorem atE {l:List α} (h:(atI l i).bind f=some r):∃x,0<=i/\i<(l.length:Int)/\l[i.toNat]?=some x/\f x=some r:=by
 unfold atI at h;split at h
 ·rename_i m
  cases H:l[i.toNat]? with
  |none=>rw[H]at h;cases h
  |some x =>
   rw[H]at h;have t:=(Ua.1 H).1;exact⟨x,m,by omega,rfl,h⟩
 ·cases h
theorem guardE (h:Zy p a=some r):p/\a=some r:=by
 unfold Zy at h;split at h
 ·rename_i g;exact⟨g,h⟩
 ·cases h
variable {k:α->Prop}
theorem Xt {o:Option α} (h:o.bind f=some r) (a:∀x,o=some x->f x=some r->k x):∃x,o=some x/\k x:=by
 cases H:o with
 |none=>rw[H]at h;cases h
 |some x=>rw[H]at h;exact⟨x,rfl,a x H h⟩
theorem Zyw {o:Option α} (h:o.bind f=some r) (H:∀x,o=some x->f x=some r->k x):∀x,o=some x->k x:=by
 intro x l;rw[l]at h;exact H x l h
theorem ZO {o:Option α} {y:α} {G:α->Prop} (n:o=some y) (k:G y):∀x,o=some x->G x:=by
 intro x l;rw[n]at l;injection l with l;subst l;exact k
theorem ZqP {σ ρ:Type} {step:σ->Option (σ⊕ρ)} {v0:σ} {r:ρ} (h:ZA step v0=some r) {P:(σ->Prop)->(σ->Nat)->σ->Prop}
  (b:∀(I:σ->Prop) (μ:σ->Nat) (v:σ) (s:σ⊕ρ),step v=some s->(∀v',s=.inl v'->I v'/\μ v'<μ v)->(∀R,s=.inr R->R=r)->P I μ v) :
  ∃I μ,I v0/\∀v,I v->P I μ v:=by
 obtain⟨n0,H⟩:=Zkh.1 h
 let I:σ->Prop:=λv=>∃n,iterM step n v=some r
 classical
 let μ:σ->Nat:=λv=>if h:∃n,iterM step n v=some r then Classical.choose (Zlj h)else 0
 have hμ:∀v (h:∃n,iterM step n v=some r),iterM step (μ v) v=some r/\∀m,iterM step m v=some r->μ v<=m:=by
  intro v h;have:μ v=Classical.choose (Zlj h):=by simp only[μ,dif_pos h]
  rw[this];exact KS (Zlj h)
 refine⟨I,μ,⟨n0,H⟩,λv c=>?_⟩;have d:=(hμ v c).1;cases a:μ v with
 |zero=>rw[a]at d;simp[iterM]at d
 |succ m =>
  rw[a]at d;simp only[iterM]at d;split at d
  ·cases d
  ·rename_i v' e
   refine b I μ v _ e (λV E=>?_) (λR E=>by cases E);injection E with E;subst E
   exact⟨⟨m,d⟩,by have:=(hμ v' ⟨m,d⟩).2 m d;omega⟩
  ·rename_i R e
   refine b I μ v _ e (λV E=>by cases E) (λf E=>?_);injection E with E;subst E;injection d
end
def D1 (a r:Ty) (f:a.den->Option r.den):Ctr:=⟨[.dat a],[.dat r],λx K=>Zr x λp _=>Yk (f p) λr=>K (r,()) ()⟩
def D2 (a b r:Ty) (f:a.den->b.den->Option r.den):Ctr:=⟨[.dat a,.dat b],[.dat r],λx K=>Zr x λp x=>Zr x λq _=>Yk (f p q) λr=>K (r,()) ()⟩
def D3 (a b c r:Ty) (f:a.den->b.den->c.den->Option r.den):Ctr:=⟨[.dat a,.dat b,.dat c],[.dat r],λx K=>Zr x λp x=>Zr x λq x=>Zr x λs _=>Yk (f p q s) λr=>K (r,()) ()⟩
def D4 (a b c d r:Ty) (f:a.den->b.den->c.den->d.den->Option r.den):Ctr:=⟨[.dat a,.dat b,.dat c,.dat d],[.dat r],λx K=>Zr x λp x=>Zr x λq x=>Zr x λs x=>Zr x λt _=>Yk (f p q s t) λr=>K (r,()) ()⟩
variable {A B:Prop}
theorem Zjq {T:Prop} (h:T->A) (g:T->B) (t:T):A/\B:=⟨h t,g t⟩
theorem ZjM (k:B):ZGn/\B:=⟨trivial,k⟩
variable {α:Type} {G:α->Prop}
theorem ZKe {v:α} (k:G v):∀x,x=v->G x:=λ_ e=>e▸k
theorem ZFd {o:Option α} (k:∀x,o=some x->G x):∀x,o=some x->G x:=k
theorem ZKf {o:Option α} (k:∃x,o=some x/\G x):∃x,o=some x/\G x:=k
variable {y:α}
theorem ZnB {o:Option α} (n:o=some y) (k:G y):∃x,o=some x/\G x:=⟨y,n,k⟩
variable {i:Int}
theorem ZKc {l:List α} (k:0<=i/\i<(l.length:Int)/\∀x,l[i.toNat]?=some x->G x):0<=i/\i<(l.length:Int)/\∀x,l[i.toNat]?=some x->G x:=k
theorem Znp {l:List α} (n:0<=i) (b:i<(l.length:Int)) (h:l[i.toNat]?=some y) (k:G y):0<=i/\i<(l.length:Int)/\∀x,l[i.toNat]?=some x->G x:=⟨n,b,ZO h k⟩
variable {x y:Bool}
theorem ZKd {p:Bool} (k:(p=x->A)/\(p=y->B)):(p=x->A)/\(p=y->B):=k
theorem shD {q:Prop} {_:Decidable q} (k:(decide q=x->A)/\(decide q=y->B)):(decide q=x->A)/\(decide q=y->B):=k
theorem ZFf {p:Bool} (k:((!p)=x->A)/\((!p)=y->B)):((!p)=x->A)/\((!p)=y->B):=k
theorem ZFe {l:List α} (k:(l=[]->A)/\B):(l=[]->A)/\B:=k
theorem ZFg {l:List Oper} {n:Nat} {K:Oper->Prop} (k:ZAC l n K/\B):ZAC l n K/\B:=k
variable {P:Prop}
theorem orL {a:α} {Q:Prop} (k:P):(a=a/\P)\/Q:=.inl ⟨rfl,k⟩
theorem ZEy {x:α} (h:none=some x):P:=by cases h
variable {σ:Type} {P:(σ->Prop)->(σ->Nat)->σ->Prop} {v0:σ}
theorem ZBa (k:∃I μ,I v0/\∀v,I v->P I μ v):∃I μ,I v0/\∀v,I v->P I μ v:=k
variable {ρ:Type} {r:ρ} {G:Prop}
theorem ZBA {step:σ->Option (σ⊕ρ)} (h:ZA step v0=some r) (k:G)
  (b:∀(I:σ->Prop) (μ:σ->Nat) (v:σ) (s:σ⊕ρ),step v=some s->((∀v',s=.inl v'->I v'/\μ v'<μ v)/\(∀R,s=.inr R->R=r)/\G)->P I μ v) :
  ∃I μ,I v0/\∀v,I v->P I μ v:=ZqP h λI μ v s d f g=>b I μ v s d ⟨f,g,k⟩
theorem pB {β:Type} {o:Option α} {f:α->Option β} {r:β} (h:o.bind f=some r) (k:∀x,o=some x->f x=some r->G):G:=by
 obtain⟨x,d,H⟩:=Uv.1 h;exact k x d H
theorem pA {β:Type} {l:List α} {f:α->Option β} {r:β} (h:(atI l i).bind f=some r) (k:∀x,0<=i->i<(l.length:Int)->l[i.toNat]?=some x->f x=some r->G):G:=by
 obtain⟨x,d,H,g,a⟩:=atE h;exact k x d H g a
theorem pG {p:Prop} {a:Option α} {r:α} (h:Zy p a=some r) (k:p->a=some r->G):G:=k (guardE h).1 (guardE h).2
theorem pS {a r:α} (h:some a=some r) (k:a=r->G):G:=k (Option.some.inj h)
theorem pR {P:Prop} {a:ρ} (h:A/\(∀R,(.inr a:σ⊕ρ)=.inr R->R=r)/\G) (k:a=r->G->P):P:=k (h.2.1 _ rfl) h.2.2
noncomputable def ZGW {ρ:Type} (g:Nat->Option ρ):Option ρ :=
 open Classical in if h:∃r n,g n=some r then some (Classical.choose h)else none
theorem ZAU {g:Nat->Option ρ} (h:ZGW g=some r):∃n,g n=some r:=by
 unfold ZGW at h;split at h
 ·rename_i l
  obtain⟨n,f⟩:=KS l;injection h with h;rw[h]at f;exact⟨n,f⟩
 ·cases h
end Go.Sx
namespace Go.Sx
set_option linter.unusedVariables false
set_option linter.unusedSimpArgs false
open Go.RowKit Go.ChangeShapes Go.WideShapes
mutual
def Zct (P:Program):Ty->TypeId->Bool
 | .int k,T=>ZwP k (P.underlying T)
 | .bool,T=>ZsF (P.underlying T)
 | .str,T=>ZwQ (P.underlying T)
 | .sl t,T=>match P.underlying T with
  |some (.slice e)=>Zct P t e&&P.cellsOf e==t.size&&decide (0<t.size)
  |_=>false
 | .pair a b,T=>match P.underlying T with
  |some (.struct s)=>match s.toList with
   |f::l=>Zct P a f.type&&f.offset==0&&P.cellsOf f.type==a.size&&Zkk P b l a.size&&P.cellsOf T==a.size+b.size
   |[]=>false
  |_=>false
 |_,_=>false
def Zkk (P:Program):Ty->List Field->Nat->Bool
 | .unit,l,_=>l.isEmpty
 | .pair a b,l,o=>match l with
  |f::l=>Zct P a f.type&&f.offset==o&&P.cellsOf f.type==a.size&&Zkk P b l (o+a.size)
  |[]=>false
 |_,_,_=>false
end
def bnd:(t:Ty)->t.den->Prop
 | .int k,n=>k.min<=n/\n<=k.max
 | .str,s=>(s.length:Int)<=9223372036854775807
 | .sl t,l=>(l.length:Int)<=9223372036854775807/\∀x∈l,bnd t x
 | .pair a b,d=>bnd a d.1/\bnd b d.2
 |_,_=>True
section
variable {H:Type} {enc:TypeId×Value->H} {P:Program} {w:World} {spare:Nat->Bool} {held:Bool}
theorem ZGw (s:ByteArray):(⟨s.data.toList.toArray⟩:ByteArray)=s:=by
 cases s;simp
theorem ZAW {t:Ty} {S:Nat->Prop} {p:Addr} {n:Nat} (j:t.size=n):∀(len:Nat) (s:List (List Value)),s.length=len->
  (∀(i:Nat) (cs:List Value),s[i]?=some cs->cs.length=n/\∃d:t.den,rep S w t d cs/\bnd t d)->
  ∃l:List t.den,l.length=len/\Vt (rep S w t) l s.flatten/\∀x∈l,bnd t x:=by
 intro len;induction len with
 |zero =>
  intro s q _;have:s=[]:=UI q;subst this;exact⟨[],rfl,rfl,by simp⟩
 |succ len I =>
  intro s q h;cases s with
  |nil=>simp at q
  |cons cs s =>
   obtain⟨_,d,N,b⟩:=h 0 cs rfl;obtain⟨l,a,f,g⟩:=I s (by simpa using q) (λi c e=>h (i+1) c (by simpa using e));refine⟨d::l,by simp[a],⟨cs,s.flatten,by simp,N,f⟩,?_⟩;intro x H;rcases UD.1 H with rfl|H
   ·exact b
   ·exact g x H
theorem ZpG {n:Nat}:∀(s:List (List Value)) (_:∀cs∈s,cs.length=n) (i j:Nat) (cs:List Value) (_:s[i]?=some cs) (_:j<n),s.flatten[i*n+j]?=cs[j]?
 |[],_,i,j,cs,h,_=>by simp at h
 |c::s,q,0,j,cs,h,b=>by
  simp at h;subst h;have:=q c (by simp);simp[Ut (show j<c.length by omega)]
 |c::s,q,i+1,j,cs,h,b=>by
  have H:=q c (by simp);have:=ZpG s (λx l=>q x (by simp[l])) i j cs (by simpa using h) b;rw[List.flatten_cons,UE (by rw[H,Kc];omega),H,show(i+1)*n+j-n=i*n+j by rw[Kc];omega];exact this
theorem ZpH {n:Nat}:∀(s:List (List Value)) (_:∀cs∈s,cs.length=n),s.flatten.length=s.length*n
 |[],_=>by simp
 |c::s,q=>by
  have h:=q c (by simp);have:=ZpH s (λx l=>q x (by simp[l]));simp only[List.flatten_cons,Ug,Um,this,h,Kc];omega
mutual
theorem Zpm:∀(ty:Ty) (F:Nat) (T:TypeId) (cs:List Value) (x:DataW H×List MemPlace),Zct P ty T=true->DataW.trod enc P w 0 spare held F T cs=some x->
  ∃d:ty.den,rep (λb=>b<w.heap.size) w ty d cs/\bnd ty d
 | .int k,F,T,cs,x,o,h=>by
  simp only[Zct]at o;obtain⟨n,q,_,hw⟩:=DataW.trod_int (ZkP o) h;exact⟨n,q,(by simpa[Go.Lit.wf]using hw:k.min<=n/\n<=k.max)⟩
 | .bool,F,T,cs,x,o,h=>by
  simp only[Zct]at o;obtain⟨b,q,_⟩:=DataW.trod_bool (ZnL o) h;exact⟨b,q,trivial⟩
 | .str,F,T,cs,x,o,h=>by
  simp only[Zct]at o;obtain⟨s,q,_,hs⟩:=DataW.trod_string (Zp2 o) h;refine⟨s.data.toList,?_,?_⟩
  ·show cs=[.string ⟨s.data.toList.toArray⟩]
   rw[q,ZGw]
  ·show(s.data.toList.length:Int)<=_
   clear h q;have:s.data.toList.length=s.size:=by cases s;rfl
   unfold maxLen at hs;omega
 | .sl t,F,T,cs,x,o,h=>by
  unfold Zct at o;split at o
  ·rename_i e J
   simp only[Ur,Kl,Ul]at o;obtain⟨⟨o,Y⟩,I⟩:=o;rcases DataW.trod_slice J h with⟨q,_⟩|⟨a,len,a0,a1,rest,n,rfl,rfl,_,_,b1,N,a9,v,_⟩
   ·refine⟨[],?_,by show((0:Nat):Int)<=9223372036854775807;omega,λx hx=>(by cases hx)⟩
    show rep _ w (.sl t) [] cs;exact⟨none,0,by rw[q];rfl,by simp,λ_=>rfl,.inl rfl⟩
   ·-- the elements' cells
    have Q:∃C:List (List Value),C.length=len/\∀(i:Nat) (c:List Value),C[i]?=some c->w.cells? 0 (a.add (i*t.size)) t.size=some c/\∃d:t.den,rep (λb=>b<w.heap.size) w t d c/\bnd t d:=by
     have:∀m,m<=len->∃C:List (List Value),C.length=m/\∀(i:Nat) (c:List Value),C[i]?=some c->w.cells? 0 (a.add (i*t.size)) t.size=some c/\∃d:t.den,rep (λb=>b<w.heap.size) w t d c/\bnd t d:=by
      intro m;induction m with
      |zero=>intro _;exact⟨[],rfl,by simp⟩
      |succ m ih =>
       intro hm;obtain⟨C,q,G⟩:=ih (by omega);have U:=v m (by omega);rw[Ub (by omega)]at U;obtain⟨c,B,a3⟩:=Uv.1 U;rw[Y]at B;obtain⟨d,hd,M⟩:=Zpm t n e c _ o a3;refine⟨C++[c],by simp[q],λi c' z=>?_⟩;by_cases b0:i<m
       ·rw[Ut (by omega)]at z
        exact G i c' z
       ·have:i=m:=by
         have:=(Ua.1 z).1;simp[q]at this;omega
        subst this;rw[UE (by omega),q]at z;simp at z;subst z;exact⟨B,d,hd,M⟩
     exact this len (UO _)
    obtain⟨C,O,X⟩:=Q;have r:∀c∈C,c.length=t.size:=by
     intro c B;obtain⟨i,z⟩:=UC.1 B;exact(World.cells?_some (X i c z).1).2.1
    obtain⟨l,hl,hr,M⟩:=ZAW (S:=λb=>b<w.heap.size) (w:=w) (t:=t) (p:=a) rfl len C O (λi c z=>⟨r c (Ud z),(X i c z).2⟩);refine⟨l,?_,by unfold maxLen at N;omega,M⟩;refine⟨some a,a0,by rw[hl],by omega,λe=>(by cases e),?_⟩;cases C with
    |nil =>
     left;simp at O;exact UI (by omega)
    |cons c0 C =>
     right;have K:=(X 0 c0 rfl).1;rw[Nat.zero_mul]at K;have L:a.add 0=a:=by unfold Addr.add;simp
     rw[L]at K;have A:a.spot=none:=by
      have q:=(World.cells?_some K).2.2 0 I;rw[L]at q;have a7:=(World.cells?_some K).2.1;rw[Ub (by omega)]at q;unfold World.cell? at q;split at q
      ·split at q
       ·cases q
       ·rename_i hs;simpa using hs
      ·cases q
     refine⟨a,(c0::C).flatten,rfl,A,World.cells?_block K I,λj u J=>?_,hr⟩;have W:=(Ua.1 J).1;rw[ZpH _ r]at W;have R:j/t.size*t.size+j%t.size=j:=by rw[Nat.mul_comm];exact Nat.div_add_mod j t.size
     have hq:j/t.size<(c0::C).length:=by rw[Nat.div_lt_iff_lt_mul I];exact W
     obtain⟨c,B⟩:∃c,(c0::C)[j/t.size]?=some c:=⟨_,Ub hq⟩;have G:=ZpG (c0::C) r (j/t.size) (j%t.size) c B (Nat.mod_lt _ I);rw[R,J]at G;have Z:=(World.cells?_some (X _ c B).1).2.2 (j%t.size) (Nat.mod_lt _ I);rw[add_add _ _ _ A,R]at Z;rw[Z];exact G.symm
  ·cases o
 | .pair a b,F,T,cs,x,o,h=>by
  unfold Zct at o;split at o
  ·rename_i fs J
   split at o
   ·rename_i f fl D
    simp only[Ur,Kl]at o;obtain⟨⟨⟨⟨q,G⟩,Z⟩,h4⟩,h5⟩:=o;obtain⟨xs,n,rfl,_,a8,b2,v⟩:=DataW.trod_struct J h;have Y:fs.size=fl.length+1:=by
     have:=UN List.length D;simpa using this
    have a5:fs[0]?=some f:=by
     have:=UN (·[0]?) D;simpa using this
    have U:=v 0 f a5;rw[Ub (by omega),G,Z]at U;obtain⟨d,hd,M⟩:=Zpm a n f.type _ _ q U;have E:∀(i:Nat) (g:Field),fl[i]?=some g->∃y,DataW.trod enc P w 0 spare held n g.type ((cs.drop g.offset).take (P.cellsOf g.type))=some y:=by
     intro i g V;have a6:fs[i+1]?=some g:=by
      have:=UN (·[i+1]?) D;simp only[Kg,V,KP]at this;exact this
     have:=v (i+1) g a6;have z:=(Ua.1 V).1;rw[Ub (by omega)]at this;exact⟨_,this⟩
    obtain⟨d2,a4,a2⟩:=ZuS b n fl a.size cs h4 (by omega) E;refine⟨(d,d2),⟨(cs.drop 0).take a.size,cs.drop a.size,by simp,hd,a4⟩,M,a2⟩
   ·cases o
  ·cases o
 | .unit,_,_,_,_,o,_=>by simp[Zct]at o
 | .ptr _,_,_,_,_,o,_=>by simp[Zct]at o
 | .fn _ _,_,_,_,_,o,_=>by simp[Zct]at o
 | .nptr _,_,_,_,_,o,_=>by simp[Zct]at o
 | .mp _ _,_,_,_,_,o,_=>by simp[Zct]at o
theorem ZuS:∀(ty:Ty) (n:Nat) (l:List Field) (o:Nat) (cs:List Value),Zkk P ty l o=true->cs.length=o+ty.size->
  (∀(i:Nat) (g:Field),l[i]?=some g->∃y,DataW.trod enc P w 0 spare held n g.type ((cs.drop g.offset).take (P.cellsOf g.type))=some y)->
  ∃d:ty.den,rep (λb=>b<w.heap.size) w ty d (cs.drop o)/\bnd ty d
 | .unit,n,l,o,cs,H,q,h=>by
  refine⟨(),?_,trivial⟩;show cs.drop o=[];simp only[Ty.size]at q;exact List.drop_eq_nil_of_le (by omega)
 | .pair a b,n,l,o,cs,H,q,h=>by
  unfold Zkk at H;split at H
  ·rename_i f l
   simp only[Ur,Kl]at H;obtain⟨⟨⟨j,k⟩,p⟩,r⟩:=H;obtain⟨y,e⟩:=h 0 f rfl;rw[k,p]at e;obtain⟨d,N,s⟩:=Zpm a n f.type _ _ j e;obtain⟨D,c,m⟩:=ZuS b n l (o+a.size) cs r (by simp only[Ty.size]at q;omega) (λi g t=>h (i+1) g (by simpa using t));refine⟨(d,D),⟨(cs.drop o).take a.size,cs.drop (o+a.size),?_,N,c⟩,s,m⟩;rw[<-List.drop_drop];exact(KH _ _).symm
  ·cases H
 | .int _,_,_,_,_,H,_,_=>by simp[Zkk]at H
 | .bool,_,_,_,_,H,_,_=>by simp[Zkk]at H
 | .str,_,_,_,_,H,_,_=>by simp[Zkk]at H
 | .sl _,_,_,_,_,H,_,_=>by simp[Zkk]at H
 | .ptr _,_,_,_,_,H,_,_=>by simp[Zkk]at H
 | .fn _ _,_,_,_,_,H,_,_=>by simp[Zkk]at H
 | .nptr _,_,_,_,_,H,_,_=>by simp[Zkk]at H
 | .mp _ _,_,_,_,_,H,_,_=>by simp[Zkk]at H
end
variable {p:List MemPlace} {base:Nat}
theorem ZBv {ty:Ty} {T:TypeId} {v:Value} {d:DataW H} (f:Zct P ty T=true) (c:Value.okWide P w .any base T v) (h:DataW.Trod enc P w 0 spare held T v d p) :
  ∃x:ty.den,ZGj (λb=>b<w.heap.size) w ty x v/\bnd ty x:=by
 obtain⟨l,h⟩:=h;obtain⟨x,j,i⟩:=Zpm ty l T _ _ f h;refine⟨x,⟨?_,?_,j⟩,i⟩
 ·intro n
  cases ty with
  |pair a b =>
   unfold Zct at f;split at f
   ·rename_i s u
    obtain⟨cs,X,_⟩:=okWide_struct u c;exact⟨cs,X⟩
   ·cases f
  |unit=>simp[Zct]at f
  |_=>simp[Ty.agg]at n
 ·intro n
  have g:∀cs,v≠.agg cs:=by
   intro cs e;subst e;cases ty with
   |int k=>simp only[Zct]at f;simp[Value.okWide,ZkP f,Cell.okWide,Cell.ok]at c
   |bool=>simp only[Zct]at f;simp[Value.okWide,ZnL f,Cell.okWide,Cell.ok]at c
   |str=>simp only[Zct]at f;simp[Value.okWide,Zp2 f,Cell.okWide,Cell.ok]at c
   |sl t =>
    unfold Zct at f;split at f
    ·rename_i e u;simp[Value.okWide,u,Cell.okWide,Cell.ok]at c
    ·cases f
   |pair a b=>simp[Ty.agg]at n
   |unit=>simp[Ty.agg]at n
   |ptr _=>simp[Zct]at f
   |fn _ _=>simp[Zct]at f
   |nptr _=>simp[Zct]at f
   |mp _ _=>simp[Zct]at f
  cases v<;>first|rfl|exact absurd rfl (g _)
def Zoq:List Ty->List Sh
 |[]=>[]
 |t::r=>.dat t::Zoq r
def ZH8:(l:List Ty)->Shs (Zoq l)->Prop
 |[],_=>True
 |t::r,d=>bnd t d.1/\ZH8 r d.2
def ZnF (P:Program):List Ty->List TypeId->Bool
 |[],[]=>true
 |t::r,T::q=>Zct P t T&&ZnF P r q
 |_,_=>false
theorem ZqN {base:Nat}:∀(l:List Ty) (g:List TypeId) (vs:List Value) (s:List (DataW H)) (p:List MemPlace),ZnF P l g=true->
  (∀(j:Nat) t v,g[j]?=some t->vs[j]?=some v->Value.okWide P w .any base t v)->DataW.TrodAll enc P w 0 spare held g vs s p->
  ∃a:Shs (Zoq l),Zfs (λb=>b<w.heap.size) w (Zoq l) a vs []/\ZH8 l a
 |[],[],vs,s,p,_,_,h=>by
  obtain⟨rfl,_,_⟩:=trodAll_nil h;exact⟨(),⟨rfl,rfl⟩,trivial⟩
 |t::r,T::q,vs,s,p,f,c,h=>by
  simp only[ZnF,Ur]at f;obtain⟨v,V,d,D,p1,z,rfl,rfl,rfl,i,k⟩:=trodAll_cons h;obtain⟨x,y,m⟩:=ZBv f.1 (c 0 T v rfl rfl) i;obtain⟨a,o,e⟩:=ZqN r q V D z f.2 (λj t v n u=>c (j+1) t v (by simpa using n) (by simpa using u)) k;exact⟨(x,a),⟨v,V,[],[],rfl,rfl,⟨rfl,y⟩,o⟩,m,e⟩
 |[],_::_,_,_,_,f,_,_=>by simp[ZnF]at f
 |_::_,[],_,_,_,f,_,_=>by simp[ZnF]at f
theorem Znj (q:laidOutB P=true) {W W':World} (c:Below W.heap.size W W'):∀(T:List TypeId) (vs:List Value) (s:List (DataW H)) (p:List MemPlace),(T.all λt=>P.readableRec t&&decide (t<P.types.size))=true->
  DataW.TrodAll enc P W 0 (λ_=>true) true T vs s p->(∀x∈p,x.block<W.heap.size)->DataW.TrodAll enc P W' 0 (λb=>decide (b<W.heap.size)) true T vs s p
 |[],vs,s,p,_,h,_=>by
  obtain⟨rfl,rfl,rfl⟩:=trodAll_nil h;rfl
 |t::T,vs,s,p,F,h,a=>by
  simp only[List.all_cons,Ur,Ul]at F;obtain⟨v,V,d,D,p1,e,rfl,rfl,rfl,f,g⟩:=trodAll_cons h;exact⟨p1,e,Below.trod q F.1.1 F.1.2 f c (λx l=>a x (by simp[l])),Znj q c T V D e F.2 g (λx l=>a x (by simp[l])),rfl⟩
theorem ZAk {f:FuncId} {l:List Ty} {tr:Shs (Zoq l)->(Shs [.dat .bool]->Ios (Zoq l)->Prop)->Prop} (z:Zc P f ⟨Zoq l,[.dat .bool],tr⟩)
  (c:∀s:Shs (Zoq l),ZH8 l s->tr s (λr _=>r.1=true)) {T:List TypeId} {args:Array Value} {D:List (DataW H)} (B:ZnF P l T=true)
  (g:∀(j:Nat) t v,T[j]?=some t->args[j]?=some v->Value.okWide P w .any base t v) (h:DataW.TrodAll enc P w 0 spare held T args.toList D p) :
  Calls P f args w λe w'=>e=.returned (.bool true)/\Below w.heap.size w w':=by
 obtain⟨s,o,d⟩:=ZqN l T args.toList D p B (λj t v C m=>g j t v C (by simpa using m)) h;have x:=z.2 w (λb=>b<w.heap.size) args.toList s [] (λr _=>r.1=true) (λb h=>h) o KW (by simp) (c s d);have A:args.toList.toArray=args:=by simp
 rw[A]at x;refine x.mono ?_;rintro e w' ⟨v,Q,R,J,S',fr,F,rfl,a,E,k,N,O,G,_⟩;obtain⟨u,U,K,L,rfl,_,⟨_,I⟩,i⟩:=G;obtain⟨rfl,_⟩:=i;simp only[retv]at a;subst a;refine⟨?_,k.os,k.tape,k.output,k.size,λb d=>k.block b d (by simp)⟩;obtain⟨M,y,n⟩:=I;have m:=y rfl;rw[m]at n;have q:[v]=[.bool R.1]:=n;simp at q;rw[q,E]
end
end Go.Sx
