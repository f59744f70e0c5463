/-
  Maps: made, looked up, written. Keys: numbers, and structs of numbers.
-/
import Derived.Test.YtjkccpcebpeadaaGreatDoorE0
import Derived.MapKept
import Derived.Orders
import Derived.KernelRfl
import Derived.ProofKit
import Derived.Below
import Derived.Carry
namespace Go.Sx
set_option linter.unusedVariables false
set_option linter.unusedSimpArgs false
def ZoS:EqD->Nat->Ty->Bool
 | .nil,_,.unit=>true
 | .int k o r,n,.pair (.int K) t=>decide (k=K)&&decide (o=n)&&ZoS r (n+1) t
 |_,_,_=>false
def Zyu (i:TI) (t:Ty):Bool:=match i.kind with
 | .int k=>decide (t=.int k)
 | .st=>!i.eqd.isNil&&decide (i.eqd.depth<=1000)&&ZoS i.eqd 0 t
 |_=>false
def keq:(t:Ty)->t.den->t.den->Bool
 | .int _,x,y=>decide (x=y)
 | .pair a b,x,y=>keq a x.1 y.1&&keq b x.2 y.2
 |_,_,_=>true
def ZwM (k v:Ty):List (k.den×v.den)->k.den->Option v.den
 |[],_=>none
 |d::l,x=>if keq k x d.1=true then some d.2 else ZwM k v l x
def ZyI (k v:Ty):List (k.den×v.den)->k.den->v.den->List (k.den×v.den)
 |[],x,y=>[(x,y)]
 |d::l,x,y=>if keq k x d.1=true then(x,y)::l else d::ZyI k v l x y
def fnd {k v:Ty}:List (k.den×v.den)->k.den->List MapEntry->Nat->Option (Nat×Value)
 |[],_,_,_=>none
 |d::l,x,s,i=>match s with
  |[]=>none
  |e::r=>if keq k x d.1=true then some (i,e.val)else fnd l x r (i+1)
theorem Zp8 {k v:Ty} {R:k.den->List Value->Prop} {Q:v.den->List Value->Prop} {b V:Bool} {x:k.den}:∀(d:List (k.den×v.den)) (s:List MapEntry) (i:Nat),ZeK R Q b V d s->
  (fnd d x s i=none/\ZwM k v d x=none)\/∃j u y e K,fnd d x s i=some (i+j,u)/\ZwM k v d x=some y/\Ziq V u/\Q y u.cells.toList/\s[j]?=some e/\keq k x K=true/\Ziq b e.key/\R K e.key.cells.toList
 |[],s,i,h=>.inl ⟨rfl,rfl⟩
 |d::l,s,i,⟨e,r,e1,f1,r1,f2,r2,n⟩=>by
  subst e1;by_cases a:keq k x d.1=true
  ·exact .inr ⟨0,e.val,d.2,e,d.1,by simp[fnd,a],by simp[ZwM,a],f2,r2,rfl,a,f1,r1⟩
  ·rcases Zp8 (x:=x) l r (i+1) n with⟨H,f⟩|⟨j,u,y,E,K,H,f,g,c,m,F⟩
   ·exact .inl ⟨by simp[fnd,a,H],by simp[ZwM,a,f]⟩
   ·exact .inr ⟨j+1,u,y,E,K,by simp only[fnd,a,Uj,H];simp;omega,by simp[ZwM,a,f],g,c,by simpa using m,F⟩
theorem ZtA {k v:Ty} {R:k.den->List Value->Prop} {Q:v.den->List Value->Prop} {b c:Bool} {x:k.den} {y:v.den} {K V:Value} {born:Nat} (g:Ziq b K) (H:R x K.cells.toList) (j:Ziq c V) (q:Q y V.cells.toList) :
  ∀(d:List (k.den×v.den)) (s:List MapEntry) (i:Nat),ZeK R Q b c d s->fnd d x s i=none->ZeK R Q b c (ZyI k v d x y) (s++[⟨K,V,born⟩])
 |[],s,i,h,_=>by
  have:s=[]:=h;subst this;exact⟨⟨K,V,born⟩,[],rfl,g,H,j,q,rfl⟩
 |d::l,s,i,⟨e,r,e1,f1,r1,f2,r2,m⟩,f=>by
  subst e1;by_cases a:keq k x d.1=true
  ·simp[fnd,a]at f
  ·simp only[fnd,Ue a]at f
   have:=ZtA (born:=born) g H j q l r (i+1) m f;simp only[ZyI,Ue a];exact⟨e,r++[⟨K,V,born⟩],rfl,f1,r1,f2,r2,this⟩
theorem ZtB {k v:Ty} {R:k.den->List Value->Prop} {Q:v.den->List Value->Prop} {K V:Bool} {x:k.den} {y:v.den} {b g:Value} (n:Ziq K b) (m:R x b.cells.toList) (o:Ziq V g) (q:Q y g.cells.toList) :
  ∀(d:List (k.den×v.den)) (s:List MapEntry) (i j:Nat) (u:Value),ZeK R Q K V d s->fnd d x s i=some (i+j,u)->ZeK R Q K V (ZyI k v d x y) (s.modify j λe=>{e with key:=b,val:=g})
 |[],s,i,j,u,h,f=>by simp[fnd]at f
 |d::l,s,i,j,u,⟨e,r,e1,f1,r1,f2,r2,c⟩,f=>by
  subst e1;by_cases a:keq k x d.1=true
  ·simp only[fnd,a,Uk]at f
   have:j=0:=by
    injection f with f
    injection f with f _
    omega
   subst this;simp only[ZyI,a,Uk,List.modify_zero_cons];exact⟨_,r,rfl,n,m,o,q,c⟩
  ·simp only[fnd,Ue a]at f
   cases j with
   |zero =>
    rcases Zp8 (x:=x) l r (i+1) c with⟨H,_⟩|⟨J,U,Y,E,p,H,_⟩
    ·rw[H]at f;simp at f
    ·rw[H]at f
     simp at f;have:=f.1;omega
   |succ j =>
    have:=ZtB n m o q l r (i+1) j u c (by rw[show i+1+j=i+(j+1) by omega];exact f);simp only[ZyI,Ue a,List.modify_succ_cons];exact⟨e,_,rfl,f1,r1,f2,r2,this⟩
section
variable {P:Program}
open Go.MapKept
variable {q:EqD} {t:Ty}
theorem VZ {o:Nat} (h:ZoS q o t=true):(q=.nil/\t=.unit)\/∃k r t',q=.int k o r/\t=.pair (.int k) t'/\ZoS r (o+1) t'=true:=by
 unfold ZoS at h;split at h
 ·exact .inl ⟨rfl,rfl⟩
 ·simp only[Up,Ul]at h
  obtain⟨⟨rfl,rfl⟩,h⟩:=h;exact .inr ⟨_,_,_,rfl,rfl,h⟩
 ·cases h
variable {S:Nat->Prop} {w:World}
theorem ZwG:∀(q:EqD) (o:Nat) (t:Ty),ZoS q o t=true->∀(x y:t.den) (vs s:List Value),rep S w t x vs->rep S w t y s->keq t x y=true->vs=s/\∀u∈vs,∃k n,u=.int k n:=by
 intro q;induction q with
 |nil =>
  intro o t h x y vs s d f _;rcases VZ h with⟨_,rfl⟩|⟨_,_,_,e,_⟩
  ·have d:vs=[]:=d
   have f:s=[]:=f;rw[d,f];simp
  ·cases e
 |int k o' r i =>
  intro o t h x y vs s d f c;rcases VZ h with⟨e,_⟩|⟨K,R,t',e,rfl,m⟩
  ·cases e
  ·injection e with e1 E j
   subst e1;subst E;subst j;obtain⟨v1,V,e1,d,G⟩:=d;obtain⟨U,v,E,g,l⟩:=f;simp only[keq,Up,Ul]at c;obtain⟨a,b⟩:=i _ t' m x.2 y.2 V v G l c.2;have d:v1=[.int k x.1]:=d;have g:U=[.int k y.1]:=g;subst d;subst g;subst e1;subst E;subst a;rw[c.1];refine⟨rfl,λu H=>?_⟩;simp only[U0,Uq,Us]at H;rcases H with rfl|H
   ·exact⟨_,_,rfl⟩
   ·exact b u H
 |bool o' r i=>intro o t h;rcases VZ h with⟨e,_⟩|⟨_,_,_,e,_⟩<;>cases e
 |str o' r i=>intro o t h;rcases VZ h with⟨e,_⟩|⟨_,_,_,e,_⟩<;>cases e
 |st o' z F r I p=>intro o t h;rcases VZ h with⟨e,_⟩|⟨_,_,_,e,_⟩<;>cases e
theorem Zrx {n:Nat}:∀(q:EqD) (o:Nat) (t:Ty) (l:List Field),ZoS q o t=true->q.fits P l=true->∀(x y:t.den) (p1 p2 vs u:List Value),p1.length=o->p2.length=o->rep S w t x vs->rep S w t y u->∀w',
  (Op.eqFields (n+1) (p1++vs).toArray (p2++u).toArray l).run P w'=.ok (keq t x y) w':=by
 intro q;induction q with
 |nil =>
  intro o t l h a x y p1 p2 vs u Y Z d b w';rcases VZ h with⟨_,rfl⟩|⟨_,_,_,e,_⟩
  ·simp only[EqD.fits,KZ]at a
   subst a;rfl
  ·cases e
 |int k o' r I =>
  intro o t l h a x y p1 p2 vs u Y Z d b w';rcases VZ h with⟨e,_⟩|⟨K,R,t',e,rfl,p⟩
  ·cases e
  ·injection e with e1 E c
   subst e1;subst E;subst c;cases l with
   |nil=>simp[EqD.fits]at a
   |cons f l =>
    simp only[EqD.fits,Up,bne_iff_ne,Kb]at a;obtain⟨⟨⟨f1,f2⟩,F⟩,j⟩:=a;obtain⟨v1,V,e1,d,G⟩:=d;obtain⟨U,A,E,g,m⟩:=b;have d:v1=[.int k x.1]:=d;have g:U=[.int k y.1]:=g;subst d;subst g;subst e1;subst E;have H:=ZiL F;have i:=I _ t' l p j x.2 y.2 (p1++[.int k x.1]) (p2++[.int k y.1]) V A (by simp[Y]) (by simp[Z]) G m w';simp only[Un]at i;refine ZdX f1 (Zeb H rfl (v:=.int k x.1) ?_ w') (Zeb H rfl (v:=.int k y.1) ?_ w') (by rw[run_equalIn_int w' n f.type k k x.1 y.1 H,Zbj];rfl) i
    ·rw[f2,<-Y];simp
    ·rw[f2,<-Z];simp
 |bool o' r I=>intro o t l h;rcases VZ h with⟨e,_⟩|⟨_,_,_,e,_⟩<;>cases e
 |str o' r I=>intro o t l h;rcases VZ h with⟨e,_⟩|⟨_,_,_,e,_⟩<;>cases e
 |st o' C B r s z=>intro o t l h;rcases VZ h with⟨e,_⟩|⟨_,_,_,e,_⟩<;>cases e
variable {T:TypeId} {k:IntKind}
theorem Zml (h:P.underlying T=some (.int k)) (e:Bool) (n:Nat) (K:IntKind) (a:Int) (w:World):(Instr.checkKey e (n+1) T (.int K a)).run P w=.ok () w:=by
 unfold Instr.checkKey;simp only[Sem.run_bind,run_underlying h,Result.andThen_ok];rfl
variable {vs:List Value}
theorem ZwH {s:Array Field} (A:P.underlying T=some (.struct s)) (m:Bool) {w0:World} (z:ZoS q 0 t=true) (H:q.fits P s.toList=true) (n:Nat) {x:t.den} (E:rep S w0 t x vs) (w:World) :
  (Instr.checkKey m (n+2) T (.agg vs.toArray)).run P w=.ok () w:=by
 rw[show n+2=(n+1)+1 from rfl,Instr.checkKey];simp only[Sem.run_bind,run_underlying A,Result.andThen_ok];rw[<-Array.forIn_toList];generalize s.toList=L at H;have g:∀(q:EqD) (o:Nat) (t:Ty) (L:List Field),ZoS q o t=true->q.fits P L=true->∀(x:t.den) (pre u:List Value),pre.length=o->pre++u=vs->rep S w0 t x u->
   (forIn L PUnit.unit λf r=>do
    if f.name≠ "_" then do
     let v <-part f.type vs.toArray f.offset
     Instr.checkKey m (n+1) f.type v
     pure (ForInStep.yield PUnit.unit)
    else pure (ForInStep.yield PUnit.unit):Sem PUnit).run P w=.ok () w:=by
  intro q;induction q with
  |nil =>
   intro o t L h H x pre u _ _ _;rcases VZ h with⟨_,rfl⟩|⟨_,_,_,e,_⟩
   ·simp only[EqD.fits,KZ]at H
    subst H;simp
   ·cases e
  |int k o' r i =>
   intro o t L h H x pre u b l E;rcases VZ h with⟨e,_⟩|⟨K,R,t',e,rfl,a⟩
   ·cases e
   ·injection e with e1 c j
    subst e1;subst c;subst j;cases L with
    |nil=>simp[EqD.fits]at H
    |cons f L =>
     simp only[EqD.fits,Up,bne_iff_ne,Kb]at H;obtain⟨⟨⟨f1,f2⟩,F⟩,p⟩:=H;obtain⟨v1,V,e1,d,G⟩:=E;have d:v1=[.int k x.1]:=d;subst d;subst e1;have y:=ZiL F;have p1:=Zeb (P:=P) y rfl (cs:=vs.toArray) (o:=f.offset) (v:=.int k x.1) (by rw[f2,<-b,<-l];simp) w;have p2:=Zml (P:=P) y m n k x.1 w;have I:=i _ t' L a p x.2 (pre++[.int k x.1]) V (by simp[b]) (by rw[<-l];simp) G;simp only[List.forIn_cons,Sem.run_bind,f1,ne_eq,not_false_eq_true,Uk,Result.andThen_ok,p1,p2,Sem.run_pure];exact I
  |bool o' r i=>intro o t L h;rcases VZ h with⟨e,_⟩|⟨_,_,_,e,_⟩<;>cases e
  |str o' r i=>intro o t L h;rcases VZ h with⟨e,_⟩|⟨_,_,_,e,_⟩<;>cases e
  |st o' D s r B C=>intro o t L h;rcases VZ h with⟨e,_⟩|⟨_,_,_,e,_⟩<;>cases e
 exact(Ka (λr=>Result.andThen r _) (g q 0 t L z H x [] vs rfl rfl E)).trans rfl
structure Zte (P:Program) (T:TypeId) (t:Ty):Prop where
 check:∀(S:Nat->Prop) (w0:World) (x:t.den) (v:Value),Ziq t.agg v->rep S w0 t x v.cells.toList->∀(em:Bool) (w:World),(Instr.checkKey em 10000 T v).run P w=.ok () w
 find:∀(S:Nat->Prop) (w0:World) (x:t.den) (v:Value),Ziq t.agg v->rep S w0 t x v.cells.toList->∀(u:Ty) (Q:u.den->List Value->Prop) (va:Bool) (d:List (t.den×u.den)) (es:List MapEntry),ZeK (rep S w0 t) Q t.agg va d es->∀(w:World),(Instr.findKey T v es).run P w=.ok (fnd d x es 0) w
 stays:∀(S:Nat->Prop) (w0:World) (x y:t.den) (v v':Value),Ziq t.agg v->rep S w0 t x v.cells.toList->Ziq t.agg v'->rep S w0 t y v'.cells.toList->keq t x y=true->∀(w:World),(Instr.keyThatStays v' v).run P w=.ok v w
theorem ZuJ (h:P.underlying T=some (.int k)):Zte P T (.int k) where
 check S w0 x v hf E em w:=by
  have q:=hf.2 rfl;rw[q]at E;have E:[v]=[.int k x]:=E;simp at E;subst E;exact Zml h em 9999 k x w
 find S w0 x v hf E u Q va d s f w:=by
  have q:=hf.2 rfl;rw[q]at E;have E:[v]=[.int k x]:=E;simp at E;subst E;have g:∀(d:List (Int×u.den)) (s:List MapEntry) (i:Nat),ZeK (rep S w0 (.int k)) Q false va d s->Instr.findNow (.int k) (.int k x) s i=some (fnd (k:=.int k) d x s i):=by
   intro d;induction d with
   |nil =>
    intro s i f;have:s=[]:=f;subst this;rfl
   |cons d l I =>
    rintro s i ⟨e,r,rfl,f1,r1,f2,r2,R⟩;have c:=f1.2 rfl;rw[c]at r1;have r1:[e.key]=[.int k d.1]:=r1;simp at r1;by_cases a:x=d.1
    ·simp[Instr.findNow,r1,Instr.sameNow,fnd,keq,a]
    ·have j:(x==d.1)=false:=by rw[Zbj];simp[a]
     simp[Instr.findNow,r1,Instr.sameNow,fnd,keq,a,I r (i+1) R,j]
  have:=g d s 0 f;unfold Instr.findKey;rw[Sem.run_bind,run_underlying h,Result.andThen_ok,this];rfl
 stays S w0 x y v v' hf E hf' H a w:=by
  have q:=hf.2 rfl;rw[q]at E;have E:[v]=[.int k x]:=E;simp at E;subst E;have b:=hf'.2 rfl;rw[b]at H;have H:[v']=[.int k y]:=H;simp at H;subst H;simp only[keq,Ul]at a;subst a;simp[Instr.keyThatStays,Instr.sameBits]
theorem ZwF {g:TI} (h:Zdi P T g) (hk:g.kind=.st) (W:g.eqd.isNil=false) (q:ZoS g.eqd 0 t=true):Zte P T t:=by
 have H:=h.eqd;simp only[W,Bool.false_or]at H;split at H
 ·rename_i L o
  simp only[Up,UO]at H;obtain⟨⟨e1,K⟩,e3⟩:=H;have j:t.agg=true:=by
   rcases VZ q with⟨_,rfl⟩|⟨_,_,_,_,rfl,_⟩<;>rfl
  have C:P.fieldsOf T=L:=by simp[Program.fieldsOf,o]
  have B:∀(S:Nat->Prop) (w0:World) (x y:t.den) (vs U:List Value),rep S w0 t x vs->rep S w0 t y U->∀w,(Op.equal T (.agg vs.toArray) (.agg U.toArray)).run P w=.ok (keq t x y) w:=by
   intro S w0 x y vs U N O w;show(Op.equalIn (9999+1) T _ _).run P w=_;rw[run_equalIn_struct w 9999 T _ _ (by rw[C];exact o) e1,C];exact Zrx (n:=9998) g.eqd 0 t L.toList q K x y [] [] vs U rfl rfl N O w
  have c:∀(v:Value),Ziq t.agg v->v=.agg v.cells.toList.toArray:=by
   intro v f;obtain⟨cs,rfl⟩:=f.1 j;simp[Value.cells]
  refine⟨λS w0 x v f E M w=>?_,λS w0 x v f E u Q Z d s z w=>?_,λS w0 x y v v' f E D I J w=>?_⟩
  ·rw[c v f]
   exact ZwH o M q K 9998 E w
  ·rw[c v f]
   have G:∀(d:List (t.den×u.den)) (s:List MapEntry) (i:Nat),ZeK (rep S w0 t) Q t.agg Z d s->(Instr.findAsking T (.agg v.cells.toList.toArray) s i).run P w=.ok (fnd d x s i) w:=by
    intro d;induction d with
    |nil =>
     intro s i H;have:s=[]:=H;subst this;rfl
    |cons d l X =>
     rintro s i ⟨e,r,rfl,f1,r1,f2,r2,Y⟩;have:=B S w0 x d.1 _ _ E r1 w;rw[<-c e.key f1]at this;simp only[Instr.findAsking,Sem.run_bind,this,Result.andThen_ok,fnd];by_cases q:keq t x d.1=true
     ·simp[q]
     ·simp only[q]
      exact X r (i+1) Y
   unfold Instr.findKey;rw[Sem.run_bind,run_underlying o,Result.andThen_ok];cases s with
   |nil =>
    cases d with
    |nil=>rfl
    |cons=>obtain⟨_,_,e,_⟩:=z;cases e
   |cons e r=>exact G d (e::r) 0 z
  ·obtain⟨a,b⟩:=ZwG g.eqd 0 t q x y _ _ E I J
   rw[c v f,c v' D,<-a];have V:Instr.sameBits 10000 (.agg v.cells.toList.toArray) (.agg v.cells.toList.toArray)=true:=by
    show Instr.sameBits (9999+1) _ _=true;simp only[Instr.sameBits,beq_self_eq_true,KE,Kw];intro p R;obtain⟨i,A⟩:=UA.1 R;rw[List.getElem?_zip_eq_some]at A;have:p.1=p.2:=by
     have:=A.1.symm.trans A.2;simpa using this
    obtain⟨k,m,F⟩:=b p.1 (Ud A.1);rw[<-this,F];simp[Instr.sameBits]
   unfold Instr.keyThatStays;rw[Uc V];rfl
 ·cases H
theorem Zrw {i:TI} (h:Zdi P T i) (H:Zyu i t=true):Zte P T t:=by
 unfold Zyu at H;split at H
 ·rename_i k d
  simp only[Ul]at H;subst H;exact ZuJ (h.intOf d)
 ·rename_i d
  simp only[Up,UO,Ul]at H;exact ZwF h d H.1.1 H.2
 ·cases H
def SV.isA:SV->Bool
 | .agg _=>true
 |_=>false
variable {E:Env} {s:SV} {v:Value} {b:Bool}
theorem ZwA (h:den E s v) (c:s.whole=true) (H:b=s.isA):Ziq b v:=by
 subst H;constructor
 ·intro m
  cases s<;>simp[SV.isA]at m
  simp only[den]at h;obtain⟨vs,e,_⟩:=h;exact⟨_,e⟩
 ·intro m
  have d:s.one=true:=by cases s<;>simp_all[SV.isA,SV.whole,SV.one]
  exact(ZiS h d).1
def ZET (t:Ty) (cs:List SV) (K:SV->Prop):Prop :=
 if t.agg=true then K (.agg cs)else match cs with
  |c::_=>K c
  |[]=>False
variable {K:SV->Prop}
theorem Zz4 (h:Ziq t.agg v) {cs:List SV} (L:Yf E cs v.cells.toList) (H:ZET t cs K):∃s,den E s v/\K s:=by
 obtain⟨d,f⟩:=h;unfold ZET at H;split at H
 ·rename_i m
  obtain⟨cs,rfl⟩:=d m;exact⟨.agg _,by simp only[den];exact⟨cs.toList,by simp,L⟩,H⟩
 ·rename_i m
  have a:=f (by simpa using m);split at H
  ·rename_i c r
   rw[a]at L;simp only[Yf]at L;exact⟨c,L.1,H⟩
  ·exact H.elim
def Zzi (b:Bool):Value->Bool
 | .agg _=>b
 |_=>!b
theorem Zzj (h:Zzi b v=true):Ziq b v:=by
 cases b
 ·refine⟨λh=>(by cases h),λ_=>?_⟩
  cases v<;>first|rfl|(simp[Zzi]at h)
 ·refine⟨λ_=>?_,λh=>(by cases h)⟩
  cases v<;>first|exact⟨_,rfl⟩|(simp[Zzi]at h)
def ZE4 (s:SV) (H:List Entry) (K:(k v:Ty)->List (k.den×v.den)->Prop):Prop :=
 match s with
 | .mp k v d=>K k v d
 | .mown I=>ZgN H I λe=>match e with
  | .mpe k v d=>K k v d
  | .frm k v d=>K k v d
  |_=>False
 |_=>False
def MapAt (E:Env) (x:Value) (k v:Ty) (d:List (k.den×v.den)):Prop :=
 (d=[]/\x=.map none)\/∃b s C,x=.map (some b)/\E.w.heap[b]?=some (.map s C)/\ZeK (rep E.S E.w k) (rep E.S E.w v) k.agg v.agg d s.toList
variable {B:Base} {H:List Entry} {x:Value}
theorem ZAv (m:Inv B E H) (q:den E s x) {K:(k v:Ty)->List (k.den×v.den)->Prop} (a:ZE4 s H K):∃k v d,MapAt E x k v d/\K k v d:=by
 have D:∀(k v:Ty) (d:List (k.den×v.den)),rep E.S E.w (.mp k v) d [x]->MapAt E x k v d:=by
  intro k v d h;rcases h with⟨c,f⟩|⟨b,g,C,c,_,f,i⟩
  ·simp at f;exact .inl ⟨c,f⟩
  ·simp at c;exact .inr ⟨b,g,C,c,f,i⟩
 unfold ZE4 at a;split at a
 ·rename_i k v d
  simp only[den]at q;exact⟨k,v,d,D k v d q,a⟩
 ·rename_i I
  obtain⟨e,l,a⟩:=Y0 H a;simp only[den]at q;split at a
  ·rename_i k v d
   obtain⟨b,g,C,c,f,i⟩:=m.ent I _ l;have:=q.1.symm.trans c;simp at this;subst this;exact⟨k,v,d,.inr ⟨b,g,C,rfl,f,i⟩,a⟩
  ·rename_i k v d
   obtain⟨u,c,f⟩:=m.ent I _ l;have:=q.1.symm.trans c;simp at this;subst this;exact⟨k,v,d,D k v d f,a⟩
  ·exact a.elim
 ·exact a.elim
def ZsN (Δ:Tab) (t:TI) (x i:SV) (ok:Bool) (H:List Entry) (K:SV->Prop):Prop :=
 match t.kind with
 | .mp A c=>Zc5 Δ A λT=>Zc5 Δ c λe=>ZE4 x H λk v d =>
  if i.whole=true/\k.agg=i.isA/\Zyu T k=true/\Zzi v.agg e.zero=true then X0 k i.cells λkey r1=>match r1 with
   |[]=>ZoC e.zero λZ=>X0 v Z λz r2=>match r2 with
    |[]=>Vv v ((ZwM k v d key).getD z) λcs=>ZET v cs λs=>if ok=true then K (.tup [s,.bool (ZwM k v d key).isSome])else K s
    |_=>False
   |_=>False
  else False
 |_=>False
variable {t:TI}
theorem Zdi.map (h:Zdi P T t) {A c:TypeId} (H:t.kind=.mp A c):P.underlying T=some (.map A c):=by
 obtain⟨d,L,u⟩:=h.get;rw[H]at u;cases d<;>simp[Zvq]at u
 obtain⟨rfl,rfl⟩:=u;exact L
theorem Zm5 (h:Yf E [] vs):vs=[]:=by
 cases vs with
 |nil=>rfl
 |cons=>simp[Yf]at h
theorem ZuQ {A c:TypeId} (t:P.underlying T=some (.map A c)) {k:Ty} (KR:Zte P A k) {z:Value} (e:∀w,(zeroValue c).run P w=.ok z w) {v:Ty} {d:List (k.den×v.den)} (Q:MapAt E x k v d)
  {i:Value} {key:k.den} (h:Ziq k.agg i) (r:rep E.S E.w k key i.cells.toList) (ok:Bool) :
  ∃s,ZeK (rep E.S E.w k) (rep E.S E.w v) k.agg v.agg d s/\(Instr.lookup T x i ok).run P E.w=.ok (if ok=true then .tuple #[((fnd d key s 0).map (·.2)).getD z,.bool (fnd d key s 0).isSome]else((fnd d key s 0).map (·.2)).getD z) E.w:=by
 have J:∀ (s:Array MapEntry),ZeK (rep E.S E.w k) (rep E.S E.w v) k.agg v.agg d s.toList->((do
   Instr.checkKey s.isEmpty 10000 A i
   let (v,o) <-match <-Instr.findKey A i s.toList with
    |some (_,v)=>pure (v,true)
    |none=>pure (<-zeroValue c,false)
   pure (if ok then .tuple #[v,.bool o] else v):Sem Value)).run P E.w=.ok (if ok=true then .tuple #[((fnd d key s.toList 0).map (·.2)).getD z,.bool (fnd d key s.toList 0).isSome] else ((fnd d key s.toList 0).map (·.2)).getD z) E.w:=by
  intro s l;have H:=KR.check _ _ key i h r s.isEmpty E.w;have f:=KR.find _ _ key i h r v _ _ d s.toList l E.w;simp only[Sem.run_bind,H,f,Result.andThen_ok];cases fnd d key s.toList 0 with
  |none=>simp[e]
  |some p=>simp
 rcases Q with⟨rfl,rfl⟩|⟨b,s,C,rfl,a,l⟩
 ·refine⟨[],rfl,?_⟩
  have:=J #[] rfl;unfold Instr.lookup;simp only[Sem.run_bind,run_underlying t,Result.andThen_ok,Sem.run_pure]at this ⊢;exact this
 ·refine⟨s.toList,l,?_⟩
  have:=J s l;unfold Instr.lookup;simp only[Sem.run_bind,run_underlying t,Result.andThen_ok,Sem.run_pure,Go.MapKept.run_getObj_map a]at this ⊢;exact this
variable {Δ:Tab}
theorem ZuP (hΔ:Δ.ok P) (X:Inv B E H) {L:TI} (h:Zdi P T L) {x i:SV} {N M:Value} (hx:den E x N) (J:den E i M) {ok:Bool} (a:ZsN Δ L x i ok H K) :
  ∃u s,(Instr.lookup T N M ok).run P E.w=.ok u E.w/\den E s u/\K s:=by
 unfold ZsN at a;split at a
 ·rename_i kt R o
  obtain⟨tk,A,a⟩:=Xw Δ hΔ a;obtain⟨G,t,a⟩:=Xw Δ hΔ a;obtain⟨k,v,d,hm,a⟩:=ZAv X hx a;split at a
  ·rename_i Y
   obtain⟨c1,c2,O,Q⟩:=Y;have n:=ZwA J c1 c2;obtain⟨key,r1,v1,v2,e1,r,p,a⟩:=XD k _ _ _ (JJ J c1) a;split at a
   ·have:=Zm5 p
    subst this;rw[Um]at e1;subst e1;obtain⟨zc,D,a⟩:=Zf9 E _ _ a;obtain⟨z,r2,z1,z2,I,F,q,a⟩:=XD v _ _ _ D a;split at a
    ·have:=Zm5 q
     subst this;rw[Um]at I;subst I;obtain⟨a0,c,_,_,C⟩:=t.info';have hz:∀w,(zeroValue R).run P w=.ok G.zero w:=λw=>by simp[zeroValue,typeInfo,c,C]
     obtain⟨g,Z,l⟩:=ZuQ (h.map o) (Zrw A O) hz hm n r ok;rw[Qg]at a;have V:∃u,((fnd d key g 0).map (·.2)).getD G.zero=u/\Ziq v.agg u/\rep E.S E.w v ((ZwM k v d key).getD z) u.cells.toList/\(fnd d key g 0).isSome=(ZwM k v d key).isSome:=by
      rcases Zp8 (x:=key) d g 0 Z with⟨b,f⟩|⟨j,u,y,e,kd,b,f,U,W,_⟩
      ·exact⟨G.zero,by rw[b];rfl,Zzj Q,by rw[f];exact F,by rw[b,f];rfl⟩
      ·exact⟨u,by rw[b];rfl,U,by rw[f];exact W,by rw[b,f];rfl⟩
     obtain⟨u,hu,hf,hr,hs⟩:=V;rw[hu,hs]at l;obtain⟨s,m,a⟩:=Zz4 hf (XB v _ _ hr) a;cases ok
     ·simp only[UN,Uj]at a l
      exact⟨_,s,l,m,a⟩
     ·simp only[Uk]at a l
      refine⟨_,_,l,?_,a⟩;simp only[den];exact⟨[u,.bool (ZwM k v d key).isSome],rfl,m,by simp only[den],trivial⟩
    ·exact a.elim
   ·exact a.elim
  ·exact a.elim
 ·exact a.elim
def Ztb (Δ:Tab) (t:TI) (x i y:SV) (H:List Entry) (K:List Entry->Prop):Prop :=
 match t.kind,x with
 | .mp A c,.mown I=>Zc5 Δ A λT=>ZgN H I λe=>match e with
  | .mpe k v d=>if i.whole=true/\k.agg=i.isA/\Zyu T k=true/\y.whole=true/\v.agg=y.isA then X0 k i.cells λkey r1=>match r1 with
   |[]=>X0 v y.cells λV r2=>match r2 with
    |[]=>ZhD H I (.mpe k v (ZyI k v d key V)) K
    |_=>False
   |_=>False
   else False
  |_=>False
 |_,_=>False
theorem grownBy_set {b:Nat} {o o':Obj} (h:w.heap[b]?=some o):w.grownBy {w with heap:=w.heap.setIfInBounds b o'} (some b) :=
 ⟨rfl,rfl,rfl,by simp,λi _ l=>(Go.MapKept.heap_set h).2 i (λe=>l (by rw[e]))⟩
theorem Zvh (hΔ:Δ.ok P) (G:Inv B E H) {ti:TI} (h:Zdi P T ti) {x i y:SV} {vx V n:Value} (Z:den E x vx) (hi:den E i V) (hy:den E y n) {K:List Entry->Prop} (a:Ztb Δ ti x i y H K) :
  ∃E' H',(Instr.mapUpdate T vx V n).run P E.w=.ok () E'.w/\Inv B E' H'/\E.le E'/\K H':=by
 unfold Ztb at a;split at a
 ·rename_i kt et id M
  obtain⟨tk,R,a⟩:=Xw Δ hΔ a;obtain⟨e,L,a⟩:=Y0 H a;split at a
  ·rename_i k v d
   split at a
   ·rename_i hc
    obtain⟨c1,c2,c3,W,c5⟩:=hc;have l:=ZwA hi c1 c2;have F:=ZwA hy W c5;obtain⟨key,r1,v1,v2,e1,r,O,a⟩:=XD k _ _ _ (JJ hi c1) a;split at a
    ·have:=Zm5 O
     subst this;rw[Um]at e1;subst e1;obtain⟨val,r2,z1,z2,Y,D,Q,a⟩:=XD v _ _ _ (JJ hy W) a;split at a
     ·have:=Zm5 Q
      subst this;rw[Um]at Y;subst Y;rw[Xu]at a;obtain⟨b,s,C,h1,q,z⟩:=G.ent id _ L;simp only[den]at Z;have o:=Z.1;have:=Z.1.symm.trans h1;simp at this;subst this;have KR:=Zrw R c3;have hT:=h.map M;have k1:=KR.check _ _ key V l r false E.w;have k2:=KR.find _ _ key V l r v _ _ d s.toList z E.w;have J:∀(f:Array MapEntry) (c:Nat),(Instr.mapUpdate T (.map (some b)) V n).run P E.w=.ok () {E.w with heap:=E.w.heap.setIfInBounds b (.map f c)}->
        ZeK (rep E.S E.w k) (rep E.S E.w v) k.agg v.agg (ZyI k v d key val) f.toList->∃E' H',(Instr.mapUpdate T (.map (some b)) V n).run P E.w=.ok () E'.w/\Inv B E' H'/\E.le E'/\K H':=by
       intro f c A t;have hg:=grownBy_set (w:=E.w) (o':=.map f c) q;have N:¬E.S b:=(G.free id _ (.map (some b)) b L rfl o rfl).1;have m:=ZdY hg G.Slt (λg e=>by simp at e;subst e;exact N);refine⟨⟨E.S,_,E.ids⟩,_,A,G.write L rfl o hg (.mpe k v (ZyI k v d key val)) ?_,m,a⟩;exact⟨b,f,c,o,(Go.MapKept.heap_set q).1,ZbS (λd vs=>Yo m.S m.w k d vs) (λd vs=>Yo m.S m.w v d vs) _ _ t⟩
      have U:(Instr.mapUpdate T (.map (some b)) V n).run P E.w=(match fnd d key s.toList 0 with
        | some (j,_)=>(do
          let key' <-Instr.keyThatStays ((s[j]?.map MapEntry.key).getD V) V
          setObj b (.map (s.modify j λe=>{e with key:=key',val:=n}) C):Sem Unit)
        | none=>setObj b (.map (s.push {key:=V,val:=n,born:=C}) (C+1))).run P E.w:=by
       unfold Instr.mapUpdate;simp only[Sem.run_bind,run_underlying hT,Result.andThen_ok,Go.MapKept.run_getObj_map q,k1,k2];cases fnd d key s.toList 0 with
       |none=>rfl
       |some p=>rfl
      rcases Zp8 (x:=key) d s.toList 0 z with⟨f1,f2⟩|⟨j,u,y',X,kd,f1,f2,f3,f4,f5,f6,f7,f8⟩
      ·refine J (s.push ⟨V,n,C⟩) (C+1) ?_ ?_
       ·rw[U,f1]
        exact Go.MapKept.run_setObj_map _ q
       ·rw[Array.toList_push]
        exact ZtA l r F D d s.toList 0 z f1
      ·have I:s[j]?=some X:=by simpa using f5
       refine J (s.modify j λe=>{e with key:=V,val:=n}) C ?_ ?_
       ·rw[U,f1]
        have:=KR.stays _ _ key kd V X.key l r f7 f8 f6 E.w;simp only[Uw,I,Kl,UQ,Sem.run_bind,this,Result.andThen_ok];exact Go.MapKept.run_setObj_map _ q
       ·rw[Array.toList_modify]
        exact ZtB l r F D d s.toList 0 j u z f1
     ·exact a.elim
    ·exact a.elim
   ·exact a.elim
  ·exact a.elim
 ·exact a.elim
def Zqn (t:TI) (H:List Entry) (K:SV->List Entry->Prop):Prop :=
 match t.kind with
 | .mp _ _=>Zsg H 0 λn=>ZpT H [.mpe t.ty t.ety []] λH'=>K (.mown n) H'
 |_=>False
theorem ZsO (m:Inv B E H) (h:Zdi P T t) {K:SV->List Entry->Prop} (k:Zqn t H K) :
  ∃u E' H' s,(Instr.makeMap T none).run P E.w=.ok u E'.w/\Inv B E' H'/\E.le E'/\den E' s u/\K s H'/\Grow E.w E'.w:=by
 unfold Zqn at k;split at k
 ·rw[Zb7,ZaQ,Uw]at k
  have e:=ZpS m (.map #[] 0) (.map (some E.w.heap.size));have d:(E.ids++[Value.map (some E.w.heap.size)])[H.length]?=some (.map (some E.w.heap.size)):=by
   rw[<-m.len];simp
  refine⟨.map (some E.w.heap.size),⟨E.S,E.w.alloc (.map #[] 0),E.ids++[.map (some E.w.heap.size)]⟩,_,_,?_,m.alloc (.map #[] 0) _ _ rfl ?_,e,?_,k,Zcr _ _⟩
  ·simp[Instr.makeMap]
  ·exact⟨_,#[],0,d,Go.heap_alloc_new _ _,rfl⟩
  ·simp only[den]
   exact⟨d,_,rfl⟩
 ·exact k.elim
end
section
variable {P:Program}
def ZuE (R:List SV):List Operand->(List SV->Prop)->Prop
 |[],K=>K []
 |x::r,K=>JE R x λs=>ZuE R r λl=>K (s::l)
theorem ZkE {E:Env} {R:List SV} {a:Act} (L:Yf E R a.tmps.toList):∀(xs:List Operand) {K:List SV->Prop},ZuE R xs K->∃l,Yf E l (xs.map a.eval)/\K l
 |[],K,h=>⟨[],trivial,h⟩
 |x::r,K,h=>by
  obtain⟨s,H,h⟩:=Yr L h;obtain⟨l,q,h⟩:=ZkE L r h;exact⟨s::l,⟨H,q⟩,h⟩
def SV.ZAl:SV->Bool
 | .ptr _ _=>true
 | .oep _ _ _ _=>true
 | .fptr _=>true
 | .fn _ _=>true
 |_=>false
variable {E:Env} {s:SV} {v:Value}
theorem ZsU (h:den E s v) (g:s.ZAl=true) :
  (∃a,v=.pointer (some a))\/∃f cs,v=.func (.func f) #[] cs:=by
 cases s<;>simp[SV.ZAl]at g<;>simp only[den]at h
 case ptr=>obtain⟨b,_,e⟩:=h;exact .inl ⟨_,e⟩
 case oep=>obtain⟨b,B,n,c,_,e⟩:=h;exact .inl ⟨_,e⟩
 case fptr=>obtain⟨p,vs,e,_⟩:=h;exact .inl ⟨_,e⟩
 case fn=>obtain⟨vs,e,_⟩:=h;exact .inr ⟨_,_,e⟩
def Zv3 (s:SV) (K:SV->Prop):Prop :=
 match s with
 | .nptr t d=>∃x,d=some x/\Vv t x λcs=>K (.fptr cs)
 |s=>K s
variable {K:SV->Prop}
theorem Zv4 (q:den E s v) (H:Zv3 s K):∃S,den E S v/\K S:=by
 unfold Zv3 at H;split at H
 ·rename_i t d
  obtain⟨x,rfl,H⟩:=H;rw[Qg]at H;refine⟨_,?_,H⟩;simp only[den]at q ⊢;rcases q with⟨e,_⟩|⟨X,p,xs,e,f,g,h,c,r⟩
  ·cases e
  ·injection e with e;subst e
   simp at f;subst f;exact⟨p,xs,rfl,g,h,c,XB t _ _ r⟩
 ·exact⟨s,q,H⟩
def ZzS (Δ:Tab) (op:BinOp) (T:TypeId) (sx s:SV) (K:SV->Prop):Prop :=
 match sx,s with
 | .agg xs,.agg y=>Zc5 Δ T λt=>eqK op t (.agg xs) (.agg y) K
 | .bool x,s=>Zc5 Δ T λt=>eqK op t (.bool x) s K
 | .blit x,s=>Zc5 Δ T λt=>eqK op t (.blit x) s K
 |sx,.nilp=>Zc5 Δ T λt=>if ZjD t.kind=true then ZDu op t sx K else False
 |sx,.nsl=>Zc5 Δ T λt=>if Zrv t.kind=true then ZDu op t sx K else False
 |sx,s=>ZDE op sx s K
variable {Δ:Tab}
theorem Zx3 (hΔ:Δ.ok P) {op:BinOp} {T:TypeId} {x y:SV} (h:ZzS Δ op T x y K) {u:Value} (a:den E x u) (H:den E y v) (o O:Operand) :
  ∃r s,(∀w,((do eqGuard op T o O u v;binOp op T u v:Sem Value)).run P w=.ok r w)/\den E s r/\K s:=by
 unfold ZzS at h;split at h
 ·obtain⟨i,t,h⟩:=Xw Δ hΔ h;exact Zv8 t h a H o O
 ·obtain⟨i,t,h⟩:=Xw Δ hΔ h;exact Zv8 t h a H o O
 ·obtain⟨i,t,h⟩:=Xw Δ hΔ h;exact Zv8 t h a H o O
 ·obtain⟨i,t,h⟩:=Xw Δ hΔ h
  split at h
  ·rename_i q
   exact ZwP t (.inl rfl) h ⟨λ_=>rfl,λb=>by cases k:i.kind<;>rw[k]at q b<;>simp[ZjD,Zrv]at q b⟩ a H o O
  ·exact h.elim
 ·obtain⟨i,t,h⟩:=Xw Δ hΔ h
  split at h
  ·rename_i q
   exact ZwP t (.inr rfl) h ⟨λb=>by cases k:i.kind<;>rw[k]at q b<;>simp[ZjD,Zrv]at q b,λ_=>rfl⟩ a H o O
  ·exact h.elim
 ·exact ZzT h a H T o O
def opK (Δ:Tab) (R:List SV) (H:List Entry) (op:Op) (K:SV->List Entry->Prop):Prop :=
 match op with
 | .move x=>JE R x λs=>K s H
 | .assign x=>JE R x λs=>K s H
 | .pick c x y=>JE R c λs=>match s with
  | .blit true=>JE R x λs=>K s H
  | .blit false=>JE R y λs=>K s H
  | .bool p=>(p=true->JE R x λs=>K s H)/\(p=false->JE R y λs=>K s H)
  |_=>False
 | .alloc T=>Zc5 Δ T λt=>Zzo t H K
 | .box _ x=>JE R x λs=>ZDG s H K
 | .build T P=>Zc5 Δ T λt=>Zue R P.toList λl=>ZvE t l λs=>K s H
 | .buildSlice T n P=>Zc5 Δ T λt=>Zue R P.toList λl=>ZjP t n l H K
 | .load T x=>Zc5 Δ T λt=>JE R x λs=>ZAr t s H K
 | .store T x y=>Zc5 Δ T λt=>JE R x λj=>JE R y λsx=>Zxx t j sx H λH'=>K (.tup []) H'
 | .nilCheck x=>JE R x λs=>Zv3 s λe=>if e.ZAl=true then K e H else False
 | .binOp op T x y _=>JE R x λsx=>JE R y λb=>ZzS Δ op T sx b λs=>K s H
 | .unOp op _ x=>JE R x λsx=>unK op sx λs=>K s H
 | .convert S T x=>Zc5 Δ S λd=>Zc5 Δ T λg=>JE R x λs=>match d.kind,g.kind with
  | .sl,.str=>Zc5 Δ d.elem λm=>ZvU m s H λr=>K r H
  |_,_=>Zz2 d g s H λr=>K r H
 | .makeFunc (.func f) first C=>if first.size=0 then ZuE R C.toList λl=>K (.fn f l) H else False
 | .makeSlice T l c=>Zc5 Δ T λt=>JE R l λsl=>JE R c λk=>ZAt t sl k H K
 | .slice T x o h none=>Zc5 Δ T λt=>JE R x λs=>Zxn t R s o h H K
 | .fieldAddr T x f=>Zc5 Δ T λt=>JE R x λs=>Zlj t s f λr=>K r H
 | .field T x f=>Zc5 Δ T λt=>JE R x λs=>Zwj t s f λr=>K r H
 | .indexAddr T x i=>Zc5 Δ T λt=>JE R x λs=>JE R i λa=>Zjb t s a i H λr=>K r H
 | .index T x i=>Zc5 Δ T λt=>JE R x λs=>JE R i λa=>Zxz t s a λr=>K r H
 | .extract x i=>JE R x λs=>ZFW s i λr=>K r H
 | .makeMap T none=>Zc5 Δ T λt=>Zqn t H K
 | .lookup T x i ok=>Zc5 Δ T λt=>JE R x λsx=>JE R i λa=>ZsN Δ t sx a ok H λr=>K r H
 | .mapUpdate T x i y=>Zc5 Δ T λt=>JE R x λsx=>JE R i λa=>JE R y λb=>Ztb Δ t sx a b H λH'=>K (.tup []) H'
 | .call c=>match c.callee,c.args.toList,c.argTypes.toList with
  | .builtin .len,[x],[T]=>Zc5 Δ T λt=>JE R x λs=>ZE3 t s H λr=>K r H
  | .builtin .append,[x,y],[T,T']=>if T=T' then Zc5 Δ T λt=>JE R x λsx=>JE R y λb=>Zsm t sx b H K else False
  | .builtin .min,x::r,_=>JE R x λs=>ZuE R r λl=>ZCh false s l λr=>K r H
  | .builtin .max,x::r,_=>JE R x λs=>ZuE R r λl=>ZCh true s l λr=>K r H
  |_,_,_=>False
 |_=>False
def Zea:Op->Bool
 | .move _=>true
 | .assign _=>true
 | .pick _ _ _=>true
 | .build _ _=>true
 | .load _ _=>true
 | .nilCheck _=>true
 | .binOp _ _ _ _ _=>true
 | .unOp _ _ _=>true
 | .fieldAddr _ _ _=>true
 | .field _ _ _=>true
 | .indexAddr _ _ _=>true
 | .index _ _ _=>true
 | .extract _ _=>true
 | .makeFunc _ _ _=>true
 | .call c=>match c.callee with
  | .builtin .len=>true
  | .builtin .min=>true
  | .builtin .max=>true
  |_=>false
 |_=>false
def isLoad:Op->Bool
 | .load _ _=>true
 |_=>false
def Zmq:Op->Bool
 | .alloc _=>true
 | .box _ _=>true
 | .buildSlice _ _ _=>true
 | .makeSlice _ _ _=>true
 | .slice _ _ _ _ _=>true
 | .convert _ _ _=>true
 | .makeMap _ _=>true
 |_=>false
def appArg:Op->Option Operand
 | .call ⟨.builtin .append,args,_⟩=>args.toList.head?
 | .store _ x _=>some x
 |_=>none
def Ran (P:Program) (B:Base) (E:Env) (o:Oper) (a:Act) (K:SV->List Entry->Prop):Prop :=
 ∃n v E' H' s,(execOp a.eval o).run P E.w=.ok n E'.w/\(n=.value v\/n=.skip/\v=undef)/\Inv B E' H'/\E.le E'/\den E' s v/\K s H'/\
  (Zea o.op=true->n=.value v/\E'.w=E.w/\∀w',(isLoad o.op=true->ZqV E.w w')->(execOp a.eval o).run P w'=.ok (.value v) w')/\((Zea o.op||Zmq o.op)=true->Grow E.w E'.w)/\∀x,appArg o.op=some x->E.w.grownBy E'.w (Yv (a.eval x))
theorem ZsE {w w':World} (h:w.grownBy w' v.ownBlock):w.grownBy w' (Yv v):=⟨h.os,h.tape,h.output,h.size,λk H y=>h.block k H (λe=>y (ZvC v k e.symm).symm)⟩
theorem Zpw {op:Op} {p:Operand->Prop} (m:appArg op=none):∀x,appArg op=some x->p x:=λx e=>by rw[m]at e;cases e
variable {B:Base} {H:List Entry} {K:SV->List Entry->Prop} {x:Sem Value}
theorem Zxa (e:Inv B E H) {o:Oper} {a:Act} (l:execOp a.eval o=(do pure (.value (<-x)):Sem Next)) (q:isLoad o.op=true)
  (h:∃u s E' H',E'.w=E.w/\ZxZ P E.w x u/\Inv B E' H'/\E.le E'/\den E' s u/\K s H') (m:appArg o.op=none:=by rfl):Ran P B E o a K:=by
 obtain⟨u,s,E',H',c,d,f,G,g,b⟩:=h;have i:∀w',ZqV E.w w'->(execOp a.eval o).run P w'=.ok (.value u) w':=λw' hst=>by rw[l,Sem.run_bind,d w' hst];rfl
 exact⟨_,u,E',H',s,by rw[c];exact i _ (ZqV.refl _),.inl rfl,f,G,g,b,λ_=>⟨rfl,c,λw' h=>i w' (h q)⟩,λ_=>by rw[c];exact Grow.refl _,Zpw m⟩
theorem Vo (m:Inv B E H) {o:Oper} {a:Act} (l:execOp a.eval o=(do pure (.value (<-x)):Sem Next))
  (h:∃u s,ZoF P x u/\den E s u/\K s H) (b:appArg o.op=none:=by rfl):Ran P B E o a K:=by
 obtain⟨u,s,d,f,g⟩:=h;have i:∀w',(execOp a.eval o).run P w'=.ok (.value u) w':=λw'=>by rw[l,Sem.run_bind,d w'];rfl
 exact⟨_,u,E,H,s,i _,.inl rfl,m,Env.le.refl E,f,g,λ_=>⟨rfl,rfl,λw' _=>i w'⟩,λ_=>Grow.refl _,Zpw b⟩
theorem ZhZ (m:Inv B E H) {o:Oper} {a:Act} {u:Value} (l:execOp a.eval o=(pure (.value u):Sem Next))
  (f:den E s u) (g:K s H) (h:appArg o.op=none:=by rfl):Ran P B E o a K :=
 ⟨_,u,E,H,s,by rw[l];rfl,.inl rfl,m,Env.le.refl E,f,g,λ_=>⟨rfl,rfl,λw' _=>by rw[l];rfl⟩,λ_=>Grow.refl _,Zpw h⟩
theorem ZdM {o:Oper} {a:Act} (l:execOp a.eval o=(do pure (.value (<-x)):Sem Next)) (q:Zea o.op=false)
  (h:∃u E' H' s,x.run P E.w=.ok u E'.w/\Inv B E' H'/\E.le E'/\den E' s u/\K s H'/\Grow E.w E'.w) (m:appArg o.op=none:=by rfl):Ran P B E o a K:=by
 obtain⟨u,E',H',s,d,f,g,i,j,F⟩:=h;exact⟨_,u,E',H',s,by rw[l,Sem.run_bind,d];rfl,.inl rfl,f,g,i,j,λe=>(by rw[q]at e;cases e),λ_=>F,Zpw m⟩
theorem ZAC {o:Oper} {a:Act} {r:Operand} (l:execOp a.eval o=(do pure (.value (<-x)):Sem Next)) (q:(Zea o.op||Zmq o.op)=false) (m:appArg o.op=some r)
  (h:∃u E' H' s,x.run P E.w=.ok u E'.w/\Inv B E' H'/\E.le E'/\den E' s u/\K s H'/\E.w.grownBy E'.w (a.eval r).ownBlock):Ran P B E o a K:=by
 obtain⟨u,E',H',s,d,f,g,i,j,F⟩:=h;have c:Zea o.op=false:=by cases h:Zea o.op<;>simp[h]at q ⊢
 exact⟨_,u,E',H',s,by rw[l,Sem.run_bind,d];rfl,.inl rfl,f,g,i,j,λe=>(by rw[c]at e;cases e),λe=>(by rw[q]at e;cases e),λx Z=>by rw[m]at Z;injection Z with Z;subst Z;exact ZsE F⟩
theorem ZrK (a:Act) (p:Array (Nat×Operand)):(p.map λx=>(x.1,a.eval x.2)).toList=p.toList.map λx=>(x.1,a.eval x.2):=by simp
theorem ZwV (hΔ:Δ.ok P) (m:Inv B E H) {R:List SV} {a:Act} (L:Yf E R a.tmps.toList) {o:Oper}
  (h:opK Δ R H o.op K):Ran P B E o a K:=by
 obtain⟨dst,op,z,pos,after,guard⟩:=o;simp only at h;have a0:∀{x:Operand} (U:Op),(execOp a.eval ⟨dst,U,z,pos,after,guard⟩=pure (.value (a.eval x)))->(JE R x λs=>K s H)->appArg U=none->Ran P B E ⟨dst,U,z,pos,after,guard⟩ a K:=by
  intro x U he h ha;obtain⟨s,q,h⟩:=Yr L h;exact ZhZ m he q h ha
 unfold opK at h;split at h
 ·exact a0 _ rfl h rfl
 ·exact a0 _ rfl h rfl
 ·rename_i c x y
  obtain⟨s,q,h⟩:=Yr L h;split at h
  ·simp only[den]at q
   obtain⟨s',J,h⟩:=Yr L h;exact ZhZ m (u:=a.eval x) (by simp[execOp,q,asBool]) J h
  ·simp only[den]at q
   obtain⟨s',J,h⟩:=Yr L h;exact ZhZ m (u:=a.eval y) (by simp[execOp,q,asBool]) J h
  ·rename_i p
   simp only[den]at q;cases p
   ·obtain⟨s',J,h⟩:=Yr L (h.2 rfl)
    exact ZhZ m (u:=a.eval y) (by simp[execOp,q,asBool]) J h
   ·obtain⟨s',J,h⟩:=Yr L (h.1 rfl)
    exact ZhZ m (u:=a.eval x) (by simp[execOp,q,asBool]) J h
  ·exact h.elim
 ·obtain⟨I,b,h⟩:=Xw Δ hΔ h
  exact ZdM rfl rfl (Zvy m b h)
 ·obtain⟨s,q,h⟩:=Yr L h
  exact ZdM rfl rfl (ZzU m q h)
 ·rename_i T ps
  obtain⟨I,b,h⟩:=Xw Δ hΔ h;obtain⟨l,Q,h⟩:=Zn5 L _ h;exact Vo m rfl (ZvF b (by rw[ZrK];exact Q) h)
 ·rename_i T n ps
  obtain⟨I,b,h⟩:=Xw Δ hΔ h;obtain⟨l,Q,h⟩:=Zn5 L _ h;exact ZdM rfl rfl (ZoG m b (by rw[ZrK];exact Q) h)
 ·obtain⟨I,b,h⟩:=Xw Δ hΔ h
  obtain⟨s,q,h⟩:=Yr L h;exact Zxa m rfl rfl (ZyA m b q h)
 ·obtain⟨I,b,h⟩:=Xw Δ hΔ h
  obtain⟨sa,a7,h⟩:=Yr L h;obtain⟨sx,G,h⟩:=Yr L h;obtain⟨E',H',C,D,F,h4,h5⟩:=Zxy m b a7 G h;exact⟨.skip,undef,E',H',.tup [],by simp[execOp,C],.inr ⟨rfl,rfl⟩,D,F,by simp only[den];exact⟨[],rfl,trivial⟩,h4,λe=>(by cases e),λe=>(by cases e),λy hy=>by simp only[appArg]at hy;injection hy with hy;subst hy;exact h5⟩
 ·obtain⟨s0,a6,h⟩:=Yr L h
  obtain⟨s,q,h⟩:=Zv4 a6 h;split at h
  ·rename_i hp
   rcases ZsU q hp with⟨p,Z⟩|⟨f,cs,Z⟩
   ·exact ZhZ m (by simp[execOp,Z];rfl) (by rw[<-Z];exact q) h
   ·exact ZhZ m (by simp[execOp,Z];rfl) (by rw[<-Z];exact q) h
  ·exact h.elim
 ·obtain⟨sx,G,h⟩:=Yr L h
  obtain⟨sy,N,h⟩:=Yr L h;obtain⟨r,s,C,D,F⟩:=Zx3 (P:=P) hΔ h G N _ _;exact Vo m rfl ⟨r,s,C,D,F⟩
 ·obtain⟨sx,G,h⟩:=Yr L h
  obtain⟨r,s,C,D,F⟩:=ZCV (P:=P) h G;exact Vo m rfl ⟨r,s,C,D,F⟩
 ·obtain⟨ts,Y,h⟩:=Xw Δ hΔ h
  obtain⟨td,X,h⟩:=Xw Δ hΔ h;obtain⟨s,q,h⟩:=Yr L h;split at h
  ·rename_i a4 a5
   obtain⟨te,b0,h⟩:=Xw Δ hΔ h;obtain⟨u,r,C,D,F⟩:=ZvV (P:=P) m Y a4 X a5 b0 q h;exact ZdM rfl rfl ⟨u,E,H,r,C,m,Env.le.refl E,D,F,Grow.refl _⟩
  ·obtain⟨u,r,C,D,F⟩:=Zyb (P:=P) Y X q h
   exact Vo m rfl ⟨u,r,C,D,F⟩
 ·rename_i f first V
  split at h
  ·rename_i hf
   obtain⟨V⟩:=V;obtain⟨l,Q,h⟩:=ZkE L _ h;have a3:first=#[]:=Array.eq_empty_of_size_eq_zero hf;subst a3;refine Vo m rfl ⟨_,_,λw=>rfl,?_,h⟩;simp only[den];exact⟨_,by simp,Q⟩
  ·exact h.elim
 ·obtain⟨I,b,h⟩:=Xw Δ hΔ h
  obtain⟨sl,a9,h⟩:=Yr L h;obtain⟨sc,a8,h⟩:=Yr L h;exact ZdM rfl rfl (ZyE m b a9 a8 h)
 ·obtain⟨I,b,h⟩:=Xw Δ hΔ h
  obtain⟨s,q,h⟩:=Yr L h;exact ZdM rfl rfl (Zxo m L b q h)
 ·obtain⟨I,b,h⟩:=Xw Δ hΔ h
  obtain⟨s,q,h⟩:=Yr L h;exact Vo m rfl (Zp6 b q h)
 ·obtain⟨I,b,h⟩:=Xw Δ hΔ h
  obtain⟨s,q,h⟩:=Yr L h;exact Vo m rfl (Zwk b q h)
 ·rename_i T x i
  obtain⟨I,b,h⟩:=Xw Δ hΔ h;obtain⟨s,q,h⟩:=Yr L h;cases i with
  |const v =>
   obtain⟨S,d,h⟩:∃S,(∀j,Zlf (.const v)=some j->∀k i,S=.int k i->i=(j:Int))/\den E S v/\Zjb I s S (.const v) H λr=>K r H:=by
    have h':=h;obtain⟨S,d,h⟩:=Yr L h;have M:den E S v:=d;refine⟨S,λj O k i W=>?_,M,h⟩;subst W;simp only[den]at M;subst M;simp only[Zlf]at O;split at O
    ·simp at O;subst O;rfl
    ·cases O
   exact Vo m rfl (ZhR m b q h.1 h.2 d)
  |tmp t =>
   obtain⟨S,d,h⟩:=Yr L h;exact Vo m rfl (ZhR m b q d h (λj O=>by simp[Zlf]at O))
  |global g=>exact h.elim
  |func f =>
   obtain⟨S,d,h⟩:=Yr L h;exact Vo m rfl (ZhR m b q d h (λj O=>by simp[Zlf]at O))
 ·obtain⟨I,b,h⟩:=Xw Δ hΔ h
  obtain⟨s,q,h⟩:=Yr L h;obtain⟨S,d,h⟩:=Yr L h;obtain⟨u,r,C,D,F⟩:=ZxA (P:=P) b q d h;exact Vo m rfl ⟨u,r,C,D,F⟩
 ·obtain⟨s,q,h⟩:=Yr L h
  obtain⟨u,r,C,D,F⟩:=ZBx (P:=P) q h;exact Vo m rfl ⟨u,r,C,D,F⟩
 ·obtain⟨I,b,h⟩:=Xw Δ hΔ h
  exact ZdM rfl rfl (ZsO m b h)
 ·obtain⟨I,b,h⟩:=Xw Δ hΔ h
  obtain⟨sx,G,h⟩:=Yr L h;obtain⟨S,d,h⟩:=Yr L h;obtain⟨u,r,C,D,F⟩:=ZuP (P:=P) hΔ m b G d h;exact ZdM rfl rfl ⟨u,E,H,r,C,m,Env.le.refl E,D,F,Grow.refl _⟩
 ·obtain⟨I,b,h⟩:=Xw Δ hΔ h
  obtain⟨sx,G,h⟩:=Yr L h;obtain⟨S,d,h⟩:=Yr L h;obtain⟨sy,N,h⟩:=Yr L h;obtain⟨E',H',C,D,F,h4⟩:=Zvh (P:=P) hΔ m b G d N h;exact⟨.skip,undef,E',H',.tup [],by simp[execOp,C],.inr ⟨rfl,rfl⟩,D,F,by simp only[den];exact⟨[],rfl,trivial⟩,h4,λe=>(by cases e),λe=>(by cases e),Zpw rfl⟩
 ·rename_i c
  obtain⟨a1,args,A⟩:=c;obtain⟨args⟩:=args;obtain⟨A⟩:=A;simp only at h;split at h
  ·rename_i x T
   obtain⟨I,b,h⟩:=Xw Δ hΔ h;obtain⟨s,q,h⟩:=Yr L h;obtain⟨u,r,C,D,F⟩:=ZAp (ty:=z) m b q h;exact Vo m (x:=Builtin.len_ #[T] z #[a.eval x]) (by simp only[execOp,resolve,invoke,builtin,pure_bind,List.map_toArray,Kv,Hx]) ⟨u,r,C,D,F⟩
  ·rename_i x y T T'
   split at h
   ·rename_i a2;subst a2
    obtain⟨I,b,h⟩:=Xw Δ hΔ h;obtain⟨sx,G,h⟩:=Yr L h;obtain⟨sy,N,h⟩:=Yr L h;exact ZAC (x:=Builtin.append_ #[T,T] z #[a.eval x,a.eval y]) (by simp only[execOp,resolve,invoke,builtin,pure_bind,List.map_toArray,Kv,Hx]) rfl rfl (Zuu (ty:=z) m b G N h)
   ·exact h.elim
  ·rename_i x r
   obtain⟨s,q,h⟩:=Yr L h;obtain⟨l,Q,h⟩:=ZkE L _ h;obtain⟨u,r',C,D,F⟩:=ZsP (P:=P) (mx:=false) l s _ _ q Q h;exact Vo m (x:=Builtin.min_ A.toArray z ((x::r).toArray.map a.eval)) (by simp only[execOp,resolve,invoke,builtin,pure_bind]) ⟨u,r',λw=>by simpa[Builtin.min_]using C w,D,F⟩
  ·rename_i x r
   obtain⟨s,q,h⟩:=Yr L h;obtain⟨l,Q,h⟩:=ZkE L _ h;obtain⟨u,r',C,D,F⟩:=ZsP (P:=P) (mx:=true) l s _ _ q Q h;exact Vo m (x:=Builtin.max_ A.toArray z ((x::r).toArray.map a.eval)) (by simp only[execOp,resolve,invoke,builtin,pure_bind]) ⟨u,r',λw=>by simpa[Builtin.max_]using C w,D,F⟩
  ·exact h.elim
 ·exact h.elim
end
inductive Sh
 |dat (t:Ty)
 |own (e:Dp)
 |io (e:Dp)
 |back (e:Dp)
@[reducible] def Sh.den:Sh->Type
 | .dat t=>t.den
 | .own e=>e.ty.den
 | .io e=>e.ty.den
 | .back e=>e.ty.den
@[reducible] def Shs:List Sh->Type
 |[]=>Unit
 |s::r=>s.den×Shs r
@[reducible] def Ios:List Sh->Type
 |[]=>Unit
 | .io e::r=>e.ty.den×Ios r
 | .back e::r=>e.ty.den×Ios r
 | .dat _::r=>Ios r
 | .own _::r=>Ios r
structure Ctr where
 args:List Sh
 rets:List Sh
 tr:Shs args->(Shs rets->Ios args->Prop)->Prop
def ZxL (t:Ty) (v:Value):Prop:=(t.agg=true->∃cs,v=.agg cs)/\(t.agg=false->v.cells=#[v])
def ZBN (S:Nat->Prop) (w:World) (t:Ty) (d:t.den) (v:Value):Prop :=
 (t.agg=true->∃cs,v=.agg cs)/\(t.agg=false->v.cells=#[v])/\rep S w t d v.cells.toList
def ZrW (S:Nat->Prop) (w:World):(s:Sh)->s.den->Value->List Nat->Prop
 | .dat t,d,v,p=>p=[]/\ZBN S w t d v
 | .own e,d,v,p=>ZxL e.ty v/\ZgF S w e d v.cells.toList p
 | .back e,d,v,p=>ZxL e.ty v/\ZgF S w e d v.cells.toList p
 | .io e,d,v,p=>∃b cs T f,v=.pointer (some ⟨b,0,none⟩)/\w.heap[b]?=some (.cells cs T (0,0))/\ZgF S w e d cs.toList f/\p=b::f
def Zc0 (S:Nat->Prop) (w:World):(l:List Sh)->Shs l->List Value->List Nat->Prop
 |[],_,vs,p=>vs=[]/\p=[]
 |s::r,d,vs,p=>∃v vr f fr,vs=v::vr/\p=f++fr/\ZrW S w s d.1 v f/\Zc0 S w r d.2 vr fr
def Zgo (S:Nat->Prop) (w:World):(l:List Sh)->Ios l->List Value->List Nat->Prop
 |[],_,_,p=>p=[]
 | .io e::r,d,vs,p=>∃v vr f fr,vs=v::vr/\p=f++fr/\ZrW S w (.io e) d.1 v f/\Zgo S w r d.2 vr fr
 | .back e::r,d,vs,p=>∃v vr f fr,vs=v::vr/\p=f++fr/\ZrW S w (.back e) d.1 v f/\Zgo S w r d.2 vr fr
 | .dat _::r,d,vs,p=>∃v vr,vs=v::vr/\Zgo S w r d vr p
 | .own _::r,d,vs,p=>∃v vr,vs=v::vr/\Zgo S w r d vr p
def retv (us:List Value) (v:Value):Prop :=
 match us with
 |[u]=>v=u
 |us=>v=.tuple us.toArray
def Zi4 (P:Program) (f:FuncId):Prop:=∃fn,P.funcs[f]?=some fn/\(fn.name == "runtime.NumGoroutine")=false/\fn.body.isNone=false
def Za (P:Program) (f:FuncId) (C:Ctr):Prop:=Zi4 P f/\
 ∀(w:World) (S:Nat->Prop) (vs:List Value) (a:Shs C.args) (p:List Nat) (K:Shs C.rets->Ios C.args->Prop),
  (∀b,S b->b<w.heap.size)->Zc0 S w C.args a vs p->p.Nodup->(∀g∈p,¬S g/\g<w.heap.size)->C.tr a K->
  Calls P f vs.toArray w λe w'=>∃v u s i S' fr o,e=.returned v/\retv u v/\K s i/\Keeps ⟨w,S,λb=>b∈p,[]⟩ w'/\(∀b,S b->S' b)/\
   (∀b,S' b->b<w'.heap.size/\(b<w.heap.size->S b\/b∈p))/\Zc0 S' w' C.rets s u fr/\Zgo S' w' C.args i vs o/\
   (o++fr).Nodup/\∀g∈o++fr,¬S' g/\g<w'.heap.size/\(w.heap.size<=g\/g∈p)
def SV.isAgg:SV->Bool
 | .agg _=>true
 |_=>false
def ZBJ (f:SV->List Entry->(SV->List Entry->Prop)->Prop):List SV->List Entry->(List SV->List Entry->Prop)->Prop
 |[],H,K=>K [] H
 |s::r,H,K=>f s H λS H1=>ZBJ f r H1 λR H2=>K (S::R) H2
def ZnG:Nat->SV->List Entry->(SV->List Entry->Prop)->Prop
 |0,s,H,K=>K s H
 |n+1,s,H,K=>match s with
  | .ptr I 0=>ZgN H I λe=>match e with
   | .box cells=>ZBJ (ZnG n) cells H λc H0=>VD c H0 λC H1=>ZgN H1 I λe1=>match e1 with
    | .box _=>ZhD H1 I (.fbx C) λH2=>K (.fptr C) H2
    |_=>False
   | .fbx cells=>K (.fptr cells) H
   |_=>False
  | .own I=>ZgN H I λe=>match e with
   | .hole _ e d i cells _=>ZBJ (ZnG n) cells H λc H0=>VD c H0 λC H1=>X0 e.ty C λx R=>match R with
    |[]=>ZgN H1 I λe1=>match e1 with
     | .hole _ _ _ _ _ _=>ZhD H1 I (.frz e.ty (d.set i.toNat x)) λH2=>K (.sl e.ty (d.set i.toNat x)) H2
     |_=>False
    |_=>False
   |_=>K (.own I) H
  |s=>K s H
def Zwu (s:SV) (H:List Entry) (K:SV->List Entry->Prop):Prop:=ZnG 3 s H K
def ZsB (cs:List SV) (H:List Entry) (K:List SV->List Entry->Prop):Prop:=ZBJ Zwu cs H K
def Zws (s:SV) (H:List Entry) (K:List SV->List Entry->Prop):Prop :=
 match s with
 | .fn f C=>ZsB C H λc H1=>K [.fn f c] H1
 | .ptr I o=>Zwu (.ptr I o) H λS H1=>K [S] H1
 |s=>ZsB s.cells H λa H0=>VD a H0 K
def Zrc (t:Ty) (cs:List SV) (K:SV->Prop):Prop :=
 if t.agg=true then K (.agg cs)else match cs with
  |c::_=>K c
  |[]=>False
def ZmA:(l:List Sh)->List SV->List Entry->(Shs l->List Entry->Prop)->Prop
 |[],S,H,K=>match S with
  |[]=>K () H
  |_=>False
 | .dat t::r,S,H,K=>match S with
  |s::S=>if s.whole=true/\t.agg=s.isAgg then Zws s H λcs H1=>X0 t cs λd R=>match R with
    |[]=>ZmA r S H1 λD H2=>K (d,D) H2
    |_=>False
   else False
  |_=>False
 | .own e::r,S,H,K=>match S with
  |s::S=>if s.whole=true/\e.ty.agg=s.isAgg then closeAll e s.cells H λd H1=>ZmA r S H1 λD H2=>K (d,D) H2 else False
  |_=>False
 | .back e::r,S,H,K=>match S with
  |s::S=>if s.whole=true/\e.ty.agg=s.isAgg then closeAll e s.cells H λd H1=>ZmA r S H1 λD H2=>K (d,D) H2 else False
  |_=>False
 | .io e::r,S,H,K=>match S with
  | .ptr I 0::S=>ZgN H I λC=>match C with
   | .box cells=>ZhD H I .gone λH0=>closeAll e cells H0 λd H1=>ZmA r S H1 λD H2=>K (d,D) H2
   |_=>False
  |_=>False
def Dp.closed:Dp->Bool
 | .flat t=>t.flat
 | .ol _ e=>e.closed
 | .pair a b=>a.closed&&b.closed
 | .mp k v=>k.flat&&v.flat
def Sh.flat:Sh->Bool
 | .dat t=>t.flat
 | .own e=>e.closed
 | .io e=>e.closed
 | .back e=>e.closed
def Zm7:List Sh->Bool
 |[]=>true
 |s::r=>s.flat&&Zm7 r
def ZjW:List Sh->Bool
 |[]=>true
 | .io e::r=>e.closed&&ZjW r
 | .back e::r=>e.closed&&ZjW r
 |_::r=>ZjW r
def Zfl:(e:Dp)->List SV->e.ty.den->List Entry->(List SV->List Entry->Prop)->Prop
 | .flat t,cs,_,H,K=>ZiC cs t.size λr=>K r H
 | .ol c e,cs,d,H,K=>match cs with
  | .nsl::r=>K r H
  | .own I::r=>ZAB c e I d H λH'=>K r H'
  |_=>False
 | .mp k v,cs,d,H,K=>match cs with
  | .mown I::r=>ZhD H I (.mpe k v d) λH'=>K r H'
  |_=>False
 | .pair a b,cs,d,H,K=>Zx d λx y=>Zfl a cs x H λr H1=>Zfl b r y H1 K
def Zvo:(l:List Sh)->List SV->Ios l->List Entry->(List Entry->Prop)->Prop
 |[],_,_,H,K=>K H
 | .io e::r,S,d,H,K=>match S with
  | .ptr I 0::S=>Zx d λx D=>Vj e x H λcells H1=>ZhD H1 I (.box cells) λH2=>Zvo r S D H2 K
  |_=>False
 | .back e::r,S,d,H,K=>match S with
  |s::S=>if s.whole=true then Zx d λx D=>Zfl e s.cells x H λ_ H1=>Zvo r S D H1 K else False
  |_=>False
 | .dat _::r,S,d,H,K=>match S with
  |_::S=>Zvo r S d H K
  |_=>False
 | .own _::r,S,d,H,K=>match S with
  |_::S=>Zvo r S d H K
  |_=>False
def Zl7:(l:List Sh)->Shs l->List Entry->(List SV->List Entry->Prop)->Prop
 |[],_,H,K=>K [] H
 | .dat t::r,d,H,K=>Zx d λx D=>Vv t x λcs=>Zrc t cs λs=>Zl7 r D H λS H'=>K (s::S) H'
 | .own e::r,d,H,K=>Zx d λx D=>Vj e x H λcs H1=>Zrc e.ty cs λs=>Zl7 r D H1 λS H'=>K (s::S) H'
 | .back e::r,d,H,K=>Zx d λx D=>Vj e x H λcs H1=>Zrc e.ty cs λs=>Zl7 r D H1 λS H'=>K (s::S) H'
 | .io e::r,d,H,K=>Zx d λx D=>Vj e x H λcs H1=>Zpv cs H1 λs H2=>Zl7 r D H2 λS H'=>K (s::S) H'
def ZrF (ss:List SV) (K:SV->Prop):Prop :=
 match ss with
 |[s]=>K s
 |ss=>K (.tup ss)
def ZtH:List Entry->(List Entry->Prop)->Prop
 |[],K=>K []
 |e::r,K=>ZtH r λR=>K (e::R)
theorem Zri:∀(l:List Entry) (K:List Entry->Prop),ZtH l K=K l
 |[],_=>rfl
 |e::r,K=>by unfold ZtH;exact Zri r _
def ZzW (C:Ctr) (a:List SV) (H:List Entry) (K:SV->List Entry->Prop):Prop :=
 ZmA C.args a H λA H1=>C.tr A λr i =>
  if(Zm7 C.rets&&ZjW C.args)=true then ZtH (ZmV H H1) λH0=>Zvo C.args a i H0 λH2=>Zl7 C.rets r H2 λS H3=>ZrF S λs=>K s H3
  else Zvo C.args a i H1 λH2=>Zl7 C.rets r H2 λS H3=>ZrF S λs=>K s H3
def ZBR (B:Base) (f:SV->List Entry->(SV->List Entry->Prop)->Prop):Prop :=
 ∀(E:Env) (H:List Entry),Inv B E H->∀(s:SV) (v:Value),den E s v->∀(K:SV->List Entry->Prop),f s H K->∃E' H' S,Frz E H E' H'/\Inv B E' H'/\den E' S v/\K S H'
theorem Zqa {B:Base} {f:SV->List Entry->(SV->List Entry->Prop)->Prop} (d:ZBR B f):∀(cs:List SV) {E:Env} {H:List Entry} (_:Inv B E H) {vs:List Value} (_:Yf E cs vs) {K:List SV->List Entry->Prop} (_:ZBJ f cs H K),
  ∃E' H' C,Frz E H E' H'/\Inv B E' H'/\Yf E' C vs/\K C H'
 |[],E,H,m,vs,L,K,h=>⟨E,H,[],Frz.refl E H,m,L,h⟩
 |s::r,E,H,m,vs,L,K,h=>by
  match vs,L with
  |[],L=>simp[Yf]at L
  |v::vs,L =>
   simp only[Yf]at L;simp only[ZBJ]at h;obtain⟨E1,H1,S,x,A,b,h⟩:=d _ _ m _ _ L.1 _ h;obtain⟨E2,H2,R,J,a,c,h⟩:=Zqa d r A (ZO x.le _ _ L.2) h;exact⟨E2,H2,S::R,x.trans J,a,⟨ZgL J.le _ _ b,c⟩,h⟩
theorem ZlK {B:Base}:∀n,ZBR B (ZnG n)
 |0=>λ_ _ q _ _ L _ k=>⟨_,_,_,Frz.refl _ _,q,L,k⟩
 |n+1=>by
  intro E H q s v L K k;unfold ZnG at k;split at k
  ·rename_i N
   obtain⟨e,R,k⟩:=Y0 H k;simp only[den]at L;obtain⟨b,P,hv⟩:=L;split at k
   ·rename_i cells
    obtain⟨b',cs,T,z,h2,h3⟩:=q.ent N _ R;have:=P.symm.trans z;simp at this;subst this;obtain⟨E0,H0,Z,G,A,o,k⟩:=Zqa (ZlK n) _ q h3 k;obtain⟨E1,H1,C,J,D,t,k,_⟩:=Qw _ A o k;have a:=G.trans J;obtain⟨e1,I,k⟩:=Y0 H1 k;split at k
    ·rename_i c1
     rw[Xu]at k;have l:E1.ids[N]?=some (.pointer (some ⟨b,0,none⟩)):=by rw[a.ids];exact P
     have V:E1.w.heap[b]?=some (.cells cs T (0,0)):=by rw[a.w];exact h2
     have W:E1.le ⟨λg=>E1.S g\/Zhi (.box c1) (.pointer (some ⟨b,0,none⟩)) g,E1.w,E1.ids⟩:=⟨λ_ h=>.inl h,λ_ _=>rfl,λ_ _ h=>h⟩;obtain⟨m,F⟩:=D.ZnE I rfl l (.fbx C) rfl ⟨b,cs,T,l,.inr rfl,V,ZO W _ _ t⟩;refine⟨_,_,_,a.trans (Frz.one I rfl l rfl m (λb r=>r)),F,?_,k⟩;simp only[den];refine⟨⟨b,0,none⟩,cs.toList,hv,rfl,.inr rfl,λj u hu=>?_,ZO m _ _ t⟩;exact Zks (w:=E1.w) (b:=b) (cs:=cs) (T:=T) (fr:=(0,0)) V 0 j u (by simpa using hu)
    ·exact k.elim
   ·rename_i cells
    obtain⟨b',cs,T,z,hS,h2,h3⟩:=q.ent N _ R;have:=P.symm.trans z;simp at this;subst this;refine⟨E,H,_,Frz.refl E H,q,?_,k⟩;simp only[den];refine⟨⟨b,0,none⟩,cs.toList,hv,rfl,hS,λj u hu=>?_,h3⟩;exact Zks h2 0 j u (by simpa using hu)
   ·exact k.elim
  ·rename_i N
   obtain⟨en,R,k⟩:=Y0 H k;split at k
   ·rename_i et e d i cells Y
    have o:=L;simp only[den]at o;obtain⟨v',xs,x1,vx,x2,f1,f2,P,ho,a6,a7,ex,el,a5,a1,a2,a0,y,a8⟩:=q.ent N _ R;have:=P.symm.trans o.1;simp at this;subst this;obtain⟨E0,H0,Z,G,A,Q,k⟩:=Zqa (ZlK n) _ q a0 k;obtain⟨E1,H1,C,J,D,t,k,_⟩:=Qw _ A Q k;have a:=G.trans J;obtain⟨x,a4,u1,u2,O,hr,M,k⟩:=XD e.ty C _ _ t k;split at k
    ·have a3:u2=[]:=by cases u2 with
      |nil=>rfl
      |cons=>simp[Yf]at M
     subst a3;rw[Um]at O;subst O;obtain⟨e1,I,k⟩:=Y0 H1 k;split at k
     ·have c:=a.same N _ I rfl
      rw[R]at c;have c:=Option.some.inj c;rw[<-c]at I;rw[Xu]at k;have l:E1.ids[N]?=some v':=by rw[a.ids];exact o.1
      have X:rep (λb=>E1.S b\/Zhi (.hole et e d i cells Y) v' b) E1.w (.sl e.ty) (d.set i.toNat x) [v']:=by
       have hw:=a.w;rw[hw];rw[hw]at hr;refine ZrI (by rw[UZ];exact ho) ?_ (λg U=>.inr (by show g∈Y;rw[y];simp[U]));rw[List.set_eq_take_append_cons_drop,Qe,ex,Un];refine Zh2 _ _ _ _ (Zh1 _ _ _ (λd vs f p h=>Zgc (S:=E.S) (λb r=>.inl (a.le.S b r)) e d vs f (λg U=>.inr (by show g∈Y;rw[y];simp[p g U])) h) a1) ⟨vx,x2,rfl,?_,?_⟩
       ·exact Yo (λb r=>.inl r) (λ_ _=>rfl) e.ty x vx hr
       ·exact Zh1 _ _ _ (λd vs f p h=>Zgc (S:=E.S) (λb r=>.inl (a.le.S b r)) e d vs f (λg U=>.inr (by show g∈Y;rw[y];simp[p g U])) h) a2
      obtain⟨m,F⟩:=D.ZnE I rfl l (.frz e.ty (d.set i.toNat x)) rfl ⟨v',l,X⟩;exact⟨_,_,_,a.trans (Frz.one I rfl l rfl m (λb r=>r)),F,by simp only[den];exact X,k⟩
     ·exact k.elim
    ·exact k.elim
   ·exact⟨E,H,_,Frz.refl E H,q,L,k⟩
  ·exact⟨E,H,_,Frz.refl E H,q,L,k⟩
variable {B:Base} {E:Env} {H:List Entry} {s:SV} {v:Value}
theorem Zrm (m:Inv B E H) (L:den E s v) {K:SV->List Entry->Prop} (h:Zwu s H K) :
  ∃E' H' S,Frz E H E' H'/\Inv B E' H'/\den E' S v/\K S H':=ZlK 3 _ _ m _ _ L _ h
variable {vs:List Value} {K:List SV->List Entry->Prop}
theorem Zpl (cs:List SV) (m:Inv B E H) (L:Yf E cs vs) (h:ZsB cs H K) :
  ∃E' H' C,Frz E H E' H'/\Inv B E' H'/\Yf E' C vs/\K C H' :=
 Zqa (λ_ _ m _ _ L _ h=>Zrm m L h) cs m L h
theorem Zwt (m:Inv B E H) (L:den E s v) (w:s.whole=true) (h:Zws s H K) :
  ∃E' H' C,Frz E H E' H'/\Inv B E' H'/\Yf E' C v.cells.toList/\K C H':=by
 unfold Zws at h;split at h
 ·rename_i f c
  simp only[den]at L;obtain⟨vs,rfl,L⟩:=L;obtain⟨E1,H1,C,x,A,a,h⟩:=Zpl _ m L h;exact⟨E1,H1,[.fn f C],x,A,⟨by simp only[den];exact⟨vs,rfl,a⟩,trivial⟩,h⟩
 ·rename_i I O
  have q:=(ZiS L rfl).1;obtain⟨E1,H1,S,x,A,a,h⟩:=Zrm m L h;exact⟨E1,H1,[S],x,A,by rw[q];exact⟨a,trivial⟩,h⟩
 ·obtain⟨E0,H0,d,G,b,o,h⟩:=Zpl _ m (JJ L w) h
  obtain⟨E1,H1,C,x,A,a,h,_⟩:=Qw _ b o h;exact⟨E1,H1,_,G.trans x,A,a,h⟩
theorem Zul {E E':Env} (h:E.le E') {p:List Nat} (c:∀g∈p,E'.w.heap[g]?=E.w.heap[g]?):∀(s:Sh) (d:s.den) (v:Value),ZrW E.S E.w s d v p->ZrW E'.S E'.w s d v p
 | .dat t,_,_,⟨k,H,a,i⟩=>⟨k,H,a,Yo h.S h.w t _ _ i⟩
 | .own e,_,_,⟨H,a⟩=>⟨H,Yw h.S h.w e _ _ _ c a⟩
 | .back e,_,_,⟨H,a⟩=>⟨H,Yw h.S h.w e _ _ _ c a⟩
 | .io e,_,_,⟨b,cs,T,f,H,a,i,j⟩=>⟨b,cs,T,f,H,by rw[c b (by rw[j];simp)];exact a,Yw h.S h.w e _ _ _ (λg l=>c g (by rw[j];simp[l])) i,j⟩
theorem ZrX {E E':Env} (h:E.le E'):∀(l:List Sh) (d:Shs l) (vs:List Value) (p:List Nat),(∀g∈p,E'.w.heap[g]?=E.w.heap[g]?)->Zc0 E.S E.w l d vs p->Zc0 E'.S E'.w l d vs p
 |[],_,_,_,_,h=>h
 |s::r,_,_,_,c,⟨v,vr,f,fr,e,a,b,i⟩=>⟨v,vr,f,fr,e,a,Zul h (λg H=>c g (by rw[a];simp[H])) s _ _ b,ZrX h r _ _ _ (λg H=>c g (by rw[a];simp[H])) i⟩
theorem ZsZ {α:Type} {R R':α->List Value->List Nat->Prop} (h:∀d vs f,R d vs f->R' d vs f) (l:List α) (xs:List Value) (p:List Nat) (E:Zai R l xs p):Zai R' l xs p:=X4 l xs p (λd vs f _=>h d vs f) E
theorem Zb9 {S S':Nat->Prop} {w:World}:∀(e:Dp),e.closed=true->∀(d:e.ty.den) (vs:List Value) (p:List Nat),ZgF S w e d vs p->ZgF S' w e d vs p
 | .flat t,q,_,_,_,⟨H,c⟩=>⟨H,Zje t q _ _ c⟩
 | .ol i e,q,_,_,_,⟨v,xs,s,e1,o,r,E⟩=>⟨v,xs,s,e1,o,ZsZ (λd vs f=>Zb9 e q d vs f) _ _ _ r,E⟩
 | .mp k v,q,_,_,_,⟨b,g,C,e1,E,hh,h⟩=>by
  simp only[Dp.closed,Up]at q;exact⟨b,g,C,e1,E,hh,ZbS (λd vs=>Zje k q.1 d vs) (λd vs=>Zje v q.2 d vs) _ _ h⟩
 | .pair a b,q,_,_,_,⟨v1,V,f1,f2,e1,E,H,c⟩=>by
  simp only[Dp.closed,Up]at q;exact⟨v1,V,f1,f2,e1,E,Zb9 a q.1 _ _ _ H,Zb9 b q.2 _ _ _ c⟩
theorem Zk2 {S S':Nat->Prop} {w:World}:∀(l:List Sh),Zm7 l=true->∀(d:Shs l) (vs:List Value) (p:List Nat),Zc0 S w l d vs p->Zc0 S' w l d vs p
 |[],_,_,_,_,h=>h
 |s::r,g,_,_,_,⟨v,vr,f,fr,e,E,H,k⟩=>by
  simp only[Zm7,Up]at g;refine⟨v,vr,f,fr,e,E,?_,Zk2 r g.2 _ _ _ k⟩;cases s with
  |dat t=>obtain⟨a,b,c,d⟩:=H;exact⟨a,b,c,Zje t g.1 _ _ d⟩
  |own e=>exact⟨H.1,Zb9 e g.1 _ _ _ H.2⟩
  |back e=>exact⟨H.1,Zb9 e g.1 _ _ _ H.2⟩
  |io e=>obtain⟨b,cs,T,F,a1,A,i,j⟩:=H;exact⟨b,cs,T,F,a1,A,Zb9 e g.1 _ _ _ i,j⟩
theorem Zd8 {S S':Nat->Prop} {w:World}:∀(l:List Sh),ZjW l=true->∀(d:Ios l) (vs:List Value) (p:List Nat),Zgo S w l d vs p->Zgo S' w l d vs p
 |[],_,_,_,_,h=>h
 | .io e::r,H,_,_,_,⟨v,vr,f,fr,j,E,⟨b,cs,T,F,a1,A,i,c⟩,a⟩=>by
  simp only[ZjW,Up]at H;exact⟨v,vr,f,fr,j,E,⟨b,cs,T,F,a1,A,Zb9 e H.1 _ _ _ i,c⟩,Zd8 r H.2 _ _ _ a⟩
 | .back e::r,H,_,_,_,⟨v,vr,f,fr,j,E,⟨a1,A⟩,a⟩=>by
  simp only[ZjW,Up]at H;exact⟨v,vr,f,fr,j,E,⟨a1,Zb9 e H.1 _ _ _ A⟩,Zd8 r H.2 _ _ _ a⟩
 | .dat _::r,H,_,_,_,⟨v,vr,e,a⟩=>⟨v,vr,e,Zd8 r H _ _ _ a⟩
 | .own _::r,H,_,_,_,⟨v,vr,e,a⟩=>⟨v,vr,e,Zd8 r H _ _ _ a⟩
theorem Zyt (h:den E s v) (c:s.whole=true):(s.isAgg=true->∃cs,v=.agg cs)/\(s.isAgg=false->v.cells=#[v]):=by
 constructor
 ·intro m
  cases s<;>simp[SV.isAgg]at m
  simp only[den]at h;obtain⟨vs,e,_⟩:=h;exact⟨_,e⟩
 ·intro m
  have d:s.one=true:=by cases s<;>simp_all[SV.isAgg,SV.whole,SV.one]
  exact(ZiS h d).1
def Handed (B:Base) (l:List Sh) (E:Env) (H:List Entry) (vs:List Value) (gs:List Nat) (K:Shs l->List Entry->Prop):Prop :=
 ∃E1 H1 a f,Frz E H E1 H1/\Inv B E1 H1/\Zc0 E1.S E1.w l a vs f/\K a H1/\Loose B E1 H1 (f++gs)/\Zju E H H1 f
theorem Handed.cons {s:Sh} {r:List Sh} {E1:Env} {H1:List Entry} {gs f:List Nat} {d:s.den} (b:Frz E H E1 H1) (q:ZrW E1.S E1.w s d v f) (z:Zju E H H1 f) {K:Shs (s::r)->List Entry->Prop}
  (h:Handed B r E1 H1 vs (f++gs) (λD H2=>K (d,D) H2)):Handed B (s::r) E H (v::vs) gs K:=by
 obtain⟨E2,H2,D,p,J,a,k,c,n,W⟩:=h;refine⟨E2,H2,(d,D),f++p,b.trans J,a,⟨v,vs,f,p,rfl,rfl,Zul J.le (λg _=>by rw[J.w]) s _ _ q,k⟩,c,n.perm ?_,(z.later J).append (Zju.after b W)⟩;rw[<-Un];exact UU.append_right gs
variable {t:Ty}
theorem Zp9 (L:den E s v) (c:s.whole=true) (p:t.agg=s.isAgg):ZxL t v:=by
 have H:=Zyt L c;exact⟨λh=>H.1 (by rw[<-p];exact h),λh=>H.2 (by rw[<-p];exact h)⟩
theorem Zi5 {B:Base}:∀(l:List Sh) (S:List SV) {E:Env} {H:List Entry} (_:Inv B E H) {vs:List Value} (_:Yf E S vs) {gs:List Nat} (_:Loose B E H gs) {K:Shs l->List Entry->Prop} (_:ZmA l S H K),Handed B l E H vs gs K
 |[],S,E,H,m,vs,L,gs,n,K,h=>by
  simp only[ZmA]at h;split at h
  ·match vs,L with
   |[],_=>exact⟨E,H,(),[],Frz.refl E H,m,⟨rfl,rfl⟩,h,n,Zju.nil _ _ _⟩
   |_::_,L=>simp[Yf]at L
  ·exact h.elim
 | .dat t::r,S,E,H,m,vs,L,gs,n,K,h=>by
  simp only[ZmA]at h;split at h
  ·rename_i s S
   match vs,L with
   |[],L=>simp[Yf]at L
   |v::vs,L =>
    simp only[Yf]at L;split at h
    ·rename_i q
     obtain⟨i,p⟩:=q;obtain⟨E1,H1,cs,x,A,y,h⟩:=Zwt m L.1 i h;obtain⟨d,R,v1,V,O,k,D,h⟩:=XD t cs _ _ y h;split at h
     ·have F:V=[]:=by cases V with
       |nil=>rfl
       |cons=>simp[Yf]at D
      subst F;rw[Um]at O;obtain⟨M,N⟩:=Zp9 L.1 i p;exact Handed.cons (s:=.dat t) (d:=d) (f:=[]) x ⟨rfl,M,N,by rw[O];exact k⟩ (Zju.nil _ _ _) (Zi5 r S A (ZO x.le _ _ L.2) (n.frz x) h)
     ·exact h.elim
    ·exact h.elim
  ·exact h.elim
 | .own e::r,S,E,H,m,vs,L,gs,n,K,h=>by
  simp only[ZmA]at h;split at h
  ·rename_i s S
   match vs,L with
   |[],L=>simp[Yf]at L
   |v::vs,L =>
    simp only[Yf]at L;split at h
    ·rename_i q
     obtain⟨i,p⟩:=q;obtain⟨E1,H1,d,f,x,A,k,h,a,z,_⟩:=Vl m (JJ L.1 i) n h;exact Handed.cons x (s:=.own e) ⟨Zp9 L.1 i p,k⟩ z (Zi5 r S A (ZO x.le _ _ L.2) a h)
    ·exact h.elim
  ·exact h.elim
 | .back e::r,S,E,H,m,vs,L,gs,n,K,h=>by
  simp only[ZmA]at h;split at h
  ·rename_i s S
   match vs,L with
   |[],L=>simp[Yf]at L
   |v::vs,L =>
    simp only[Yf]at L;split at h
    ·rename_i q
     obtain⟨i,p⟩:=q;obtain⟨E1,H1,d,f,x,A,k,h,a,z,_⟩:=Vl m (JJ L.1 i) n h;exact Handed.cons x (s:=.back e) ⟨Zp9 L.1 i p,k⟩ z (Zi5 r S A (ZO x.le _ _ L.2) a h)
    ·exact h.elim
  ·exact h.elim
 | .io e::r,S,E,H,m,vs,L,gs,n,K,h=>by
  simp only[ZmA]at h;split at h
  ·rename_i I S
   match vs,L with
   |[],L=>simp[Yf]at L
   |v::vs,L =>
    simp only[Yf]at L;obtain⟨Y,o,h⟩:=Y0 H h;split at h
    ·rename_i cells
     rw[Xu] at h;have u:=L.1;simp only[den] at u;obtain ⟨b,c,u⟩:=u;obtain ⟨X,C,T,e1,G,J⟩:=m.ent I _ o;have:=c.symm.trans e1;simp at this;subst this;have Q:Frz E H E (H.set I .gone):=Frz.one o rfl c rfl (Env.le.refl E) (λb P=>.inl P);have U:=n.take m o rfl c (f:=[b]) (by simp) (λg j=>by
      simp at j;subst j;rfl)
     have W:Zju E H (H.set I .gone) [b]:=λg j=>by
      simp at j;subst j;exact⟨I,_,_,o,rfl,c,rfl,Zww o⟩
     obtain⟨E1,H1,d,f,x,A,k,h,a,z,_⟩:=Vl (m.drop I) J U h;refine Handed.cons (Q.trans x) (s:=.io e) (f:=b::f) ⟨b,C,T,f,u,by rw[x.w];exact G,k,rfl⟩ ?_ (Zi5 r S A (ZO x.le _ _ L.2) (a.perm ?_) h)
     ·exact((W.later x).append (Zju.after Q z)).sub (λg j=>by simpa using j)
     ·simp only[U0,Uq]
      exact List.perm_middle
    ·exact h.elim
  ·exact h.elim
variable {K:SV->Prop}
theorem ZnC (f:ZxL t v) {cs:List SV} (L:Yf E cs v.cells.toList) (H:Zrc t cs K):∃s,den E s v/\K s:=by
 unfold Zrc at H;split at H
 ·rename_i m
  obtain⟨C,rfl⟩:=f.1 m;exact⟨.agg _,by simp only[den];exact⟨C.toList,by simp,L⟩,H⟩
 ·rename_i m
  have a:=f.2 (by simpa using m);split at H
  ·rename_i c r
   rw[a]at L;simp only[Yf]at L;exact⟨c,L.1,H⟩
  ·exact H.elim
theorem Zyd {d:t.den} (h:ZBN E.S E.w t d v) (H:Zrc t (ZfK t d) K):∃s,den E s v/\K s:=by
 obtain⟨a,f,g⟩:=h;have L:=XB t d _ g;unfold Zrc at H;split at H
 ·rename_i m
  obtain⟨cs,rfl⟩:=a m;exact⟨.agg _,by simp only[den];exact⟨cs.toList,by simp,L⟩,H⟩
 ·rename_i m
  have b:=f (by simpa using m);split at H
  ·rename_i c r y
   rw[y,b]at L;simp only[Yf]at L;exact⟨c,L.1,H⟩
  ·exact H.elim
theorem Ziw {B:Base} {E:Env}:∀(e:Dp) (cs:List SV) (x:e.ty.den) {H:List Entry} (_:Inv B E H) {vs vr:List Value} (_:Yf E cs (vs++vr)) {f gs:List Nat} (_:ZgF E.S E.w e x vs f) (_:Loose B E H (f++gs)) {K:List SV->List Entry->Prop} (_:Zfl e cs x H K),
  ∃H' r,Inv B E H'/\Loose B E H' gs/\Yf E r vr/\K r H'
 | .flat t,cs,x,H,m,vs,vr,L,f,gs,⟨P,j⟩,n,K,h=>by
  simp only[Zfl,Zcp]at h;have G:=X3 t x vs j;have:=JL _ _ L t.size;rw[<-G,KY]at this;subst P;exact⟨H,_,m,n,this,by rw[G];exact h⟩
 | .ol U e,cs,d,H,m,vs,vr,L,f,gs,j,n,K,h=>by
  have z:=j;obtain⟨v,xs,F,s,Q,D,q⟩:=j;subst s;simp only[Zfl]at h;split at h
  ·rename_i r
   simp only[U0,Uq,Yf,den]at L;obtain⟨rfl,L⟩:=L;refine⟨H,r,m,?_,L,h⟩;rcases Q.2 with⟨_,W⟩|⟨g,J,cur,o,R,_⟩
   ·have:d=[]:=UC W
    subst this;have:F=[]:=D.2;subst this;rw[q]at n;simpa[Yv]using n
   ·simp at R
  ·rename_i I r
   simp only[U0,Uq,Yf,den]at L;obtain⟨⟨c,_⟩,L⟩:=L;have i:I<H.length:=by
    have:=(Ub.1 c).1;rw[<-m.len];exact this
   obtain⟨e1,k,l,O,_⟩:=Zw7 e m i c z n h;exact⟨_,r,k,l,L,O⟩
  ·exact h.elim
 | .mp T V,cs,d,H,m,vs,vr,L,f,gs,⟨b,N,C,e1,M,hh,j⟩,n,K,h=>by
  subst e1;simp only[Zfl]at h;split at h
  ·rename_i I r
   simp only[U0,Uq,Yf,den]at L;obtain⟨⟨c,_⟩,L⟩:=L;rw[Xu]at h;have i:I<H.length:=by
    have:=(Ub.1 c).1;rw[<-m.len];exact this
   obtain ⟨k,l⟩:=n.put m i c (.mpe T V d) (λ_ g p=>by
    have p:Yv (.map (some b))=some g:=p;simp[Yv] at p;rw[M];simp[p]) ⟨b,N,C,c,hh,j⟩
   exact⟨_,r,k,l,L,h⟩
  ·exact h.elim
 | .pair a b,cs,d,H,m,vs,vr,L,f,gs,⟨v1,X,f1,f2,s,q,k,l⟩,n,K,h=>by
  simp only[Zfl,V3]at h;subst s;subst q;rw[Un]at L n;obtain⟨H1,r,A,u,y,h⟩:=Ziw a cs d.1 m L k n h;exact Ziw b r d.2 A y l u h
theorem ZnS {B:Base}:∀(l:List Sh) (c:List SV) (i:Ios l) {E:Env} {H:List Entry} (_:Inv B E H) {vs:List Value} (_:Yf E c vs) {F gs:List Nat} (_:Zgo E.S E.w l i vs F) (_:Loose B E H (F++gs)) {K:List Entry->Prop} (_:Zvo l c i H K),
  ∃E' H',E'.w=E.w/\E'.S=E.S/\Inv B E' H'/\E.le E'/\Loose B E' H' gs/\K H'
 |[],c,i,E,H,m,vs,L,F,gs,o,n,K,h=>by
  have:F=[]:=o;subst this;exact⟨E,H,rfl,rfl,m,Env.le.refl E,n,h⟩
 | .io e::r,c,i,E,H,m,vs,L,F,gs,⟨v,vr,f,fr,j,u,⟨b,cs,T,U,a1,t,Q,R⟩,o⟩,n,K,h=>by
  simp only[Zvo]at h;subst j;subst u;subst R;subst a1;split at h
  ·rename_i W c
   simp only[Yf,den] at L;obtain ⟨⟨X,J,N⟩,L⟩:=L;simp at N;subst N;simp only[V3] at h;have d:Loose B E H (U++(b::(fr++gs))):=n.perm (by
    simp only[U0,Un];exact List.perm_middle.symm)
   obtain⟨E1,H1,cells,k,y,A,a,I,h,M,_⟩:=Jc e i.1 m Q d h;rw[Xu]at h;have Z:=a.ids _ _ J;have O:W<H1.length:=by
    have:=(Ub.1 Z).1;rw[<-A.len];exact this
   obtain ⟨x,C⟩:=Loose.put (f:=[b]) (gs:=fr++gs) M A O Z (.box cells) (λ_ g q=>by
    have q:some b=some g:=q;simp at q;simp[q]) ⟨b,cs,T,Z,by rw[k];exact t,I⟩
   obtain⟨E2,H2,P,G,z,p,D,h⟩:=ZnS r c i.2 x (ZO a _ _ L) (by rw[y,k];exact o) C h;exact⟨E2,H2,P.trans k,G.trans y,z,a.trans p,D,h⟩
  ·exact h.elim
 | .back e::r,c,i,E,H,m,vs,L,F,gs,⟨v,vr,f,fr,j,u,⟨a1,t⟩,o⟩,n,K,h=>by
  simp only[Zvo]at h;subst j;subst u;split at h
  ·rename_i s c
   simp only[Yf]at L;split at h
   ·rename_i V
    simp only[V3]at h;rw[Un]at n;obtain⟨H1,Y,A,d,_,h⟩:=Ziw e s.cells i.1 m (vs:=v.cells.toList) (vr:=[]) (by rw[Um];exact JJ L.1 V) t n h;exact ZnS r c i.2 A L.2 o d h
   ·exact h.elim
  ·exact h.elim
 | .dat _::r,c,i,E,H,m,vs,L,F,gs,⟨v,vr,j,o⟩,n,K,h=>by
  simp only[Zvo]at h;subst j;split at h
  ·simp only[Yf]at L
   exact ZnS r _ i m L.2 o n h
  ·exact h.elim
 | .own _::r,c,i,E,H,m,vs,L,F,gs,⟨v,vr,j,o⟩,n,K,h=>by
  simp only[Zvo]at h;subst j;split at h
  ·simp only[Yf]at L
   exact ZnS r _ i m L.2 o n h
  ·exact h.elim
theorem Zjg {B:Base}:∀(l:List Sh) (R:Shs l) (D:List Value) {E:Env} {H:List Entry} (_:Inv B E H) {v gs:List Nat} (_:Zc0 E.S E.w l R D v) (_:Loose B E H (v++gs)) {K:List SV->List Entry->Prop} (_:Zl7 l R H K),
  ∃E' H' i,E'.w=E.w/\E'.S=E.S/\Inv B E' H'/\E.le E'/\Yf E' i D/\K i H'
 |[],R,D,E,H,j,v,gs,Z,n,K,h=>by
  obtain⟨rfl,rfl⟩:=Z;exact⟨E,H,[],rfl,rfl,j,Env.le.refl E,trivial,h⟩
 | .dat t::r,R,D,E,H,j,v,gs,⟨u,U,f,fr,e,p,⟨hf,I⟩,x⟩,n,K,h=>by
  subst e;subst hf;subst p;simp only[Zl7,V3,Qg]at h;obtain⟨s,M,h⟩:=Zyd I h;obtain⟨E',H',i,C,z,q,a,k,h⟩:=Zjg r R.2 U j x n h;exact⟨E',H',s::i,C,z,q,a,⟨ZgL a s u M,k⟩,h⟩
 | .own e::r,R,D,E,H,j,v,gs,⟨u,U,f,fr,G,p,⟨m,I⟩,x⟩,n,K,h=>by
  subst G;subst p;simp only[Zl7,V3]at h;rw[Un]at n;obtain⟨E1,H1,cs,F,y,A,c,d,h,L,_⟩:=Jc e R.1 j I n h;obtain⟨s,M,h⟩:=ZnC m d h;obtain⟨E',H',i,C,z,q,a,k,h⟩:=Zjg r R.2 U A (by rw[y,F];exact x) L h;exact⟨E',H',s::i,C.trans F,z.trans y,q,c.trans a,⟨ZgL a s u M,k⟩,h⟩
 | .back e::r,R,D,E,H,j,v,gs,⟨u,U,f,fr,G,p,⟨m,I⟩,x⟩,n,K,h=>by
  subst G;subst p;simp only[Zl7,V3]at h;rw[Un]at n;obtain⟨E1,H1,cs,F,y,A,c,d,h,L,_⟩:=Jc e R.1 j I n h;obtain⟨s,M,h⟩:=ZnC m d h;obtain⟨E',H',i,C,z,q,a,k,h⟩:=Zjg r R.2 U A (by rw[y,F];exact x) L h;exact⟨E',H',s::i,C.trans F,z.trans y,q,c.trans a,⟨ZgL a s u M,k⟩,h⟩
 | .io e::r,R,D,E,H,j,v,gs,⟨u,U,f,fr,G,p,⟨b,cs,T,Y,a1,V,W,X⟩,x⟩,n,K,h=>by
  subst G;subst p;subst X;subst a1;simp only[Zl7,V3] at h;have L:Loose B E H (Y++(b::(fr++gs))):=n.perm (by
   simp only[U0,Un];exact List.perm_middle.symm)
  obtain⟨E1,H1,cells,F,y,A,c,d,h,P,_⟩:=Jc e R.1 j W L h;simp only[Zpv,Zb7,ZaQ,Uw]at h;have J:(E1.ids++[Value.pointer (some ⟨b,0,none⟩)])[H1.length]?=some (.pointer (some ⟨b,0,none⟩)):=by rw[<-A.len];simp
  have o:=ZjA E1 (.pointer (some ⟨b,0,none⟩));obtain ⟨O,Q⟩:=Loose.push (f:=[b]) (gs:=fr++gs) P A (.pointer (some ⟨b,0,none⟩)) (.box cells) (λ_ g N=>by
   have N:some b=some g:=N;simp at N;simp[N]) ⟨b,cs,T,J,by show E1.w.heap[b]?=_;rw[F];exact V,ZO o _ _ d⟩
  obtain ⟨E',H',i,C,z,q,a,k,h⟩:=Zjg r R.2 U O (by
   show Zc0 E1.S E1.w r R.2 U fr;rw[y,F];exact x) Q h
  refine⟨E',H',.ptr H1.length 0::i,C.trans F,z.trans y,q,c.trans (o.trans a),⟨ZgL a _ _ ?_,k⟩,h⟩;simp only[den];exact⟨b,J,rfl⟩
theorem Zt7 {S:List SV} {U:List Value} (h:Yf E S U) (a:retv U v) (H:ZrF S K):∃s,den E s v/\K s:=by
 unfold ZrF at H;unfold retv at a;split at H
 ·rename_i s
  match U,h with
  |[u],h=>simp only[Yf]at h;subst a;exact⟨s,h.1,H⟩
  |[],h=>simp[Yf]at h
  |_::_::_,h=>simp[Yf]at h
 ·rename_i y
  have q:=YG _ _ h;split at a
  ·rename_i u
   match S,q with
   |[s],_=>exact absurd rfl (y s)
  ·subst a
   exact⟨.tup S,by simp only[den];exact⟨U,rfl,h⟩,H⟩
theorem Loose.behind {F:List Nat} (o:Loose B E H F) (m:Inv B E H) {w':World} {S0:Nat->Prop} (k:Keeps ⟨E.w,S0,λb=>b∈F,[]⟩ w') {S2:Nat->Prop} (x:∀b,E.S b->S2 b)
  (N:∀b,S2 b->b<w'.heap.size/\(b<E.w.heap.size->E.S b\/b∈F)) {l:List Nat} (y:l.Nodup) (J:∀g∈l,¬S2 g/\g<w'.heap.size/\(E.w.heap.size<=g\/g∈F)) :
  E.le ⟨S2,w',E.ids⟩/\Inv B ⟨S2,w',E.ids⟩ H/\Loose B ⟨S2,w',E.ids⟩ H l:=by
 have r:E.le ⟨S2,w',E.ids⟩:=⟨x,λb d=>k.block b (m.Slt b d) (λs=>(o.free b s).1 d),λ_ _ hh=>hh⟩;refine⟨r,?_,y,λg u=>?_,λg u j e v i f n d=>?_⟩
 ·exact
   {keeps:=⟨k.os.trans m.keeps.os,k.tape.trans m.keeps.tape,k.output.trans m.keeps.output,Kg m.keeps.size k.size,λb d q =>
     (k.block b (UD d m.keeps.size) (λs=>by
      rcases(o.free b s).2.1 with p|p
      ·omega
      ·exact q p)).trans (m.keeps.block b d q)⟩
    Slt:=λb d=>(N b d).1
    Sold:=λb d t=>by
     rcases(N b d).2 (UD t m.keeps.size)with h|h
     ·exact m.Sold b h t
     ·rcases(o.free b h).2.1 with p|p
      ·omega
      ·exact .inr p
    len:=m.len
    pin:=m.pin
    ent:=λj e i=>ZdW r j e (λf v g n d=>k.block g (m.free j e v g i f n d).2.2 (λs=>o.apart g s j e v i f n d)) (m.ent j e i)
    free:=λj e v g i f n d=>by
     obtain⟨a,b,c⟩:=m.free j e v g i f n d;refine⟨λz=>?_,b,UD c k.size⟩;rcases(N g z).2 c with h|h
     ·exact a h
     ·exact o.apart g h j e v i f n d
    sep:=m.sep}
 ·obtain⟨a,b,c⟩:=J g u
  refine⟨a,?_,b⟩;rcases c with c|c
  ·exact .inl (Kg m.keeps.size c)
  ·exact(o.free g c).2.1
 ·obtain⟨_,_,c⟩:=J g u
  rcases c with c|c
  ·have:=(m.free j e v g i f n d).2.2;omega
  ·exact o.apart g c j e v i f n d
def ZdV:List Sh->Bool
 |[]=>true
 | .dat _::r=>ZdV r
 |_::_=>false
theorem Zma {S:Nat->Prop} {w:World}:∀(l:List Sh) (d:Shs l) (vs:List Value) (p:List Nat),ZdV l=true->Zc0 S w l d vs p->p=[]
 |[],_,_,_,_,h=>h.2
 | .dat _::r,_,_,_,L,⟨v,vr,f,fr,e,E,⟨H,_⟩,a⟩=>by rw[E,H,Zma r _ _ _ L a];rfl
 | .own _::_,_,_,_,h,_=>by simp[ZdV]at h
 | .io _::_,_,_,_,h,_=>by simp[ZdV]at h
 | .back _::_,_,_,_,h,_=>by simp[ZdV]at h
def Zik:List Sh->Bool
 |[]=>true
 | .dat _::r=>Zik r
 | .io (.flat _)::r=>Zik r
 |_::_=>false
def ZkQ:List Sh->List Bool
 |[]=>[]
 | .io _::r=>true::ZkQ r
 |_::r=>false::ZkQ r
def pick {α:Type}:List Bool->List α->List α
 |true::m,x::r=>x::pick m r
 |false::m,_::r=>pick m r
 |_,_=>[]
theorem Zqv {α β:Type} (f:α->β):∀(m:List Bool) (l:List α),pick m (l.map f)=(pick m l).map f
 |[],l=>by cases l<;>rfl
 |true::m,[]=>rfl
 |false::m,[]=>rfl
 |true::m,x::r=>by simp only[Kv,pick,Zqv f m r]
 |false::m,x::r=>by simp only[Kv,pick,Zqv f m r]
theorem Zka {S:Nat->Prop} {w:World}:∀(l:List Sh) (d:Shs l) (vs:List Value) (p:List Nat),Zik l=true->Zc0 S w l d vs p->∀g∈p,∃v∈pick (ZkQ l) vs,Yv v=some g
 |[],_,_,_,_,h,g,a=>by rw[h.2]at a;cases a
 | .dat _::r,_,_,_,L,⟨v,vr,f,fr,e,E,⟨c,_⟩,H⟩,g,a=>by
  rw[E,c,Uq]at a;rw[e];exact Zka r _ _ _ L H g a
 | .io (.flat t)::r,_,_,_,L,⟨v,vr,f,fr,e,E,⟨b,cs,T,F,n,_,k,j⟩,H⟩,g,a=>by
  have D:F=[]:=k.1;rw[E,j,D]at a;rw[e];rcases Uu.1 a with a|a
  ·rw[Ut]at a
   exact⟨v,by simp[ZkQ,pick],by rw[n,a];rfl⟩
  ·obtain⟨u,m,i⟩:=Zka r _ _ _ L H g a
   exact⟨u,by simp only[ZkQ,pick];exact UP _ m,i⟩
 | .io (.ol _ _)::_,_,_,_,h,_,_,_=>by simp[Zik]at h
 | .io (.pair _ _)::_,_,_,_,h,_,_,_=>by simp[Zik]at h
 | .io (.mp _ _)::_,_,_,_,h,_,_,_=>by simp[Zik]at h
 | .own _::_,_,_,_,h,_,_,_=>by simp[Zik]at h
 | .back _::_,_,_,_,h,_,_,_=>by simp[Zik]at h
theorem Zx6 {P:Program} (U:Inv B E H) {f:FuncId} {C:Ctr} (hC:Za P f C) {N:List SV} (hd:Yf E N vs)
  {K:SV->List Entry->Prop} (k:ZzW C N H K) :
  Calls P f vs.toArray E.w λe w'=>∃v E' H' s,e=.returned v/\E'.w=w'/\Inv B E' H'/\E.le E'/\den E' s v/\K s H'/\(ZdV C.args=true->Grow E.w w')/\(Zik C.args=true->∀b,b<E.w.heap.size->(∀v∈pick (ZkQ C.args) vs,Yv v≠some b)->w'.heap[b]?=E.w.heap[b]?):=by
 unfold ZzW at k;obtain⟨E1,H1,as,T,x,A,o,k,L,hT⟩:=Zi5 C.args N U hd (Loose.none B E H) k;rw[Um]at L;have l:=hC.2 E1.w E1.S vs as T _ A.Slt o L.nodup (λg Q=>⟨(L.free g Q).1,(L.free g Q).2.2⟩) k;rw[x.w]at l;refine l.mono ?_;rintro e w' ⟨v,us,rs,I,S',fr,R,he,hv,k,d,r,a5,i,m,b4,J⟩;have p:ZdV C.args=true->Grow E.w w':=by
  intro b0 b j;refine d.block b j ?_;rw[Zma _ _ _ _ b0 o];simp
 have y:Zik C.args=true->∀b,b<E.w.heap.size->(∀v∈pick (ZkQ C.args) vs,Yv v≠some b)->w'.heap[b]?=E.w.heap[b]?:=by
  intro b2 b j b5;refine d.block b j (λhm=>?_);obtain⟨u,hu,a9⟩:=Zka _ _ _ _ b2 o b hm;exact b5 u hu a9
 have F:∀(E0:Env) (H0:List Entry) (S2:Nat->Prop),E0.w=E.w->Inv B E0 H0->E.le E0->Loose B E0 H0 T->(∀b,E0.S b->S2 b)->(∀b,S2 b->S' b)->(∀b,S2 b->b<w'.heap.size/\(b<E.w.heap.size->E0.S b\/b∈T))->
   Zc0 S2 w' C.rets rs us fr->Zgo S2 w' C.args I vs R->
   (Zvo C.args N I H0 λH2=>Zl7 C.rets rs H2 λO H3=>ZrF O λs=>K s H3)->
   ∃v E' H' s,e=.returned v/\E'.w=w'/\Inv B E' H'/\E.le E'/\den E' s v/\K s H'/\(ZdV C.args=true->Grow E.w w')/\(Zik C.args=true->∀b,b<E.w.heap.size->(∀v∈pick (ZkQ C.args) vs,Yv v≠some b)->w'.heap[b]?=E.w.heap[b]?):=by
  intro E0 H0 S2 q V W a1 a6 a7 a8 b6 b3 k;obtain ⟨n,X,a2⟩:=a1.behind V (w':=w') (S0:=E1.S) (by rw[q];exact d) (S2:=S2) a6 (by rw[q];exact a8) b4 (λg Q=>by
   obtain ⟨a,b,c⟩:=J g Q;exact ⟨λhs=>a (a7 g hs),b,by rw[q];exact c⟩)
  obtain⟨E2,H2,M,z,Y,D,a3,k⟩:=ZnS C.args N I X (ZO (W.trans n) _ _ hd) b3 a2 k;obtain⟨E3,H3,O,b7,b8,Z,G,b1,k⟩:=Zjg C.rets rs us Y (gs:=[]) (by rw[z,M];exact b6) (by rw[Um];exact a3) k;obtain⟨s,hs,k⟩:=Zt7 b1 hv k;exact⟨v,E3,H3,s,he,b7.trans M,Z,((W.trans n).trans D).trans G,hs,k,p,y⟩
 split at k
 ·rename_i t
  simp only[Up]at t;obtain⟨a0,a4⟩:=Zs0 U x L hT;rw[Zri]at k;exact F E (ZmV H H1) E.S rfl a0 (Env.le.refl E) a4 (λb h=>h) (λb h=>r b (x.le.S b h)) (λb j=>⟨UD (U.Slt b j) d.size,λ_=>.inl j⟩)
   (Zk2 _ t.1 _ _ _ i) (Zd8 _ t.2 _ _ _ m) k
 ·exact F E1 H1 S' x.w A x.le L r (λb h=>h) (λb j=>by
   obtain ⟨a,c⟩:=a5 b j;exact ⟨a,c⟩) i m k
mutual
def ranged (n:Nat):SV->Prop
 | .ptr I _=>I<n
 | .own I=>I<n
 | .mown I=>I<n
 | .oep I _ _ _=>I<n
 | .fptr cs=>Zdr n cs
 | .agg cs=>Zdr n cs
 | .tup cs=>Zdr n cs
 | .fn _ cs=>Zdr n cs
 |_=>True
def Zdr (n:Nat):List SV->Prop
 |[]=>True
 |c::cs=>ranged n c/\Zdr n cs
end
mutual
theorem ZuC {E:Env}:∀(s:SV) (v:Value),den E s v->ranged E.ids.length s
 | .bot,_,_=>by simp only[ranged]
 | .int _ _,_,_=>by simp only[ranged]
 | .bool _,_,_=>by simp only[ranged]
 | .blit _,_,_=>by simp only[ranged]
 | .str _,_,_=>by simp only[ranged]
 | .sl _ _,_,_=>by simp only[ranged]
 | .nsl,_,_=>by simp only[ranged]
 | .nilp,_,_=>by simp only[ranged]
 | .nptr _ _,_,_=>by simp only[ranged]
 | .mp _ _ _,_,_=>by simp only[ranged]
 | .mown I,_,h=>by simp only[den]at h;simp only[ranged];exact(Ub.1 h.1).1
 | .ptr I _,_,h=>by simp only[den]at h;obtain⟨b,e,_⟩:=h;simp only[ranged];exact(Ub.1 e).1
 | .own I,_,h=>by simp only[den]at h;simp only[ranged];exact(Ub.1 h.1).1
 | .oep I _ _ _,_,h=>by simp only[den]at h;obtain⟨b,B,n,c,e,_⟩:=h;simp only[ranged];exact(Ub.1 e).1
 | .fptr cs,_,h=>by simp only[den]at h;obtain⟨p,vs,_,_,_,_,h⟩:=h;simp only[ranged];exact Zab cs vs h
 | .agg cs,_,h=>by simp only[den]at h;obtain⟨vs,_,h⟩:=h;simp only[ranged];exact Zab cs vs h
 | .tup cs,_,h=>by simp only[den]at h;obtain⟨vs,_,h⟩:=h;simp only[ranged];exact Zab cs vs h
 | .fn _ cs,_,h=>by simp only[den]at h;obtain⟨vs,_,h⟩:=h;simp only[ranged];exact Zab cs vs h
theorem Zab {E:Env}:∀(cs:List SV) (vs:List Value),Yf E cs vs->Zdr E.ids.length cs
 |[],_,_=>by simp only[Zdr]
 |c::cs,v::vs,h=>by simp only[Yf]at h;simp only[Zdr];exact⟨ZuC c v h.1,Zab cs vs h.2⟩
 |_::_,[],h=>by simp[Yf]at h
end
mutual
theorem Zv2 {E:Env} {n:Nat}:∀(s:SV) (v:Value),ranged n s->den E s v->den ⟨E.S,E.w,E.ids.take n⟩ s v
 | .bot,_,_,h=>h
 | .int _ _,_,_,h=>h
 | .bool _,_,_,h=>h
 | .blit _,_,_,h=>h
 | .str _,_,_,h=>h
 | .sl _ _,_,_,h=>h
 | .nsl,_,_,h=>h
 | .nilp,_,_,h=>h
 | .nptr _ _,_,_,h=>h
 | .mp _ _ _,_,_,h=>h
 | .mown I,_,q,h=>by
  simp only[den]at h ⊢;simp only[ranged]at q;exact⟨by rw[UB,Uc q];exact h.1,h.2⟩
 | .ptr I _,_,q,h=>by
  simp only[den]at h ⊢;simp only[ranged]at q;obtain⟨b,e,f⟩:=h;exact⟨b,by rw[UB,Uc q];exact e,f⟩
 | .own I,_,q,h=>by
  simp only[den]at h ⊢;simp only[ranged]at q;exact⟨by rw[UB,Uc q];exact h.1,h.2⟩
 | .oep I _ _ _,_,q,h=>by
  simp only[den]at h ⊢;simp only[ranged]at q;obtain⟨b,B,m,c,e,f⟩:=h;exact⟨b,B,m,c,by rw[UB,Uc q];exact e,f⟩
 | .fptr cs,_,q,h=>by
  simp only[den]at h ⊢;simp only[ranged]at q;obtain⟨p,vs,a,b,c,d,h⟩:=h;exact⟨p,vs,a,b,c,d,Zbk cs vs q h⟩
 | .agg cs,_,q,h=>by simp only[den]at h ⊢;simp only[ranged]at q;obtain⟨vs,a,h⟩:=h;exact⟨vs,a,Zbk cs vs q h⟩
 | .tup cs,_,q,h=>by simp only[den]at h ⊢;simp only[ranged]at q;obtain⟨vs,a,h⟩:=h;exact⟨vs,a,Zbk cs vs q h⟩
 | .fn _ cs,_,q,h=>by simp only[den]at h ⊢;simp only[ranged]at q;obtain⟨vs,a,h⟩:=h;exact⟨vs,a,Zbk cs vs q h⟩
theorem Zbk {E:Env} {n:Nat}:∀(cs:List SV) (vs:List Value),Zdr n cs->Yf E cs vs->Yf ⟨E.S,E.w,E.ids.take n⟩ cs vs
 |[],[],_,_=>trivial
 |c::cs,v::vs,q,h=>by simp only[Yf]at h ⊢;simp only[Zdr]at q;exact⟨Zv2 c v q.1 h.1,Zbk cs vs q.2 h.2⟩
 |_::_,[],_,h=>by simp[Yf]at h
 |[],_::_,_,h=>by simp[Yf]at h
end
def Zsv (n:Nat):Entry->Prop
 | .box cells=>Zdr n cells
 | .fbx cells=>Zdr n cells
 | .hole _ _ _ _ cells _=>Zdr n cells
 | .hsp _ _ _ _ cells _=>Zdr n cells
 |_=>True
variable {E:Env}
theorem Zsu {i:Nat} {e:Entry} (h:Ztz E i e):Zsv E.ids.length e:=by
 cases e with
 |box cells=>obtain⟨b,cs,T,_,_,h⟩:=h;exact Zab _ _ h
 |fbx cells=>obtain⟨b,cs,T,_,_,_,h⟩:=h;exact Zab _ _ h
 |hole c e d i cells f=>obtain⟨_,_,_,_,_,_,_,_,_,_,_,_,_,_,_,_,h,_⟩:=h;exact Zab _ _ h
 |hsp c e d i cells f=>obtain⟨_,_,_,_,_,_,_,_,_,_,_,_,_,_,_,h,_⟩:=h;exact Zab _ _ h
 |_=>trivial
variable {B:Base} {H:List Entry}
theorem Inv.trunc (h:Inv B E H) (n:Nat) (hn:B.pin.length<=n) (z:∀e∈H.take n,Zsv n e):Inv B ⟨E.S,E.w,E.ids.take n⟩ (H.take n):=by
 have y:∀(i:Nat) (e:Entry),(H.take n)[i]?=some e->i<n/\H[i]?=some e:=by
  intro i e l;rw[UB]at l;split at l
  ·exact⟨‹_›,l⟩
  ·cases l
 have a:∀(i:Nat) (v:Value),i<n->E.ids[i]?=some v->(E.ids.take n)[i]?=some v:=by
  intro i v l o;rw[UB,Uc l];exact o
 have f:∀(i:Nat) (v:Value),(E.ids.take n)[i]?=some v->E.ids[i]?=some v:=by
  intro i v o;rw[UB]at o;split at o
  ·exact o
  ·cases o
 exact
  {keeps:=h.keeps,Slt:=h.Slt,Sold:=h.Sold,len:=by simp[h.len]
   pin:=λi v o=>a i v (UD (Ub.1 o).1 hn) (h.pin i v o)
   ent:=λi e l=>by
    have m:=Ud l;obtain⟨c,N⟩:=y i e l;have p:=h.ent i e N;cases e with
    |gone=>trivial
    |box cells =>
     obtain⟨b,cs,T,a1,A,q⟩:=p;exact⟨b,cs,T,a _ _ c a1,A,Zbk _ _ (z _ m) q⟩
    |arr x t d=>obtain⟨v,xs,a1,A,q⟩:=p;exact⟨v,xs,a _ _ c a1,A,q⟩
    |frz t d=>obtain⟨v,a1,A⟩:=p;exact⟨v,a _ _ c a1,A⟩
    |mpe k v d=>obtain⟨b,es,K,a1,A⟩:=p;exact⟨b,es,K,a _ _ c a1,A⟩
    |frm k v d=>obtain⟨u,a1,A⟩:=p;exact⟨u,a _ _ c a1,A⟩
    |fbx cells =>
     obtain⟨b,cs,T,a1,Z,A,q⟩:=p;exact⟨b,cs,T,a _ _ c a1,Z,A,Zbk _ _ (z _ m) q⟩
    |darr x e d L=>obtain⟨v,xs,M,a1,A⟩:=p;exact⟨v,xs,M,a _ _ c a1,A⟩
    |hole x e d i cells L =>
     obtain⟨v,xs,X,V,U,f1,f2,a1,A,q,C,D,F,G,I,J,r,s⟩:=p;exact⟨v,xs,X,V,U,f1,f2,a _ _ c a1,A,q,C,D,F,G,I,J,Zbk _ _ (z _ m) r,s⟩
    |spl x e d n L=>obtain⟨v,a1,A⟩:=p;exact⟨v,a _ _ c a1,A⟩
    |hsp x e d i cells L =>
     obtain⟨v,xs,X,V,U,f1,a1,A,q,C,D,F,G,I,J,r,s⟩:=p;exact⟨v,xs,X,V,U,f1,a _ _ c a1,A,q,C,D,F,G,I,J,Zbk _ _ (z _ m) r,s⟩
   free:=λi e v g l hl o hb=>h.free i e v g (y i e l).2 hl (f _ _ o) hb
   sep:=λi j W Y vi vj g l hj O P Q R=>h.sep i j W Y vi vj g (y i W l).2 (y j Y hj).2 O P (f _ _ Q) (f _ _ R)}
inductive Loc
 |reg (r:Nat) (s:Sh)
 |cell (id off:Nat) (t:Ty)
 |cello (id off:Nat) (e:Dp)
 |ent (id:Nat) (et:TypeId) (e:Dp)
 |entm (id:Nat) (k v:Ty)
 |splt (id:Nat) (et:TypeId) (e:Dp)
def Loc.ZB6 (n:Nat):Loc->Prop
 | .ent I _ _=>I<n
 | .entm I _ _=>I<n
 | .splt I _ _=>I<n
 |_=>True
@[reducible] def Loc.den:Loc->Type
 | .reg _ s=>s.den
 | .cell _ _ t=>t.den
 | .cello _ _ e=>e.ty.den
 | .ent _ _ e=>List e.ty.den
 | .entm _ k v=>List (k.den×v.den)
 | .splt _ _ e=>List e.ty.den×Int
@[reducible] def Zsi:List Loc->Type
 |[]=>Unit
 |l::r=>l.den×Zsi r
def ZhC:(ls:List Loc)->List SV->List Entry->(Zsi ls->List Entry->Prop)->Prop
 |[],_,H,K=>K () H
 | .reg r (.dat t)::q,R,H,K=>ZmN R r λs=>VD [s] H λcs H1=>X0 t cs λd a=>match a with
   |[]=>ZhC q R H1 λD H2=>K (d,D) H2
   |_=>False
 | .reg r (.own e)::q,R,H,K=>ZmN R r λs=>if s.whole=true/\e.ty.agg=s.isAgg then closeAll e s.cells H λd H1=>ZhC q R H1 λD H2=>K (d,D) H2 else False
 | .reg _ (.io _)::_,_,_,_=>False
 | .reg _ (.back _)::_,_,_,_=>False
 | .cell I o t::q,R,H,K=>ZgN H I λe=>match e with
   | .box cells=>ZmN cells o λs=>VD [s] H λcs H1=>X0 t cs λd a=>match a with
    |[]=>ZhC q R H1 λD H2=>K (d,D) H2
    |_=>False
   |_=>False
 | .cello I o e::q,R,H,K=>ZgN H I λC=>match C with
   | .box cells=>ZmN cells o λs=>closeAll e [s] H λd H1=>ZhC q R H1 λD H2=>K (d,D) H2
   |_=>False
 | .ent I c e::q,R,H,K=>closeAll (.ol c e) [.own I] H λd H1=>ZhC q R H1 λD H2=>K (d,D) H2
 | .entm I k v::q,R,H,K=>closeAll (.mp k v) [.mown I] H λd H1=>ZhC q R H1 λD H2=>K (d,D) H2
 | .splt I c e::q,R,H,K=>ZvO c e I H λd n H1=>ZhC q R H1 λD H2=>K ((d,n),D) H2
def ZDy (t:Ty) (d:t.den) (K:SV->Prop):Prop:=Vv t d λcs=>match cs with
 |[c]=>K c
 |_=>False
def ZqY:(ls:List Loc)->Zsi ls->List SV->List Entry->(List SV->List Entry->Prop)->Prop
 |[],_,R,H,K=>K R H
 | .reg r (.dat t)::q,v,R,H,K=>Zx v λx v'=>ZDy t x λc=>Zu9 R r c λa=>ZqY q v' a H K
 | .reg r (.own e)::q,v,R,H,K=>Zx v λx v'=>Vj e x H λcs H1=>Zrc e.ty cs λs=>Zu9 R r s λa=>ZqY q v' a H1 K
 | .reg _ (.io _)::_,_,_,_,_=>False
 | .reg _ (.back _)::_,_,_,_,_=>False
 | .cell I o t::q,v,R,H,K=>Zx v λx v'=>ZDy t x λc=>ZgN H I λe=>match e with
   | .box cells=>Zu9 cells o c λcells'=>ZhD H I (.box cells') λH'=>ZqY q v' R H' K
   |_=>False
 | .cello I o e::q,v,R,H,K=>Zx v λx v'=>Vj e x H λcs H1=>match cs with
   |[s]=>ZgN H1 I λC=>match C with
    | .box cells=>Zu9 cells o s λcells'=>ZhD H1 I (.box cells') λH'=>ZqY q v' R H' K
    |_=>False
   |_=>False
 | .ent I E e::q,v,R,H,K=>Zx v λx v'=>ZAB E e I x H λH'=>ZqY q v' R H' K
 | .entm I k u::q,v,R,H,K=>Zx v λx v'=>ZhD H I (.mpe k u x) λH'=>ZqY q v' R H' K
 | .splt I E e::q,v,R,H,K=>Zx v λx v'=>∀f:List Nat,ZhD H I (.spl E e x.1 x.2 f) λH'=>ZqY q v' R H' K
def ZmS:List Loc->List Entry->(List Entry->Prop)->Prop
 |[],H,K=>K H
 | .cell I o _::q,H,K=>ZgN H I λe=>match e with
   | .box cells=>Zu9 cells o .bot λcells'=>ZhD H I (.box cells') λH'=>ZmS q H' K
   |_=>False
 | .cello I o _::q,H,K=>ZgN H I λe=>match e with
   | .box cells=>Zu9 cells o .bot λcells'=>ZhD H I (.box cells') λH'=>ZmS q H' K
   |_=>False
 | .reg _ _::q,H,K=>ZmS q H K
 | .ent _ _ _::q,H,K=>ZmS q H K
 | .entm _ _ _::q,H,K=>ZmS q H K
 | .splt _ _ _::q,H,K=>ZmS q H K
def ZuR:List Nat->List SV->(List SV->Prop)->Prop
 |[],s,K=>K s
 |r::q,s,K=>Zu9 s r .bot λa=>ZuR q a K
def ZiQ:List Loc->List Nat->(List Nat->Prop)->Prop
 |[],W,K=>K W
 | .reg r _::q,W,K=>ZiQ q W λW'=>K (r::W')
 | .cell _ _ _::q,W,K=>ZiQ q W K
 | .cello _ _ _::q,W,K=>ZiQ q W K
 | .ent _ _ _::q,W,K=>ZiQ q W K
 | .entm _ _ _::q,W,K=>ZiQ q W K
 | .splt _ _ _::q,W,K=>ZiQ q W K
theorem Zqo {E:Env}:∀(W:List Nat) (s:List SV) (vs:List Value),Yf E s vs->∀{K:List SV->Prop},ZuR W s K->∃a,Yf E a vs/\K a
 |[],s,vs,L,K,H=>⟨s,L,H⟩
 |r::W,s,vs,L,K,H=>by
  simp only[ZuR,ZeW]at H;have b:Yf E (s.set r .bot) vs:=by
   by_cases h:r<vs.length
   ·have:=Ze9 _ _ L r .bot vs[r] (by simp only[den])
    simpa using this
   ·have q:=YG _ _ L
    rw[List.set_eq_of_length_le (by omega)];exact L
  exact Zqo W _ vs b H
variable {I:Nat} {cells:List SV}
theorem Inv.weaken (h:Inv B E H) {cells':List SV} (J:H[I]?=some (.box cells)) (P:∀b cs T,E.ids[I]?=some (.pointer (some ⟨b,0,none⟩))->E.w.heap[b]?=some (.cells cs T (0,0))->Yf E cells cs.toList->Yf E cells' cs.toList) :
  Inv B E (H.set I (.box cells')):=by
 have A:I<H.length:=(Ub.1 J).1;have d:∀(j:Nat) (e:Entry),(H.set I (.box cells'))[j]?=some e->∃n,H[j]?=some n/\(e.live=true->n.live=true)/\(j≠I->e=n)/\(j=I->e=.box cells'/\n=.box cells)/\(∀v g,Zhi e v g->Zhi n v g):=by
  intro j e a;by_cases D:I=j
  ·subst D
   rw[UF A]at a;simp at a;subst a;exact⟨_,J,λ_=>rfl,λy=>absurd rfl y,λ_=>⟨rfl,rfl⟩,λv g h=>h⟩
  ·rw[UH D]at a
   exact⟨e,a,λh=>h,λ_=>rfl,λe=>absurd e.symm D,λv g h=>h⟩
 exact
  {keeps:=h.keeps,Slt:=h.Slt,Sold:=h.Sold,len:=by simp[h.len],pin:=h.pin
   ent:=λj e a=>by
    obtain⟨n,c,_,y,q,_⟩:=d j e a;by_cases D:j=I
    ·obtain⟨rfl,rfl⟩:=q D
     obtain⟨b,cs,T,a1,G,L⟩:=h.ent j _ c;subst D;exact⟨b,cs,T,a1,G,P b cs T a1 G L⟩
    ·rw[y D];exact h.ent j n c
   free:=λj e v g a Q R O=>by
    obtain⟨n,c,k,_,_,f⟩:=d j e a;exact h.free j n v g c (k Q) R (f v g O)
   sep:=λi j M N V K g s p u z C F m o=>by
    obtain ⟨n,x,k,_,_,f⟩:=d i M s;obtain ⟨e1,r,t,_,_,l⟩:=d j N p;exact h.sep i j n e1 V K g x r (k u) (t z) C F (f V g m) (l K g o)}
variable {vs:List Value}
theorem Zmo (L:Yf E cells vs) (o:Nat):Yf E (cells.set o .bot) vs:=by
 by_cases h:o<vs.length
 ·have:=Ze9 _ _ L o .bot vs[o] (by simp only[den])
  simpa using this
 ·have q:=YG _ _ L
  rw[List.set_eq_of_length_le (by omega)];exact L
def Jq (B:Base) (E:Env) (H:List Entry) (vs:List Value):(ls:List Loc)->Zsi ls->List Nat->Prop
 |[],_,gs=>gs=[]
 | .reg r (.dat t)::q,v,gs=>(∃u,vs[r]?=some u/\rep E.S E.w t v.1 [u])/\Jq B E H vs q v.2 gs
 | .reg r (.own e)::q,v,gs=>∃u f g,vs[r]?=some u/\ZxL e.ty u/\ZgF E.S E.w e v.1 u.cells.toList f/\gs=f++g/\Jq B E H vs q v.2 g
 | .reg _ (.io _)::_,_,_=>False
 | .reg _ (.back _)::_,_,_=>False
 | .cell I o t::q,v,gs=>(∃b cs T cells u,H[I]?=some (.box cells)/\E.ids[I]?=some (.pointer (some ⟨b,0,none⟩))/\E.w.heap[b]?=some (.cells cs T (0,0))/\cs.toList[o]?=some u/\rep E.S E.w t v.1 [u])/\
   Jq B E H vs q v.2 gs
 | .cello I o e::q,v,gs=>∃b cs T cells u f g,H[I]?=some (.box cells)/\E.ids[I]?=some (.pointer (some ⟨b,0,none⟩))/\E.w.heap[b]?=some (.cells cs T (0,0))/\cs.toList[o]?=some u/\
   ZgF E.S E.w e v.1 [u] f/\gs=f++g/\Jq B E H vs q v.2 g
 | .ent I a e::q,v,gs=>∃u f g,I<H.length/\E.ids[I]?=some u/\(∀c,H[I]?≠some (.box c))/\ZgF E.S E.w (.ol a e) v.1 [u] f/\gs=f++g/\Jq B E H vs q v.2 g
 | .entm I k t::q,v,gs=>∃u f g,I<H.length/\E.ids[I]?=some u/\(∀c,H[I]?≠some (.box c))/\ZgF E.S E.w (.mp k t) v.1 [u] f/\gs=f++g/\Jq B E H vs q v.2 g
 | .splt I a e::q,v,gs=>∃u f g,I<H.length/\E.ids[I]?=some u/\(∀c,H[I]?≠some (.box c))/\ZCp E.S E.w a e v.1.1 v.1.2 u f/\gs=f++g/\Jq B E H vs q v.2 g
def Boxed (H H':List Entry):Prop:=H'.length=H.length/\(∀(i:Nat) (c:List SV),H[i]?=some (.box c)->∃J,H'[i]?=some (.box J))/\∀(i:Nat) (c:List SV),H'[i]?=some (.box c)->∃J,H[i]?=some (.box J)
theorem Boxed.refl (H:List Entry):Boxed H H:=⟨rfl,λ_ c h=>⟨c,h⟩,λ_ c h=>⟨c,h⟩⟩
theorem Boxed.trans {A C D:List Entry} (h:Boxed A C) (k:Boxed C D):Boxed A D :=
 ⟨k.1.trans h.1,λi c l=>by obtain⟨J,H⟩:=h.2.1 i c l;exact k.2.1 i J H,λi c l=>by obtain⟨J,H⟩:=k.2.2 i c l;exact h.2.2 i J H⟩
theorem Boxed.frz {E':Env} {H':List Entry} (h:Frz E H E' H') (b:∀(i:Nat) (c:List SV),H[i]?=some (.box c)->H'[i]?=some (.box c)):Boxed H H' :=
 ⟨h.len,λi c l=>⟨c,b i c l⟩,λi c l=>⟨c,h.box i c l⟩⟩
theorem Boxed.Zk1 {c0 c1:List SV} (h:H[I]?=some (.box c0)):Boxed H (H.set I (.box c1)):=by
 have t:=(Ub.1 h).1;refine⟨by simp,λi c l=>?_,λi c l=>?_⟩
 ·by_cases a:I=i
  ·subst a;exact⟨_,UF t⟩
  ·exact⟨c,by rw[UH a];exact l⟩
 ·by_cases a:I=i
  ·subst a;exact⟨_,h⟩
  ·rw[UH a]at l;exact⟨c,l⟩
theorem Boxed.ZAJ {e1:Entry} (h:∀c,H[I]?≠some (.box c)) (d:∀c,e1≠.box c):Boxed H (H.set I e1):=by
 refine⟨by simp,λi c l=>?_,λi c l=>?_⟩
 ·by_cases a:I=i
  ·subst a;exact absurd l (h c)
  ·exact⟨c,by rw[UH a];exact l⟩
 ·by_cases a:I=i
  ·subst a
   have t:I<H.length:=by have:=(Ub.1 l).1;simpa using this
   rw[UF t]at l;simp at l;exact absurd l (d c)
  ·rw[UH a]at l;exact⟨c,l⟩
theorem JU {B:Base} {E E':Env} {H H':List Entry} (n:E'.w=E.w) (r:∀b,E.S b->E'.S b) (s:∀(i:Nat) (v:Value),i<H'.length->E.ids[i]?=some v->E'.ids[i]?=some v) {vs:List Value}
  (x:∀(i:Nat) (c:List SV),H[i]?=some (.box c)->i<H'.length->∃J,H'[i]?=some (.box J)) (m:∀(i:Nat) (c:List SV),H'[i]?=some (.box c)->∃J,H[i]?=some (.box J)) :
  ∀(ls:List Loc) (v:Zsi ls) (gs:List Nat),(∀I O t,Loc.cell I O t∈ls->I<H'.length)->(∀I O e,Loc.cello I O e∈ls->I<H'.length)->(∀l∈ls,l.ZB6 H'.length)->Jq B E H vs ls v gs->Jq B E' H' vs ls v gs
 |[],_,_,_,_,_,h=>h
 | .reg _ (.dat t)::q,v,gs,p1,p2,P,⟨⟨u,a,b⟩,h⟩=>⟨⟨u,a,Yo r (λ_ _=>by rw[n]) t _ _ b⟩,JU n r s x m q v.2 gs (λi o t h=>p1 i o t (by simp[h])) (λi o t h=>p2 i o t (by simp[h])) (λl h=>P l (by simp[h])) h⟩
 | .reg _ (.own e)::q,v,gs,p1,p2,P,⟨u,f,G,a,b,c,d,h⟩=>⟨u,f,G,a,b,Yw r (λ_ _=>by rw[n]) e _ _ _ (λg _=>by rw[n]) c,d,JU n r s x m q v.2 G (λi o t h=>p1 i o t (by simp[h])) (λi o t h=>p2 i o t (by simp[h])) (λl h=>P l (by simp[h])) h⟩
 | .cell I O t::q,v,gs,p1,p2,P,⟨⟨b,cs,T,cells,u,a1,A,y,z,D⟩,h⟩=>by
  have j:=p1 I O t (by simp);obtain⟨J,p⟩:=x I _ a1 j;exact⟨⟨b,cs,T,J,u,p,s _ _ j A,by rw[n];exact y,z,Yo r (λ_ _=>by rw[n]) t _ _ D⟩,JU n r s x m q v.2 gs (λi o t h=>p1 i o t (by simp[h])) (λi o t h=>p2 i o t (by simp[h])) (λl h=>P l (by simp[h])) h⟩
 | .cello I O e::q,v,gs,p1,p2,P,⟨b,cs,T,cells,u,f,G,a1,A,y,z,D,K,h⟩=>by
  have j:=p2 I O e (by simp);obtain⟨J,p⟩:=x I _ a1 j;exact⟨b,cs,T,J,u,f,G,p,s _ _ j A,by rw[n];exact y,z,Yw r (λ_ _=>by rw[n]) e _ _ _ (λg _=>by rw[n]) D,K,JU n r s x m q v.2 G (λi o t h=>p1 i o t (by simp[h])) (λi o t h=>p2 i o t (by simp[h])) (λl h=>P l (by simp[h])) h⟩
 | .ent I F e::q,v,gs,p1,p2,P,⟨u,f,G,a1,A,y,z,D,h⟩=>by
  have j:I<H'.length:=P _ UK;exact⟨u,f,G,j,s _ _ j A,λc C=>by obtain⟨J,p⟩:=m I c C;exact y J p,Yw r (λ_ _=>by rw[n]) (.ol F e) _ _ _ (λg _=>by rw[n]) z,D,JU n r s x m q v.2 G (λi o t h=>p1 i o t (by simp[h])) (λi o t h=>p2 i o t (by simp[h])) (λl h=>P l (by simp[h])) h⟩
 | .entm I k t::q,v,gs,p1,p2,P,⟨u,f,G,a1,A,y,z,D,h⟩=>by
  have j:I<H'.length:=P _ UK;exact⟨u,f,G,j,s _ _ j A,λc C=>by obtain⟨J,p⟩:=m I c C;exact y J p,Yw r (λ_ _=>by rw[n]) (.mp k t) _ _ _ (λg _=>by rw[n]) z,D,JU n r s x m q v.2 G (λi o t h=>p1 i o t (by simp[h])) (λi o t h=>p2 i o t (by simp[h])) (λl h=>P l (by simp[h])) h⟩
 | .splt I F e::q,v,gs,p1,p2,P,⟨u,f,G,a1,A,y,z,D,h⟩=>by
  have j:I<H'.length:=P _ UK;exact⟨u,f,G,j,s _ _ j A,λc C=>by obtain⟨J,p⟩:=m I c C;exact y J p,Zoa r (λ_ _=>by rw[n]) (λg _=>by rw[n]) z,D,JU n r s x m q v.2 G (λi o t h=>p1 i o t (by simp[h])) (λi o t h=>p2 i o t (by simp[h])) (λl h=>P l (by simp[h])) h⟩
def ZCf (n:Nat) (ls:List Loc):Prop:=(∀I o t,Loc.cell I o t∈ls->I<n)/\(∀I o e,Loc.cello I o e∈ls->I<n)/\∀l∈ls,l.ZB6 n
theorem ZcZ {B:Base} {E:Env} {H:List Entry} {vs:List Value}:∀(ls:List Loc) (v:Zsi ls) (gs:List Nat),Jq B E H vs ls v gs->ZCf H.length ls
 |[],_,_,_=>⟨λ_ _ _ h=>by simp at h,λ_ _ _ h=>by simp at h,λ_ h=>by simp at h⟩
 | .reg _ (.dat t)::q,v,gs,⟨_,h⟩=>by
  obtain⟨a,b,c⟩:=ZcZ q v.2 gs h;exact⟨λi o t h=>a i o t (by simpa using h),λi o t h=>b i o t (by simpa using h),λl h=>(Us.1 h).elim (λe=>by subst e;trivial) (c l)⟩
 | .reg _ (.own e)::q,v,gs,⟨_,_,g,_,_,_,_,h⟩=>by
  obtain⟨a,b,c⟩:=ZcZ q v.2 g h;exact⟨λi o t h=>a i o t (by simpa using h),λi o t h=>b i o t (by simpa using h),λl h=>(Us.1 h).elim (λe=>by subst e;trivial) (c l)⟩
 | .reg _ (.io _)::_,_,_,h=>by simp only[Jq]at h
 | .reg _ (.back _)::_,_,_,h=>by simp only[Jq]at h
 | .cell I f t::q,v,gs,⟨⟨_,_,_,_,_,a1,_⟩,h⟩=>by
  obtain⟨a,b,c⟩:=ZcZ q v.2 gs h;refine⟨λi o t' d=>?_,λi o t h=>b i o t (by simpa using h),λl h=>(Us.1 h).elim (λe=>by subst e;trivial) (c l)⟩;rcases Us.1 d with e|d
  ·injection e with e1 m n;subst e1;exact(Ub.1 a1).1
  ·exact a i o t' d
 | .cello I f e::q,v,gs,⟨_,_,_,_,_,_,g,a1,_,_,_,_,_,h⟩=>by
  obtain⟨a,b,c⟩:=ZcZ q v.2 g h;refine⟨λi o t h=>a i o t (by simpa using h),λi o j d=>?_,λl h=>(Us.1 h).elim (λe=>by subst e;trivial) (c l)⟩;rcases Us.1 d with e|d
  ·injection e with e1 m n;subst e1;exact(Ub.1 a1).1
  ·exact b i o j d
 | .ent I p e::q,v,gs,⟨_,_,g,a1,_,_,_,_,h⟩=>by
  obtain⟨a,b,c⟩:=ZcZ q v.2 g h;exact⟨λi o t h=>a i o t (by simpa using h),λi o t h=>b i o t (by simpa using h),λl h=>(Us.1 h).elim (λe=>by subst e;exact a1) (c l)⟩
 | .entm I k u::q,v,gs,⟨_,_,g,a1,_,_,_,_,h⟩=>by
  obtain⟨a,b,c⟩:=ZcZ q v.2 g h;exact⟨λi o t h=>a i o t (by simpa using h),λi o t h=>b i o t (by simpa using h),λl h=>(Us.1 h).elim (λe=>by subst e;exact a1) (c l)⟩
 | .splt I p e::q,v,gs,⟨_,_,g,a1,_,_,_,_,h⟩=>by
  obtain⟨a,b,c⟩:=ZcZ q v.2 g h;exact⟨λi o t h=>a i o t (by simpa using h),λi o t h=>b i o t (by simpa using h),λl h=>(Us.1 h).elim (λe=>by subst e;exact a1) (c l)⟩
theorem Za0 {E':Env} {H':List Entry} (f:E'.w=E.w) (d:∀b,E.S b->E'.S b) (s:∀(i:Nat) (v:Value),E.ids[i]?=some v->E'.ids[i]?=some v) (a:Boxed H H')
  (ls:List Loc) (v:Zsi ls) (gs:List Nat) (h:Jq B E H vs ls v gs):Jq B E' H' vs ls v gs:=by
 obtain⟨p1,p2,P⟩:=ZcZ ls v gs h;rw[<-a.1]at p1 p2 P;exact JU f d (λi v _ e=>s i v e) (λi c l _=>a.2.1 i c l) a.2.2 ls v gs p1 p2 P h
theorem Zmr (E':Env) (l:List Entry) (n:E'.w=E.w) (o:E'.S=E.S) (s:∀(i:Nat) (v:Value),E.ids[i]?=some v->E'.ids[i]?=some v)
  (ls:List Loc) (v:Zsi ls) (gs:List Nat) (h:Jq B E H vs ls v gs):Jq B E' (H++l) vs ls v gs:=by
 obtain⟨p1,p2,P⟩:=ZcZ ls v gs h;have p:H.length<=(H++l).length:=by simp
 have G:∀(ls:List Loc) (v:Zsi ls) (gs:List Nat),Jq B E H vs ls v gs->Jq B E' (H++l) vs ls v gs:=by
  intro ls;induction ls with
  |nil=>intro v gs h;exact h
  |cons x q I =>
   intro v gs h
   match x,v,h with
   | .reg _ (.dat t),v,⟨⟨u,a,b⟩,h⟩=>exact⟨⟨u,a,by rw[o,n];exact b⟩,I v.2 gs h⟩
   | .reg _ (.own e),v,⟨u,f,g,a,b,c,d,h⟩=>exact⟨u,f,g,a,b,by rw[o,n];exact c,d,I v.2 g h⟩
   | .reg _ (.io _),v,h=>simp only[Jq]at h
   | .reg _ (.back _),v,h=>simp only[Jq]at h
   | .cell y O t,v,⟨⟨b,cs,T,cells,u,a1,A,j,m,D⟩,h⟩ =>
    exact⟨⟨b,cs,T,cells,u,by rw[Uy (Ub.1 a1).1];exact a1,s _ _ A,by rw[n];exact j,m,by rw[o,n];exact D⟩,I v.2 gs h⟩
   | .cello y O e,v,⟨b,cs,T,cells,u,f,g,a1,A,j,m,D,F,h⟩ =>
    exact⟨b,cs,T,cells,u,f,g,by rw[Uy (Ub.1 a1).1];exact a1,s _ _ A,by rw[n];exact j,m,by rw[o,n];exact D,F,I v.2 g h⟩
   | .ent y z e,v,⟨u,f,g,a1,A,j,m,D,h⟩ =>
    exact⟨u,f,g,UD a1 p,s _ _ A,λc r=>j c (by rwa [Uy a1]at r),by rw[o,n];exact m,D,I v.2 g h⟩
   | .entm y k t,v,⟨u,f,g,a1,A,j,m,D,h⟩ =>
    exact⟨u,f,g,UD a1 p,s _ _ A,λc r=>j c (by rwa [Uy a1]at r),by rw[o,n];exact m,D,I v.2 g h⟩
   | .splt y z e,v,⟨u,f,g,a1,A,j,m,D,h⟩ =>
    exact⟨u,f,g,UD a1 p,s _ _ A,λc r=>j c (by rwa [Uy a1]at r),by rw[o,n];exact m,D,I v.2 g h⟩
 exact G ls v gs h
def Taken (B:Base) (ls:List Loc) (E:Env) (H:List Entry) (vs:List Value) (gs:List Nat) (K:Zsi ls->List Entry->Prop):Prop :=
 ∃E1 H1 v g,E1.w=E.w/\E1.ids=E.ids/\Inv B E1 H1/\E.le E1/\K v H1/\Jq B E1 H1 vs ls v g/\Loose B E1 H1 (g++gs)/\Boxed H H1
theorem Zf8 {B:Base}:∀(ls:List Loc) {E:Env} {H:List Entry} (_:Inv B E H) {R:List SV} {vs:List Value} (_:Yf E R vs) (gs:List Nat) (_:Loose B E H gs) {K:Zsi ls->List Entry->Prop} (_:ZhC ls R H K),Taken B ls E H vs gs K
 |[],E,H,z,R,vs,J,gs,O,K,a=>⟨E,H,(),[],rfl,rfl,z,Env.le.refl E,a,rfl,O,Boxed.refl H⟩
 | .reg r (.dat t)::q,E,H,z,R,vs,J,gs,O,K,a=>by
  simp only[ZhC]at a;obtain⟨s,u,D,W,a,_⟩:=ZbU _ _ J a;obtain⟨E1,H1,cs,j,A,a4,a,p⟩:=Qw [s] z (show Yf E [s] [u]from⟨W,trivial⟩) a;obtain⟨d,a6,v1,v2,X,V,Q,a⟩:=XD t cs _ _ a4 a;split at a
  ·have a5:v2=[]:=by cases v2 with
    |nil=>rfl
    |cons=>simp[Yf]at Q
   subst a5;rw[Um]at X;obtain⟨E2,H2,v,G,l,i,y,h,a,U,M,m⟩:=Zf8 q A (ZO j.le _ _ J) gs (O.frz j) a;refine⟨E2,H2,(d,v),G,l.trans j.w,i.trans j.ids,y,j.le.trans h,a,⟨⟨u,D,?_⟩,U⟩,M,(Boxed.frz j p).trans m⟩;rw[X];exact Yo h.S h.w t d v1 V
  ·exact a.elim
 | .reg r (.own e)::q,E,H,z,R,vs,J,gs,O,K,a=>by
  simp only[ZhC]at a;obtain⟨s,u,D,W,a,_⟩:=ZbU _ _ J a;split at a
  ·rename_i Y
   obtain⟨hw,a7⟩:=Y;obtain⟨E1,H1,d,f,j,A,V,a,L,hT,p⟩:=Vl z (JJ W hw) O a;obtain⟨E2,H2,v,G,l,i,y,h,a,U,M,m⟩:=Zf8 q A (ZO j.le _ _ J) (f++gs) L a;refine⟨E2,H2,(d,v),f++G,l.trans j.w,i.trans j.ids,y,j.le.trans h,a,⟨u,f,G,D,Zp9 W hw a7,?_,rfl,U⟩,M.perm ?_,(Boxed.frz j p).trans m⟩
   ·exact Yw h.S h.w e _ _ _ (λg _=>by rw[l]) V
   ·rw[<-Un];exact UU.append_right gs
  ·exact a.elim
 | .reg _ (.io _)::_,_,_,_,_,_,_,_,_,_,a=>by simp only[ZhC]at a
 | .reg _ (.back _)::_,_,_,_,_,_,_,_,_,_,a=>by simp only[ZhC]at a
 | .cell I a8 t::q,E,H,z,R,vs,J,gs,O,K,a=>by
  simp only[ZhC]at a;obtain⟨e,N,a⟩:=Y0 H a;split at a
  ·rename_i cells
   obtain⟨b,a3,T,e1,e2,e3⟩:=z.ent I _ N;obtain⟨s,u,D,W,a,_⟩:=ZbU _ _ e3 a;obtain⟨E1,H1,cs,j,A,a4,a,p⟩:=Qw [s] z (show Yf E [s] [u]from⟨W,trivial⟩) a;obtain⟨d,a6,v1,v2,X,V,Q,a⟩:=XD t cs _ _ a4 a;split at a
   ·have a5:v2=[]:=by cases v2 with
     |nil=>rfl
     |cons=>simp[Yf]at Q
    subst a5;rw[Um]at X;obtain⟨E2,H2,v,G,l,i,y,h,a,U,M,m⟩:=Zf8 q A (ZO j.le _ _ J) gs (O.frz j) a;obtain⟨c',F⟩:=m.2.1 I _ (p _ _ N);refine⟨E2,H2,(d,v),G,l.trans j.w,i.trans j.ids,y,j.le.trans h,a,⟨⟨b,a3,T,c',u,F,by rw[i,j.ids];exact e1,by rw[l,j.w];exact e2,D,?_⟩,U⟩,M,(Boxed.frz j p).trans m⟩;rw[X];exact Yo h.S h.w t d v1 V
   ·exact a.elim
  ·exact a.elim
 | .cello I a8 e::q,E,H,z,R,vs,J,gs,O,K,a=>by
  simp only[ZhC]at a;obtain⟨en,N,a⟩:=Y0 H a;split at a
  ·rename_i cells
   obtain⟨b,a3,T,e1,e2,e3⟩:=z.ent I _ N;obtain⟨s,u,D,W,a,_⟩:=ZbU _ _ e3 a;obtain⟨E1,H1,d,f,j,A,V,a,L,hT,p⟩:=Vl z (show Yf E [s] [u]from⟨W,trivial⟩) O a;obtain⟨E2,H2,v,G,l,i,y,h,a,U,M,m⟩:=Zf8 q A (ZO j.le _ _ J) (f++gs) L a;obtain⟨c',F⟩:=m.2.1 I _ (p _ _ N);refine⟨E2,H2,(d,v),f++G,l.trans j.w,i.trans j.ids,y,j.le.trans h,a,⟨b,a3,T,c',u,f,G,F,by rw[i,j.ids];exact e1,by rw[l,j.w];exact e2,D,?_,rfl,U⟩,M.perm ?_,(Boxed.frz j p).trans m⟩
   ·exact Yw h.S h.w e _ _ _ (λg _=>by rw[l]) V
   ·rw[<-Un];exact UU.append_right gs
  ·exact a.elim
 | .ent I et e::q,E,H,z,R,vs,J,gs,O,K,a=>by
  simp only[ZhC]at a;have x:=a;unfold closeAll at x;simp only[Jd]at x;obtain⟨en,N,x⟩:=Y0 H x;have P:=(Ub.1 N).1;obtain⟨u,D⟩:∃u,E.ids[I]?=some u:=⟨_,Ua (show I<E.ids.length by rw[z.len];exact P)⟩;have Z:∀c,H[I]?≠some (.box c):=by
   intro c Y;have:=N.symm.trans Y;simp at this;subst this;exact x.elim
  have W:den E (.own I) u:=by
   simp only[den];refine⟨D,?_⟩;split at x
   ·obtain⟨v',xs,a1,a2,_⟩:=z.ent I _ N
    have:=D.symm.trans a1;simp at this;subst this;rcases a2.2 with⟨rfl,_⟩|⟨g,a0,cur,o,rfl,_⟩<;>exact⟨_,_,_,rfl⟩
   ·obtain⟨v',xs,b0,a1,a2,_⟩:=z.ent I _ N
    have:=D.symm.trans a1;simp at this;subst this;rcases a2.2 with⟨rfl,_⟩|⟨g,a0,cur,o,rfl,_⟩<;>exact⟨_,_,_,rfl⟩
   ·obtain⟨v',xs,x1,vx,x2,f1,f2,a1,a2,_⟩:=z.ent I _ N
    have:=D.symm.trans a1;simp at this;subst this;rcases a2.2 with⟨rfl,_⟩|⟨g,a0,cur,o,rfl,_⟩<;>exact⟨_,_,_,rfl⟩
   ·obtain⟨v',a1,⟨xs,x1,x2,f1,a2,_⟩,_⟩:=z.ent I _ N
    have:=D.symm.trans a1;simp at this;subst this;rcases a2.2 with⟨rfl,_⟩|⟨g,a0,cur,o,rfl,_⟩<;>exact⟨_,_,_,rfl⟩
   ·exact x.elim
  obtain⟨E1,H1,d,f,j,A,V,a,L,hT,p⟩:=Vl z (show Yf E [.own I] [u]from⟨W,trivial⟩) O a;obtain⟨E2,H2,v,G,l,i,y,h,a,U,M,m⟩:=Zf8 q A (ZO j.le _ _ J) (f++gs) L a;have C:=(Boxed.frz j p).trans m;refine⟨E2,H2,(d,v),f++G,l.trans j.w,i.trans j.ids,y,j.le.trans h,a,⟨u,f,G,by rw[C.1];exact P,by rw[i,j.ids];exact D,λc Y=>?_,?_,rfl,U⟩,M.perm ?_,C⟩
  ·obtain⟨c',F⟩:=C.2.2 I c Y;exact Z c' F
  ·exact Yw h.S h.w (.ol et e) _ _ _ (λg _=>by rw[l]) V
  ·rw[<-Un];exact UU.append_right gs
 | .entm I k t::q,E,H,z,R,vs,J,gs,O,K,a=>by
  simp only[ZhC]at a;have x:=a;unfold closeAll at x;simp only[Jd]at x;obtain⟨en,N,x⟩:=Y0 H x;have P:=(Ub.1 N).1;obtain⟨u,D⟩:∃u,E.ids[I]?=some u:=⟨_,Ua (show I<E.ids.length by rw[z.len];exact P)⟩;have Z:∀c,H[I]?≠some (.box c):=by
   intro c Y;have:=N.symm.trans Y;simp at this;subst this;exact x.elim
  have W:den E (.mown I) u:=by
   simp only[den];refine⟨D,?_⟩;split at x
   ·obtain⟨b,es,a9,a1,_⟩:=z.ent I _ N
    have:=D.symm.trans a1;simp at this;subst this;exact⟨_,rfl⟩
   ·exact x.elim
  obtain⟨E1,H1,d,f,j,A,V,a,L,hT,p⟩:=Vl z (show Yf E [.mown I] [u]from⟨W,trivial⟩) O a;obtain⟨E2,H2,v,G,l,i,y,h,a,U,M,m⟩:=Zf8 q A (ZO j.le _ _ J) (f++gs) L a;have C:=(Boxed.frz j p).trans m;refine⟨E2,H2,(d,v),f++G,l.trans j.w,i.trans j.ids,y,j.le.trans h,a,⟨u,f,G,by rw[C.1];exact P,by rw[i,j.ids];exact D,λc Y=>?_,?_,rfl,U⟩,M.perm ?_,C⟩
  ·obtain⟨c',F⟩:=C.2.2 I c Y;exact Z c' F
  ·exact Yw h.S h.w (.mp k t) _ _ _ (λg _=>by rw[l]) V
  ·rw[<-Un];exact UU.append_right gs
 | .splt I et e::q,E,H,z,R,vs,J,gs,O,K,a=>by
  simp only[ZhC]at a;obtain⟨E1,H1,d,n,u,f,j,A,D,Z,V,a,L,p⟩:=ZvP z O a;obtain⟨E2,H2,v,G,l,i,y,h,a,U,M,m⟩:=Zf8 q A (ZO j.le _ _ J) (f++gs) L a;have C:=(Boxed.frz j p).trans m;have P:I<H2.length:=by
   have:=(Ub.1 D).1;rw[m.1,<-A.len];exact this
  refine⟨E2,H2,((d,n),v),f++G,l.trans j.w,i.trans j.ids,y,j.le.trans h,a,⟨u,f,G,P,by rw[i];exact D,λc Y=>?_,?_,rfl,U⟩,M.perm ?_,C⟩
  ·obtain⟨c',F⟩:=C.2.2 I c Y;exact Z c' F
  ·exact Zoa h.S h.w (λg _=>by rw[l]) V
  ·rw[<-Un];exact UU.append_right gs
theorem Znd {r:Nat} {u:Value} (a:vs[r]?=some u):vs.set r u=vs:=by
 apply UI;intro j;by_cases b:r=j
 ·subst b
  have:=(Ub.1 a).1;rw[UF this,a]
 ·rw[UH b]
theorem Loose.Zk1 {gs:List Nat} (n:Loose B E H gs) {c0 c1:List SV} (l:H[I]?=some (.box c0)):Loose B E (H.set I (.box c1)) gs:=by
 have t:=(Ub.1 l).1;refine⟨n.nodup,n.free,λg a j G V b f v h=>?_⟩;by_cases D:I=j
 ·subst D;rw[UF t]at b;simp at b;subst b;exact n.apart g a I _ V l rfl v h
 ·rw[UH D]at b;exact n.apart g a j G V b f v h
theorem ZhY {B:Base}:∀(ls:List Loc) (v:Zsi ls) {E:Env} {H:List Entry} (_:Inv B E H) {R:List SV} {vs:List Value} (_:Yf E R vs) (x:List Nat) (_:Jq B E H vs ls v x) (_:Loose B E H x)
  {K:List SV->List Entry->Prop} (_:ZqY ls v R H K),∃E' H' d,E'.w=E.w/\Inv B E' H'/\Yf E' d vs/\K d H'
 |[],v,E,H,m,R,vs,j,x,p,n,K,a=>⟨E,H,R,rfl,m,j,a⟩
 | .reg r (.dat t)::q,v,E,H,m,R,vs,j,x,⟨⟨u,hu,D⟩,p⟩,n,K,a=>by
  simp only[ZqY,V3,ZDy,Qg]at a;have o:=XB t v.1 [u] D;split at a
  ·rename_i c hc
   rw[hc]at o;simp only[Yf]at o;rw[ZeW]at a;have C:=Ze9 _ _ j r c u o.1;rw[Znd hu]at C;exact ZhY q v.2 m C x p n a
  ·exact a.elim
 | .reg r (.own e)::q,v,E,H,m,R,vs,j,x,⟨u,f,G,hu,V,D,i,p⟩,n,K,a=>by
  simp only[ZqY,V3]at a;subst i;obtain⟨E1,H1,cs,y,Q,A,F,N,a,L,l,W⟩:=Jc e v.1 m D n a;obtain⟨s,hs,a⟩:=ZnC V N a;rw[ZeW]at a;have C:=Ze9 _ _ (ZO F _ _ j) r s u hs;rw[Znd hu]at C;subst W;obtain⟨E2,H2,d,X,P,S,a⟩:=ZhY q v.2 A C G (Zmr E1 l y Q F.ids q v.2 G p) L a;exact⟨E2,H2,d,X.trans y,P,S,a⟩
 | .reg _ (.io _)::_,_,_,_,_,_,_,_,_,_,_,_,a=>by simp only[ZqY]at a
 | .reg _ (.back _)::_,_,_,_,_,_,_,_,_,_,_,_,a=>by simp only[ZqY]at a
 | .cell Z O t::q,v,E,H,m,R,vs,j,x,⟨⟨b,cs,T,M,u,a1,z,J,a4,a5⟩,p⟩,n,K,a=>by
  simp only[ZqY,V3,ZDy,Qg]at a;have o:=XB t v.1 [u] a5;split at a
  ·rename_i c hc
   rw[hc]at o;simp only[Yf]at o;obtain⟨e,U,a⟩:=Y0 H a;split at a
   ·rename_i cells
    rw[ZeW,Xu] at a;have A:=m.weaken (cells':=cells.set O c) U (λb' a7 T' h1 Y h3=>by
     have:=z.symm.trans h1;simp at this;subst this;have:=J.symm.trans Y;simp at this;obtain⟨rfl,_⟩:=this;have I:=Ze9 _ _ h3 O c u o.1
     rwa [Znd a4] at I)
    exact ZhY q v.2 A j x (Za0 rfl (λ_ h=>h) (λ_ _ h=>h) (Boxed.Zk1 U) q v.2 x p) (n.Zk1 U) a
   ·exact a.elim
  ·exact a.elim
 | .cello Z O e::q,v,E,H,m,R,vs,j,x,⟨b,cs,T,M,u,f,G,a1,z,J,a4,D,i,p⟩,n,K,a=>by
  simp only[ZqY,V3]at a;subst i;obtain⟨E1,H1,b0,y,Q,A,F,N,a,L,l,W⟩:=Jc e v.1 m D n a;subst W;split at a
  ·rename_i s
   simp only[Yf]at N;obtain⟨en,U,a⟩:=Y0 _ a;split at a
   ·rename_i cells
    rw[ZeW,Xu] at a;have a0:=F.ids _ _ z;have P:=A.weaken (cells':=cells.set O s) U (λb' a7 T' h1 Y h3=>by
     have:=a0.symm.trans h1;simp at this;subst this;rw[y]at Y;have:=J.symm.trans Y;simp at this;obtain⟨rfl,_⟩:=this;have I:=Ze9 _ _ h3 O s u N.1
     rwa [Znd a4] at I)
    obtain⟨E2,H2,d,X,a8,S,a⟩:=ZhY q v.2 P (ZO F _ _ j) G (Za0 rfl (λ_ h=>h) (λ_ _ h=>h) (Boxed.Zk1 U) q v.2 G (Zmr E1 l y Q F.ids q v.2 G p)) (L.Zk1 U) a;exact⟨E2,H2,d,X.trans y,a8,S,a⟩
   ·exact a.elim
  ·exact a.elim
 | .ent Z et e::q,v,E,H,m,R,vs,j,x,⟨u,f,G,a1,z,J,D,i,p⟩,n,K,a=>by
  simp only[ZqY,V3]at a;subst i;obtain⟨e1,A,L,a,a9⟩:=Zw7 e m a1 z D n a;exact ZhY q v.2 A j G (Za0 rfl (λ_ h=>h) (λ_ _ h=>h) (Boxed.ZAJ J a9) q v.2 G p) L a
 | .entm Z k t::q,v,E,H,m,R,vs,j,x,⟨u,f,G,a1,z,J,⟨b,es,a6,e1,e2,hh,D⟩,i,p⟩,n,K,a=>by
  simp only[ZqY,V3,Xu] at a;subst i;simp at e1;subst e1;obtain ⟨A,L⟩:=n.put m a1 z (.mpe k t v.1) (λ_ g i=>by
   have i:Yv (.map (some b))=some g:=i;simp[Yv] at i;rw[e2];simp[i]) ⟨b,es,a6,z,hh,D⟩
  exact ZhY q v.2 A j G (Za0 rfl (λ_ h=>h) (λ_ _ h=>h) (Boxed.ZAJ J (λc h=>by cases h)) q v.2 G p) L a
 | .splt Z et e::q,v,E,H,m,R,vs,j,x,⟨u,f,G,a1,z,J,D,i,p⟩,n,K,a=>by
  simp only[ZqY,V3]at a;have a:=a f;rw[Xu]at a;subst i;obtain⟨A,L⟩:=n.put m a1 z (.spl et e v.1.1 v.1.2 f) (λ_ g i=>i) ⟨u,z,D,(UW.1 n.nodup).1⟩;exact ZhY q v.2 A j G (Za0 rfl (λ_ h=>h) (λ_ _ h=>h) (Boxed.ZAJ J (λc h=>by cases h)) q v.2 G p) L a
structure Cal where
 run:List SV->List Entry->(SV->List Entry->Prop)->Prop
 dat:Bool
 io:Option (List Bool) -- which arguments are variables,if nothing else is handed over
def Zvs (P:Program) (f:FuncId) (C:Cal):Prop:=Zi4 P f/\
 ∀{B:Base} {E:Env} {H:List Entry},Inv B E H->∀{S:List SV} {vs:List Value},Yf E S vs->∀{K:SV->List Entry->Prop},C.run S H K->
  Calls P f vs.toArray E.w λe w'=>∃v E' H' s,e=.returned v/\E'.w=w'/\Inv B E' H'/\E.le E'/\den E' s v/\K s H'/\(C.dat=true->Grow E.w w')/\(∀m,C.io=some m->∀b,b<E.w.heap.size->(∀v∈pick m vs,Yv v≠some b)->w'.heap[b]?=E.w.heap[b]?)
def Ctr.cal (C:Ctr):Cal:=⟨ZzW C,ZdV C.args,match Zik C.args with
 |true=>some (ZkQ C.args)
 | false=>none⟩
theorem Ctr.ZB0 {P:Program} {f:FuncId} {C:Ctr} (h:Za P f C):Zvs P f C.cal:=⟨h.1,λH _ _ L _ k=>(Zx6 H h L k).mono λe w' ⟨v,E',H',s,a1,a,i,j,D,F,G,I⟩=>⟨v,E',H',s,a1,a,i,j,D,F,G,λm Q=>by
 simp only[Ctr.cal]at Q;split at Q
 ·rename_i b
  injection Q with Q
  subst Q;exact I b
 ·cases Q⟩⟩
abbrev Gam:=List (Nat×Cal)
def Gam.ok (Γ:Gam) (P:Program):Prop:=∀x∈Γ,Zvs P x.1 x.2
def Zyq:Gam->Nat->(Cal->Prop)->Prop
 |[],_,_=>False
 |(n,C)::r,f,K=>if n=f then K C else Zyq r f K
def ZtJ:Gam->Nat->Bool
 |[],_=>false
 |(n,C)::r,f=>if n=f then C.dat else ZtJ r f
def ZtK:Gam->Nat->Option (List Bool)
 |[],_=>none
 |(n,C)::r,f=>if n=f then C.io else ZtK r f
theorem Zrn {P:Program}:∀(Γ:Gam),Γ.ok P->∀{f:Nat} {K:Cal->Prop},Zyq Γ f K->∃C,Zvs P f C/\K C/\C.dat=ZtJ Γ f/\C.io=ZtK Γ f
 |[],_,_,_,h=>h.elim
 |(n,C)::r,hΓ,f,K,h=>by
  unfold Zyq at h;unfold ZtJ ZtK;split at h
  ·rename_i e;subst e;exact⟨C,hΓ (n,C) (by simp),h,by rw[Uc rfl],by rw[Uc rfl]⟩
  ·rename_i e;rw[Ue e,Ue e];exact Zrn r (λx Z=>hΓ x (by simp[Z])) h
def ZiG (Γ:Gam) (op:Op):Bool:=Zea op||Zmq op||match op with
 | .call c=>match c.callee with
  | .value (.func f)=>ZtJ Γ f
  |_=>false
 |_=>false
def Zi3 (Γ:Gam) (op:Op):Option (List Operand):=match op with
 | .call c=>match c.callee with
  | .value (.func f)=>match ZtK Γ f with
   |some m=>some (pick m c.args.toList)
   |none=>none
  |_=>none
 |_=>none
def ZqN (Δ:Tab) (Γ:Gam) (r:List SV) (H:List Entry) (op:Op) (K:SV->List Entry->Prop):Prop :=
 match op with
 | .call c=>match c.callee with
  | .value o=>JE r o λS=>match S with
   | .fn f s=>Zyq Γ f λC=>ZuE r c.args.toList λl=>ZpT l s λL=>C.run L H K
   |_=>False
  |_=>opK Δ r H op K
 |op=>opK Δ r H op K
def ZuZ (r:List SV) (dst:Option Tmp) (s:SV) (K:List SV->Prop):Prop :=
 match dst with
 |none=>K r
 |some d=>Zu9 r d s K
def ZwS:List Oper->Nat->(Oper->Prop)->Prop
 |[],_,_=>False
 |o::_,0,K=>K o
 |_::r,n+1,K=>ZwS r n K
theorem ZlZ:∀(l:List Oper) {n:Nat} {K:Oper->Prop},ZwS l n K->∃o,l[n]?=some o/\K o
 |[],_,_,h=>h.elim
 |o::_,0,K,h=>⟨o,rfl,h⟩
 |_::r,n+1,K,h=>by simpa using ZlZ r (n:=n) h
def ZwU (Δ:Tab) (Γ:Gam) (ops:List Oper) (o:Oper) (r:List SV) (H:List Entry) (K:List SV->List Entry->Prop):Prop :=
 match o.guard with
 |none=>ZqN Δ Γ r H o.op λs H'=>ZuZ r o.dst s λa=>K a H'
 |some (j,w)=>ZwS ops j λO=>match O.dst with
  |none=>False
  |some d=>ZmN r d λg=>match g with
   | .blit b=>if b=w then ZqN Δ Γ r H o.op λs H'=>ZuZ r o.dst s λa=>K a H'
     else ZuZ r o.dst (.tup []) λa=>K a H
   | .bool p=>(p=w->Zu9 r d (.blit w) λR=>ZqN Δ Γ R H o.op λs H'=>ZuZ R o.dst s λa=>K a H')/\
     (p = !w->Zu9 r d (.blit (!w)) λR=>ZuZ R o.dst (.tup []) λa=>K a H)
   | .tup []=>ZuZ r o.dst (.tup []) λa=>K a H
   |_=>False
def ZDv (Δ:Tab) (Γ:Gam) (ops:List Oper):List Oper->List SV->List Entry->(List SV->List Entry->Prop)->Prop
 |[],s,H,K=>K s H
 |o::r,s,H,K=>ZwU Δ Γ ops o s H λa H'=>ZDv Δ Γ ops r a H' K
def Conc (B:Base) (r:List SV) (H:List Entry) (a:Act) (w:World):Prop :=
 ∃E,E.w=w/\Inv B E H/\Yf E r a.tmps.toList/\a.defers=[]
section
variable {P:Program}
variable {E:Env} {r:List SV} {v:Value}
theorem ZkW {a:Act} (L:Yf E r a.tmps.toList) {dst:Option Tmp} {s:SV} (q:den E s v) {K:List SV->Prop} (H:ZuZ r dst s K) :
  ∃R,Yf E R (a.put dst v).tmps.toList/\K R/\(a.put dst v).defers=a.defers:=by
 cases dst with
 |none=>exact⟨r,L,H,rfl⟩
 |some d =>
  simp only[ZuZ,ZeW]at H;refine⟨_,?_,H,rfl⟩;simp only[Act.put,Array.toList_setIfInBounds];exact Ze9 _ _ L d s v q
variable {B:Base} {K:SV->List Entry->Prop} {n:Act->World->Prop} {Q:Exit->Act->World->Prop}
theorem ZxH {o:Oper} {a:Act} (h:Ran P B E o a K)
  (W:∀E' H' s v,Inv B E' H'->E.le E'->den E' s v->K s H'->((Zea o.op||Zmq o.op)=true->Grow E.w E'.w)->(∀x,appArg o.op=some x->E.w.grownBy E'.w (Yv (a.eval x)))->n (a.put o.dst v) E'.w):o.wp P a E.w n Q:=by
 obtain⟨N,v,E',H',s,d,f,g,i,j,F,_,k,l⟩:=h;unfold Oper.wp;rw[d];rcases f with rfl|⟨rfl,rfl⟩
 ·exact W E' H' s v g i j F k l
 ·exact W E' H' s _ g i j F k l
variable {Δ:Tab} {Γ:Gam} {H:List Entry} {R:List SV}
theorem Zy9 (hΔ:Δ.ok P) (hΓ:Γ.ok P) (S:Inv B E H) {a:Act} (N:Yf E R a.tmps.toList) {o:Oper}
  (h:ZqN Δ Γ R H o.op K)
  (Y:∀E' H' s v,Inv B E' H'->E.le E'->den E' s v->K s H'->(ZiG Γ o.op=true->Grow E.w E'.w)->(∀x,appArg o.op=some x->E.w.grownBy E'.w (Yv (a.eval x)))->(∀xs,Zi3 Γ o.op=some xs->∀b,b<E.w.heap.size->(∀x∈xs,Yv (a.eval x)≠some b)->E'.w.heap[b]?=E.w.heap[b]?)->n (a.put o.dst v) E'.w):o.wp P a E.w n Q:=by
 obtain⟨dst,op,T,pos,after,guard⟩:=o;simp only at h;unfold ZqN at h;split at h
 ·rename_i c
  obtain⟨g,args,A⟩:=c;simp only at h;split at h
  ·rename_i O
   obtain⟨sf,M,h⟩:=Yr N h;split at h
   ·rename_i f a1
    simp only[den]at M;obtain⟨D,d,q⟩:=M;obtain⟨C,hC,h,V,X⟩:=Zrn Γ hΓ h;obtain⟨l,hl,h⟩:=ZkE N _ h;rw[ZaQ]at h;have W:=ZaS _ _ hl _ _ q;have p:=hC.2 S W h;obtain⟨⟨fn,hf,t,k⟩,_⟩:=hC;have L:(execOp a.eval ⟨dst,.call ⟨.value O,args,A⟩,T,pos,after,guard⟩).run P E.w=.ok (.enter f (args.toList.map a.eval++D).toArray) E.w:=by
     have j:(args.map a.eval)++D.toArray=(args.toList.map a.eval++D).toArray:=by
      apply Array.ext';simp
     simp only[execOp,resolve,d,Deferred.ofValue,pure_bind,invoke,Array.empty_append,j];unfold callFunc;rw[Sem.run_bind,run_program,Result.andThen_ok,hf];simp only[t,k,UN,Uj];rfl
    unfold Oper.wp;rw[L];refine p.mono ?_;rintro e w' ⟨v,E',H',s,rfl,rfl,z,i,F,G,I,J⟩;refine Y E' H' s v z i F G (λr=>I ?_) (Zpw rfl) (λxs Z b hb y=>?_)
    ·rw[V]
     cases O with
     |func f0 =>
      simp only[Act.eval]at d;injection d with d
      injection d with d
      subst d;simpa[ZiG,Zea,Zmq]using r
     |_=>simp[ZiG,Zea,Zmq]at r
    ·cases O with
     |func f0 =>
      simp only[Act.eval]at d;have U:D=[]:=by
       have h:=d;simp at h;first|exact h.2.symm|exact h.2|(rcases h with⟨z,i⟩;simpa using i.symm)|simpa using h.2
      injection d with d
      injection d with d
      subst d;simp only[Zi3]at Z;split at Z
      ·rename_i m hm
       injection Z with Z
       subst Z;refine J m (X.trans hm) b hb (λu hu=>?_);have:pick m (args.toList.map a.eval++D)=(pick m args.toList).map a.eval:=by
        rw[<-Zqv,U,Um]
       rw[this]at hu;obtain⟨x,a0,rfl⟩:=KQ.1 hu;exact y x a0
      ·cases Z
     |_=>simp[Zi3]at Z
   ·exact h.elim
  ·rename_i y
   refine ZxH (ZwV hΔ S N h) (λE' H' s v z i F G I J=>Y E' H' s v z i F G (λr=>I ?_) J (λxs Z=>?_))
   ·cases g with
    |value f=>exact absurd rfl (y f)
    |_=>simpa[ZiG,Zmq]using r
   ·cases g with
    |value f=>exact absurd rfl (y f)
    |_=>simp[Zi3]at Z
 ·rename_i y
  refine ZxH (ZwV hΔ S N h) (λE' H' s v z i F G I J=>Y E' H' s v z i F G (λr=>I ?_) J (λxs Z=>?_));rotate_left
  ·cases op with
   |call c=>exact absurd rfl (y c)
   |_=>simp[Zi3]at Z
  cases op with
  |call c=>exact absurd rfl (y c)
  |_=>first|rfl|exact r|(simp[ZiG,Zea,Zmq]at r ⊢)
def ZvG:Value->Option Bool
 | .bool b=>some b
 |_=>none
theorem ZpM {ops:Array Oper} {a:Act} {j d:Nat} {O:Oper} (o:ops.toList[j]?=some O) (L:O.dst=some d) (h:a.tmps.toList[d]?=some v) :
  yielded ops a.tmps j=ZvG v:=by
 have X:ops[j]?=some O:=by simpa using o
 have i:a.tmps[d]?=some v:=by simpa using h
 unfold yielded;rw[X,Option.bind_some,L,Option.bind_some,i];cases v<;>rfl
variable {K:List SV->List Entry->Prop}
theorem Zt6 (hΔ:Δ.ok P) (hΓ:Γ.ok P) (ops:Array Oper) (o:Oper) {a:Act} (U:Inv B E H) (L:Yf E R a.tmps.toList) (f:a.defers=[]) (c:ZwU Δ Γ ops.toList o R H K)
  (X:∀r H' D E',K r H'->Inv B E' H'->Yf E' r D.tmps.toList->D.defers=[]->E.le E'->(ZiG Γ o.op=true->Grow E.w E'.w)->(∀x,appArg o.op=some x->E.w.grownBy E'.w (Yv (a.eval x)))->(∀xs,Zi3 Γ o.op=some xs->∀b,b<E.w.heap.size->(∀x∈xs,Yv (a.eval x)≠some b)->E'.w.heap[b]?=E.w.heap[b]?)->n D E'.w) :
  (if Region.wanted o (yielded ops a.tmps)then o.wp P a E.w n Q\/(o.asks P a E.w/\LetsOut Q)else n (a.put o.dst undef) E.w):=by
 have run:∀{R:List SV},Yf E R a.tmps.toList->(ZqN Δ Γ R H o.op λs H'=>ZuZ R o.dst s λr=>K r H')->o.wp P a E.w n Q:=by
  intro R L c;refine Zy9 hΔ hΓ U L c (λE' H' s v F A O c y G T=>?_);obtain⟨r,i,c,l⟩:=ZkW (ZO A _ _ L) O c;exact X r H' _ _ c F i (by rw[l];exact f) A y G T
 have skip:∀{R:List SV},Yf E R a.tmps.toList->(ZuZ R o.dst (.tup []) λr=>K r H)->n (a.put o.dst undef) E.w:=by
  intro R L c;obtain⟨r,i,c,l⟩:=ZkW L (v:=undef) (by simp only[den];exact⟨[],rfl,trivial⟩) c;exact X r H _ _ c U i (by rw[l];exact f) (Env.le.refl E) (λ_=>Grow.refl _) (λ_ _=>⟨rfl,rfl,rfl,UE _,λ_ _ _=>rfl⟩) (λ_ _ _ _ _=>rfl)
 unfold ZwU at c;split at c
 ·rename_i y
  rw[Uc (by simp[Region.wanted,y])];exact .inl (run L c)
 ·rename_i j W y
  obtain⟨oj,M,e⟩:=ZlZ _ c;clear c;split at e
  ·exact e.elim
  ·rename_i d u
   obtain⟨sg,v,S,g,c,N⟩:=ZbU _ _ L e;clear N e;have Z:=ZpM M u S;have t:Region.wanted o (yielded ops a.tmps)=(ZvG v==some W):=by
    simp only[Region.wanted,y,Z]
   have q:∀(s:SV),den E s v->Yf E (R.set d s) a.tmps.toList:=by
    intro s O;have Y:=Ze9 _ _ L d s v O;have m:a.tmps.toList.set d v=a.tmps.toList:=by
     apply UI;intro k;by_cases z:d=k
     ·subst z
      have:=(Ub.1 S).1;rw[UF this,S]
     ·rw[UH z]
    rwa [m]at Y
   split at c
   ·rename_i b
    simp only[den]at g;subst g;split at c
    ·rename_i I;subst I
     rw[Uc (by rw[t];simp[ZvG])];exact .inl (run L c)
    ·rename_i I
     rw[Ue (by rw[t];simp[ZvG];exact I)];exact skip L c
   ·rename_i p
    simp only[den]at g;subst g;by_cases V:p=W
    ·subst V
     rw[Uc (by rw[t];simp[ZvG])];have c:=c.1 rfl;rw[ZeW]at c;exact .inl (run (q _ (by simp only[den])) c)
    ·have C:p = !W:=by cases p<;>cases W<;>simp_all
     rw[Ue (by rw[t];simp[ZvG];exact V)];have c:=c.2 C;rw[ZeW]at c;exact skip (q _ (by simp only[den,C])) c
   ·simp only[den]at g
    obtain⟨vs,m,J⟩:=g;have:v=.tuple #[]:=by
     cases vs with
     |nil=>rw[m]
     |cons=>simp[Yf]at J
    rw[Ue (by rw[t,this];intro h;cases h)];exact skip L c
   ·exact c.elim
variable {w:World}
theorem ZAx (hΔ:Δ.ok P) (hΓ:Γ.ok P) (ops:Array Oper) (o:Oper) {s:List SV} {a:Act} (c:Conc B s H a w) (k:ZwU Δ Γ ops.toList o s H K)
  (d:∀r H' A w',K r H'->Conc B r H' A w'->(ZiG Γ o.op=true->Grow w w')->n A w') :
  (if Region.wanted o (yielded ops a.tmps)then o.wp P a w n Q\/(o.asks P a w/\LetsOut Q)else n (a.put o.dst undef) w):=by
 obtain⟨E,e,m,L,f⟩:=c;subst e;exact Zt6 hΔ hΓ ops o m L f k (λr H' A E' k q b h _ g _ _=>d r H' A _ k ⟨E',rfl,q,b,h⟩ g)
theorem ZwW {Δ:Tab} (hΔ:Δ.ok P) {Γ:Gam} (hΓ:Γ.ok P) {B:Base} (ops:Array Oper) {Q:Exit->Act->World->Prop}:∀(l:List Oper) {s:List SV} {H:List Entry} {a:Act} {w:World} (_:Conc B s H a w)
  {K:List SV->List Entry->Prop} (_:ZDv Δ Γ ops.toList l s H K) (_:∀R H' A w',K R H'->Conc B R H' A w'->Q .normal A w'),wpList P ops Q l a w
 |[],s,H,a,w,q,K,h,c=>c _ _ _ _ h q
 |o::r,s,H,a,w,q,K,h,c=>by
  simp only[ZDv]at h;unfold wpList;exact ZAx hΔ hΓ ops o q h (λR H' A w' u b _=>ZwW hΔ hΓ ops r b u c)
def Zkl (B:Base) (E0:Env) (r:List SV) (H:List Entry) (a:Act) (w:World):Prop :=
 ∃E,E0.le E/\E.w=w/\Inv B E H/\Yf E r a.tmps.toList/\a.defers=[]
theorem Zkl.ZF0 {E0:Env} {a:Act} (h:Zkl B E0 r H a w):Conc B r H a w:=by
 obtain⟨E,_,h⟩:=h;exact⟨E,h⟩
theorem ZwL (hΔ:Δ.ok P) (ops:Array Oper) (o:Oper) (M:Zea o.op=true) {a:Act} (U:Inv B E H) (L:Yf E R a.tmps.toList) (m:a.defers=[]) (e:ZwU Δ Γ ops.toList o R H K) :
  ∃v,((Region.wanted o (yielded ops a.tmps)=true/\∀w',(isLoad o.op=true->ZqV E.w w')->(execOp a.eval o).run P w'=.ok (.value v) w')\/(Region.wanted o (yielded ops a.tmps)=false/\v=undef))/\
   ∃r H',K r H'/\Zkl B E r H' (a.put o.dst v) E.w:=by
 have hst:∀(K:SV->List Entry->Prop) (R:List SV),ZqN Δ Γ R H o.op K->opK Δ R H o.op K:=by
  intro K R h;unfold ZqN at h;split at h
  ·rename_i c I
   split at h
   ·rename_i f z
    rw[I]at M;simp[Zea,z]at M
   ·exact h
  ·exact h
 have run:∀{R:List SV},Yf E R a.tmps.toList->(ZqN Δ Γ R H o.op λs H'=>ZuZ R o.dst s λr=>K r H')->
   ∃v,(∀w',(isLoad o.op=true->ZqV E.w w')->(execOp a.eval o).run P w'=.ok (.value v) w')/\∃r H',K r H'/\Zkl B E r H' (a.put o.dst v) E.w:=by
  intro R L e;obtain⟨nx,v,E',H',s,l,y,X,T,Y,Z,h7,_⟩:=ZwV hΔ U L (hst _ _ e);obtain⟨_,S,h8⟩:=h7 M;obtain⟨r,n,e,u⟩:=ZkW (ZO T _ _ L) Y Z;exact⟨v,h8,r,H',e,E',T,S,X,n,by rw[u];exact m⟩
 have skip:∀{R:List SV},Yf E R a.tmps.toList->(ZuZ R o.dst (.tup []) λr=>K r H)->∃r H',K r H'/\Zkl B E r H' (a.put o.dst undef) E.w:=by
  intro R L e;obtain⟨r,n,e,u⟩:=ZkW L (v:=undef) (by simp only[den];exact⟨[],rfl,trivial⟩) e;exact⟨r,H,e,E,Env.le.refl E,rfl,U,n,by rw[u];exact m⟩
 unfold ZwU at e;split at e
 ·rename_i J
  obtain⟨v,l,y⟩:=run L e;exact⟨v,.inl ⟨by simp[Region.wanted,J],l⟩,y⟩
 ·rename_i j W J
  obtain⟨oj,N,i⟩:=ZlZ _ e;clear e;split at i
  ·exact i.elim
  ·rename_i d A
   obtain⟨sg,v,Q,g,e,O⟩:=ZbU _ _ L i;clear O i;have hy:=ZpM N A Q;have t:Region.wanted o (yielded ops a.tmps)=(ZvG v==some W):=by
    simp only[Region.wanted,J,hy]
   have q:∀(s:SV),den E s v->Yf E (R.set d s) a.tmps.toList:=by
    intro s hs;have l:=Ze9 _ _ L d s v hs;have x:a.tmps.toList.set d v=a.tmps.toList:=by
     apply UI;intro k;by_cases C:d=k
     ·subst C
      have:=(Ub.1 Q).1;rw[UF this,Q]
     ·rw[UH C]
    rwa [x]at l
   split at e
   ·rename_i b
    simp only[den]at g;subst g;split at e
    ·rename_i F;subst F
     obtain⟨v,l,y⟩:=run L e;exact⟨v,.inl ⟨by rw[t];simp[ZvG],l⟩,y⟩
    ·rename_i F
     exact⟨_,.inr ⟨by rw[t];simp[ZvG];exact F,rfl⟩,skip L e⟩
   ·rename_i p
    simp only[den]at g;subst g;by_cases V:p=W
    ·subst V
     have e:=e.1 rfl;rw[ZeW]at e;obtain⟨v,l,y⟩:=run (q _ (by simp only[den])) e;exact⟨v,.inl ⟨by rw[t];simp[ZvG],l⟩,y⟩
    ·have D:p = !W:=by cases p<;>cases W<;>simp_all
     have e:=e.2 D;rw[ZeW]at e;exact⟨_,.inr ⟨by rw[t];simp[ZvG];exact V,rfl⟩,skip (q _ (by simp only[den,D])) e⟩
   ·simp only[den]at g
    obtain⟨vs,x,G⟩:=g;have:v=.tuple #[]:=by
     cases vs with
     |nil=>rw[x]
     |cons=>simp[Yf]at G
    exact⟨_,.inr ⟨by rw[t,this];rfl,rfl⟩,skip L e⟩
   ·exact e.elim
end
section
variable {P:Program}
variable {E:Env} {T:TypeId} {t:TI} {K:SV->Prop}
theorem ZoT (h:Zdi P T t) (W:World->Prop) (p:Addr) {cs:List SV} (H:VE t cs K)
  (vs:List Value) (L:Yf E cs vs) (a:∀w',W w'->∀j u,vs[j]?=some u->w'.cell? (p.add j)=some u) :
  ∃v s,(∀w',W w'->(loadVar T p).run P w'=.ok v w')/\den E s v/\K s:=by
 unfold VE at H;split at H
 ·rename_i m
  rw[Zic]at H;split at H
  ·rename_i q
   have d:=Zgk cs vs L t.size;have g:=YG _ _ d;have f:=λw' (hst:W w')=>Zff h w' p (vs.take t.size) (λj u b=>a w' hst j u (by
    rw[UB]at b;split at b
    ·exact b
    ·cases b)) (λ_=>by rw[<-g];exact q)
   exact⟨_,.agg _,λw' hst=>(f w' hst).1 m,by simp only[den];exact⟨_,rfl,d⟩,H⟩
  ·exact H.elim
 ·rename_i m
  split at H
  ·rename_i c r
   match vs,L,a with
   |v::vs,L,a =>
    simp only[Yf]at L;have f:=λw' (hst:W w')=>Zff h w' p (v::vs) (λj u b=>a w' hst j u b) (λe=>absurd e m);exact⟨v,c,λw' hst=>(f w' hst).2 (by simpa using m) v rfl,L.1,H⟩
   |[],L,_=>simp[Yf]at L
  ·exact H.elim
variable {B:Base} {H:List Entry} {I:Nat} {v:Value} {cells:List SV}
theorem ZuL (m:Inv B E H) (h:Zdi P T t) {o:Nat} (q:den E (.ptr I o) v) (l:H[I]?=some (.box cells))
  (k:ZiC cells o λcs=>VE t cs K) :
  ∃b u r,E.ids[I]?=some (.pointer (some ⟨b,0,none⟩))/\(∀w':World,w'.heap[b]?=E.w.heap[b]?->(Instr.loadAt T v).run P w'=.ok u w')/\den E r u/\K r:=by
 rw[Zcp]at k;simp only[den]at q;obtain⟨b,d,rfl⟩:=q;obtain⟨S,cs,T',a,f,e⟩:=m.ent I _ l;have:=d.symm.trans a;simp at this;subst this;obtain⟨u,r,g,G,s⟩:=ZoT h (λw'=>w'.heap[b]?=E.w.heap[b]?) ⟨b,o,none⟩ k (cs.toList.drop o) (JL _ _ e o) (λw' c=>Zks (c.trans f) o);exact⟨b,u,r,d,λw' c=>by simp only[Instr.loadAt,Instr.sureAddr,pure_bind];exact g w' c,G,s⟩
theorem Znn (m:Inv B E H) (l:H[I]?=some (.box cells)) {b:Nat} (a:E.ids[I]?=some (.pointer (some ⟨b,0,none⟩)))
  {k:Nat} {F:Entry} (c:H[k]?=some F) (q:F.live=true) (e:E.ids[k]?=some v) (d:k≠I):¬Zhi F v b:=by
 intro h;exact d (m.sep k I F _ v _ b c l q rfl e a h (by simp[Zhi,Yv]))
end
def ZrO (m:List Nat) (i:Nat):Nat:=(m[i]?).getD i
mutual
def ZE6 (m:List Nat):SV->SV
 | .ptr I o=>.ptr (ZrO m I) o
 | .own I=>.own (ZrO m I)
 | .oep I z i o=>.oep (ZrO m I) z i o
 | .mown I=>.mown (ZrO m I)
 | .fptr cs=>.fptr (Zxb m cs)
 | .agg cs=>.agg (Zxb m cs)
 | .tup cs=>.tup (Zxb m cs)
 | .fn f cs=>.fn f (Zxb m cs)
 | .bot=>.bot
 | .int k n=>.int k n
 | .bool b=>.bool b
 | .blit b=>.blit b
 | .str s=>.str s
 | .sl t d=>.sl t d
 | .nsl=>.nsl
 | .nilp=>.nilp
 | .nptr t d=>.nptr t d
 | .mp k v d=>.mp k v d
def Zxb (m:List Nat):List SV->List SV
 |[]=>[]
 |c::cs=>ZE6 m c::Zxb m cs
end
def ZCn (m:List Nat):Entry->Entry
 | .box cells=>.box (Zxb m cells)
 | .fbx cells=>.fbx (Zxb m cells)
 | .hole c e d i cells f=>.hole c e d i (Zxb m cells) f
 | .hsp c e d i cells f=>.hsp c e d i (Zxb m cells) f
 |e=>e
section
variable {E:Env} {ids':List Value} {m:List Nat}
mutual
theorem Zz7 (h:∀i v,E.ids[i]?=some v->ids'[ZrO m i]?=some v):∀(s:SV) (v:Value),den E s v->den ⟨E.S,E.w,ids'⟩ (ZE6 m s) v
 | .bot,_,_=>trivial
 | .int _ _,_,e=>e
 | .bool _,_,e=>e
 | .blit _,_,e=>e
 | .str _,_,e=>e
 | .sl t d,v,e=>e
 | .nsl,_,e=>e
 | .ptr _ _,_,⟨b,e1,f⟩=>⟨b,h _ _ e1,f⟩
 | .own _,_,⟨e1,f⟩=>⟨h _ _ e1,f⟩
 | .oep _ _ _ _,_,⟨b,B,n,c,e1,f⟩=>⟨b,B,n,c,h _ _ e1,f⟩
 | .fptr cs,_,⟨p,vs,e1,f,a,g,j⟩=>⟨p,vs,e1,f,a,g,Ze8 h cs vs j⟩
 | .agg cs,_,⟨vs,e1,f⟩=>⟨vs,e1,Ze8 h cs vs f⟩
 | .tup cs,_,⟨vs,e1,f⟩=>⟨vs,e1,Ze8 h cs vs f⟩
 | .fn _ cs,_,⟨vs,e1,f⟩=>⟨vs,e1,Ze8 h cs vs f⟩
 | .nilp,_,e=>e
 | .nptr t d,v,e=>e
 | .mown _,_,⟨e1,f⟩=>⟨h _ _ e1,f⟩
 | .mp k u d,v,e=>e
theorem Ze8 (h:∀i v,E.ids[i]?=some v->ids'[ZrO m i]?=some v):∀(cs:List SV) (vs:List Value),Yf E cs vs->Yf ⟨E.S,E.w,ids'⟩ (Zxb m cs) vs
 |[],[],_=>trivial
 |c::cs,v::vs,⟨e1,f⟩=>⟨Zz7 h c v e1,Ze8 h cs vs f⟩
 |[],_::_,e=>e
 |_::_,[],e=>e
end
theorem Zyl (h:∀i v,E.ids[i]?=some v->ids'[ZrO m i]?=some v) (i:Nat):∀e:Entry,Ztz E i e->Ztz ⟨E.S,E.w,ids'⟩ (ZrO m i) (ZCn m e)
 | .gone,_=>trivial
 | .box cells,⟨b,cs,T,e1,f,g⟩=>⟨b,cs,T,h _ _ e1,f,Ze8 h _ _ g⟩
 | .arr c t d,⟨v,xs,e1,r⟩=>⟨v,xs,h _ _ e1,r⟩
 | .frz t d,⟨v,e1,r⟩=>⟨v,h _ _ e1,r⟩
 | .fbx cells,⟨b,cs,T,e1,f,g,o⟩=>⟨b,cs,T,h _ _ e1,f,g,Ze8 h _ _ o⟩
 | .darr c e d p,⟨v,xs,s,e1,r⟩=>⟨v,xs,s,h _ _ e1,r⟩
 | .hole c e d i cells p,⟨v,xs,X,x,l,f1,f2,e1,a1,a,A,j,D,F,G,I,J,r⟩=>⟨v,xs,X,x,l,f1,f2,h _ _ e1,a1,a,A,j,D,F,G,I,Ze8 h _ _ J,r⟩
 | .spl c e d n p,⟨v,e1,r⟩=>⟨v,h _ _ e1,r⟩
 | .hsp c e d i cells p,⟨v,xs,X,x,l,f1,e1,a1,a,A,j,D,F,G,I,J,r⟩=>⟨v,xs,X,x,l,f1,h _ _ e1,a1,a,A,j,D,F,G,I,Ze8 h _ _ J,r⟩
 | .mpe k v d,⟨b,q,C,e1,r⟩=>⟨b,q,C,h _ _ e1,r⟩
 | .frm k v d,⟨u,e1,r⟩=>⟨u,h _ _ e1,r⟩
end
variable (m:List Nat) (e:Entry)
theorem ZrN:(ZCn m e).live=e.live:=by cases e<;>rfl
theorem Zqy (v:Value) (g:Nat):Zhi (ZCn m e) v g<->Zhi e v g:=by cases e<;>exact KT
def Zu5:List Nat->Nat->Nat->(Nat->Prop)->Prop
 |[],_,i,K=>K i
 |a::_,0,_,K=>K a
 |_::r,n+1,i,K=>Zu5 r n i K
theorem ZkX:∀(m:List Nat) (n i:Nat) (K:Nat->Prop),Zu5 m n i K=K ((m[n]?).getD i)
 |[],_,_,_=>rfl
 |_::_,0,_,_=>rfl
 |_::r,n+1,i,K=>ZkX r n i K
mutual
def ZoV (m:List Nat):SV->(SV->Prop)->Prop
 | .ptr I o,K=>Zu5 m I I λj=>K (.ptr j o)
 | .own I,K=>Zu5 m I I λj=>K (.own j)
 | .oep I z i o,K=>Zu5 m I I λj=>K (.oep j z i o)
 | .mown I,K=>Zu5 m I I λj=>K (.mown j)
 | .fptr cs,K=>ZmU m cs λcs=>K (.fptr cs)
 | .agg cs,K=>ZmU m cs λcs=>K (.agg cs)
 | .tup cs,K=>ZmU m cs λcs=>K (.tup cs)
 | .fn f cs,K=>ZmU m cs λcs=>K (.fn f cs)
 | .bot,K=>K .bot
 | .int k n,K=>K (.int k n)
 | .bool b,K=>K (.bool b)
 | .blit b,K=>K (.blit b)
 | .str s,K=>K (.str s)
 | .sl t d,K=>K (.sl t d)
 | .nsl,K=>K .nsl
 | .nilp,K=>K .nilp
 | .nptr t d,K=>K (.nptr t d)
 | .mp k v d,K=>K (.mp k v d)
def ZmU (m:List Nat):List SV->(List SV->Prop)->Prop
 |[],K=>K []
 |c::cs,K=>ZoV m c λc=>ZmU m cs λcs=>K (c::cs)
end
mutual
theorem ZyT (m:List Nat):∀(s:SV) (K:SV->Prop),ZoV m s K=K (ZE6 m s)
 | .ptr I o,K=>by simp only[ZoV,ZkX];rfl
 | .own I,K=>by simp only[ZoV,ZkX];rfl
 | .oep I z i o,K=>by simp only[ZoV,ZkX];rfl
 | .mown I,K=>by simp only[ZoV,ZkX];rfl
 | .fptr cs,K=>by simp only[ZoV,Zh0 m cs];rfl
 | .agg cs,K=>by simp only[ZoV,Zh0 m cs];rfl
 | .tup cs,K=>by simp only[ZoV,Zh0 m cs];rfl
 | .fn f cs,K=>by simp only[ZoV,Zh0 m cs];rfl
 | .bot,K=>rfl
 | .int k n,K=>rfl
 | .bool b,K=>rfl
 | .blit b,K=>rfl
 | .str s,K=>rfl
 | .sl t d,K=>rfl
 | .nsl,K=>rfl
 | .nilp,K=>rfl
 | .nptr t d,K=>rfl
 | .mp k v d,K=>rfl
theorem Zh0 (m:List Nat):∀(l:List SV) (K:List SV->Prop),ZmU m l K=K (Zxb m l)
 |[],K=>rfl
 |c::cs,K=>by simp only[ZmU,ZyT m c,Zh0 m cs];rfl
end
def ZAE (m:List Nat):Entry->(Entry->Prop)->Prop
 | .box cells,K=>ZmU m cells λcs=>K (.box cs)
 | .fbx cells,K=>ZmU m cells λcs=>K (.fbx cs)
 | .hole c e d i cells f,K=>ZmU m cells λcs=>K (.hole c e d i cs f)
 | .hsp c e d i cells f,K=>ZmU m cells λcs=>K (.hsp c e d i cs f)
 | .gone,K=>K .gone
 | .arr c t d,K=>K (.arr c t d)
 | .frz t d,K=>K (.frz t d)
 | .darr c e d f,K=>K (.darr c e d f)
 | .spl c e d n f,K=>K (.spl c e d n f)
 | .mpe k v d,K=>K (.mpe k v d)
 | .frm k v d,K=>K (.frm k v d)
theorem ZyS (m:List Nat) (e:Entry) (K:Entry->Prop):ZAE m e K=K (ZCn m e):=by
 cases e<;>first|rfl|(simp only[ZAE,Zh0];rfl)
def ZyO (H:List Entry) (m:List Nat):List Nat->(List Entry->Prop)->Prop
 |[],K=>K []
 |j::r,K=>ZgN H j λe=>ZAE m e λe=>ZyO H m r λl=>K (e::l)
theorem Zuf (H:List Entry) (m:List Nat):∀(o:List Nat) {K:List Entry->Prop},ZyO H m o K->∃l,K l/\l.length=o.length/\∀(i:Nat) (E:Entry),l[i]?=some E->∃j e,o[i]?=some j/\H[j]?=some e/\E=ZCn m e
 |[],K,h=>⟨[],h,rfl,λi E a=>by cases a⟩
 |j::r,K,h=>by
  unfold ZyO at h;obtain⟨e,b,h⟩:=Y0 H h;rw[ZyS]at h;obtain⟨l,d,f,g⟩:=Zuf H m r h;refine⟨_,d,by simp[f],λi E a=>?_⟩;cases i with
  |zero =>
   rw[KG]at a;injection a with a
   exact⟨j,e,rfl,b,a.symm⟩
  |succ i =>
   rw[U3]at a;exact g i E a
def ZDt:List Nat->Nat->Nat->Bool
 |[],_,_=>false
 |a::_,0,x=>Nat.beq a x
 |_::r,n+1,x=>ZDt r n x
theorem ZsQ:∀(l:List Nat) {n x:Nat},ZDt l n x=true->l[n]?=some x
 |[],_,_,h=>by cases h
 |a::_,0,x,h=>by rw[KG,Nat.eq_of_beq_eq_true h]
 |_::r,n+1,x,h=>by rw[U3];exact ZsQ r h
def ZCb (m:List Nat):List Nat->Nat->Bool
 |[],_=>true
 |j::r,k=>ZDt m j k&&ZCb m r (k+1)
theorem ZsI (m:List Nat):∀(o:List Nat) (k:Nat),ZCb m o k=true->∀(i j:Nat),o[i]?=some j->m[j]?=some (k+i)
 |[],_,_,i,j,h=>by cases h
 |a::r,k,h,i,j,l=>by
  unfold ZCb at h;rw[Up]at h;cases i with
  |zero =>
   rw[KG]at l;injection l with l
   subst l;exact ZsQ m h.1
  |succ i =>
   rw[U3]at l;have:=ZsI m r (k+1) h.2 i j l;rw[this];congr 1;omega
def ZDk (m:List Nat):Nat->Bool
 |0=>true
 |n+1=>ZDt m n n&&ZDk m n
theorem Zwn (m:List Nat):∀(n:Nat),ZDk m n=true->∀i,i<n->m[i]?=some i
 |0,_,i,l=>by omega
 |n+1,h,i,l=>by
  unfold ZDk at h;rw[Up]at h;by_cases e:i=n
  ·subst e;exact ZsQ m h.1
  ·exact Zwn m n h.2 i (by omega)
def ZyZ {α β:Type}:List α->List β->Bool
 |[],[]=>true
 |_::r,_::s=>ZyZ r s
 |_,_=>false
theorem ZqC {α β:Type}:∀(l:List α) (r:List β),ZyZ l r=true->l.length=r.length
 |[],[],_=>rfl
 |_::r,_::s,h=>by simp[ZqC r s h]
 |[],_::_,h=>by cases h
 |_::_,[],h=>by cases h
def ZDm (i:Nat):List Nat->Bool
 |[]=>false
 |j::r=>Nat.beq j i||ZDm i r
def ZCd:List Entry->Nat->Bool
 |[],_=>false
 | .box _::_,0=>true
 |_::_,0=>false
 |_::r,n+1=>ZCd r n
def Zzz (n0:Nat) (H:List Entry):List SV->List Nat->(List Nat->Prop)->Prop
 |[],a,K=>K a
 | .ptr I _::r,a,K=>match Nat.ble n0 I&&ZCd H I&&!ZDm I a with
  |true=>Zzz n0 H r (I::a) K
  |false=>Zzz n0 H r a K
 | .own I::r,a,K=>match Nat.ble n0 I&&!ZDm I a with
  |true=>Zzz n0 H r (I::a) K
  |false=>Zzz n0 H r a K
 |_::r,a,K=>Zzz n0 H r a K
theorem ZsR (n0:Nat) (H:List Entry) {K:List Nat->Prop}:∀(l:List SV) (a:List Nat),Zzz n0 H l a K->∃c,K c
 |[],a,h=>⟨a,h⟩
 |s::r,a,h=>by
  cases s<;>unfold Zzz at h<;>first
   |exact ZsR n0 H r _ h
   |(split at h<;>exact ZsR n0 H r _ h)
def Zxf (c:List Nat):List Entry->Nat->(List Nat->Prop)->Prop
 |[],_,K=>K c
 |_::r,i,K=>match ZDm i c with
  |true=>Zxf c r (i+1) K
  |false=>Zxf c r (i+1) λl=>K (i::l)
theorem ZqB (c:List Nat):∀(H:List Entry) (i:Nat) {K:List Nat->Prop},Zxf c H i K->∃o,K o
 |[],_,_,h=>⟨c,h⟩
 |_::r,i,K,h=>by
  unfold Zxf at h;split at h
  ·exact ZqB c r (i+1) h
  ·obtain⟨o,h⟩:=ZqB c r (i+1) h
   exact⟨_,h⟩
def Zyn:List Nat->Nat->Nat->(Nat->Prop)->Prop
 |[],_,k,K=>K k
 |a::r,j,k,K=>match Nat.beq a j with
  |true=>K k
  |false=>Zyn r j (k+1) K
theorem ZtF:∀(o:List Nat) (j k:Nat) {K:Nat->Prop},Zyn o j k K->∃p,K p
 |[],_,k,_,h=>⟨k,h⟩
 |a::r,j,k,K,h=>by
  unfold Zyn at h;split at h
  ·exact⟨k,h⟩
  ·exact ZtF r j (k+1) h
def ZDx (o:List Nat):List Entry->Nat->(List Nat->Prop)->Prop
 |[],_,K=>K []
 |_::r,j,K=>Zyn o j 0 λp=>ZDx o r (j+1) λl=>K (p::l)
theorem Zw5 (o:List Nat):∀(H:List Entry) (j:Nat) {K:List Nat->Prop},ZDx o H j K->∃m,K m
 |[],_,_,h=>⟨[],h⟩
 |_::r,j,K,h=>by
  unfold ZDx at h;obtain⟨p,h⟩:=ZtF o j 0 h;obtain⟨m,h⟩:=Zw5 o r (j+1) h;exact⟨_,h⟩
def idB:List Nat->Nat->Bool
 |[],_=>true
 |j::r,k=>Nat.beq j k&&idB r (k+1)
def canonK (n0:Nat) (r:List SV) (H:List Entry) (K:List SV->List Entry->Prop):Prop :=
 Zzz n0 H r [] λc=>match c with
  |[]=>K r H
  |c=>Zxf c H 0 λo=>match idB o 0 with
  |true=>K r H
  |false=>ZDx o H 0 λm=>match (ZyZ o H&&ZyZ m H&&ZCb m o 0&&ZCb o m 0&&ZDk m n0)with
   |true=>ZmU m r λa=>ZyO H m o λH'=>K a H'
   |false=>False
theorem ZvJ {B:Base} {n0:Nat} {r:List SV} {H:List Entry} {a:Act} {w:World} {K:List SV->List Entry->Prop} (x:∀(i:Nat) (v:Value),B.pin[i]?=some v->i<n0) (h:canonK n0 r H K) (A:Conc B r H a w) :
  ∃R H',K R H'/\Conc B R H' a w:=by
 unfold canonK at h;obtain⟨c,h⟩:=ZsR n0 H _ _ h;split at h
 ·exact⟨r,H,h,A⟩
 ·obtain⟨o,h⟩:=ZqB _ H 0 h
  split at h
  ·exact⟨r,H,h,A⟩
  obtain⟨m,h⟩:=Zw5 o H 0 h;split at h
  ·rename_i z
   simp only[Up]at z;obtain⟨⟨⟨⟨b1,N⟩,P⟩,Q⟩,T⟩:=z;have c1:=ZqC _ _ b1;have c2:=ZqC _ _ N;have I:=ZsI m o 0 P;have X:=ZsI o m 0 Q;have Y:=Zwn m n0 T;rw[Zh0]at h;obtain⟨H',h,g1,G⟩:=Zuf H m o h;refine⟨_,H',h,?_⟩;obtain⟨E,hw,f,hd,p⟩:=A
   let ids':=o.map λj=>(E.ids[j]?).getD undef
   have hm:∀j,j<H.length->∃k,m[j]?=some k/\o[k]?=some j/\ZrO m j=k:=λj q=>by
    have e:m[j]?=some (m[j]'(by omega)):=Ua _;have:=X j _ e;rw[Uw]at this;exact⟨_,e,this,by unfold ZrO;rw[e];rfl⟩
   have d:∀i v,E.ids[i]?=some v->ids'[ZrO m i]?=some v:=λi v l=>by
    have u:=(Ub.1 l).1;rw[f.len]at u;obtain⟨k,_,y,Z⟩:=hm i u;rw[Z];show(o.map _)[k]?=_;rw[UL,y];show some ((E.ids[i]?).getD undef)=_;rw[l];rfl
   have b:∀i v,ids'[i]?=some v->∃j,o[i]?=some j/\E.ids[j]?=some v/\ZrO m j=i:=λi v l=>by
    have s:(o.map λj=>(E.ids[j]?).getD undef)[i]?=some v:=l;rw[UL]at s;cases e:o[i]? with
    |none=>rw[e]at s;cases s
    |some j =>
     rw[e]at s;have n:=I i j e;rw[Uw]at n;have q:j<H.length:=by rw[<-c2];exact(Ub.1 n).1
     have t:E.ids[j]?=some (E.ids[j]'(by rw[f.len];exact q)):=Ua _;refine⟨j,rfl,?_,by unfold ZrO;rw[n];rfl⟩;injection s with s
     have ev:v=E.ids[j]'(by rw[f.len];exact q):=by
      rw[<-s];show(E.ids[j]?).getD undef=_;rw[t];rfl
     rw[t,<-ev]
   refine⟨⟨E.S,E.w,ids'⟩,hw,⟨f.keeps,f.Slt,f.Sold,?_,λi v l=>?_,λi n l=>?_,λi n v g l u hv z=>?_,λi j ei ej V D g l q L M C F U W=>?_⟩,Ze8 d _ _ hd,p⟩
   ·show(o.map _).length=H'.length
    rw[U5,g1]
   ·have:=d i v (f.pin i v l)
    rw[show ZrO m i=i by unfold ZrO;rw[Y i (x i v l)];rfl]at this;exact this
   ·obtain⟨j,e,o1,O,rfl⟩:=G i n l
    have:=I i j o1;rw[Uw]at this;have J:=Zyl d j e (f.ent j e O);rw[show ZrO m j=i by unfold ZrO;rw[this];rfl]at J;exact J
   ·obtain⟨j,e,o1,O,rfl⟩:=G i n l
    obtain⟨j',p1,p2,_⟩:=b i v hv;rw[o1]at p1;injection p1 with p1
    subst p1;rw[ZrN]at u;exact f.free j e v g O u p2 ((Zqy m e v g).1 z)
   ·obtain⟨j1,e1,o1,O,rfl⟩:=G i ei l
    obtain⟨j2,y,q1,q2,rfl⟩:=G j ej q;obtain⟨k1,p1,p2,p3⟩:=b i V C;obtain⟨k2,r1,r2,r3⟩:=b j D F;rw[o1]at p1;injection p1 with p1
    subst p1;rw[q1]at r1;injection r1 with r1
    subst r1;rw[ZrN]at L M;have:=f.sep j1 j2 e1 y V D g O q2 L M p2 r2 ((Zqy m e1 V g).1 U) ((Zqy m y D g).1 W);rw[<-p3,<-r3,this]
  ·exact h.elim
inductive Zar
 |done
 |op (i:Nat) (p:Zar)
 |ld (i:Nat) (p:Zar)
 |alt (i:Nat) (p q:Zar)
 |can (p:Zar)
def Zar.o:List Nat->Zar->Zar
 |[],p=>p
 |i::r,p=>.op i (Zar.o r p)
def Zar.u:Nat->Nat->Zar->Zar
 |_,0,p=>p
 |a,n+1,p=>.op a (Zar.u (a+1) n p)
def Zar.l:List Nat->Zar->Zar
 |[],p=>p
 |i::r,p=>.ld i (Zar.l r p)
def Zar.a:List Nat->Zar->Zar
 |[],p=>p
 |i::r,p=>.alt i (Zar.a r p) .done
def Zar.d (i:Nat):Zar:=.alt i .done .done
def Zar.core:Zar->Zar
 | .can p=>p
 |p=>p
section
variable {P:Program} {ops:Array Oper}
inductive Behind (ops:Array Oper) (i:Nat):Nat->Prop
 |edge {j:Nat} {oj:Oper} {e:Edge}:ops[j]?=some oj->e∈oj.after->Region.binds .any e=true->e.on=i->Behind ops i j
 |step {j:Nat} {oj:Oper} {e:Edge}:ops[j]?=some oj->e∈oj.after->Region.binds .any e=true->Behind ops i e.on->Behind ops i j
def ZtZ (a:List Nat) (l:List Edge) (m:Nat):Nat :=
 match l with
 |[]=>m
 |e::r=>ZtZ a r (if Region.binds .any e then(m ||| 2^e.on) ||| a.getD e.on 0 else m)
def Zj5:List Oper->List Nat->List Nat
 |[],a=>a
 |o::r,a=>Zj5 r (a++[ZtZ a o.after.toList 0])
def Zcm (M:List Nat) (i j:Nat):Bool:=(M.getD j 0).testBit i
theorem ZrC {ops:Array Oper} {a:List Nat} (c:∀(j m:Nat),a[j]?=some m->∀i,m.testBit i=true->Behind ops i j) {j:Nat} {O:Oper} (d:ops[j]?=some O) :
  ∀(l:List Edge) (m:Nat),(∀e∈l,e∈O.after)->(∀i,m.testBit i=true->Behind ops i j)->∀i,(ZtZ a l m).testBit i=true->Behind ops i j
 |[],m,_,Q,i,h=>Q i h
 |e::r,m,q,Q,i,h=>by
  unfold ZtZ at h;refine ZrC c d r _ (λe g=>q e (by simp[g])) ?_ i h;intro k H;split at H
  ·rename_i f
   rw[Nat.testBit_or,Nat.testBit_or,Nat.testBit_two_pow]at H;simp only[KD,Ul]at H;rcases H with(H|H)|H
   ·exact Q k H
   ·exact .edge d (q e (by simp)) f H
   ·cases b:a[e.on]? with
    |none=>simp[b]at H
    |some M=>exact .step d (q e (by simp)) f (c _ _ b k (by simpa[b]using H))
  ·exact Q k H
theorem Zpu {ops:Array Oper}:∀(l:List Oper) (a:List Nat),(∀(k:Nat),l[k]?=ops[a.length+k]?)->(∀(j m:Nat),a[j]?=some m->∀i,m.testBit i=true->Behind ops i j)->
  ∀(j m:Nat),(Zj5 l a)[j]?=some m->∀i,m.testBit i=true->Behind ops i j
 |[],a,_,h=>h
 |o::r,a,q,h=>by
  unfold Zj5;refine Zpu r _ (λk=>?_) ?_
  ·have:=q (k+1)
   simpa[Nat.add_assoc,Nat.add_comm 1 k]using this
  ·intro j m b i H
   have t:=(Ub.1 b).1;rw[Uh,UV]at t;by_cases c:j<a.length
   ·rw[Uy c]at b
    exact h j m b i H
   ·have:j=a.length:=by omega
    subst this;rw[UY (by omega)]at b;simp at b;subst b;have d:ops[a.length]?=some o:=by simpa using(q 0).symm
    exact ZrC h d _ 0 (λe f=>by simpa using f) (λi H=>by simp at H) i H
def Down (ops:Array Oper) (l:Array Bool):Prop:=∀(j:Nat) (O:Oper) (e:Edge),ops[j]?=some O->l.getD j false=true->e∈O.after->Region.binds .any e=true->l.getD e.on false=true
variable {i:Nat}
theorem Down.set {l:Array Bool} (h:Down ops l) (E:i∈Region.ready .any ops l):Down ops (l.setIfInBounds i true):=by
 intro j O e d q c b;by_cases V:i=j
 ·subst V
  obtain⟨_,o,a,H⟩:=mem_ready.1 E;rw[d]at a;injection a with a;subst a
  exact getD_set_true (H e c b)
 ·rw[getD_set_ne false V]at q
  exact getD_set_true (h j O e d q c b)
theorem Zmk {l:Array Bool} (L:Down ops l) (g:l.getD i false=false):∀(j:Nat),Behind ops i j->j ∉ Region.ready .any ops l/\l.getD j false=false:=by
 intro j h;have J:∀{j:Nat} {O:Oper} {e:Edge},ops[j]?=some O->e∈O.after->Region.binds .any e=true->l.getD e.on false=false->j ∉ Region.ready .any ops l/\l.getD j false=false:=by
  intro j O e a H b n;constructor
  ·intro E
   obtain⟨_,o,d,c⟩:=mem_ready.1 E;rw[a]at d;injection d with d;subst d
   have:=c e H b;rw[n]at this;cases this
  ·cases q:l.getD j false with
   |false=>rfl
   |true =>
    have:=L j O e a q H b;rw[n]at this;cases this
 induction h with
 |edge a H b f=>exact J a H b (by rw[f];exact g)
 |step a H b _ I=>exact J a H b I.2
def Lit (P:Program) (ops:Array Oper) (R:World->World->Prop) (o:Oper) (v:Value) (a:Act) (w:World):Prop :=
 (Region.wanted o (yielded ops a.tmps)=true/\∀w',R w w'->(execOp a.eval o).run P w'=.ok (.value v) w')\/(Region.wanted o (yielded ops a.tmps)=false/\v=undef)
structure Way (R:World->World->Prop):Prop where
 refl:∀w,R w w
 trans:∀a b c,R a b->R b c->R a c
def Zmw (P:Program) (ops:Array Oper) (G:Nat->World->World->Prop) (Q:Exit->Act->World->Prop):Nat->Array Bool->Act->World->Prop
 |0,l,a,w=>Region.ready .any ops l=[]/\Q .normal a w
 |fuel+1,l,a,w=>(Region.ready .any ops l=[]->Q .normal a w)/\
  ∀i∈Region.ready .any ops l,wpOp P ops Q i (λA w'=>G i w w'/\Zmw P ops G Q fuel (l.setIfInBounds i true) A w') a w
theorem ZpL {G:Nat->World->World->Prop} {Q:Exit->Act->World->Prop}:∀(fuel:Nat) (l:Array Bool) (a:Act) (w:World),Zmw P ops G Q fuel l a w->wpAny P .any ops Q fuel l a w
 |0,_,_,_,h=>h
 |fuel+1,_,_,_,h=>⟨h.1,λi H=>wpOp_mono (λA w' hh=>ZpL fuel _ A w' hh.2) (h.2 i H)⟩
variable {R:World->World->Prop} {Q:Exit->Act->World->Prop} {v:Value} {w:World} {K:Act->World->Prop}
theorem Lit.wpOp (H:Way R) {o:Oper} {a:Act} (l:ops[i]?=some o) (e:Lit P ops R o v a w) (h:K (a.put o.dst v) w):Go.wpOp P ops Q i K a w:=by
 unfold Go.wpOp;simp only[l];rcases e with⟨c,b⟩|⟨c,rfl⟩
 ·simp only[c,Uk,Oper.wp,b w (H.refl w),Oper.upon];exact .inl h
 ·simp only[c,UN,Uj];exact h
variable {j:Nat} {O:Oper}
theorem ZxP (C:Way R) {o:Oper} (F:ops[j]?=some O) (G:o.apart ops O=true)
  (L:∀cs b,o.op≠.select cs b) (p:∀cs b,O.op≠.select cs b) (B:∀c a w,¬Q (.panic c) a w) {G1:World->World->Prop} (H:∀w w',G1 w w'->R w w') {a:Act} (I:Lit P ops R o v a w) (h:wpOp P ops Q j (λA w'=>G1 w w'/\K A w') (a.put o.dst v) w) :
  wpOp P ops Q j (λA w'=>G1 w w'/\Lit P ops R o v A w'/\K (A.put o.dst v) w') a w:=by
 obtain⟨z,m,t⟩:=Oper.apart_spec G;have U:∀(A:Act) (w':World),execOp A.eval o=execOp a.eval o->Region.wanted o (yielded ops A.tmps)=Region.wanted o (yielded ops a.tmps)->R w w'->Lit P ops R o v A w':=by
  intro A w' l q E;unfold Lit at *;rw[l,q];rcases I with⟨a1,D⟩|a1
  ·exact .inl ⟨a1,λW y=>D W (C.trans _ _ _ E y)⟩
  ·exact .inr a1
 have k:∀(u:Value) (w':World),R w w'->Lit P ops R o v (a.put O.dst u) w':=λu w' E=>U _ _ (execOp_put o L a O.dst u t) (wanted_put o a O.dst u t) E;have i:∀(d:Deferred) (u:Value) (w':World),R w w'->Lit P ops R o v (({a with defers:=d::a.defers}:Act).put O.dst u) w':=λd u w' E =>
  U _ _ ((execOp_put o L ({a with defers:=d::a.defers}:Act) O.dst u t).trans rfl) ((wanted_put o ({a with defers:=d::a.defers}:Act) O.dst u t).trans rfl) E
 unfold wpOp at *;simp only[F]at *;rw[wanted_put O a o.dst v z]at h;split
 ·rename_i q
  simp only[q,Uk]at h;rcases h with h|⟨s,g⟩
  case inr=>exact .inr ⟨by unfold Oper.asks at *;rw[execOp_put O p a o.dst v z]at s;exact s,g⟩
  refine .inl ?_;unfold Oper.wp at *;rw[execOp_put O p a o.dst v z]at h;generalize (execOp a.eval O).run P w=r at *;cases r with
  |ok n w' =>
   cases n<;>simp only[Oper.upon]at h ⊢
   case value u=>exact⟨h.1,k u w' (H _ _ h.1),by rw[<-Act.put_comm a v u m];exact h.2⟩
   case skip=>exact⟨h.1,k _ w' (H _ _ h.1),by rw[<-Act.put_comm a v undef m];exact h.2⟩
   case defer d =>
    refine⟨h.1,i d _ w' (H _ _ h.1),?_⟩;rw[<-Act.put_comm _ v undef m,<-Act.put_defers];exact h.2
   case enter f args =>
    refine Calls.mono h λe W l=>?_;cases e with
    |returned u=>exact⟨l.1,k u W (H _ _ l.1),by rw[<-Act.put_comm a v u m];exact l.2⟩
    |panicked c=>exact absurd l (B _ _ _)
    |outgrown=>exact l
   case row row args=>exact Rows.mono h λu W l=>⟨l.1,k u W (H _ _ l.1),by rw[<-Act.put_comm a v u m];exact l.2⟩
  |halt x w' =>
   cases x<;>simp only[Oper.upon]at h ⊢
   case panic u=>exact absurd h (B _ _ _)
 ·rename_i q
  simp only[q]at h;exact⟨h.1,k _ w (C.refl w),by rw[<-Act.put_comm a v undef m];exact h.2⟩
theorem Zmx (r:Way R) {G:Nat->World->World->Prop} (x:ops[i]?=some O) (k:∀w,G i w w)
  (d:∀(j:Nat) (o:Oper) cs b,ops[j]?=some o->o.op≠.select cs b) (N:∀c a w,¬Q (.panic c) a w)
  (J:∀j p,ops[j]?=some p->j≠i->¬Behind ops i j->¬Behind ops j i->O.apart ops p=true/\∀w w',G j w w'->R w w') :
  ∀(f:Nat) (l:Array Bool) (a:Act) (w:World),Down ops l->i∈Region.ready .any ops l->Lit P ops R O v a w->
   Zmw P ops G Q f (l.setIfInBounds i true) (a.put O.dst v) w->Zmw P ops G Q (f+1) l a w:=by
 have A:∀l:Array Bool,i∈Region.ready .any ops l->l.getD i false=false:=by
  intro l E;have F:=(mem_ready.1 E).1;rcases Nat.lt_or_ge i l.size with e|e
  ·simpa[e]using F
  ·simp[Array.getElem?_eq_none e]
 intro f;induction f with
 |zero =>
  intro l a w L E y H;refine⟨λh=>(by rw[h]at E;cases E),λj g=>?_⟩;by_cases D:j=i
  ·subst D;exact y.wpOp r x ⟨k w,H⟩
  ·have:=ready_mono g D
   rw[H.1]at this;cases this
 |succ f S =>
  intro l a w L E y H;refine⟨λh=>(by rw[h]at E;cases E),λj g=>?_⟩;by_cases D:j=i
  ·subst D;exact y.wpOp r x ⟨k w,H⟩
  ·have I:=H.2 j (ready_mono g D)
   obtain⟨n,p,M,B⟩:=mem_ready.1 g;have z:¬Behind ops i j:=λt=>(Zmk L (A _ E) j t).1 g;have m:¬Behind ops j i:=by
    intro t;refine(Zmk L ?_ i t).1 E;rcases Nat.lt_or_ge j l.size with e|e
    ·simpa[e]using n
    ·simp[Array.getElem?_eq_none e]
   obtain⟨s,u⟩:=J j p M D z m;have K:=ZxP r M s (λcs b=>d i O cs b x) (λcs b=>d j p cs b M) N u y I;refine wpOp_mono (λC w' q=>⟨q.1,S (l.setIfInBounds j true) C w' (L.set g) (ready_mono E (Ne.symm D)) q.2.1 ?_⟩) K;rw[Array.setIfInBounds_comm _ _ D];exact q.2.2
def ZkT (ops:Array Oper):Bool:=ops.all λo=>match o.op with
 | .select _ _=>false
 |_=>true
def ZB7 (Γ:Gam) (ops:Array Oper) (M:List Nat) (i:Nat):Bool :=
 match ops[i]? with
 |none=>false
 |some o=>Zea o.op&&(List.range ops.size).all λj=>j==i||Zcm M i j||Zcm M j i||match ops[j]? with
  |none=>true
  |some O=>o.apart ops O&&(!isLoad o.op||ZiG Γ O.op)
def ZEX:Op->Bool
 | .indexAddr _ _ _=>true
 |_=>false
def ZBM (ops:List Oper):Bool:=ops.all λo=>match o.op with
 | .store _ (.tmp t) _=>ops.any λo'=>(match o'.dst with
  |some d=>Nat.beq d t
  | none=>false)&&ZEX o'.op
 | .store _ _ _=>false
 |_=>true
def ZzP (st:Bool) (op:Op):Option Operand:=match op with
 | .store _ x _=>match st with
  |true=>some x
  |false=>none
 |op=>appArg op
variable {st:Bool} {op:Op} {x:Operand}
theorem Ztj (h:ZzP st op=some x):appArg op=some x:=by
 unfold ZzP at h;split at h
 ·split at h
  ·exact h
  ·cases h
 ·exact h
def ZDC (Γ:Gam) (st:Bool) (op:Op):Bool:=(ZzP st op).isSome||(Zi3 Γ op).isSome
variable {Γ:Gam}
theorem ZCY (h:appArg op=some x):Zi3 Γ op=none:=by
 unfold appArg at h;split at h
 ·rfl
 ·rfl
 ·cases h
def Zw4 (o:Oper):Bool:=match o.op,o.guard with
 | .load _ _,none=>true
 |_,_=>false
def ZB8 (Γ:Gam) (ops:Array Oper) (M:List Nat) (i:Nat):Bool :=
 match ops[i]? with
 |none=>false
 |some o=>Zw4 o&&(List.range ops.size).all λj=>j==i||Zcm M i j||Zcm M j i||match ops[j]? with
  |none=>true
  |some O=>o.apart ops O&&(ZiG Γ O.op||ZDC Γ (ZBM ops.toList) O.op)
def ZbB (Γ:Gam) (ops:Array Oper) (M:List Nat):Zar->Nat->Array Bool->Option (List Nat)->Bool
 | .done,_,l,none=>(Region.ready .any ops l).isEmpty
 | .done,_,_,some r=>r.isEmpty
 | .op i p,n+1,l,none=>(Region.ready .any ops l).contains i&&ZB7 Γ ops M i&&ZbB Γ ops M p n (l.setIfInBounds i true) none
 | .ld i p,n+1,l,none=>(Region.ready .any ops l).contains i&&ZB8 Γ ops M i&&ZbB Γ ops M p n (l.setIfInBounds i true) none
 | .alt i p q,n+1,l,none=>(Region.ready .any ops l).contains i&&ZbB Γ ops M p n (l.setIfInBounds i true) none&&ZbB Γ ops M q (n+1) l (some ((Region.ready .any ops l).filter (· != i)))
 | .alt i p q,n+1,l,some r=>ZbB Γ ops M p n (l.setIfInBounds i true) none&&ZbB Γ ops M q (n+1) l (some (r.filter (· != i)))
 |_,_,_,_=>false
def ZdR (i:Nat):List Nat->Bool
 |[]=>false
 |j::r=>Nat.beq j i||ZdR i r
def Ziy:List Nat->List Entry->Prop->Prop
 |[],_,K=>K
 |i::r,H,K=>ZgN H i λe=>match e with
  | .box _=>Ziy r H K
  |_=>False
def wrK (V:List Nat) (R:List SV) (H:List Entry):List Operand->Prop->Prop
 |[],K=>Ziy V H K
 |x::r,K=>JE R x λs=>match s with
  | .ptr i _=>ZdR i V=false/\ZgN H i λe=>match e with
   | .box _=>wrK V R H r K
   |_=>False
  |_=>False
def ZBE (Γ:Gam) (st:Bool) (V:List Nat) (r:List SV) (H:List Entry) (op:Op) (K:Prop):Prop:=match V with
 |[]=>K
 |_=>match ZzP st op with
  |none=>match Zi3 Γ op with
   |none=>K
   |some xs=>wrK V r H xs K
  |some x=>JE r x λs=>match s with
   | .nsl=>K
   | .own i=>ZdR i V=false/\ZgN H i λe=>match e with
    | .arr _ _ _=>Ziy V H K
    | .darr _ _ _ _=>Ziy V H K
    |_=>False
   | .oep i _ _ _=>ZdR i V=false/\ZgN H i λe=>match e with
    | .arr _ _ _=>Ziy V H K
    | .darr _ _ _ _=>Ziy V H K
    | .hole _ _ _ _ _ _=>Ziy V H K
    |_=>False
   |_=>False
def ldK (Δ:Tab) (V:List Nat) (o:Oper) (R:List SV) (H:List Entry) (K:List SV->Prop):Prop:=match o.op,o.guard with
 | .load T x,none=>Zc5 Δ T λt=>JE R x λs=>match s with
  | .ptr I f=>ZdR I V=true/\ZgN H I λe=>match e with
   | .box cells=>ZiC cells f λcs=>VE t cs λr=>ZuZ R o.dst r K
   |_=>False
  |_=>False
 |_,_=>False
def ZBQ:Prop:=True
def Zit (Δ:Tab) (Γ:Gam) (ops:List Oper) (V:List Nat):Zar->Bool->List SV->List Entry->(List SV->List Entry->Prop)->Prop
 | .done,false,r,H,K=>ZBQ/\K r H
 | .done,true,_,_,_=>True
 | .op i p,_,r,H,K=>ZwS ops i λo=>ZwU Δ Γ ops o r H λa H'=>Zit Δ Γ ops V p false a H' K
 | .ld i p,_,r,H,K=>ZwS ops i λo=>ldK Δ V o r H λa=>Zit Δ Γ ops V p false a H K
 | .can _,_,_,_,_=>False
 | .alt i p .done,_,r,H,K=>ZwS ops i λo=>ZBE Γ (ZBM ops) V r H o.op (ZwU Δ Γ ops o r H λa H'=>Zit Δ Γ ops V p false a H' K)
 | .alt i p q,_,r,H,K=>(ZwS ops i λo=>ZBE Γ (ZBM ops) V r H o.op (ZwU Δ Γ ops o r H λa H'=>Zit Δ Γ ops V p false a H' K))/\Zit Δ Γ ops V q true r H K
def ZDl (Γ:Gam) (ops:Array Oper) (j:Nat):Bool:=match ops[j]? with
 |some o=>ZiG Γ o.op
 |none=>true
def ZzO (Γ:Gam) (ops:Array Oper) (j:Nat):Bool:=match ops[j]? with
 |some o=>ZDC Γ (ZBM ops.toList) o.op
 |none=>false
def VOk (V:List Nat) (Bk:Nat->Option Nat) (E:Env):Prop:=∀I,ZdR I V=true->∃b,Bk I=some b/\E.ids[I]?=some (.pointer (some ⟨b,0,none⟩))
variable {V:List Nat} {Bk:Nat->Option Nat} {E:Env}
theorem VOk.le {E':Env} (h:VOk V Bk E) (e:E.le E'):VOk V Bk E':=λI l=>by
 obtain⟨b,d,f⟩:=h I l;exact⟨b,d,e.ids _ _ f⟩
def ZoE (B:Base) (V:List Nat) (Bk:Nat->Option Nat) (r:List SV) (H:List Entry) (a:Act) (w:World):Prop :=
 ∃E,VOk V Bk E/\E.w=w/\Inv B E H/\Yf E r a.tmps.toList/\a.defers=[]
variable {B:Base} {r:List SV} {H:List Entry}
theorem ZoE.ZF0 {a:Act} (h:ZoE B V Bk r H a w):Conc B r H a w:=by
 obtain⟨E,_,h⟩:=h;exact⟨E,h⟩
def Leaves (Γ:Gam) (ops:Array Oper) (V:List Nat) (Bk:Nat->Option Nat) (j:Nat) (w w':World):Prop :=
 (ZDl Γ ops j=true->Grow w w')/\(ZzO Γ ops j=true->∀I b,ZdR I V=true->Bk I=some b->b<w.heap.size->w'.heap[b]?=w.heap[b]?)
theorem Leaves.refl {ops:Array Oper} (w:World):Leaves Γ ops V Bk j w w:=⟨λ_=>Grow.refl w,λ_ _ _ _ _ _=>rfl⟩
def Rb (b:Nat) (w w':World):Prop:=b<w.heap.size->b<w'.heap.size/\w'.heap[b]?=w.heap[b]?
theorem Rb.way (b:Nat):Way (Rb b):=⟨λw h=>⟨h,rfl⟩,λx y z d f h=>by
 obtain ⟨a1,a⟩:=d h;obtain ⟨b1,N⟩:=f a1;exact ⟨b1,N.trans a⟩⟩
theorem Rb.of {b:Nat} {w':World} (h:b<w.heap.size->w'.heap[b]?=w.heap[b]?):Rb b w w':=λH=>by
 refine⟨?_,h H⟩;have:=h H;rw[Array.getElem?_eq_getElem H]at this;exact(U1.1 this).1
theorem Ziz:∀(V:List Nat) {H:List Entry} {K:Prop},Ziy V H K->K/\∀I,ZdR I V=true->∃cells,H[I]?=some (.box cells)
 |[],H,K,h=>⟨h,λI l=>by cases l⟩
 |i::r,H,K,h=>by
  unfold Ziy at h;obtain⟨e,b,h⟩:=Y0 H h;split at h
  ·rename_i cells
   obtain⟨k,E⟩:=Ziz r h;refine⟨k,λI l=>?_⟩;unfold ZdR at l;rcases KD _ _▸l with a|a
   ·have:=Nat.eq_of_beq_eq_true a
    subst this;exact⟨cells,b⟩
   ·exact E I a
  ·exact h.elim
theorem ZzI {B:Base} {E:Env} {H:List Entry} (j:Inv B E H) {R:List SV} {a:Act} (L:Yf E R a.tmps.toList) {V:List Nat} {Bk:Nat->Option Nat} (v:VOk V Bk E):∀(xs:List Operand) {K:Prop},wrK V R H xs K->
  K/\(∀I,ZdR I V=true->∃cells,H[I]?=some (.box cells))/\∀I b,ZdR I V=true->Bk I=some b->∀x∈xs,Yv (a.eval x)≠some b
 |[],K,h=>⟨(Ziz V h).1,(Ziz V h).2,λI b _ _ x Z=>by cases Z⟩
 |x::r,K,h=>by
  unfold wrK at h;obtain⟨s,n,h⟩:=Yr L h;split at h
  ·rename_i i O
   obtain⟨W,h⟩:=h;obtain⟨C,u,h⟩:=Y0 H h;split at h
   ·rename_i cells
    obtain⟨w,c,z⟩:=ZzI j L v r h;refine⟨w,c,λI b d k y g=>?_⟩;rcases Us.1 g with rfl|g
    ·simp only[den]at n
     obtain⟨b0,o,p⟩:=n;rw[p];intro e;simp only[Yv,Option.some.injEq]at e;subst e;obtain⟨S,l,m⟩:=v I d;rw[k]at l;injection l with l
     subst l;obtain⟨cells',t⟩:=c I d;have f:i≠I:=λq=>by subst q;rw[W]at d;cases d
     exact Znn j t m u rfl o f (by simp[Zhi,Yv])
    ·exact z I b d k y g
   ·exact h.elim
  ·exact h.elim
theorem ZzN (C:Inv B E H) {a:Act} (T:Yf E r a.tmps.toList) (N:VOk V Bk E) {K:Prop} (h:ZBE Γ st V r H op K) :
  (K/\∀x,ZzP st op=some x->∀w',E.w.grownBy w' (Yv (a.eval x))->∀I b,ZdR I V=true->Bk I=some b->b<E.w.heap.size->w'.heap[b]?=E.w.heap[b]?)/\
  ∀xs,Zi3 Γ op=some xs->∀I b,ZdR I V=true->Bk I=some b->∀x∈xs,Yv (a.eval x)≠some b:=by
 unfold ZBE at h;split at h
 ·exact⟨⟨h,λx _ w' _ I b d=>by cases d⟩,λxs _ I b d=>by cases d⟩
 ·split at h
  ·rename_i o
   split at h
   ·rename_i R
    exact⟨⟨h,λx Z=>by rw[o]at Z;cases Z⟩,λxs Z=>by rw[R]at Z;cases Z⟩
   ·rename_i xs R
    obtain⟨L,_,h2⟩:=ZzI C T N xs h;exact⟨⟨L,λx Z=>by rw[o]at Z;cases Z⟩,λys c=>by rw[R]at c;injection c with c;subst c;exact h2⟩
  ·rename_i x o
   refine⟨?_,λxs Z=>by rw[ZCY (Ztj o)]at Z;cases Z⟩;obtain⟨s,z,h⟩:=Yr T h;split at h
   ·simp only[den]at z
    refine⟨h,λy c w' n I b _ _ G=>?_⟩;rw[o]at c;injection c with c;subst c
    rw[z]at n;exact n.block b G (λe=>by simp[Yv]at e)
   ·rename_i k
    obtain⟨W,h⟩:=h;obtain⟨F,D,h⟩:=Y0 H h;simp only[den]at z;have J:∀{K:Prop},Ziy V H K->F.live=true->(∀g,Yv (a.eval x)=some g->Zhi F (a.eval x) g)->K/\∀y,ZzP st op=some y->∀w',E.w.grownBy w' (Yv (a.eval y))->∀I b,ZdR I V=true->Bk I=some b->b<E.w.heap.size->w'.heap[b]?=E.w.heap[b]?:=by
     intro K h P f;obtain⟨L,j⟩:=Ziz V h;refine⟨L,λy c w' n I b d u G=>?_⟩;rw[o]at c;injection c with c;subst c
     obtain⟨cells,O⟩:=j I d;obtain⟨U,l,t⟩:=N I d;rw[u]at l;injection l with l;subst l
     refine n.block b G (λe=>?_);have m:k≠I:=λq=>by subst q;rw[W]at d;cases d
     exact Znn C O t D P z.1 m (f b e.symm)
    split at h
    ·exact J h rfl (λg n=>n)
    ·obtain⟨v,xs,M,e1,_,_,p,_⟩:=C.ent k _ D
     have:=z.1.symm.trans e1;simp at this;subst this;exact J h rfl (λg n=>by simp only[Zhi];rw[p,n];simp)
    ·exact h.elim
   ·rename_i k sz i a7
    obtain⟨W,h⟩:=h;obtain⟨F,D,h⟩:=Y0 H h;simp only[den]at z;obtain⟨S,X,n0,c0,A,Q⟩:=z;have J:∀{K:Prop},Ziy V H K->F.live=true->Zhi F (.slice (some ⟨S,X,none⟩) n0 c0) S->K/\∀y,ZzP st op=some y->∀w',E.w.grownBy w' (Yv (a.eval y))->∀I b,ZdR I V=true->Bk I=some b->b<E.w.heap.size->w'.heap[b]?=E.w.heap[b]?:=by
     intro K h P f;obtain⟨L,j⟩:=Ziz V h;refine⟨L,λy c w' n I b d u G=>?_⟩;rw[o]at c;injection c with c;subst c
     obtain⟨cells,O⟩:=j I d;obtain⟨U,l,t⟩:=N I d;rw[u]at l;injection l with l;subst l
     refine n.block b G (λe=>?_);rw[Q]at e;simp only[Yv,Option.some.injEq]at e;subst e;have m:k≠I:=λq=>by subst q;rw[W]at d;cases d
     exact Znn C O t D P A m f
    split at h
    ·exact J h rfl rfl
    ·obtain⟨v,xs,M,e1,_,_,p,_⟩:=C.ent k _ D
     have:=A.symm.trans e1;simp at this;subst this;exact J h rfl (by simp only[Zhi];rw[p];simp[Yv])
    ·obtain⟨v,xs,x1,a8,x2,f1,f2,k1,ho,a2,a3,ex,el,a0,a5,a6,a1,Y,a4⟩:=C.ent k _ D
     have:=A.symm.trans k1;simp at this;subst this;exact J h rfl (by simp only[Zhi];rw[Y];simp[Yv])
    ·exact h.elim
   ·exact h.elim
theorem Zyh {M:List Nat} (hM:∀i j,Zcm M i j=true->Behind ops i j) {Δ:Tab} (hΔ:Δ.ok P) {Γ:Gam} (hΓ:Γ.ok P) {B:Base} {V:List Nat} {Bk:Nat->Option Nat} {Q:Exit->Act->World->Prop} (hQ:∀c a w,¬Q (.panic c) a w) (hs:ZkT ops=true) {K:List SV->List Entry->Prop}
  (hq:∀e H' W w',K e H'->ZoE B V Bk e H' W w'->Q .normal W w') :
  ∀(p:Zar) (n:Nat) (l:Array Bool) (m:Option (List Nat)) (d:List SV) (H:List Entry) (a:Act) (w:World),ZoE B V Bk d H a w->Down ops l->ZbB Γ ops M p n l m=true->Zit Δ Γ ops.toList V p m.isSome d H K->
   match m with
   |none=>Zmw P ops (Leaves Γ ops V Bk) Q n l a w
   |some S=>∀i∈S,i∈Region.ready .any ops l->wpOp P ops Q i (λW w'=>Leaves Γ ops V Bk i w w'/\Zmw P ops (Leaves Γ ops V Bk) Q (n-1) (l.setIfInBounds i true) W w') a w:=by
 have Z:∀(j:Nat) (o:Oper) cs b,ops[j]?=some o->o.op≠.select cs b:=by
  intro j o cs b A he;unfold ZkT at hs;rw[Array.all_eq_true_iff_forall_mem]at hs;have:=hs o (Array.mem_of_getElem? A);rw[he]at this;cases this
 have N:∀(i n:Nat) (l:Array Bool) (p:Zar) (d:List SV) (H:List Entry) (a:Act) (w:World),ZoE B V Bk d H a w->Down ops l->i∈Region.ready .any ops l->ZbB Γ ops M p n (l.setIfInBounds i true) none=true->
   (∀d H a w,ZoE B V Bk d H a w->Zit Δ Γ ops.toList V p false d H K->Zmw P ops (Leaves Γ ops V Bk) Q n (l.setIfInBounds i true) a w)->
   (ZwS ops.toList i λo=>ZBE Γ (ZBM ops.toList) V d H o.op (ZwU Δ Γ ops.toList o d H λe H'=>Zit Δ Γ ops.toList V p false e H' K))->
   wpOp P ops Q i (λW w'=>Leaves Γ ops V Bk i w w'/\Zmw P ops (Leaves Γ ops V Bk) Q n (l.setIfInBounds i true) W w') a w:=by
  intro i n l p d H a w t L F g ih k;obtain⟨o,ho,k⟩:=ZlZ _ k;have X:ops[i]?=some o:=by simpa using ho
  unfold wpOp;simp only[X];obtain⟨E,hV,rfl,Y,C,z⟩:=t;obtain⟨⟨k,a8⟩,b9⟩:=ZzN Y C hV k;refine Zt6 hΔ hΓ ops o Y C z k (λe H' W E' O d2 a1 a2 d9 hg d3 e1=>⟨⟨λd8=>hg ?_,λU=>?_⟩,ih e H' W E'.w ⟨E',hV.le d9,rfl,d2,a1,a2⟩ O⟩)
  ·simpa[ZDl,X]using d8
  ·simp only[ZzO,X,ZDC,KD,Option.isSome_iff_exists]at U
   rcases U with⟨x,hx⟩|⟨xs,hx⟩
   ·exact a8 x hx _ (d3 x (Ztj hx))
   ·exact λid b hi a0 a5=>e1 xs hx b a5 (b9 xs hx id b hi a0)
 intro p;induction p with
 |done =>
  intro n l m d H a w t L g k;cases m with
  |none =>
   simp only[ZbB,KZ]at g;simp only[Zit,Option.isSome]at k;cases n with
   |zero=>exact⟨g,hq _ _ _ _ k.2 t⟩
   |succ n=>exact⟨λ_=>hq _ _ _ _ k.2 t,λi hi=>by rw[g]at hi;cases hi⟩
  |some S =>
   simp only[ZbB,KZ]at g;subst g;intro i hi;cases hi
 |op i p ih =>
  intro n l m d H a w t L g k;cases m with
  |some S=>cases n<;>simp[ZbB]at g
  |none =>
   cases n with
   |zero=>simp[ZbB]at g
   |succ n =>
    simp only[ZbB,Up,List.contains_iff_mem]at g;obtain⟨⟨F,G⟩,g⟩:=g;simp only[Zit]at k;obtain⟨o,ho,k⟩:=ZlZ _ k;have X:ops[i]?=some o:=by simpa using ho
    unfold ZB7 at G;simp only[X,Up]at G;obtain⟨hl,G⟩:=G;obtain⟨E,hV,rfl,Y,C,z⟩:=t;obtain⟨v,hy,e,H',O,E',b4,a7,d6⟩:=ZwL hΔ ops o hl Y C z k;have a3:∀j oj,ops[j]?=some oj->j≠i->Zcm M i j=false->Zcm M j i=false->o.apart ops oj=true/\(isLoad o.op=true->ZiG Γ oj.op=true):=by
     intro j oj A D U J;rw[Kw]at G;have:=G j (Ky.2 (U1.1 A).1);simp only[A,U,J,KD,Kb,Up,UO,UN,Kd]at this;rcases this with h|⟨I,f⟩
     ·exact absurd h D
     ·refine⟨I,λa4=>?_⟩
      rcases f with f|f
      ·rw[a4]at f;cases f
      ·exact f
    refine Zmx (R:=λw w'=>isLoad o.op=true->ZqV w w') ⟨λw _=>ZqV.refl w,λa b c I f h=>(I h).trans (f h)⟩ X (λw=>Leaves.refl w) Z hQ ?_ n l a E.w L F hy (ih n _ none e H' _ _ ⟨E',hV.le b4,a7,d6⟩ (L.set F) g O);intro j oj A D U J;have nb:∀x y,¬Behind ops x y->Zcm M x y=false:=λx y h=>by
     cases hh:Zcm M x y with
     |false=>rfl
     |true=>exact absurd (hM x y hh) h
    obtain⟨I,f⟩:=a3 j oj A D (nb _ _ U) (nb _ _ J);exact⟨I,λw w' h a4=>(h.1 (by simpa[ZDl,A]using f a4)).ZIl⟩
 |ld i p ih =>
  intro n l m d H a w t L g k;cases m with
  |some S=>cases n<;>simp[ZbB]at g
  |none =>
   cases n with
   |zero=>simp[ZbB]at g
   |succ n =>
    simp only[ZbB,Up,List.contains_iff_mem]at g;obtain⟨⟨F,G⟩,g⟩:=g;simp only[Zit]at k;obtain⟨o,ho,k⟩:=ZlZ _ k;have X:ops[i]?=some o:=by simpa using ho
    obtain⟨E,hV,rfl,Y,C,z⟩:=t;unfold ZB8 at G;simp only[X,Up]at G;obtain⟨_,G⟩:=G;unfold ldK at k;split at k
    ·rename_i T x b7 hg
     obtain⟨ti,ht,k⟩:=Xw Δ hΔ k;obtain⟨s,e0,k⟩:=Yr C k;split at k
     ·rename_i id e3
      obtain⟨b1,k⟩:=k;obtain⟨en,he,k⟩:=Y0 H k;split at k
      ·rename_i cells
       obtain⟨b,u,r,U,b8,b0,k⟩:=ZuL Y ht e0 he k;obtain⟨b',a0,d4⟩:=hV id b1;have:=U.symm.trans d4;simp at this;subst this;have a5:b<E.w.heap.size:=(Y.free id _ _ b he rfl U (by simp[Zhi,Yv])).2.2;obtain⟨e,a1,O,d7⟩:=ZkW (dst:=o.dst) (v:=u) C b0 k;have b5:Lit P ops (Rb b) o u a E.w:=by
        refine .inl ⟨by simp[Region.wanted,hg],λw' a7=>?_⟩;have I:=b8 w' (a7 a5).2;obtain⟨dst,op,e2,pos,after,guard⟩:=o;simp only at b7;subst b7;show Sem.run P (do pure (Next.value (<-Instr.loadAt T (a.eval x))):Sem Next) w'=_;rw[Sem.run_bind,I];rfl
       refine Zmx (R:=Rb b) (Rb.way b) X (λw=>Leaves.refl w) Z hQ ?_ n l a E.w L F b5 (ih n _ none e H _ _ ⟨E,hV,rfl,Y,a1,by rw[d7];exact z⟩ (L.set F) g O);intro j oj A D d5 J;have nb:∀x y,¬Behind ops x y->Zcm M x y=false:=λx y h=>by
        cases hh:Zcm M x y with
        |false=>rfl
        |true=>exact absurd (hM x y hh) h
       rw[Kw]at G;have:=G j (Ky.2 (U1.1 A).1);simp only[A,nb _ _ d5,nb _ _ J,KD,Kb,Up,UN,Kd]at this;rcases this with h|⟨I,f⟩
       ·exact absurd h D
       ·refine⟨I,λw w' b6=>Rb.of λa9=>?_⟩
        rcases f with f|f
        ·exact b6.1 (by simpa[ZDl,A]using f) b a9
        ·exact b6.2 (by simpa[ZzO,A]using f) id b b1 a0 a9
      ·exact k.elim
     ·exact k.elim
    ·exact k.elim
 |can p ih =>
  intro n l m d H a w t L g k;cases n<;>cases m<;>simp[ZbB]at g
 |alt i p q d0 d1 =>
  intro n l m d H a w t L g k;cases n with
  |zero=>cases m<;>simp[ZbB]at g
  |succ n =>
   obtain⟨b2,b3⟩:(ZwS ops.toList i λo=>ZBE Γ (ZBM ops.toList) V d H o.op (ZwU Δ Γ ops.toList o d H λe H'=>Zit Δ Γ ops.toList V p false e H' K))/\Zit Δ Γ ops.toList V q true d H K:=by
    cases q with
    |done=>exact⟨by simpa only[Zit]using k,trivial⟩
    |_=>simpa only[Zit]using k
   cases m with
   |none =>
    simp only[ZbB,Up,List.contains_iff_mem]at g;obtain⟨⟨F,g⟩,a6⟩:=g;have I:=N i n l p d H a w t L F g (λd H a w t k=>d0 n _ none d H a w t (L.set F) g k) b2;have f:=d1 (n+1) l (some _) d H a w t L a6 b3;refine⟨λh=>(by rw[h]at F;cases F),λj A=>?_⟩;by_cases D:j=i
    ·subst D;exact I
    ·exact f j (List.mem_filter.2 ⟨A,by simpa using D⟩) A
   |some S =>
    simp only[ZbB,Up]at g;obtain⟨g,a6⟩:=g;have f:=d1 (n+1) l (some _) d H a w t L a6 b3;intro j A F;by_cases D:j=i
    ·subst D
     exact N j n l p d H a w t L F g (λd H a w t k=>d0 n _ none d H a w t (L.set F) g k) b2
    ·exact f j (List.mem_filter.2 ⟨A,by simpa using D⟩) F
def Zz9 (Δ:Tab) (Γ:Gam) (ops:List Oper) (V:List Nat) (p:Zar) (r:List SV) (H:List Entry) (K:List SV->List Entry->Prop):Prop:=match p with
 | .can p=>Zit Δ Γ ops V p false r H λa H'=>Zsg H 0 λn=>canonK n a H' K
 |p=>Zit Δ Γ ops V p false r H K
def Zwx:Zar->Bool
 | .done=>false
 | .op _ p=>Zwx p
 | .ld _ _=>true
 | .alt _ p q=>Zwx p||Zwx q
 | .can p=>Zwx p
def ZqS:Nat->List Entry->(List Nat->Prop)->Prop
 |_,[],K=>K []
 |n,e::r,K=>ZqS (n+1) r λV=>match e with
  | .box _=>K (n::V)
  |_=>K V
def ZAa (i:Nat):List Nat->(List Nat->Prop)->Prop
 |[],K=>K []
 |j::r,K=>ZAa i r λR=>match Nat.beq j i with
  |true=>K R
  |false=>K (j::R)
def Zym:List SV->Nat->List Nat->(List Nat->Prop)->Prop
 |[],_,V,K=>K V
 |s::_,0,V,K=>match s with
  | .ptr i _=>ZAa i V K
  |_=>K V
 |_::r,n+1,V,K=>Zym r n V K
def Zxv (t:Nat):List Oper->Nat
 |[]=>t
 |o::r=>match o.dst,o.op with
  |some d,.move (.tmp t')=>match Nat.beq d t with
   |true=>t'
   |false=>Zxv t r
  |_,_=>Zxv t r
def Zrf (all:List Oper) (s:List SV):List Operand->List Nat->(List Nat->Prop)->Prop
 |[],V,K=>K V
 |x::r,V,K=>match x with
  | .tmp t=>Zym s (Zxv t all) V λV'=>Zrf all s r V' K
  |_=>Zrf all s r V K
def Znv (Γ:Gam) (all:List Oper) (s:List SV):List Oper->List Nat->(List Nat->Prop)->Prop
 |[],V,K=>K V
 |o::r,V,K=>match Zi3 Γ o.op with
  |none=>Znv Γ all s r V K
  |some xs=>Zrf all s xs V λV'=>Znv Γ all s r V' K
theorem ZtD (i:Nat):∀(V:List Nat) {K:List Nat->Prop},ZAa i V K->∃V',K V'/\∀I,ZdR I V'=true->ZdR I V=true
 |[],K,h=>⟨[],h,λI h=>h⟩
 |j::r,K,h=>by
  obtain⟨R,f,E⟩:=ZtD i r h;clear h;split at f
  ·exact⟨R,f,λI h=>by unfold ZdR;rw[E I h,Bool.or_true]⟩
  ·refine⟨j::R,f,λI h=>?_⟩
   unfold ZdR at h ⊢;rcases KD _ _▸h with h|h
   ·rw[h,Bool.true_or]
   ·rw[E I h,Bool.or_true]
theorem ZtE:∀(l:List SV) (n:Nat) (V:List Nat) {K:List Nat->Prop},Zym l n V K->∃V',K V'/\∀I,ZdR I V'=true->ZdR I V=true
 |[],_,V,K,h=>⟨V,h,λI h=>h⟩
 |s::_,0,V,K,h=>by
  unfold Zym at h;split at h
  ·exact ZtD _ V h
  ·exact⟨V,h,λI h=>h⟩
 |_::r,n+1,V,K,h=>ZtE r n V h
theorem Znw (all:List Oper) (s:List SV):∀(xs:List Operand) (V:List Nat) {K:List Nat->Prop},Zrf all s xs V K->∃V',K V'/\∀I,ZdR I V'=true->ZdR I V=true
 |[],V,K,h=>⟨V,h,λI h=>h⟩
 |x::r,V,K,h=>by
  unfold Zrf at h;split at h
  ·obtain⟨V1,d,a1⟩:=ZtE _ _ _ h
   obtain⟨V2,f,a⟩:=Znw all s r V1 d;exact⟨V2,f,λI q=>a1 I (a I q)⟩
  ·exact Znw all s r V h
theorem Zli (Γ:Gam) (all:List Oper) (s:List SV):∀(l:List Oper) (V:List Nat) {K:List Nat->Prop},Znv Γ all s l V K->∃V',K V'/\∀I,ZdR I V'=true->ZdR I V=true
 |[],V,K,h=>⟨V,h,λI h=>h⟩
 |o::r,V,K,h=>by
  unfold Znv at h;split at h
  ·exact Zli Γ all s r V h
  ·obtain⟨V1,d,a1⟩:=Znw _ _ _ _ h
   obtain⟨V2,f,a⟩:=Zli Γ all s r V1 d;exact⟨V2,f,λI q=>a1 I (a I q)⟩
def Zyi (Γ:Gam) (ops:List Oper) (r:List SV) (p:Zar) (H:List Entry) (K:List Nat->Prop):Prop:=match Zwx p with
 |false=>K []
 |true=>ZqS 0 H λV=>Znv Γ ops r ops V K
theorem ZoB:∀(H:List Entry) (n:Nat) {K:List Nat->Prop},ZqS n H K->∃V,K V/\∀I,ZdR I V=true->n<=I/\∃cells,H[I-n]?=some (.box cells)
 |[],n,K,h=>⟨[],h,λI l=>by cases l⟩
 |e::r,n,K,h=>by
  obtain⟨V,f,v⟩:=ZoB r (n+1) h;clear h;have d:∀I,ZdR I V=true->n<=I/\∃cells,(e::r)[I-n]?=some (.box cells):=by
   intro I l;obtain⟨a1,c,q⟩:=v I l;refine⟨by omega,c,?_⟩;rw[show I-n=(I-(n+1))+1 by omega,U3];exact q
  split at f
  ·rename_i cells
   refine⟨_,f,λI l=>?_⟩;unfold ZdR at l;rcases KD _ _▸l with a|a
   ·have:=Nat.eq_of_beq_eq_true a
    subst this;exact⟨UE _,cells,by rw[Nat.sub_self];rfl⟩
   ·exact d I a
  ·exact⟨_,f,d⟩
variable {p:Zar}
theorem Zyj {ops:List Oper} {K:List Nat->Prop} (h:Zyi Γ ops r p H K):∃V,K V/\∀I,ZdR I V=true->∃cells,H[I]?=some (.box cells):=by
 unfold Zyi at h;split at h
 ·exact⟨[],h,λI l=>by cases l⟩
 ·obtain⟨V,h,v⟩:=ZoB H 0 h
  obtain⟨V',b,a⟩:=Zli Γ ops r ops V h;exact⟨V',b,λI l=>(v I (a I l)).2⟩
theorem Conc.drew {a:Act} (h:Conc B r H a w):Conc B r H a {w with drawn:=w.drawn+1}:=by
 obtain⟨E,d,m,L,f⟩:=h;subst d;have c:E.le ⟨E.S,{E.w with drawn:=E.w.drawn+1},E.ids⟩:=⟨λb h=>h,λb h=>rfl,λi v h=>h⟩
 refine⟨⟨E.S,{E.w with drawn:=E.w.drawn+1},E.ids⟩,rfl,?_,ZO c _ _ L,f⟩
 exact⟨⟨m.keeps.os,m.keeps.tape,m.keeps.output,m.keeps.size,m.keeps.block⟩,m.Slt,m.Sold,m.len,m.pin,λi e l=>ZdW c i e (λ_ _ _ _ _=>rfl) (m.ent i e l),m.free,m.sep⟩
theorem ZoE.drew {a:Act} (h:ZoE B V Bk r H a w):ZoE B V Bk r H a {w with drawn:=w.drawn+1}:=by
 obtain⟨E,d,g,m,L,f⟩:=h;subst g;have c:E.le ⟨E.S,{E.w with drawn:=E.w.drawn+1},E.ids⟩:=⟨λb h=>h,λb h=>rfl,λi v h=>h⟩
 refine⟨⟨E.S,{E.w with drawn:=E.w.drawn+1},E.ids⟩,d,rfl,?_,ZO c _ _ L,f⟩
 exact⟨⟨m.keeps.os,m.keeps.tape,m.keeps.output,m.keeps.size,m.keeps.block⟩,m.Slt,m.Sold,m.len,m.pin,λi e l=>ZdW c i e (λ_ _ _ _ _=>rfl) (m.ent i e l),m.free,m.sep⟩
theorem VOk.ex (V:List Nat) (m:Inv B E H) (h:∀I,ZdR I V=true->∃cells,H[I]?=some (.box cells)):∃Bk,VOk V Bk E:=by
 refine ⟨λI=>match E.ids[I]? with
  |some (.pointer (some ⟨b,_,_⟩))=>some b
  | _=>none,λI l=>?_⟩
 obtain⟨cells,q⟩:=h I l;obtain⟨b,_,_,d,_⟩:=m.ent I _ q;exact⟨b,by simp only[d],d⟩
theorem Zyk {Δ:Tab} (hΔ:Δ.ok P) (hΓ:Γ.ok P) {id:Nat} (W:P.follows .mixedOrders=true) {M:List Nat} (D:Zj5 ops.toList []=M) (Y:ZkT ops=true)
  (J:ZbB Γ ops M p.core ops.size (Array.replicate ops.size false) none=true) {s:List SV} {a:Act} (F:Conc B s H a w)
  {K0:List SV->List Entry->Prop} (x:Zyi Γ ops.toList s p.core H λV=>Zz9 Δ Γ ops.toList V p s H K0)
  (g:∀r H' A w',K0 r H'->Conc B r H' A w'->Q .normal A w'):(Code.region id ops true).wp P Q a w:=by
 obtain⟨V,x,o⟩:=Zyj x;have n:∀(i:Nat) (v:Value),B.pin[i]?=some v->i<H.length:=λi v S=>by
  obtain⟨E,_,d,_⟩:=F;have:=(Ub.1 (d.pin i v S)).1;rw[d.len]at this;exact this
 obtain⟨K,I,X⟩:∃K:List SV->List Entry->Prop,Zit Δ Γ ops.toList V p.core false s H K/\∀r H' A w',K r H'->Conc B r H' A w'->Q .normal A w':=by
  unfold Zz9 at x;split at x
  ·refine⟨_,x,λr H' A w' h t=>?_⟩
   rw[Zb7,Uw]at h;obtain⟨R,H2,k,y⟩:=ZvJ n h t;exact g _ _ _ _ k y
  ·rename_i C
   have u:p.core=p:=by
    cases p with
    |can q=>exact absurd rfl (C q)
    |_=>rfl
   rw[u];exact⟨K0,x,g⟩
 generalize p.core=p at J I;have U:∃Bk,ZoE B V Bk s H a w:=by
  obtain⟨E,Z,d,O,f⟩:=F;obtain⟨Bk,N⟩:=VOk.ex V d o;exact⟨Bk,E,N,Z,d,O,f⟩
 obtain⟨Bk,U⟩:=U;refine Code.wp_mono (Q:=λe a w=>e=.normal/\Q e a w) (λe a w h=>h.2) ?_;refine wp_region_any W (ZpL (G:=Leaves Γ ops V Bk) _ _ _ _ ?_);have l:∀i j,Zcm M i j=true->Behind ops i j:=by
  intro i j h;unfold Zcm at h;cases b:M[j]? with
  |none=>simp[b]at h
  |some m =>
   rw[<-D] at b;exact Zpu ops.toList [] (by simp) (by simp) j m b i (by
    rw[D] at b;simpa[b] using h)
 refine Zyh l hΔ hΓ (Q:=λe a w=>e=.normal/\Q e a w) (λc a w h=>by cases h.1) Y (λr H' A w' L k=>⟨rfl,X r H' A w' L k.ZF0⟩) p ops.size _ none s H a _ U.drew ?_ J I;intro j oj e b T;have z:j<ops.size:=(U1.1 b).1;simp[z]at T
end
def writes:Code->List Nat
 | .region _ ops _=>ops.toList.filterMap (·.dst)
 | .seq a b=>writes a++writes b
 | .cond _ a b=>writes a++writes b
 | .block _ c=>writes c
 | .loop c=>writes c
 | .scope c=>writes c
 |_=>[]
def Zw1:List Oper->Bool
 |[]=>false
 |o::r=>match o.op,o.guard with
  | .panic _,none=>true
  |_,_=>Zw1 r
structure Ann where
 loops:List (Nat×List Loc):=[]
 draws:List (Nat×List Nat×Zar):=[]
def ZyB:List (Nat×List Loc)->Nat->(List Loc->Prop)->Prop
 |[],_,_=>False
 |(n,l)::r,I,K=>if n=I then K l else ZyB r I K
def ZtI:List Nat->(List Nat->Bool)->Bool
 |[],k=>k []
 |x::r,k=>ZtI r λl=>k (x::l)
theorem Zrj:∀(l:List Nat) (k:List Nat->Bool),ZtI l k=k l
 |[],_=>rfl
 |x::r,k=>by unfold ZtI;exact Zrj r _
def ZAy (Γ:Gam) (ops:Array Oper) (M:List Nat) (p:Zar):Bool:=match M with
 |[]=>ZtI (Zj5 ops.toList []) λM=>ZbB Γ ops M p.core ops.size (Array.replicate ops.size false) none
 |_=>Zj5 ops.toList []==M&&ZbB Γ ops M p.core ops.size (Array.replicate ops.size false) none
variable {Γ:Gam}
theorem ZyQ {ops:Array Oper} {M:List Nat} {p:Zar} (h:ZAy Γ ops M p=true):ZbB Γ ops (Zj5 ops.toList []) p.core ops.size (Array.replicate ops.size false) none=true:=by
 unfold ZAy at h;split at h
 ·rwa [Zrj]at h
 ·rw[Up,Kb]at h
  rw[h.1];exact h.2
def ZyC:List (Nat×List Nat×Zar)->Nat->(List Nat->Zar->Prop)->Prop
 |[],_,_=>False
 |(n,M,l)::r,I,K=>if n=I then K M l else ZyC r I K
theorem ZtV:∀(A:List (Nat×List Nat×Zar)) {I:Nat} {K:List Nat->Zar->Prop},ZyC A I K->∃M l,K M l
 |[],_,_,h=>h.elim
 |(n,M,l)::r,I,K,h=>by
  unfold ZyC at h;split at h
  ·exact⟨M,l,h⟩
  ·exact ZtV r h
theorem ZtU:∀(A:List (Nat×List Loc)) {I:Nat} {K:List Loc->Prop},ZyB A I K->∃l,K l
 |[],_,_,h=>h.elim
 |(n,l)::r,I,K,h=>by
  unfold ZyB at h;split at h
  ·exact⟨l,h⟩
  ·exact ZtU r h
def ZGo:Loc->Bool
 | .cell I _ _=>Nat.ble 1000 I
 | .cello I _ _=>Nat.ble 1000 I
 | .ent I _ _=>Nat.ble 1000 I
 | .splt I _ _=>Nat.ble 1000 I
 |_=>false
def Zzp:List Loc->Bool
 |[]=>false
 |l::r=>match ZGo l with
  |true=>true
  |false=>Zzp r
def ZyN (I:Nat) (r:List SV) (H:List Entry) (K:Nat->Prop):Prop :=
 ZmN r ((I-1000)/100) λs=>match s with
  | .ptr b o=>ZgN H b λC=>match C with
   | .box cs=>ZmN cs (o+(I-1000)%100) λc=>match c with
    | .own i=>K i
    |_=>False
   |_=>False
  |_=>False
def Zxd (r:List SV) (H:List Entry) (K:Loc->Prop) (l:Loc):Prop:=match ZGo l with
 |false=>K l
 |true=>match l with
  | .cell I f t=>ZmN r (I-1000) λs=>match s with
   | .ptr b o=>K (.cell b (o+f) t)
   |_=>False
  | .cello I f e=>ZmN r (I-1000) λs=>match s with
   | .ptr b o=>K (.cello b (o+f) e)
   |_=>False
  | .ent I c e=>ZyN I r H λi=>K (.ent i c e)
  | .splt I c e=>ZyN I r H λi=>K (.splt i c e)
  |_=>False
def ZyV (s:List SV) (H:List Entry):List Loc->(List Loc->Prop)->Prop
 |[],K=>K []
 |l::r,K=>Zxd s H (λL=>ZyV s H r λR=>K (L::R)) l
def ZFX (ls:List Loc) (r:List SV) (H:List Entry) (K:List Loc->Prop):Prop:=match Zzp ls with
 |false=>K ls
 |true=>ZyV r H ls K
theorem ZkK:∀(cs:List SV) {n:Nat} {K:SV->Prop},ZmN cs n K->∃s,K s
 |[],_,_,h=>by simp[ZmN]at h
 |s::r,0,_,h=>⟨s,by simpa[ZmN]using h⟩
 |s::r,n+1,_,h=>ZkK r (by simpa[ZmN]using h)
variable {r:List SV} {H:List Entry}
theorem Zub {I:Nat} {K:Nat->Prop} (h:ZyN I r H K):∃i,K i:=by
 unfold ZyN at h;obtain⟨s,h⟩:=ZkK _ h;split at h
 ·obtain⟨C,_,h⟩:=Y0 H h
  split at h
  ·obtain⟨c,h⟩:=ZkK _ h
   split at h
   ·exact⟨_,h⟩
   ·exact h.elim
  ·exact h.elim
 ·exact h.elim
theorem Zxe {K:Loc->Prop} {l:Loc} (h:Zxd r H K l):∃L,K L:=by
 unfold Zxd at h;split at h
 ·exact⟨_,h⟩
 ·split at h
  ·obtain⟨s,h⟩:=ZkK _ h
   split at h
   ·exact⟨_,h⟩
   ·exact h.elim
  ·obtain⟨s,h⟩:=ZkK _ h
   split at h
   ·exact⟨_,h⟩
   ·exact h.elim
  ·obtain⟨i,h⟩:=Zub h
   exact⟨_,h⟩
  ·obtain⟨i,h⟩:=Zub h
   exact⟨_,h⟩
  ·exact h.elim
theorem Zui {s:List SV} {H:List Entry}:∀(ls:List Loc) {K:List Loc->Prop},ZyV s H ls K->∃L,K L
 |[],_,h=>⟨[],h⟩
 |l::r,K,h=>by
  obtain⟨a,h⟩:=Zxe (K:=λa=>ZyV s H r λR=>K (a::R)) h;obtain⟨R,h⟩:=Zui r h;exact⟨_,h⟩
theorem ZBB {ls:List Loc} {K:List Loc->Prop} (h:ZFX ls r H K):∃L,K L:=by
 unfold ZFX at h;split at h
 ·exact⟨_,h⟩
 ·exact Zui ls h
def sx (Δ:Tab) (Γ:Gam) (A:Ann):Code->Nat->(Exit->List SV->List Entry->Prop)->List SV->List Entry->Prop
 | .skip,_,Q,R,H=>Q .normal R H
 | .label _,_,Q,R,H=>Q .normal R H
 | .ret,_,Q,R,H=>Q .ret R H
 | .exit i,_,Q,R,H=>Q (.exit i) R H
 | .region i ops w,_,Q,R,H=>if Zw1 ops.toList=true then Dead else match w with
  |false=>ZDv Δ Γ ops.toList ops.toList R H (Q .normal)
  |true=>ZyC A.draws i λM p=>(ZkT ops&&ZAy Γ ops M p)=true/\Zyi Γ ops.toList R p.core H λV=>Zz9 Δ Γ ops.toList V p R H (Q .normal)
 | .seq a b,cur,Q,R,H=>sx Δ Γ A a cur (λe r h=>match e with
  | .normal=>sx Δ Γ A b cur Q r h
  | e=>Q e r h) R H
 | .cond c a b,cur,Q,R,H=>JE R c λs=>match s with
  | .blit true=>sx Δ Γ A a cur Q R H
  | .blit false=>sx Δ Γ A b cur Q R H
  | .bool p=>(p=true->sx Δ Γ A a cur Q R H)/\(p=false->sx Δ Γ A b cur Q R H)
  |_=>False
 | .block i c,_,Q,R,H=>sx Δ Γ A c i (λe r h=>match e with
  | .exit f=>if f=i then Q .normal r h else Q (.exit f) r h
  | e=>Q e r h) R H
 | .loop c,cur,Q,R,H=>ZyB A.loops cur λl0=>ZFX l0 R H λls=>ZhC ls R H λv0 H0=>ZiQ ls (writes c) λW=>ZuR W R λd=>ZmS ls H0 λH1=>Zsg H1 0 λn0 =>
   ∃ (I:Zsi ls->Prop) (μ:Zsi ls->Nat),I v0/\∀ v,I v->ZqY ls v d H1 λg Hh=>sx Δ Γ A c cur (λe r h=>match e with
    | .normal=>ZhC ls r h λv' H2=>ZuR W r λr1=>ZmS ls H2 λH3=>Zo4 H3 n0 λH4=>(r1=d/\H4=H1)/\I v'/\μ v'<μ v
    | e=>Q e r h) g Hh
 |_,_,_,_,_=>False
theorem Zjc {p:Nat->Prop} (h:∃n,p n):∃n,p n/\∀m,p m->n<=m:=by
 obtain⟨n,W⟩:=h;induction n using Nat.strongRecOn with
 |_ n i =>
  by_cases t:∃m,m<n/\p m
  ·obtain⟨m,Q,g⟩:=t;exact i m Q g
  ·exact⟨n,W,λm Q=>Nat.le_of_not_lt λl=>t ⟨m,l,Q⟩⟩
variable {P:Program} {n:Nat} {w:World}
theorem ZxQ {c:Code} {Q:Exit->Act->World->Prop} (J:Nat->Act->World->Prop)
  (r:∀n a w,J n a w->c.wp P (Exit.then (λA w'=>∃m,m<n/\J m A w') Q) a w) {a:Act} (h:J n a w):(Code.loop c).wp P Q a w:=by
 classical
 let μ:Act->World->Nat:=λa w=>if h:∃n,J n a w then Classical.choose (Zjc h)else 0
 have hμ:∀a w (h:∃n,J n a w),J (μ a w) a w/\∀m,J m a w->μ a w<=m:=by
  intro a w h;have:μ a w=Classical.choose (Zjc h):=by simp only[μ,dif_pos h]
  rw[this];exact Kj (Zjc h)
 refine wp_loop (λa w=>∃n,J n a w) μ ⟨n,h⟩ (λa w j=>?_);have d:=(hμ a w j).1;refine Code.wp_mono ?_ (r _ a w d);intro e A w' q;cases e with
 |normal =>
  obtain⟨m,b,H⟩:=q;exact⟨⟨m,H⟩,Nat.lt_of_le_of_lt ((hμ A w' ⟨m,H⟩).2 m H) b⟩
 |_=>exact q
theorem ZgW {B:Base} {E:Env}:∀(ls:List Loc) {H:List Entry} (_:Inv B E H) {gs:List Nat} (_:Loose B E H gs) {K:List Entry->Prop} (_:ZmS ls H K),
  ∃H',Inv B E H'/\Loose B E H' gs/\K H'/\Boxed H H'
 |[],H,m,gs,n,K,h=>⟨H,m,n,h,Boxed.refl H⟩
 | .reg _ _::q,H,m,gs,n,K,h=>ZgW q m n h
 | .ent _ _ _::q,H,m,gs,n,K,h=>ZgW q m n h
 | .entm _ _ _::q,H,m,gs,n,K,h=>ZgW q m n h
 | .splt _ _ _::q,H,m,gs,n,K,h=>ZgW q m n h
 | .cell I o t::q,H,m,gs,n,K,h=>by
  simp only[ZmS]at h;obtain⟨e,l,h⟩:=Y0 H h;split at h
  ·rename_i cells
   rw[ZeW,Xu]at h;have A:=m.weaken (cells':=cells.set o .bot) l (λ_ _ _ _ _ L=>Zmo L o);obtain⟨H',d,f,g,i⟩:=ZgW q A (n.Zk1 l) h;exact⟨H',d,f,g,(Boxed.Zk1 l).trans i⟩
  ·exact h.elim
 | .cello I o a::q,H,m,gs,n,K,h=>by
  simp only[ZmS]at h;obtain⟨e,l,h⟩:=Y0 H h;split at h
  ·rename_i cells
   rw[ZeW,Xu]at h;have A:=m.weaken (cells':=cells.set o .bot) l (λ_ _ _ _ _ L=>Zmo L o);obtain⟨H',d,f,g,i⟩:=ZgW q A (n.Zk1 l) h;exact⟨H',d,f,g,(Boxed.Zk1 l).trans i⟩
  ·exact h.elim
theorem ZeU:∀(ls:List Loc) {W:List Nat} {K:List Nat->Prop},ZiQ ls W K->∃W',K W'
 |[],W,K,h=>⟨W,h⟩
 | .reg r _::q,W,K,h=>by obtain⟨W',h⟩:=ZeU q h;exact⟨_,h⟩
 | .cell _ _ _::q,W,K,h=>ZeU q h
 | .cello _ _ _::q,W,K,h=>ZeU q h
 | .ent _ _ _::q,W,K,h=>ZeU q h
 | .entm _ _ _::q,W,K,h=>ZeU q h
 | .splt _ _ _::q,W,K,h=>ZeU q h
theorem Zo3 {P:Program} {Δ:Tab} (hΔ:Δ.ok P) {Γ:Gam} (hΓ:Γ.ok P) (A:Ann) (F:P.follows .mixedOrders=true) {B:Base}:∀(c:Code) (cur:Nat) (Q:Exit->List SV->List Entry->Prop) {b:List SV} {H:List Entry} (_:sx Δ Γ A c cur Q b H)
  {a:Act} {w:World} (_:Conc B b H a w) (R:Exit->Act->World->Prop) (_:∀e k H' O w',Q e k H'->Conc B k H' O w'->R e O w'),c.wp P R a w
 | .skip,_,Q,b,H,h,a,w,q,R,d=>wp_skip (d _ _ _ _ _ h q)
 | .label _,_,Q,b,H,h,a,w,q,R,d=>wp_label (d _ _ _ _ _ h q)
 | .ret,_,Q,b,H,h,a,w,q,R,d=>wp_ret (d _ _ _ _ _ h q)
 | .exit id,_,Q,b,H,h,a,w,q,R,d=>wp_exit (d _ _ _ _ _ h q)
 | .region id ops e8,_,Q,b,H,h,a,w,q,R,d=>by
  simp only[sx]at h;split at h
  ·exact h.no.elim
  split at h
  ·exact wp_region_list (ZwW hΔ hΓ ops ops.toList q h (λk H' O w' l f=>d _ _ _ _ _ l f))
  ·obtain⟨M,p,h⟩:=ZtV _ h
   obtain⟨hb,h⟩:=h;rw[Up]at hb;exact Zyk hΔ hΓ F rfl hb.1 (ZyQ hb.2) q h (λk H' O w' l f=>d _ _ _ _ _ l f)
 | .seq x y,cur,Q,b,H,h,a,w,q,R,d=>by
  simp only[sx]at h;refine wp_seq (Zo3 hΔ hΓ A F x cur _ h q _ ?_);intro e k H' O w' l f;cases e with
  |normal=>exact Zo3 hΔ hΓ A F y cur Q l f R d
  |_=>exact d _ _ _ _ _ l f
 | .cond c x y,cur,Q,b,H,h,a,w,q,R,d=>by
  simp only[sx]at h;obtain⟨E,hw,hI,N,m⟩:=q;obtain⟨s,hs,h⟩:=Yr N h;split at h
  ·simp only[den]at hs
   exact wp_cond_true hs (Zo3 hΔ hΓ A F x cur Q h ⟨E,hw,hI,N,m⟩ R d)
  ·simp only[den]at hs
   exact wp_cond_false hs (Zo3 hΔ hΓ A F y cur Q h ⟨E,hw,hI,N,m⟩ R d)
  ·simp only[den]at hs
   exact wp_cond_split hs (λe=>Zo3 hΔ hΓ A F x cur Q (h.1 e) ⟨E,hw,hI,N,m⟩ R d) (λe=>Zo3 hΔ hΓ A F y cur Q (h.2 e) ⟨E,hw,hI,N,m⟩ R d)
  ·exact h.elim
 | .block id c,cur,Q,b,H,h,a,w,q,R,d=>by
  simp only[sx]at h;refine wp_block (Zo3 hΔ hΓ A F c id _ h q _ ?_);intro e k H' O w' l f;cases e with
  |exit f4 =>
   simp only at l;simp only[Exit.inBlock];split at l
   ·rename_i e;rw[Uc e];exact d _ _ _ _ _ l f
   ·rename_i e;rw[Ue e];exact d _ _ _ _ _ l f
  |_=>exact d _ _ _ _ _ l f
 | .loop c,cur,Q,b,H,h,a,w,q,R,d=>by
  simp only[sx]at h;obtain⟨l0,h⟩:=ZtU A.loops h;obtain⟨ls,h⟩:=ZBB h;obtain⟨E,hw,hI,N,m⟩:=q;obtain⟨E0,H0,v0,g0,e3,e9,b7,b3,h,d6,a7,f2⟩:=Zf8 ls hI N [] (Loose.none _ _ _) h;rw[Um]at a7;obtain⟨W,h⟩:=ZeU ls h;obtain⟨C,a9,h⟩:=Zqo W b _ (ZO b3 _ _ N) h;obtain⟨H1,t,d1,h,V⟩:=ZgW ls b7 a7 h;rw[Zb7,Uw]at h;obtain⟨I,μ,K,o⟩:=h;have b2:=Za0 rfl (λ_ h=>h) (λ_ _ h=>h) V ls v0 g0 d6
  let Q':Zsi ls->Exit->List SV->List Entry->Prop:=λv e r h=>match e with
    | .normal=>ZhC ls r h λv' H2=>ZuR W r λr1=>ZmS ls H2 λH3=>Zo4 H3 H1.length λH4=>(r1=C/\H4=H1)/\I v'/\μ v'<μ v
    |e=>Q e r h
  let J:Nat->Act->World->Prop:=λn a w=>∃v rh Hh,I v/\μ v=n/\Conc B rh Hh a w/\sx Δ Γ A c cur (Q' v) rh Hh
  have a4:J (μ v0) a w:=by
   obtain⟨E',Hh,rh,a3,T,Y,hk⟩:=ZhY ls v0 t a9 g0 b2 d1 (o v0 K);exact⟨v0,rh,Hh,K,rfl,⟨E',by rw[a3,e3,hw],T,Y,m⟩,hk⟩
  have e7:Zdr H1.length C:=by have:=Zab _ _ a9;rwa [t.len]at this
  have a5:∀e∈H1,Zsv H1.length e:=by
   intro e he;obtain⟨i,D⟩:=UA.1 he;have:=Zsu (t.ent i e D)
   rwa [t.len]at this
  refine ZxQ J ?_ a4;rintro n a1 w1 ⟨v,rh,Hh,f1,hμ,d3,e1⟩;subst hμ;refine Zo3 hΔ hΓ A F c cur (Q' v) e1 d3 _ ?_;intro e r' H' O w' l f;cases e with
  |normal =>
   obtain⟨E2,e4,b8,b0,Z⟩:=f;obtain⟨E3,H3,v',g3,e5,f0,b9,b4,l,d7,a8,f3⟩:=Zf8 ls b8 b0 [] (Loose.none _ _ _) l;rw[Um]at a8;obtain⟨r1,d4,l⟩:=Zqo W r' _ (ZO b4 _ _ b0) l;obtain⟨H4,d0,U,l,X⟩:=ZgW ls b9 a8 l;rw[Zic]at l;obtain⟨⟨b6,z⟩,L,a2⟩:=l;have b5:B.pin.length<=H1.length:=by
    rcases KP B.pin.length with h0|h0
    ·omega
    ·have a0:B.pin[B.pin.length-1]?=some (B.pin[B.pin.length-1]'(by omega)):=Ua _
     have:=(Ub.1 (t.pin _ _ a0)).1;rw[t.len]at this;omega
   have a6:=d0.trunc H1.length b5 (by rw[z];exact a5);rw[z] at a6;have b1:=Zbk (n:=H1.length) _ _ (by rw[b6];exact e7) d4;rw[b6] at b1;have d8:=Za0 rfl (λ_ h=>h) (λ_ _ h=>h) X ls v' g3 d7;obtain ⟨p1,p2,p3⟩:=ZcZ ls v0 g0 b2;have d9:Jq B ⟨E3.S,E3.w,E3.ids.take H1.length⟩ H1 _ ls v' g3:=JU (E:=E3) (E':=⟨E3.S,E3.w,E3.ids.take H1.length⟩) (H':=H1) rfl (λ_ h=>h) (λi u D hu=>by
    show(E3.ids.take H1.length)[i]?=some u;rw[UB,Uc D];exact hu) (λi c D a2=>by
     rw[<-z,UB,Uc a2];exact⟨c,D⟩) (λi c D=>by
     rw[<-z,UB]at D;split at D
     ·exact⟨c,D⟩
     ·cases D) ls v' g3 p1 p2 p3 d8
   have d2:Loose B ⟨E3.S,E3.w,E3.ids.take H1.length⟩ H1 g3:=⟨U.nodup,U.free,λg hg j ej vj hj e0 hv hb=>by
    have d5:H4[j]?=some ej:=by
     rw[<-z,UB]at hj;split at hj
     ·exact hj
     ·cases hj
    have e2:E3.ids[j]?=some vj:=by
     have G:(E3.ids.take H1.length)[j]?=some vj:=hv;rw[UB]at G;split at G
     ·exact G
     ·cases G
    exact U.apart g hg j ej vj d5 e0 e2 hb⟩
   obtain⟨E',Hh',e6,a3,T,Y,hk⟩:=ZhY ls v' a6 b1 g3 d9 d2 (o v' L);exact⟨μ v',a2,v',e6,Hh',L,rfl,⟨E',by rw[a3];show E3.w=w';rw[e5,e4],T,Y,Z⟩,hk⟩
  |_=>exact d _ _ _ _ _ l f
 | .rangeFunc _ _ _ _,_,Q,b,H,h,a,w,q,R,d=>by simp only[sx]at h
 | .scope _,_,Q,b,H,h,a,w,q,R,d=>by simp only[sx]at h
 | .goto _,_,Q,b,H,h,a,w,q,R,d=>by simp only[sx]at h
 | .refuse _,_,Q,b,H,h,a,w,q,R,d=>by simp only[sx]at h
def Zse:Nat->List SV->(List SV->Prop)->Prop
 |0,l,K=>K l
 |n+1,l,K=>Zse n (.tup []::l) K
theorem Zoz:∀(n:Nat) (l:List SV) (K:List SV->Prop),Zse n l K=K (List.replicate n (.tup [])++l)
 |0,_,_=>rfl
 |n+1,l,K=>by
  simp only[Zse,Zoz n];congr 1;rw[List.replicate_succ',Un];rfl
def ZyW (Δ:Tab):List ResultVar->List SV->List Entry->(List SV->Prop)->Prop
 |[],_,_,K=>K []
 | .tmp t::r,R,H,K=>ZmN R t λs=>ZyW Δ r R H λS=>K (s::S)
 | .cell a T::r,R,H,K=>ZmN R a λb=>Zc5 Δ T λi=>ZuM i b H λs=>ZyW Δ r R H λS=>K (s::S)
def ZjC:(l:List Sh)->List SV->List Entry->(Ios l->Prop)->Prop
 |[],_,_,K=>K ()
 | .io e::r,S,H,K=>match S with
  | .ptr I 0::S=>ZgN H I λC=>match C with
   | .box cells=>ZhD H I .gone λH0=>closeAll e cells H0 λd H1=>ZjC r S H1 λD=>K (d,D)
   |_=>False
  |_=>False
 | .back e::r,S,H,K=>match S with
  |s::S=>if s.whole=true then closeAll e s.cells H λd H1=>ZjC r S H1 λD=>K (d,D)else False
  |_=>False
 | .dat _::r,S,H,K=>match S with
  |_::S=>ZjC r S H K
  |_=>False
 | .own _::r,S,H,K=>match S with
  |_::S=>ZjC r S H K
  |_=>False
def ZDw (Δ:Tab) (C:Ctr) (res:List ResultVar) (s r:List SV) (H:List Entry) (K:Shs C.rets->Ios C.args->Prop):Prop :=
 ZyW Δ res r H λS=>ZmA C.rets S H λR H1=>ZjC C.args s H1 λi=>K R i
def fnK (Δ:Tab) (Γ:Gam) (A:Ann) (C:Ctr) (fn:Func) (s:Shs C.args) (K:Shs C.rets->Ios C.args->Prop):Prop :=
 match fn.body with
 |none=>False
 |some c=>Zl7 C.args s [] λS H=>Zsg S 0 λn=>Zse (fn.ntmps-n) [] λu=>ZpT S u λr =>
  sx Δ Γ A c 0 (λe a H'=>match e with
   | .normal=>ZDw Δ C fn.results.toList S a H' K
   | .ret=>ZDw Δ C fn.results.toList S a H' K
   | _=>False) r H
def ZAF (s:Array Value):ResultVar->Sem Value
 | .tmp t=>pure (s.getD t undef)
 | .cell a t=>asAddr (s.getD a undef) >>= λp=>loadVar t p
theorem ZqA {P:Program} {Δ:Tab} (hΔ:Δ.ok P) {B:Base} {E:Env} {H:List Entry} (m:Inv B E H) {R:List SV} {b:Array Value} (L:Yf E R b.toList):∀(l:List ResultVar) {K:List SV->Prop} (_:ZyW Δ l R H K),
  ∃S U,(l.mapM (ZAF b)).run P E.w=.ok U E.w/\Yf E S U/\K S
 |[],K,h=>⟨[],[],rfl,trivial,h⟩
 | .tmp t::r,K,h=>by
  simp only[ZyW]at h;obtain⟨s,v,j,q,h,_⟩:=ZbU _ _ L h;obtain⟨S,U,e,f,g⟩:=ZqA hΔ m L r h;have i:b.getD t undef=v:=by
   have:b[t]?=some v:=by simpa using j
   simp[this]
  refine⟨s::S,v::U,?_,⟨q,f⟩,g⟩;rw[List.mapM_cons,Sem.run_bind,ZAF,i,Sem.run_pure,Result.andThen_ok,Sem.run_bind,e];rfl
 | .cell a T::r,K,h=>by
  simp only[ZyW]at h;obtain⟨x,V,j,q,h,_⟩:=ZbU _ _ L h;obtain⟨y,n,h⟩:=Xw Δ hΔ h;obtain⟨u,s,k,o,h⟩:=ZtS m n q h;have k:=k.here;obtain⟨S,U,e,f,g⟩:=ZqA hΔ m L r h;have i:b.getD a undef=V:=by
   have:b[a]?=some V:=by simpa using j
   simp[this]
  have c:∃p,V=.pointer (some p):=by
   cases V with
   |pointer p=>cases p with
    |some p=>exact⟨p,rfl⟩
    |none=>simp[Instr.loadAt,Instr.sureAddr]at k
   |_=>simp[Instr.loadAt,Instr.sureAddr]at k
  obtain⟨p,rfl⟩:=c;have d:(loadVar T p).run P E.w=.ok u E.w:=by simpa[Instr.loadAt,Instr.sureAddr]using k
  refine⟨s::S,u::U,?_,⟨o,f⟩,g⟩;rw[List.mapM_cons,Sem.run_bind,ZAF,i,asAddr,pure_bind,d,Result.andThen_ok,Sem.run_bind,e];rfl
theorem Zu7 (fn:Func) (s:Array Value):results fn s=(fn.results.mapM (ZAF s) >>= λvs=>pure (if h:vs.size=1 then vs[0]else .tuple vs)):=by
 have e:(λx=>match x with
  |ResultVar.tmp t=>pure (s.getD t undef)
  | ResultVar.cell a t=>do loadVar t (<-asAddr (s.getD a undef)):ResultVar->Sem Value)=ZAF s:=by
  funext x;cases x<;>rfl
 rw[<-e];rfl
variable {fn:Func}
theorem Zoe {s:Array Value} {U:List Value} (h:(fn.results.toList.mapM (ZAF s)).run P w=.ok U w) :
  ∃v,(results fn s).run P w=.ok v w/\retv U v:=by
 have H:(fn.results.mapM (ZAF s)).run P w=.ok U.toArray w:=by
  rw[<-Array.toArray_toList (xs:=fn.results),List.mapM_toArray];simp only[Sem.run_map,h,Result.andThen_ok]
 rw[Zu7,Sem.run_bind,H,Result.andThen_ok];unfold retv
 match U with
 |[u]=>exact⟨u,rfl,rfl⟩
 |[]=>exact⟨_,rfl,rfl⟩
 |a::b::r=>exact⟨.tuple (a::b::r).toArray,by simp,rfl⟩
theorem ZiK {B:Base}:∀(l:List Sh) (j:List SV) {E:Env} {H:List Entry} (_:Inv B E H) {vs:List Value} (_:Yf E j vs) (_:∃(S:Nat->Prop) (w:World) (A:Shs l) (F:List Nat),Zc0 S w l A vs F) {gs:List Nat} (_:Loose B E H gs) {K:Ios l->Prop} (_:ZjC l j H K),
  ∃E1 H1 i o,Frz E H E1 H1/\Inv B E1 H1/\Zgo E1.S E1.w l i vs o/\K i/\Loose B E1 H1 (o++gs)
 |[],j,E,H,m,vs,L,hf,gs,n,K,h=>⟨E,H,(),[],Frz.refl E H,m,rfl,h,n⟩
 | .io e::r,j,E,H,m,vs,L,⟨S,w,A,F,v,vr,z,fr,p,_,k,D⟩,gs,n,K,h=>by
  simp only[ZjC]at h;subst p;split at h
  ·rename_i N j
   simp only[Yf]at L;obtain⟨Z,G,h⟩:=Y0 H h;split at h
   ·rename_i cells
    rw[Xu] at h;have y:=L.1;simp only[den] at y;obtain ⟨b,u,y⟩:=y;obtain ⟨Y,C,T,e1,P,Q⟩:=m.ent N _ G;have:=u.symm.trans e1;simp at this;subst this;have W:Frz E H E (H.set N .gone):=Frz.one G rfl u rfl (Env.le.refl E) (λb U=>.inl U);have X:=n.take m G rfl u (f:=[b]) (by simp) (λg O=>by
     simp at O;subst O;rfl)
    obtain⟨E1,H1,d,f,x,q,I,h,t,R,_⟩:=Vl (m.drop N) Q X h;obtain⟨E2,H2,i,o,J,a,c,h,M⟩:=ZiK r j q (ZO x.le _ _ L.2) ⟨S,w,A.2,fr,D⟩ t h;refine⟨E2,H2,(d,i),(b::f)++o,(W.trans x).trans J,a,⟨v,vr,b::f,o,rfl,rfl,⟨b,C,T,f,y,by rw[J.w,x.w];exact P,?_,rfl⟩,c⟩,h,M.perm ?_⟩
    ·exact Yw J.le.S J.le.w e _ _ _ (λg _=>by rw[J.w]) I
    ·simp only[U0,Uq,Un]
     rw[<-Un];refine List.perm_middle.trans (List.Perm.cons b ?_);rw[<-Un];exact UU.append_right gs
   ·exact h.elim
  ·exact h.elim
 | .back e::r,j,E,H,m,vs,L,⟨S,w,A,F,v,vr,z,fr,p,_,k,D⟩,gs,n,K,h=>by
  simp only[ZjC]at h;subst p;split at h
  ·rename_i s j
   simp only[Yf]at L;split at h
   ·rename_i V
    obtain⟨E1,H1,d,f,x,q,I,h,t,R,_⟩:=Vl m (JJ L.1 V) n h;obtain⟨E2,H2,i,o,J,a,c,h,M⟩:=ZiK r j q (ZO x.le _ _ L.2) ⟨S,w,A.2,fr,D⟩ t h;refine⟨E2,H2,(d,i),f++o,x.trans J,a,⟨v,vr,f,o,rfl,rfl,⟨k.1,?_⟩,c⟩,h,M.perm ?_⟩
    ·exact Yw J.le.S J.le.w e _ _ _ (λg _=>by rw[J.w]) I
    ·rw[<-Un]
     exact UU.append_right gs
   ·exact h.elim
  ·exact h.elim
 | .dat _::r,j,E,H,m,vs,L,⟨S,w,A,F,v,vr,z,fr,p,_,k,D⟩,gs,n,K,h=>by
  simp only[ZjC]at h;subst p;split at h
  ·simp only[Yf]at L
   obtain⟨E2,H2,i,o,J,a,c,h,M⟩:=ZiK r _ m L.2 ⟨S,w,A.2,fr,D⟩ n h;exact⟨E2,H2,i,o,J,a,⟨v,vr,rfl,c⟩,h,M⟩
  ·exact h.elim
 | .own _::r,j,E,H,m,vs,L,⟨S,w,A,F,v,vr,z,fr,p,_,k,D⟩,gs,n,K,h=>by
  simp only[ZjC]at h;subst p;split at h
  ·simp only[Yf]at L
   obtain⟨E2,H2,i,o,J,a,c,h,M⟩:=ZiK r _ m L.2 ⟨S,w,A.2,fr,D⟩ n h;exact⟨E2,H2,i,o,J,a,⟨v,vr,rfl,c⟩,h,M⟩
  ·exact h.elim
theorem Zk3 {w:World} {S:Nat->Prop}:∀(l:List Sh) (d:Shs l) (vs:List Value) (p:List Nat),Zc0 S w l d vs p->l.length=vs.length
 |[],_,_,_,h=>by rw[h.1];rfl
 |_::r,d,_,_,⟨v,vr,f,fr,e,_,_,h⟩=>by subst e;simp[Zk3 r d.2 vr fr h]
theorem Inv.more {B:Base} {E:Env} (h:Inv B E H) (j:∀b,B.S b->b<B.w.heap.size/\¬B.io b):Inv B ⟨λb=>E.S b\/B.S b,E.w,E.ids⟩ H/\E.le ⟨λb=>E.S b\/B.S b,E.w,E.ids⟩:=by
 have f:E.le ⟨λb=>E.S b\/B.S b,E.w,E.ids⟩:=⟨λ_ h=>.inl h,λ_ _=>rfl,λ_ _ h=>h⟩;exact ⟨
  {keeps:=h.keeps
   Slt:=λb d=>d.elim (h.Slt b) (λd=>UD (j b d).1 h.keeps.size)
   Sold:=λb d t=>d.elim (λd=>h.Sold b d t) .inl
   len:=h.len,pin:=h.pin
   ent:=λi e l=>ZdW f i e (λ_ _ _ _ _=>rfl) (h.ent i e l)
   free:=λi e v g l m n d=>by
    obtain⟨a,b,c⟩:=h.free i e v g l m n d;refine⟨λq=>q.elim a (λq=>?_),b,c⟩;obtain⟨o,k⟩:=j g q;rcases b with b|b
    ·omega
    ·exact k b
   sep:=h.sep},f⟩
variable {Δ:Tab} {f:FuncId}
theorem Zg (hΔ:Δ.ok P) (hΓ:Γ.ok P) (hm:P.follows .mixedOrders=true) (A:Ann) (hf:P.funcs[f]?=some fn) (G:(fn.name == "runtime.NumGoroutine")=false:=by kernel_rfl) (y:fn.body.isNone=false:=by kernel_rfl) {C:Ctr}
  (b7:∀(J:Shs C.args) (K:Shs C.rets->Ios C.args->Prop),C.tr J K->fnK Δ Γ A C fn J K):Za P f C:=by
 refine⟨⟨fn,hf,G,y⟩,?_⟩;intro w S vs J F K t T b4 a hK;have D:=b7 J K hK;unfold fnK at D;split at D
 ·exact D.elim
 ·rename_i c m
  let B0:Base:=⟨w,S,λb=>b∈F,[]⟩
  have a6:Inv B0 ⟨S,w,[]⟩ [] :=
   {keeps:=⟨rfl,rfl,rfl,UE _,λ_ _ _=>rfl⟩
    Slt:=t
    Sold:=λb d _=>.inl d
    len:=rfl
    pin:=λ_ _ h=>h
    ent:=λi e W=>by simp at W
    free:=λi e v g W=>by simp at W
    sep:=λi j ei ej vi vj g W=>by simp at W}
  have a8:Loose B0 ⟨S,w,[]⟩ [] (F++[]):=by
   rw[Um];exact⟨b4,λg V=>⟨(a g V).1,.inr V,(a g V).2⟩,λg _ j e v hj=>by simp at hj⟩
  obtain⟨E1,H1,ss,I,O,H,d0,u,D⟩:=Zjg (E:=⟨S,w,[]⟩) C.args J vs a6 T a8 D;rw[Zb7,Zoz,ZaQ,Uw,Um]at D;have hl:=YG _ _ u
  let B:Base:=⟨w,S,λb=>b∈F,E1.ids⟩
  have hI:Inv B E1 H1 :=
   {keeps:=⟨H.keeps.os,H.keeps.tape,H.keeps.output,H.keeps.size,H.keeps.block⟩
    Slt:=H.Slt,Sold:=H.Sold,len:=H.len,pin:=λ_ _ h=>h,ent:=H.ent,free:=H.free,sep:=H.sep}
  refine calls_of_wp hf m ?_;have x:Yf E1 (ss++List.replicate (fn.ntmps-ss.length) (.tup [])) (vs.toArray++Array.replicate (fn.ntmps-vs.toArray.size) undef).toList:=by
   rw[Array.toList_append,Array.toList_replicate,KI,U6,hl];refine ZaS _ _ u _ _ ?_;have:∀n,Yf E1 (List.replicate n (.tup [])) (List.replicate n undef):=by
    intro n;induction n with
    |zero=>trivial
    |succ n ih=>exact⟨by simp only[den];exact⟨[],rfl,trivial⟩,ih⟩
   exact this _
  rw[<-show E1.w=w from I];refine Zo3 hΔ hΓ A hm c 0 _ D (B:=B) ⟨_,rfl,hI,x,rfl⟩ _ ?_;intro e R H' a' w' q b0;obtain ⟨E2,b8,l,b1,Z⟩:=b0;subst b8;rw[show E1.w=w from I];have L:ZDw Δ C fn.results.toList ss R H' K->bodyPost P fn (λe w'=>∃ v us rs s S' fr o,e=.returned v/\retv us v/\K rs s/\Keeps ⟨w,S,λb=>b∈F,[]⟩ w'/\(∀ b,S b->S' b)/\
    (∀b,S' b->b<w'.heap.size/\(b<w.heap.size->S b\/b∈F))/\Zc0 S' w' C.rets rs us fr/\Zgo S' w' C.args s vs o/\
    (o++fr).Nodup/\∀ g∈o++fr,¬S' g/\g<w'.heap.size/\(w.heap.size<=g\/g∈F)) .ret a' E2.w:=by
   intro q;unfold ZDw at q;have a5:∀b,B.S b->b<B.w.heap.size/\¬B.io b:=λb d=>⟨t b d,λk=>(a b k).1 d⟩;obtain⟨M,Y⟩:=l.more a5;obtain⟨b9,us,a4,b2,q⟩:=ZqA hΔ M (ZO Y _ _ b1) _ q;have X:E1.le ⟨λb=>E2.S b\/B.S b,E2.w,E2.ids⟩:=by
    refine⟨λb d=>.inr (by rw[O]at d;exact d),λb d=>?_,λi v hv=>l.pin i v hv⟩;have U:S b:=by rw[O]at d;exact d
    rw[I];exact l.keeps.block b (t b U) (λk=>(a b k).1 U)
   have b6:=ZO X _ _ u;obtain⟨E4,H4,rs,fr,z,a7,b5,q,a9,_⟩:=Zi5 C.rets b9 M b2 (Loose.none _ _ _) q;obtain⟨E5,H5,s,o,p,N,k,q,r⟩:=ZiK C.args ss a7 (ZO z.le _ _ b6) ⟨S,w,J,F,T⟩ a9 q;rw[Um]at r;obtain⟨v,hv,a0⟩:=Zoe a4;have Q:E5.w=E2.w:=by rw[p.w,z.w]
   refine bodyPost_ret hv Z ⟨v,us,rs,s,E5.S,fr,o,rfl,a0,q,?_,λb d=>p.le.S b (z.le.S b (.inr d)),?_,?_,?_,r.nodup,?_⟩
   ·have:=l.keeps
    exact⟨this.os,this.tape,this.output,this.size,this.block⟩
   ·intro b d
    exact⟨by rw[<-Q];exact N.Slt b d,λb3=>N.Sold b d b3⟩
   ·show Zc0 E5.S E2.w C.rets rs us fr
    rw[<-Q];exact ZrX p.le _ _ _ _ (λg _=>by rw[p.w]) b5
   ·show Zgo E5.S E2.w C.args s vs o
    rw[<-Q];exact k
   ·intro g V
    obtain⟨a1,a2,a3⟩:=r.free g V;exact⟨a1,by rw[<-Q];exact a3,a2⟩
  cases e with
  |normal=>exact L q
  |ret=>exact L q
  |_=>exact q.elim
def ZEW (Δ:Tab) (Γ:Gam) (A:Ann) (fn:Func) (b:List SV) (H:List Entry) (K:SV->List Entry->Prop):Prop :=
 match fn.body with
 |none=>False
 |some c=>Zsg b 0 λn=>Zse (fn.ntmps-n) [] λu=>ZpT b u λr =>
  sx Δ Γ A c 0 (λe a H'=>match e with
   | .normal=>ZyW Δ fn.results.toList a H' λS=>ZrF S λs=>K s H'
   | .ret=>ZyW Δ fn.results.toList a H' λS=>ZrF S λs=>K s H'
   | _=>False) r H
def ZEV (Δ:Tab) (Γ:Gam) (A:Ann) (fn:Func):Cal:=⟨ZEW Δ Γ A fn,false,none⟩
theorem Zzx (hΔ:Δ.ok P) (hΓ:Γ.ok P) (hm:P.follows .mixedOrders=true) (A:Ann) (hf:P.funcs[f]?=some fn) (F:(fn.name == "runtime.NumGoroutine")=false) (y:fn.body.isNone=false):Zvs P f (ZEV Δ Γ A fn):=by
 refine⟨⟨fn,hf,F,y⟩,?_⟩;intro B E H k ss vs hd K C;have C:ZEW Δ Γ A fn ss H K:=C;unfold ZEW at C;split at C
 ·exact C.elim
 ·rename_i c p
  rw[Zb7,Zoz,ZaQ,Uw,Um]at C;have I:=YG _ _ hd
  let B1:Base:=⟨E.w,E.S,λb=>¬E.S b/\(B.w.heap.size<=b\/B.io b),E.ids⟩
  have T:Inv B1 E H :=
   {keeps:=⟨rfl,rfl,rfl,UE _,λ_ _ _=>rfl⟩
    Slt:=k.Slt,Sold:=λb j _=>.inl j,len:=k.len,pin:=λ_ _ h=>h,ent:=k.ent
    free:=λi e v g X I t j=>by
     obtain⟨a,b,c⟩:=k.free i e v g X I t j;exact⟨a,.inr ⟨a,b⟩,c⟩
    sep:=k.sep}
  refine calls_of_wp hf p ?_;have z:Yf E (ss++List.replicate (fn.ntmps-ss.length) (.tup [])) (vs.toArray++Array.replicate (fn.ntmps-vs.toArray.size) undef).toList:=by
   rw[Array.toList_append,Array.toList_replicate,KI,U6,I];refine ZaS _ _ hd _ _ ?_;have:∀n,Yf E (List.replicate n (.tup [])) (List.replicate n undef):=by
    intro n;induction n with
    |zero=>trivial
    |succ n ih=>exact⟨by simp only[den];exact⟨[],rfl,trivial⟩,ih⟩
   exact this _
  refine Zo3 hΔ hΓ A hm c 0 _ C (B:=B1) ⟨_,rfl,T,z,rfl⟩ _ ?_;intro e R H' a' w' r U;obtain⟨E2,a1,d,V,Z⟩:=U;subst a1;have Q:∀b,B1.S b->b<B1.w.heap.size/\¬B1.io b:=λb j=>⟨k.Slt b j,λq=>q.1 j⟩;obtain⟨x,L⟩:=d.more Q;have l:∀b,b<E.w.heap.size->¬(¬E.S b/\(B.w.heap.size<=b\/B.io b))->E2.w.heap[b]?=E.w.heap[b]?:=λb h1 u=>d.keeps.block b h1 u;have a0:E.w.heap.size<=E2.w.heap.size:=d.keeps.size;have o:=k.keeps.size;have G:Inv B ⟨λb=>E2.S b\/B1.S b,E2.w,E2.ids⟩ H' :=
   {keeps:=⟨d.keeps.os.trans k.keeps.os,d.keeps.tape.trans k.keeps.tape,d.keeps.output.trans k.keeps.output,Kg o a0,λb j q =>
     (l b (UD j o) (λh=>by
      rcases h.2 with u|u
      ·omega
      ·exact q u)).trans (k.keeps.block b j q)⟩
    Slt:=x.Slt
    Sold:=λb j D=>by
     rcases j with j|j
     ·rcases d.Sold b j (UD D o)with h|h
      ·exact k.Sold b h D
      ·rcases h.2 with u|u
       ·omega
       ·exact .inr u
     ·exact k.Sold b j D
    len:=d.len
    pin:=λi v t=>d.pin i v (k.pin i v t)
    ent:=x.ent
    free:=λi e v g X I t j=>by
     obtain⟨a,b,c⟩:=x.free i e v g X I t j;refine⟨a,?_,c⟩;rcases b with b|b
     ·exact .inl (Kg o b)
     ·exact b.2
    sep:=d.sep}
  have Y:E.le ⟨λb=>E2.S b\/B1.S b,E2.w,E2.ids⟩:=⟨λb j=>.inr j,λb j=>l b (k.Slt b j) (λh=>h.1 j),λi v t=>d.pin i v t⟩;have J:(ZyW Δ fn.results.toList R H' λO=>ZrF O λs=>K s H')->bodyPost P fn (λe w'=>∃v E' H' s,e=.returned v/\E'.w=w'/\Inv B E' H'/\E.le E'/\den E' s v/\K s H'/\((ZEV Δ Γ A fn).dat=true->Grow E.w w')/\(∀m,(ZEV Δ Γ A fn).io=some m->∀b,b<E.w.heap.size->(∀v∈pick m vs,Yv v≠some b)->w'.heap[b]?=E.w.heap[b]?)) .ret a' E2.w:=by
   intro r;obtain⟨O,us,N,W,r⟩:=ZqA hΔ G (ZO L _ _ V) _ r;obtain⟨v,t,M⟩:=Zoe N;obtain⟨s,hs,r⟩:=Zt7 W M r;exact bodyPost_ret t Z ⟨v,⟨λb=>E2.S b\/B1.S b,E2.w,E2.ids⟩,H',s,rfl,rfl,G,Y,hs,r,(λh=>by cases h),(λm h=>by cases h)⟩
  cases e with
  |normal=>exact J r
  |ret=>exact J r
  |_=>exact r.elim
def YR {α:Type} (o:Option α) (k:α->Prop):Prop:=∃r,o=some r/\k r
def iterM {σ ρ:Type} (step:σ->Option (σ⊕ρ)):Nat->σ->Option ρ
 |0,_=>none
 |n+1,v=>match step v with
  |none=>none
  |some (.inl v')=>iterM step n v'
  |some (.inr r)=>some r
theorem ZlU {σ ρ:Type} {step:σ->Option (σ⊕ρ)} {r:ρ}:∀{n m:Nat} {v:σ},iterM step n v=some r->n<=m->iterM step m v=some r
 |0,_,_,h,_=>by simp[iterM]at h
 |n+1,0,_,_,Q=>by omega
 |n+1,m+1,v,h,Q=>by
  simp only[iterM]at h ⊢;split at h
  ·cases h
  ·exact ZlU h (by omega)
  ·exact h
variable {σ ρ:Type} {step:σ->Option (σ⊕ρ)} {r:ρ} {v:σ}
theorem ZwD {R:ρ} {m:Nat} (h:iterM step n v=some r) (H:iterM step m v=some R):r=R:=by
 have d:=ZlU h (Nat.le_max_left n m);have f:=ZlU H (Nat.le_max_right n m);rw[d]at f;injection f
noncomputable def Zt {σ ρ:Type} (step:σ->Option (σ⊕ρ)) (v:σ):Option ρ :=
 open Classical in if h:∃r n,iterM step n v=some r then some (Classical.choose h)else none
theorem Zie:Zt step v=some r<->∃n,iterM step n v=some r:=by
 unfold Zt;constructor
 ·intro h
  split at h
  ·rename_i Z
   obtain⟨n,W⟩:=Kj Z;injection h with h;rw[h]at W;exact⟨n,W⟩
  ·cases h
 ·rintro⟨n,W⟩
  have Z:∃r n,iterM step n v=some r:=⟨r,n,W⟩;rw[dif_pos Z];obtain⟨m,Q⟩:=Kj Z;rw[ZwD Q W]
theorem Zsf {σ ρ:Type} (step:σ->Option (σ⊕ρ)) (v:σ):Zt step v=match step v with
  |none=>none
  |some (.inl v')=>Zt step v'
  |some (.inr r)=>some r:=by
 apply Option.ext;intro r;rw[Zie];constructor
 ·rintro⟨n,W⟩
  cases n with
  |zero=>simp[iterM]at W
  |succ n =>
   simp only[iterM]at W;split
   ·rename_i e;rw[e]at W;cases W
   ·rename_i v' e;rw[e]at W;exact Zie.2 ⟨n,W⟩
   ·rename_i R e;rw[e]at W;exact W
 ·intro h
  split at h
  ·cases h
  ·rename_i v' e
   obtain⟨n,W⟩:=Zie.1 h;exact⟨n+1,by simp only[iterM,e];exact W⟩
  ·rename_i R e
   exact⟨1,by simp only[iterM,e];exact h⟩
theorem YW {v':σ} (h:step v=some (.inl v')):Zt step v=Zt step v':=by rw[Zsf,h]
theorem YF (h:step v=some (.inr r)):Zt step v=some r:=by rw[Zsf,h]
theorem Ze5 (I:σ->Prop) (μ:σ->Nat) (Q:ρ->Prop) (k:I v)
  (s:∀v,I v->(∃v',step v=some (.inl v')/\I v'/\μ v'<μ v)\/∃r,step v=some (.inr r)/\Q r):∃r,Zt step v=some r/\Q r:=by
 have:∀n v,I v->μ v<n->∃r,Zt step v=some r/\Q r:=by
  intro n;induction n with
  |zero=>intro v _ h;omega
  |succ n i =>
   intro v m W;rcases s v m with⟨v',e,q,t⟩|⟨r,e,a⟩
   ·obtain⟨r,d,f⟩:=i v' q (by omega)
    exact⟨r,by rw[YW e];exact d,f⟩
   ·exact⟨r,YF e,a⟩
 exact this (μ v+1) v k (by omega)
def atI {α:Type} (l:List α) (i:Int):Option α:=if 0<=i then l[i.toNat]? else none
noncomputable def Zw {α:Type} (p:Prop) (a:Option α):Option α:=open Classical in if p then a else none
section
variable {α β:Type} {A B:Prop} {r:β} {a b:Option β}
variable {q:Prop}
theorem Zsh {_:Decidable q} (h:(if q then a else b)=some r) (m:a=some r->A) (c:b=some r->B):(decide q=true->A)/\(decide q=false->B):=by
 by_cases H:q
 ·rw[Uc H]at h;exact⟨λ_=>m h,λe=>by simp[H]at e⟩
 ·rw[Ue H]at h;exact⟨λe=>by simp[H]at e,λ_=>c h⟩
theorem ZBz {_:Decidable q} (h:(if q then a else b)=some r) (m:a=some r->A) (H:b=some r->B):(decide q=false->B)/\(decide q=true->A):=⟨(Zsh h m H).2,(Zsh h m H).1⟩
variable {p:Bool}
theorem ZxI (h:(if p=true then a else b)=some r) (m:a=some r->A) (H:b=some r->B):(p=true->A)/\(p=false->B):=by
 cases p
 ·exact⟨λe=>(by cases e),λ_=>H h⟩
 ·exact⟨λ_=>m h,λe=>(by cases e)⟩
theorem ZBy (h:(if p=true then a else b)=some r) (m:a=some r->A) (H:b=some r->B):(p=false->B)/\(p=true->A):=⟨(ZxI h m H).2,(ZxI h m H).1⟩
theorem ZCX (h:(p=true->A)/\(p=false->B)):((!p)=false->A)/\((!p)=true->B):=⟨λe=>h.1 (by simpa using e),λe=>h.2 (by simpa using e)⟩
theorem ZxK (h:(p=true->A)/\(p=false->B)):((!p)=true->B)/\((!p)=false->A):=⟨(ZCX h).2,(ZCX h).1⟩
variable {p:Prop}
theorem ZBA (h:Zw p a=some r) (m:p->a=some r->A):p/\A:=by
 unfold Zw at h;split at h
 ·rename_i g;exact⟨g,m g h⟩
 ·cases h
variable {i:Int} {f:α->Option β}
theorem vAt {l:List α} {A:α->Prop} (h:(atI l i).bind f=some r) (m:∀x,0<=i->i<(l.length:Int)->l[i.toNat]?=some x->f x=some r->A x) :
  0<=i/\i<(l.length:Int)/\∀x,l[i.toNat]?=some x->A x:=by
 unfold atI at h;split at h
 ·rename_i k
  cases Z:l[i.toNat]? with
  |none=>rw[Z]at h;cases h
  |some x =>
   rw[Z]at h;have t:=(Ub.1 Z).1;exact⟨k,by omega,λy e=>by injection e with e;subst e;exact m x k (by omega) Z h⟩
 ·cases h
theorem atE {l:List α} (h:(atI l i).bind f=some r):∃x,0<=i/\i<(l.length:Int)/\l[i.toNat]?=some x/\f x=some r:=by
 unfold atI at h;split at h
 ·rename_i k
  cases Z:l[i.toNat]? with
  |none=>rw[Z]at h;cases h
  |some x =>
   rw[Z]at h;have t:=(Ub.1 Z).1;exact⟨x,k,by omega,rfl,h⟩
 ·cases h
theorem guardE (h:Zw p a=some r):p/\a=some r:=by
 unfold Zw at h;split at h
 ·rename_i g;exact⟨g,h⟩
 ·cases h
variable {k:α->Prop}
theorem Ziu {o:Option α} (h:o.bind f=some r) (a:∀x,o=some x->f x=some r->k x):∃x,o=some x/\k x:=by
 cases H:o with
 |none=>rw[H]at h;cases h
 |some x=>rw[H]at h;exact⟨x,rfl,a x H h⟩
theorem Zvi {o:Option α} (h:o.bind f=some r) (H:∀x,o=some x->f x=some r->k x):∀x,o=some x->k x:=by
 intro x Z;rw[Z]at h;exact H x Z h
theorem ZoA {o:Option α} {y:α} {G:α->Prop} (m:o=some y) (k:G y):∀x,o=some x->G x:=by
 intro x Z;rw[m]at Z;injection Z with Z;subst Z;exact k
theorem ZCW {σ ρ:Type} {step:σ->Option (σ⊕ρ)} {v0:σ} {r:ρ} (h:Zt step v0=some r) {P:(σ->Prop)->(σ->Nat)->σ->Prop}
  (b:∀(I:σ->Prop) (μ:σ->Nat) (v:σ) (s:σ⊕ρ),step v=some s->(∀v',s=.inl v'->I v'/\μ v'<μ v)->(∀R,s=.inr R->R=r)->P I μ v) :
  ∃I μ,I v0/\∀v,I v->P I μ v:=by
 obtain⟨n0,H⟩:=Zie.1 h
 let I:σ->Prop:=λv=>∃n,iterM step n v=some r
 classical
 let μ:σ->Nat:=λv=>if h:∃n,iterM step n v=some r then Classical.choose (Zjc h)else 0
 have hμ:∀v (h:∃n,iterM step n v=some r),iterM step (μ v) v=some r/\∀m,iterM step m v=some r->μ v<=m:=by
  intro v h;have:μ v=Classical.choose (Zjc h):=by simp only[μ,dif_pos h]
  rw[this];exact Kj (Zjc h)
 refine⟨I,μ,⟨n0,H⟩,λv a=>?_⟩;have d:=(hμ v a).1;cases Q:μ v with
 |zero=>rw[Q]at d;simp[iterM]at d
 |succ m =>
  rw[Q]at d;simp only[iterM]at d;split at d
  ·cases d
  ·rename_i v' e
   refine b I μ v _ e (λV E=>?_) (λR E=>by cases E);injection E with E;subst E
   exact⟨⟨m,d⟩,by have:=(hμ v' ⟨m,d⟩).2 m d;omega⟩
  ·rename_i R e
   refine b I μ v _ e (λV E=>by cases E) (λc E=>?_);injection E with E;subst E;injection d
end
def D1 (a r:Ty) (f:a.den->Option r.den):Ctr:=⟨[.dat a],[.dat r],λx K=>Zx x λp _=>YR (f p) λr=>K (r,()) ()⟩
def D2 (a b r:Ty) (f:a.den->b.den->Option r.den):Ctr:=⟨[.dat a,.dat b],[.dat r],λx K=>Zx x λp x=>Zx x λq _=>YR (f p q) λr=>K (r,()) ()⟩
def D3 (a b c r:Ty) (f:a.den->b.den->c.den->Option r.den):Ctr:=⟨[.dat a,.dat b,.dat c],[.dat r],λx K=>Zx x λp x=>Zx x λq x=>Zx x λs _=>YR (f p q s) λr=>K (r,()) ()⟩
def D4 (a b c d r:Ty) (f:a.den->b.den->c.den->d.den->Option r.den):Ctr:=⟨[.dat a,.dat b,.dat c,.dat d],[.dat r],λx K=>Zx x λp x=>Zx x λq x=>Zx x λs x=>Zx x λt _=>YR (f p q s t) λr=>K (r,()) ()⟩
variable {B:Prop}
theorem Zz8 (k:B):ZBQ/\B:=⟨trivial,k⟩
variable {α:Type} {G:α->Prop}
theorem ZE9 {v:α} (k:G v):∀x,x=v->G x:=λ_ e=>e▸k
theorem ZAK {o:Option α} (k:∀x,o=some x->G x):∀x,o=some x->G x:=k
theorem ZFa {o:Option α} (k:∃x,o=some x/\G x):∃x,o=some x/\G x:=k
variable {y:α}
theorem Zlh {o:Option α} (m:o=some y) (k:G y):∃x,o=some x/\G x:=⟨y,m,k⟩
variable {i:Int}
theorem ZE7 {l:List α} (k:0<=i/\i<(l.length:Int)/\∀x,l[i.toNat]?=some x->G x):0<=i/\i<(l.length:Int)/\∀x,l[i.toNat]?=some x->G x:=k
theorem Zlc {l:List α} (m:0<=i) (b:i<(l.length:Int)) (Z:l[i.toNat]?=some y) (k:G y):0<=i/\i<(l.length:Int)/\∀x,l[i.toNat]?=some x->G x:=⟨m,b,ZoA Z k⟩
variable {A:Prop} {x y:Bool}
theorem ZE8 {p:Bool} (k:(p=x->A)/\(p=y->B)):(p=x->A)/\(p=y->B):=k
theorem shD {q:Prop} {_:Decidable q} (k:(decide q=x->A)/\(decide q=y->B)):(decide q=x->A)/\(decide q=y->B):=k
theorem ZAM {p:Bool} (k:((!p)=x->A)/\((!p)=y->B)):((!p)=x->A)/\((!p)=y->B):=k
theorem ZAL {l:List α} (k:(l=[]->A)/\B):(l=[]->A)/\B:=k
theorem ZAN {l:List Oper} {n:Nat} {K:Oper->Prop} (k:ZwS l n K/\B):ZwS l n K/\B:=k
variable {P:Prop}
theorem orL {a:α} {Q:Prop} (k:P):(a=a/\P)\/Q:=.inl ⟨rfl,k⟩
theorem Zz5 {x:α} (h:none=some x):P:=by cases h
variable {σ:Type} {P:(σ->Prop)->(σ->Nat)->σ->Prop} {v0:σ}
theorem Zxm (k:∃I μ,I v0/\∀v,I v->P I μ v):∃I μ,I v0/\∀v,I v->P I μ v:=k
variable {ρ:Type} {r:ρ} {G:Prop}
theorem ZxJ {step:σ->Option (σ⊕ρ)} (h:Zt step v0=some r) (k:G)
  (b:∀(I:σ->Prop) (μ:σ->Nat) (v:σ) (s:σ⊕ρ),step v=some s->((∀v',s=.inl v'->I v'/\μ v'<μ v)/\(∀R,s=.inr R->R=r)/\G)->P I μ v) :
  ∃I μ,I v0/\∀v,I v->P I μ v:=ZCW h λI μ v s d f g=>b I μ v s d ⟨f,g,k⟩
theorem pB {β:Type} {o:Option α} {f:α->Option β} {r:β} (h:o.bind f=some r) (k:∀x,o=some x->f x=some r->G):G:=by
 obtain⟨x,d,H⟩:=KH.1 h;exact k x d H
theorem pA {β:Type} {l:List α} {f:α->Option β} {r:β} (h:(atI l i).bind f=some r) (k:∀x,0<=i->i<(l.length:Int)->l[i.toNat]?=some x->f x=some r->G):G:=by
 obtain⟨x,d,H,g,a⟩:=atE h;exact k x d H g a
theorem pG {p:Prop} {a:Option α} {r:α} (h:Zw p a=some r) (k:p->a=some r->G):G:=k (guardE h).1 (guardE h).2
theorem pS {a r:α} (h:some a=some r) (k:a=r->G):G:=k (Option.some.inj h)
theorem pR {P:Prop} {a:ρ} (h:A/\(∀R,(.inr a:σ⊕ρ)=.inr R->R=r)/\G) (k:a=r->G->P):P:=k (h.2.1 _ rfl) h.2.2
noncomputable def ZAD {ρ:Type} (g:Nat->Option ρ):Option ρ :=
 open Classical in if h:∃r n,g n=some r then some (Classical.choose h)else none
theorem Zn9 {g:Nat->Option ρ} (h:ZAD g=some r):∃n,g n=some r:=by
 unfold ZAD at h;split at h
 ·rename_i Z
  obtain⟨n,W⟩:=Kj Z;injection h with h;rw[h]at W;exact⟨n,W⟩
 ·cases h
end Go.Sx
namespace Go.Sx
set_option linter.unusedVariables false
set_option linter.unusedSimpArgs false
open Go.RowKit Go.ChangeShapes Go.WideShapes
mutual
def ZaJ (P:Program):Ty->TypeId->Bool
 | .int k,T=>ZtO k (P.underlying T)
 | .bool,T=>Zqh (P.underlying T)
 | .str,T=>ZtP (P.underlying T)
 | .sl t,T=>match P.underlying T with
  |some (.slice e)=>ZaJ P t e&&P.cellsOf e==t.size&&decide (0<t.size)
  |_=>false
 | .pair a b,T=>match P.underlying T with
  |some (.struct s)=>match s.toList with
   |f::l=>ZaJ P a f.type&&f.offset==0&&P.cellsOf f.type==a.size&&Zij P b l a.size&&P.cellsOf T==a.size+b.size
   |[]=>false
  |_=>false
 |_,_=>false
def Zij (P:Program):Ty->List Field->Nat->Bool
 | .unit,l,_=>l.isEmpty
 | .pair a b,l,o=>match l with
  |f::l=>ZaJ P a f.type&&f.offset==o&&P.cellsOf f.type==a.size&&Zij P b l (o+a.size)
  |[]=>false
 |_,_,_=>false
end
def bnd:(t:Ty)->t.den->Prop
 | .int k,n=>k.min<=n/\n<=k.max
 | .str,s=>(s.length:Int)<=9223372036854775807
 | .sl t,l=>(l.length:Int)<=9223372036854775807/\∀x∈l,bnd t x
 | .pair a b,d=>bnd a d.1/\bnd b d.2
 |_,_=>True
section
variable {H:Type} {enc:TypeId×Value->H} {P:Program} {w:World} {spare:Nat->Bool} {held:Bool}
theorem ZBW (s:ByteArray):(⟨s.data.toList.toArray⟩:ByteArray)=s:=by
 cases s;simp
theorem Zxc {t:Ty} {S:Nat->Prop} {p:Addr} {n:Nat} (W:t.size=n):∀(len:Nat) (s:List (List Value)),s.length=len->
  (∀(i:Nat) (cs:List Value),s[i]?=some cs->cs.length=n/\∃d:t.den,rep S w t d cs/\bnd t d)->
  ∃l:List t.den,l.length=len/\QH (rep S w t) l s.flatten/\∀x∈l,bnd t x:=by
 intro len;induction len with
 |zero =>
  intro s q _;have:s=[]:=UC q;subst this;exact⟨[],rfl,rfl,by simp⟩
 |succ len I =>
  intro s q h;cases s with
  |nil=>simp at q
  |cons cs s =>
   obtain⟨_,d,L,b⟩:=h 0 cs rfl;obtain⟨l,H,f,g⟩:=I s (by simpa using q) (λi c a=>h (i+1) c (by simpa using a));refine⟨d::l,by simp[H],⟨cs,s.flatten,by simp,L,f⟩,?_⟩;intro x Z;rcases Us.1 Z with rfl|Z
   ·exact b
   ·exact g x Z
theorem Znx {n:Nat}:∀(s:List (List Value)) (_:∀cs∈s,cs.length=n) (i j:Nat) (cs:List Value) (_:s[i]?=some cs) (_:j<n),s.flatten[i*n+j]?=cs[j]?
 |[],_,i,j,cs,h,_=>by simp at h
 |c::s,q,0,j,cs,h,b=>by
  simp at h;subst h;have:=q c (by simp);simp[Uy (show j<c.length by omega)]
 |c::s,q,i+1,j,cs,h,b=>by
  have H:=q c (by simp);have:=Znx s (λx Z=>q x (by simp[Z])) i j cs (by simpa using h) b;rw[List.flatten_cons,UY (by rw[H,U4];omega),H,show(i+1)*n+j-n=i*n+j by rw[U4];omega];exact this
theorem Zny {n:Nat}:∀(s:List (List Value)) (_:∀cs∈s,cs.length=n),s.flatten.length=s.length*n
 |[],_=>by simp
 |c::s,q=>by
  have h:=q c (by simp);have:=Zny s (λx Z=>q x (by simp[Z]));simp only[List.flatten_cons,Uh,Uf,this,h,U4];omega
mutual
theorem Znf:∀(ty:Ty) (F:Nat) (T:TypeId) (cs:List Value) (x:DataW H×List MemPlace),ZaJ P ty T=true->DataW.trod enc P w 0 spare held F T cs=some x->
  ∃d:ty.den,rep (λb=>b<w.heap.size) w ty d cs/\bnd ty d
 | .int k,F,T,cs,x,o,h=>by
  simp only[ZaJ]at o;obtain⟨n,q,_,hw⟩:=DataW.trod_int (ZiL o) h;exact⟨n,q,(by simpa[Go.Lit.wf]using hw:k.min<=n/\n<=k.max)⟩
 | .bool,F,T,cs,x,o,h=>by
  simp only[ZaJ]at o;obtain⟨b,q,_⟩:=DataW.trod_bool (ZlR o) h;exact⟨b,q,trivial⟩
 | .str,F,T,cs,x,o,h=>by
  simp only[ZaJ]at o;obtain⟨s,q,_,hs⟩:=DataW.trod_string (ZnU o) h;refine⟨s.data.toList,?_,?_⟩
  ·show cs=[.string ⟨s.data.toList.toArray⟩]
   rw[q,ZBW]
  ·show(s.data.toList.length:Int)<=_
   clear h q;have:s.data.toList.length=s.size:=by cases s;rfl
   unfold maxLen at hs;omega
 | .sl t,F,T,cs,x,o,h=>by
  unfold ZaJ at o;split at o
  ·rename_i e J
   simp only[Up,Kb,Ul]at o;obtain⟨⟨o,Y⟩,G⟩:=o;rcases DataW.trod_slice J h with⟨q,_⟩|⟨a,len,a0,a1,a9,n,rfl,rfl,_,_,b2,N,b0,v,_⟩
   ·refine⟨[],?_,by show((0:Nat):Int)<=9223372036854775807;omega,λx hx=>(by cases hx)⟩
    show rep _ w (.sl t) [] cs;exact⟨none,0,by rw[q];rfl,by simp,λ_=>rfl,.inl rfl⟩
   ·-- the elements' cells
    have Q:∃C:List (List Value),C.length=len/\∀(i:Nat) (c:List Value),C[i]?=some c->w.cells? 0 (a.add (i*t.size)) t.size=some c/\∃d:t.den,rep (λb=>b<w.heap.size) w t d c/\bnd t d:=by
     have:∀m,m<=len->∃C:List (List Value),C.length=m/\∀(i:Nat) (c:List Value),C[i]?=some c->w.cells? 0 (a.add (i*t.size)) t.size=some c/\∃d:t.den,rep (λb=>b<w.heap.size) w t d c/\bnd t d:=by
      intro m;induction m with
      |zero=>intro _;exact⟨[],rfl,by simp⟩
      |succ m ih =>
       intro hm;obtain⟨C,q,I⟩:=ih (by omega);have U:=v m (by omega);rw[Ua (by omega)]at U;obtain⟨c,B,a3⟩:=KH.1 U;rw[Y]at B;obtain⟨d,hd,M⟩:=Znf t n e c _ o a3;refine⟨C++[c],by simp[q],λi c' z=>?_⟩;by_cases b1:i<m
       ·rw[Uy (by omega)]at z
        exact I i c' z
       ·have:i=m:=by
         have:=(Ub.1 z).1;simp[q]at this;omega
        subst this;rw[UY (by omega),q]at z;simp at z;subst z;exact⟨B,d,hd,M⟩
     exact this len (UE _)
    obtain⟨C,O,V⟩:=Q;have r:∀c∈C,c.length=t.size:=by
     intro c B;obtain⟨i,z⟩:=UA.1 B;exact(World.cells?_some (V i c z).1).2.1
    obtain⟨l,hl,hr,M⟩:=Zxc (S:=λb=>b<w.heap.size) (w:=w) (t:=t) (p:=a) rfl len C O (λi c z=>⟨r c (Ud z),(V i c z).2⟩);refine⟨l,?_,by unfold maxLen at N;omega,M⟩;refine⟨some a,a0,by rw[hl],by omega,λe=>(by cases e),?_⟩;cases C with
    |nil =>
     left;simp at O;exact UC (by omega)
    |cons c0 C =>
     right;have K:=(V 0 c0 rfl).1;rw[Nat.zero_mul]at K;have L:a.add 0=a:=by unfold Addr.add;simp
     rw[L]at K;have A:a.spot=none:=by
      have q:=(World.cells?_some K).2.2 0 G;rw[L]at q;have a7:=(World.cells?_some K).2.1;rw[Ua (by omega)]at q;unfold World.cell? at q;split at q
      ·split at q
       ·cases q
       ·rename_i hs;simpa using hs
      ·cases q
     refine⟨a,(c0::C).flatten,rfl,A,World.cells?_block K G,λj u J=>?_,hr⟩;have X:=(Ub.1 J).1;rw[Zny _ r]at X;have R:j/t.size*t.size+j%t.size=j:=by rw[Nat.mul_comm];exact Nat.div_add_mod j t.size
     have hq:j/t.size<(c0::C).length:=by rw[Nat.div_lt_iff_lt_mul G];exact X
     obtain⟨c,B⟩:∃c,(c0::C)[j/t.size]?=some c:=⟨_,Ua hq⟩;have I:=Znx (c0::C) r (j/t.size) (j%t.size) c B (Nat.mod_lt _ G);rw[R,J]at I;have Z:=(World.cells?_some (V _ c B).1).2.2 (j%t.size) (Nat.mod_lt _ G);rw[add_add _ _ _ A,R]at Z;rw[Z];exact I.symm
  ·cases o
 | .pair a b,F,T,cs,x,o,h=>by
  unfold ZaJ at o;split at o
  ·rename_i fs J
   split at o
   ·rename_i f fl D
    simp only[Up,Kb]at o;obtain⟨⟨⟨⟨q,I⟩,Z⟩,h4⟩,h5⟩:=o;obtain⟨xs,n,rfl,_,a8,b3,v⟩:=DataW.trod_struct J h;have Y:fs.size=fl.length+1:=by
     have:=Ka List.length D;simpa using this
    have a5:fs[0]?=some f:=by
     have:=Ka (·[0]?) D;simpa using this
    have U:=v 0 f a5;rw[Ua (by omega),I,Z]at U;obtain⟨d,hd,M⟩:=Znf a n f.type _ _ q U;have E:∀(i:Nat) (g:Field),fl[i]?=some g->∃y,DataW.trod enc P w 0 spare held n g.type ((cs.drop g.offset).take (P.cellsOf g.type))=some y:=by
     intro i g W;have a6:fs[i+1]?=some g:=by
      have:=Ka (·[i+1]?) D;simp only[U3,W,Kh]at this;exact this
     have:=v (i+1) g a6;have z:=(Ub.1 W).1;rw[Ua (by omega)]at this;exact⟨_,this⟩
    obtain⟨d2,a4,a2⟩:=Zsc b n fl a.size cs h4 (by omega) E;refine⟨(d,d2),⟨(cs.drop 0).take a.size,cs.drop a.size,by simp,hd,a4⟩,M,a2⟩
   ·cases o
  ·cases o
 | .unit,_,_,_,_,o,_=>by simp[ZaJ]at o
 | .ptr _,_,_,_,_,o,_=>by simp[ZaJ]at o
 | .fn _ _,_,_,_,_,o,_=>by simp[ZaJ]at o
 | .nptr _,_,_,_,_,o,_=>by simp[ZaJ]at o
 | .mp _ _,_,_,_,_,o,_=>by simp[ZaJ]at o
theorem Zsc:∀(ty:Ty) (n:Nat) (l:List Field) (o:Nat) (cs:List Value),Zij P ty l o=true->cs.length=o+ty.size->
  (∀(i:Nat) (g:Field),l[i]?=some g->∃y,DataW.trod enc P w 0 spare held n g.type ((cs.drop g.offset).take (P.cellsOf g.type))=some y)->
  ∃d:ty.den,rep (λb=>b<w.heap.size) w ty d (cs.drop o)/\bnd ty d
 | .unit,n,l,o,cs,H,q,h=>by
  refine⟨(),?_,trivial⟩;show cs.drop o=[];simp only[Ty.size]at q;exact List.drop_eq_nil_of_le (by omega)
 | .pair a b,n,l,o,cs,H,q,h=>by
  unfold Zij at H;split at H
  ·rename_i f l
   simp only[Up,Kb]at H;obtain⟨⟨⟨j,k⟩,p⟩,r⟩:=H;obtain⟨y,e⟩:=h 0 f rfl;rw[k,p]at e;obtain⟨d,L,s⟩:=Znf a n f.type _ _ j e;obtain⟨D,c,m⟩:=Zsc b n l (o+a.size) cs r (by simp only[Ty.size]at q;omega) (λi g t=>h (i+1) g (by simpa using t));refine⟨(d,D),⟨(cs.drop o).take a.size,cs.drop (o+a.size),?_,L,c⟩,s,m⟩;rw[<-List.drop_drop];exact(Kz _ _).symm
  ·cases H
 | .int _,_,_,_,_,H,_,_=>by simp[Zij]at H
 | .bool,_,_,_,_,H,_,_=>by simp[Zij]at H
 | .str,_,_,_,_,H,_,_=>by simp[Zij]at H
 | .sl _,_,_,_,_,H,_,_=>by simp[Zij]at H
 | .ptr _,_,_,_,_,H,_,_=>by simp[Zij]at H
 | .fn _ _,_,_,_,_,H,_,_=>by simp[Zij]at H
 | .nptr _,_,_,_,_,H,_,_=>by simp[Zij]at H
 | .mp _ _,_,_,_,_,H,_,_=>by simp[Zij]at H
end
variable {p:List MemPlace} {base:Nat}
theorem ZxE {ty:Ty} {T:TypeId} {v:Value} {d:DataW H} (f:ZaJ P ty T=true) (c:Value.okWide P w .any base T v) (h:DataW.Trod enc P w 0 spare held T v d p) :
  ∃x:ty.den,ZBN (λb=>b<w.heap.size) w ty x v/\bnd ty x:=by
 obtain⟨l,h⟩:=h;obtain⟨x,Z,i⟩:=Znf ty l T _ _ f h;refine⟨x,⟨?_,?_,Z⟩,i⟩
 ·intro m
  cases ty with
  |pair a b =>
   unfold ZaJ at f;split at f
   ·rename_i s u
    obtain⟨cs,V,_⟩:=okWide_struct u c;exact⟨cs,V⟩
   ·cases f
  |unit=>simp[ZaJ]at f
  |_=>simp[Ty.agg]at m
 ·intro m
  have g:∀cs,v≠.agg cs:=by
   intro cs e;subst e;cases ty with
   |int k=>simp only[ZaJ]at f;simp[Value.okWide,ZiL f,Cell.okWide,Cell.ok]at c
   |bool=>simp only[ZaJ]at f;simp[Value.okWide,ZlR f,Cell.okWide,Cell.ok]at c
   |str=>simp only[ZaJ]at f;simp[Value.okWide,ZnU f,Cell.okWide,Cell.ok]at c
   |sl t =>
    unfold ZaJ at f;split at f
    ·rename_i e u;simp[Value.okWide,u,Cell.okWide,Cell.ok]at c
    ·cases f
   |pair a b=>simp[Ty.agg]at m
   |unit=>simp[Ty.agg]at m
   |ptr _=>simp[ZaJ]at f
   |fn _ _=>simp[ZaJ]at f
   |nptr _=>simp[ZaJ]at f
   |mp _ _=>simp[ZaJ]at f
  cases v<;>first|rfl|exact absurd rfl (g _)
def Zmn:List Ty->List Sh
 |[]=>[]
 |t::r=>.dat t::Zmn r
def ZDF:(l:List Ty)->Shs (Zmn l)->Prop
 |[],_=>True
 |t::r,d=>bnd t d.1/\ZDF r d.2
def Zlk (P:Program):List Ty->List TypeId->Bool
 |[],[]=>true
 |t::r,T::q=>ZaJ P t T&&Zlk P r q
 |_,_=>false
theorem Zoy {base:Nat}:∀(l:List Ty) (g:List TypeId) (vs:List Value) (s:List (DataW H)) (p:List MemPlace),Zlk P l g=true->
  (∀(j:Nat) t v,g[j]?=some t->vs[j]?=some v->Value.okWide P w .any base t v)->DataW.TrodAll enc P w 0 spare held g vs s p->
  ∃a:Shs (Zmn l),Zc0 (λb=>b<w.heap.size) w (Zmn l) a vs []/\ZDF l a
 |[],[],vs,s,p,_,_,h=>by
  obtain⟨rfl,_,_⟩:=trodAll_nil h;exact⟨(),⟨rfl,rfl⟩,trivial⟩
 |t::r,T::q,vs,s,p,f,c,h=>by
  simp only[Zlk,Up]at f;obtain⟨v,V,d,D,p1,p2,rfl,rfl,rfl,i,k⟩:=trodAll_cons h;obtain⟨x,Z,m⟩:=ZxE f.1 (c 0 T v rfl rfl) i;obtain⟨a,o,e⟩:=Zoy r q V D p2 f.2 (λj t v n u=>c (j+1) t v (by simpa using n) (by simpa using u)) k;exact⟨(x,a),⟨v,V,[],[],rfl,rfl,⟨rfl,Z⟩,o⟩,m,e⟩
 |[],_::_,_,_,_,f,_,_=>by simp[Zlk]at f
 |_::_,[],_,_,_,f,_,_=>by simp[Zlk]at f
theorem Zk8 (q:laidOutB P=true) {W W':World} (c:Below W.heap.size W W'):∀(T:List TypeId) (vs:List Value) (s:List (DataW H)) (p:List MemPlace),(T.all λt=>P.readableRec t&&decide (t<P.types.size))=true->
  DataW.TrodAll enc P W 0 (λ_=>true) true T vs s p->(∀x∈p,x.block<W.heap.size)->DataW.TrodAll enc P W' 0 (λb=>decide (b<W.heap.size)) true T vs s p
 |[],vs,s,p,_,h,_=>by
  obtain⟨rfl,rfl,rfl⟩:=trodAll_nil h;rfl
 |t::T,vs,s,p,E,h,a=>by
  simp only[List.all_cons,Up,Ul]at E;obtain⟨v,V,d,D,p1,p2,rfl,rfl,rfl,e,f⟩:=trodAll_cons h;exact⟨p1,p2,Below.trod q E.1.1 E.1.2 e c (λx Z=>a x (by simp[Z])),Zk8 q c T V D p2 E.2 f (λx Z=>a x (by simp[Z])),rfl⟩
theorem ZwK {f:FuncId} {l:List Ty} {tr:Shs (Zmn l)->(Shs [.dat .bool]->Ios (Zmn l)->Prop)->Prop} (y:Za P f ⟨Zmn l,[.dat .bool],tr⟩)
  (a:∀s:Shs (Zmn l),ZDF l s->tr s (λr _=>r.1=true)) {T:List TypeId} {args:Array Value} {D:List (DataW H)} (A:Zlk P l T=true)
  (d:∀(j:Nat) t v,T[j]?=some t->args[j]?=some v->Value.okWide P w .any base t v) (h:DataW.TrodAll enc P w 0 spare held T args.toList D p) :
  Calls P f args w λe w'=>e=.returned (.bool true)/\Below w.heap.size w w':=by
 obtain⟨s,o,c⟩:=Zoy l T args.toList D p A (λj t v B i=>d j t v B (by simpa using i)) h;have q:=y.2 w (λb=>b<w.heap.size) args.toList s [] (λr _=>r.1=true) (λb h=>h) o KM (by simp) (a s c);have z:args.toList.toArray=args:=by simp
 rw[z]at q;refine q.mono ?_;rintro e w' ⟨v,L,R,I,S',fr,F,rfl,M,E,k,K,N,C,_⟩;obtain⟨u,U,f1,f2,rfl,_,⟨_,G⟩,g⟩:=C;obtain⟨rfl,_⟩:=g;simp only[retv]at M;subst M;refine⟨?_,k.os,k.tape,k.output,k.size,λb c=>k.block b c (by simp)⟩;obtain⟨J,x,m⟩:=G;have i:=x rfl;rw[i]at m;have n:[v]=[.bool R.1]:=m;simp at n;rw[n,E]
end
end Go.Sx
