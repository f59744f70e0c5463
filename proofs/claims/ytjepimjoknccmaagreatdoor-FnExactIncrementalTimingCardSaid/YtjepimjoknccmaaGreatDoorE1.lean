/-
  Maps: made, looked up, written. Keys: numbers, and structs of numbers.
-/
import Derived.Test.YtjepimjoknccmaaGreatDoorE0
import Derived.MapKept
import Derived.Orders
import Derived.KernelRfl
import Derived.ProofKit
import Derived.Below
import Derived.Carry
namespace Go.Sx
set_option linter.unusedVariables false
set_option linter.unusedSimpArgs false
def ZsW:EqD->Nat->Ty->Bool
 | .nil,_,.unit=>true
 | .int k o r,n,.pair (.int k') t=>decide (k=k')&&decide (o=n)&&ZsW r (n+1) t
 | _,_,_=>false
def ZCy (ti:TI) (t:Ty):Bool:=match ti.kind with
 | .int k=>decide (t=.int k)
 | .st=>!ti.eqd.isNil&&decide (ti.eqd.depth<=1000)&&ZsW ti.eqd 0 t
 | _=>false
def keq:(t:Ty)->t.den->t.den->Bool
 | .int _,x,y=>decide (x=y)
 | .pair a b,x,y=>keq a x.1 y.1&&keq b x.2 y.2
 | _,_,_=>true
def Zmh (k v:Ty):List (k.den×v.den)->k.den->Option v.den
 | [],_=>none
 | d::l,x=>if keq k x d.1=true then some d.2 else Zmh k v l x
def Zp8 (k v:Ty):List (k.den×v.den)->k.den->v.den->List (k.den×v.den)
 | [],x,y=>[(x,y)]
 | d::l,x,y=>if keq k x d.1=true then (x,y)::l else d::Zp8 k v l x y
def fnd {k v:Ty}:List (k.den×v.den)->k.den->List MapEntry->Nat->Option (Nat×Value)
 | [],_,_,_=>none
 | d::l,x,es,i=>match es with
  | []=>none
  | e::r=>if keq k x d.1=true then some (i,e.val) else fnd l x r (i+1)
theorem Zuc {k v:Ty} {R:k.den->List Value->Prop} {Q:v.den->List Value->Prop} {ka va:Bool} {x:k.den}:∀ (d:List (k.den×v.den)) (es:List MapEntry) (i:Nat),ZfM R Q ka va d es->
  (fnd d x es i=none/\Zmh k v d x=none)\/∃ j u y e kd,fnd d x es i=some (i+j,u)/\Zmh k v d x=some y/\Zlp va u/\Q y u.cells.toList/\es[j]?=some e/\keq k x kd=true/\Zlp ka e.key/\R kd e.key.cells.toList
 | [],es,i,h=>.inl ⟨rfl,rfl⟩
 | d::l,es,i,⟨e,r,e1,f1,r1,f2,r2,rs⟩=>by
  subst e1;by_cases hq:keq k x d.1=true
  ·exact .inr ⟨0,e.val,d.2,e,d.1,by simp[fnd,hq],by simp[Zmh,hq],f2,r2,rfl,hq,f1,r1⟩
  ·rcases Zuc (x:=x) l r (i+1) rs with ⟨h1,h2⟩ | ⟨j,u,y,e',kd,h1,h2,h3,h4,h5,h6⟩
   ·exact .inl ⟨by simp[fnd,hq,h1],by simp[Zmh,hq,h2]⟩
   ·exact .inr ⟨j+1,u,y,e',kd,by simp only[fnd,hq,Uh,h1];simp;omega,by simp[Zmh,hq,h2],h3,h4,by simpa using h5,h6⟩
theorem ZxO {k v:Ty} {R:k.den->List Value->Prop} {Q:v.den->List Value->Prop} {ka va:Bool} {x:k.den} {y:v.den} {kv vv:Value} {born:Nat} (hk:Zlp ka kv) (hR:R x kv.cells.toList) (hv:Zlp va vv) (hQ:Q y vv.cells.toList) :
  ∀ (d:List (k.den×v.den)) (es:List MapEntry) (i:Nat),ZfM R Q ka va d es->fnd d x es i=none->ZfM R Q ka va (Zp8 k v d x y) (es++[⟨kv,vv,born⟩])
 | [],es,i,h,_=>by
  have:es=[]:=h;subst this;exact ⟨⟨kv,vv,born⟩,[],rfl,hk,hR,hv,hQ,rfl⟩
 | d::l,es,i,⟨e,r,e1,f1,r1,f2,r2,rs⟩,hf=>by
  subst e1;by_cases hq:keq k x d.1=true
  ·simp[fnd,hq] at hf
  ·simp only[fnd,Ud hq] at hf
   have:=ZxO (born:=born) hk hR hv hQ l r (i+1) rs hf;simp only[Zp8,Ud hq];exact ⟨e,r++[⟨kv,vv,born⟩],rfl,f1,r1,f2,r2,this⟩
theorem ZxP {k v:Ty} {R:k.den->List Value->Prop} {Q:v.den->List Value->Prop} {ka va:Bool} {x:k.den} {y:v.den} {kv vv:Value} (hk:Zlp ka kv) (hR:R x kv.cells.toList) (hv:Zlp va vv) (hQ:Q y vv.cells.toList) :
  ∀ (d:List (k.den×v.den)) (es:List MapEntry) (i j:Nat) (u:Value),ZfM R Q ka va d es->fnd d x es i=some (i+j,u)->ZfM R Q ka va (Zp8 k v d x y) (es.modify j λe=>{e with key:=kv,val:=vv})
 | [],es,i,j,u,h,hf=>by simp[fnd] at hf
 | d::l,es,i,j,u,⟨e,r,e1,f1,r1,f2,r2,rs⟩,hf=>by
  subst e1;by_cases hq:keq k x d.1=true
  ·simp only[fnd,hq,Uj] at hf
   have:j=0:=by
    injection hf with hf
    injection hf with hf _
    omega
   subst this;simp only[Zp8,hq,Uj,List.modify_zero_cons];exact ⟨_,r,rfl,hk,hR,hv,hQ,rs⟩
  ·simp only[fnd,Ud hq] at hf
   cases j with
   | zero =>
    rcases Zuc (x:=x) l r (i+1) rs with ⟨h1,_⟩ | ⟨j',u',y',e',kd,h1,_⟩
    ·rw[h1] at hf;simp at hf
    ·rw[h1] at hf
     simp at hf;have:=hf.1;omega
   | succ j =>
    have:=ZxP hk hR hv hQ l r (i+1) j u rs (by rw[show i+1+j=i+(j+1) by omega];exact hf);simp only[Zp8,Ud hq,List.modify_succ_cons];exact ⟨e,_,rfl,f1,r1,f2,r2,this⟩
section
variable {P:Program}
open Go.MapKept
theorem V8 {q:EqD} {o:Nat} {t:Ty} (h:ZsW q o t=true):(q=.nil/\t=.unit)\/∃ k r t',q=.int k o r/\t=.pair (.int k) t'/\ZsW r (o+1) t'=true:=by
 unfold ZsW at h;split at h
 ·exact .inl ⟨rfl,rfl⟩
 ·simp only[Ur,Uk] at h
  obtain ⟨⟨rfl,rfl⟩,h⟩:=h;exact .inr ⟨_,_,_,rfl,rfl,h⟩
 ·cases h
theorem ZAC {S:Nat->Prop} {w:World}:∀ (q:EqD) (o:Nat) (t:Ty),ZsW q o t=true->∀ (x y:t.den) (vs us:List Value),rep S w t x vs->rep S w t y us->keq t x y=true->vs=us/\∀ u∈vs,∃ k n,u=.int k n:=by
 intro q;induction q with
 | nil =>
  intro o t h x y vs us h1 h2 _;rcases V8 h with ⟨_,rfl⟩ | ⟨_,_,_,e,_⟩
  ·have h1:vs=[]:=h1
   have h2:us=[]:=h2;rw[h1,h2];simp
  ·cases e
 | int k o' r ih =>
  intro o t h x y vs us h1 h2 hq;rcases V8 h with ⟨e,_⟩ | ⟨k',r',t',e,rfl,hr⟩
  ·cases e
  ·injection e with e1 e2 e3
   subst e1;subst e2;subst e3;obtain ⟨v1,v2,e1,h1,h2'⟩:=h1;obtain ⟨u1,u2,e2,h3,h4⟩:=h2;simp only[keq,Ur,Uk] at hq;obtain ⟨a,b⟩:=ih _ t' hr x.2 y.2 v2 u2 h2' h4 hq.2;have h1:v1=[.int k x.1]:=h1;have h3:u1=[.int k y.1]:=h3;subst h1;subst h3;subst e1;subst e2;subst a;rw[hq.1];refine ⟨rfl,λu hu=>?_⟩;simp only[U0,Us,UT] at hu;rcases hu with rfl | hu
   ·exact ⟨_,_,rfl⟩
   ·exact b u hu
 | bool o' r ih=>intro o t h;rcases V8 h with ⟨e,_⟩ | ⟨_,_,_,e,_⟩<;>cases e
 | str o' r ih=>intro o t h;rcases V8 h with ⟨e,_⟩ | ⟨_,_,_,e,_⟩<;>cases e
 | st o' sz fs r ih1 ih2=>intro o t h;rcases V8 h with ⟨e,_⟩ | ⟨_,_,_,e,_⟩<;>cases e
theorem ZvL {S:Nat->Prop} {w:World} {n:Nat}:∀ (q:EqD) (o:Nat) (t:Ty) (fl:List Field),ZsW q o t=true->q.fits P fl=true->∀ (x y:t.den) (p1 p2 vs us:List Value),p1.length=o->p2.length=o->rep S w t x vs->rep S w t y us->∀ w',
  (Op.eqFields (n+1) (p1++vs).toArray (p2++us).toArray fl).run P w'=.ok (keq t x y) w':=by
 intro q;induction q with
 | nil =>
  intro o t fl h hf x y p1 p2 vs us l1 l2 h1 h2 w';rcases V8 h with ⟨_,rfl⟩ | ⟨_,_,_,e,_⟩
  ·simp only[EqD.fits,KX] at hf
   subst hf;rfl
  ·cases e
 | int k o' r ih =>
  intro o t fl h hf x y p1 p2 vs us l1 l2 h1 h2 w';rcases V8 h with ⟨e,_⟩ | ⟨k',r',t',e,rfl,hr⟩
  ·cases e
  ·injection e with e1 e2 e3
   subst e1;subst e2;subst e3;cases fl with
   | nil=>simp[EqD.fits] at hf
   | cons f fl =>
    simp only[EqD.fits,Ur,bne_iff_ne,Kl] at hf;obtain ⟨⟨⟨f1,f2⟩,f3⟩,f4⟩:=hf;obtain ⟨v1,v2,e1,h1,h2'⟩:=h1;obtain ⟨u1,u2,e2,h3,h4⟩:=h2;have h1:v1=[.int k x.1]:=h1;have h3:u1=[.int k y.1]:=h3;subst h1;subst h3;subst e1;subst e2;have hty:=ZlL f3;have ih':=ih _ t' fl hr f4 x.2 y.2 (p1++[.int k x.1]) (p2++[.int k y.1]) v2 u2 (by simp[l1]) (by simp[l2]) h2' h4 w';simp only[Ul] at ih';refine Ze9 f1 (Zfv hty rfl (v:=.int k x.1) ?_ w') (Zfv hty rfl (v:=.int k y.1) ?_ w') (by rw[run_equalIn_int w' n f.type k k x.1 y.1 hty,ZbZ];rfl) ih'
    ·rw[f2,<-l1];simp
    ·rw[f2,<-l2];simp
 | bool o' r ih=>intro o t fl h;rcases V8 h with ⟨e,_⟩ | ⟨_,_,_,e,_⟩<;>cases e
 | str o' r ih=>intro o t fl h;rcases V8 h with ⟨e,_⟩ | ⟨_,_,_,e,_⟩<;>cases e
 | st o' sz fs r ih1 ih2=>intro o t fl h;rcases V8 h with ⟨e,_⟩ | ⟨_,_,_,e,_⟩<;>cases e
theorem ZpY {T:TypeId} {k:IntKind} (h:P.underlying T=some (.int k)) (em:Bool) (n:Nat) (k':IntKind) (a:Int) (w:World):(Instr.checkKey em (n+1) T (.int k' a)).run P w=.ok () w:=by
 unfold Instr.checkKey;simp only[Sem.run_bind,run_underlying h,Result.andThen_ok];rfl
theorem ZAD {T:TypeId} {fs:Array Field} (hu:P.underlying T=some (.struct fs)) (em:Bool) {S:Nat->Prop} {w0:World} {q:EqD} {t:Ty} (hq:ZsW q 0 t=true) (hf:q.fits P fs.toList=true) (n:Nat) {x:t.den} {vs:List Value} (hr:rep S w0 t x vs) (w:World) :
  (Instr.checkKey em (n+2) T (.agg vs.toArray)).run P w=.ok () w:=by
 rw[show n+2=(n+1)+1 from rfl,Instr.checkKey];simp only[Sem.run_bind,run_underlying hu,Result.andThen_ok];rw[<-Array.forIn_toList];generalize fs.toList=L at hf;have gen:∀ (q:EqD) (o:Nat) (t:Ty) (L:List Field),ZsW q o t=true->q.fits P L=true->∀ (x:t.den) (pre us:List Value),pre.length=o->pre++us=vs->rep S w0 t x us->
   (forIn L PUnit.unit λf r=>do
    if f.name≠ "_" then do
     let v <-part f.type vs.toArray f.offset
     Instr.checkKey em (n+1) f.type v
     pure (ForInStep.yield PUnit.unit)
    else pure (ForInStep.yield PUnit.unit):Sem PUnit).run P w=.ok () w:=by
  intro q;induction q with
  | nil =>
   intro o t L h hf x pre us _ _ _;rcases V8 h with ⟨_,rfl⟩ | ⟨_,_,_,e,_⟩
   ·simp only[EqD.fits,KX] at hf
    subst hf;simp
   ·cases e
  | int k o' r ih =>
   intro o t L h hf x pre us hl he hr;rcases V8 h with ⟨e,_⟩ | ⟨k',r',t',e,rfl,hr'⟩
   ·cases e
   ·injection e with e1 e2 e3
    subst e1;subst e2;subst e3;cases L with
    | nil=>simp[EqD.fits] at hf
    | cons f L =>
     simp only[EqD.fits,Ur,bne_iff_ne,Kl] at hf;obtain ⟨⟨⟨f1,f2⟩,f3⟩,f4⟩:=hf;obtain ⟨v1,v2,e1,h1,h2'⟩:=hr;have h1:v1=[.int k x.1]:=h1;subst h1;subst e1;have hty:=ZlL f3;have p1:=Zfv (P:=P) hty rfl (cs:=vs.toArray) (o:=f.offset) (v:=.int k x.1) (by rw[f2,<-hl,<-he];simp) w;have p2:=ZpY (P:=P) hty em n k x.1 w;have ih':=ih _ t' L hr' f4 x.2 (pre++[.int k x.1]) v2 (by simp[hl]) (by rw[<-he];simp) h2';simp only[List.forIn_cons,Sem.run_bind,f1,ne_eq,not_false_eq_true,Uj,Result.andThen_ok,p1,p2,Sem.run_pure];exact ih'
  | bool o' r ih=>intro o t L h;rcases V8 h with ⟨e,_⟩ | ⟨_,_,_,e,_⟩<;>cases e
  | str o' r ih=>intro o t L h;rcases V8 h with ⟨e,_⟩ | ⟨_,_,_,e,_⟩<;>cases e
  | st o' sz fs r ih1 ih2=>intro o t L h;rcases V8 h with ⟨e,_⟩ | ⟨_,_,_,e,_⟩<;>cases e
 exact (UM (λr=>Result.andThen r _) (gen q 0 t L hq hf x [] vs rfl rfl hr)).trans rfl
structure Zxz (P:Program) (T:TypeId) (t:Ty):Prop where
 check:∀ (S:Nat->Prop) (w0:World) (x:t.den) (v:Value),Zlp t.agg v->rep S w0 t x v.cells.toList->∀ (em:Bool) (w:World),(Instr.checkKey em 10000 T v).run P w=.ok () w
 find:∀ (S:Nat->Prop) (w0:World) (x:t.den) (v:Value),Zlp t.agg v->rep S w0 t x v.cells.toList->∀ (u:Ty) (Q:u.den->List Value->Prop) (va:Bool) (d:List (t.den×u.den)) (es:List MapEntry),ZfM (rep S w0 t) Q t.agg va d es->∀ (w:World),(Instr.findKey T v es).run P w=.ok (fnd d x es 0) w
 stays:∀ (S:Nat->Prop) (w0:World) (x y:t.den) (v v':Value),Zlp t.agg v->rep S w0 t x v.cells.toList->Zlp t.agg v'->rep S w0 t y v'.cells.toList->keq t x y=true->∀ (w:World),(Instr.keyThatStays v' v).run P w=.ok v w
theorem Zy1 {T:TypeId} {k:IntKind} (h:P.underlying T=some (.int k)):Zxz P T (.int k) where
 check S w0 x v hf hr em w:=by
  have hc:=hf.2 rfl;rw[hc] at hr;have hr:[v]=[.int k x]:=hr;simp at hr;subst hr;exact ZpY h em 9999 k x w
 find S w0 x v hf hr u Q va d es he w:=by
  have hc:=hf.2 rfl;rw[hc] at hr;have hr:[v]=[.int k x]:=hr;simp at hr;subst hr;have gen:∀ (d:List (Int×u.den)) (es:List MapEntry) (i:Nat),ZfM (rep S w0 (.int k)) Q false va d es->Instr.findNow (.int k) (.int k x) es i=some (fnd (k:=.int k) d x es i):=by
   intro d;induction d with
   | nil =>
    intro es i he;have:es=[]:=he;subst this;rfl
   | cons d l ih =>
    rintro es i ⟨e,r,rfl,f1,r1,f2,r2,rs⟩;have hc1:=f1.2 rfl;rw[hc1] at r1;have r1:[e.key]=[.int k d.1]:=r1;simp at r1;by_cases hq:x=d.1
    ·simp[Instr.findNow,r1,Instr.sameNow,fnd,keq,hq]
    ·have hb:(x == d.1)=false:=by rw[ZbZ];simp[hq]
     simp[Instr.findNow,r1,Instr.sameNow,fnd,keq,hq,ih r (i+1) rs,hb]
  have:=gen d es 0 he;unfold Instr.findKey;rw[Sem.run_bind,run_underlying h,Result.andThen_ok,this];rfl
 stays S w0 x y v v' hf hr hf' hr' hq w:=by
  have hc:=hf.2 rfl;rw[hc] at hr;have hr:[v]=[.int k x]:=hr;simp at hr;subst hr;have hc':=hf'.2 rfl;rw[hc'] at hr';have hr':[v']=[.int k y]:=hr';simp at hr';subst hr';simp only[keq,Uk] at hq;subst hq;simp[Instr.keyThatStays,Instr.sameBits]
theorem ZAB {T:TypeId} {ti:TI} (h:Zei P T ti) {t:Ty} (hk:ti.kind=.st) (hn:ti.eqd.isNil=false) (hq:ZsW ti.eqd 0 t=true):Zxz P T t:=by
 have he:=h.eqd;simp only[hn,Bool.false_or] at he;split at he
 ·rename_i fs hT
  simp only[Ur,UP] at he;obtain ⟨⟨e1,e2⟩,e3⟩:=he;have hagg:t.agg=true:=by
   rcases V8 hq with ⟨_,rfl⟩ | ⟨_,_,_,_,rfl,_⟩<;>rfl
  have hfo:P.fieldsOf T=fs:=by simp[Program.fieldsOf,hT]
  have heq:∀ (S:Nat->Prop) (w0:World) (x y:t.den) (vs us:List Value),rep S w0 t x vs->rep S w0 t y us->∀ w,(Op.equal T (.agg vs.toArray) (.agg us.toArray)).run P w=.ok (keq t x y) w:=by
   intro S w0 x y vs us h1 h2 w;show (Op.equalIn (9999+1) T _ _).run P w=_;rw[run_equalIn_struct w 9999 T _ _ (by rw[hfo];exact hT) e1,hfo];exact ZvL (n:=9998) ti.eqd 0 t fs.toList hq e2 x y [] [] vs us rfl rfl h1 h2 w
  have toA:∀ (v:Value),Zlp t.agg v->v=.agg v.cells.toList.toArray:=by
   intro v hf;obtain ⟨cs,rfl⟩:=hf.1 hagg;simp[Value.cells]
  refine ⟨λS w0 x v hf hr em w=>?_,λS w0 x v hf hr u Q va d es hes w=>?_,λS w0 x y v v' hf hr hf' hr' hxy w=>?_⟩
  ·rw[toA v hf]
   exact ZAD hT em hq e2 9998 hr w
  ·rw[toA v hf]
   have gen:∀ (d:List (t.den×u.den)) (es:List MapEntry) (i:Nat),ZfM (rep S w0 t) Q t.agg va d es->(Instr.findAsking T (.agg v.cells.toList.toArray) es i).run P w=.ok (fnd d x es i) w:=by
    intro d;induction d with
    | nil =>
     intro es i he;have:es=[]:=he;subst this;rfl
    | cons d l ih =>
     rintro es i ⟨e,r,rfl,f1,r1,f2,r2,rs⟩;have:=heq S w0 x d.1 _ _ hr r1 w;rw[<-toA e.key f1] at this;simp only[Instr.findAsking,Sem.run_bind,this,Result.andThen_ok,fnd];by_cases hq:keq t x d.1=true
     ·simp[hq]
     ·simp only[hq]
      exact ih r (i+1) rs
   unfold Instr.findKey;rw[Sem.run_bind,run_underlying hT,Result.andThen_ok];cases es with
   | nil =>
    cases d with
    | nil=>rfl
    | cons=>obtain ⟨_,_,e,_⟩:=hes;cases e
   | cons e r=>exact gen d (e::r) 0 hes
  ·obtain ⟨a,b⟩:=ZAC ti.eqd 0 t hq x y _ _ hr hr' hxy
   rw[toA v hf,toA v' hf',<-a];have hs:Instr.sameBits 10000 (.agg v.cells.toList.toArray) (.agg v.cells.toList.toArray)=true:=by
    show Instr.sameBits (9999+1) _ _=true;simp only[Instr.sameBits,beq_self_eq_true,Bool.true_and,KE];intro p hp;obtain ⟨i,hi⟩:=UE.1 hp;rw[List.getElem?_zip_eq_some] at hi;have:p.1=p.2:=by
     have:=hi.1.symm.trans hi.2;simpa using this
    obtain ⟨k,m,hkm⟩:=b p.1 (Ue hi.1);rw[<-this,hkm];simp[Instr.sameBits]
   unfold Instr.keyThatStays;rw[Uc hs];rfl
 ·cases he
theorem ZvK {T:TypeId} {ti:TI} (h:Zei P T ti) {t:Ty} (hk:ZCy ti t=true):Zxz P T t:=by
 unfold ZCy at hk;split at hk
 ·rename_i k hkd
  simp only[Uk] at hk;subst hk;exact Zy1 (h.intOf hkd)
 ·rename_i hkd
  simp only[Ur,UP,Uk] at hk;exact ZAB h hkd hk.1.1 hk.2
 ·cases hk
def SV.isA:SV->Bool
 | .agg _=>true
 | _=>false
theorem ZAw {E:Env} {s:SV} {v:Value} (h:den E s v) (hw:s.whole=true) {b:Bool} (hb:b=s.isA):Zlp b v:=by
 subst hb;constructor
 ·intro ha
  cases s<;>simp[SV.isA] at ha
  simp only[den] at h;obtain ⟨vs,e,_⟩:=h;exact ⟨_,e⟩
 ·intro ha
  have h1:s.one=true:=by cases s<;>simp_all[SV.isA,SV.whole,SV.one]
  exact (ZlX h h1).1
def ZKJ (t:Ty) (cs:List SV) (K:SV->Prop):Prop :=
 if t.agg=true then K (.agg cs) else match cs with
  | c::_=>K c
  | []=>False
theorem ZD4 {E:Env} {t:Ty} {v:Value} (hf:Zlp t.agg v) {cs:List SV} (hd:Yk E cs v.cells.toList) {K:SV->Prop} (hk:ZKJ t cs K):∃ s,den E s v/\K s:=by
 obtain ⟨h1,h2⟩:=hf;unfold ZKJ at hk;split at hk
 ·rename_i ha
  obtain ⟨cs,rfl⟩:=h1 ha;exact ⟨.agg _,by simp only[den];exact ⟨cs.toList,by simp,hd⟩,hk⟩
 ·rename_i ha
  have hv:=h2 (by simpa using ha);split at hk
  ·rename_i c r
   rw[hv] at hd;simp only[Yk] at hd;exact ⟨c,hd.1,hk⟩
  ·exact hk.elim
def ZDm (b:Bool):Value->Bool
 | .agg _=>b
 | _=>!b
theorem ZDn {b:Bool} {v:Value} (h:ZDm b v=true):Zlp b v:=by
 cases b
 ·refine ⟨λh=>(by cases h),λ_=>?_⟩
  cases v<;>first | rfl | (simp[ZDm] at h)
 ·refine ⟨λ_=>?_,λh=>(by cases h)⟩
  cases v<;>first | exact ⟨_,rfl⟩ | (simp[ZDm] at h)
def ZKZ (s:SV) (H:List Entry) (K:(k v:Ty)->List (k.den×v.den)->Prop):Prop :=
 match s with
 | .mp k v d=>K k v d
 | .mown id=>Zi3 H id λe=>match e with
  | .mpe k v d=>K k v d
  | .frm k v d=>K k v d
  | _=>False
 | _=>False
def MapAt (E:Env) (x:Value) (k v:Ty) (d:List (k.den×v.den)):Prop :=
 (d=[]/\x=.map none)\/∃ b es clk,x=.map (some b)/\E.w.heap[b]?=some (.map es clk)/\ZfM (rep E.S E.w k) (rep E.S E.w v) k.agg v.agg d es.toList
theorem ZEq {B:Base} {E:Env} {H:List Entry} (hI:Inv B E H) {s:SV} {x:Value} (hs:den E s x) {K:(k v:Ty)->List (k.den×v.den)->Prop} (hk:ZKZ s H K):∃ k v d,MapAt E x k v d/\K k v d:=by
 have data:∀ (k v:Ty) (d:List (k.den×v.den)),rep E.S E.w (.mp k v) d [x]->MapAt E x k v d:=by
  intro k v d h;rcases h with ⟨h1,h2⟩ | ⟨b,es,clk,h1,_,h2,h3⟩
  ·simp at h2;exact .inl ⟨h1,h2⟩
  ·simp at h1;exact .inr ⟨b,es,clk,h1,h2,h3⟩
 unfold ZKZ at hk;split at hk
 ·rename_i k v d
  simp only[den] at hs;exact ⟨k,v,d,data k v d hs,hk⟩
 ·rename_i id
  obtain ⟨e,he,hk⟩:=Xd H hk;simp only[den] at hs;split at hk
  ·rename_i k v d
   obtain ⟨b,es,clk,h1,h2,h3⟩:=hI.ent id _ he;have:=hs.1.symm.trans h1;simp at this;subst this;exact ⟨k,v,d,.inr ⟨b,es,clk,rfl,h2,h3⟩,hk⟩
  ·rename_i k v d
   obtain ⟨u,h1,h2⟩:=hI.ent id _ he;have:=hs.1.symm.trans h1;simp at this;subst this;exact ⟨k,v,d,data k v d h2,hk⟩
  ·exact hk.elim
 ·exact hk.elim
def Zw0 (Δ:Tab) (ti:TI) (x i:SV) (ok:Bool) (H:List Entry) (K:SV->Prop):Prop :=
 match ti.kind with
 | .mp kt et=>ZdZ Δ kt λtk=>ZdZ Δ et λte=>ZKZ x H λk v d =>
  if i.whole=true/\k.agg=i.isA/\ZCy tk k=true/\ZDm v.agg te.zero=true then X9 k i.cells λkey r1=>match r1 with
   | []=>ZsF te.zero λzc=>X9 v zc λz r2=>match r2 with
    | []=>VD v ((Zmh k v d key).getD z) λcs=>ZKJ v cs λs=>if ok=true then K (.tup [s,.bool (Zmh k v d key).isSome]) else K s
    | _=>False
   | _=>False
  else False
 | _=>False
theorem Zei.map {T:TypeId} {ti:TI} (h:Zei P T ti) {kt et:TypeId} (hk:ti.kind=.mp kt et):P.underlying T=some (.map kt et):=by
 obtain ⟨d,hd,hk'⟩:=h.get;rw[hk] at hk';cases d<;>simp[ZzB] at hk'
 obtain ⟨rfl,rfl⟩:=hk';exact hd
theorem Zq0 {E:Env} {vs:List Value} (h:Yk E [] vs):vs=[]:=by
 cases vs with
 | nil=>rfl
 | cons=>simp[Yk] at h
theorem Zy9 {T kt et:TypeId} (hT:P.underlying T=some (.map kt et)) {k:Ty} (KR:Zxz P kt k) {z:Value} (hz:∀ w,(zeroValue et).run P w=.ok z w) {E:Env} {x:Value} {v:Ty} {d:List (k.den×v.den)} (hm:MapAt E x k v d)
  {i:Value} {key:k.den} (hif:Zlp k.agg i) (hir:rep E.S E.w k key i.cells.toList) (ok:Bool) :
  ∃ es,ZfM (rep E.S E.w k) (rep E.S E.w v) k.agg v.agg d es/\(Instr.lookup T x i ok).run P E.w=.ok (if ok=true then .tuple #[((fnd d key es 0).map (·.2)).getD z,.bool (fnd d key es 0).isSome] else ((fnd d key es 0).map (·.2)).getD z) E.w:=by
 have fin:∀ (es:Array MapEntry),ZfM (rep E.S E.w k) (rep E.S E.w v) k.agg v.agg d es.toList->((do
   Instr.checkKey es.isEmpty 10000 kt i
   let (v,okk) <-match <-Instr.findKey kt i es.toList with
    | some (_,v)=>pure (v,true)
    | none=>pure (<-zeroValue et,false)
   pure (if ok then .tuple #[v,.bool okk] else v):Sem Value)).run P E.w=.ok (if ok=true then .tuple #[((fnd d key es.toList 0).map (·.2)).getD z,.bool (fnd d key es.toList 0).isSome] else ((fnd d key es.toList 0).map (·.2)).getD z) E.w:=by
  intro es he;have h1:=KR.check _ _ key i hif hir es.isEmpty E.w;have h2:=KR.find _ _ key i hif hir v _ _ d es.toList he E.w;simp only[Sem.run_bind,h1,h2,Result.andThen_ok];cases fnd d key es.toList 0 with
  | none=>simp[hz]
  | some p=>simp
 rcases hm with ⟨rfl,rfl⟩ | ⟨b,es,clk,rfl,hb,he⟩
 ·refine ⟨[],rfl,?_⟩
  have:=fin #[] rfl;unfold Instr.lookup;simp only[Sem.run_bind,run_underlying hT,Result.andThen_ok,Sem.run_pure] at this ⊢;exact this
 ·refine ⟨es.toList,he,?_⟩
  have:=fin es he;unfold Instr.lookup;simp only[Sem.run_bind,run_underlying hT,Result.andThen_ok,Sem.run_pure,Go.MapKept.run_getObj_map hb] at this ⊢;exact this
theorem Zy8 {Δ:Tab} (hΔ:Δ.ok P) {B:Base} {E:Env} {H:List Entry} (hI:Inv B E H) {T:TypeId} {ti:TI} (h:Zei P T ti) {x i:SV} {vx vi:Value} (hx:den E x vx) (hi:den E i vi) {ok:Bool} {K:SV->Prop} (hk:Zw0 Δ ti x i ok H K) :
  ∃ u s,(Instr.lookup T vx vi ok).run P E.w=.ok u E.w/\den E s u/\K s:=by
 unfold Zw0 at hk;split at hk
 ·rename_i kt et hkd
  obtain ⟨tk,htk,hk⟩:=XB Δ hΔ hk;obtain ⟨te,hte,hk⟩:=XB Δ hΔ hk;obtain ⟨k,v,d,hm,hk⟩:=ZEq hI hx hk;split at hk
  ·rename_i hc
   obtain ⟨c1,c2,c3,c4⟩:=hc;have hif:=ZAw hi c1 c2;obtain ⟨key,r1,v1,v2,e1,hkr,hr1,hk⟩:=XH k _ _ _ (Zaa hi c1) hk;split at hk
   ·have:=Zq0 hr1
    subst this;rw[Uo] at e1;subst e1;obtain ⟨zc,hzc,hk⟩:=Zib E _ _ hk;obtain ⟨z,r2,z1,z2,e2,hzr,hr2,hk⟩:=XH v _ _ _ hzc hk;split at hk
    ·have:=Zq0 hr2
     subst this;rw[Uo] at e2;subst e2;obtain ⟨inf,hinf,_,_,hz0⟩:=hte.info';have hz:∀ w,(zeroValue et).run P w=.ok te.zero w:=λw=>by simp[zeroValue,typeInfo,hinf,hz0]
     obtain ⟨es,he,hrun⟩:=Zy9 (h.map hkd) (ZvK htk c3) hz hm hif hkr ok;rw[Qm] at hk;have val:∃ u,((fnd d key es 0).map (·.2)).getD te.zero=u/\Zlp v.agg u/\rep E.S E.w v ((Zmh k v d key).getD z) u.cells.toList/\(fnd d key es 0).isSome=(Zmh k v d key).isSome:=by
      rcases Zuc (x:=key) d es 0 he with ⟨h1,h2⟩ | ⟨j,u,y,e,kd,h1,h2,h3,h4,_⟩
      ·exact ⟨te.zero,by rw[h1];rfl,ZDn c4,by rw[h2];exact hzr,by rw[h1,h2];rfl⟩
      ·exact ⟨u,by rw[h1];rfl,h3,by rw[h2];exact h4,by rw[h1,h2];rfl⟩
     obtain ⟨u,hu,hf,hr,hs⟩:=val;rw[hu,hs] at hrun;obtain ⟨s,hs1,hk⟩:=ZD4 hf (XE v _ _ hr) hk;cases ok
     ·simp only[Kf,Uh] at hk hrun
      exact ⟨_,s,hrun,hs1,hk⟩
     ·simp only[Uj] at hk hrun
      refine ⟨_,_,hrun,?_,hk⟩;simp only[den];exact ⟨[u,.bool (Zmh k v d key).isSome],rfl,hs1,by simp only[den],trivial⟩
    ·exact hk.elim
   ·exact hk.elim
  ·exact hk.elim
 ·exact hk.elim
def Zxw (Δ:Tab) (ti:TI) (x i y:SV) (H:List Entry) (K:List Entry->Prop):Prop :=
 match ti.kind,x with
 | .mp kt et,.mown id=>ZdZ Δ kt λtk=>Zi3 H id λe=>match e with
  | .mpe k v d=>if i.whole=true/\k.agg=i.isA/\ZCy tk k=true/\y.whole=true/\v.agg=y.isA then X9 k i.cells λkey r1=>match r1 with
   | []=>X9 v y.cells λval r2=>match r2 with
    | []=>Zkk H id (.mpe k v (Zp8 k v d key val)) K
    | _=>False
   | _=>False
   else False
  | _=>False
 | _,_=>False
theorem grownBy_set {w:World} {b:Nat} {o o':Obj} (hb:w.heap[b]?=some o):w.grownBy {w with heap:=w.heap.setIfInBounds b o'} (some b) :=
 ⟨rfl,rfl,rfl,by simp,λi _ hi=>(Go.MapKept.heap_set hb).2 i (λe=>hi (by rw[e]))⟩
theorem Zzq {Δ:Tab} (hΔ:Δ.ok P) {B:Base} {E:Env} {H:List Entry} (hI:Inv B E H) {T:TypeId} {ti:TI} (h:Zei P T ti) {x i y:SV} {vx vi vy:Value} (hx:den E x vx) (hi:den E i vi) (hy:den E y vy) {K:List Entry->Prop} (hk:Zxw Δ ti x i y H K) :
  ∃ E' H',(Instr.mapUpdate T vx vi vy).run P E.w=.ok () E'.w/\Inv B E' H'/\E.le E'/\K H':=by
 unfold Zxw at hk;split at hk
 ·rename_i kt et id hkd
  obtain ⟨tk,htk,hk⟩:=XB Δ hΔ hk;obtain ⟨e,he,hk⟩:=Xd H hk;split at hk
  ·rename_i k v d
   split at hk
   ·rename_i hc
    obtain ⟨c1,c2,c3,c4,c5⟩:=hc;have hif:=ZAw hi c1 c2;have hyf:=ZAw hy c4 c5;obtain ⟨key,r1,v1,v2,e1,hkr,hr1,hk⟩:=XH k _ _ _ (Zaa hi c1) hk;split at hk
    ·have:=Zq0 hr1
     subst this;rw[Uo] at e1;subst e1;obtain ⟨val,r2,z1,z2,e2,hvr,hr2,hk⟩:=XH v _ _ _ (Zaa hy c4) hk;split at hk
     ·have:=Zq0 hr2
      subst this;rw[Uo] at e2;subst e2;rw[XA] at hk;obtain ⟨b,es,clk,h1,hb,hes⟩:=hI.ent id _ he;simp only[den] at hx;have hid:=hx.1;have:=hx.1.symm.trans h1;simp at this;subst this;have KR:=ZvK htk c3;have hT:=h.map hkd;have k1:=KR.check _ _ key vi hif hkr false E.w;have k2:=KR.find _ _ key vi hif hkr v _ _ d es.toList hes E.w;have fin:∀ (es':Array MapEntry) (clk':Nat),(Instr.mapUpdate T (.map (some b)) vi vy).run P E.w=.ok () {E.w with heap:=E.w.heap.setIfInBounds b (.map es' clk')}->
        ZfM (rep E.S E.w k) (rep E.S E.w v) k.agg v.agg (Zp8 k v d key val) es'.toList->∃ E' H',(Instr.mapUpdate T (.map (some b)) vi vy).run P E.w=.ok () E'.w/\Inv B E' H'/\E.le E'/\K H':=by
       intro es' clk' hrun hes';have hg:=grownBy_set (w:=E.w) (o':=.map es' clk') hb;have hnS:¬E.S b:=(hI.free id _ (.map (some b)) b he rfl hid rfl).1;have hle:=Zfa hg hI.Slt (λg e=>by simp at e;subst e;exact hnS);refine ⟨⟨E.S,_,E.ids⟩,_,hrun,hI.write he rfl hid hg (.mpe k v (Zp8 k v d key val)) ?_,hle,hk⟩;exact ⟨b,es',clk',hid,(Go.MapKept.heap_set hb).1,Zcz (λd vs=>Yz hle.S hle.w k d vs) (λd vs=>Yz hle.S hle.w v d vs) _ _ hes'⟩
      have unf:(Instr.mapUpdate T (.map (some b)) vi vy).run P E.w=(match fnd d key es.toList 0 with
        | some (j,_)=>(do
          let key' <-Instr.keyThatStays ((es[j]?.map MapEntry.key).getD vi) vi
          setObj b (.map (es.modify j λe=>{e with key:=key',val:=vy}) clk):Sem Unit)
        | none=>setObj b (.map (es.push {key:=vi,val:=vy,born:=clk}) (clk+1))).run P E.w:=by
       unfold Instr.mapUpdate;simp only[Sem.run_bind,run_underlying hT,Result.andThen_ok,Go.MapKept.run_getObj_map hb,k1,k2];cases fnd d key es.toList 0 with
       | none=>rfl
       | some p=>rfl
      rcases Zuc (x:=key) d es.toList 0 hes with ⟨f1,f2⟩ | ⟨j,u,y',e',kd,f1,f2,f3,f4,f5,f6,f7,f8⟩
      ·refine fin (es.push ⟨vi,vy,clk⟩) (clk+1) ?_ ?_
       ·rw[unf,f1]
        exact Go.MapKept.run_setObj_map _ hb
       ·rw[Array.toList_push]
        exact ZxO hif hkr hyf hvr d es.toList 0 hes f1
      ·have f5':es[j]?=some e':=by simpa using f5
       refine fin (es.modify j λe=>{e with key:=vi,val:=vy}) clk ?_ ?_
       ·rw[unf,f1]
        have:=KR.stays _ _ key kd vi e'.key hif hkr f7 f8 f6 E.w;simp only[Uw,f5',UY,UJ,Sem.run_bind,this,Result.andThen_ok];exact Go.MapKept.run_setObj_map _ hb
       ·rw[Array.toList_modify]
        exact ZxP hif hkr hyf hvr d es.toList 0 j u hes f1
     ·exact hk.elim
    ·exact hk.elim
   ·exact hk.elim
  ·exact hk.elim
 ·exact hk.elim
def Zuy (ti:TI) (H:List Entry) (K:SV->List Entry->Prop):Prop :=
 match ti.kind with
 | .mp _ _=>ZwX H 0 λn=>Zvb H [.mpe ti.ty ti.ety []] λH'=>K (.mown n) H'
 | _=>False
theorem Zw1 {B:Base} {E:Env} {H:List Entry} (hI:Inv B E H) {T:TypeId} {ti:TI} (h:Zei P T ti) {K:SV->List Entry->Prop} (hk:Zuy ti H K) :
  ∃ u E' H' s,(Instr.makeMap T none).run P E.w=.ok u E'.w/\Inv B E' H'/\E.le E'/\den E' s u/\K s H'/\Grow E.w E'.w:=by
 unfold Zuy at hk;split at hk
 ·rw[ZdA,Zcb,Uw] at hk
  have hle:=ZtZ hI (.map #[] 0) (.map (some E.w.heap.size));have hid:(E.ids++[Value.map (some E.w.heap.size)])[H.length]?=some (.map (some E.w.heap.size)):=by
   rw[<-hI.len];simp
  refine ⟨.map (some E.w.heap.size),⟨E.S,E.w.alloc (.map #[] 0),E.ids++[.map (some E.w.heap.size)]⟩,_,_,?_,hI.alloc (.map #[] 0) _ _ rfl ?_,hle,?_,hk,Zc8 _ _⟩
  ·simp[Instr.makeMap]
  ·exact ⟨_,#[],0,hid,Go.heap_alloc_new _ _,rfl⟩
  ·simp only[den]
   exact ⟨hid,_,rfl⟩
 ·exact hk.elim
end
section
variable {P:Program}
def ZyV (regs:List SV):List Operand->(List SV->Prop)->Prop
 | [],K=>K []
 | x::r,K=>J2 regs x λs=>ZyV regs r λl=>K (s::l)
theorem ZnY {E:Env} {regs:List SV} {a:Act} (hd:Yk E regs a.tmps.toList):∀ (xs:List Operand) {K:List SV->Prop},ZyV regs xs K->∃ l,Yk E l (xs.map a.eval)/\K l
 | [],K,h=>⟨[],trivial,h⟩
 | x::r,K,h=>by
  obtain ⟨s,hs,h⟩:=YC hd h;obtain ⟨l,hl,h⟩:=ZnY hd r h;exact ⟨s::l,⟨hs,hl⟩,h⟩
def SV.ZEi:SV->Bool
 | .ptr _ _=>true
 | .oep _ _ _ _=>true
 | .fptr _=>true
 | .fn _ _=>true
 | _=>false
theorem Zw7 {E:Env} {s:SV} {v:Value} (h:den E s v) (hp:s.ZEi=true) :
  (∃ a,v=.pointer (some a))\/∃ f cs,v=.func (.func f) #[] cs:=by
 cases s<;>simp[SV.ZEi] at hp<;>simp only[den] at h
 case ptr=>obtain ⟨b,_,e⟩:=h;exact .inl ⟨_,e⟩
 case oep=>obtain ⟨b,bo,n,c,_,e⟩:=h;exact .inl ⟨_,e⟩
 case fptr=>obtain ⟨p,vs,e,_⟩:=h;exact .inl ⟨_,e⟩
 case fn=>obtain ⟨vs,e,_⟩:=h;exact .inr ⟨_,_,e⟩
def Zz9 (s:SV) (K:SV->Prop):Prop :=
 match s with
 | .nptr t d=>∃ x,d=some x/\VD t x λcs=>K (.fptr cs)
 | s=>K s
theorem ZAa {E:Env} {s:SV} {v:Value} (hs:den E s v) {K:SV->Prop} (hk:Zz9 s K):∃ s',den E s' v/\K s':=by
 unfold Zz9 at hk;split at hk
 ·rename_i t d
  obtain ⟨x,rfl,hk⟩:=hk;rw[Qm] at hk;refine ⟨_,?_,hk⟩;simp only[den] at hs ⊢;rcases hs with ⟨e,_⟩ | ⟨x',p,xs,e,e2,hp,hS,hc,hr⟩
  ·cases e
  ·injection e with e;subst e
   simp at e2;subst e2;exact ⟨p,xs,rfl,hp,hS,hc,XE t _ _ hr⟩
 ·exact ⟨s,hs,hk⟩
def ZDO (Δ:Tab) (op:BinOp) (T:TypeId) (sx sy:SV) (K:SV->Prop):Prop :=
 match sx,sy with
 | .agg xs,.agg ys=>ZdZ Δ T λti=>eqK op ti (.agg xs) (.agg ys) K
 | .bool x,sy=>ZdZ Δ T λti=>eqK op ti (.bool x) sy K
 | .blit x,sy=>ZdZ Δ T λti=>eqK op ti (.blit x) sy K
 | sx,.nilp=>ZdZ Δ T λti=>if ZmU ti.kind=true then ZHO op ti sx K else False
 | sx,.nsl=>ZdZ Δ T λti=>if ZvJ ti.kind=true then ZHO op ti sx K else False
 | sx,sy=>ZH0 op sx sy K
theorem ZBY {Δ:Tab} (hΔ:Δ.ok P) {E:Env} {op:BinOp} {T:TypeId} {x y:SV} {K:SV->Prop} (h:ZDO Δ op T x y K) {u v:Value} (hu:den E x u) (hv:den E y v) (ox oy:Operand) :
  ∃ r s,(∀ w,((do eqGuard op T ox oy u v;binOp op T u v:Sem Value)).run P w=.ok r w)/\den E s r/\K s:=by
 unfold ZDO at h;split at h
 ·obtain ⟨ti,ht,h⟩:=XB Δ hΔ h;exact ZAg ht h hu hv ox oy
 ·obtain ⟨ti,ht,h⟩:=XB Δ hΔ h;exact ZAg ht h hu hv ox oy
 ·obtain ⟨ti,ht,h⟩:=XB Δ hΔ h;exact ZAg ht h hu hv ox oy
 ·obtain ⟨ti,ht,h⟩:=XB Δ hΔ h
  split at h
  ·rename_i hq
   exact ZAO ht (.inl rfl) h ⟨λ_=>rfl,λhs=>by cases hk:ti.kind<;>rw[hk] at hq hs<;>simp[ZmU,ZvJ] at hq hs⟩ hu hv ox oy
  ·exact h.elim
 ·obtain ⟨ti,ht,h⟩:=XB Δ hΔ h
  split at h
  ·rename_i hq
   exact ZAO ht (.inr rfl) h ⟨λhs=>by cases hk:ti.kind<;>rw[hk] at hq hs<;>simp[ZmU,ZvJ] at hq hs,λ_=>rfl⟩ hu hv ox oy
  ·exact h.elim
 ·exact ZDP h hu hv T ox oy
def opK (Δ:Tab) (regs:List SV) (H:List Entry) (op:Op) (K:SV->List Entry->Prop):Prop :=
 match op with
 | .move x=>J2 regs x λs=>K s H
 | .assign x=>J2 regs x λs=>K s H
 | .pick c x y=>J2 regs c λs=>match s with
  | .blit true=>J2 regs x λs=>K s H
  | .blit false=>J2 regs y λs=>K s H
  | .bool p=>(p=true->J2 regs x λs=>K s H)/\(p=false->J2 regs y λs=>K s H)
  | _=>False
 | .alloc T=>ZdZ Δ T λti=>ZDr ti H K
 | .box _ x=>J2 regs x λs=>ZH2 s H K
 | .build T ps=>ZdZ Δ T λti=>Zyu regs ps.toList λl=>ZzT ti l λs=>K s H
 | .buildSlice T n ps=>ZdZ Δ T λti=>Zyu regs ps.toList λl=>Zna ti n l H K
 | .load T x=>ZdZ Δ T λti=>J2 regs x λs=>ZEn ti s H K
 | .store T x y=>ZdZ Δ T λti=>J2 regs x λsa=>J2 regs y λsx=>ZBq ti sa sx H λH'=>K (.tup []) H'
 | .nilCheck x=>J2 regs x λs=>Zz9 s λs'=>if s'.ZEi=true then K s' H else False
 | .binOp op T x y _=>J2 regs x λsx=>J2 regs y λsy=>ZDO Δ op T sx sy λs=>K s H
 | .unOp op _ x=>J2 regs x λsx=>unK op sx λs=>K s H
 | .convert S T x=>ZdZ Δ S λts=>ZdZ Δ T λtd=>J2 regs x λs=>match ts.kind,td.kind with
  | .sl,.str=>ZdZ Δ ts.elem λte=>Zz3 te s H λr=>K r H
  | _,_=>ZD3 ts td s H λr=>K r H
 | .makeFunc (.func f) first caps=>if first.size=0 then ZyV regs caps.toList λl=>K (.fn f l) H else False
 | .makeSlice T l c=>ZdZ Δ T λti=>J2 regs l λsl=>J2 regs c λsc=>ZEo ti sl sc H K
 | .slice T x lo hi none=>ZdZ Δ T λti=>J2 regs x λs=>ZBj ti regs s lo hi H K
 | .fieldAddr T x f=>ZdZ Δ T λti=>J2 regs x λs=>ZoY ti s f λr=>K r H
 | .field T x f=>ZdZ Δ T λti=>J2 regs x λs=>ZAj ti s f λr=>K r H
 | .indexAddr T x i=>ZdZ Δ T λti=>J2 regs x λs=>J2 regs i λsi=>Zme ti s si i H λr=>K r H
 | .index T x i=>ZdZ Δ T λti=>J2 regs x λs=>J2 regs i λsi=>ZBs ti s si λr=>K r H
 | .extract x i=>J2 regs x λs=>ZLO s i λr=>K r H
 | .makeMap T none=>ZdZ Δ T λti=>Zuy ti H K
 | .lookup T x i ok=>ZdZ Δ T λti=>J2 regs x λsx=>J2 regs i λsi=>Zw0 Δ ti sx si ok H λr=>K r H
 | .mapUpdate T x i y=>ZdZ Δ T λti=>J2 regs x λsx=>J2 regs i λsi=>J2 regs y λsy=>Zxw Δ ti sx si sy H λH'=>K (.tup []) H'
 | .call c=>match c.callee,c.args.toList,c.argTypes.toList with
  | .builtin .len,[x],[T]=>ZdZ Δ T λti=>J2 regs x λs=>ZKY ti s H λr=>K r H
  | .builtin .append,[x,y],[T,T']=>if T=T' then ZdZ Δ T λti=>J2 regs x λsx=>J2 regs y λsy=>Zwy ti sx sy H K else False
  | .builtin .min,x::r,_=>J2 regs x λs=>ZyV regs r λl=>ZGs false s l λr=>K r H
  | .builtin .max,x::r,_=>J2 regs x λs=>ZyV regs r λl=>ZGs true s l λr=>K r H
  | _,_,_=>False
 | _=>False
def Zft:Op->Bool
 | .move _=>true
 | .assign _=>true
 | .pick _ _ _=>true
 | .build _ _=>true
 | .load _ _=>true
 | .nilCheck _=>true
 | .binOp _ _ _ _ _=>true
 | .unOp _ _ _=>true
 | .fieldAddr _ _ _=>true
 | .field _ _ _=>true
 | .indexAddr _ _ _=>true
 | .index _ _ _=>true
 | .extract _ _=>true
 | .makeFunc _ _ _=>true
 | .call c=>match c.callee with
  | .builtin .len=>true
  | .builtin .min=>true
  | .builtin .max=>true
  | _=>false
 | _=>false
def isLoad:Op->Bool
 | .load _ _=>true
 | _=>false
def Zp5:Op->Bool
 | .alloc _=>true
 | .box _ _=>true
 | .buildSlice _ _ _=>true
 | .makeSlice _ _ _=>true
 | .slice _ _ _ _ _=>true
 | .convert _ _ _=>true
 | .makeMap _ _=>true
 | _=>false
def appArg:Op->Option Operand
 | .call ⟨.builtin .append,args,_⟩=>args.toList.head?
 | .store _ x _=>some x
 | _=>none
def Ran (P:Program) (B:Base) (E:Env) (o:Oper) (a:Act) (K:SV->List Entry->Prop):Prop :=
 ∃ nx v E' H' s,(execOp a.eval o).run P E.w=.ok nx E'.w/\(nx=.value v\/nx=.skip/\v=undef)/\Inv B E' H'/\E.le E'/\den E' s v/\K s H'/\
  (Zft o.op=true->nx=.value v/\E'.w=E.w/\∀ w',(isLoad o.op=true->Zva E.w w')->(execOp a.eval o).run P w'=.ok (.value v) w')/\((Zft o.op||Zp5 o.op)=true->Grow E.w E'.w)/\∀ x,appArg o.op=some x->E.w.grownBy E'.w (YJ (a.eval x))
theorem ZwQ {w w':World} {v:Value} (h:w.grownBy w' v.ownBlock):w.grownBy w' (YJ v):=⟨h.os,h.tape,h.output,h.size,λk hk hne=>h.block k hk (λe=>hne (ZzS v k e.symm).symm)⟩
theorem ZtM {op:Op} {p:Operand->Prop} (ha:appArg op=none):∀ x,appArg op=some x->p x:=λx e=>by rw[ha] at e;cases e
theorem ZA6 {B:Base} {E:Env} {H:List Entry} (hI:Inv B E H) {o:Oper} {a:Act} {K:SV->List Entry->Prop} {x:Sem Value} (he:execOp a.eval o=(do pure (.value (<-x)):Sem Next)) (hl:isLoad o.op=true)
  (h:∃ u s E' H',E'.w=E.w/\ZBT P E.w x u/\Inv B E' H'/\E.le E'/\den E' s u/\K s H') (ha:appArg o.op=none:=by rfl):Ran P B E o a K:=by
 obtain ⟨u,s,E',H',hw,h1,h2,h2',h3,h3'⟩:=h;have h4:∀ w',Zva E.w w'->(execOp a.eval o).run P w'=.ok (.value u) w':=λw' hst=>by rw[he,Sem.run_bind,h1 w' hst];rfl
 exact ⟨_,u,E',H',s,by rw[hw];exact h4 _ (Zva.refl _),.inl rfl,h2,h2',h3,h3',λ_=>⟨rfl,hw,λw' h=>h4 w' (h hl)⟩,λ_=>by rw[hw];exact Grow.refl _,ZtM ha⟩
theorem Vr {B:Base} {E:Env} {H:List Entry} (hI:Inv B E H) {o:Oper} {a:Act} {K:SV->List Entry->Prop} {x:Sem Value} (he:execOp a.eval o=(do pure (.value (<-x)):Sem Next))
  (h:∃ u s,ZsJ P x u/\den E s u/\K s H) (ha:appArg o.op=none:=by rfl):Ran P B E o a K:=by
 obtain ⟨u,s,h1,h2,h3⟩:=h;have h4:∀ w',(execOp a.eval o).run P w'=.ok (.value u) w':=λw'=>by rw[he,Sem.run_bind,h1 w'];rfl
 exact ⟨_,u,E,H,s,h4 _,.inl rfl,hI,Env.le.refl E,h2,h3,λ_=>⟨rfl,rfl,λw' _=>h4 w'⟩,λ_=>Grow.refl _,ZtM ha⟩
theorem ZkL {B:Base} {E:Env} {H:List Entry} (hI:Inv B E H) {o:Oper} {a:Act} {K:SV->List Entry->Prop} {u:Value} {s:SV} (he:execOp a.eval o=(pure (.value u):Sem Next))
  (h2:den E s u) (h3:K s H) (ha:appArg o.op=none:=by rfl):Ran P B E o a K :=
 ⟨_,u,E,H,s,by rw[he];rfl,.inl rfl,hI,Env.le.refl E,h2,h3,λ_=>⟨rfl,rfl,λw' _=>by rw[he];rfl⟩,λ_=>Grow.refl _,ZtM ha⟩
theorem ZeV {B:Base} {E:Env} {o:Oper} {a:Act} {K:SV->List Entry->Prop} {x:Sem Value} (he:execOp a.eval o=(do pure (.value (<-x)):Sem Next)) (hl:Zft o.op=false)
  (h:∃ u E' H' s,x.run P E.w=.ok u E'.w/\Inv B E' H'/\E.le E'/\den E' s u/\K s H'/\Grow E.w E'.w) (ha:appArg o.op=none:=by rfl):Ran P B E o a K:=by
 obtain ⟨u,E',H',s,h1,h2,h3,h4,h5,h6⟩:=h;exact ⟨_,u,E',H',s,by rw[he,Sem.run_bind,h1];rfl,.inl rfl,h2,h3,h4,h5,λe=>(by rw[hl] at e;cases e),λ_=>h6,ZtM ha⟩
theorem ZEw {B:Base} {E:Env} {o:Oper} {a:Act} {K:SV->List Entry->Prop} {x:Sem Value} {r:Operand} (he:execOp a.eval o=(do pure (.value (<-x)):Sem Next)) (hl:(Zft o.op||Zp5 o.op)=false) (ha:appArg o.op=some r)
  (h:∃ u E' H' s,x.run P E.w=.ok u E'.w/\Inv B E' H'/\E.le E'/\den E' s u/\K s H'/\E.w.grownBy E'.w (a.eval r).ownBlock):Ran P B E o a K:=by
 obtain ⟨u,E',H',s,h1,h2,h3,h4,h5,h6⟩:=h;have hl':Zft o.op=false:=by cases h:Zft o.op<;>simp[h] at hl ⊢
 exact ⟨_,u,E',H',s,by rw[he,Sem.run_bind,h1];rfl,.inl rfl,h2,h3,h4,h5,λe=>(by rw[hl'] at e;cases e),λe=>(by rw[hl] at e;cases e),λx hx=>by rw[ha] at hx;injection hx with hx;subst hx;exact ZwQ h6⟩
theorem ZvV (a:Act) (ps:Array (Nat×Operand)):(ps.map λx=>(x.1,a.eval x.2)).toList=ps.toList.map λx=>(x.1,a.eval x.2):=by simp
theorem ZAW {Δ:Tab} (hΔ:Δ.ok P) {B:Base} {E:Env} {H:List Entry} (hI:Inv B E H) {regs:List SV} {a:Act} (hd:Yk E regs a.tmps.toList) {o:Oper} {K:SV->List Entry->Prop}
  (h:opK Δ regs H o.op K):Ran P B E o a K:=by
 obtain ⟨dst,op,type,pos,after,guard⟩:=o;simp only at h;have val:∀ {x:Operand} (op':Op),(execOp a.eval ⟨dst,op',type,pos,after,guard⟩=pure (.value (a.eval x)))->(J2 regs x λs=>K s H)->appArg op'=none->Ran P B E ⟨dst,op',type,pos,after,guard⟩ a K:=by
  intro x op' he h ha;obtain ⟨s,hs,h⟩:=YC hd h;exact ZkL hI he hs h ha
 unfold opK at h;split at h
 ·exact val _ rfl h rfl
 ·exact val _ rfl h rfl
 ·rename_i c x y
  obtain ⟨s,hs,h⟩:=YC hd h;split at h
  ·simp only[den] at hs
   obtain ⟨s',hs',h⟩:=YC hd h;exact ZkL hI (u:=a.eval x) (by simp[execOp,hs,asBool]) hs' h
  ·simp only[den] at hs
   obtain ⟨s',hs',h⟩:=YC hd h;exact ZkL hI (u:=a.eval y) (by simp[execOp,hs,asBool]) hs' h
  ·rename_i p
   simp only[den] at hs;cases p
   ·obtain ⟨s',hs',h⟩:=YC hd (h.2 rfl)
    exact ZkL hI (u:=a.eval y) (by simp[execOp,hs,asBool]) hs' h
   ·obtain ⟨s',hs',h⟩:=YC hd (h.1 rfl)
    exact ZkL hI (u:=a.eval x) (by simp[execOp,hs,asBool]) hs' h
  ·exact h.elim
 ·obtain ⟨ti,ht,h⟩:=XB Δ hΔ h
  exact ZeV rfl rfl (ZzO hI ht h)
 ·obtain ⟨s,hs,h⟩:=YC hd h
  exact ZeV rfl rfl (ZDQ hI hs h)
 ·rename_i T ps
  obtain ⟨ti,ht,h⟩:=XB Δ hΔ h;obtain ⟨l,hl,h⟩:=Zsd hd _ h;exact Vr hI rfl (ZzU ht (by rw[ZvV];exact hl) h)
 ·rename_i T n ps
  obtain ⟨ti,ht,h⟩:=XB Δ hΔ h;obtain ⟨l,hl,h⟩:=Zsd hd _ h;exact ZeV rfl rfl (ZsM hI ht (by rw[ZvV];exact hl) h)
 ·obtain ⟨ti,ht,h⟩:=XB Δ hΔ h
  obtain ⟨s,hs,h⟩:=YC hd h;exact ZA6 hI rfl rfl (ZCD hI ht hs h)
 ·obtain ⟨ti,ht,h⟩:=XB Δ hΔ h
  obtain ⟨sa,hsa,h⟩:=YC hd h;obtain ⟨sx,hsx,h⟩:=YC hd h;obtain ⟨E',H',h1,h2,h3,h4,h5⟩:=ZBr hI ht hsa hsx h;exact ⟨.skip,undef,E',H',.tup [],by simp[execOp,h1],.inr ⟨rfl,rfl⟩,h2,h3,by simp only[den];exact ⟨[],rfl,trivial⟩,h4,λe=>(by cases e),λe=>(by cases e),λy hy=>by simp only[appArg] at hy;injection hy with hy;subst hy;exact h5⟩
 ·obtain ⟨s0,hs0,h⟩:=YC hd h
  obtain ⟨s,hs,h⟩:=ZAa hs0 h;split at h
  ·rename_i hp
   rcases Zw7 hs hp with ⟨p,hv⟩ | ⟨f,cs,hv⟩
   ·exact ZkL hI (by simp[execOp,hv];rfl) (by rw[<-hv];exact hs) h
   ·exact ZkL hI (by simp[execOp,hv];rfl) (by rw[<-hv];exact hs) h
  ·exact h.elim
 ·obtain ⟨sx,hsx,h⟩:=YC hd h
  obtain ⟨sy,hsy,h⟩:=YC hd h;obtain ⟨r,s,h1,h2,h3⟩:=ZBY (P:=P) hΔ h hsx hsy _ _;exact Vr hI rfl ⟨r,s,h1,h2,h3⟩
 ·obtain ⟨sx,hsx,h⟩:=YC hd h
  obtain ⟨r,s,h1,h2,h3⟩:=ZG3 (P:=P) h hsx;exact Vr hI rfl ⟨r,s,h1,h2,h3⟩
 ·obtain ⟨ts,hts,h⟩:=XB Δ hΔ h
  obtain ⟨td,htd,h⟩:=XB Δ hΔ h;obtain ⟨s,hs,h⟩:=YC hd h;split at h
  ·rename_i hk1 hk2
   obtain ⟨te,hte,h⟩:=XB Δ hΔ h;obtain ⟨u,r,h1,h2,h3⟩:=Zz4 (P:=P) hI hts hk1 htd hk2 hte hs h;exact ZeV rfl rfl ⟨u,E,H,r,h1,hI,Env.le.refl E,h2,h3,Grow.refl _⟩
  ·obtain ⟨u,r,h1,h2,h3⟩:=ZCb (P:=P) hts htd hs h
   exact Vr hI rfl ⟨u,r,h1,h2,h3⟩
 ·rename_i f first caps
  split at h
  ·rename_i hf
   obtain ⟨caps⟩:=caps;obtain ⟨l,hl,h⟩:=ZnY hd _ h;have hf':first=#[]:=Array.eq_empty_of_size_eq_zero hf;subst hf';refine Vr hI rfl ⟨_,_,λw=>rfl,?_,h⟩;simp only[den];exact ⟨_,by simp,hl⟩
  ·exact h.elim
 ·obtain ⟨ti,ht,h⟩:=XB Δ hΔ h
  obtain ⟨sl,hsl,h⟩:=YC hd h;obtain ⟨sc,hsc,h⟩:=YC hd h;exact ZeV rfl rfl (ZCG hI ht hsl hsc h)
 ·obtain ⟨ti,ht,h⟩:=XB Δ hΔ h
  obtain ⟨s,hs,h⟩:=YC hd h;exact ZeV rfl rfl (ZBk hI hd ht hs h)
 ·obtain ⟨ti,ht,h⟩:=XB Δ hΔ h
  obtain ⟨s,hs,h⟩:=YC hd h;exact Vr hI rfl (Zub ht hs h)
 ·obtain ⟨ti,ht,h⟩:=XB Δ hΔ h
  obtain ⟨s,hs,h⟩:=YC hd h;exact Vr hI rfl (ZAk ht hs h)
 ·rename_i T x i
  obtain ⟨ti,ht,h⟩:=XB Δ hΔ h;obtain ⟨s,hs,h⟩:=YC hd h;cases i with
  | const v =>
   obtain ⟨si,hsi,h⟩:∃ si,(∀ j,ZoT (.const v)=some j->∀ k i,si=.int k i->i=(j:Int))/\den E si v/\Zme ti s si (.const v) H λr=>K r H:=by
    have h':=h;obtain ⟨si,hsi,h⟩:=YC hd h;have hsi':den E si v:=hsi;refine ⟨si,λj hj k i hsi2=>?_,hsi',h⟩;subst hsi2;simp only[den] at hsi';subst hsi';simp only[ZoT] at hj;split at hj
    ·simp at hj;subst hj;rfl
    ·cases hj
   exact Vr hI rfl (Zky hI ht hs h.1 h.2 hsi)
  | tmp t =>
   obtain ⟨si,hsi,h⟩:=YC hd h;exact Vr hI rfl (Zky hI ht hs hsi h (λj hj=>by simp[ZoT] at hj))
  | global g=>exact h.elim
  | func f =>
   obtain ⟨si,hsi,h⟩:=YC hd h;exact Vr hI rfl (Zky hI ht hs hsi h (λj hj=>by simp[ZoT] at hj))
 ·obtain ⟨ti,ht,h⟩:=XB Δ hΔ h
  obtain ⟨s,hs,h⟩:=YC hd h;obtain ⟨si,hsi,h⟩:=YC hd h;obtain ⟨u,r,h1,h2,h3⟩:=ZBt (P:=P) ht hs hsi h;exact Vr hI rfl ⟨u,r,h1,h2,h3⟩
 ·obtain ⟨s,hs,h⟩:=YC hd h
  obtain ⟨u,r,h1,h2,h3⟩:=ZFv (P:=P) hs h;exact Vr hI rfl ⟨u,r,h1,h2,h3⟩
 ·obtain ⟨ti,ht,h⟩:=XB Δ hΔ h
  exact ZeV rfl rfl (Zw1 hI ht h)
 ·obtain ⟨ti,ht,h⟩:=XB Δ hΔ h
  obtain ⟨sx,hsx,h⟩:=YC hd h;obtain ⟨si,hsi,h⟩:=YC hd h;obtain ⟨u,r,h1,h2,h3⟩:=Zy8 (P:=P) hΔ hI ht hsx hsi h;exact ZeV rfl rfl ⟨u,E,H,r,h1,hI,Env.le.refl E,h2,h3,Grow.refl _⟩
 ·obtain ⟨ti,ht,h⟩:=XB Δ hΔ h
  obtain ⟨sx,hsx,h⟩:=YC hd h;obtain ⟨si,hsi,h⟩:=YC hd h;obtain ⟨sy,hsy,h⟩:=YC hd h;obtain ⟨E',H',h1,h2,h3,h4⟩:=Zzq (P:=P) hΔ hI ht hsx hsi hsy h;exact ⟨.skip,undef,E',H',.tup [],by simp[execOp,h1],.inr ⟨rfl,rfl⟩,h2,h3,by simp only[den];exact ⟨[],rfl,trivial⟩,h4,λe=>(by cases e),λe=>(by cases e),ZtM rfl⟩
 ·rename_i c
  obtain ⟨callee,args,argTypes⟩:=c;obtain ⟨args⟩:=args;obtain ⟨argTypes⟩:=argTypes;simp only at h;split at h
  ·rename_i x T
   obtain ⟨ti,ht,h⟩:=XB Δ hΔ h;obtain ⟨s,hs,h⟩:=YC hd h;obtain ⟨u,r,h1,h2,h3⟩:=ZEl (ty:=type) hI ht hs h;exact Vr hI (x:=Builtin.len_ #[T] type #[a.eval x]) (by simp only[execOp,resolve,invoke,builtin,pure_bind,List.map_toArray,U5,Kw]) ⟨u,r,h1,h2,h3⟩
  ·rename_i x y T T'
   split at h
   ·rename_i hTT;subst hTT
    obtain ⟨ti,ht,h⟩:=XB Δ hΔ h;obtain ⟨sx,hsx,h⟩:=YC hd h;obtain ⟨sy,hsy,h⟩:=YC hd h;exact ZEw (x:=Builtin.append_ #[T,T] type #[a.eval x,a.eval y]) (by simp only[execOp,resolve,invoke,builtin,pure_bind,List.map_toArray,U5,Kw]) rfl rfl (ZyK (ty:=type) hI ht hsx hsy h)
   ·exact h.elim
  ·rename_i x r
   obtain ⟨s,hs,h⟩:=YC hd h;obtain ⟨l,hl,h⟩:=ZnY hd _ h;obtain ⟨u,r',h1,h2,h3⟩:=Zw2 (P:=P) (mx:=false) l s _ _ hs hl h;exact Vr hI (x:=Builtin.min_ argTypes.toArray type ((x::r).toArray.map a.eval)) (by simp only[execOp,resolve,invoke,builtin,pure_bind]) ⟨u,r',λw=>by simpa[Builtin.min_] using h1 w,h2,h3⟩
  ·rename_i x r
   obtain ⟨s,hs,h⟩:=YC hd h;obtain ⟨l,hl,h⟩:=ZnY hd _ h;obtain ⟨u,r',h1,h2,h3⟩:=Zw2 (P:=P) (mx:=true) l s _ _ hs hl h;exact Vr hI (x:=Builtin.max_ argTypes.toArray type ((x::r).toArray.map a.eval)) (by simp only[execOp,resolve,invoke,builtin,pure_bind]) ⟨u,r',λw=>by simpa[Builtin.max_] using h1 w,h2,h3⟩
  ·exact h.elim
 ·exact h.elim
end
inductive Sh
 | dat (t:Ty)
 | own (e:Dp)
 | io (e:Dp)
 | back (e:Dp)
@[reducible] def Sh.den:Sh->Type
 | .dat t=>t.den
 | .own e=>e.ty.den
 | .io e=>e.ty.den
 | .back e=>e.ty.den
@[reducible] def Shs:List Sh->Type
 | []=>Unit
 | s::r=>s.den×Shs r
@[reducible] def Ios:List Sh->Type
 | []=>Unit
 | .io e::r=>e.ty.den×Ios r
 | .back e::r=>e.ty.den×Ios r
 | .dat _::r=>Ios r
 | .own _::r=>Ios r
structure Ctr where
 args:List Sh
 rets:List Sh
 tr:Shs args->(Shs rets->Ios args->Prop)->Prop
def ZBE (t:Ty) (v:Value):Prop:=(t.agg=true->∃ cs,v=.agg cs)/\(t.agg=false->v.cells=#[v])
def ZFR (S:Nat->Prop) (w:World) (t:Ty) (d:t.den) (v:Value):Prop :=
 (t.agg=true->∃ cs,v=.agg cs)/\(t.agg=false->v.cells=#[v])/\rep S w t d v.cells.toList
def Zxj (S:Nat->Prop) (w:World):(s:Sh)->s.den->Value->List Nat->Prop
 | .dat t,d,v,fp=>fp=[]/\ZFR S w t d v
 | .own e,d,v,fp=>ZBE e.ty v/\ZjJ S w e d v.cells.toList fp
 | .back e,d,v,fp=>ZBE e.ty v/\ZjJ S w e d v.cells.toList fp
 | .io e,d,v,fp=>∃ b cs T f,v=.pointer (some ⟨b,0,none⟩)/\w.heap[b]?=some (.cells cs T (0,0))/\ZjJ S w e d cs.toList f/\fp=b::f
def ZeX (S:Nat->Prop) (w:World):(l:List Sh)->Shs l->List Value->List Nat->Prop
 | [],_,vs,fp=>vs=[]/\fp=[]
 | s::r,d,vs,fp=>∃ v vr f fr,vs=v::vr/\fp=f++fr/\Zxj S w s d.1 v f/\ZeX S w r d.2 vr fr
def Zi9 (S:Nat->Prop) (w:World):(l:List Sh)->Ios l->List Value->List Nat->Prop
 | [],_,_,fp=>fp=[]
 | .io e::r,d,vs,fp=>∃ v vr f fr,vs=v::vr/\fp=f++fr/\Zxj S w (.io e) d.1 v f/\Zi9 S w r d.2 vr fr
 | .back e::r,d,vs,fp=>∃ v vr f fr,vs=v::vr/\fp=f++fr/\Zxj S w (.back e) d.1 v f/\Zi9 S w r d.2 vr fr
 | .dat _::r,d,vs,fp=>∃ v vr,vs=v::vr/\Zi9 S w r d vr fp
 | .own _::r,d,vs,fp=>∃ v vr,vs=v::vr/\Zi9 S w r d vr fp
def retv (us:List Value) (v:Value):Prop :=
 match us with
 | [u]=>v=u
 | us=>v=.tuple us.toArray
def ZnM (P:Program) (f:FuncId):Prop:=∃ fn,P.funcs[f]?=some fn/\(fn.name == "runtime.NumGoroutine")=false/\fn.body.isNone=false
def Zc (P:Program) (f:FuncId) (C:Ctr):Prop:=ZnM P f/\
 ∀ (w:World) (S:Nat->Prop) (vs:List Value) (as:Shs C.args) (fp:List Nat) (K:Shs C.rets->Ios C.args->Prop),
  (∀ b,S b->b<w.heap.size)->ZeX S w C.args as vs fp->fp.Nodup->(∀ g∈fp,¬S g/\g<w.heap.size)->C.tr as K->
  Calls P f vs.toArray w λe w'=>∃ v us rs ios S' fr fio,e=.returned v/\retv us v/\K rs ios/\Keeps ⟨w,S,λb=>b∈fp,[]⟩ w'/\(∀ b,S b->S' b)/\
   (∀ b,S' b->b<w'.heap.size/\(b<w.heap.size->S b\/b∈fp))/\ZeX S' w' C.rets rs us fr/\Zi9 S' w' C.args ios vs fio/\
   (fio++fr).Nodup/\∀ g∈fio++fr,¬S' g/\g<w'.heap.size/\(w.heap.size<=g\/g∈fp)
def SV.isAgg:SV->Bool
 | .agg _=>true
 | _=>false
def ZFJ (f:SV->List Entry->(SV->List Entry->Prop)->Prop):List SV->List Entry->(List SV->List Entry->Prop)->Prop
 | [],H,K=>K [] H
 | s::r,H,K=>f s H λs' H1=>ZFJ f r H1 λr' H2=>K (s'::r') H2
def Zrs:Nat->SV->List Entry->(SV->List Entry->Prop)->Prop
 | 0,s,H,K=>K s H
 | n+1,s,H,K=>match s with
  | .ptr id 0=>Zi3 H id λe=>match e with
   | .box cells=>ZFJ (Zrs n) cells H λcs0 H0=>VQ cs0 H0 λcs' H1=>Zi3 H1 id λe1=>match e1 with
    | .box _=>Zkk H1 id (.fbx cs') λH2=>K (.fptr cs') H2
    | _=>False
   | .fbx cells=>K (.fptr cells) H
   | _=>False
  | .own id=>Zi3 H id λe=>match e with
   | .hole _ e d i cells _=>ZFJ (Zrs n) cells H λcs0 H0=>VQ cs0 H0 λcs' H1=>X9 e.ty cs' λx rest=>match rest with
    | []=>Zi3 H1 id λe1=>match e1 with
     | .hole _ _ _ _ _ _=>Zkk H1 id (.frz e.ty (d.set i.toNat x)) λH2=>K (.sl e.ty (d.set i.toNat x)) H2
     | _=>False
    | _=>False
   | _=>K (.own id) H
  | s=>K s H
def ZAr (s:SV) (H:List Entry) (K:SV->List Entry->Prop):Prop:=Zrs 3 s H K
def ZwO (cs:List SV) (H:List Entry) (K:List SV->List Entry->Prop):Prop:=ZFJ ZAr cs H K
def ZAp (s:SV) (H:List Entry) (K:List SV->List Entry->Prop):Prop :=
 match s with
 | .fn f caps=>ZwO caps H λcaps' H1=>K [.fn f caps'] H1
 | .ptr id off=>ZAr (.ptr id off) H λs' H1=>K [s'] H1
 | s=>ZwO s.cells H λcs0 H0=>VQ cs0 H0 K
def Zvs (t:Ty) (cs:List SV) (K:SV->Prop):Prop :=
 if t.agg=true then K (.agg cs) else match cs with
  | c::_=>K c
  | []=>False
def Zqf:(l:List Sh)->List SV->List Entry->(Shs l->List Entry->Prop)->Prop
 | [],ss,H,K=>match ss with
  | []=>K () H
  | _=>False
 | .dat t::r,ss,H,K=>match ss with
  | s::ss=>if s.whole=true/\t.agg=s.isAgg then ZAp s H λcs H1=>X9 t cs λd rest=>match rest with
    | []=>Zqf r ss H1 λds H2=>K (d,ds) H2
    | _=>False
   else False
  | _=>False
 | .own e::r,ss,H,K=>match ss with
  | s::ss=>if s.whole=true/\e.ty.agg=s.isAgg then closeAll e s.cells H λd H1=>Zqf r ss H1 λds H2=>K (d,ds) H2 else False
  | _=>False
 | .back e::r,ss,H,K=>match ss with
  | s::ss=>if s.whole=true/\e.ty.agg=s.isAgg then closeAll e s.cells H λd H1=>Zqf r ss H1 λds H2=>K (d,ds) H2 else False
  | _=>False
 | .io e::r,ss,H,K=>match ss with
  | .ptr id 0::ss=>Zi3 H id λen=>match en with
   | .box cells=>Zkk H id .gone λH0=>closeAll e cells H0 λd H1=>Zqf r ss H1 λds H2=>K (d,ds) H2
   | _=>False
  | _=>False
def Dp.closed:Dp->Bool
 | .flat t=>t.flat
 | .ol _ e=>e.closed
 | .pair a b=>a.closed&&b.closed
 | .mp k v=>k.flat&&v.flat
def Sh.flat:Sh->Bool
 | .dat t=>t.flat
 | .own e=>e.closed
 | .io e=>e.closed
 | .back e=>e.closed
def Zq3:List Sh->Bool
 | []=>true
 | s::r=>s.flat&&Zq3 r
def Znh:List Sh->Bool
 | []=>true
 | .io e::r=>e.closed&&Znh r
 | .back e::r=>e.closed&&Znh r
 | _::r=>Znh r
def ZgH:(e:Dp)->List SV->e.ty.den->List Entry->(List SV->List Entry->Prop)->Prop
 | .flat t,cs,_,H,K=>ZlE cs t.size λr=>K r H
 | .ol et e,cs,d,H,K=>match cs with
  | .nsl::r=>K r H
  | .own id::r=>ZEv et e id d H λH'=>K r H'
  | _=>False
 | .mp k v,cs,d,H,K=>match cs with
  | .mown id::r=>Zkk H id (.mpe k v d) λH'=>K r H'
  | _=>False
 | .pair a b,cs,d,H,K=>splitK d λx y=>ZgH a cs x H λr H1=>ZgH b r y H1 K
def Zzx:(l:List Sh)->List SV->Ios l->List Entry->(List Entry->Prop)->Prop
 | [],_,_,H,K=>K H
 | .io e::r,ss,d,H,K=>match ss with
  | .ptr id 0::ss=>splitK d λx d'=>Vm e x H λcells H1=>Zkk H1 id (.box cells) λH2=>Zzx r ss d' H2 K
  | _=>False
 | .back e::r,ss,d,H,K=>match ss with
  | s::ss=>if s.whole=true then splitK d λx d'=>ZgH e s.cells x H λ_ H1=>Zzx r ss d' H1 K else False
  | _=>False
 | .dat _::r,ss,d,H,K=>match ss with
  | _::ss=>Zzx r ss d H K
  | _=>False
 | .own _::r,ss,d,H,K=>match ss with
  | _::ss=>Zzx r ss d H K
  | _=>False
def ZpJ:(l:List Sh)->Shs l->List Entry->(List SV->List Entry->Prop)->Prop
 | [],_,H,K=>K [] H
 | .dat t::r,d,H,K=>splitK d λx d'=>VD t x λcs=>Zvs t cs λs=>ZpJ r d' H λss H'=>K (s::ss) H'
 | .own e::r,d,H,K=>splitK d λx d'=>Vm e x H λcs H1=>Zvs e.ty cs λs=>ZpJ r d' H1 λss H'=>K (s::ss) H'
 | .back e::r,d,H,K=>splitK d λx d'=>Vm e x H λcs H1=>Zvs e.ty cs λs=>ZpJ r d' H1 λss H'=>K (s::ss) H'
 | .io e::r,d,H,K=>splitK d λx d'=>Vm e x H λcs H1=>ZtL cs H1 λs H2=>ZpJ r d' H2 λss H'=>K (s::ss) H'
def ZAV (ss:List SV) (K:SV->Prop):Prop :=
 match ss with
 | [s]=>K s
 | ss=>K (.tup ss)
def ZxX:List Entry->(List Entry->Prop)->Prop
 | [],K=>K []
 | e::r,K=>ZxX r λr'=>K (e::r')
theorem Zvw:∀ (l:List Entry) (K:List Entry->Prop),ZxX l K=K l
 | [],_=>rfl
 | e::r,K=>by unfold ZxX;exact Zvw r _
def ZDW (C:Ctr) (ss:List SV) (H:List Entry) (K:SV->List Entry->Prop):Prop :=
 Zqf C.args ss H λas H1=>C.tr as λrs ios =>
  if (Zq3 C.rets&&Znh C.args)=true then ZxX (ZqM H H1) λH0=>Zzx C.args ss ios H0 λH2=>ZpJ C.rets rs H2 λss' H3=>ZAV ss' λs=>K s H3
  else Zzx C.args ss ios H1 λH2=>ZpJ C.rets rs H2 λss' H3=>ZAV ss' λs=>K s H3
def ZFV (B:Base) (f:SV->List Entry->(SV->List Entry->Prop)->Prop):Prop :=
 ∀ (E:Env) (H:List Entry),Inv B E H->∀ (s:SV) (v:Value),den E s v->∀ (K:SV->List Entry->Prop),f s H K->∃ E' H' s',Frz E H E' H'/\Inv B E' H'/\den E' s' v/\K s' H'
theorem Zue {B:Base} {f:SV->List Entry->(SV->List Entry->Prop)->Prop} (hf:ZFV B f):∀ (cs:List SV) {E:Env} {H:List Entry} (_:Inv B E H) {vs:List Value} (_:Yk E cs vs) {K:List SV->List Entry->Prop} (_:ZFJ f cs H K),
  ∃ E' H' cs',Frz E H E' H'/\Inv B E' H'/\Yk E' cs' vs/\K cs' H'
 | [],E,H,hI,vs,hd,K,hk=>⟨E,H,[],Frz.refl E H,hI,hd,hk⟩
 | s::r,E,H,hI,vs,hd,K,hk=>by
  match vs,hd with
  | [],hd=>simp[Yk] at hd
  | v::vs,hd =>
   simp only[Yk] at hd;simp only[ZFJ] at hk;obtain ⟨E1,H1,s',hf1,hI1,hd1,hk⟩:=hf _ _ hI _ _ hd.1 _ hk;obtain ⟨E2,H2,r',hf2,hI2,hd2,hk⟩:=Zue hf r hI1 (ZM hf1.le _ _ hd.2) hk;exact ⟨E2,H2,s'::r',hf1.trans hf2,hI2,⟨Zi1 hf2.le _ _ hd1,hd2⟩,hk⟩
theorem Zo2 {B:Base}:∀ n,ZFV B (Zrs n)
 | 0=>λ_ _ hI _ _ hd _ hk=>⟨_,_,_,Frz.refl _ _,hI,hd,hk⟩
 | n+1=>by
  intro E H hI s v hd K hk;unfold Zrs at hk;split at hk
  ·rename_i id
   obtain ⟨e,he,hk⟩:=Xd H hk;simp only[den] at hd;obtain ⟨b,h1,hv⟩:=hd;split at hk
   ·rename_i cells
    obtain ⟨b',cs,T,h1',h2,h3⟩:=hI.ent id _ he;have:=h1.symm.trans h1';simp at this;subst this;obtain ⟨E0,H0,cs0,hf0,hI0,hd0,hk⟩:=Zue (Zo2 n) _ hI h3 hk;obtain ⟨E1,H1,cs',hf1,hI1,hd1,hk,_⟩:=QG _ hI0 hd0 hk;have hf01:=hf0.trans hf1;obtain ⟨e1,he1,hk⟩:=Xd H1 hk;split at hk
    ·rename_i c1
     rw[XA] at hk;have hv1:E1.ids[id]?=some (.pointer (some ⟨b,0,none⟩)):=by rw[hf01.ids];exact h1
     have hh1:E1.w.heap[b]?=some (.cells cs T (0,0)):=by rw[hf01.w];exact h2
     have hle0:E1.le ⟨λg=>E1.S g\/ZjO (.box c1) (.pointer (some ⟨b,0,none⟩)) g,E1.w,E1.ids⟩:=⟨λ_ h=>.inl h,λ_ _=>rfl,λ_ _ h=>h⟩;obtain ⟨hle2,hI2⟩:=hI1.Zrq he1 rfl hv1 (.fbx cs') rfl ⟨b,cs,T,hv1,.inr rfl,hh1,ZM hle0 _ _ hd1⟩;refine ⟨_,_,_,hf01.trans (Frz.one he1 rfl hv1 rfl hle2 (λb hb=>hb)),hI2,?_,hk⟩;simp only[den];refine ⟨⟨b,0,none⟩,cs.toList,hv,rfl,.inr rfl,λj u hu=>?_,ZM hle2 _ _ hd1⟩;exact ZnR (w:=E1.w) (b:=b) (cs:=cs) (T:=T) (fr:=(0,0)) hh1 0 j u (by simpa using hu)
    ·exact hk.elim
   ·rename_i cells
    obtain ⟨b',cs,T,h1',hS,h2,h3⟩:=hI.ent id _ he;have:=h1.symm.trans h1';simp at this;subst this;refine ⟨E,H,_,Frz.refl E H,hI,?_,hk⟩;simp only[den];refine ⟨⟨b,0,none⟩,cs.toList,hv,rfl,hS,λj u hu=>?_,h3⟩;exact ZnR h2 0 j u (by simpa using hu)
   ·exact hk.elim
  ·rename_i id
   obtain ⟨en,he,hk⟩:=Xd H hk;split at hk
   ·rename_i et e d i cells fp
    have hd0:=hd;simp only[den] at hd0;obtain ⟨v',xs,x1,vx,x2,f1,f2,h1,ho,hi0,hi1,ex,el,el2,hr1,hr2,hdc,efp,hnd⟩:=hI.ent id _ he;have:=h1.symm.trans hd0.1;simp at this;subst this;obtain ⟨E0,H0,cs0,hf0,hI0,hd0',hk⟩:=Zue (Zo2 n) _ hI hdc hk;obtain ⟨E1,H1,cs',hf1,hI1,hd1,hk,_⟩:=QG _ hI0 hd0' hk;have hf01:=hf0.trans hf1;obtain ⟨x,rest,u1,u2,e12,hr,hrest,hk⟩:=XH e.ty cs' _ _ hd1 hk;split at hk
    ·have hv2:u2=[]:=by cases u2 with
      | nil=>rfl
      | cons=>simp[Yk] at hrest
     subst hv2;rw[Uo] at e12;subst e12;obtain ⟨e1,he1,hk⟩:=Xd H1 hk;split at hk
     ·have hsame:=hf01.same id _ he1 rfl
      rw[he] at hsame;have hsame:=Option.some.inj hsame;rw[<-hsame] at he1;rw[XA] at hk;have hv1:E1.ids[id]?=some v':=by rw[hf01.ids];exact hd0.1
      have hrd:rep (λb=>E1.S b\/ZjO (.hole et e d i cells fp) v' b) E1.w (.sl e.ty) (d.set i.toNat x) [v']:=by
       have hw:=hf01.w;rw[hw];rw[hw] at hr;refine ZvU (by rw[Uy];exact ho) ?_ (λg hg=>.inr (by show g∈fp;rw[efp];simp[hg]));rw[List.set_eq_take_append_cons_drop,Uc (by omega),ex,Ul];refine ZkO _ _ _ _ (ZkN _ _ _ (λd vs f hsub h=>Zig (S:=E.S) (λb hb=>.inl (hf01.le.S b hb)) e d vs f (λg hg=>.inr (by show g∈fp;rw[efp];simp[hsub g hg])) h) hr1) ⟨vx,x2,rfl,?_,?_⟩
       ·exact Yz (λb hb=>.inl hb) (λ_ _=>rfl) e.ty x vx hr
       ·exact ZkN _ _ _ (λd vs f hsub h=>Zig (S:=E.S) (λb hb=>.inl (hf01.le.S b hb)) e d vs f (λg hg=>.inr (by show g∈fp;rw[efp];simp[hsub g hg])) h) hr2
      obtain ⟨hle2,hI2⟩:=hI1.Zrq he1 rfl hv1 (.frz e.ty (d.set i.toNat x)) rfl ⟨v',hv1,hrd⟩;exact ⟨_,_,_,hf01.trans (Frz.one he1 rfl hv1 rfl hle2 (λb hb=>hb)),hI2,by simp only[den];exact hrd,hk⟩
     ·exact hk.elim
    ·exact hk.elim
   ·exact ⟨E,H,_,Frz.refl E H,hI,hd,hk⟩
  ·exact ⟨E,H,_,Frz.refl E H,hI,hd,hk⟩
theorem ZvA {B:Base} {E:Env} {H:List Entry} (hI:Inv B E H) {s:SV} {v:Value} (hd:den E s v) {K:SV->List Entry->Prop} (hk:ZAr s H K) :
  ∃ E' H' s',Frz E H E' H'/\Inv B E' H'/\den E' s' v/\K s' H':=Zo2 3 _ _ hI _ _ hd _ hk
theorem ZtE {B:Base} (cs:List SV) {E:Env} {H:List Entry} (hI:Inv B E H) {vs:List Value} (hd:Yk E cs vs) {K:List SV->List Entry->Prop} (hk:ZwO cs H K) :
  ∃ E' H' cs',Frz E H E' H'/\Inv B E' H'/\Yk E' cs' vs/\K cs' H' :=
 Zue (λ_ _ hI _ _ hd _ hk=>ZvA hI hd hk) cs hI hd hk
theorem ZAq {B:Base} {E:Env} {H:List Entry} (hI:Inv B E H) {s:SV} {v:Value} (hd:den E s v) (hw:s.whole=true) {K:List SV->List Entry->Prop} (hk:ZAp s H K) :
  ∃ E' H' cs',Frz E H E' H'/\Inv B E' H'/\Yk E' cs' v.cells.toList/\K cs' H':=by
 unfold ZAp at hk;split at hk
 ·rename_i f caps
  simp only[den] at hd;obtain ⟨vs,rfl,hd⟩:=hd;obtain ⟨E1,H1,cs',hf1,hI1,hd1,hk⟩:=ZtE _ hI hd hk;exact ⟨E1,H1,[.fn f cs'],hf1,hI1,⟨by simp only[den];exact ⟨vs,rfl,hd1⟩,trivial⟩,hk⟩
 ·rename_i id off
  have hc:=(ZlX hd rfl).1;obtain ⟨E1,H1,s',hf1,hI1,hd1,hk⟩:=ZvA hI hd hk;exact ⟨E1,H1,[s'],hf1,hI1,by rw[hc];exact ⟨hd1,trivial⟩,hk⟩
 ·obtain ⟨E0,H0,cs0,hf0,hI0,hd0,hk⟩:=ZtE _ hI (Zaa hd hw) hk
  obtain ⟨E1,H1,cs',hf1,hI1,hd1,hk,_⟩:=QG _ hI0 hd0 hk;exact ⟨E1,H1,_,hf0.trans hf1,hI1,hd1,hk⟩
theorem ZyA {E E':Env} (h:E.le E') {fp:List Nat} (hw:∀ g∈fp,E'.w.heap[g]?=E.w.heap[g]?):∀ (s:Sh) (d:s.den) (v:Value),Zxj E.S E.w s d v fp->Zxj E'.S E'.w s d v fp
 | .dat t,_,_,⟨h0,h1,h2,h3⟩=>⟨h0,h1,h2,Yz h.S h.w t _ _ h3⟩
 | .own e,_,_,⟨h1,h2⟩=>⟨h1,YL h.S h.w e _ _ _ hw h2⟩
 | .back e,_,_,⟨h1,h2⟩=>⟨h1,YL h.S h.w e _ _ _ hw h2⟩
 | .io e,_,_,⟨b,cs,T,f,h1,h2,h3,h4⟩=>⟨b,cs,T,f,h1,by rw[hw b (by rw[h4];simp)];exact h2,YL h.S h.w e _ _ _ (λg hg=>hw g (by rw[h4];simp[hg])) h3,h4⟩
theorem Zv4 {E E':Env} (h:E.le E'):∀ (l:List Sh) (d:Shs l) (vs:List Value) (fp:List Nat),(∀ g∈fp,E'.w.heap[g]?=E.w.heap[g]?)->ZeX E.S E.w l d vs fp->ZeX E'.S E'.w l d vs fp
 | [],_,_,_,_,h=>h
 | s::r,_,_,_,hw,⟨v,vr,f,fr,e,ef,h1,h2⟩=>⟨v,vr,f,fr,e,ef,ZyA h (λg hg=>hw g (by rw[ef];simp[hg])) s _ _ h1,Zv4 h r _ _ _ (λg hg=>hw g (by rw[ef];simp[hg])) h2⟩
theorem Zxd {α:Type} {R R':α->List Value->List Nat->Prop} (h:∀ d vs f,R d vs f->R' d vs f) (l:List α) (xs:List Value) (fp:List Nat) (hr:Zbm R l xs fp):Zbm R' l xs fp:=Qb l xs fp (λd vs f _=>h d vs f) hr
theorem ZcR {S S':Nat->Prop} {w:World}:∀ (e:Dp),e.closed=true->∀ (d:e.ty.den) (vs:List Value) (fp:List Nat),ZjJ S w e d vs fp->ZjJ S' w e d vs fp
 | .flat t,hc,_,_,_,⟨h1,h2⟩=>⟨h1,Zml t hc _ _ h2⟩
 | .ol et e,hc,_,_,_,⟨v,xs,fps,e1,ho,hr,e2⟩=>⟨v,xs,fps,e1,ho,Zxd (λd vs f=>ZcR e hc d vs f) _ _ _ hr,e2⟩
 | .mp k v,hc,_,_,_,⟨b,es,clk,e1,e2,hh,h⟩=>by
  simp only[Dp.closed,Ur] at hc;exact ⟨b,es,clk,e1,e2,hh,Zcz (λd vs=>Zml k hc.1 d vs) (λd vs=>Zml v hc.2 d vs) _ _ h⟩
 | .pair a b,hc,_,_,_,⟨v1,v2,f1,f2,e1,e2,h1,h2⟩=>by
  simp only[Dp.closed,Ur] at hc;exact ⟨v1,v2,f1,f2,e1,e2,ZcR a hc.1 _ _ _ h1,ZcR b hc.2 _ _ _ h2⟩
theorem ZoH {S S':Nat->Prop} {w:World}:∀ (l:List Sh),Zq3 l=true->∀ (d:Shs l) (vs:List Value) (fp:List Nat),ZeX S w l d vs fp->ZeX S' w l d vs fp
 | [],_,_,_,_,h=>h
 | s::r,hf,_,_,_,⟨v,vr,f,fr,e,ef,h1,h2⟩=>by
  simp only[Zq3,Ur] at hf;refine ⟨v,vr,f,fr,e,ef,?_,ZoH r hf.2 _ _ _ h2⟩;cases s with
  | dat t=>obtain ⟨a,b,c,d⟩:=h1;exact ⟨a,b,c,Zml t hf.1 _ _ d⟩
  | own e=>exact ⟨h1.1,ZcR e hf.1 _ _ _ h1.2⟩
  | back e=>exact ⟨h1.1,ZcR e hf.1 _ _ _ h1.2⟩
  | io e=>obtain ⟨b,cs,T,f',a1,a2,a3,a4⟩:=h1;exact ⟨b,cs,T,f',a1,a2,ZcR e hf.1 _ _ _ a3,a4⟩
theorem Zfk {S S':Nat->Prop} {w:World}:∀ (l:List Sh),Znh l=true->∀ (d:Ios l) (vs:List Value) (fp:List Nat),Zi9 S w l d vs fp->Zi9 S' w l d vs fp
 | [],_,_,_,_,h=>h
 | .io e::r,hf,_,_,_,⟨v,vr,f,fr,ev,ef,⟨b,cs,T,f',a1,a2,a3,a4⟩,h2⟩=>by
  simp only[Znh,Ur] at hf;exact ⟨v,vr,f,fr,ev,ef,⟨b,cs,T,f',a1,a2,ZcR e hf.1 _ _ _ a3,a4⟩,Zfk r hf.2 _ _ _ h2⟩
 | .back e::r,hf,_,_,_,⟨v,vr,f,fr,ev,ef,⟨a1,a2⟩,h2⟩=>by
  simp only[Znh,Ur] at hf;exact ⟨v,vr,f,fr,ev,ef,⟨a1,ZcR e hf.1 _ _ _ a2⟩,Zfk r hf.2 _ _ _ h2⟩
 | .dat _::r,hf,_,_,_,⟨v,vr,e,h2⟩=>⟨v,vr,e,Zfk r hf _ _ _ h2⟩
 | .own _::r,hf,_,_,_,⟨v,vr,e,h2⟩=>⟨v,vr,e,Zfk r hf _ _ _ h2⟩
theorem ZCx {E:Env} {s:SV} {v:Value} (h:den E s v) (hw:s.whole=true):(s.isAgg=true->∃ cs,v=.agg cs)/\(s.isAgg=false->v.cells=#[v]):=by
 constructor
 ·intro ha
  cases s<;>simp[SV.isAgg] at ha
  simp only[den] at h;obtain ⟨vs,e,_⟩:=h;exact ⟨_,e⟩
 ·intro ha
  have h1:s.one=true:=by cases s<;>simp_all[SV.isAgg,SV.whole,SV.one]
  exact (ZlX h h1).1
def Handed (B:Base) (l:List Sh) (E:Env) (H:List Entry) (vs:List Value) (gs:List Nat) (K:Shs l->List Entry->Prop):Prop :=
 ∃ E1 H1 as fp,Frz E H E1 H1/\Inv B E1 H1/\ZeX E1.S E1.w l as vs fp/\K as H1/\Loose B E1 H1 (fp++gs)/\ZmJ E H H1 fp
theorem Handed.cons {B:Base} {s:Sh} {r:List Sh} {E E1:Env} {H H1:List Entry} {v:Value} {vs:List Value} {gs f:List Nat} {d:s.den} (hf:Frz E H E1 H1) (hs:Zxj E1.S E1.w s d v f) (hT:ZmJ E H H1 f) {K:Shs (s::r)->List Entry->Prop}
  (h:Handed B r E1 H1 vs (f++gs) (λds H2=>K (d,ds) H2)):Handed B (s::r) E H (v::vs) gs K:=by
 obtain ⟨E2,H2,ds,fp,hf2,hI2,hds,hk,hL,hT2⟩:=h;refine ⟨E2,H2,(d,ds),f++fp,hf.trans hf2,hI2,⟨v,vs,f,fp,rfl,rfl,ZyA hf2.le (λg _=>by rw[hf2.w]) s _ _ hs,hds⟩,hk,hL.perm ?_,(hT.later hf2).append (ZmJ.after hf hT2)⟩;rw[<-Ul];exact UZ.append_right gs
theorem Zud {E:Env} {s:SV} {v:Value} (hd:den E s v) (hw:s.whole=true) {t:Ty} (hag:t.agg=s.isAgg):ZBE t v:=by
 have hag':=ZCx hd hw;exact ⟨λh=>hag'.1 (by rw[<-hag];exact h),λh=>hag'.2 (by rw[<-hag];exact h)⟩
theorem Zmb {B:Base}:∀ (l:List Sh) (ss:List SV) {E:Env} {H:List Entry} (_:Inv B E H) {vs:List Value} (_:Yk E ss vs) {gs:List Nat} (_:Loose B E H gs) {K:Shs l->List Entry->Prop} (_:Zqf l ss H K),Handed B l E H vs gs K
 | [],ss,E,H,hI,vs,hd,gs,hL,K,hk=>by
  simp only[Zqf] at hk;split at hk
  ·match vs,hd with
   | [],_=>exact ⟨E,H,(),[],Frz.refl E H,hI,⟨rfl,rfl⟩,hk,hL,ZmJ.nil _ _ _⟩
   | _::_,hd=>simp[Yk] at hd
  ·exact hk.elim
 | .dat t::r,ss,E,H,hI,vs,hd,gs,hL,K,hk=>by
  simp only[Zqf] at hk;split at hk
  ·rename_i s ss
   match vs,hd with
   | [],hd=>simp[Yk] at hd
   | v::vs,hd =>
    simp only[Yk] at hd;split at hk
    ·rename_i hc
     obtain ⟨hw,hag⟩:=hc;obtain ⟨E1,H1,cs,hf1,hI1,hd1,hk⟩:=ZAq hI hd.1 hw hk;obtain ⟨d,rest,v1,v2,e12,hr,hrest,hk⟩:=XH t cs _ _ hd1 hk;split at hk
     ·have hv2:v2=[]:=by cases v2 with
       | nil=>rfl
       | cons=>simp[Yk] at hrest
      subst hv2;rw[Uo] at e12;obtain ⟨h1,h2⟩:=Zud hd.1 hw hag;exact Handed.cons (s:=.dat t) (d:=d) (f:=[]) hf1 ⟨rfl,h1,h2,by rw[e12];exact hr⟩ (ZmJ.nil _ _ _) (Zmb r ss hI1 (ZM hf1.le _ _ hd.2) (hL.frz hf1) hk)
     ·exact hk.elim
    ·exact hk.elim
  ·exact hk.elim
 | .own e::r,ss,E,H,hI,vs,hd,gs,hL,K,hk=>by
  simp only[Zqf] at hk;split at hk
  ·rename_i s ss
   match vs,hd with
   | [],hd=>simp[Yk] at hd
   | v::vs,hd =>
    simp only[Yk] at hd;split at hk
    ·rename_i hc
     obtain ⟨hw,hag⟩:=hc;obtain ⟨E1,H1,d,f,hf1,hI1,hr,hk,hL1,hT,_⟩:=Vo hI (Zaa hd.1 hw) hL hk;exact Handed.cons hf1 (s:=.own e) ⟨Zud hd.1 hw hag,hr⟩ hT (Zmb r ss hI1 (ZM hf1.le _ _ hd.2) hL1 hk)
    ·exact hk.elim
  ·exact hk.elim
 | .back e::r,ss,E,H,hI,vs,hd,gs,hL,K,hk=>by
  simp only[Zqf] at hk;split at hk
  ·rename_i s ss
   match vs,hd with
   | [],hd=>simp[Yk] at hd
   | v::vs,hd =>
    simp only[Yk] at hd;split at hk
    ·rename_i hc
     obtain ⟨hw,hag⟩:=hc;obtain ⟨E1,H1,d,f,hf1,hI1,hr,hk,hL1,hT,_⟩:=Vo hI (Zaa hd.1 hw) hL hk;exact Handed.cons hf1 (s:=.back e) ⟨Zud hd.1 hw hag,hr⟩ hT (Zmb r ss hI1 (ZM hf1.le _ _ hd.2) hL1 hk)
    ·exact hk.elim
  ·exact hk.elim
 | .io e::r,ss,E,H,hI,vs,hd,gs,hL,K,hk=>by
  simp only[Zqf] at hk;split at hk
  ·rename_i id ss
   match vs,hd with
   | [],hd=>simp[Yk] at hd
   | v::vs,hd =>
    simp only[Yk] at hd;obtain ⟨en,he,hk⟩:=Xd H hk;split at hk
    ·rename_i cells
     rw[XA] at hk;have hv:=hd.1;simp only[den] at hv;obtain ⟨b,hb0,hv⟩:=hv;obtain ⟨b',cs0,T,e1,e2,e3⟩:=hI.ent id _ he;have:=hb0.symm.trans e1;simp at this;subst this;have t1:Frz E H E (H.set id .gone):=Frz.one he rfl hb0 rfl (Env.le.refl E) (λb hb=>.inl hb);have t3:=hL.take hI he rfl hb0 (f:=[b]) (by simp) (λg hg=>by
      simp at hg;subst hg;rfl)
     have t4:ZmJ E H (H.set id .gone) [b]:=λg hg=>by
      simp at hg;subst hg;exact ⟨id,_,_,he,rfl,hb0,rfl,ZAs he⟩
     obtain ⟨E1,H1,d,f,hf1,hI1,hr,hk,hL1,hT,_⟩:=Vo (hI.drop id) e3 t3 hk;refine Handed.cons (t1.trans hf1) (s:=.io e) (f:=b::f) ⟨b,cs0,T,f,hv,by rw[hf1.w];exact e2,hr,rfl⟩ ?_ (Zmb r ss hI1 (ZM hf1.le _ _ hd.2) (hL1.perm ?_) hk)
     ·exact ((t4.later hf1).append (ZmJ.after t1 hT)).sub (λg hg=>by simpa using hg)
     ·simp only[U0,Us]
      exact List.perm_middle
    ·exact hk.elim
  ·exact hk.elim
theorem Zrp {E:Env} {t:Ty} {v:Value} (hf:ZBE t v) {cs:List SV} (hd:Yk E cs v.cells.toList) {K:SV->Prop} (hk:Zvs t cs K):∃ s,den E s v/\K s:=by
 unfold Zvs at hk;split at hk
 ·rename_i ha
  obtain ⟨cs',rfl⟩:=hf.1 ha;exact ⟨.agg _,by simp only[den];exact ⟨cs'.toList,by simp,hd⟩,hk⟩
 ·rename_i ha
  have hv:=hf.2 (by simpa using ha);split at hk
  ·rename_i c r
   rw[hv] at hd;simp only[Yk] at hd;exact ⟨c,hd.1,hk⟩
  ·exact hk.elim
theorem ZCd {E:Env} {t:Ty} {d:t.den} {v:Value} (h:ZFR E.S E.w t d v) {K:SV->Prop} (hk:Zvs t (Zhe t d) K):∃ s,den E s v/\K s:=by
 obtain ⟨h1,h2,h3⟩:=h;have hd:=XE t d _ h3;unfold Zvs at hk;split at hk
 ·rename_i ha
  obtain ⟨cs,rfl⟩:=h1 ha;exact ⟨.agg _,by simp only[den];exact ⟨cs.toList,by simp,hd⟩,hk⟩
 ·rename_i ha
  have hv:=h2 (by simpa using ha);split at hk
  ·rename_i c r heq
   rw[heq,hv] at hd;simp only[Yk] at hd;exact ⟨c,hd.1,hk⟩
  ·exact hk.elim
theorem Zlx {B:Base} {E:Env}:∀ (e:Dp) (cs:List SV) (x:e.ty.den) {H:List Entry} (_:Inv B E H) {vs vr:List Value} (_:Yk E cs (vs++vr)) {f gs:List Nat} (_:ZjJ E.S E.w e x vs f) (_:Loose B E H (f++gs)) {K:List SV->List Entry->Prop} (_:ZgH e cs x H K),
  ∃ H' r,Inv B E H'/\Loose B E H' gs/\Yk E r vr/\K r H'
 | .flat t,cs,x,H,hI,vs,vr,hd,f,gs,⟨hf,hr⟩,hL,K,hk=>by
  simp only[ZgH,Zc6] at hk;have hl:=Qa t x vs hr;have:=Zac _ _ hd t.size;rw[<-hl,KV] at this;subst hf;exact ⟨H,_,hI,hL,this,by rw[hl];exact hk⟩
 | .ol et e,cs,d,H,hI,vs,vr,hd,f,gs,hr,hL,K,hk=>by
  have hr0:=hr;obtain ⟨v,xs,fps,ev,ho,hrs,ef⟩:=hr;subst ev;simp only[ZgH] at hk;split at hk
  ·rename_i r
   simp only[U0,Us,Yk,den] at hd;obtain ⟨rfl,hd⟩:=hd;refine ⟨H,r,hI,?_,hd,hk⟩;rcases ho.2 with ⟨_,hn⟩ | ⟨g,cap,cur,o,hv,_⟩
   ·have:d=[]:=UF hn
    subst this;have:fps=[]:=hrs.2;subst this;rw[ef] at hL;simpa[YJ] using hL
   ·simp at hv
  ·rename_i id r
   simp only[U0,Us,Yk,den] at hd;obtain ⟨⟨hid,_⟩,hd⟩:=hd;have hlt:id<H.length:=by
    have:=(Ub.1 hid).1;rw[<-hI.len];exact this
   obtain ⟨e1,h1,h2,h3,_⟩:=ZA5 e hI hlt hid hr0 hL hk;exact ⟨_,r,h1,h2,hd,h3⟩
  ·exact hk.elim
 | .mp kt vt,cs,d,H,hI,vs,vr,hd,f,gs,⟨b,es,clk,e1,e2,hh,hr⟩,hL,K,hk=>by
  subst e1;simp only[ZgH] at hk;split at hk
  ·rename_i id r
   simp only[U0,Us,Yk,den] at hd;obtain ⟨⟨hid,_⟩,hd⟩:=hd;rw[XA] at hk;have hlt:id<H.length:=by
    have:=(Ub.1 hid).1;rw[<-hI.len];exact this
   obtain ⟨h1,h2⟩:=hL.put hI hlt hid (.mpe kt vt d) (λ_ g hg=>by
    have hg:YJ (.map (some b))=some g:=hg;simp[YJ] at hg;rw[e2];simp[hg]) ⟨b,es,clk,hid,hh,hr⟩
   exact ⟨_,r,h1,h2,hd,hk⟩
  ·exact hk.elim
 | .pair a b,cs,d,H,hI,vs,vr,hd,f,gs,⟨v1,v2,f1,f2,ev,ef,h1,h2⟩,hL,K,hk=>by
  simp only[ZgH,Jc] at hk;subst ev;subst ef;rw[Ul] at hd hL;obtain ⟨H1,r,hI1,hL1,hd1,hk⟩:=Zlx a cs d.1 hI hd h1 hL hk;exact Zlx b r d.2 hI1 hd1 h2 hL1 hk
theorem ZrD {B:Base}:∀ (l:List Sh) (ss:List SV) (ios:Ios l) {E:Env} {H:List Entry} (_:Inv B E H) {vs:List Value} (_:Yk E ss vs) {fio gs:List Nat} (_:Zi9 E.S E.w l ios vs fio) (_:Loose B E H (fio++gs)) {K:List Entry->Prop} (_:Zzx l ss ios H K),
  ∃ E' H',E'.w=E.w/\E'.S=E.S/\Inv B E' H'/\E.le E'/\Loose B E' H' gs/\K H'
 | [],ss,ios,E,H,hI,vs,hd,fio,gs,hio,hL,K,hk=>by
  have:fio=[]:=hio;subst this;exact ⟨E,H,rfl,rfl,hI,Env.le.refl E,hL,hk⟩
 | .io e::r,ss,ios,E,H,hI,vs,hd,fio,gs,⟨v,vr,f,fr,ev,ef,⟨b,cs,T,f',a1,a2,a3,a4⟩,hio⟩,hL,K,hk=>by
  simp only[Zzx] at hk;subst ev;subst ef;subst a4;subst a1;split at hk
  ·rename_i id ss
   simp only[Yk,den] at hd;obtain ⟨⟨b',hid,hb'⟩,hd⟩:=hd;simp at hb';subst hb';simp only[Jc] at hk;have hL1:Loose B E H (f'++(b::(fr++gs))):=hL.perm (by
    simp only[U0,Ul];exact List.perm_middle.symm)
   obtain ⟨E1,H1,cells,hw1,hS1,hI1,hle1,hd1,hk,hL2,_⟩:=Jm e ios.1 hI a3 hL1 hk;rw[XA] at hk;have hid1:=hle1.ids _ _ hid;have hlt:id<H1.length:=by
    have:=(Ub.1 hid1).1;rw[<-hI1.len];exact this
   obtain ⟨hI2,hL3⟩:=Loose.put (f:=[b]) (gs:=fr++gs) hL2 hI1 hlt hid1 (.box cells) (λ_ g hg=>by
    have hg:some b=some g:=hg;simp at hg;simp[hg]) ⟨b,cs,T,hid1,by rw[hw1];exact a2,hd1⟩
   obtain ⟨E2,H2,hw2,hS2,hI3,hle2,hL4,hk⟩:=ZrD r ss ios.2 hI2 (ZM hle1 _ _ hd) (by rw[hS1,hw1];exact hio) hL3 hk;exact ⟨E2,H2,hw2.trans hw1,hS2.trans hS1,hI3,hle1.trans hle2,hL4,hk⟩
  ·exact hk.elim
 | .back e::r,ss,ios,E,H,hI,vs,hd,fio,gs,⟨v,vr,f,fr,ev,ef,⟨a1,a2⟩,hio⟩,hL,K,hk=>by
  simp only[Zzx] at hk;subst ev;subst ef;split at hk
  ·rename_i s ss
   simp only[Yk] at hd;split at hk
   ·rename_i hw
    simp only[Jc] at hk;rw[Ul] at hL;obtain ⟨H1,r',hI1,hL1,_,hk⟩:=Zlx e s.cells ios.1 hI (vs:=v.cells.toList) (vr:=[]) (by rw[Uo];exact Zaa hd.1 hw) a2 hL hk;exact ZrD r ss ios.2 hI1 hd.2 hio hL1 hk
   ·exact hk.elim
  ·exact hk.elim
 | .dat _::r,ss,ios,E,H,hI,vs,hd,fio,gs,⟨v,vr,ev,hio⟩,hL,K,hk=>by
  simp only[Zzx] at hk;subst ev;split at hk
  ·simp only[Yk] at hd
   exact ZrD r _ ios hI hd.2 hio hL hk
  ·exact hk.elim
 | .own _::r,ss,ios,E,H,hI,vs,hd,fio,gs,⟨v,vr,ev,hio⟩,hL,K,hk=>by
  simp only[Zzx] at hk;subst ev;split at hk
  ·simp only[Yk] at hd
   exact ZrD r _ ios hI hd.2 hio hL hk
  ·exact hk.elim
theorem Zmn {B:Base}:∀ (l:List Sh) (rs:Shs l) (us:List Value) {E:Env} {H:List Entry} (_:Inv B E H) {fp gs:List Nat} (_:ZeX E.S E.w l rs us fp) (_:Loose B E H (fp++gs)) {K:List SV->List Entry->Prop} (_:ZpJ l rs H K),
  ∃ E' H' ss,E'.w=E.w/\E'.S=E.S/\Inv B E' H'/\E.le E'/\Yk E' ss us/\K ss H'
 | [],rs,us,E,H,hI,fp,gs,hd,hL,K,hk=>by
  obtain ⟨rfl,rfl⟩:=hd;exact ⟨E,H,[],rfl,rfl,hI,Env.le.refl E,trivial,hk⟩
 | .dat t::r,rs,us,E,H,hI,fp,gs,⟨u,ur,f,fr,e,ef,⟨hf,h1⟩,h2⟩,hL,K,hk=>by
  subst e;subst hf;subst ef;simp only[ZpJ,Jc,Qm] at hk;obtain ⟨s,hs,hk⟩:=ZCd h1 hk;obtain ⟨E',H',ss,hw,hS,hI',hle,hds,hk⟩:=Zmn r rs.2 ur hI h2 hL hk;exact ⟨E',H',s::ss,hw,hS,hI',hle,⟨Zi1 hle s u hs,hds⟩,hk⟩
 | .own e::r,rs,us,E,H,hI,fp,gs,⟨u,ur,f,fr,ev,ef,⟨hform,h1⟩,h2⟩,hL,K,hk=>by
  subst ev;subst ef;simp only[ZpJ,Jc] at hk;rw[Ul] at hL;obtain ⟨E1,H1,cs,hw1,hS1,hI1,hle1,hd1,hk,hL1,_⟩:=Jm e rs.1 hI h1 hL hk;obtain ⟨s,hs,hk⟩:=Zrp hform hd1 hk;obtain ⟨E',H',ss,hw,hS,hI',hle,hds,hk⟩:=Zmn r rs.2 ur hI1 (by rw[hS1,hw1];exact h2) hL1 hk;exact ⟨E',H',s::ss,hw.trans hw1,hS.trans hS1,hI',hle1.trans hle,⟨Zi1 hle s u hs,hds⟩,hk⟩
 | .back e::r,rs,us,E,H,hI,fp,gs,⟨u,ur,f,fr,ev,ef,⟨hform,h1⟩,h2⟩,hL,K,hk=>by
  subst ev;subst ef;simp only[ZpJ,Jc] at hk;rw[Ul] at hL;obtain ⟨E1,H1,cs,hw1,hS1,hI1,hle1,hd1,hk,hL1,_⟩:=Jm e rs.1 hI h1 hL hk;obtain ⟨s,hs,hk⟩:=Zrp hform hd1 hk;obtain ⟨E',H',ss,hw,hS,hI',hle,hds,hk⟩:=Zmn r rs.2 ur hI1 (by rw[hS1,hw1];exact h2) hL1 hk;exact ⟨E',H',s::ss,hw.trans hw1,hS.trans hS1,hI',hle1.trans hle,⟨Zi1 hle s u hs,hds⟩,hk⟩
 | .io e::r,rs,us,E,H,hI,fp,gs,⟨u,ur,f,fr,ev,ef,⟨b,cs,T,f',a1,a2,a3,a4⟩,h2⟩,hL,K,hk=>by
  subst ev;subst ef;subst a4;subst a1;simp only[ZpJ,Jc] at hk;have hL1:Loose B E H (f'++(b::(fr++gs))):=hL.perm (by
   simp only[U0,Ul];exact List.perm_middle.symm)
  obtain ⟨E1,H1,cells,hw1,hS1,hI1,hle1,hd1,hk,hL2,_⟩:=Jm e rs.1 hI a3 hL1 hk;simp only[ZtL,ZdA,Zcb,Uw] at hk;have hid:(E1.ids++[Value.pointer (some ⟨b,0,none⟩)])[H1.length]?=some (.pointer (some ⟨b,0,none⟩)):=by rw[<-hI1.len];simp
  have hle2:=ZmQ E1 (.pointer (some ⟨b,0,none⟩));obtain ⟨hI2,hL3⟩:=Loose.push (f:=[b]) (gs:=fr++gs) hL2 hI1 (.pointer (some ⟨b,0,none⟩)) (.box cells) (λ_ g hg=>by
   have hg:some b=some g:=hg;simp at hg;simp[hg]) ⟨b,cs,T,hid,by show E1.w.heap[b]?=_;rw[hw1];exact a2,ZM hle2 _ _ hd1⟩
  obtain ⟨E',H',ss,hw,hS,hI',hle,hds,hk⟩:=Zmn r rs.2 ur hI2 (by
   show ZeX E1.S E1.w r rs.2 ur fr;rw[hS1,hw1];exact h2) hL3 hk
  refine ⟨E',H',.ptr H1.length 0::ss,hw.trans hw1,hS.trans hS1,hI',hle1.trans (hle2.trans hle),⟨Zi1 hle _ _ ?_,hds⟩,hk⟩;simp only[den];exact ⟨b,hid,rfl⟩
theorem ZCQ {E:Env} {ss:List SV} {us:List Value} (h:Yk E ss us) {v:Value} (hv:retv us v) {K:SV->Prop} (hk:ZAV ss K):∃ s,den E s v/\K s:=by
 unfold ZAV at hk;unfold retv at hv;split at hk
 ·rename_i s
  match us,h with
  | [u],h=>simp only[Yk] at h;subst hv;exact ⟨s,h.1,hk⟩
  | [],h=>simp[Yk] at h
  | _::_::_,h=>simp[Yk] at h
 ·rename_i hne
  have hl:=Y5 _ _ h;split at hv
  ·rename_i u
   match ss,hl with
   | [s],_=>exact absurd rfl (hne s)
  ·subst hv
   exact ⟨.tup ss,by simp only[den];exact ⟨us,rfl,h⟩,hk⟩
theorem Loose.behind {B:Base} {E:Env} {H:List Entry} {fp:List Nat} (hL:Loose B E H fp) (hI:Inv B E H) {w':World} {S0:Nat->Prop} (hk:Keeps ⟨E.w,S0,λb=>b∈fp,[]⟩ w') {S2:Nat->Prop} (hS:∀ b,E.S b->S2 b)
  (hS2:∀ b,S2 b->b<w'.heap.size/\(b<E.w.heap.size->E.S b\/b∈fp)) {l:List Nat} (hl:l.Nodup) (hfree:∀ g∈l,¬S2 g/\g<w'.heap.size/\(E.w.heap.size<=g\/g∈fp)) :
  E.le ⟨S2,w',E.ids⟩/\Inv B ⟨S2,w',E.ids⟩ H/\Loose B ⟨S2,w',E.ids⟩ H l:=by
 have hle:E.le ⟨S2,w',E.ids⟩:=⟨hS,λb hb=>hk.block b (hI.Slt b hb) (λhp=>(hL.free b hp).1 hb),λ_ _ hh=>hh⟩;refine ⟨hle,?_,hl,λg hg=>?_,λg hg j e v hj hlv hv hb=>?_⟩
 ·exact
   {keeps:=⟨hk.os.trans hI.keeps.os,hk.tape.trans hI.keeps.tape,hk.output.trans hI.keeps.output,Kv hI.keeps.size hk.size,λb hb hio =>
     (hk.block b (UN hb hI.keeps.size) (λhp=>by
      rcases (hL.free b hp).2.1 with h1 | h1
      ·omega
      ·exact hio h1)).trans (hI.keeps.block b hb hio)⟩
    Slt:=λb hb=>(hS2 b hb).1
    Sold:=λb hb hlt=>by
     rcases (hS2 b hb).2 (UN hlt hI.keeps.size) with h | h
     ·exact hI.Sold b h hlt
     ·rcases (hL.free b h).2.1 with h1 | h1
      ·omega
      ·exact .inr h1
    len:=hI.len
    pin:=hI.pin
    ent:=λj e hj=>Ze8 hle j e (λhlv v g hv hb=>hk.block g (hI.free j e v g hj hlv hv hb).2.2 (λhp=>hL.apart g hp j e v hj hlv hv hb)) (hI.ent j e hj)
    free:=λj e v g hj hlv hv hb=>by
     obtain ⟨a,b,c⟩:=hI.free j e v g hj hlv hv hb;refine ⟨λhs=>?_,b,UN c hk.size⟩;rcases (hS2 g hs).2 c with h | h
     ·exact a h
     ·exact hL.apart g h j e v hj hlv hv hb
    sep:=hI.sep}
 ·obtain ⟨a,b,c⟩:=hfree g hg
  refine ⟨a,?_,b⟩;rcases c with c | c
  ·exact .inl (Kv hI.keeps.size c)
  ·exact (hL.free g c).2.1
 ·obtain ⟨_,_,c⟩:=hfree g hg
  rcases c with c | c
  ·have:=(hI.free j e v g hj hlv hv hb).2.2;omega
  ·exact hL.apart g c j e v hj hlv hv hb
def Ze7:List Sh->Bool
 | []=>true
 | .dat _::r=>Ze7 r
 | _::_=>false
theorem ZpK {S:Nat->Prop} {w:World}:∀ (l:List Sh) (d:Shs l) (vs:List Value) (fp:List Nat),Ze7 l=true->ZeX S w l d vs fp->fp=[]
 | [],_,_,_,_,h=>h.2
 | .dat _::r,_,_,_,hd,⟨v,vr,f,fr,e,ef,⟨h1,_⟩,h2⟩=>by rw[ef,h1,ZpK r _ _ _ hd h2];rfl
 | .own _::_,_,_,_,h,_=>by simp[Ze7] at h
 | .io _::_,_,_,_,h,_=>by simp[Ze7] at h
 | .back _::_,_,_,_,h,_=>by simp[Ze7] at h
def Zk9:List Sh->Bool
 | []=>true
 | .dat _::r=>Zk9 r
 | .io (.flat _)::r=>Zk9 r
 | _::_=>false
def Zn9:List Sh->List Bool
 | []=>[]
 | .io _::r=>true::Zn9 r
 | _::r=>false::Zn9 r
def pick {α:Type}:List Bool->List α->List α
 | true::m,x::r=>x::pick m r
 | false::m,_::r=>pick m r
 | _,_=>[]
theorem ZuG {α β:Type} (f:α->β):∀ (m:List Bool) (l:List α),pick m (l.map f)=(pick m l).map f
 | [],l=>by cases l<;>rfl
 | true::m,[]=>rfl
 | false::m,[]=>rfl
 | true::m,x::r=>by simp only[U5,pick,ZuG f m r]
 | false::m,x::r=>by simp only[U5,pick,ZuG f m r]
theorem ZnD {S:Nat->Prop} {w:World}:∀ (l:List Sh) (d:Shs l) (vs:List Value) (fp:List Nat),Zk9 l=true->ZeX S w l d vs fp->∀ g∈fp,∃ v∈pick (Zn9 l) vs,YJ v=some g
 | [],_,_,_,_,h,g,hg=>by rw[h.2] at hg;cases hg
 | .dat _::r,_,_,_,hd,⟨v,vr,f,fr,e,ef,⟨h1,_⟩,h2⟩,g,hg=>by
  rw[ef,h1,Us] at hg;rw[e];exact ZnD r _ _ _ hd h2 g hg
 | .io (.flat t)::r,_,_,_,hd,⟨v,vr,f,fr,e,ef,⟨b,cs,T,f',hv,_,hr,hf⟩,h2⟩,g,hg=>by
  have hf':f'=[]:=hr.1;rw[ef,hf,hf'] at hg;rw[e];rcases UB.1 hg with hg | hg
  ·rw[Uu] at hg
   exact ⟨v,by simp[Zn9,pick],by rw[hv,hg];rfl⟩
  ·obtain ⟨u,hu,hb⟩:=ZnD r _ _ _ hd h2 g hg
   exact ⟨u,by simp only[Zn9,pick];exact List.mem_cons_of_mem _ hu,hb⟩
 | .io (.ol _ _)::_,_,_,_,h,_,_,_=>by simp[Zk9] at h
 | .io (.pair _ _)::_,_,_,_,h,_,_,_=>by simp[Zk9] at h
 | .io (.mp _ _)::_,_,_,_,h,_,_,_=>by simp[Zk9] at h
 | .own _::_,_,_,_,h,_,_,_=>by simp[Zk9] at h
 | .back _::_,_,_,_,h,_,_,_=>by simp[Zk9] at h
theorem ZB0 {P:Program} {B:Base} {E:Env} {H:List Entry} (hI:Inv B E H) {f:FuncId} {C:Ctr} (hC:Zc P f C) {ss:List SV} {vs:List Value} (hd:Yk E ss vs)
  {K:SV->List Entry->Prop} (hk:ZDW C ss H K) :
  Calls P f vs.toArray E.w λe w'=>∃ v E' H' s,e=.returned v/\E'.w=w'/\Inv B E' H'/\E.le E'/\den E' s v/\K s H'/\(Ze7 C.args=true->Grow E.w w')/\(Zk9 C.args=true->∀ b,b<E.w.heap.size->(∀ v∈pick (Zn9 C.args) vs,YJ v≠some b)->w'.heap[b]?=E.w.heap[b]?):=by
 unfold ZDW at hk;obtain ⟨E1,H1,as,fp,hf1,hI1,has,hk,hL1,hT⟩:=Zmb C.args ss hI hd (Loose.none B E H) hk;rw[Uo] at hL1;have hcall:=hC.2 E1.w E1.S vs as fp _ hI1.Slt has hL1.nodup (λg hg=>⟨(hL1.free g hg).1,(hL1.free g hg).2.2⟩) hk;rw[hf1.w] at hcall;refine hcall.mono ?_;rintro e w' ⟨v,us,rs,ios,S',fr,fio,he,hv,hk,hkeeps,hS1,hS2,hrets,hios,hnd,hfree⟩;have hgrow:Ze7 C.args=true->Grow E.w w':=by
  intro hda b hb;refine hkeeps.block b hb ?_;rw[ZpK _ _ _ _ hda has];simp
 have hstay:Zk9 C.args=true->∀ b,b<E.w.heap.size->(∀ v∈pick (Zn9 C.args) vs,YJ v≠some b)->w'.heap[b]?=E.w.heap[b]?:=by
  intro hfl b hb hne;refine hkeeps.block b hb (λhm=>?_);obtain ⟨u,hu,hbu⟩:=ZnD _ _ _ _ hfl has b hm;exact hne u hu hbu
 have fin:∀ (E0:Env) (H0:List Entry) (S2:Nat->Prop),E0.w=E.w->Inv B E0 H0->E.le E0->Loose B E0 H0 fp->(∀ b,E0.S b->S2 b)->(∀ b,S2 b->S' b)->(∀ b,S2 b->b<w'.heap.size/\(b<E.w.heap.size->E0.S b\/b∈fp))->
   ZeX S2 w' C.rets rs us fr->Zi9 S2 w' C.args ios vs fio->
   (Zzx C.args ss ios H0 λH2=>ZpJ C.rets rs H2 λss' H3=>ZAV ss' λs=>K s H3)->
   ∃ v E' H' s,e=.returned v/\E'.w=w'/\Inv B E' H'/\E.le E'/\den E' s v/\K s H'/\(Ze7 C.args=true->Grow E.w w')/\(Zk9 C.args=true->∀ b,b<E.w.heap.size->(∀ v∈pick (Zn9 C.args) vs,YJ v≠some b)->w'.heap[b]?=E.w.heap[b]?):=by
  intro E0 H0 S2 hw0 hI0 hle0 hL0 hSa hSb hSc hr2 hi2 hk;obtain ⟨hleb,hI2,hL2⟩:=hL0.behind hI0 (w':=w') (S0:=E1.S) (by rw[hw0];exact hkeeps) (S2:=S2) hSa (by rw[hw0];exact hSc) hnd (λg hg=>by
   obtain ⟨a,b,c⟩:=hfree g hg;exact ⟨λhs=>a (hSb g hs),b,by rw[hw0];exact c⟩)
  obtain ⟨E2,H2,hw2,hS2',hI3,hle2,hL3,hk⟩:=ZrD C.args ss ios hI2 (ZM (hle0.trans hleb) _ _ hd) hi2 hL2 hk;obtain ⟨E3,H3,ss',hw3,hS3,hI4,hle3,hds,hk⟩:=Zmn C.rets rs us hI3 (gs:=[]) (by rw[hS2',hw2];exact hr2) (by rw[Uo];exact hL3) hk;obtain ⟨s,hs,hk⟩:=ZCQ hds hv hk;exact ⟨v,E3,H3,s,he,hw3.trans hw2,hI4,((hle0.trans hleb).trans hle2).trans hle3,hs,hk,hgrow,hstay⟩
 split at hk
 ·rename_i hflat
  simp only[Ur] at hflat;obtain ⟨hIr,hLr⟩:=Zxf hI hf1 hL1 hT;rw[Zvw] at hk;exact fin E (ZqM H H1) E.S rfl hIr (Env.le.refl E) hLr (λb h=>h) (λb h=>hS1 b (hf1.le.S b h)) (λb hb=>⟨UN (hI.Slt b hb) hkeeps.size,λ_=>.inl hb⟩)
   (ZoH _ hflat.1 _ _ _ hrets) (Zfk _ hflat.2 _ _ _ hios) hk
 ·exact fin E1 H1 S' hf1.w hI1 hf1.le hL1 hS1 (λb h=>h) (λb hb=>by
   obtain ⟨a,c⟩:=hS2 b hb;exact ⟨a,c⟩) hrets hios hk
mutual
def ranged (n:Nat):SV->Prop
 | .ptr id _=>id<n
 | .own id=>id<n
 | .mown id=>id<n
 | .oep id _ _ _=>id<n
 | .fptr cs=>Zet n cs
 | .agg cs=>Zet n cs
 | .tup cs=>Zet n cs
 | .fn _ cs=>Zet n cs
 | _=>True
def Zet (n:Nat):List SV->Prop
 | []=>True
 | c::cs=>ranged n c/\Zet n cs
end
mutual
theorem ZyR {E:Env}:∀ (s:SV) (v:Value),den E s v->ranged E.ids.length s
 | .bot,_,_=>by simp only[ranged]
 | .int _ _,_,_=>by simp only[ranged]
 | .bool _,_,_=>by simp only[ranged]
 | .blit _,_,_=>by simp only[ranged]
 | .str _,_,_=>by simp only[ranged]
 | .sl _ _,_,_=>by simp only[ranged]
 | .nsl,_,_=>by simp only[ranged]
 | .nilp,_,_=>by simp only[ranged]
 | .nptr _ _,_,_=>by simp only[ranged]
 | .mp _ _ _,_,_=>by simp only[ranged]
 | .mown id,_,h=>by simp only[den] at h;simp only[ranged];exact (Ub.1 h.1).1
 | .ptr id _,_,h=>by simp only[den] at h;obtain ⟨b,e,_⟩:=h;simp only[ranged];exact (Ub.1 e).1
 | .own id,_,h=>by simp only[den] at h;simp only[ranged];exact (Ub.1 h.1).1
 | .oep id _ _ _,_,h=>by simp only[den] at h;obtain ⟨b,bo,n,c,e,_⟩:=h;simp only[ranged];exact (Ub.1 e).1
 | .fptr cs,_,h=>by simp only[den] at h;obtain ⟨p,vs,_,_,_,_,h⟩:=h;simp only[ranged];exact ZaG cs vs h
 | .agg cs,_,h=>by simp only[den] at h;obtain ⟨vs,_,h⟩:=h;simp only[ranged];exact ZaG cs vs h
 | .tup cs,_,h=>by simp only[den] at h;obtain ⟨vs,_,h⟩:=h;simp only[ranged];exact ZaG cs vs h
 | .fn _ cs,_,h=>by simp only[den] at h;obtain ⟨vs,_,h⟩:=h;simp only[ranged];exact ZaG cs vs h
theorem ZaG {E:Env}:∀ (cs:List SV) (vs:List Value),Yk E cs vs->Zet E.ids.length cs
 | [],_,_=>by simp only[Zet]
 | c::cs,v::vs,h=>by simp only[Yk] at h;simp only[Zet];exact ⟨ZyR c v h.1,ZaG cs vs h.2⟩
 | _::_,[],h=>by simp[Yk] at h
end
mutual
theorem Zz8 {E:Env} {n:Nat}:∀ (s:SV) (v:Value),ranged n s->den E s v->den ⟨E.S,E.w,E.ids.take n⟩ s v
 | .bot,_,_,h=>h
 | .int _ _,_,_,h=>h
 | .bool _,_,_,h=>h
 | .blit _,_,_,h=>h
 | .str _,_,_,h=>h
 | .sl _ _,_,_,h=>h
 | .nsl,_,_,h=>h
 | .nilp,_,_,h=>h
 | .nptr _ _,_,_,h=>h
 | .mp _ _ _,_,_,h=>h
 | .mown id,_,hs,h=>by
  simp only[den] at h ⊢;simp only[ranged] at hs;exact ⟨by rw[UA,Uc hs];exact h.1,h.2⟩
 | .ptr id _,_,hs,h=>by
  simp only[den] at h ⊢;simp only[ranged] at hs;obtain ⟨b,e,e2⟩:=h;exact ⟨b,by rw[UA,Uc hs];exact e,e2⟩
 | .own id,_,hs,h=>by
  simp only[den] at h ⊢;simp only[ranged] at hs;exact ⟨by rw[UA,Uc hs];exact h.1,h.2⟩
 | .oep id _ _ _,_,hs,h=>by
  simp only[den] at h ⊢;simp only[ranged] at hs;obtain ⟨b,bo,m,c,e,e2⟩:=h;exact ⟨b,bo,m,c,by rw[UA,Uc hs];exact e,e2⟩
 | .fptr cs,_,hs,h=>by
  simp only[den] at h ⊢;simp only[ranged] at hs;obtain ⟨p,vs,a,b,c,d,h⟩:=h;exact ⟨p,vs,a,b,c,d,Zb1 cs vs hs h⟩
 | .agg cs,_,hs,h=>by simp only[den] at h ⊢;simp only[ranged] at hs;obtain ⟨vs,a,h⟩:=h;exact ⟨vs,a,Zb1 cs vs hs h⟩
 | .tup cs,_,hs,h=>by simp only[den] at h ⊢;simp only[ranged] at hs;obtain ⟨vs,a,h⟩:=h;exact ⟨vs,a,Zb1 cs vs hs h⟩
 | .fn _ cs,_,hs,h=>by simp only[den] at h ⊢;simp only[ranged] at hs;obtain ⟨vs,a,h⟩:=h;exact ⟨vs,a,Zb1 cs vs hs h⟩
theorem Zb1 {E:Env} {n:Nat}:∀ (cs:List SV) (vs:List Value),Zet n cs->Yk E cs vs->Yk ⟨E.S,E.w,E.ids.take n⟩ cs vs
 | [],[],_,_=>trivial
 | c::cs,v::vs,hs,h=>by simp only[Yk] at h ⊢;simp only[Zet] at hs;exact ⟨Zz8 c v hs.1 h.1,Zb1 cs vs hs.2 h.2⟩
 | _::_,[],_,h=>by simp[Yk] at h
 | [],_::_,_,h=>by simp[Yk] at h
end
def ZwI (n:Nat):Entry->Prop
 | .box cells=>Zet n cells
 | .fbx cells=>Zet n cells
 | .hole _ _ _ _ cells _=>Zet n cells
 | .hsp _ _ _ _ cells _=>Zet n cells
 | _=>True
theorem ZwH {E:Env} {i:Nat} {e:Entry} (h:ZxN E i e):ZwI E.ids.length e:=by
 cases e with
 | box cells=>obtain ⟨b,cs,T,_,_,h⟩:=h;exact ZaG _ _ h
 | fbx cells=>obtain ⟨b,cs,T,_,_,_,h⟩:=h;exact ZaG _ _ h
 | hole et e d i cells fp=>obtain ⟨_,_,_,_,_,_,_,_,_,_,_,_,_,_,_,_,h,_⟩:=h;exact ZaG _ _ h
 | hsp et e d i cells fp=>obtain ⟨_,_,_,_,_,_,_,_,_,_,_,_,_,_,_,h,_⟩:=h;exact ZaG _ _ h
 | _=>trivial
theorem Inv.trunc {B:Base} {E:Env} {H:List Entry} (h:Inv B E H) (n:Nat) (hn:B.pin.length<=n) (hs:∀ e∈H.take n,ZwI n e):Inv B ⟨E.S,E.w,E.ids.take n⟩ (H.take n):=by
 have hH:∀ (i:Nat) (e:Entry),(H.take n)[i]?=some e->i<n/\H[i]?=some e:=by
  intro i e hi;rw[UA] at hi;split at hi
  ·exact ⟨‹_›,hi⟩
  ·cases hi
 have hid:∀ (i:Nat) (v:Value),i<n->E.ids[i]?=some v->(E.ids.take n)[i]?=some v:=by
  intro i v hi hv;rw[UA,Uc hi];exact hv
 have hid':∀ (i:Nat) (v:Value),(E.ids.take n)[i]?=some v->E.ids[i]?=some v:=by
  intro i v hv;rw[UA] at hv;split at hv
  ·exact hv
  ·cases hv
 exact
  {keeps:=h.keeps,Slt:=h.Slt,Sold:=h.Sold,len:=by simp[h.len]
   pin:=λi v hv=>hid i v (UN (Ub.1 hv).1 hn) (h.pin i v hv)
   ent:=λi e hi=>by
    have hmem:=Ue hi;obtain ⟨hlt,hi'⟩:=hH i e hi;have he:=h.ent i e hi';cases e with
    | gone=>trivial
    | box cells =>
     obtain ⟨b,cs,T,a1,a2,a3⟩:=he;exact ⟨b,cs,T,hid _ _ hlt a1,a2,Zb1 _ _ (hs _ hmem) a3⟩
    | arr et t d=>obtain ⟨v,xs,a1,a2,a3⟩:=he;exact ⟨v,xs,hid _ _ hlt a1,a2,a3⟩
    | frz t d=>obtain ⟨v,a1,a2⟩:=he;exact ⟨v,hid _ _ hlt a1,a2⟩
    | mpe k v d=>obtain ⟨b,es,clk,a1,a2⟩:=he;exact ⟨b,es,clk,hid _ _ hlt a1,a2⟩
    | frm k v d=>obtain ⟨u,a1,a2⟩:=he;exact ⟨u,hid _ _ hlt a1,a2⟩
    | fbx cells =>
     obtain ⟨b,cs,T,a1,aS,a2,a3⟩:=he;exact ⟨b,cs,T,hid _ _ hlt a1,aS,a2,Zb1 _ _ (hs _ hmem) a3⟩
    | darr et e d fp=>obtain ⟨v,xs,fps,a1,a2⟩:=he;exact ⟨v,xs,fps,hid _ _ hlt a1,a2⟩
    | hole et e d i cells fp =>
     obtain ⟨v,xs,x1,vx,x2,f1,f2,a1,a2,a3,a4,a5,a6,a7,a8,a9,a10,a11⟩:=he;exact ⟨v,xs,x1,vx,x2,f1,f2,hid _ _ hlt a1,a2,a3,a4,a5,a6,a7,a8,a9,Zb1 _ _ (hs _ hmem) a10,a11⟩
    | spl et e d n fp=>obtain ⟨v,a1,a2⟩:=he;exact ⟨v,hid _ _ hlt a1,a2⟩
    | hsp et e d i cells fp =>
     obtain ⟨v,xs,x1,vx,x2,f1,a1,a2,a3,a4,a5,a6,a7,a8,a9,a10,a11⟩:=he;exact ⟨v,xs,x1,vx,x2,f1,hid _ _ hlt a1,a2,a3,a4,a5,a6,a7,a8,a9,Zb1 _ _ (hs _ hmem) a10,a11⟩
   free:=λi e v g hi hl hv hb=>h.free i e v g (hH i e hi).2 hl (hid' _ _ hv) hb
   sep:=λi j ei ej vi vj g hi hj hli hlj hvi hvj=>h.sep i j ei ej vi vj g (hH i ei hi).2 (hH j ej hj).2 hli hlj (hid' _ _ hvi) (hid' _ _ hvj)}
inductive Loc
 | reg (r:Nat) (s:Sh)
 | cell (id off:Nat) (t:Ty)
 | cello (id off:Nat) (e:Dp)
 | ent (id:Nat) (et:TypeId) (e:Dp)
 | entm (id:Nat) (k v:Ty)
 | splt (id:Nat) (et:TypeId) (e:Dp)
def Loc.ZGi (n:Nat):Loc->Prop
 | .ent id _ _=>id<n
 | .entm id _ _=>id<n
 | .splt id _ _=>id<n
 | _=>True
@[reducible] def Loc.den:Loc->Type
 | .reg _ s=>s.den
 | .cell _ _ t=>t.den
 | .cello _ _ e=>e.ty.den
 | .ent _ _ e=>List e.ty.den
 | .entm _ k v=>List (k.den×v.den)
 | .splt _ _ e=>List e.ty.den×Int
@[reducible] def Zwv:List Loc->Type
 | []=>Unit
 | l::r=>l.den×Zwv r
def Zkg:(ls:List Loc)->List SV->List Entry->(Zwv ls->List Entry->Prop)->Prop
 | [],_,H,K=>K () H
 | .reg r (.dat t)::q,regs,H,K=>Zqj regs r λs=>VQ [s] H λcs H1=>X9 t cs λd rest=>match rest with
   | []=>Zkg q regs H1 λds H2=>K (d,ds) H2
   | _=>False
 | .reg r (.own e)::q,regs,H,K=>Zqj regs r λs=>if s.whole=true/\e.ty.agg=s.isAgg then closeAll e s.cells H λd H1=>Zkg q regs H1 λds H2=>K (d,ds) H2 else False
 | .reg _ (.io _)::_,_,_,_=>False
 | .reg _ (.back _)::_,_,_,_=>False
 | .cell id off t::q,regs,H,K=>Zi3 H id λe=>match e with
   | .box cells=>Zqj cells off λs=>VQ [s] H λcs H1=>X9 t cs λd rest=>match rest with
    | []=>Zkg q regs H1 λds H2=>K (d,ds) H2
    | _=>False
   | _=>False
 | .cello id off e::q,regs,H,K=>Zi3 H id λen=>match en with
   | .box cells=>Zqj cells off λs=>closeAll e [s] H λd H1=>Zkg q regs H1 λds H2=>K (d,ds) H2
   | _=>False
 | .ent id et e::q,regs,H,K=>closeAll (.ol et e) [.own id] H λd H1=>Zkg q regs H1 λds H2=>K (d,ds) H2
 | .entm id k v::q,regs,H,K=>closeAll (.mp k v) [.mown id] H λd H1=>Zkg q regs H1 λds H2=>K (d,ds) H2
 | .splt id et e::q,regs,H,K=>ZzY et e id H λd n H1=>Zkg q regs H1 λds H2=>K ((d,n),ds) H2
def ZHS (t:Ty) (d:t.den) (K:SV->Prop):Prop:=VD t d λcs=>match cs with
 | [c]=>K c
 | _=>False
def Zve:(ls:List Loc)->Zwv ls->List SV->List Entry->(List SV->List Entry->Prop)->Prop
 | [],_,regs,H,K=>K regs H
 | .reg r (.dat t)::q,v,regs,H,K=>splitK v λx v'=>ZHS t x λc=>Zzj regs r c λregs'=>Zve q v' regs' H K
 | .reg r (.own e)::q,v,regs,H,K=>splitK v λx v'=>Vm e x H λcs H1=>Zvs e.ty cs λs=>Zzj regs r s λregs'=>Zve q v' regs' H1 K
 | .reg _ (.io _)::_,_,_,_,_=>False
 | .reg _ (.back _)::_,_,_,_,_=>False
 | .cell id off t::q,v,regs,H,K=>splitK v λx v'=>ZHS t x λc=>Zi3 H id λe=>match e with
   | .box cells=>Zzj cells off c λcells'=>Zkk H id (.box cells') λH'=>Zve q v' regs H' K
   | _=>False
 | .cello id off e::q,v,regs,H,K=>splitK v λx v'=>Vm e x H λcs H1=>match cs with
   | [s]=>Zi3 H1 id λen=>match en with
    | .box cells=>Zzj cells off s λcells'=>Zkk H1 id (.box cells') λH'=>Zve q v' regs H' K
    | _=>False
   | _=>False
 | .ent id et e::q,v,regs,H,K=>splitK v λx v'=>ZEv et e id x H λH'=>Zve q v' regs H' K
 | .entm id k u::q,v,regs,H,K=>splitK v λx v'=>Zkk H id (.mpe k u x) λH'=>Zve q v' regs H' K
 | .splt id et e::q,v,regs,H,K=>splitK v λx v'=>∀ fp:List Nat,Zkk H id (.spl et e x.1 x.2 fp) λH'=>Zve q v' regs H' K
def ZqJ:List Loc->List Entry->(List Entry->Prop)->Prop
 | [],H,K=>K H
 | .cell id off _::q,H,K=>Zi3 H id λe=>match e with
   | .box cells=>Zzj cells off .bot λcells'=>Zkk H id (.box cells') λH'=>ZqJ q H' K
   | _=>False
 | .cello id off _::q,H,K=>Zi3 H id λe=>match e with
   | .box cells=>Zzj cells off .bot λcells'=>Zkk H id (.box cells') λH'=>ZqJ q H' K
   | _=>False
 | .reg _ _::q,H,K=>ZqJ q H K
 | .ent _ _ _::q,H,K=>ZqJ q H K
 | .entm _ _ _::q,H,K=>ZqJ q H K
 | .splt _ _ _::q,H,K=>ZqJ q H K
def Zza:List Nat->List SV->(List SV->Prop)->Prop
 | [],regs,K=>K regs
 | r::q,regs,K=>Zzj regs r .bot λregs'=>Zza q regs' K
def ZlS:List Loc->List Nat->(List Nat->Prop)->Prop
 | [],W,K=>K W
 | .reg r _::q,W,K=>ZlS q W λW'=>K (r::W')
 | .cell _ _ _::q,W,K=>ZlS q W K
 | .cello _ _ _::q,W,K=>ZlS q W K
 | .ent _ _ _::q,W,K=>ZlS q W K
 | .entm _ _ _::q,W,K=>ZlS q W K
 | .splt _ _ _::q,W,K=>ZlS q W K
theorem Zuz {E:Env}:∀ (W:List Nat) (regs:List SV) (vs:List Value),Yk E regs vs->∀ {K:List SV->Prop},Zza W regs K->∃ regs',Yk E regs' vs/\K regs'
 | [],regs,vs,hd,K,hk=>⟨regs,hd,hk⟩
 | r::W,regs,vs,hd,K,hk=>by
  simp only[Zza,Zf7] at hk;have hd':Yk E (regs.set r .bot) vs:=by
   by_cases hr:r<vs.length
   ·have:=Zgj _ _ hd r .bot vs[r] (by simp only[den])
    simpa using this
   ·have hl:=Y5 _ _ hd
    rw[KG (by omega)];exact hd
  exact Zuz W _ vs hd' hk
theorem Inv.weaken {B:Base} {E:Env} {H:List Entry} (h:Inv B E H) {id:Nat} {cells cells':List SV} (hi:H[id]?=some (.box cells)) (hc:∀ b cs T,E.ids[id]?=some (.pointer (some ⟨b,0,none⟩))->E.w.heap[b]?=some (.cells cs T (0,0))->Yk E cells cs.toList->Yk E cells' cs.toList) :
  Inv B E (H.set id (.box cells')):=by
 have hlt:id<H.length:=(Ub.1 hi).1;have old:∀ (j:Nat) (e:Entry),(H.set id (.box cells'))[j]?=some e->∃ e0,H[j]?=some e0/\(e.live=true->e0.live=true)/\(j≠id->e=e0)/\(j=id->e=.box cells'/\e0=.box cells)/\(∀ v g,ZjO e v g->ZjO e0 v g):=by
  intro j e hj;by_cases hji:id=j
  ·subst hji
   rw[Ut hlt] at hj;simp at hj;subst hj;exact ⟨_,hi,λ_=>rfl,λhne=>absurd rfl hne,λ_=>⟨rfl,rfl⟩,λv g h=>h⟩
  ·rw[UH hji] at hj
   exact ⟨e,hj,λh=>h,λ_=>rfl,λe=>absurd e.symm hji,λv g h=>h⟩
 exact
  {keeps:=h.keeps,Slt:=h.Slt,Sold:=h.Sold,len:=by simp[h.len],pin:=h.pin
   ent:=λj e hj=>by
    obtain ⟨e0,hj0,_,hne,heq,_⟩:=old j e hj;by_cases hji:j=id
    ·obtain ⟨rfl,rfl⟩:=heq hji
     obtain ⟨b,cs,T,a1,a2,a3⟩:=h.ent j _ hj0;subst hji;exact ⟨b,cs,T,a1,a2,hc b cs T a1 a2 a3⟩
    ·rw[hne hji];exact h.ent j e0 hj0
   free:=λj e v g hj hl hv hb=>by
    obtain ⟨e0,hj0,hl0,_,_,hb0⟩:=old j e hj;exact h.free j e0 v g hj0 (hl0 hl) hv (hb0 v g hb)
   sep:=λi j ei ej vi vj g hi' hj' hli hlj hvi hvj hbi hbj=>by
    obtain ⟨e0,hi0,hl0,_,_,hb0⟩:=old i ei hi';obtain ⟨e1,hj1,hl1,_,_,hb1⟩:=old j ej hj';exact h.sep i j e0 e1 vi vj g hi0 hj1 (hl0 hli) (hl1 hlj) hvi hvj (hb0 vi g hbi) (hb1 vj g hbj)}
theorem Zp1 {E:Env} {cells:List SV} {vs:List Value} (hd:Yk E cells vs) (off:Nat):Yk E (cells.set off .bot) vs:=by
 by_cases hr:off<vs.length
 ·have:=Zgj _ _ hd off .bot vs[off] (by simp only[den])
  simpa using this
 ·have hl:=Y5 _ _ hd
  rw[KG (by omega)];exact hd
def JF (B:Base) (E:Env) (H:List Entry) (vs:List Value):(ls:List Loc)->Zwv ls->List Nat->Prop
 | [],_,gs=>gs=[]
 | .reg r (.dat t)::q,v,gs=>(∃ u,vs[r]?=some u/\rep E.S E.w t v.1 [u])/\JF B E H vs q v.2 gs
 | .reg r (.own e)::q,v,gs=>∃ u f g1,vs[r]?=some u/\ZBE e.ty u/\ZjJ E.S E.w e v.1 u.cells.toList f/\gs=f++g1/\JF B E H vs q v.2 g1
 | .reg _ (.io _)::_,_,_=>False
 | .reg _ (.back _)::_,_,_=>False
 | .cell id off t::q,v,gs=>(∃ b cs T cells u,H[id]?=some (.box cells)/\E.ids[id]?=some (.pointer (some ⟨b,0,none⟩))/\E.w.heap[b]?=some (.cells cs T (0,0))/\cs.toList[off]?=some u/\rep E.S E.w t v.1 [u])/\
   JF B E H vs q v.2 gs
 | .cello id off e::q,v,gs=>∃ b cs T cells u f g1,H[id]?=some (.box cells)/\E.ids[id]?=some (.pointer (some ⟨b,0,none⟩))/\E.w.heap[b]?=some (.cells cs T (0,0))/\cs.toList[off]?=some u/\
   ZjJ E.S E.w e v.1 [u] f/\gs=f++g1/\JF B E H vs q v.2 g1
 | .ent id et e::q,v,gs=>∃ u f g1,id<H.length/\E.ids[id]?=some u/\(∀ c,H[id]?≠some (.box c))/\ZjJ E.S E.w (.ol et e) v.1 [u] f/\gs=f++g1/\JF B E H vs q v.2 g1
 | .entm id k t::q,v,gs=>∃ u f g1,id<H.length/\E.ids[id]?=some u/\(∀ c,H[id]?≠some (.box c))/\ZjJ E.S E.w (.mp k t) v.1 [u] f/\gs=f++g1/\JF B E H vs q v.2 g1
 | .splt id et e::q,v,gs=>∃ u f g1,id<H.length/\E.ids[id]?=some u/\(∀ c,H[id]?≠some (.box c))/\ZGB E.S E.w et e v.1.1 v.1.2 u f/\gs=f++g1/\JF B E H vs q v.2 g1
def Boxed (H H':List Entry):Prop:=H'.length=H.length/\(∀ (i:Nat) (c:List SV),H[i]?=some (.box c)->∃ c',H'[i]?=some (.box c'))/\∀ (i:Nat) (c:List SV),H'[i]?=some (.box c)->∃ c',H[i]?=some (.box c')
theorem Boxed.refl (H:List Entry):Boxed H H:=⟨rfl,λ_ c h=>⟨c,h⟩,λ_ c h=>⟨c,h⟩⟩
theorem Boxed.trans {A C D:List Entry} (h:Boxed A C) (k:Boxed C D):Boxed A D :=
 ⟨k.1.trans h.1,λi c hi=>by obtain ⟨c',h'⟩:=h.2.1 i c hi;exact k.2.1 i c' h',λi c hi=>by obtain ⟨c',h'⟩:=k.2.2 i c hi;exact h.2.2 i c' h'⟩
theorem Boxed.frz {E E':Env} {H H':List Entry} (h:Frz E H E' H') (hb:∀ (i:Nat) (c:List SV),H[i]?=some (.box c)->H'[i]?=some (.box c)):Boxed H H' :=
 ⟨h.len,λi c hi=>⟨c,hb i c hi⟩,λi c hi=>⟨c,h.box i c hi⟩⟩
theorem Boxed.ZoG {H:List Entry} {id:Nat} {c0 c1:List SV} (h:H[id]?=some (.box c0)):Boxed H (H.set id (.box c1)):=by
 have hlt:=(Ub.1 h).1;refine ⟨by simp,λi c hi=>?_,λi c hi=>?_⟩
 ·by_cases hii:id=i
  ·subst hii;exact ⟨_,Ut hlt⟩
  ·exact ⟨c,by rw[UH hii];exact hi⟩
 ·by_cases hii:id=i
  ·subst hii;exact ⟨_,h⟩
  ·rw[UH hii] at hi;exact ⟨c,hi⟩
theorem Boxed.ZEB {H:List Entry} {id:Nat} {e1:Entry} (h:∀ c,H[id]?≠some (.box c)) (h1:∀ c,e1≠.box c):Boxed H (H.set id e1):=by
 refine ⟨by simp,λi c hi=>?_,λi c hi=>?_⟩
 ·by_cases hii:id=i
  ·subst hii;exact absurd hi (h c)
  ·exact ⟨c,by rw[UH hii];exact hi⟩
 ·by_cases hii:id=i
  ·subst hii
   have hlt:id<H.length:=by have:=(Ub.1 hi).1;simpa using this
   rw[Ut hlt] at hi;simp at hi;exact absurd hi (h1 c)
  ·rw[UH hii] at hi;exact ⟨c,hi⟩
theorem Zan {B:Base} {E E':Env} {H H':List Entry} (hw:E'.w=E.w) (hS:∀ b,E.S b->E'.S b) (hids:∀ (i:Nat) (v:Value),i<H'.length->E.ids[i]?=some v->E'.ids[i]?=some v) {vs:List Value}
  (hbox:∀ (i:Nat) (c:List SV),H[i]?=some (.box c)->i<H'.length->∃ c',H'[i]?=some (.box c')) (hno:∀ (i:Nat) (c:List SV),H'[i]?=some (.box c)->∃ c',H[i]?=some (.box c')) :
  ∀ (ls:List Loc) (v:Zwv ls) (gs:List Nat),(∀ id off t,Loc.cell id off t∈ls->id<H'.length)->(∀ id off e,Loc.cello id off e∈ls->id<H'.length)->(∀ l∈ls,l.ZGi H'.length)->JF B E H vs ls v gs->JF B E' H' vs ls v gs
 | [],_,_,_,_,_,h=>h
 | .reg _ (.dat t)::q,v,gs,p1,p2,p3,⟨⟨u,a,b⟩,h⟩=>⟨⟨u,a,Yz hS (λ_ _=>by rw[hw]) t _ _ b⟩,Zan hw hS hids hbox hno q v.2 gs (λi o t h=>p1 i o t (by simp[h])) (λi o t h=>p2 i o t (by simp[h])) (λl h=>p3 l (by simp[h])) h⟩
 | .reg _ (.own e)::q,v,gs,p1,p2,p3,⟨u,f,g1,a,b,c,d,h⟩=>⟨u,f,g1,a,b,YL hS (λ_ _=>by rw[hw]) e _ _ _ (λg _=>by rw[hw]) c,d,Zan hw hS hids hbox hno q v.2 g1 (λi o t h=>p1 i o t (by simp[h])) (λi o t h=>p2 i o t (by simp[h])) (λl h=>p3 l (by simp[h])) h⟩
 | .cell id off t::q,v,gs,p1,p2,p3,⟨⟨b,cs,T,cells,u,a1,a2,a3,a4,a5⟩,h⟩=>by
  have hlt:=p1 id off t (by simp);obtain ⟨c',hc'⟩:=hbox id _ a1 hlt;exact ⟨⟨b,cs,T,c',u,hc',hids _ _ hlt a2,by rw[hw];exact a3,a4,Yz hS (λ_ _=>by rw[hw]) t _ _ a5⟩,Zan hw hS hids hbox hno q v.2 gs (λi o t h=>p1 i o t (by simp[h])) (λi o t h=>p2 i o t (by simp[h])) (λl h=>p3 l (by simp[h])) h⟩
 | .cello id off e::q,v,gs,p1,p2,p3,⟨b,cs,T,cells,u,f,g1,a1,a2,a3,a4,a5,a6,h⟩=>by
  have hlt:=p2 id off e (by simp);obtain ⟨c',hc'⟩:=hbox id _ a1 hlt;exact ⟨b,cs,T,c',u,f,g1,hc',hids _ _ hlt a2,by rw[hw];exact a3,a4,YL hS (λ_ _=>by rw[hw]) e _ _ _ (λg _=>by rw[hw]) a5,a6,Zan hw hS hids hbox hno q v.2 g1 (λi o t h=>p1 i o t (by simp[h])) (λi o t h=>p2 i o t (by simp[h])) (λl h=>p3 l (by simp[h])) h⟩
 | .ent id et e::q,v,gs,p1,p2,p3,⟨u,f,g1,a1,a2,a3,a4,a5,h⟩=>by
  have hlt:id<H'.length:=p3 _ KN;exact ⟨u,f,g1,hlt,hids _ _ hlt a2,λc hc=>by obtain ⟨c',hc'⟩:=hno id c hc;exact a3 c' hc',YL hS (λ_ _=>by rw[hw]) (.ol et e) _ _ _ (λg _=>by rw[hw]) a4,a5,Zan hw hS hids hbox hno q v.2 g1 (λi o t h=>p1 i o t (by simp[h])) (λi o t h=>p2 i o t (by simp[h])) (λl h=>p3 l (by simp[h])) h⟩
 | .entm id k t::q,v,gs,p1,p2,p3,⟨u,f,g1,a1,a2,a3,a4,a5,h⟩=>by
  have hlt:id<H'.length:=p3 _ KN;exact ⟨u,f,g1,hlt,hids _ _ hlt a2,λc hc=>by obtain ⟨c',hc'⟩:=hno id c hc;exact a3 c' hc',YL hS (λ_ _=>by rw[hw]) (.mp k t) _ _ _ (λg _=>by rw[hw]) a4,a5,Zan hw hS hids hbox hno q v.2 g1 (λi o t h=>p1 i o t (by simp[h])) (λi o t h=>p2 i o t (by simp[h])) (λl h=>p3 l (by simp[h])) h⟩
 | .splt id et e::q,v,gs,p1,p2,p3,⟨u,f,g1,a1,a2,a3,a4,a5,h⟩=>by
  have hlt:id<H'.length:=p3 _ KN;exact ⟨u,f,g1,hlt,hids _ _ hlt a2,λc hc=>by obtain ⟨c',hc'⟩:=hno id c hc;exact a3 c' hc',Zsf hS (λ_ _=>by rw[hw]) (λg _=>by rw[hw]) a4,a5,Zan hw hS hids hbox hno q v.2 g1 (λi o t h=>p1 i o t (by simp[h])) (λi o t h=>p2 i o t (by simp[h])) (λl h=>p3 l (by simp[h])) h⟩
def ZGr (n:Nat) (ls:List Loc):Prop:=(∀ id off t,Loc.cell id off t∈ls->id<n)/\(∀ id off e,Loc.cello id off e∈ls->id<n)/\∀ l∈ls,l.ZGi n
theorem ZdR {B:Base} {E:Env} {H:List Entry} {vs:List Value}:∀ (ls:List Loc) (v:Zwv ls) (gs:List Nat),JF B E H vs ls v gs->ZGr H.length ls
 | [],_,_,_=>⟨λ_ _ _ h=>by simp at h,λ_ _ _ h=>by simp at h,λ_ h=>by simp at h⟩
 | .reg _ (.dat t)::q,v,gs,⟨_,h⟩=>by
  obtain ⟨a,b,c⟩:=ZdR q v.2 gs h;exact ⟨λi o t h=>a i o t (by simpa using h),λi o t h=>b i o t (by simpa using h),λl h=>(UT.1 h).elim (λe=>by subst e;trivial) (c l)⟩
 | .reg _ (.own e)::q,v,gs,⟨_,_,g1,_,_,_,_,h⟩=>by
  obtain ⟨a,b,c⟩:=ZdR q v.2 g1 h;exact ⟨λi o t h=>a i o t (by simpa using h),λi o t h=>b i o t (by simpa using h),λl h=>(UT.1 h).elim (λe=>by subst e;trivial) (c l)⟩
 | .reg _ (.io _)::_,_,_,h=>by simp only[JF] at h
 | .reg _ (.back _)::_,_,_,h=>by simp only[JF] at h
 | .cell id off t::q,v,gs,⟨⟨_,_,_,_,_,a1,_⟩,h⟩=>by
  obtain ⟨a,b,c⟩:=ZdR q v.2 gs h;refine ⟨λi o t' h'=>?_,λi o t h=>b i o t (by simpa using h),λl h=>(UT.1 h).elim (λe=>by subst e;trivial) (c l)⟩;rcases UT.1 h' with e | h'
  ·injection e with e1 e2 e3;subst e1;exact (Ub.1 a1).1
  ·exact a i o t' h'
 | .cello id off e::q,v,gs,⟨_,_,_,_,_,_,g1,a1,_,_,_,_,_,h⟩=>by
  obtain ⟨a,b,c⟩:=ZdR q v.2 g1 h;refine ⟨λi o t h=>a i o t (by simpa using h),λi o e' h'=>?_,λl h=>(UT.1 h).elim (λe=>by subst e;trivial) (c l)⟩;rcases UT.1 h' with e | h'
  ·injection e with e1 e2 e3;subst e1;exact (Ub.1 a1).1
  ·exact b i o e' h'
 | .ent id et e::q,v,gs,⟨_,_,g1,a1,_,_,_,_,h⟩=>by
  obtain ⟨a,b,c⟩:=ZdR q v.2 g1 h;exact ⟨λi o t h=>a i o t (by simpa using h),λi o t h=>b i o t (by simpa using h),λl h=>(UT.1 h).elim (λe=>by subst e;exact a1) (c l)⟩
 | .entm id k u::q,v,gs,⟨_,_,g1,a1,_,_,_,_,h⟩=>by
  obtain ⟨a,b,c⟩:=ZdR q v.2 g1 h;exact ⟨λi o t h=>a i o t (by simpa using h),λi o t h=>b i o t (by simpa using h),λl h=>(UT.1 h).elim (λe=>by subst e;exact a1) (c l)⟩
 | .splt id et e::q,v,gs,⟨_,_,g1,a1,_,_,_,_,h⟩=>by
  obtain ⟨a,b,c⟩:=ZdR q v.2 g1 h;exact ⟨λi o t h=>a i o t (by simpa using h),λi o t h=>b i o t (by simpa using h),λl h=>(UT.1 h).elim (λe=>by subst e;exact a1) (c l)⟩
theorem ZbF {B:Base} {E E':Env} {H H':List Entry} (hw:E'.w=E.w) (hS:∀ b,E.S b->E'.S b) (hids:∀ (i:Nat) (v:Value),E.ids[i]?=some v->E'.ids[i]?=some v) (hb:Boxed H H') {vs:List Value}
  (ls:List Loc) (v:Zwv ls) (gs:List Nat) (h:JF B E H vs ls v gs):JF B E' H' vs ls v gs:=by
 obtain ⟨p1,p2,p3⟩:=ZdR ls v gs h;rw[<-hb.1] at p1 p2 p3;exact Zan hw hS (λi v _ hv=>hids i v hv) (λi c hi _=>hb.2.1 i c hi) hb.2.2 ls v gs p1 p2 p3 h
theorem Zp7 {B:Base} {E:Env} {H:List Entry} {vs:List Value} (E':Env) (l:List Entry) (hw:E'.w=E.w) (hS:E'.S=E.S) (hids:∀ (i:Nat) (v:Value),E.ids[i]?=some v->E'.ids[i]?=some v)
  (ls:List Loc) (v:Zwv ls) (gs:List Nat) (h:JF B E H vs ls v gs):JF B E' (H++l) vs ls v gs:=by
 obtain ⟨p1,p2,p3⟩:=ZdR ls v gs h;have hle:H.length<=(H++l).length:=by simp
 have go:∀ (ls:List Loc) (v:Zwv ls) (gs:List Nat),JF B E H vs ls v gs->JF B E' (H++l) vs ls v gs:=by
  intro ls;induction ls with
  | nil=>intro v gs h;exact h
  | cons x q ih =>
   intro v gs h
   match x,v,h with
   | .reg _ (.dat t),v,⟨⟨u,a,b⟩,h⟩=>exact ⟨⟨u,a,by rw[hS,hw];exact b⟩,ih v.2 gs h⟩
   | .reg _ (.own e),v,⟨u,f,g1,a,b,c,d,h⟩=>exact ⟨u,f,g1,a,b,by rw[hS,hw];exact c,d,ih v.2 g1 h⟩
   | .reg _ (.io _),v,h=>simp only[JF] at h
   | .reg _ (.back _),v,h=>simp only[JF] at h
   | .cell id off t,v,⟨⟨b,cs,T,cells,u,a1,a2,a3,a4,a5⟩,h⟩ =>
    exact ⟨⟨b,cs,T,cells,u,by rw[Uq (Ub.1 a1).1];exact a1,hids _ _ a2,by rw[hw];exact a3,a4,by rw[hS,hw];exact a5⟩,ih v.2 gs h⟩
   | .cello id off e,v,⟨b,cs,T,cells,u,f,g1,a1,a2,a3,a4,a5,a6,h⟩ =>
    exact ⟨b,cs,T,cells,u,f,g1,by rw[Uq (Ub.1 a1).1];exact a1,hids _ _ a2,by rw[hw];exact a3,a4,by rw[hS,hw];exact a5,a6,ih v.2 g1 h⟩
   | .ent id et e,v,⟨u,f,g1,a1,a2,a3,a4,a5,h⟩ =>
    exact ⟨u,f,g1,UN a1 hle,hids _ _ a2,λc hc=>a3 c (by rwa [Uq a1] at hc),by rw[hS,hw];exact a4,a5,ih v.2 g1 h⟩
   | .entm id k t,v,⟨u,f,g1,a1,a2,a3,a4,a5,h⟩ =>
    exact ⟨u,f,g1,UN a1 hle,hids _ _ a2,λc hc=>a3 c (by rwa [Uq a1] at hc),by rw[hS,hw];exact a4,a5,ih v.2 g1 h⟩
   | .splt id et e,v,⟨u,f,g1,a1,a2,a3,a4,a5,h⟩ =>
    exact ⟨u,f,g1,UN a1 hle,hids _ _ a2,λc hc=>a3 c (by rwa [Uq a1] at hc),by rw[hS,hw];exact a4,a5,ih v.2 g1 h⟩
 exact go ls v gs h
def Taken (B:Base) (ls:List Loc) (E:Env) (H:List Entry) (vs:List Value) (gs:List Nat) (K:Zwv ls->List Entry->Prop):Prop :=
 ∃ E1 H1 v g1,E1.w=E.w/\E1.ids=E.ids/\Inv B E1 H1/\E.le E1/\K v H1/\JF B E1 H1 vs ls v g1/\Loose B E1 H1 (g1++gs)/\Boxed H H1
theorem Zia {B:Base}:∀ (ls:List Loc) {E:Env} {H:List Entry} (_:Inv B E H) {regs:List SV} {vs:List Value} (_:Yk E regs vs) (gs:List Nat) (_:Loose B E H gs) {K:Zwv ls->List Entry->Prop} (_:Zkg ls regs H K),Taken B ls E H vs gs K
 | [],E,H,hI,regs,vs,hd,gs,hL,K,hk=>⟨E,H,(),[],rfl,rfl,hI,Env.le.refl E,hk,rfl,hL,Boxed.refl H⟩
 | .reg r (.dat t)::q,E,H,hI,regs,vs,hd,gs,hL,K,hk=>by
  simp only[Zkg] at hk;obtain ⟨s,u,hu,hs,hk,_⟩:=ZcA _ _ hd hk;obtain ⟨E1,H1,cs,hf,hI1,hd1,hk,hb1⟩:=QG [s] hI (show Yk E [s] [u] from ⟨hs,trivial⟩) hk;obtain ⟨d,rest,v1,v2,e12,hr,hrest,hk⟩:=XH t cs _ _ hd1 hk;split at hk
  ·have hv2:v2=[]:=by cases v2 with
    | nil=>rfl
    | cons=>simp[Yk] at hrest
   subst hv2;rw[Uo] at e12;obtain ⟨E2,H2,v,g1,hw2,hid2,hI2,hle2,hk,hl,hL2,hb2⟩:=Zia q hI1 (ZM hf.le _ _ hd) gs (hL.frz hf) hk;refine ⟨E2,H2,(d,v),g1,hw2.trans hf.w,hid2.trans hf.ids,hI2,hf.le.trans hle2,hk,⟨⟨u,hu,?_⟩,hl⟩,hL2,(Boxed.frz hf hb1).trans hb2⟩;rw[e12];exact Yz hle2.S hle2.w t d v1 hr
  ·exact hk.elim
 | .reg r (.own e)::q,E,H,hI,regs,vs,hd,gs,hL,K,hk=>by
  simp only[Zkg] at hk;obtain ⟨s,u,hu,hs,hk,_⟩:=ZcA _ _ hd hk;split at hk
  ·rename_i hc
   obtain ⟨hw,hag⟩:=hc;obtain ⟨E1,H1,d,f,hf,hI1,hr,hk,hL1,hT,hb1⟩:=Vo hI (Zaa hs hw) hL hk;obtain ⟨E2,H2,v,g1,hw2,hid2,hI2,hle2,hk,hl,hL2,hb2⟩:=Zia q hI1 (ZM hf.le _ _ hd) (f++gs) hL1 hk;refine ⟨E2,H2,(d,v),f++g1,hw2.trans hf.w,hid2.trans hf.ids,hI2,hf.le.trans hle2,hk,⟨u,f,g1,hu,Zud hs hw hag,?_,rfl,hl⟩,hL2.perm ?_,(Boxed.frz hf hb1).trans hb2⟩
   ·exact YL hle2.S hle2.w e _ _ _ (λg _=>by rw[hw2]) hr
   ·rw[<-Ul];exact UZ.append_right gs
  ·exact hk.elim
 | .reg _ (.io _)::_,_,_,_,_,_,_,_,_,_,hk=>by simp only[Zkg] at hk
 | .reg _ (.back _)::_,_,_,_,_,_,_,_,_,_,hk=>by simp only[Zkg] at hk
 | .cell id off t::q,E,H,hI,regs,vs,hd,gs,hL,K,hk=>by
  simp only[Zkg] at hk;obtain ⟨e,he,hk⟩:=Xd H hk;split at hk
  ·rename_i cells
   obtain ⟨b,cs0,T,e1,e2,e3⟩:=hI.ent id _ he;obtain ⟨s,u,hu,hs,hk,_⟩:=ZcA _ _ e3 hk;obtain ⟨E1,H1,cs,hf,hI1,hd1,hk,hb1⟩:=QG [s] hI (show Yk E [s] [u] from ⟨hs,trivial⟩) hk;obtain ⟨d,rest,v1,v2,e12,hr,hrest,hk⟩:=XH t cs _ _ hd1 hk;split at hk
   ·have hv2:v2=[]:=by cases v2 with
     | nil=>rfl
     | cons=>simp[Yk] at hrest
    subst hv2;rw[Uo] at e12;obtain ⟨E2,H2,v,g1,hw2,hid2,hI2,hle2,hk,hl,hL2,hb2⟩:=Zia q hI1 (ZM hf.le _ _ hd) gs (hL.frz hf) hk;obtain ⟨c',hc'⟩:=hb2.2.1 id _ (hb1 _ _ he);refine ⟨E2,H2,(d,v),g1,hw2.trans hf.w,hid2.trans hf.ids,hI2,hf.le.trans hle2,hk,⟨⟨b,cs0,T,c',u,hc',by rw[hid2,hf.ids];exact e1,by rw[hw2,hf.w];exact e2,hu,?_⟩,hl⟩,hL2,(Boxed.frz hf hb1).trans hb2⟩;rw[e12];exact Yz hle2.S hle2.w t d v1 hr
   ·exact hk.elim
  ·exact hk.elim
 | .cello id off e::q,E,H,hI,regs,vs,hd,gs,hL,K,hk=>by
  simp only[Zkg] at hk;obtain ⟨en,he,hk⟩:=Xd H hk;split at hk
  ·rename_i cells
   obtain ⟨b,cs0,T,e1,e2,e3⟩:=hI.ent id _ he;obtain ⟨s,u,hu,hs,hk,_⟩:=ZcA _ _ e3 hk;obtain ⟨E1,H1,d,f,hf,hI1,hr,hk,hL1,hT,hb1⟩:=Vo hI (show Yk E [s] [u] from ⟨hs,trivial⟩) hL hk;obtain ⟨E2,H2,v,g1,hw2,hid2,hI2,hle2,hk,hl,hL2,hb2⟩:=Zia q hI1 (ZM hf.le _ _ hd) (f++gs) hL1 hk;obtain ⟨c',hc'⟩:=hb2.2.1 id _ (hb1 _ _ he);refine ⟨E2,H2,(d,v),f++g1,hw2.trans hf.w,hid2.trans hf.ids,hI2,hf.le.trans hle2,hk,⟨b,cs0,T,c',u,f,g1,hc',by rw[hid2,hf.ids];exact e1,by rw[hw2,hf.w];exact e2,hu,?_,rfl,hl⟩,hL2.perm ?_,(Boxed.frz hf hb1).trans hb2⟩
   ·exact YL hle2.S hle2.w e _ _ _ (λg _=>by rw[hw2]) hr
   ·rw[<-Ul];exact UZ.append_right gs
  ·exact hk.elim
 | .ent id et e::q,E,H,hI,regs,vs,hd,gs,hL,K,hk=>by
  simp only[Zkg] at hk;have hk0:=hk;unfold closeAll at hk0;simp only[Jp] at hk0;obtain ⟨en,he,hk0⟩:=Xd H hk0;have hlt:=(Ub.1 he).1;obtain ⟨u,hu⟩:∃ u,E.ids[id]?=some u:=⟨_,Ua (show id<E.ids.length by rw[hI.len];exact hlt)⟩;have hnb:∀ c,H[id]?≠some (.box c):=by
   intro c hc;have:=he.symm.trans hc;simp at this;subst this;exact hk0.elim
  have hs:den E (.own id) u:=by
   simp only[den];refine ⟨hu,?_⟩;split at hk0
   ·obtain ⟨v',xs,a1,a2,_⟩:=hI.ent id _ he
    have:=hu.symm.trans a1;simp at this;subst this;rcases a2.2 with ⟨rfl,_⟩ | ⟨g,cap,cur,o,rfl,_⟩<;>exact ⟨_,_,_,rfl⟩
   ·obtain ⟨v',xs,fps,a1,a2,_⟩:=hI.ent id _ he
    have:=hu.symm.trans a1;simp at this;subst this;rcases a2.2 with ⟨rfl,_⟩ | ⟨g,cap,cur,o,rfl,_⟩<;>exact ⟨_,_,_,rfl⟩
   ·obtain ⟨v',xs,x1,vx,x2,f1,f2,a1,a2,_⟩:=hI.ent id _ he
    have:=hu.symm.trans a1;simp at this;subst this;rcases a2.2 with ⟨rfl,_⟩ | ⟨g,cap,cur,o,rfl,_⟩<;>exact ⟨_,_,_,rfl⟩
   ·obtain ⟨v',a1,⟨xs,x1,x2,f1,a2,_⟩,_⟩:=hI.ent id _ he
    have:=hu.symm.trans a1;simp at this;subst this;rcases a2.2 with ⟨rfl,_⟩ | ⟨g,cap,cur,o,rfl,_⟩<;>exact ⟨_,_,_,rfl⟩
   ·exact hk0.elim
  obtain ⟨E1,H1,d,f,hf,hI1,hr,hk,hL1,hT,hb1⟩:=Vo hI (show Yk E [.own id] [u] from ⟨hs,trivial⟩) hL hk;obtain ⟨E2,H2,v,g1,hw2,hid2,hI2,hle2,hk,hl,hL2,hb2⟩:=Zia q hI1 (ZM hf.le _ _ hd) (f++gs) hL1 hk;have hbb:=(Boxed.frz hf hb1).trans hb2;refine ⟨E2,H2,(d,v),f++g1,hw2.trans hf.w,hid2.trans hf.ids,hI2,hf.le.trans hle2,hk,⟨u,f,g1,by rw[hbb.1];exact hlt,by rw[hid2,hf.ids];exact hu,λc hc=>?_,?_,rfl,hl⟩,hL2.perm ?_,hbb⟩
  ·obtain ⟨c',hc'⟩:=hbb.2.2 id c hc;exact hnb c' hc'
  ·exact YL hle2.S hle2.w (.ol et e) _ _ _ (λg _=>by rw[hw2]) hr
  ·rw[<-Ul];exact UZ.append_right gs
 | .entm id k t::q,E,H,hI,regs,vs,hd,gs,hL,K,hk=>by
  simp only[Zkg] at hk;have hk0:=hk;unfold closeAll at hk0;simp only[Jp] at hk0;obtain ⟨en,he,hk0⟩:=Xd H hk0;have hlt:=(Ub.1 he).1;obtain ⟨u,hu⟩:∃ u,E.ids[id]?=some u:=⟨_,Ua (show id<E.ids.length by rw[hI.len];exact hlt)⟩;have hnb:∀ c,H[id]?≠some (.box c):=by
   intro c hc;have:=he.symm.trans hc;simp at this;subst this;exact hk0.elim
  have hs:den E (.mown id) u:=by
   simp only[den];refine ⟨hu,?_⟩;split at hk0
   ·obtain ⟨b,es,clk,a1,_⟩:=hI.ent id _ he
    have:=hu.symm.trans a1;simp at this;subst this;exact ⟨_,rfl⟩
   ·exact hk0.elim
  obtain ⟨E1,H1,d,f,hf,hI1,hr,hk,hL1,hT,hb1⟩:=Vo hI (show Yk E [.mown id] [u] from ⟨hs,trivial⟩) hL hk;obtain ⟨E2,H2,v,g1,hw2,hid2,hI2,hle2,hk,hl,hL2,hb2⟩:=Zia q hI1 (ZM hf.le _ _ hd) (f++gs) hL1 hk;have hbb:=(Boxed.frz hf hb1).trans hb2;refine ⟨E2,H2,(d,v),f++g1,hw2.trans hf.w,hid2.trans hf.ids,hI2,hf.le.trans hle2,hk,⟨u,f,g1,by rw[hbb.1];exact hlt,by rw[hid2,hf.ids];exact hu,λc hc=>?_,?_,rfl,hl⟩,hL2.perm ?_,hbb⟩
  ·obtain ⟨c',hc'⟩:=hbb.2.2 id c hc;exact hnb c' hc'
  ·exact YL hle2.S hle2.w (.mp k t) _ _ _ (λg _=>by rw[hw2]) hr
  ·rw[<-Ul];exact UZ.append_right gs
 | .splt id et e::q,E,H,hI,regs,vs,hd,gs,hL,K,hk=>by
  simp only[Zkg] at hk;obtain ⟨E1,H1,d,n,u,f,hf,hI1,hu,hnb,hr,hk,hL1,hb1⟩:=ZzZ hI hL hk;obtain ⟨E2,H2,v,g1,hw2,hid2,hI2,hle2,hk,hl,hL2,hb2⟩:=Zia q hI1 (ZM hf.le _ _ hd) (f++gs) hL1 hk;have hbb:=(Boxed.frz hf hb1).trans hb2;have hlt:id<H2.length:=by
   have:=(Ub.1 hu).1;rw[hb2.1,<-hI1.len];exact this
  refine ⟨E2,H2,((d,n),v),f++g1,hw2.trans hf.w,hid2.trans hf.ids,hI2,hf.le.trans hle2,hk,⟨u,f,g1,hlt,by rw[hid2];exact hu,λc hc=>?_,?_,rfl,hl⟩,hL2.perm ?_,hbb⟩
  ·obtain ⟨c',hc'⟩:=hbb.2.2 id c hc;exact hnb c' hc'
  ·exact Zsf hle2.S hle2.w (λg _=>by rw[hw2]) hr
  ·rw[<-Ul];exact UZ.append_right gs
theorem Zcn {vs:List Value} {r:Nat} {u:Value} (hu:vs[r]?=some u):vs.set r u=vs:=by
 apply UD;intro j;by_cases hj:r=j
 ·subst hj
  have:=(Ub.1 hu).1;rw[Ut this,hu]
 ·rw[UH hj]
theorem Loose.ZoG {B:Base} {E:Env} {H:List Entry} {gs:List Nat} (hL:Loose B E H gs) {id:Nat} {c0 c1:List SV} (he:H[id]?=some (.box c0)):Loose B E (H.set id (.box c1)) gs:=by
 have hlt:=(Ub.1 he).1;refine ⟨hL.nodup,hL.free,λg hg j ej vj hj hlv hv hb=>?_⟩;by_cases hji:id=j
 ·subst hji;rw[Ut hlt] at hj;simp at hj;subst hj;exact hL.apart g hg id _ vj he rfl hv hb
 ·rw[UH hji] at hj;exact hL.apart g hg j ej vj hj hlv hv hb
theorem ZkK {B:Base}:∀ (ls:List Loc) (v:Zwv ls) {E:Env} {H:List Entry} (_:Inv B E H) {regs:List SV} {vs:List Value} (_:Yk E regs vs) (g1:List Nat) (_:JF B E H vs ls v g1) (_:Loose B E H g1)
  {K:List SV->List Entry->Prop} (_:Zve ls v regs H K),∃ E' H' regs',E'.w=E.w/\Inv B E' H'/\Yk E' regs' vs/\K regs' H'
 | [],v,E,H,hI,regs,vs,hd,g1,hl,hL,K,hk=>⟨E,H,regs,rfl,hI,hd,hk⟩
 | .reg r (.dat t)::q,v,E,H,hI,regs,vs,hd,g1,⟨⟨u,hu,hr⟩,hl⟩,hL,K,hk=>by
  simp only[Zve,Jc,ZHS,Qm] at hk;have hdc:=XE t v.1 [u] hr;split at hk
  ·rename_i c hc
   rw[hc] at hdc;simp only[Yk] at hdc;rw[Zf7] at hk;have hd':=Zgj _ _ hd r c u hdc.1;rw[Zcn hu] at hd';exact ZkK q v.2 hI hd' g1 hl hL hk
  ·exact hk.elim
 | .reg r (.own e)::q,v,E,H,hI,regs,vs,hd,g1,⟨u,f,g2,hu,hform,hr,hg,hl⟩,hL,K,hk=>by
  simp only[Zve,Jc] at hk;subst hg;obtain ⟨E1,H1,cs,hw1,hS1,hI1,hle1,hd1,hk,hL1,l,hl1⟩:=Jm e v.1 hI hr hL hk;obtain ⟨s,hs,hk⟩:=Zrp hform hd1 hk;rw[Zf7] at hk;have hd':=Zgj _ _ (ZM hle1 _ _ hd) r s u hs;rw[Zcn hu] at hd';subst hl1;obtain ⟨E2,H2,regs',hw2,hI2,hd2,hk⟩:=ZkK q v.2 hI1 hd' g2 (Zp7 E1 l hw1 hS1 hle1.ids q v.2 g2 hl) hL1 hk;exact ⟨E2,H2,regs',hw2.trans hw1,hI2,hd2,hk⟩
 | .reg _ (.io _)::_,_,_,_,_,_,_,_,_,_,_,_,hk=>by simp only[Zve] at hk
 | .reg _ (.back _)::_,_,_,_,_,_,_,_,_,_,_,_,hk=>by simp only[Zve] at hk
 | .cell id off t::q,v,E,H,hI,regs,vs,hd,g1,⟨⟨b,cs,T,cells0,u,a1,a2,a3,a4,a5⟩,hl⟩,hL,K,hk=>by
  simp only[Zve,Jc,ZHS,Qm] at hk;have hdc:=XE t v.1 [u] a5;split at hk
  ·rename_i c hc
   rw[hc] at hdc;simp only[Yk] at hdc;obtain ⟨e,he,hk⟩:=Xd H hk;split at hk
   ·rename_i cells
    rw[Zf7,XA] at hk;have hI1:=hI.weaken (cells':=cells.set off c) he (λb' cs' T' h1 h2 h3=>by
     have:=a2.symm.trans h1;simp at this;subst this;have:=a3.symm.trans h2;simp at this;obtain ⟨rfl,_⟩:=this;have hset:=Zgj _ _ h3 off c u hdc.1
     rwa [Zcn a4] at hset)
    exact ZkK q v.2 hI1 hd g1 (ZbF rfl (λ_ h=>h) (λ_ _ h=>h) (Boxed.ZoG he) q v.2 g1 hl) (hL.ZoG he) hk
   ·exact hk.elim
  ·exact hk.elim
 | .cello id off e::q,v,E,H,hI,regs,vs,hd,g1,⟨b,cs,T,cells0,u,f,g2,a1,a2,a3,a4,hr,hg,hl⟩,hL,K,hk=>by
  simp only[Zve,Jc] at hk;subst hg;obtain ⟨E1,H1,cs1,hw1,hS1,hI1,hle1,hd1,hk,hL1,l,hl1⟩:=Jm e v.1 hI hr hL hk;subst hl1;split at hk
  ·rename_i s
   simp only[Yk] at hd1;obtain ⟨en,he,hk⟩:=Xd _ hk;split at hk
   ·rename_i cells
    rw[Zf7,XA] at hk;have a2':=hle1.ids _ _ a2;have hI2:=hI1.weaken (cells':=cells.set off s) he (λb' cs' T' h1 h2 h3=>by
     have:=a2'.symm.trans h1;simp at this;subst this;rw[hw1] at h2;have:=a3.symm.trans h2;simp at this;obtain ⟨rfl,_⟩:=this;have hset:=Zgj _ _ h3 off s u hd1.1
     rwa [Zcn a4] at hset)
    obtain ⟨E2,H2,regs',hw2,hI3,hd2,hk⟩:=ZkK q v.2 hI2 (ZM hle1 _ _ hd) g2 (ZbF rfl (λ_ h=>h) (λ_ _ h=>h) (Boxed.ZoG he) q v.2 g2 (Zp7 E1 l hw1 hS1 hle1.ids q v.2 g2 hl)) (hL1.ZoG he) hk;exact ⟨E2,H2,regs',hw2.trans hw1,hI3,hd2,hk⟩
   ·exact hk.elim
  ·exact hk.elim
 | .ent id et e::q,v,E,H,hI,regs,vs,hd,g1,⟨u,f,g2,a1,a2,a3,hr,hg,hl⟩,hL,K,hk=>by
  simp only[Zve,Jc] at hk;subst hg;obtain ⟨e1,hI1,hL1,hk,hnb⟩:=ZA5 e hI a1 a2 hr hL hk;exact ZkK q v.2 hI1 hd g2 (ZbF rfl (λ_ h=>h) (λ_ _ h=>h) (Boxed.ZEB a3 hnb) q v.2 g2 hl) hL1 hk
 | .entm id k t::q,v,E,H,hI,regs,vs,hd,g1,⟨u,f,g2,a1,a2,a3,⟨b,es,clk,e1,e2,hh,hr⟩,hg,hl⟩,hL,K,hk=>by
  simp only[Zve,Jc,XA] at hk;subst hg;simp at e1;subst e1;obtain ⟨hI1,hL1⟩:=hL.put hI a1 a2 (.mpe k t v.1) (λ_ g hg=>by
   have hg:YJ (.map (some b))=some g:=hg;simp[YJ] at hg;rw[e2];simp[hg]) ⟨b,es,clk,a2,hh,hr⟩
  exact ZkK q v.2 hI1 hd g2 (ZbF rfl (λ_ h=>h) (λ_ _ h=>h) (Boxed.ZEB a3 (λc h=>by cases h)) q v.2 g2 hl) hL1 hk
 | .splt id et e::q,v,E,H,hI,regs,vs,hd,g1,⟨u,f,g2,a1,a2,a3,hr,hg,hl⟩,hL,K,hk=>by
  simp only[Zve,Jc] at hk;have hk:=hk f;rw[XA] at hk;subst hg;obtain ⟨hI1,hL1⟩:=hL.put hI a1 a2 (.spl et e v.1.1 v.1.2 f) (λ_ g hg=>hg) ⟨u,a2,hr,(U6.1 hL.nodup).1⟩;exact ZkK q v.2 hI1 hd g2 (ZbF rfl (λ_ h=>h) (λ_ _ h=>h) (Boxed.ZEB a3 (λc h=>by cases h)) q v.2 g2 hl) hL1 hk
structure Cal where
 run:List SV->List Entry->(SV->List Entry->Prop)->Prop
 dat:Bool
 io:Option (List Bool) -- which arguments are variables,if nothing else is handed over
def ZDJ (P:Program) (f:FuncId) (C:Cal):Prop:=ZnM P f/\
 ∀ {B:Base} {E:Env} {H:List Entry},Inv B E H->∀ {ss:List SV} {vs:List Value},Yk E ss vs->∀ {K:SV->List Entry->Prop},C.run ss H K->
  Calls P f vs.toArray E.w λe w'=>∃ v E' H' s,e=.returned v/\E'.w=w'/\Inv B E' H'/\E.le E'/\den E' s v/\K s H'/\(C.dat=true->Grow E.w w')/\(∀ m,C.io=some m->∀ b,b<E.w.heap.size->(∀ v∈pick m vs,YJ v≠some b)->w'.heap[b]?=E.w.heap[b]?)
def Ctr.cal (C:Ctr):Cal:=⟨ZDW C,Ze7 C.args,match Zk9 C.args with
 | true=>some (Zn9 C.args)
 | false=>none⟩
theorem Ctr.ZGc {P:Program} {f:FuncId} {C:Ctr} (h:Zc P f C):ZDJ P f C.cal:=⟨h.1,λhI _ _ hd _ hk=>(ZB0 hI h hd hk).mono λe w' ⟨v,E',H',s,a1,a2,a3,a4,a5,a6,a7,a8⟩=>⟨v,E',H',s,a1,a2,a3,a4,a5,a6,a7,λm hm=>by
 simp only[Ctr.cal] at hm;split at hm
 ·rename_i hf
  injection hm with hm
  subst hm;exact a8 hf
 ·cases hm⟩⟩
abbrev Gam:=List (Nat×Cal)
def Gam.ok (Γ:Gam) (P:Program):Prop:=∀ x∈Γ,ZDJ P x.1 x.2
def ZCs:Gam->Nat->(Cal->Prop)->Prop
 | [],_,_=>False
 | (n,C)::r,f,K=>if n=f then K C else ZCs r f K
def ZxZ:Gam->Nat->Bool
 | [],_=>false
 | (n,C)::r,f=>if n=f then C.dat else ZxZ r f
def Zx0:Gam->Nat->Option (List Bool)
 | [],_=>none
 | (n,C)::r,f=>if n=f then C.io else Zx0 r f
theorem ZvB {P:Program}:∀ (Γ:Gam),Γ.ok P->∀ {f:Nat} {K:Cal->Prop},ZCs Γ f K->∃ C,ZDJ P f C/\K C/\C.dat=ZxZ Γ f/\C.io=Zx0 Γ f
 | [],_,_,_,h=>h.elim
 | (n,C)::r,hΓ,f,K,h=>by
  unfold ZCs at h;unfold ZxZ Zx0;split at h
  ·rename_i e;subst e;exact ⟨C,hΓ (n,C) (by simp),h,by rw[Uc rfl],by rw[Uc rfl]⟩
  ·rename_i e;rw[Ud e,Ud e];exact ZvB r (λx hx=>hΓ x (by simp[hx])) h
def ZlG (Γ:Gam) (op:Op):Bool:=Zft op||Zp5 op||match op with
 | .call c=>match c.callee with
  | .value (.func f)=>ZxZ Γ f
  | _=>false
 | _=>false
def Zma (Γ:Gam) (op:Op):Option (List Operand):=match op with
 | .call c=>match c.callee with
  | .value (.func f)=>match Zx0 Γ f with
   | some m=>some (pick m c.args.toList)
   | none=>none
  | _=>none
 | _=>none
def ZuY (Δ:Tab) (Γ:Gam) (regs:List SV) (H:List Entry) (op:Op) (K:SV->List Entry->Prop):Prop :=
 match op with
 | .call c=>match c.callee with
  | .value fo=>J2 regs fo λsf=>match sf with
   | .fn f caps=>ZCs Γ f λC=>ZyV regs c.args.toList λl=>Zvb l caps λl'=>C.run l' H K
   | _=>False
  | _=>opK Δ regs H op K
 | op=>opK Δ regs H op K
def Zzf (regs:List SV) (dst:Option Tmp) (s:SV) (K:List SV->Prop):Prop :=
 match dst with
 | none=>K regs
 | some d=>Zzj regs d s K
def ZAR:List Oper->Nat->(Oper->Prop)->Prop
 | [],_,_=>False
 | o::_,0,K=>K o
 | _::r,n+1,K=>ZAR r n K
theorem ZpE:∀ (l:List Oper) {n:Nat} {K:Oper->Prop},ZAR l n K->∃ o,l[n]?=some o/\K o
 | [],_,_,h=>h.elim
 | o::_,0,K,h=>⟨o,rfl,h⟩
 | _::r,n+1,K,h=>by simpa using ZpE r (n:=n) h
def ZAU (Δ:Tab) (Γ:Gam) (ops:List Oper) (o:Oper) (regs:List SV) (H:List Entry) (K:List SV->List Entry->Prop):Prop :=
 match o.guard with
 | none=>ZuY Δ Γ regs H o.op λs H'=>Zzf regs o.dst s λregs'=>K regs' H'
 | some (j,want)=>ZAR ops j λoj=>match oj.dst with
  | none=>False
  | some d=>Zqj regs d λsg=>match sg with
   | .blit b=>if b=want then ZuY Δ Γ regs H o.op λs H'=>Zzf regs o.dst s λregs'=>K regs' H'
     else Zzf regs o.dst (.tup []) λregs'=>K regs' H
   | .bool p=>(p=want->Zzj regs d (.blit want) λregs1=>ZuY Δ Γ regs1 H o.op λs H'=>Zzf regs1 o.dst s λregs'=>K regs' H')/\
     (p = !want->Zzj regs d (.blit (!want)) λregs1=>Zzf regs1 o.dst (.tup []) λregs'=>K regs' H)
   | .tup []=>Zzf regs o.dst (.tup []) λregs'=>K regs' H
   | _=>False
def ZHP (Δ:Tab) (Γ:Gam) (ops:List Oper):List Oper->List SV->List Entry->(List SV->List Entry->Prop)->Prop
 | [],regs,H,K=>K regs H
 | o::r,regs,H,K=>ZAU Δ Γ ops o regs H λregs' H'=>ZHP Δ Γ ops r regs' H' K
def Conc (B:Base) (regs:List SV) (H:List Entry) (a:Act) (w:World):Prop :=
 ∃ E,E.w=w/\Inv B E H/\Yk E regs a.tmps.toList/\a.defers=[]
section
variable {P:Program}
theorem ZoB {E:Env} {regs:List SV} {a:Act} (hd:Yk E regs a.tmps.toList) {dst:Option Tmp} {s:SV} {v:Value} (hs:den E s v) {K:List SV->Prop} (hk:Zzf regs dst s K) :
  ∃ regs',Yk E regs' (a.put dst v).tmps.toList/\K regs'/\(a.put dst v).defers=a.defers:=by
 cases dst with
 | none=>exact ⟨regs,hd,hk,rfl⟩
 | some d =>
  simp only[Zzf,Zf7] at hk;refine ⟨_,?_,hk,rfl⟩;simp only[Act.put,Array.toList_setIfInBounds];exact Zgj _ _ hd d s v hs
theorem ZBB {B:Base} {E:Env} {o:Oper} {a:Act} {K:SV->List Entry->Prop} (h:Ran P B E o a K) {next:Act->World->Prop} {Q:Exit->Act->World->Prop}
  (hn:∀ E' H' s v,Inv B E' H'->E.le E'->den E' s v->K s H'->((Zft o.op||Zp5 o.op)=true->Grow E.w E'.w)->(∀ x,appArg o.op=some x->E.w.grownBy E'.w (YJ (a.eval x)))->next (a.put o.dst v) E'.w):o.wp P a E.w next Q:=by
 obtain ⟨nx,v,E',H',s,h1,h2,h3,h4,h5,h6,_,h7,h8⟩:=h;unfold Oper.wp;rw[h1];rcases h2 with rfl | ⟨rfl,rfl⟩
 ·exact hn E' H' s v h3 h4 h5 h6 h7 h8
 ·exact hn E' H' s _ h3 h4 h5 h6 h7 h8
theorem ZDd {Δ:Tab} (hΔ:Δ.ok P) {Γ:Gam} (hΓ:Γ.ok P) {B:Base} {E:Env} {H:List Entry} (hI:Inv B E H) {regs:List SV} {a:Act} (hd:Yk E regs a.tmps.toList) {o:Oper} {K:SV->List Entry->Prop}
  (h:ZuY Δ Γ regs H o.op K) {next:Act->World->Prop} {Q:Exit->Act->World->Prop}
  (hn:∀ E' H' s v,Inv B E' H'->E.le E'->den E' s v->K s H'->(ZlG Γ o.op=true->Grow E.w E'.w)->(∀ x,appArg o.op=some x->E.w.grownBy E'.w (YJ (a.eval x)))->(∀ xs,Zma Γ o.op=some xs->∀ b,b<E.w.heap.size->(∀ x∈xs,YJ (a.eval x)≠some b)->E'.w.heap[b]?=E.w.heap[b]?)->next (a.put o.dst v) E'.w):o.wp P a E.w next Q:=by
 obtain ⟨dst,op,type,pos,after,guard⟩:=o;simp only at h;unfold ZuY at h;split at h
 ·rename_i c
  obtain ⟨callee,args,argTypes⟩:=c;simp only at h;split at h
  ·rename_i fo
   obtain ⟨sf,hsf,h⟩:=YC hd h;split at h
   ·rename_i f caps
    simp only[den] at hsf;obtain ⟨cv,hfv,hcaps⟩:=hsf;obtain ⟨C,hC,h,hda,hio⟩:=ZvB Γ hΓ h;obtain ⟨l,hl,h⟩:=ZnY hd _ h;rw[Zcb] at h;have hds:=Zcy _ _ hl _ _ hcaps;have hcall:=hC.2 hI hds h;obtain ⟨⟨fn,hf,hname,hbody⟩,_⟩:=hC;have hrun:(execOp a.eval ⟨dst,.call ⟨.value fo,args,argTypes⟩,type,pos,after,guard⟩).run P E.w=.ok (.enter f (args.toList.map a.eval++cv).toArray) E.w:=by
     have hargs:(args.map a.eval)++cv.toArray=(args.toList.map a.eval++cv).toArray:=by
      apply Array.ext';simp
     simp only[execOp,resolve,hfv,Deferred.ofValue,pure_bind,invoke,Array.empty_append,hargs];unfold callFunc;rw[Sem.run_bind,run_program,Result.andThen_ok,hf];simp only[hname,hbody,Kf,Uh];rfl
    unfold Oper.wp;rw[hrun];refine hcall.mono ?_;rintro e w' ⟨v,E',H',s,rfl,rfl,h1,h2,h3,h4,h5,h6⟩;refine hn E' H' s v h1 h2 h3 h4 (λhgr=>h5 ?_) (ZtM rfl) (λxs hx b hb hne=>?_)
    ·rw[hda]
     cases fo with
     | func f0 =>
      simp only[Act.eval] at hfv;injection hfv with hfv
      injection hfv with hfv
      subst hfv;simpa[ZlG,Zft,Zp5] using hgr
     | _=>simp[ZlG,Zft,Zp5] at hgr
    ·cases fo with
     | func f0 =>
      simp only[Act.eval] at hfv;have hcv:cv=[]:=by
       have h:=hfv;simp at h;first | exact h.2.symm | exact h.2 | (rcases h with ⟨h1,h2⟩;simpa using h2.symm) | simpa using h.2
      injection hfv with hfv
      injection hfv with hfv
      subst hfv;simp only[Zma] at hx;split at hx
      ·rename_i m hm
       injection hx with hx
       subst hx;refine h6 m (hio.trans hm) b hb (λu hu=>?_);have:pick m (args.toList.map a.eval++cv)=(pick m args.toList).map a.eval:=by
        rw[<-ZuG,hcv,Uo]
       rw[this] at hu;obtain ⟨x,hx1,rfl⟩:=Kq.1 hu;exact hne x hx1
      ·cases hx
     | _=>simp[Zma] at hx
   ·exact h.elim
  ·rename_i hne
   refine ZBB (ZAW hΔ hI hd h) (λE' H' s v h1 h2 h3 h4 h5 h6=>hn E' H' s v h1 h2 h3 h4 (λhgr=>h5 ?_) h6 (λxs hx=>?_))
   ·cases callee with
    | value f=>exact absurd rfl (hne f)
    | _=>simpa[ZlG,Zp5] using hgr
   ·cases callee with
    | value f=>exact absurd rfl (hne f)
    | _=>simp[Zma] at hx
 ·rename_i hne
  refine ZBB (ZAW hΔ hI hd h) (λE' H' s v h1 h2 h3 h4 h5 h6=>hn E' H' s v h1 h2 h3 h4 (λhgr=>h5 ?_) h6 (λxs hx=>?_));rotate_left
  ·cases op with
   | call c=>exact absurd rfl (hne c)
   | _=>simp[Zma] at hx
  cases op with
  | call c=>exact absurd rfl (hne c)
  | _=>first | rfl | exact hgr | (simp[ZlG,Zft,Zp5] at hgr ⊢)
def ZzV:Value->Option Bool
 | .bool b=>some b
 | _=>none
theorem ZtX {ops:Array Oper} {a:Act} {j d:Nat} {oj:Oper} {v:Value} (ho:ops.toList[j]?=some oj) (hd:oj.dst=some d) (hv:a.tmps.toList[d]?=some v) :
  yielded ops a.tmps j=ZzV v:=by
 have ho':ops[j]?=some oj:=by simpa using ho
 have hv':a.tmps[d]?=some v:=by simpa using hv
 unfold yielded;rw[ho',Option.bind_some,hd,Option.bind_some,hv'];cases v<;>rfl
theorem Zyq {Δ:Tab} (hΔ:Δ.ok P) {Γ:Gam} (hΓ:Γ.ok P) {B:Base} (ops:Array Oper) {Q:Exit->Act->World->Prop} (o:Oper) {regs:List SV} {H:List Entry} {a:Act} {E:Env} (hI:Inv B E H) (hd:Yk E regs a.tmps.toList) (hdef:a.defers=[])
  {K:List SV->List Entry->Prop} (hk:ZAU Δ Γ ops.toList o regs H K) {next:Act->World->Prop}
  (hq:∀ regs' H' a' E',K regs' H'->Inv B E' H'->Yk E' regs' a'.tmps.toList->a'.defers=[]->E.le E'->(ZlG Γ o.op=true->Grow E.w E'.w)->(∀ x,appArg o.op=some x->E.w.grownBy E'.w (YJ (a.eval x)))->(∀ xs,Zma Γ o.op=some xs->∀ b,b<E.w.heap.size->(∀ x∈xs,YJ (a.eval x)≠some b)->E'.w.heap[b]?=E.w.heap[b]?)->next a' E'.w) :
  (if Region.wanted o (yielded ops a.tmps) then o.wp P a E.w next Q\/(o.asks P a E.w/\LetsOut Q) else next (a.put o.dst undef) E.w):=by
 have run:∀ {regs:List SV},Yk E regs a.tmps.toList->(ZuY Δ Γ regs H o.op λs H'=>Zzf regs o.dst s λregs'=>K regs' H')->o.wp P a E.w next Q:=by
  intro regs hd hk;refine ZDd hΔ hΓ hI hd hk (λE' H' s v hI' hle hs hk hg hap hwr=>?_);obtain ⟨regs',hd',hk,hdf⟩:=ZoB (ZM hle _ _ hd) hs hk;exact hq regs' H' _ _ hk hI' hd' (by rw[hdf];exact hdef) hle hg hap hwr
 have skip:∀ {regs:List SV},Yk E regs a.tmps.toList->(Zzf regs o.dst (.tup []) λregs'=>K regs' H)->next (a.put o.dst undef) E.w:=by
  intro regs hd hk;obtain ⟨regs',hd',hk,hdf⟩:=ZoB hd (v:=undef) (by simp only[den];exact ⟨[],rfl,trivial⟩) hk;exact hq regs' H _ _ hk hI hd' (by rw[hdf];exact hdef) (Env.le.refl E) (λ_=>Grow.refl _) (λ_ _=>⟨rfl,rfl,rfl,UK _,λ_ _ _=>rfl⟩) (λ_ _ _ _ _=>rfl)
 unfold ZAU at hk;split at hk
 ·rename_i hg
  rw[Uc (by simp[Region.wanted,hg])];exact .inl (run hd hk)
 ·rename_i j want hg
  obtain ⟨oj,hoj,hk1⟩:=ZpE _ hk;clear hk;split at hk1
  ·exact hk1.elim
  ·rename_i d hdst
   obtain ⟨sg,v,hv,hsg,hk,hrg⟩:=ZcA _ _ hd hk1;clear hrg hk1;have hy:=ZtX hoj hdst hv;have hwant:Region.wanted o (yielded ops a.tmps)=(ZzV v == some want):=by
    simp only[Region.wanted,hg,hy]
   have hset:∀ (s:SV),den E s v->Yk E (regs.set d s) a.tmps.toList:=by
    intro s hs;have h1:=Zgj _ _ hd d s v hs;have hvs:a.tmps.toList.set d v=a.tmps.toList:=by
     apply UD;intro k;by_cases hkd:d=k
     ·subst hkd
      have:=(Ub.1 hv).1;rw[Ut this,hv]
     ·rw[UH hkd]
    rwa [hvs] at h1
   split at hk
   ·rename_i b
    simp only[den] at hsg;subst hsg;split at hk
    ·rename_i hb;subst hb
     rw[Uc (by rw[hwant];simp[ZzV])];exact .inl (run hd hk)
    ·rename_i hb
     rw[Ud (by rw[hwant];simp[ZzV];exact hb)];exact skip hd hk
   ·rename_i p
    simp only[den] at hsg;subst hsg;by_cases hp:p=want
    ·subst hp
     rw[Uc (by rw[hwant];simp[ZzV])];have hk:=hk.1 rfl;rw[Zf7] at hk;exact .inl (run (hset _ (by simp only[den])) hk)
    ·have hp':p = !want:=by cases p<;>cases want<;>simp_all
     rw[Ud (by rw[hwant];simp[ZzV];exact hp)];have hk:=hk.2 hp';rw[Zf7] at hk;exact skip (hset _ (by simp only[den,hp'])) hk
   ·simp only[den] at hsg
    obtain ⟨vs,hvs,hd0⟩:=hsg;have:v=.tuple #[]:=by
     cases vs with
     | nil=>rw[hvs]
     | cons=>simp[Yk] at hd0
    rw[Ud (by rw[hwant,this];intro h;cases h)];exact skip hd hk
   ·exact hk.elim
theorem ZEt {Δ:Tab} (hΔ:Δ.ok P) {Γ:Gam} (hΓ:Γ.ok P) {B:Base} (ops:Array Oper) {Q:Exit->Act->World->Prop} (o:Oper) {regs:List SV} {H:List Entry} {a:Act} {w:World} (hc:Conc B regs H a w)
  {K:List SV->List Entry->Prop} (hk:ZAU Δ Γ ops.toList o regs H K) {next:Act->World->Prop}
  (hq:∀ regs' H' a' w',K regs' H'->Conc B regs' H' a' w'->(ZlG Γ o.op=true->Grow w w')->next a' w') :
  (if Region.wanted o (yielded ops a.tmps) then o.wp P a w next Q\/(o.asks P a w/\LetsOut Q) else next (a.put o.dst undef) w):=by
 obtain ⟨E,hw,hI,hd,hdef⟩:=hc;subst hw;exact Zyq hΔ hΓ ops o hI hd hdef hk (λregs' H' a' E' hk hI' hd' hdef' _ hg _ _=>hq regs' H' a' _ hk ⟨E',rfl,hI',hd',hdef'⟩ hg)
theorem ZAX {Δ:Tab} (hΔ:Δ.ok P) {Γ:Gam} (hΓ:Γ.ok P) {B:Base} (ops:Array Oper) {Q:Exit->Act->World->Prop}:∀ (l:List Oper) {regs:List SV} {H:List Entry} {a:Act} {w:World} (_:Conc B regs H a w)
  {K:List SV->List Entry->Prop} (_:ZHP Δ Γ ops.toList l regs H K) (_:∀ regs' H' a' w',K regs' H'->Conc B regs' H' a' w'->Q .normal a' w'),wpList P ops Q l a w
 | [],regs,H,a,w,hc,K,hk,hq=>hq _ _ _ _ hk hc
 | o::r,regs,H,a,w,hc,K,hk,hq=>by
  simp only[ZHP] at hk;unfold wpList;exact ZEt hΔ hΓ ops o hc hk (λregs' H' a' w' hk' hc' _=>ZAX hΔ hΓ ops r hc' hk' hq)
def ZnN (B:Base) (E0:Env) (regs:List SV) (H:List Entry) (a:Act) (w:World):Prop :=
 ∃ E,E0.le E/\E.w=w/\Inv B E H/\Yk E regs a.tmps.toList/\a.defers=[]
theorem ZnN.ZLQ {B:Base} {E0:Env} {regs:List SV} {H:List Entry} {a:Act} {w:World} (h:ZnN B E0 regs H a w):Conc B regs H a w:=by
 obtain ⟨E,_,h⟩:=h;exact ⟨E,h⟩
theorem ZAF {Δ:Tab} (hΔ:Δ.ok P) {Γ:Gam} {B:Base} (ops:Array Oper) (o:Oper) (hl:Zft o.op=true) {regs:List SV} {H:List Entry} {a:Act} {E:Env} (hI:Inv B E H) (hd:Yk E regs a.tmps.toList) (hdef:a.defers=[])
  {K:List SV->List Entry->Prop} (hk:ZAU Δ Γ ops.toList o regs H K) :
  ∃ v,((Region.wanted o (yielded ops a.tmps)=true/\∀ w',(isLoad o.op=true->Zva E.w w')->(execOp a.eval o).run P w'=.ok (.value v) w')\/(Region.wanted o (yielded ops a.tmps)=false/\v=undef))/\
   ∃ regs' H',K regs' H'/\ZnN B E regs' H' (a.put o.dst v) E.w:=by
 have hst:∀ (K:SV->List Entry->Prop) (regs:List SV),ZuY Δ Γ regs H o.op K->opK Δ regs H o.op K:=by
  intro K regs h;unfold ZuY at h;split at h
  ·rename_i c heq
   split at h
   ·rename_i f hcal
    rw[heq] at hl;simp[Zft,hcal] at hl
   ·exact h
  ·exact h
 have run:∀ {regs:List SV},Yk E regs a.tmps.toList->(ZuY Δ Γ regs H o.op λs H'=>Zzf regs o.dst s λregs'=>K regs' H')->
   ∃ v,(∀ w',(isLoad o.op=true->Zva E.w w')->(execOp a.eval o).run P w'=.ok (.value v) w')/\∃ regs' H',K regs' H'/\ZnN B E regs' H' (a.put o.dst v) E.w:=by
  intro regs hd hk;obtain ⟨nx,v,E',H',s,h1,h2,h3,h4,h5,h6,h7,_⟩:=ZAW hΔ hI hd (hst _ _ hk);obtain ⟨_,hw8,h8⟩:=h7 hl;obtain ⟨regs',hd',hk,hdf⟩:=ZoB (ZM h4 _ _ hd) h5 h6;exact ⟨v,h8,regs',H',hk,E',h4,hw8,h3,hd',by rw[hdf];exact hdef⟩
 have skip:∀ {regs:List SV},Yk E regs a.tmps.toList->(Zzf regs o.dst (.tup []) λregs'=>K regs' H)->∃ regs' H',K regs' H'/\ZnN B E regs' H' (a.put o.dst undef) E.w:=by
  intro regs hd hk;obtain ⟨regs',hd',hk,hdf⟩:=ZoB hd (v:=undef) (by simp only[den];exact ⟨[],rfl,trivial⟩) hk;exact ⟨regs',H,hk,E,Env.le.refl E,rfl,hI,hd',by rw[hdf];exact hdef⟩
 unfold ZAU at hk;split at hk
 ·rename_i hg
  obtain ⟨v,h1,h2⟩:=run hd hk;exact ⟨v,.inl ⟨by simp[Region.wanted,hg],h1⟩,h2⟩
 ·rename_i j want hg
  obtain ⟨oj,hoj,hk1⟩:=ZpE _ hk;clear hk;split at hk1
  ·exact hk1.elim
  ·rename_i d hdst
   obtain ⟨sg,v,hv,hsg,hk,hrg⟩:=ZcA _ _ hd hk1;clear hrg hk1;have hy:=ZtX hoj hdst hv;have hwant:Region.wanted o (yielded ops a.tmps)=(ZzV v == some want):=by
    simp only[Region.wanted,hg,hy]
   have hset:∀ (s:SV),den E s v->Yk E (regs.set d s) a.tmps.toList:=by
    intro s hs;have h1:=Zgj _ _ hd d s v hs;have hvs:a.tmps.toList.set d v=a.tmps.toList:=by
     apply UD;intro k;by_cases hkd:d=k
     ·subst hkd
      have:=(Ub.1 hv).1;rw[Ut this,hv]
     ·rw[UH hkd]
    rwa [hvs] at h1
   split at hk
   ·rename_i b
    simp only[den] at hsg;subst hsg;split at hk
    ·rename_i hb;subst hb
     obtain ⟨v,h1,h2⟩:=run hd hk;exact ⟨v,.inl ⟨by rw[hwant];simp[ZzV],h1⟩,h2⟩
    ·rename_i hb
     exact ⟨_,.inr ⟨by rw[hwant];simp[ZzV];exact hb,rfl⟩,skip hd hk⟩
   ·rename_i p
    simp only[den] at hsg;subst hsg;by_cases hp:p=want
    ·subst hp
     have hk:=hk.1 rfl;rw[Zf7] at hk;obtain ⟨v,h1,h2⟩:=run (hset _ (by simp only[den])) hk;exact ⟨v,.inl ⟨by rw[hwant];simp[ZzV],h1⟩,h2⟩
    ·have hp':p = !want:=by cases p<;>cases want<;>simp_all
     have hk:=hk.2 hp';rw[Zf7] at hk;exact ⟨_,.inr ⟨by rw[hwant];simp[ZzV];exact hp,rfl⟩,skip (hset _ (by simp only[den,hp'])) hk⟩
   ·simp only[den] at hsg
    obtain ⟨vs,hvs,hd0⟩:=hsg;have:v=.tuple #[]:=by
     cases vs with
     | nil=>rw[hvs]
     | cons=>simp[Yk] at hd0
    exact ⟨_,.inr ⟨by rw[hwant,this];rfl,rfl⟩,skip hd hk⟩
   ·exact hk.elim
end
section
variable {P:Program}
theorem Ztd {E:Env} {T:TypeId} {ti:TI} (h:Zei P T ti) (W:World->Prop) (p:Addr) {cs:List SV} {K:SV->Prop} (hk:VX ti cs K)
  (vs:List Value) (hd:Yk E cs vs) (hvs:∀ w',W w'->∀ j u,vs[j]?=some u->w'.cell? (p.add j)=some u) :
  ∃ v s,(∀ w',W w'->(loadVar T p).run P w'=.ok v w')/\den E s v/\K s:=by
 unfold VX at hk;split at hk
 ·rename_i ha
  rw[Zk2] at hk;split at hk
  ·rename_i hl
   have hd':=Zio cs vs hd ti.size;have hl':=Y5 _ _ hd';have h':=λw' (hst:W w')=>ZgD h w' p (vs.take ti.size) (λj u hu=>hvs w' hst j u (by
    rw[UA] at hu;split at hu
    ·exact hu
    ·cases hu)) (λ_=>by rw[<-hl'];exact hl)
   exact ⟨_,.agg _,λw' hst=>(h' w' hst).1 ha,by simp only[den];exact ⟨_,rfl,hd'⟩,hk⟩
  ·exact hk.elim
 ·rename_i ha
  split at hk
  ·rename_i c r
   match vs,hd,hvs with
   | v::vs,hd,hvs =>
    simp only[Yk] at hd;have h':=λw' (hst:W w')=>ZgD h w' p (v::vs) (λj u hu=>hvs w' hst j u hu) (λe=>absurd e ha);exact ⟨v,c,λw' hst=>(h' w' hst).2 (by simpa using ha) v rfl,hd.1,hk⟩
   | [],hd,_=>simp[Yk] at hd
  ·exact hk.elim
theorem Zy4 {B:Base} {E:Env} {H:List Entry} (hI:Inv B E H) {T:TypeId} {ti:TI} (h:Zei P T ti) {id off:Nat} {v:Value} (hs:den E (.ptr id off) v) {cells:List SV} (he:H[id]?=some (.box cells)) {K:SV->Prop}
  (hk:ZlE cells off λcs=>VX ti cs K) :
  ∃ b u r,E.ids[id]?=some (.pointer (some ⟨b,0,none⟩))/\(∀ w':World,w'.heap[b]?=E.w.heap[b]?->(Instr.loadAt T v).run P w'=.ok u w')/\den E r u/\K r:=by
 rw[Zc6] at hk;simp only[den] at hs;obtain ⟨b,h1,rfl⟩:=hs;obtain ⟨b',cs,T',h1',h2,h3⟩:=hI.ent id _ he;have:=h1.symm.trans h1';simp at this;subst this;obtain ⟨u,r,g1,g2,g3⟩:=Ztd h (λw'=>w'.heap[b]?=E.w.heap[b]?) ⟨b,off,none⟩ hk (cs.toList.drop off) (Zac _ _ h3 off) (λw' hw=>ZnR (hw.trans h2) off);exact ⟨b,u,r,h1,λw' hw=>by simp only[Instr.loadAt,Instr.sureAddr,pure_bind];exact g1 w' hw,g2,g3⟩
theorem Zrc {B:Base} {E:Env} {H:List Entry} (hI:Inv B E H) {id:Nat} {cells:List SV} (he:H[id]?=some (.box cells)) {b:Nat} (hb:E.ids[id]?=some (.pointer (some ⟨b,0,none⟩)))
  {k:Nat} {ek:Entry} {v:Value} (hk:H[k]?=some ek) (hl:ek.live=true) (hv:E.ids[k]?=some v) (hkid:k≠id):¬ZjO ek v b:=by
 intro h;exact hkid (hI.sep k id ek _ v _ b hk he hl rfl hv hb h (by simp[ZjO,YJ]))
end
def Zv0 (m:List Nat) (i:Nat):Nat:=(m[i]?).getD i
mutual
def ZK1 (m:List Nat):SV->SV
 | .ptr id off=>.ptr (Zv0 m id) off
 | .own id=>.own (Zv0 m id)
 | .oep id sz i off=>.oep (Zv0 m id) sz i off
 | .mown id=>.mown (Zv0 m id)
 | .fptr cs=>.fptr (ZA7 m cs)
 | .agg cs=>.agg (ZA7 m cs)
 | .tup cs=>.tup (ZA7 m cs)
 | .fn f cs=>.fn f (ZA7 m cs)
 | .bot=>.bot
 | .int k n=>.int k n
 | .bool b=>.bool b
 | .blit b=>.blit b
 | .str s=>.str s
 | .sl t d=>.sl t d
 | .nsl=>.nsl
 | .nilp=>.nilp
 | .nptr t d=>.nptr t d
 | .mp k v d=>.mp k v d
def ZA7 (m:List Nat):List SV->List SV
 | []=>[]
 | c::cs=>ZK1 m c::ZA7 m cs
end
def ZGz (m:List Nat):Entry->Entry
 | .box cells=>.box (ZA7 m cells)
 | .fbx cells=>.fbx (ZA7 m cells)
 | .hole et e d i cells fp=>.hole et e d i (ZA7 m cells) fp
 | .hsp et e d i cells fp=>.hsp et e d i (ZA7 m cells) fp
 | e=>e
section
variable {E:Env} {ids':List Value} {m:List Nat}
mutual
theorem ZD6 (h:∀ i v,E.ids[i]?=some v->ids'[Zv0 m i]?=some v):∀ (s:SV) (v:Value),den E s v->den ⟨E.S,E.w,ids'⟩ (ZK1 m s) v
 | .bot,_,_=>trivial
 | .int _ _,_,e=>e
 | .bool _,_,e=>e
 | .blit _,_,e=>e
 | .str _,_,e=>e
 | .sl t d,v,e=>e
 | .nsl,_,e=>e
 | .ptr _ _,_,⟨b,e1,e2⟩=>⟨b,h _ _ e1,e2⟩
 | .own _,_,⟨e1,e2⟩=>⟨h _ _ e1,e2⟩
 | .oep _ _ _ _,_,⟨b,bo,n,c,e1,e2⟩=>⟨b,bo,n,c,h _ _ e1,e2⟩
 | .fptr cs,_,⟨p,vs,e1,e2,e3,e4,e5⟩=>⟨p,vs,e1,e2,e3,e4,Zgi h cs vs e5⟩
 | .agg cs,_,⟨vs,e1,e2⟩=>⟨vs,e1,Zgi h cs vs e2⟩
 | .tup cs,_,⟨vs,e1,e2⟩=>⟨vs,e1,Zgi h cs vs e2⟩
 | .fn _ cs,_,⟨vs,e1,e2⟩=>⟨vs,e1,Zgi h cs vs e2⟩
 | .nilp,_,e=>e
 | .nptr t d,v,e=>e
 | .mown _,_,⟨e1,e2⟩=>⟨h _ _ e1,e2⟩
 | .mp k u d,v,e=>e
theorem Zgi (h:∀ i v,E.ids[i]?=some v->ids'[Zv0 m i]?=some v):∀ (cs:List SV) (vs:List Value),Yk E cs vs->Yk ⟨E.S,E.w,ids'⟩ (ZA7 m cs) vs
 | [],[],_=>trivial
 | c::cs,v::vs,⟨e1,e2⟩=>⟨ZD6 h c v e1,Zgi h cs vs e2⟩
 | [],_::_,e=>e
 | _::_,[],e=>e
end
theorem ZCk (h:∀ i v,E.ids[i]?=some v->ids'[Zv0 m i]?=some v) (i:Nat):∀ e:Entry,ZxN E i e->ZxN ⟨E.S,E.w,ids'⟩ (Zv0 m i) (ZGz m e)
 | .gone,_=>trivial
 | .box cells,⟨b,cs,T,e1,e2,e3⟩=>⟨b,cs,T,h _ _ e1,e2,Zgi h _ _ e3⟩
 | .arr et t d,⟨v,xs,e1,r⟩=>⟨v,xs,h _ _ e1,r⟩
 | .frz t d,⟨v,e1,r⟩=>⟨v,h _ _ e1,r⟩
 | .fbx cells,⟨b,cs,T,e1,e2,e3,e4⟩=>⟨b,cs,T,h _ _ e1,e2,e3,Zgi h _ _ e4⟩
 | .darr et e d fp,⟨v,xs,fps,e1,r⟩=>⟨v,xs,fps,h _ _ e1,r⟩
 | .hole et e d i cells fp,⟨v,xs,x1,vx,x2,f1,f2,e1,a1,a2,a3,a4,a5,a6,a7,a8,a9,r⟩=>⟨v,xs,x1,vx,x2,f1,f2,h _ _ e1,a1,a2,a3,a4,a5,a6,a7,a8,Zgi h _ _ a9,r⟩
 | .spl et e d n fp,⟨v,e1,r⟩=>⟨v,h _ _ e1,r⟩
 | .hsp et e d i cells fp,⟨v,xs,x1,vx,x2,f1,e1,a1,a2,a3,a4,a5,a6,a7,a8,a9,r⟩=>⟨v,xs,x1,vx,x2,f1,h _ _ e1,a1,a2,a3,a4,a5,a6,a7,a8,Zgi h _ _ a9,r⟩
 | .mpe k v d,⟨b,es,clk,e1,r⟩=>⟨b,es,clk,h _ _ e1,r⟩
 | .frm k v d,⟨u,e1,r⟩=>⟨u,h _ _ e1,r⟩
end
theorem ZvZ (m:List Nat) (e:Entry):(ZGz m e).live=e.live:=by cases e<;>rfl
theorem ZuK (m:List Nat) (e:Entry) (v:Value) (g:Nat):ZjO (ZGz m e) v g<->ZjO e v g:=by cases e<;>exact Iff.rfl
def Zzg:List Nat->Nat->Nat->(Nat->Prop)->Prop
 | [],_,i,K=>K i
 | a::_,0,_,K=>K a
 | _::r,n+1,i,K=>Zzg r n i K
theorem ZoC:∀ (m:List Nat) (n i:Nat) (K:Nat->Prop),Zzg m n i K=K ((m[n]?).getD i)
 | [],_,_,_=>rfl
 | _::_,0,_,_=>rfl
 | _::r,n+1,i,K=>ZoC r n i K
mutual
def Zte (m:List Nat):SV->(SV->Prop)->Prop
 | .ptr id off,K=>Zzg m id id λj=>K (.ptr j off)
 | .own id,K=>Zzg m id id λj=>K (.own j)
 | .oep id sz i off,K=>Zzg m id id λj=>K (.oep j sz i off)
 | .mown id,K=>Zzg m id id λj=>K (.mown j)
 | .fptr cs,K=>ZqL m cs λcs=>K (.fptr cs)
 | .agg cs,K=>ZqL m cs λcs=>K (.agg cs)
 | .tup cs,K=>ZqL m cs λcs=>K (.tup cs)
 | .fn f cs,K=>ZqL m cs λcs=>K (.fn f cs)
 | .bot,K=>K .bot
 | .int k n,K=>K (.int k n)
 | .bool b,K=>K (.bool b)
 | .blit b,K=>K (.blit b)
 | .str s,K=>K (.str s)
 | .sl t d,K=>K (.sl t d)
 | .nsl,K=>K .nsl
 | .nilp,K=>K .nilp
 | .nptr t d,K=>K (.nptr t d)
 | .mp k v d,K=>K (.mp k v d)
def ZqL (m:List Nat):List SV->(List SV->Prop)->Prop
 | [],K=>K []
 | c::cs,K=>Zte m c λc=>ZqL m cs λcs=>K (c::cs)
end
mutual
theorem ZC1 (m:List Nat):∀ (s:SV) (K:SV->Prop),Zte m s K=K (ZK1 m s)
 | .ptr id off,K=>by simp only[Zte,ZoC];rfl
 | .own id,K=>by simp only[Zte,ZoC];rfl
 | .oep id sz i off,K=>by simp only[Zte,ZoC];rfl
 | .mown id,K=>by simp only[Zte,ZoC];rfl
 | .fptr cs,K=>by simp only[Zte,ZkM m cs];rfl
 | .agg cs,K=>by simp only[Zte,ZkM m cs];rfl
 | .tup cs,K=>by simp only[Zte,ZkM m cs];rfl
 | .fn f cs,K=>by simp only[Zte,ZkM m cs];rfl
 | .bot,K=>rfl
 | .int k n,K=>rfl
 | .bool b,K=>rfl
 | .blit b,K=>rfl
 | .str s,K=>rfl
 | .sl t d,K=>rfl
 | .nsl,K=>rfl
 | .nilp,K=>rfl
 | .nptr t d,K=>rfl
 | .mp k v d,K=>rfl
theorem ZkM (m:List Nat):∀ (l:List SV) (K:List SV->Prop),ZqL m l K=K (ZA7 m l)
 | [],K=>rfl
 | c::cs,K=>by simp only[ZqL,ZC1 m c,ZkM m cs];rfl
end
def ZEx (m:List Nat):Entry->(Entry->Prop)->Prop
 | .box cells,K=>ZqL m cells λcs=>K (.box cs)
 | .fbx cells,K=>ZqL m cells λcs=>K (.fbx cs)
 | .hole et e d i cells fp,K=>ZqL m cells λcs=>K (.hole et e d i cs fp)
 | .hsp et e d i cells fp,K=>ZqL m cells λcs=>K (.hsp et e d i cs fp)
 | .gone,K=>K .gone
 | .arr et t d,K=>K (.arr et t d)
 | .frz t d,K=>K (.frz t d)
 | .darr et e d fp,K=>K (.darr et e d fp)
 | .spl et e d n fp,K=>K (.spl et e d n fp)
 | .mpe k v d,K=>K (.mpe k v d)
 | .frm k v d,K=>K (.frm k v d)
theorem ZC0 (m:List Nat) (e:Entry) (K:Entry->Prop):ZEx m e K=K (ZGz m e):=by
 cases e<;>first | rfl | (simp only[ZEx,ZkM];rfl)
def ZCW (H:List Entry) (m:List Nat):List Nat->(List Entry->Prop)->Prop
 | [],K=>K []
 | j::r,K=>Zi3 H j λe=>ZEx m e λe=>ZCW H m r λl=>K (e::l)
theorem Zyv (H:List Entry) (m:List Nat):∀ (o:List Nat) {K:List Entry->Prop},ZCW H m o K->∃ l,K l/\l.length=o.length/\∀ (i:Nat) (e':Entry),l[i]?=some e'->∃ j e,o[i]?=some j/\H[j]?=some e/\e'=ZGz m e
 | [],K,h=>⟨[],h,rfl,λi e' hi=>by cases hi⟩
 | j::r,K,h=>by
  unfold ZCW at h;obtain ⟨e,he,h⟩:=Xd H h;rw[ZC0] at h;obtain ⟨l,h1,h2,h3⟩:=Zyv H m r h;refine ⟨_,h1,by simp[h2],λi e' hi=>?_⟩;cases i with
  | zero =>
   rw[KI] at hi;injection hi with hi
   exact ⟨j,e,rfl,he,hi.symm⟩
  | succ i =>
   rw[U8] at hi;exact h3 i e' hi
def ZHN:List Nat->Nat->Nat->Bool
 | [],_,_=>false
 | a::_,0,x=>Nat.beq a x
 | _::r,n+1,x=>ZHN r n x
theorem Zw3:∀ (l:List Nat) {n x:Nat},ZHN l n x=true->l[n]?=some x
 | [],_,_,h=>by cases h
 | a::_,0,x,h=>by rw[KI,Nat.eq_of_beq_eq_true h]
 | _::r,n+1,x,h=>by rw[U8];exact Zw3 r h
def ZGl (m:List Nat):List Nat->Nat->Bool
 | [],_=>true
 | j::r,k=>ZHN m j k&&ZGl m r (k+1)
theorem ZwS (m:List Nat):∀ (o:List Nat) (k:Nat),ZGl m o k=true->∀ (i j:Nat),o[i]?=some j->m[j]?=some (k+i)
 | [],_,_,i,j,h=>by cases h
 | a::r,k,h,i,j,hi=>by
  unfold ZGl at h;rw[Ur] at h;cases i with
  | zero =>
   rw[KI] at hi;injection hi with hi
   subst hi;exact Zw3 m h.1
  | succ i =>
   rw[U8] at hi;have:=ZwS m r (k+1) h.2 i j hi;rw[this];congr 1;omega
def ZHE (m:List Nat):Nat->Bool
 | 0=>true
 | n+1=>ZHN m n n&&ZHE m n
theorem ZAm (m:List Nat):∀ (n:Nat),ZHE m n=true->∀ i,i<n->m[i]?=some i
 | 0,_,i,hi=>by omega
 | n+1,h,i,hi=>by
  unfold ZHE at h;rw[Ur] at h;by_cases e:i=n
  ·subst e;exact Zw3 m h.1
  ·exact ZAm m n h.2 i (by omega)
def ZC5 {α β:Type}:List α->List β->Bool
 | [],[]=>true
 | _::r,_::s=>ZC5 r s
 | _,_=>false
theorem ZuO {α β:Type}:∀ (l:List α) (r:List β),ZC5 l r=true->l.length=r.length
 | [],[],_=>rfl
 | _::r,_::s,h=>by simp[ZuO r s h]
 | [],_::_,h=>by cases h
 | _::_,[],h=>by cases h
def ZHG (i:Nat):List Nat->Bool
 | []=>false
 | j::r=>Nat.beq j i||ZHG i r
def ZGm:List Entry->Nat->Bool
 | [],_=>false
 | .box _::_,0=>true
 | _::_,0=>false
 | _::r,n+1=>ZGm r n
def ZDz (n0:Nat) (H:List Entry):List SV->List Nat->(List Nat->Prop)->Prop
 | [],acc,K=>K acc
 | .ptr id _::r,acc,K=>match Nat.ble n0 id&&ZGm H id&&!ZHG id acc with
  | true=>ZDz n0 H r (id::acc) K
  | false=>ZDz n0 H r acc K
 | .own id::r,acc,K=>match Nat.ble n0 id&&!ZHG id acc with
  | true=>ZDz n0 H r (id::acc) K
  | false=>ZDz n0 H r acc K
 | _::r,acc,K=>ZDz n0 H r acc K
theorem Zw5 (n0:Nat) (H:List Entry) {K:List Nat->Prop}:∀ (l:List SV) (acc:List Nat),ZDz n0 H l acc K->∃ c,K c
 | [],acc,h=>⟨acc,h⟩
 | s::r,acc,h=>by
  cases s<;>unfold ZDz at h<;>first
   | exact Zw5 n0 H r _ h
   | (split at h<;>exact Zw5 n0 H r _ h)
def ZBb (c:List Nat):List Entry->Nat->(List Nat->Prop)->Prop
 | [],_,K=>K c
 | _::r,i,K=>match ZHG i c with
  | true=>ZBb c r (i+1) K
  | false=>ZBb c r (i+1) λl=>K (i::l)
theorem ZuM (c:List Nat):∀ (H:List Entry) (i:Nat) {K:List Nat->Prop},ZBb c H i K->∃ o,K o
 | [],_,_,h=>⟨c,h⟩
 | _::r,i,K,h=>by
  unfold ZBb at h;split at h
  ·exact ZuM c r (i+1) h
  ·obtain ⟨o,h⟩:=ZuM c r (i+1) h
   exact ⟨_,h⟩
def ZCp:List Nat->Nat->Nat->(Nat->Prop)->Prop
 | [],_,k,K=>K k
 | a::r,j,k,K=>match Nat.beq a j with
  | true=>K k
  | false=>ZCp r j (k+1) K
theorem ZxV:∀ (o:List Nat) (j k:Nat) {K:Nat->Prop},ZCp o j k K->∃ p,K p
 | [],_,k,_,h=>⟨k,h⟩
 | a::r,j,k,K,h=>by
  unfold ZCp at h;split at h
  ·exact ⟨k,h⟩
  ·exact ZxV r j (k+1) h
def ZHR (o:List Nat):List Entry->Nat->(List Nat->Prop)->Prop
 | [],_,K=>K []
 | _::r,j,K=>ZCp o j 0 λp=>ZHR o r (j+1) λl=>K (p::l)
theorem ZA3 (o:List Nat):∀ (H:List Entry) (j:Nat) {K:List Nat->Prop},ZHR o H j K->∃ m,K m
 | [],_,_,h=>⟨[],h⟩
 | _::r,j,K,h=>by
  unfold ZHR at h;obtain ⟨p,h⟩:=ZxV o j 0 h;obtain ⟨m,h⟩:=ZA3 o r (j+1) h;exact ⟨_,h⟩
def canonK (n0:Nat) (regs:List SV) (H:List Entry) (K:List SV->List Entry->Prop):Prop :=
 ZDz n0 H regs [] λc=>match c with
  | []=>K regs H
  | c=>ZBb c H 0 λo=>ZHR o H 0 λm=>match (ZC5 o H&&ZC5 m H&&ZGl m o 0&&ZGl o m 0&&ZHE m n0) with
   | true=>ZqL m regs λregs'=>ZCW H m o λH'=>K regs' H'
   | false=>False
theorem ZzX {B:Base} {n0:Nat} {regs:List SV} {H:List Entry} {a:Act} {w:World} {K:List SV->List Entry->Prop} (hpin:∀ (i:Nat) (v:Value),B.pin[i]?=some v->i<n0) (h:canonK n0 regs H K) (hc:Conc B regs H a w) :
  ∃ regs' H',K regs' H'/\Conc B regs' H' a w:=by
 unfold canonK at h;obtain ⟨c,h⟩:=Zw5 n0 H _ _ h;split at h
 ·exact ⟨regs,H,h,hc⟩
 ·obtain ⟨o,h⟩:=ZuM _ H 0 h
  obtain ⟨m,h⟩:=ZA3 o H 0 h;split at h
  ·rename_i hb
   simp only[Ur] at hb;obtain ⟨⟨⟨⟨b1,b2⟩,b3⟩,b4⟩,b5⟩:=hb;have c1:=ZuO _ _ b1;have c2:=ZuO _ _ b2;have c3:=ZwS m o 0 b3;have c4:=ZwS o m 0 b4;have c5:=ZAm m n0 b5;rw[ZkM] at h;obtain ⟨H',h,g1,g2⟩:=Zyv H m o h;refine ⟨_,H',h,?_⟩;obtain ⟨E,hw,hI,hd,hdef⟩:=hc
   let ids':=o.map λj=>(E.ids[j]?).getD undef
   have hm:∀ j,j<H.length->∃ k,m[j]?=some k/\o[k]?=some j/\Zv0 m j=k:=λj hj=>by
    have e:m[j]?=some (m[j]'(by omega)):=Ua _;have:=c4 j _ e;rw[Uw] at this;exact ⟨_,e,this,by unfold Zv0;rw[e];rfl⟩
   have hids:∀ i v,E.ids[i]?=some v->ids'[Zv0 m i]?=some v:=λi v hi=>by
    have hl:=(Ub.1 hi).1;rw[hI.len] at hl;obtain ⟨k,_,e2,e3⟩:=hm i hl;rw[e3];show (o.map _)[k]?=_;rw[UI,e2];show some ((E.ids[i]?).getD undef)=_;rw[hi];rfl
   have hback:∀ i v,ids'[i]?=some v->∃ j,o[i]?=some j/\E.ids[j]?=some v/\Zv0 m j=i:=λi v hi=>by
    have hi':(o.map λj=>(E.ids[j]?).getD undef)[i]?=some v:=hi;rw[UI] at hi';cases e:o[i]? with
    | none=>rw[e] at hi';cases hi'
    | some j =>
     rw[e] at hi';have e':=c3 i j e;rw[Uw] at e';have hj:j<H.length:=by rw[<-c2];exact (Ub.1 e').1
     have hjv:E.ids[j]?=some (E.ids[j]'(by rw[hI.len];exact hj)):=Ua _;refine ⟨j,rfl,?_,by unfold Zv0;rw[e'];rfl⟩;injection hi' with hi'
     have ev:v=E.ids[j]'(by rw[hI.len];exact hj):=by
      rw[<-hi'];show (E.ids[j]?).getD undef=_;rw[hjv];rfl
     rw[hjv,<-ev]
   refine ⟨⟨E.S,E.w,ids'⟩,hw,⟨hI.keeps,hI.Slt,hI.Sold,?_,λi v hi=>?_,λi e' hi=>?_,λi e' v g hi hl hv hb=>?_,λi j ei ej vi vj g hi hj li lj vi' vj' bi bj=>?_⟩,Zgi hids _ _ hd,hdef⟩
   ·show (o.map _).length=H'.length
    rw[UL,g1]
   ·have:=hids i v (hI.pin i v hi)
    rw[show Zv0 m i=i by unfold Zv0;rw[c5 i (hpin i v hi)];rfl] at this;exact this
   ·obtain ⟨j,e,o1,o2,rfl⟩:=g2 i e' hi
    have:=c3 i j o1;rw[Uw] at this;have er:=ZCk hids j e (hI.ent j e o2);rw[show Zv0 m j=i by unfold Zv0;rw[this];rfl] at er;exact er
   ·obtain ⟨j,e,o1,o2,rfl⟩:=g2 i e' hi
    obtain ⟨j',p1,p2,_⟩:=hback i v hv;rw[o1] at p1;injection p1 with p1
    subst p1;rw[ZvZ] at hl;exact hI.free j e v g o2 hl p2 ((ZuK m e v g).1 hb)
   ·obtain ⟨j1,e1,o1,o2,rfl⟩:=g2 i ei hi
    obtain ⟨j2,e2,q1,q2,rfl⟩:=g2 j ej hj;obtain ⟨k1,p1,p2,p3⟩:=hback i vi vi';obtain ⟨k2,r1,r2,r3⟩:=hback j vj vj';rw[o1] at p1;injection p1 with p1
    subst p1;rw[q1] at r1;injection r1 with r1
    subst r1;rw[ZvZ] at li lj;have:=hI.sep j1 j2 e1 e2 vi vj g o2 q2 li lj p2 r2 ((ZuK m e1 vi g).1 bi) ((ZuK m e2 vj g).1 bj);rw[<-p3,<-r3,this]
  ·exact h.elim
inductive ZaT
 | done
 | op (i:Nat) (p:ZaT)
 | ld (i:Nat) (p:ZaT)
 | alt (i:Nat) (p q:ZaT)
 | can (p:ZaT)
def ZaT.o:List Nat->ZaT->ZaT
 | [],p=>p
 | i::r,p=>.op i (ZaT.o r p)
def ZaT.u:Nat->Nat->ZaT->ZaT
 | _,0,p=>p
 | a,n+1,p=>.op a (ZaT.u (a+1) n p)
def ZaT.l:List Nat->ZaT->ZaT
 | [],p=>p
 | i::r,p=>.ld i (ZaT.l r p)
def ZaT.a:List Nat->ZaT->ZaT
 | [],p=>p
 | i::r,p=>.alt i (ZaT.a r p) .done
def ZaT.d (i:Nat):ZaT:=.alt i .done .done
def ZaT.core:ZaT->ZaT
 | .can p=>p
 | p=>p
section
variable {P:Program} {ops:Array Oper}
inductive Behind (ops:Array Oper) (i:Nat):Nat->Prop
 | edge {j:Nat} {oj:Oper} {e:Edge}:ops[j]?=some oj->e∈oj.after->Region.binds .any e=true->e.on=i->Behind ops i j
 | step {j:Nat} {oj:Oper} {e:Edge}:ops[j]?=some oj->e∈oj.after->Region.binds .any e=true->Behind ops i e.on->Behind ops i j
def Zyj (acc:List Nat) (l:List Edge) (m:Nat):Nat :=
 match l with
 | []=>m
 | e::r=>Zyj acc r (if Region.binds .any e then (m ||| 2 ^ e.on) ||| acc.getD e.on 0 else m)
def Znx:List Oper->List Nat->List Nat
 | [],acc=>acc
 | o::r,acc=>Znx r (acc++[Zyj acc o.after.toList 0])
def Zc1 (M:List Nat) (i j:Nat):Bool:=(M.getD j 0).testBit i
theorem ZvO {ops:Array Oper} {acc:List Nat} (hacc:∀ (j m:Nat),acc[j]?=some m->∀ i,m.testBit i=true->Behind ops i j) {j:Nat} {oj:Oper} (hj:ops[j]?=some oj) :
  ∀ (l:List Edge) (m:Nat),(∀ e∈l,e∈oj.after)->(∀ i,m.testBit i=true->Behind ops i j)->∀ i,(Zyj acc l m).testBit i=true->Behind ops i j
 | [],m,_,hm,i,h=>hm i h
 | e::r,m,hl,hm,i,h=>by
  unfold Zyj at h;refine ZvO hacc hj r _ (λe he=>hl e (by simp[he])) ?_ i h;intro k hk;split at hk
  ·rename_i hb
   rw[Nat.testBit_or,Nat.testBit_or,Nat.testBit_two_pow] at hk;simp only[KP,Uk] at hk;rcases hk with (hk | hk) | hk
   ·exact hm k hk
   ·exact .edge hj (hl e (by simp)) hb hk
   ·cases ha:acc[e.on]? with
    | none=>simp[ha] at hk
    | some m'=>exact .step hj (hl e (by simp)) hb (hacc _ _ ha k (by simpa[ha] using hk))
  ·exact hm k hk
theorem ZtJ {ops:Array Oper}:∀ (l:List Oper) (acc:List Nat),(∀ (k:Nat),l[k]?=ops[acc.length+k]?)->(∀ (j m:Nat),acc[j]?=some m->∀ i,m.testBit i=true->Behind ops i j)->
  ∀ (j m:Nat),(Znx l acc)[j]?=some m->∀ i,m.testBit i=true->Behind ops i j
 | [],acc,_,h=>h
 | o::r,acc,hl,h=>by
  unfold Znx;refine ZtJ r _ (λk=>?_) ?_
  ·have:=hl (k+1)
   simpa[Nat.add_assoc,Nat.add_comm 1 k] using this
  ·intro j m hj i hi
   have hlt:=(Ub.1 hj).1;rw[Ug,Un] at hlt;by_cases hja:j<acc.length
   ·rw[Uq hja] at hj
    exact h j m hj i hi
   ·have:j=acc.length:=by omega
    subst this;rw[Uv (by omega)] at hj;simp at hj;subst hj;have h0:ops[acc.length]?=some o:=by simpa using (hl 0).symm
    exact ZvO h h0 _ 0 (λe he=>by simpa using he) (λi hi=>by simp at hi) i hi
def Down (ops:Array Oper) (listed:Array Bool):Prop:=∀ (j:Nat) (oj:Oper) (e:Edge),ops[j]?=some oj->listed.getD j false=true->e∈oj.after->Region.binds .any e=true->listed.getD e.on false=true
theorem Down.set {listed:Array Bool} (h:Down ops listed) {i:Nat} (hr:i∈Region.ready .any ops listed):Down ops (listed.setIfInBounds i true):=by
 intro j oj e hj hl he hb;by_cases hij:i=j
 ·subst hij
  obtain ⟨_,o,ho,hall⟩:=mem_ready.1 hr;rw[hj] at ho;injection ho with ho;subst ho
  exact getD_set_true (hall e he hb)
 ·rw[getD_set_ne false hij] at hl
  exact getD_set_true (h j oj e hj hl he hb)
theorem ZpX {listed:Array Bool} (hd:Down ops listed) {i:Nat} (hi:listed.getD i false=false):∀ (j:Nat),Behind ops i j->j ∉ Region.ready .any ops listed/\listed.getD j false=false:=by
 intro j h;have fin:∀ {j:Nat} {oj:Oper} {e:Edge},ops[j]?=some oj->e∈oj.after->Region.binds .any e=true->listed.getD e.on false=false->j ∉ Region.ready .any ops listed/\listed.getD j false=false:=by
  intro j oj e hj he hb hun;constructor
  ·intro hr
   obtain ⟨_,o,ho,hall⟩:=mem_ready.1 hr;rw[hj] at ho;injection ho with ho;subst ho
   have:=hall e he hb;rw[hun] at this;cases this
  ·cases hl:listed.getD j false with
   | false=>rfl
   | true =>
    have:=hd j oj e hj hl he hb;rw[hun] at this;cases this
 induction h with
 | edge hj he hb hon=>exact fin hj he hb (by rw[hon];exact hi)
 | step hj he hb _ ih=>exact fin hj he hb ih.2
def Lit (P:Program) (ops:Array Oper) (R:World->World->Prop) (o:Oper) (v:Value) (a:Act) (w:World):Prop :=
 (Region.wanted o (yielded ops a.tmps)=true/\∀ w',R w w'->(execOp a.eval o).run P w'=.ok (.value v) w')\/(Region.wanted o (yielded ops a.tmps)=false/\v=undef)
structure Way (R:World->World->Prop):Prop where
 refl:∀ w,R w w
 trans:∀ a b c,R a b->R b c->R a c
def Zqd (P:Program) (ops:Array Oper) (G:Nat->World->World->Prop) (Q:Exit->Act->World->Prop):Nat->Array Bool->Act->World->Prop
 | 0,listed,a,w=>Region.ready .any ops listed=[]/\Q .normal a w
 | fuel+1,listed,a,w=>(Region.ready .any ops listed=[]->Q .normal a w)/\
  ∀ i∈Region.ready .any ops listed,wpOp P ops Q i (λa' w'=>G i w w'/\Zqd P ops G Q fuel (listed.setIfInBounds i true) a' w') a w
theorem ZtW {G:Nat->World->World->Prop} {Q:Exit->Act->World->Prop}:∀ (fuel:Nat) (listed:Array Bool) (a:Act) (w:World),Zqd P ops G Q fuel listed a w->wpAny P .any ops Q fuel listed a w
 | 0,_,_,_,h=>h
 | fuel+1,_,_,_,h=>⟨h.1,λi hi=>wpOp_mono (λa' w' hh=>ZtW fuel _ a' w' hh.2) (h.2 i hi)⟩
theorem Lit.wpOp {R:World->World->Prop} (hR:Way R) {Q:Exit->Act->World->Prop} {i:Nat} {o:Oper} {v:Value} {a:Act} {w:World} (hi:ops[i]?=some o) (hy:Lit P ops R o v a w)
  {K:Act->World->Prop} (h:K (a.put o.dst v) w):Go.wpOp P ops Q i K a w:=by
 unfold Go.wpOp;simp only[hi];rcases hy with ⟨hw,hv⟩ | ⟨hw,rfl⟩
 ·simp only[hw,Uj,Oper.wp,hv w (hR.refl w),Oper.upon];exact .inl h
 ·simp only[hw,Kf,Uh];exact h
theorem ZBH {R:World->World->Prop} (hR:Way R) {Q:Exit->Act->World->Prop} {j:Nat} {oi oj:Oper} {v:Value} (hj:ops[j]?=some oj) (hap:oi.apart ops oj=true)
  (hsi:∀ cs b,oi.op≠.select cs b) (hsj:∀ cs b,oj.op≠.select cs b) (hQ:∀ c a w,¬Q (.panic c) a w) {G1:World->World->Prop} (hgr:∀ w w',G1 w w'->R w w')
  {K:Act->World->Prop} {a:Act} {w:World} (hy:Lit P ops R oi v a w) (h:wpOp P ops Q j (λa' w'=>G1 w w'/\K a' w') (a.put oi.dst v) w) :
  wpOp P ops Q j (λa' w'=>G1 w w'/\Lit P ops R oi v a' w'/\K (a'.put oi.dst v) w') a w:=by
 obtain ⟨h1,h2,h3⟩:=Oper.apart_spec hap;have keep:∀ (a':Act) (w':World),execOp a'.eval oi=execOp a.eval oi->Region.wanted oi (yielded ops a'.tmps)=Region.wanted oi (yielded ops a.tmps)->R w w'->Lit P ops R oi v a' w':=by
  intro a' w' he hw hr;unfold Lit at *;rw[he,hw];rcases hy with ⟨a1,a2⟩ | a1
  ·exact .inl ⟨a1,λw'' h''=>a2 w'' (hR.trans _ _ _ hr h'')⟩
  ·exact .inr a1
 have keepP:∀ (u:Value) (w':World),R w w'->Lit P ops R oi v (a.put oj.dst u) w':=λu w' hr=>keep _ _ (execOp_put oi hsi a oj.dst u h3) (wanted_put oi a oj.dst u h3) hr;have keepD:∀ (d:Deferred) (u:Value) (w':World),R w w'->Lit P ops R oi v (({a with defers:=d::a.defers}:Act).put oj.dst u) w':=λd u w' hr =>
  keep _ _ ((execOp_put oi hsi ({a with defers:=d::a.defers}:Act) oj.dst u h3).trans rfl) ((wanted_put oi ({a with defers:=d::a.defers}:Act) oj.dst u h3).trans rfl) hr
 unfold wpOp at *;simp only[hj] at *;rw[wanted_put oj a oi.dst v h1] at h;split
 ·rename_i hw
  simp only[hw,Uj] at h;rcases h with h | ⟨hasks,hlets⟩
  case inr=>exact .inr ⟨by unfold Oper.asks at *;rw[execOp_put oj hsj a oi.dst v h1] at hasks;exact hasks,hlets⟩
  refine .inl ?_;unfold Oper.wp at *;rw[execOp_put oj hsj a oi.dst v h1] at h;generalize (execOp a.eval oj).run P w=r at *;cases r with
  | ok n w' =>
   cases n<;>simp only[Oper.upon] at h ⊢
   case value u=>exact ⟨h.1,keepP u w' (hgr _ _ h.1),by rw[<-Act.put_comm a v u h2];exact h.2⟩
   case skip=>exact ⟨h.1,keepP _ w' (hgr _ _ h.1),by rw[<-Act.put_comm a v undef h2];exact h.2⟩
   case defer d =>
    refine ⟨h.1,keepD d _ w' (hgr _ _ h.1),?_⟩;rw[<-Act.put_comm _ v undef h2,<-Act.put_defers];exact h.2
   case enter f args =>
    refine Calls.mono h λe w'' he=>?_;cases e with
    | returned u=>exact ⟨he.1,keepP u w'' (hgr _ _ he.1),by rw[<-Act.put_comm a v u h2];exact he.2⟩
    | panicked c=>exact absurd he (hQ _ _ _)
    | outgrown=>exact he
   case row row args=>exact Rows.mono h λu w'' he=>⟨he.1,keepP u w'' (hgr _ _ he.1),by rw[<-Act.put_comm a v u h2];exact he.2⟩
  | halt x w' =>
   cases x<;>simp only[Oper.upon] at h ⊢
   case panic u=>exact absurd h (hQ _ _ _)
 ·rename_i hw
  simp only[hw] at h;exact ⟨h.1,keepP _ w (hR.refl w),by rw[<-Act.put_comm a v undef h2];exact h.2⟩
theorem Zqe {R:World->World->Prop} (hR:Way R) {Q:Exit->Act->World->Prop} {G:Nat->World->World->Prop} {i:Nat} {oi:Oper} {v:Value} (hi:ops[i]?=some oi) (hGi:∀ w,G i w w)
  (hsel:∀ (j:Nat) (o:Oper) cs b,ops[j]?=some o->o.op≠.select cs b) (hQ:∀ c a w,¬Q (.panic c) a w)
  (hfree:∀ j oj,ops[j]?=some oj->j≠i->¬Behind ops i j->¬Behind ops j i->oi.apart ops oj=true/\∀ w w',G j w w'->R w w') :
  ∀ (fuel:Nat) (listed:Array Bool) (a:Act) (w:World),Down ops listed->i∈Region.ready .any ops listed->Lit P ops R oi v a w->
   Zqd P ops G Q fuel (listed.setIfInBounds i true) (a.put oi.dst v) w->Zqd P ops G Q (fuel+1) listed a w:=by
 have hun:∀ listed:Array Bool,i∈Region.ready .any ops listed->listed.getD i false=false:=by
  intro listed hr;have h0:=(mem_ready.1 hr).1;rcases Nat.lt_or_ge i listed.size with h' | h'
  ·simpa[h'] using h0
  ·simp[Array.getElem?_eq_none h']
 intro fuel;induction fuel with
 | zero =>
  intro listed a w hd hr hy H;refine ⟨λh=>(by rw[h] at hr;cases hr),λj hj=>?_⟩;by_cases hji:j=i
  ·subst hji;exact hy.wpOp hR hi ⟨hGi w,H⟩
  ·have:=ready_mono hj hji
   rw[H.1] at this;cases this
 | succ fuel ih =>
  intro listed a w hd hr hy H;refine ⟨λh=>(by rw[h] at hr;cases hr),λj hj=>?_⟩;by_cases hji:j=i
  ·subst hji;exact hy.wpOp hR hi ⟨hGi w,H⟩
  ·have h1:=H.2 j (ready_mono hj hji)
   obtain ⟨hjun,oj,hoj,hall⟩:=mem_ready.1 hj;have hnb:¬Behind ops i j:=λhb=>(ZpX hd (hun _ hr) j hb).1 hj;have hnb2:¬Behind ops j i:=by
    intro hb;refine (ZpX hd ?_ i hb).1 hr;rcases Nat.lt_or_ge j listed.size with h' | h'
    ·simpa[h'] using hjun
    ·simp[Array.getElem?_eq_none h']
   obtain ⟨hap,hgr⟩:=hfree j oj hoj hji hnb hnb2;have h2:=ZBH hR hoj hap (λcs b=>hsel i oi cs b hi) (λcs b=>hsel j oj cs b hoj) hQ hgr hy h1;refine wpOp_mono (λa' w' h3=>⟨h3.1,ih (listed.setIfInBounds j true) a' w' (hd.set hj) (ready_mono hr (Ne.symm hji)) h3.2.1 ?_⟩) h2;rw[Array.setIfInBounds_comm _ _ hji];exact h3.2.2
def Zoy (ops:Array Oper):Bool:=ops.all λo=>match o.op with
 | .select _ _=>false
 | _=>true
def ZGj (Γ:Gam) (ops:Array Oper) (M:List Nat) (i:Nat):Bool :=
 match ops[i]? with
 | none=>false
 | some oi=>Zft oi.op&&(List.range ops.size).all λj=>j == i||Zc1 M i j||Zc1 M j i||match ops[j]? with
  | none=>true
  | some oj=>oi.apart ops oj&&(!isLoad oi.op||ZlG Γ oj.op)
def ZKL:Op->Bool
 | .indexAddr _ _ _=>true
 | _=>false
def ZFQ (ops:List Oper):Bool:=ops.all λo=>match o.op with
 | .store _ (.tmp t) _=>ops.any λo'=>(match o'.dst with
  | some d=>Nat.beq d t
  | none=>false)&&ZKL o'.op
 | .store _ _ _=>false
 | _=>true
def ZDN (st:Bool) (op:Op):Option Operand:=match op with
 | .store _ x _=>match st with
  | true=>some x
  | false=>none
 | op=>appArg op
theorem ZxD {st:Bool} {op:Op} {x:Operand} (h:ZDN st op=some x):appArg op=some x:=by
 unfold ZDN at h;split at h
 ·split at h
  ·exact h
  ·cases h
 ·exact h
def ZHY (Γ:Gam) (st:Bool) (op:Op):Bool:=(ZDN st op).isSome||(Zma Γ op).isSome
theorem ZG4 {Γ:Gam} {op:Op} {x:Operand} (h:appArg op=some x):Zma Γ op=none:=by
 unfold appArg at h;split at h
 ·rfl
 ·rfl
 ·cases h
def ZA2 (o:Oper):Bool:=match o.op,o.guard with
 | .load _ _,none=>true
 | _,_=>false
def ZGk (Γ:Gam) (ops:Array Oper) (M:List Nat) (i:Nat):Bool :=
 match ops[i]? with
 | none=>false
 | some oi=>ZA2 oi&&(List.range ops.size).all λj=>j == i||Zc1 M i j||Zc1 M j i||match ops[j]? with
  | none=>true
  | some oj=>oi.apart ops oj&&(ZlG Γ oj.op||ZHY Γ (ZFQ ops.toList) oj.op)
def Zcm (Γ:Gam) (ops:Array Oper) (M:List Nat):ZaT->Nat->Array Bool->Option (List Nat)->Bool
 | .done,_,listed,none=>(Region.ready .any ops listed).isEmpty
 | .done,_,_,some rem=>rem.isEmpty
 | .op i p,n+1,listed,none=>(Region.ready .any ops listed).contains i&&ZGj Γ ops M i&&Zcm Γ ops M p n (listed.setIfInBounds i true) none
 | .ld i p,n+1,listed,none=>(Region.ready .any ops listed).contains i&&ZGk Γ ops M i&&Zcm Γ ops M p n (listed.setIfInBounds i true) none
 | .alt i p q,n+1,listed,none=>(Region.ready .any ops listed).contains i&&Zcm Γ ops M p n (listed.setIfInBounds i true) none&&Zcm Γ ops M q (n+1) listed (some ((Region.ready .any ops listed).filter (· != i)))
 | .alt i p q,n+1,listed,some rem=>Zcm Γ ops M p n (listed.setIfInBounds i true) none&&Zcm Γ ops M q (n+1) listed (some (rem.filter (· != i)))
 | _,_,_,_=>false
def Ze3 (i:Nat):List Nat->Bool
 | []=>false
 | j::r=>Nat.beq j i||Ze3 i r
def Zlz:List Nat->List Entry->Prop->Prop
 | [],_,K=>K
 | i::r,H,K=>Zi3 H i λe=>match e with
  | .box _=>Zlz r H K
  | _=>False
def wrK (V:List Nat) (regs:List SV) (H:List Entry):List Operand->Prop->Prop
 | [],K=>Zlz V H K
 | x::r,K=>J2 regs x λs=>match s with
  | .ptr i _=>Ze3 i V=false/\Zi3 H i λe=>match e with
   | .box _=>wrK V regs H r K
   | _=>False
  | _=>False
def ZFG (Γ:Gam) (st:Bool) (V:List Nat) (regs:List SV) (H:List Entry) (op:Op) (K:Prop):Prop:=match V with
 | []=>K
 | _=>match ZDN st op with
  | none=>match Zma Γ op with
   | none=>K
   | some xs=>wrK V regs H xs K
  | some x=>J2 regs x λs=>match s with
   | .nsl=>K
   | .own i=>Ze3 i V=false/\Zi3 H i λe=>match e with
    | .arr _ _ _=>Zlz V H K
    | .darr _ _ _ _=>Zlz V H K
    | _=>False
   | .oep i _ _ _=>Ze3 i V=false/\Zi3 H i λe=>match e with
    | .arr _ _ _=>Zlz V H K
    | .darr _ _ _ _=>Zlz V H K
    | .hole _ _ _ _ _ _=>Zlz V H K
    | _=>False
   | _=>False
def ldK (Δ:Tab) (V:List Nat) (o:Oper) (regs:List SV) (H:List Entry) (K:List SV->Prop):Prop:=match o.op,o.guard with
 | .load T x,none=>ZdZ Δ T λti=>J2 regs x λs=>match s with
  | .ptr id off=>Ze3 id V=true/\Zi3 H id λe=>match e with
   | .box cells=>ZlE cells off λcs=>VX ti cs λr=>Zzf regs o.dst r K
   | _=>False
  | _=>False
 | _,_=>False
def ZFU:Prop:=True
def Zlr (Δ:Tab) (Γ:Gam) (ops:List Oper) (V:List Nat):ZaT->Bool->List SV->List Entry->(List SV->List Entry->Prop)->Prop
 | .done,false,regs,H,K=>ZFU/\K regs H
 | .done,true,_,_,_=>True
 | .op i p,_,regs,H,K=>ZAR ops i λo=>ZAU Δ Γ ops o regs H λregs' H'=>Zlr Δ Γ ops V p false regs' H' K
 | .ld i p,_,regs,H,K=>ZAR ops i λo=>ldK Δ V o regs H λregs'=>Zlr Δ Γ ops V p false regs' H K
 | .can _,_,_,_,_=>False
 | .alt i p .done,_,regs,H,K=>ZAR ops i λo=>ZFG Γ (ZFQ ops) V regs H o.op (ZAU Δ Γ ops o regs H λregs' H'=>Zlr Δ Γ ops V p false regs' H' K)
 | .alt i p q,_,regs,H,K=>(ZAR ops i λo=>ZFG Γ (ZFQ ops) V regs H o.op (ZAU Δ Γ ops o regs H λregs' H'=>Zlr Δ Γ ops V p false regs' H' K))/\Zlr Δ Γ ops V q true regs H K
def ZHF (Γ:Gam) (ops:Array Oper) (j:Nat):Bool:=match ops[j]? with
 | some o=>ZlG Γ o.op
 | none=>true
def ZDM (Γ:Gam) (ops:Array Oper) (j:Nat):Bool:=match ops[j]? with
 | some o=>ZHY Γ (ZFQ ops.toList) o.op
 | none=>false
def VOk (V:List Nat) (Bk:Nat->Option Nat) (E:Env):Prop:=∀ id,Ze3 id V=true->∃ b,Bk id=some b/\E.ids[id]?=some (.pointer (some ⟨b,0,none⟩))
theorem VOk.le {V:List Nat} {Bk:Nat->Option Nat} {E E':Env} (h:VOk V Bk E) (hle:E.le E'):VOk V Bk E':=λid hi=>by
 obtain ⟨b,h1,h2⟩:=h id hi;exact ⟨b,h1,hle.ids _ _ h2⟩
def ZsI (B:Base) (V:List Nat) (Bk:Nat->Option Nat) (regs:List SV) (H:List Entry) (a:Act) (w:World):Prop :=
 ∃ E,VOk V Bk E/\E.w=w/\Inv B E H/\Yk E regs a.tmps.toList/\a.defers=[]
theorem ZsI.ZLQ {B:Base} {V:List Nat} {Bk:Nat->Option Nat} {regs:List SV} {H:List Entry} {a:Act} {w:World} (h:ZsI B V Bk regs H a w):Conc B regs H a w:=by
 obtain ⟨E,_,h⟩:=h;exact ⟨E,h⟩
def Leaves (Γ:Gam) (ops:Array Oper) (V:List Nat) (Bk:Nat->Option Nat) (j:Nat) (w w':World):Prop :=
 (ZHF Γ ops j=true->Grow w w')/\(ZDM Γ ops j=true->∀ id b,Ze3 id V=true->Bk id=some b->b<w.heap.size->w'.heap[b]?=w.heap[b]?)
theorem Leaves.refl {Γ:Gam} {ops:Array Oper} {V:List Nat} {Bk:Nat->Option Nat} {j:Nat} (w:World):Leaves Γ ops V Bk j w w:=⟨λ_=>Grow.refl w,λ_ _ _ _ _ _=>rfl⟩
def Rb (b:Nat) (w w':World):Prop:=b<w.heap.size->b<w'.heap.size/\w'.heap[b]?=w.heap[b]?
theorem Rb.way (b:Nat):Way (Rb b):=⟨λw h=>⟨h,rfl⟩,λx y z h1 h2 h=>by
 obtain ⟨a1,a2⟩:=h1 h;obtain ⟨b1,b2⟩:=h2 a1;exact ⟨b1,b2.trans a2⟩⟩
theorem Rb.of {b:Nat} {w w':World} (h:b<w.heap.size->w'.heap[b]?=w.heap[b]?):Rb b w w':=λhb=>by
 refine ⟨?_,h hb⟩;have:=h hb;rw[Array.getElem?_eq_getElem hb] at this;exact (U7.1 this).1
theorem ZlA:∀ (V:List Nat) {H:List Entry} {K:Prop},Zlz V H K->K/\∀ id,Ze3 id V=true->∃ cells,H[id]?=some (.box cells)
 | [],H,K,h=>⟨h,λid hi=>by cases hi⟩
 | i::r,H,K,h=>by
  unfold Zlz at h;obtain ⟨e,he,h⟩:=Xd H h;split at h
  ·rename_i cells
   obtain ⟨hk,hr⟩:=ZlA r h;refine ⟨hk,λid hi=>?_⟩;unfold Ze3 at hi;rcases KP _ _▸hi with hq | hq
   ·have:=Nat.eq_of_beq_eq_true hq
    subst this;exact ⟨cells,he⟩
   ·exact hr id hq
  ·exact h.elim
theorem ZDI {B:Base} {E:Env} {H:List Entry} (hI:Inv B E H) {regs:List SV} {a:Act} (hd:Yk E regs a.tmps.toList) {V:List Nat} {Bk:Nat->Option Nat} (hV:VOk V Bk E):∀ (xs:List Operand) {K:Prop},wrK V regs H xs K->
  K/\(∀ id,Ze3 id V=true->∃ cells,H[id]?=some (.box cells))/\∀ id b,Ze3 id V=true->Bk id=some b->∀ x∈xs,YJ (a.eval x)≠some b
 | [],K,h=>⟨(ZlA V h).1,(ZlA V h).2,λid b _ _ x hx=>by cases hx⟩
 | x::r,K,h=>by
  unfold wrK at h;obtain ⟨s,hs,h⟩:=YC hd h;split at h
  ·rename_i i off
   obtain ⟨hn,h⟩:=h;obtain ⟨en,he,h⟩:=Xd H h;split at h
   ·rename_i cells
    obtain ⟨hk,hbox,hr⟩:=ZDI hI hd hV r h;refine ⟨hk,hbox,λid b hi hbk y hy=>?_⟩;rcases UT.1 hy with rfl | hy
    ·simp only[den] at hs
     obtain ⟨b0,h1,h2⟩:=hs;rw[h2];intro e;simp only[YJ,Option.some.injEq] at e;subst e;obtain ⟨b',hb1,hb2⟩:=hV id hi;rw[hbk] at hb1;injection hb1 with hb1
     subst hb1;obtain ⟨cells',hc⟩:=hbox id hi;have hkid:i≠id:=λq=>by subst q;rw[hn] at hi;cases hi
     exact Zrc hI hc hb2 he rfl h1 hkid (by simp[ZjO,YJ])
    ·exact hr id b hi hbk y hy
   ·exact h.elim
  ·exact h.elim
theorem ZDL {B:Base} {E:Env} {H:List Entry} (hI:Inv B E H) {regs:List SV} {a:Act} (hd:Yk E regs a.tmps.toList) {V:List Nat} {Bk:Nat->Option Nat} (hV:VOk V Bk E) {Γ:Gam} {st:Bool} {op:Op} {K:Prop} (h:ZFG Γ st V regs H op K) :
  (K/\∀ x,ZDN st op=some x->∀ w',E.w.grownBy w' (YJ (a.eval x))->∀ id b,Ze3 id V=true->Bk id=some b->b<E.w.heap.size->w'.heap[b]?=E.w.heap[b]?)/\
  ∀ xs,Zma Γ op=some xs->∀ id b,Ze3 id V=true->Bk id=some b->∀ x∈xs,YJ (a.eval x)≠some b:=by
 unfold ZFG at h;split at h
 ·exact ⟨⟨h,λx _ w' _ id b hi=>by cases hi⟩,λxs _ id b hi=>by cases hi⟩
 ·split at h
  ·rename_i ha
   split at h
   ·rename_i hw
    exact ⟨⟨h,λx hx=>by rw[ha] at hx;cases hx⟩,λxs hx=>by rw[hw] at hx;cases hx⟩
   ·rename_i xs hw
    obtain ⟨hk,_,h2⟩:=ZDI hI hd hV xs h;exact ⟨⟨hk,λx hx=>by rw[ha] at hx;cases hx⟩,λys hy=>by rw[hw] at hy;injection hy with hy;subst hy;exact h2⟩
  ·rename_i x ha
   refine ⟨?_,λxs hx=>by rw[ZG4 (ZxD ha)] at hx;cases hx⟩;obtain ⟨s,hs,h⟩:=YC hd h;split at h
   ·simp only[den] at hs
    refine ⟨h,λy hy w' hg id b _ _ hb=>?_⟩;rw[ha] at hy;injection hy with hy;subst hy
    rw[hs] at hg;exact hg.block b hb (λe=>by simp[YJ] at e)
   ·rename_i k
    obtain ⟨hn,h⟩:=h;obtain ⟨en,he,h⟩:=Xd H h;simp only[den] at hs;have fin:∀ {K:Prop},Zlz V H K->en.live=true->(∀ g,YJ (a.eval x)=some g->ZjO en (a.eval x) g)->K/\∀ y,ZDN st op=some y->∀ w',E.w.grownBy w' (YJ (a.eval y))->∀ id b,Ze3 id V=true->Bk id=some b->b<E.w.heap.size->w'.heap[b]?=E.w.heap[b]?:=by
     intro K h hl hblk;obtain ⟨hk,hbox⟩:=ZlA V h;refine ⟨hk,λy hy w' hg id b hi hbk hb=>?_⟩;rw[ha] at hy;injection hy with hy;subst hy
     obtain ⟨cells,hc⟩:=hbox id hi;obtain ⟨b',hb1,hb2⟩:=hV id hi;rw[hbk] at hb1;injection hb1 with hb1;subst hb1
     refine hg.block b hb (λe=>?_);have hkid:k≠id:=λq=>by subst q;rw[hn] at hi;cases hi
     exact Zrc hI hc hb2 he hl hs.1 hkid (hblk b e.symm)
    split at h
    ·exact fin h rfl (λg hg=>hg)
    ·obtain ⟨v,xs,fps,e1,_,_,efp,_⟩:=hI.ent k _ he
     have:=hs.1.symm.trans e1;simp at this;subst this;exact fin h rfl (λg hg=>by simp only[ZjO];rw[efp,hg];simp)
    ·exact h.elim
   ·rename_i k sz i off
    obtain ⟨hn,h⟩:=h;obtain ⟨en,he,h⟩:=Xd H h;simp only[den] at hs;obtain ⟨g0,bo,n0,c0,hs1,hs2⟩:=hs;have fin:∀ {K:Prop},Zlz V H K->en.live=true->ZjO en (.slice (some ⟨g0,bo,none⟩) n0 c0) g0->K/\∀ y,ZDN st op=some y->∀ w',E.w.grownBy w' (YJ (a.eval y))->∀ id b,Ze3 id V=true->Bk id=some b->b<E.w.heap.size->w'.heap[b]?=E.w.heap[b]?:=by
     intro K h hl hblk;obtain ⟨hk,hbox⟩:=ZlA V h;refine ⟨hk,λy hy w' hg id b hi hbk hb=>?_⟩;rw[ha] at hy;injection hy with hy;subst hy
     obtain ⟨cells,hc⟩:=hbox id hi;obtain ⟨b',hb1,hb2⟩:=hV id hi;rw[hbk] at hb1;injection hb1 with hb1;subst hb1
     refine hg.block b hb (λe=>?_);rw[hs2] at e;simp only[YJ,Option.some.injEq] at e;subst e;have hkid:k≠id:=λq=>by subst q;rw[hn] at hi;cases hi
     exact Zrc hI hc hb2 he hl hs1 hkid hblk
    split at h
    ·exact fin h rfl rfl
    ·obtain ⟨v,xs,fps,e1,_,_,efp,_⟩:=hI.ent k _ he
     have:=hs1.symm.trans e1;simp at this;subst this;exact fin h rfl (by simp only[ZjO];rw[efp];simp[YJ])
    ·obtain ⟨v,xs,x1,vxs,x2,f1,f2,k1,ho,hi0,hi1,ex,el,el2,hr1,hr2,hdc,ef,hnd⟩:=hI.ent k _ he
     have:=hs1.symm.trans k1;simp at this;subst this;exact fin h rfl (by simp only[ZjO];rw[ef];simp[YJ])
    ·exact h.elim
   ·exact h.elim
theorem ZCg {M:List Nat} (hM:∀ i j,Zc1 M i j=true->Behind ops i j) {Δ:Tab} (hΔ:Δ.ok P) {Γ:Gam} (hΓ:Γ.ok P) {B:Base} {V:List Nat} {Bk:Nat->Option Nat} {Q:Exit->Act->World->Prop} (hQ:∀ c a w,¬Q (.panic c) a w) (hs:Zoy ops=true) {K:List SV->List Entry->Prop}
  (hq:∀ regs' H' a' w',K regs' H'->ZsI B V Bk regs' H' a' w'->Q .normal a' w') :
  ∀ (p:ZaT) (n:Nat) (listed:Array Bool) (m:Option (List Nat)) (regs:List SV) (H:List Entry) (a:Act) (w:World),ZsI B V Bk regs H a w->Down ops listed->Zcm Γ ops M p n listed m=true->Zlr Δ Γ ops.toList V p m.isSome regs H K->
   match m with
   | none=>Zqd P ops (Leaves Γ ops V Bk) Q n listed a w
   | some rem=>∀ i∈rem,i∈Region.ready .any ops listed->wpOp P ops Q i (λa' w'=>Leaves Γ ops V Bk i w w'/\Zqd P ops (Leaves Γ ops V Bk) Q (n-1) (listed.setIfInBounds i true) a' w') a w:=by
 have hsel:∀ (j:Nat) (o:Oper) cs b,ops[j]?=some o->o.op≠.select cs b:=by
  intro j o cs b hj he;unfold Zoy at hs;rw[Array.all_eq_true_iff_forall_mem] at hs;have:=hs o (Array.mem_of_getElem? hj);rw[he] at this;cases this
 have heavy:∀ (i n:Nat) (listed:Array Bool) (p:ZaT) (regs:List SV) (H:List Entry) (a:Act) (w:World),ZsI B V Bk regs H a w->Down ops listed->i∈Region.ready .any ops listed->Zcm Γ ops M p n (listed.setIfInBounds i true) none=true->
   (∀ regs H a w,ZsI B V Bk regs H a w->Zlr Δ Γ ops.toList V p false regs H K->Zqd P ops (Leaves Γ ops V Bk) Q n (listed.setIfInBounds i true) a w)->
   (ZAR ops.toList i λo=>ZFG Γ (ZFQ ops.toList) V regs H o.op (ZAU Δ Γ ops.toList o regs H λregs' H'=>Zlr Δ Γ ops.toList V p false regs' H' K))->
   wpOp P ops Q i (λa' w'=>Leaves Γ ops V Bk i w w'/\Zqd P ops (Leaves Γ ops V Bk) Q n (listed.setIfInBounds i true) a' w') a w:=by
  intro i n listed p regs H a w hc hd hr hp ih hk;obtain ⟨o,ho,hk⟩:=ZpE _ hk;have ho':ops[i]?=some o:=by simpa using ho
  unfold wpOp;simp only[ho'];obtain ⟨E,hV,rfl,hI,hdn,hdef⟩:=hc;obtain ⟨⟨hk,happ⟩,hwrs⟩:=ZDL hI hdn hV hk;refine Zyq hΔ hΓ ops o hI hdn hdef hk (λregs' H' a' E' hk' hI' hd' hdef' hle hg hap hwr=>⟨⟨λhgr=>hg ?_,λhb=>?_⟩,ih regs' H' a' E'.w ⟨E',hV.le hle,rfl,hI',hd',hdef'⟩ hk'⟩)
  ·simpa[ZHF,ho'] using hgr
  ·simp only[ZDM,ho',ZHY,KP,Option.isSome_iff_exists] at hb
   rcases hb with ⟨x,hx⟩ | ⟨xs,hx⟩
   ·exact happ x hx _ (hap x (ZxD hx))
   ·exact λid b hi hbk hlt=>hwr xs hx b hlt (hwrs xs hx id b hi hbk)
 intro p;induction p with
 | done =>
  intro n listed m regs H a w hc hd hp hk;cases m with
  | none =>
   simp only[Zcm,KX] at hp;simp only[Zlr,Option.isSome] at hk;cases n with
   | zero=>exact ⟨hp,hq _ _ _ _ hk.2 hc⟩
   | succ n=>exact ⟨λ_=>hq _ _ _ _ hk.2 hc,λi hi=>by rw[hp] at hi;cases hi⟩
  | some rem =>
   simp only[Zcm,KX] at hp;subst hp;intro i hi;cases hi
 | op i p ih =>
  intro n listed m regs H a w hc hd hp hk;cases m with
  | some rem=>cases n<;>simp[Zcm] at hp
  | none =>
   cases n with
   | zero=>simp[Zcm] at hp
   | succ n =>
    simp only[Zcm,Ur,List.contains_iff_mem] at hp;obtain ⟨⟨hr,hf⟩,hp⟩:=hp;simp only[Zlr] at hk;obtain ⟨o,ho,hk⟩:=ZpE _ hk;have ho':ops[i]?=some o:=by simpa using ho
    unfold ZGj at hf;simp only[ho',Ur] at hf;obtain ⟨hl,hf⟩:=hf;obtain ⟨E,hV,rfl,hI,hdn,hdef⟩:=hc;obtain ⟨v,hy,regs',H',hk',E',hle',hw',hc'⟩:=ZAF hΔ ops o hl hI hdn hdef hk;have hfree:∀ j oj,ops[j]?=some oj->j≠i->Zc1 M i j=false->Zc1 M j i=false->o.apart ops oj=true/\(isLoad o.op=true->ZlG Γ oj.op=true):=by
     intro j oj hj hji hb hb2;rw[KE] at hf;have:=hf j (Kz.2 (U7.1 hj).1);simp only[hj,hb,hb2,KP,Kl,Ur,UP,Kf,or_false] at this;rcases this with h | ⟨h1,h2⟩
     ·exact absurd h hji
     ·refine ⟨h1,λhld=>?_⟩
      rcases h2 with h2 | h2
      ·rw[hld] at h2;cases h2
      ·exact h2
    refine Zqe (R:=λw w'=>isLoad o.op=true->Zva w w') ⟨λw _=>Zva.refl w,λa b c h1 h2 h=>(h1 h).trans (h2 h)⟩ ho' (λw=>Leaves.refl w) hsel hQ ?_ n listed a E.w hd hr hy (ih n _ none regs' H' _ _ ⟨E',hV.le hle',hw',hc'⟩ (hd.set hr) hp hk');intro j oj hj hji hb hb2;have nb:∀ x y,¬Behind ops x y->Zc1 M x y=false:=λx y h=>by
     cases hh:Zc1 M x y with
     | false=>rfl
     | true=>exact absurd (hM x y hh) h
    obtain ⟨h1,h2⟩:=hfree j oj hj hji (nb _ _ hb) (nb _ _ hb2);exact ⟨h1,λw w' h hld=>(h.1 (by simpa[ZHF,hj] using h2 hld)).ZPK⟩
 | ld i p ih =>
  intro n listed m regs H a w hc hd hp hk;cases m with
  | some rem=>cases n<;>simp[Zcm] at hp
  | none =>
   cases n with
   | zero=>simp[Zcm] at hp
   | succ n =>
    simp only[Zcm,Ur,List.contains_iff_mem] at hp;obtain ⟨⟨hr,hf⟩,hp⟩:=hp;simp only[Zlr] at hk;obtain ⟨o,ho,hk⟩:=ZpE _ hk;have ho':ops[i]?=some o:=by simpa using ho
    obtain ⟨E,hV,rfl,hI,hdn,hdef⟩:=hc;unfold ZGk at hf;simp only[ho',Ur] at hf;obtain ⟨_,hf⟩:=hf;unfold ldK at hk;split at hk
    ·rename_i T x hop hg
     obtain ⟨ti,ht,hk⟩:=XB Δ hΔ hk;obtain ⟨s,hs1,hk⟩:=YC hdn hk;split at hk
     ·rename_i id off
      obtain ⟨hid,hk⟩:=hk;obtain ⟨en,he,hk⟩:=Xd H hk;split at hk
      ·rename_i cells
       obtain ⟨b,u,r,hb,hrun,hden,hk⟩:=Zy4 hI ht hs1 he hk;obtain ⟨b',hbk,hb'⟩:=hV id hid;have:=hb.symm.trans hb';simp at this;subst this;have hlt:b<E.w.heap.size:=(hI.free id _ _ b he rfl hb (by simp[ZjO,YJ])).2.2;obtain ⟨regs',hd',hk',hdf⟩:=ZoB (dst:=o.dst) (v:=u) hdn hden hk;have hlit:Lit P ops (Rb b) o u a E.w:=by
        refine .inl ⟨by simp[Region.wanted,hg],λw' hw'=>?_⟩;have h1:=hrun w' (hw' hlt).2;obtain ⟨dst,op,type,pos,after,guard⟩:=o;simp only at hop;subst hop;show Sem.run P (do pure (Next.value (<-Instr.loadAt T (a.eval x))):Sem Next) w'=_;rw[Sem.run_bind,h1];rfl
       refine Zqe (R:=Rb b) (Rb.way b) ho' (λw=>Leaves.refl w) hsel hQ ?_ n listed a E.w hd hr hlit (ih n _ none regs' H _ _ ⟨E,hV,rfl,hI,hd',by rw[hdf];exact hdef⟩ (hd.set hr) hp hk');intro j oj hj hji hb1 hb2;have nb:∀ x y,¬Behind ops x y->Zc1 M x y=false:=λx y h=>by
        cases hh:Zc1 M x y with
        | false=>rfl
        | true=>exact absurd (hM x y hh) h
       rw[KE] at hf;have:=hf j (Kz.2 (U7.1 hj).1);simp only[hj,nb _ _ hb1,nb _ _ hb2,KP,Kl,Ur,Kf,or_false] at this;rcases this with h | ⟨h1,h2⟩
       ·exact absurd h hji
       ·refine ⟨h1,λw w' hlv=>Rb.of λhbl=>?_⟩
        rcases h2 with h2 | h2
        ·exact hlv.1 (by simpa[ZHF,hj] using h2) b hbl
        ·exact hlv.2 (by simpa[ZDM,hj] using h2) id b hid hbk hbl
      ·exact hk.elim
     ·exact hk.elim
    ·exact hk.elim
 | can p ih =>
  intro n listed m regs H a w hc hd hp hk;cases n<;>cases m<;>simp[Zcm] at hp
 | alt i p q ihp ihq =>
  intro n listed m regs H a w hc hd hp hk;cases n with
  | zero=>cases m<;>simp[Zcm] at hp
  | succ n =>
   obtain ⟨hk1,hk2⟩:(ZAR ops.toList i λo=>ZFG Γ (ZFQ ops.toList) V regs H o.op (ZAU Δ Γ ops.toList o regs H λregs' H'=>Zlr Δ Γ ops.toList V p false regs' H' K))/\Zlr Δ Γ ops.toList V q true regs H K:=by
    cases q with
    | done=>exact ⟨by simpa only[Zlr] using hk,trivial⟩
    | _=>simpa only[Zlr] using hk
   cases m with
   | none =>
    simp only[Zcm,Ur,List.contains_iff_mem] at hp;obtain ⟨⟨hr,hp⟩,hpq⟩:=hp;have h1:=heavy i n listed p regs H a w hc hd hr hp (λregs H a w hc hk=>ihp n _ none regs H a w hc (hd.set hr) hp hk) hk1;have h2:=ihq (n+1) listed (some _) regs H a w hc hd hpq hk2;refine ⟨λh=>(by rw[h] at hr;cases hr),λj hj=>?_⟩;by_cases hji:j=i
    ·subst hji;exact h1
    ·exact h2 j (KQ.2 ⟨hj,by simpa using hji⟩) hj
   | some rem =>
    simp only[Zcm,Ur] at hp;obtain ⟨hp,hpq⟩:=hp;have h2:=ihq (n+1) listed (some _) regs H a w hc hd hpq hk2;intro j hj hr;by_cases hji:j=i
    ·subst hji
     exact heavy j n listed p regs H a w hc hd hr hp (λregs H a w hc hk=>ihp n _ none regs H a w hc (hd.set hr) hp hk) hk1
    ·exact h2 j (KQ.2 ⟨hj,by simpa using hji⟩) hr
def ZD7 (Δ:Tab) (Γ:Gam) (ops:List Oper) (V:List Nat) (p:ZaT) (regs:List SV) (H:List Entry) (K:List SV->List Entry->Prop):Prop:=match p with
 | .can p=>Zlr Δ Γ ops V p false regs H λregs' H'=>ZwX H 0 λn=>canonK n regs' H' K
 | p=>Zlr Δ Γ ops V p false regs H K
def ZAt:ZaT->Bool
 | .done=>false
 | .op _ p=>ZAt p
 | .ld _ _=>true
 | .alt _ p q=>ZAt p||ZAt q
 | .can p=>ZAt p
def Zu6:Nat->List Entry->(List Nat->Prop)->Prop
 | _,[],K=>K []
 | n,e::r,K=>Zu6 (n+1) r λV=>match e with
  | .box _=>K (n::V)
  | _=>K V
def ZD9 (i:Nat):List Nat->(List Nat->Prop)->Prop
 | [],K=>K []
 | j::r,K=>ZD9 i r λr'=>match Nat.beq j i with
  | true=>K r'
  | false=>K (j::r')
def ZCm:List SV->Nat->List Nat->(List Nat->Prop)->Prop
 | [],_,V,K=>K V
 | s::_,0,V,K=>match s with
  | .ptr i _=>ZD9 i V K
  | _=>K V
 | _::r,n+1,V,K=>ZCm r n V K
def ZBn (t:Nat):List Oper->Nat
 | []=>t
 | o::r=>match o.dst,o.op with
  | some d,.move (.tmp t')=>match Nat.beq d t with
   | true=>t'
   | false=>ZBn t r
  | _,_=>ZBn t r
def Zvt (all:List Oper) (regs:List SV):List Operand->List Nat->(List Nat->Prop)->Prop
 | [],V,K=>K V
 | x::r,V,K=>match x with
  | .tmp t=>ZCm regs (ZBn t all) V λV'=>Zvt all regs r V' K
  | _=>Zvt all regs r V K
def Zri (Γ:Gam) (all:List Oper) (regs:List SV):List Oper->List Nat->(List Nat->Prop)->Prop
 | [],V,K=>K V
 | o::r,V,K=>match Zma Γ o.op with
  | none=>Zri Γ all regs r V K
  | some xs=>Zvt all regs xs V λV'=>Zri Γ all regs r V' K
theorem ZxT (i:Nat):∀ (V:List Nat) {K:List Nat->Prop},ZD9 i V K->∃ V',K V'/\∀ id,Ze3 id V'=true->Ze3 id V=true
 | [],K,h=>⟨[],h,λid h=>h⟩
 | j::r,K,h=>by
  obtain ⟨r',h2,hr⟩:=ZxT i r h;clear h;split at h2
  ·exact ⟨r',h2,λid h=>by unfold Ze3;rw[hr id h,Bool.or_true]⟩
  ·refine ⟨j::r',h2,λid h=>?_⟩
   unfold Ze3 at h ⊢;rcases KP _ _▸h with h | h
   ·rw[h,Bool.true_or]
   ·rw[hr id h,Bool.or_true]
theorem ZxU:∀ (l:List SV) (n:Nat) (V:List Nat) {K:List Nat->Prop},ZCm l n V K->∃ V',K V'/\∀ id,Ze3 id V'=true->Ze3 id V=true
 | [],_,V,K,h=>⟨V,h,λid h=>h⟩
 | s::_,0,V,K,h=>by
  unfold ZCm at h;split at h
  ·exact ZxT _ V h
  ·exact ⟨V,h,λid h=>h⟩
 | _::r,n+1,V,K,h=>ZxU r n V h
theorem Zrj (all:List Oper) (regs:List SV):∀ (xs:List Operand) (V:List Nat) {K:List Nat->Prop},Zvt all regs xs V K->∃ V',K V'/\∀ id,Ze3 id V'=true->Ze3 id V=true
 | [],V,K,h=>⟨V,h,λid h=>h⟩
 | x::r,V,K,h=>by
  unfold Zvt at h;split at h
  ·obtain ⟨V1,h1,a1⟩:=ZxU _ _ _ h
   obtain ⟨V2,h2,a2⟩:=Zrj all regs r V1 h1;exact ⟨V2,h2,λid q=>a1 id (a2 id q)⟩
  ·exact Zrj all regs r V h
theorem ZoX (Γ:Gam) (all:List Oper) (regs:List SV):∀ (l:List Oper) (V:List Nat) {K:List Nat->Prop},Zri Γ all regs l V K->∃ V',K V'/\∀ id,Ze3 id V'=true->Ze3 id V=true
 | [],V,K,h=>⟨V,h,λid h=>h⟩
 | o::r,V,K,h=>by
  unfold Zri at h;split at h
  ·exact ZoX Γ all regs r V h
  ·obtain ⟨V1,h1,a1⟩:=Zrj _ _ _ _ h
   obtain ⟨V2,h2,a2⟩:=ZoX Γ all regs r V1 h1;exact ⟨V2,h2,λid q=>a1 id (a2 id q)⟩
def ZCh (Γ:Gam) (ops:List Oper) (regs:List SV) (p:ZaT) (H:List Entry) (K:List Nat->Prop):Prop:=match ZAt p with
 | false=>K []
 | true=>Zu6 0 H λV=>Zri Γ ops regs ops V K
theorem ZsD:∀ (H:List Entry) (n:Nat) {K:List Nat->Prop},Zu6 n H K->∃ V,K V/\∀ id,Ze3 id V=true->n<=id/\∃ cells,H[id-n]?=some (.box cells)
 | [],n,K,h=>⟨[],h,λid hi=>by cases hi⟩
 | e::r,n,K,h=>by
  obtain ⟨V,h2,hV⟩:=ZsD r (n+1) h;clear h;have old:∀ id,Ze3 id V=true->n<=id/\∃ cells,(e::r)[id-n]?=some (.box cells):=by
   intro id hi;obtain ⟨a1,c,hc⟩:=hV id hi;refine ⟨by omega,c,?_⟩;rw[show id-n=(id-(n+1))+1 by omega,U8];exact hc
  split at h2
  ·rename_i cells
   refine ⟨_,h2,λid hi=>?_⟩;unfold Ze3 at hi;rcases KP _ _▸hi with hq | hq
   ·have:=Nat.eq_of_beq_eq_true hq
    subst this;exact ⟨UK _,cells,by rw[KD];rfl⟩
   ·exact old id hq
  ·exact ⟨_,h2,old⟩
theorem ZCi {Γ:Gam} {ops:List Oper} {regs:List SV} {p:ZaT} {H:List Entry} {K:List Nat->Prop} (h:ZCh Γ ops regs p H K):∃ V,K V/\∀ id,Ze3 id V=true->∃ cells,H[id]?=some (.box cells):=by
 unfold ZCh at h;split at h
 ·exact ⟨[],h,λid hi=>by cases hi⟩
 ·obtain ⟨V,h,hV⟩:=ZsD H 0 h
  obtain ⟨V',h',hV'⟩:=ZoX Γ ops regs ops V h;exact ⟨V',h',λid hi=>(hV id (hV' id hi)).2⟩
theorem Conc.drew {B:Base} {regs:List SV} {H:List Entry} {a:Act} {w:World} (h:Conc B regs H a w):Conc B regs H a {w with drawn:=w.drawn+1}:=by
 obtain ⟨E,hw,hI,hd,hdef⟩:=h;subst hw;have hle:E.le ⟨E.S,{E.w with drawn:=E.w.drawn+1},E.ids⟩:=⟨λb h=>h,λb h=>rfl,λi v h=>h⟩
 refine ⟨⟨E.S,{E.w with drawn:=E.w.drawn+1},E.ids⟩,rfl,?_,ZM hle _ _ hd,hdef⟩
 exact ⟨⟨hI.keeps.os,hI.keeps.tape,hI.keeps.output,hI.keeps.size,hI.keeps.block⟩,hI.Slt,hI.Sold,hI.len,hI.pin,λi e hi=>Ze8 hle i e (λ_ _ _ _ _=>rfl) (hI.ent i e hi),hI.free,hI.sep⟩
theorem ZsI.drew {B:Base} {V:List Nat} {Bk:Nat->Option Nat} {regs:List SV} {H:List Entry} {a:Act} {w:World} (h:ZsI B V Bk regs H a w):ZsI B V Bk regs H a {w with drawn:=w.drawn+1}:=by
 obtain ⟨E,hV,hw,hI,hd,hdef⟩:=h;subst hw;have hle:E.le ⟨E.S,{E.w with drawn:=E.w.drawn+1},E.ids⟩:=⟨λb h=>h,λb h=>rfl,λi v h=>h⟩
 refine ⟨⟨E.S,{E.w with drawn:=E.w.drawn+1},E.ids⟩,hV,rfl,?_,ZM hle _ _ hd,hdef⟩
 exact ⟨⟨hI.keeps.os,hI.keeps.tape,hI.keeps.output,hI.keeps.size,hI.keeps.block⟩,hI.Slt,hI.Sold,hI.len,hI.pin,λi e hi=>Ze8 hle i e (λ_ _ _ _ _=>rfl) (hI.ent i e hi),hI.free,hI.sep⟩
theorem VOk.ex (V:List Nat) {B:Base} {E:Env} {H:List Entry} (hI:Inv B E H) (h:∀ id,Ze3 id V=true->∃ cells,H[id]?=some (.box cells)):∃ Bk,VOk V Bk E:=by
 refine ⟨λid=>match E.ids[id]? with
  | some (.pointer (some ⟨b,_,_⟩))=>some b
  | _=>none,λid hi=>?_⟩
 obtain ⟨cells,hc⟩:=h id hi;obtain ⟨b,_,_,h1,_⟩:=hI.ent id _ hc;exact ⟨b,by simp only[h1],h1⟩
theorem ZCj {Δ:Tab} (hΔ:Δ.ok P) {Γ:Gam} (hΓ:Γ.ok P) {B:Base} {id:Nat} {Q:Exit->Act->World->Prop} (hm:P.follows .mixedOrders=true) {M:List Nat} (hM:Znx ops.toList []=M) {p:ZaT} (hs:Zoy ops=true)
  (hp:Zcm Γ ops M p.core ops.size (Array.replicate ops.size false) none=true) {regs:List SV} {H:List Entry} {a:Act} {w:World} (hc:Conc B regs H a w)
  {K0:List SV->List Entry->Prop} (hk0:ZCh Γ ops.toList regs p.core H λV=>ZD7 Δ Γ ops.toList V p regs H K0)
  (hq0:∀ regs' H' a' w',K0 regs' H'->Conc B regs' H' a' w'->Q .normal a' w'):(Code.region id ops true).wp P Q a w:=by
 obtain ⟨V,hk0,hVb⟩:=ZCi hk0;have hpin:∀ (i:Nat) (v:Value),B.pin[i]?=some v->i<H.length:=λi v hi=>by
  obtain ⟨E,_,hI,_⟩:=hc;have:=(Ub.1 (hI.pin i v hi)).1;rw[hI.len] at this;exact this
 obtain ⟨K,hk,hq⟩:∃ K:List SV->List Entry->Prop,Zlr Δ Γ ops.toList V p.core false regs H K/\∀ regs' H' a' w',K regs' H'->Conc B regs' H' a' w'->Q .normal a' w':=by
  unfold ZD7 at hk0;split at hk0
  ·refine ⟨_,hk0,λregs' H' a' w' h hc'=>?_⟩
   rw[ZdA,Uw] at h;obtain ⟨regs2,H2,h2,hc2⟩:=ZzX hpin h hc';exact hq0 _ _ _ _ h2 hc2
  ·rename_i hne
   have hc0:p.core=p:=by
    cases p with
    | can q=>exact absurd rfl (hne q)
    | _=>rfl
   rw[hc0];exact ⟨K0,hk0,hq0⟩
 generalize p.core=p at hp hk;have hcv:∃ Bk,ZsI B V Bk regs H a w:=by
  obtain ⟨E,hw,hI,hd,hdef⟩:=hc;obtain ⟨Bk,hV⟩:=VOk.ex V hI hVb;exact ⟨Bk,E,hV,hw,hI,hd,hdef⟩
 obtain ⟨Bk,hcv⟩:=hcv;refine Code.wp_mono (Q:=λe a w=>e=.normal/\Q e a w) (λe a w h=>h.2) ?_;refine wp_region_any hm (ZtW (G:=Leaves Γ ops V Bk) _ _ _ _ ?_);have hMb:∀ i j,Zc1 M i j=true->Behind ops i j:=by
  intro i j h;unfold Zc1 at h;cases hj:M[j]? with
  | none=>simp[hj] at h
  | some m =>
   rw[<-hM] at hj;exact ZtJ ops.toList [] (by simp) (by simp) j m hj i (by
    rw[hM] at hj;simpa[hj] using h)
 refine ZCg hMb hΔ hΓ (Q:=λe a w=>e=.normal/\Q e a w) (λc a w h=>by cases h.1) hs (λregs' H' a' w' h1 h2=>⟨rfl,hq regs' H' a' w' h1 h2.ZLQ⟩) p ops.size _ none regs H a _ hcv.drew ?_ hp hk;intro j oj e hj hl;have hlt:j<ops.size:=(U7.1 hj).1;simp[hlt] at hl
end
def writes:Code->List Nat
 | .region _ ops _=>ops.toList.filterMap (·.dst)
 | .seq a b=>writes a++writes b
 | .cond _ a b=>writes a++writes b
 | .block _ c=>writes c
 | .loop c=>writes c
 | .scope c=>writes c
 | _=>[]
@[irreducible] def Dead:Prop:=False
theorem Dead.no (h:Dead):False:=by unfold Dead at h;exact h
def ZAZ:List Oper->Bool
 | []=>false
 | o::r=>match o.op,o.guard with
  | .panic _,none=>true
  | _,_=>ZAZ r
structure Ann where
 loops:List (Nat×List Loc):=[]
 draws:List (Nat×List Nat×ZaT):=[]
def ZCE:List (Nat×List Loc)->Nat->(List Loc->Prop)->Prop
 | [],_,_=>False
 | (n,l)::r,id,K=>if n=id then K l else ZCE r id K
def ZxY:List Nat->(List Nat->Bool)->Bool
 | [],k=>k []
 | x::r,k=>ZxY r λl=>k (x::l)
theorem Zvx:∀ (l:List Nat) (k:List Nat->Bool),ZxY l k=k l
 | [],_=>rfl
 | x::r,k=>by unfold ZxY;exact Zvx r _
def ZEu (Γ:Gam) (ops:Array Oper) (M:List Nat) (p:ZaT):Bool:=match M with
 | []=>ZxY (Znx ops.toList []) λM=>Zcm Γ ops M p.core ops.size (Array.replicate ops.size false) none
 | _=>Znx ops.toList [] == M&&Zcm Γ ops M p.core ops.size (Array.replicate ops.size false) none
theorem ZCY {Γ:Gam} {ops:Array Oper} {M:List Nat} {p:ZaT} (h:ZEu Γ ops M p=true):Zcm Γ ops (Znx ops.toList []) p.core ops.size (Array.replicate ops.size false) none=true:=by
 unfold ZEu at h;split at h
 ·rwa [Zvx] at h
 ·rw[Ur,Kl] at h
  rw[h.1];exact h.2
def ZCF:List (Nat×List Nat×ZaT)->Nat->(List Nat->ZaT->Prop)->Prop
 | [],_,_=>False
 | (n,M,l)::r,id,K=>if n=id then K M l else ZCF r id K
theorem Zye:∀ (A:List (Nat×List Nat×ZaT)) {id:Nat} {K:List Nat->ZaT->Prop},ZCF A id K->∃ M l,K M l
 | [],_,_,h=>h.elim
 | (n,M,l)::r,id,K,h=>by
  unfold ZCF at h;split at h
  ·exact ⟨M,l,h⟩
  ·exact Zye r h
theorem Zyd:∀ (A:List (Nat×List Loc)) {id:Nat} {K:List Loc->Prop},ZCE A id K->∃ l,K l
 | [],_,_,h=>h.elim
 | (n,l)::r,id,K,h=>by
  unfold ZCE at h;split at h
  ·exact ⟨l,h⟩
  ·exact Zyd r h
def ZMt:Loc->Bool
 | .cell id _ _=>Nat.ble 1000 id
 | .cello id _ _=>Nat.ble 1000 id
 | .ent id _ _=>Nat.ble 1000 id
 | .splt id _ _=>Nat.ble 1000 id
 | _=>false
def ZDs:List Loc->Bool
 | []=>false
 | l::r=>match ZMt l with
  | true=>true
  | false=>ZDs r
def ZCT (id:Nat) (regs:List SV) (H:List Entry) (K:Nat->Prop):Prop :=
 Zqj regs ((id-1000) / 100) λs=>match s with
  | .ptr b o=>Zi3 H b λen=>match en with
   | .box cs=>Zqj cs (o+(id-1000) % 100) λc=>match c with
    | .own i=>K i
    | _=>False
   | _=>False
  | _=>False
def ZA9 (regs:List SV) (H:List Entry) (K:Loc->Prop) (l:Loc):Prop:=match ZMt l with
 | false=>K l
 | true=>match l with
  | .cell id off t=>Zqj regs (id-1000) λs=>match s with
   | .ptr b o=>K (.cell b (o+off) t)
   | _=>False
  | .cello id off e=>Zqj regs (id-1000) λs=>match s with
   | .ptr b o=>K (.cello b (o+off) e)
   | _=>False
  | .ent id et e=>ZCT id regs H λi=>K (.ent i et e)
  | .splt id et e=>ZCT id regs H λi=>K (.splt i et e)
  | _=>False
def ZC3 (regs:List SV) (H:List Entry):List Loc->(List Loc->Prop)->Prop
 | [],K=>K []
 | l::r,K=>ZA9 regs H (λl'=>ZC3 regs H r λr'=>K (l'::r')) l
def ZLP (ls:List Loc) (regs:List SV) (H:List Entry) (K:List Loc->Prop):Prop:=match ZDs ls with
 | false=>K ls
 | true=>ZC3 regs H ls K
theorem Zn3:∀ (cs:List SV) {n:Nat} {K:SV->Prop},Zqj cs n K->∃ s,K s
 | [],_,_,h=>by simp[Zqj] at h
 | s::r,0,_,h=>⟨s,by simpa[Zqj] using h⟩
 | s::r,n+1,_,h=>Zn3 r (by simpa[Zqj] using h)
theorem Zys {id:Nat} {regs:List SV} {H:List Entry} {K:Nat->Prop} (h:ZCT id regs H K):∃ i,K i:=by
 unfold ZCT at h;obtain ⟨s,h⟩:=Zn3 _ h;split at h
 ·obtain ⟨en,_,h⟩:=Xd H h
  split at h
  ·obtain ⟨c,h⟩:=Zn3 _ h
   split at h
   ·exact ⟨_,h⟩
   ·exact h.elim
  ·exact h.elim
 ·exact h.elim
theorem ZBa {regs:List SV} {H:List Entry} {K:Loc->Prop} {l:Loc} (h:ZA9 regs H K l):∃ l',K l':=by
 unfold ZA9 at h;split at h
 ·exact ⟨_,h⟩
 ·split at h
  ·obtain ⟨s,h⟩:=Zn3 _ h
   split at h
   ·exact ⟨_,h⟩
   ·exact h.elim
  ·obtain ⟨s,h⟩:=Zn3 _ h
   split at h
   ·exact ⟨_,h⟩
   ·exact h.elim
  ·obtain ⟨i,h⟩:=Zys h
   exact ⟨_,h⟩
  ·obtain ⟨i,h⟩:=Zys h
   exact ⟨_,h⟩
  ·exact h.elim
theorem Zyw {regs:List SV} {H:List Entry}:∀ (ls:List Loc) {K:List Loc->Prop},ZC3 regs H ls K->∃ ls',K ls'
 | [],_,h=>⟨[],h⟩
 | l::r,K,h=>by
  obtain ⟨l',h⟩:=ZBa (K:=λl'=>ZC3 regs H r λr'=>K (l'::r')) h;obtain ⟨r',h⟩:=Zyw r h;exact ⟨_,h⟩
theorem ZFz {ls:List Loc} {regs:List SV} {H:List Entry} {K:List Loc->Prop} (h:ZLP ls regs H K):∃ ls',K ls':=by
 unfold ZLP at h;split at h
 ·exact ⟨_,h⟩
 ·exact Zyw ls h
def sx (Δ:Tab) (Γ:Gam) (A:Ann):Code->Nat->(Exit->List SV->List Entry->Prop)->List SV->List Entry->Prop
 | .skip,_,Q,regs,H=>Q .normal regs H
 | .label _,_,Q,regs,H=>Q .normal regs H
 | .ret,_,Q,regs,H=>Q .ret regs H
 | .exit id,_,Q,regs,H=>Q (.exit id) regs H
 | .region id ops draw,_,Q,regs,H=>if ZAZ ops.toList=true then Dead else match draw with
  | false=>ZHP Δ Γ ops.toList ops.toList regs H (Q .normal)
  | true=>ZCF A.draws id λM p=>(Zoy ops&&ZEu Γ ops M p)=true/\ZCh Γ ops.toList regs p.core H λV=>ZD7 Δ Γ ops.toList V p regs H (Q .normal)
 | .seq a b,cur,Q,regs,H=>sx Δ Γ A a cur (λe r h=>match e with
  | .normal=>sx Δ Γ A b cur Q r h
  | e=>Q e r h) regs H
 | .cond c a b,cur,Q,regs,H=>J2 regs c λs=>match s with
  | .blit true=>sx Δ Γ A a cur Q regs H
  | .blit false=>sx Δ Γ A b cur Q regs H
  | .bool p=>(p=true->sx Δ Γ A a cur Q regs H)/\(p=false->sx Δ Γ A b cur Q regs H)
  | _=>False
 | .block id c,_,Q,regs,H=>sx Δ Γ A c id (λe r h=>match e with
  | .exit id'=>if id'=id then Q .normal r h else Q (.exit id') r h
  | e=>Q e r h) regs H
 | .loop c,cur,Q,regs,H=>ZCE A.loops cur λl0=>ZLP l0 regs H λls=>Zkg ls regs H λv0 H0=>ZlS ls (writes c) λW=>Zza W regs λregs0=>ZqJ ls H0 λH1=>ZwX H1 0 λn0 =>
   ∃ (I:Zwv ls->Prop) (μ:Zwv ls->Nat),I v0/\∀ v,I v->Zve ls v regs0 H1 λrh Hh=>sx Δ Γ A c cur (λe r h=>match e with
    | .normal=>Zkg ls r h λv' H2=>Zza W r λr1=>ZqJ ls H2 λH3=>Zto H3 n0 λH4=>(r1=regs0/\H4=H1)/\I v'/\μ v'<μ v
    | e=>Q e r h) rh Hh
 | _,_,_,_,_=>False
theorem Zmg {p:Nat->Prop} (h:∃ n,p n):∃ n,p n/\∀ m,p m->n<=m:=by
 obtain ⟨n,hn⟩:=h;induction n using Nat.strongRecOn with
 | _ n ih =>
  by_cases hlt:∃ m,m<n/\p m
  ·obtain ⟨m,hm,hp⟩:=hlt;exact ih m hm hp
  ·exact ⟨n,hn,λm hm=>Nat.le_of_not_lt λhlt'=>hlt ⟨m,hlt',hm⟩⟩
theorem ZBI {P:Program} {c:Code} {Q:Exit->Act->World->Prop} (J:Nat->Act->World->Prop)
  (round:∀ n a w,J n a w->c.wp P (Exit.then (λa' w'=>∃ m,m<n/\J m a' w') Q) a w) {n:Nat} {a:Act} {w:World} (h:J n a w):(Code.loop c).wp P Q a w:=by
 classical
 let μ:Act->World->Nat:=λa w=>if h:∃ n,J n a w then Classical.choose (Zmg h) else 0
 have hμ:∀ a w (h:∃ n,J n a w),J (μ a w) a w/\∀ m,J m a w->μ a w<=m:=by
  intro a w h;have:μ a w=Classical.choose (Zmg h):=by simp only[μ,dif_pos h]
  rw[this];exact Classical.choose_spec (Zmg h)
 refine wp_loop (λa w=>∃ n,J n a w) μ ⟨n,h⟩ (λa w hJ=>?_);have h1:=(hμ a w hJ).1;refine Code.wp_mono ?_ (round _ a w h1);intro e a' w' hq;cases e with
 | normal =>
  obtain ⟨m,hm,hJm⟩:=hq;exact ⟨⟨m,hJm⟩,Nat.lt_of_le_of_lt ((hμ a' w' ⟨m,hJm⟩).2 m hJm) hm⟩
 | _=>exact hq
theorem Zjq {B:Base} {E:Env}:∀ (ls:List Loc) {H:List Entry} (_:Inv B E H) {gs:List Nat} (_:Loose B E H gs) {K:List Entry->Prop} (_:ZqJ ls H K),
  ∃ H',Inv B E H'/\Loose B E H' gs/\K H'/\Boxed H H'
 | [],H,hI,gs,hL,K,hk=>⟨H,hI,hL,hk,Boxed.refl H⟩
 | .reg _ _::q,H,hI,gs,hL,K,hk=>Zjq q hI hL hk
 | .ent _ _ _::q,H,hI,gs,hL,K,hk=>Zjq q hI hL hk
 | .entm _ _ _::q,H,hI,gs,hL,K,hk=>Zjq q hI hL hk
 | .splt _ _ _::q,H,hI,gs,hL,K,hk=>Zjq q hI hL hk
 | .cell id off t::q,H,hI,gs,hL,K,hk=>by
  simp only[ZqJ] at hk;obtain ⟨e,he,hk⟩:=Xd H hk;split at hk
  ·rename_i cells
   rw[Zf7,XA] at hk;have hI1:=hI.weaken (cells':=cells.set off .bot) he (λ_ _ _ _ _ hd=>Zp1 hd off);obtain ⟨H',h1,h2,h3,h4⟩:=Zjq q hI1 (hL.ZoG he) hk;exact ⟨H',h1,h2,h3,(Boxed.ZoG he).trans h4⟩
  ·exact hk.elim
 | .cello id off e0::q,H,hI,gs,hL,K,hk=>by
  simp only[ZqJ] at hk;obtain ⟨e,he,hk⟩:=Xd H hk;split at hk
  ·rename_i cells
   rw[Zf7,XA] at hk;have hI1:=hI.weaken (cells':=cells.set off .bot) he (λ_ _ _ _ _ hd=>Zp1 hd off);obtain ⟨H',h1,h2,h3,h4⟩:=Zjq q hI1 (hL.ZoG he) hk;exact ⟨H',h1,h2,h3,(Boxed.ZoG he).trans h4⟩
  ·exact hk.elim
theorem Zf4:∀ (ls:List Loc) {W:List Nat} {K:List Nat->Prop},ZlS ls W K->∃ W',K W'
 | [],W,K,h=>⟨W,h⟩
 | .reg r _::q,W,K,h=>by obtain ⟨W',h⟩:=Zf4 q h;exact ⟨_,h⟩
 | .cell _ _ _::q,W,K,h=>Zf4 q h
 | .cello _ _ _::q,W,K,h=>Zf4 q h
 | .ent _ _ _::q,W,K,h=>Zf4 q h
 | .entm _ _ _::q,W,K,h=>Zf4 q h
 | .splt _ _ _::q,W,K,h=>Zf4 q h
theorem Zu0 {P:Program} {Δ:Tab} (hΔ:Δ.ok P) {Γ:Gam} (hΓ:Γ.ok P) (A:Ann) (hm:P.follows .mixedOrders=true) {B:Base}:∀ (c:Code) (cur:Nat) (Q:Exit->List SV->List Entry->Prop) {regs:List SV} {H:List Entry} (_:sx Δ Γ A c cur Q regs H)
  {a:Act} {w:World} (_:Conc B regs H a w) (R:Exit->Act->World->Prop) (_:∀ e regs' H' a' w',Q e regs' H'->Conc B regs' H' a' w'->R e a' w'),c.wp P R a w
 | .skip,_,Q,regs,H,h,a,w,hc,R,hR=>wp_skip (hR _ _ _ _ _ h hc)
 | .label _,_,Q,regs,H,h,a,w,hc,R,hR=>wp_label (hR _ _ _ _ _ h hc)
 | .ret,_,Q,regs,H,h,a,w,hc,R,hR=>wp_ret (hR _ _ _ _ _ h hc)
 | .exit id,_,Q,regs,H,h,a,w,hc,R,hR=>wp_exit (hR _ _ _ _ _ h hc)
 | .region id ops draw,_,Q,regs,H,h,a,w,hc,R,hR=>by
  simp only[sx] at h;split at h
  ·exact h.no.elim
  split at h
  ·exact wp_region_list (ZAX hΔ hΓ ops ops.toList hc h (λregs' H' a' w' hq hc'=>hR _ _ _ _ _ hq hc'))
  ·obtain ⟨M,p,h⟩:=Zye _ h
   obtain ⟨hb,h⟩:=h;rw[Ur] at hb;exact ZCj hΔ hΓ hm rfl hb.1 (ZCY hb.2) hc h (λregs' H' a' w' hq hc'=>hR _ _ _ _ _ hq hc')
 | .seq x y,cur,Q,regs,H,h,a,w,hc,R,hR=>by
  simp only[sx] at h;refine wp_seq (Zu0 hΔ hΓ A hm x cur _ h hc _ ?_);intro e regs' H' a' w' hq hc';cases e with
  | normal=>exact Zu0 hΔ hΓ A hm y cur Q hq hc' R hR
  | _=>exact hR _ _ _ _ _ hq hc'
 | .cond c x y,cur,Q,regs,H,h,a,w,hc,R,hR=>by
  simp only[sx] at h;obtain ⟨E,hw,hI,hd,hdef⟩:=hc;obtain ⟨s,hs,h⟩:=YC hd h;split at h
  ·simp only[den] at hs
   exact wp_cond_true hs (Zu0 hΔ hΓ A hm x cur Q h ⟨E,hw,hI,hd,hdef⟩ R hR)
  ·simp only[den] at hs
   exact wp_cond_false hs (Zu0 hΔ hΓ A hm y cur Q h ⟨E,hw,hI,hd,hdef⟩ R hR)
  ·simp only[den] at hs
   exact wp_cond_split hs (λe=>Zu0 hΔ hΓ A hm x cur Q (h.1 e) ⟨E,hw,hI,hd,hdef⟩ R hR) (λe=>Zu0 hΔ hΓ A hm y cur Q (h.2 e) ⟨E,hw,hI,hd,hdef⟩ R hR)
  ·exact h.elim
 | .block id c,cur,Q,regs,H,h,a,w,hc,R,hR=>by
  simp only[sx] at h;refine wp_block (Zu0 hΔ hΓ A hm c id _ h hc _ ?_);intro e regs' H' a' w' hq hc';cases e with
  | exit id' =>
   simp only at hq;simp only[Exit.inBlock];split at hq
   ·rename_i e;rw[Uc e];exact hR _ _ _ _ _ hq hc'
   ·rename_i e;rw[Ud e];exact hR _ _ _ _ _ hq hc'
  | _=>exact hR _ _ _ _ _ hq hc'
 | .loop c,cur,Q,regs,H,h,a,w,hc,R,hR=>by
  simp only[sx] at h;obtain ⟨l0,h⟩:=Zyd A.loops h;obtain ⟨ls,h⟩:=ZFz h;obtain ⟨E,hw,hI,hd,hdef⟩:=hc;obtain ⟨E0,H0,v0,g0,hw0,hid0,hI0,hle0,h,hl0,hL0,hb0⟩:=Zia ls hI hd [] (Loose.none _ _ _) h;rw[Uo] at hL0;obtain ⟨W,h⟩:=Zf4 ls h;obtain ⟨regs0,hd0,h⟩:=Zuz W regs _ (ZM hle0 _ _ hd) h;obtain ⟨H1,hI1,hL1,h,hbox1⟩:=Zjq ls hI0 hL0 h;rw[ZdA,Uw] at h;obtain ⟨I,μ,hI0v,hround⟩:=h;have hl1:=ZbF rfl (λ_ h=>h) (λ_ _ h=>h) hbox1 ls v0 g0 hl0
  let Q':Zwv ls->Exit->List SV->List Entry->Prop:=λv e r h=>match e with
    | .normal=>Zkg ls r h λv' H2=>Zza W r λr1=>ZqJ ls H2 λH3=>Zto H3 H1.length λH4=>(r1=regs0/\H4=H1)/\I v'/\μ v'<μ v
    | e=>Q e r h
  let J:Nat->Act->World->Prop:=λn a w=>∃ v rh Hh,I v/\μ v=n/\Conc B rh Hh a w/\sx Δ Γ A c cur (Q' v) rh Hh
  have start:J (μ v0) a w:=by
   obtain ⟨E',Hh,rh,hw',hI',hd',hk⟩:=ZkK ls v0 hI1 hd0 g0 hl1 hL1 (hround v0 hI0v);exact ⟨v0,rh,Hh,hI0v,rfl,⟨E',by rw[hw',hw0,hw],hI',hd',hdef⟩,hk⟩
  have rng:Zet H1.length regs0:=by have:=ZaG _ _ hd0;rwa [hI1.len] at this
  have erng:∀ e∈H1,ZwI H1.length e:=by
   intro e he;obtain ⟨i,hi⟩:=UE.1 he;have:=ZwH (hI1.ent i e hi)
   rwa [hI1.len] at this
  refine ZBI J ?_ start;rintro n a1 w1 ⟨v,rh,Hh,hIv,hμ,hc1,hsx⟩;subst hμ;refine Zu0 hΔ hΓ A hm c cur (Q' v) hsx hc1 _ ?_;intro e r' H' a' w' hq hc';cases e with
  | normal =>
   obtain ⟨E2,hw2,hI2,hd2,hdef2⟩:=hc';obtain ⟨E3,H3,v',g3,hw3,hid3,hI3,hle3,hq,hl3,hL3,hb3⟩:=Zia ls hI2 hd2 [] (Loose.none _ _ _) hq;rw[Uo] at hL3;obtain ⟨r1,hd3,hq⟩:=Zuz W r' _ (ZM hle3 _ _ hd2) hq;obtain ⟨H4,hI4,hL4,hq,hbox4⟩:=Zjq ls hI3 hL3 hq;rw[Zk2] at hq;obtain ⟨⟨hr1,hH4⟩,hIv',hlt⟩:=hq;have hpin:B.pin.length<=H1.length:=by
    rcases Nat.eq_zero_or_pos B.pin.length with h0 | h0
    ·omega
    ·have hlast:B.pin[B.pin.length-1]?=some (B.pin[B.pin.length-1]'(by omega)):=Ua _
     have:=(Ub.1 (hI1.pin _ _ hlast)).1;rw[hI1.len] at this;omega
   have hI5:=hI4.trunc H1.length hpin (by rw[hH4];exact erng);rw[hH4] at hI5;have hd5:=Zb1 (n:=H1.length) _ _ (by rw[hr1];exact rng) hd3;rw[hr1] at hd5;have hl4:=ZbF rfl (λ_ h=>h) (λ_ _ h=>h) hbox4 ls v' g3 hl3;obtain ⟨p1,p2,p3⟩:=ZdR ls v0 g0 hl1;have hl5:JF B ⟨E3.S,E3.w,E3.ids.take H1.length⟩ H1 _ ls v' g3:=Zan (E:=E3) (E':=⟨E3.S,E3.w,E3.ids.take H1.length⟩) (H':=H1) rfl (λ_ h=>h) (λi u hi hu=>by
    show (E3.ids.take H1.length)[i]?=some u;rw[UA,Uc hi];exact hu) (λi c hi hlt=>by
     rw[<-hH4,UA,Uc hlt];exact ⟨c,hi⟩) (λi c hi=>by
     rw[<-hH4,UA] at hi;split at hi
     ·exact ⟨c,hi⟩
     ·cases hi) ls v' g3 p1 p2 p3 hl4
   have hL5:Loose B ⟨E3.S,E3.w,E3.ids.take H1.length⟩ H1 g3:=⟨hL4.nodup,hL4.free,λg hg j ej vj hj hlv hv hb=>by
    have hj4:H4[j]?=some ej:=by
     rw[<-hH4,UA] at hj;split at hj
     ·exact hj
     ·cases hj
    have hv4:E3.ids[j]?=some vj:=by
     have hv':(E3.ids.take H1.length)[j]?=some vj:=hv;rw[UA] at hv';split at hv'
     ·exact hv'
     ·cases hv'
    exact hL4.apart g hg j ej vj hj4 hlv hv4 hb⟩
   obtain ⟨E',Hh',rh',hw',hI',hd',hk⟩:=ZkK ls v' hI5 hd5 g3 hl5 hL5 (hround v' hIv');exact ⟨μ v',hlt,v',rh',Hh',hIv',rfl,⟨E',by rw[hw'];show E3.w=w';rw[hw3,hw2],hI',hd',hdef2⟩,hk⟩
  | _=>exact hR _ _ _ _ _ hq hc'
 | .rangeFunc _ _ _ _,_,Q,regs,H,h,a,w,hc,R,hR=>by simp only[sx] at h
 | .scope _,_,Q,regs,H,h,a,w,hc,R,hR=>by simp only[sx] at h
 | .goto _,_,Q,regs,H,h,a,w,hc,R,hR=>by simp only[sx] at h
 | .refuse _,_,Q,regs,H,h,a,w,hc,R,hR=>by simp only[sx] at h
def ZyH:Nat->List SV->(List SV->Prop)->Prop
 | 0,l,K=>K l
 | n+1,l,K=>ZyH n (.tup []::l) K
theorem Zwm:∀ (n:Nat) (l:List SV) (K:List SV->Prop),ZyH n l K=K (List.replicate n (.tup [])++l)
 | 0,_,_=>rfl
 | n+1,l,K=>by
  simp only[ZyH,Zwm n];congr 1;rw[List.replicate_succ',Ul];rfl
def ZFP (Δ:Tab):List ResultVar->List SV->List Entry->(List SV->Prop)->Prop
 | [],_,_,K=>K []
 | .tmp t::r,regs,H,K=>Zqj regs t λs=>ZFP Δ r regs H λss=>K (s::ss)
 | .cell a T::r,regs,H,K=>Zqj regs a λsa=>ZdZ Δ T λti=>Zy5 ti sa H λs=>ZFP Δ r regs H λss=>K (s::ss)
def ZmT:(l:List Sh)->List SV->List Entry->(Ios l->Prop)->Prop
 | [],_,_,K=>K ()
 | .io e::r,ss,H,K=>match ss with
  | .ptr id 0::ss=>Zi3 H id λen=>match en with
   | .box cells=>Zkk H id .gone λH0=>closeAll e cells H0 λd H1=>ZmT r ss H1 λds=>K (d,ds)
   | _=>False
  | _=>False
 | .back e::r,ss,H,K=>match ss with
  | s::ss=>if s.whole=true then closeAll e s.cells H λd H1=>ZmT r ss H1 λds=>K (d,ds) else False
  | _=>False
 | .dat _::r,ss,H,K=>match ss with
  | _::ss=>ZmT r ss H K
  | _=>False
 | .own _::r,ss,H,K=>match ss with
  | _::ss=>ZmT r ss H K
  | _=>False
def ZHQ (Δ:Tab) (C:Ctr) (res:List ResultVar) (ss0 regs:List SV) (H:List Entry) (K:Shs C.rets->Ios C.args->Prop):Prop :=
 ZFP Δ res regs H λss=>Zqf C.rets ss H λrs H1=>ZmT C.args ss0 H1 λios=>K rs ios
def fnK (Δ:Tab) (Γ:Gam) (A:Ann) (C:Ctr) (fn:Func) (as:Shs C.args) (K:Shs C.rets->Ios C.args->Prop):Prop :=
 match fn.body with
 | none=>False
 | some c=>ZpJ C.args as [] λss H=>ZwX ss 0 λn=>ZyH (fn.ntmps-n) [] λus=>Zvb ss us λregs =>
  sx Δ Γ A c 0 (λe regs' H'=>match e with
   | .normal=>ZHQ Δ C fn.results.toList ss regs' H' K
   | .ret=>ZHQ Δ C fn.results.toList ss regs' H' K
   | _=>False) regs H
def ZEy (tmps:Array Value):ResultVar->Sem Value
 | .tmp t=>pure (tmps.getD t undef)
 | .cell a t=>asAddr (tmps.getD a undef) >>= λp=>loadVar t p
theorem Zxe {P:Program} {Δ:Tab} (hΔ:Δ.ok P) {B:Base} {E:Env} {H:List Entry} (hI:Inv B E H) {regs:List SV} {tmps:Array Value} (hd:Yk E regs tmps.toList):∀ (l:List ResultVar) {K:List SV->Prop} (_:ZFP Δ l regs H K),
  ∃ ss us,(l.mapM (ZEy tmps)).run P E.w=.ok us E.w/\Yk E ss us/\K ss
 | [],K,hk=>⟨[],[],rfl,trivial,hk⟩
 | .tmp t::r,K,hk=>by
  simp only[ZFP] at hk;obtain ⟨s,v,hv,hs,hk,_⟩:=ZcA _ _ hd hk;obtain ⟨ss,us,h1,h2,h3⟩:=Zxe hΔ hI hd r hk;have hv':tmps.getD t undef=v:=by
   have:tmps[t]?=some v:=by simpa using hv
   simp[this]
  refine ⟨s::ss,v::us,?_,⟨hs,h2⟩,h3⟩;rw[List.mapM_cons,Sem.run_bind,ZEy,hv',Sem.run_pure,Result.andThen_ok,Sem.run_bind,h1];rfl
 | .cell a T::r,K,hk=>by
  simp only[ZFP] at hk;obtain ⟨sa,va,hv,hs,hk,_⟩:=ZcA _ _ hd hk;obtain ⟨ti,ht,hk⟩:=XB Δ hΔ hk;obtain ⟨u,s,h0,hu,hk⟩:=Zyb hI ht hs hk;have h0:=h0.here;obtain ⟨ss,us,h1,h2,h3⟩:=Zxe hΔ hI hd r hk;have hv':tmps.getD a undef=va:=by
   have:tmps[a]?=some va:=by simpa using hv
   simp[this]
  have hptr:∃ p,va=.pointer (some p):=by
   cases va with
   | pointer p=>cases p with
    | some p=>exact ⟨p,rfl⟩
    | none=>simp[Instr.loadAt,Instr.sureAddr] at h0
   | _=>simp[Instr.loadAt,Instr.sureAddr] at h0
  obtain ⟨p,rfl⟩:=hptr;have h0':(loadVar T p).run P E.w=.ok u E.w:=by simpa[Instr.loadAt,Instr.sureAddr] using h0
  refine ⟨s::ss,u::us,?_,⟨hu,h2⟩,h3⟩;rw[List.mapM_cons,Sem.run_bind,ZEy,hv',asAddr,pure_bind,h0',Result.andThen_ok,Sem.run_bind,h1];rfl
theorem Zzi (fn:Func) (tmps:Array Value):results fn tmps=(fn.results.mapM (ZEy tmps) >>= λvs=>pure (if h:vs.size=1 then vs[0] else .tuple vs)):=by
 have e:(λx=>match x with
  | ResultVar.tmp t=>pure (tmps.getD t undef)
  | ResultVar.cell a t=>do loadVar t (<-asAddr (tmps.getD a undef)):ResultVar->Sem Value)=ZEy tmps:=by
  funext x;cases x<;>rfl
 rw[<-e];rfl
theorem Zxh {P:Program} {fn:Func} {tmps:Array Value} {us:List Value} {w:World} (h:(fn.results.toList.mapM (ZEy tmps)).run P w=.ok us w) :
  ∃ v,(results fn tmps).run P w=.ok v w/\retv us v:=by
 have h':(fn.results.mapM (ZEy tmps)).run P w=.ok us.toArray w:=by
  rw[<-Array.toArray_toList (xs:=fn.results),List.mapM_toArray];simp only[Sem.run_map,h,Result.andThen_ok]
 rw[Zzi,Sem.run_bind,h',Result.andThen_ok];unfold retv
 match us with
 | [u]=>exact ⟨u,rfl,rfl⟩
 | []=>exact ⟨_,rfl,rfl⟩
 | a::b::r=>exact ⟨.tuple (a::b::r).toArray,by simp,rfl⟩
theorem ZlK {B:Base}:∀ (l:List Sh) (ss:List SV) {E:Env} {H:List Entry} (_:Inv B E H) {vs:List Value} (_:Yk E ss vs) (_:∃ (S:Nat->Prop) (w:World) (as:Shs l) (fp:List Nat),ZeX S w l as vs fp) {gs:List Nat} (_:Loose B E H gs) {K:Ios l->Prop} (_:ZmT l ss H K),
  ∃ E1 H1 ios fio,Frz E H E1 H1/\Inv B E1 H1/\Zi9 E1.S E1.w l ios vs fio/\K ios/\Loose B E1 H1 (fio++gs)
 | [],ss,E,H,hI,vs,hd,hf,gs,hL,K,hk=>⟨E,H,(),[],Frz.refl E H,hI,rfl,hk,hL⟩
 | .io e::r,ss,E,H,hI,vs,hd,⟨S,w,as,fp,v,vr,f0,fr,ev,_,hsh,hrest⟩,gs,hL,K,hk=>by
  simp only[ZmT] at hk;subst ev;split at hk
  ·rename_i id ss
   simp only[Yk] at hd;obtain ⟨en,he,hk⟩:=Xd H hk;split at hk
   ·rename_i cells
    rw[XA] at hk;have hv:=hd.1;simp only[den] at hv;obtain ⟨b,hb0,hv⟩:=hv;obtain ⟨b',cs0,T,e1,e2,e3⟩:=hI.ent id _ he;have:=hb0.symm.trans e1;simp at this;subst this;have t1:Frz E H E (H.set id .gone):=Frz.one he rfl hb0 rfl (Env.le.refl E) (λb hb=>.inl hb);have t3:=hL.take hI he rfl hb0 (f:=[b]) (by simp) (λg hg=>by
     simp at hg;subst hg;rfl)
    obtain ⟨E1,H1,d,f,hf1,hI1,hr,hk,hL1,hT,_⟩:=Vo (hI.drop id) e3 t3 hk;obtain ⟨E2,H2,ios,fio,hf2,hI2,hio,hk,hL2⟩:=ZlK r ss hI1 (ZM hf1.le _ _ hd.2) ⟨S,w,as.2,fr,hrest⟩ hL1 hk;refine ⟨E2,H2,(d,ios),(b::f)++fio,(t1.trans hf1).trans hf2,hI2,⟨v,vr,b::f,fio,rfl,rfl,⟨b,cs0,T,f,hv,by rw[hf2.w,hf1.w];exact e2,?_,rfl⟩,hio⟩,hk,hL2.perm ?_⟩
    ·exact YL hf2.le.S hf2.le.w e _ _ _ (λg _=>by rw[hf2.w]) hr
    ·simp only[U0,Us,Ul]
     rw[<-Ul];refine List.perm_middle.trans (List.Perm.cons b ?_);rw[<-Ul];exact UZ.append_right gs
   ·exact hk.elim
  ·exact hk.elim
 | .back e::r,ss,E,H,hI,vs,hd,⟨S,w,as,fp,v,vr,f0,fr,ev,_,hsh,hrest⟩,gs,hL,K,hk=>by
  simp only[ZmT] at hk;subst ev;split at hk
  ·rename_i s ss
   simp only[Yk] at hd;split at hk
   ·rename_i hw
    obtain ⟨E1,H1,d,f,hf1,hI1,hr,hk,hL1,hT,_⟩:=Vo hI (Zaa hd.1 hw) hL hk;obtain ⟨E2,H2,ios,fio,hf2,hI2,hio,hk,hL2⟩:=ZlK r ss hI1 (ZM hf1.le _ _ hd.2) ⟨S,w,as.2,fr,hrest⟩ hL1 hk;refine ⟨E2,H2,(d,ios),f++fio,hf1.trans hf2,hI2,⟨v,vr,f,fio,rfl,rfl,⟨hsh.1,?_⟩,hio⟩,hk,hL2.perm ?_⟩
    ·exact YL hf2.le.S hf2.le.w e _ _ _ (λg _=>by rw[hf2.w]) hr
    ·rw[<-Ul]
     exact UZ.append_right gs
   ·exact hk.elim
  ·exact hk.elim
 | .dat _::r,ss,E,H,hI,vs,hd,⟨S,w,as,fp,v,vr,f0,fr,ev,_,hsh,hrest⟩,gs,hL,K,hk=>by
  simp only[ZmT] at hk;subst ev;split at hk
  ·simp only[Yk] at hd
   obtain ⟨E2,H2,ios,fio,hf2,hI2,hio,hk,hL2⟩:=ZlK r _ hI hd.2 ⟨S,w,as.2,fr,hrest⟩ hL hk;exact ⟨E2,H2,ios,fio,hf2,hI2,⟨v,vr,rfl,hio⟩,hk,hL2⟩
  ·exact hk.elim
 | .own _::r,ss,E,H,hI,vs,hd,⟨S,w,as,fp,v,vr,f0,fr,ev,_,hsh,hrest⟩,gs,hL,K,hk=>by
  simp only[ZmT] at hk;subst ev;split at hk
  ·simp only[Yk] at hd
   obtain ⟨E2,H2,ios,fio,hf2,hI2,hio,hk,hL2⟩:=ZlK r _ hI hd.2 ⟨S,w,as.2,fr,hrest⟩ hL hk;exact ⟨E2,H2,ios,fio,hf2,hI2,⟨v,vr,rfl,hio⟩,hk,hL2⟩
  ·exact hk.elim
theorem ZoI {w:World} {S:Nat->Prop}:∀ (l:List Sh) (d:Shs l) (vs:List Value) (fp:List Nat),ZeX S w l d vs fp->l.length=vs.length
 | [],_,_,_,h=>by rw[h.1];rfl
 | _::r,d,_,_,⟨v,vr,f,fr,e,_,_,h⟩=>by subst e;simp[ZoI r d.2 vr fr h]
theorem Inv.more {B:Base} {E:Env} {H:List Entry} (h:Inv B E H) (hB:∀ b,B.S b->b<B.w.heap.size/\¬B.io b):Inv B ⟨λb=>E.S b\/B.S b,E.w,E.ids⟩ H/\E.le ⟨λb=>E.S b\/B.S b,E.w,E.ids⟩:=by
 have hle:E.le ⟨λb=>E.S b\/B.S b,E.w,E.ids⟩:=⟨λ_ h=>.inl h,λ_ _=>rfl,λ_ _ h=>h⟩;exact ⟨
  {keeps:=h.keeps
   Slt:=λb hb=>hb.elim (h.Slt b) (λhb=>UN (hB b hb).1 h.keeps.size)
   Sold:=λb hb hlt=>hb.elim (λhb=>h.Sold b hb hlt) .inl
   len:=h.len,pin:=h.pin
   ent:=λi e hi=>Ze8 hle i e (λ_ _ _ _ _=>rfl) (h.ent i e hi)
   free:=λi e v g hi hl hv hb=>by
    obtain ⟨a,b,c⟩:=h.free i e v g hi hl hv hb;refine ⟨λhs=>hs.elim a (λhs=>?_),b,c⟩;obtain ⟨h1,h2⟩:=hB g hs;rcases b with b | b
    ·omega
    ·exact h2 b
   sep:=h.sep},hle⟩
theorem Zf {P:Program} {Δ:Tab} (hΔ:Δ.ok P) {Γ:Gam} (hΓ:Γ.ok P) (hm:P.follows .mixedOrders=true) (A:Ann) {f:FuncId} {fn:Func} (hf:P.funcs[f]?=some fn) (hname:(fn.name == "runtime.NumGoroutine")=false:=by kernel_rfl) (hbody:fn.body.isNone=false:=by kernel_rfl) {C:Ctr}
  (hvc:∀ (as:Shs C.args) (K:Shs C.rets->Ios C.args->Prop),C.tr as K->fnK Δ Γ A C fn as K):Zc P f C:=by
 refine ⟨⟨fn,hf,hname,hbody⟩,?_⟩;intro w S vs as fp K hSlt has hnd hpriv hK;have hk:=hvc as K hK;unfold fnK at hk;split at hk
 ·exact hk.elim
 ·rename_i c hbody'
  let B0:Base:=⟨w,S,λb=>b∈fp,[]⟩
  have hI0:Inv B0 ⟨S,w,[]⟩ [] :=
   {keeps:=⟨rfl,rfl,rfl,UK _,λ_ _ _=>rfl⟩
    Slt:=hSlt
    Sold:=λb hb _=>.inl hb
    len:=rfl
    pin:=λ_ _ h=>h
    ent:=λi e hi=>by simp at hi
    free:=λi e v g hi=>by simp at hi
    sep:=λi j ei ej vi vj g hi=>by simp at hi}
  have hL0:Loose B0 ⟨S,w,[]⟩ [] (fp++[]):=by
   rw[Uo];exact ⟨hnd,λg hg=>⟨(hpriv g hg).1,.inr hg,(hpriv g hg).2⟩,λg _ j e v hj=>by simp at hj⟩
  obtain ⟨E1,H1,ss,hw1,hS1,hI1,hle1,hd1,hk⟩:=Zmn (E:=⟨S,w,[]⟩) C.args as vs hI0 has hL0 hk;rw[ZdA,Zwm,Zcb,Uw,Uo] at hk;have hl:=Y5 _ _ hd1
  let B:Base:=⟨w,S,λb=>b∈fp,E1.ids⟩
  have hI:Inv B E1 H1 :=
   {keeps:=⟨hI1.keeps.os,hI1.keeps.tape,hI1.keeps.output,hI1.keeps.size,hI1.keeps.block⟩
    Slt:=hI1.Slt,Sold:=hI1.Sold,len:=hI1.len,pin:=λ_ _ h=>h,ent:=hI1.ent,free:=hI1.free,sep:=hI1.sep}
  refine calls_of_wp hf hbody' ?_;have hdens:Yk E1 (ss++List.replicate (fn.ntmps-ss.length) (.tup [])) (vs.toArray++Array.replicate (fn.ntmps-vs.toArray.size) undef).toList:=by
   rw[Array.toList_append,Array.toList_replicate,List.toList_toArray,Ke,hl];refine Zcy _ _ hd1 _ _ ?_;have:∀ n,Yk E1 (List.replicate n (.tup [])) (List.replicate n undef):=by
    intro n;induction n with
    | zero=>trivial
    | succ n ih=>exact ⟨by simp only[den];exact ⟨[],rfl,trivial⟩,ih⟩
   exact this _
  rw[<-show E1.w=w from hw1];refine Zu0 hΔ hΓ A hm c 0 _ hk (B:=B) ⟨_,rfl,hI,hdens,rfl⟩ _ ?_;intro e regs' H' a' w' hq hc';obtain ⟨E2,hw2,hI2,hd2,hdef2⟩:=hc';subst hw2;rw[show E1.w=w from hw1];have fin:ZHQ Δ C fn.results.toList ss regs' H' K->bodyPost P fn (λe w'=>∃ v us rs ios S' fr fio,e=.returned v/\retv us v/\K rs ios/\Keeps ⟨w,S,λb=>b∈fp,[]⟩ w'/\(∀ b,S b->S' b)/\
    (∀ b,S' b->b<w'.heap.size/\(b<w.heap.size->S b\/b∈fp))/\ZeX S' w' C.rets rs us fr/\Zi9 S' w' C.args ios vs fio/\
    (fio++fr).Nodup/\∀ g∈fio++fr,¬S' g/\g<w'.heap.size/\(w.heap.size<=g\/g∈fp)) .ret a' E2.w:=by
   intro hq;unfold ZHQ at hq;have hBS:∀ b,B.S b->b<B.w.heap.size/\¬B.io b:=λb hb=>⟨hSlt b hb,λhio=>(hpriv b hio).1 hb⟩;obtain ⟨hI3,hle3⟩:=hI2.more hBS;obtain ⟨ss',us,hrun,hds,hq⟩:=Zxe hΔ hI3 (ZM hle3 _ _ hd2) _ hq;have hle0:E1.le ⟨λb=>E2.S b\/B.S b,E2.w,E2.ids⟩:=by
    refine ⟨λb hb=>.inr (by rw[hS1] at hb;exact hb),λb hb=>?_,λi v hv=>hI2.pin i v hv⟩;have hb':S b:=by rw[hS1] at hb;exact hb
    rw[hw1];exact hI2.keeps.block b (hSlt b hb') (λhio=>(hpriv b hio).1 hb')
   have hss:=ZM hle0 _ _ hd1;obtain ⟨E4,H4,rs,fr,hf4,hI4,hrs,hq,hL4,_⟩:=Zmb C.rets ss' hI3 hds (Loose.none _ _ _) hq;obtain ⟨E5,H5,ios,fio,hf5,hI5,hio,hq,hL5⟩:=ZlK C.args ss hI4 (ZM hf4.le _ _ hss) ⟨S,w,as,fp,has⟩ hL4 hq;rw[Uo] at hL5;obtain ⟨v,hv,hret⟩:=Zxh hrun;have hww:E5.w=E2.w:=by rw[hf5.w,hf4.w]
   refine bodyPost_ret hv hdef2 ⟨v,us,rs,ios,E5.S,fr,fio,rfl,hret,hq,?_,λb hb=>hf5.le.S b (hf4.le.S b (.inr hb)),?_,?_,?_,hL5.nodup,?_⟩
   ·have:=hI2.keeps
    exact ⟨this.os,this.tape,this.output,this.size,this.block⟩
   ·intro b hb
    exact ⟨by rw[<-hww];exact hI5.Slt b hb,λhlt=>hI5.Sold b hb hlt⟩
   ·show ZeX E5.S E2.w C.rets rs us fr
    rw[<-hww];exact Zv4 hf5.le _ _ _ _ (λg _=>by rw[hf5.w]) hrs
   ·show Zi9 E5.S E2.w C.args ios vs fio
    rw[<-hww];exact hio
   ·intro g hg
    obtain ⟨a1,a2,a3⟩:=hL5.free g hg;exact ⟨a1,by rw[<-hww];exact a3,a2⟩
  cases e with
  | normal=>exact fin hq
  | ret=>exact fin hq
  | _=>exact hq.elim
def ZV {α:Type} (o:Option α) (k:α->Prop):Prop:=∃ r,o=some r/\k r
def iterM {σ ρ:Type} (step:σ->Option (σ ⊕ ρ)):Nat->σ->Option ρ
 | 0,_=>none
 | n+1,v=>match step v with
  | none=>none
  | some (.inl v')=>iterM step n v'
  | some (.inr r)=>some r
theorem Zpb {σ ρ:Type} {step:σ->Option (σ ⊕ ρ)} {r:ρ}:∀ {n m:Nat} {v:σ},iterM step n v=some r->n<=m->iterM step m v=some r
 | 0,_,_,h,_=>by simp[iterM] at h
 | n+1,0,_,_,hm=>by omega
 | n+1,m+1,v,h,hm=>by
  simp only[iterM] at h ⊢;split at h
  ·cases h
  ·exact Zpb h (by omega)
  ·exact h
theorem ZAz {σ ρ:Type} {step:σ->Option (σ ⊕ ρ)} {r r':ρ} {n m:Nat} {v:σ} (h:iterM step n v=some r) (h':iterM step m v=some r'):r=r':=by
 have h1:=Zpb h (Nat.le_max_left n m);have h2:=Zpb h' (Nat.le_max_right n m);rw[h1] at h2;injection h2
noncomputable def Zq {σ ρ:Type} (step:σ->Option (σ ⊕ ρ)) (v:σ):Option ρ :=
 open Classical in if h:∃ r n,iterM step n v=some r then some (Classical.choose h) else none
theorem Zk4 {σ ρ:Type} {step:σ->Option (σ ⊕ ρ)} {v:σ} {r:ρ}:Zq step v=some r<->∃ n,iterM step n v=some r:=by
 unfold Zq;constructor
 ·intro h
  split at h
  ·rename_i hx
   obtain ⟨n,hn⟩:=Classical.choose_spec hx;injection h with h;rw[h] at hn;exact ⟨n,hn⟩
  ·cases h
 ·rintro ⟨n,hn⟩
  have hx:∃ r n,iterM step n v=some r:=⟨r,n,hn⟩;rw[dif_pos hx];obtain ⟨m,hm⟩:=Classical.choose_spec hx;rw[ZAz hm hn]
theorem Zwq {σ ρ:Type} (step:σ->Option (σ ⊕ ρ)) (v:σ):Zq step v=match step v with
  | none=>none
  | some (.inl v')=>Zq step v'
  | some (.inr r)=>some r:=by
 apply Option.ext;intro r;rw[Zk4];constructor
 ·rintro ⟨n,hn⟩
  cases n with
  | zero=>simp[iterM] at hn
  | succ n =>
   simp only[iterM] at hn;split
   ·rename_i e;rw[e] at hn;cases hn
   ·rename_i v' e;rw[e] at hn;exact Zk4.2 ⟨n,hn⟩
   ·rename_i r' e;rw[e] at hn;exact hn
 ·intro h
  split at h
  ·cases h
  ·rename_i v' e
   obtain ⟨n,hn⟩:=Zk4.1 h;exact ⟨n+1,by simp only[iterM,e];exact hn⟩
  ·rename_i r' e
   exact ⟨1,by simp only[iterM,e];exact h⟩
theorem Xq {σ ρ:Type} {step:σ->Option (σ ⊕ ρ)} {v v':σ} (h:step v=some (.inl v')):Zq step v=Zq step v':=by rw[Zwq,h]
theorem Xn {σ ρ:Type} {step:σ->Option (σ ⊕ ρ)} {v:σ} {r:ρ} (h:step v=some (.inr r)):Zq step v=some r:=by rw[Zwq,h]
theorem Zki {σ ρ:Type} {step:σ->Option (σ ⊕ ρ)} (I:σ->Prop) (μ:σ->Nat) (Q:ρ->Prop) {v:σ} (h0:I v)
  (hs:∀ v,I v->(∃ v',step v=some (.inl v')/\I v'/\μ v'<μ v)\/∃ r,step v=some (.inr r)/\Q r):∃ r,Zq step v=some r/\Q r:=by
 have:∀ n v,I v->μ v<n->∃ r,Zq step v=some r/\Q r:=by
  intro n;induction n with
  | zero=>intro v _ h;omega
  | succ n ih =>
   intro v hI hn;rcases hs v hI with ⟨v',e,hI',hlt⟩ | ⟨r,e,hq⟩
   ·obtain ⟨r,h1,h2⟩:=ih v' hI' (by omega)
    exact ⟨r,by rw[Xq e];exact h1,h2⟩
   ·exact ⟨r,Xn e,hq⟩
 exact this (μ v+1) v h0 (by omega)
def atI {α:Type} (l:List α) (i:Int):Option α:=if 0<=i then l[i.toNat]? else none
noncomputable def Zt {α:Type} (p:Prop) (a:Option α):Option α:=open Classical in if p then a else none
section
variable {α β:Type} {A B:Prop} {r:β} {a b:Option β}
theorem Zlo {q:Prop} {_:Decidable q} (h:(if q then a else b)=some r) (ha:a=some r->A) (hb:b=some r->B):(decide q=true->A)/\(decide q=false->B):=by
 by_cases hq:q
 ·rw[Uc hq] at h;exact ⟨λ_=>ha h,λe=>by simp[hq] at e⟩
 ·rw[Ud hq] at h;exact ⟨λe=>by simp[hq] at e,λ_=>hb h⟩
theorem ZDg {q:Prop} {_:Decidable q} (h:(if q then a else b)=some r) (ha:a=some r->A) (hb:b=some r->B):(decide q=false->B)/\(decide q=true->A):=⟨(Zlo h ha hb).2,(Zlo h ha hb).1⟩
theorem Zwo {p:Bool} (h:(if p=true then a else b)=some r) (ha:a=some r->A) (hb:b=some r->B):(p=true->A)/\(p=false->B):=by
 cases p
 ·exact ⟨λe=>(by cases e),λ_=>hb h⟩
 ·exact ⟨λ_=>ha h,λe=>(by cases e)⟩
theorem ZFy {p:Bool} (h:(if p=true then a else b)=some r) (ha:a=some r->A) (hb:b=some r->B):(p=false->B)/\(p=true->A):=⟨(Zwo h ha hb).2,(Zwo h ha hb).1⟩
theorem ZBD {p:Bool} (h:(p=true->A)/\(p=false->B)):((!p)=false->A)/\((!p)=true->B):=⟨λe=>h.1 (by simpa using e),λe=>h.2 (by simpa using e)⟩
theorem ZqW {p:Bool} (h:(p=true->A)/\(p=false->B)):((!p)=true->B)/\((!p)=false->A):=⟨(ZBD h).2,(ZBD h).1⟩
theorem Zvf {p:Prop} (h:Zt p a=some r) (ha:p->a=some r->A):p/\A:=by
 unfold Zt at h;split at h
 ·rename_i hp;exact ⟨hp,ha hp h⟩
 ·cases h
theorem vAt {l:List α} {i:Int} {f:α->Option β} {A:α->Prop} (h:(atI l i).bind f=some r) (ha:∀ x,0<=i->i<(l.length:Int)->l[i.toNat]?=some x->f x=some r->A x) :
  0<=i/\i<(l.length:Int)/\∀ x,l[i.toNat]?=some x->A x:=by
 unfold atI at h;split at h
 ·rename_i h0
  cases hx:l[i.toNat]? with
  | none=>rw[hx] at h;cases h
  | some x =>
   rw[hx] at h;have hlt:=(Ub.1 hx).1;exact ⟨h0,by omega,λy hy=>by injection hy with hy;subst hy;exact ha x h0 (by omega) hx h⟩
 ·cases h
theorem atE {l:List α} {i:Int} {f:α->Option β} (h:(atI l i).bind f=some r):∃ x,0<=i/\i<(l.length:Int)/\l[i.toNat]?=some x/\f x=some r:=by
 unfold atI at h;split at h
 ·rename_i h0
  cases hx:l[i.toNat]? with
  | none=>rw[hx] at h;cases h
  | some x =>
   rw[hx] at h;have hlt:=(Ub.1 hx).1;exact ⟨x,h0,by omega,rfl,h⟩
 ·cases h
theorem guardE {p:Prop} (h:Zt p a=some r):p/\a=some r:=by
 unfold Zt at h;split at h
 ·rename_i hp;exact ⟨hp,h⟩
 ·cases h
theorem QL {o:Option α} {f:α->Option β} {k:α->Prop} (h:o.bind f=some r) (hk:∀ x,o=some x->f x=some r->k x):∃ x,o=some x/\k x:=by
 cases ho:o with
 | none=>rw[ho] at h;cases h
 | some x=>rw[ho] at h;exact ⟨x,rfl,hk x ho h⟩
theorem Zzr {o:Option α} {f:α->Option β} {k:α->Prop} (h:o.bind f=some r) (hk:∀ x,o=some x->f x=some r->k x):∀ x,o=some x->k x:=by
 intro x hx;rw[hx] at h;exact hk x hx h
theorem ZaC {o:Option α} {y:α} {G:α->Prop} (ha:o=some y) (k:G y):∀ x,o=some x->G x:=by
 intro x hx;rw[ha] at hx;injection hx with hx;subst hx;exact k
theorem Zwp {σ ρ:Type} {step:σ->Option (σ ⊕ ρ)} {v0:σ} {r:ρ} (h:Zq step v0=some r) {P:(σ->Prop)->(σ->Nat)->σ->Prop}
  (hb:∀ (I:σ->Prop) (μ:σ->Nat) (v:σ) (s:σ ⊕ ρ),step v=some s->(∀ v',s=.inl v'->I v'/\μ v'<μ v)->(∀ r',s=.inr r'->r'=r)->P I μ v) :
  ∃ I μ,I v0/\∀ v,I v->P I μ v:=by
 obtain ⟨n0,hn0⟩:=Zk4.1 h
 let I:σ->Prop:=λv=>∃ n,iterM step n v=some r
 classical
 let μ:σ->Nat:=λv=>if h:∃ n,iterM step n v=some r then Classical.choose (Zmg h) else 0
 have hμ:∀ v (h:∃ n,iterM step n v=some r),iterM step (μ v) v=some r/\∀ m,iterM step m v=some r->μ v<=m:=by
  intro v h;have:μ v=Classical.choose (Zmg h):=by simp only[μ,dif_pos h]
  rw[this];exact Classical.choose_spec (Zmg h)
 refine ⟨I,μ,⟨n0,hn0⟩,λv hv=>?_⟩;have h1:=(hμ v hv).1;cases hm:μ v with
 | zero=>rw[hm] at h1;simp[iterM] at h1
 | succ m =>
  rw[hm] at h1;simp only[iterM] at h1;split at h1
  ·cases h1
  ·rename_i v' e
   refine hb I μ v _ e (λv'' e'=>?_) (λr' e'=>by cases e');injection e' with e';subst e'
   exact ⟨⟨m,h1⟩,by have:=(hμ v' ⟨m,h1⟩).2 m h1;omega⟩
  ·rename_i r' e
   refine hb I μ v _ e (λv'' e'=>by cases e') (λr'' e'=>?_);injection e' with e';subst e';injection h1
end
def D1 (a r:Ty) (f:a.den->Option r.den):Ctr:=⟨[.dat a],[.dat r],λx K=>splitK x λp _=>ZV (f p) λr=>K (r,()) ()⟩
def D2 (a b r:Ty) (f:a.den->b.den->Option r.den):Ctr:=⟨[.dat a,.dat b],[.dat r],λx K=>splitK x λp x=>splitK x λq _=>ZV (f p q) λr=>K (r,()) ()⟩
def D3 (a b c r:Ty) (f:a.den->b.den->c.den->Option r.den):Ctr:=⟨[.dat a,.dat b,.dat c],[.dat r],λx K=>splitK x λp x=>splitK x λq x=>splitK x λs _=>ZV (f p q s) λr=>K (r,()) ()⟩
def D4 (a b c d r:Ty) (f:a.den->b.den->c.den->d.den->Option r.den):Ctr:=⟨[.dat a,.dat b,.dat c,.dat d],[.dat r],λx K=>splitK x λp x=>splitK x λq x=>splitK x λs x=>splitK x λt _=>ZV (f p q s t) λr=>K (r,()) ()⟩
theorem ZGF {A B T:Prop} (h:T->A) (g:T->B) (t:T):A/\B:=⟨h t,g t⟩
theorem ZDB {A B:Prop} {T:List Nat->List Nat->List Nat->Prop} (h:(∀ x0 x1 x2,T x0 x1 x2)->A) (g:(∀ x0 x1 x2,T x0 x1 x2)->B) (t:∀ x0 x1 x2,T x0 x1 x2):A/\B:=⟨h t,g t⟩
theorem Ziq {B:Prop} (k:B):ZFU/\B:=⟨trivial,k⟩
theorem ZK4 {α:Type} {v:α} {G:α->Prop} (k:G v):∀ x,x=v->G x:=λ_ e=>e▸k
theorem ZEC {α:Type} {o:Option α} {G:α->Prop} (k:∀ x,o=some x->G x):∀ x,o=some x->G x:=k
theorem ZK5 {α:Type} {o:Option α} {G:α->Prop} (k:∃ x,o=some x/\G x):∃ x,o=some x/\G x:=k
theorem ZoW {α:Type} {o:Option α} {y:α} {G:α->Prop} (ha:o=some y) (k:G y):∃ x,o=some x/\G x:=⟨y,ha,k⟩
theorem ZK2 {α:Type} {l:List α} {i:Int} {G:α->Prop} (k:0<=i/\i<(l.length:Int)/\∀ x,l[i.toNat]?=some x->G x):0<=i/\i<(l.length:Int)/\∀ x,l[i.toNat]?=some x->G x:=k
theorem ZoQ {α:Type} {l:List α} {i:Int} {y:α} {G:α->Prop} (ha:0<=i) (hb:i<(l.length:Int)) (hx:l[i.toNat]?=some y) (k:G y):0<=i/\i<(l.length:Int)/\∀ x,l[i.toNat]?=some x->G x:=⟨ha,hb,ZaC hx k⟩
theorem ZK3 {A B:Prop} {p x y:Bool} (k:(p=x->A)/\(p=y->B)):(p=x->A)/\(p=y->B):=k
theorem shD {A B:Prop} {q:Prop} {_:Decidable q} {x y:Bool} (k:(decide q=x->A)/\(decide q=y->B)):(decide q=x->A)/\(decide q=y->B):=k
theorem ZEE {A B:Prop} {p x y:Bool} (k:((!p)=x->A)/\((!p)=y->B)):((!p)=x->A)/\((!p)=y->B):=k
theorem ZED {α:Type} {l:List α} {A B:Prop} (k:(l=[]->A)/\B):(l=[]->A)/\B:=k
theorem ZEF {l:List Oper} {n:Nat} {K:Oper->Prop} {B:Prop} (k:ZAR l n K/\B):ZAR l n K/\B:=k
theorem orL {α:Type} {a:α} {P Q:Prop} (k:P):(a=a/\P)\/Q:=.inl ⟨rfl,k⟩
theorem ZD5 {α:Type} {x:α} {P:Prop} (h:none=some x):P:=by cases h
theorem ZBh {σ:Type} {P:(σ->Prop)->(σ->Nat)->σ->Prop} {v0:σ} (k:∃ I μ,I v0/\∀ v,I v->P I μ v):∃ I μ,I v0/\∀ v,I v->P I μ v:=k
theorem ZBC {σ ρ:Type} {step:σ->Option (σ ⊕ ρ)} {v0:σ} {r:ρ} (h:Zq step v0=some r) {P:(σ->Prop)->(σ->Nat)->σ->Prop} {G:Prop} (hK:G)
  (hb:∀ (I:σ->Prop) (μ:σ->Nat) (v:σ) (s:σ ⊕ ρ),step v=some s->((∀ v',s=.inl v'->I v'/\μ v'<μ v)/\(∀ r',s=.inr r'->r'=r)/\G)->P I μ v) :
  ∃ I μ,I v0/\∀ v,I v->P I μ v:=Zwp h λI μ v s h1 h2 h3=>hb I μ v s h1 ⟨h2,h3,hK⟩
theorem pB {α β:Type} {o:Option α} {f:α->Option β} {r:β} {G:Prop} (h:o.bind f=some r) (k:∀ x,o=some x->f x=some r->G):G:=by
 obtain ⟨x,h1,h2⟩:=US.1 h;exact k x h1 h2
theorem pA {α β:Type} {l:List α} {i:Int} {f:α->Option β} {r:β} {G:Prop} (h:(atI l i).bind f=some r) (k:∀ x,0<=i->i<(l.length:Int)->l[i.toNat]?=some x->f x=some r->G):G:=by
 obtain ⟨x,h1,h2,h3,h4⟩:=atE h;exact k x h1 h2 h3 h4
theorem pG {α:Type} {p:Prop} {a:Option α} {r:α} {G:Prop} (h:Zt p a=some r) (k:p->a=some r->G):G:=k (guardE h).1 (guardE h).2
theorem pS {α:Type} {a r:α} {G:Prop} (h:some a=some r) (k:a=r->G):G:=k (Option.some.inj h)
theorem pR {σ ρ:Type} {A G P:Prop} {a r:ρ} (h:A/\(∀ r',(.inr a:σ ⊕ ρ)=.inr r'->r'=r)/\G) (k:a=r->G->P):P:=k (h.2.1 _ rfl) h.2.2
end Go.Sx
namespace Go.Sx
set_option linter.unusedVariables false
set_option linter.unusedSimpArgs false
open Go.RowKit Go.ChangeShapes Go.WideShapes
mutual
def Zbn (P:Program):Ty->TypeId->Bool
 | .int k,T=>Zx4 k (P.underlying T)
 | .bool,T=>Zuo (P.underlying T)
 | .str,T=>Zx5 (P.underlying T)
 | .sl t,T=>match P.underlying T with
  | some (.slice e)=>Zbn P t e&&P.cellsOf e == t.size&&decide (0<t.size)
  | _=>false
 | .pair a b,T=>match P.underlying T with
  | some (.struct fs)=>match fs.toList with
   | f::fl=>Zbn P a f.type&&f.offset == 0&&P.cellsOf f.type == a.size&&Zk8 P b fl a.size&&P.cellsOf T == a.size+b.size
   | []=>false
  | _=>false
 | _,_=>false
def Zk8 (P:Program):Ty->List Field->Nat->Bool
 | .unit,fl,_=>fl.isEmpty
 | .pair a b,fl,o=>match fl with
  | f::fl=>Zbn P a f.type&&f.offset == o&&P.cellsOf f.type == a.size&&Zk8 P b fl (o+a.size)
  | []=>false
 | _,_,_=>false
end
def bnd:(t:Ty)->t.den->Prop
 | .int k,n=>k.min<=n/\n<=k.max
 | .str,s=>(s.length:Int)<=9223372036854775807
 | .sl t,l=>(l.length:Int)<=9223372036854775807/\∀ x∈l,bnd t x
 | .pair a b,d=>bnd a d.1/\bnd b d.2
 | _,_=>True
section
variable {H:Type} {enc:TypeId×Value->H} {P:Program} {w:World} {spare:Nat->Bool} {held:Bool}
theorem ZF0 (s:ByteArray):(⟨s.data.toList.toArray⟩:ByteArray)=s:=by
 cases s;simp
theorem ZA8 {t:Ty} {S:Nat->Prop} {p:Addr} {n:Nat} (hn:t.size=n):∀ (len:Nat) (css:List (List Value)),css.length=len->
  (∀ (i:Nat) (cs:List Value),css[i]?=some cs->cs.length=n/\∃ d:t.den,rep S w t d cs/\bnd t d)->
  ∃ l:List t.den,l.length=len/\QN (rep S w t) l css.flatten/\∀ x∈l,bnd t x:=by
 intro len;induction len with
 | zero =>
  intro css hl _;have:css=[]:=UF hl;subst this;exact ⟨[],rfl,rfl,by simp⟩
 | succ len ih =>
  intro css hl h;cases css with
  | nil=>simp at hl
  | cons cs css =>
   obtain ⟨_,d,hd,hb⟩:=h 0 cs rfl;obtain ⟨l,h1,h2,h3⟩:=ih css (by simpa using hl) (λi c hc=>h (i+1) c (by simpa using hc));refine ⟨d::l,by simp[h1],⟨cs,css.flatten,by simp,hd,h2⟩,?_⟩;intro x hx;rcases UT.1 hx with rfl | hx
   ·exact hb
   ·exact h3 x hx
theorem Zrk {n:Nat}:∀ (css:List (List Value)) (_:∀ cs∈css,cs.length=n) (i j:Nat) (cs:List Value) (_:css[i]?=some cs) (_:j<n),css.flatten[i*n+j]?=cs[j]?
 | [],_,i,j,cs,h,_=>by simp at h
 | c::css,hl,0,j,cs,h,hj=>by
  simp at h;subst h;have:=hl c (by simp);simp[Uq (show j<c.length by omega)]
 | c::css,hl,i+1,j,cs,h,hj=>by
  have hc:=hl c (by simp);have:=Zrk css (λx hx=>hl x (by simp[hx])) i j cs (by simpa using h) hj;rw[List.flatten_cons,Uv (by rw[hc,U9];omega),hc,show (i+1)*n+j-n=i*n+j by rw[U9];omega];exact this
theorem Zrl {n:Nat}:∀ (css:List (List Value)) (_:∀ cs∈css,cs.length=n),css.flatten.length=css.length*n
 | [],_=>by simp
 | c::css,hl=>by
  have hc:=hl c (by simp);have:=Zrl css (λx hx=>hl x (by simp[hx]));simp only[List.flatten_cons,Ug,Uz,this,hc,U9];omega
mutual
theorem Zq8:∀ (ty:Ty) (fuel:Nat) (T:TypeId) (cs:List Value) (x:DataW H×List MemPlace),Zbn P ty T=true->DataW.trod enc P w 0 spare held fuel T cs=some x->
  ∃ d:ty.den,rep (λb=>b<w.heap.size) w ty d cs/\bnd ty d
 | .int k,fuel,T,cs,x,hf,h=>by
  simp only[Zbn] at hf;obtain ⟨n,h1,_,hw⟩:=DataW.trod_int (ZlL hf) h;exact ⟨n,h1,(by simpa[Go.Lit.wf] using hw:k.min<=n/\n<=k.max)⟩
 | .bool,fuel,T,cs,x,hf,h=>by
  simp only[Zbn] at hf;obtain ⟨b,h1,_⟩:=DataW.trod_bool (Zo8 hf) h;exact ⟨b,h1,trivial⟩
 | .str,fuel,T,cs,x,hf,h=>by
  simp only[Zbn] at hf;obtain ⟨s,h1,_,hs⟩:=DataW.trod_string (ZrE hf) h;refine ⟨s.data.toList,?_,?_⟩
  ·show cs=[.string ⟨s.data.toList.toArray⟩]
   rw[h1,ZF0]
  ·show ((s.data.toList.length:Nat):Int)<=_
   clear h h1;have:s.data.toList.length=s.size:=by cases s;rfl
   unfold maxLen at hs;omega
 | .sl t,fuel,T,cs,x,hf,h=>by
  unfold Zbn at hf;split at hf
  ·rename_i e hu
   simp only[Ur,Kl,Uk] at hf;obtain ⟨⟨hf,hsz⟩,hpos⟩:=hf;rcases DataW.trod_slice hu h with ⟨h1,_⟩ | ⟨a,len,cap,elems,rest,n,rfl,rfl,_,_,hlc,hcap,hel,hget,_⟩
   ·refine ⟨[],?_,by show ((0:Nat):Int)<=9223372036854775807;omega,λx hx=>(by cases hx)⟩
    show rep _ w (.sl t) [] cs;exact ⟨none,0,by rw[h1];rfl,by simp,λ_=>rfl,.inl rfl⟩
   ·-- the elements' cells
    have hcss:∃ css:List (List Value),css.length=len/\∀ (i:Nat) (c:List Value),css[i]?=some c->w.cells? 0 (a.add (i*t.size)) t.size=some c/\∃ d:t.den,rep (λb=>b<w.heap.size) w t d c/\bnd t d:=by
     have:∀ m,m<=len->∃ css:List (List Value),css.length=m/\∀ (i:Nat) (c:List Value),css[i]?=some c->w.cells? 0 (a.add (i*t.size)) t.size=some c/\∃ d:t.den,rep (λb=>b<w.heap.size) w t d c/\bnd t d:=by
      intro m;induction m with
      | zero=>intro _;exact ⟨[],rfl,by simp⟩
      | succ m ih =>
       intro hm;obtain ⟨css,h1,h2⟩:=ih (by omega);have hg:=hget m (by omega);rw[Ua (by omega)] at hg;obtain ⟨c,hc,hcx⟩:=US.1 hg;rw[hsz] at hc;obtain ⟨d,hd,hb⟩:=Zq8 t n e c _ hf hcx;refine ⟨css++[c],by simp[h1],λi c' hi=>?_⟩;by_cases him:i<m
       ·rw[Uq (by omega)] at hi
        exact h2 i c' hi
       ·have:i=m:=by
         have:=(Ub.1 hi).1;simp[h1] at this;omega
        subst this;rw[Uv (by omega),h1] at hi;simp at hi;subst hi;exact ⟨hc,d,hd,hb⟩
     exact this len (UK _)
    obtain ⟨css,hcl,hcs⟩:=hcss;have hlens:∀ c∈css,c.length=t.size:=by
     intro c hc;obtain ⟨i,hi⟩:=UE.1 hc;exact (World.cells?_some (hcs i c hi).1).2.1
    obtain ⟨l,hl,hr,hb⟩:=ZA8 (S:=λb=>b<w.heap.size) (w:=w) (t:=t) (p:=a) rfl len css hcl (λi c hi=>⟨hlens c (Ue hi),(hcs i c hi).2⟩);refine ⟨l,?_,by unfold maxLen at hcap;omega,hb⟩;refine ⟨some a,cap,by rw[hl],by omega,λe=>(by cases e),?_⟩;cases css with
    | nil =>
     left;simp at hcl;exact UF (by omega)
    | cons c0 css =>
     right;have h0:=(hcs 0 c0 rfl).1;rw[Nat.zero_mul] at h0;have ha0:a.add 0=a:=by unfold Addr.add;simp
     rw[ha0] at h0;have hspot:a.spot=none:=by
      have h1:=(World.cells?_some h0).2.2 0 hpos;rw[ha0] at h1;have hlen0:=(World.cells?_some h0).2.1;rw[Ua (by omega)] at h1;unfold World.cell? at h1;split at h1
      ·split at h1
       ·cases h1
       ·rename_i hs;simpa using hs
      ·cases h1
     refine ⟨a,(c0::css).flatten,rfl,hspot,World.cells?_block h0 hpos,λj u hu=>?_,hr⟩;have hjl:=(Ub.1 hu).1;rw[Zrl _ hlens] at hjl;have hdm:j / t.size*t.size+j % t.size=j:=by rw[Nat.mul_comm];exact Nat.div_add_mod j t.size
     have hq:j / t.size<(c0::css).length:=by rw[Nat.div_lt_iff_lt_mul hpos];exact hjl
     obtain ⟨c,hc⟩:∃ c,(c0::css)[j / t.size]?=some c:=⟨_,Ua hq⟩;have h2:=Zrk (c0::css) hlens (j / t.size) (j % t.size) c hc (Nat.mod_lt _ hpos);rw[hdm,hu] at h2;have h3:=(World.cells?_some (hcs _ c hc).1).2.2 (j % t.size) (Nat.mod_lt _ hpos);rw[add_add _ _ _ hspot,hdm] at h3;rw[h3];exact h2.symm
  ·cases hf
 | .pair a b,fuel,T,cs,x,hf,h=>by
  unfold Zbn at hf;split at hf
  ·rename_i fs hu
   split at hf
   ·rename_i f fl hfl
    simp only[Ur,Kl] at hf;obtain ⟨⟨⟨⟨h1,h2⟩,h3⟩,h4⟩,h5⟩:=hf;obtain ⟨xs,n,rfl,_,hlen,hxl,hget⟩:=DataW.trod_struct hu h;have hsz:fs.size=fl.length+1:=by
     have:=UM List.length hfl;simpa using this
    have hf0:fs[0]?=some f:=by
     have:=UM (·[0]?) hfl;simpa using this
    have hg:=hget 0 f hf0;rw[Ua (by omega),h2,h3] at hg;obtain ⟨d,hd,hb⟩:=Zq8 a n f.type _ _ h1 hg;have hrest:∀ (i:Nat) (g:Field),fl[i]?=some g->∃ y,DataW.trod enc P w 0 spare held n g.type ((cs.drop g.offset).take (P.cellsOf g.type))=some y:=by
     intro i g hgi;have hg1:fs[i+1]?=some g:=by
      have:=UM (·[i+1]?) hfl;simp only[U8,hgi,KO] at this;exact this
     have:=hget (i+1) g hg1;have hi:=(Ub.1 hgi).1;rw[Ua (by omega)] at this;exact ⟨_,this⟩
    obtain ⟨d2,hd2,hb2⟩:=Zwl b n fl a.size cs h4 (by omega) hrest;refine ⟨(d,d2),⟨(cs.drop 0).take a.size,cs.drop a.size,by simp,hd,hd2⟩,hb,hb2⟩
   ·cases hf
  ·cases hf
 | .unit,_,_,_,_,hf,_=>by simp[Zbn] at hf
 | .ptr _,_,_,_,_,hf,_=>by simp[Zbn] at hf
 | .fn _ _,_,_,_,_,hf,_=>by simp[Zbn] at hf
 | .nptr _,_,_,_,_,hf,_=>by simp[Zbn] at hf
 | .mp _ _,_,_,_,_,hf,_=>by simp[Zbn] at hf
theorem Zwl:∀ (ty:Ty) (n:Nat) (fl:List Field) (o:Nat) (cs:List Value),Zk8 P ty fl o=true->cs.length=o+ty.size->
  (∀ (i:Nat) (g:Field),fl[i]?=some g->∃ y,DataW.trod enc P w 0 spare held n g.type ((cs.drop g.offset).take (P.cellsOf g.type))=some y)->
  ∃ d:ty.den,rep (λb=>b<w.heap.size) w ty d (cs.drop o)/\bnd ty d
 | .unit,n,fl,o,cs,hf,hl,h=>by
  refine ⟨(),?_,trivial⟩;show cs.drop o=[];simp only[Ty.size] at hl;exact List.drop_eq_nil_of_le (by omega)
 | .pair a b,n,fl,o,cs,hf,hl,h=>by
  unfold Zk8 at hf;split at hf
  ·rename_i f fl
   simp only[Ur,Kl] at hf;obtain ⟨⟨⟨h1,h2⟩,h3⟩,h4⟩:=hf;obtain ⟨y,hy⟩:=h 0 f rfl;rw[h2,h3] at hy;obtain ⟨d,hd,hb⟩:=Zq8 a n f.type _ _ h1 hy;obtain ⟨d2,hd2,hb2⟩:=Zwl b n fl (o+a.size) cs h4 (by simp only[Ty.size] at hl;omega) (λi g hg=>h (i+1) g (by simpa using hg));refine ⟨(d,d2),⟨(cs.drop o).take a.size,cs.drop (o+a.size),?_,hd,hd2⟩,hb,hb2⟩;rw[<-List.drop_drop];exact (Ki _ _).symm
  ·cases hf
 | .int _,_,_,_,_,hf,_,_=>by simp[Zk8] at hf
 | .bool,_,_,_,_,hf,_,_=>by simp[Zk8] at hf
 | .str,_,_,_,_,hf,_,_=>by simp[Zk8] at hf
 | .sl _,_,_,_,_,hf,_,_=>by simp[Zk8] at hf
 | .ptr _,_,_,_,_,hf,_,_=>by simp[Zk8] at hf
 | .fn _ _,_,_,_,_,hf,_,_=>by simp[Zk8] at hf
 | .nptr _,_,_,_,_,hf,_,_=>by simp[Zk8] at hf
 | .mp _ _,_,_,_,_,hf,_,_=>by simp[Zk8] at hf
end
theorem ZBz {ty:Ty} {T:TypeId} {v:Value} {d:DataW H} {ps:List MemPlace} {base:Nat} (hf:Zbn P ty T=true) (hok:Value.okWide P w .any base T v) (h:DataW.Trod enc P w 0 spare held T v d ps) :
  ∃ x:ty.den,ZFR (λb=>b<w.heap.size) w ty x v/\bnd ty x:=by
 obtain ⟨fuel,h⟩:=h;obtain ⟨x,hx,hb⟩:=Zq8 ty fuel T _ _ hf h;refine ⟨x,⟨?_,?_,hx⟩,hb⟩
 ·intro ha
  cases ty with
  | pair a b =>
   unfold Zbn at hf;split at hf
   ·rename_i fs hu
    obtain ⟨cs,hcs,_⟩:=okWide_struct hu hok;exact ⟨cs,hcs⟩
   ·cases hf
  | unit=>simp[Zbn] at hf
  | _=>simp[Ty.agg] at ha
 ·intro ha
  have hna:∀ cs,v≠.agg cs:=by
   intro cs e;subst e;cases ty with
   | int k=>simp only[Zbn] at hf;simp[Value.okWide,ZlL hf,Cell.okWide,Cell.ok] at hok
   | bool=>simp only[Zbn] at hf;simp[Value.okWide,Zo8 hf,Cell.okWide,Cell.ok] at hok
   | str=>simp only[Zbn] at hf;simp[Value.okWide,ZrE hf,Cell.okWide,Cell.ok] at hok
   | sl t =>
    unfold Zbn at hf;split at hf
    ·rename_i e hu;simp[Value.okWide,hu,Cell.okWide,Cell.ok] at hok
    ·cases hf
   | pair a b=>simp[Ty.agg] at ha
   | unit=>simp[Ty.agg] at ha
   | ptr _=>simp[Zbn] at hf
   | fn _ _=>simp[Zbn] at hf
   | nptr _=>simp[Zbn] at hf
   | mp _ _=>simp[Zbn] at hf
  cases v<;>first | rfl | exact absurd rfl (hna _)
def Zp0:List Ty->List Sh
 | []=>[]
 | t::r=>.dat t::Zp0 r
def ZH1:(l:List Ty)->Shs (Zp0 l)->Prop
 | [],_=>True
 | t::r,d=>bnd t d.1/\ZH1 r d.2
def Zo0 (P:Program):List Ty->List TypeId->Bool
 | [],[]=>true
 | t::r,T::q=>Zbn P t T&&Zo0 P r q
 | _,_=>false
theorem ZsB {base:Nat}:∀ (l:List Ty) (ts:List TypeId) (vs:List Value) (ds:List (DataW H)) (p:List MemPlace),Zo0 P l ts=true->
  (∀ (j:Nat) t v,ts[j]?=some t->vs[j]?=some v->Value.okWide P w .any base t v)->DataW.TrodAll enc P w 0 spare held ts vs ds p->
  ∃ as:Shs (Zp0 l),ZeX (λb=>b<w.heap.size) w (Zp0 l) as vs []/\ZH1 l as
 | [],[],vs,ds,p,_,_,h=>by
  obtain ⟨rfl,_,_⟩:=trodAll_nil h;exact ⟨(),⟨rfl,rfl⟩,trivial⟩
 | t::r,T::q,vs,ds,p,hf,hok,h=>by
  simp only[Zo0,Ur] at hf;obtain ⟨v,vs',d,ds',p1,p2,rfl,rfl,rfl,h1,h2⟩:=trodAll_cons h;obtain ⟨x,hx,hb⟩:=ZBz hf.1 (hok 0 T v rfl rfl) h1;obtain ⟨as,has,hbs⟩:=ZsB r q vs' ds' p2 hf.2 (λj t v hj hv=>hok (j+1) t v (by simpa using hj) (by simpa using hv)) h2;exact ⟨(x,as),⟨v,vs',[],[],rfl,rfl,⟨rfl,hx⟩,has⟩,hb,hbs⟩
 | [],_::_,_,_,_,hf,_,_=>by simp[Zo0] at hf
 | _::_,[],_,_,_,hf,_,_=>by simp[Zo0] at hf
theorem ZoM (hl:laidOutB P=true) {W W':World} (hb:Below W.heap.size W W'):∀ (ts:List TypeId) (vs:List Value) (ds:List (DataW H)) (p:List MemPlace),(ts.all λt=>P.readableRec t&&decide (t<P.types.size))=true->
  DataW.TrodAll enc P W 0 (λ_=>true) true ts vs ds p->(∀ x∈p,x.block<W.heap.size)->DataW.TrodAll enc P W' 0 (λb=>decide (b<W.heap.size)) true ts vs ds p
 | [],vs,ds,p,_,h,_=>by
  obtain ⟨rfl,rfl,rfl⟩:=trodAll_nil h;rfl
 | t::ts,vs,ds,p,hr,h,hlt=>by
  simp only[List.all_cons,Ur,Uk] at hr;obtain ⟨v,vs',d,ds',p1,p2,rfl,rfl,rfl,h1,h2⟩:=trodAll_cons h;exact ⟨p1,p2,Below.trod hl hr.1.1 hr.1.2 h1 hb (λx hx=>hlt x (by simp[hx])),ZoM hl hb ts vs' ds' p2 hr.2 h2 (λx hx=>hlt x (by simp[hx])),rfl⟩
theorem ZAE {f:FuncId} {l:List Ty} {tr:Shs (Zp0 l)->(Shs [.dat .bool]->Ios (Zp0 l)->Prop)->Prop} (hC:Zc P f ⟨Zp0 l,[.dat .bool],tr⟩)
  (htrue:∀ as:Shs (Zp0 l),ZH1 l as->tr as (λr _=>r.1=true)) {ts:List TypeId} {args:Array Value} {ds:List (DataW H)} {p:List MemPlace} {base:Nat} (hf:Zo0 P l ts=true)
  (hok:∀ (j:Nat) t v,ts[j]?=some t->args[j]?=some v->Value.okWide P w .any base t v) (h:DataW.TrodAll enc P w 0 spare held ts args.toList ds p) :
  Calls P f args w λe w'=>e=.returned (.bool true)/\Below w.heap.size w w':=by
 obtain ⟨as,has,hb⟩:=ZsB l ts args.toList ds p hf (λj t v hj hv=>hok j t v hj (by simpa using hv)) h;have hc:=hC.2 w (λb=>b<w.heap.size) args.toList as [] (λr _=>r.1=true) (λb h=>h) has List.nodup_nil (by simp) (htrue as hb);have he:args.toList.toArray=args:=by simp
 rw[he] at hc;refine hc.mono ?_;rintro e w' ⟨v,us,rs,ios,S',fr,fio,rfl,hret,hr,hk,hS,hS2,hs,_⟩;obtain ⟨u,ur,f1,f2,rfl,_,⟨_,hu⟩,hur⟩:=hs;obtain ⟨rfl,_⟩:=hur;simp only[retv] at hret;subst hret;refine ⟨?_,hk.os,hk.tape,hk.output,hk.size,λb hb=>hk.block b hb (by simp)⟩;obtain ⟨h1,h2,h3⟩:=hu;have hv:=h2 rfl;rw[hv] at h3;have h4:[v]=[.bool rs.1]:=h3;simp at h4;rw[h4,hr]
end
end Go.Sx
