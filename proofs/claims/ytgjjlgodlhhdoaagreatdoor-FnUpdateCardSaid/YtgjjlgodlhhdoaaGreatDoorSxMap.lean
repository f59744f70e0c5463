/-
  Maps: made, looked up, written. Keys: numbers, and structs of numbers.
-/
import Derived.Test.YtgjjlgodlhhdoaaGreatDoorSxSpl
import Derived.MapKept
namespace Go.Sx
set_option linter.unusedVariables false
set_option linter.unusedSimpArgs false
def Zlo:EqD->Nat->Ty->Bool
 | .nil,_,.unit=>true
 | .int k o r,n,.pair (.int k') t=>decide (k=k')&&decide (o=n)&&Zlo r (n+1) t
 | _,_,_=>false
def ZtN (ti:TI) (t:Ty):Bool:=match ti.kind with
 | .int k=>decide (t=.int k)
 | .st=>!ti.eqd.isNil&&decide (ti.eqd.depth<=1000)&&Zlo ti.eqd 0 t
 | _=>false
def keq:(t:Ty)->t.den->t.den->Bool
 | .int _,x,y=>decide (x=y)
 | .pair a b,x,y=>keq a x.1 y.1&&keq b x.2 y.2
 | _,_,_=>true
def Zsf (k v:Ty):List (k.den×v.den)->k.den->Option v.den
 | [],_=>none
 | d::l,x=>if keq k x d.1=true then some d.2 else Zsf k v l x
def Zt0 (k v:Ty):List (k.den×v.den)->k.den->v.den->List (k.den×v.den)
 | [],x,y=>[(x,y)]
 | d::l,x,y=>if keq k x d.1=true then (x,y)::l else d::Zt0 k v l x y
def fnd {k v:Ty}:List (k.den×v.den)->k.den->List MapEntry->Nat->Option (Nat×Value)
 | [],_,_,_=>none
 | d::l,x,es,i=>match es with
  | []=>none
  | e::r=>if keq k x d.1=true then some (i,e.val) else fnd l x r (i+1)
theorem Zms {k v:Ty} {R:k.den->List Value->Prop} {Q:v.den->List Value->Prop} {ka va:Bool} {x:k.den}:∀ (d:List (k.den×v.den)) (es:List MapEntry) (i:Nat),ZcX R Q ka va d es->
  (fnd d x es i=none/\Zsf k v d x=none)\/∃ j u y e kd,fnd d x es i=some (i+j,u)/\Zsf k v d x=some y/\Zf6 va u/\Q y u.cells.toList/\es[j]?=some e/\keq k x kd=true/\Zf6 ka e.key/\R kd e.key.cells.toList
 | [],es,i,h=>.inl ⟨rfl,rfl⟩
 | d::l,es,i,⟨e,r,e1,f1,r1,f2,r2,rs⟩=>by
  subst e1;by_cases hq:keq k x d.1=true
  ·exact .inr ⟨0,e.val,d.2,e,d.1,by simp[fnd,hq],by simp[Zsf,hq],f2,r2,rfl,hq,f1,r1⟩
  ·rcases Zms (x:=x) l r (i+1) rs with ⟨h1,h2⟩ | ⟨j,u,y,e',kd,h1,h2,h3,h4,h5,h6⟩
   ·exact .inl ⟨by simp[fnd,hq,h1],by simp[Zsf,hq,h2]⟩
   ·exact .inr ⟨j+1,u,y,e',kd,by simp only[fnd,hq,if_false,h1];simp;omega,by simp[Zsf,hq,h2],h3,h4,by simpa using h5,h6⟩
theorem Zps {k v:Ty} {R:k.den->List Value->Prop} {Q:v.den->List Value->Prop} {ka va:Bool} {x:k.den} {y:v.den} {kv vv:Value} {born:Nat} (hk:Zf6 ka kv) (hR:R x kv.cells.toList) (hv:Zf6 va vv) (hQ:Q y vv.cells.toList) :
  ∀ (d:List (k.den×v.den)) (es:List MapEntry) (i:Nat),ZcX R Q ka va d es->fnd d x es i=none->ZcX R Q ka va (Zt0 k v d x y) (es++[⟨kv,vv,born⟩])
 | [],es,i,h,_=>by
  have:es=[]:=h;subst this;exact ⟨⟨kv,vv,born⟩,[],rfl,hk,hR,hv,hQ,rfl⟩
 | d::l,es,i,⟨e,r,e1,f1,r1,f2,r2,rs⟩,hf=>by
  subst e1;by_cases hq:keq k x d.1=true
  ·simp[fnd,hq] at hf
  ·simp only[fnd,if_neg hq] at hf
   have:=Zps (born:=born) hk hR hv hQ l r (i+1) rs hf;simp only[Zt0,if_neg hq];exact ⟨e,r++[⟨kv,vv,born⟩],rfl,f1,r1,f2,r2,this⟩
theorem Zpt {k v:Ty} {R:k.den->List Value->Prop} {Q:v.den->List Value->Prop} {ka va:Bool} {x:k.den} {y:v.den} {kv vv:Value} (hk:Zf6 ka kv) (hR:R x kv.cells.toList) (hv:Zf6 va vv) (hQ:Q y vv.cells.toList) :
  ∀ (d:List (k.den×v.den)) (es:List MapEntry) (i j:Nat) (u:Value),ZcX R Q ka va d es->fnd d x es i=some (i+j,u)->ZcX R Q ka va (Zt0 k v d x y) (es.modify j λe=>{e with key:=kv,val:=vv})
 | [],es,i,j,u,h,hf=>by simp[fnd] at hf
 | d::l,es,i,j,u,⟨e,r,e1,f1,r1,f2,r2,rs⟩,hf=>by
  subst e1;by_cases hq:keq k x d.1=true
  ·simp only[fnd,hq,if_true] at hf
   have:j=0:=by
    injection hf with hf
    injection hf with hf _
    omega
   subst this;simp only[Zt0,hq,if_true,List.modify_zero_cons];exact ⟨_,r,rfl,hk,hR,hv,hQ,rs⟩
  ·simp only[fnd,if_neg hq] at hf
   cases j with
   | zero =>
    rcases Zms (x:=x) l r (i+1) rs with ⟨h1,_⟩ | ⟨j',u',y',e',kd,h1,_⟩
    ·rw[h1] at hf;simp at hf
    ·rw[h1] at hf
     simp at hf;have:=hf.1;omega
   | succ j =>
    have:=Zpt hk hR hv hQ l r (i+1) j u rs (by rw[show i+1+j=i+(j+1) by omega];exact hf);simp only[Zt0,if_neg hq,List.modify_succ_cons];exact ⟨e,_,rfl,f1,r1,f2,r2,this⟩
section
variable {P:Program}
open Go.MapKept
theorem QJ {q:EqD} {o:Nat} {t:Ty} (h:Zlo q o t=true):(q=.nil/\t=.unit)\/∃ k r t',q=.int k o r/\t=.pair (.int k) t'/\Zlo r (o+1) t'=true:=by
 unfold Zlo at h;split at h
 ·exact .inl ⟨rfl,rfl⟩
 ·simp only[Bool.and_eq_true,decide_eq_true_eq] at h
  obtain ⟨⟨rfl,rfl⟩,h⟩:=h;exact .inr ⟨_,_,_,rfl,rfl,h⟩
 ·cases h
theorem Zsb {S:Nat->Prop} {w:World}:∀ (q:EqD) (o:Nat) (t:Ty),Zlo q o t=true->∀ (x y:t.den) (vs us:List Value),rep S w t x vs->rep S w t y us->keq t x y=true->vs=us/\∀ u∈vs,∃ k n,u=.int k n:=by
 intro q;induction q with
 | nil =>
  intro o t h x y vs us h1 h2 _;rcases QJ h with ⟨_,rfl⟩ | ⟨_,_,_,e,_⟩
  ·have h1:vs=[]:=h1
   have h2:us=[]:=h2;rw[h1,h2];simp
  ·cases e
 | int k o' r ih =>
  intro o t h x y vs us h1 h2 hq;rcases QJ h with ⟨e,_⟩ | ⟨k',r',t',e,rfl,hr⟩
  ·cases e
  ·injection e with e1 e2 e3
   subst e1;subst e2;subst e3;obtain ⟨v1,v2,e1,h1,h2'⟩:=h1;obtain ⟨u1,u2,e2,h3,h4⟩:=h2;simp only[keq,Bool.and_eq_true,decide_eq_true_eq] at hq;obtain ⟨a,b⟩:=ih _ t' hr x.2 y.2 v2 u2 h2' h4 hq.2;have h1:v1=[.int k x.1]:=h1;have h3:u1=[.int k y.1]:=h3;subst h1;subst h3;subst e1;subst e2;subst a;rw[hq.1];refine ⟨rfl,λu hu=>?_⟩;simp only[List.cons_append,List.nil_append,List.mem_cons] at hu;rcases hu with rfl | hu
   ·exact ⟨_,_,rfl⟩
   ·exact b u hu
 | bool o' r ih=>intro o t h;rcases QJ h with ⟨e,_⟩ | ⟨_,_,_,e,_⟩<;>cases e
 | str o' r ih=>intro o t h;rcases QJ h with ⟨e,_⟩ | ⟨_,_,_,e,_⟩<;>cases e
 | st o' sz fs r ih1 ih2=>intro o t h;rcases QJ h with ⟨e,_⟩ | ⟨_,_,_,e,_⟩<;>cases e
theorem Znz {S:Nat->Prop} {w:World} {n:Nat}:∀ (q:EqD) (o:Nat) (t:Ty) (fl:List Field),Zlo q o t=true->q.fits P fl=true->∀ (x y:t.den) (p1 p2 vs us:List Value),p1.length=o->p2.length=o->rep S w t x vs->rep S w t y us->∀ w',
  (Op.eqFields (n+1) (p1++vs).toArray (p2++us).toArray fl).run P w'=.ok (keq t x y) w':=by
 intro q;induction q with
 | nil =>
  intro o t fl h hf x y p1 p2 vs us l1 l2 h1 h2 w';rcases QJ h with ⟨_,rfl⟩ | ⟨_,_,_,e,_⟩
  ·simp only[EqD.fits,List.isEmpty_iff] at hf
   subst hf;rfl
  ·cases e
 | int k o' r ih =>
  intro o t fl h hf x y p1 p2 vs us l1 l2 h1 h2 w';rcases QJ h with ⟨e,_⟩ | ⟨k',r',t',e,rfl,hr⟩
  ·cases e
  ·injection e with e1 e2 e3
   subst e1;subst e2;subst e3;cases fl with
   | nil=>simp[EqD.fits] at hf
   | cons f fl =>
    simp only[EqD.fits,Bool.and_eq_true,bne_iff_ne,beq_iff_eq] at hf;obtain ⟨⟨⟨f1,f2⟩,f3⟩,f4⟩:=hf;obtain ⟨v1,v2,e1,h1,h2'⟩:=h1;obtain ⟨u1,u2,e2,h3,h4⟩:=h2;have h1:v1=[.int k x.1]:=h1;have h3:u1=[.int k y.1]:=h3;subst h1;subst h3;subst e1;subst e2;have hty:=Zgn f3;have ih':=ih _ t' fl hr f4 x.2 y.2 (p1++[.int k x.1]) (p2++[.int k y.1]) v2 u2 (by simp[l1]) (by simp[l2]) h2' h4 w';simp only[List.append_assoc] at ih';refine Zcd f1 (Zcs hty rfl (v:=.int k x.1) ?_ w') (Zcs hty rfl (v:=.int k y.1) ?_ w') (by rw[run_equalIn_int w' n f.type k k x.1 y.1 hty,JY];rfl) ih'
    ·rw[f2,<-l1];simp
    ·rw[f2,<-l2];simp
 | bool o' r ih=>intro o t fl h;rcases QJ h with ⟨e,_⟩ | ⟨_,_,_,e,_⟩<;>cases e
 | str o' r ih=>intro o t fl h;rcases QJ h with ⟨e,_⟩ | ⟨_,_,_,e,_⟩<;>cases e
 | st o' sz fs r ih1 ih2=>intro o t fl h;rcases QJ h with ⟨e,_⟩ | ⟨_,_,_,e,_⟩<;>cases e
theorem ZiW {T:TypeId} {k:IntKind} (h:P.underlying T=some (.int k)) (em:Bool) (n:Nat) (k':IntKind) (a:Int) (w:World):(Instr.checkKey em (n+1) T (.int k' a)).run P w=.ok () w:=by
 unfold Instr.checkKey;simp only[Sem.run_bind,run_underlying h,Result.andThen_ok];rfl
theorem Zsc {T:TypeId} {fs:Array Field} (hu:P.underlying T=some (.struct fs)) (em:Bool) {S:Nat->Prop} {w0:World} {q:EqD} {t:Ty} (hq:Zlo q 0 t=true) (hf:q.fits P fs.toList=true) (n:Nat) {x:t.den} {vs:List Value} (hr:rep S w0 t x vs) (w:World) :
  (Instr.checkKey em (n+2) T (.agg vs.toArray)).run P w=.ok () w:=by
 rw[show n+2=(n+1)+1 from rfl,Instr.checkKey];simp only[Sem.run_bind,run_underlying hu,Result.andThen_ok];rw[<-Array.forIn_toList];generalize fs.toList=L at hf;have gen:∀ (q:EqD) (o:Nat) (t:Ty) (L:List Field),Zlo q o t=true->q.fits P L=true->∀ (x:t.den) (pre us:List Value),pre.length=o->pre++us=vs->rep S w0 t x us->
   (forIn L PUnit.unit λf r=>do
    if f.name≠ "_" then do
     let v <-part f.type vs.toArray f.offset
     Instr.checkKey em (n+1) f.type v
     pure (ForInStep.yield PUnit.unit)
    else pure (ForInStep.yield PUnit.unit):Sem PUnit).run P w=.ok () w:=by
  intro q;induction q with
  | nil =>
   intro o t L h hf x pre us _ _ _;rcases QJ h with ⟨_,rfl⟩ | ⟨_,_,_,e,_⟩
   ·simp only[EqD.fits,List.isEmpty_iff] at hf
    subst hf;simp
   ·cases e
  | int k o' r ih =>
   intro o t L h hf x pre us hl he hr;rcases QJ h with ⟨e,_⟩ | ⟨k',r',t',e,rfl,hr'⟩
   ·cases e
   ·injection e with e1 e2 e3
    subst e1;subst e2;subst e3;cases L with
    | nil=>simp[EqD.fits] at hf
    | cons f L =>
     simp only[EqD.fits,Bool.and_eq_true,bne_iff_ne,beq_iff_eq] at hf;obtain ⟨⟨⟨f1,f2⟩,f3⟩,f4⟩:=hf;obtain ⟨v1,v2,e1,h1,h2'⟩:=hr;have h1:v1=[.int k x.1]:=h1;subst h1;subst e1;have hty:=Zgn f3;have p1:=Zcs (P:=P) hty rfl (cs:=vs.toArray) (o:=f.offset) (v:=.int k x.1) (by rw[f2,<-hl,<-he];simp) w;have p2:=ZiW (P:=P) hty em n k x.1 w;have ih':=ih _ t' L hr' f4 x.2 (pre++[.int k x.1]) v2 (by simp[hl]) (by rw[<-he];simp) h2';simp only[List.forIn_cons,Sem.run_bind,f1,ne_eq,not_false_eq_true,if_true,Result.andThen_ok,p1,p2,Sem.run_pure];exact ih'
  | bool o' r ih=>intro o t L h;rcases QJ h with ⟨e,_⟩ | ⟨_,_,_,e,_⟩<;>cases e
  | str o' r ih=>intro o t L h;rcases QJ h with ⟨e,_⟩ | ⟨_,_,_,e,_⟩<;>cases e
  | st o' sz fs r ih1 ih2=>intro o t L h;rcases QJ h with ⟨e,_⟩ | ⟨_,_,_,e,_⟩<;>cases e
 exact (congrArg (λr=>Result.andThen r _) (gen q 0 t L hq hf x [] vs rfl rfl hr)).trans rfl
structure Zpa (P:Program) (T:TypeId) (t:Ty):Prop where
 check:∀ (S:Nat->Prop) (w0:World) (x:t.den) (v:Value),Zf6 t.agg v->rep S w0 t x v.cells.toList->∀ (em:Bool) (w:World),(Instr.checkKey em 10000 T v).run P w=.ok () w
 find:∀ (S:Nat->Prop) (w0:World) (x:t.den) (v:Value),Zf6 t.agg v->rep S w0 t x v.cells.toList->∀ (u:Ty) (Q:u.den->List Value->Prop) (va:Bool) (d:List (t.den×u.den)) (es:List MapEntry),ZcX (rep S w0 t) Q t.agg va d es->∀ (w:World),(Instr.findKey T v es).run P w=.ok (fnd d x es 0) w
 stays:∀ (S:Nat->Prop) (w0:World) (x y:t.den) (v v':Value),Zf6 t.agg v->rep S w0 t x v.cells.toList->Zf6 t.agg v'->rep S w0 t y v'.cells.toList->keq t x y=true->∀ (w:World),(Instr.keyThatStays v' v).run P w=.ok v w
theorem ZqB {T:TypeId} {k:IntKind} (h:P.underlying T=some (.int k)):Zpa P T (.int k) where
 check S w0 x v hf hr em w:=by
  have hc:=hf.2 rfl;rw[hc] at hr;have hr:[v]=[.int k x]:=hr;simp at hr;subst hr;exact ZiW h em 9999 k x w
 find S w0 x v hf hr u Q va d es he w:=by
  have hc:=hf.2 rfl;rw[hc] at hr;have hr:[v]=[.int k x]:=hr;simp at hr;subst hr;have gen:∀ (d:List (Int×u.den)) (es:List MapEntry) (i:Nat),ZcX (rep S w0 (.int k)) Q false va d es->Instr.findNow (.int k) (.int k x) es i=some (fnd (k:=.int k) d x es i):=by
   intro d;induction d with
   | nil =>
    intro es i he;have:es=[]:=he;subst this;rfl
   | cons d l ih =>
    rintro es i ⟨e,r,rfl,f1,r1,f2,r2,rs⟩;have hc1:=f1.2 rfl;rw[hc1] at r1;have r1:[e.key]=[.int k d.1]:=r1;simp at r1;by_cases hq:x=d.1
    ·simp[Instr.findNow,r1,Instr.sameNow,fnd,keq,hq]
    ·have hb:(x == d.1)=false:=by rw[JY];simp[hq]
     simp[Instr.findNow,r1,Instr.sameNow,fnd,keq,hq,ih r (i+1) rs,hb]
  have:=gen d es 0 he;unfold Instr.findKey;rw[Sem.run_bind,run_underlying h,Result.andThen_ok,this];rfl
 stays S w0 x y v v' hf hr hf' hr' hq w:=by
  have hc:=hf.2 rfl;rw[hc] at hr;have hr:[v]=[.int k x]:=hr;simp at hr;subst hr;have hc':=hf'.2 rfl;rw[hc'] at hr';have hr':[v']=[.int k y]:=hr';simp at hr';subst hr';simp only[keq,decide_eq_true_eq] at hq;subst hq;simp[Instr.keyThatStays,Instr.sameBits]
theorem Zsa {T:TypeId} {ti:TI} (h:ZbB P T ti) {t:Ty} (hk:ti.kind=.st) (hn:ti.eqd.isNil=false) (hq:Zlo ti.eqd 0 t=true):Zpa P T t:=by
 have he:=h.eqd;simp only[hn,Bool.false_or] at he;split at he
 ·rename_i fs hT
  simp only[Bool.and_eq_true,Bool.not_eq_true'] at he;obtain ⟨⟨e1,e2⟩,e3⟩:=he;have hagg:t.agg=true:=by
   rcases QJ hq with ⟨_,rfl⟩ | ⟨_,_,_,_,rfl,_⟩<;>rfl
  have hfo:P.fieldsOf T=fs:=by simp[Program.fieldsOf,hT]
  have heq:∀ (S:Nat->Prop) (w0:World) (x y:t.den) (vs us:List Value),rep S w0 t x vs->rep S w0 t y us->∀ w,(Op.equal T (.agg vs.toArray) (.agg us.toArray)).run P w=.ok (keq t x y) w:=by
   intro S w0 x y vs us h1 h2 w;show (Op.equalIn (9999+1) T _ _).run P w=_;rw[run_equalIn_struct w 9999 T _ _ (by rw[hfo];exact hT) e1,hfo];exact Znz (n:=9998) ti.eqd 0 t fs.toList hq e2 x y [] [] vs us rfl rfl h1 h2 w
  have toA:∀ (v:Value),Zf6 t.agg v->v=.agg v.cells.toList.toArray:=by
   intro v hf;obtain ⟨cs,rfl⟩:=hf.1 hagg;simp[Value.cells]
  refine ⟨λS w0 x v hf hr em w=>?_,λS w0 x v hf hr u Q va d es hes w=>?_,λS w0 x y v v' hf hr hf' hr' hxy w=>?_⟩
  ·rw[toA v hf]
   exact Zsc hT em hq e2 9998 hr w
  ·rw[toA v hf]
   have gen:∀ (d:List (t.den×u.den)) (es:List MapEntry) (i:Nat),ZcX (rep S w0 t) Q t.agg va d es->(Instr.findAsking T (.agg v.cells.toList.toArray) es i).run P w=.ok (fnd d x es i) w:=by
    intro d;induction d with
    | nil =>
     intro es i he;have:es=[]:=he;subst this;rfl
    | cons d l ih =>
     rintro es i ⟨e,r,rfl,f1,r1,f2,r2,rs⟩;have:=heq S w0 x d.1 _ _ hr r1 w;rw[<-toA e.key f1] at this;simp only[Instr.findAsking,Sem.run_bind,this,Result.andThen_ok,fnd];by_cases hq:keq t x d.1=true
     ·simp[hq]
     ·simp only[hq]
      exact ih r (i+1) rs
   unfold Instr.findKey;rw[Sem.run_bind,run_underlying hT,Result.andThen_ok];cases es with
   | nil =>
    cases d with
    | nil=>rfl
    | cons=>obtain ⟨_,_,e,_⟩:=hes;cases e
   | cons e r=>exact gen d (e::r) 0 hes
  ·obtain ⟨a,b⟩:=Zsb ti.eqd 0 t hq x y _ _ hr hr' hxy
   rw[toA v hf,toA v' hf',<-a];have hs:Instr.sameBits 10000 (.agg v.cells.toList.toArray) (.agg v.cells.toList.toArray)=true:=by
    show Instr.sameBits (9999+1) _ _=true;simp only[Instr.sameBits,beq_self_eq_true,Bool.true_and,List.all_eq_true];intro p hp;obtain ⟨i,hi⟩:=List.mem_iff_getElem?.1 hp;rw[List.getElem?_zip_eq_some] at hi;have:p.1=p.2:=by
     have:=hi.1.symm.trans hi.2;simpa using this
    obtain ⟨k,m,hkm⟩:=b p.1 (List.mem_of_getElem? hi.1);rw[<-this,hkm];simp[Instr.sameBits]
   unfold Instr.keyThatStays;rw[if_pos hs];rfl
 ·cases he
theorem Zny {T:TypeId} {ti:TI} (h:ZbB P T ti) {t:Ty} (hk:ZtN ti t=true):Zpa P T t:=by
 unfold ZtN at hk;split at hk
 ·rename_i k hkd
  simp only[decide_eq_true_eq] at hk;subst hk;exact ZqB (h.intOf hkd)
 ·rename_i hkd
  simp only[Bool.and_eq_true,Bool.not_eq_true',decide_eq_true_eq] at hk;exact Zsa h hkd hk.1.1 hk.2
 ·cases hk
def SV.isA:SV->Bool
 | .agg _=>true
 | _=>false
theorem Zr5 {E:Env} {s:SV} {v:Value} (h:den E s v) (hw:s.whole=true) {b:Bool} (hb:b=s.isA):Zf6 b v:=by
 subst hb;constructor
 ·intro ha
  cases s<;>simp[SV.isA] at ha
  simp only[den] at h;obtain ⟨vs,e,_⟩:=h;exact ⟨_,e⟩
 ·intro ha
  have h1:s.one=true:=by cases s<;>simp_all[SV.isA,SV.whole,SV.one]
  exact (Zgs h h1).1
def Zzd (t:Ty) (cs:List SV) (K:SV->Prop):Prop :=
 if t.agg=true then K (.agg cs) else match cs with
  | c::_=>K c
  | []=>False
theorem Zvz {E:Env} {t:Ty} {v:Value} (hf:Zf6 t.agg v) {cs:List SV} (hd:ZT E cs v.cells.toList) {K:SV->Prop} (hk:Zzd t cs K):∃ s,den E s v/\K s:=by
 obtain ⟨h1,h2⟩:=hf;unfold Zzd at hk;split at hk
 ·rename_i ha
  obtain ⟨cs,rfl⟩:=h1 ha;exact ⟨.agg _,by simp only[den];exact ⟨cs.toList,by simp,hd⟩,hk⟩
 ·rename_i ha
  have hv:=h2 (by simpa using ha);split at hk
  ·rename_i c r
   rw[hv] at hd;simp only[ZT] at hd;exact ⟨c,hd.1,hk⟩
  ·exact hk.elim
def ZuK (b:Bool):Value->Bool
 | .agg _=>b
 | _=>!b
theorem ZuL {b:Bool} {v:Value} (h:ZuK b v=true):Zf6 b v:=by
 cases b
 ·refine ⟨λh=>(by cases h),λ_=>?_⟩
  cases v<;>first | rfl | (simp[ZuK] at h)
 ·refine ⟨λ_=>?_,λh=>(by cases h)⟩
  cases v<;>first | exact ⟨_,rfl⟩ | (simp[ZuK] at h)
def Zzn (s:SV) (H:List Entry) (K:(k v:Ty)->List (k.den×v.den)->Prop):Prop :=
 match s with
 | .mp k v d=>K k v d
 | .mown id=>ZeE H id λe=>match e with
  | .mpe k v d=>K k v d
  | .frm k v d=>K k v d
  | _=>False
 | _=>False
def MapAt (E:Env) (x:Value) (k v:Ty) (d:List (k.den×v.den)):Prop :=
 (d=[]/\x=.map none)\/∃ b es clk,x=.map (some b)/\E.w.heap[b]?=some (.map es clk)/\ZcX (rep E.S E.w k) (rep E.S E.w v) k.agg v.agg d es.toList
theorem ZvS {B:Base} {E:Env} {H:List Entry} (hI:Inv B E H) {s:SV} {x:Value} (hs:den E s x) {K:(k v:Ty)->List (k.den×v.den)->Prop} (hk:Zzn s H K):∃ k v d,MapAt E x k v d/\K k v d:=by
 have data:∀ (k v:Ty) (d:List (k.den×v.den)),rep E.S E.w (.mp k v) d [x]->MapAt E x k v d:=by
  intro k v d h;rcases h with ⟨h1,h2⟩ | ⟨b,es,clk,h1,_,h2,h3⟩
  ·simp at h2;exact .inl ⟨h1,h2⟩
  ·simp at h1;exact .inr ⟨b,es,clk,h1,h2,h3⟩
 unfold Zzn at hk;split at hk
 ·rename_i k v d
  simp only[den] at hs;exact ⟨k,v,d,data k v d hs,hk⟩
 ·rename_i id
  obtain ⟨e,he,hk⟩:=Yy H hk;simp only[den] at hs;split at hk
  ·rename_i k v d
   obtain ⟨b,es,clk,h1,h2,h3⟩:=hI.ent id _ he;have:=hs.1.symm.trans h1;simp at this;subst this;exact ⟨k,v,d,.inr ⟨b,es,clk,rfl,h2,h3⟩,hk⟩
  ·rename_i k v d
   obtain ⟨u,h1,h2⟩:=hI.ent id _ he;have:=hs.1.symm.trans h1;simp at this;subst this;exact ⟨k,v,d,data k v d h2,hk⟩
  ·exact hk.elim
 ·exact hk.elim
def ZoK (Δ:Tab) (ti:TI) (x i:SV) (ok:Bool) (H:List Entry) (K:SV->Prop):Prop :=
 match ti.kind with
 | .mp kt et=>Zbq Δ kt λtk=>Zbq Δ et λte=>Zzn x H λk v d =>
  if i.whole=true/\k.agg=i.isA/\ZtN tk k=true/\ZuK v.agg te.zero=true then Xi k i.cells λkey r1=>match r1 with
   | []=>Zk9 te.zero λzc=>Xi v zc λz r2=>match r2 with
    | []=>Qq v ((Zsf k v d key).getD z) λcs=>Zzd v cs λs=>if ok=true then K (.tup [s,.bool (Zsf k v d key).isSome]) else K s
    | _=>False
   | _=>False
  else False
 | _=>False
theorem ZbB.map {T:TypeId} {ti:TI} (h:ZbB P T ti) {kt et:TypeId} (hk:ti.kind=.mp kt et):P.underlying T=some (.map kt et):=by
 obtain ⟨d,hd,hk'⟩:=h.get;rw[hk] at hk';cases d<;>simp[Zq4] at hk'
 obtain ⟨rfl,rfl⟩:=hk';exact hd
theorem ZjO {E:Env} {vs:List Value} (h:ZT E [] vs):vs=[]:=by
 cases vs with
 | nil=>rfl
 | cons=>simp[ZT] at h
theorem ZqK {T kt et:TypeId} (hT:P.underlying T=some (.map kt et)) {k:Ty} (KR:Zpa P kt k) {z:Value} (hz:∀ w,(zeroValue et).run P w=.ok z w) {E:Env} {x:Value} {v:Ty} {d:List (k.den×v.den)} (hm:MapAt E x k v d)
  {i:Value} {key:k.den} (hif:Zf6 k.agg i) (hir:rep E.S E.w k key i.cells.toList) (ok:Bool) :
  ∃ es,ZcX (rep E.S E.w k) (rep E.S E.w v) k.agg v.agg d es/\(Instr.lookup T x i ok).run P E.w=.ok (if ok=true then .tuple #[((fnd d key es 0).map (·.2)).getD z,.bool (fnd d key es 0).isSome] else ((fnd d key es 0).map (·.2)).getD z) E.w:=by
 have fin:∀ (es:Array MapEntry),ZcX (rep E.S E.w k) (rep E.S E.w v) k.agg v.agg d es.toList->((do
   Instr.checkKey es.isEmpty 10000 kt i
   let (v,okk) <-match <-Instr.findKey kt i es.toList with
    | some (_,v)=>pure (v,true)
    | none=>pure (<-zeroValue et,false)
   pure (if ok then .tuple #[v,.bool okk] else v):Sem Value)).run P E.w=.ok (if ok=true then .tuple #[((fnd d key es.toList 0).map (·.2)).getD z,.bool (fnd d key es.toList 0).isSome] else ((fnd d key es.toList 0).map (·.2)).getD z) E.w:=by
  intro es he;have h1:=KR.check _ _ key i hif hir es.isEmpty E.w;have h2:=KR.find _ _ key i hif hir v _ _ d es.toList he E.w;simp only[Sem.run_bind,h1,h2,Result.andThen_ok];cases fnd d key es.toList 0 with
  | none=>simp[hz]
  | some p=>simp
 rcases hm with ⟨rfl,rfl⟩ | ⟨b,es,clk,rfl,hb,he⟩
 ·refine ⟨[],rfl,?_⟩
  have:=fin #[] rfl;unfold Instr.lookup;simp only[Sem.run_bind,run_underlying hT,Result.andThen_ok,Sem.run_pure] at this ⊢;exact this
 ·refine ⟨es.toList,he,?_⟩
  have:=fin es he;unfold Instr.lookup;simp only[Sem.run_bind,run_underlying hT,Result.andThen_ok,Sem.run_pure,Go.MapKept.run_getObj_map hb] at this ⊢;exact this
theorem ZqJ {Δ:Tab} (hΔ:Δ.ok P) {B:Base} {E:Env} {H:List Entry} (hI:Inv B E H) {T:TypeId} {ti:TI} (h:ZbB P T ti) {x i:SV} {vx vi:Value} (hx:den E x vx) (hi:den E i vi) {ok:Bool} {K:SV->Prop} (hk:ZoK Δ ti x i ok H K) :
  ∃ u s,(Instr.lookup T vx vi ok).run P E.w=.ok u E.w/\den E s u/\K s:=by
 unfold ZoK at hk;split at hk
 ·rename_i kt et hkd
  obtain ⟨tk,htk,hk⟩:=YV Δ hΔ hk;obtain ⟨te,hte,hk⟩:=YV Δ hΔ hk;obtain ⟨k,v,d,hm,hk⟩:=ZvS hI hx hk;split at hk
  ·rename_i hc
   obtain ⟨c1,c2,c3,c4⟩:=hc;have hif:=Zr5 hi c1 c2;obtain ⟨key,r1,v1,v2,e1,hkr,hr1,hk⟩:=Y4 k _ _ _ (Vt hi c1) hk;split at hk
   ·have:=ZjO hr1
    subst this;rw[List.append_nil] at e1;subst e1;obtain ⟨zc,hzc,hk⟩:=Zd9 E _ _ hk;obtain ⟨z,r2,z1,z2,e2,hzr,hr2,hk⟩:=Y4 v _ _ _ hzc hk;split at hk
    ·have:=ZjO hr2
     subst this;rw[List.append_nil] at e2;subst e2;obtain ⟨inf,hinf,_,_,hz0⟩:=hte.info';have hz:∀ w,(zeroValue et).run P w=.ok te.zero w:=λw=>by simp[zeroValue,typeInfo,hinf,hz0]
     obtain ⟨es,he,hrun⟩:=ZqK (h.map hkd) (Zny htk c3) hz hm hif hkr ok;rw[Xr] at hk;have val:∃ u,((fnd d key es 0).map (·.2)).getD te.zero=u/\Zf6 v.agg u/\rep E.S E.w v ((Zsf k v d key).getD z) u.cells.toList/\(fnd d key es 0).isSome=(Zsf k v d key).isSome:=by
      rcases Zms (x:=key) d es 0 he with ⟨h1,h2⟩ | ⟨j,u,y,e,kd,h1,h2,h3,h4,_⟩
      ·exact ⟨te.zero,by rw[h1];rfl,ZuL c4,by rw[h2];exact hzr,by rw[h1,h2];rfl⟩
      ·exact ⟨u,by rw[h1];rfl,h3,by rw[h2];exact h4,by rw[h1,h2];rfl⟩
     obtain ⟨u,hu,hf,hr,hs⟩:=val;rw[hu,hs] at hrun;obtain ⟨s,hs1,hk⟩:=Zvz hf (Y0 v _ _ hr) hk;cases ok
     ·simp only[Bool.false_eq_true,if_false] at hk hrun
      exact ⟨_,s,hrun,hs1,hk⟩
     ·simp only[if_true] at hk hrun
      refine ⟨_,_,hrun,?_,hk⟩;simp only[den];exact ⟨[u,.bool (Zsf k v d key).isSome],rfl,hs1,by simp only[den],trivial⟩
    ·exact hk.elim
   ·exact hk.elim
  ·exact hk.elim
 ·exact hk.elim
def Zo6 (Δ:Tab) (ti:TI) (x i y:SV) (H:List Entry) (K:List Entry->Prop):Prop :=
 match ti.kind,x with
 | .mp kt et,.mown id=>Zbq Δ kt λtk=>ZeE H id λe=>match e with
  | .mpe k v d=>if i.whole=true/\k.agg=i.isA/\ZtN tk k=true/\y.whole=true/\v.agg=y.isA then Xi k i.cells λkey r1=>match r1 with
   | []=>Xi v y.cells λval r2=>match r2 with
    | []=>Zfk H id (.mpe k v (Zt0 k v d key val)) K
    | _=>False
   | _=>False
   else False
  | _=>False
 | _,_=>False
theorem grownBy_set {w:World} {b:Nat} {o o':Obj} (hb:w.heap[b]?=some o):w.grownBy {w with heap:=w.heap.setIfInBounds b o'} (some b) :=
 ⟨rfl,rfl,rfl,by simp,λi _ hi=>(Go.MapKept.heap_set hb).2 i (λe=>hi (by rw[e]))⟩
theorem Zq6 {Δ:Tab} (hΔ:Δ.ok P) {B:Base} {E:Env} {H:List Entry} (hI:Inv B E H) {T:TypeId} {ti:TI} (h:ZbB P T ti) {x i y:SV} {vx vi vy:Value} (hx:den E x vx) (hi:den E i vi) (hy:den E y vy) {K:List Entry->Prop} (hk:Zo6 Δ ti x i y H K) :
  ∃ E' H',(Instr.mapUpdate T vx vi vy).run P E.w=.ok () E'.w/\Inv B E' H'/\E.le E'/\K H':=by
 unfold Zo6 at hk;split at hk
 ·rename_i kt et id hkd
  obtain ⟨tk,htk,hk⟩:=YV Δ hΔ hk;obtain ⟨e,he,hk⟩:=Yy H hk;split at hk
  ·rename_i k v d
   split at hk
   ·rename_i hc
    obtain ⟨c1,c2,c3,c4,c5⟩:=hc;have hif:=Zr5 hi c1 c2;have hyf:=Zr5 hy c4 c5;obtain ⟨key,r1,v1,v2,e1,hkr,hr1,hk⟩:=Y4 k _ _ _ (Vt hi c1) hk;split at hk
    ·have:=ZjO hr1
     subst this;rw[List.append_nil] at e1;subst e1;obtain ⟨val,r2,z1,z2,e2,hvr,hr2,hk⟩:=Y4 v _ _ _ (Vt hy c4) hk;split at hk
     ·have:=ZjO hr2
      subst this;rw[List.append_nil] at e2;subst e2;rw[YU] at hk;obtain ⟨b,es,clk,h1,hb,hes⟩:=hI.ent id _ he;simp only[den] at hx;have hid:=hx.1;have:=hx.1.symm.trans h1;simp at this;subst this;have KR:=Zny htk c3;have hT:=h.map hkd;have k1:=KR.check _ _ key vi hif hkr false E.w;have k2:=KR.find _ _ key vi hif hkr v _ _ d es.toList hes E.w;have fin:∀ (es':Array MapEntry) (clk':Nat),(Instr.mapUpdate T (.map (some b)) vi vy).run P E.w=.ok () {E.w with heap:=E.w.heap.setIfInBounds b (.map es' clk')}->
        ZcX (rep E.S E.w k) (rep E.S E.w v) k.agg v.agg (Zt0 k v d key val) es'.toList->∃ E' H',(Instr.mapUpdate T (.map (some b)) vi vy).run P E.w=.ok () E'.w/\Inv B E' H'/\E.le E'/\K H':=by
       intro es' clk' hrun hes';have hg:=grownBy_set (w:=E.w) (o':=.map es' clk') hb;have hnS:¬E.S b:=(hI.free id _ (.map (some b)) b he rfl hid rfl).1;have hle:=Zce hg hI.Slt (λg e=>by simp at e;subst e;exact hnS);refine ⟨⟨E.S,_,E.ids⟩,_,hrun,hI.write he rfl hid hg (.mpe k v (Zt0 k v d key val)) ?_,hle,hk⟩;exact ⟨b,es',clk',hid,(Go.MapKept.heap_set hb).1,Zan (λd vs=>Z7 hle.S hle.w k d vs) (λd vs=>Z7 hle.S hle.w v d vs) _ _ hes'⟩
      have unf:(Instr.mapUpdate T (.map (some b)) vi vy).run P E.w=(match fnd d key es.toList 0 with
        | some (j,_)=>(do
          let key' <-Instr.keyThatStays ((es[j]?.map MapEntry.key).getD vi) vi
          setObj b (.map (es.modify j λe=>{e with key:=key',val:=vy}) clk):Sem Unit)
        | none=>setObj b (.map (es.push {key:=vi,val:=vy,born:=clk}) (clk+1))).run P E.w:=by
       unfold Instr.mapUpdate;simp only[Sem.run_bind,run_underlying hT,Result.andThen_ok,Go.MapKept.run_getObj_map hb,k1,k2];cases fnd d key es.toList 0 with
       | none=>rfl
       | some p=>rfl
      rcases Zms (x:=key) d es.toList 0 hes with ⟨f1,f2⟩ | ⟨j,u,y',e',kd,f1,f2,f3,f4,f5,f6,f7,f8⟩
      ·refine fin (es.push ⟨vi,vy,clk⟩) (clk+1) ?_ ?_
       ·rw[unf,f1]
        exact Go.MapKept.run_setObj_map _ hb
       ·rw[Array.toList_push]
        exact Zps hif hkr hyf hvr d es.toList 0 hes f1
      ·have f5':es[j]?=some e':=by simpa using f5
       refine fin (es.modify j λe=>{e with key:=vi,val:=vy}) clk ?_ ?_
       ·rw[unf,f1]
        have:=KR.stays _ _ key kd vi e'.key hif hkr f7 f8 f6 E.w;simp only[Nat.zero_add,f5',Option.map_some,Option.getD_some,Sem.run_bind,this,Result.andThen_ok];exact Go.MapKept.run_setObj_map _ hb
       ·rw[Array.toList_modify]
        exact Zpt hif hkr hyf hvr d es.toList 0 j u hes f1
     ·exact hk.elim
    ·exact hk.elim
   ·exact hk.elim
  ·exact hk.elim
 ·exact hk.elim
def ZmI (ti:TI) (H:List Entry) (K:SV->List Entry->Prop):Prop :=
 match ti.kind with
 | .mp _ _=>Zoj H 0 λn=>Zmi H [.mpe ti.ty ti.ety []] λH'=>K (.mown n) H'
 | _=>False
theorem ZoL {B:Base} {E:Env} {H:List Entry} (hI:Inv B E H) {T:TypeId} {ti:TI} (h:ZbB P T ti) {K:SV->List Entry->Prop} (hk:ZmI ti H K) :
  ∃ u E' H' s,(Instr.makeMap T none).run P E.w=.ok u E'.w/\Inv B E' H'/\E.le E'/\den E' s u/\K s H'/\Grow E.w E'.w:=by
 unfold ZmI at hk;split at hk
 ·rw[Zax,Ju,Nat.zero_add] at hk
  have hle:=Zmh hI (.map #[] 0) (.map (some E.w.heap.size));have hid:(E.ids++[Value.map (some E.w.heap.size)])[H.length]?=some (.map (some E.w.heap.size)):=by
   rw[<-hI.len];simp
  refine ⟨.map (some E.w.heap.size),⟨E.S,E.w.alloc (.map #[] 0),E.ids++[.map (some E.w.heap.size)]⟩,_,_,?_,hI.alloc (.map #[] 0) _ _ rfl ?_,hle,?_,hk,ZaP _ _⟩
  ·simp[Instr.makeMap]
  ·exact ⟨_,#[],0,hid,Go.heap_alloc_new _ _,rfl⟩
  ·simp only[den]
   exact ⟨hid,_,rfl⟩
 ·exact hk.elim
end
end Go.Sx
