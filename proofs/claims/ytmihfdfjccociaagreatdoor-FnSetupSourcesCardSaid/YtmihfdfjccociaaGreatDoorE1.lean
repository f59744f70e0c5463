/-
  Maps: made, looked up, written. Keys: numbers, and structs of numbers.
-/
import Derived.Test.YtmihfdfjccociaaGreatDoorE0
import Derived.MapKept
import Derived.Orders
import Derived.KernelRfl
import Derived.ProofKit
import Derived.Below
import Derived.Carry
namespace Go.Sx
set_option linter.unusedVariables false
set_option linter.unusedSimpArgs false
def Zj8:EqD->Nat->Ty->Bool
 | .nil,_,.unit=>true
 | .int k o r,n,.pair (.int k') t=>decide (k=k')&&decide (o=n)&&Zj8 r (n+1) t
 | _,_,_=>false
def ZqT (ti:TI) (t:Ty):Bool:=match ti.kind with
 | .int k=>decide (t=.int k)
 | .st=>!ti.eqd.isNil&&decide (ti.eqd.depth<=1000)&&Zj8 ti.eqd 0 t
 | _=>false
def keq:(t:Ty)->t.den->t.den->Bool
 | .int _,x,y=>decide (x=y)
 | .pair a b,x,y=>keq a x.1 y.1&&keq b x.2 y.2
 | _,_,_=>true
def ZpG (k v:Ty):List (k.den×v.den)->k.den->Option v.den
 | [],_=>none
 | d::l,x=>if keq k x d.1=true then some d.2 else ZpG k v l x
def Zq7 (k v:Ty):List (k.den×v.den)->k.den->v.den->List (k.den×v.den)
 | [],x,y=>[(x,y)]
 | d::l,x,y=>if keq k x d.1=true then (x,y)::l else d::Zq7 k v l x y
def fnd {k v:Ty}:List (k.den×v.den)->k.den->List MapEntry->Nat->Option (Nat×Value)
 | [],_,_,_=>none
 | d::l,x,es,i=>match es with
  | []=>none
  | e::r=>if keq k x d.1=true then some (i,e.val) else fnd l x r (i+1)
theorem Zk4 {k v:Ty} {R:k.den->List Value->Prop} {Q:v.den->List Value->Prop} {ka va:Bool} {x:k.den}:∀ (d:List (k.den×v.den)) (es:List MapEntry) (i:Nat),ZbN R Q ka va d es->
  (fnd d x es i=none/\ZpG k v d x=none)\/∃ j u y e kd,fnd d x es i=some (i+j,u)/\ZpG k v d x=some y/\ZeJ va u/\Q y u.cells.toList/\es[j]?=some e/\keq k x kd=true/\ZeJ ka e.key/\R kd e.key.cells.toList
 | [],es,i,h=>.inl ⟨rfl,rfl⟩
 | d::l,es,i,⟨e,r,e1,f1,r1,f2,r2,rs⟩=>by
  subst e1;by_cases hq:keq k x d.1=true
  ·exact .inr ⟨0,e.val,d.2,e,d.1,by simp[fnd,hq],by simp[ZpG,hq],f2,r2,rfl,hq,f1,r1⟩
  ·rcases Zk4 (x:=x) l r (i+1) rs with ⟨h1,h2⟩ | ⟨j,u,y,e',kd,h1,h2,h3,h4,h5,h6⟩
   ·exact .inl ⟨by simp[fnd,hq,h1],by simp[ZpG,hq,h2]⟩
   ·exact .inr ⟨j+1,u,y,e',kd,by simp only[fnd,hq,Uk,h1];simp;omega,by simp[ZpG,hq,h2],h3,h4,by simpa using h5,h6⟩
theorem Zng {k v:Ty} {R:k.den->List Value->Prop} {Q:v.den->List Value->Prop} {ka va:Bool} {x:k.den} {y:v.den} {kv vv:Value} {born:Nat} (hk:ZeJ ka kv) (hR:R x kv.cells.toList) (hv:ZeJ va vv) (hQ:Q y vv.cells.toList) :
  ∀ (d:List (k.den×v.den)) (es:List MapEntry) (i:Nat),ZbN R Q ka va d es->fnd d x es i=none->ZbN R Q ka va (Zq7 k v d x y) (es++[⟨kv,vv,born⟩])
 | [],es,i,h,_=>by
  have:es=[]:=h;subst this;exact ⟨⟨kv,vv,born⟩,[],rfl,hk,hR,hv,hQ,rfl⟩
 | d::l,es,i,⟨e,r,e1,f1,r1,f2,r2,rs⟩,hf=>by
  subst e1;by_cases hq:keq k x d.1=true
  ·simp[fnd,hq] at hf
  ·simp only[fnd,Ug hq] at hf
   have:=Zng (born:=born) hk hR hv hQ l r (i+1) rs hf;simp only[Zq7,Ug hq];exact ⟨e,r++[⟨kv,vv,born⟩],rfl,f1,r1,f2,r2,this⟩
theorem Znh {k v:Ty} {R:k.den->List Value->Prop} {Q:v.den->List Value->Prop} {ka va:Bool} {x:k.den} {y:v.den} {kv vv:Value} (hk:ZeJ ka kv) (hR:R x kv.cells.toList) (hv:ZeJ va vv) (hQ:Q y vv.cells.toList) :
  ∀ (d:List (k.den×v.den)) (es:List MapEntry) (i j:Nat) (u:Value),ZbN R Q ka va d es->fnd d x es i=some (i+j,u)->ZbN R Q ka va (Zq7 k v d x y) (es.modify j λe=>{e with key:=kv,val:=vv})
 | [],es,i,j,u,h,hf=>by simp[fnd] at hf
 | d::l,es,i,j,u,⟨e,r,e1,f1,r1,f2,r2,rs⟩,hf=>by
  subst e1;by_cases hq:keq k x d.1=true
  ·simp only[fnd,hq,Um] at hf
   have:j=0:=by
    injection hf with hf
    injection hf with hf _
    omega
   subst this;simp only[Zq7,hq,Um,List.modify_zero_cons];exact ⟨_,r,rfl,hk,hR,hv,hQ,rs⟩
  ·simp only[fnd,Ug hq] at hf
   cases j with
   | zero =>
    rcases Zk4 (x:=x) l r (i+1) rs with ⟨h1,_⟩ | ⟨j',u',y',e',kd,h1,_⟩
    ·rw[h1] at hf;simp at hf
    ·rw[h1] at hf
     simp at hf;have:=hf.1;omega
   | succ j =>
    have:=Znh hk hR hv hQ l r (i+1) j u rs (by rw[show i+1+j=i+(j+1) by omega];exact hf);simp only[Zq7,Ug hq,List.modify_succ_cons];exact ⟨e,_,rfl,f1,r1,f2,r2,this⟩
section
variable {P:Program}
open Go.MapKept
theorem X8 {q:EqD} {o:Nat} {t:Ty} (h:Zj8 q o t=true):(q=.nil/\t=.unit)\/∃ k r t',q=.int k o r/\t=.pair (.int k) t'/\Zj8 r (o+1) t'=true:=by
 unfold Zj8 at h;split at h
 ·exact .inl ⟨rfl,rfl⟩
 ·simp only[Ul,Uq] at h
  obtain ⟨⟨rfl,rfl⟩,h⟩:=h;exact .inr ⟨_,_,_,rfl,rfl,h⟩
 ·cases h
theorem ZpA {S:Nat->Prop} {w:World}:∀ (q:EqD) (o:Nat) (t:Ty),Zj8 q o t=true->∀ (x y:t.den) (vs us:List Value),rep S w t x vs->rep S w t y us->keq t x y=true->vs=us/\∀ u∈vs,∃ k n,u=.int k n:=by
 intro q;induction q with
 | nil =>
  intro o t h x y vs us h1 h2 _;rcases X8 h with ⟨_,rfl⟩ | ⟨_,_,_,e,_⟩
  ·have h1:vs=[]:=h1
   have h2:us=[]:=h2;rw[h1,h2];simp
  ·cases e
 | int k o' r ih =>
  intro o t h x y vs us h1 h2 hq;rcases X8 h with ⟨e,_⟩ | ⟨k',r',t',e,rfl,hr⟩
  ·cases e
  ·injection e with e1 e2 e3
   subst e1;subst e2;subst e3;obtain ⟨v1,v2,e1,h1,h2'⟩:=h1;obtain ⟨u1,u2,e2,h3,h4⟩:=h2;simp only[keq,Ul,Uq] at hq;obtain ⟨a,b⟩:=ih _ t' hr x.2 y.2 v2 u2 h2' h4 hq.2;have h1:v1=[.int k x.1]:=h1;have h3:u1=[.int k y.1]:=h3;subst h1;subst h3;subst e1;subst e2;subst a;rw[hq.1];refine ⟨rfl,λu hu=>?_⟩;simp only[UR,Uv,Uo] at hu;rcases hu with rfl | hu
   ·exact ⟨_,_,rfl⟩
   ·exact b u hu
 | bool o' r ih=>intro o t h;rcases X8 h with ⟨e,_⟩ | ⟨_,_,_,e,_⟩<;>cases e
 | str o' r ih=>intro o t h;rcases X8 h with ⟨e,_⟩ | ⟨_,_,_,e,_⟩<;>cases e
 | st o' sz fs r ih1 ih2=>intro o t h;rcases X8 h with ⟨e,_⟩ | ⟨_,_,_,e,_⟩<;>cases e
theorem ZlX {S:Nat->Prop} {w:World} {n:Nat}:∀ (q:EqD) (o:Nat) (t:Ty) (fl:List Field),Zj8 q o t=true->q.fits P fl=true->∀ (x y:t.den) (p1 p2 vs us:List Value),p1.length=o->p2.length=o->rep S w t x vs->rep S w t y us->∀ w',
  (Op.eqFields (n+1) (p1++vs).toArray (p2++us).toArray fl).run P w'=.ok (keq t x y) w':=by
 intro q;induction q with
 | nil =>
  intro o t fl h hf x y p1 p2 vs us l1 l2 h1 h2 w';rcases X8 h with ⟨_,rfl⟩ | ⟨_,_,_,e,_⟩
  ·simp only[EqD.fits,Kp] at hf
   subst hf;rfl
  ·cases e
 | int k o' r ih =>
  intro o t fl h hf x y p1 p2 vs us l1 l2 h1 h2 w';rcases X8 h with ⟨e,_⟩ | ⟨k',r',t',e,rfl,hr⟩
  ·cases e
  ·injection e with e1 e2 e3
   subst e1;subst e2;subst e3;cases fl with
   | nil=>simp[EqD.fits] at hf
   | cons f fl =>
    simp only[EqD.fits,Ul,bne_iff_ne,UU] at hf;obtain ⟨⟨⟨f1,f2⟩,f3⟩,f4⟩:=hf;obtain ⟨v1,v2,e1,h1,h2'⟩:=h1;obtain ⟨u1,u2,e2,h3,h4⟩:=h2;have h1:v1=[.int k x.1]:=h1;have h3:u1=[.int k y.1]:=h3;subst h1;subst h3;subst e1;subst e2;have hty:=Ze9 f3;have ih':=ih _ t' fl hr f4 x.2 y.2 (p1++[.int k x.1]) (p2++[.int k y.1]) v2 u2 (by simp[l1]) (by simp[l2]) h2' h4 w';simp only[Uj] at ih';refine Za8 f1 (Zbl hty rfl (v:=.int k x.1) ?_ w') (Zbl hty rfl (v:=.int k y.1) ?_ w') (by rw[run_equalIn_int w' n f.type k k x.1 y.1 hty,VX];rfl) ih'
    ·rw[f2,<-l1];simp
    ·rw[f2,<-l2];simp
 | bool o' r ih=>intro o t fl h;rcases X8 h with ⟨e,_⟩ | ⟨_,_,_,e,_⟩<;>cases e
 | str o' r ih=>intro o t fl h;rcases X8 h with ⟨e,_⟩ | ⟨_,_,_,e,_⟩<;>cases e
 | st o' sz fs r ih1 ih2=>intro o t fl h;rcases X8 h with ⟨e,_⟩ | ⟨_,_,_,e,_⟩<;>cases e
theorem Zie {T:TypeId} {k:IntKind} (h:P.underlying T=some (.int k)) (em:Bool) (n:Nat) (k':IntKind) (a:Int) (w:World):(Instr.checkKey em (n+1) T (.int k' a)).run P w=.ok () w:=by
 unfold Instr.checkKey;simp only[Sem.run_bind,run_underlying h,Result.andThen_ok];rfl
theorem ZpB {T:TypeId} {fs:Array Field} (hu:P.underlying T=some (.struct fs)) (em:Bool) {S:Nat->Prop} {w0:World} {q:EqD} {t:Ty} (hq:Zj8 q 0 t=true) (hf:q.fits P fs.toList=true) (n:Nat) {x:t.den} {vs:List Value} (hr:rep S w0 t x vs) (w:World) :
  (Instr.checkKey em (n+2) T (.agg vs.toArray)).run P w=.ok () w:=by
 rw[show n+2=(n+1)+1 from rfl,Instr.checkKey];simp only[Sem.run_bind,run_underlying hu,Result.andThen_ok];rw[<-Array.forIn_toList];generalize fs.toList=L at hf;have gen:∀ (q:EqD) (o:Nat) (t:Ty) (L:List Field),Zj8 q o t=true->q.fits P L=true->∀ (x:t.den) (pre us:List Value),pre.length=o->pre++us=vs->rep S w0 t x us->
   (forIn L PUnit.unit λf r=>do
    if f.name≠ "_" then do
     let v <-part f.type vs.toArray f.offset
     Instr.checkKey em (n+1) f.type v
     pure (ForInStep.yield PUnit.unit)
    else pure (ForInStep.yield PUnit.unit):Sem PUnit).run P w=.ok () w:=by
  intro q;induction q with
  | nil =>
   intro o t L h hf x pre us _ _ _;rcases X8 h with ⟨_,rfl⟩ | ⟨_,_,_,e,_⟩
   ·simp only[EqD.fits,Kp] at hf
    subst hf;simp
   ·cases e
  | int k o' r ih =>
   intro o t L h hf x pre us hl he hr;rcases X8 h with ⟨e,_⟩ | ⟨k',r',t',e,rfl,hr'⟩
   ·cases e
   ·injection e with e1 e2 e3
    subst e1;subst e2;subst e3;cases L with
    | nil=>simp[EqD.fits] at hf
    | cons f L =>
     simp only[EqD.fits,Ul,bne_iff_ne,UU] at hf;obtain ⟨⟨⟨f1,f2⟩,f3⟩,f4⟩:=hf;obtain ⟨v1,v2,e1,h1,h2'⟩:=hr;have h1:v1=[.int k x.1]:=h1;subst h1;subst e1;have hty:=Ze9 f3;have p1:=Zbl (P:=P) hty rfl (cs:=vs.toArray) (o:=f.offset) (v:=.int k x.1) (by rw[f2,<-hl,<-he];simp) w;have p2:=Zie (P:=P) hty em n k x.1 w;have ih':=ih _ t' L hr' f4 x.2 (pre++[.int k x.1]) v2 (by simp[hl]) (by rw[<-he];simp) h2';simp only[List.forIn_cons,Sem.run_bind,f1,ne_eq,not_false_eq_true,Um,Result.andThen_ok,p1,p2,Sem.run_pure];exact ih'
  | bool o' r ih=>intro o t L h;rcases X8 h with ⟨e,_⟩ | ⟨_,_,_,e,_⟩<;>cases e
  | str o' r ih=>intro o t L h;rcases X8 h with ⟨e,_⟩ | ⟨_,_,_,e,_⟩<;>cases e
  | st o' sz fs r ih1 ih2=>intro o t L h;rcases X8 h with ⟨e,_⟩ | ⟨_,_,_,e,_⟩<;>cases e
 exact (congrArg (λr=>Result.andThen r _) (gen q 0 t L hq hf x [] vs rfl rfl hr)).trans rfl
structure Zm4 (P:Program) (T:TypeId) (t:Ty):Prop where
 check:∀ (S:Nat->Prop) (w0:World) (x:t.den) (v:Value),ZeJ t.agg v->rep S w0 t x v.cells.toList->∀ (em:Bool) (w:World),(Instr.checkKey em 10000 T v).run P w=.ok () w
 find:∀ (S:Nat->Prop) (w0:World) (x:t.den) (v:Value),ZeJ t.agg v->rep S w0 t x v.cells.toList->∀ (u:Ty) (Q:u.den->List Value->Prop) (va:Bool) (d:List (t.den×u.den)) (es:List MapEntry),ZbN (rep S w0 t) Q t.agg va d es->∀ (w:World),(Instr.findKey T v es).run P w=.ok (fnd d x es 0) w
 stays:∀ (S:Nat->Prop) (w0:World) (x y:t.den) (v v':Value),ZeJ t.agg v->rep S w0 t x v.cells.toList->ZeJ t.agg v'->rep S w0 t y v'.cells.toList->keq t x y=true->∀ (w:World),(Instr.keyThatStays v' v).run P w=.ok v w
theorem Zn4 {T:TypeId} {k:IntKind} (h:P.underlying T=some (.int k)):Zm4 P T (.int k) where
 check S w0 x v hf hr em w:=by
  have hc:=hf.2 rfl;rw[hc] at hr;have hr:[v]=[.int k x]:=hr;simp at hr;subst hr;exact Zie h em 9999 k x w
 find S w0 x v hf hr u Q va d es he w:=by
  have hc:=hf.2 rfl;rw[hc] at hr;have hr:[v]=[.int k x]:=hr;simp at hr;subst hr;have gen:∀ (d:List (Int×u.den)) (es:List MapEntry) (i:Nat),ZbN (rep S w0 (.int k)) Q false va d es->Instr.findNow (.int k) (.int k x) es i=some (fnd (k:=.int k) d x es i):=by
   intro d;induction d with
   | nil =>
    intro es i he;have:es=[]:=he;subst this;rfl
   | cons d l ih =>
    rintro es i ⟨e,r,rfl,f1,r1,f2,r2,rs⟩;have hc1:=f1.2 rfl;rw[hc1] at r1;have r1:[e.key]=[.int k d.1]:=r1;simp at r1;by_cases hq:x=d.1
    ·simp[Instr.findNow,r1,Instr.sameNow,fnd,keq,hq]
    ·have hb:(x == d.1)=false:=by rw[VX];simp[hq]
     simp[Instr.findNow,r1,Instr.sameNow,fnd,keq,hq,ih r (i+1) rs,hb]
  have:=gen d es 0 he;unfold Instr.findKey;rw[Sem.run_bind,run_underlying h,Result.andThen_ok,this];rfl
 stays S w0 x y v v' hf hr hf' hr' hq w:=by
  have hc:=hf.2 rfl;rw[hc] at hr;have hr:[v]=[.int k x]:=hr;simp at hr;subst hr;have hc':=hf'.2 rfl;rw[hc'] at hr';have hr':[v']=[.int k y]:=hr';simp at hr';subst hr';simp only[keq,Uq] at hq;subst hq;simp[Instr.keyThatStays,Instr.sameBits]
theorem Zpz {T:TypeId} {ti:TI} (h:Zaw P T ti) {t:Ty} (hk:ti.kind=.st) (hn:ti.eqd.isNil=false) (hq:Zj8 ti.eqd 0 t=true):Zm4 P T t:=by
 have he:=h.eqd;simp only[hn,Bool.false_or] at he;split at he
 ·rename_i fs hT
  simp only[Ul,UH] at he;obtain ⟨⟨e1,e2⟩,e3⟩:=he;have hagg:t.agg=true:=by
   rcases X8 hq with ⟨_,rfl⟩ | ⟨_,_,_,_,rfl,_⟩<;>rfl
  have hfo:P.fieldsOf T=fs:=by simp[Program.fieldsOf,hT]
  have heq:∀ (S:Nat->Prop) (w0:World) (x y:t.den) (vs us:List Value),rep S w0 t x vs->rep S w0 t y us->∀ w,(Op.equal T (.agg vs.toArray) (.agg us.toArray)).run P w=.ok (keq t x y) w:=by
   intro S w0 x y vs us h1 h2 w;show (Op.equalIn (9999+1) T _ _).run P w=_;rw[run_equalIn_struct w 9999 T _ _ (by rw[hfo];exact hT) e1,hfo];exact ZlX (n:=9998) ti.eqd 0 t fs.toList hq e2 x y [] [] vs us rfl rfl h1 h2 w
  have toA:∀ (v:Value),ZeJ t.agg v->v=.agg v.cells.toList.toArray:=by
   intro v hf;obtain ⟨cs,rfl⟩:=hf.1 hagg;simp[Value.cells]
  refine ⟨λS w0 x v hf hr em w=>?_,λS w0 x v hf hr u Q va d es hes w=>?_,λS w0 x y v v' hf hr hf' hr' hxy w=>?_⟩
  ·rw[toA v hf]
   exact ZpB hT em hq e2 9998 hr w
  ·rw[toA v hf]
   have gen:∀ (d:List (t.den×u.den)) (es:List MapEntry) (i:Nat),ZbN (rep S w0 t) Q t.agg va d es->(Instr.findAsking T (.agg v.cells.toList.toArray) es i).run P w=.ok (fnd d x es i) w:=by
    intro d;induction d with
    | nil =>
     intro es i he;have:es=[]:=he;subst this;rfl
    | cons d l ih =>
     rintro es i ⟨e,r,rfl,f1,r1,f2,r2,rs⟩;have:=heq S w0 x d.1 _ _ hr r1 w;rw[<-toA e.key f1] at this;simp only[Instr.findAsking,Sem.run_bind,this,Result.andThen_ok,fnd];by_cases hq:keq t x d.1=true
     ·simp[hq]
     ·simp only[hq]
      exact ih r (i+1) rs
   unfold Instr.findKey;rw[Sem.run_bind,run_underlying hT,Result.andThen_ok];cases es with
   | nil =>
    cases d with
    | nil=>rfl
    | cons=>obtain ⟨_,_,e,_⟩:=hes;cases e
   | cons e r=>exact gen d (e::r) 0 hes
  ·obtain ⟨a,b⟩:=ZpA ti.eqd 0 t hq x y _ _ hr hr' hxy
   rw[toA v hf,toA v' hf',<-a];have hs:Instr.sameBits 10000 (.agg v.cells.toList.toArray) (.agg v.cells.toList.toArray)=true:=by
    show Instr.sameBits (9999+1) _ _=true;simp only[Instr.sameBits,beq_self_eq_true,Bool.true_and,U6];intro p hp;obtain ⟨i,hi⟩:=Uu.1 hp;rw[List.getElem?_zip_eq_some] at hi;have:p.1=p.2:=by
     have:=hi.1.symm.trans hi.2;simpa using this
    obtain ⟨k,m,hkm⟩:=b p.1 (Ui hi.1);rw[<-this,hkm];simp[Instr.sameBits]
   unfold Instr.keyThatStays;rw[Uf hs];rfl
 ·cases he
theorem ZlW {T:TypeId} {ti:TI} (h:Zaw P T ti) {t:Ty} (hk:ZqT ti t=true):Zm4 P T t:=by
 unfold ZqT at hk;split at hk
 ·rename_i k hkd
  simp only[Uq] at hk;subst hk;exact Zn4 (h.intOf hkd)
 ·rename_i hkd
  simp only[Ul,UH,Uq] at hk;exact Zpz h hkd hk.1.1 hk.2
 ·cases hk
def SV.isA:SV->Bool
 | .agg _=>true
 | _=>false
theorem Zpw {E:Env} {s:SV} {v:Value} (h:den E s v) (hw:s.whole=true) {b:Bool} (hb:b=s.isA):ZeJ b v:=by
 subst hb;constructor
 ·intro ha
  cases s<;>simp[SV.isA] at ha
  simp only[den] at h;obtain ⟨vs,e,_⟩:=h;exact ⟨_,e⟩
 ·intro ha
  have h1:s.one=true:=by cases s<;>simp_all[SV.isA,SV.whole,SV.one]
  exact (Zfd h h1).1
def ZuG (t:Ty) (cs:List SV) (K:SV->Prop):Prop :=
 if t.agg=true then K (.agg cs) else match cs with
  | c::_=>K c
  | []=>False
theorem ZrY {E:Env} {t:Ty} {v:Value} (hf:ZeJ t.agg v) {cs:List SV} (hd:Z6 E cs v.cells.toList) {K:SV->Prop} (hk:ZuG t cs K):∃ s,den E s v/\K s:=by
 obtain ⟨h1,h2⟩:=hf;unfold ZuG at hk;split at hk
 ·rename_i ha
  obtain ⟨cs,rfl⟩:=h1 ha;exact ⟨.agg _,by simp only[den];exact ⟨cs.toList,by simp,hd⟩,hk⟩
 ·rename_i ha
  have hv:=h2 (by simpa using ha);split at hk
  ·rename_i c r
   rw[hv] at hd;simp only[Z6] at hd;exact ⟨c,hd.1,hk⟩
  ·exact hk.elim
def Zrx (b:Bool):Value->Bool
 | .agg _=>b
 | _=>!b
theorem Zry {b:Bool} {v:Value} (h:Zrx b v=true):ZeJ b v:=by
 cases b
 ·refine ⟨λh=>(by cases h),λ_=>?_⟩
  cases v<;>first | rfl | (simp[Zrx] at h)
 ·refine ⟨λ_=>?_,λh=>(by cases h)⟩
  cases v<;>first | exact ⟨_,rfl⟩ | (simp[Zrx] at h)
def ZuO (s:SV) (H:List Entry) (K:(k v:Ty)->List (k.den×v.den)->Prop):Prop :=
 match s with
 | .mp k v d=>K k v d
 | .mown id=>Zdz H id λe=>match e with
  | .mpe k v d=>K k v d
  | .frm k v d=>K k v d
  | _=>False
 | _=>False
def MapAt (E:Env) (x:Value) (k v:Ty) (d:List (k.den×v.den)):Prop :=
 (d=[]/\x=.map none)\/∃ b es clk,x=.map (some b)/\E.w.heap[b]?=some (.map es clk)/\ZbN (rep E.S E.w k) (rep E.S E.w v) k.agg v.agg d es.toList
theorem Zsf {B:Base} {E:Env} {H:List Entry} (hI:Inv B E H) {s:SV} {x:Value} (hs:den E s x) {K:(k v:Ty)->List (k.den×v.den)->Prop} (hk:ZuO s H K):∃ k v d,MapAt E x k v d/\K k v d:=by
 have data:∀ (k v:Ty) (d:List (k.den×v.den)),rep E.S E.w (.mp k v) d [x]->MapAt E x k v d:=by
  intro k v d h;rcases h with ⟨h1,h2⟩ | ⟨b,es,clk,h1,_,h2,h3⟩
  ·simp at h2;exact .inl ⟨h1,h2⟩
  ·simp at h1;exact .inr ⟨b,es,clk,h1,h2,h3⟩
 unfold ZuO at hk;split at hk
 ·rename_i k v d
  simp only[den] at hs;exact ⟨k,v,d,data k v d hs,hk⟩
 ·rename_i id
  obtain ⟨e,he,hk⟩:=Yx H hk;simp only[den] at hs;split at hk
  ·rename_i k v d
   obtain ⟨b,es,clk,h1,h2,h3⟩:=hI.ent id _ he;have:=hs.1.symm.trans h1;simp at this;subst this;exact ⟨k,v,d,.inr ⟨b,es,clk,rfl,h2,h3⟩,hk⟩
  ·rename_i k v d
   obtain ⟨u,h1,h2⟩:=hI.ent id _ he;have:=hs.1.symm.trans h1;simp at this;subst this;exact ⟨k,v,d,data k v d h2,hk⟩
  ·exact hk.elim
 ·exact hk.elim
def ZmJ (Δ:Tab) (ti:TI) (x i:SV) (ok:Bool) (H:List Entry) (K:SV->Prop):Prop :=
 match ti.kind with
 | .mp kt et=>Zao Δ kt λtk=>Zao Δ et λte=>ZuO x H λk v d =>
  if i.whole=true/\k.agg=i.isA/\ZqT tk k=true/\Zrx v.agg te.zero=true then YS k i.cells λkey r1=>match r1 with
   | []=>ZjY te.zero λzc=>YS v zc λz r2=>match r2 with
    | []=>XG v ((ZpG k v d key).getD z) λcs=>ZuG v cs λs=>if ok=true then K (.tup [s,.bool (ZpG k v d key).isSome]) else K s
    | _=>False
   | _=>False
  else False
 | _=>False
theorem Zaw.map {T:TypeId} {ti:TI} (h:Zaw P T ti) {kt et:TypeId} (hk:ti.kind=.mp kt et):P.underlying T=some (.map kt et):=by
 obtain ⟨d,hd,hk'⟩:=h.get;rw[hk] at hk';cases d<;>simp[Zoz] at hk'
 obtain ⟨rfl,rfl⟩:=hk';exact hd
theorem ZiQ {E:Env} {vs:List Value} (h:Z6 E [] vs):vs=[]:=by
 cases vs with
 | nil=>rfl
 | cons=>simp[Z6] at h
theorem Zn9 {T kt et:TypeId} (hT:P.underlying T=some (.map kt et)) {k:Ty} (KR:Zm4 P kt k) {z:Value} (hz:∀ w,(zeroValue et).run P w=.ok z w) {E:Env} {x:Value} {v:Ty} {d:List (k.den×v.den)} (hm:MapAt E x k v d)
  {i:Value} {key:k.den} (hif:ZeJ k.agg i) (hir:rep E.S E.w k key i.cells.toList) (ok:Bool) :
  ∃ es,ZbN (rep E.S E.w k) (rep E.S E.w v) k.agg v.agg d es/\(Instr.lookup T x i ok).run P E.w=.ok (if ok=true then .tuple #[((fnd d key es 0).map (·.2)).getD z,.bool (fnd d key es 0).isSome] else ((fnd d key es 0).map (·.2)).getD z) E.w:=by
 have fin:∀ (es:Array MapEntry),ZbN (rep E.S E.w k) (rep E.S E.w v) k.agg v.agg d es.toList->((do
   Instr.checkKey es.isEmpty 10000 kt i
   let (v,okk) <-match <-Instr.findKey kt i es.toList with
    | some (_,v)=>pure (v,true)
    | none=>pure (<-zeroValue et,false)
   pure (if ok then .tuple #[v,.bool okk] else v):Sem Value)).run P E.w=.ok (if ok=true then .tuple #[((fnd d key es.toList 0).map (·.2)).getD z,.bool (fnd d key es.toList 0).isSome] else ((fnd d key es.toList 0).map (·.2)).getD z) E.w:=by
  intro es he;have h1:=KR.check _ _ key i hif hir es.isEmpty E.w;have h2:=KR.find _ _ key i hif hir v _ _ d es.toList he E.w;simp only[Sem.run_bind,h1,h2,Result.andThen_ok];cases fnd d key es.toList 0 with
  | none=>simp[hz]
  | some p=>simp
 rcases hm with ⟨rfl,rfl⟩ | ⟨b,es,clk,rfl,hb,he⟩
 ·refine ⟨[],rfl,?_⟩
  have:=fin #[] rfl;unfold Instr.lookup;simp only[Sem.run_bind,run_underlying hT,Result.andThen_ok,Sem.run_pure] at this ⊢;exact this
 ·refine ⟨es.toList,he,?_⟩
  have:=fin es he;unfold Instr.lookup;simp only[Sem.run_bind,run_underlying hT,Result.andThen_ok,Sem.run_pure,Go.MapKept.run_getObj_map hb] at this ⊢;exact this
theorem Zn8 {Δ:Tab} (hΔ:Δ.ok P) {B:Base} {E:Env} {H:List Entry} (hI:Inv B E H) {T:TypeId} {ti:TI} (h:Zaw P T ti) {x i:SV} {vx vi:Value} (hx:den E x vx) (hi:den E i vi) {ok:Bool} {K:SV->Prop} (hk:ZmJ Δ ti x i ok H K) :
  ∃ u s,(Instr.lookup T vx vi ok).run P E.w=.ok u E.w/\den E s u/\K s:=by
 unfold ZmJ at hk;split at hk
 ·rename_i kt et hkd
  obtain ⟨tk,htk,hk⟩:=YI Δ hΔ hk;obtain ⟨te,hte,hk⟩:=YI Δ hΔ hk;obtain ⟨k,v,d,hm,hk⟩:=Zsf hI hx hk;split at hk
  ·rename_i hc
   obtain ⟨c1,c2,c3,c4⟩:=hc;have hif:=Zpw hi c1 c2;obtain ⟨key,r1,v1,v2,e1,hkr,hr1,hk⟩:=YK k _ _ _ (QM hi c1) hk;split at hk
   ·have:=ZiQ hr1
    subst this;rw[Up] at e1;subst e1;obtain ⟨zc,hzc,hk⟩:=Zc6 E _ _ hk;obtain ⟨z,r2,z1,z2,e2,hzr,hr2,hk⟩:=YK v _ _ _ hzc hk;split at hk
    ·have:=ZiQ hr2
     subst this;rw[Up] at e2;subst e2;obtain ⟨inf,hinf,_,_,hz0⟩:=hte.info';have hz:∀ w,(zeroValue et).run P w=.ok te.zero w:=λw=>by simp[zeroValue,typeInfo,hinf,hz0]
     obtain ⟨es,he,hrun⟩:=Zn9 (h.map hkd) (ZlW htk c3) hz hm hif hkr ok;rw[YW] at hk;have val:∃ u,((fnd d key es 0).map (·.2)).getD te.zero=u/\ZeJ v.agg u/\rep E.S E.w v ((ZpG k v d key).getD z) u.cells.toList/\(fnd d key es 0).isSome=(ZpG k v d key).isSome:=by
      rcases Zk4 (x:=key) d es 0 he with ⟨h1,h2⟩ | ⟨j,u,y,e,kd,h1,h2,h3,h4,_⟩
      ·exact ⟨te.zero,by rw[h1];rfl,Zry c4,by rw[h2];exact hzr,by rw[h1,h2];rfl⟩
      ·exact ⟨u,by rw[h1];rfl,h3,by rw[h2];exact h4,by rw[h1,h2];rfl⟩
     obtain ⟨u,hu,hf,hr,hs⟩:=val;rw[hu,hs] at hrun;obtain ⟨s,hs1,hk⟩:=ZrY hf (YJ v _ _ hr) hk;cases ok
     ·simp only[UN,Uk] at hk hrun
      exact ⟨_,s,hrun,hs1,hk⟩
     ·simp only[Um] at hk hrun
      refine ⟨_,_,hrun,?_,hk⟩;simp only[den];exact ⟨[u,.bool (ZpG k v d key).isSome],rfl,hs1,by simp only[den],trivial⟩
    ·exact hk.elim
   ·exact hk.elim
  ·exact hk.elim
 ·exact hk.elim
def Zm1 (Δ:Tab) (ti:TI) (x i y:SV) (H:List Entry) (K:List Entry->Prop):Prop :=
 match ti.kind,x with
 | .mp kt et,.mown id=>Zao Δ kt λtk=>Zdz H id λe=>match e with
  | .mpe k v d=>if i.whole=true/\k.agg=i.isA/\ZqT tk k=true/\y.whole=true/\v.agg=y.isA then YS k i.cells λkey r1=>match r1 with
   | []=>YS v y.cells λval r2=>match r2 with
    | []=>Zea H id (.mpe k v (Zq7 k v d key val)) K
    | _=>False
   | _=>False
   else False
  | _=>False
 | _,_=>False
theorem grownBy_set {w:World} {b:Nat} {o o':Obj} (hb:w.heap[b]?=some o):w.grownBy {w with heap:=w.heap.setIfInBounds b o'} (some b) :=
 ⟨rfl,rfl,rfl,by simp,λi _ hi=>(Go.MapKept.heap_set hb).2 i (λe=>hi (by rw[e]))⟩
theorem Zot {Δ:Tab} (hΔ:Δ.ok P) {B:Base} {E:Env} {H:List Entry} (hI:Inv B E H) {T:TypeId} {ti:TI} (h:Zaw P T ti) {x i y:SV} {vx vi vy:Value} (hx:den E x vx) (hi:den E i vi) (hy:den E y vy) {K:List Entry->Prop} (hk:Zm1 Δ ti x i y H K) :
  ∃ E' H',(Instr.mapUpdate T vx vi vy).run P E.w=.ok () E'.w/\Inv B E' H'/\E.le E'/\K H':=by
 unfold Zm1 at hk;split at hk
 ·rename_i kt et id hkd
  obtain ⟨tk,htk,hk⟩:=YI Δ hΔ hk;obtain ⟨e,he,hk⟩:=Yx H hk;split at hk
  ·rename_i k v d
   split at hk
   ·rename_i hc
    obtain ⟨c1,c2,c3,c4,c5⟩:=hc;have hif:=Zpw hi c1 c2;have hyf:=Zpw hy c4 c5;obtain ⟨key,r1,v1,v2,e1,hkr,hr1,hk⟩:=YK k _ _ _ (QM hi c1) hk;split at hk
    ·have:=ZiQ hr1
     subst this;rw[Up] at e1;subst e1;obtain ⟨val,r2,z1,z2,e2,hvr,hr2,hk⟩:=YK v _ _ _ (QM hy c4) hk;split at hk
     ·have:=ZiQ hr2
      subst this;rw[Up] at e2;subst e2;rw[YH] at hk;obtain ⟨b,es,clk,h1,hb,hes⟩:=hI.ent id _ he;simp only[den] at hx;have hid:=hx.1;have:=hx.1.symm.trans h1;simp at this;subst this;have KR:=ZlW htk c3;have hT:=h.map hkd;have k1:=KR.check _ _ key vi hif hkr false E.w;have k2:=KR.find _ _ key vi hif hkr v _ _ d es.toList hes E.w;have fin:∀ (es':Array MapEntry) (clk':Nat),(Instr.mapUpdate T (.map (some b)) vi vy).run P E.w=.ok () {E.w with heap:=E.w.heap.setIfInBounds b (.map es' clk')}->
        ZbN (rep E.S E.w k) (rep E.S E.w v) k.agg v.agg (Zq7 k v d key val) es'.toList->∃ E' H',(Instr.mapUpdate T (.map (some b)) vi vy).run P E.w=.ok () E'.w/\Inv B E' H'/\E.le E'/\K H':=by
       intro es' clk' hrun hes';have hg:=grownBy_set (w:=E.w) (o':=.map es' clk') hb;have hnS:¬E.S b:=(hI.free id _ (.map (some b)) b he rfl hid rfl).1;have hle:=Zba hg hI.Slt (λg e=>by simp at e;subst e;exact hnS);refine ⟨⟨E.S,_,E.ids⟩,_,hrun,hI.write he rfl hid hg (.mpe k v (Zq7 k v d key val)) ?_,hle,hk⟩;exact ⟨b,es',clk',hid,(Go.MapKept.heap_set hb).1,Jt (λd vs=>Yd hle.S hle.w k d vs) (λd vs=>Yd hle.S hle.w v d vs) _ _ hes'⟩
      have unf:(Instr.mapUpdate T (.map (some b)) vi vy).run P E.w=(match fnd d key es.toList 0 with
        | some (j,_)=>(do
          let key' <-Instr.keyThatStays ((es[j]?.map MapEntry.key).getD vi) vi
          setObj b (.map (es.modify j λe=>{e with key:=key',val:=vy}) clk):Sem Unit)
        | none=>setObj b (.map (es.push {key:=vi,val:=vy,born:=clk}) (clk+1))).run P E.w:=by
       unfold Instr.mapUpdate;simp only[Sem.run_bind,run_underlying hT,Result.andThen_ok,Go.MapKept.run_getObj_map hb,k1,k2];cases fnd d key es.toList 0 with
       | none=>rfl
       | some p=>rfl
      rcases Zk4 (x:=key) d es.toList 0 hes with ⟨f1,f2⟩ | ⟨j,u,y',e',kd,f1,f2,f3,f4,f5,f6,f7,f8⟩
      ·refine fin (es.push ⟨vi,vy,clk⟩) (clk+1) ?_ ?_
       ·rw[unf,f1]
        exact Go.MapKept.run_setObj_map _ hb
       ·rw[Array.toList_push]
        exact Zng hif hkr hyf hvr d es.toList 0 hes f1
      ·have f5':es[j]?=some e':=by simpa using f5
       refine fin (es.modify j λe=>{e with key:=vi,val:=vy}) clk ?_ ?_
       ·rw[unf,f1]
        have:=KR.stays _ _ key kd vi e'.key hif hkr f7 f8 f6 E.w;simp only[UB,f5',Option.map_some,Option.getD_some,Sem.run_bind,this,Result.andThen_ok];exact Go.MapKept.run_setObj_map _ hb
       ·rw[Array.toList_modify]
        exact Znh hif hkr hyf hvr d es.toList 0 j u hes f1
     ·exact hk.elim
    ·exact hk.elim
   ·exact hk.elim
  ·exact hk.elim
 ·exact hk.elim
def Zlb (ti:TI) (H:List Entry) (K:SV->List Entry->Prop):Prop :=
 match ti.kind with
 | .mp _ _=>Zmp H 0 λn=>ZkW H [.mpe ti.ty ti.ety []] λH'=>K (.mown n) H'
 | _=>False
theorem ZmK {B:Base} {E:Env} {H:List Entry} (hI:Inv B E H) {T:TypeId} {ti:TI} (h:Zaw P T ti) {K:SV->List Entry->Prop} (hk:Zlb ti H K) :
  ∃ u E' H' s,(Instr.makeMap T none).run P E.w=.ok u E'.w/\Inv B E' H'/\E.le E'/\den E' s u/\K s H'/\Grow E.w E'.w:=by
 unfold Zlb at hk;split at hk
 ·rw[Jy,Vz,UB] at hk
  have hle:=ZkV hI (.map #[] 0) (.map (some E.w.heap.size));have hid:(E.ids++[Value.map (some E.w.heap.size)])[H.length]?=some (.map (some E.w.heap.size)):=by
   rw[<-hI.len];simp
  refine ⟨.map (some E.w.heap.size),⟨E.S,E.w.alloc (.map #[] 0),E.ids++[.map (some E.w.heap.size)]⟩,_,_,?_,hI.alloc (.map #[] 0) _ _ rfl ?_,hle,?_,hk,JO _ _⟩
  ·simp[Instr.makeMap]
  ·exact ⟨_,#[],0,hid,Go.heap_alloc_new _ _,rfl⟩
  ·simp only[den]
   exact ⟨hid,_,rfl⟩
 ·exact hk.elim
end
section
variable {P:Program}
def Zn1 (regs:List SV):List Operand->(List SV->Prop)->Prop
 | [],K=>K []
 | x::r,K=>QD regs x λs=>Zn1 regs r λl=>K (s::l)
theorem ZgA {E:Env} {regs:List SV} {a:Act} (hd:Z6 E regs a.tmps.toList):∀ (xs:List Operand) {K:List SV->Prop},Zn1 regs xs K->∃ l,Z6 E l (xs.map a.eval)/\K l
 | [],K,h=>⟨[],trivial,h⟩
 | x::r,K,h=>by
  obtain ⟨s,hs,h⟩:=Yg hd h;obtain ⟨l,hl,h⟩:=ZgA hd r h;exact ⟨s::l,⟨hs,hl⟩,h⟩
def SV.Zr8:SV->Bool
 | .ptr _ _=>true
 | .oep _ _ _ _=>true
 | .fptr _=>true
 | .fn _ _=>true
 | _=>false
theorem ZmO {E:Env} {s:SV} {v:Value} (h:den E s v) (hp:s.Zr8=true) :
  (∃ a,v=.pointer (some a))\/∃ f cs,v=.func (.func f) #[] cs:=by
 cases s<;>simp[SV.Zr8] at hp<;>simp only[den] at h
 case ptr=>obtain ⟨b,_,e⟩:=h;exact .inl ⟨_,e⟩
 case oep=>obtain ⟨b,bo,n,c,_,e⟩:=h;exact .inl ⟨_,e⟩
 case fptr=>obtain ⟨p,vs,e,_⟩:=h;exact .inl ⟨_,e⟩
 case fn=>obtain ⟨vs,e,_⟩:=h;exact .inr ⟨_,_,e⟩
def Zo7 (s:SV) (K:SV->Prop):Prop :=
 match s with
 | .nptr t d=>∃ x,d=some x/\XG t x λcs=>K (.fptr cs)
 | s=>K s
theorem Zo8 {E:Env} {s:SV} {v:Value} (hs:den E s v) {K:SV->Prop} (hk:Zo7 s K):∃ s',den E s' v/\K s':=by
 unfold Zo7 at hk;split at hk
 ·rename_i t d
  obtain ⟨x,rfl,hk⟩:=hk;rw[YW] at hk;refine ⟨_,?_,hk⟩;simp only[den] at hs ⊢;rcases hs with ⟨e,_⟩ | ⟨x',p,xs,e,e2,hp,hS,hc,hr⟩
  ·cases e
  ·injection e with e;subst e
   simp at e2;subst e2;exact ⟨p,xs,rfl,hp,hS,hc,YJ t _ _ hr⟩
 ·exact ⟨s,hs,hk⟩
def ZrR (Δ:Tab) (op:BinOp) (T:TypeId) (sx sy:SV) (K:SV->Prop):Prop :=
 match sx,sy with
 | .agg xs,.agg ys=>Zao Δ T λti=>eqK op ti (.agg xs) (.agg ys) K
 | .bool x,sy=>Zao Δ T λti=>eqK op ti (.bool x) sy K
 | .blit x,sy=>Zao Δ T λti=>eqK op ti (.blit x) sy K
 | sx,.nilp=>Zao Δ T λti=>if ZfS ti.kind=true then ZtT op ti sx K else False
 | sx,.nsl=>Zao Δ T λti=>if ZlV ti.kind=true then ZtT op ti sx K else False
 | sx,sy=>Zt5 op sx sy K
theorem Zqy {Δ:Tab} (hΔ:Δ.ok P) {E:Env} {op:BinOp} {T:TypeId} {x y:SV} {K:SV->Prop} (h:ZrR Δ op T x y K) {u v:Value} (hu:den E x u) (hv:den E y v) (ox oy:Operand) :
  ∃ r s,(∀ w,((do eqGuard op T ox oy u v;binOp op T u v:Sem Value)).run P w=.ok r w)/\den E s r/\K s:=by
 unfold ZrR at h;split at h
 ·obtain ⟨ti,ht,h⟩:=YI Δ hΔ h;exact Zpa ht h hu hv ox oy
 ·obtain ⟨ti,ht,h⟩:=YI Δ hΔ h;exact Zpa ht h hu hv ox oy
 ·obtain ⟨ti,ht,h⟩:=YI Δ hΔ h;exact Zpa ht h hu hv ox oy
 ·obtain ⟨ti,ht,h⟩:=YI Δ hΔ h
  split at h
  ·rename_i hq
   exact ZpH ht (.inl rfl) h ⟨λ_=>rfl,λhs=>by cases hk:ti.kind<;>rw[hk] at hq hs<;>simp[ZfS,ZlV] at hq hs⟩ hu hv ox oy
  ·exact h.elim
 ·obtain ⟨ti,ht,h⟩:=YI Δ hΔ h
  split at h
  ·rename_i hq
   exact ZpH ht (.inr rfl) h ⟨λhs=>by cases hk:ti.kind<;>rw[hk] at hq hs<;>simp[ZfS,ZlV] at hq hs,λ_=>rfl⟩ hu hv ox oy
  ·exact h.elim
 ·exact ZrS h hu hv T ox oy
def opK (Δ:Tab) (regs:List SV) (H:List Entry) (op:Op) (K:SV->List Entry->Prop):Prop :=
 match op with
 | .move x=>QD regs x λs=>K s H
 | .assign x=>QD regs x λs=>K s H
 | .pick c x y=>QD regs c λs=>match s with
  | .blit true=>QD regs x λs=>K s H
  | .blit false=>QD regs y λs=>K s H
  | .bool p=>(p=true->QD regs x λs=>K s H)/\(p=false->QD regs y λs=>K s H)
  | _=>False
 | .alloc T=>Zao Δ T λti=>ZrD ti H K
 | .box _ x=>QD regs x λs=>Zt7 s H K
 | .build T ps=>Zao Δ T λti=>ZnI regs ps.toList λl=>ZoL ti l λs=>K s H
 | .buildSlice T n ps=>Zao Δ T λti=>ZnI regs ps.toList λl=>Zf0 ti n l H K
 | .load T x=>Zao Δ T λti=>QD regs x λs=>Zsc ti s H K
 | .store T x y=>Zao Δ T λti=>QD regs x λsa=>QD regs y λsx=>Zqc ti sa sx H λH'=>K (.tup []) H'
 | .nilCheck x=>QD regs x λs=>Zo7 s λs'=>if s'.Zr8=true then K s' H else False
 | .binOp op T x y _=>QD regs x λsx=>QD regs y λsy=>ZrR Δ op T sx sy λs=>K s H
 | .unOp op _ x=>QD regs x λsx=>unK op sx λs=>K s H
 | .convert S T x=>Zao Δ S λts=>Zao Δ T λtd=>QD regs x λs=>match ts.kind,td.kind with
  | .sl,.str=>Zao Δ ts.elem λte=>ZoZ te s H λr=>K r H
  | _,_=>ZrX ts td s H λr=>K r H
 | .makeFunc (.func f) first caps=>if first.size=0 then Zn1 regs caps.toList λl=>K (.fn f l) H else False
 | .makeSlice T l c=>Zao Δ T λti=>QD regs l λsl=>QD regs c λsc=>Zsd ti sl sc H K
 | .slice T x lo hi none=>Zao Δ T λti=>QD regs x λs=>Zp4 ti regs s lo hi H K
 | .fieldAddr T x f=>Zao Δ T λti=>QD regs x λs=>ZhA ti s f λr=>K r H
 | .field T x f=>Zao Δ T λti=>QD regs x λs=>Zpj ti s f λr=>K r H
 | .indexAddr T x i=>Zao Δ T λti=>QD regs x λs=>QD regs i λsi=>Zfu ti s si i H λr=>K r H
 | .index T x i=>Zao Δ T λti=>QD regs x λs=>QD regs i λsi=>Zqe ti s si λr=>K r H
 | .extract x i=>QD regs x λs=>ZuU s i λr=>K r H
 | .makeMap T none=>Zao Δ T λti=>Zlb ti H K
 | .lookup T x i ok=>Zao Δ T λti=>QD regs x λsx=>QD regs i λsi=>ZmJ Δ ti sx si ok H λr=>K r H
 | .mapUpdate T x i y=>Zao Δ T λti=>QD regs x λsx=>QD regs i λsi=>QD regs y λsy=>Zm1 Δ ti sx si sy H λH'=>K (.tup []) H'
 | .call c=>match c.callee,c.args.toList,c.argTypes.toList with
  | .builtin .len,[x],[T]=>Zao Δ T λti=>QD regs x λs=>ZuN ti s H λr=>K r H
  | .builtin .append,[x,y],[T,T']=>if T=T' then Zao Δ T λti=>QD regs x λsx=>QD regs y λsy=>Zmu ti sx sy H K else False
  | .builtin .min,x::r,_=>QD regs x λs=>Zn1 regs r λl=>ZsW false s l λr=>K r H
  | .builtin .max,x::r,_=>QD regs x λs=>Zn1 regs r λl=>ZsW true s l λr=>K r H
  | _,_,_=>False
 | _=>False
def Zbk:Op->Bool
 | .move _=>true
 | .assign _=>true
 | .pick _ _ _=>true
 | .build _ _=>true
 | .load _ _=>true
 | .nilCheck _=>true
 | .binOp _ _ _ _ _=>true
 | .unOp _ _ _=>true
 | .fieldAddr _ _ _=>true
 | .field _ _ _=>true
 | .indexAddr _ _ _=>true
 | .index _ _ _=>true
 | .extract _ _=>true
 | .makeFunc _ _ _=>true
 | .call c=>match c.callee with
  | .builtin .len=>true
  | .builtin .min=>true
  | .builtin .max=>true
  | _=>false
 | _=>false
def isLoad:Op->Bool
 | .load _ _=>true
 | _=>false
def Zij:Op->Bool
 | .alloc _=>true
 | .box _ _=>true
 | .buildSlice _ _ _=>true
 | .makeSlice _ _ _=>true
 | .slice _ _ _ _ _=>true
 | .convert _ _ _=>true
 | .makeMap _ _=>true
 | _=>false
def appArg:Op->Option Operand
 | .call ⟨.builtin .append,args,_⟩=>args.toList.head?
 | .store _ x _=>some x
 | _=>none
def Ran (P:Program) (B:Base) (E:Env) (o:Oper) (a:Act) (K:SV->List Entry->Prop):Prop :=
 ∃ nx v E' H' s,(execOp a.eval o).run P E.w=.ok nx E'.w/\(nx=.value v\/nx=.skip/\v=undef)/\Inv B E' H'/\E.le E'/\den E' s v/\K s H'/\
  (Zbk o.op=true->nx=.value v/\E'.w=E.w/\∀ w',(isLoad o.op=true->Zlx E.w w')->(execOp a.eval o).run P w'=.ok (.value v) w')/\((Zbk o.op||Zij o.op)=true->Grow E.w E'.w)/\∀ x,appArg o.op=some x->E.w.grownBy E'.w (Yj (a.eval x))
theorem ZmE {w w':World} {v:Value} (h:w.grownBy w' v.ownBlock):w.grownBy w' (Yj v):=⟨h.os,h.tape,h.output,h.size,λk hk hne=>h.block k hk (λe=>hne (ZoK v k e.symm).symm)⟩
theorem ZkA {op:Op} {p:Operand->Prop} (ha:appArg op=none):∀ x,appArg op=some x->p x:=λx e=>by rw[ha] at e;cases e
theorem ZpW {B:Base} {E:Env} {H:List Entry} (hI:Inv B E H) {o:Oper} {a:Act} {K:SV->List Entry->Prop} {x:Sem Value} (he:execOp a.eval o=(do pure (.value (<-x)):Sem Next)) (hl:isLoad o.op=true)
  (h:∃ u s E' H',E'.w=E.w/\Zqv P E.w x u/\Inv B E' H'/\E.le E'/\den E' s u/\K s H') (ha:appArg o.op=none:=by rfl):Ran P B E o a K:=by
 obtain ⟨u,s,E',H',hw,h1,h2,h2',h3,h3'⟩:=h;have h4:∀ w',Zlx E.w w'->(execOp a.eval o).run P w'=.ok (.value u) w':=λw' hst=>by rw[he,Sem.run_bind,h1 w' hst];rfl
 exact ⟨_,u,E',H',s,by rw[hw];exact h4 _ (Zlx.refl _),.inl rfl,h2,h2',h3,h3',λ_=>⟨rfl,hw,λw' h=>h4 w' (h hl)⟩,λ_=>by rw[hw];exact Grow.refl _,ZkA ha⟩
theorem XC {B:Base} {E:Env} {H:List Entry} (hI:Inv B E H) {o:Oper} {a:Act} {K:SV->List Entry->Prop} {x:Sem Value} (he:execOp a.eval o=(do pure (.value (<-x)):Sem Next))
  (h:∃ u s,Zj1 P x u/\den E s u/\K s H) (ha:appArg o.op=none:=by rfl):Ran P B E o a K:=by
 obtain ⟨u,s,h1,h2,h3⟩:=h;have h4:∀ w',(execOp a.eval o).run P w'=.ok (.value u) w':=λw'=>by rw[he,Sem.run_bind,h1 w'];rfl
 exact ⟨_,u,E,H,s,h4 _,.inl rfl,hI,Env.le.refl E,h2,h3,λ_=>⟨rfl,rfl,λw' _=>h4 w'⟩,λ_=>Grow.refl _,ZkA ha⟩
theorem Zeq {B:Base} {E:Env} {H:List Entry} (hI:Inv B E H) {o:Oper} {a:Act} {K:SV->List Entry->Prop} {u:Value} {s:SV} (he:execOp a.eval o=(pure (.value u):Sem Next))
  (h2:den E s u) (h3:K s H) (ha:appArg o.op=none:=by rfl):Ran P B E o a K :=
 ⟨_,u,E,H,s,by rw[he];rfl,.inl rfl,hI,Env.le.refl E,h2,h3,λ_=>⟨rfl,rfl,λw' _=>by rw[he];rfl⟩,λ_=>Grow.refl _,ZkA ha⟩
theorem ZaW {B:Base} {E:Env} {o:Oper} {a:Act} {K:SV->List Entry->Prop} {x:Sem Value} (he:execOp a.eval o=(do pure (.value (<-x)):Sem Next)) (hl:Zbk o.op=false)
  (h:∃ u E' H' s,x.run P E.w=.ok u E'.w/\Inv B E' H'/\E.le E'/\den E' s u/\K s H'/\Grow E.w E'.w) (ha:appArg o.op=none:=by rfl):Ran P B E o a K:=by
 obtain ⟨u,E',H',s,h1,h2,h3,h4,h5,h6⟩:=h;exact ⟨_,u,E',H',s,by rw[he,Sem.run_bind,h1];rfl,.inl rfl,h2,h3,h4,h5,λe=>(by rw[hl] at e;cases e),λ_=>h6,ZkA ha⟩
theorem Zsk {B:Base} {E:Env} {o:Oper} {a:Act} {K:SV->List Entry->Prop} {x:Sem Value} {r:Operand} (he:execOp a.eval o=(do pure (.value (<-x)):Sem Next)) (hl:(Zbk o.op||Zij o.op)=false) (ha:appArg o.op=some r)
  (h:∃ u E' H' s,x.run P E.w=.ok u E'.w/\Inv B E' H'/\E.le E'/\den E' s u/\K s H'/\E.w.grownBy E'.w (a.eval r).ownBlock):Ran P B E o a K:=by
 obtain ⟨u,E',H',s,h1,h2,h3,h4,h5,h6⟩:=h;have hl':Zbk o.op=false:=by cases h:Zbk o.op<;>simp[h] at hl ⊢
 exact ⟨_,u,E',H',s,by rw[he,Sem.run_bind,h1];rfl,.inl rfl,h2,h3,h4,h5,λe=>(by rw[hl'] at e;cases e),λe=>(by rw[hl] at e;cases e),λx hx=>by rw[ha] at hx;injection hx with hx;subst hx;exact ZmE h6⟩
theorem Zl3 (a:Act) (ps:Array (Nat×Operand)):(ps.map λx=>(x.1,a.eval x.2)).toList=ps.toList.map λx=>(x.1,a.eval x.2):=by simp
theorem ZpL {Δ:Tab} (hΔ:Δ.ok P) {B:Base} {E:Env} {H:List Entry} (hI:Inv B E H) {regs:List SV} {a:Act} (hd:Z6 E regs a.tmps.toList) {o:Oper} {K:SV->List Entry->Prop}
  (h:opK Δ regs H o.op K):Ran P B E o a K:=by
 obtain ⟨dst,op,type,pos,after,guard⟩:=o;simp only at h;have val:∀ {x:Operand} (op':Op),(execOp a.eval ⟨dst,op',type,pos,after,guard⟩=pure (.value (a.eval x)))->(QD regs x λs=>K s H)->appArg op'=none->Ran P B E ⟨dst,op',type,pos,after,guard⟩ a K:=by
  intro x op' he h ha;obtain ⟨s,hs,h⟩:=Yg hd h;exact Zeq hI he hs h ha
 unfold opK at h;split at h
 ·exact val _ rfl h rfl
 ·exact val _ rfl h rfl
 ·rename_i c x y
  obtain ⟨s,hs,h⟩:=Yg hd h;split at h
  ·simp only[den] at hs
   obtain ⟨s',hs',h⟩:=Yg hd h;exact Zeq hI (u:=a.eval x) (by simp[execOp,hs,asBool]) hs' h
  ·simp only[den] at hs
   obtain ⟨s',hs',h⟩:=Yg hd h;exact Zeq hI (u:=a.eval y) (by simp[execOp,hs,asBool]) hs' h
  ·rename_i p
   simp only[den] at hs;cases p
   ·obtain ⟨s',hs',h⟩:=Yg hd (h.2 rfl)
    exact Zeq hI (u:=a.eval y) (by simp[execOp,hs,asBool]) hs' h
   ·obtain ⟨s',hs',h⟩:=Yg hd (h.1 rfl)
    exact Zeq hI (u:=a.eval x) (by simp[execOp,hs,asBool]) hs' h
  ·exact h.elim
 ·obtain ⟨ti,ht,h⟩:=YI Δ hΔ h
  exact ZaW rfl rfl (ZoG hI ht h)
 ·obtain ⟨s,hs,h⟩:=Yg hd h
  exact ZaW rfl rfl (ZrT hI hs h)
 ·rename_i T ps
  obtain ⟨ti,ht,h⟩:=YI Δ hΔ h;obtain ⟨l,hl,h⟩:=ZjB hd _ h;exact XC hI rfl (ZoM ht (by rw[Zl3];exact hl) h)
 ·rename_i T n ps
  obtain ⟨ti,ht,h⟩:=YI Δ hΔ h;obtain ⟨l,hl,h⟩:=ZjB hd _ h;exact ZaW rfl rfl (Zj2 hI ht (by rw[Zl3];exact hl) h)
 ·obtain ⟨ti,ht,h⟩:=YI Δ hΔ h
  obtain ⟨s,hs,h⟩:=Yg hd h;exact ZpW hI rfl rfl (ZqZ hI ht hs h)
 ·obtain ⟨ti,ht,h⟩:=YI Δ hΔ h
  obtain ⟨sa,hsa,h⟩:=Yg hd h;obtain ⟨sx,hsx,h⟩:=Yg hd h;obtain ⟨E',H',h1,h2,h3,h4,h5⟩:=Zqd hI ht hsa hsx h;exact ⟨.skip,undef,E',H',.tup [],by simp[execOp,h1],.inr ⟨rfl,rfl⟩,h2,h3,by simp only[den];exact ⟨[],rfl,trivial⟩,h4,λe=>(by cases e),λe=>(by cases e),λy hy=>by simp only[appArg] at hy;injection hy with hy;subst hy;exact h5⟩
 ·obtain ⟨s0,hs0,h⟩:=Yg hd h
  obtain ⟨s,hs,h⟩:=Zo8 hs0 h;split at h
  ·rename_i hp
   rcases ZmO hs hp with ⟨p,hv⟩ | ⟨f,cs,hv⟩
   ·exact Zeq hI (by simp[execOp,hv];rfl) (by rw[<-hv];exact hs) h
   ·exact Zeq hI (by simp[execOp,hv];rfl) (by rw[<-hv];exact hs) h
  ·exact h.elim
 ·obtain ⟨sx,hsx,h⟩:=Yg hd h
  obtain ⟨sy,hsy,h⟩:=Yg hd h;obtain ⟨r,s,h1,h2,h3⟩:=Zqy (P:=P) hΔ h hsx hsy _ _;exact XC hI rfl ⟨r,s,h1,h2,h3⟩
 ·obtain ⟨sx,hsx,h⟩:=Yg hd h
  obtain ⟨r,s,h1,h2,h3⟩:=ZtF (P:=P) h hsx;exact XC hI rfl ⟨r,s,h1,h2,h3⟩
 ·obtain ⟨ts,hts,h⟩:=YI Δ hΔ h
  obtain ⟨td,htd,h⟩:=YI Δ hΔ h;obtain ⟨s,hs,h⟩:=Yg hd h;split at h
  ·rename_i hk1 hk2
   obtain ⟨te,hte,h⟩:=YI Δ hΔ h;obtain ⟨u,r,h1,h2,h3⟩:=Zo0 (P:=P) hI hts hk1 htd hk2 hte hs h;exact ZaW rfl rfl ⟨u,E,H,r,h1,hI,Env.le.refl E,h2,h3,Grow.refl _⟩
  ·obtain ⟨u,r,h1,h2,h3⟩:=ZqD (P:=P) hts htd hs h
   exact XC hI rfl ⟨u,r,h1,h2,h3⟩
 ·rename_i f first caps
  split at h
  ·rename_i hf
   obtain ⟨caps⟩:=caps;obtain ⟨l,hl,h⟩:=ZgA hd _ h;have hf':first=#[]:=Array.eq_empty_of_size_eq_zero hf;subst hf';refine XC hI rfl ⟨_,_,λw=>rfl,?_,h⟩;simp only[den];exact ⟨_,by simp,hl⟩
  ·exact h.elim
 ·obtain ⟨ti,ht,h⟩:=YI Δ hΔ h
  obtain ⟨sl,hsl,h⟩:=Yg hd h;obtain ⟨sc,hsc,h⟩:=Yg hd h;exact ZaW rfl rfl (Zq3 hI ht hsl hsc h)
 ·obtain ⟨ti,ht,h⟩:=YI Δ hΔ h
  obtain ⟨s,hs,h⟩:=Yg hd h;exact ZaW rfl rfl (Zp5 hI hd ht hs h)
 ·obtain ⟨ti,ht,h⟩:=YI Δ hΔ h
  obtain ⟨s,hs,h⟩:=Yg hd h;exact XC hI rfl (Zk3 ht hs h)
 ·obtain ⟨ti,ht,h⟩:=YI Δ hΔ h
  obtain ⟨s,hs,h⟩:=Yg hd h;exact XC hI rfl (Zpk ht hs h)
 ·rename_i T x i
  obtain ⟨ti,ht,h⟩:=YI Δ hΔ h;obtain ⟨s,hs,h⟩:=Yg hd h;cases i with
  | const v =>
   obtain ⟨si,hsi,h⟩:∃ si,(∀ j,Zhw (.const v)=some j->∀ k i,si=.int k i->i=(j:Int))/\den E si v/\Zfu ti s si (.const v) H λr=>K r H:=by
    have h':=h;obtain ⟨si,hsi,h⟩:=Yg hd h;have hsi':den E si v:=hsi;refine ⟨si,λj hj k i hsi2=>?_,hsi',h⟩;subst hsi2;simp only[den] at hsi';subst hsi';simp only[Zhw] at hj;split at hj
    ·simp at hj;subst hj;rfl
    ·cases hj
   exact XC hI rfl (Zek hI ht hs h.1 h.2 hsi)
  | tmp t =>
   obtain ⟨si,hsi,h⟩:=Yg hd h;exact XC hI rfl (Zek hI ht hs hsi h (λj hj=>by simp[Zhw] at hj))
  | global g=>exact h.elim
  | func f =>
   obtain ⟨si,hsi,h⟩:=Yg hd h;exact XC hI rfl (Zek hI ht hs hsi h (λj hj=>by simp[Zhw] at hj))
 ·obtain ⟨ti,ht,h⟩:=YI Δ hΔ h
  obtain ⟨s,hs,h⟩:=Yg hd h;obtain ⟨si,hsi,h⟩:=Yg hd h;obtain ⟨u,r,h1,h2,h3⟩:=Zqf (P:=P) ht hs hsi h;exact XC hI rfl ⟨u,r,h1,h2,h3⟩
 ·obtain ⟨s,hs,h⟩:=Yg hd h
  obtain ⟨u,r,h1,h2,h3⟩:=Zsr (P:=P) hs h;exact XC hI rfl ⟨u,r,h1,h2,h3⟩
 ·obtain ⟨ti,ht,h⟩:=YI Δ hΔ h
  exact ZaW rfl rfl (ZmK hI ht h)
 ·obtain ⟨ti,ht,h⟩:=YI Δ hΔ h
  obtain ⟨sx,hsx,h⟩:=Yg hd h;obtain ⟨si,hsi,h⟩:=Yg hd h;obtain ⟨u,r,h1,h2,h3⟩:=Zn8 (P:=P) hΔ hI ht hsx hsi h;exact ZaW rfl rfl ⟨u,E,H,r,h1,hI,Env.le.refl E,h2,h3,Grow.refl _⟩
 ·obtain ⟨ti,ht,h⟩:=YI Δ hΔ h
  obtain ⟨sx,hsx,h⟩:=Yg hd h;obtain ⟨si,hsi,h⟩:=Yg hd h;obtain ⟨sy,hsy,h⟩:=Yg hd h;obtain ⟨E',H',h1,h2,h3,h4⟩:=Zot (P:=P) hΔ hI ht hsx hsi hsy h;exact ⟨.skip,undef,E',H',.tup [],by simp[execOp,h1],.inr ⟨rfl,rfl⟩,h2,h3,by simp only[den];exact ⟨[],rfl,trivial⟩,h4,λe=>(by cases e),λe=>(by cases e),ZkA rfl⟩
 ·rename_i c
  obtain ⟨callee,args,argTypes⟩:=c;obtain ⟨args⟩:=args;obtain ⟨argTypes⟩:=argTypes;simp only at h;split at h
  ·rename_i x T
   obtain ⟨ti,ht,h⟩:=YI Δ hΔ h;obtain ⟨s,hs,h⟩:=Yg hd h;obtain ⟨u,r,h1,h2,h3⟩:=Zsb (ty:=type) hI ht hs h;exact XC hI (x:=Builtin.len_ #[T] type #[a.eval x]) (by simp only[execOp,resolve,invoke,builtin,pure_bind,List.map_toArray,Kb,List.map_nil]) ⟨u,r,h1,h2,h3⟩
  ·rename_i x y T T'
   split at h
   ·rename_i hTT;subst hTT
    obtain ⟨ti,ht,h⟩:=YI Δ hΔ h;obtain ⟨sx,hsx,h⟩:=Yg hd h;obtain ⟨sy,hsy,h⟩:=Yg hd h;exact Zsk (x:=Builtin.append_ #[T,T] type #[a.eval x,a.eval y]) (by simp only[execOp,resolve,invoke,builtin,pure_bind,List.map_toArray,Kb,List.map_nil]) rfl rfl (ZnV (ty:=type) hI ht hsx hsy h)
   ·exact h.elim
  ·rename_i x r
   obtain ⟨s,hs,h⟩:=Yg hd h;obtain ⟨l,hl,h⟩:=ZgA hd _ h;obtain ⟨u,r',h1,h2,h3⟩:=ZmL (P:=P) (mx:=false) l s _ _ hs hl h;exact XC hI (x:=Builtin.min_ argTypes.toArray type ((x::r).toArray.map a.eval)) (by simp only[execOp,resolve,invoke,builtin,pure_bind]) ⟨u,r',λw=>by simpa[Builtin.min_] using h1 w,h2,h3⟩
  ·rename_i x r
   obtain ⟨s,hs,h⟩:=Yg hd h;obtain ⟨l,hl,h⟩:=ZgA hd _ h;obtain ⟨u,r',h1,h2,h3⟩:=ZmL (P:=P) (mx:=true) l s _ _ hs hl h;exact XC hI (x:=Builtin.max_ argTypes.toArray type ((x::r).toArray.map a.eval)) (by simp only[execOp,resolve,invoke,builtin,pure_bind]) ⟨u,r',λw=>by simpa[Builtin.max_] using h1 w,h2,h3⟩
  ·exact h.elim
 ·exact h.elim
end
inductive Sh
 | dat (t:Ty)
 | own (e:Dp)
 | io (e:Dp)
 | back (e:Dp)
@[reducible] def Sh.den:Sh->Type
 | .dat t=>t.den
 | .own e=>e.ty.den
 | .io e=>e.ty.den
 | .back e=>e.ty.den
@[reducible] def Shs:List Sh->Type
 | []=>Unit
 | s::r=>s.den×Shs r
@[reducible] def Ios:List Sh->Type
 | []=>Unit
 | .io e::r=>e.ty.den×Ios r
 | .back e::r=>e.ty.den×Ios r
 | .dat _::r=>Ios r
 | .own _::r=>Ios r
structure Ctr where
 args:List Sh
 rets:List Sh
 tr:Shs args->(Shs rets->Ios args->Prop)->Prop
def Zqn (t:Ty) (v:Value):Prop:=(t.agg=true->∃ cs,v=.agg cs)/\(t.agg=false->v.cells=#[v])
def ZsB (S:Nat->Prop) (w:World) (t:Ty) (d:t.den) (v:Value):Prop :=
 (t.agg=true->∃ cs,v=.agg cs)/\(t.agg=false->v.cells=#[v])/\rep S w t d v.cells.toList
def ZmU (S:Nat->Prop) (w:World):(s:Sh)->s.den->Value->List Nat->Prop
 | .dat t,d,v,fp=>fp=[]/\ZsB S w t d v
 | .own e,d,v,fp=>Zqn e.ty v/\ZdX S w e d v.cells.toList fp
 | .back e,d,v,fp=>Zqn e.ty v/\ZdX S w e d v.cells.toList fp
 | .io e,d,v,fp=>∃ b cs T f,v=.pointer (some ⟨b,0,none⟩)/\w.heap[b]?=some (.cells cs T (0,0))/\ZdX S w e d cs.toList f/\fp=b::f
def ZaY (S:Nat->Prop) (w:World):(l:List Sh)->Shs l->List Value->List Nat->Prop
 | [],_,vs,fp=>vs=[]/\fp=[]
 | s::r,d,vs,fp=>∃ v vr f fr,vs=v::vr/\fp=f++fr/\ZmU S w s d.1 v f/\ZaY S w r d.2 vr fr
def ZdG (S:Nat->Prop) (w:World):(l:List Sh)->Ios l->List Value->List Nat->Prop
 | [],_,_,fp=>fp=[]
 | .io e::r,d,vs,fp=>∃ v vr f fr,vs=v::vr/\fp=f++fr/\ZmU S w (.io e) d.1 v f/\ZdG S w r d.2 vr fr
 | .back e::r,d,vs,fp=>∃ v vr f fr,vs=v::vr/\fp=f++fr/\ZmU S w (.back e) d.1 v f/\ZdG S w r d.2 vr fr
 | .dat _::r,d,vs,fp=>∃ v vr,vs=v::vr/\ZdG S w r d vr fp
 | .own _::r,d,vs,fp=>∃ v vr,vs=v::vr/\ZdG S w r d vr fp
def retv (us:List Value) (v:Value):Prop :=
 match us with
 | [u]=>v=u
 | us=>v=.tuple us.toArray
def ZiN (P:Program) (f:FuncId):Prop:=∃ fn,P.funcs[f]?=some fn/\(fn.name == "runtime.NumGoroutine")=false/\fn.body.isNone=false
def Za (P:Program) (f:FuncId) (C:Ctr):Prop:=ZiN P f/\
 ∀ (w:World) (S:Nat->Prop) (vs:List Value) (as:Shs C.args) (fp:List Nat) (K:Shs C.rets->Ios C.args->Prop),
  (∀ b,S b->b<w.heap.size)->ZaY S w C.args as vs fp->fp.Nodup->(∀ g∈fp,¬S g/\g<w.heap.size)->C.tr as K->
  Calls P f vs.toArray w λe w'=>∃ v us rs ios S' fr fio,e=.returned v/\retv us v/\K rs ios/\Keeps ⟨w,S,λb=>b∈fp,[]⟩ w'/\(∀ b,S b->S' b)/\
   (∀ b,S' b->b<w'.heap.size/\(b<w.heap.size->S b\/b∈fp))/\ZaY S' w' C.rets rs us fr/\ZdG S' w' C.args ios vs fio/\
   (fio++fr).Nodup/\∀ g∈fio++fr,¬S' g/\g<w'.heap.size/\(w.heap.size<=g\/g∈fp)
def SV.isAgg:SV->Bool
 | .agg _=>true
 | _=>false
def Zsw (f:SV->List Entry->(SV->List Entry->Prop)->Prop):List SV->List Entry->(List SV->List Entry->Prop)->Prop
 | [],H,K=>K [] H
 | s::r,H,K=>f s H λs' H1=>Zsw f r H1 λr' H2=>K (s'::r') H2
def Zji:Nat->SV->List Entry->(SV->List Entry->Prop)->Prop
 | 0,s,H,K=>K s H
 | n+1,s,H,K=>match s with
  | .ptr id 0=>Zdz H id λe=>match e with
   | .box cells=>Zsw (Zji n) cells H λcs0 H0=>XO cs0 H0 λcs' H1=>Zdz H1 id λe1=>match e1 with
    | .box _=>Zea H1 id (.fbx cs') λH2=>K (.fptr cs') H2
    | _=>False
   | .fbx cells=>K (.fptr cells) H
   | _=>False
  | .own id=>Zdz H id λe=>match e with
   | .hole _ e d i cells _=>Zsw (Zji n) cells H λcs0 H0=>XO cs0 H0 λcs' H1=>YS e.ty cs' λx rest=>match rest with
    | []=>Zdz H1 id λe1=>match e1 with
     | .hole _ _ _ _ _ _=>Zea H1 id (.frz e.ty (d.set i.toNat x)) λH2=>K (.sl e.ty (d.set i.toNat x)) H2
     | _=>False
    | _=>False
   | _=>K (.own id) H
  | s=>K s H
def Zps (s:SV) (H:List Entry) (K:SV->List Entry->Prop):Prop:=Zji 3 s H K
def ZmD (cs:List SV) (H:List Entry) (K:List SV->List Entry->Prop):Prop:=Zsw Zps cs H K
def Zpq (s:SV) (H:List Entry) (K:List SV->List Entry->Prop):Prop :=
 match s with
 | .fn f caps=>ZmD caps H λcaps' H1=>K [.fn f caps'] H1
 | .ptr id off=>Zps (.ptr id off) H λs' H1=>K [s'] H1
 | s=>ZmD s.cells H λcs0 H0=>XO cs0 H0 K
def ZlK (t:Ty) (cs:List SV) (K:SV->Prop):Prop :=
 if t.agg=true then K (.agg cs) else match cs with
  | c::_=>K c
  | []=>False
def Ziu:(l:List Sh)->List SV->List Entry->(Shs l->List Entry->Prop)->Prop
 | [],ss,H,K=>match ss with
  | []=>K () H
  | _=>False
 | .dat t::r,ss,H,K=>match ss with
  | s::ss=>if s.whole=true/\t.agg=s.isAgg then Zpq s H λcs H1=>YS t cs λd rest=>match rest with
    | []=>Ziu r ss H1 λds H2=>K (d,ds) H2
    | _=>False
   else False
  | _=>False
 | .own e::r,ss,H,K=>match ss with
  | s::ss=>if s.whole=true/\e.ty.agg=s.isAgg then closeAll e s.cells H λd H1=>Ziu r ss H1 λds H2=>K (d,ds) H2 else False
  | _=>False
 | .back e::r,ss,H,K=>match ss with
  | s::ss=>if s.whole=true/\e.ty.agg=s.isAgg then closeAll e s.cells H λd H1=>Ziu r ss H1 λds H2=>K (d,ds) H2 else False
  | _=>False
 | .io e::r,ss,H,K=>match ss with
  | .ptr id 0::ss=>Zdz H id λen=>match en with
   | .box cells=>Zea H id .gone λH0=>closeAll e cells H0 λd H1=>Ziu r ss H1 λds H2=>K (d,ds) H2
   | _=>False
  | _=>False
def Dp.closed:Dp->Bool
 | .flat t=>t.flat
 | .ol _ e=>e.closed
 | .pair a b=>a.closed&&b.closed
 | .mp k v=>k.flat&&v.flat
def Sh.flat:Sh->Bool
 | .dat t=>t.flat
 | .own e=>e.closed
 | .io e=>e.closed
 | .back e=>e.closed
def ZiR:List Sh->Bool
 | []=>true
 | s::r=>s.flat&&ZiR r
def Zf3:List Sh->Bool
 | []=>true
 | .io e::r=>e.closed&&Zf3 r
 | .back e::r=>e.closed&&Zf3 r
 | _::r=>Zf3 r
def Zcp:(e:Dp)->List SV->e.ty.den->List Entry->(List SV->List Entry->Prop)->Prop
 | .flat t,cs,_,H,K=>Ze1 cs t.size λr=>K r H
 | .ol et e,cs,d,H,K=>match cs with
  | .nsl::r=>K r H
  | .own id::r=>Zsj et e id d H λH'=>K r H'
  | _=>False
 | .mp k v,cs,d,H,K=>match cs with
  | .mown id::r=>Zea H id (.mpe k v d) λH'=>K r H'
  | _=>False
 | .pair a b,cs,d,H,K=>splitK d λx y=>Zcp a cs x H λr H1=>Zcp b r y H1 K
def Zox:(l:List Sh)->List SV->Ios l->List Entry->(List Entry->Prop)->Prop
 | [],_,_,H,K=>K H
 | .io e::r,ss,d,H,K=>match ss with
  | .ptr id 0::ss=>splitK d λx d'=>Xx e x H λcells H1=>Zea H1 id (.box cells) λH2=>Zox r ss d' H2 K
  | _=>False
 | .back e::r,ss,d,H,K=>match ss with
  | s::ss=>if s.whole=true then splitK d λx d'=>Zcp e s.cells x H λ_ H1=>Zox r ss d' H1 K else False
  | _=>False
 | .dat _::r,ss,d,H,K=>match ss with
  | _::ss=>Zox r ss d H K
  | _=>False
 | .own _::r,ss,d,H,K=>match ss with
  | _::ss=>Zox r ss d H K
  | _=>False
def Zh1:(l:List Sh)->Shs l->List Entry->(List SV->List Entry->Prop)->Prop
 | [],_,H,K=>K [] H
 | .dat t::r,d,H,K=>splitK d λx d'=>XG t x λcs=>ZlK t cs λs=>Zh1 r d' H λss H'=>K (s::ss) H'
 | .own e::r,d,H,K=>splitK d λx d'=>Xx e x H λcs H1=>ZlK e.ty cs λs=>Zh1 r d' H1 λss H'=>K (s::ss) H'
 | .back e::r,d,H,K=>splitK d λx d'=>Xx e x H λcs H1=>ZlK e.ty cs λs=>Zh1 r d' H1 λss H'=>K (s::ss) H'
 | .io e::r,d,H,K=>splitK d λx d'=>Xx e x H λcs H1=>Zkz cs H1 λs H2=>Zh1 r d' H2 λss H'=>K (s::ss) H'
def Zl0 (ss:List SV) (K:SV->Prop):Prop :=
 match ss with
 | [s]=>K s
 | ss=>K (.tup ss)
def Znn:List Entry->(List Entry->Prop)->Prop
 | [],K=>K []
 | e::r,K=>Znn r λr'=>K (e::r')
theorem ZlO:∀ (l:List Entry) (K:List Entry->Prop),Znn l K=K l
 | [],_=>rfl
 | e::r,K=>by unfold Znn;exact ZlO r _
def ZrU (C:Ctr) (ss:List SV) (H:List Entry) (K:SV->List Entry->Prop):Prop :=
 Ziu C.args ss H λas H1=>C.tr as λrs ios =>
  if (ZiR C.rets&&Zf3 C.args)=true then Znn (ZiE H H1) λH0=>Zox C.args ss ios H0 λH2=>Zh1 C.rets rs H2 λss' H3=>Zl0 ss' λs=>K s H3
  else Zox C.args ss ios H1 λH2=>Zh1 C.rets rs H2 λss' H3=>Zl0 ss' λs=>K s H3
def ZsE (B:Base) (f:SV->List Entry->(SV->List Entry->Prop)->Prop):Prop :=
 ∀ (E:Env) (H:List Entry),Inv B E H->∀ (s:SV) (v:Value),den E s v->∀ (K:SV->List Entry->Prop),f s H K->∃ E' H' s',Frz E H E' H'/\Inv B E' H'/\den E' s' v/\K s' H'
theorem Zk6 {B:Base} {f:SV->List Entry->(SV->List Entry->Prop)->Prop} (hf:ZsE B f):∀ (cs:List SV) {E:Env} {H:List Entry} (_:Inv B E H) {vs:List Value} (_:Z6 E cs vs) {K:List SV->List Entry->Prop} (_:Zsw f cs H K),
  ∃ E' H' cs',Frz E H E' H'/\Inv B E' H'/\Z6 E' cs' vs/\K cs' H'
 | [],E,H,hI,vs,hd,K,hk=>⟨E,H,[],Frz.refl E H,hI,hd,hk⟩
 | s::r,E,H,hI,vs,hd,K,hk=>by
  match vs,hd with
  | [],hd=>simp[Z6] at hd
  | v::vs,hd =>
   simp only[Z6] at hd;simp only[Zsw] at hk;obtain ⟨E1,H1,s',hf1,hI1,hd1,hk⟩:=hf _ _ hI _ _ hd.1 _ hk;obtain ⟨E2,H2,r',hf2,hI2,hd2,hk⟩:=Zk6 hf r hI1 (ZF hf1.le _ _ hd.2) hk;exact ⟨E2,H2,s'::r',hf1.trans hf2,hI2,⟨Zdy hf2.le _ _ hd1,hd2⟩,hk⟩
theorem ZhM {B:Base}:∀ n,ZsE B (Zji n)
 | 0=>λ_ _ hI _ _ hd _ hk=>⟨_,_,_,Frz.refl _ _,hI,hd,hk⟩
 | n+1=>by
  intro E H hI s v hd K hk;unfold Zji at hk;split at hk
  ·rename_i id
   obtain ⟨e,he,hk⟩:=Yx H hk;simp only[den] at hd;obtain ⟨b,h1,hv⟩:=hd;split at hk
   ·rename_i cells
    obtain ⟨b',cs,T,h1',h2,h3⟩:=hI.ent id _ he;have:=h1.symm.trans h1';simp at this;subst this;obtain ⟨E0,H0,cs0,hf0,hI0,hd0,hk⟩:=Zk6 (ZhM n) _ hI h3 hk;obtain ⟨E1,H1,cs',hf1,hI1,hd1,hk,_⟩:=Y4 _ hI0 hd0 hk;have hf01:=hf0.trans hf1;obtain ⟨e1,he1,hk⟩:=Yx H1 hk;split at hk
    ·rename_i c1
     rw[YH] at hk;have hv1:E1.ids[id]?=some (.pointer (some ⟨b,0,none⟩)):=by rw[hf01.ids];exact h1
     have hh1:E1.w.heap[b]?=some (.cells cs T (0,0)):=by rw[hf01.w];exact h2
     have hle0:E1.le ⟨λg=>E1.S g\/ZdW (.box c1) (.pointer (some ⟨b,0,none⟩)) g,E1.w,E1.ids⟩:=⟨λ_ h=>.inl h,λ_ _=>rfl,λ_ _ h=>h⟩;obtain ⟨hle2,hI2⟩:=hI1.Zjg he1 rfl hv1 (.fbx cs') rfl ⟨b,cs,T,hv1,.inr rfl,hh1,ZF hle0 _ _ hd1⟩;refine ⟨_,_,_,hf01.trans (Frz.one he1 rfl hv1 rfl hle2 (λb hb=>hb)),hI2,?_,hk⟩;simp only[den];refine ⟨⟨b,0,none⟩,cs.toList,hv,rfl,.inr rfl,λj u hu=>?_,ZF hle2 _ _ hd1⟩;exact Zgt (w:=E1.w) (b:=b) (cs:=cs) (T:=T) (fr:=(0,0)) hh1 0 j u (by simpa using hu)
    ·exact hk.elim
   ·rename_i cells
    obtain ⟨b',cs,T,h1',hS,h2,h3⟩:=hI.ent id _ he;have:=h1.symm.trans h1';simp at this;subst this;refine ⟨E,H,_,Frz.refl E H,hI,?_,hk⟩;simp only[den];refine ⟨⟨b,0,none⟩,cs.toList,hv,rfl,hS,λj u hu=>?_,h3⟩;exact Zgt h2 0 j u (by simpa using hu)
   ·exact hk.elim
  ·rename_i id
   obtain ⟨en,he,hk⟩:=Yx H hk;split at hk
   ·rename_i et e d i cells fp
    have hd0:=hd;simp only[den] at hd0;obtain ⟨v',xs,x1,vx,x2,f1,f2,h1,ho,hi0,hi1,ex,el,el2,hr1,hr2,hdc,efp,hnd⟩:=hI.ent id _ he;have:=h1.symm.trans hd0.1;simp at this;subst this;obtain ⟨E0,H0,cs0,hf0,hI0,hd0',hk⟩:=Zk6 (ZhM n) _ hI hdc hk;obtain ⟨E1,H1,cs',hf1,hI1,hd1,hk,_⟩:=Y4 _ hI0 hd0' hk;have hf01:=hf0.trans hf1;obtain ⟨x,rest,u1,u2,e12,hr,hrest,hk⟩:=YK e.ty cs' _ _ hd1 hk;split at hk
    ·have hv2:u2=[]:=by cases u2 with
      | nil=>rfl
      | cons=>simp[Z6] at hrest
     subst hv2;rw[Up] at e12;subst e12;obtain ⟨e1,he1,hk⟩:=Yx H1 hk;split at hk
     ·have hsame:=hf01.same id _ he1 rfl
      rw[he] at hsame;have hsame:=Option.some.inj hsame;rw[<-hsame] at he1;rw[YH] at hk;have hv1:E1.ids[id]?=some v':=by rw[hf01.ids];exact hd0.1
      have hrd:rep (λb=>E1.S b\/ZdW (.hole et e d i cells fp) v' b) E1.w (.sl e.ty) (d.set i.toNat x) [v']:=by
       have hw:=hf01.w;rw[hw];rw[hw] at hr;refine Zl2 (by rw[UT];exact ho) ?_ (λg hg=>.inr (by show g∈fp;rw[efp];simp[hg]));rw[List.set_eq_take_append_cons_drop,Uf (by omega),ex,Uj];refine Zet _ _ _ _ (Zes _ _ _ (λd vs f hsub h=>Zc9 (S:=E.S) (λb hb=>.inl (hf01.le.S b hb)) e d vs f (λg hg=>.inr (by show g∈fp;rw[efp];simp[hsub g hg])) h) hr1) ⟨vx,x2,rfl,?_,?_⟩
       ·exact Yd (λb hb=>.inl hb) (λ_ _=>rfl) e.ty x vx hr
       ·exact Zes _ _ _ (λd vs f hsub h=>Zc9 (S:=E.S) (λb hb=>.inl (hf01.le.S b hb)) e d vs f (λg hg=>.inr (by show g∈fp;rw[efp];simp[hsub g hg])) h) hr2
      obtain ⟨hle2,hI2⟩:=hI1.Zjg he1 rfl hv1 (.frz e.ty (d.set i.toNat x)) rfl ⟨v',hv1,hrd⟩;exact ⟨_,_,_,hf01.trans (Frz.one he1 rfl hv1 rfl hle2 (λb hb=>hb)),hI2,by simp only[den];exact hrd,hk⟩
     ·exact hk.elim
    ·exact hk.elim
   ·exact ⟨E,H,_,Frz.refl E H,hI,hd,hk⟩
  ·exact ⟨E,H,_,Frz.refl E H,hI,hd,hk⟩
theorem ZlQ {B:Base} {E:Env} {H:List Entry} (hI:Inv B E H) {s:SV} {v:Value} (hd:den E s v) {K:SV->List Entry->Prop} (hk:Zps s H K) :
  ∃ E' H' s',Frz E H E' H'/\Inv B E' H'/\den E' s' v/\K s' H':=ZhM 3 _ _ hI _ _ hd _ hk
theorem Zku {B:Base} (cs:List SV) {E:Env} {H:List Entry} (hI:Inv B E H) {vs:List Value} (hd:Z6 E cs vs) {K:List SV->List Entry->Prop} (hk:ZmD cs H K) :
  ∃ E' H' cs',Frz E H E' H'/\Inv B E' H'/\Z6 E' cs' vs/\K cs' H' :=
 Zk6 (λ_ _ hI _ _ hd _ hk=>ZlQ hI hd hk) cs hI hd hk
theorem Zpr {B:Base} {E:Env} {H:List Entry} (hI:Inv B E H) {s:SV} {v:Value} (hd:den E s v) (hw:s.whole=true) {K:List SV->List Entry->Prop} (hk:Zpq s H K) :
  ∃ E' H' cs',Frz E H E' H'/\Inv B E' H'/\Z6 E' cs' v.cells.toList/\K cs' H':=by
 unfold Zpq at hk;split at hk
 ·rename_i f caps
  simp only[den] at hd;obtain ⟨vs,rfl,hd⟩:=hd;obtain ⟨E1,H1,cs',hf1,hI1,hd1,hk⟩:=Zku _ hI hd hk;exact ⟨E1,H1,[.fn f cs'],hf1,hI1,⟨by simp only[den];exact ⟨vs,rfl,hd1⟩,trivial⟩,hk⟩
 ·rename_i id off
  have hc:=(Zfd hd rfl).1;obtain ⟨E1,H1,s',hf1,hI1,hd1,hk⟩:=ZlQ hI hd hk;exact ⟨E1,H1,[s'],hf1,hI1,by rw[hc];exact ⟨hd1,trivial⟩,hk⟩
 ·obtain ⟨E0,H0,cs0,hf0,hI0,hd0,hk⟩:=Zku _ hI (QM hd hw) hk
  obtain ⟨E1,H1,cs',hf1,hI1,hd1,hk,_⟩:=Y4 _ hI0 hd0 hk;exact ⟨E1,H1,_,hf0.trans hf1,hI1,hd1,hk⟩
theorem ZnN {E E':Env} (h:E.le E') {fp:List Nat} (hw:∀ g∈fp,E'.w.heap[g]?=E.w.heap[g]?):∀ (s:Sh) (d:s.den) (v:Value),ZmU E.S E.w s d v fp->ZmU E'.S E'.w s d v fp
 | .dat t,_,_,⟨h0,h1,h2,h3⟩=>⟨h0,h1,h2,Yd h.S h.w t _ _ h3⟩
 | .own e,_,_,⟨h1,h2⟩=>⟨h1,Yi h.S h.w e _ _ _ hw h2⟩
 | .back e,_,_,⟨h1,h2⟩=>⟨h1,Yi h.S h.w e _ _ _ hw h2⟩
 | .io e,_,_,⟨b,cs,T,f,h1,h2,h3,h4⟩=>⟨b,cs,T,f,h1,by rw[hw b (by rw[h4];simp)];exact h2,Yi h.S h.w e _ _ _ (λg hg=>hw g (by rw[h4];simp[hg])) h3,h4⟩
theorem Zl9 {E E':Env} (h:E.le E'):∀ (l:List Sh) (d:Shs l) (vs:List Value) (fp:List Nat),(∀ g∈fp,E'.w.heap[g]?=E.w.heap[g]?)->ZaY E.S E.w l d vs fp->ZaY E'.S E'.w l d vs fp
 | [],_,_,_,_,h=>h
 | s::r,_,_,_,hw,⟨v,vr,f,fr,e,ef,h1,h2⟩=>⟨v,vr,f,fr,e,ef,ZnN h (λg hg=>hw g (by rw[ef];simp[hg])) s _ _ h1,Zl9 h r _ _ _ (λg hg=>hw g (by rw[ef];simp[hg])) h2⟩
theorem ZmR {α:Type} {R R':α->List Value->List Nat->Prop} (h:∀ d vs f,R d vs f->R' d vs f) (l:List α) (xs:List Value) (fp:List Nat) (hr:VK R l xs fp):VK R' l xs fp:=YU l xs fp (λd vs f _=>h d vs f) hr
theorem JB {S S':Nat->Prop} {w:World}:∀ (e:Dp),e.closed=true->∀ (d:e.ty.den) (vs:List Value) (fp:List Nat),ZdX S w e d vs fp->ZdX S' w e d vs fp
 | .flat t,hc,_,_,_,⟨h1,h2⟩=>⟨h1,Zfx t hc _ _ h2⟩
 | .ol et e,hc,_,_,_,⟨v,xs,fps,e1,ho,hr,e2⟩=>⟨v,xs,fps,e1,ho,ZmR (λd vs f=>JB e hc d vs f) _ _ _ hr,e2⟩
 | .mp k v,hc,_,_,_,⟨b,es,clk,e1,e2,hh,h⟩=>by
  simp only[Dp.closed,Ul] at hc;exact ⟨b,es,clk,e1,e2,hh,Jt (λd vs=>Zfx k hc.1 d vs) (λd vs=>Zfx v hc.2 d vs) _ _ h⟩
 | .pair a b,hc,_,_,_,⟨v1,v2,f1,f2,e1,e2,h1,h2⟩=>by
  simp only[Dp.closed,Ul] at hc;exact ⟨v1,v2,f1,f2,e1,e2,JB a hc.1 _ _ _ h1,JB b hc.2 _ _ _ h2⟩
theorem Zhi {S S':Nat->Prop} {w:World}:∀ (l:List Sh),ZiR l=true->∀ (d:Shs l) (vs:List Value) (fp:List Nat),ZaY S w l d vs fp->ZaY S' w l d vs fp
 | [],_,_,_,_,h=>h
 | s::r,hf,_,_,_,⟨v,vr,f,fr,e,ef,h1,h2⟩=>by
  simp only[ZiR,Ul] at hf;refine ⟨v,vr,f,fr,e,ef,?_,Zhi r hf.2 _ _ _ h2⟩;cases s with
  | dat t=>obtain ⟨a,b,c,d⟩:=h1;exact ⟨a,b,c,Zfx t hf.1 _ _ d⟩
  | own e=>exact ⟨h1.1,JB e hf.1 _ _ _ h1.2⟩
  | back e=>exact ⟨h1.1,JB e hf.1 _ _ _ h1.2⟩
  | io e=>obtain ⟨b,cs,T,f',a1,a2,a3,a4⟩:=h1;exact ⟨b,cs,T,f',a1,a2,JB e hf.1 _ _ _ a3,a4⟩
theorem Zbi {S S':Nat->Prop} {w:World}:∀ (l:List Sh),Zf3 l=true->∀ (d:Ios l) (vs:List Value) (fp:List Nat),ZdG S w l d vs fp->ZdG S' w l d vs fp
 | [],_,_,_,_,h=>h
 | .io e::r,hf,_,_,_,⟨v,vr,f,fr,ev,ef,⟨b,cs,T,f',a1,a2,a3,a4⟩,h2⟩=>by
  simp only[Zf3,Ul] at hf;exact ⟨v,vr,f,fr,ev,ef,⟨b,cs,T,f',a1,a2,JB e hf.1 _ _ _ a3,a4⟩,Zbi r hf.2 _ _ _ h2⟩
 | .back e::r,hf,_,_,_,⟨v,vr,f,fr,ev,ef,⟨a1,a2⟩,h2⟩=>by
  simp only[Zf3,Ul] at hf;exact ⟨v,vr,f,fr,ev,ef,⟨a1,JB e hf.1 _ _ _ a2⟩,Zbi r hf.2 _ _ _ h2⟩
 | .dat _::r,hf,_,_,_,⟨v,vr,e,h2⟩=>⟨v,vr,e,Zbi r hf _ _ _ h2⟩
 | .own _::r,hf,_,_,_,⟨v,vr,e,h2⟩=>⟨v,vr,e,Zbi r hf _ _ _ h2⟩
theorem ZqS {E:Env} {s:SV} {v:Value} (h:den E s v) (hw:s.whole=true):(s.isAgg=true->∃ cs,v=.agg cs)/\(s.isAgg=false->v.cells=#[v]):=by
 constructor
 ·intro ha
  cases s<;>simp[SV.isAgg] at ha
  simp only[den] at h;obtain ⟨vs,e,_⟩:=h;exact ⟨_,e⟩
 ·intro ha
  have h1:s.one=true:=by cases s<;>simp_all[SV.isAgg,SV.whole,SV.one]
  exact (Zfd h h1).1
def Handed (B:Base) (l:List Sh) (E:Env) (H:List Entry) (vs:List Value) (gs:List Nat) (K:Shs l->List Entry->Prop):Prop :=
 ∃ E1 H1 as fp,Frz E H E1 H1/\Inv B E1 H1/\ZaY E1.S E1.w l as vs fp/\K as H1/\Loose B E1 H1 (fp++gs)/\ZfK E H H1 fp
theorem Handed.cons {B:Base} {s:Sh} {r:List Sh} {E E1:Env} {H H1:List Entry} {v:Value} {vs:List Value} {gs f:List Nat} {d:s.den} (hf:Frz E H E1 H1) (hs:ZmU E1.S E1.w s d v f) (hT:ZfK E H H1 f) {K:Shs (s::r)->List Entry->Prop}
  (h:Handed B r E1 H1 vs (f++gs) (λds H2=>K (d,ds) H2)):Handed B (s::r) E H (v::vs) gs K:=by
 obtain ⟨E2,H2,ds,fp,hf2,hI2,hds,hk,hL,hT2⟩:=h;refine ⟨E2,H2,(d,ds),f++fp,hf.trans hf2,hI2,⟨v,vs,f,fp,rfl,rfl,ZnN hf2.le (λg _=>by rw[hf2.w]) s _ _ hs,hds⟩,hk,hL.perm ?_,(hT.later hf2).append (ZfK.after hf hT2)⟩;rw[<-Uj];exact UG.append_right gs
theorem Zk5 {E:Env} {s:SV} {v:Value} (hd:den E s v) (hw:s.whole=true) {t:Ty} (hag:t.agg=s.isAgg):Zqn t v:=by
 have hag':=ZqS hd hw;exact ⟨λh=>hag'.1 (by rw[<-hag];exact h),λh=>hag'.2 (by rw[<-hag];exact h)⟩
theorem Zfp {B:Base}:∀ (l:List Sh) (ss:List SV) {E:Env} {H:List Entry} (_:Inv B E H) {vs:List Value} (_:Z6 E ss vs) {gs:List Nat} (_:Loose B E H gs) {K:Shs l->List Entry->Prop} (_:Ziu l ss H K),Handed B l E H vs gs K
 | [],ss,E,H,hI,vs,hd,gs,hL,K,hk=>by
  simp only[Ziu] at hk;split at hk
  ·match vs,hd with
   | [],_=>exact ⟨E,H,(),[],Frz.refl E H,hI,⟨rfl,rfl⟩,hk,hL,ZfK.nil _ _ _⟩
   | _::_,hd=>simp[Z6] at hd
  ·exact hk.elim
 | .dat t::r,ss,E,H,hI,vs,hd,gs,hL,K,hk=>by
  simp only[Ziu] at hk;split at hk
  ·rename_i s ss
   match vs,hd with
   | [],hd=>simp[Z6] at hd
   | v::vs,hd =>
    simp only[Z6] at hd;split at hk
    ·rename_i hc
     obtain ⟨hw,hag⟩:=hc;obtain ⟨E1,H1,cs,hf1,hI1,hd1,hk⟩:=Zpr hI hd.1 hw hk;obtain ⟨d,rest,v1,v2,e12,hr,hrest,hk⟩:=YK t cs _ _ hd1 hk;split at hk
     ·have hv2:v2=[]:=by cases v2 with
       | nil=>rfl
       | cons=>simp[Z6] at hrest
      subst hv2;rw[Up] at e12;obtain ⟨h1,h2⟩:=Zk5 hd.1 hw hag;exact Handed.cons (s:=.dat t) (d:=d) (f:=[]) hf1 ⟨rfl,h1,h2,by rw[e12];exact hr⟩ (ZfK.nil _ _ _) (Zfp r ss hI1 (ZF hf1.le _ _ hd.2) (hL.frz hf1) hk)
     ·exact hk.elim
    ·exact hk.elim
  ·exact hk.elim
 | .own e::r,ss,E,H,hI,vs,hd,gs,hL,K,hk=>by
  simp only[Ziu] at hk;split at hk
  ·rename_i s ss
   match vs,hd with
   | [],hd=>simp[Z6] at hd
   | v::vs,hd =>
    simp only[Z6] at hd;split at hk
    ·rename_i hc
     obtain ⟨hw,hag⟩:=hc;obtain ⟨E1,H1,d,f,hf1,hI1,hr,hk,hL1,hT,_⟩:=XA hI (QM hd.1 hw) hL hk;exact Handed.cons hf1 (s:=.own e) ⟨Zk5 hd.1 hw hag,hr⟩ hT (Zfp r ss hI1 (ZF hf1.le _ _ hd.2) hL1 hk)
    ·exact hk.elim
  ·exact hk.elim
 | .back e::r,ss,E,H,hI,vs,hd,gs,hL,K,hk=>by
  simp only[Ziu] at hk;split at hk
  ·rename_i s ss
   match vs,hd with
   | [],hd=>simp[Z6] at hd
   | v::vs,hd =>
    simp only[Z6] at hd;split at hk
    ·rename_i hc
     obtain ⟨hw,hag⟩:=hc;obtain ⟨E1,H1,d,f,hf1,hI1,hr,hk,hL1,hT,_⟩:=XA hI (QM hd.1 hw) hL hk;exact Handed.cons hf1 (s:=.back e) ⟨Zk5 hd.1 hw hag,hr⟩ hT (Zfp r ss hI1 (ZF hf1.le _ _ hd.2) hL1 hk)
    ·exact hk.elim
  ·exact hk.elim
 | .io e::r,ss,E,H,hI,vs,hd,gs,hL,K,hk=>by
  simp only[Ziu] at hk;split at hk
  ·rename_i id ss
   match vs,hd with
   | [],hd=>simp[Z6] at hd
   | v::vs,hd =>
    simp only[Z6] at hd;obtain ⟨en,he,hk⟩:=Yx H hk;split at hk
    ·rename_i cells
     rw[YH] at hk;have hv:=hd.1;simp only[den] at hv;obtain ⟨b,hb0,hv⟩:=hv;obtain ⟨b',cs0,T,e1,e2,e3⟩:=hI.ent id _ he;have:=hb0.symm.trans e1;simp at this;subst this;have t1:Frz E H E (H.set id .gone):=Frz.one he rfl hb0 rfl (Env.le.refl E) (λb hb=>.inl hb);have t3:=hL.take hI he rfl hb0 (f:=[b]) (by simp) (λg hg=>by
      simp at hg;subst hg;rfl)
     have t4:ZfK E H (H.set id .gone) [b]:=λg hg=>by
      simp at hg;subst hg;exact ⟨id,_,_,he,rfl,hb0,rfl,Zpt he⟩
     obtain ⟨E1,H1,d,f,hf1,hI1,hr,hk,hL1,hT,_⟩:=XA (hI.drop id) e3 t3 hk;refine Handed.cons (t1.trans hf1) (s:=.io e) (f:=b::f) ⟨b,cs0,T,f,hv,by rw[hf1.w];exact e2,hr,rfl⟩ ?_ (Zfp r ss hI1 (ZF hf1.le _ _ hd.2) (hL1.perm ?_) hk)
     ·exact ((t4.later hf1).append (ZfK.after t1 hT)).sub (λg hg=>by simpa using hg)
     ·simp only[UR,Uv]
      exact List.perm_middle
    ·exact hk.elim
  ·exact hk.elim
theorem Zjf {E:Env} {t:Ty} {v:Value} (hf:Zqn t v) {cs:List SV} (hd:Z6 E cs v.cells.toList) {K:SV->Prop} (hk:ZlK t cs K):∃ s,den E s v/\K s:=by
 unfold ZlK at hk;split at hk
 ·rename_i ha
  obtain ⟨cs',rfl⟩:=hf.1 ha;exact ⟨.agg _,by simp only[den];exact ⟨cs'.toList,by simp,hd⟩,hk⟩
 ·rename_i ha
  have hv:=hf.2 (by simpa using ha);split at hk
  ·rename_i c r
   rw[hv] at hd;simp only[Z6] at hd;exact ⟨c,hd.1,hk⟩
  ·exact hk.elim
theorem ZqF {E:Env} {t:Ty} {d:t.den} {v:Value} (h:ZsB E.S E.w t d v) {K:SV->Prop} (hk:ZlK t (ZcM t d) K):∃ s,den E s v/\K s:=by
 obtain ⟨h1,h2,h3⟩:=h;have hd:=YJ t d _ h3;unfold ZlK at hk;split at hk
 ·rename_i ha
  obtain ⟨cs,rfl⟩:=h1 ha;exact ⟨.agg _,by simp only[den];exact ⟨cs.toList,by simp,hd⟩,hk⟩
 ·rename_i ha
  have hv:=h2 (by simpa using ha);split at hk
  ·rename_i c r heq
   rw[heq,hv] at hd;simp only[Z6] at hd;exact ⟨c,hd.1,hk⟩
  ·exact hk.elim
theorem ZeU {B:Base} {E:Env}:∀ (e:Dp) (cs:List SV) (x:e.ty.den) {H:List Entry} (_:Inv B E H) {vs vr:List Value} (_:Z6 E cs (vs++vr)) {f gs:List Nat} (_:ZdX E.S E.w e x vs f) (_:Loose B E H (f++gs)) {K:List SV->List Entry->Prop} (_:Zcp e cs x H K),
  ∃ H' r,Inv B E H'/\Loose B E H' gs/\Z6 E r vr/\K r H'
 | .flat t,cs,x,H,hI,vs,vr,hd,f,gs,⟨hf,hr⟩,hL,K,hk=>by
  simp only[Zcp,JN] at hk;have hl:=YT t x vs hr;have:=QO _ _ hd t.size;rw[<-hl,Ko] at this;subst hf;exact ⟨H,_,hI,hL,this,by rw[hl];exact hk⟩
 | .ol et e,cs,d,H,hI,vs,vr,hd,f,gs,hr,hL,K,hk=>by
  have hr0:=hr;obtain ⟨v,xs,fps,ev,ho,hrs,ef⟩:=hr;subst ev;simp only[Zcp] at hk;split at hk
  ·rename_i r
   simp only[UR,Uv,Z6,den] at hd;obtain ⟨rfl,hd⟩:=hd;refine ⟨H,r,hI,?_,hd,hk⟩;rcases ho.2 with ⟨_,hn⟩ | ⟨g,cap,cur,o,hv,_⟩
   ·have:d=[]:=Us hn
    subst this;have:fps=[]:=hrs.2;subst this;rw[ef] at hL;simpa[Yj] using hL
   ·simp at hv
  ·rename_i id r
   simp only[UR,Uv,Z6,den] at hd;obtain ⟨⟨hid,_⟩,hd⟩:=hd;have hlt:id<H.length:=by
    have:=(Ua.1 hid).1;rw[<-hI.len];exact this
   obtain ⟨e1,h1,h2,h3,_⟩:=ZpV e hI hlt hid hr0 hL hk;exact ⟨_,r,h1,h2,hd,h3⟩
  ·exact hk.elim
 | .mp kt vt,cs,d,H,hI,vs,vr,hd,f,gs,⟨b,es,clk,e1,e2,hh,hr⟩,hL,K,hk=>by
  subst e1;simp only[Zcp] at hk;split at hk
  ·rename_i id r
   simp only[UR,Uv,Z6,den] at hd;obtain ⟨⟨hid,_⟩,hd⟩:=hd;rw[YH] at hk;have hlt:id<H.length:=by
    have:=(Ua.1 hid).1;rw[<-hI.len];exact this
   obtain ⟨h1,h2⟩:=hL.put hI hlt hid (.mpe kt vt d) (λ_ g hg=>by
    have hg:Yj (.map (some b))=some g:=hg;simp[Yj] at hg;rw[e2];simp[hg]) ⟨b,es,clk,hid,hh,hr⟩
   exact ⟨_,r,h1,h2,hd,hk⟩
  ·exact hk.elim
 | .pair a b,cs,d,H,hI,vs,vr,hd,f,gs,⟨v1,v2,f1,f2,ev,ef,h1,h2⟩,hL,K,hk=>by
  simp only[Zcp,X9] at hk;subst ev;subst ef;rw[Uj] at hd hL;obtain ⟨H1,r,hI1,hL1,hd1,hk⟩:=ZeU a cs d.1 hI hd h1 hL hk;exact ZeU b r d.2 hI1 hd1 h2 hL1 hk
theorem Zjs {B:Base}:∀ (l:List Sh) (ss:List SV) (ios:Ios l) {E:Env} {H:List Entry} (_:Inv B E H) {vs:List Value} (_:Z6 E ss vs) {fio gs:List Nat} (_:ZdG E.S E.w l ios vs fio) (_:Loose B E H (fio++gs)) {K:List Entry->Prop} (_:Zox l ss ios H K),
  ∃ E' H',E'.w=E.w/\E'.S=E.S/\Inv B E' H'/\E.le E'/\Loose B E' H' gs/\K H'
 | [],ss,ios,E,H,hI,vs,hd,fio,gs,hio,hL,K,hk=>by
  have:fio=[]:=hio;subst this;exact ⟨E,H,rfl,rfl,hI,Env.le.refl E,hL,hk⟩
 | .io e::r,ss,ios,E,H,hI,vs,hd,fio,gs,⟨v,vr,f,fr,ev,ef,⟨b,cs,T,f',a1,a2,a3,a4⟩,hio⟩,hL,K,hk=>by
  simp only[Zox] at hk;subst ev;subst ef;subst a4;subst a1;split at hk
  ·rename_i id ss
   simp only[Z6,den] at hd;obtain ⟨⟨b',hid,hb'⟩,hd⟩:=hd;simp at hb';subst hb';simp only[X9] at hk;have hL1:Loose B E H (f'++(b::(fr++gs))):=hL.perm (by
    simp only[UR,Uj];exact List.perm_middle.symm)
   obtain ⟨E1,H1,cells,hw1,hS1,hI1,hle1,hd1,hk,hL2,_⟩:=Qi e ios.1 hI a3 hL1 hk;rw[YH] at hk;have hid1:=hle1.ids _ _ hid;have hlt:id<H1.length:=by
    have:=(Ua.1 hid1).1;rw[<-hI1.len];exact this
   obtain ⟨hI2,hL3⟩:=Loose.put (f:=[b]) (gs:=fr++gs) hL2 hI1 hlt hid1 (.box cells) (λ_ g hg=>by
    have hg:some b=some g:=hg;simp at hg;simp[hg]) ⟨b,cs,T,hid1,by rw[hw1];exact a2,hd1⟩
   obtain ⟨E2,H2,hw2,hS2,hI3,hle2,hL4,hk⟩:=Zjs r ss ios.2 hI2 (ZF hle1 _ _ hd) (by rw[hS1,hw1];exact hio) hL3 hk;exact ⟨E2,H2,hw2.trans hw1,hS2.trans hS1,hI3,hle1.trans hle2,hL4,hk⟩
  ·exact hk.elim
 | .back e::r,ss,ios,E,H,hI,vs,hd,fio,gs,⟨v,vr,f,fr,ev,ef,⟨a1,a2⟩,hio⟩,hL,K,hk=>by
  simp only[Zox] at hk;subst ev;subst ef;split at hk
  ·rename_i s ss
   simp only[Z6] at hd;split at hk
   ·rename_i hw
    simp only[X9] at hk;rw[Uj] at hL;obtain ⟨H1,r',hI1,hL1,_,hk⟩:=ZeU e s.cells ios.1 hI (vs:=v.cells.toList) (vr:=[]) (by rw[Up];exact QM hd.1 hw) a2 hL hk;exact Zjs r ss ios.2 hI1 hd.2 hio hL1 hk
   ·exact hk.elim
  ·exact hk.elim
 | .dat _::r,ss,ios,E,H,hI,vs,hd,fio,gs,⟨v,vr,ev,hio⟩,hL,K,hk=>by
  simp only[Zox] at hk;subst ev;split at hk
  ·simp only[Z6] at hd
   exact Zjs r _ ios hI hd.2 hio hL hk
  ·exact hk.elim
 | .own _::r,ss,ios,E,H,hI,vs,hd,fio,gs,⟨v,vr,ev,hio⟩,hL,K,hk=>by
  simp only[Zox] at hk;subst ev;split at hk
  ·simp only[Z6] at hd
   exact Zjs r _ ios hI hd.2 hio hL hk
  ·exact hk.elim
theorem Zfy {B:Base}:∀ (l:List Sh) (rs:Shs l) (us:List Value) {E:Env} {H:List Entry} (_:Inv B E H) {fp gs:List Nat} (_:ZaY E.S E.w l rs us fp) (_:Loose B E H (fp++gs)) {K:List SV->List Entry->Prop} (_:Zh1 l rs H K),
  ∃ E' H' ss,E'.w=E.w/\E'.S=E.S/\Inv B E' H'/\E.le E'/\Z6 E' ss us/\K ss H'
 | [],rs,us,E,H,hI,fp,gs,hd,hL,K,hk=>by
  obtain ⟨rfl,rfl⟩:=hd;exact ⟨E,H,[],rfl,rfl,hI,Env.le.refl E,trivial,hk⟩
 | .dat t::r,rs,us,E,H,hI,fp,gs,⟨u,ur,f,fr,e,ef,⟨hf,h1⟩,h2⟩,hL,K,hk=>by
  subst e;subst hf;subst ef;simp only[Zh1,X9,YW] at hk;obtain ⟨s,hs,hk⟩:=ZqF h1 hk;obtain ⟨E',H',ss,hw,hS,hI',hle,hds,hk⟩:=Zfy r rs.2 ur hI h2 hL hk;exact ⟨E',H',s::ss,hw,hS,hI',hle,⟨Zdy hle s u hs,hds⟩,hk⟩
 | .own e::r,rs,us,E,H,hI,fp,gs,⟨u,ur,f,fr,ev,ef,⟨hform,h1⟩,h2⟩,hL,K,hk=>by
  subst ev;subst ef;simp only[Zh1,X9] at hk;rw[Uj] at hL;obtain ⟨E1,H1,cs,hw1,hS1,hI1,hle1,hd1,hk,hL1,_⟩:=Qi e rs.1 hI h1 hL hk;obtain ⟨s,hs,hk⟩:=Zjf hform hd1 hk;obtain ⟨E',H',ss,hw,hS,hI',hle,hds,hk⟩:=Zfy r rs.2 ur hI1 (by rw[hS1,hw1];exact h2) hL1 hk;exact ⟨E',H',s::ss,hw.trans hw1,hS.trans hS1,hI',hle1.trans hle,⟨Zdy hle s u hs,hds⟩,hk⟩
 | .back e::r,rs,us,E,H,hI,fp,gs,⟨u,ur,f,fr,ev,ef,⟨hform,h1⟩,h2⟩,hL,K,hk=>by
  subst ev;subst ef;simp only[Zh1,X9] at hk;rw[Uj] at hL;obtain ⟨E1,H1,cs,hw1,hS1,hI1,hle1,hd1,hk,hL1,_⟩:=Qi e rs.1 hI h1 hL hk;obtain ⟨s,hs,hk⟩:=Zjf hform hd1 hk;obtain ⟨E',H',ss,hw,hS,hI',hle,hds,hk⟩:=Zfy r rs.2 ur hI1 (by rw[hS1,hw1];exact h2) hL1 hk;exact ⟨E',H',s::ss,hw.trans hw1,hS.trans hS1,hI',hle1.trans hle,⟨Zdy hle s u hs,hds⟩,hk⟩
 | .io e::r,rs,us,E,H,hI,fp,gs,⟨u,ur,f,fr,ev,ef,⟨b,cs,T,f',a1,a2,a3,a4⟩,h2⟩,hL,K,hk=>by
  subst ev;subst ef;subst a4;subst a1;simp only[Zh1,X9] at hk;have hL1:Loose B E H (f'++(b::(fr++gs))):=hL.perm (by
   simp only[UR,Uj];exact List.perm_middle.symm)
  obtain ⟨E1,H1,cells,hw1,hS1,hI1,hle1,hd1,hk,hL2,_⟩:=Qi e rs.1 hI a3 hL1 hk;simp only[Zkz,Jy,Vz,UB] at hk;have hid:(E1.ids++[Value.pointer (some ⟨b,0,none⟩)])[H1.length]?=some (.pointer (some ⟨b,0,none⟩)):=by rw[<-hI1.len];simp
  have hle2:=ZfP E1 (.pointer (some ⟨b,0,none⟩));obtain ⟨hI2,hL3⟩:=Loose.push (f:=[b]) (gs:=fr++gs) hL2 hI1 (.pointer (some ⟨b,0,none⟩)) (.box cells) (λ_ g hg=>by
   have hg:some b=some g:=hg;simp at hg;simp[hg]) ⟨b,cs,T,hid,by show E1.w.heap[b]?=_;rw[hw1];exact a2,ZF hle2 _ _ hd1⟩
  obtain ⟨E',H',ss,hw,hS,hI',hle,hds,hk⟩:=Zfy r rs.2 ur hI2 (by
   show ZaY E1.S E1.w r rs.2 ur fr;rw[hS1,hw1];exact h2) hL3 hk
  refine ⟨E',H',.ptr H1.length 0::ss,hw.trans hw1,hS.trans hS1,hI',hle1.trans (hle2.trans hle),⟨Zdy hle _ _ ?_,hds⟩,hk⟩;simp only[den];exact ⟨b,hid,rfl⟩
theorem ZnE {E:Env} {ss:List SV} {us:List Value} (h:Z6 E ss us) {v:Value} (hv:retv us v) {K:SV->Prop} (hk:Zl0 ss K):∃ s,den E s v/\K s:=by
 unfold Zl0 at hk;unfold retv at hv;split at hk
 ·rename_i s
  match us,h with
  | [u],h=>simp only[Z6] at h;subst hv;exact ⟨s,h.1,hk⟩
  | [],h=>simp[Z6] at h
  | _::_::_,h=>simp[Z6] at h
 ·rename_i hne
  have hl:=Ym _ _ h;split at hv
  ·rename_i u
   match ss,hl with
   | [s],_=>exact absurd rfl (hne s)
  ·subst hv
   exact ⟨.tup ss,by simp only[den];exact ⟨us,rfl,h⟩,hk⟩
theorem Loose.behind {B:Base} {E:Env} {H:List Entry} {fp:List Nat} (hL:Loose B E H fp) (hI:Inv B E H) {w':World} {S0:Nat->Prop} (hk:Keeps ⟨E.w,S0,λb=>b∈fp,[]⟩ w') {S2:Nat->Prop} (hS:∀ b,E.S b->S2 b)
  (hS2:∀ b,S2 b->b<w'.heap.size/\(b<E.w.heap.size->E.S b\/b∈fp)) {l:List Nat} (hl:l.Nodup) (hfree:∀ g∈l,¬S2 g/\g<w'.heap.size/\(E.w.heap.size<=g\/g∈fp)) :
  E.le ⟨S2,w',E.ids⟩/\Inv B ⟨S2,w',E.ids⟩ H/\Loose B ⟨S2,w',E.ids⟩ H l:=by
 have hle:E.le ⟨S2,w',E.ids⟩:=⟨hS,λb hb=>hk.block b (hI.Slt b hb) (λhp=>(hL.free b hp).1 hb),λ_ _ hh=>hh⟩;refine ⟨hle,?_,hl,λg hg=>?_,λg hg j e v hj hlv hv hb=>?_⟩
 ·exact
   {keeps:=⟨hk.os.trans hI.keeps.os,hk.tape.trans hI.keeps.tape,hk.output.trans hI.keeps.output,U9 hI.keeps.size hk.size,λb hb hio =>
     (hk.block b (UA hb hI.keeps.size) (λhp=>by
      rcases (hL.free b hp).2.1 with h1 | h1
      ·omega
      ·exact hio h1)).trans (hI.keeps.block b hb hio)⟩
    Slt:=λb hb=>(hS2 b hb).1
    Sold:=λb hb hlt=>by
     rcases (hS2 b hb).2 (UA hlt hI.keeps.size) with h | h
     ·exact hI.Sold b h hlt
     ·rcases (hL.free b h).2.1 with h1 | h1
      ·omega
      ·exact .inr h1
    len:=hI.len
    pin:=hI.pin
    ent:=λj e hj=>Za7 hle j e (λhlv v g hv hb=>hk.block g (hI.free j e v g hj hlv hv hb).2.2 (λhp=>hL.apart g hp j e v hj hlv hv hb)) (hI.ent j e hj)
    free:=λj e v g hj hlv hv hb=>by
     obtain ⟨a,b,c⟩:=hI.free j e v g hj hlv hv hb;refine ⟨λhs=>?_,b,UA c hk.size⟩;rcases (hS2 g hs).2 c with h | h
     ·exact a h
     ·exact hL.apart g h j e v hj hlv hv hb
    sep:=hI.sep}
 ·obtain ⟨a,b,c⟩:=hfree g hg
  refine ⟨a,?_,b⟩;rcases c with c | c
  ·exact .inl (U9 hI.keeps.size c)
  ·exact (hL.free g c).2.1
 ·obtain ⟨_,_,c⟩:=hfree g hg
  rcases c with c | c
  ·have:=(hI.free j e v g hj hlv hv hb).2.2;omega
  ·exact hL.apart g c j e v hj hlv hv hb
def Za6:List Sh->Bool
 | []=>true
 | .dat _::r=>Za6 r
 | _::_=>false
theorem Zh3 {S:Nat->Prop} {w:World}:∀ (l:List Sh) (d:Shs l) (vs:List Value) (fp:List Nat),Za6 l=true->ZaY S w l d vs fp->fp=[]
 | [],_,_,_,_,h=>h.2
 | .dat _::r,_,_,_,hd,⟨v,vr,f,fr,e,ef,⟨h1,_⟩,h2⟩=>by rw[ef,h1,Zh3 r _ _ _ hd h2];rfl
 | .own _::_,_,_,_,h,_=>by simp[Za6] at h
 | .io _::_,_,_,_,h,_=>by simp[Za6] at h
 | .back _::_,_,_,_,h,_=>by simp[Za6] at h
def ZeF:List Sh->Bool
 | []=>true
 | .dat _::r=>ZeF r
 | .io (.flat _)::r=>ZeF r
 | _::_=>false
def Zg6:List Sh->List Bool
 | []=>[]
 | .io _::r=>true::Zg6 r
 | _::r=>false::Zg6 r
def pick {α:Type}:List Bool->List α->List α
 | true::m,x::r=>x::pick m r
 | false::m,_::r=>pick m r
 | _,_=>[]
theorem Zli {α β:Type} (f:α->β):∀ (m:List Bool) (l:List α),pick m (l.map f)=(pick m l).map f
 | [],l=>by cases l<;>rfl
 | true::m,[]=>rfl
 | false::m,[]=>rfl
 | true::m,x::r=>by simp only[Kb,pick,Zli f m r]
 | false::m,x::r=>by simp only[Kb,pick,Zli f m r]
theorem Zge {S:Nat->Prop} {w:World}:∀ (l:List Sh) (d:Shs l) (vs:List Value) (fp:List Nat),ZeF l=true->ZaY S w l d vs fp->∀ g∈fp,∃ v∈pick (Zg6 l) vs,Yj v=some g
 | [],_,_,_,_,h,g,hg=>by rw[h.2] at hg;cases hg
 | .dat _::r,_,_,_,hd,⟨v,vr,f,fr,e,ef,⟨h1,_⟩,h2⟩,g,hg=>by
  rw[ef,h1,Uv] at hg;rw[e];exact Zge r _ _ _ hd h2 g hg
 | .io (.flat t)::r,_,_,_,hd,⟨v,vr,f,fr,e,ef,⟨b,cs,T,f',hv,_,hr,hf⟩,h2⟩,g,hg=>by
  have hf':f'=[]:=hr.1;rw[ef,hf,hf'] at hg;rw[e];rcases UC.1 hg with hg | hg
  ·rw[UO] at hg
   exact ⟨v,by simp[Zg6,pick],by rw[hv,hg];rfl⟩
  ·obtain ⟨u,hu,hb⟩:=Zge r _ _ _ hd h2 g hg
   exact ⟨u,by simp only[Zg6,pick];exact List.mem_cons_of_mem _ hu,hb⟩
 | .io (.ol _ _)::_,_,_,_,h,_,_,_=>by simp[ZeF] at h
 | .io (.pair _ _)::_,_,_,_,h,_,_,_=>by simp[ZeF] at h
 | .io (.mp _ _)::_,_,_,_,h,_,_,_=>by simp[ZeF] at h
 | .own _::_,_,_,_,h,_,_,_=>by simp[ZeF] at h
 | .back _::_,_,_,_,h,_,_,_=>by simp[ZeF] at h
theorem Zqz {P:Program} {B:Base} {E:Env} {H:List Entry} (hI:Inv B E H) {f:FuncId} {C:Ctr} (hC:Za P f C) {ss:List SV} {vs:List Value} (hd:Z6 E ss vs)
  {K:SV->List Entry->Prop} (hk:ZrU C ss H K) :
  Calls P f vs.toArray E.w λe w'=>∃ v E' H' s,e=.returned v/\E'.w=w'/\Inv B E' H'/\E.le E'/\den E' s v/\K s H'/\(Za6 C.args=true->Grow E.w w')/\(ZeF C.args=true->∀ b,b<E.w.heap.size->(∀ v∈pick (Zg6 C.args) vs,Yj v≠some b)->w'.heap[b]?=E.w.heap[b]?):=by
 unfold ZrU at hk;obtain ⟨E1,H1,as,fp,hf1,hI1,has,hk,hL1,hT⟩:=Zfp C.args ss hI hd (Loose.none B E H) hk;rw[Up] at hL1;have hcall:=hC.2 E1.w E1.S vs as fp _ hI1.Slt has hL1.nodup (λg hg=>⟨(hL1.free g hg).1,(hL1.free g hg).2.2⟩) hk;rw[hf1.w] at hcall;refine hcall.mono ?_;rintro e w' ⟨v,us,rs,ios,S',fr,fio,he,hv,hk,hkeeps,hS1,hS2,hrets,hios,hnd,hfree⟩;have hgrow:Za6 C.args=true->Grow E.w w':=by
  intro hda b hb;refine hkeeps.block b hb ?_;rw[Zh3 _ _ _ _ hda has];simp
 have hstay:ZeF C.args=true->∀ b,b<E.w.heap.size->(∀ v∈pick (Zg6 C.args) vs,Yj v≠some b)->w'.heap[b]?=E.w.heap[b]?:=by
  intro hfl b hb hne;refine hkeeps.block b hb (λhm=>?_);obtain ⟨u,hu,hbu⟩:=Zge _ _ _ _ hfl has b hm;exact hne u hu hbu
 have fin:∀ (E0:Env) (H0:List Entry) (S2:Nat->Prop),E0.w=E.w->Inv B E0 H0->E.le E0->Loose B E0 H0 fp->(∀ b,E0.S b->S2 b)->(∀ b,S2 b->S' b)->(∀ b,S2 b->b<w'.heap.size/\(b<E.w.heap.size->E0.S b\/b∈fp))->
   ZaY S2 w' C.rets rs us fr->ZdG S2 w' C.args ios vs fio->
   (Zox C.args ss ios H0 λH2=>Zh1 C.rets rs H2 λss' H3=>Zl0 ss' λs=>K s H3)->
   ∃ v E' H' s,e=.returned v/\E'.w=w'/\Inv B E' H'/\E.le E'/\den E' s v/\K s H'/\(Za6 C.args=true->Grow E.w w')/\(ZeF C.args=true->∀ b,b<E.w.heap.size->(∀ v∈pick (Zg6 C.args) vs,Yj v≠some b)->w'.heap[b]?=E.w.heap[b]?):=by
  intro E0 H0 S2 hw0 hI0 hle0 hL0 hSa hSb hSc hr2 hi2 hk;obtain ⟨hleb,hI2,hL2⟩:=hL0.behind hI0 (w':=w') (S0:=E1.S) (by rw[hw0];exact hkeeps) (S2:=S2) hSa (by rw[hw0];exact hSc) hnd (λg hg=>by
   obtain ⟨a,b,c⟩:=hfree g hg;exact ⟨λhs=>a (hSb g hs),b,by rw[hw0];exact c⟩)
  obtain ⟨E2,H2,hw2,hS2',hI3,hle2,hL3,hk⟩:=Zjs C.args ss ios hI2 (ZF (hle0.trans hleb) _ _ hd) hi2 hL2 hk;obtain ⟨E3,H3,ss',hw3,hS3,hI4,hle3,hds,hk⟩:=Zfy C.rets rs us hI3 (gs:=[]) (by rw[hS2',hw2];exact hr2) (by rw[Up];exact hL3) hk;obtain ⟨s,hs,hk⟩:=ZnE hds hv hk;exact ⟨v,E3,H3,s,he,hw3.trans hw2,hI4,((hle0.trans hleb).trans hle2).trans hle3,hs,hk,hgrow,hstay⟩
 split at hk
 ·rename_i hflat
  simp only[Ul] at hflat;obtain ⟨hIr,hLr⟩:=ZmS hI hf1 hL1 hT;rw[ZlO] at hk;exact fin E (ZiE H H1) E.S rfl hIr (Env.le.refl E) hLr (λb h=>h) (λb h=>hS1 b (hf1.le.S b h)) (λb hb=>⟨UA (hI.Slt b hb) hkeeps.size,λ_=>.inl hb⟩)
   (Zhi _ hflat.1 _ _ _ hrets) (Zbi _ hflat.2 _ _ _ hios) hk
 ·exact fin E1 H1 S' hf1.w hI1 hf1.le hL1 hS1 (λb h=>h) (λb hb=>by
   obtain ⟨a,c⟩:=hS2 b hb;exact ⟨a,c⟩) hrets hios hk
mutual
def ranged (n:Nat):SV->Prop
 | .ptr id _=>id<n
 | .own id=>id<n
 | .mown id=>id<n
 | .oep id _ _ _=>id<n
 | .fptr cs=>ZaF n cs
 | .agg cs=>ZaF n cs
 | .tup cs=>ZaF n cs
 | .fn _ cs=>ZaF n cs
 | _=>True
def ZaF (n:Nat):List SV->Prop
 | []=>True
 | c::cs=>ranged n c/\ZaF n cs
end
mutual
theorem Zn0 {E:Env}:∀ (s:SV) (v:Value),den E s v->ranged E.ids.length s
 | .bot,_,_=>by simp only[ranged]
 | .int _ _,_,_=>by simp only[ranged]
 | .bool _,_,_=>by simp only[ranged]
 | .blit _,_,_=>by simp only[ranged]
 | .str _,_,_=>by simp only[ranged]
 | .sl _ _,_,_=>by simp only[ranged]
 | .nsl,_,_=>by simp only[ranged]
 | .nilp,_,_=>by simp only[ranged]
 | .nptr _ _,_,_=>by simp only[ranged]
 | .mp _ _ _,_,_=>by simp only[ranged]
 | .mown id,_,h=>by simp only[den] at h;simp only[ranged];exact (Ua.1 h.1).1
 | .ptr id _,_,h=>by simp only[den] at h;obtain ⟨b,e,_⟩:=h;simp only[ranged];exact (Ua.1 e).1
 | .own id,_,h=>by simp only[den] at h;simp only[ranged];exact (Ua.1 h.1).1
 | .oep id _ _ _,_,h=>by simp only[den] at h;obtain ⟨b,bo,n,c,e,_⟩:=h;simp only[ranged];exact (Ua.1 e).1
 | .fptr cs,_,h=>by simp only[den] at h;obtain ⟨p,vs,_,_,_,_,h⟩:=h;simp only[ranged];exact Q8 cs vs h
 | .agg cs,_,h=>by simp only[den] at h;obtain ⟨vs,_,h⟩:=h;simp only[ranged];exact Q8 cs vs h
 | .tup cs,_,h=>by simp only[den] at h;obtain ⟨vs,_,h⟩:=h;simp only[ranged];exact Q8 cs vs h
 | .fn _ cs,_,h=>by simp only[den] at h;obtain ⟨vs,_,h⟩:=h;simp only[ranged];exact Q8 cs vs h
theorem Q8 {E:Env}:∀ (cs:List SV) (vs:List Value),Z6 E cs vs->ZaF E.ids.length cs
 | [],_,_=>by simp only[ZaF]
 | c::cs,v::vs,h=>by simp only[Z6] at h;simp only[ZaF];exact ⟨Zn0 c v h.1,Q8 cs vs h.2⟩
 | _::_,[],h=>by simp[Z6] at h
end
mutual
theorem Zo6 {E:Env} {n:Nat}:∀ (s:SV) (v:Value),ranged n s->den E s v->den ⟨E.S,E.w,E.ids.take n⟩ s v
 | .bot,_,_,h=>h
 | .int _ _,_,_,h=>h
 | .bool _,_,_,h=>h
 | .blit _,_,_,h=>h
 | .str _,_,_,h=>h
 | .sl _ _,_,_,h=>h
 | .nsl,_,_,h=>h
 | .nilp,_,_,h=>h
 | .nptr _ _,_,_,h=>h
 | .mp _ _ _,_,_,h=>h
 | .mown id,_,hs,h=>by
  simp only[den] at h ⊢;simp only[ranged] at hs;exact ⟨by rw[Uw,Uf hs];exact h.1,h.2⟩
 | .ptr id _,_,hs,h=>by
  simp only[den] at h ⊢;simp only[ranged] at hs;obtain ⟨b,e,e2⟩:=h;exact ⟨b,by rw[Uw,Uf hs];exact e,e2⟩
 | .own id,_,hs,h=>by
  simp only[den] at h ⊢;simp only[ranged] at hs;exact ⟨by rw[Uw,Uf hs];exact h.1,h.2⟩
 | .oep id _ _ _,_,hs,h=>by
  simp only[den] at h ⊢;simp only[ranged] at hs;obtain ⟨b,bo,m,c,e,e2⟩:=h;exact ⟨b,bo,m,c,by rw[Uw,Uf hs];exact e,e2⟩
 | .fptr cs,_,hs,h=>by
  simp only[den] at h ⊢;simp only[ranged] at hs;obtain ⟨p,vs,a,b,c,d,h⟩:=h;exact ⟨p,vs,a,b,c,d,VY cs vs hs h⟩
 | .agg cs,_,hs,h=>by simp only[den] at h ⊢;simp only[ranged] at hs;obtain ⟨vs,a,h⟩:=h;exact ⟨vs,a,VY cs vs hs h⟩
 | .tup cs,_,hs,h=>by simp only[den] at h ⊢;simp only[ranged] at hs;obtain ⟨vs,a,h⟩:=h;exact ⟨vs,a,VY cs vs hs h⟩
 | .fn _ cs,_,hs,h=>by simp only[den] at h ⊢;simp only[ranged] at hs;obtain ⟨vs,a,h⟩:=h;exact ⟨vs,a,VY cs vs hs h⟩
theorem VY {E:Env} {n:Nat}:∀ (cs:List SV) (vs:List Value),ZaF n cs->Z6 E cs vs->Z6 ⟨E.S,E.w,E.ids.take n⟩ cs vs
 | [],[],_,_=>trivial
 | c::cs,v::vs,hs,h=>by simp only[Z6] at h ⊢;simp only[ZaF] at hs;exact ⟨Zo6 c v hs.1 h.1,VY cs vs hs.2 h.2⟩
 | _::_,[],_,h=>by simp[Z6] at h
 | [],_::_,_,h=>by simp[Z6] at h
end
def ZmA (n:Nat):Entry->Prop
 | .box cells=>ZaF n cells
 | .fbx cells=>ZaF n cells
 | .hole _ _ _ _ cells _=>ZaF n cells
 | .hsp _ _ _ _ cells _=>ZaF n cells
 | _=>True
theorem Zmz {E:Env} {i:Nat} {e:Entry} (h:Znf E i e):ZmA E.ids.length e:=by
 cases e with
 | box cells=>obtain ⟨b,cs,T,_,_,h⟩:=h;exact Q8 _ _ h
 | fbx cells=>obtain ⟨b,cs,T,_,_,_,h⟩:=h;exact Q8 _ _ h
 | hole et e d i cells fp=>obtain ⟨_,_,_,_,_,_,_,_,_,_,_,_,_,_,_,_,h,_⟩:=h;exact Q8 _ _ h
 | hsp et e d i cells fp=>obtain ⟨_,_,_,_,_,_,_,_,_,_,_,_,_,_,_,h,_⟩:=h;exact Q8 _ _ h
 | _=>trivial
theorem Inv.trunc {B:Base} {E:Env} {H:List Entry} (h:Inv B E H) (n:Nat) (hn:B.pin.length<=n) (hs:∀ e∈H.take n,ZmA n e):Inv B ⟨E.S,E.w,E.ids.take n⟩ (H.take n):=by
 have hH:∀ (i:Nat) (e:Entry),(H.take n)[i]?=some e->i<n/\H[i]?=some e:=by
  intro i e hi;rw[Uw] at hi;split at hi
  ·exact ⟨‹_›,hi⟩
  ·cases hi
 have hid:∀ (i:Nat) (v:Value),i<n->E.ids[i]?=some v->(E.ids.take n)[i]?=some v:=by
  intro i v hi hv;rw[Uw,Uf hi];exact hv
 have hid':∀ (i:Nat) (v:Value),(E.ids.take n)[i]?=some v->E.ids[i]?=some v:=by
  intro i v hv;rw[Uw] at hv;split at hv
  ·exact hv
  ·cases hv
 exact
  {keeps:=h.keeps,Slt:=h.Slt,Sold:=h.Sold,len:=by simp[h.len]
   pin:=λi v hv=>hid i v (UA (Ua.1 hv).1 hn) (h.pin i v hv)
   ent:=λi e hi=>by
    have hmem:=Ui hi;obtain ⟨hlt,hi'⟩:=hH i e hi;have he:=h.ent i e hi';cases e with
    | gone=>trivial
    | box cells =>
     obtain ⟨b,cs,T,a1,a2,a3⟩:=he;exact ⟨b,cs,T,hid _ _ hlt a1,a2,VY _ _ (hs _ hmem) a3⟩
    | arr et t d=>obtain ⟨v,xs,a1,a2,a3⟩:=he;exact ⟨v,xs,hid _ _ hlt a1,a2,a3⟩
    | frz t d=>obtain ⟨v,a1,a2⟩:=he;exact ⟨v,hid _ _ hlt a1,a2⟩
    | mpe k v d=>obtain ⟨b,es,clk,a1,a2⟩:=he;exact ⟨b,es,clk,hid _ _ hlt a1,a2⟩
    | frm k v d=>obtain ⟨u,a1,a2⟩:=he;exact ⟨u,hid _ _ hlt a1,a2⟩
    | fbx cells =>
     obtain ⟨b,cs,T,a1,aS,a2,a3⟩:=he;exact ⟨b,cs,T,hid _ _ hlt a1,aS,a2,VY _ _ (hs _ hmem) a3⟩
    | darr et e d fp=>obtain ⟨v,xs,fps,a1,a2⟩:=he;exact ⟨v,xs,fps,hid _ _ hlt a1,a2⟩
    | hole et e d i cells fp =>
     obtain ⟨v,xs,x1,vx,x2,f1,f2,a1,a2,a3,a4,a5,a6,a7,a8,a9,a10,a11⟩:=he;exact ⟨v,xs,x1,vx,x2,f1,f2,hid _ _ hlt a1,a2,a3,a4,a5,a6,a7,a8,a9,VY _ _ (hs _ hmem) a10,a11⟩
    | spl et e d n fp=>obtain ⟨v,a1,a2⟩:=he;exact ⟨v,hid _ _ hlt a1,a2⟩
    | hsp et e d i cells fp =>
     obtain ⟨v,xs,x1,vx,x2,f1,a1,a2,a3,a4,a5,a6,a7,a8,a9,a10,a11⟩:=he;exact ⟨v,xs,x1,vx,x2,f1,hid _ _ hlt a1,a2,a3,a4,a5,a6,a7,a8,a9,VY _ _ (hs _ hmem) a10,a11⟩
   free:=λi e v g hi hl hv hb=>h.free i e v g (hH i e hi).2 hl (hid' _ _ hv) hb
   sep:=λi j ei ej vi vj g hi hj hli hlj hvi hvj=>h.sep i j ei ej vi vj g (hH i ei hi).2 (hH j ej hj).2 hli hlj (hid' _ _ hvi) (hid' _ _ hvj)}
inductive Loc
 | reg (r:Nat) (s:Sh)
 | cell (id off:Nat) (t:Ty)
 | cello (id off:Nat) (e:Dp)
 | ent (id:Nat) (et:TypeId) (e:Dp)
 | entm (id:Nat) (k v:Ty)
 | splt (id:Nat) (et:TypeId) (e:Dp)
def Loc.ZsM (n:Nat):Loc->Prop
 | .ent id _ _=>id<n
 | .entm id _ _=>id<n
 | .splt id _ _=>id<n
 | _=>True
@[reducible] def Loc.den:Loc->Type
 | .reg _ s=>s.den
 | .cell _ _ t=>t.den
 | .cello _ _ e=>e.ty.den
 | .ent _ _ e=>List e.ty.den
 | .entm _ k v=>List (k.den×v.den)
 | .splt _ _ e=>List e.ty.den×Int
@[reducible] def Zmr:List Loc->Type
 | []=>Unit
 | l::r=>l.den×Zmr r
def Zd7:(ls:List Loc)->List SV->List Entry->(Zmr ls->List Entry->Prop)->Prop
 | [],_,H,K=>K () H
 | .reg r (.dat t)::q,regs,H,K=>Ziw regs r λs=>XO [s] H λcs H1=>YS t cs λd rest=>match rest with
   | []=>Zd7 q regs H1 λds H2=>K (d,ds) H2
   | _=>False
 | .reg r (.own e)::q,regs,H,K=>Ziw regs r λs=>if s.whole=true/\e.ty.agg=s.isAgg then closeAll e s.cells H λd H1=>Zd7 q regs H1 λds H2=>K (d,ds) H2 else False
 | .reg _ (.io _)::_,_,_,_=>False
 | .reg _ (.back _)::_,_,_,_=>False
 | .cell id off t::q,regs,H,K=>Zdz H id λe=>match e with
   | .box cells=>Ziw cells off λs=>XO [s] H λcs H1=>YS t cs λd rest=>match rest with
    | []=>Zd7 q regs H1 λds H2=>K (d,ds) H2
    | _=>False
   | _=>False
 | .cello id off e::q,regs,H,K=>Zdz H id λen=>match en with
   | .box cells=>Ziw cells off λs=>closeAll e [s] H λd H1=>Zd7 q regs H1 λds H2=>K (d,ds) H2
   | _=>False
 | .ent id et e::q,regs,H,K=>closeAll (.ol et e) [.own id] H λd H1=>Zd7 q regs H1 λds H2=>K (d,ds) H2
 | .entm id k v::q,regs,H,K=>closeAll (.mp k v) [.mown id] H λd H1=>Zd7 q regs H1 λds H2=>K (d,ds) H2
 | .splt id et e::q,regs,H,K=>ZoV et e id H λd n H1=>Zd7 q regs H1 λds H2=>K ((d,n),ds) H2
def ZtX (t:Ty) (d:t.den) (K:SV->Prop):Prop:=XG t d λcs=>match cs with
 | [c]=>K c
 | _=>False
def Zlz:(ls:List Loc)->Zmr ls->List SV->List Entry->(List SV->List Entry->Prop)->Prop
 | [],_,regs,H,K=>K regs H
 | .reg r (.dat t)::q,v,regs,H,K=>splitK v λx v'=>ZtX t x λc=>Zom regs r c λregs'=>Zlz q v' regs' H K
 | .reg r (.own e)::q,v,regs,H,K=>splitK v λx v'=>Xx e x H λcs H1=>ZlK e.ty cs λs=>Zom regs r s λregs'=>Zlz q v' regs' H1 K
 | .reg _ (.io _)::_,_,_,_,_=>False
 | .reg _ (.back _)::_,_,_,_,_=>False
 | .cell id off t::q,v,regs,H,K=>splitK v λx v'=>ZtX t x λc=>Zdz H id λe=>match e with
   | .box cells=>Zom cells off c λcells'=>Zea H id (.box cells') λH'=>Zlz q v' regs H' K
   | _=>False
 | .cello id off e::q,v,regs,H,K=>splitK v λx v'=>Xx e x H λcs H1=>match cs with
   | [s]=>Zdz H1 id λen=>match en with
    | .box cells=>Zom cells off s λcells'=>Zea H1 id (.box cells') λH'=>Zlz q v' regs H' K
    | _=>False
   | _=>False
 | .ent id et e::q,v,regs,H,K=>splitK v λx v'=>Zsj et e id x H λH'=>Zlz q v' regs H' K
 | .entm id k u::q,v,regs,H,K=>splitK v λx v'=>Zea H id (.mpe k u x) λH'=>Zlz q v' regs H' K
 | .splt id et e::q,v,regs,H,K=>splitK v λx v'=>∀ fp:List Nat,Zea H id (.spl et e x.1 x.2 fp) λH'=>Zlz q v' regs H' K
def ZiB:List Loc->List Entry->(List Entry->Prop)->Prop
 | [],H,K=>K H
 | .cell id off _::q,H,K=>Zdz H id λe=>match e with
   | .box cells=>Zom cells off .bot λcells'=>Zea H id (.box cells') λH'=>ZiB q H' K
   | _=>False
 | .cello id off _::q,H,K=>Zdz H id λe=>match e with
   | .box cells=>Zom cells off .bot λcells'=>Zea H id (.box cells') λH'=>ZiB q H' K
   | _=>False
 | .reg _ _::q,H,K=>ZiB q H K
 | .ent _ _ _::q,H,K=>ZiB q H K
 | .entm _ _ _::q,H,K=>ZiB q H K
 | .splt _ _ _::q,H,K=>ZiB q H K
def Zoa:List Nat->List SV->(List SV->Prop)->Prop
 | [],regs,K=>K regs
 | r::q,regs,K=>Zom regs r .bot λregs'=>Zoa q regs' K
def Zfb:List Loc->List Nat->(List Nat->Prop)->Prop
 | [],W,K=>K W
 | .reg r _::q,W,K=>Zfb q W λW'=>K (r::W')
 | .cell _ _ _::q,W,K=>Zfb q W K
 | .cello _ _ _::q,W,K=>Zfb q W K
 | .ent _ _ _::q,W,K=>Zfb q W K
 | .entm _ _ _::q,W,K=>Zfb q W K
 | .splt _ _ _::q,W,K=>Zfb q W K
theorem Zlc {E:Env}:∀ (W:List Nat) (regs:List SV) (vs:List Value),Z6 E regs vs->∀ {K:List SV->Prop},Zoa W regs K->∃ regs',Z6 E regs' vs/\K regs'
 | [],regs,vs,hd,K,hk=>⟨regs,hd,hk⟩
 | r::W,regs,vs,hd,K,hk=>by
  simp only[Zoa,Zb1] at hk;have hd':Z6 E (regs.set r .bot) vs:=by
   by_cases hr:r<vs.length
   ·have:=Zca _ _ hd r .bot vs[r] (by simp only[den])
    simpa using this
   ·have hl:=Ym _ _ hd
    rw[List.set_eq_of_length_le (by omega)];exact hd
  exact Zlc W _ vs hd' hk
theorem Inv.weaken {B:Base} {E:Env} {H:List Entry} (h:Inv B E H) {id:Nat} {cells cells':List SV} (hi:H[id]?=some (.box cells)) (hc:∀ b cs T,E.ids[id]?=some (.pointer (some ⟨b,0,none⟩))->E.w.heap[b]?=some (.cells cs T (0,0))->Z6 E cells cs.toList->Z6 E cells' cs.toList) :
  Inv B E (H.set id (.box cells')):=by
 have hlt:id<H.length:=(Ua.1 hi).1;have old:∀ (j:Nat) (e:Entry),(H.set id (.box cells'))[j]?=some e->∃ e0,H[j]?=some e0/\(e.live=true->e0.live=true)/\(j≠id->e=e0)/\(j=id->e=.box cells'/\e0=.box cells)/\(∀ v g,ZdW e v g->ZdW e0 v g):=by
  intro j e hj;by_cases hji:id=j
  ·subst hji
   rw[Uz hlt] at hj;simp at hj;subst hj;exact ⟨_,hi,λ_=>rfl,λhne=>absurd rfl hne,λ_=>⟨rfl,rfl⟩,λv g h=>h⟩
  ·rw[Ux hji] at hj
   exact ⟨e,hj,λh=>h,λ_=>rfl,λe=>absurd e.symm hji,λv g h=>h⟩
 exact
  {keeps:=h.keeps,Slt:=h.Slt,Sold:=h.Sold,len:=by simp[h.len],pin:=h.pin
   ent:=λj e hj=>by
    obtain ⟨e0,hj0,_,hne,heq,_⟩:=old j e hj;by_cases hji:j=id
    ·obtain ⟨rfl,rfl⟩:=heq hji
     obtain ⟨b,cs,T,a1,a2,a3⟩:=h.ent j _ hj0;subst hji;exact ⟨b,cs,T,a1,a2,hc b cs T a1 a2 a3⟩
    ·rw[hne hji];exact h.ent j e0 hj0
   free:=λj e v g hj hl hv hb=>by
    obtain ⟨e0,hj0,hl0,_,_,hb0⟩:=old j e hj;exact h.free j e0 v g hj0 (hl0 hl) hv (hb0 v g hb)
   sep:=λi j ei ej vi vj g hi' hj' hli hlj hvi hvj hbi hbj=>by
    obtain ⟨e0,hi0,hl0,_,_,hb0⟩:=old i ei hi';obtain ⟨e1,hj1,hl1,_,_,hb1⟩:=old j ej hj';exact h.sep i j e0 e1 vi vj g hi0 hj1 (hl0 hli) (hl1 hlj) hvi hvj (hb0 vi g hbi) (hb1 vj g hbj)}
theorem Zih {E:Env} {cells:List SV} {vs:List Value} (hd:Z6 E cells vs) (off:Nat):Z6 E (cells.set off .bot) vs:=by
 by_cases hr:off<vs.length
 ·have:=Zca _ _ hd off .bot vs[off] (by simp only[den])
  simpa using this
 ·have hl:=Ym _ _ hd
  rw[List.set_eq_of_length_le (by omega)];exact hd
def Qu (B:Base) (E:Env) (H:List Entry) (vs:List Value):(ls:List Loc)->Zmr ls->List Nat->Prop
 | [],_,gs=>gs=[]
 | .reg r (.dat t)::q,v,gs=>(∃ u,vs[r]?=some u/\rep E.S E.w t v.1 [u])/\Qu B E H vs q v.2 gs
 | .reg r (.own e)::q,v,gs=>∃ u f g1,vs[r]?=some u/\Zqn e.ty u/\ZdX E.S E.w e v.1 u.cells.toList f/\gs=f++g1/\Qu B E H vs q v.2 g1
 | .reg _ (.io _)::_,_,_=>False
 | .reg _ (.back _)::_,_,_=>False
 | .cell id off t::q,v,gs=>(∃ b cs T cells u,H[id]?=some (.box cells)/\E.ids[id]?=some (.pointer (some ⟨b,0,none⟩))/\E.w.heap[b]?=some (.cells cs T (0,0))/\cs.toList[off]?=some u/\rep E.S E.w t v.1 [u])/\
   Qu B E H vs q v.2 gs
 | .cello id off e::q,v,gs=>∃ b cs T cells u f g1,H[id]?=some (.box cells)/\E.ids[id]?=some (.pointer (some ⟨b,0,none⟩))/\E.w.heap[b]?=some (.cells cs T (0,0))/\cs.toList[off]?=some u/\
   ZdX E.S E.w e v.1 [u] f/\gs=f++g1/\Qu B E H vs q v.2 g1
 | .ent id et e::q,v,gs=>∃ u f g1,id<H.length/\E.ids[id]?=some u/\(∀ c,H[id]?≠some (.box c))/\ZdX E.S E.w (.ol et e) v.1 [u] f/\gs=f++g1/\Qu B E H vs q v.2 g1
 | .entm id k t::q,v,gs=>∃ u f g1,id<H.length/\E.ids[id]?=some u/\(∀ c,H[id]?≠some (.box c))/\ZdX E.S E.w (.mp k t) v.1 [u] f/\gs=f++g1/\Qu B E H vs q v.2 g1
 | .splt id et e::q,v,gs=>∃ u f g1,id<H.length/\E.ids[id]?=some u/\(∀ c,H[id]?≠some (.box c))/\ZsZ E.S E.w et e v.1.1 v.1.2 u f/\gs=f++g1/\Qu B E H vs q v.2 g1
def Boxed (H H':List Entry):Prop:=H'.length=H.length/\(∀ (i:Nat) (c:List SV),H[i]?=some (.box c)->∃ c',H'[i]?=some (.box c'))/\∀ (i:Nat) (c:List SV),H'[i]?=some (.box c)->∃ c',H[i]?=some (.box c')
theorem Boxed.refl (H:List Entry):Boxed H H:=⟨rfl,λ_ c h=>⟨c,h⟩,λ_ c h=>⟨c,h⟩⟩
theorem Boxed.trans {A C D:List Entry} (h:Boxed A C) (k:Boxed C D):Boxed A D :=
 ⟨k.1.trans h.1,λi c hi=>by obtain ⟨c',h'⟩:=h.2.1 i c hi;exact k.2.1 i c' h',λi c hi=>by obtain ⟨c',h'⟩:=k.2.2 i c hi;exact h.2.2 i c' h'⟩
theorem Boxed.frz {E E':Env} {H H':List Entry} (h:Frz E H E' H') (hb:∀ (i:Nat) (c:List SV),H[i]?=some (.box c)->H'[i]?=some (.box c)):Boxed H H' :=
 ⟨h.len,λi c hi=>⟨c,hb i c hi⟩,λi c hi=>⟨c,h.box i c hi⟩⟩
theorem Boxed.Zhh {H:List Entry} {id:Nat} {c0 c1:List SV} (h:H[id]?=some (.box c0)):Boxed H (H.set id (.box c1)):=by
 have hlt:=(Ua.1 h).1;refine ⟨by simp,λi c hi=>?_,λi c hi=>?_⟩
 ·by_cases hii:id=i
  ·subst hii;exact ⟨_,Uz hlt⟩
  ·exact ⟨c,by rw[Ux hii];exact hi⟩
 ·by_cases hii:id=i
  ·subst hii;exact ⟨_,h⟩
  ·rw[Ux hii] at hi;exact ⟨c,hi⟩
theorem Boxed.Zso {H:List Entry} {id:Nat} {e1:Entry} (h:∀ c,H[id]?≠some (.box c)) (h1:∀ c,e1≠.box c):Boxed H (H.set id e1):=by
 refine ⟨by simp,λi c hi=>?_,λi c hi=>?_⟩
 ·by_cases hii:id=i
  ·subst hii;exact absurd hi (h c)
  ·exact ⟨c,by rw[Ux hii];exact hi⟩
 ·by_cases hii:id=i
  ·subst hii
   have hlt:id<H.length:=by have:=(Ua.1 hi).1;simpa using this
   rw[Uz hlt] at hi;simp at hi;exact absurd hi (h1 c)
  ·rw[Ux hii] at hi;exact ⟨c,hi⟩
theorem QW {B:Base} {E E':Env} {H H':List Entry} (hw:E'.w=E.w) (hS:∀ b,E.S b->E'.S b) (hids:∀ (i:Nat) (v:Value),i<H'.length->E.ids[i]?=some v->E'.ids[i]?=some v) {vs:List Value}
  (hbox:∀ (i:Nat) (c:List SV),H[i]?=some (.box c)->i<H'.length->∃ c',H'[i]?=some (.box c')) (hno:∀ (i:Nat) (c:List SV),H'[i]?=some (.box c)->∃ c',H[i]?=some (.box c')) :
  ∀ (ls:List Loc) (v:Zmr ls) (gs:List Nat),(∀ id off t,Loc.cell id off t∈ls->id<H'.length)->(∀ id off e,Loc.cello id off e∈ls->id<H'.length)->(∀ l∈ls,l.ZsM H'.length)->Qu B E H vs ls v gs->Qu B E' H' vs ls v gs
 | [],_,_,_,_,_,h=>h
 | .reg _ (.dat t)::q,v,gs,p1,p2,p3,⟨⟨u,a,b⟩,h⟩=>⟨⟨u,a,Yd hS (λ_ _=>by rw[hw]) t _ _ b⟩,QW hw hS hids hbox hno q v.2 gs (λi o t h=>p1 i o t (by simp[h])) (λi o t h=>p2 i o t (by simp[h])) (λl h=>p3 l (by simp[h])) h⟩
 | .reg _ (.own e)::q,v,gs,p1,p2,p3,⟨u,f,g1,a,b,c,d,h⟩=>⟨u,f,g1,a,b,Yi hS (λ_ _=>by rw[hw]) e _ _ _ (λg _=>by rw[hw]) c,d,QW hw hS hids hbox hno q v.2 g1 (λi o t h=>p1 i o t (by simp[h])) (λi o t h=>p2 i o t (by simp[h])) (λl h=>p3 l (by simp[h])) h⟩
 | .cell id off t::q,v,gs,p1,p2,p3,⟨⟨b,cs,T,cells,u,a1,a2,a3,a4,a5⟩,h⟩=>by
  have hlt:=p1 id off t (by simp);obtain ⟨c',hc'⟩:=hbox id _ a1 hlt;exact ⟨⟨b,cs,T,c',u,hc',hids _ _ hlt a2,by rw[hw];exact a3,a4,Yd hS (λ_ _=>by rw[hw]) t _ _ a5⟩,QW hw hS hids hbox hno q v.2 gs (λi o t h=>p1 i o t (by simp[h])) (λi o t h=>p2 i o t (by simp[h])) (λl h=>p3 l (by simp[h])) h⟩
 | .cello id off e::q,v,gs,p1,p2,p3,⟨b,cs,T,cells,u,f,g1,a1,a2,a3,a4,a5,a6,h⟩=>by
  have hlt:=p2 id off e (by simp);obtain ⟨c',hc'⟩:=hbox id _ a1 hlt;exact ⟨b,cs,T,c',u,f,g1,hc',hids _ _ hlt a2,by rw[hw];exact a3,a4,Yi hS (λ_ _=>by rw[hw]) e _ _ _ (λg _=>by rw[hw]) a5,a6,QW hw hS hids hbox hno q v.2 g1 (λi o t h=>p1 i o t (by simp[h])) (λi o t h=>p2 i o t (by simp[h])) (λl h=>p3 l (by simp[h])) h⟩
 | .ent id et e::q,v,gs,p1,p2,p3,⟨u,f,g1,a1,a2,a3,a4,a5,h⟩=>by
  have hlt:id<H'.length:=p3 _ U3;exact ⟨u,f,g1,hlt,hids _ _ hlt a2,λc hc=>by obtain ⟨c',hc'⟩:=hno id c hc;exact a3 c' hc',Yi hS (λ_ _=>by rw[hw]) (.ol et e) _ _ _ (λg _=>by rw[hw]) a4,a5,QW hw hS hids hbox hno q v.2 g1 (λi o t h=>p1 i o t (by simp[h])) (λi o t h=>p2 i o t (by simp[h])) (λl h=>p3 l (by simp[h])) h⟩
 | .entm id k t::q,v,gs,p1,p2,p3,⟨u,f,g1,a1,a2,a3,a4,a5,h⟩=>by
  have hlt:id<H'.length:=p3 _ U3;exact ⟨u,f,g1,hlt,hids _ _ hlt a2,λc hc=>by obtain ⟨c',hc'⟩:=hno id c hc;exact a3 c' hc',Yi hS (λ_ _=>by rw[hw]) (.mp k t) _ _ _ (λg _=>by rw[hw]) a4,a5,QW hw hS hids hbox hno q v.2 g1 (λi o t h=>p1 i o t (by simp[h])) (λi o t h=>p2 i o t (by simp[h])) (λl h=>p3 l (by simp[h])) h⟩
 | .splt id et e::q,v,gs,p1,p2,p3,⟨u,f,g1,a1,a2,a3,a4,a5,h⟩=>by
  have hlt:id<H'.length:=p3 _ U3;exact ⟨u,f,g1,hlt,hids _ _ hlt a2,λc hc=>by obtain ⟨c',hc'⟩:=hno id c hc;exact a3 c' hc',ZjE hS (λ_ _=>by rw[hw]) (λg _=>by rw[hw]) a4,a5,QW hw hS hids hbox hno q v.2 g1 (λi o t h=>p1 i o t (by simp[h])) (λi o t h=>p2 i o t (by simp[h])) (λl h=>p3 l (by simp[h])) h⟩
def ZsU (n:Nat) (ls:List Loc):Prop:=(∀ id off t,Loc.cell id off t∈ls->id<n)/\(∀ id off e,Loc.cello id off e∈ls->id<n)/\∀ l∈ls,l.ZsM n
theorem Zan {B:Base} {E:Env} {H:List Entry} {vs:List Value}:∀ (ls:List Loc) (v:Zmr ls) (gs:List Nat),Qu B E H vs ls v gs->ZsU H.length ls
 | [],_,_,_=>⟨λ_ _ _ h=>by simp at h,λ_ _ _ h=>by simp at h,λ_ h=>by simp at h⟩
 | .reg _ (.dat t)::q,v,gs,⟨_,h⟩=>by
  obtain ⟨a,b,c⟩:=Zan q v.2 gs h;exact ⟨λi o t h=>a i o t (by simpa using h),λi o t h=>b i o t (by simpa using h),λl h=>(Uo.1 h).elim (λe=>by subst e;trivial) (c l)⟩
 | .reg _ (.own e)::q,v,gs,⟨_,_,g1,_,_,_,_,h⟩=>by
  obtain ⟨a,b,c⟩:=Zan q v.2 g1 h;exact ⟨λi o t h=>a i o t (by simpa using h),λi o t h=>b i o t (by simpa using h),λl h=>(Uo.1 h).elim (λe=>by subst e;trivial) (c l)⟩
 | .reg _ (.io _)::_,_,_,h=>by simp only[Qu] at h
 | .reg _ (.back _)::_,_,_,h=>by simp only[Qu] at h
 | .cell id off t::q,v,gs,⟨⟨_,_,_,_,_,a1,_⟩,h⟩=>by
  obtain ⟨a,b,c⟩:=Zan q v.2 gs h;refine ⟨λi o t' h'=>?_,λi o t h=>b i o t (by simpa using h),λl h=>(Uo.1 h).elim (λe=>by subst e;trivial) (c l)⟩;rcases Uo.1 h' with e | h'
  ·injection e with e1 e2 e3;subst e1;exact (Ua.1 a1).1
  ·exact a i o t' h'
 | .cello id off e::q,v,gs,⟨_,_,_,_,_,_,g1,a1,_,_,_,_,_,h⟩=>by
  obtain ⟨a,b,c⟩:=Zan q v.2 g1 h;refine ⟨λi o t h=>a i o t (by simpa using h),λi o e' h'=>?_,λl h=>(Uo.1 h).elim (λe=>by subst e;trivial) (c l)⟩;rcases Uo.1 h' with e | h'
  ·injection e with e1 e2 e3;subst e1;exact (Ua.1 a1).1
  ·exact b i o e' h'
 | .ent id et e::q,v,gs,⟨_,_,g1,a1,_,_,_,_,h⟩=>by
  obtain ⟨a,b,c⟩:=Zan q v.2 g1 h;exact ⟨λi o t h=>a i o t (by simpa using h),λi o t h=>b i o t (by simpa using h),λl h=>(Uo.1 h).elim (λe=>by subst e;exact a1) (c l)⟩
 | .entm id k u::q,v,gs,⟨_,_,g1,a1,_,_,_,_,h⟩=>by
  obtain ⟨a,b,c⟩:=Zan q v.2 g1 h;exact ⟨λi o t h=>a i o t (by simpa using h),λi o t h=>b i o t (by simpa using h),λl h=>(Uo.1 h).elim (λe=>by subst e;exact a1) (c l)⟩
 | .splt id et e::q,v,gs,⟨_,_,g1,a1,_,_,_,_,h⟩=>by
  obtain ⟨a,b,c⟩:=Zan q v.2 g1 h;exact ⟨λi o t h=>a i o t (by simpa using h),λi o t h=>b i o t (by simpa using h),λl h=>(Uo.1 h).elim (λe=>by subst e;exact a1) (c l)⟩
theorem VJ {B:Base} {E E':Env} {H H':List Entry} (hw:E'.w=E.w) (hS:∀ b,E.S b->E'.S b) (hids:∀ (i:Nat) (v:Value),E.ids[i]?=some v->E'.ids[i]?=some v) (hb:Boxed H H') {vs:List Value}
  (ls:List Loc) (v:Zmr ls) (gs:List Nat) (h:Qu B E H vs ls v gs):Qu B E' H' vs ls v gs:=by
 obtain ⟨p1,p2,p3⟩:=Zan ls v gs h;rw[<-hb.1] at p1 p2 p3;exact QW hw hS (λi v _ hv=>hids i v hv) (λi c hi _=>hb.2.1 i c hi) hb.2.2 ls v gs p1 p2 p3 h
theorem Zik {B:Base} {E:Env} {H:List Entry} {vs:List Value} (E':Env) (l:List Entry) (hw:E'.w=E.w) (hS:E'.S=E.S) (hids:∀ (i:Nat) (v:Value),E.ids[i]?=some v->E'.ids[i]?=some v)
  (ls:List Loc) (v:Zmr ls) (gs:List Nat) (h:Qu B E H vs ls v gs):Qu B E' (H++l) vs ls v gs:=by
 obtain ⟨p1,p2,p3⟩:=Zan ls v gs h;have hle:H.length<=(H++l).length:=by simp
 have go:∀ (ls:List Loc) (v:Zmr ls) (gs:List Nat),Qu B E H vs ls v gs->Qu B E' (H++l) vs ls v gs:=by
  intro ls;induction ls with
  | nil=>intro v gs h;exact h
  | cons x q ih =>
   intro v gs h
   match x,v,h with
   | .reg _ (.dat t),v,⟨⟨u,a,b⟩,h⟩=>exact ⟨⟨u,a,by rw[hS,hw];exact b⟩,ih v.2 gs h⟩
   | .reg _ (.own e),v,⟨u,f,g1,a,b,c,d,h⟩=>exact ⟨u,f,g1,a,b,by rw[hS,hw];exact c,d,ih v.2 g1 h⟩
   | .reg _ (.io _),v,h=>simp only[Qu] at h
   | .reg _ (.back _),v,h=>simp only[Qu] at h
   | .cell id off t,v,⟨⟨b,cs,T,cells,u,a1,a2,a3,a4,a5⟩,h⟩ =>
    exact ⟨⟨b,cs,T,cells,u,by rw[Uy (Ua.1 a1).1];exact a1,hids _ _ a2,by rw[hw];exact a3,a4,by rw[hS,hw];exact a5⟩,ih v.2 gs h⟩
   | .cello id off e,v,⟨b,cs,T,cells,u,f,g1,a1,a2,a3,a4,a5,a6,h⟩ =>
    exact ⟨b,cs,T,cells,u,f,g1,by rw[Uy (Ua.1 a1).1];exact a1,hids _ _ a2,by rw[hw];exact a3,a4,by rw[hS,hw];exact a5,a6,ih v.2 g1 h⟩
   | .ent id et e,v,⟨u,f,g1,a1,a2,a3,a4,a5,h⟩ =>
    exact ⟨u,f,g1,UA a1 hle,hids _ _ a2,λc hc=>a3 c (by rwa [Uy a1] at hc),by rw[hS,hw];exact a4,a5,ih v.2 g1 h⟩
   | .entm id k t,v,⟨u,f,g1,a1,a2,a3,a4,a5,h⟩ =>
    exact ⟨u,f,g1,UA a1 hle,hids _ _ a2,λc hc=>a3 c (by rwa [Uy a1] at hc),by rw[hS,hw];exact a4,a5,ih v.2 g1 h⟩
   | .splt id et e,v,⟨u,f,g1,a1,a2,a3,a4,a5,h⟩ =>
    exact ⟨u,f,g1,UA a1 hle,hids _ _ a2,λc hc=>a3 c (by rwa [Uy a1] at hc),by rw[hS,hw];exact a4,a5,ih v.2 g1 h⟩
 exact go ls v gs h
def Taken (B:Base) (ls:List Loc) (E:Env) (H:List Entry) (vs:List Value) (gs:List Nat) (K:Zmr ls->List Entry->Prop):Prop :=
 ∃ E1 H1 v g1,E1.w=E.w/\E1.ids=E.ids/\Inv B E1 H1/\E.le E1/\K v H1/\Qu B E1 H1 vs ls v g1/\Loose B E1 H1 (g1++gs)/\Boxed H H1
theorem Zc5 {B:Base}:∀ (ls:List Loc) {E:Env} {H:List Entry} (_:Inv B E H) {regs:List SV} {vs:List Value} (_:Z6 E regs vs) (gs:List Nat) (_:Loose B E H gs) {K:Zmr ls->List Entry->Prop} (_:Zd7 ls regs H K),Taken B ls E H vs gs K
 | [],E,H,hI,regs,vs,hd,gs,hL,K,hk=>⟨E,H,(),[],rfl,rfl,hI,Env.le.refl E,hk,rfl,hL,Boxed.refl H⟩
 | .reg r (.dat t)::q,E,H,hI,regs,vs,hd,gs,hL,K,hk=>by
  simp only[Zd7] at hk;obtain ⟨s,u,hu,hs,hk,_⟩:=Ju _ _ hd hk;obtain ⟨E1,H1,cs,hf,hI1,hd1,hk,hb1⟩:=Y4 [s] hI (show Z6 E [s] [u] from ⟨hs,trivial⟩) hk;obtain ⟨d,rest,v1,v2,e12,hr,hrest,hk⟩:=YK t cs _ _ hd1 hk;split at hk
  ·have hv2:v2=[]:=by cases v2 with
    | nil=>rfl
    | cons=>simp[Z6] at hrest
   subst hv2;rw[Up] at e12;obtain ⟨E2,H2,v,g1,hw2,hid2,hI2,hle2,hk,hl,hL2,hb2⟩:=Zc5 q hI1 (ZF hf.le _ _ hd) gs (hL.frz hf) hk;refine ⟨E2,H2,(d,v),g1,hw2.trans hf.w,hid2.trans hf.ids,hI2,hf.le.trans hle2,hk,⟨⟨u,hu,?_⟩,hl⟩,hL2,(Boxed.frz hf hb1).trans hb2⟩;rw[e12];exact Yd hle2.S hle2.w t d v1 hr
  ·exact hk.elim
 | .reg r (.own e)::q,E,H,hI,regs,vs,hd,gs,hL,K,hk=>by
  simp only[Zd7] at hk;obtain ⟨s,u,hu,hs,hk,_⟩:=Ju _ _ hd hk;split at hk
  ·rename_i hc
   obtain ⟨hw,hag⟩:=hc;obtain ⟨E1,H1,d,f,hf,hI1,hr,hk,hL1,hT,hb1⟩:=XA hI (QM hs hw) hL hk;obtain ⟨E2,H2,v,g1,hw2,hid2,hI2,hle2,hk,hl,hL2,hb2⟩:=Zc5 q hI1 (ZF hf.le _ _ hd) (f++gs) hL1 hk;refine ⟨E2,H2,(d,v),f++g1,hw2.trans hf.w,hid2.trans hf.ids,hI2,hf.le.trans hle2,hk,⟨u,f,g1,hu,Zk5 hs hw hag,?_,rfl,hl⟩,hL2.perm ?_,(Boxed.frz hf hb1).trans hb2⟩
   ·exact Yi hle2.S hle2.w e _ _ _ (λg _=>by rw[hw2]) hr
   ·rw[<-Uj];exact UG.append_right gs
  ·exact hk.elim
 | .reg _ (.io _)::_,_,_,_,_,_,_,_,_,_,hk=>by simp only[Zd7] at hk
 | .reg _ (.back _)::_,_,_,_,_,_,_,_,_,_,hk=>by simp only[Zd7] at hk
 | .cell id off t::q,E,H,hI,regs,vs,hd,gs,hL,K,hk=>by
  simp only[Zd7] at hk;obtain ⟨e,he,hk⟩:=Yx H hk;split at hk
  ·rename_i cells
   obtain ⟨b,cs0,T,e1,e2,e3⟩:=hI.ent id _ he;obtain ⟨s,u,hu,hs,hk,_⟩:=Ju _ _ e3 hk;obtain ⟨E1,H1,cs,hf,hI1,hd1,hk,hb1⟩:=Y4 [s] hI (show Z6 E [s] [u] from ⟨hs,trivial⟩) hk;obtain ⟨d,rest,v1,v2,e12,hr,hrest,hk⟩:=YK t cs _ _ hd1 hk;split at hk
   ·have hv2:v2=[]:=by cases v2 with
     | nil=>rfl
     | cons=>simp[Z6] at hrest
    subst hv2;rw[Up] at e12;obtain ⟨E2,H2,v,g1,hw2,hid2,hI2,hle2,hk,hl,hL2,hb2⟩:=Zc5 q hI1 (ZF hf.le _ _ hd) gs (hL.frz hf) hk;obtain ⟨c',hc'⟩:=hb2.2.1 id _ (hb1 _ _ he);refine ⟨E2,H2,(d,v),g1,hw2.trans hf.w,hid2.trans hf.ids,hI2,hf.le.trans hle2,hk,⟨⟨b,cs0,T,c',u,hc',by rw[hid2,hf.ids];exact e1,by rw[hw2,hf.w];exact e2,hu,?_⟩,hl⟩,hL2,(Boxed.frz hf hb1).trans hb2⟩;rw[e12];exact Yd hle2.S hle2.w t d v1 hr
   ·exact hk.elim
  ·exact hk.elim
 | .cello id off e::q,E,H,hI,regs,vs,hd,gs,hL,K,hk=>by
  simp only[Zd7] at hk;obtain ⟨en,he,hk⟩:=Yx H hk;split at hk
  ·rename_i cells
   obtain ⟨b,cs0,T,e1,e2,e3⟩:=hI.ent id _ he;obtain ⟨s,u,hu,hs,hk,_⟩:=Ju _ _ e3 hk;obtain ⟨E1,H1,d,f,hf,hI1,hr,hk,hL1,hT,hb1⟩:=XA hI (show Z6 E [s] [u] from ⟨hs,trivial⟩) hL hk;obtain ⟨E2,H2,v,g1,hw2,hid2,hI2,hle2,hk,hl,hL2,hb2⟩:=Zc5 q hI1 (ZF hf.le _ _ hd) (f++gs) hL1 hk;obtain ⟨c',hc'⟩:=hb2.2.1 id _ (hb1 _ _ he);refine ⟨E2,H2,(d,v),f++g1,hw2.trans hf.w,hid2.trans hf.ids,hI2,hf.le.trans hle2,hk,⟨b,cs0,T,c',u,f,g1,hc',by rw[hid2,hf.ids];exact e1,by rw[hw2,hf.w];exact e2,hu,?_,rfl,hl⟩,hL2.perm ?_,(Boxed.frz hf hb1).trans hb2⟩
   ·exact Yi hle2.S hle2.w e _ _ _ (λg _=>by rw[hw2]) hr
   ·rw[<-Uj];exact UG.append_right gs
  ·exact hk.elim
 | .ent id et e::q,E,H,hI,regs,vs,hd,gs,hL,K,hk=>by
  simp only[Zd7] at hk;have hk0:=hk;unfold closeAll at hk0;simp only[Qk] at hk0;obtain ⟨en,he,hk0⟩:=Yx H hk0;have hlt:=(Ua.1 he).1;obtain ⟨u,hu⟩:∃ u,E.ids[id]?=some u:=⟨_,Ub (show id<E.ids.length by rw[hI.len];exact hlt)⟩;have hnb:∀ c,H[id]?≠some (.box c):=by
   intro c hc;have:=he.symm.trans hc;simp at this;subst this;exact hk0.elim
  have hs:den E (.own id) u:=by
   simp only[den];refine ⟨hu,?_⟩;split at hk0
   ·obtain ⟨v',xs,a1,a2,_⟩:=hI.ent id _ he
    have:=hu.symm.trans a1;simp at this;subst this;rcases a2.2 with ⟨rfl,_⟩ | ⟨g,cap,cur,o,rfl,_⟩<;>exact ⟨_,_,_,rfl⟩
   ·obtain ⟨v',xs,fps,a1,a2,_⟩:=hI.ent id _ he
    have:=hu.symm.trans a1;simp at this;subst this;rcases a2.2 with ⟨rfl,_⟩ | ⟨g,cap,cur,o,rfl,_⟩<;>exact ⟨_,_,_,rfl⟩
   ·obtain ⟨v',xs,x1,vx,x2,f1,f2,a1,a2,_⟩:=hI.ent id _ he
    have:=hu.symm.trans a1;simp at this;subst this;rcases a2.2 with ⟨rfl,_⟩ | ⟨g,cap,cur,o,rfl,_⟩<;>exact ⟨_,_,_,rfl⟩
   ·obtain ⟨v',a1,⟨xs,x1,x2,f1,a2,_⟩,_⟩:=hI.ent id _ he
    have:=hu.symm.trans a1;simp at this;subst this;rcases a2.2 with ⟨rfl,_⟩ | ⟨g,cap,cur,o,rfl,_⟩<;>exact ⟨_,_,_,rfl⟩
   ·exact hk0.elim
  obtain ⟨E1,H1,d,f,hf,hI1,hr,hk,hL1,hT,hb1⟩:=XA hI (show Z6 E [.own id] [u] from ⟨hs,trivial⟩) hL hk;obtain ⟨E2,H2,v,g1,hw2,hid2,hI2,hle2,hk,hl,hL2,hb2⟩:=Zc5 q hI1 (ZF hf.le _ _ hd) (f++gs) hL1 hk;have hbb:=(Boxed.frz hf hb1).trans hb2;refine ⟨E2,H2,(d,v),f++g1,hw2.trans hf.w,hid2.trans hf.ids,hI2,hf.le.trans hle2,hk,⟨u,f,g1,by rw[hbb.1];exact hlt,by rw[hid2,hf.ids];exact hu,λc hc=>?_,?_,rfl,hl⟩,hL2.perm ?_,hbb⟩
  ·obtain ⟨c',hc'⟩:=hbb.2.2 id c hc;exact hnb c' hc'
  ·exact Yi hle2.S hle2.w (.ol et e) _ _ _ (λg _=>by rw[hw2]) hr
  ·rw[<-Uj];exact UG.append_right gs
 | .entm id k t::q,E,H,hI,regs,vs,hd,gs,hL,K,hk=>by
  simp only[Zd7] at hk;have hk0:=hk;unfold closeAll at hk0;simp only[Qk] at hk0;obtain ⟨en,he,hk0⟩:=Yx H hk0;have hlt:=(Ua.1 he).1;obtain ⟨u,hu⟩:∃ u,E.ids[id]?=some u:=⟨_,Ub (show id<E.ids.length by rw[hI.len];exact hlt)⟩;have hnb:∀ c,H[id]?≠some (.box c):=by
   intro c hc;have:=he.symm.trans hc;simp at this;subst this;exact hk0.elim
  have hs:den E (.mown id) u:=by
   simp only[den];refine ⟨hu,?_⟩;split at hk0
   ·obtain ⟨b,es,clk,a1,_⟩:=hI.ent id _ he
    have:=hu.symm.trans a1;simp at this;subst this;exact ⟨_,rfl⟩
   ·exact hk0.elim
  obtain ⟨E1,H1,d,f,hf,hI1,hr,hk,hL1,hT,hb1⟩:=XA hI (show Z6 E [.mown id] [u] from ⟨hs,trivial⟩) hL hk;obtain ⟨E2,H2,v,g1,hw2,hid2,hI2,hle2,hk,hl,hL2,hb2⟩:=Zc5 q hI1 (ZF hf.le _ _ hd) (f++gs) hL1 hk;have hbb:=(Boxed.frz hf hb1).trans hb2;refine ⟨E2,H2,(d,v),f++g1,hw2.trans hf.w,hid2.trans hf.ids,hI2,hf.le.trans hle2,hk,⟨u,f,g1,by rw[hbb.1];exact hlt,by rw[hid2,hf.ids];exact hu,λc hc=>?_,?_,rfl,hl⟩,hL2.perm ?_,hbb⟩
  ·obtain ⟨c',hc'⟩:=hbb.2.2 id c hc;exact hnb c' hc'
  ·exact Yi hle2.S hle2.w (.mp k t) _ _ _ (λg _=>by rw[hw2]) hr
  ·rw[<-Uj];exact UG.append_right gs
 | .splt id et e::q,E,H,hI,regs,vs,hd,gs,hL,K,hk=>by
  simp only[Zd7] at hk;obtain ⟨E1,H1,d,n,u,f,hf,hI1,hu,hnb,hr,hk,hL1,hb1⟩:=ZoW hI hL hk;obtain ⟨E2,H2,v,g1,hw2,hid2,hI2,hle2,hk,hl,hL2,hb2⟩:=Zc5 q hI1 (ZF hf.le _ _ hd) (f++gs) hL1 hk;have hbb:=(Boxed.frz hf hb1).trans hb2;have hlt:id<H2.length:=by
   have:=(Ua.1 hu).1;rw[hb2.1,<-hI1.len];exact this
  refine ⟨E2,H2,((d,n),v),f++g1,hw2.trans hf.w,hid2.trans hf.ids,hI2,hf.le.trans hle2,hk,⟨u,f,g1,hlt,by rw[hid2];exact hu,λc hc=>?_,?_,rfl,hl⟩,hL2.perm ?_,hbb⟩
  ·obtain ⟨c',hc'⟩:=hbb.2.2 id c hc;exact hnb c' hc'
  ·exact ZjE hle2.S hle2.w (λg _=>by rw[hw2]) hr
  ·rw[<-Uj];exact UG.append_right gs
theorem ZiT {vs:List Value} {r:Nat} {u:Value} (hu:vs[r]?=some u):vs.set r u=vs:=by
 apply UV;intro j;by_cases hj:r=j
 ·subst hj
  have:=(Ua.1 hu).1;rw[Uz this,hu]
 ·rw[Ux hj]
theorem Loose.Zhh {B:Base} {E:Env} {H:List Entry} {gs:List Nat} (hL:Loose B E H gs) {id:Nat} {c0 c1:List SV} (he:H[id]?=some (.box c0)):Loose B E (H.set id (.box c1)) gs:=by
 have hlt:=(Ua.1 he).1;refine ⟨hL.nodup,hL.free,λg hg j ej vj hj hlv hv hb=>?_⟩;by_cases hji:id=j
 ·subst hji;rw[Uz hlt] at hj;simp at hj;subst hj;exact hL.apart g hg id _ vj he rfl hv hb
 ·rw[Ux hji] at hj;exact hL.apart g hg j ej vj hj hlv hv hb
theorem Zep {B:Base}:∀ (ls:List Loc) (v:Zmr ls) {E:Env} {H:List Entry} (_:Inv B E H) {regs:List SV} {vs:List Value} (_:Z6 E regs vs) (g1:List Nat) (_:Qu B E H vs ls v g1) (_:Loose B E H g1)
  {K:List SV->List Entry->Prop} (_:Zlz ls v regs H K),∃ E' H' regs',E'.w=E.w/\Inv B E' H'/\Z6 E' regs' vs/\K regs' H'
 | [],v,E,H,hI,regs,vs,hd,g1,hl,hL,K,hk=>⟨E,H,regs,rfl,hI,hd,hk⟩
 | .reg r (.dat t)::q,v,E,H,hI,regs,vs,hd,g1,⟨⟨u,hu,hr⟩,hl⟩,hL,K,hk=>by
  simp only[Zlz,X9,ZtX,YW] at hk;have hdc:=YJ t v.1 [u] hr;split at hk
  ·rename_i c hc
   rw[hc] at hdc;simp only[Z6] at hdc;rw[Zb1] at hk;have hd':=Zca _ _ hd r c u hdc.1;rw[ZiT hu] at hd';exact Zep q v.2 hI hd' g1 hl hL hk
  ·exact hk.elim
 | .reg r (.own e)::q,v,E,H,hI,regs,vs,hd,g1,⟨u,f,g2,hu,hform,hr,hg,hl⟩,hL,K,hk=>by
  simp only[Zlz,X9] at hk;subst hg;obtain ⟨E1,H1,cs,hw1,hS1,hI1,hle1,hd1,hk,hL1,l,hl1⟩:=Qi e v.1 hI hr hL hk;obtain ⟨s,hs,hk⟩:=Zjf hform hd1 hk;rw[Zb1] at hk;have hd':=Zca _ _ (ZF hle1 _ _ hd) r s u hs;rw[ZiT hu] at hd';subst hl1;obtain ⟨E2,H2,regs',hw2,hI2,hd2,hk⟩:=Zep q v.2 hI1 hd' g2 (Zik E1 l hw1 hS1 hle1.ids q v.2 g2 hl) hL1 hk;exact ⟨E2,H2,regs',hw2.trans hw1,hI2,hd2,hk⟩
 | .reg _ (.io _)::_,_,_,_,_,_,_,_,_,_,_,_,hk=>by simp only[Zlz] at hk
 | .reg _ (.back _)::_,_,_,_,_,_,_,_,_,_,_,_,hk=>by simp only[Zlz] at hk
 | .cell id off t::q,v,E,H,hI,regs,vs,hd,g1,⟨⟨b,cs,T,cells0,u,a1,a2,a3,a4,a5⟩,hl⟩,hL,K,hk=>by
  simp only[Zlz,X9,ZtX,YW] at hk;have hdc:=YJ t v.1 [u] a5;split at hk
  ·rename_i c hc
   rw[hc] at hdc;simp only[Z6] at hdc;obtain ⟨e,he,hk⟩:=Yx H hk;split at hk
   ·rename_i cells
    rw[Zb1,YH] at hk;have hI1:=hI.weaken (cells':=cells.set off c) he (λb' cs' T' h1 h2 h3=>by
     have:=a2.symm.trans h1;simp at this;subst this;have:=a3.symm.trans h2;simp at this;obtain ⟨rfl,_⟩:=this;have hset:=Zca _ _ h3 off c u hdc.1
     rwa [ZiT a4] at hset)
    exact Zep q v.2 hI1 hd g1 (VJ rfl (λ_ h=>h) (λ_ _ h=>h) (Boxed.Zhh he) q v.2 g1 hl) (hL.Zhh he) hk
   ·exact hk.elim
  ·exact hk.elim
 | .cello id off e::q,v,E,H,hI,regs,vs,hd,g1,⟨b,cs,T,cells0,u,f,g2,a1,a2,a3,a4,hr,hg,hl⟩,hL,K,hk=>by
  simp only[Zlz,X9] at hk;subst hg;obtain ⟨E1,H1,cs1,hw1,hS1,hI1,hle1,hd1,hk,hL1,l,hl1⟩:=Qi e v.1 hI hr hL hk;subst hl1;split at hk
  ·rename_i s
   simp only[Z6] at hd1;obtain ⟨en,he,hk⟩:=Yx _ hk;split at hk
   ·rename_i cells
    rw[Zb1,YH] at hk;have a2':=hle1.ids _ _ a2;have hI2:=hI1.weaken (cells':=cells.set off s) he (λb' cs' T' h1 h2 h3=>by
     have:=a2'.symm.trans h1;simp at this;subst this;rw[hw1] at h2;have:=a3.symm.trans h2;simp at this;obtain ⟨rfl,_⟩:=this;have hset:=Zca _ _ h3 off s u hd1.1
     rwa [ZiT a4] at hset)
    obtain ⟨E2,H2,regs',hw2,hI3,hd2,hk⟩:=Zep q v.2 hI2 (ZF hle1 _ _ hd) g2 (VJ rfl (λ_ h=>h) (λ_ _ h=>h) (Boxed.Zhh he) q v.2 g2 (Zik E1 l hw1 hS1 hle1.ids q v.2 g2 hl)) (hL1.Zhh he) hk;exact ⟨E2,H2,regs',hw2.trans hw1,hI3,hd2,hk⟩
   ·exact hk.elim
  ·exact hk.elim
 | .ent id et e::q,v,E,H,hI,regs,vs,hd,g1,⟨u,f,g2,a1,a2,a3,hr,hg,hl⟩,hL,K,hk=>by
  simp only[Zlz,X9] at hk;subst hg;obtain ⟨e1,hI1,hL1,hk,hnb⟩:=ZpV e hI a1 a2 hr hL hk;exact Zep q v.2 hI1 hd g2 (VJ rfl (λ_ h=>h) (λ_ _ h=>h) (Boxed.Zso a3 hnb) q v.2 g2 hl) hL1 hk
 | .entm id k t::q,v,E,H,hI,regs,vs,hd,g1,⟨u,f,g2,a1,a2,a3,⟨b,es,clk,e1,e2,hh,hr⟩,hg,hl⟩,hL,K,hk=>by
  simp only[Zlz,X9,YH] at hk;subst hg;simp at e1;subst e1;obtain ⟨hI1,hL1⟩:=hL.put hI a1 a2 (.mpe k t v.1) (λ_ g hg=>by
   have hg:Yj (.map (some b))=some g:=hg;simp[Yj] at hg;rw[e2];simp[hg]) ⟨b,es,clk,a2,hh,hr⟩
  exact Zep q v.2 hI1 hd g2 (VJ rfl (λ_ h=>h) (λ_ _ h=>h) (Boxed.Zso a3 (λc h=>by cases h)) q v.2 g2 hl) hL1 hk
 | .splt id et e::q,v,E,H,hI,regs,vs,hd,g1,⟨u,f,g2,a1,a2,a3,hr,hg,hl⟩,hL,K,hk=>by
  simp only[Zlz,X9] at hk;have hk:=hk f;rw[YH] at hk;subst hg;obtain ⟨hI1,hL1⟩:=hL.put hI a1 a2 (.spl et e v.1.1 v.1.2 f) (λ_ g hg=>hg) ⟨u,a2,hr,(UK.1 hL.nodup).1⟩;exact Zep q v.2 hI1 hd g2 (VJ rfl (λ_ h=>h) (λ_ _ h=>h) (Boxed.Zso a3 (λc h=>by cases h)) q v.2 g2 hl) hL1 hk
structure Cal where
 run:List SV->List Entry->(SV->List Entry->Prop)->Prop
 dat:Bool
 io:Option (List Bool) -- which arguments are variables,if nothing else is handed over
def ZoA (P:Program) (f:FuncId) (C:Cal):Prop:=ZiN P f/\
 ∀ {B:Base} {E:Env} {H:List Entry},Inv B E H->∀ {ss:List SV} {vs:List Value},Z6 E ss vs->∀ {K:SV->List Entry->Prop},C.run ss H K->
  Calls P f vs.toArray E.w λe w'=>∃ v E' H' s,e=.returned v/\E'.w=w'/\Inv B E' H'/\E.le E'/\den E' s v/\K s H'/\(C.dat=true->Grow E.w w')/\(∀ m,C.io=some m->∀ b,b<E.w.heap.size->(∀ v∈pick m vs,Yj v≠some b)->w'.heap[b]?=E.w.heap[b]?)
def Ctr.cal (C:Ctr):Cal:=⟨ZrU C,Za6 C.args,match ZeF C.args with
 | true=>some (Zg6 C.args)
 | false=>none⟩
theorem Ctr.ZsJ {P:Program} {f:FuncId} {C:Ctr} (h:Za P f C):ZoA P f C.cal:=⟨h.1,λhI _ _ hd _ hk=>(Zqz hI h hd hk).mono λe w' ⟨v,E',H',s,a1,a2,a3,a4,a5,a6,a7,a8⟩=>⟨v,E',H',s,a1,a2,a3,a4,a5,a6,a7,λm hm=>by
 simp only[Ctr.cal] at hm;split at hm
 ·rename_i hf
  injection hm with hm
  subst hm;exact a8 hf
 ·cases hm⟩⟩
abbrev Gam:=List (Nat×Cal)
def Gam.ok (Γ:Gam) (P:Program):Prop:=∀ x∈Γ,ZoA P x.1 x.2
def ZqQ:Gam->Nat->(Cal->Prop)->Prop
 | [],_,_=>False
 | (n,C)::r,f,K=>if n=f then K C else ZqQ r f K
def Znp:Gam->Nat->Bool
 | [],_=>false
 | (n,C)::r,f=>if n=f then C.dat else Znp r f
def Znq:Gam->Nat->Option (List Bool)
 | [],_=>none
 | (n,C)::r,f=>if n=f then C.io else Znq r f
theorem ZlR {P:Program}:∀ (Γ:Gam),Γ.ok P->∀ {f:Nat} {K:Cal->Prop},ZqQ Γ f K->∃ C,ZoA P f C/\K C/\C.dat=Znp Γ f/\C.io=Znq Γ f
 | [],_,_,_,h=>h.elim
 | (n,C)::r,hΓ,f,K,h=>by
  unfold ZqQ at h;unfold Znp Znq;split at h
  ·rename_i e;subst e;exact ⟨C,hΓ (n,C) (by simp),h,by rw[Uf rfl],by rw[Uf rfl]⟩
  ·rename_i e;rw[Ug e,Ug e];exact ZlR r (λx hx=>hΓ x (by simp[hx])) h
def Ze6 (Γ:Gam) (op:Op):Bool:=Zbk op||Zij op||match op with
 | .call c=>match c.callee with
  | .value (.func f)=>Znp Γ f
  | _=>false
 | _=>false
def Zfo (Γ:Gam) (op:Op):Option (List Operand):=match op with
 | .call c=>match c.callee with
  | .value (.func f)=>match Znq Γ f with
   | some m=>some (pick m c.args.toList)
   | none=>none
  | _=>none
 | _=>none
def Zlr (Δ:Tab) (Γ:Gam) (regs:List SV) (H:List Entry) (op:Op) (K:SV->List Entry->Prop):Prop :=
 match op with
 | .call c=>match c.callee with
  | .value fo=>QD regs fo λsf=>match sf with
   | .fn f caps=>ZqQ Γ f λC=>Zn1 regs c.args.toList λl=>ZkW l caps λl'=>C.run l' H K
   | _=>False
  | _=>opK Δ regs H op K
 | op=>opK Δ regs H op K
def Zoe (regs:List SV) (dst:Option Tmp) (s:SV) (K:List SV->Prop):Prop :=
 match dst with
 | none=>K regs
 | some d=>Zom regs d s K
def ZpI:List Oper->Nat->(Oper->Prop)->Prop
 | [],_,_=>False
 | o::_,0,K=>K o
 | _::r,n+1,K=>ZpI r n K
theorem ZhV:∀ (l:List Oper) {n:Nat} {K:Oper->Prop},ZpI l n K->∃ o,l[n]?=some o/\K o
 | [],_,_,h=>h.elim
 | o::_,0,K,h=>⟨o,rfl,h⟩
 | _::r,n+1,K,h=>by simpa using ZhV r (n:=n) h
def ZpK (Δ:Tab) (Γ:Gam) (ops:List Oper) (o:Oper) (regs:List SV) (H:List Entry) (K:List SV->List Entry->Prop):Prop :=
 match o.guard with
 | none=>Zlr Δ Γ regs H o.op λs H'=>Zoe regs o.dst s λregs'=>K regs' H'
 | some (j,want)=>ZpI ops j λoj=>match oj.dst with
  | none=>False
  | some d=>Ziw regs d λsg=>match sg with
   | .blit b=>if b=want then Zlr Δ Γ regs H o.op λs H'=>Zoe regs o.dst s λregs'=>K regs' H'
     else Zoe regs o.dst (.tup []) λregs'=>K regs' H
   | .bool p=>(p=want->Zom regs d (.blit want) λregs1=>Zlr Δ Γ regs1 H o.op λs H'=>Zoe regs1 o.dst s λregs'=>K regs' H')/\
     (p = !want->Zom regs d (.blit (!want)) λregs1=>Zoe regs1 o.dst (.tup []) λregs'=>K regs' H)
   | .tup []=>Zoe regs o.dst (.tup []) λregs'=>K regs' H
   | _=>False
def ZtU (Δ:Tab) (Γ:Gam) (ops:List Oper):List Oper->List SV->List Entry->(List SV->List Entry->Prop)->Prop
 | [],regs,H,K=>K regs H
 | o::r,regs,H,K=>ZpK Δ Γ ops o regs H λregs' H'=>ZtU Δ Γ ops r regs' H' K
def Conc (B:Base) (regs:List SV) (H:List Entry) (a:Act) (w:World):Prop :=
 ∃ E,E.w=w/\Inv B E H/\Z6 E regs a.tmps.toList/\a.defers=[]
section
variable {P:Program}
theorem Zhb {E:Env} {regs:List SV} {a:Act} (hd:Z6 E regs a.tmps.toList) {dst:Option Tmp} {s:SV} {v:Value} (hs:den E s v) {K:List SV->Prop} (hk:Zoe regs dst s K) :
  ∃ regs',Z6 E regs' (a.put dst v).tmps.toList/\K regs'/\(a.put dst v).defers=a.defers:=by
 cases dst with
 | none=>exact ⟨regs,hd,hk,rfl⟩
 | some d =>
  simp only[Zoe,Zb1] at hk;refine ⟨_,?_,hk,rfl⟩;simp only[Act.put,Array.toList_setIfInBounds];exact Zca _ _ hd d s v hs
theorem Zql {B:Base} {E:Env} {o:Oper} {a:Act} {K:SV->List Entry->Prop} (h:Ran P B E o a K) {next:Act->World->Prop} {Q:Exit->Act->World->Prop}
  (hn:∀ E' H' s v,Inv B E' H'->E.le E'->den E' s v->K s H'->((Zbk o.op||Zij o.op)=true->Grow E.w E'.w)->(∀ x,appArg o.op=some x->E.w.grownBy E'.w (Yj (a.eval x)))->next (a.put o.dst v) E'.w):o.wp P a E.w next Q:=by
 obtain ⟨nx,v,E',H',s,h1,h2,h3,h4,h5,h6,_,h7,h8⟩:=h;unfold Oper.wp;rw[h1];rcases h2 with rfl | ⟨rfl,rfl⟩
 ·exact hn E' H' s v h3 h4 h5 h6 h7 h8
 ·exact hn E' H' s _ h3 h4 h5 h6 h7 h8
theorem Zrq {Δ:Tab} (hΔ:Δ.ok P) {Γ:Gam} (hΓ:Γ.ok P) {B:Base} {E:Env} {H:List Entry} (hI:Inv B E H) {regs:List SV} {a:Act} (hd:Z6 E regs a.tmps.toList) {o:Oper} {K:SV->List Entry->Prop}
  (h:Zlr Δ Γ regs H o.op K) {next:Act->World->Prop} {Q:Exit->Act->World->Prop}
  (hn:∀ E' H' s v,Inv B E' H'->E.le E'->den E' s v->K s H'->(Ze6 Γ o.op=true->Grow E.w E'.w)->(∀ x,appArg o.op=some x->E.w.grownBy E'.w (Yj (a.eval x)))->(∀ xs,Zfo Γ o.op=some xs->∀ b,b<E.w.heap.size->(∀ x∈xs,Yj (a.eval x)≠some b)->E'.w.heap[b]?=E.w.heap[b]?)->next (a.put o.dst v) E'.w):o.wp P a E.w next Q:=by
 obtain ⟨dst,op,type,pos,after,guard⟩:=o;simp only at h;unfold Zlr at h;split at h
 ·rename_i c
  obtain ⟨callee,args,argTypes⟩:=c;simp only at h;split at h
  ·rename_i fo
   obtain ⟨sf,hsf,h⟩:=Yg hd h;split at h
   ·rename_i f caps
    simp only[den] at hsf;obtain ⟨cv,hfv,hcaps⟩:=hsf;obtain ⟨C,hC,h,hda,hio⟩:=ZlR Γ hΓ h;obtain ⟨l,hl,h⟩:=ZgA hd _ h;rw[Vz] at h;have hds:=VB _ _ hl _ _ hcaps;have hcall:=hC.2 hI hds h;obtain ⟨⟨fn,hf,hname,hbody⟩,_⟩:=hC;have hrun:(execOp a.eval ⟨dst,.call ⟨.value fo,args,argTypes⟩,type,pos,after,guard⟩).run P E.w=.ok (.enter f (args.toList.map a.eval++cv).toArray) E.w:=by
     have hargs:(args.map a.eval)++cv.toArray=(args.toList.map a.eval++cv).toArray:=by
      apply Array.ext';simp
     simp only[execOp,resolve,hfv,Deferred.ofValue,pure_bind,invoke,Array.empty_append,hargs];unfold callFunc;rw[Sem.run_bind,run_program,Result.andThen_ok,hf];simp only[hname,hbody,UN,Uk];rfl
    unfold Oper.wp;rw[hrun];refine hcall.mono ?_;rintro e w' ⟨v,E',H',s,rfl,rfl,h1,h2,h3,h4,h5,h6⟩;refine hn E' H' s v h1 h2 h3 h4 (λhgr=>h5 ?_) (ZkA rfl) (λxs hx b hb hne=>?_)
    ·rw[hda]
     cases fo with
     | func f0 =>
      simp only[Act.eval] at hfv;injection hfv with hfv
      injection hfv with hfv
      subst hfv;simpa[Ze6,Zbk,Zij] using hgr
     | _=>simp[Ze6,Zbk,Zij] at hgr
    ·cases fo with
     | func f0 =>
      simp only[Act.eval] at hfv;have hcv:cv=[]:=by
       have h:=hfv;simp at h;first | exact h.2.symm | exact h.2 | (rcases h with ⟨h1,h2⟩;simpa using h2.symm) | simpa using h.2
      injection hfv with hfv
      injection hfv with hfv
      subst hfv;simp only[Zfo] at hx;split at hx
      ·rename_i m hm
       injection hx with hx
       subst hx;refine h6 m (hio.trans hm) b hb (λu hu=>?_);have:pick m (args.toList.map a.eval++cv)=(pick m args.toList).map a.eval:=by
        rw[<-Zli,hcv,Up]
       rw[this] at hu;obtain ⟨x,hx1,rfl⟩:=List.mem_map.1 hu;exact hne x hx1
      ·cases hx
     | _=>simp[Zfo] at hx
   ·exact h.elim
  ·rename_i hne
   refine Zql (ZpL hΔ hI hd h) (λE' H' s v h1 h2 h3 h4 h5 h6=>hn E' H' s v h1 h2 h3 h4 (λhgr=>h5 ?_) h6 (λxs hx=>?_))
   ·cases callee with
    | value f=>exact absurd rfl (hne f)
    | _=>simpa[Ze6,Zij] using hgr
   ·cases callee with
    | value f=>exact absurd rfl (hne f)
    | _=>simp[Zfo] at hx
 ·rename_i hne
  refine Zql (ZpL hΔ hI hd h) (λE' H' s v h1 h2 h3 h4 h5 h6=>hn E' H' s v h1 h2 h3 h4 (λhgr=>h5 ?_) h6 (λxs hx=>?_));rotate_left
  ·cases op with
   | call c=>exact absurd rfl (hne c)
   | _=>simp[Zfo] at hx
  cases op with
  | call c=>exact absurd rfl (hne c)
  | _=>first | rfl | exact hgr | (simp[Ze6,Zbk,Zij] at hgr ⊢)
def ZoN:Value->Option Bool
 | .bool b=>some b
 | _=>none
theorem ZkN {ops:Array Oper} {a:Act} {j d:Nat} {oj:Oper} {v:Value} (ho:ops.toList[j]?=some oj) (hd:oj.dst=some d) (hv:a.tmps.toList[d]?=some v) :
  yielded ops a.tmps j=ZoN v:=by
 have ho':ops[j]?=some oj:=by simpa using ho
 have hv':a.tmps[d]?=some v:=by simpa using hv
 unfold yielded;rw[ho',Option.bind_some,hd,Option.bind_some,hv'];cases v<;>rfl
theorem ZnD {Δ:Tab} (hΔ:Δ.ok P) {Γ:Gam} (hΓ:Γ.ok P) {B:Base} (ops:Array Oper) {Q:Exit->Act->World->Prop} (o:Oper) {regs:List SV} {H:List Entry} {a:Act} {E:Env} (hI:Inv B E H) (hd:Z6 E regs a.tmps.toList) (hdef:a.defers=[])
  {K:List SV->List Entry->Prop} (hk:ZpK Δ Γ ops.toList o regs H K) {next:Act->World->Prop}
  (hq:∀ regs' H' a' E',K regs' H'->Inv B E' H'->Z6 E' regs' a'.tmps.toList->a'.defers=[]->E.le E'->(Ze6 Γ o.op=true->Grow E.w E'.w)->(∀ x,appArg o.op=some x->E.w.grownBy E'.w (Yj (a.eval x)))->(∀ xs,Zfo Γ o.op=some xs->∀ b,b<E.w.heap.size->(∀ x∈xs,Yj (a.eval x)≠some b)->E'.w.heap[b]?=E.w.heap[b]?)->next a' E'.w) :
  (if Region.wanted o (yielded ops a.tmps) then o.wp P a E.w next Q\/(o.asks P a E.w/\LetsOut Q) else next (a.put o.dst undef) E.w):=by
 have run:∀ {regs:List SV},Z6 E regs a.tmps.toList->(Zlr Δ Γ regs H o.op λs H'=>Zoe regs o.dst s λregs'=>K regs' H')->o.wp P a E.w next Q:=by
  intro regs hd hk;refine Zrq hΔ hΓ hI hd hk (λE' H' s v hI' hle hs hk hg hap hwr=>?_);obtain ⟨regs',hd',hk,hdf⟩:=Zhb (ZF hle _ _ hd) hs hk;exact hq regs' H' _ _ hk hI' hd' (by rw[hdf];exact hdef) hle hg hap hwr
 have skip:∀ {regs:List SV},Z6 E regs a.tmps.toList->(Zoe regs o.dst (.tup []) λregs'=>K regs' H)->next (a.put o.dst undef) E.w:=by
  intro regs hd hk;obtain ⟨regs',hd',hk,hdf⟩:=Zhb hd (v:=undef) (by simp only[den];exact ⟨[],rfl,trivial⟩) hk;exact hq regs' H _ _ hk hI hd' (by rw[hdf];exact hdef) (Env.le.refl E) (λ_=>Grow.refl _) (λ_ _=>⟨rfl,rfl,rfl,UF _,λ_ _ _=>rfl⟩) (λ_ _ _ _ _=>rfl)
 unfold ZpK at hk;split at hk
 ·rename_i hg
  rw[Uf (by simp[Region.wanted,hg])];exact .inl (run hd hk)
 ·rename_i j want hg
  obtain ⟨oj,hoj,hk1⟩:=ZhV _ hk;clear hk;split at hk1
  ·exact hk1.elim
  ·rename_i d hdst
   obtain ⟨sg,v,hv,hsg,hk,hrg⟩:=Ju _ _ hd hk1;clear hrg hk1;have hy:=ZkN hoj hdst hv;have hwant:Region.wanted o (yielded ops a.tmps)=(ZoN v == some want):=by
    simp only[Region.wanted,hg,hy]
   have hset:∀ (s:SV),den E s v->Z6 E (regs.set d s) a.tmps.toList:=by
    intro s hs;have h1:=Zca _ _ hd d s v hs;have hvs:a.tmps.toList.set d v=a.tmps.toList:=by
     apply UV;intro k;by_cases hkd:d=k
     ·subst hkd
      have:=(Ua.1 hv).1;rw[Uz this,hv]
     ·rw[Ux hkd]
    rwa [hvs] at h1
   split at hk
   ·rename_i b
    simp only[den] at hsg;subst hsg;split at hk
    ·rename_i hb;subst hb
     rw[Uf (by rw[hwant];simp[ZoN])];exact .inl (run hd hk)
    ·rename_i hb
     rw[Ug (by rw[hwant];simp[ZoN];exact hb)];exact skip hd hk
   ·rename_i p
    simp only[den] at hsg;subst hsg;by_cases hp:p=want
    ·subst hp
     rw[Uf (by rw[hwant];simp[ZoN])];have hk:=hk.1 rfl;rw[Zb1] at hk;exact .inl (run (hset _ (by simp only[den])) hk)
    ·have hp':p = !want:=by cases p<;>cases want<;>simp_all
     rw[Ug (by rw[hwant];simp[ZoN];exact hp)];have hk:=hk.2 hp';rw[Zb1] at hk;exact skip (hset _ (by simp only[den,hp'])) hk
   ·simp only[den] at hsg
    obtain ⟨vs,hvs,hd0⟩:=hsg;have:v=.tuple #[]:=by
     cases vs with
     | nil=>rw[hvs]
     | cons=>simp[Z6] at hd0
    rw[Ug (by rw[hwant,this];intro h;cases h)];exact skip hd hk
   ·exact hk.elim
theorem Zsg {Δ:Tab} (hΔ:Δ.ok P) {Γ:Gam} (hΓ:Γ.ok P) {B:Base} (ops:Array Oper) {Q:Exit->Act->World->Prop} (o:Oper) {regs:List SV} {H:List Entry} {a:Act} {w:World} (hc:Conc B regs H a w)
  {K:List SV->List Entry->Prop} (hk:ZpK Δ Γ ops.toList o regs H K) {next:Act->World->Prop}
  (hq:∀ regs' H' a' w',K regs' H'->Conc B regs' H' a' w'->(Ze6 Γ o.op=true->Grow w w')->next a' w') :
  (if Region.wanted o (yielded ops a.tmps) then o.wp P a w next Q\/(o.asks P a w/\LetsOut Q) else next (a.put o.dst undef) w):=by
 obtain ⟨E,hw,hI,hd,hdef⟩:=hc;subst hw;exact ZnD hΔ hΓ ops o hI hd hdef hk (λregs' H' a' E' hk hI' hd' hdef' _ hg _ _=>hq regs' H' a' _ hk ⟨E',rfl,hI',hd',hdef'⟩ hg)
theorem ZpM {Δ:Tab} (hΔ:Δ.ok P) {Γ:Gam} (hΓ:Γ.ok P) {B:Base} (ops:Array Oper) {Q:Exit->Act->World->Prop}:∀ (l:List Oper) {regs:List SV} {H:List Entry} {a:Act} {w:World} (_:Conc B regs H a w)
  {K:List SV->List Entry->Prop} (_:ZtU Δ Γ ops.toList l regs H K) (_:∀ regs' H' a' w',K regs' H'->Conc B regs' H' a' w'->Q .normal a' w'),wpList P ops Q l a w
 | [],regs,H,a,w,hc,K,hk,hq=>hq _ _ _ _ hk hc
 | o::r,regs,H,a,w,hc,K,hk,hq=>by
  simp only[ZtU] at hk;unfold wpList;exact Zsg hΔ hΓ ops o hc hk (λregs' H' a' w' hk' hc' _=>ZpM hΔ hΓ ops r hc' hk' hq)
def Zgn (B:Base) (E0:Env) (regs:List SV) (H:List Entry) (a:Act) (w:World):Prop :=
 ∃ E,E0.le E/\E.w=w/\Inv B E H/\Z6 E regs a.tmps.toList/\a.defers=[]
theorem Zgn.ZuZ {B:Base} {E0:Env} {regs:List SV} {H:List Entry} {a:Act} {w:World} (h:Zgn B E0 regs H a w):Conc B regs H a w:=by
 obtain ⟨E,_,h⟩:=h;exact ⟨E,h⟩
theorem ZpE {Δ:Tab} (hΔ:Δ.ok P) {Γ:Gam} {B:Base} (ops:Array Oper) (o:Oper) (hl:Zbk o.op=true) {regs:List SV} {H:List Entry} {a:Act} {E:Env} (hI:Inv B E H) (hd:Z6 E regs a.tmps.toList) (hdef:a.defers=[])
  {K:List SV->List Entry->Prop} (hk:ZpK Δ Γ ops.toList o regs H K) :
  ∃ v,((Region.wanted o (yielded ops a.tmps)=true/\∀ w',(isLoad o.op=true->Zlx E.w w')->(execOp a.eval o).run P w'=.ok (.value v) w')\/(Region.wanted o (yielded ops a.tmps)=false/\v=undef))/\
   ∃ regs' H',K regs' H'/\Zgn B E regs' H' (a.put o.dst v) E.w:=by
 have hst:∀ (K:SV->List Entry->Prop) (regs:List SV),Zlr Δ Γ regs H o.op K->opK Δ regs H o.op K:=by
  intro K regs h;unfold Zlr at h;split at h
  ·rename_i c heq
   split at h
   ·rename_i f hcal
    rw[heq] at hl;simp[Zbk,hcal] at hl
   ·exact h
  ·exact h
 have run:∀ {regs:List SV},Z6 E regs a.tmps.toList->(Zlr Δ Γ regs H o.op λs H'=>Zoe regs o.dst s λregs'=>K regs' H')->
   ∃ v,(∀ w',(isLoad o.op=true->Zlx E.w w')->(execOp a.eval o).run P w'=.ok (.value v) w')/\∃ regs' H',K regs' H'/\Zgn B E regs' H' (a.put o.dst v) E.w:=by
  intro regs hd hk;obtain ⟨nx,v,E',H',s,h1,h2,h3,h4,h5,h6,h7,_⟩:=ZpL hΔ hI hd (hst _ _ hk);obtain ⟨_,hw8,h8⟩:=h7 hl;obtain ⟨regs',hd',hk,hdf⟩:=Zhb (ZF h4 _ _ hd) h5 h6;exact ⟨v,h8,regs',H',hk,E',h4,hw8,h3,hd',by rw[hdf];exact hdef⟩
 have skip:∀ {regs:List SV},Z6 E regs a.tmps.toList->(Zoe regs o.dst (.tup []) λregs'=>K regs' H)->∃ regs' H',K regs' H'/\Zgn B E regs' H' (a.put o.dst undef) E.w:=by
  intro regs hd hk;obtain ⟨regs',hd',hk,hdf⟩:=Zhb hd (v:=undef) (by simp only[den];exact ⟨[],rfl,trivial⟩) hk;exact ⟨regs',H,hk,E,Env.le.refl E,rfl,hI,hd',by rw[hdf];exact hdef⟩
 unfold ZpK at hk;split at hk
 ·rename_i hg
  obtain ⟨v,h1,h2⟩:=run hd hk;exact ⟨v,.inl ⟨by simp[Region.wanted,hg],h1⟩,h2⟩
 ·rename_i j want hg
  obtain ⟨oj,hoj,hk1⟩:=ZhV _ hk;clear hk;split at hk1
  ·exact hk1.elim
  ·rename_i d hdst
   obtain ⟨sg,v,hv,hsg,hk,hrg⟩:=Ju _ _ hd hk1;clear hrg hk1;have hy:=ZkN hoj hdst hv;have hwant:Region.wanted o (yielded ops a.tmps)=(ZoN v == some want):=by
    simp only[Region.wanted,hg,hy]
   have hset:∀ (s:SV),den E s v->Z6 E (regs.set d s) a.tmps.toList:=by
    intro s hs;have h1:=Zca _ _ hd d s v hs;have hvs:a.tmps.toList.set d v=a.tmps.toList:=by
     apply UV;intro k;by_cases hkd:d=k
     ·subst hkd
      have:=(Ua.1 hv).1;rw[Uz this,hv]
     ·rw[Ux hkd]
    rwa [hvs] at h1
   split at hk
   ·rename_i b
    simp only[den] at hsg;subst hsg;split at hk
    ·rename_i hb;subst hb
     obtain ⟨v,h1,h2⟩:=run hd hk;exact ⟨v,.inl ⟨by rw[hwant];simp[ZoN],h1⟩,h2⟩
    ·rename_i hb
     exact ⟨_,.inr ⟨by rw[hwant];simp[ZoN];exact hb,rfl⟩,skip hd hk⟩
   ·rename_i p
    simp only[den] at hsg;subst hsg;by_cases hp:p=want
    ·subst hp
     have hk:=hk.1 rfl;rw[Zb1] at hk;obtain ⟨v,h1,h2⟩:=run (hset _ (by simp only[den])) hk;exact ⟨v,.inl ⟨by rw[hwant];simp[ZoN],h1⟩,h2⟩
    ·have hp':p = !want:=by cases p<;>cases want<;>simp_all
     have hk:=hk.2 hp';rw[Zb1] at hk;exact ⟨_,.inr ⟨by rw[hwant];simp[ZoN];exact hp,rfl⟩,skip (hset _ (by simp only[den,hp'])) hk⟩
   ·simp only[den] at hsg
    obtain ⟨vs,hvs,hd0⟩:=hsg;have:v=.tuple #[]:=by
     cases vs with
     | nil=>rw[hvs]
     | cons=>simp[Z6] at hd0
    exact ⟨_,.inr ⟨by rw[hwant,this];rfl,rfl⟩,skip hd hk⟩
   ·exact hk.elim
end
section
variable {P:Program}
theorem Zj9 {E:Env} {T:TypeId} {ti:TI} (h:Zaw P T ti) (W:World->Prop) (p:Addr) {cs:List SV} {K:SV->Prop} (hk:XP ti cs K)
  (vs:List Value) (hd:Z6 E cs vs) (hvs:∀ w',W w'->∀ j u,vs[j]?=some u->w'.cell? (p.add j)=some u) :
  ∃ v s,(∀ w',W w'->(loadVar T p).run P w'=.ok v w')/\den E s v/\K s:=by
 unfold XP at hk;split at hk
 ·rename_i ha
  rw[Zez] at hk;split at hk
  ·rename_i hl
   have hd':=Zdh cs vs hd ti.size;have hl':=Ym _ _ hd';have h':=λw' (hst:W w')=>Zch h w' p (vs.take ti.size) (λj u hu=>hvs w' hst j u (by
    rw[Uw] at hu;split at hu
    ·exact hu
    ·cases hu)) (λ_=>by rw[<-hl'];exact hl)
   exact ⟨_,.agg _,λw' hst=>(h' w' hst).1 ha,by simp only[den];exact ⟨_,rfl,hd'⟩,hk⟩
  ·exact hk.elim
 ·rename_i ha
  split at hk
  ·rename_i c r
   match vs,hd,hvs with
   | v::vs,hd,hvs =>
    simp only[Z6] at hd;have h':=λw' (hst:W w')=>Zch h w' p (v::vs) (λj u hu=>hvs w' hst j u hu) (λe=>absurd e ha);exact ⟨v,c,λw' hst=>(h' w' hst).2 (by simpa using ha) v rfl,hd.1,hk⟩
   | [],hd,_=>simp[Z6] at hd
  ·exact hk.elim
theorem Zn5 {B:Base} {E:Env} {H:List Entry} (hI:Inv B E H) {T:TypeId} {ti:TI} (h:Zaw P T ti) {id off:Nat} {v:Value} (hs:den E (.ptr id off) v) {cells:List SV} (he:H[id]?=some (.box cells)) {K:SV->Prop}
  (hk:Ze1 cells off λcs=>XP ti cs K) :
  ∃ b u r,E.ids[id]?=some (.pointer (some ⟨b,0,none⟩))/\(∀ w':World,w'.heap[b]?=E.w.heap[b]?->(Instr.loadAt T v).run P w'=.ok u w')/\den E r u/\K r:=by
 rw[JN] at hk;simp only[den] at hs;obtain ⟨b,h1,rfl⟩:=hs;obtain ⟨b',cs,T',h1',h2,h3⟩:=hI.ent id _ he;have:=h1.symm.trans h1';simp at this;subst this;obtain ⟨u,r,g1,g2,g3⟩:=Zj9 h (λw'=>w'.heap[b]?=E.w.heap[b]?) ⟨b,off,none⟩ hk (cs.toList.drop off) (QO _ _ h3 off) (λw' hw=>Zgt (hw.trans h2) off);exact ⟨b,u,r,h1,λw' hw=>by simp only[Instr.loadAt,Instr.sureAddr,pure_bind];exact g1 w' hw,g2,g3⟩
theorem Zi1 {B:Base} {E:Env} {H:List Entry} (hI:Inv B E H) {id:Nat} {cells:List SV} (he:H[id]?=some (.box cells)) {b:Nat} (hb:E.ids[id]?=some (.pointer (some ⟨b,0,none⟩)))
  {k:Nat} {ek:Entry} {v:Value} (hk:H[k]?=some ek) (hl:ek.live=true) (hv:E.ids[k]?=some v) (hkid:k≠id):¬ZdW ek v b:=by
 intro h;exact hkid (hI.sep k id ek _ v _ b hk he hl rfl hv hb h (by simp[ZdW,Yj]))
end
def Zl6 (m:List Nat) (i:Nat):Nat:=(m[i]?).getD i
mutual
def ZuP (m:List Nat):SV->SV
 | .ptr id off=>.ptr (Zl6 m id) off
 | .own id=>.own (Zl6 m id)
 | .oep id sz i off=>.oep (Zl6 m id) sz i off
 | .mown id=>.mown (Zl6 m id)
 | .fptr cs=>.fptr (ZpX m cs)
 | .agg cs=>.agg (ZpX m cs)
 | .tup cs=>.tup (ZpX m cs)
 | .fn f cs=>.fn f (ZpX m cs)
 | .bot=>.bot
 | .int k n=>.int k n
 | .bool b=>.bool b
 | .blit b=>.blit b
 | .str s=>.str s
 | .sl t d=>.sl t d
 | .nsl=>.nsl
 | .nilp=>.nilp
 | .nptr t d=>.nptr t d
 | .mp k v d=>.mp k v d
def ZpX (m:List Nat):List SV->List SV
 | []=>[]
 | c::cs=>ZuP m c::ZpX m cs
end
def ZsX (m:List Nat):Entry->Entry
 | .box cells=>.box (ZpX m cells)
 | .fbx cells=>.fbx (ZpX m cells)
 | .hole et e d i cells fp=>.hole et e d i (ZpX m cells) fp
 | .hsp et e d i cells fp=>.hsp et e d i (ZpX m cells) fp
 | e=>e
section
variable {E:Env} {ids':List Value} {m:List Nat}
mutual
theorem ZrZ (h:∀ i v,E.ids[i]?=some v->ids'[Zl6 m i]?=some v):∀ (s:SV) (v:Value),den E s v->den ⟨E.S,E.w,ids'⟩ (ZuP m s) v
 | .bot,_,_=>trivial
 | .int _ _,_,e=>e
 | .bool _,_,e=>e
 | .blit _,_,e=>e
 | .str _,_,e=>e
 | .sl t d,v,e=>e
 | .nsl,_,e=>e
 | .ptr _ _,_,⟨b,e1,e2⟩=>⟨b,h _ _ e1,e2⟩
 | .own _,_,⟨e1,e2⟩=>⟨h _ _ e1,e2⟩
 | .oep _ _ _ _,_,⟨b,bo,n,c,e1,e2⟩=>⟨b,bo,n,c,h _ _ e1,e2⟩
 | .fptr cs,_,⟨p,vs,e1,e2,e3,e4,e5⟩=>⟨p,vs,e1,e2,e3,e4,Zb9 h cs vs e5⟩
 | .agg cs,_,⟨vs,e1,e2⟩=>⟨vs,e1,Zb9 h cs vs e2⟩
 | .tup cs,_,⟨vs,e1,e2⟩=>⟨vs,e1,Zb9 h cs vs e2⟩
 | .fn _ cs,_,⟨vs,e1,e2⟩=>⟨vs,e1,Zb9 h cs vs e2⟩
 | .nilp,_,e=>e
 | .nptr t d,v,e=>e
 | .mown _,_,⟨e1,e2⟩=>⟨h _ _ e1,e2⟩
 | .mp k u d,v,e=>e
theorem Zb9 (h:∀ i v,E.ids[i]?=some v->ids'[Zl6 m i]?=some v):∀ (cs:List SV) (vs:List Value),Z6 E cs vs->Z6 ⟨E.S,E.w,ids'⟩ (ZpX m cs) vs
 | [],[],_=>trivial
 | c::cs,v::vs,⟨e1,e2⟩=>⟨ZrZ h c v e1,Zb9 h cs vs e2⟩
 | [],_::_,e=>e
 | _::_,[],e=>e
end
theorem ZqM (h:∀ i v,E.ids[i]?=some v->ids'[Zl6 m i]?=some v) (i:Nat):∀ e:Entry,Znf E i e->Znf ⟨E.S,E.w,ids'⟩ (Zl6 m i) (ZsX m e)
 | .gone,_=>trivial
 | .box cells,⟨b,cs,T,e1,e2,e3⟩=>⟨b,cs,T,h _ _ e1,e2,Zb9 h _ _ e3⟩
 | .arr et t d,⟨v,xs,e1,r⟩=>⟨v,xs,h _ _ e1,r⟩
 | .frz t d,⟨v,e1,r⟩=>⟨v,h _ _ e1,r⟩
 | .fbx cells,⟨b,cs,T,e1,e2,e3,e4⟩=>⟨b,cs,T,h _ _ e1,e2,e3,Zb9 h _ _ e4⟩
 | .darr et e d fp,⟨v,xs,fps,e1,r⟩=>⟨v,xs,fps,h _ _ e1,r⟩
 | .hole et e d i cells fp,⟨v,xs,x1,vx,x2,f1,f2,e1,a1,a2,a3,a4,a5,a6,a7,a8,a9,r⟩=>⟨v,xs,x1,vx,x2,f1,f2,h _ _ e1,a1,a2,a3,a4,a5,a6,a7,a8,Zb9 h _ _ a9,r⟩
 | .spl et e d n fp,⟨v,e1,r⟩=>⟨v,h _ _ e1,r⟩
 | .hsp et e d i cells fp,⟨v,xs,x1,vx,x2,f1,e1,a1,a2,a3,a4,a5,a6,a7,a8,a9,r⟩=>⟨v,xs,x1,vx,x2,f1,h _ _ e1,a1,a2,a3,a4,a5,a6,a7,a8,Zb9 h _ _ a9,r⟩
 | .mpe k v d,⟨b,es,clk,e1,r⟩=>⟨b,es,clk,h _ _ e1,r⟩
 | .frm k v d,⟨u,e1,r⟩=>⟨u,h _ _ e1,r⟩
end
theorem Zl5 (m:List Nat) (e:Entry):(ZsX m e).live=e.live:=by cases e<;>rfl
theorem Zlk (m:List Nat) (e:Entry) (v:Value) (g:Nat):ZdW (ZsX m e) v g<->ZdW e v g:=by cases e<;>exact Iff.rfl
def Zoi:List Nat->Nat->Nat->(Nat->Prop)->Prop
 | [],_,i,K=>K i
 | a::_,0,_,K=>K a
 | _::r,n+1,i,K=>Zoi r n i K
theorem Zhc:∀ (m:List Nat) (n i:Nat) (K:Nat->Prop),Zoi m n i K=K ((m[n]?).getD i)
 | [],_,_,_=>rfl
 | _::_,0,_,_=>rfl
 | _::r,n+1,i,K=>Zhc r n i K
mutual
def Zkb (m:List Nat):SV->(SV->Prop)->Prop
 | .ptr id off,K=>Zoi m id id λj=>K (.ptr j off)
 | .own id,K=>Zoi m id id λj=>K (.own j)
 | .oep id sz i off,K=>Zoi m id id λj=>K (.oep j sz i off)
 | .mown id,K=>Zoi m id id λj=>K (.mown j)
 | .fptr cs,K=>ZiD m cs λcs=>K (.fptr cs)
 | .agg cs,K=>ZiD m cs λcs=>K (.agg cs)
 | .tup cs,K=>ZiD m cs λcs=>K (.tup cs)
 | .fn f cs,K=>ZiD m cs λcs=>K (.fn f cs)
 | .bot,K=>K .bot
 | .int k n,K=>K (.int k n)
 | .bool b,K=>K (.bool b)
 | .blit b,K=>K (.blit b)
 | .str s,K=>K (.str s)
 | .sl t d,K=>K (.sl t d)
 | .nsl,K=>K .nsl
 | .nilp,K=>K .nilp
 | .nptr t d,K=>K (.nptr t d)
 | .mp k v d,K=>K (.mp k v d)
def ZiD (m:List Nat):List SV->(List SV->Prop)->Prop
 | [],K=>K []
 | c::cs,K=>Zkb m c λc=>ZiD m cs λcs=>K (c::cs)
end
mutual
theorem Zre (m:List Nat):∀ (s:SV) (K:SV->Prop),Zkb m s K=K (ZuP m s)
 | .ptr id off,K=>by simp only[Zkb,Zhc];rfl
 | .own id,K=>by simp only[Zkb,Zhc];rfl
 | .oep id sz i off,K=>by simp only[Zkb,Zhc];rfl
 | .mown id,K=>by simp only[Zkb,Zhc];rfl
 | .fptr cs,K=>by simp only[Zkb,Zer m cs];rfl
 | .agg cs,K=>by simp only[Zkb,Zer m cs];rfl
 | .tup cs,K=>by simp only[Zkb,Zer m cs];rfl
 | .fn f cs,K=>by simp only[Zkb,Zer m cs];rfl
 | .bot,K=>rfl
 | .int k n,K=>rfl
 | .bool b,K=>rfl
 | .blit b,K=>rfl
 | .str s,K=>rfl
 | .sl t d,K=>rfl
 | .nsl,K=>rfl
 | .nilp,K=>rfl
 | .nptr t d,K=>rfl
 | .mp k v d,K=>rfl
theorem Zer (m:List Nat):∀ (l:List SV) (K:List SV->Prop),ZiD m l K=K (ZpX m l)
 | [],K=>rfl
 | c::cs,K=>by simp only[ZiD,Zre m c,Zer m cs];rfl
end
def Zsm (m:List Nat):Entry->(Entry->Prop)->Prop
 | .box cells,K=>ZiD m cells λcs=>K (.box cs)
 | .fbx cells,K=>ZiD m cells λcs=>K (.fbx cs)
 | .hole et e d i cells fp,K=>ZiD m cells λcs=>K (.hole et e d i cs fp)
 | .hsp et e d i cells fp,K=>ZiD m cells λcs=>K (.hsp et e d i cs fp)
 | .gone,K=>K .gone
 | .arr et t d,K=>K (.arr et t d)
 | .frz t d,K=>K (.frz t d)
 | .darr et e d fp,K=>K (.darr et e d fp)
 | .spl et e d n fp,K=>K (.spl et e d n fp)
 | .mpe k v d,K=>K (.mpe k v d)
 | .frm k v d,K=>K (.frm k v d)
theorem Zrd (m:List Nat) (e:Entry) (K:Entry->Prop):Zsm m e K=K (ZsX m e):=by
 cases e<;>first | rfl | (simp only[Zsm,Zer];rfl)
def Zra (H:List Entry) (m:List Nat):List Nat->(List Entry->Prop)->Prop
 | [],K=>K []
 | j::r,K=>Zdz H j λe=>Zsm m e λe=>Zra H m r λl=>K (e::l)
theorem ZnJ (H:List Entry) (m:List Nat):∀ (o:List Nat) {K:List Entry->Prop},Zra H m o K->∃ l,K l/\l.length=o.length/\∀ (i:Nat) (e':Entry),l[i]?=some e'->∃ j e,o[i]?=some j/\H[j]?=some e/\e'=ZsX m e
 | [],K,h=>⟨[],h,rfl,λi e' hi=>by cases hi⟩
 | j::r,K,h=>by
  unfold Zra at h;obtain ⟨e,he,h⟩:=Yx H h;rw[Zrd] at h;obtain ⟨l,h1,h2,h3⟩:=ZnJ H m r h;refine ⟨_,h1,by simp[h2],λi e' hi=>?_⟩;cases i with
  | zero =>
   rw[Kc] at hi;injection hi with hi
   exact ⟨j,e,rfl,he,hi.symm⟩
  | succ i =>
   rw[UL] at hi;exact h3 i e' hi
def ZtS:List Nat->Nat->Nat->Bool
 | [],_,_=>false
 | a::_,0,x=>Nat.beq a x
 | _::r,n+1,x=>ZtS r n x
theorem ZmM:∀ (l:List Nat) {n x:Nat},ZtS l n x=true->l[n]?=some x
 | [],_,_,h=>by cases h
 | a::_,0,x,h=>by rw[Kc,Nat.eq_of_beq_eq_true h]
 | _::r,n+1,x,h=>by rw[UL];exact ZmM r h
def ZsR (m:List Nat):List Nat->Nat->Bool
 | [],_=>true
 | j::r,k=>ZtS m j k&&ZsR m r (k+1)
theorem ZmG (m:List Nat):∀ (o:List Nat) (k:Nat),ZsR m o k=true->∀ (i j:Nat),o[i]?=some j->m[j]?=some (k+i)
 | [],_,_,i,j,h=>by cases h
 | a::r,k,h,i,j,hi=>by
  unfold ZsR at h;rw[Ul] at h;cases i with
  | zero =>
   rw[Kc] at hi;injection hi with hi
   subst hi;exact ZmM m h.1
  | succ i =>
   rw[UL] at hi;have:=ZmG m r (k+1) h.2 i j hi;rw[this];congr 1;omega
def ZtO (m:List Nat):Nat->Bool
 | 0=>true
 | n+1=>ZtS m n n&&ZtO m n
theorem Zpn (m:List Nat):∀ (n:Nat),ZtO m n=true->∀ i,i<n->m[i]?=some i
 | 0,_,i,hi=>by omega
 | n+1,h,i,hi=>by
  unfold ZtO at h;rw[Ul] at h;by_cases e:i=n
  ·subst e;exact ZmM m h.1
  ·exact Zpn m n h.2 i (by omega)
def Zri {α β:Type}:List α->List β->Bool
 | [],[]=>true
 | _::r,_::s=>Zri r s
 | _,_=>false
theorem Zlo {α β:Type}:∀ (l:List α) (r:List β),Zri l r=true->l.length=r.length
 | [],[],_=>rfl
 | _::r,_::s,h=>by simp[Zlo r s h]
 | [],_::_,h=>by cases h
 | _::_,[],h=>by cases h
def ZtQ (i:Nat):List Nat->Bool
 | []=>false
 | j::r=>Nat.beq j i||ZtQ i r
def ZsT:List Entry->Nat->Bool
 | [],_=>false
 | .box _::_,0=>true
 | _::_,0=>false
 | _::r,n+1=>ZsT r n
def ZrG (n0:Nat) (H:List Entry):List SV->List Nat->(List Nat->Prop)->Prop
 | [],acc,K=>K acc
 | .ptr id _::r,acc,K=>match Nat.ble n0 id&&ZsT H id&&!ZtQ id acc with
  | true=>ZrG n0 H r (id::acc) K
  | false=>ZrG n0 H r acc K
 | .own id::r,acc,K=>match Nat.ble n0 id&&!ZtQ id acc with
  | true=>ZrG n0 H r (id::acc) K
  | false=>ZrG n0 H r acc K
 | _::r,acc,K=>ZrG n0 H r acc K
theorem ZmN (n0:Nat) (H:List Entry) {K:List Nat->Prop}:∀ (l:List SV) (acc:List Nat),ZrG n0 H l acc K->∃ c,K c
 | [],acc,h=>⟨acc,h⟩
 | s::r,acc,h=>by
  cases s<;>unfold ZrG at h<;>first
   | exact ZmN n0 H r _ h
   | (split at h<;>exact ZmN n0 H r _ h)
def Zp1 (c:List Nat):List Entry->Nat->(List Nat->Prop)->Prop
 | [],_,K=>K c
 | _::r,i,K=>match ZtQ i c with
  | true=>Zp1 c r (i+1) K
  | false=>Zp1 c r (i+1) λl=>K (i::l)
theorem Zln (c:List Nat):∀ (H:List Entry) (i:Nat) {K:List Nat->Prop},Zp1 c H i K->∃ o,K o
 | [],_,_,h=>⟨c,h⟩
 | _::r,i,K,h=>by
  unfold Zp1 at h;split at h
  ·exact Zln c r (i+1) h
  ·obtain ⟨o,h⟩:=Zln c r (i+1) h
   exact ⟨_,h⟩
def ZqO:List Nat->Nat->Nat->(Nat->Prop)->Prop
 | [],_,k,K=>K k
 | a::r,j,k,K=>match Nat.beq a j with
  | true=>K k
  | false=>ZqO r j (k+1) K
theorem Znm:∀ (o:List Nat) (j k:Nat) {K:Nat->Prop},ZqO o j k K->∃ p,K p
 | [],_,k,_,h=>⟨k,h⟩
 | a::r,j,k,K,h=>by
  unfold ZqO at h;split at h
  ·exact ⟨k,h⟩
  ·exact Znm r j (k+1) h
def ZtW (o:List Nat):List Entry->Nat->(List Nat->Prop)->Prop
 | [],_,K=>K []
 | _::r,j,K=>ZqO o j 0 λp=>ZtW o r (j+1) λl=>K (p::l)
theorem ZpT (o:List Nat):∀ (H:List Entry) (j:Nat) {K:List Nat->Prop},ZtW o H j K->∃ m,K m
 | [],_,_,h=>⟨[],h⟩
 | _::r,j,K,h=>by
  unfold ZtW at h;obtain ⟨p,h⟩:=Znm o j 0 h;obtain ⟨m,h⟩:=ZpT o r (j+1) h;exact ⟨_,h⟩
def canonK (n0:Nat) (regs:List SV) (H:List Entry) (K:List SV->List Entry->Prop):Prop :=
 ZrG n0 H regs [] λc=>match c with
  | []=>K regs H
  | c=>Zp1 c H 0 λo=>ZtW o H 0 λm=>match (Zri o H&&Zri m H&&ZsR m o 0&&ZsR o m 0&&ZtO m n0) with
   | true=>ZiD m regs λregs'=>Zra H m o λH'=>K regs' H'
   | false=>False
theorem ZoP {B:Base} {n0:Nat} {regs:List SV} {H:List Entry} {a:Act} {w:World} {K:List SV->List Entry->Prop} (hpin:∀ (i:Nat) (v:Value),B.pin[i]?=some v->i<n0) (h:canonK n0 regs H K) (hc:Conc B regs H a w) :
  ∃ regs' H',K regs' H'/\Conc B regs' H' a w:=by
 unfold canonK at h;obtain ⟨c,h⟩:=ZmN n0 H _ _ h;split at h
 ·exact ⟨regs,H,h,hc⟩
 ·obtain ⟨o,h⟩:=Zln _ H 0 h
  obtain ⟨m,h⟩:=ZpT o H 0 h;split at h
  ·rename_i hb
   simp only[Ul] at hb;obtain ⟨⟨⟨⟨b1,b2⟩,b3⟩,b4⟩,b5⟩:=hb;have c1:=Zlo _ _ b1;have c2:=Zlo _ _ b2;have c3:=ZmG m o 0 b3;have c4:=ZmG o m 0 b4;have c5:=Zpn m n0 b5;rw[Zer] at h;obtain ⟨H',h,g1,g2⟩:=ZnJ H m o h;refine ⟨_,H',h,?_⟩;obtain ⟨E,hw,hI,hd,hdef⟩:=hc
   let ids':=o.map λj=>(E.ids[j]?).getD undef
   have hm:∀ j,j<H.length->∃ k,m[j]?=some k/\o[k]?=some j/\Zl6 m j=k:=λj hj=>by
    have e:m[j]?=some (m[j]'(by omega)):=Ub _;have:=c4 j _ e;rw[UB] at this;exact ⟨_,e,this,by unfold Zl6;rw[e];rfl⟩
   have hids:∀ i v,E.ids[i]?=some v->ids'[Zl6 m i]?=some v:=λi v hi=>by
    have hl:=(Ua.1 hi).1;rw[hI.len] at hl;obtain ⟨k,_,e2,e3⟩:=hm i hl;rw[e3];show (o.map _)[k]?=_;rw[UZ,e2];show some ((E.ids[i]?).getD undef)=_;rw[hi];rfl
   have hback:∀ i v,ids'[i]?=some v->∃ j,o[i]?=some j/\E.ids[j]?=some v/\Zl6 m j=i:=λi v hi=>by
    have hi':(o.map λj=>(E.ids[j]?).getD undef)[i]?=some v:=hi;rw[UZ] at hi';cases e:o[i]? with
    | none=>rw[e] at hi';cases hi'
    | some j =>
     rw[e] at hi';have e':=c3 i j e;rw[UB] at e';have hj:j<H.length:=by rw[<-c2];exact (Ua.1 e').1
     have hjv:E.ids[j]?=some (E.ids[j]'(by rw[hI.len];exact hj)):=Ub _;refine ⟨j,rfl,?_,by unfold Zl6;rw[e'];rfl⟩;injection hi' with hi'
     have ev:v=E.ids[j]'(by rw[hI.len];exact hj):=by
      rw[<-hi'];show (E.ids[j]?).getD undef=_;rw[hjv];rfl
     rw[hjv,<-ev]
   refine ⟨⟨E.S,E.w,ids'⟩,hw,⟨hI.keeps,hI.Slt,hI.Sold,?_,λi v hi=>?_,λi e' hi=>?_,λi e' v g hi hl hv hb=>?_,λi j ei ej vi vj g hi hj li lj vi' vj' bi bj=>?_⟩,Zb9 hids _ _ hd,hdef⟩
   ·show (o.map _).length=H'.length
    rw[List.length_map,g1]
   ·have:=hids i v (hI.pin i v hi)
    rw[show Zl6 m i=i by unfold Zl6;rw[c5 i (hpin i v hi)];rfl] at this;exact this
   ·obtain ⟨j,e,o1,o2,rfl⟩:=g2 i e' hi
    have:=c3 i j o1;rw[UB] at this;have er:=ZqM hids j e (hI.ent j e o2);rw[show Zl6 m j=i by unfold Zl6;rw[this];rfl] at er;exact er
   ·obtain ⟨j,e,o1,o2,rfl⟩:=g2 i e' hi
    obtain ⟨j',p1,p2,_⟩:=hback i v hv;rw[o1] at p1;injection p1 with p1
    subst p1;rw[Zl5] at hl;exact hI.free j e v g o2 hl p2 ((Zlk m e v g).1 hb)
   ·obtain ⟨j1,e1,o1,o2,rfl⟩:=g2 i ei hi
    obtain ⟨j2,e2,q1,q2,rfl⟩:=g2 j ej hj;obtain ⟨k1,p1,p2,p3⟩:=hback i vi vi';obtain ⟨k2,r1,r2,r3⟩:=hback j vj vj';rw[o1] at p1;injection p1 with p1
    subst p1;rw[q1] at r1;injection r1 with r1
    subst r1;rw[Zl5] at li lj;have:=hI.sep j1 j2 e1 e2 vi vj g o2 q2 li lj p2 r2 ((Zlk m e1 vi g).1 bi) ((Zlk m e2 vj g).1 bj);rw[<-p3,<-r3,this]
  ·exact h.elim
inductive Vl
 | done
 | op (i:Nat) (p:Vl)
 | ld (i:Nat) (p:Vl)
 | alt (i:Nat) (p q:Vl)
 | can (p:Vl)
def Vl.o:List Nat->Vl->Vl
 | [],p=>p
 | i::r,p=>.op i (Vl.o r p)
def Vl.u:Nat->Nat->Vl->Vl
 | _,0,p=>p
 | a,n+1,p=>.op a (Vl.u (a+1) n p)
def Vl.l:List Nat->Vl->Vl
 | [],p=>p
 | i::r,p=>.ld i (Vl.l r p)
def Vl.a:List Nat->Vl->Vl
 | [],p=>p
 | i::r,p=>.alt i (Vl.a r p) .done
def Vl.d (i:Nat):Vl:=.alt i .done .done
def Vl.core:Vl->Vl
 | .can p=>p
 | p=>p
section
variable {P:Program} {ops:Array Oper}
inductive Behind (ops:Array Oper) (i:Nat):Nat->Prop
 | edge {j:Nat} {oj:Oper} {e:Edge}:ops[j]?=some oj->e∈oj.after->Region.binds .any e=true->e.on=i->Behind ops i j
 | step {j:Nat} {oj:Oper} {e:Edge}:ops[j]?=some oj->e∈oj.after->Region.binds .any e=true->Behind ops i e.on->Behind ops i j
def Znz (acc:List Nat) (l:List Edge) (m:Nat):Nat :=
 match l with
 | []=>m
 | e::r=>Znz acc r (if Region.binds .any e then (m ||| 2 ^ e.on) ||| acc.getD e.on 0 else m)
def Zf9:List Oper->List Nat->List Nat
 | [],acc=>acc
 | o::r,acc=>Zf9 r (acc++[Znz acc o.after.toList 0])
def JK (M:List Nat) (i j:Nat):Bool:=(M.getD j 0).testBit i
theorem ZlY {ops:Array Oper} {acc:List Nat} (hacc:∀ (j m:Nat),acc[j]?=some m->∀ i,m.testBit i=true->Behind ops i j) {j:Nat} {oj:Oper} (hj:ops[j]?=some oj) :
  ∀ (l:List Edge) (m:Nat),(∀ e∈l,e∈oj.after)->(∀ i,m.testBit i=true->Behind ops i j)->∀ i,(Znz acc l m).testBit i=true->Behind ops i j
 | [],m,_,hm,i,h=>hm i h
 | e::r,m,hl,hm,i,h=>by
  unfold Znz at h;refine ZlY hacc hj r _ (λe he=>hl e (by simp[he])) ?_ i h;intro k hk;split at hk
  ·rename_i hb
   rw[Nat.testBit_or,Nat.testBit_or,Nat.testBit_two_pow] at hk;simp only[Kl,Uq] at hk;rcases hk with (hk | hk) | hk
   ·exact hm k hk
   ·exact .edge hj (hl e (by simp)) hb hk
   ·cases ha:acc[e.on]? with
    | none=>simp[ha] at hk
    | some m'=>exact .step hj (hl e (by simp)) hb (hacc _ _ ha k (by simpa[ha] using hk))
  ·exact hm k hk
theorem Zky {ops:Array Oper}:∀ (l:List Oper) (acc:List Nat),(∀ (k:Nat),l[k]?=ops[acc.length+k]?)->(∀ (j m:Nat),acc[j]?=some m->∀ i,m.testBit i=true->Behind ops i j)->
  ∀ (j m:Nat),(Zf9 l acc)[j]?=some m->∀ i,m.testBit i=true->Behind ops i j
 | [],acc,_,h=>h
 | o::r,acc,hl,h=>by
  unfold Zf9;refine Zky r _ (λk=>?_) ?_
  ·have:=hl (k+1)
   simpa[Nat.add_assoc,Nat.add_comm 1 k] using this
  ·intro j m hj i hi
   have hlt:=(Ua.1 hj).1;rw[Ue,UP] at hlt;by_cases hja:j<acc.length
   ·rw[Uy hja] at hj
    exact h j m hj i hi
   ·have:j=acc.length:=by omega
    subst this;rw[UX (by omega)] at hj;simp at hj;subst hj;have h0:ops[acc.length]?=some o:=by simpa using (hl 0).symm
    exact ZlY h h0 _ 0 (λe he=>by simpa using he) (λi hi=>by simp at hi) i hi
def Down (ops:Array Oper) (listed:Array Bool):Prop:=∀ (j:Nat) (oj:Oper) (e:Edge),ops[j]?=some oj->listed.getD j false=true->e∈oj.after->Region.binds .any e=true->listed.getD e.on false=true
theorem Down.set {listed:Array Bool} (h:Down ops listed) {i:Nat} (hr:i∈Region.ready .any ops listed):Down ops (listed.setIfInBounds i true):=by
 intro j oj e hj hl he hb;by_cases hij:i=j
 ·subst hij
  obtain ⟨_,o,ho,hall⟩:=mem_ready.1 hr;rw[hj] at ho;injection ho with ho;subst ho
  exact getD_set_true (hall e he hb)
 ·rw[getD_set_ne false hij] at hl
  exact getD_set_true (h j oj e hj hl he hb)
theorem Zid {listed:Array Bool} (hd:Down ops listed) {i:Nat} (hi:listed.getD i false=false):∀ (j:Nat),Behind ops i j->j ∉ Region.ready .any ops listed/\listed.getD j false=false:=by
 intro j h;have fin:∀ {j:Nat} {oj:Oper} {e:Edge},ops[j]?=some oj->e∈oj.after->Region.binds .any e=true->listed.getD e.on false=false->j ∉ Region.ready .any ops listed/\listed.getD j false=false:=by
  intro j oj e hj he hb hun;constructor
  ·intro hr
   obtain ⟨_,o,ho,hall⟩:=mem_ready.1 hr;rw[hj] at ho;injection ho with ho;subst ho
   have:=hall e he hb;rw[hun] at this;cases this
  ·cases hl:listed.getD j false with
   | false=>rfl
   | true =>
    have:=hd j oj e hj hl he hb;rw[hun] at this;cases this
 induction h with
 | edge hj he hb hon=>exact fin hj he hb (by rw[hon];exact hi)
 | step hj he hb _ ih=>exact fin hj he hb ih.2
def Lit (P:Program) (ops:Array Oper) (R:World->World->Prop) (o:Oper) (v:Value) (a:Act) (w:World):Prop :=
 (Region.wanted o (yielded ops a.tmps)=true/\∀ w',R w w'->(execOp a.eval o).run P w'=.ok (.value v) w')\/(Region.wanted o (yielded ops a.tmps)=false/\v=undef)
structure Way (R:World->World->Prop):Prop where
 refl:∀ w,R w w
 trans:∀ a b c,R a b->R b c->R a c
def Ziq (P:Program) (ops:Array Oper) (G:Nat->World->World->Prop) (Q:Exit->Act->World->Prop):Nat->Array Bool->Act->World->Prop
 | 0,listed,a,w=>Region.ready .any ops listed=[]/\Q .normal a w
 | fuel+1,listed,a,w=>(Region.ready .any ops listed=[]->Q .normal a w)/\
  ∀ i∈Region.ready .any ops listed,wpOp P ops Q i (λa' w'=>G i w w'/\Ziq P ops G Q fuel (listed.setIfInBounds i true) a' w') a w
theorem ZkM {G:Nat->World->World->Prop} {Q:Exit->Act->World->Prop}:∀ (fuel:Nat) (listed:Array Bool) (a:Act) (w:World),Ziq P ops G Q fuel listed a w->wpAny P .any ops Q fuel listed a w
 | 0,_,_,_,h=>h
 | fuel+1,_,_,_,h=>⟨h.1,λi hi=>wpOp_mono (λa' w' hh=>ZkM fuel _ a' w' hh.2) (h.2 i hi)⟩
theorem Lit.wpOp {R:World->World->Prop} (hR:Way R) {Q:Exit->Act->World->Prop} {i:Nat} {o:Oper} {v:Value} {a:Act} {w:World} (hi:ops[i]?=some o) (hy:Lit P ops R o v a w)
  {K:Act->World->Prop} (h:K (a.put o.dst v) w):Go.wpOp P ops Q i K a w:=by
 unfold Go.wpOp;simp only[hi];rcases hy with ⟨hw,hv⟩ | ⟨hw,rfl⟩
 ·simp only[hw,Um,Oper.wp,hv w (hR.refl w),Oper.upon];exact .inl h
 ·simp only[hw,UN,Uk];exact h
theorem Zqp {R:World->World->Prop} (hR:Way R) {Q:Exit->Act->World->Prop} {j:Nat} {oi oj:Oper} {v:Value} (hj:ops[j]?=some oj) (hap:oi.apart ops oj=true)
  (hsi:∀ cs b,oi.op≠.select cs b) (hsj:∀ cs b,oj.op≠.select cs b) (hQ:∀ c a w,¬Q (.panic c) a w) {G1:World->World->Prop} (hgr:∀ w w',G1 w w'->R w w')
  {K:Act->World->Prop} {a:Act} {w:World} (hy:Lit P ops R oi v a w) (h:wpOp P ops Q j (λa' w'=>G1 w w'/\K a' w') (a.put oi.dst v) w) :
  wpOp P ops Q j (λa' w'=>G1 w w'/\Lit P ops R oi v a' w'/\K (a'.put oi.dst v) w') a w:=by
 obtain ⟨h1,h2,h3⟩:=Oper.apart_spec hap;have keep:∀ (a':Act) (w':World),execOp a'.eval oi=execOp a.eval oi->Region.wanted oi (yielded ops a'.tmps)=Region.wanted oi (yielded ops a.tmps)->R w w'->Lit P ops R oi v a' w':=by
  intro a' w' he hw hr;unfold Lit at *;rw[he,hw];rcases hy with ⟨a1,a2⟩ | a1
  ·exact .inl ⟨a1,λw'' h''=>a2 w'' (hR.trans _ _ _ hr h'')⟩
  ·exact .inr a1
 have keepP:∀ (u:Value) (w':World),R w w'->Lit P ops R oi v (a.put oj.dst u) w':=λu w' hr=>keep _ _ (execOp_put oi hsi a oj.dst u h3) (wanted_put oi a oj.dst u h3) hr;have keepD:∀ (d:Deferred) (u:Value) (w':World),R w w'->Lit P ops R oi v (({a with defers:=d::a.defers}:Act).put oj.dst u) w':=λd u w' hr =>
  keep _ _ ((execOp_put oi hsi ({a with defers:=d::a.defers}:Act) oj.dst u h3).trans rfl) ((wanted_put oi ({a with defers:=d::a.defers}:Act) oj.dst u h3).trans rfl) hr
 unfold wpOp at *;simp only[hj] at *;rw[wanted_put oj a oi.dst v h1] at h;split
 ·rename_i hw
  simp only[hw,Um] at h;rcases h with h | ⟨hasks,hlets⟩
  case inr=>exact .inr ⟨by unfold Oper.asks at *;rw[execOp_put oj hsj a oi.dst v h1] at hasks;exact hasks,hlets⟩
  refine .inl ?_;unfold Oper.wp at *;rw[execOp_put oj hsj a oi.dst v h1] at h;generalize (execOp a.eval oj).run P w=r at *;cases r with
  | ok n w' =>
   cases n<;>simp only[Oper.upon] at h ⊢
   case value u=>exact ⟨h.1,keepP u w' (hgr _ _ h.1),by rw[<-Act.put_comm a v u h2];exact h.2⟩
   case skip=>exact ⟨h.1,keepP _ w' (hgr _ _ h.1),by rw[<-Act.put_comm a v undef h2];exact h.2⟩
   case defer d =>
    refine ⟨h.1,keepD d _ w' (hgr _ _ h.1),?_⟩;rw[<-Act.put_comm _ v undef h2,<-Act.put_defers];exact h.2
   case enter f args =>
    refine Calls.mono h λe w'' he=>?_;cases e with
    | returned u=>exact ⟨he.1,keepP u w'' (hgr _ _ he.1),by rw[<-Act.put_comm a v u h2];exact he.2⟩
    | panicked c=>exact absurd he (hQ _ _ _)
    | outgrown=>exact he
   case row row args=>exact Rows.mono h λu w'' he=>⟨he.1,keepP u w'' (hgr _ _ he.1),by rw[<-Act.put_comm a v u h2];exact he.2⟩
  | halt x w' =>
   cases x<;>simp only[Oper.upon] at h ⊢
   case panic u=>exact absurd h (hQ _ _ _)
 ·rename_i hw
  simp only[hw] at h;exact ⟨h.1,keepP _ w (hR.refl w),by rw[<-Act.put_comm a v undef h2];exact h.2⟩
theorem Zir {R:World->World->Prop} (hR:Way R) {Q:Exit->Act->World->Prop} {G:Nat->World->World->Prop} {i:Nat} {oi:Oper} {v:Value} (hi:ops[i]?=some oi) (hGi:∀ w,G i w w)
  (hsel:∀ (j:Nat) (o:Oper) cs b,ops[j]?=some o->o.op≠.select cs b) (hQ:∀ c a w,¬Q (.panic c) a w)
  (hfree:∀ j oj,ops[j]?=some oj->j≠i->¬Behind ops i j->¬Behind ops j i->oi.apart ops oj=true/\∀ w w',G j w w'->R w w') :
  ∀ (fuel:Nat) (listed:Array Bool) (a:Act) (w:World),Down ops listed->i∈Region.ready .any ops listed->Lit P ops R oi v a w->
   Ziq P ops G Q fuel (listed.setIfInBounds i true) (a.put oi.dst v) w->Ziq P ops G Q (fuel+1) listed a w:=by
 have hun:∀ listed:Array Bool,i∈Region.ready .any ops listed->listed.getD i false=false:=by
  intro listed hr;have h0:=(mem_ready.1 hr).1;rcases Nat.lt_or_ge i listed.size with h' | h'
  ·simpa[h'] using h0
  ·simp[Array.getElem?_eq_none h']
 intro fuel;induction fuel with
 | zero =>
  intro listed a w hd hr hy H;refine ⟨λh=>(by rw[h] at hr;cases hr),λj hj=>?_⟩;by_cases hji:j=i
  ·subst hji;exact hy.wpOp hR hi ⟨hGi w,H⟩
  ·have:=ready_mono hj hji
   rw[H.1] at this;cases this
 | succ fuel ih =>
  intro listed a w hd hr hy H;refine ⟨λh=>(by rw[h] at hr;cases hr),λj hj=>?_⟩;by_cases hji:j=i
  ·subst hji;exact hy.wpOp hR hi ⟨hGi w,H⟩
  ·have h1:=H.2 j (ready_mono hj hji)
   obtain ⟨hjun,oj,hoj,hall⟩:=mem_ready.1 hj;have hnb:¬Behind ops i j:=λhb=>(Zid hd (hun _ hr) j hb).1 hj;have hnb2:¬Behind ops j i:=by
    intro hb;refine (Zid hd ?_ i hb).1 hr;rcases Nat.lt_or_ge j listed.size with h' | h'
    ·simpa[h'] using hjun
    ·simp[Array.getElem?_eq_none h']
   obtain ⟨hap,hgr⟩:=hfree j oj hoj hji hnb hnb2;have h2:=Zqp hR hoj hap (λcs b=>hsel i oi cs b hi) (λcs b=>hsel j oj cs b hoj) hQ hgr hy h1;refine wpOp_mono (λa' w' h3=>⟨h3.1,ih (listed.setIfInBounds j true) a' w' (hd.set hj) (ready_mono hr (Ne.symm hji)) h3.2.1 ?_⟩) h2;rw[Array.setIfInBounds_comm _ _ hji];exact h3.2.2
def Zg8 (ops:Array Oper):Bool:=ops.all λo=>match o.op with
 | .select _ _=>false
 | _=>true
def ZsN (Γ:Gam) (ops:Array Oper) (M:List Nat) (i:Nat):Bool :=
 match ops[i]? with
 | none=>false
 | some oi=>Zbk oi.op&&(List.range ops.size).all λj=>j == i||JK M i j||JK M j i||match ops[j]? with
  | none=>true
  | some oj=>oi.apart ops oj&&(!isLoad oi.op||Ze6 Γ oj.op)
def ZuK:Op->Bool
 | .indexAddr _ _ _=>true
 | _=>false
def Zsy (ops:List Oper):Bool:=ops.all λo=>match o.op with
 | .store _ (.tmp t) _=>ops.any λo'=>(match o'.dst with
  | some d=>Nat.beq d t
  | none=>false)&&ZuK o'.op
 | .store _ _ _=>false
 | _=>true
def ZrQ (st:Bool) (op:Op):Option Operand:=match op with
 | .store _ x _=>match st with
  | true=>some x
  | false=>none
 | op=>appArg op
theorem Zm7 {st:Bool} {op:Op} {x:Operand} (h:ZrQ st op=some x):appArg op=some x:=by
 unfold ZrQ at h;split at h
 ·split at h
  ·exact h
  ·cases h
 ·exact h
def Zt3 (Γ:Gam) (st:Bool) (op:Op):Bool:=(ZrQ st op).isSome||(Zfo Γ op).isSome
theorem ZtG {Γ:Gam} {op:Op} {x:Operand} (h:appArg op=some x):Zfo Γ op=none:=by
 unfold appArg at h;split at h
 ·rfl
 ·rfl
 ·cases h
def ZpS (o:Oper):Bool:=match o.op,o.guard with
 | .load _ _,none=>true
 | _,_=>false
def ZsO (Γ:Gam) (ops:Array Oper) (M:List Nat) (i:Nat):Bool :=
 match ops[i]? with
 | none=>false
 | some oi=>ZpS oi&&(List.range ops.size).all λj=>j == i||JK M i j||JK M j i||match ops[j]? with
  | none=>true
  | some oj=>oi.apart ops oj&&(Ze6 Γ oj.op||Zt3 Γ (Zsy ops.toList) oj.op)
def Jh (Γ:Gam) (ops:Array Oper) (M:List Nat):Vl->Nat->Array Bool->Option (List Nat)->Bool
 | .done,_,listed,none=>(Region.ready .any ops listed).isEmpty
 | .done,_,_,some rem=>rem.isEmpty
 | .op i p,n+1,listed,none=>(Region.ready .any ops listed).contains i&&ZsN Γ ops M i&&Jh Γ ops M p n (listed.setIfInBounds i true) none
 | .ld i p,n+1,listed,none=>(Region.ready .any ops listed).contains i&&ZsO Γ ops M i&&Jh Γ ops M p n (listed.setIfInBounds i true) none
 | .alt i p q,n+1,listed,none=>(Region.ready .any ops listed).contains i&&Jh Γ ops M p n (listed.setIfInBounds i true) none&&Jh Γ ops M q (n+1) listed (some ((Region.ready .any ops listed).filter (· != i)))
 | .alt i p q,n+1,listed,some rem=>Jh Γ ops M p n (listed.setIfInBounds i true) none&&Jh Γ ops M q (n+1) listed (some (rem.filter (· != i)))
 | _,_,_,_=>false
def Za1 (i:Nat):List Nat->Bool
 | []=>false
 | j::r=>Nat.beq j i||Za1 i r
def ZeW:List Nat->List Entry->Prop->Prop
 | [],_,K=>K
 | i::r,H,K=>Zdz H i λe=>match e with
  | .box _=>ZeW r H K
  | _=>False
def wrK (V:List Nat) (regs:List SV) (H:List Entry):List Operand->Prop->Prop
 | [],K=>ZeW V H K
 | x::r,K=>QD regs x λs=>match s with
  | .ptr i _=>Za1 i V=false/\Zdz H i λe=>match e with
   | .box _=>wrK V regs H r K
   | _=>False
  | _=>False
def Zsv (Γ:Gam) (st:Bool) (V:List Nat) (regs:List SV) (H:List Entry) (op:Op) (K:Prop):Prop:=match V with
 | []=>K
 | _=>match ZrQ st op with
  | none=>match Zfo Γ op with
   | none=>K
   | some xs=>wrK V regs H xs K
  | some x=>QD regs x λs=>match s with
   | .nsl=>K
   | .own i=>Za1 i V=false/\Zdz H i λe=>match e with
    | .arr _ _ _=>ZeW V H K
    | .darr _ _ _ _=>ZeW V H K
    | _=>False
   | .oep i _ _ _=>Za1 i V=false/\Zdz H i λe=>match e with
    | .arr _ _ _=>ZeW V H K
    | .darr _ _ _ _=>ZeW V H K
    | .hole _ _ _ _ _ _=>ZeW V H K
    | _=>False
   | _=>False
def ldK (Δ:Tab) (V:List Nat) (o:Oper) (regs:List SV) (H:List Entry) (K:List SV->Prop):Prop:=match o.op,o.guard with
 | .load T x,none=>Zao Δ T λti=>QD regs x λs=>match s with
  | .ptr id off=>Za1 id V=true/\Zdz H id λe=>match e with
   | .box cells=>Ze1 cells off λcs=>XP ti cs λr=>Zoe regs o.dst r K
   | _=>False
  | _=>False
 | _,_=>False
def ZsD:Prop:=True
def ZeL (Δ:Tab) (Γ:Gam) (ops:List Oper) (V:List Nat):Vl->Bool->List SV->List Entry->(List SV->List Entry->Prop)->Prop
 | .done,false,regs,H,K=>ZsD/\K regs H
 | .done,true,_,_,_=>True
 | .op i p,_,regs,H,K=>ZpI ops i λo=>ZpK Δ Γ ops o regs H λregs' H'=>ZeL Δ Γ ops V p false regs' H' K
 | .ld i p,_,regs,H,K=>ZpI ops i λo=>ldK Δ V o regs H λregs'=>ZeL Δ Γ ops V p false regs' H K
 | .can _,_,_,_,_=>False
 | .alt i p .done,_,regs,H,K=>ZpI ops i λo=>Zsv Γ (Zsy ops) V regs H o.op (ZpK Δ Γ ops o regs H λregs' H'=>ZeL Δ Γ ops V p false regs' H' K)
 | .alt i p q,_,regs,H,K=>(ZpI ops i λo=>Zsv Γ (Zsy ops) V regs H o.op (ZpK Δ Γ ops o regs H λregs' H'=>ZeL Δ Γ ops V p false regs' H' K))/\ZeL Δ Γ ops V q true regs H K
def ZtP (Γ:Gam) (ops:Array Oper) (j:Nat):Bool:=match ops[j]? with
 | some o=>Ze6 Γ o.op
 | none=>true
def ZrP (Γ:Gam) (ops:Array Oper) (j:Nat):Bool:=match ops[j]? with
 | some o=>Zt3 Γ (Zsy ops.toList) o.op
 | none=>false
def VOk (V:List Nat) (Bk:Nat->Option Nat) (E:Env):Prop:=∀ id,Za1 id V=true->∃ b,Bk id=some b/\E.ids[id]?=some (.pointer (some ⟨b,0,none⟩))
theorem VOk.le {V:List Nat} {Bk:Nat->Option Nat} {E E':Env} (h:VOk V Bk E) (hle:E.le E'):VOk V Bk E':=λid hi=>by
 obtain ⟨b,h1,h2⟩:=h id hi;exact ⟨b,h1,hle.ids _ _ h2⟩
def Zj0 (B:Base) (V:List Nat) (Bk:Nat->Option Nat) (regs:List SV) (H:List Entry) (a:Act) (w:World):Prop :=
 ∃ E,VOk V Bk E/\E.w=w/\Inv B E H/\Z6 E regs a.tmps.toList/\a.defers=[]
theorem Zj0.ZuZ {B:Base} {V:List Nat} {Bk:Nat->Option Nat} {regs:List SV} {H:List Entry} {a:Act} {w:World} (h:Zj0 B V Bk regs H a w):Conc B regs H a w:=by
 obtain ⟨E,_,h⟩:=h;exact ⟨E,h⟩
def Leaves (Γ:Gam) (ops:Array Oper) (V:List Nat) (Bk:Nat->Option Nat) (j:Nat) (w w':World):Prop :=
 (ZtP Γ ops j=true->Grow w w')/\(ZrP Γ ops j=true->∀ id b,Za1 id V=true->Bk id=some b->b<w.heap.size->w'.heap[b]?=w.heap[b]?)
theorem Leaves.refl {Γ:Gam} {ops:Array Oper} {V:List Nat} {Bk:Nat->Option Nat} {j:Nat} (w:World):Leaves Γ ops V Bk j w w:=⟨λ_=>Grow.refl w,λ_ _ _ _ _ _=>rfl⟩
def Rb (b:Nat) (w w':World):Prop:=b<w.heap.size->b<w'.heap.size/\w'.heap[b]?=w.heap[b]?
theorem Rb.way (b:Nat):Way (Rb b):=⟨λw h=>⟨h,rfl⟩,λx y z h1 h2 h=>by
 obtain ⟨a1,a2⟩:=h1 h;obtain ⟨b1,b2⟩:=h2 a1;exact ⟨b1,b2.trans a2⟩⟩
theorem Rb.of {b:Nat} {w w':World} (h:b<w.heap.size->w'.heap[b]?=w.heap[b]?):Rb b w w':=λhb=>by
 refine ⟨?_,h hb⟩;have:=h hb;rw[Array.getElem?_eq_getElem hb] at this;exact (UW.1 this).1
theorem ZeX:∀ (V:List Nat) {H:List Entry} {K:Prop},ZeW V H K->K/\∀ id,Za1 id V=true->∃ cells,H[id]?=some (.box cells)
 | [],H,K,h=>⟨h,λid hi=>by cases hi⟩
 | i::r,H,K,h=>by
  unfold ZeW at h;obtain ⟨e,he,h⟩:=Yx H h;split at h
  ·rename_i cells
   obtain ⟨hk,hr⟩:=ZeX r h;refine ⟨hk,λid hi=>?_⟩;unfold Za1 at hi;rcases Kl _ _▸hi with hq | hq
   ·have:=Nat.eq_of_beq_eq_true hq
    subst this;exact ⟨cells,he⟩
   ·exact hr id hq
  ·exact h.elim
theorem ZrL {B:Base} {E:Env} {H:List Entry} (hI:Inv B E H) {regs:List SV} {a:Act} (hd:Z6 E regs a.tmps.toList) {V:List Nat} {Bk:Nat->Option Nat} (hV:VOk V Bk E):∀ (xs:List Operand) {K:Prop},wrK V regs H xs K->
  K/\(∀ id,Za1 id V=true->∃ cells,H[id]?=some (.box cells))/\∀ id b,Za1 id V=true->Bk id=some b->∀ x∈xs,Yj (a.eval x)≠some b
 | [],K,h=>⟨(ZeX V h).1,(ZeX V h).2,λid b _ _ x hx=>by cases hx⟩
 | x::r,K,h=>by
  unfold wrK at h;obtain ⟨s,hs,h⟩:=Yg hd h;split at h
  ·rename_i i off
   obtain ⟨hn,h⟩:=h;obtain ⟨en,he,h⟩:=Yx H h;split at h
   ·rename_i cells
    obtain ⟨hk,hbox,hr⟩:=ZrL hI hd hV r h;refine ⟨hk,hbox,λid b hi hbk y hy=>?_⟩;rcases Uo.1 hy with rfl | hy
    ·simp only[den] at hs
     obtain ⟨b0,h1,h2⟩:=hs;rw[h2];intro e;simp only[Yj,Option.some.injEq] at e;subst e;obtain ⟨b',hb1,hb2⟩:=hV id hi;rw[hbk] at hb1;injection hb1 with hb1
     subst hb1;obtain ⟨cells',hc⟩:=hbox id hi;have hkid:i≠id:=λq=>by subst q;rw[hn] at hi;cases hi
     exact Zi1 hI hc hb2 he rfl h1 hkid (by simp[ZdW,Yj])
    ·exact hr id b hi hbk y hy
   ·exact h.elim
  ·exact h.elim
theorem ZrO {B:Base} {E:Env} {H:List Entry} (hI:Inv B E H) {regs:List SV} {a:Act} (hd:Z6 E regs a.tmps.toList) {V:List Nat} {Bk:Nat->Option Nat} (hV:VOk V Bk E) {Γ:Gam} {st:Bool} {op:Op} {K:Prop} (h:Zsv Γ st V regs H op K) :
  (K/\∀ x,ZrQ st op=some x->∀ w',E.w.grownBy w' (Yj (a.eval x))->∀ id b,Za1 id V=true->Bk id=some b->b<E.w.heap.size->w'.heap[b]?=E.w.heap[b]?)/\
  ∀ xs,Zfo Γ op=some xs->∀ id b,Za1 id V=true->Bk id=some b->∀ x∈xs,Yj (a.eval x)≠some b:=by
 unfold Zsv at h;split at h
 ·exact ⟨⟨h,λx _ w' _ id b hi=>by cases hi⟩,λxs _ id b hi=>by cases hi⟩
 ·split at h
  ·rename_i ha
   split at h
   ·rename_i hw
    exact ⟨⟨h,λx hx=>by rw[ha] at hx;cases hx⟩,λxs hx=>by rw[hw] at hx;cases hx⟩
   ·rename_i xs hw
    obtain ⟨hk,_,h2⟩:=ZrL hI hd hV xs h;exact ⟨⟨hk,λx hx=>by rw[ha] at hx;cases hx⟩,λys hy=>by rw[hw] at hy;injection hy with hy;subst hy;exact h2⟩
  ·rename_i x ha
   refine ⟨?_,λxs hx=>by rw[ZtG (Zm7 ha)] at hx;cases hx⟩;obtain ⟨s,hs,h⟩:=Yg hd h;split at h
   ·simp only[den] at hs
    refine ⟨h,λy hy w' hg id b _ _ hb=>?_⟩;rw[ha] at hy;injection hy with hy;subst hy
    rw[hs] at hg;exact hg.block b hb (λe=>by simp[Yj] at e)
   ·rename_i k
    obtain ⟨hn,h⟩:=h;obtain ⟨en,he,h⟩:=Yx H h;simp only[den] at hs;have fin:∀ {K:Prop},ZeW V H K->en.live=true->(∀ g,Yj (a.eval x)=some g->ZdW en (a.eval x) g)->K/\∀ y,ZrQ st op=some y->∀ w',E.w.grownBy w' (Yj (a.eval y))->∀ id b,Za1 id V=true->Bk id=some b->b<E.w.heap.size->w'.heap[b]?=E.w.heap[b]?:=by
     intro K h hl hblk;obtain ⟨hk,hbox⟩:=ZeX V h;refine ⟨hk,λy hy w' hg id b hi hbk hb=>?_⟩;rw[ha] at hy;injection hy with hy;subst hy
     obtain ⟨cells,hc⟩:=hbox id hi;obtain ⟨b',hb1,hb2⟩:=hV id hi;rw[hbk] at hb1;injection hb1 with hb1;subst hb1
     refine hg.block b hb (λe=>?_);have hkid:k≠id:=λq=>by subst q;rw[hn] at hi;cases hi
     exact Zi1 hI hc hb2 he hl hs.1 hkid (hblk b e.symm)
    split at h
    ·exact fin h rfl (λg hg=>hg)
    ·obtain ⟨v,xs,fps,e1,_,_,efp,_⟩:=hI.ent k _ he
     have:=hs.1.symm.trans e1;simp at this;subst this;exact fin h rfl (λg hg=>by simp only[ZdW];rw[efp,hg];simp)
    ·exact h.elim
   ·rename_i k sz i off
    obtain ⟨hn,h⟩:=h;obtain ⟨en,he,h⟩:=Yx H h;simp only[den] at hs;obtain ⟨g0,bo,n0,c0,hs1,hs2⟩:=hs;have fin:∀ {K:Prop},ZeW V H K->en.live=true->ZdW en (.slice (some ⟨g0,bo,none⟩) n0 c0) g0->K/\∀ y,ZrQ st op=some y->∀ w',E.w.grownBy w' (Yj (a.eval y))->∀ id b,Za1 id V=true->Bk id=some b->b<E.w.heap.size->w'.heap[b]?=E.w.heap[b]?:=by
     intro K h hl hblk;obtain ⟨hk,hbox⟩:=ZeX V h;refine ⟨hk,λy hy w' hg id b hi hbk hb=>?_⟩;rw[ha] at hy;injection hy with hy;subst hy
     obtain ⟨cells,hc⟩:=hbox id hi;obtain ⟨b',hb1,hb2⟩:=hV id hi;rw[hbk] at hb1;injection hb1 with hb1;subst hb1
     refine hg.block b hb (λe=>?_);rw[hs2] at e;simp only[Yj,Option.some.injEq] at e;subst e;have hkid:k≠id:=λq=>by subst q;rw[hn] at hi;cases hi
     exact Zi1 hI hc hb2 he hl hs1 hkid hblk
    split at h
    ·exact fin h rfl rfl
    ·obtain ⟨v,xs,fps,e1,_,_,efp,_⟩:=hI.ent k _ he
     have:=hs1.symm.trans e1;simp at this;subst this;exact fin h rfl (by simp only[ZdW];rw[efp];simp[Yj])
    ·obtain ⟨v,xs,x1,vxs,x2,f1,f2,k1,ho,hi0,hi1,ex,el,el2,hr1,hr2,hdc,ef,hnd⟩:=hI.ent k _ he
     have:=hs1.symm.trans k1;simp at this;subst this;exact fin h rfl (by simp only[ZdW];rw[ef];simp[Yj])
    ·exact h.elim
   ·exact h.elim
theorem ZqI {M:List Nat} (hM:∀ i j,JK M i j=true->Behind ops i j) {Δ:Tab} (hΔ:Δ.ok P) {Γ:Gam} (hΓ:Γ.ok P) {B:Base} {V:List Nat} {Bk:Nat->Option Nat} {Q:Exit->Act->World->Prop} (hQ:∀ c a w,¬Q (.panic c) a w) (hs:Zg8 ops=true) {K:List SV->List Entry->Prop}
  (hq:∀ regs' H' a' w',K regs' H'->Zj0 B V Bk regs' H' a' w'->Q .normal a' w') :
  ∀ (p:Vl) (n:Nat) (listed:Array Bool) (m:Option (List Nat)) (regs:List SV) (H:List Entry) (a:Act) (w:World),Zj0 B V Bk regs H a w->Down ops listed->Jh Γ ops M p n listed m=true->ZeL Δ Γ ops.toList V p m.isSome regs H K->
   match m with
   | none=>Ziq P ops (Leaves Γ ops V Bk) Q n listed a w
   | some rem=>∀ i∈rem,i∈Region.ready .any ops listed->wpOp P ops Q i (λa' w'=>Leaves Γ ops V Bk i w w'/\Ziq P ops (Leaves Γ ops V Bk) Q (n-1) (listed.setIfInBounds i true) a' w') a w:=by
 have hsel:∀ (j:Nat) (o:Oper) cs b,ops[j]?=some o->o.op≠.select cs b:=by
  intro j o cs b hj he;unfold Zg8 at hs;rw[Array.all_eq_true_iff_forall_mem] at hs;have:=hs o (Array.mem_of_getElem? hj);rw[he] at this;cases this
 have heavy:∀ (i n:Nat) (listed:Array Bool) (p:Vl) (regs:List SV) (H:List Entry) (a:Act) (w:World),Zj0 B V Bk regs H a w->Down ops listed->i∈Region.ready .any ops listed->Jh Γ ops M p n (listed.setIfInBounds i true) none=true->
   (∀ regs H a w,Zj0 B V Bk regs H a w->ZeL Δ Γ ops.toList V p false regs H K->Ziq P ops (Leaves Γ ops V Bk) Q n (listed.setIfInBounds i true) a w)->
   (ZpI ops.toList i λo=>Zsv Γ (Zsy ops.toList) V regs H o.op (ZpK Δ Γ ops.toList o regs H λregs' H'=>ZeL Δ Γ ops.toList V p false regs' H' K))->
   wpOp P ops Q i (λa' w'=>Leaves Γ ops V Bk i w w'/\Ziq P ops (Leaves Γ ops V Bk) Q n (listed.setIfInBounds i true) a' w') a w:=by
  intro i n listed p regs H a w hc hd hr hp ih hk;obtain ⟨o,ho,hk⟩:=ZhV _ hk;have ho':ops[i]?=some o:=by simpa using ho
  unfold wpOp;simp only[ho'];obtain ⟨E,hV,rfl,hI,hdn,hdef⟩:=hc;obtain ⟨⟨hk,happ⟩,hwrs⟩:=ZrO hI hdn hV hk;refine ZnD hΔ hΓ ops o hI hdn hdef hk (λregs' H' a' E' hk' hI' hd' hdef' hle hg hap hwr=>⟨⟨λhgr=>hg ?_,λhb=>?_⟩,ih regs' H' a' E'.w ⟨E',hV.le hle,rfl,hI',hd',hdef'⟩ hk'⟩)
  ·simpa[ZtP,ho'] using hgr
  ·simp only[ZrP,ho',Zt3,Kl,Option.isSome_iff_exists] at hb
   rcases hb with ⟨x,hx⟩ | ⟨xs,hx⟩
   ·exact happ x hx _ (hap x (Zm7 hx))
   ·exact λid b hi hbk hlt=>hwr xs hx b hlt (hwrs xs hx id b hi hbk)
 intro p;induction p with
 | done =>
  intro n listed m regs H a w hc hd hp hk;cases m with
  | none =>
   simp only[Jh,Kp] at hp;simp only[ZeL,Option.isSome] at hk;cases n with
   | zero=>exact ⟨hp,hq _ _ _ _ hk.2 hc⟩
   | succ n=>exact ⟨λ_=>hq _ _ _ _ hk.2 hc,λi hi=>by rw[hp] at hi;cases hi⟩
  | some rem =>
   simp only[Jh,Kp] at hp;subst hp;intro i hi;cases hi
 | op i p ih =>
  intro n listed m regs H a w hc hd hp hk;cases m with
  | some rem=>cases n<;>simp[Jh] at hp
  | none =>
   cases n with
   | zero=>simp[Jh] at hp
   | succ n =>
    simp only[Jh,Ul,List.contains_iff_mem] at hp;obtain ⟨⟨hr,hf⟩,hp⟩:=hp;simp only[ZeL] at hk;obtain ⟨o,ho,hk⟩:=ZhV _ hk;have ho':ops[i]?=some o:=by simpa using ho
    unfold ZsN at hf;simp only[ho',Ul] at hf;obtain ⟨hl,hf⟩:=hf;obtain ⟨E,hV,rfl,hI,hdn,hdef⟩:=hc;obtain ⟨v,hy,regs',H',hk',E',hle',hw',hc'⟩:=ZpE hΔ ops o hl hI hdn hdef hk;have hfree:∀ j oj,ops[j]?=some oj->j≠i->JK M i j=false->JK M j i=false->o.apart ops oj=true/\(isLoad o.op=true->Ze6 Γ oj.op=true):=by
     intro j oj hj hji hb hb2;rw[U6] at hf;have:=hf j (List.mem_range.2 (UW.1 hj).1);simp only[hj,hb,hb2,Kl,UU,Ul,UH,UN,U0] at this;rcases this with h | ⟨h1,h2⟩
     ·exact absurd h hji
     ·refine ⟨h1,λhld=>?_⟩
      rcases h2 with h2 | h2
      ·rw[hld] at h2;cases h2
      ·exact h2
    refine Zir (R:=λw w'=>isLoad o.op=true->Zlx w w') ⟨λw _=>Zlx.refl w,λa b c h1 h2 h=>(h1 h).trans (h2 h)⟩ ho' (λw=>Leaves.refl w) hsel hQ ?_ n listed a E.w hd hr hy (ih n _ none regs' H' _ _ ⟨E',hV.le hle',hw',hc'⟩ (hd.set hr) hp hk');intro j oj hj hji hb hb2;have nb:∀ x y,¬Behind ops x y->JK M x y=false:=λx y h=>by
     cases hh:JK M x y with
     | false=>rfl
     | true=>exact absurd (hM x y hh) h
    obtain ⟨h1,h2⟩:=hfree j oj hj hji (nb _ _ hb) (nb _ _ hb2);exact ⟨h1,λw w' h hld=>(h.1 (by simpa[ZtP,hj] using h2 hld)).Zwp⟩
 | ld i p ih =>
  intro n listed m regs H a w hc hd hp hk;cases m with
  | some rem=>cases n<;>simp[Jh] at hp
  | none =>
   cases n with
   | zero=>simp[Jh] at hp
   | succ n =>
    simp only[Jh,Ul,List.contains_iff_mem] at hp;obtain ⟨⟨hr,hf⟩,hp⟩:=hp;simp only[ZeL] at hk;obtain ⟨o,ho,hk⟩:=ZhV _ hk;have ho':ops[i]?=some o:=by simpa using ho
    obtain ⟨E,hV,rfl,hI,hdn,hdef⟩:=hc;unfold ZsO at hf;simp only[ho',Ul] at hf;obtain ⟨_,hf⟩:=hf;unfold ldK at hk;split at hk
    ·rename_i T x hop hg
     obtain ⟨ti,ht,hk⟩:=YI Δ hΔ hk;obtain ⟨s,hs1,hk⟩:=Yg hdn hk;split at hk
     ·rename_i id off
      obtain ⟨hid,hk⟩:=hk;obtain ⟨en,he,hk⟩:=Yx H hk;split at hk
      ·rename_i cells
       obtain ⟨b,u,r,hb,hrun,hden,hk⟩:=Zn5 hI ht hs1 he hk;obtain ⟨b',hbk,hb'⟩:=hV id hid;have:=hb.symm.trans hb';simp at this;subst this;have hlt:b<E.w.heap.size:=(hI.free id _ _ b he rfl hb (by simp[ZdW,Yj])).2.2;obtain ⟨regs',hd',hk',hdf⟩:=Zhb (dst:=o.dst) (v:=u) hdn hden hk;have hlit:Lit P ops (Rb b) o u a E.w:=by
        refine .inl ⟨by simp[Region.wanted,hg],λw' hw'=>?_⟩;have h1:=hrun w' (hw' hlt).2;obtain ⟨dst,op,type,pos,after,guard⟩:=o;simp only at hop;subst hop;show Sem.run P (do pure (Next.value (<-Instr.loadAt T (a.eval x))):Sem Next) w'=_;rw[Sem.run_bind,h1];rfl
       refine Zir (R:=Rb b) (Rb.way b) ho' (λw=>Leaves.refl w) hsel hQ ?_ n listed a E.w hd hr hlit (ih n _ none regs' H _ _ ⟨E,hV,rfl,hI,hd',by rw[hdf];exact hdef⟩ (hd.set hr) hp hk');intro j oj hj hji hb1 hb2;have nb:∀ x y,¬Behind ops x y->JK M x y=false:=λx y h=>by
        cases hh:JK M x y with
        | false=>rfl
        | true=>exact absurd (hM x y hh) h
       rw[U6] at hf;have:=hf j (List.mem_range.2 (UW.1 hj).1);simp only[hj,nb _ _ hb1,nb _ _ hb2,Kl,UU,Ul,UN,U0] at this;rcases this with h | ⟨h1,h2⟩
       ·exact absurd h hji
       ·refine ⟨h1,λw w' hlv=>Rb.of λhbl=>?_⟩
        rcases h2 with h2 | h2
        ·exact hlv.1 (by simpa[ZtP,hj] using h2) b hbl
        ·exact hlv.2 (by simpa[ZrP,hj] using h2) id b hid hbk hbl
      ·exact hk.elim
     ·exact hk.elim
    ·exact hk.elim
 | can p ih =>
  intro n listed m regs H a w hc hd hp hk;cases n<;>cases m<;>simp[Jh] at hp
 | alt i p q ihp ihq =>
  intro n listed m regs H a w hc hd hp hk;cases n with
  | zero=>cases m<;>simp[Jh] at hp
  | succ n =>
   obtain ⟨hk1,hk2⟩:(ZpI ops.toList i λo=>Zsv Γ (Zsy ops.toList) V regs H o.op (ZpK Δ Γ ops.toList o regs H λregs' H'=>ZeL Δ Γ ops.toList V p false regs' H' K))/\ZeL Δ Γ ops.toList V q true regs H K:=by
    cases q with
    | done=>exact ⟨by simpa only[ZeL] using hk,trivial⟩
    | _=>simpa only[ZeL] using hk
   cases m with
   | none =>
    simp only[Jh,Ul,List.contains_iff_mem] at hp;obtain ⟨⟨hr,hp⟩,hpq⟩:=hp;have h1:=heavy i n listed p regs H a w hc hd hr hp (λregs H a w hc hk=>ihp n _ none regs H a w hc (hd.set hr) hp hk) hk1;have h2:=ihq (n+1) listed (some _) regs H a w hc hd hpq hk2;refine ⟨λh=>(by rw[h] at hr;cases hr),λj hj=>?_⟩;by_cases hji:j=i
    ·subst hji;exact h1
    ·exact h2 j (List.mem_filter.2 ⟨hj,by simpa using hji⟩) hj
   | some rem =>
    simp only[Jh,Ul] at hp;obtain ⟨hp,hpq⟩:=hp;have h2:=ihq (n+1) listed (some _) regs H a w hc hd hpq hk2;intro j hj hr;by_cases hji:j=i
    ·subst hji
     exact heavy j n listed p regs H a w hc hd hr hp (λregs H a w hc hk=>ihp n _ none regs H a w hc (hd.set hr) hp hk) hk1
    ·exact h2 j (List.mem_filter.2 ⟨hj,by simpa using hji⟩) hr
def Zr0 (Δ:Tab) (Γ:Gam) (ops:List Oper) (V:List Nat) (p:Vl) (regs:List SV) (H:List Entry) (K:List SV->List Entry->Prop):Prop:=match p with
 | .can p=>ZeL Δ Γ ops V p false regs H λregs' H'=>Zmp H 0 λn=>canonK n regs' H' K
 | p=>ZeL Δ Γ ops V p false regs H K
def Zpu:Vl->Bool
 | .done=>false
 | .op _ p=>Zpu p
 | .ld _ _=>true
 | .alt _ p q=>Zpu p||Zpu q
 | .can p=>Zpu p
def Zlu:Nat->List Entry->(List Nat->Prop)->Prop
 | _,[],K=>K []
 | n,e::r,K=>Zlu (n+1) r λV=>match e with
  | .box _=>K (n::V)
  | _=>K V
def Zr1 (i:Nat):List Nat->(List Nat->Prop)->Prop
 | [],K=>K []
 | j::r,K=>Zr1 i r λr'=>match Nat.beq j i with
  | true=>K r'
  | false=>K (j::r')
def ZqN:List SV->Nat->List Nat->(List Nat->Prop)->Prop
 | [],_,V,K=>K V
 | s::_,0,V,K=>match s with
  | .ptr i _=>Zr1 i V K
  | _=>K V
 | _::r,n+1,V,K=>ZqN r n V K
def Zqb (t:Nat):List Oper->Nat
 | []=>t
 | o::r=>match o.dst,o.op with
  | some d,.move (.tmp t')=>match Nat.beq d t with
   | true=>t'
   | false=>Zqb t r
  | _,_=>Zqb t r
def ZlM (all:List Oper) (regs:List SV):List Operand->List Nat->(List Nat->Prop)->Prop
 | [],V,K=>K V
 | x::r,V,K=>match x with
  | .tmp t=>ZqN regs (Zqb t all) V λV'=>ZlM all regs r V' K
  | _=>ZlM all regs r V K
def Zi9 (Γ:Gam) (all:List Oper) (regs:List SV):List Oper->List Nat->(List Nat->Prop)->Prop
 | [],V,K=>K V
 | o::r,V,K=>match Zfo Γ o.op with
  | none=>Zi9 Γ all regs r V K
  | some xs=>ZlM all regs xs V λV'=>Zi9 Γ all regs r V' K
theorem Znj (i:Nat):∀ (V:List Nat) {K:List Nat->Prop},Zr1 i V K->∃ V',K V'/\∀ id,Za1 id V'=true->Za1 id V=true
 | [],K,h=>⟨[],h,λid h=>h⟩
 | j::r,K,h=>by
  obtain ⟨r',h2,hr⟩:=Znj i r h;clear h;split at h2
  ·exact ⟨r',h2,λid h=>by unfold Za1;rw[hr id h,Bool.or_true]⟩
  ·refine ⟨j::r',h2,λid h=>?_⟩
   unfold Za1 at h ⊢;rcases Kl _ _▸h with h | h
   ·rw[h,Bool.true_or]
   ·rw[hr id h,Bool.or_true]
theorem Znk:∀ (l:List SV) (n:Nat) (V:List Nat) {K:List Nat->Prop},ZqN l n V K->∃ V',K V'/\∀ id,Za1 id V'=true->Za1 id V=true
 | [],_,V,K,h=>⟨V,h,λid h=>h⟩
 | s::_,0,V,K,h=>by
  unfold ZqN at h;split at h
  ·exact Znj _ V h
  ·exact ⟨V,h,λid h=>h⟩
 | _::r,n+1,V,K,h=>Znk r n V h
theorem Zja (all:List Oper) (regs:List SV):∀ (xs:List Operand) (V:List Nat) {K:List Nat->Prop},ZlM all regs xs V K->∃ V',K V'/\∀ id,Za1 id V'=true->Za1 id V=true
 | [],V,K,h=>⟨V,h,λid h=>h⟩
 | x::r,V,K,h=>by
  unfold ZlM at h;split at h
  ·obtain ⟨V1,h1,a1⟩:=Znk _ _ _ h
   obtain ⟨V2,h2,a2⟩:=Zja all regs r V1 h1;exact ⟨V2,h2,λid q=>a1 id (a2 id q)⟩
  ·exact Zja all regs r V h
theorem Zhz (Γ:Gam) (all:List Oper) (regs:List SV):∀ (l:List Oper) (V:List Nat) {K:List Nat->Prop},Zi9 Γ all regs l V K->∃ V',K V'/\∀ id,Za1 id V'=true->Za1 id V=true
 | [],V,K,h=>⟨V,h,λid h=>h⟩
 | o::r,V,K,h=>by
  unfold Zi9 at h;split at h
  ·exact Zhz Γ all regs r V h
  ·obtain ⟨V1,h1,a1⟩:=Zja _ _ _ _ h
   obtain ⟨V2,h2,a2⟩:=Zhz Γ all regs r V1 h1;exact ⟨V2,h2,λid q=>a1 id (a2 id q)⟩
def ZqJ (Γ:Gam) (ops:List Oper) (regs:List SV) (p:Vl) (H:List Entry) (K:List Nat->Prop):Prop:=match Zpu p with
 | false=>K []
 | true=>Zlu 0 H λV=>Zi9 Γ ops regs ops V K
theorem ZjX:∀ (H:List Entry) (n:Nat) {K:List Nat->Prop},Zlu n H K->∃ V,K V/\∀ id,Za1 id V=true->n<=id/\∃ cells,H[id-n]?=some (.box cells)
 | [],n,K,h=>⟨[],h,λid hi=>by cases hi⟩
 | e::r,n,K,h=>by
  obtain ⟨V,h2,hV⟩:=ZjX r (n+1) h;clear h;have old:∀ id,Za1 id V=true->n<=id/\∃ cells,(e::r)[id-n]?=some (.box cells):=by
   intro id hi;obtain ⟨a1,c,hc⟩:=hV id hi;refine ⟨by omega,c,?_⟩;rw[show id-n=(id-(n+1))+1 by omega,UL];exact hc
  split at h2
  ·rename_i cells
   refine ⟨_,h2,λid hi=>?_⟩;unfold Za1 at hi;rcases Kl _ _▸hi with hq | hq
   ·have:=Nat.eq_of_beq_eq_true hq
    subst this;exact ⟨UF _,cells,by rw[Nat.sub_self];rfl⟩
   ·exact old id hq
  ·exact ⟨_,h2,old⟩
theorem ZqK {Γ:Gam} {ops:List Oper} {regs:List SV} {p:Vl} {H:List Entry} {K:List Nat->Prop} (h:ZqJ Γ ops regs p H K):∃ V,K V/\∀ id,Za1 id V=true->∃ cells,H[id]?=some (.box cells):=by
 unfold ZqJ at h;split at h
 ·exact ⟨[],h,λid hi=>by cases hi⟩
 ·obtain ⟨V,h,hV⟩:=ZjX H 0 h
  obtain ⟨V',h',hV'⟩:=Zhz Γ ops regs ops V h;exact ⟨V',h',λid hi=>(hV id (hV' id hi)).2⟩
theorem Conc.drew {B:Base} {regs:List SV} {H:List Entry} {a:Act} {w:World} (h:Conc B regs H a w):Conc B regs H a {w with drawn:=w.drawn+1}:=by
 obtain ⟨E,hw,hI,hd,hdef⟩:=h;subst hw;have hle:E.le ⟨E.S,{E.w with drawn:=E.w.drawn+1},E.ids⟩:=⟨λb h=>h,λb h=>rfl,λi v h=>h⟩
 refine ⟨⟨E.S,{E.w with drawn:=E.w.drawn+1},E.ids⟩,rfl,?_,ZF hle _ _ hd,hdef⟩
 exact ⟨⟨hI.keeps.os,hI.keeps.tape,hI.keeps.output,hI.keeps.size,hI.keeps.block⟩,hI.Slt,hI.Sold,hI.len,hI.pin,λi e hi=>Za7 hle i e (λ_ _ _ _ _=>rfl) (hI.ent i e hi),hI.free,hI.sep⟩
theorem Zj0.drew {B:Base} {V:List Nat} {Bk:Nat->Option Nat} {regs:List SV} {H:List Entry} {a:Act} {w:World} (h:Zj0 B V Bk regs H a w):Zj0 B V Bk regs H a {w with drawn:=w.drawn+1}:=by
 obtain ⟨E,hV,hw,hI,hd,hdef⟩:=h;subst hw;have hle:E.le ⟨E.S,{E.w with drawn:=E.w.drawn+1},E.ids⟩:=⟨λb h=>h,λb h=>rfl,λi v h=>h⟩
 refine ⟨⟨E.S,{E.w with drawn:=E.w.drawn+1},E.ids⟩,hV,rfl,?_,ZF hle _ _ hd,hdef⟩
 exact ⟨⟨hI.keeps.os,hI.keeps.tape,hI.keeps.output,hI.keeps.size,hI.keeps.block⟩,hI.Slt,hI.Sold,hI.len,hI.pin,λi e hi=>Za7 hle i e (λ_ _ _ _ _=>rfl) (hI.ent i e hi),hI.free,hI.sep⟩
theorem VOk.ex (V:List Nat) {B:Base} {E:Env} {H:List Entry} (hI:Inv B E H) (h:∀ id,Za1 id V=true->∃ cells,H[id]?=some (.box cells)):∃ Bk,VOk V Bk E:=by
 refine ⟨λid=>match E.ids[id]? with
  | some (.pointer (some ⟨b,_,_⟩))=>some b
  | _=>none,λid hi=>?_⟩
 obtain ⟨cells,hc⟩:=h id hi;obtain ⟨b,_,_,h1,_⟩:=hI.ent id _ hc;exact ⟨b,by simp only[h1],h1⟩
theorem ZqL {Δ:Tab} (hΔ:Δ.ok P) {Γ:Gam} (hΓ:Γ.ok P) {B:Base} {id:Nat} {Q:Exit->Act->World->Prop} (hm:P.follows .mixedOrders=true) {M:List Nat} (hM:Zf9 ops.toList []=M) {p:Vl} (hs:Zg8 ops=true)
  (hp:Jh Γ ops M p.core ops.size (Array.replicate ops.size false) none=true) {regs:List SV} {H:List Entry} {a:Act} {w:World} (hc:Conc B regs H a w)
  {K0:List SV->List Entry->Prop} (hk0:ZqJ Γ ops.toList regs p.core H λV=>Zr0 Δ Γ ops.toList V p regs H K0)
  (hq0:∀ regs' H' a' w',K0 regs' H'->Conc B regs' H' a' w'->Q .normal a' w'):(Code.region id ops true).wp P Q a w:=by
 obtain ⟨V,hk0,hVb⟩:=ZqK hk0;have hpin:∀ (i:Nat) (v:Value),B.pin[i]?=some v->i<H.length:=λi v hi=>by
  obtain ⟨E,_,hI,_⟩:=hc;have:=(Ua.1 (hI.pin i v hi)).1;rw[hI.len] at this;exact this
 obtain ⟨K,hk,hq⟩:∃ K:List SV->List Entry->Prop,ZeL Δ Γ ops.toList V p.core false regs H K/\∀ regs' H' a' w',K regs' H'->Conc B regs' H' a' w'->Q .normal a' w':=by
  unfold Zr0 at hk0;split at hk0
  ·refine ⟨_,hk0,λregs' H' a' w' h hc'=>?_⟩
   rw[Jy,UB] at h;obtain ⟨regs2,H2,h2,hc2⟩:=ZoP hpin h hc';exact hq0 _ _ _ _ h2 hc2
  ·rename_i hne
   have hc0:p.core=p:=by
    cases p with
    | can q=>exact absurd rfl (hne q)
    | _=>rfl
   rw[hc0];exact ⟨K0,hk0,hq0⟩
 generalize p.core=p at hp hk;have hcv:∃ Bk,Zj0 B V Bk regs H a w:=by
  obtain ⟨E,hw,hI,hd,hdef⟩:=hc;obtain ⟨Bk,hV⟩:=VOk.ex V hI hVb;exact ⟨Bk,E,hV,hw,hI,hd,hdef⟩
 obtain ⟨Bk,hcv⟩:=hcv;refine Code.wp_mono (Q:=λe a w=>e=.normal/\Q e a w) (λe a w h=>h.2) ?_;refine wp_region_any hm (ZkM (G:=Leaves Γ ops V Bk) _ _ _ _ ?_);have hMb:∀ i j,JK M i j=true->Behind ops i j:=by
  intro i j h;unfold JK at h;cases hj:M[j]? with
  | none=>simp[hj] at h
  | some m =>
   rw[<-hM] at hj;exact Zky ops.toList [] (by simp) (by simp) j m hj i (by
    rw[hM] at hj;simpa[hj] using h)
 refine ZqI hMb hΔ hΓ (Q:=λe a w=>e=.normal/\Q e a w) (λc a w h=>by cases h.1) hs (λregs' H' a' w' h1 h2=>⟨rfl,hq regs' H' a' w' h1 h2.ZuZ⟩) p ops.size _ none regs H a _ hcv.drew ?_ hp hk;intro j oj e hj hl;have hlt:j<ops.size:=(UW.1 hj).1;simp[hlt] at hl
end
def writes:Code->List Nat
 | .region _ ops _=>ops.toList.filterMap (·.dst)
 | .seq a b=>writes a++writes b
 | .cond _ a b=>writes a++writes b
 | .block _ c=>writes c
 | .loop c=>writes c
 | .scope c=>writes c
 | _=>[]
@[irreducible] def Dead:Prop:=False
theorem Dead.no (h:Dead):False:=by unfold Dead at h;exact h
def ZpP:List Oper->Bool
 | []=>false
 | o::r=>match o.op,o.guard with
  | .panic _,none=>true
  | _,_=>ZpP r
structure Ann where
 loops:List (Nat×List Loc):=[]
 draws:List (Nat×List Nat×Vl):=[]
def Zq0:List (Nat×List Loc)->Nat->(List Loc->Prop)->Prop
 | [],_,_=>False
 | (n,l)::r,id,K=>if n=id then K l else Zq0 r id K
def Zno:List Nat->(List Nat->Bool)->Bool
 | [],k=>k []
 | x::r,k=>Zno r λl=>k (x::l)
theorem ZlP:∀ (l:List Nat) (k:List Nat->Bool),Zno l k=k l
 | [],_=>rfl
 | x::r,k=>by unfold Zno;exact ZlP r _
def Zsh (Γ:Gam) (ops:Array Oper) (M:List Nat) (p:Vl):Bool:=match M with
 | []=>Zno (Zf9 ops.toList []) λM=>Jh Γ ops M p.core ops.size (Array.replicate ops.size false) none
 | _=>Zf9 ops.toList [] == M&&Jh Γ ops M p.core ops.size (Array.replicate ops.size false) none
theorem Zrc {Γ:Gam} {ops:Array Oper} {M:List Nat} {p:Vl} (h:Zsh Γ ops M p=true):Jh Γ ops (Zf9 ops.toList []) p.core ops.size (Array.replicate ops.size false) none=true:=by
 unfold Zsh at h;split at h
 ·rwa [ZlP] at h
 ·rw[Ul,UU] at h
  rw[h.1];exact h.2
def Zq1:List (Nat×List Nat×Vl)->Nat->(List Nat->Vl->Prop)->Prop
 | [],_,_=>False
 | (n,M,l)::r,id,K=>if n=id then K M l else Zq1 r id K
theorem Znx:∀ (A:List (Nat×List Nat×Vl)) {id:Nat} {K:List Nat->Vl->Prop},Zq1 A id K->∃ M l,K M l
 | [],_,_,h=>h.elim
 | (n,M,l)::r,id,K,h=>by
  unfold Zq1 at h;split at h
  ·exact ⟨M,l,h⟩
  ·exact Znx r h
theorem Znw:∀ (A:List (Nat×List Loc)) {id:Nat} {K:List Loc->Prop},Zq0 A id K->∃ l,K l
 | [],_,_,h=>h.elim
 | (n,l)::r,id,K,h=>by
  unfold Zq0 at h;split at h
  ·exact ⟨l,h⟩
  ·exact Znw r h
def Zvx:Loc->Bool
 | .cell id _ _=>Nat.ble 1000 id
 | .cello id _ _=>Nat.ble 1000 id
 | .ent id _ _=>Nat.ble 1000 id
 | .splt id _ _=>Nat.ble 1000 id
 | _=>false
def ZrE:List Loc->Bool
 | []=>false
 | l::r=>match Zvx l with
  | true=>true
  | false=>ZrE r
def Zq9 (id:Nat) (regs:List SV) (H:List Entry) (K:Nat->Prop):Prop :=
 Ziw regs ((id-1000) / 100) λs=>match s with
  | .ptr b o=>Zdz H b λen=>match en with
   | .box cs=>Ziw cs (o+(id-1000) % 100) λc=>match c with
    | .own i=>K i
    | _=>False
   | _=>False
  | _=>False
def ZpZ (regs:List SV) (H:List Entry) (K:Loc->Prop) (l:Loc):Prop:=match Zvx l with
 | false=>K l
 | true=>match l with
  | .cell id off t=>Ziw regs (id-1000) λs=>match s with
   | .ptr b o=>K (.cell b (o+off) t)
   | _=>False
  | .cello id off e=>Ziw regs (id-1000) λs=>match s with
   | .ptr b o=>K (.cello b (o+off) e)
   | _=>False
  | .ent id et e=>Zq9 id regs H λi=>K (.ent i et e)
  | .splt id et e=>Zq9 id regs H λi=>K (.splt i et e)
  | _=>False
def Zrg (regs:List SV) (H:List Entry):List Loc->(List Loc->Prop)->Prop
 | [],K=>K []
 | l::r,K=>ZpZ regs H (λl'=>Zrg regs H r λr'=>K (l'::r')) l
def ZuW (ls:List Loc) (regs:List SV) (H:List Entry) (K:List Loc->Prop):Prop:=match ZrE ls with
 | false=>K ls
 | true=>Zrg regs H ls K
theorem Zg1:∀ (cs:List SV) {n:Nat} {K:SV->Prop},Ziw cs n K->∃ s,K s
 | [],_,_,h=>by simp[Ziw] at h
 | s::r,0,_,h=>⟨s,by simpa[Ziw] using h⟩
 | s::r,n+1,_,h=>Zg1 r (by simpa[Ziw] using h)
theorem ZnG {id:Nat} {regs:List SV} {H:List Entry} {K:Nat->Prop} (h:Zq9 id regs H K):∃ i,K i:=by
 unfold Zq9 at h;obtain ⟨s,h⟩:=Zg1 _ h;split at h
 ·obtain ⟨en,_,h⟩:=Yx H h
  split at h
  ·obtain ⟨c,h⟩:=Zg1 _ h
   split at h
   ·exact ⟨_,h⟩
   ·exact h.elim
  ·exact h.elim
 ·exact h.elim
theorem Zp0 {regs:List SV} {H:List Entry} {K:Loc->Prop} {l:Loc} (h:ZpZ regs H K l):∃ l',K l':=by
 unfold ZpZ at h;split at h
 ·exact ⟨_,h⟩
 ·split at h
  ·obtain ⟨s,h⟩:=Zg1 _ h
   split at h
   ·exact ⟨_,h⟩
   ·exact h.elim
  ·obtain ⟨s,h⟩:=Zg1 _ h
   split at h
   ·exact ⟨_,h⟩
   ·exact h.elim
  ·obtain ⟨i,h⟩:=ZnG h
   exact ⟨_,h⟩
  ·obtain ⟨i,h⟩:=ZnG h
   exact ⟨_,h⟩
  ·exact h.elim
theorem ZnK {regs:List SV} {H:List Entry}:∀ (ls:List Loc) {K:List Loc->Prop},Zrg regs H ls K->∃ ls',K ls'
 | [],_,h=>⟨[],h⟩
 | l::r,K,h=>by
  obtain ⟨l',h⟩:=Zp0 (K:=λl'=>Zrg regs H r λr'=>K (l'::r')) h;obtain ⟨r',h⟩:=ZnK r h;exact ⟨_,h⟩
theorem Zst {ls:List Loc} {regs:List SV} {H:List Entry} {K:List Loc->Prop} (h:ZuW ls regs H K):∃ ls',K ls':=by
 unfold ZuW at h;split at h
 ·exact ⟨_,h⟩
 ·exact ZnK ls h
def sx (Δ:Tab) (Γ:Gam) (A:Ann):Code->Nat->(Exit->List SV->List Entry->Prop)->List SV->List Entry->Prop
 | .skip,_,Q,regs,H=>Q .normal regs H
 | .label _,_,Q,regs,H=>Q .normal regs H
 | .ret,_,Q,regs,H=>Q .ret regs H
 | .exit id,_,Q,regs,H=>Q (.exit id) regs H
 | .region id ops draw,_,Q,regs,H=>if ZpP ops.toList=true then Dead else match draw with
  | false=>ZtU Δ Γ ops.toList ops.toList regs H (Q .normal)
  | true=>Zq1 A.draws id λM p=>(Zg8 ops&&Zsh Γ ops M p)=true/\ZqJ Γ ops.toList regs p.core H λV=>Zr0 Δ Γ ops.toList V p regs H (Q .normal)
 | .seq a b,cur,Q,regs,H=>sx Δ Γ A a cur (λe r h=>match e with
  | .normal=>sx Δ Γ A b cur Q r h
  | e=>Q e r h) regs H
 | .cond c a b,cur,Q,regs,H=>QD regs c λs=>match s with
  | .blit true=>sx Δ Γ A a cur Q regs H
  | .blit false=>sx Δ Γ A b cur Q regs H
  | .bool p=>(p=true->sx Δ Γ A a cur Q regs H)/\(p=false->sx Δ Γ A b cur Q regs H)
  | _=>False
 | .block id c,_,Q,regs,H=>sx Δ Γ A c id (λe r h=>match e with
  | .exit id'=>if id'=id then Q .normal r h else Q (.exit id') r h
  | e=>Q e r h) regs H
 | .loop c,cur,Q,regs,H=>Zq0 A.loops cur λl0=>ZuW l0 regs H λls=>Zd7 ls regs H λv0 H0=>Zfb ls (writes c) λW=>Zoa W regs λregs0=>ZiB ls H0 λH1=>Zmp H1 0 λn0 =>
   ∃ (I:Zmr ls->Prop) (μ:Zmr ls->Nat),I v0/\∀ v,I v->Zlz ls v regs0 H1 λrh Hh=>sx Δ Γ A c cur (λe r h=>match e with
    | .normal=>Zd7 ls r h λv' H2=>Zoa W r λr1=>ZiB ls H2 λH3=>Zkh H3 n0 λH4=>(r1=regs0/\H4=H1)/\I v'/\μ v'<μ v
    | e=>Q e r h) rh Hh
 | _,_,_,_,_=>False
theorem Zfv {p:Nat->Prop} (h:∃ n,p n):∃ n,p n/\∀ m,p m->n<=m:=by
 obtain ⟨n,hn⟩:=h;induction n using Nat.strongRecOn with
 | _ n ih =>
  by_cases hlt:∃ m,m<n/\p m
  ·obtain ⟨m,hm,hp⟩:=hlt;exact ih m hm hp
  ·exact ⟨n,hn,λm hm=>Nat.le_of_not_lt λhlt'=>hlt ⟨m,hlt',hm⟩⟩
theorem Zqq {P:Program} {c:Code} {Q:Exit->Act->World->Prop} (J:Nat->Act->World->Prop)
  (round:∀ n a w,J n a w->c.wp P (Exit.then (λa' w'=>∃ m,m<n/\J m a' w') Q) a w) {n:Nat} {a:Act} {w:World} (h:J n a w):(Code.loop c).wp P Q a w:=by
 classical
 let μ:Act->World->Nat:=λa w=>if h:∃ n,J n a w then Classical.choose (Zfv h) else 0
 have hμ:∀ a w (h:∃ n,J n a w),J (μ a w) a w/\∀ m,J m a w->μ a w<=m:=by
  intro a w h;have:μ a w=Classical.choose (Zfv h):=by simp only[μ,dif_pos h]
  rw[this];exact U2 (Zfv h)
 refine wp_loop (λa w=>∃ n,J n a w) μ ⟨n,h⟩ (λa w hJ=>?_);have h1:=(hμ a w hJ).1;refine Code.wp_mono ?_ (round _ a w h1);intro e a' w' hq;cases e with
 | normal =>
  obtain ⟨m,hm,hJm⟩:=hq;exact ⟨⟨m,hJm⟩,Nat.lt_of_le_of_lt ((hμ a' w' ⟨m,hJm⟩).2 m hJm) hm⟩
 | _=>exact hq
theorem ZdI {B:Base} {E:Env}:∀ (ls:List Loc) {H:List Entry} (_:Inv B E H) {gs:List Nat} (_:Loose B E H gs) {K:List Entry->Prop} (_:ZiB ls H K),
  ∃ H',Inv B E H'/\Loose B E H' gs/\K H'/\Boxed H H'
 | [],H,hI,gs,hL,K,hk=>⟨H,hI,hL,hk,Boxed.refl H⟩
 | .reg _ _::q,H,hI,gs,hL,K,hk=>ZdI q hI hL hk
 | .ent _ _ _::q,H,hI,gs,hL,K,hk=>ZdI q hI hL hk
 | .entm _ _ _::q,H,hI,gs,hL,K,hk=>ZdI q hI hL hk
 | .splt _ _ _::q,H,hI,gs,hL,K,hk=>ZdI q hI hL hk
 | .cell id off t::q,H,hI,gs,hL,K,hk=>by
  simp only[ZiB] at hk;obtain ⟨e,he,hk⟩:=Yx H hk;split at hk
  ·rename_i cells
   rw[Zb1,YH] at hk;have hI1:=hI.weaken (cells':=cells.set off .bot) he (λ_ _ _ _ _ hd=>Zih hd off);obtain ⟨H',h1,h2,h3,h4⟩:=ZdI q hI1 (hL.Zhh he) hk;exact ⟨H',h1,h2,h3,(Boxed.Zhh he).trans h4⟩
  ·exact hk.elim
 | .cello id off e0::q,H,hI,gs,hL,K,hk=>by
  simp only[ZiB] at hk;obtain ⟨e,he,hk⟩:=Yx H hk;split at hk
  ·rename_i cells
   rw[Zb1,YH] at hk;have hI1:=hI.weaken (cells':=cells.set off .bot) he (λ_ _ _ _ _ hd=>Zih hd off);obtain ⟨H',h1,h2,h3,h4⟩:=ZdI q hI1 (hL.Zhh he) hk;exact ⟨H',h1,h2,h3,(Boxed.Zhh he).trans h4⟩
  ·exact hk.elim
theorem ZbZ:∀ (ls:List Loc) {W:List Nat} {K:List Nat->Prop},Zfb ls W K->∃ W',K W'
 | [],W,K,h=>⟨W,h⟩
 | .reg r _::q,W,K,h=>by obtain ⟨W',h⟩:=ZbZ q h;exact ⟨_,h⟩
 | .cell _ _ _::q,W,K,h=>ZbZ q h
 | .cello _ _ _::q,W,K,h=>ZbZ q h
 | .ent _ _ _::q,W,K,h=>ZbZ q h
 | .entm _ _ _::q,W,K,h=>ZbZ q h
 | .splt _ _ _::q,W,K,h=>ZbZ q h
theorem Zkf {P:Program} {Δ:Tab} (hΔ:Δ.ok P) {Γ:Gam} (hΓ:Γ.ok P) (A:Ann) (hm:P.follows .mixedOrders=true) {B:Base}:∀ (c:Code) (cur:Nat) (Q:Exit->List SV->List Entry->Prop) {regs:List SV} {H:List Entry} (_:sx Δ Γ A c cur Q regs H)
  {a:Act} {w:World} (_:Conc B regs H a w) (R:Exit->Act->World->Prop) (_:∀ e regs' H' a' w',Q e regs' H'->Conc B regs' H' a' w'->R e a' w'),c.wp P R a w
 | .skip,_,Q,regs,H,h,a,w,hc,R,hR=>wp_skip (hR _ _ _ _ _ h hc)
 | .label _,_,Q,regs,H,h,a,w,hc,R,hR=>wp_label (hR _ _ _ _ _ h hc)
 | .ret,_,Q,regs,H,h,a,w,hc,R,hR=>wp_ret (hR _ _ _ _ _ h hc)
 | .exit id,_,Q,regs,H,h,a,w,hc,R,hR=>wp_exit (hR _ _ _ _ _ h hc)
 | .region id ops draw,_,Q,regs,H,h,a,w,hc,R,hR=>by
  simp only[sx] at h;split at h
  ·exact h.no.elim
  split at h
  ·exact wp_region_list (ZpM hΔ hΓ ops ops.toList hc h (λregs' H' a' w' hq hc'=>hR _ _ _ _ _ hq hc'))
  ·obtain ⟨M,p,h⟩:=Znx _ h
   obtain ⟨hb,h⟩:=h;rw[Ul] at hb;exact ZqL hΔ hΓ hm rfl hb.1 (Zrc hb.2) hc h (λregs' H' a' w' hq hc'=>hR _ _ _ _ _ hq hc')
 | .seq x y,cur,Q,regs,H,h,a,w,hc,R,hR=>by
  simp only[sx] at h;refine wp_seq (Zkf hΔ hΓ A hm x cur _ h hc _ ?_);intro e regs' H' a' w' hq hc';cases e with
  | normal=>exact Zkf hΔ hΓ A hm y cur Q hq hc' R hR
  | _=>exact hR _ _ _ _ _ hq hc'
 | .cond c x y,cur,Q,regs,H,h,a,w,hc,R,hR=>by
  simp only[sx] at h;obtain ⟨E,hw,hI,hd,hdef⟩:=hc;obtain ⟨s,hs,h⟩:=Yg hd h;split at h
  ·simp only[den] at hs
   exact wp_cond_true hs (Zkf hΔ hΓ A hm x cur Q h ⟨E,hw,hI,hd,hdef⟩ R hR)
  ·simp only[den] at hs
   exact wp_cond_false hs (Zkf hΔ hΓ A hm y cur Q h ⟨E,hw,hI,hd,hdef⟩ R hR)
  ·simp only[den] at hs
   exact wp_cond_split hs (λe=>Zkf hΔ hΓ A hm x cur Q (h.1 e) ⟨E,hw,hI,hd,hdef⟩ R hR) (λe=>Zkf hΔ hΓ A hm y cur Q (h.2 e) ⟨E,hw,hI,hd,hdef⟩ R hR)
  ·exact h.elim
 | .block id c,cur,Q,regs,H,h,a,w,hc,R,hR=>by
  simp only[sx] at h;refine wp_block (Zkf hΔ hΓ A hm c id _ h hc _ ?_);intro e regs' H' a' w' hq hc';cases e with
  | exit id' =>
   simp only at hq;simp only[Exit.inBlock];split at hq
   ·rename_i e;rw[Uf e];exact hR _ _ _ _ _ hq hc'
   ·rename_i e;rw[Ug e];exact hR _ _ _ _ _ hq hc'
  | _=>exact hR _ _ _ _ _ hq hc'
 | .loop c,cur,Q,regs,H,h,a,w,hc,R,hR=>by
  simp only[sx] at h;obtain ⟨l0,h⟩:=Znw A.loops h;obtain ⟨ls,h⟩:=Zst h;obtain ⟨E,hw,hI,hd,hdef⟩:=hc;obtain ⟨E0,H0,v0,g0,hw0,hid0,hI0,hle0,h,hl0,hL0,hb0⟩:=Zc5 ls hI hd [] (Loose.none _ _ _) h;rw[Up] at hL0;obtain ⟨W,h⟩:=ZbZ ls h;obtain ⟨regs0,hd0,h⟩:=Zlc W regs _ (ZF hle0 _ _ hd) h;obtain ⟨H1,hI1,hL1,h,hbox1⟩:=ZdI ls hI0 hL0 h;rw[Jy,UB] at h;obtain ⟨I,μ,hI0v,hround⟩:=h;have hl1:=VJ rfl (λ_ h=>h) (λ_ _ h=>h) hbox1 ls v0 g0 hl0
  let Q':Zmr ls->Exit->List SV->List Entry->Prop:=λv e r h=>match e with
    | .normal=>Zd7 ls r h λv' H2=>Zoa W r λr1=>ZiB ls H2 λH3=>Zkh H3 H1.length λH4=>(r1=regs0/\H4=H1)/\I v'/\μ v'<μ v
    | e=>Q e r h
  let J:Nat->Act->World->Prop:=λn a w=>∃ v rh Hh,I v/\μ v=n/\Conc B rh Hh a w/\sx Δ Γ A c cur (Q' v) rh Hh
  have start:J (μ v0) a w:=by
   obtain ⟨E',Hh,rh,hw',hI',hd',hk⟩:=Zep ls v0 hI1 hd0 g0 hl1 hL1 (hround v0 hI0v);exact ⟨v0,rh,Hh,hI0v,rfl,⟨E',by rw[hw',hw0,hw],hI',hd',hdef⟩,hk⟩
  have rng:ZaF H1.length regs0:=by have:=Q8 _ _ hd0;rwa [hI1.len] at this
  have erng:∀ e∈H1,ZmA H1.length e:=by
   intro e he;obtain ⟨i,hi⟩:=Uu.1 he;have:=Zmz (hI1.ent i e hi)
   rwa [hI1.len] at this
  refine Zqq J ?_ start;rintro n a1 w1 ⟨v,rh,Hh,hIv,hμ,hc1,hsx⟩;subst hμ;refine Zkf hΔ hΓ A hm c cur (Q' v) hsx hc1 _ ?_;intro e r' H' a' w' hq hc';cases e with
  | normal =>
   obtain ⟨E2,hw2,hI2,hd2,hdef2⟩:=hc';obtain ⟨E3,H3,v',g3,hw3,hid3,hI3,hle3,hq,hl3,hL3,hb3⟩:=Zc5 ls hI2 hd2 [] (Loose.none _ _ _) hq;rw[Up] at hL3;obtain ⟨r1,hd3,hq⟩:=Zlc W r' _ (ZF hle3 _ _ hd2) hq;obtain ⟨H4,hI4,hL4,hq,hbox4⟩:=ZdI ls hI3 hL3 hq;rw[Zez] at hq;obtain ⟨⟨hr1,hH4⟩,hIv',hlt⟩:=hq;have hpin:B.pin.length<=H1.length:=by
    rcases U7 B.pin.length with h0 | h0
    ·omega
    ·have hlast:B.pin[B.pin.length-1]?=some (B.pin[B.pin.length-1]'(by omega)):=Ub _
     have:=(Ua.1 (hI1.pin _ _ hlast)).1;rw[hI1.len] at this;omega
   have hI5:=hI4.trunc H1.length hpin (by rw[hH4];exact erng);rw[hH4] at hI5;have hd5:=VY (n:=H1.length) _ _ (by rw[hr1];exact rng) hd3;rw[hr1] at hd5;have hl4:=VJ rfl (λ_ h=>h) (λ_ _ h=>h) hbox4 ls v' g3 hl3;obtain ⟨p1,p2,p3⟩:=Zan ls v0 g0 hl1;have hl5:Qu B ⟨E3.S,E3.w,E3.ids.take H1.length⟩ H1 _ ls v' g3:=QW (E:=E3) (E':=⟨E3.S,E3.w,E3.ids.take H1.length⟩) (H':=H1) rfl (λ_ h=>h) (λi u hi hu=>by
    show (E3.ids.take H1.length)[i]?=some u;rw[Uw,Uf hi];exact hu) (λi c hi hlt=>by
     rw[<-hH4,Uw,Uf hlt];exact ⟨c,hi⟩) (λi c hi=>by
     rw[<-hH4,Uw] at hi;split at hi
     ·exact ⟨c,hi⟩
     ·cases hi) ls v' g3 p1 p2 p3 hl4
   have hL5:Loose B ⟨E3.S,E3.w,E3.ids.take H1.length⟩ H1 g3:=⟨hL4.nodup,hL4.free,λg hg j ej vj hj hlv hv hb=>by
    have hj4:H4[j]?=some ej:=by
     rw[<-hH4,Uw] at hj;split at hj
     ·exact hj
     ·cases hj
    have hv4:E3.ids[j]?=some vj:=by
     have hv':(E3.ids.take H1.length)[j]?=some vj:=hv;rw[Uw] at hv';split at hv'
     ·exact hv'
     ·cases hv'
    exact hL4.apart g hg j ej vj hj4 hlv hv4 hb⟩
   obtain ⟨E',Hh',rh',hw',hI',hd',hk⟩:=Zep ls v' hI5 hd5 g3 hl5 hL5 (hround v' hIv');exact ⟨μ v',hlt,v',rh',Hh',hIv',rfl,⟨E',by rw[hw'];show E3.w=w';rw[hw3,hw2],hI',hd',hdef2⟩,hk⟩
  | _=>exact hR _ _ _ _ _ hq hc'
 | .rangeFunc _ _ _ _,_,Q,regs,H,h,a,w,hc,R,hR=>by simp only[sx] at h
 | .scope _,_,Q,regs,H,h,a,w,hc,R,hR=>by simp only[sx] at h
 | .goto _,_,Q,regs,H,h,a,w,hc,R,hR=>by simp only[sx] at h
 | .refuse _,_,Q,regs,H,h,a,w,hc,R,hR=>by simp only[sx] at h
def Zml:Nat->List SV->(List SV->Prop)->Prop
 | 0,l,K=>K l
 | n+1,l,K=>Zml n (.tup []::l) K
theorem ZjW:∀ (n:Nat) (l:List SV) (K:List SV->Prop),Zml n l K=K (List.replicate n (.tup [])++l)
 | 0,_,_=>rfl
 | n+1,l,K=>by
  simp only[Zml,ZjW n];congr 1;rw[List.replicate_succ',Uj];rfl
def Zrh (Δ:Tab):List ResultVar->List SV->List Entry->(List SV->Prop)->Prop
 | [],_,_,K=>K []
 | .tmp t::r,regs,H,K=>Ziw regs t λs=>Zrh Δ r regs H λss=>K (s::ss)
 | .cell a T::r,regs,H,K=>Ziw regs a λsa=>Zao Δ T λti=>Zn6 ti sa H λs=>Zrh Δ r regs H λss=>K (s::ss)
def ZfR:(l:List Sh)->List SV->List Entry->(Ios l->Prop)->Prop
 | [],_,_,K=>K ()
 | .io e::r,ss,H,K=>match ss with
  | .ptr id 0::ss=>Zdz H id λen=>match en with
   | .box cells=>Zea H id .gone λH0=>closeAll e cells H0 λd H1=>ZfR r ss H1 λds=>K (d,ds)
   | _=>False
  | _=>False
 | .back e::r,ss,H,K=>match ss with
  | s::ss=>if s.whole=true then closeAll e s.cells H λd H1=>ZfR r ss H1 λds=>K (d,ds) else False
  | _=>False
 | .dat _::r,ss,H,K=>match ss with
  | _::ss=>ZfR r ss H K
  | _=>False
 | .own _::r,ss,H,K=>match ss with
  | _::ss=>ZfR r ss H K
  | _=>False
def ZtV (Δ:Tab) (C:Ctr) (res:List ResultVar) (ss0 regs:List SV) (H:List Entry) (K:Shs C.rets->Ios C.args->Prop):Prop :=
 Zrh Δ res regs H λss=>Ziu C.rets ss H λrs H1=>ZfR C.args ss0 H1 λios=>K rs ios
def fnK (Δ:Tab) (Γ:Gam) (A:Ann) (C:Ctr) (fn:Func) (as:Shs C.args) (K:Shs C.rets->Ios C.args->Prop):Prop :=
 match fn.body with
 | none=>False
 | some c=>Zh1 C.args as [] λss H=>Zmp ss 0 λn=>Zml (fn.ntmps-n) [] λus=>ZkW ss us λregs =>
  sx Δ Γ A c 0 (λe regs' H'=>match e with
   | .normal=>ZtV Δ C fn.results.toList ss regs' H' K
   | .ret=>ZtV Δ C fn.results.toList ss regs' H' K
   | _=>False) regs H
def Zsn (tmps:Array Value):ResultVar->Sem Value
 | .tmp t=>pure (tmps.getD t undef)
 | .cell a t=>asAddr (tmps.getD a undef) >>= λp=>loadVar t p
theorem Zlm {P:Program} {Δ:Tab} (hΔ:Δ.ok P) {B:Base} {E:Env} {H:List Entry} (hI:Inv B E H) {regs:List SV} {tmps:Array Value} (hd:Z6 E regs tmps.toList):∀ (l:List ResultVar) {K:List SV->Prop} (_:Zrh Δ l regs H K),
  ∃ ss us,(l.mapM (Zsn tmps)).run P E.w=.ok us E.w/\Z6 E ss us/\K ss
 | [],K,hk=>⟨[],[],rfl,trivial,hk⟩
 | .tmp t::r,K,hk=>by
  simp only[Zrh] at hk;obtain ⟨s,v,hv,hs,hk,_⟩:=Ju _ _ hd hk;obtain ⟨ss,us,h1,h2,h3⟩:=Zlm hΔ hI hd r hk;have hv':tmps.getD t undef=v:=by
   have:tmps[t]?=some v:=by simpa using hv
   simp[this]
  refine ⟨s::ss,v::us,?_,⟨hs,h2⟩,h3⟩;rw[List.mapM_cons,Sem.run_bind,Zsn,hv',Sem.run_pure,Result.andThen_ok,Sem.run_bind,h1];rfl
 | .cell a T::r,K,hk=>by
  simp only[Zrh] at hk;obtain ⟨sa,va,hv,hs,hk,_⟩:=Ju _ _ hd hk;obtain ⟨ti,ht,hk⟩:=YI Δ hΔ hk;obtain ⟨u,s,h0,hu,hk⟩:=Znv hI ht hs hk;have h0:=h0.here;obtain ⟨ss,us,h1,h2,h3⟩:=Zlm hΔ hI hd r hk;have hv':tmps.getD a undef=va:=by
   have:tmps[a]?=some va:=by simpa using hv
   simp[this]
  have hptr:∃ p,va=.pointer (some p):=by
   cases va with
   | pointer p=>cases p with
    | some p=>exact ⟨p,rfl⟩
    | none=>simp[Instr.loadAt,Instr.sureAddr] at h0
   | _=>simp[Instr.loadAt,Instr.sureAddr] at h0
  obtain ⟨p,rfl⟩:=hptr;have h0':(loadVar T p).run P E.w=.ok u E.w:=by simpa[Instr.loadAt,Instr.sureAddr] using h0
  refine ⟨s::ss,u::us,?_,⟨hu,h2⟩,h3⟩;rw[List.mapM_cons,Sem.run_bind,Zsn,hv',asAddr,pure_bind,h0',Result.andThen_ok,Sem.run_bind,h1];rfl
theorem Zok (fn:Func) (tmps:Array Value):results fn tmps=(fn.results.mapM (Zsn tmps) >>= λvs=>pure (if h:vs.size=1 then vs[0] else .tuple vs)):=by
 have e:(λx=>match x with
  | ResultVar.tmp t=>pure (tmps.getD t undef)
  | ResultVar.cell a t=>do loadVar t (<-asAddr (tmps.getD a undef)):ResultVar->Sem Value)=Zsn tmps:=by
  funext x;cases x<;>rfl
 rw[<-e];rfl
theorem ZjI {P:Program} {fn:Func} {tmps:Array Value} {us:List Value} {w:World} (h:(fn.results.toList.mapM (Zsn tmps)).run P w=.ok us w) :
  ∃ v,(results fn tmps).run P w=.ok v w/\retv us v:=by
 have h':(fn.results.mapM (Zsn tmps)).run P w=.ok us.toArray w:=by
  rw[<-Array.toArray_toList (xs:=fn.results),List.mapM_toArray];simp only[Sem.run_map,h,Result.andThen_ok]
 rw[Zok,Sem.run_bind,h',Result.andThen_ok];unfold retv
 match us with
 | [u]=>exact ⟨u,rfl,rfl⟩
 | []=>exact ⟨_,rfl,rfl⟩
 | a::b::r=>exact ⟨.tuple (a::b::r).toArray,by simp,rfl⟩
theorem Ze8 {B:Base}:∀ (l:List Sh) (ss:List SV) {E:Env} {H:List Entry} (_:Inv B E H) {vs:List Value} (_:Z6 E ss vs) (_:∃ (S:Nat->Prop) (w:World) (as:Shs l) (fp:List Nat),ZaY S w l as vs fp) {gs:List Nat} (_:Loose B E H gs) {K:Ios l->Prop} (_:ZfR l ss H K),
  ∃ E1 H1 ios fio,Frz E H E1 H1/\Inv B E1 H1/\ZdG E1.S E1.w l ios vs fio/\K ios/\Loose B E1 H1 (fio++gs)
 | [],ss,E,H,hI,vs,hd,hf,gs,hL,K,hk=>⟨E,H,(),[],Frz.refl E H,hI,rfl,hk,hL⟩
 | .io e::r,ss,E,H,hI,vs,hd,⟨S,w,as,fp,v,vr,f0,fr,ev,_,hsh,hrest⟩,gs,hL,K,hk=>by
  simp only[ZfR] at hk;subst ev;split at hk
  ·rename_i id ss
   simp only[Z6] at hd;obtain ⟨en,he,hk⟩:=Yx H hk;split at hk
   ·rename_i cells
    rw[YH] at hk;have hv:=hd.1;simp only[den] at hv;obtain ⟨b,hb0,hv⟩:=hv;obtain ⟨b',cs0,T,e1,e2,e3⟩:=hI.ent id _ he;have:=hb0.symm.trans e1;simp at this;subst this;have t1:Frz E H E (H.set id .gone):=Frz.one he rfl hb0 rfl (Env.le.refl E) (λb hb=>.inl hb);have t3:=hL.take hI he rfl hb0 (f:=[b]) (by simp) (λg hg=>by
     simp at hg;subst hg;rfl)
    obtain ⟨E1,H1,d,f,hf1,hI1,hr,hk,hL1,hT,_⟩:=XA (hI.drop id) e3 t3 hk;obtain ⟨E2,H2,ios,fio,hf2,hI2,hio,hk,hL2⟩:=Ze8 r ss hI1 (ZF hf1.le _ _ hd.2) ⟨S,w,as.2,fr,hrest⟩ hL1 hk;refine ⟨E2,H2,(d,ios),(b::f)++fio,(t1.trans hf1).trans hf2,hI2,⟨v,vr,b::f,fio,rfl,rfl,⟨b,cs0,T,f,hv,by rw[hf2.w,hf1.w];exact e2,?_,rfl⟩,hio⟩,hk,hL2.perm ?_⟩
    ·exact Yi hf2.le.S hf2.le.w e _ _ _ (λg _=>by rw[hf2.w]) hr
    ·simp only[UR,Uv,Uj]
     rw[<-Uj];refine List.perm_middle.trans (List.Perm.cons b ?_);rw[<-Uj];exact UG.append_right gs
   ·exact hk.elim
  ·exact hk.elim
 | .back e::r,ss,E,H,hI,vs,hd,⟨S,w,as,fp,v,vr,f0,fr,ev,_,hsh,hrest⟩,gs,hL,K,hk=>by
  simp only[ZfR] at hk;subst ev;split at hk
  ·rename_i s ss
   simp only[Z6] at hd;split at hk
   ·rename_i hw
    obtain ⟨E1,H1,d,f,hf1,hI1,hr,hk,hL1,hT,_⟩:=XA hI (QM hd.1 hw) hL hk;obtain ⟨E2,H2,ios,fio,hf2,hI2,hio,hk,hL2⟩:=Ze8 r ss hI1 (ZF hf1.le _ _ hd.2) ⟨S,w,as.2,fr,hrest⟩ hL1 hk;refine ⟨E2,H2,(d,ios),f++fio,hf1.trans hf2,hI2,⟨v,vr,f,fio,rfl,rfl,⟨hsh.1,?_⟩,hio⟩,hk,hL2.perm ?_⟩
    ·exact Yi hf2.le.S hf2.le.w e _ _ _ (λg _=>by rw[hf2.w]) hr
    ·rw[<-Uj]
     exact UG.append_right gs
   ·exact hk.elim
  ·exact hk.elim
 | .dat _::r,ss,E,H,hI,vs,hd,⟨S,w,as,fp,v,vr,f0,fr,ev,_,hsh,hrest⟩,gs,hL,K,hk=>by
  simp only[ZfR] at hk;subst ev;split at hk
  ·simp only[Z6] at hd
   obtain ⟨E2,H2,ios,fio,hf2,hI2,hio,hk,hL2⟩:=Ze8 r _ hI hd.2 ⟨S,w,as.2,fr,hrest⟩ hL hk;exact ⟨E2,H2,ios,fio,hf2,hI2,⟨v,vr,rfl,hio⟩,hk,hL2⟩
  ·exact hk.elim
 | .own _::r,ss,E,H,hI,vs,hd,⟨S,w,as,fp,v,vr,f0,fr,ev,_,hsh,hrest⟩,gs,hL,K,hk=>by
  simp only[ZfR] at hk;subst ev;split at hk
  ·simp only[Z6] at hd
   obtain ⟨E2,H2,ios,fio,hf2,hI2,hio,hk,hL2⟩:=Ze8 r _ hI hd.2 ⟨S,w,as.2,fr,hrest⟩ hL hk;exact ⟨E2,H2,ios,fio,hf2,hI2,⟨v,vr,rfl,hio⟩,hk,hL2⟩
  ·exact hk.elim
theorem Zhj {w:World} {S:Nat->Prop}:∀ (l:List Sh) (d:Shs l) (vs:List Value) (fp:List Nat),ZaY S w l d vs fp->l.length=vs.length
 | [],_,_,_,h=>by rw[h.1];rfl
 | _::r,d,_,_,⟨v,vr,f,fr,e,_,_,h⟩=>by subst e;simp[Zhj r d.2 vr fr h]
theorem Inv.more {B:Base} {E:Env} {H:List Entry} (h:Inv B E H) (hB:∀ b,B.S b->b<B.w.heap.size/\¬B.io b):Inv B ⟨λb=>E.S b\/B.S b,E.w,E.ids⟩ H/\E.le ⟨λb=>E.S b\/B.S b,E.w,E.ids⟩:=by
 have hle:E.le ⟨λb=>E.S b\/B.S b,E.w,E.ids⟩:=⟨λ_ h=>.inl h,λ_ _=>rfl,λ_ _ h=>h⟩;exact ⟨
  {keeps:=h.keeps
   Slt:=λb hb=>hb.elim (h.Slt b) (λhb=>UA (hB b hb).1 h.keeps.size)
   Sold:=λb hb hlt=>hb.elim (λhb=>h.Sold b hb hlt) .inl
   len:=h.len,pin:=h.pin
   ent:=λi e hi=>Za7 hle i e (λ_ _ _ _ _=>rfl) (h.ent i e hi)
   free:=λi e v g hi hl hv hb=>by
    obtain ⟨a,b,c⟩:=h.free i e v g hi hl hv hb;refine ⟨λhs=>hs.elim a (λhs=>?_),b,c⟩;obtain ⟨h1,h2⟩:=hB g hs;rcases b with b | b
    ·omega
    ·exact h2 b
   sep:=h.sep},hle⟩
theorem Zj {P:Program} {Δ:Tab} (hΔ:Δ.ok P) {Γ:Gam} (hΓ:Γ.ok P) (hm:P.follows .mixedOrders=true) (A:Ann) {f:FuncId} {fn:Func} (hf:P.funcs[f]?=some fn) (hname:(fn.name == "runtime.NumGoroutine")=false:=by kernel_rfl) (hbody:fn.body.isNone=false:=by kernel_rfl) {C:Ctr}
  (hvc:∀ (as:Shs C.args) (K:Shs C.rets->Ios C.args->Prop),C.tr as K->fnK Δ Γ A C fn as K):Za P f C:=by
 refine ⟨⟨fn,hf,hname,hbody⟩,?_⟩;intro w S vs as fp K hSlt has hnd hpriv hK;have hk:=hvc as K hK;unfold fnK at hk;split at hk
 ·exact hk.elim
 ·rename_i c hbody'
  let B0:Base:=⟨w,S,λb=>b∈fp,[]⟩
  have hI0:Inv B0 ⟨S,w,[]⟩ [] :=
   {keeps:=⟨rfl,rfl,rfl,UF _,λ_ _ _=>rfl⟩
    Slt:=hSlt
    Sold:=λb hb _=>.inl hb
    len:=rfl
    pin:=λ_ _ h=>h
    ent:=λi e hi=>by simp at hi
    free:=λi e v g hi=>by simp at hi
    sep:=λi j ei ej vi vj g hi=>by simp at hi}
  have hL0:Loose B0 ⟨S,w,[]⟩ [] (fp++[]):=by
   rw[Up];exact ⟨hnd,λg hg=>⟨(hpriv g hg).1,.inr hg,(hpriv g hg).2⟩,λg _ j e v hj=>by simp at hj⟩
  obtain ⟨E1,H1,ss,hw1,hS1,hI1,hle1,hd1,hk⟩:=Zfy (E:=⟨S,w,[]⟩) C.args as vs hI0 has hL0 hk;rw[Jy,ZjW,Vz,UB,Up] at hk;have hl:=Ym _ _ hd1
  let B:Base:=⟨w,S,λb=>b∈fp,E1.ids⟩
  have hI:Inv B E1 H1 :=
   {keeps:=⟨hI1.keeps.os,hI1.keeps.tape,hI1.keeps.output,hI1.keeps.size,hI1.keeps.block⟩
    Slt:=hI1.Slt,Sold:=hI1.Sold,len:=hI1.len,pin:=λ_ _ h=>h,ent:=hI1.ent,free:=hI1.free,sep:=hI1.sep}
  refine calls_of_wp hf hbody' ?_;have hdens:Z6 E1 (ss++List.replicate (fn.ntmps-ss.length) (.tup [])) (vs.toArray++Array.replicate (fn.ntmps-vs.toArray.size) undef).toList:=by
   rw[Array.toList_append,Array.toList_replicate,Kd,U4,hl];refine VB _ _ hd1 _ _ ?_;have:∀ n,Z6 E1 (List.replicate n (.tup [])) (List.replicate n undef):=by
    intro n;induction n with
    | zero=>trivial
    | succ n ih=>exact ⟨by simp only[den];exact ⟨[],rfl,trivial⟩,ih⟩
   exact this _
  rw[<-show E1.w=w from hw1];refine Zkf hΔ hΓ A hm c 0 _ hk (B:=B) ⟨_,rfl,hI,hdens,rfl⟩ _ ?_;intro e regs' H' a' w' hq hc';obtain ⟨E2,hw2,hI2,hd2,hdef2⟩:=hc';subst hw2;rw[show E1.w=w from hw1];have fin:ZtV Δ C fn.results.toList ss regs' H' K->bodyPost P fn (λe w'=>∃ v us rs ios S' fr fio,e=.returned v/\retv us v/\K rs ios/\Keeps ⟨w,S,λb=>b∈fp,[]⟩ w'/\(∀ b,S b->S' b)/\
    (∀ b,S' b->b<w'.heap.size/\(b<w.heap.size->S b\/b∈fp))/\ZaY S' w' C.rets rs us fr/\ZdG S' w' C.args ios vs fio/\
    (fio++fr).Nodup/\∀ g∈fio++fr,¬S' g/\g<w'.heap.size/\(w.heap.size<=g\/g∈fp)) .ret a' E2.w:=by
   intro hq;unfold ZtV at hq;have hBS:∀ b,B.S b->b<B.w.heap.size/\¬B.io b:=λb hb=>⟨hSlt b hb,λhio=>(hpriv b hio).1 hb⟩;obtain ⟨hI3,hle3⟩:=hI2.more hBS;obtain ⟨ss',us,hrun,hds,hq⟩:=Zlm hΔ hI3 (ZF hle3 _ _ hd2) _ hq;have hle0:E1.le ⟨λb=>E2.S b\/B.S b,E2.w,E2.ids⟩:=by
    refine ⟨λb hb=>.inr (by rw[hS1] at hb;exact hb),λb hb=>?_,λi v hv=>hI2.pin i v hv⟩;have hb':S b:=by rw[hS1] at hb;exact hb
    rw[hw1];exact hI2.keeps.block b (hSlt b hb') (λhio=>(hpriv b hio).1 hb')
   have hss:=ZF hle0 _ _ hd1;obtain ⟨E4,H4,rs,fr,hf4,hI4,hrs,hq,hL4,_⟩:=Zfp C.rets ss' hI3 hds (Loose.none _ _ _) hq;obtain ⟨E5,H5,ios,fio,hf5,hI5,hio,hq,hL5⟩:=Ze8 C.args ss hI4 (ZF hf4.le _ _ hss) ⟨S,w,as,fp,has⟩ hL4 hq;rw[Up] at hL5;obtain ⟨v,hv,hret⟩:=ZjI hrun;have hww:E5.w=E2.w:=by rw[hf5.w,hf4.w]
   refine bodyPost_ret hv hdef2 ⟨v,us,rs,ios,E5.S,fr,fio,rfl,hret,hq,?_,λb hb=>hf5.le.S b (hf4.le.S b (.inr hb)),?_,?_,?_,hL5.nodup,?_⟩
   ·have:=hI2.keeps
    exact ⟨this.os,this.tape,this.output,this.size,this.block⟩
   ·intro b hb
    exact ⟨by rw[<-hww];exact hI5.Slt b hb,λhlt=>hI5.Sold b hb hlt⟩
   ·show ZaY E5.S E2.w C.rets rs us fr
    rw[<-hww];exact Zl9 hf5.le _ _ _ _ (λg _=>by rw[hf5.w]) hrs
   ·show ZdG E5.S E2.w C.args ios vs fio
    rw[<-hww];exact hio
   ·intro g hg
    obtain ⟨a1,a2,a3⟩:=hL5.free g hg;exact ⟨a1,by rw[<-hww];exact a3,a2⟩
  cases e with
  | normal=>exact fin hq
  | ret=>exact fin hq
  | _=>exact hq.elim
def ZuJ (Δ:Tab) (Γ:Gam) (A:Ann) (fn:Func) (ss:List SV) (H:List Entry) (K:SV->List Entry->Prop):Prop :=
 match fn.body with
 | none=>False
 | some c=>Zmp ss 0 λn=>Zml (fn.ntmps-n) [] λus=>ZkW ss us λregs =>
  sx Δ Γ A c 0 (λe regs' H'=>match e with
   | .normal=>Zrh Δ fn.results.toList regs' H' λss'=>Zl0 ss' λs=>K s H'
   | .ret=>Zrh Δ fn.results.toList regs' H' λss'=>Zl0 ss' λs=>K s H'
   | _=>False) regs H
def ZuI (Δ:Tab) (Γ:Gam) (A:Ann) (fn:Func):Cal:=⟨ZuJ Δ Γ A fn,false,none⟩
theorem ZsQ {P:Program} {Δ:Tab} (hΔ:Δ.ok P) {Γ:Gam} (hΓ:Γ.ok P) (hm:P.follows .mixedOrders=true) (A:Ann) {f:FuncId} {fn:Func} (hf:P.funcs[f]?=some fn) (hname:(fn.name == "runtime.NumGoroutine")=false) (hbody:fn.body.isNone=false):ZoA P f (ZuI Δ Γ A fn):=by
 refine ⟨⟨fn,hf,hname,hbody⟩,?_⟩;intro B E H hI ss vs hd K hk;have hk:ZuJ Δ Γ A fn ss H K:=hk;unfold ZuJ at hk;split at hk
 ·exact hk.elim
 ·rename_i c hbody'
  rw[Jy,ZjW,Vz,UB,Up] at hk;have hl:=Ym _ _ hd
  let B1:Base:=⟨E.w,E.S,λb=>¬E.S b/\(B.w.heap.size<=b\/B.io b),E.ids⟩
  have hI1:Inv B1 E H :=
   {keeps:=⟨rfl,rfl,rfl,UF _,λ_ _ _=>rfl⟩
    Slt:=hI.Slt,Sold:=λb hb _=>.inl hb,len:=hI.len,pin:=λ_ _ h=>h,ent:=hI.ent
    free:=λi e v g hi hl hv hb=>by
     obtain ⟨a,b,c⟩:=hI.free i e v g hi hl hv hb;exact ⟨a,.inr ⟨a,b⟩,c⟩
    sep:=hI.sep}
  refine calls_of_wp hf hbody' ?_;have hdens:Z6 E (ss++List.replicate (fn.ntmps-ss.length) (.tup [])) (vs.toArray++Array.replicate (fn.ntmps-vs.toArray.size) undef).toList:=by
   rw[Array.toList_append,Array.toList_replicate,Kd,U4,hl];refine VB _ _ hd _ _ ?_;have:∀ n,Z6 E (List.replicate n (.tup [])) (List.replicate n undef):=by
    intro n;induction n with
    | zero=>trivial
    | succ n ih=>exact ⟨by simp only[den];exact ⟨[],rfl,trivial⟩,ih⟩
   exact this _
  refine Zkf hΔ hΓ A hm c 0 _ hk (B:=B1) ⟨_,rfl,hI1,hdens,rfl⟩ _ ?_;intro e regs' H' a' w' hq hc';obtain ⟨E2,hw2,hI2,hd2,hdef2⟩:=hc';subst hw2;have hBS:∀ b,B1.S b->b<B1.w.heap.size/\¬B1.io b:=λb hb=>⟨hI.Slt b hb,λhio=>hio.1 hb⟩;obtain ⟨hI3,hle3⟩:=hI2.more hBS;have hstand:∀ b,b<E.w.heap.size->¬(¬E.S b/\(B.w.heap.size<=b\/B.io b))->E2.w.heap[b]?=E.w.heap[b]?:=λb h1 h2=>hI2.keeps.block b h1 h2;have hsz:E.w.heap.size<=E2.w.heap.size:=hI2.keeps.size;have hB0:=hI.keeps.size;have hIB:Inv B ⟨λb=>E2.S b\/B1.S b,E2.w,E2.ids⟩ H' :=
   {keeps:=⟨hI2.keeps.os.trans hI.keeps.os,hI2.keeps.tape.trans hI.keeps.tape,hI2.keeps.output.trans hI.keeps.output,U9 hB0 hsz,λb hb hio =>
     (hstand b (UA hb hB0) (λh=>by
      rcases h.2 with h2 | h2
      ·omega
      ·exact hio h2)).trans (hI.keeps.block b hb hio)⟩
    Slt:=hI3.Slt
    Sold:=λb hb hlt=>by
     rcases hb with hb | hb
     ·rcases hI2.Sold b hb (UA hlt hB0) with h | h
      ·exact hI.Sold b h hlt
      ·rcases h.2 with h2 | h2
       ·omega
       ·exact .inr h2
     ·exact hI.Sold b hb hlt
    len:=hI2.len
    pin:=λi v hv=>hI2.pin i v (hI.pin i v hv)
    ent:=hI3.ent
    free:=λi e v g hi hl hv hb=>by
     obtain ⟨a,b,c⟩:=hI3.free i e v g hi hl hv hb;refine ⟨a,?_,c⟩;rcases b with b | b
     ·exact .inl (U9 hB0 b)
     ·exact b.2
    sep:=hI2.sep}
  have hle:E.le ⟨λb=>E2.S b\/B1.S b,E2.w,E2.ids⟩:=⟨λb hb=>.inr hb,λb hb=>hstand b (hI.Slt b hb) (λh=>h.1 hb),λi v hv=>hI2.pin i v hv⟩;have fin:(Zrh Δ fn.results.toList regs' H' λss'=>Zl0 ss' λs=>K s H')->bodyPost P fn (λe w'=>∃ v E' H' s,e=.returned v/\E'.w=w'/\Inv B E' H'/\E.le E'/\den E' s v/\K s H'/\((ZuI Δ Γ A fn).dat=true->Grow E.w w')/\(∀ m,(ZuI Δ Γ A fn).io=some m->∀ b,b<E.w.heap.size->(∀ v∈pick m vs,Yj v≠some b)->w'.heap[b]?=E.w.heap[b]?)) .ret a' E2.w:=by
   intro hq;obtain ⟨ss',us,hrun,hds,hq⟩:=Zlm hΔ hIB (ZF hle3 _ _ hd2) _ hq;obtain ⟨v,hv,hret⟩:=ZjI hrun;obtain ⟨s,hs,hq⟩:=ZnE hds hret hq;exact bodyPost_ret hv hdef2 ⟨v,⟨λb=>E2.S b\/B1.S b,E2.w,E2.ids⟩,H',s,rfl,rfl,hIB,hle,hs,hq,(λh=>by cases h),(λm h=>by cases h)⟩
  cases e with
  | normal=>exact fin hq
  | ret=>exact fin hq
  | _=>exact hq.elim
def Qp {α:Type} (o:Option α) (k:α->Prop):Prop:=∃ r,o=some r/\k r
def iterM {σ ρ:Type} (step:σ->Option (σ ⊕ ρ)):Nat->σ->Option ρ
 | 0,_=>none
 | n+1,v=>match step v with
  | none=>none
  | some (.inl v')=>iterM step n v'
  | some (.inr r)=>some r
theorem ZhT {σ ρ:Type} {step:σ->Option (σ ⊕ ρ)} {r:ρ}:∀ {n m:Nat} {v:σ},iterM step n v=some r->n<=m->iterM step m v=some r
 | 0,_,_,h,_=>by simp[iterM] at h
 | n+1,0,_,_,hm=>by omega
 | n+1,m+1,v,h,hm=>by
  simp only[iterM] at h ⊢;split at h
  ·cases h
  ·exact ZhT h (by omega)
  ·exact h
theorem Zpy {σ ρ:Type} {step:σ->Option (σ ⊕ ρ)} {r r':ρ} {n m:Nat} {v:σ} (h:iterM step n v=some r) (h':iterM step m v=some r'):r=r':=by
 have h1:=ZhT h (Nat.le_max_left n m);have h2:=ZhT h' (Nat.le_max_right n m);rw[h1] at h2;injection h2
noncomputable def Zr {σ ρ:Type} (step:σ->Option (σ ⊕ ρ)) (v:σ):Option ρ :=
 open Classical in if h:∃ r n,iterM step n v=some r then some (Classical.choose h) else none
theorem ZeC {σ ρ:Type} {step:σ->Option (σ ⊕ ρ)} {v:σ} {r:ρ}:Zr step v=some r<->∃ n,iterM step n v=some r:=by
 unfold Zr;constructor
 ·intro h
  split at h
  ·rename_i hx
   obtain ⟨n,hn⟩:=U2 hx;injection h with h;rw[h] at hn;exact ⟨n,hn⟩
  ·cases h
 ·rintro ⟨n,hn⟩
  have hx:∃ r n,iterM step n v=some r:=⟨r,n,hn⟩;rw[dif_pos hx];obtain ⟨m,hm⟩:=U2 hx;rw[Zpy hm hn]
theorem Zmo {σ ρ:Type} (step:σ->Option (σ ⊕ ρ)) (v:σ):Zr step v=match step v with
  | none=>none
  | some (.inl v')=>Zr step v'
  | some (.inr r)=>some r:=by
 apply Option.ext;intro r;rw[ZeC];constructor
 ·rintro ⟨n,hn⟩
  cases n with
  | zero=>simp[iterM] at hn
  | succ n =>
   simp only[iterM] at hn;split
   ·rename_i e;rw[e] at hn;cases hn
   ·rename_i v' e;rw[e] at hn;exact ZeC.2 ⟨n,hn⟩
   ·rename_i r' e;rw[e] at hn;exact hn
 ·intro h
  split at h
  ·cases h
  ·rename_i v' e
   obtain ⟨n,hn⟩:=ZeC.1 h;exact ⟨n+1,by simp only[iterM,e];exact hn⟩
  ·rename_i r' e
   exact ⟨1,by simp only[iterM,e];exact h⟩
theorem Zhr {σ ρ:Type} {step:σ->Option (σ ⊕ ρ)} {v v':σ} (h:step v=some (.inl v')):Zr step v=Zr step v':=by rw[Zmo,h]
theorem Zd9 {σ ρ:Type} {step:σ->Option (σ ⊕ ρ)} {v:σ} {r:ρ} (h:step v=some (.inr r)):Zr step v=some r:=by rw[Zmo,h]
theorem ZkK {σ ρ:Type} {step:σ->Option (σ ⊕ ρ)} (I:σ->Prop) (μ:σ->Nat) (Q:ρ->Prop) {v:σ} (h0:I v)
  (hs:∀ v,I v->(∃ v',step v=some (.inl v')/\I v'/\μ v'<μ v)\/∃ r,step v=some (.inr r)/\Q r):∃ r,Zr step v=some r/\Q r:=by
 have:∀ n v,I v->μ v<n->∃ r,Zr step v=some r/\Q r:=by
  intro n;induction n with
  | zero=>intro v _ h;omega
  | succ n ih =>
   intro v hI hn;rcases hs v hI with ⟨v',e,hI',hlt⟩ | ⟨r,e,hq⟩
   ·obtain ⟨r,h1,h2⟩:=ih v' hI' (by omega)
    exact ⟨r,by rw[Zhr e];exact h1,h2⟩
   ·exact ⟨r,Zd9 e,hq⟩
 exact this (μ v+1) v h0 (by omega)
def atI {α:Type} (l:List α) (i:Int):Option α:=if 0<=i then l[i.toNat]? else none
noncomputable def Zp {α:Type} (p:Prop) (a:Option α):Option α:=open Classical in if p then a else none
section
variable {α β:Type} {A B:Prop} {r:β} {a b:Option β}
theorem Zmn {q:Prop} {_:Decidable q} (h:(if q then a else b)=some r) (ha:a=some r->A) (hb:b=some r->B):(decide q=true->A)/\(decide q=false->B):=by
 by_cases hq:q
 ·rw[Uf hq] at h;exact ⟨λ_=>ha h,λe=>by simp[hq] at e⟩
 ·rw[Ug hq] at h;exact ⟨λe=>by simp[hq] at e,λ_=>hb h⟩
theorem Zrt {q:Prop} {_:Decidable q} (h:(if q then a else b)=some r) (ha:a=some r->A) (hb:b=some r->B):(decide q=false->B)/\(decide q=true->A):=⟨(Zmn h ha hb).2,(Zmn h ha hb).1⟩
theorem Zou {p:Bool} (h:(if p=true then a else b)=some r) (ha:a=some r->A) (hb:b=some r->B):(p=true->A)/\(p=false->B):=by
 cases p
 ·exact ⟨λe=>(by cases e),λ_=>hb h⟩
 ·exact ⟨λ_=>ha h,λe=>(by cases e)⟩
theorem Zrs {p:Bool} (h:(if p=true then a else b)=some r) (ha:a=some r->A) (hb:b=some r->B):(p=false->B)/\(p=true->A):=⟨(Zou h ha hb).2,(Zou h ha hb).1⟩
theorem ZsA {p:Bool} (h:(p=true->A)/\(p=false->B)):((!p)=false->A)/\((!p)=true->B):=⟨λe=>h.1 (by simpa using e),λe=>h.2 (by simpa using e)⟩
theorem Zqm {p:Bool} (h:(p=true->A)/\(p=false->B)):((!p)=true->B)/\((!p)=false->A):=⟨(ZsA h).2,(ZsA h).1⟩
theorem Zru {p:Prop} (h:Zp p a=some r) (ha:p->a=some r->A):p/\A:=by
 unfold Zp at h;split at h
 ·rename_i hp;exact ⟨hp,ha hp h⟩
 ·cases h
theorem vAt {l:List α} {i:Int} {f:α->Option β} {A:α->Prop} (h:(atI l i).bind f=some r) (ha:∀ x,0<=i->i<(l.length:Int)->l[i.toNat]?=some x->f x=some r->A x) :
  0<=i/\i<(l.length:Int)/\∀ x,l[i.toNat]?=some x->A x:=by
 unfold atI at h;split at h
 ·rename_i h0
  cases hx:l[i.toNat]? with
  | none=>rw[hx] at h;cases h
  | some x =>
   rw[hx] at h;have hlt:=(Ua.1 hx).1;exact ⟨h0,by omega,λy hy=>by injection hy with hy;subst hy;exact ha x h0 (by omega) hx h⟩
 ·cases h
theorem atE {l:List α} {i:Int} {f:α->Option β} (h:(atI l i).bind f=some r):∃ x,0<=i/\i<(l.length:Int)/\l[i.toNat]?=some x/\f x=some r:=by
 unfold atI at h;split at h
 ·rename_i h0
  cases hx:l[i.toNat]? with
  | none=>rw[hx] at h;cases h
  | some x =>
   rw[hx] at h;have hlt:=(Ua.1 hx).1;exact ⟨x,h0,by omega,rfl,h⟩
 ·cases h
theorem guardE {p:Prop} (h:Zp p a=some r):p/\a=some r:=by
 unfold Zp at h;split at h
 ·rename_i hp;exact ⟨hp,h⟩
 ·cases h
theorem ZeB {o:Option α} {f:α->Option β} {k:α->Prop} (h:o.bind f=some r) (hk:∀ x,o=some x->f x=some r->k x):∃ x,o=some x/\k x:=by
 cases ho:o with
 | none=>rw[ho] at h;cases h
 | some x=>rw[ho] at h;exact ⟨x,rfl,hk x ho h⟩
theorem Zmm {o:Option α} {f:α->Option β} {k:α->Prop} (h:o.bind f=some r) (hk:∀ x,o=some x->f x=some r->k x):∀ x,o=some x->k x:=by
 intro x hx;rw[hx] at h;exact hk x hx h
theorem Zhq {o:Option α} {y:α} {G:α->Prop} (ha:o=some y) (k:G y):∀ x,o=some x->G x:=by
 intro x hx;rw[ha] at hx;injection hx with hx;subst hx;exact k
theorem ZuV {σ ρ:Type} {step:σ->Option (σ ⊕ ρ)} {v0:σ} {r:ρ} (h:Zr step v0=some r) {P:(σ->Prop)->(σ->Nat)->σ->Prop}
  (hb:∀ (I:σ->Prop) (μ:σ->Nat) (v:σ) (s:σ ⊕ ρ),step v=some s->(∀ v',s=.inl v'->I v'/\μ v'<μ v)->(∀ r',s=.inr r'->r'=r)->P I μ v) :
  ∃ I μ,I v0/\∀ v,I v->P I μ v:=by
 obtain ⟨n0,hn0⟩:=ZeC.1 h
 let I:σ->Prop:=λv=>∃ n,iterM step n v=some r
 classical
 let μ:σ->Nat:=λv=>if h:∃ n,iterM step n v=some r then Classical.choose (Zfv h) else 0
 have hμ:∀ v (h:∃ n,iterM step n v=some r),iterM step (μ v) v=some r/\∀ m,iterM step m v=some r->μ v<=m:=by
  intro v h;have:μ v=Classical.choose (Zfv h):=by simp only[μ,dif_pos h]
  rw[this];exact U2 (Zfv h)
 refine ⟨I,μ,⟨n0,hn0⟩,λv hv=>?_⟩;have h1:=(hμ v hv).1;cases hm:μ v with
 | zero=>rw[hm] at h1;simp[iterM] at h1
 | succ m =>
  rw[hm] at h1;simp only[iterM] at h1;split at h1
  ·cases h1
  ·rename_i v' e
   refine hb I μ v _ e (λv'' e'=>?_) (λr' e'=>by cases e');injection e' with e';subst e'
   exact ⟨⟨m,h1⟩,by have:=(hμ v' ⟨m,h1⟩).2 m h1;omega⟩
  ·rename_i r' e
   refine hb I μ v _ e (λv'' e'=>by cases e') (λr'' e'=>?_);injection e' with e';subst e';injection h1
end
def D1 (a r:Ty) (f:a.den->Option r.den):Ctr:=⟨[.dat a],[.dat r],λx K=>splitK x λp _=>Qp (f p) λr=>K (r,()) ()⟩
def D2 (a b r:Ty) (f:a.den->b.den->Option r.den):Ctr:=⟨[.dat a,.dat b],[.dat r],λx K=>splitK x λp x=>splitK x λq _=>Qp (f p q) λr=>K (r,()) ()⟩
def D3 (a b c r:Ty) (f:a.den->b.den->c.den->Option r.den):Ctr:=⟨[.dat a,.dat b,.dat c],[.dat r],λx K=>splitK x λp x=>splitK x λq x=>splitK x λs _=>Qp (f p q s) λr=>K (r,()) ()⟩
def D4 (a b c d r:Ty) (f:a.den->b.den->c.den->d.den->Option r.den):Ctr:=⟨[.dat a,.dat b,.dat c,.dat d],[.dat r],λx K=>splitK x λp x=>splitK x λq x=>splitK x λs x=>splitK x λt _=>Qp (f p q s t) λr=>K (r,()) ()⟩
theorem ZqH {B:Prop} (k:B):ZsD/\B:=⟨trivial,k⟩
theorem Zt0 {α:Type} {v:α} {G:α->Prop} (k:G v):∀ x,x=v->G x:=λ_ e=>e▸k
theorem Zrj {α:Type} {o:Option α} {G:α->Prop} (k:∀ x,o=some x->G x):∀ x,o=some x->G x:=k
theorem Zt1 {α:Type} {o:Option α} {G:α->Prop} (k:∃ x,o=some x/\G x):∃ x,o=some x/\G x:=k
theorem Ze2 {α:Type} {o:Option α} {y:α} {G:α->Prop} (ha:o=some y) (k:G y):∃ x,o=some x/\G x:=⟨y,ha,k⟩
theorem ZtY {α:Type} {l:List α} {i:Int} {G:α->Prop} (k:0<=i/\i<(l.length:Int)/\∀ x,l[i.toNat]?=some x->G x):0<=i/\i<(l.length:Int)/\∀ x,l[i.toNat]?=some x->G x:=k
theorem ZeT {α:Type} {l:List α} {i:Int} {y:α} {G:α->Prop} (ha:0<=i) (hb:i<(l.length:Int)) (hx:l[i.toNat]?=some y) (k:G y):0<=i/\i<(l.length:Int)/\∀ x,l[i.toNat]?=some x->G x:=⟨ha,hb,Zhq hx k⟩
theorem ZtZ {A B:Prop} {p x y:Bool} (k:(p=x->A)/\(p=y->B)):(p=x->A)/\(p=y->B):=k
theorem shD {A B:Prop} {q:Prop} {_:Decidable q} {x y:Bool} (k:(decide q=x->A)/\(decide q=y->B)):(decide q=x->A)/\(decide q=y->B):=k
theorem Zrl {A B:Prop} {p x y:Bool} (k:((!p)=x->A)/\((!p)=y->B)):((!p)=x->A)/\((!p)=y->B):=k
theorem Zrk {α:Type} {l:List α} {A B:Prop} (k:(l=[]->A)/\B):(l=[]->A)/\B:=k
theorem Zrm {l:List Oper} {n:Nat} {K:Oper->Prop} {B:Prop} (k:ZpI l n K/\B):ZpI l n K/\B:=k
theorem orL {α:Type} {a:α} {P Q:Prop} (k:P):(a=a/\P)\/Q:=.inl ⟨rfl,k⟩
theorem ZqG {α:Type} {x:α} {P:Prop} (h:none=some x):P:=by cases h
theorem ZnM {σ:Type} {P:(σ->Prop)->(σ->Nat)->σ->Prop} {v0:σ} (k:∃ I μ,I v0/\∀ v,I v->P I μ v):∃ I μ,I v0/\∀ v,I v->P I μ v:=k
theorem ZnS {σ ρ:Type} {step:σ->Option (σ ⊕ ρ)} {v0:σ} {r:ρ} (h:Zr step v0=some r) {P:(σ->Prop)->(σ->Nat)->σ->Prop} {G:Prop} (hK:G)
  (hb:∀ (I:σ->Prop) (μ:σ->Nat) (v:σ) (s:σ ⊕ ρ),step v=some s->((∀ v',s=.inl v'->I v'/\μ v'<μ v)/\(∀ r',s=.inr r'->r'=r)/\G)->P I μ v) :
  ∃ I μ,I v0/\∀ v,I v->P I μ v:=ZuV h λI μ v s h1 h2 h3=>hb I μ v s h1 ⟨h2,h3,hK⟩
theorem pB {α β:Type} {o:Option α} {f:α->Option β} {r:β} {G:Prop} (h:o.bind f=some r) (k:∀ x,o=some x->f x=some r->G):G:=by
 obtain ⟨x,h1,h2⟩:=Option.bind_eq_some_iff.1 h;exact k x h1 h2
theorem pA {α β:Type} {l:List α} {i:Int} {f:α->Option β} {r:β} {G:Prop} (h:(atI l i).bind f=some r) (k:∀ x,0<=i->i<(l.length:Int)->l[i.toNat]?=some x->f x=some r->G):G:=by
 obtain ⟨x,h1,h2,h3,h4⟩:=atE h;exact k x h1 h2 h3 h4
theorem pG {α:Type} {p:Prop} {a:Option α} {r:α} {G:Prop} (h:Zp p a=some r) (k:p->a=some r->G):G:=k (guardE h).1 (guardE h).2
theorem pS {α:Type} {a r:α} {G:Prop} (h:some a=some r) (k:a=r->G):G:=k (Option.some.inj h)
theorem pR {σ ρ:Type} {A G P:Prop} {a r:ρ} (h:A/\(∀ r',(.inr a:σ ⊕ ρ)=.inr r'->r'=r)/\G) (k:a=r->G->P):P:=k (h.2.1 _ rfl) h.2.2
noncomputable def Zsl {ρ:Type} (g:Nat->Option ρ):Option ρ :=
 open Classical in if h:∃ r n,g n=some r then some (Classical.choose h) else none
theorem ZjD {ρ:Type} {g:Nat->Option ρ} {r:ρ} (h:Zsl g=some r):∃ n,g n=some r:=by
 unfold Zsl at h;split at h
 ·rename_i hx
  obtain ⟨n,hn⟩:=U2 hx;injection h with h;rw[h] at hn;exact ⟨n,hn⟩
 ·cases h
end Go.Sx
namespace Go.Sx
set_option linter.unusedVariables false
set_option linter.unusedSimpArgs false
open Go.RowKit Go.ChangeShapes Go.WideShapes
mutual
def Vv (P:Program):Ty->TypeId->Bool
 | .int k,T=>Znr k (P.underlying T)
 | .bool,T=>Zk9 (P.underlying T)
 | .str,T=>Zns (P.underlying T)
 | .sl t,T=>match P.underlying T with
  | some (.slice e)=>Vv P t e&&P.cellsOf e == t.size&&decide (0<t.size)
  | _=>false
 | .pair a b,T=>match P.underlying T with
  | some (.struct fs)=>match fs.toList with
   | f::fl=>Vv P a f.type&&f.offset == 0&&P.cellsOf f.type == a.size&&ZeE P b fl a.size&&P.cellsOf T == a.size+b.size
   | []=>false
  | _=>false
 | _,_=>false
def ZeE (P:Program):Ty->List Field->Nat->Bool
 | .unit,fl,_=>fl.isEmpty
 | .pair a b,fl,o=>match fl with
  | f::fl=>Vv P a f.type&&f.offset == o&&P.cellsOf f.type == a.size&&ZeE P b fl (o+a.size)
  | []=>false
 | _,_,_=>false
end
def bnd:(t:Ty)->t.den->Prop
 | .int k,n=>k.min<=n/\n<=k.max
 | .str,s=>(s.length:Int)<=9223372036854775807
 | .sl t,l=>(l.length:Int)<=9223372036854775807/\∀ x∈l,bnd t x
 | .pair a b,d=>bnd a d.1/\bnd b d.2
 | _,_=>True
section
variable {H:Type} {enc:TypeId×Value->H} {P:Program} {w:World} {spare:Nat->Bool} {held:Bool}
theorem ZsH (s:ByteArray):(⟨s.data.toList.toArray⟩:ByteArray)=s:=by
 cases s;simp
theorem ZpY {t:Ty} {S:Nat->Prop} {p:Addr} {n:Nat} (hn:t.size=n):∀ (len:Nat) (css:List (List Value)),css.length=len->
  (∀ (i:Nat) (cs:List Value),css[i]?=some cs->cs.length=n/\∃ d:t.den,rep S w t d cs/\bnd t d)->
  ∃ l:List t.den,l.length=len/\Xc (rep S w t) l css.flatten/\∀ x∈l,bnd t x:=by
 intro len;induction len with
 | zero =>
  intro css hl _;have:css=[]:=Us hl;subst this;exact ⟨[],rfl,rfl,by simp⟩
 | succ len ih =>
  intro css hl h;cases css with
  | nil=>simp at hl
  | cons cs css =>
   obtain ⟨_,d,hd,hb⟩:=h 0 cs rfl;obtain ⟨l,h1,h2,h3⟩:=ih css (by simpa using hl) (λi c hc=>h (i+1) c (by simpa using hc));refine ⟨d::l,by simp[h1],⟨cs,css.flatten,by simp,hd,h2⟩,?_⟩;intro x hx;rcases Uo.1 hx with rfl | hx
   ·exact hb
   ·exact h3 x hx
theorem Zjb {n:Nat}:∀ (css:List (List Value)) (_:∀ cs∈css,cs.length=n) (i j:Nat) (cs:List Value) (_:css[i]?=some cs) (_:j<n),css.flatten[i*n+j]?=cs[j]?
 | [],_,i,j,cs,h,_=>by simp at h
 | c::css,hl,0,j,cs,h,hj=>by
  simp at h;subst h;have:=hl c (by simp);simp[Uy (show j<c.length by omega)]
 | c::css,hl,i+1,j,cs,h,hj=>by
  have hc:=hl c (by simp);have:=Zjb css (λx hx=>hl x (by simp[hx])) i j cs (by simpa using h) hj;rw[List.flatten_cons,UX (by rw[hc,UM];omega),hc,show (i+1)*n+j-n=i*n+j by rw[UM];omega];exact this
theorem Zjc {n:Nat}:∀ (css:List (List Value)) (_:∀ cs∈css,cs.length=n),css.flatten.length=css.length*n
 | [],_=>by simp
 | c::css,hl=>by
  have hc:=hl c (by simp);have:=Zjc css (λx hx=>hl x (by simp[hx]));simp only[List.flatten_cons,Ue,Ud,this,hc,UM];omega
mutual
theorem ZiV:∀ (ty:Ty) (fuel:Nat) (T:TypeId) (cs:List Value) (x:DataW H×List MemPlace),Vv P ty T=true->DataW.trod enc P w 0 spare held fuel T cs=some x->
  ∃ d:ty.den,rep (λb=>b<w.heap.size) w ty d cs/\bnd ty d
 | .int k,fuel,T,cs,x,hf,h=>by
  simp only[Vv] at hf;obtain ⟨n,h1,_,hw⟩:=DataW.trod_int (Ze9 hf) h;exact ⟨n,h1,(by simpa[Go.Lit.wf] using hw:k.min<=n/\n<=k.max)⟩
 | .bool,fuel,T,cs,x,hf,h=>by
  simp only[Vv] at hf;obtain ⟨b,h1,_⟩:=DataW.trod_bool (ZhR hf) h;exact ⟨b,h1,trivial⟩
 | .str,fuel,T,cs,x,hf,h=>by
  simp only[Vv] at hf;obtain ⟨s,h1,_,hs⟩:=DataW.trod_string (Zjt hf) h;refine ⟨s.data.toList,?_,?_⟩
  ·show cs=[.string ⟨s.data.toList.toArray⟩]
   rw[h1,ZsH]
  ·show ((s.data.toList.length:Nat):Int)<=_
   clear h h1;have:s.data.toList.length=s.size:=by cases s;rfl
   unfold maxLen at hs;omega
 | .sl t,fuel,T,cs,x,hf,h=>by
  unfold Vv at hf;split at hf
  ·rename_i e hu
   simp only[Ul,UU,Uq] at hf;obtain ⟨⟨hf,hsz⟩,hpos⟩:=hf;rcases DataW.trod_slice hu h with ⟨h1,_⟩ | ⟨a,len,cap,elems,rest,n,rfl,rfl,_,_,hlc,hcap,hel,hget,_⟩
   ·refine ⟨[],?_,by show ((0:Nat):Int)<=9223372036854775807;omega,λx hx=>(by cases hx)⟩
    show rep _ w (.sl t) [] cs;exact ⟨none,0,by rw[h1];rfl,by simp,λ_=>rfl,.inl rfl⟩
   ·-- the elements' cells
    have hcss:∃ css:List (List Value),css.length=len/\∀ (i:Nat) (c:List Value),css[i]?=some c->w.cells? 0 (a.add (i*t.size)) t.size=some c/\∃ d:t.den,rep (λb=>b<w.heap.size) w t d c/\bnd t d:=by
     have:∀ m,m<=len->∃ css:List (List Value),css.length=m/\∀ (i:Nat) (c:List Value),css[i]?=some c->w.cells? 0 (a.add (i*t.size)) t.size=some c/\∃ d:t.den,rep (λb=>b<w.heap.size) w t d c/\bnd t d:=by
      intro m;induction m with
      | zero=>intro _;exact ⟨[],rfl,by simp⟩
      | succ m ih =>
       intro hm;obtain ⟨css,h1,h2⟩:=ih (by omega);have hg:=hget m (by omega);rw[Ub (by omega)] at hg;obtain ⟨c,hc,hcx⟩:=Option.bind_eq_some_iff.1 hg;rw[hsz] at hc;obtain ⟨d,hd,hb⟩:=ZiV t n e c _ hf hcx;refine ⟨css++[c],by simp[h1],λi c' hi=>?_⟩;by_cases him:i<m
       ·rw[Uy (by omega)] at hi
        exact h2 i c' hi
       ·have:i=m:=by
         have:=(Ua.1 hi).1;simp[h1] at this;omega
        subst this;rw[UX (by omega),h1] at hi;simp at hi;subst hi;exact ⟨hc,d,hd,hb⟩
     exact this len (UF _)
    obtain ⟨css,hcl,hcs⟩:=hcss;have hlens:∀ c∈css,c.length=t.size:=by
     intro c hc;obtain ⟨i,hi⟩:=Uu.1 hc;exact (World.cells?_some (hcs i c hi).1).2.1
    obtain ⟨l,hl,hr,hb⟩:=ZpY (S:=λb=>b<w.heap.size) (w:=w) (t:=t) (p:=a) rfl len css hcl (λi c hi=>⟨hlens c (Ui hi),(hcs i c hi).2⟩);refine ⟨l,?_,by unfold maxLen at hcap;omega,hb⟩;refine ⟨some a,cap,by rw[hl],by omega,λe=>(by cases e),?_⟩;cases css with
    | nil =>
     left;simp at hcl;exact Us (by omega)
    | cons c0 css =>
     right;have h0:=(hcs 0 c0 rfl).1;rw[Nat.zero_mul] at h0;have ha0:a.add 0=a:=by unfold Addr.add;simp
     rw[ha0] at h0;have hspot:a.spot=none:=by
      have h1:=(World.cells?_some h0).2.2 0 hpos;rw[ha0] at h1;have hlen0:=(World.cells?_some h0).2.1;rw[Ub (by omega)] at h1;unfold World.cell? at h1;split at h1
      ·split at h1
       ·cases h1
       ·rename_i hs;simpa using hs
      ·cases h1
     refine ⟨a,(c0::css).flatten,rfl,hspot,World.cells?_block h0 hpos,λj u hu=>?_,hr⟩;have hjl:=(Ua.1 hu).1;rw[Zjc _ hlens] at hjl;have hdm:j / t.size*t.size+j % t.size=j:=by rw[Nat.mul_comm];exact Nat.div_add_mod j t.size
     have hq:j / t.size<(c0::css).length:=by rw[Nat.div_lt_iff_lt_mul hpos];exact hjl
     obtain ⟨c,hc⟩:∃ c,(c0::css)[j / t.size]?=some c:=⟨_,Ub hq⟩;have h2:=Zjb (c0::css) hlens (j / t.size) (j % t.size) c hc (Nat.mod_lt _ hpos);rw[hdm,hu] at h2;have h3:=(World.cells?_some (hcs _ c hc).1).2.2 (j % t.size) (Nat.mod_lt _ hpos);rw[add_add _ _ _ hspot,hdm] at h3;rw[h3];exact h2.symm
  ·cases hf
 | .pair a b,fuel,T,cs,x,hf,h=>by
  unfold Vv at hf;split at hf
  ·rename_i fs hu
   split at hf
   ·rename_i f fl hfl
    simp only[Ul,UU] at hf;obtain ⟨⟨⟨⟨h1,h2⟩,h3⟩,h4⟩,h5⟩:=hf;obtain ⟨xs,n,rfl,_,hlen,hxl,hget⟩:=DataW.trod_struct hu h;have hsz:fs.size=fl.length+1:=by
     have:=congrArg List.length hfl;simpa using this
    have hf0:fs[0]?=some f:=by
     have:=congrArg (·[0]?) hfl;simpa using this
    have hg:=hget 0 f hf0;rw[Ub (by omega),h2,h3] at hg;obtain ⟨d,hd,hb⟩:=ZiV a n f.type _ _ h1 hg;have hrest:∀ (i:Nat) (g:Field),fl[i]?=some g->∃ y,DataW.trod enc P w 0 spare held n g.type ((cs.drop g.offset).take (P.cellsOf g.type))=some y:=by
     intro i g hgi;have hg1:fs[i+1]?=some g:=by
      have:=congrArg (·[i+1]?) hfl;simp only[UL,hgi,U1] at this;exact this
     have:=hget (i+1) g hg1;have hi:=(Ua.1 hgi).1;rw[Ub (by omega)] at this;exact ⟨_,this⟩
    obtain ⟨d2,hd2,hb2⟩:=Zmk b n fl a.size cs h4 (by omega) hrest;refine ⟨(d,d2),⟨(cs.drop 0).take a.size,cs.drop a.size,by simp,hd,hd2⟩,hb,hb2⟩
   ·cases hf
  ·cases hf
 | .unit,_,_,_,_,hf,_=>by simp[Vv] at hf
 | .ptr _,_,_,_,_,hf,_=>by simp[Vv] at hf
 | .fn _ _,_,_,_,_,hf,_=>by simp[Vv] at hf
 | .nptr _,_,_,_,_,hf,_=>by simp[Vv] at hf
 | .mp _ _,_,_,_,_,hf,_=>by simp[Vv] at hf
theorem Zmk:∀ (ty:Ty) (n:Nat) (fl:List Field) (o:Nat) (cs:List Value),ZeE P ty fl o=true->cs.length=o+ty.size->
  (∀ (i:Nat) (g:Field),fl[i]?=some g->∃ y,DataW.trod enc P w 0 spare held n g.type ((cs.drop g.offset).take (P.cellsOf g.type))=some y)->
  ∃ d:ty.den,rep (λb=>b<w.heap.size) w ty d (cs.drop o)/\bnd ty d
 | .unit,n,fl,o,cs,hf,hl,h=>by
  refine ⟨(),?_,trivial⟩;show cs.drop o=[];simp only[Ty.size] at hl;exact List.drop_eq_nil_of_le (by omega)
 | .pair a b,n,fl,o,cs,hf,hl,h=>by
  unfold ZeE at hf;split at hf
  ·rename_i f fl
   simp only[Ul,UU] at hf;obtain ⟨⟨⟨h1,h2⟩,h3⟩,h4⟩:=hf;obtain ⟨y,hy⟩:=h 0 f rfl;rw[h2,h3] at hy;obtain ⟨d,hd,hb⟩:=ZiV a n f.type _ _ h1 hy;obtain ⟨d2,hd2,hb2⟩:=Zmk b n fl (o+a.size) cs h4 (by simp only[Ty.size] at hl;omega) (λi g hg=>h (i+1) g (by simpa using hg));refine ⟨(d,d2),⟨(cs.drop o).take a.size,cs.drop (o+a.size),?_,hd,hd2⟩,hb,hb2⟩;rw[<-List.drop_drop];exact (List.take_append_drop _ _).symm
  ·cases hf
 | .int _,_,_,_,_,hf,_,_=>by simp[ZeE] at hf
 | .bool,_,_,_,_,hf,_,_=>by simp[ZeE] at hf
 | .str,_,_,_,_,hf,_,_=>by simp[ZeE] at hf
 | .sl _,_,_,_,_,hf,_,_=>by simp[ZeE] at hf
 | .ptr _,_,_,_,_,hf,_,_=>by simp[ZeE] at hf
 | .fn _ _,_,_,_,_,hf,_,_=>by simp[ZeE] at hf
 | .nptr _,_,_,_,_,hf,_,_=>by simp[ZeE] at hf
 | .mp _ _,_,_,_,_,hf,_,_=>by simp[ZeE] at hf
end
theorem Zqj {ty:Ty} {T:TypeId} {v:Value} {d:DataW H} {ps:List MemPlace} {base:Nat} (hf:Vv P ty T=true) (hok:Value.okWide P w .any base T v) (h:DataW.Trod enc P w 0 spare held T v d ps) :
  ∃ x:ty.den,ZsB (λb=>b<w.heap.size) w ty x v/\bnd ty x:=by
 obtain ⟨fuel,h⟩:=h;obtain ⟨x,hx,hb⟩:=ZiV ty fuel T _ _ hf h;refine ⟨x,⟨?_,?_,hx⟩,hb⟩
 ·intro ha
  cases ty with
  | pair a b =>
   unfold Vv at hf;split at hf
   ·rename_i fs hu
    obtain ⟨cs,hcs,_⟩:=okWide_struct hu hok;exact ⟨cs,hcs⟩
   ·cases hf
  | unit=>simp[Vv] at hf
  | _=>simp[Ty.agg] at ha
 ·intro ha
  have hna:∀ cs,v≠.agg cs:=by
   intro cs e;subst e;cases ty with
   | int k=>simp only[Vv] at hf;simp[Value.okWide,Ze9 hf,Cell.okWide,Cell.ok] at hok
   | bool=>simp only[Vv] at hf;simp[Value.okWide,ZhR hf,Cell.okWide,Cell.ok] at hok
   | str=>simp only[Vv] at hf;simp[Value.okWide,Zjt hf,Cell.okWide,Cell.ok] at hok
   | sl t =>
    unfold Vv at hf;split at hf
    ·rename_i e hu;simp[Value.okWide,hu,Cell.okWide,Cell.ok] at hok
    ·cases hf
   | pair a b=>simp[Ty.agg] at ha
   | unit=>simp[Ty.agg] at ha
   | ptr _=>simp[Vv] at hf
   | fn _ _=>simp[Vv] at hf
   | nptr _=>simp[Vv] at hf
   | mp _ _=>simp[Vv] at hf
  cases v<;>first | rfl | exact absurd rfl (hna _)
def Zig:List Ty->List Sh
 | []=>[]
 | t::r=>.dat t::Zig r
def Zt6:(l:List Ty)->Shs (Zig l)->Prop
 | [],_=>True
 | t::r,d=>bnd t d.1/\Zt6 r d.2
def ZhB (P:Program):List Ty->List TypeId->Bool
 | [],[]=>true
 | t::r,T::q=>Vv P t T&&ZhB P r q
 | _,_=>false
theorem ZjV {base:Nat}:∀ (l:List Ty) (ts:List TypeId) (vs:List Value) (ds:List (DataW H)) (p:List MemPlace),ZhB P l ts=true->
  (∀ (j:Nat) t v,ts[j]?=some t->vs[j]?=some v->Value.okWide P w .any base t v)->DataW.TrodAll enc P w 0 spare held ts vs ds p->
  ∃ as:Shs (Zig l),ZaY (λb=>b<w.heap.size) w (Zig l) as vs []/\Zt6 l as
 | [],[],vs,ds,p,_,_,h=>by
  obtain ⟨rfl,_,_⟩:=trodAll_nil h;exact ⟨(),⟨rfl,rfl⟩,trivial⟩
 | t::r,T::q,vs,ds,p,hf,hok,h=>by
  simp only[ZhB,Ul] at hf;obtain ⟨v,vs',d,ds',p1,p2,rfl,rfl,rfl,h1,h2⟩:=trodAll_cons h;obtain ⟨x,hx,hb⟩:=Zqj hf.1 (hok 0 T v rfl rfl) h1;obtain ⟨as,has,hbs⟩:=ZjV r q vs' ds' p2 hf.2 (λj t v hj hv=>hok (j+1) t v (by simpa using hj) (by simpa using hv)) h2;exact ⟨(x,as),⟨v,vs',[],[],rfl,rfl,⟨rfl,hx⟩,has⟩,hb,hbs⟩
 | [],_::_,_,_,_,hf,_,_=>by simp[ZhB] at hf
 | _::_,[],_,_,_,hf,_,_=>by simp[ZhB] at hf
theorem Zhp (hl:laidOutB P=true) {W W':World} (hb:Below W.heap.size W W'):∀ (ts:List TypeId) (vs:List Value) (ds:List (DataW H)) (p:List MemPlace),(ts.all λt=>P.readableRec t&&decide (t<P.types.size))=true->
  DataW.TrodAll enc P W 0 (λ_=>true) true ts vs ds p->(∀ x∈p,x.block<W.heap.size)->DataW.TrodAll enc P W' 0 (λb=>decide (b<W.heap.size)) true ts vs ds p
 | [],vs,ds,p,_,h,_=>by
  obtain ⟨rfl,rfl,rfl⟩:=trodAll_nil h;rfl
 | t::ts,vs,ds,p,hr,h,hlt=>by
  simp only[List.all_cons,Ul,Uq] at hr;obtain ⟨v,vs',d,ds',p1,p2,rfl,rfl,rfl,h1,h2⟩:=trodAll_cons h;exact ⟨p1,p2,Below.trod hl hr.1.1 hr.1.2 h1 hb (λx hx=>hlt x (by simp[hx])),Zhp hl hb ts vs' ds' p2 hr.2 h2 (λx hx=>hlt x (by simp[hx])),rfl⟩
theorem ZpD {f:FuncId} {l:List Ty} {tr:Shs (Zig l)->(Shs [.dat .bool]->Ios (Zig l)->Prop)->Prop} (hC:Za P f ⟨Zig l,[.dat .bool],tr⟩)
  (htrue:∀ as:Shs (Zig l),Zt6 l as->tr as (λr _=>r.1=true)) {ts:List TypeId} {args:Array Value} {ds:List (DataW H)} {p:List MemPlace} {base:Nat} (hf:ZhB P l ts=true)
  (hok:∀ (j:Nat) t v,ts[j]?=some t->args[j]?=some v->Value.okWide P w .any base t v) (h:DataW.TrodAll enc P w 0 spare held ts args.toList ds p) :
  Calls P f args w λe w'=>e=.returned (.bool true)/\Below w.heap.size w w':=by
 obtain ⟨as,has,hb⟩:=ZjV l ts args.toList ds p hf (λj t v hj hv=>hok j t v hj (by simpa using hv)) h;have hc:=hC.2 w (λb=>b<w.heap.size) args.toList as [] (λr _=>r.1=true) (λb h=>h) has List.nodup_nil (by simp) (htrue as hb);have he:args.toList.toArray=args:=by simp
 rw[he] at hc;refine hc.mono ?_;rintro e w' ⟨v,us,rs,ios,S',fr,fio,rfl,hret,hr,hk,hS,hS2,hs,_⟩;obtain ⟨u,ur,f1,f2,rfl,_,⟨_,hu⟩,hur⟩:=hs;obtain ⟨rfl,_⟩:=hur;simp only[retv] at hret;subst hret;refine ⟨?_,hk.os,hk.tape,hk.output,hk.size,λb hb=>hk.block b hb (by simp)⟩;obtain ⟨h1,h2,h3⟩:=hu;have hv:=h2 rfl;rw[hv] at h3;have h4:[v]=[.bool rs.1]:=h3;simp at h4;rw[h4,hr]
end
end Go.Sx
