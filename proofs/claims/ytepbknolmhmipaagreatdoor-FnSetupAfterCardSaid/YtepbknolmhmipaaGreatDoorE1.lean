/-
  Maps: made, looked up, written. Keys: numbers, and structs of numbers.
-/
import Derived.Test.YtepbknolmhmipaaGreatDoorE0
import Derived.MapKept
import Derived.Orders
import Derived.KernelRfl
import Derived.ProofKit
import Derived.Below
import Derived.Carry
namespace Go.Sx
set_option linter.unusedVariables false
set_option linter.unusedSimpArgs false
def Zmn:EqD->Nat->Ty->Bool
 | .nil,_,.unit=>true
 | .int k o r,n,.pair (.int k') t=>decide (k=k')&&decide (o=n)&&Zmn r (n+1) t
 | _,_,_=>false
def ZsL (ti:TI) (t:Ty):Bool:=match ti.kind with
 | .int k=>decide (t=.int k)
 | .st=>!ti.eqd.isNil&&decide (ti.eqd.depth<=1000)&&Zmn ti.eqd 0 t
 | _=>false
def keq:(t:Ty)->t.den->t.den->Bool
 | .int _,x,y=>decide (x=y)
 | .pair a b,x,y=>keq a x.1 y.1&&keq b x.2 y.2
 | _,_,_=>true
def ZrG (k v:Ty):List (k.den×v.den)->k.den->Option v.den
 | [],_=>none
 | d::l,x=>if keq k x d.1=true then some d.2 else ZrG k v l x
def ZsX (k v:Ty):List (k.den×v.den)->k.den->v.den->List (k.den×v.den)
 | [],x,y=>[(x,y)]
 | d::l,x,y=>if keq k x d.1=true then (x,y)::l else d::ZsX k v l x y
def fnd {k v:Ty}:List (k.den×v.den)->k.den->List MapEntry->Nat->Option (Nat×Value)
 | [],_,_,_=>none
 | d::l,x,es,i=>match es with
  | []=>none
  | e::r=>if keq k x d.1=true then some (i,e.val) else fnd l x r (i+1)
theorem Znm {k v:Ty} {R:k.den->List Value->Prop} {Q:v.den->List Value->Prop} {ka va:Bool} {x:k.den}:∀ (d:List (k.den×v.den)) (es:List MapEntry) (i:Nat),ZbM R Q ka va d es->
  (fnd d x es i=none/\ZrG k v d x=none)\/∃ j u y e kd,fnd d x es i=some (i+j,u)/\ZrG k v d x=some y/\ZfO va u/\Q y u.cells.toList/\es[j]?=some e/\keq k x kd=true/\ZfO ka e.key/\R kd e.key.cells.toList
 | [],es,i,h=>.inl ⟨rfl,rfl⟩
 | d::l,es,i,⟨e,r,e1,f1,r1,f2,r2,rs⟩=>by
  subst e1;by_cases hq:keq k x d.1=true
  ·exact .inr ⟨0,e.val,d.2,e,d.1,by simp[fnd,hq],by simp[ZrG,hq],f2,r2,rfl,hq,f1,r1⟩
  ·rcases Znm (x:=x) l r (i+1) rs with ⟨h1,h2⟩ | ⟨j,u,y,e',kd,h1,h2,h3,h4,h5,h6⟩
   ·exact .inl ⟨by simp[fnd,hq,h1],by simp[ZrG,hq,h2]⟩
   ·exact .inr ⟨j+1,u,y,e',kd,by simp only[fnd,hq,if_false,h1];simp;omega,by simp[ZrG,hq,h2],h3,h4,by simpa using h5,h6⟩
theorem Zpu {k v:Ty} {R:k.den->List Value->Prop} {Q:v.den->List Value->Prop} {ka va:Bool} {x:k.den} {y:v.den} {kv vv:Value} {born:Nat} (hk:ZfO ka kv) (hR:R x kv.cells.toList) (hv:ZfO va vv) (hQ:Q y vv.cells.toList) :
  ∀ (d:List (k.den×v.den)) (es:List MapEntry) (i:Nat),ZbM R Q ka va d es->fnd d x es i=none->ZbM R Q ka va (ZsX k v d x y) (es++[⟨kv,vv,born⟩])
 | [],es,i,h,_=>by
  have:es=[]:=h;subst this;exact ⟨⟨kv,vv,born⟩,[],rfl,hk,hR,hv,hQ,rfl⟩
 | d::l,es,i,⟨e,r,e1,f1,r1,f2,r2,rs⟩,hf=>by
  subst e1;by_cases hq:keq k x d.1=true
  ·simp[fnd,hq] at hf
  ·simp only[fnd,if_neg hq] at hf
   have:=Zpu (born:=born) hk hR hv hQ l r (i+1) rs hf;simp only[ZsX,if_neg hq];exact ⟨e,r++[⟨kv,vv,born⟩],rfl,f1,r1,f2,r2,this⟩
theorem Zpv {k v:Ty} {R:k.den->List Value->Prop} {Q:v.den->List Value->Prop} {ka va:Bool} {x:k.den} {y:v.den} {kv vv:Value} (hk:ZfO ka kv) (hR:R x kv.cells.toList) (hv:ZfO va vv) (hQ:Q y vv.cells.toList) :
  ∀ (d:List (k.den×v.den)) (es:List MapEntry) (i j:Nat) (u:Value),ZbM R Q ka va d es->fnd d x es i=some (i+j,u)->ZbM R Q ka va (ZsX k v d x y) (es.modify j λe=>{e with key:=kv,val:=vv})
 | [],es,i,j,u,h,hf=>by simp[fnd] at hf
 | d::l,es,i,j,u,⟨e,r,e1,f1,r1,f2,r2,rs⟩,hf=>by
  subst e1;by_cases hq:keq k x d.1=true
  ·simp only[fnd,hq,if_true] at hf
   have:j=0:=by
    grind
   subst this;simp only[ZsX,hq,if_true,List.modify_zero_cons];exact ⟨_,r,rfl,hk,hR,hv,hQ,rs⟩
  ·simp only[fnd,if_neg hq] at hf
   cases j with
   | zero =>
    rcases Znm (x:=x) l r (i+1) rs with ⟨h1,_⟩ | ⟨j',u',y',e',kd,h1,_⟩;all_goals grind
   | succ j =>
    have:=Zpv hk hR hv hQ l r (i+1) j u rs (by grind);simp only[ZsX,if_neg hq,List.modify_succ_cons];exact ⟨e,_,rfl,f1,r1,f2,r2,this⟩
section
variable {P:Program}
open Go.MapKept
theorem Ql {q:EqD} {o:Nat} {t:Ty} (h:Zmn q o t=true):(q=.nil/\t=.unit)\/∃ k r t',q=.int k o r/\t=.pair (.int k) t'/\Zmn r (o+1) t'=true:=by
 unfold Zmn at h;grind
theorem ZrB {S:Nat->Prop} {w:World}:∀ (q:EqD) (o:Nat) (t:Ty),Zmn q o t=true->∀ (x y:t.den) (vs us:List Value),rep S w t x vs->rep S w t y us->keq t x y=true->vs=us/\∀ u∈vs,∃ k n,u=.int k n:=by
 intro q;induction q with
 | nil =>
  intro o t h x y vs us h1 h2 _;rcases Ql h with ⟨_,rfl⟩ | ⟨_,_,_,e,_⟩
  ·have h1:vs=[]:=h1
   have h2:us=[]:=h2;rw[h1,h2];simp
  ·cases e
 | int k o' r ih =>
  intro o t h x y vs us h1 h2 hq;rcases Ql h with ⟨e,_⟩ | ⟨k',r',t',e,rfl,hr⟩
  ·cases e
  ·injection e with e1 e2 e3
   subst e1;subst e2;subst e3;obtain ⟨v1,v2,e1,h1,h2'⟩:=h1;obtain ⟨u1,u2,e2,h3,h4⟩:=h2;simp only[keq,Bool.and_eq_true,decide_eq_true_eq] at hq;obtain ⟨a,b⟩:=ih _ t' hr x.2 y.2 v2 u2 h2' h4 hq.2;have h1:v1=[.int k x.1]:=h1;have h3:u1=[.int k y.1]:=h3;grind
 | bool o' r ih=>intro o t h;rcases Ql h with ⟨e,_⟩ | ⟨_,_,_,e,_⟩<;>cases e
 | str o' r ih=>intro o t h;rcases Ql h with ⟨e,_⟩ | ⟨_,_,_,e,_⟩<;>cases e
 | st o' sz fs r ih1 ih2=>intro o t h;rcases Ql h with ⟨e,_⟩ | ⟨_,_,_,e,_⟩<;>cases e
theorem Zog {S:Nat->Prop} {w:World} {n:Nat}:∀ (q:EqD) (o:Nat) (t:Ty) (fl:List Field),Zmn q o t=true->q.fits P fl=true->∀ (x y:t.den) (p1 p2 vs us:List Value),p1.length=o->p2.length=o->rep S w t x vs->rep S w t y us->∀ w',
  (Op.eqFields (n+1) (p1++vs).toArray (p2++us).toArray fl).run P w'=.ok (keq t x y) w':=by
 intro q;induction q with
 | nil =>
  intro o t fl h hf x y p1 p2 vs us l1 l2 h1 h2 w';rcases Ql h with ⟨_,rfl⟩ | ⟨_,_,_,e,_⟩
  ·simp only[EqD.fits,List.isEmpty_iff] at hf
   subst hf;rfl
  ·cases e
 | int k o' r ih =>
  intro o t fl h hf x y p1 p2 vs us l1 l2 h1 h2 w';rcases Ql h with ⟨e,_⟩ | ⟨k',r',t',e,rfl,hr⟩
  ·cases e
  ·injection e with e1 e2 e3
   subst e1;subst e2;subst e3;cases fl with
   | nil=>simp[EqD.fits] at hf
   | cons f fl =>
    simp only[EqD.fits,Bool.and_eq_true,bne_iff_ne,beq_iff_eq] at hf;obtain ⟨⟨⟨f1,f2⟩,f3⟩,f4⟩:=hf;obtain ⟨v1,v2,e1,h1,h2'⟩:=h1;obtain ⟨u1,u2,e2,h3,h4⟩:=h2;have h1:v1=[.int k x.1]:=h1;have h3:u1=[.int k y.1]:=h3;subst h1;subst h3;subst e1;subst e2;have hty:=Zgi f3;have ih':=ih _ t' fl hr f4 x.2 y.2 (p1++[.int k x.1]) (p2++[.int k y.1]) v2 u2 (by simp[l1]) (by simp[l2]) h2' h4 w';simp only[List.append_assoc] at ih';refine Zbh f1 (Zbx hty rfl (v:=.int k x.1) ?_ w') (Zbx hty rfl (v:=.int k y.1) ?_ w') (by rw[run_equalIn_int w' n f.type k k x.1 y.1 hty,Zas];rfl) ih';all_goals simp_all
 | bool o' r ih=>intro o t fl h;rcases Ql h with ⟨e,_⟩ | ⟨_,_,_,e,_⟩<;>cases e
 | str o' r ih=>intro o t fl h;rcases Ql h with ⟨e,_⟩ | ⟨_,_,_,e,_⟩<;>cases e
 | st o' sz fs r ih1 ih2=>intro o t fl h;rcases Ql h with ⟨e,_⟩ | ⟨_,_,_,e,_⟩<;>cases e
theorem Zj7 {T:TypeId} {k:IntKind} (h:P.underlying T=some (.int k)) (em:Bool) (n:Nat) (k':IntKind) (a:Int) (w:World):(Instr.checkKey em (n+1) T (.int k' a)).run P w=.ok () w:=by
 unfold Instr.checkKey;simp only[Sem.run_bind,run_underlying h,Result.andThen_ok];rfl
theorem ZrC {T:TypeId} {fs:Array Field} (hu:P.underlying T=some (.struct fs)) (em:Bool) {S:Nat->Prop} {w0:World} {q:EqD} {t:Ty} (hq:Zmn q 0 t=true) (hf:q.fits P fs.toList=true) (n:Nat) {x:t.den} {vs:List Value} (hr:rep S w0 t x vs) (w:World) :
  (Instr.checkKey em (n+2) T (.agg vs.toArray)).run P w=.ok () w:=by
 rw[show n+2=(n+1)+1 from rfl,Instr.checkKey];simp only[Sem.run_bind,run_underlying hu,Result.andThen_ok];rw[<-Array.forIn_toList];generalize fs.toList=L at hf;have gen:∀ (q:EqD) (o:Nat) (t:Ty) (L:List Field),Zmn q o t=true->q.fits P L=true->∀ (x:t.den) (pre us:List Value),pre.length=o->pre++us=vs->rep S w0 t x us->
   (forIn L PUnit.unit λf r=>do
    if f.name≠ "_" then do
     let v <-part f.type vs.toArray f.offset
     Instr.checkKey em (n+1) f.type v
     pure (ForInStep.yield PUnit.unit)
    else pure (ForInStep.yield PUnit.unit):Sem PUnit).run P w=.ok () w:=by
  intro q;induction q with
  | nil =>
   intro o t L h hf x pre us _ _ _;rcases Ql h with ⟨_,rfl⟩ | ⟨_,_,_,e,_⟩
   ·simp only[EqD.fits,List.isEmpty_iff] at hf
    subst hf;simp
   ·cases e
  | int k o' r ih =>
   intro o t L h hf x pre us hl he hr;rcases Ql h with ⟨e,_⟩ | ⟨k',r',t',e,rfl,hr'⟩
   ·cases e
   ·injection e with e1 e2 e3
    subst e1;subst e2;subst e3;cases L with
    | nil=>simp[EqD.fits] at hf
    | cons f L =>
     simp only[EqD.fits,Bool.and_eq_true,bne_iff_ne,beq_iff_eq] at hf;obtain ⟨⟨⟨f1,f2⟩,f3⟩,f4⟩:=hf;obtain ⟨v1,v2,e1,h1,h2'⟩:=hr;have h1:v1=[.int k x.1]:=h1;subst h1;subst e1;have hty:=Zgi f3;have p1:=Zbx (P:=P) hty rfl (cs:=vs.toArray) (o:=f.offset) (v:=.int k x.1) (by grind) w;have p2:=Zj7 (P:=P) hty em n k x.1 w;have ih':=ih _ t' L hr' f4 x.2 (pre++[.int k x.1]) v2 (by simp[hl]) (by rw[<-he];simp) h2'
     simp_all
  | bool o' r ih=>intro o t L h;rcases Ql h with ⟨e,_⟩ | ⟨_,_,_,e,_⟩<;>cases e
  | str o' r ih=>intro o t L h;rcases Ql h with ⟨e,_⟩ | ⟨_,_,_,e,_⟩<;>cases e
  | st o' sz fs r ih1 ih2=>intro o t L h;rcases Ql h with ⟨e,_⟩ | ⟨_,_,_,e,_⟩<;>cases e
 exact (congrArg (λr=>Result.andThen r _) (gen q 0 t L hq hf x [] vs rfl rfl hr)).trans rfl
structure Zpk (P:Program) (T:TypeId) (t:Ty):Prop where
 check:∀ (S:Nat->Prop) (w0:World) (x:t.den) (v:Value),ZfO t.agg v->rep S w0 t x v.cells.toList->∀ (em:Bool) (w:World),(Instr.checkKey em 10000 T v).run P w=.ok () w
 find:∀ (S:Nat->Prop) (w0:World) (x:t.den) (v:Value),ZfO t.agg v->rep S w0 t x v.cells.toList->∀ (u:Ty) (Q:u.den->List Value->Prop) (va:Bool) (d:List (t.den×u.den)) (es:List MapEntry),ZbM (rep S w0 t) Q t.agg va d es->∀ (w:World),(Instr.findKey T v es).run P w=.ok (fnd d x es 0) w
 stays:∀ (S:Nat->Prop) (w0:World) (x y:t.den) (v v':Value),ZfO t.agg v->rep S w0 t x v.cells.toList->ZfO t.agg v'->rep S w0 t y v'.cells.toList->keq t x y=true->∀ (w:World),(Instr.keyThatStays v' v).run P w=.ok v w
theorem Zqq {T:TypeId} {k:IntKind} (h:P.underlying T=some (.int k)):Zpk P T (.int k) where
 check S w0 x v hf hr em w:=by
  have hc:=hf.2 rfl;rw[hc] at hr;have hr:[v]=[.int k x]:=hr;simp at hr;subst hr;exact Zj7 h em 9999 k x w
 find S w0 x v hf hr u Q va d es he w:=by
  have hc:=hf.2 rfl;rw[hc] at hr;have hr:[v]=[.int k x]:=hr;simp at hr;subst hr;have gen:∀ (d:List (Int×u.den)) (es:List MapEntry) (i:Nat),ZbM (rep S w0 (.int k)) Q false va d es->Instr.findNow (.int k) (.int k x) es i=some (fnd (k:=.int k) d x es i):=by
   intro d;induction d with
   | nil =>
    intro es i he;have:es=[]:=he;subst this;rfl
   | cons d l ih =>
    rintro es i ⟨e,r,rfl,f1,r1,f2,r2,rs⟩;have hc1:=f1.2 rfl;rw[hc1] at r1;have r1:[e.key]=[.int k d.1]:=r1;simp at r1;by_cases hq:x=d.1
    ·simp[Instr.findNow,r1,Instr.sameNow,fnd,keq,hq]
    ·have hb:(x == d.1)=false:=by grind
     simp[Instr.findNow,r1,Instr.sameNow,fnd,keq,hq,ih r (i+1) rs,hb]
  have:=gen d es 0 he;unfold Instr.findKey;rw[Sem.run_bind,run_underlying h,Result.andThen_ok,this];rfl
 stays S w0 x y v v' hf hr hf' hr' hq w:=by
  have hc:=hf.2 rfl;rw[hc] at hr;have hr:[v]=[.int k x]:=hr;simp at hr;subst hr;have hc':=hf'.2 rfl;rw[hc'] at hr';have hr':[v']=[.int k y]:=hr';simp at hr';subst hr';simp only[keq,decide_eq_true_eq] at hq;subst hq;simp[Instr.keyThatStays,Instr.sameBits]
theorem ZrA {T:TypeId} {ti:TI} (h:ZaH P T ti) {t:Ty} (hk:ti.kind=.st) (hn:ti.eqd.isNil=false) (hq:Zmn ti.eqd 0 t=true):Zpk P T t:=by
 have he:=h.eqd;simp only[hn,Bool.false_or] at he;split at he
 ·rename_i fs hT
  simp only[Bool.and_eq_true,Bool.not_eq_true'] at he;obtain ⟨⟨e1,e2⟩,e3⟩:=he;have hagg:t.agg=true:=by
   rcases Ql hq with ⟨_,rfl⟩ | ⟨_,_,_,_,rfl,_⟩<;>rfl
  have hfo:P.fieldsOf T=fs:=by simp[Program.fieldsOf,hT]
  have heq:∀ (S:Nat->Prop) (w0:World) (x y:t.den) (vs us:List Value),rep S w0 t x vs->rep S w0 t y us->∀ w,(Op.equal T (.agg vs.toArray) (.agg us.toArray)).run P w=.ok (keq t x y) w:=by
   intro S w0 x y vs us h1 h2 w;show (Op.equalIn (9999+1) T _ _).run P w=_;rw[run_equalIn_struct w 9999 T _ _ (by rw[hfo];exact hT) e1,hfo];exact Zog (n:=9998) ti.eqd 0 t fs.toList hq e2 x y [] [] vs us rfl rfl h1 h2 w
  have toA:∀ (v:Value),ZfO t.agg v->v=.agg v.cells.toList.toArray:=by
   intro v hf;obtain ⟨cs,rfl⟩:=hf.1 hagg;simp[Value.cells]
  refine ⟨λS w0 x v hf hr em w=>?_,λS w0 x v hf hr u Q va d es hes w=>?_,λS w0 x y v v' hf hr hf' hr' hxy w=>?_⟩
  ·rw[toA v hf]
   exact ZrC hT em hq e2 9998 hr w
  ·rw[toA v hf]
   have gen:∀ (d:List (t.den×u.den)) (es:List MapEntry) (i:Nat),ZbM (rep S w0 t) Q t.agg va d es->(Instr.findAsking T (.agg v.cells.toList.toArray) es i).run P w=.ok (fnd d x es i) w:=by
    intro d;induction d with
    | nil =>
     intro es i he;have:es=[]:=he;subst this;rfl
    | cons d l ih =>
     rintro es i ⟨e,r,rfl,f1,r1,f2,r2,rs⟩;have:=heq S w0 x d.1 _ _ hr r1 w;rw[<-toA e.key f1] at this;simp only[Instr.findAsking,Sem.run_bind,this,Result.andThen_ok,fnd];by_cases hq:keq t x d.1=true
     ·simp[hq]
     grind
   unfold Instr.findKey;rw[Sem.run_bind,run_underlying hT,Result.andThen_ok];cases es with
   | nil =>
    cases d with
    | nil=>rfl
    | cons=>obtain ⟨_,_,e,_⟩:=hes;cases e
   | cons e r=>exact gen d (e::r) 0 hes
  ·obtain ⟨a,b⟩:=ZrB ti.eqd 0 t hq x y _ _ hr hr' hxy
   rw[toA v hf,toA v' hf',<-a];have hs:Instr.sameBits 10000 (.agg v.cells.toList.toArray) (.agg v.cells.toList.toArray)=true:=by
    show Instr.sameBits (9999+1) _ _=true;simp only[Instr.sameBits,beq_self_eq_true,Bool.true_and,List.all_eq_true];intro p hp;obtain ⟨i,hi⟩:=List.mem_iff_getElem?.1 hp;rw[List.getElem?_zip_eq_some] at hi;have:p.1=p.2:=by
     grind
    obtain ⟨k,m,hkm⟩:=b p.1 (List.mem_of_getElem? hi.1);rw[<-this,hkm];simp[Instr.sameBits]
   unfold Instr.keyThatStays;rw[if_pos hs];rfl
 ·cases he
theorem Zof {T:TypeId} {ti:TI} (h:ZaH P T ti) {t:Ty} (hk:ZsL ti t=true):Zpk P T t:=by
 unfold ZsL at hk;split at hk
 ·rename_i k hkd
  simp only[decide_eq_true_eq] at hk;subst hk;exact Zqq (h.intOf hkd)
 ·rename_i hkd
  simp only[Bool.and_eq_true,Bool.not_eq_true',decide_eq_true_eq] at hk;exact ZrA h hkd hk.1.1 hk.2
 ·cases hk
def SV.isA:SV->Bool
 | .agg _=>true
 | _=>false
theorem Zrx {E:Env} {s:SV} {v:Value} (h:den E s v) (hw:s.whole=true) {b:Bool} (hb:b=s.isA):ZfO b v:=by
 subst hb;constructor
 ·intro ha
  cases s<;>simp[SV.isA] at ha
  simp only[den] at h;grind
 ·intro ha
  have h1:s.one=true:=by cases s<;>simp_all[SV.isA,SV.whole,SV.one]
  exact (Zgl h h1).1
def Zxt (t:Ty) (cs:List SV) (K:SV->Prop):Prop :=
 if t.agg=true then K (.agg cs) else match cs with
  | c::_=>K c
  | []=>False
theorem ZtS {E:Env} {t:Ty} {v:Value} (hf:ZfO t.agg v) {cs:List SV} (hd:ZW E cs v.cells.toList) {K:SV->Prop} (hk:Zxt t cs K):∃ s,den E s v/\K s:=by
 obtain ⟨h1,h2⟩:=hf;unfold Zxt at hk;split at hk
 ·rename_i ha
  obtain ⟨cs,rfl⟩:=h1 ha;exact ⟨.agg _,by simp only[den];exact ⟨cs.toList,by simp,hd⟩,hk⟩
 ·rename_i ha
  have hv:=h2 (by simpa using ha);split at hk
  ·rename_i c r
   rw[hv] at hd;simp only[ZW] at hd;grind
  ·exact hk.elim
def Ztq (b:Bool):Value->Bool
 | .agg _=>b
 | _=>!b
theorem Ztr {b:Bool} {v:Value} (h:Ztq b v=true):ZfO b v:=by
 cases b
 ·refine ⟨λh=>(by cases h),λ_=>?_⟩
  cases v<;>first | rfl | (simp[Ztq] at h)
 ·refine ⟨λ_=>?_,λh=>(by cases h)⟩
  cases v<;>first | exact ⟨_,rfl⟩ | (simp[Ztq] at h)
def ZxA (s:SV) (H:List Entry) (K:(k v:Ty)->List (k.den×v.den)->Prop):Prop :=
 match s with
 | .mp k v d=>K k v d
 | .mown id=>ZdW H id λe=>match e with
  | .mpe k v d=>K k v d
  | .frm k v d=>K k v d
  | _=>False
 | _=>False
def MapAt (E:Env) (x:Value) (k v:Ty) (d:List (k.den×v.den)):Prop :=
 (d=[]/\x=.map none)\/∃ b es clk,x=.map (some b)/\E.w.heap[b]?=some (.map es clk)/\ZbM (rep E.S E.w k) (rep E.S E.w v) k.agg v.agg d es.toList
theorem Zt7 {B:Base} {E:Env} {H:List Entry} (hI:Inv B E H) {s:SV} {x:Value} (hs:den E s x) {K:(k v:Ty)->List (k.den×v.den)->Prop} (hk:ZxA s H K):∃ k v d,MapAt E x k v d/\K k v d:=by
 have data:∀ (k v:Ty) (d:List (k.den×v.den)),rep E.S E.w (.mp k v) d [x]->MapAt E x k v d:=by
  intro k v d h;rcases h with ⟨h1,h2⟩ | ⟨b,es,clk,h1,_,h2,h3⟩
  ·simp at h2;exact .inl ⟨h1,h2⟩
  ·simp at h1;exact .inr ⟨b,es,clk,h1,h2,h3⟩
 unfold ZxA at hk;split at hk
 ·rename_i k v d
  simp only[den] at hs;grind
 ·rename_i id
  obtain ⟨e,he,hk⟩:=Yu H hk;simp only[den] at hs;split at hk
  ·rename_i k v d
   obtain ⟨b,es,clk,h1,h2,h3⟩:=hI.ent id _ he;have:=hs.1.symm.trans h1;simp at this;subst this;exact ⟨k,v,d,.inr ⟨b,es,clk,rfl,h2,h3⟩,hk⟩
  ·rename_i k v d
   obtain ⟨u,h1,h2⟩:=hI.ent id _ he;grind
  ·exact hk.elim
 ·exact hk.elim
def ZoZ (Δ:Tab) (ti:TI) (x i:SV) (ok:Bool) (H:List Entry) (K:SV->Prop):Prop :=
 match ti.kind with
 | .mp kt et=>Zax Δ kt λtk=>Zax Δ et λte=>ZxA x H λk v d =>
  if i.whole=true/\k.agg=i.isA/\ZsL tk k=true/\Ztq v.agg te.zero=true then Y4 k i.cells λkey r1=>match r1 with
   | []=>Zme te.zero λzc=>Y4 v zc λz r2=>match r2 with
    | []=>XA v ((ZrG k v d key).getD z) λcs=>Zxt v cs λs=>if ok=true then K (.tup [s,.bool (ZrG k v d key).isSome]) else K s
    | _=>False
   | _=>False
  else False
 | _=>False
theorem ZaH.map {T:TypeId} {ti:TI} (h:ZaH P T ti) {kt et:TypeId} (hk:ti.kind=.mp kt et):P.underlying T=some (.map kt et):=by
 obtain ⟨d,hd,hk'⟩:=h.get;rw[hk] at hk';cases d<;>simp[ZqQ] at hk'
 grind
theorem ZkN {E:Env} {vs:List Value} (h:ZW E [] vs):vs=[]:=by
 cases vs with
 | nil=>rfl
 | cons=>simp[ZW] at h
theorem Zqv {T kt et:TypeId} (hT:P.underlying T=some (.map kt et)) {k:Ty} (KR:Zpk P kt k) {z:Value} (hz:∀ w,(zeroValue et).run P w=.ok z w) {E:Env} {x:Value} {v:Ty} {d:List (k.den×v.den)} (hm:MapAt E x k v d)
  {i:Value} {key:k.den} (hif:ZfO k.agg i) (hir:rep E.S E.w k key i.cells.toList) (ok:Bool) :
  ∃ es,ZbM (rep E.S E.w k) (rep E.S E.w v) k.agg v.agg d es/\(Instr.lookup T x i ok).run P E.w=.ok (if ok=true then .tuple #[((fnd d key es 0).map (·.2)).getD z,.bool (fnd d key es 0).isSome] else ((fnd d key es 0).map (·.2)).getD z) E.w:=by
 have fin:∀ (es:Array MapEntry),ZbM (rep E.S E.w k) (rep E.S E.w v) k.agg v.agg d es.toList->((do
   Instr.checkKey es.isEmpty 10000 kt i
   let (v,okk) <-match <-Instr.findKey kt i es.toList with
    | some (_,v)=>pure (v,true)
    | none=>pure (<-zeroValue et,false)
   pure (if ok then .tuple #[v,.bool okk] else v):Sem Value)).run P E.w=.ok (if ok=true then .tuple #[((fnd d key es.toList 0).map (·.2)).getD z,.bool (fnd d key es.toList 0).isSome] else ((fnd d key es.toList 0).map (·.2)).getD z) E.w:=by
  intro es he;have h1:=KR.check _ _ key i hif hir es.isEmpty E.w;have h2:=KR.find _ _ key i hif hir v _ _ d es.toList he E.w;simp only[Sem.run_bind,h1,h2,Result.andThen_ok];cases fnd d key es.toList 0 with
  | none=>simp[hz]
  | some p=>simp
 rcases hm with ⟨rfl,rfl⟩ | ⟨b,es,clk,rfl,hb,he⟩
 ·refine ⟨[],rfl,?_⟩
  have:=fin #[] rfl;unfold Instr.lookup;simp only[Sem.run_bind,run_underlying hT,Result.andThen_ok,Sem.run_pure] at this ⊢;exact this
 ·refine ⟨es.toList,he,?_⟩
  have:=fin es he;unfold Instr.lookup;simp only[Sem.run_bind,run_underlying hT,Result.andThen_ok,Sem.run_pure,Go.MapKept.run_getObj_map hb] at this ⊢;exact this
theorem Zqu {Δ:Tab} (hΔ:Δ.ok P) {B:Base} {E:Env} {H:List Entry} (hI:Inv B E H) {T:TypeId} {ti:TI} (h:ZaH P T ti) {x i:SV} {vx vi:Value} (hx:den E x vx) (hi:den E i vi) {ok:Bool} {K:SV->Prop} (hk:ZoZ Δ ti x i ok H K) :
  ∃ u s,(Instr.lookup T vx vi ok).run P E.w=.ok u E.w/\den E s u/\K s:=by
 unfold ZoZ at hk;split at hk
 ·rename_i kt et hkd
  obtain ⟨tk,htk,hk⟩:=YP Δ hΔ hk;obtain ⟨te,hte,hk⟩:=YP Δ hΔ hk;obtain ⟨k,v,d,hm,hk⟩:=Zt7 hI hx hk;split at hk
  ·rename_i hc
   obtain ⟨c1,c2,c3,c4⟩:=hc;have hif:=Zrx hi c1 c2;obtain ⟨key,r1,v1,v2,e1,hkr,hr1,hk⟩:=YQ k _ _ _ (QX hi c1) hk;split at hk
   ·have:=ZkN hr1
    subst this;rw[List.append_nil] at e1;subst e1;obtain ⟨zc,hzc,hk⟩:=Zdc E _ _ hk;obtain ⟨z,r2,z1,z2,e2,hzr,hr2,hk⟩:=YQ v _ _ _ hzc hk;split at hk
    ·have:=ZkN hr2
     subst this;rw[List.append_nil] at e2;subst e2;obtain ⟨inf,hinf,_,_,hz0⟩:=hte.info';have hz:∀ w,(zeroValue et).run P w=.ok te.zero w:=λw=>by simp[zeroValue,typeInfo,hinf,hz0]
     obtain ⟨es,he,hrun⟩:=Zqv (h.map hkd) (Zof htk c3) hz hm hif hkr ok;rw[Y0] at hk;have val:∃ u,((fnd d key es 0).map (·.2)).getD te.zero=u/\ZfO v.agg u/\rep E.S E.w v ((ZrG k v d key).getD z) u.cells.toList/\(fnd d key es 0).isSome=(ZrG k v d key).isSome:=by
      rcases Znm (x:=key) d es 0 he with ⟨h1,h2⟩ | ⟨j,u,y,e,kd,h1,h2,h3,h4,_⟩
      ·exact ⟨te.zero,by rw[h1];rfl,Ztr c4,by rw[h2];exact hzr,by rw[h1,h2];rfl⟩
      grind
     obtain ⟨u,hu,hf,hr,hs⟩:=val;rw[hu,hs] at hrun;obtain ⟨s,hs1,hk⟩:=ZtS hf (YI v _ _ hr) hk;cases ok
     ·grind
     ·simp only[if_true] at hk hrun
      refine ⟨_,_,hrun,?_,hk⟩;simp only[den];exact ⟨[u,.bool (ZrG k v d key).isSome],rfl,hs1,by simp only[den],trivial⟩
    ·exact hk.elim
   ·exact hk.elim
  ·exact hk.elim
 ·exact hk.elim
def Zpg (Δ:Tab) (ti:TI) (x i y:SV) (H:List Entry) (K:List Entry->Prop):Prop :=
 match ti.kind,x with
 | .mp kt et,.mown id=>Zax Δ kt λtk=>ZdW H id λe=>match e with
  | .mpe k v d=>if i.whole=true/\k.agg=i.isA/\ZsL tk k=true/\y.whole=true/\v.agg=y.isA then Y4 k i.cells λkey r1=>match r1 with
   | []=>Y4 v y.cells λval r2=>match r2 with
    | []=>ZeR H id (.mpe k v (ZsX k v d key val)) K
    | _=>False
   | _=>False
   else False
  | _=>False
 | _,_=>False
theorem grownBy_set {w:World} {b:Nat} {o o':Obj} (hb:w.heap[b]?=some o):w.grownBy {w with heap:=w.heap.setIfInBounds b o'} (some b) :=
 ⟨rfl,rfl,rfl,by simp,λi _ hi=>(Go.MapKept.heap_set hb).2 i (λe=>hi (by rw[e]))⟩
theorem ZqK {Δ:Tab} (hΔ:Δ.ok P) {B:Base} {E:Env} {H:List Entry} (hI:Inv B E H) {T:TypeId} {ti:TI} (h:ZaH P T ti) {x i y:SV} {vx vi vy:Value} (hx:den E x vx) (hi:den E i vi) (hy:den E y vy) {K:List Entry->Prop} (hk:Zpg Δ ti x i y H K) :
  ∃ E' H',(Instr.mapUpdate T vx vi vy).run P E.w=.ok () E'.w/\Inv B E' H'/\E.le E'/\K H':=by
 unfold Zpg at hk;split at hk
 ·rename_i kt et id hkd
  obtain ⟨tk,htk,hk⟩:=YP Δ hΔ hk;obtain ⟨e,he,hk⟩:=Yu H hk;split at hk
  ·rename_i k v d
   split at hk
   ·rename_i hc
    obtain ⟨c1,c2,c3,c4,c5⟩:=hc;have hif:=Zrx hi c1 c2;have hyf:=Zrx hy c4 c5;obtain ⟨key,r1,v1,v2,e1,hkr,hr1,hk⟩:=YQ k _ _ _ (QX hi c1) hk;split at hk
    ·have:=ZkN hr1
     subst this;rw[List.append_nil] at e1;subst e1;obtain ⟨val,r2,z1,z2,e2,hvr,hr2,hk⟩:=YQ v _ _ _ (QX hy c4) hk;split at hk
     ·have:=ZkN hr2
      subst this;rw[List.append_nil] at e2;subst e2;rw[YO] at hk;obtain ⟨b,es,clk,h1,hb,hes⟩:=hI.ent id _ he;simp only[den] at hx;have hid:=hx.1;have:=hx.1.symm.trans h1;simp at this;subst this;have KR:=Zof htk c3;have hT:=h.map hkd;have k1:=KR.check _ _ key vi hif hkr false E.w;have k2:=KR.find _ _ key vi hif hkr v _ _ d es.toList hes E.w;have fin:∀ (es':Array MapEntry) (clk':Nat),(Instr.mapUpdate T (.map (some b)) vi vy).run P E.w=.ok () {E.w with heap:=E.w.heap.setIfInBounds b (.map es' clk')}->
        ZbM (rep E.S E.w k) (rep E.S E.w v) k.agg v.agg (ZsX k v d key val) es'.toList->∃ E' H',(Instr.mapUpdate T (.map (some b)) vi vy).run P E.w=.ok () E'.w/\Inv B E' H'/\E.le E'/\K H':=by
       intro es' clk' hrun hes';have hg:=grownBy_set (w:=E.w) (o':=.map es' clk') hb;have hnS:¬E.S b:=(hI.free id _ (.map (some b)) b he rfl hid rfl).1;have hle:=Zbi hg hI.Slt (λg e=>by grind);refine ⟨⟨E.S,_,E.ids⟩,_,hrun,hI.write he rfl hid hg (.mpe k v (ZsX k v d key val)) ?_,hle,hk⟩;exact ⟨b,es',clk',hid,(Go.MapKept.heap_set hb).1,Ju (λd vs=>Z6 hle.S hle.w k d vs) (λd vs=>Z6 hle.S hle.w v d vs) _ _ hes'⟩
      have unf:(Instr.mapUpdate T (.map (some b)) vi vy).run P E.w=(match fnd d key es.toList 0 with
        | some (j,_)=>(do
          let key' <-Instr.keyThatStays ((es[j]?.map MapEntry.key).getD vi) vi
          setObj b (.map (es.modify j λe=>{e with key:=key',val:=vy}) clk):Sem Unit)
        | none=>setObj b (.map (es.push {key:=vi,val:=vy,born:=clk}) (clk+1))).run P E.w:=by
       unfold Instr.mapUpdate;simp only[Sem.run_bind,run_underlying hT,Result.andThen_ok,Go.MapKept.run_getObj_map hb,k1,k2];grind
      rcases Znm (x:=key) d es.toList 0 hes with ⟨f1,f2⟩ | ⟨j,u,y',e',kd,f1,f2,f3,f4,f5,f6,f7,f8⟩
      ·refine fin (es.push ⟨vi,vy,clk⟩) (clk+1) ?_ ?_
       ·rw[unf,f1]
        exact Go.MapKept.run_setObj_map _ hb
       ·rw[Array.toList_push]
        exact Zpu hif hkr hyf hvr d es.toList 0 hes f1
      ·have f5':es[j]?=some e':=by simpa using f5
       refine fin (es.modify j λe=>{e with key:=vi,val:=vy}) clk ?_ ?_
       ·rw[unf,f1]
        have:=KR.stays _ _ key kd vi e'.key hif hkr f7 f8 f6 E.w;simp only[Nat.zero_add,f5',Option.map_some,Option.getD_some,Sem.run_bind,this,Result.andThen_ok];exact Go.MapKept.run_setObj_map _ hb
       ·rw[Array.toList_modify]
        exact Zpv hif hkr hyf hvr d es.toList 0 j u hes f1
     ·exact hk.elim
    ·exact hk.elim
   ·exact hk.elim
  ·exact hk.elim
 ·exact hk.elim
def Zny (ti:TI) (H:List Entry) (K:SV->List Entry->Prop):Prop :=
 match ti.kind with
 | .mp _ _=>ZoX H 0 λn=>ZnV H [.mpe ti.ty ti.ety []] λH'=>K (.mown n) H'
 | _=>False
theorem Zo0 {B:Base} {E:Env} {H:List Entry} (hI:Inv B E H) {T:TypeId} {ti:TI} (h:ZaH P T ti) {K:SV->List Entry->Prop} (hk:Zny ti H K) :
  ∃ u E' H' s,(Instr.makeMap T none).run P E.w=.ok u E'.w/\Inv B E' H'/\E.le E'/\den E' s u/\K s H'/\Grow E.w E'.w:=by
 unfold Zny at hk;split at hk
 ·rw[Zaj,Jc,Nat.zero_add] at hk
  have hle:=Zne hI (.map #[] 0) (.map (some E.w.heap.size));have hid:(E.ids++[Value.map (some E.w.heap.size)])[H.length]?=some (.map (some E.w.heap.size)):=by
   rw[<-hI.len];simp
  refine ⟨.map (some E.w.heap.size),⟨E.S,E.w.alloc (.map #[] 0),E.ids++[.map (some E.w.heap.size)]⟩,_,_,?_,hI.alloc (.map #[] 0) _ _ rfl ?_,hle,?_,hk,JX _ _⟩
  ·simp[Instr.makeMap]
  ·exact ⟨_,#[],0,hid,Go.heap_alloc_new _ _,rfl⟩
  ·simp only[den]
   grind
 ·exact hk.elim
end
section
variable {P:Program}
def Zqn (regs:List SV):List Operand->(List SV->Prop)->Prop
 | [],K=>K []
 | x::r,K=>QK regs x λs=>Zqn regs r λl=>K (s::l)
theorem ZiG {E:Env} {regs:List SV} {a:Act} (hd:ZW E regs a.tmps.toList):∀ (xs:List Operand) {K:List SV->Prop},Zqn regs xs K->∃ l,ZW E l (xs.map a.eval)/\K l
 | [],K,h=>⟨[],trivial,h⟩
 | x::r,K,h=>by
  obtain ⟨s,hs,h⟩:=Z8 hd h;obtain ⟨l,hl,h⟩:=ZiG hd r h;exact ⟨s::l,⟨hs,hl⟩,h⟩
def SV.Zt0:SV->Bool
 | .ptr _ _=>true
 | .oep _ _ _ _=>true
 | .fptr _=>true
 | .fn _ _=>true
 | _=>false
theorem Zo5 {E:Env} {s:SV} {v:Value} (h:den E s v) (hp:s.Zt0=true) :
  (∃ a,v=.pointer (some a))\/∃ f cs,v=.func (.func f) #[] cs:=by
 cases s<;>simp[SV.Zt0] at hp<;>simp only[den] at h
 all_goals grind
def Zrf (s:SV) (K:SV->Prop):Prop :=
 match s with
 | .nptr t d=>∃ x,d=some x/\XA t x λcs=>K (.fptr cs)
 | s=>K s
theorem Zrg {E:Env} {s:SV} {v:Value} (hs:den E s v) {K:SV->Prop} (hk:Zrf s K):∃ s',den E s' v/\K s':=by
 unfold Zrf at hk;split at hk
 ·rename_i t d
  obtain ⟨x,rfl,hk⟩:=hk;rw[Y0] at hk;refine ⟨_,?_,hk⟩;simp only[den] at hs ⊢;rcases hs with ⟨e,_⟩ | ⟨x',p,xs,e,e2,hp,hS,hc,hr⟩
  ·cases e
  ·injection e with e;subst e
   simp at e2;subst e2;exact ⟨p,xs,rfl,hp,hS,hc,YI t _ _ hr⟩
 grind
def ZtK (Δ:Tab) (op:BinOp) (T:TypeId) (sx sy:SV) (K:SV->Prop):Prop :=
 match sx,sy with
 | .agg xs,.agg ys=>Zax Δ T λti=>eqK op ti (.agg xs) (.agg ys) K
 | .bool x,sy=>Zax Δ T λti=>eqK op ti (.bool x) sy K
 | .blit x,sy=>Zax Δ T λti=>eqK op ti (.blit x) sy K
 | sx,.nilp=>Zax Δ T λti=>if Zhz ti.kind=true then Zv8 op ti sx K else False
 | sx,.nsl=>Zax Δ T λti=>if Zoe ti.kind=true then Zv8 op ti sx K else False
 | sx,sy=>Zwk op sx sy K
theorem Zsn {Δ:Tab} (hΔ:Δ.ok P) {E:Env} {op:BinOp} {T:TypeId} {x y:SV} {K:SV->Prop} (h:ZtK Δ op T x y K) {u v:Value} (hu:den E x u) (hv:den E y v) (ox oy:Operand) :
  ∃ r s,(∀ w,((do eqGuard op T ox oy u v;binOp op T u v:Sem Value)).run P w=.ok r w)/\den E s r/\K s:=by
 unfold ZtK at h;split at h
 ·obtain ⟨ti,ht,h⟩:=YP Δ hΔ h;exact Zri ht h hu hv ox oy
 ·obtain ⟨ti,ht,h⟩:=YP Δ hΔ h;exact Zri ht h hu hv ox oy
 ·obtain ⟨ti,ht,h⟩:=YP Δ hΔ h;exact Zri ht h hu hv ox oy
 ·obtain ⟨ti,ht,h⟩:=YP Δ hΔ h
  split at h
  ·rename_i hq
   exact ZrI ht (.inl rfl) h ⟨λ_=>rfl,λhs=>by cases hk:ti.kind<;>rw[hk] at hq hs<;>simp[Zhz,Zoe] at hq hs⟩ hu hv ox oy
  ·exact h.elim
 ·obtain ⟨ti,ht,h⟩:=YP Δ hΔ h
  split at h
  ·rename_i hq
   exact ZrI ht (.inr rfl) h ⟨λhs=>by cases hk:ti.kind<;>rw[hk] at hq hs<;>simp[Zhz,Zoe] at hq hs,λ_=>rfl⟩ hu hv ox oy
  ·exact h.elim
 ·exact ZtL h hu hv T ox oy
def opK (Δ:Tab) (regs:List SV) (H:List Entry) (op:Op) (K:SV->List Entry->Prop):Prop :=
 match op with
 | .move x=>QK regs x λs=>K s H
 | .assign x=>QK regs x λs=>K s H
 | .pick c x y=>QK regs c λs=>match s with
  | .blit true=>QK regs x λs=>K s H
  | .blit false=>QK regs y λs=>K s H
  | .bool p=>(p=true->QK regs x λs=>K s H)/\(p=false->QK regs y λs=>K s H)
  | _=>False
 | .alloc T=>Zax Δ T λti=>Ztw ti H K
 | .box _ x=>QK regs x λs=>Zwm s H K
 | .build T ps=>Zax Δ T λti=>Zp1 regs ps.toList λl=>Zq1 ti l λs=>K s H
 | .buildSlice T n ps=>Zax Δ T λti=>Zp1 regs ps.toList λl=>ZhK ti n l H K
 | .load T x=>Zax Δ T λti=>QK regs x λs=>Zt4 ti s H K
 | .store T x y=>Zax Δ T λti=>QK regs x λsa=>QK regs y λsx=>Zr8 ti sa sx H λH'=>K (.tup []) H'
 | .nilCheck x=>QK regs x λs=>Zrf s λs'=>if s'.Zt0=true then K s' H else match s' with
  | .nilp=>Dead
  | _=>False
 | .binOp op T x y _=>QK regs x λsx=>QK regs y λsy=>ZtK Δ op T sx sy λs=>K s H
 | .unOp op _ x=>QK regs x λsx=>unK op sx λs=>K s H
 | .convert S T x=>Zax Δ S λts=>Zax Δ T λtd=>QK regs x λs=>match ts.kind,td.kind with
  | .sl,.str=>Zax Δ ts.elem λte=>Zq9 te s H λr=>K r H
  | _,_=>ZtR ts td s H λr=>K r H
 | .makeFunc (.func f) first caps=>if first.size=0 then Zqn regs caps.toList λl=>K (.fn f l) H else False
 | .makeSlice T l c=>Zax Δ T λti=>QK regs l λsl=>QK regs c λsc=>Zt5 ti sl sc H K
 | .slice T x lo hi none=>Zax Δ T λti=>QK regs x λs=>Zr5 ti regs s lo hi H K
 | .fieldAddr T x f=>Zax Δ T λti=>QK regs x λs=>Zjs ti s f λr=>K r H
 | .field T x f=>Zax Δ T λti=>QK regs x λs=>Zrk ti s f λr=>K r H
 | .indexAddr T x i=>Zax Δ T λti=>QK regs x λs=>QK regs i λsi=>ZgD ti s si i H λr=>K r H
 | .index T x i=>Zax Δ T λti=>QK regs x λs=>QK regs i λsi=>Zsa ti s si λr=>K r H
 | .extract x i=>QK regs x λs=>ZxO s i λr=>K r H
 | .makeMap T none=>Zax Δ T λti=>Zny ti H K
 | .lookup T x i ok=>Zax Δ T λti=>QK regs x λsx=>QK regs i λsi=>ZoZ Δ ti sx si ok H λr=>K r H
 | .mapUpdate T x i y=>Zax Δ T λti=>QK regs x λsx=>QK regs i λsi=>QK regs y λsy=>Zpg Δ ti sx si sy H λH'=>K (.tup []) H'
 | .call c=>match c.callee,c.args.toList,c.argTypes.toList with
  | .builtin .len,[x],[T]=>Zax Δ T λti=>QK regs x λs=>Zxz ti s H λr=>K r H
  | .builtin .append,[x,y],[T,T']=>if T=T' then Zax Δ T λti=>QK regs x λsx=>QK regs y λsy=>ZoI ti sx sy H K else False
  | .builtin .min,x::r,_=>QK regs x λs=>Zqn regs r λl=>ZuS false s l λr=>K r H
  | .builtin .max,x::r,_=>QK regs x λs=>Zqn regs r λl=>ZuS true s l λr=>K r H
  | _,_,_=>False
 | _=>False
def ZbX:Op->Bool
 | .move _=>true
 | .assign _=>true
 | .pick _ _ _=>true
 | .build _ _=>true
 | .load _ _=>true
 | .nilCheck _=>true
 | .binOp _ _ _ _ _=>true
 | .unOp _ _ _=>true
 | .fieldAddr _ _ _=>true
 | .field _ _ _=>true
 | .indexAddr _ _ _=>true
 | .index _ _ _=>true
 | .extract _ _=>true
 | .makeFunc _ _ _=>true
 | .call c=>match c.callee with
  | .builtin .len=>true
  | .builtin .min=>true
  | .builtin .max=>true
  | _=>false
 | _=>false
def isLoad:Op->Bool
 | .load _ _=>true
 | _=>false
def Zkb:Op->Bool
 | .alloc _=>true
 | .box _ _=>true
 | .buildSlice _ _ _=>true
 | .makeSlice _ _ _=>true
 | .slice _ _ _ _ _=>true
 | .convert _ _ _=>true
 | .makeMap _ _=>true
 | _=>false
def appArg:Op->Option Operand
 | .call ⟨.builtin .append,args,_⟩=>args.toList.head?
 | .store _ x _=>some x
 | _=>none
def Ran (P:Program) (B:Base) (E:Env) (o:Oper) (a:Act) (K:SV->List Entry->Prop):Prop :=
 ∃ nx v E' H' s,(execOp a.eval o).run P E.w=.ok nx E'.w/\(nx=.value v\/nx=.skip/\v=undef)/\Inv B E' H'/\E.le E'/\den E' s v/\K s H'/\
  (ZbX o.op=true->nx=.value v/\E'.w=E.w/\∀ w',(isLoad o.op=true->ZnU E.w w')->(execOp a.eval o).run P w'=.ok (.value v) w')/\((ZbX o.op||Zkb o.op)=true->Grow E.w E'.w)/\∀ x,appArg o.op=some x->E.w.grownBy E'.w (Yl (a.eval x))
theorem ZoU {w w':World} {v:Value} (h:w.grownBy w' v.ownBlock):w.grownBy w' (Yl v):=⟨h.os,h.tape,h.output,h.size,λk hk hne=>h.block k hk (λe=>hne (Zq0 v k e.symm).symm)⟩
theorem ZmY {op:Op} {p:Operand->Prop} (ha:appArg op=none):∀ x,appArg op=some x->p x:=λx e=>by rw[ha] at e;cases e
theorem ZrY {B:Base} {E:Env} {H:List Entry} (hI:Inv B E H) {o:Oper} {a:Act} {K:SV->List Entry->Prop} {x:Sem Value} (he:execOp a.eval o=(do pure (.value (<-x)):Sem Next)) (hl:isLoad o.op=true)
  (h:∃ u s E' H',E'.w=E.w/\Zsm P E.w x u/\Inv B E' H'/\E.le E'/\den E' s u/\K s H') (ha:appArg o.op=none:=by rfl):Ran P B E o a K:=by
 obtain ⟨u,s,E',H',hw,h1,h2,h2',h3,h3'⟩:=h;have h4:∀ w',ZnU E.w w'->(execOp a.eval o).run P w'=.ok (.value u) w':=λw' hst=>by rw[he,Sem.run_bind,h1 w' hst];rfl
 exact ⟨_,u,E',H',s,by rw[hw];exact h4 _ (ZnU.refl _),.inl rfl,h2,h2',h3,h3',λ_=>⟨rfl,hw,λw' h=>h4 w' (h hl)⟩,λ_=>by rw[hw];exact Grow.refl _,ZmY ha⟩
theorem XD {B:Base} {E:Env} {H:List Entry} (hI:Inv B E H) {o:Oper} {a:Act} {K:SV->List Entry->Prop} {x:Sem Value} (he:execOp a.eval o=(do pure (.value (<-x)):Sem Next))
  (h:∃ u s,Zmg P x u/\den E s u/\K s H) (ha:appArg o.op=none:=by rfl):Ran P B E o a K:=by
 obtain ⟨u,s,h1,h2,h3⟩:=h;have h4:∀ w',(execOp a.eval o).run P w'=.ok (.value u) w':=λw'=>by rw[he,Sem.run_bind,h1 w'];rfl
 exact ⟨_,u,E,H,s,h4 _,.inl rfl,hI,Env.le.refl E,h2,h3,λ_=>⟨rfl,rfl,λw' _=>h4 w'⟩,λ_=>Grow.refl _,ZmY ha⟩
theorem Zfm {B:Base} {E:Env} {H:List Entry} (hI:Inv B E H) {o:Oper} {a:Act} {K:SV->List Entry->Prop} {u:Value} {s:SV} (he:execOp a.eval o=(pure (.value u):Sem Next))
  (h2:den E s u) (h3:K s H) (ha:appArg o.op=none:=by rfl):Ran P B E o a K :=
 ⟨_,u,E,H,s,by rw[he];rfl,.inl rfl,hI,Env.le.refl E,h2,h3,λ_=>⟨rfl,rfl,λw' _=>by rw[he];rfl⟩,λ_=>Grow.refl _,ZmY ha⟩
theorem Za5 {B:Base} {E:Env} {o:Oper} {a:Act} {K:SV->List Entry->Prop} {x:Sem Value} (he:execOp a.eval o=(do pure (.value (<-x)):Sem Next)) (hl:ZbX o.op=false)
  (h:∃ u E' H' s,x.run P E.w=.ok u E'.w/\Inv B E' H'/\E.le E'/\den E' s u/\K s H'/\Grow E.w E'.w) (ha:appArg o.op=none:=by rfl):Ran P B E o a K:=by
 obtain ⟨u,E',H',s,h1,h2,h3,h4,h5,h6⟩:=h;exact ⟨_,u,E',H',s,by simp_all,.inl rfl,h2,h3,h4,h5,λe=>(by rw[hl] at e;cases e),λ_=>h6,ZmY ha⟩
theorem Zub {B:Base} {E:Env} {o:Oper} {a:Act} {K:SV->List Entry->Prop} {x:Sem Value} {r:Operand} (he:execOp a.eval o=(do pure (.value (<-x)):Sem Next)) (hl:(ZbX o.op||Zkb o.op)=false) (ha:appArg o.op=some r)
  (h:∃ u E' H' s,x.run P E.w=.ok u E'.w/\Inv B E' H'/\E.le E'/\den E' s u/\K s H'/\E.w.grownBy E'.w (a.eval r).ownBlock):Ran P B E o a K:=by
 obtain ⟨u,E',H',s,h1,h2,h3,h4,h5,h6⟩:=h;have hl':ZbX o.op=false:=by grind
 exact ⟨_,u,E',H',s,by simp_all,.inl rfl,h2,h3,h4,h5,λe=>(by grind),λe=>(by rw[hl] at e;cases e),λx hx=>by rw[ha] at hx;injection hx with hx;subst hx;exact ZoU h6⟩
theorem ZrO {Δ:Tab} (hΔ:Δ.ok P) {B:Base} {E:Env} {H:List Entry} (hI:Inv B E H) {regs:List SV} {a:Act} (hd:ZW E regs a.tmps.toList) {o:Oper} {K:SV->List Entry->Prop}
  (h:opK Δ regs H o.op K):Ran P B E o a K:=by
 obtain ⟨dst,op,type,pos,after,guard⟩:=o;simp only at h;have val:∀ {x:Operand} (op':Op),(execOp a.eval ⟨dst,op',type,pos,after,guard⟩=pure (.value (a.eval x)))->(QK regs x λs=>K s H)->appArg op'=none->Ran P B E ⟨dst,op',type,pos,after,guard⟩ a K:=by
  intro x op' he h ha;obtain ⟨s,hs,h⟩:=Z8 hd h;exact Zfm hI he hs h ha
 unfold opK at h;split at h
 ·exact val _ rfl h rfl
 ·exact val _ rfl h rfl
 ·rename_i c x y
  obtain ⟨s,hs,h⟩:=Z8 hd h;split at h
  ·simp only[den] at hs
   obtain ⟨s',hs',h⟩:=Z8 hd h;exact Zfm hI (u:=a.eval x) (by simp[execOp,hs,asBool]) hs' h
  ·simp only[den] at hs
   obtain ⟨s',hs',h⟩:=Z8 hd h;exact Zfm hI (u:=a.eval y) (by simp[execOp,hs,asBool]) hs' h
  ·rename_i p
   simp only[den] at hs;cases p
   ·obtain ⟨s',hs',h⟩:=Z8 hd (h.2 rfl)
    exact Zfm hI (u:=a.eval y) (by simp[execOp,hs,asBool]) hs' h
   ·obtain ⟨s',hs',h⟩:=Z8 hd (h.1 rfl)
    exact Zfm hI (u:=a.eval x) (by simp[execOp,hs,asBool]) hs' h
  ·exact h.elim
 ·obtain ⟨ti,ht,h⟩:=YP Δ hΔ h
  exact Za5 rfl rfl (ZqV hI ht h)
 ·obtain ⟨s,hs,h⟩:=Z8 hd h
  exact Za5 rfl rfl (ZtM hI hs h)
 ·rename_i T ps
  obtain ⟨ti,ht,h⟩:=YP Δ hΔ h;obtain ⟨l,hl,h⟩:=ZlV hd _ h;exact XD hI rfl (Zq2 ht (by simp_all) h)
 ·rename_i T n ps
  obtain ⟨ti,ht,h⟩:=YP Δ hΔ h;obtain ⟨l,hl,h⟩:=ZlV hd _ h;exact Za5 rfl rfl (Zmh hI ht (by simp_all) h)
 ·obtain ⟨ti,ht,h⟩:=YP Δ hΔ h
  obtain ⟨s,hs,h⟩:=Z8 hd h;exact ZrY hI rfl rfl (ZsQ hI ht hs h)
 ·obtain ⟨ti,ht,h⟩:=YP Δ hΔ h
  obtain ⟨sa,hsa,h⟩:=Z8 hd h;obtain ⟨sx,hsx,h⟩:=Z8 hd h;obtain ⟨E',H',h1,h2,h3,h4,h5⟩:=Zr9 hI ht hsa hsx h;exact ⟨.skip,undef,E',H',.tup [],by simp[execOp,h1],.inr ⟨rfl,rfl⟩,h2,h3,by simp only[den];exact ⟨[],rfl,trivial⟩,h4,λe=>(by cases e),λe=>(by cases e),λy hy=>by simp only[appArg] at hy;grind⟩
 ·obtain ⟨s0,hs0,h⟩:=Z8 hd h
  obtain ⟨s,hs,h⟩:=Zrg hs0 h;split at h
  ·rename_i hp
   rcases Zo5 hs hp with ⟨p,hv⟩ | ⟨f,cs,hv⟩
   ·exact Zfm hI (by simp[execOp,hv];rfl) (by rw[<-hv];exact hs) h
   ·exact Zfm hI (by simp[execOp,hv];rfl) (by rw[<-hv];exact hs) h
  ·split at h
   ·exact h.no.elim
   ·exact h.elim
 ·obtain ⟨sx,hsx,h⟩:=Z8 hd h
  obtain ⟨sy,hsy,h⟩:=Z8 hd h;obtain ⟨r,s,h1,h2,h3⟩:=Zsn (P:=P) hΔ h hsx hsy _ _;exact XD hI rfl ⟨r,s,h1,h2,h3⟩
 ·obtain ⟨sx,hsx,h⟩:=Z8 hd h
  obtain ⟨r,s,h1,h2,h3⟩:=ZvR (P:=P) h hsx;exact XD hI rfl ⟨r,s,h1,h2,h3⟩
 ·obtain ⟨ts,hts,h⟩:=YP Δ hΔ h
  obtain ⟨td,htd,h⟩:=YP Δ hΔ h;obtain ⟨s,hs,h⟩:=Z8 hd h;split at h
  ·rename_i hk1 hk2
   obtain ⟨te,hte,h⟩:=YP Δ hΔ h;obtain ⟨u,r,h1,h2,h3⟩:=Zra (P:=P) hI hts hk1 htd hk2 hte hs h;exact Za5 rfl rfl ⟨u,E,H,r,h1,hI,Env.le.refl E,h2,h3,Grow.refl _⟩
  ·obtain ⟨u,r,h1,h2,h3⟩:=Zsu (P:=P) hts htd hs h
   exact XD hI rfl ⟨u,r,h1,h2,h3⟩
 ·rename_i f first caps
  split at h
  ·rename_i hf
   obtain ⟨caps⟩:=caps;obtain ⟨l,hl,h⟩:=ZiG hd _ h;have hf':first=#[]:=Array.eq_empty_of_size_eq_zero hf;subst hf';refine XD hI rfl ⟨_,_,λw=>rfl,?_,h⟩;simp only[den];grind
  ·exact h.elim
 ·obtain ⟨ti,ht,h⟩:=YP Δ hΔ h
  obtain ⟨sl,hsl,h⟩:=Z8 hd h;obtain ⟨sc,hsc,h⟩:=Z8 hd h;exact Za5 rfl rfl (ZsT hI ht hsl hsc h)
 ·obtain ⟨ti,ht,h⟩:=YP Δ hΔ h
  obtain ⟨s,hs,h⟩:=Z8 hd h;exact Za5 rfl rfl (Zr6 hI hd ht hs h)
 ·obtain ⟨ti,ht,h⟩:=YP Δ hΔ h
  obtain ⟨s,hs,h⟩:=Z8 hd h;exact XD hI rfl (Znl ht hs h)
 ·obtain ⟨ti,ht,h⟩:=YP Δ hΔ h
  obtain ⟨s,hs,h⟩:=Z8 hd h;exact XD hI rfl (Zrl ht hs h)
 ·rename_i T x i
  obtain ⟨ti,ht,h⟩:=YP Δ hΔ h;obtain ⟨s,hs,h⟩:=Z8 hd h;cases i with
  | const v =>
   obtain ⟨si,hsi,h⟩:∃ si,(∀ j,ZhO (.const v)=some j->∀ k i,si=.int k i->i=(j:Int))/\den E si v/\ZgD ti s si (.const v) H λr=>K r H:=by
    have h':=h;obtain ⟨si,hsi,h⟩:=Z8 hd h;have hsi':den E si v:=hsi;refine ⟨si,λj hj k i hsi2=>?_,hsi',h⟩;subst hsi2;simp only[den] at hsi';subst hsi';simp only[ZhO] at hj;split at hj;all_goals grind
   exact XD hI rfl (ZcX hI ht hs h.1 h.2 hsi)
  | tmp t =>
   obtain ⟨si,hsi,h⟩:=Z8 hd h;exact XD hI rfl (ZcX hI ht hs hsi h (λj hj=>by simp[ZhO] at hj))
  | global g =>
   obtain ⟨si,hsi,h⟩:=Z8 hd h;exact XD hI rfl (ZcX hI ht hs hsi h (λj hj=>by simp[ZhO] at hj))
  | func f =>
   obtain ⟨si,hsi,h⟩:=Z8 hd h;exact XD hI rfl (ZcX hI ht hs hsi h (λj hj=>by simp[ZhO] at hj))
 ·obtain ⟨ti,ht,h⟩:=YP Δ hΔ h
  obtain ⟨s,hs,h⟩:=Z8 hd h;obtain ⟨si,hsi,h⟩:=Z8 hd h;obtain ⟨u,r,h1,h2,h3⟩:=Zsb (P:=P) ht hs hsi h;exact XD hI rfl ⟨u,r,h1,h2,h3⟩
 ·obtain ⟨s,hs,h⟩:=Z8 hd h
  obtain ⟨u,r,h1,h2,h3⟩:=Zuj (P:=P) hs h;exact XD hI rfl ⟨u,r,h1,h2,h3⟩
 ·obtain ⟨ti,ht,h⟩:=YP Δ hΔ h
  exact Za5 rfl rfl (Zo0 hI ht h)
 ·obtain ⟨ti,ht,h⟩:=YP Δ hΔ h
  obtain ⟨sx,hsx,h⟩:=Z8 hd h;obtain ⟨si,hsi,h⟩:=Z8 hd h;obtain ⟨u,r,h1,h2,h3⟩:=Zqu (P:=P) hΔ hI ht hsx hsi h;exact Za5 rfl rfl ⟨u,E,H,r,h1,hI,Env.le.refl E,h2,h3,Grow.refl _⟩
 ·obtain ⟨ti,ht,h⟩:=YP Δ hΔ h
  obtain ⟨sx,hsx,h⟩:=Z8 hd h;obtain ⟨si,hsi,h⟩:=Z8 hd h;obtain ⟨sy,hsy,h⟩:=Z8 hd h;obtain ⟨E',H',h1,h2,h3,h4⟩:=ZqK (P:=P) hΔ hI ht hsx hsi hsy h;exact ⟨.skip,undef,E',H',.tup [],by simp[execOp,h1],.inr ⟨rfl,rfl⟩,h2,h3,by simp only[den];exact ⟨[],rfl,trivial⟩,h4,λe=>(by cases e),λe=>(by cases e),ZmY rfl⟩
 ·rename_i c
  obtain ⟨callee,args,argTypes⟩:=c;obtain ⟨args⟩:=args;obtain ⟨argTypes⟩:=argTypes;simp only at h;split at h
  ·rename_i x T
   obtain ⟨ti,ht,h⟩:=YP Δ hΔ h;obtain ⟨s,hs,h⟩:=Z8 hd h;obtain ⟨u,r,h1,h2,h3⟩:=Zt3 (ty:=type) hI ht hs h;exact XD hI (x:=Builtin.len_ #[T] type #[a.eval x]) (by simp only[execOp,resolve,invoke,builtin,pure_bind,List.map_toArray,List.map_cons,List.map_nil]) ⟨u,r,h1,h2,h3⟩
  ·rename_i x y T T'
   split at h
   ·rename_i hTT;subst hTT
    obtain ⟨ti,ht,h⟩:=YP Δ hΔ h;obtain ⟨sx,hsx,h⟩:=Z8 hd h;obtain ⟨sy,hsy,h⟩:=Z8 hd h;exact Zub (x:=Builtin.append_ #[T,T] type #[a.eval x,a.eval y]) (by simp only[execOp,resolve,invoke,builtin,pure_bind,List.map_toArray,List.map_cons,List.map_nil]) rfl rfl (Zqf (ty:=type) hI ht hsx hsy h)
   ·exact h.elim
  ·rename_i x r
   obtain ⟨s,hs,h⟩:=Z8 hd h;obtain ⟨l,hl,h⟩:=ZiG hd _ h;obtain ⟨u,r',h1,h2,h3⟩:=Zo1 (P:=P) (mx:=false) l s _ _ hs hl h;exact XD hI (x:=Builtin.min_ argTypes.toArray type ((x::r).toArray.map a.eval)) (by simp only[execOp,resolve,invoke,builtin,pure_bind]) ⟨u,r',λw=>by simpa[Builtin.min_] using h1 w,h2,h3⟩
  ·rename_i x r
   obtain ⟨s,hs,h⟩:=Z8 hd h;obtain ⟨l,hl,h⟩:=ZiG hd _ h;obtain ⟨u,r',h1,h2,h3⟩:=Zo1 (P:=P) (mx:=true) l s _ _ hs hl h;exact XD hI (x:=Builtin.max_ argTypes.toArray type ((x::r).toArray.map a.eval)) (by simp only[execOp,resolve,invoke,builtin,pure_bind]) ⟨u,r',λw=>by simpa[Builtin.max_] using h1 w,h2,h3⟩
  ·exact h.elim
 ·exact h.elim
end
inductive Sh
 | dat (t:Ty)
 | own (e:Dp)
 | io (e:Dp)
 | back (e:Dp)
@[reducible] def Sh.den:Sh->Type
 | .dat t=>t.den
 | .own e=>e.ty.den
 | .io e=>e.ty.den
 | .back e=>e.ty.den
@[reducible] def Shs:List Sh->Type
 | []=>Unit
 | s::r=>s.den×Shs r
@[reducible] def Ios:List Sh->Type
 | []=>Unit
 | .io e::r=>e.ty.den×Ios r
 | .back e::r=>e.ty.den×Ios r
 | .dat _::r=>Ios r
 | .own _::r=>Ios r
structure Ctr where
 args:List Sh
 rets:List Sh
 tr:Shs args->(Shs rets->Ios args->Prop)->Prop
def Zsf (t:Ty) (v:Value):Prop:=(t.agg=true->∃ cs,v=.agg cs)/\(t.agg=false->v.cells=#[v])
def Zuw (S:Nat->Prop) (w:World) (t:Ty) (d:t.den) (v:Value):Prop :=
 (t.agg=true->∃ cs,v=.agg cs)/\(t.agg=false->v.cells=#[v])/\rep S w t d v.cells.toList
def ZqG (S:Nat->Prop) (w:World):(s:Sh)->s.den->Value->List Nat->Prop
 | .dat t,d,v,fp=>fp=[]/\Zuw S w t d v
 | .own e,d,v,fp=>Zsf e.ty v/\ZeQ S w e d v.cells.toList fp
 | .back e,d,v,fp=>Zsf e.ty v/\ZeQ S w e d v.cells.toList fp
 | .io e,d,v,fp=>∃ b cs T f,v=.pointer (some ⟨b,0,none⟩)/\w.heap[b]?=some (.cells cs T (0,0))/\ZeQ S w e d cs.toList f/\fp=b::f
def ZbN (S:Nat->Prop) (w:World):(l:List Sh)->Shs l->List Value->List Nat->Prop
 | [],_,vs,fp=>vs=[]/\fp=[]
 | s::r,d,vs,fp=>∃ v vr f fr,vs=v::vr/\fp=f++fr/\ZqG S w s d.1 v f/\ZbN S w r d.2 vr fr
def ZfH (S:Nat->Prop) (w:World):(l:List Sh)->Ios l->List Value->List Nat->Prop
 | [],_,_,fp=>fp=[]
 | .io e::r,d,vs,fp=>∃ v vr f fr,vs=v::vr/\fp=f++fr/\ZqG S w (.io e) d.1 v f/\ZfH S w r d.2 vr fr
 | .back e::r,d,vs,fp=>∃ v vr f fr,vs=v::vr/\fp=f++fr/\ZqG S w (.back e) d.1 v f/\ZfH S w r d.2 vr fr
 | .dat _::r,d,vs,fp=>∃ v vr,vs=v::vr/\ZfH S w r d vr fp
 | .own _::r,d,vs,fp=>∃ v vr,vs=v::vr/\ZfH S w r d vr fp
def retv (us:List Value) (v:Value):Prop :=
 match us with
 | [u]=>v=u
 | us=>v=.tuple us.toArray
def Zm8 (P:Program) (f:FuncId):Prop:=∃ fn,P.funcs[f]?=some fn/\(fn.name == "runtime.NumGoroutine")=false/\fn.body.isNone=false
def Za (P:Program) (f:FuncId) (C:Ctr):Prop:=Zm8 P f/\
 ∀ (w:World) (S:Nat->Prop) (vs:List Value) (as:Shs C.args) (fp:List Nat) (K:Shs C.rets->Ios C.args->Prop),
  (∀ b,S b->b<w.heap.size)->ZfC S w->ZbN S w C.args as vs fp->fp.Nodup->(∀ g∈fp,¬S g/\g<w.heap.size)->C.tr as K->
  Calls P f vs.toArray w λe w'=>∃ v us rs ios S' fr fio,e=.returned v/\retv us v/\K rs ios/\Keeps ⟨w,S,λb=>b∈fp,[]⟩ w'/\(∀ b,S b->S' b)/\
   (∀ b,S' b->b<w'.heap.size/\(b<w.heap.size->S b\/b∈fp))/\ZbN S' w' C.rets rs us fr/\ZfH S' w' C.args ios vs fio/\
   (fio++fr).Nodup/\∀ g∈fio++fr,¬S' g/\g<w'.heap.size/\(w.heap.size<=g\/g∈fp)
def SV.isAgg:SV->Bool
 | .agg _=>true
 | _=>false
def Zur (f:SV->List Entry->(SV->List Entry->Prop)->Prop):List SV->List Entry->(List SV->List Entry->Prop)->Prop
 | [],H,K=>K [] H
 | s::r,H,K=>f s H λs' H1=>Zur f r H1 λr' H2=>K (s'::r') H2
def Zlg:Nat->SV->List Entry->(SV->List Entry->Prop)->Prop
 | 0,s,H,K=>K s H
 | n+1,s,H,K=>match s with
  | .ptr id 0=>ZdW H id λe=>match e with
   | .box cells=>Zur (Zlg n) cells H λcs0 H0=>Qa cs0 H0 λcs' H1=>ZdW H1 id λe1=>match e1 with
    | .box _=>ZeR H1 id (.fbx cs') λH2=>K (.fptr cs') H2
    | _=>False
   | .fbx cells=>K (.fptr cells) H
   | _=>False
  | .own id=>ZdW H id λe=>match e with
   | .hole _ e d i cells _=>Zur (Zlg n) cells H λcs0 H0=>Qa cs0 H0 λcs' H1=>Y4 e.ty cs' λx rest=>match rest with
    | []=>ZdW H1 id λe1=>match e1 with
     | .hole _ _ _ _ _ _=>ZeR H1 id (.frz e.ty (d.set i.toNat x)) λH2=>K (.sl e.ty (d.set i.toNat x)) H2
     | _=>False
    | _=>False
   | _=>K (.own id) H
  | s=>K s H
def Zrq (s:SV) (H:List Entry) (K:SV->List Entry->Prop):Prop:=Zlg 3 s H K
def ZoT (cs:List SV) (H:List Entry) (K:List SV->List Entry->Prop):Prop:=Zur Zrq cs H K
def Zro (s:SV) (H:List Entry) (K:List SV->List Entry->Prop):Prop :=
 match s with
 | .fn f caps=>ZoT caps H λcaps' H1=>K [.fn f caps'] H1
 | .ptr id off=>Zrq (.ptr id off) H λs' H1=>K [s'] H1
 | s=>ZoT s.cells H λcs0 H0=>Qa cs0 H0 K
def Zn4 (t:Ty) (cs:List SV) (K:SV->Prop):Prop :=
 if t.agg=true then K (.agg cs) else match cs with
  | c::_=>K c
  | []=>False
def Zkj:(l:List Sh)->List SV->List Entry->(Shs l->List Entry->Prop)->Prop
 | [],ss,H,K=>match ss with
  | []=>K () H
  | _=>False
 | .dat t::r,ss,H,K=>match ss with
  | s::ss=>if s.whole=true/\t.agg=s.isAgg then Zro s H λcs H1=>Y4 t cs λd rest=>match rest with
    | []=>Zkj r ss H1 λds H2=>K (d,ds) H2
    | _=>False
   else False
  | _=>False
 | .own e::r,ss,H,K=>match ss with
  | s::ss=>if s.whole=true/\e.ty.agg=s.isAgg then closeAll e s.cells H λd H1=>Zkj r ss H1 λds H2=>K (d,ds) H2 else False
  | _=>False
 | .back e::r,ss,H,K=>match ss with
  | s::ss=>if s.whole=true/\e.ty.agg=s.isAgg then closeAll e s.cells H λd H1=>Zkj r ss H1 λds H2=>K (d,ds) H2 else False
  | _=>False
 | .io e::r,ss,H,K=>match ss with
  | .ptr id 0::ss=>ZdW H id λen=>match en with
   | .box cells=>ZeR H id .gone λH0=>closeAll e cells H0 λd H1=>Zkj r ss H1 λds H2=>K (d,ds) H2
   | _=>False
  | _=>False
def Dp.closed:Dp->Bool
 | .flat t=>t.flat
 | .ol _ e=>e.closed
 | .pair a b=>a.closed&&b.closed
 | .mp k v=>k.flat&&v.flat
def Sh.flat:Sh->Bool
 | .dat t=>t.flat
 | .own e=>e.closed
 | .io e=>e.closed
 | .back e=>e.closed
def ZkP:List Sh->Bool
 | []=>true
 | s::r=>s.flat&&ZkP r
def ZhP:List Sh->Bool
 | []=>true
 | .io e::r=>e.closed&&ZhP r
 | .back e::r=>e.closed&&ZhP r
 | _::r=>ZhP r
def Zcu:(e:Dp)->List SV->e.ty.den->List Entry->(List SV->List Entry->Prop)->Prop
 | .flat t,cs,_,H,K=>Zgb cs t.size λr=>K r H
 | .ol et e,cs,d,H,K=>match cs with
  | .nsl::r=>K r H
  | .own id::r=>Zua et e id d H λH'=>K r H'
  | _=>False
 | .mp k v,cs,d,H,K=>match cs with
  | .mown id::r=>ZeR H id (.mpe k v d) λH'=>K r H'
  | _=>False
 | .pair a b,cs,d,H,K=>ZT d λx y=>Zcu a cs x H λr H1=>Zcu b r y H1 K
def ZqO:(l:List Sh)->List SV->Ios l->List Entry->(List Entry->Prop)->Prop
 | [],_,_,H,K=>K H
 | .io e::r,ss,d,H,K=>match ss with
  | .ptr id 0::ss=>ZT d λx d'=>XO e x H λcells H1=>ZeR H1 id (.box cells) λH2=>ZqO r ss d' H2 K
  | _=>False
 | .back e::r,ss,d,H,K=>match ss with
  | s::ss=>if s.whole=true then ZT d λx d'=>Zcu e s.cells x H λ_ H1=>ZqO r ss d' H1 K else False
  | _=>False
 | .dat _::r,ss,d,H,K=>match ss with
  | _::ss=>ZqO r ss d H K
  | _=>False
 | .own _::r,ss,d,H,K=>match ss with
  | _::ss=>ZqO r ss d H K
  | _=>False
def ZjW:(l:List Sh)->Shs l->List Entry->(List SV->List Entry->Prop)->Prop
 | [],_,H,K=>K [] H
 | .dat t::r,d,H,K=>ZT d λx d'=>XA t x λcs=>Zn4 t cs λs=>ZjW r d' H λss H'=>K (s::ss) H'
 | .own e::r,d,H,K=>ZT d λx d'=>XO e x H λcs H1=>Zn4 e.ty cs λs=>ZjW r d' H1 λss H'=>K (s::ss) H'
 | .back e::r,d,H,K=>ZT d λx d'=>XO e x H λcs H1=>Zn4 e.ty cs λs=>ZjW r d' H1 λss H'=>K (s::ss) H'
 | .io e::r,d,H,K=>ZT d λx d'=>XO e x H λcs H1=>ZmX cs H1 λs H2=>ZjW r d' H2 λss H'=>K (s::ss) H'
def ZrN (ss:List SV) (K:SV->Prop):Prop :=
 match ss with
 | [s]=>K s
 | ss=>K (.tup ss)
def ZpC:List Entry->(List Entry->Prop)->Prop
 | [],K=>K []
 | e::r,K=>ZpC r λr'=>K (e::r')
theorem Zn7:∀ (l:List Entry) (K:List Entry->Prop),ZpC l K=K l
 | [],_=>rfl
 | e::r,K=>by unfold ZpC;exact Zn7 r _
def ZtO (C:Ctr) (ss:List SV) (H:List Entry) (K:SV->List Entry->Prop):Prop :=
 Zkj C.args ss H λas H1=>C.tr as λrs ios =>
  if (ZkP C.rets&&ZhP C.args)=true then ZpC (ZkB H H1) λH0=>ZqO C.args ss ios H0 λH2=>ZjW C.rets rs H2 λss' H3=>ZrN ss' λs=>K s H3
  else ZqO C.args ss ios H1 λH2=>ZjW C.rets rs H2 λss' H3=>ZrN ss' λs=>K s H3
def Zuz (B:Base) (f:SV->List Entry->(SV->List Entry->Prop)->Prop):Prop :=
 ∀ (E:Env) (H:List Entry),Inv B E H->∀ (s:SV) (v:Value),den E s v->∀ (K:SV->List Entry->Prop),f s H K->∃ E' H' s',Frz E H E' H'/\Inv B E' H'/\den E' s' v/\K s' H'
theorem Zno {B:Base} {f:SV->List Entry->(SV->List Entry->Prop)->Prop} (hf:Zuz B f):∀ (cs:List SV) {E:Env} {H:List Entry} (_:Inv B E H) {vs:List Value} (_:ZW E cs vs) {K:List SV->List Entry->Prop} (_:Zur f cs H K),
  ∃ E' H' cs',Frz E H E' H'/\Inv B E' H'/\ZW E' cs' vs/\K cs' H'
 | [],E,H,hI,vs,hd,K,hk=>⟨E,H,[],Frz.refl E H,hI,hd,hk⟩
 | s::r,E,H,hI,vs,hd,K,hk=>by
  match vs,hd with
  | [],hd=>simp[ZW] at hd
  | v::vs,hd =>
   simp only[ZW] at hd;simp only[Zur] at hk;obtain ⟨E1,H1,s',hf1,hI1,hd1,hk⟩:=hf _ _ hI _ _ hd.1 _ hk;obtain ⟨E2,H2,r',hf2,hI2,hd2,hk⟩:=Zno hf r hI1 (ZA hf1.le _ _ hd.2) hk;exact ⟨E2,H2,s'::r',hf1.trans hf2,hI2,⟨ZdV hf2.le _ _ hd1,hd2⟩,hk⟩
theorem Zju {B:Base}:∀ n,Zuz B (Zlg n)
 | 0=>λ_ _ hI _ _ hd _ hk=>⟨_,_,_,Frz.refl _ _,hI,hd,hk⟩
 | n+1=>by
  intro E H hI s v hd K hk;unfold Zlg at hk;split at hk
  ·rename_i id
   obtain ⟨e,he,hk⟩:=Yu H hk;simp only[den] at hd;obtain ⟨b,h1,hv⟩:=hd;split at hk
   ·rename_i cells
    obtain ⟨b',cs,T,h1',h2,h3⟩:=hI.ent id _ he;have:=h1.symm.trans h1';simp at this;subst this;obtain ⟨E0,H0,cs0,hf0,hI0,hd0,hk⟩:=Zno (Zju n) _ hI h3 hk;obtain ⟨E1,H1,cs',hf1,hI1,hd1,hk,_⟩:=Xj _ hI0 hd0 hk;have hf01:=hf0.trans hf1;obtain ⟨e1,he1,hk⟩:=Yu H1 hk;split at hk
    ·rename_i c1
     rw[YO] at hk;have hv1:E1.ids[id]?=some (.pointer (some ⟨b,0,none⟩)):=by rw[hf01.ids];exact h1
     have hh1:E1.w.heap[b]?=some (.cells cs T (0,0)):=by rw[hf01.w];exact h2
     have hle0:E1.le ⟨λg=>E1.S g\/Zev (.box c1) (.pointer (some ⟨b,0,none⟩)) g,E1.w,E1.ids⟩:=⟨λ_ h=>.inl h,λ_ _=>rfl,λ_ _ h=>h⟩;obtain ⟨hle2,hI2⟩:=hI1.Zle he1 rfl hv1 (.fbx cs') rfl ⟨b,cs,T,hv1,.inr rfl,hh1,ZA hle0 _ _ hd1⟩;refine ⟨_,_,_,hf01.trans (Frz.one he1 rfl hv1 rfl hle2 (λb hb=>hb)),hI2,?_,hk⟩;simp only[den];refine ⟨⟨b,0,none⟩,cs.toList,hv,rfl,.inr rfl,λj u hu=>?_,ZA hle2 _ _ hd1⟩;exact ZiA (w:=E1.w) (b:=b) (cs:=cs) (T:=T) (fr:=(0,0)) hh1 0 j u (by simpa using hu)
    ·exact hk.elim
   ·rename_i cells
    obtain ⟨b',cs,T,h1',hS,h2,h3⟩:=hI.ent id _ he;have:=h1.symm.trans h1';simp at this;subst this;refine ⟨E,H,_,Frz.refl E H,hI,?_,hk⟩;simp only[den];refine ⟨⟨b,0,none⟩,cs.toList,hv,rfl,hS,λj u hu=>?_,h3⟩;exact ZiA h2 0 j u (by simpa using hu)
   ·exact hk.elim
  ·rename_i id
   obtain ⟨en,he,hk⟩:=Yu H hk;split at hk
   ·rename_i et e d i cells fp
    have hd0:=hd;simp only[den] at hd0;obtain ⟨v',xs,x1,vx,x2,f1,f2,h1,ho,hi0,hi1,ex,el,el2,hr1,hr2,hdc,efp,hnd⟩:=hI.ent id _ he;have:=h1.symm.trans hd0.1;simp at this;subst this;obtain ⟨E0,H0,cs0,hf0,hI0,hd0',hk⟩:=Zno (Zju n) _ hI hdc hk;obtain ⟨E1,H1,cs',hf1,hI1,hd1,hk,_⟩:=Xj _ hI0 hd0' hk;have hf01:=hf0.trans hf1;obtain ⟨x,rest,u1,u2,e12,hr,hrest,hk⟩:=YQ e.ty cs' _ _ hd1 hk;split at hk
    ·have hv2:u2=[]:=by cases u2 with
      | nil=>rfl
      | cons=>simp[ZW] at hrest
     subst hv2;rw[List.append_nil] at e12;subst e12;obtain ⟨e1,he1,hk⟩:=Yu H1 hk;split at hk
     ·have hsame:=hf01.same id _ he1 rfl
      rw[he] at hsame;have hsame:=Option.some.inj hsame;rw[<-hsame] at he1;rw[YO] at hk;have hv1:E1.ids[id]?=some v':=by rw[hf01.ids];exact hd0.1
      have hrd:rep (λb=>E1.S b\/Zev (.hole et e d i cells fp) v' b) E1.w (.sl e.ty) (d.set i.toNat x) [v']:=by
       have hw:=hf01.w;rw[hw];rw[hw] at hr;refine Zok (by rw[List.length_set];exact ho) ?_ (λg hg=>.inr (by show g∈fp;rw[efp];simp[hg]));rw[List.set_eq_take_append_cons_drop,if_pos (by omega),ex,List.append_assoc];refine Zfp _ _ _ _ (Zfo _ _ _ (λd vs f hsub h=>Zdg (S:=E.S) (λb hb=>.inl (hf01.le.S b hb)) e d vs f (λg hg=>.inr (by show g∈fp;grind)) h) hr1) ⟨vx,x2,rfl,?_,?_⟩
       ·exact Z6 (λb hb=>.inl hb) (λ_ _=>rfl) e.ty x vx hr
       ·exact Zfo _ _ _ (λd vs f hsub h=>Zdg (S:=E.S) (λb hb=>.inl (hf01.le.S b hb)) e d vs f (λg hg=>.inr (by show g∈fp;grind)) h) hr2
      obtain ⟨hle2,hI2⟩:=hI1.Zle he1 rfl hv1 (.frz e.ty (d.set i.toNat x)) rfl ⟨v',hv1,hrd⟩;exact ⟨_,_,_,hf01.trans (Frz.one he1 rfl hv1 rfl hle2 (λb hb=>hb)),hI2,by simp only[den];exact hrd,hk⟩
     ·exact hk.elim
    ·exact hk.elim
   ·exact ⟨E,H,_,Frz.refl E H,hI,hd,hk⟩
  ·exact ⟨E,H,_,Frz.refl E H,hI,hd,hk⟩
theorem Zn9 {B:Base} {E:Env} {H:List Entry} (hI:Inv B E H) {s:SV} {v:Value} (hd:den E s v) {K:SV->List Entry->Prop} (hk:Zrq s H K) :
  ∃ E' H' s',Frz E H E' H'/\Inv B E' H'/\den E' s' v/\K s' H':=Zju 3 _ _ hI _ _ hd _ hk
theorem ZmU {B:Base} (cs:List SV) {E:Env} {H:List Entry} (hI:Inv B E H) {vs:List Value} (hd:ZW E cs vs) {K:List SV->List Entry->Prop} (hk:ZoT cs H K) :
  ∃ E' H' cs',Frz E H E' H'/\Inv B E' H'/\ZW E' cs' vs/\K cs' H' :=
 Zno (λ_ _ hI _ _ hd _ hk=>Zn9 hI hd hk) cs hI hd hk
theorem Zrp {B:Base} {E:Env} {H:List Entry} (hI:Inv B E H) {s:SV} {v:Value} (hd:den E s v) (hw:s.whole=true) {K:List SV->List Entry->Prop} (hk:Zro s H K) :
  ∃ E' H' cs',Frz E H E' H'/\Inv B E' H'/\ZW E' cs' v.cells.toList/\K cs' H':=by
 unfold Zro at hk;split at hk
 ·rename_i f caps
  simp only[den] at hd;obtain ⟨vs,rfl,hd⟩:=hd;obtain ⟨E1,H1,cs',hf1,hI1,hd1,hk⟩:=ZmU _ hI hd hk;exact ⟨E1,H1,[.fn f cs'],hf1,hI1,⟨by simp only[den];grind,trivial⟩,hk⟩
 ·rename_i id off
  have hc:=(Zgl hd rfl).1;obtain ⟨E1,H1,s',hf1,hI1,hd1,hk⟩:=Zn9 hI hd hk;exact ⟨E1,H1,[s'],hf1,hI1,by rw[hc];exact ⟨hd1,trivial⟩,hk⟩
 ·obtain ⟨E0,H0,cs0,hf0,hI0,hd0,hk⟩:=ZmU _ hI (QX hd hw) hk
  obtain ⟨E1,H1,cs',hf1,hI1,hd1,hk,_⟩:=Xj _ hI0 hd0 hk;exact ⟨E1,H1,_,hf0.trans hf1,hI1,hd1,hk⟩
theorem Zp7 {E E':Env} (h:E.le E') {fp:List Nat} (hw:∀ g∈fp,E'.w.heap[g]?=E.w.heap[g]?):∀ (s:Sh) (d:s.den) (v:Value),ZqG E.S E.w s d v fp->ZqG E'.S E'.w s d v fp
 | .dat t,_,_,⟨h0,h1,h2,h3⟩=>⟨h0,h1,h2,Z6 h.S h.w t _ _ h3⟩
 | .own e,_,_,⟨h1,h2⟩=>⟨h1,Yg h.S h.w e _ _ _ hw h2⟩
 | .back e,_,_,⟨h1,h2⟩=>⟨h1,Yg h.S h.w e _ _ _ hw h2⟩
 | .io e,_,_,⟨b,cs,T,f,h1,h2,h3,h4⟩=>⟨b,cs,T,f,h1,by grind,Yg h.S h.w e _ _ _ (λg hg=>hw g (by rw[h4];simp[hg])) h3,h4⟩
theorem Zot {E E':Env} (h:E.le E'):∀ (l:List Sh) (d:Shs l) (vs:List Value) (fp:List Nat),(∀ g∈fp,E'.w.heap[g]?=E.w.heap[g]?)->ZbN E.S E.w l d vs fp->ZbN E'.S E'.w l d vs fp
 | [],_,_,_,_,h=>h
 | s::r,_,_,_,hw,⟨v,vr,f,fr,e,ef,h1,h2⟩=>⟨v,vr,f,fr,e,ef,Zp7 h (λg hg=>hw g (by rw[ef];simp[hg])) s _ _ h1,Zot h r _ _ _ (λg hg=>hw g (by rw[ef];simp[hg])) h2⟩
theorem Zo9 {α:Type} {R R':α->List Value->List Nat->Prop} (h:∀ d vs f,R d vs f->R' d vs f) (l:List α) (xs:List Value) (fp:List Nat) (hr:Jf R l xs fp):Jf R' l xs fp:=Y5 l xs fp (λd vs f _=>h d vs f) hr
theorem JH {S S':Nat->Prop} {w:World}:∀ (e:Dp),e.closed=true->∀ (d:e.ty.den) (vs:List Value) (fp:List Nat),ZeQ S w e d vs fp->ZeQ S' w e d vs fp
 | .flat t,hc,_,_,_,⟨h1,h2⟩=>⟨h1,ZgH t hc _ _ h2⟩
 | .ol et e,hc,_,_,_,⟨v,xs,fps,e1,ho,hr,e2⟩=>⟨v,xs,fps,e1,ho,Zo9 (λd vs f=>JH e hc d vs f) _ _ _ hr,e2⟩
 | .mp k v,hc,_,_,_,⟨b,es,clk,e1,e2,hh,h⟩=>by
  simp only[Dp.closed,Bool.and_eq_true] at hc;exact ⟨b,es,clk,e1,e2,hh,Ju (λd vs=>ZgH k hc.1 d vs) (λd vs=>ZgH v hc.2 d vs) _ _ h⟩
 | .pair a b,hc,_,_,_,⟨v1,v2,f1,f2,e1,e2,h1,h2⟩=>by
  simp only[Dp.closed,Bool.and_eq_true] at hc;exact ⟨v1,v2,f1,f2,e1,e2,JH a hc.1 _ _ _ h1,JH b hc.2 _ _ _ h2⟩
theorem Zjf {S S':Nat->Prop} {w:World}:∀ (l:List Sh),ZkP l=true->∀ (d:Shs l) (vs:List Value) (fp:List Nat),ZbN S w l d vs fp->ZbN S' w l d vs fp
 | [],_,_,_,_,h=>h
 | s::r,hf,_,_,_,⟨v,vr,f,fr,e,ef,h1,h2⟩=>by
  simp only[ZkP,Bool.and_eq_true] at hf;refine ⟨v,vr,f,fr,e,ef,?_,Zjf r hf.2 _ _ _ h2⟩;cases s with
  | dat t=>obtain ⟨a,b,c,d⟩:=h1;exact ⟨a,b,c,ZgH t hf.1 _ _ d⟩
  | own e=>exact ⟨h1.1,JH e hf.1 _ _ _ h1.2⟩
  | back e=>exact ⟨h1.1,JH e hf.1 _ _ _ h1.2⟩
  | io e=>obtain ⟨b,cs,T,f',a1,a2,a3,a4⟩:=h1;exact ⟨b,cs,T,f',a1,a2,JH e hf.1 _ _ _ a3,a4⟩
theorem Zbq {S S':Nat->Prop} {w:World}:∀ (l:List Sh),ZhP l=true->∀ (d:Ios l) (vs:List Value) (fp:List Nat),ZfH S w l d vs fp->ZfH S' w l d vs fp
 | [],_,_,_,_,h=>h
 | .io e::r,hf,_,_,_,⟨v,vr,f,fr,ev,ef,⟨b,cs,T,f',a1,a2,a3,a4⟩,h2⟩=>by
  simp only[ZhP,Bool.and_eq_true] at hf;exact ⟨v,vr,f,fr,ev,ef,⟨b,cs,T,f',a1,a2,JH e hf.1 _ _ _ a3,a4⟩,Zbq r hf.2 _ _ _ h2⟩
 | .back e::r,hf,_,_,_,⟨v,vr,f,fr,ev,ef,⟨a1,a2⟩,h2⟩=>by
  simp only[ZhP,Bool.and_eq_true] at hf;exact ⟨v,vr,f,fr,ev,ef,⟨a1,JH e hf.1 _ _ _ a2⟩,Zbq r hf.2 _ _ _ h2⟩
 | .dat _::r,hf,_,_,_,⟨v,vr,e,h2⟩=>⟨v,vr,e,Zbq r hf _ _ _ h2⟩
 | .own _::r,hf,_,_,_,⟨v,vr,e,h2⟩=>⟨v,vr,e,Zbq r hf _ _ _ h2⟩
theorem ZsK {E:Env} {s:SV} {v:Value} (h:den E s v) (hw:s.whole=true):(s.isAgg=true->∃ cs,v=.agg cs)/\(s.isAgg=false->v.cells=#[v]):=by
 constructor
 ·intro ha
  cases s<;>simp[SV.isAgg] at ha
  simp only[den] at h;grind
 ·intro ha
  have h1:s.one=true:=by cases s<;>simp_all[SV.isAgg,SV.whole,SV.one]
  exact (Zgl h h1).1
def Handed (B:Base) (l:List Sh) (E:Env) (H:List Entry) (vs:List Value) (gs:List Nat) (K:Shs l->List Entry->Prop):Prop :=
 ∃ E1 H1 as fp,Frz E H E1 H1/\Inv B E1 H1/\ZbN E1.S E1.w l as vs fp/\K as H1/\Loose B E1 H1 (fp++gs)/\Zhr E H H1 fp
theorem Handed.cons {B:Base} {s:Sh} {r:List Sh} {E E1:Env} {H H1:List Entry} {v:Value} {vs:List Value} {gs f:List Nat} {d:s.den} (hf:Frz E H E1 H1) (hs:ZqG E1.S E1.w s d v f) (hT:Zhr E H H1 f) {K:Shs (s::r)->List Entry->Prop}
  (h:Handed B r E1 H1 vs (f++gs) (λds H2=>K (d,ds) H2)):Handed B (s::r) E H (v::vs) gs K:=by
 obtain ⟨E2,H2,ds,fp,hf2,hI2,hds,hk,hL,hT2⟩:=h;refine ⟨E2,H2,(d,ds),f++fp,hf.trans hf2,hI2,⟨v,vs,f,fp,rfl,rfl,Zp7 hf2.le (λg _=>by rw[hf2.w]) s _ _ hs,hds⟩,hk,hL.perm ?_,(hT.later hf2).append (Zhr.after hf hT2)⟩;grind
theorem Znn {E:Env} {s:SV} {v:Value} (hd:den E s v) (hw:s.whole=true) {t:Ty} (hag:t.agg=s.isAgg):Zsf t v:=by
 have hag':=ZsK hd hw;exact ⟨λh=>hag'.1 (by rw[<-hag];exact h),λh=>hag'.2 (by rw[<-hag];exact h)⟩
theorem Zgy {B:Base}:∀ (l:List Sh) (ss:List SV) {E:Env} {H:List Entry} (_:Inv B E H) {vs:List Value} (_:ZW E ss vs) {gs:List Nat} (_:Loose B E H gs) {K:Shs l->List Entry->Prop} (_:Zkj l ss H K),Handed B l E H vs gs K
 | [],ss,E,H,hI,vs,hd,gs,hL,K,hk=>by
  simp only[Zkj] at hk;split at hk
  ·match vs,hd with
   | [],_=>exact ⟨E,H,(),[],Frz.refl E H,hI,⟨rfl,rfl⟩,hk,hL,Zhr.nil _ _ _⟩
   | _::_,hd=>simp[ZW] at hd
  ·exact hk.elim
 | .dat t::r,ss,E,H,hI,vs,hd,gs,hL,K,hk=>by
  simp only[Zkj] at hk;split at hk
  ·rename_i s ss
   match vs,hd with
   | [],hd=>simp[ZW] at hd
   | v::vs,hd =>
    simp only[ZW] at hd;split at hk
    ·rename_i hc
     obtain ⟨hw,hag⟩:=hc;obtain ⟨E1,H1,cs,hf1,hI1,hd1,hk⟩:=Zrp hI hd.1 hw hk;obtain ⟨d,rest,v1,v2,e12,hr,hrest,hk⟩:=YQ t cs _ _ hd1 hk;split at hk
     ·have hv2:v2=[]:=by cases v2 with
       | nil=>rfl
       | cons=>simp[ZW] at hrest
      subst hv2;rw[List.append_nil] at e12;obtain ⟨h1,h2⟩:=Znn hd.1 hw hag;exact Handed.cons (s:=.dat t) (d:=d) (f:=[]) hf1 ⟨rfl,h1,h2,by rw[e12];exact hr⟩ (Zhr.nil _ _ _) (Zgy r ss hI1 (ZA hf1.le _ _ hd.2) (hL.frz hf1) hk)
     ·exact hk.elim
    ·exact hk.elim
  ·exact hk.elim
 | .own e::r,ss,E,H,hI,vs,hd,gs,hL,K,hk=>by
  simp only[Zkj] at hk;split at hk
  ·rename_i s ss
   match vs,hd with
   | [],hd=>simp[ZW] at hd
   | v::vs,hd =>
    simp only[ZW] at hd;split at hk
    ·rename_i hc
     obtain ⟨hw,hag⟩:=hc;obtain ⟨E1,H1,d,f,hf1,hI1,hr,hk,hL1,hT,_⟩:=XQ hI (QX hd.1 hw) hL hk;exact Handed.cons hf1 (s:=.own e) ⟨Znn hd.1 hw hag,hr⟩ hT (Zgy r ss hI1 (ZA hf1.le _ _ hd.2) hL1 hk)
    ·exact hk.elim
  ·exact hk.elim
 | .back e::r,ss,E,H,hI,vs,hd,gs,hL,K,hk=>by
  simp only[Zkj] at hk;split at hk
  ·rename_i s ss
   match vs,hd with
   | [],hd=>simp[ZW] at hd
   | v::vs,hd =>
    simp only[ZW] at hd;split at hk
    ·rename_i hc
     obtain ⟨hw,hag⟩:=hc;obtain ⟨E1,H1,d,f,hf1,hI1,hr,hk,hL1,hT,_⟩:=XQ hI (QX hd.1 hw) hL hk;exact Handed.cons hf1 (s:=.back e) ⟨Znn hd.1 hw hag,hr⟩ hT (Zgy r ss hI1 (ZA hf1.le _ _ hd.2) hL1 hk)
    ·exact hk.elim
  ·exact hk.elim
 | .io e::r,ss,E,H,hI,vs,hd,gs,hL,K,hk=>by
  simp only[Zkj] at hk;split at hk
  ·rename_i id ss
   match vs,hd with
   | [],hd=>simp[ZW] at hd
   | v::vs,hd =>
    simp only[ZW] at hd;obtain ⟨en,he,hk⟩:=Yu H hk;split at hk
    ·rename_i cells
     rw[YO] at hk;have hv:=hd.1;simp only[den] at hv;obtain ⟨b,hb0,hv⟩:=hv;obtain ⟨b',cs0,T,e1,e2,e3⟩:=hI.ent id _ he;have:=hb0.symm.trans e1;simp at this;subst this;have t1:Frz E H E (H.set id .gone):=Frz.one he rfl hb0 rfl (Env.le.refl E) (λb hb=>.inl hb);have t3:=hL.take hI he rfl hb0 (f:=[b]) (by simp) (λg hg=>by
      simp at hg;subst hg;rfl)
     have t4:Zhr E H (H.set id .gone) [b]:=λg hg=>by
      simp at hg;subst hg;exact ⟨id,_,_,he,rfl,hb0,rfl,Zrt he⟩
     obtain ⟨E1,H1,d,f,hf1,hI1,hr,hk,hL1,hT,_⟩:=XQ (hI.drop id) e3 t3 hk;refine Handed.cons (t1.trans hf1) (s:=.io e) (f:=b::f) ⟨b,cs0,T,f,hv,by rw[hf1.w];exact e2,hr,rfl⟩ ?_ (Zgy r ss hI1 (ZA hf1.le _ _ hd.2) (hL1.perm ?_) hk)
     ·exact ((t4.later hf1).append (Zhr.after t1 hT)).sub (λg hg=>by simpa using hg)
     grind
    ·exact hk.elim
  ·exact hk.elim
theorem Zld {E:Env} {t:Ty} {v:Value} (hf:Zsf t v) {cs:List SV} (hd:ZW E cs v.cells.toList) {K:SV->Prop} (hk:Zn4 t cs K):∃ s,den E s v/\K s:=by
 unfold Zn4 at hk;split at hk
 ·rename_i ha
  obtain ⟨cs',rfl⟩:=hf.1 ha;exact ⟨.agg _,by simp only[den];exact ⟨cs'.toList,by simp,hd⟩,hk⟩
 ·rename_i ha
  have hv:=hf.2 (by simpa using ha);split at hk
  ·rename_i c r
   rw[hv] at hd;simp only[ZW] at hd;grind
  ·exact hk.elim
theorem Zsv {E:Env} {t:Ty} {d:t.den} {v:Value} (h:Zuw E.S E.w t d v) {K:SV->Prop} (hk:Zn4 t (ZcL t d) K):∃ s,den E s v/\K s:=by
 obtain ⟨h1,h2,h3⟩:=h;have hd:=YI t d _ h3;unfold Zn4 at hk;split at hk
 ·rename_i ha
  obtain ⟨cs,rfl⟩:=h1 ha;exact ⟨.agg _,by simp only[den];exact ⟨cs.toList,by simp,hd⟩,hk⟩
 ·rename_i ha
  have hv:=h2 (by simpa using ha);split at hk
  ·rename_i c r heq
   rw[heq,hv] at hd;simp only[ZW] at hd;grind
  ·exact hk.elim
theorem Zf4 {B:Base} {E:Env}:∀ (e:Dp) (cs:List SV) (x:e.ty.den) {H:List Entry} (_:Inv B E H) {vs vr:List Value} (_:ZW E cs (vs++vr)) {f gs:List Nat} (_:ZeQ E.S E.w e x vs f) (_:Loose B E H (f++gs)) {K:List SV->List Entry->Prop} (_:Zcu e cs x H K),
  ∃ H' r,Inv B E H'/\Loose B E H' gs/\ZW E r vr/\K r H'
 | .flat t,cs,x,H,hI,vs,vr,hd,f,gs,⟨hf,hr⟩,hL,K,hk=>by
  simp only[Zcu,JW] at hk;have hl:=YV t x vs hr;have:=QZ _ _ hd t.size;grind
 | .ol et e,cs,d,H,hI,vs,vr,hd,f,gs,hr,hL,K,hk=>by
  have hr0:=hr;obtain ⟨v,xs,fps,ev,ho,hrs,ef⟩:=hr;subst ev;simp only[Zcu] at hk;split at hk
  ·rename_i r
   simp only[List.cons_append,List.nil_append,ZW,den] at hd;obtain ⟨rfl,hd⟩:=hd;refine ⟨H,r,hI,?_,hd,hk⟩;rcases ho.2 with ⟨_,hn⟩ | ⟨g,cap,cur,o,hv,_⟩
   ·have:d=[]:=List.eq_nil_of_length_eq_zero hn
    subst this;have:fps=[]:=hrs.2;subst this;rw[ef] at hL;simpa[Yl] using hL
   ·simp at hv
  ·rename_i id r
   simp only[List.cons_append,List.nil_append,ZW,den] at hd;obtain ⟨⟨hid,_⟩,hd⟩:=hd;have hlt:id<H.length:=by
    have:=(List.getElem?_eq_some_iff.1 hid).1;rw[<-hI.len];exact this
   obtain ⟨e1,h1,h2,h3,_⟩:=ZrX e hI hlt hid hr0 hL hk;grind
  ·exact hk.elim
 | .mp kt vt,cs,d,H,hI,vs,vr,hd,f,gs,⟨b,es,clk,e1,e2,hh,hr⟩,hL,K,hk=>by
  subst e1;simp only[Zcu] at hk;split at hk
  ·rename_i id r
   simp only[List.cons_append,List.nil_append,ZW,den] at hd;obtain ⟨⟨hid,_⟩,hd⟩:=hd;rw[YO] at hk;have hlt:id<H.length:=by
    have:=(List.getElem?_eq_some_iff.1 hid).1;rw[<-hI.len];exact this
   obtain ⟨h1,h2⟩:=hL.put hI hlt hid (.mpe kt vt d) (λ_ g hg=>by
    have hg:Yl (.map (some b))=some g:=hg;simp[Yl] at hg;rw[e2];simp[hg]) ⟨b,es,clk,hid,hh,hr⟩
   grind
  ·exact hk.elim
 | .pair a b,cs,d,H,hI,vs,vr,hd,f,gs,⟨v1,v2,f1,f2,ev,ef,h1,h2⟩,hL,K,hk=>by
  simp only[Zcu,Qm] at hk;subst ev;subst ef;rw[List.append_assoc] at hd hL;obtain ⟨H1,r,hI1,hL1,hd1,hk⟩:=Zf4 a cs d.1 hI hd h1 hL hk;exact Zf4 b r d.2 hI1 hd1 h2 hL1 hk
theorem Zlq {B:Base}:∀ (l:List Sh) (ss:List SV) (ios:Ios l) {E:Env} {H:List Entry} (_:Inv B E H) {vs:List Value} (_:ZW E ss vs) {fio gs:List Nat} (_:ZfH E.S E.w l ios vs fio) (_:Loose B E H (fio++gs)) {K:List Entry->Prop} (_:ZqO l ss ios H K),
  ∃ E' H',E'.w=E.w/\E'.S=E.S/\Inv B E' H'/\E.le E'/\Loose B E' H' gs/\K H'
 | [],ss,ios,E,H,hI,vs,hd,fio,gs,hio,hL,K,hk=>by
  have:fio=[]:=hio;subst this;exact ⟨E,H,rfl,rfl,hI,Env.le.refl E,hL,hk⟩
 | .io e::r,ss,ios,E,H,hI,vs,hd,fio,gs,⟨v,vr,f,fr,ev,ef,⟨b,cs,T,f',a1,a2,a3,a4⟩,hio⟩,hL,K,hk=>by
  simp only[ZqO] at hk;subst ev;subst ef;subst a4;subst a1;split at hk
  ·rename_i id ss
   simp only[ZW,den] at hd;obtain ⟨⟨b',hid,hb'⟩,hd⟩:=hd;simp at hb';subst hb';simp only[Qm] at hk;have hL1:Loose B E H (f'++(b::(fr++gs))):=hL.perm (by
    grind)
   obtain ⟨E1,H1,cells,hw1,hS1,hI1,hle1,hd1,hk,hL2,_⟩:=Qv e ios.1 hI a3 hL1 hk;rw[YO] at hk;have hid1:=hle1.ids _ _ hid;have hlt:id<H1.length:=by
    have:=(List.getElem?_eq_some_iff.1 hid1).1;rw[<-hI1.len];exact this
   obtain ⟨hI2,hL3⟩:=Loose.put (f:=[b]) (gs:=fr++gs) hL2 hI1 hlt hid1 (.box cells) (λ_ g hg=>by
    have hg:some b=some g:=hg;simp at hg;simp[hg]) ⟨b,cs,T,hid1,by rw[hw1];exact a2,hd1⟩
   obtain ⟨E2,H2,hw2,hS2,hI3,hle2,hL4,hk⟩:=Zlq r ss ios.2 hI2 (ZA hle1 _ _ hd) (by grind) hL3 hk;exact ⟨E2,H2,hw2.trans hw1,hS2.trans hS1,hI3,hle1.trans hle2,hL4,hk⟩
  ·exact hk.elim
 | .back e::r,ss,ios,E,H,hI,vs,hd,fio,gs,⟨v,vr,f,fr,ev,ef,⟨a1,a2⟩,hio⟩,hL,K,hk=>by
  simp only[ZqO] at hk;subst ev;subst ef;split at hk
  ·rename_i s ss
   simp only[ZW] at hd;split at hk
   ·rename_i hw
    simp only[Qm] at hk;rw[List.append_assoc] at hL;obtain ⟨H1,r',hI1,hL1,_,hk⟩:=Zf4 e s.cells ios.1 hI (vs:=v.cells.toList) (vr:=[]) (by rw[List.append_nil];exact QX hd.1 hw) a2 hL hk;exact Zlq r ss ios.2 hI1 hd.2 hio hL1 hk
   ·exact hk.elim
  ·exact hk.elim
 | .dat _::r,ss,ios,E,H,hI,vs,hd,fio,gs,⟨v,vr,ev,hio⟩,hL,K,hk=>by
  simp only[ZqO] at hk;subst ev;split at hk
  ·simp only[ZW] at hd
   exact Zlq r _ ios hI hd.2 hio hL hk
  ·exact hk.elim
 | .own _::r,ss,ios,E,H,hI,vs,hd,fio,gs,⟨v,vr,ev,hio⟩,hL,K,hk=>by
  simp only[ZqO] at hk;subst ev;split at hk
  ·simp only[ZW] at hd
   exact Zlq r _ ios hI hd.2 hio hL hk
  ·exact hk.elim
theorem ZgI {B:Base}:∀ (l:List Sh) (rs:Shs l) (us:List Value) {E:Env} {H:List Entry} (_:Inv B E H) {fp gs:List Nat} (_:ZbN E.S E.w l rs us fp) (_:Loose B E H (fp++gs)) {K:List SV->List Entry->Prop} (_:ZjW l rs H K),
  ∃ E' H' ss,E'.w=E.w/\E'.S=E.S/\Inv B E' H'/\E.le E'/\ZW E' ss us/\K ss H'
 | [],rs,us,E,H,hI,fp,gs,hd,hL,K,hk=>by
  obtain ⟨rfl,rfl⟩:=hd;exact ⟨E,H,[],rfl,rfl,hI,Env.le.refl E,trivial,hk⟩
 | .dat t::r,rs,us,E,H,hI,fp,gs,⟨u,ur,f,fr,e,ef,⟨hf,h1⟩,h2⟩,hL,K,hk=>by
  subst e;subst hf;subst ef;simp only[ZjW,Qm,Y0] at hk;obtain ⟨s,hs,hk⟩:=Zsv h1 hk;obtain ⟨E',H',ss,hw,hS,hI',hle,hds,hk⟩:=ZgI r rs.2 ur hI h2 hL hk;exact ⟨E',H',s::ss,hw,hS,hI',hle,⟨ZdV hle s u hs,hds⟩,hk⟩
 | .own e::r,rs,us,E,H,hI,fp,gs,⟨u,ur,f,fr,ev,ef,⟨hform,h1⟩,h2⟩,hL,K,hk=>by
  subst ev;subst ef;simp only[ZjW,Qm] at hk;rw[List.append_assoc] at hL;obtain ⟨E1,H1,cs,hw1,hS1,hI1,hle1,hd1,hk,hL1,_⟩:=Qv e rs.1 hI h1 hL hk;obtain ⟨s,hs,hk⟩:=Zld hform hd1 hk;obtain ⟨E',H',ss,hw,hS,hI',hle,hds,hk⟩:=ZgI r rs.2 ur hI1 (by grind) hL1 hk;exact ⟨E',H',s::ss,hw.trans hw1,hS.trans hS1,hI',hle1.trans hle,⟨ZdV hle s u hs,hds⟩,hk⟩
 | .back e::r,rs,us,E,H,hI,fp,gs,⟨u,ur,f,fr,ev,ef,⟨hform,h1⟩,h2⟩,hL,K,hk=>by
  subst ev;subst ef;simp only[ZjW,Qm] at hk;rw[List.append_assoc] at hL;obtain ⟨E1,H1,cs,hw1,hS1,hI1,hle1,hd1,hk,hL1,_⟩:=Qv e rs.1 hI h1 hL hk;obtain ⟨s,hs,hk⟩:=Zld hform hd1 hk;obtain ⟨E',H',ss,hw,hS,hI',hle,hds,hk⟩:=ZgI r rs.2 ur hI1 (by grind) hL1 hk;exact ⟨E',H',s::ss,hw.trans hw1,hS.trans hS1,hI',hle1.trans hle,⟨ZdV hle s u hs,hds⟩,hk⟩
 | .io e::r,rs,us,E,H,hI,fp,gs,⟨u,ur,f,fr,ev,ef,⟨b,cs,T,f',a1,a2,a3,a4⟩,h2⟩,hL,K,hk=>by
  subst ev;subst ef;subst a4;subst a1;simp only[ZjW,Qm] at hk;have hL1:Loose B E H (f'++(b::(fr++gs))):=hL.perm (by
   grind)
  obtain ⟨E1,H1,cells,hw1,hS1,hI1,hle1,hd1,hk,hL2,_⟩:=Qv e rs.1 hI a3 hL1 hk;simp only[ZmX,Zaj,Jc,Nat.zero_add] at hk;have hid:(E1.ids++[Value.pointer (some ⟨b,0,none⟩)])[H1.length]?=some (.pointer (some ⟨b,0,none⟩)):=by rw[<-hI1.len];simp
  have hle2:=Zhv E1 (.pointer (some ⟨b,0,none⟩));obtain ⟨hI2,hL3⟩:=Loose.push (f:=[b]) (gs:=fr++gs) hL2 hI1 (.pointer (some ⟨b,0,none⟩)) (.box cells) (λ_ g hg=>by
   have hg:some b=some g:=hg;simp at hg;simp[hg]) ⟨b,cs,T,hid,by grind,ZA hle2 _ _ hd1⟩
  obtain ⟨E',H',ss,hw,hS,hI',hle,hds,hk⟩:=ZgI r rs.2 ur hI2 (by
   grind) hL3 hk
  refine ⟨E',H',.ptr H1.length 0::ss,hw.trans hw1,hS.trans hS1,hI',hle1.trans (hle2.trans hle),⟨ZdV hle _ _ ?_,hds⟩,hk⟩;simp only[den];grind
theorem ZsZ {E:Env} {ss:List SV} {us:List Value} (h:ZW E ss us) {v:Value} (hv:retv us v) {K:SV->Prop} (hk:ZrN ss K):∃ s,den E s v/\K s:=by
 unfold ZrN at hk;unfold retv at hv;split at hk
 ·rename_i s
  match us,h with
  | [u],h=>simp only[ZW] at h;grind
  | [],h=>simp[ZW] at h
  | _::_::_,h=>simp[ZW] at h
 ·rename_i hne
  have hl:=Yp _ _ h;split at hv
  ·rename_i u
   match ss,hl with
   | [s],_=>grind
  ·subst hv
   exact ⟨.tup ss,by simp only[den];grind,hk⟩
theorem Loose.behind {B:Base} {E:Env} {H:List Entry} {fp:List Nat} (hL:Loose B E H fp) (hI:Inv B E H) {w':World} {S0:Nat->Prop} (hk:Keeps ⟨E.w,S0,λb=>b∈fp,[]⟩ w') {S2:Nat->Prop} (hS:∀ b,E.S b->S2 b)
  (hS2:∀ b,S2 b->b<w'.heap.size/\(b<E.w.heap.size->E.S b\/b∈fp)) {l:List Nat} (hl:l.Nodup) (hfree:∀ g∈l,¬S2 g/\g<w'.heap.size/\(E.w.heap.size<=g\/g∈fp)) :
  E.le ⟨S2,w',E.ids⟩/\Inv B ⟨S2,w',E.ids⟩ H/\Loose B ⟨S2,w',E.ids⟩ H l:=by
 have hle:E.le ⟨S2,w',E.ids⟩:=⟨hS,λb hb=>hk.block b (hI.Slt b hb) (λhp=>(hL.free b hp).1 hb),λ_ _ hh=>hh⟩;refine ⟨hle,?_,hl,λg hg=>?_,λg hg j e v hj hlv hv hb=>?_⟩
 ·exact
   {keeps:=⟨hk.os.trans hI.keeps.os,hk.tape.trans hI.keeps.tape,hk.output.trans hI.keeps.output,Nat.le_trans hI.keeps.size hk.size,λb hb hio =>
     (hk.block b (Nat.lt_of_lt_of_le hb hI.keeps.size) (λhp=>by
      rcases (hL.free b hp).2.1 with h1 | h1
      all_goals grind)).trans (hI.keeps.block b hb hio)⟩
    Slt:=λb hb=>(hS2 b hb).1
    Sold:=λb hb hlt=>by
     rcases (hS2 b hb).2 (Nat.lt_of_lt_of_le hlt hI.keeps.size) with h | h
     ·exact hI.Sold b h hlt
     ·rcases (hL.free b h).2.1 with h1 | h1
      all_goals grind
    glob:=hI.glob.le hle
    len:=hI.len
    pin:=hI.pin
    ent:=λj e hj=>Zbg hle j e (λhlv v g hv hb=>hk.block g (hI.free j e v g hj hlv hv hb).2.2 (λhp=>hL.apart g hp j e v hj hlv hv hb)) (hI.ent j e hj)
    free:=λj e v g hj hlv hv hb=>by
     obtain ⟨a,b,c⟩:=hI.free j e v g hj hlv hv hb;refine ⟨λhs=>?_,b,Nat.lt_of_lt_of_le c hk.size⟩;rcases (hS2 g hs).2 c with h | h
     ·exact a h
     ·exact hL.apart g h j e v hj hlv hv hb
    sep:=hI.sep}
 ·obtain ⟨a,b,c⟩:=hfree g hg
  refine ⟨a,?_,b⟩;rcases c with c | c
  ·exact .inl (Nat.le_trans hI.keeps.size c)
  ·exact (hL.free g c).2.1
 ·obtain ⟨_,_,c⟩:=hfree g hg
  rcases c with c | c
  ·have:=(hI.free j e v g hj hlv hv hb).2.2;omega
  ·exact hL.apart g c j e v hj hlv hv hb
def Zbf:List Sh->Bool
 | []=>true
 | .dat _::r=>Zbf r
 | _::_=>false
theorem ZjX {S:Nat->Prop} {w:World}:∀ (l:List Sh) (d:Shs l) (vs:List Value) (fp:List Nat),Zbf l=true->ZbN S w l d vs fp->fp=[]
 | [],_,_,_,_,h=>h.2
 | .dat _::r,_,_,_,hd,⟨v,vr,f,fr,e,ef,⟨h1,_⟩,h2⟩=>by rw[ef,h1,ZjX r _ _ _ hd h2];rfl
 | .own _::_,_,_,_,h,_=>by simp[Zbf] at h
 | .io _::_,_,_,_,h,_=>by simp[Zbf] at h
 | .back _::_,_,_,_,h,_=>by simp[Zbf] at h
def ZfF:List Sh->Bool
 | []=>true
 | .dat _::r=>ZfF r
 | .io (.flat _)::r=>ZfF r
 | _::_=>false
def ZiO:List Sh->List Bool
 | []=>[]
 | .io _::r=>true::ZiO r
 | _::r=>false::ZiO r
def pick {α:Type}:List Bool->List α->List α
 | true::m,x::r=>x::pick m r
 | false::m,_::r=>pick m r
 | _,_=>[]
theorem ZnF {α β:Type} (f:α->β):∀ (m:List Bool) (l:List α),pick m (l.map f)=(pick m l).map f
 | [],l=>by cases l<;>rfl
 | true::m,[]=>rfl
 | false::m,[]=>rfl
 | true::m,x::r=>by simp only[List.map_cons,pick,ZnF f m r]
 | false::m,x::r=>by simp only[List.map_cons,pick,ZnF f m r]
theorem Zin {S:Nat->Prop} {w:World}:∀ (l:List Sh) (d:Shs l) (vs:List Value) (fp:List Nat),ZfF l=true->ZbN S w l d vs fp->∀ g∈fp,∃ v∈pick (ZiO l) vs,Yl v=some g
 | [],_,_,_,_,h,g,hg=>by rw[h.2] at hg;cases hg
 | .dat _::r,_,_,_,hd,⟨v,vr,f,fr,e,ef,⟨h1,_⟩,h2⟩,g,hg=>by
  rw[ef,h1,List.nil_append] at hg;rw[e];exact Zin r _ _ _ hd h2 g hg
 | .io (.flat t)::r,_,_,_,hd,⟨v,vr,f,fr,e,ef,⟨b,cs,T,f',hv,_,hr,hf⟩,h2⟩,g,hg=>by
  have hf':f'=[]:=hr.1;rw[ef,hf,hf'] at hg;rw[e];rcases List.mem_append.1 hg with hg | hg
  ·rw[List.mem_singleton] at hg
   exact ⟨v,by simp[ZiO,pick],by rw[hv,hg];rfl⟩
  ·obtain ⟨u,hu,hb⟩:=Zin r _ _ _ hd h2 g hg
   exact ⟨u,by simp only[ZiO,pick];grind,hb⟩
 | .io (.ol _ _)::_,_,_,_,h,_,_,_=>by simp[ZfF] at h
 | .io (.pair _ _)::_,_,_,_,h,_,_,_=>by simp[ZfF] at h
 | .io (.mp _ _)::_,_,_,_,h,_,_,_=>by simp[ZfF] at h
 | .own _::_,_,_,_,h,_,_,_=>by simp[ZfF] at h
 | .back _::_,_,_,_,h,_,_,_=>by simp[ZfF] at h
theorem Zso {P:Program} {B:Base} {E:Env} {H:List Entry} (hI:Inv B E H) {f:FuncId} {C:Ctr} (hC:Za P f C) {ss:List SV} {vs:List Value} (hd:ZW E ss vs)
  {K:SV->List Entry->Prop} (hk:ZtO C ss H K) :
  Calls P f vs.toArray E.w λe w'=>∃ v E' H' s,e=.returned v/\E'.w=w'/\Inv B E' H'/\E.le E'/\den E' s v/\K s H'/\(Zbf C.args=true->Grow E.w w')/\(ZfF C.args=true->∀ b,b<E.w.heap.size->(∀ v∈pick (ZiO C.args) vs,Yl v≠some b)->w'.heap[b]?=E.w.heap[b]?):=by
 unfold ZtO at hk;obtain ⟨E1,H1,as,fp,hf1,hI1,has,hk,hL1,hT⟩:=Zgy C.args ss hI hd (Loose.none B E H) hk;rw[List.append_nil] at hL1;have hcall:=hC.2 E1.w E1.S vs as fp _ hI1.Slt hI1.glob has hL1.nodup (λg hg=>⟨(hL1.free g hg).1,(hL1.free g hg).2.2⟩) hk;rw[hf1.w] at hcall;refine hcall.mono ?_;rintro e w' ⟨v,us,rs,ios,S',fr,fio,he,hv,hk,hkeeps,hS1,hS2,hrets,hios,hnd,hfree⟩;have hgrow:Zbf C.args=true->Grow E.w w':=by
  intro hda b hb;refine hkeeps.block b hb ?_;rw[ZjX _ _ _ _ hda has];simp
 have hstay:ZfF C.args=true->∀ b,b<E.w.heap.size->(∀ v∈pick (ZiO C.args) vs,Yl v≠some b)->w'.heap[b]?=E.w.heap[b]?:=by
  intro hfl b hb hne;refine hkeeps.block b hb (λhm=>?_);obtain ⟨u,hu,hbu⟩:=Zin _ _ _ _ hfl has b hm;exact hne u hu hbu
 have fin:∀ (E0:Env) (H0:List Entry) (S2:Nat->Prop),E0.w=E.w->Inv B E0 H0->E.le E0->Loose B E0 H0 fp->(∀ b,E0.S b->S2 b)->(∀ b,S2 b->S' b)->(∀ b,S2 b->b<w'.heap.size/\(b<E.w.heap.size->E0.S b\/b∈fp))->
   ZbN S2 w' C.rets rs us fr->ZfH S2 w' C.args ios vs fio->
   (ZqO C.args ss ios H0 λH2=>ZjW C.rets rs H2 λss' H3=>ZrN ss' λs=>K s H3)->
   ∃ v E' H' s,e=.returned v/\E'.w=w'/\Inv B E' H'/\E.le E'/\den E' s v/\K s H'/\(Zbf C.args=true->Grow E.w w')/\(ZfF C.args=true->∀ b,b<E.w.heap.size->(∀ v∈pick (ZiO C.args) vs,Yl v≠some b)->w'.heap[b]?=E.w.heap[b]?):=by
  intro E0 H0 S2 hw0 hI0 hle0 hL0 hSa hSb hSc hr2 hi2 hk;obtain ⟨hleb,hI2,hL2⟩:=hL0.behind hI0 (w':=w') (S0:=E1.S) (by grind) (S2:=S2) hSa (by rw[hw0];exact hSc) hnd (λg hg=>by
   grind)
  obtain ⟨E2,H2,hw2,hS2',hI3,hle2,hL3,hk⟩:=Zlq C.args ss ios hI2 (ZA (hle0.trans hleb) _ _ hd) hi2 hL2 hk;obtain ⟨E3,H3,ss',hw3,hS3,hI4,hle3,hds,hk⟩:=ZgI C.rets rs us hI3 (gs:=[]) (by rw[hS2',hw2];exact hr2) (by grind) hk;obtain ⟨s,hs,hk⟩:=ZsZ hds hv hk;exact ⟨v,E3,H3,s,he,hw3.trans hw2,hI4,((hle0.trans hleb).trans hle2).trans hle3,hs,hk,hgrow,hstay⟩
 split at hk
 ·rename_i hflat
  simp only[Bool.and_eq_true] at hflat;obtain ⟨hIr,hLr⟩:=Zpb hI hf1 hL1 hT;rw[Zn7] at hk;exact fin E (ZkB H H1) E.S rfl hIr (Env.le.refl E) hLr (λb h=>h) (λb h=>hS1 b (hf1.le.S b h)) (λb hb=>⟨Nat.lt_of_lt_of_le (hI.Slt b hb) hkeeps.size,λ_=>.inl hb⟩)
   (Zjf _ hflat.1 _ _ _ hrets) (Zbq _ hflat.2 _ _ _ hios) hk
 ·exact fin E1 H1 S' hf1.w hI1 hf1.le hL1 hS1 (λb h=>h) (λb hb=>by
   grind) hrets hios hk
mutual
def ranged (n:Nat):SV->Prop
 | .ptr id _=>id<n
 | .own id=>id<n
 | .mown id=>id<n
 | .oep id _ _ _=>id<n
 | .fptr cs=>ZaO n cs
 | .agg cs=>ZaO n cs
 | .tup cs=>ZaO n cs
 | .fn _ cs=>ZaO n cs
 | _=>True
def ZaO (n:Nat):List SV->Prop
 | []=>True
 | c::cs=>ranged n c/\ZaO n cs
end
mutual
theorem Zqm {E:Env}:∀ (s:SV) (v:Value),den E s v->ranged E.ids.length s
 | .bot,_,_=>by simp only[ranged]
 | .int _ _,_,_=>by simp only[ranged]
 | .bool _,_,_=>by simp only[ranged]
 | .blit _,_,_=>by simp only[ranged]
 | .str _,_,_=>by simp only[ranged]
 | .sl _ _,_,_=>by simp only[ranged]
 | .nsl,_,_=>by simp only[ranged]
 | .nilp,_,_=>by simp only[ranged]
 | .gptr _,_,_=>by simp only[ranged]
 | .nptr _ _,_,_=>by simp only[ranged]
 | .mp _ _ _,_,_=>by simp only[ranged]
 | .mown id,_,h=>by simp only[den] at h;simp only[ranged];grind
 | .ptr id _,_,h=>by simp only[den] at h;obtain ⟨b,e,_⟩:=h;simp only[ranged];grind
 | .own id,_,h=>by simp only[den] at h;simp only[ranged];grind
 | .oep id _ _ _,_,h=>by simp only[den] at h;obtain ⟨b,bo,n,c,e,_⟩:=h;simp only[ranged];grind
 | .fptr cs,_,h=>by simp only[den] at h;obtain ⟨p,vs,_,_,_,_,h⟩:=h;simp only[ranged];exact Ve cs vs h
 | .agg cs,_,h=>by simp only[den] at h;obtain ⟨vs,_,h⟩:=h;simp only[ranged];exact Ve cs vs h
 | .tup cs,_,h=>by simp only[den] at h;obtain ⟨vs,_,h⟩:=h;simp only[ranged];exact Ve cs vs h
 | .fn _ cs,_,h=>by simp only[den] at h;obtain ⟨vs,_,h⟩:=h;simp only[ranged];exact Ve cs vs h
theorem Ve {E:Env}:∀ (cs:List SV) (vs:List Value),ZW E cs vs->ZaO E.ids.length cs
 | [],_,_=>by simp only[ZaO]
 | c::cs,v::vs,h=>by simp only[ZW] at h;simp only[ZaO];exact ⟨Zqm c v h.1,Ve cs vs h.2⟩
 | _::_,[],h=>by simp[ZW] at h
end
mutual
theorem Zre {E:Env} {n:Nat}:∀ (s:SV) (v:Value),ranged n s->den E s v->den ⟨E.S,E.w,E.ids.take n⟩ s v
 | .bot,_,_,h=>h
 | .int _ _,_,_,h=>h
 | .bool _,_,_,h=>h
 | .blit _,_,_,h=>h
 | .str _,_,_,h=>h
 | .sl _ _,_,_,h=>h
 | .nsl,_,_,h=>h
 | .nilp,_,_,h=>h
 | .gptr _,_,_,h=>h
 | .nptr _ _,_,_,h=>h
 | .mp _ _ _,_,_,h=>h
 | .mown id,_,hs,h=>by
  simp only[den] at h ⊢;simp only[ranged] at hs;grind
 | .ptr id _,_,hs,h=>by
  simp only[den] at h ⊢;simp only[ranged] at hs;grind
 | .own id,_,hs,h=>by
  simp only[den] at h ⊢;simp only[ranged] at hs;grind
 | .oep id _ _ _,_,hs,h=>by
  simp only[den] at h ⊢;simp only[ranged] at hs;grind
 | .fptr cs,_,hs,h=>by
  simp only[den] at h ⊢;simp only[ranged] at hs;obtain ⟨p,vs,a,b,c,d,h⟩:=h;exact ⟨p,vs,a,b,c,d,V7 cs vs hs h⟩
 | .agg cs,_,hs,h=>by simp only[den] at h ⊢;simp only[ranged] at hs;obtain ⟨vs,a,h⟩:=h;exact ⟨vs,a,V7 cs vs hs h⟩
 | .tup cs,_,hs,h=>by simp only[den] at h ⊢;simp only[ranged] at hs;obtain ⟨vs,a,h⟩:=h;exact ⟨vs,a,V7 cs vs hs h⟩
 | .fn _ cs,_,hs,h=>by simp only[den] at h ⊢;simp only[ranged] at hs;obtain ⟨vs,a,h⟩:=h;exact ⟨vs,a,V7 cs vs hs h⟩
theorem V7 {E:Env} {n:Nat}:∀ (cs:List SV) (vs:List Value),ZaO n cs->ZW E cs vs->ZW ⟨E.S,E.w,E.ids.take n⟩ cs vs
 | [],[],_,_=>trivial
 | c::cs,v::vs,hs,h=>by simp only[ZW] at h ⊢;simp only[ZaO] at hs;exact ⟨Zre c v hs.1 h.1,V7 cs vs hs.2 h.2⟩
 | _::_,[],_,h=>by simp[ZW] at h
 | [],_::_,_,h=>by simp[ZW] at h
end
def ZoO (n:Nat):Entry->Prop
 | .box cells=>ZaO n cells
 | .fbx cells=>ZaO n cells
 | .hole _ _ _ _ cells _=>ZaO n cells
 | .hsp _ _ _ _ cells _=>ZaO n cells
 | _=>True
theorem ZoN {E:Env} {i:Nat} {e:Entry} (h:Zpt E i e):ZoO E.ids.length e:=by
 cases e with
 | box cells=>obtain ⟨b,cs,T,_,_,h⟩:=h;exact Ve _ _ h
 | fbx cells=>obtain ⟨b,cs,T,_,_,_,h⟩:=h;exact Ve _ _ h
 | hole et e d i cells fp=>obtain ⟨_,_,_,_,_,_,_,_,_,_,_,_,_,_,_,_,h,_⟩:=h;exact Ve _ _ h
 | hsp et e d i cells fp=>obtain ⟨_,_,_,_,_,_,_,_,_,_,_,_,_,_,_,h,_⟩:=h;exact Ve _ _ h
 | _=>trivial
theorem Inv.trunc {B:Base} {E:Env} {H:List Entry} (h:Inv B E H) (n:Nat) (hn:B.pin.length<=n) (hs:∀ e∈H.take n,ZoO n e):Inv B ⟨E.S,E.w,E.ids.take n⟩ (H.take n):=by
 have hH:∀ (i:Nat) (e:Entry),(H.take n)[i]?=some e->i<n/\H[i]?=some e:=by
  grind
 have hid:∀ (i:Nat) (v:Value),i<n->E.ids[i]?=some v->(E.ids.take n)[i]?=some v:=by
  grind
 have hid':∀ (i:Nat) (v:Value),(E.ids.take n)[i]?=some v->E.ids[i]?=some v:=by
  grind
 exact
  {keeps:=h.keeps,Slt:=h.Slt,Sold:=h.Sold,glob:=h.glob,len:=by simp[h.len]
   pin:=λi v hv=>hid i v (Nat.lt_of_lt_of_le (List.getElem?_eq_some_iff.1 hv).1 hn) (h.pin i v hv)
   ent:=λi e hi=>by
    have hmem:=List.mem_of_getElem? hi;obtain ⟨hlt,hi'⟩:=hH i e hi;have he:=h.ent i e hi';cases e with
    | gone=>trivial
    | box cells =>
     obtain ⟨b,cs,T,a1,a2,a3⟩:=he;exact ⟨b,cs,T,hid _ _ hlt a1,a2,V7 _ _ (hs _ hmem) a3⟩
    | arr et t d=>obtain ⟨v,xs,a1,a2,a3⟩:=he;exact ⟨v,xs,hid _ _ hlt a1,a2,a3⟩
    | frz t d=>obtain ⟨v,a1,a2⟩:=he;exact ⟨v,hid _ _ hlt a1,a2⟩
    | mpe k v d=>obtain ⟨b,es,clk,a1,a2⟩:=he;exact ⟨b,es,clk,hid _ _ hlt a1,a2⟩
    | frm k v d=>obtain ⟨u,a1,a2⟩:=he;exact ⟨u,hid _ _ hlt a1,a2⟩
    | fbx cells =>
     obtain ⟨b,cs,T,a1,aS,a2,a3⟩:=he;exact ⟨b,cs,T,hid _ _ hlt a1,aS,a2,V7 _ _ (hs _ hmem) a3⟩
    | darr et e d fp=>obtain ⟨v,xs,fps,a1,a2⟩:=he;exact ⟨v,xs,fps,hid _ _ hlt a1,a2⟩
    | hole et e d i cells fp =>
     obtain ⟨v,xs,x1,vx,x2,f1,f2,a1,a2,a3,a4,a5,a6,a7,a8,a9,a10,a11⟩:=he;exact ⟨v,xs,x1,vx,x2,f1,f2,hid _ _ hlt a1,a2,a3,a4,a5,a6,a7,a8,a9,V7 _ _ (hs _ hmem) a10,a11⟩
    | spl et e d n fp=>obtain ⟨v,a1,a2⟩:=he;exact ⟨v,hid _ _ hlt a1,a2⟩
    | hsp et e d i cells fp =>
     obtain ⟨v,xs,x1,vx,x2,f1,a1,a2,a3,a4,a5,a6,a7,a8,a9,a10,a11⟩:=he;exact ⟨v,xs,x1,vx,x2,f1,hid _ _ hlt a1,a2,a3,a4,a5,a6,a7,a8,a9,V7 _ _ (hs _ hmem) a10,a11⟩
   free:=λi e v g hi hl hv hb=>h.free i e v g (hH i e hi).2 hl (hid' _ _ hv) hb
   sep:=λi j ei ej vi vj g hi hj hli hlj hvi hvj=>h.sep i j ei ej vi vj g (hH i ei hi).2 (hH j ej hj).2 hli hlj (hid' _ _ hvi) (hid' _ _ hvj)}
inductive Loc
 | reg (r:Nat) (s:Sh)
 | cell (id off:Nat) (t:Ty)
 | cello (id off:Nat) (e:Dp)
 | ent (id:Nat) (et:TypeId) (e:Dp)
 | entm (id:Nat) (k v:Ty)
 | splt (id:Nat) (et:TypeId) (e:Dp)
def Loc.ZuJ (n:Nat):Loc->Prop
 | .ent id _ _=>id<n
 | .entm id _ _=>id<n
 | .splt id _ _=>id<n
 | _=>True
@[reducible] def Loc.den:Loc->Type
 | .reg _ s=>s.den
 | .cell _ _ t=>t.den
 | .cello _ _ e=>e.ty.den
 | .ent _ _ e=>List e.ty.den
 | .entm _ k v=>List (k.den×v.den)
 | .splt _ _ e=>List e.ty.den×Int
@[reducible] def ZoH:List Loc->Type
 | []=>Unit
 | l::r=>l.den×ZoH r
def ZeO:(ls:List Loc)->List SV->List Entry->(ZoH ls->List Entry->Prop)->Prop
 | [],_,H,K=>K () H
 | .reg r (.dat t)::q,regs,H,K=>Zkk regs r λs=>Qa [s] H λcs H1=>Y4 t cs λd rest=>match rest with
   | []=>ZeO q regs H1 λds H2=>K (d,ds) H2
   | _=>False
 | .reg r (.own e)::q,regs,H,K=>Zkk regs r λs=>if s.whole=true/\e.ty.agg=s.isAgg then closeAll e s.cells H λd H1=>ZeO q regs H1 λds H2=>K (d,ds) H2 else False
 | .reg _ (.io _)::_,_,_,_=>False
 | .reg _ (.back _)::_,_,_,_=>False
 | .cell id off t::q,regs,H,K=>ZdW H id λe=>match e with
   | .box cells=>Zkk cells off λs=>Qa [s] H λcs H1=>Y4 t cs λd rest=>match rest with
    | []=>ZeO q regs H1 λds H2=>K (d,ds) H2
    | _=>False
   | _=>False
 | .cello id off e::q,regs,H,K=>ZdW H id λen=>match en with
   | .box cells=>Zkk cells off λs=>closeAll e [s] H λd H1=>ZeO q regs H1 λds H2=>K (d,ds) H2
   | _=>False
 | .ent id et e::q,regs,H,K=>closeAll (.ol et e) [.own id] H λd H1=>ZeO q regs H1 λds H2=>K (d,ds) H2
 | .entm id k v::q,regs,H,K=>closeAll (.mp k v) [.mown id] H λd H1=>ZeO q regs H1 λds H2=>K (d,ds) H2
 | .splt id et e::q,regs,H,K=>Zq5 et e id H λd n H1=>ZeO q regs H1 λds H2=>K ((d,n),ds) H2
def Zwc (t:Ty) (d:t.den) (K:SV->Prop):Prop:=XA t d λcs=>match cs with
 | [c]=>K c
 | _=>False
def ZnX:(ls:List Loc)->ZoH ls->List SV->List Entry->(List SV->List Entry->Prop)->Prop
 | [],_,regs,H,K=>K regs H
 | .reg r (.dat t)::q,v,regs,H,K=>ZT v λx v'=>Zwc t x λc=>ZqF regs r c λregs'=>ZnX q v' regs' H K
 | .reg r (.own e)::q,v,regs,H,K=>ZT v λx v'=>XO e x H λcs H1=>Zn4 e.ty cs λs=>ZqF regs r s λregs'=>ZnX q v' regs' H1 K
 | .reg _ (.io _)::_,_,_,_,_=>False
 | .reg _ (.back _)::_,_,_,_,_=>False
 | .cell id off t::q,v,regs,H,K=>ZT v λx v'=>Zwc t x λc=>ZdW H id λe=>match e with
   | .box cells=>ZqF cells off c λcells'=>ZeR H id (.box cells') λH'=>ZnX q v' regs H' K
   | _=>False
 | .cello id off e::q,v,regs,H,K=>ZT v λx v'=>XO e x H λcs H1=>match cs with
   | [s]=>ZdW H1 id λen=>match en with
    | .box cells=>ZqF cells off s λcells'=>ZeR H1 id (.box cells') λH'=>ZnX q v' regs H' K
    | _=>False
   | _=>False
 | .ent id et e::q,v,regs,H,K=>ZT v λx v'=>Zua et e id x H λH'=>ZnX q v' regs H' K
 | .entm id k u::q,v,regs,H,K=>ZT v λx v'=>ZeR H id (.mpe k u x) λH'=>ZnX q v' regs H' K
 | .splt id et e::q,v,regs,H,K=>ZT v λx v'=>∀ fp:List Nat,ZeR H id (.spl et e x.1 x.2 fp) λH'=>ZnX q v' regs H' K
def Zky:List Loc->List Entry->(List Entry->Prop)->Prop
 | [],H,K=>K H
 | .cell id off _::q,H,K=>ZdW H id λe=>match e with
   | .box cells=>ZqF cells off .bot λcells'=>ZeR H id (.box cells') λH'=>Zky q H' K
   | _=>False
 | .cello id off _::q,H,K=>ZdW H id λe=>match e with
   | .box cells=>ZqF cells off .bot λcells'=>ZeR H id (.box cells') λH'=>Zky q H' K
   | _=>False
 | .reg _ _::q,H,K=>Zky q H K
 | .ent _ _ _::q,H,K=>Zky q H K
 | .entm _ _ _::q,H,K=>Zky q H K
 | .splt _ _ _::q,H,K=>Zky q H K
def Zqw:List Nat->List SV->(List SV->Prop)->Prop
 | [],regs,K=>K regs
 | r::q,regs,K=>ZqF regs r .bot λregs'=>Zqw q regs' K
def Zgj:List Loc->List Nat->(List Nat->Prop)->Prop
 | [],W,K=>K W
 | .reg r _::q,W,K=>Zgj q W λW'=>K (r::W')
 | .cell _ _ _::q,W,K=>Zgj q W K
 | .cello _ _ _::q,W,K=>Zgj q W K
 | .ent _ _ _::q,W,K=>Zgj q W K
 | .entm _ _ _::q,W,K=>Zgj q W K
 | .splt _ _ _::q,W,K=>Zgj q W K
theorem Znz {E:Env}:∀ (W:List Nat) (regs:List SV) (vs:List Value),ZW E regs vs->∀ {K:List SV->Prop},Zqw W regs K->∃ regs',ZW E regs' vs/\K regs'
 | [],regs,vs,hd,K,hk=>⟨regs,hd,hk⟩
 | r::W,regs,vs,hd,K,hk=>by
  simp only[Zqw,Zb1] at hk;have hd':ZW E (regs.set r .bot) vs:=by
   by_cases hr:r<vs.length
   ·have:=Zca _ _ hd r .bot vs[r] (by simp only[den])
    simpa using this
   ·have hl:=Yp _ _ hd
    rw[List.set_eq_of_length_le (by omega)];exact hd
  exact Znz W _ vs hd' hk
theorem Inv.weaken {B:Base} {E:Env} {H:List Entry} (h:Inv B E H) {id:Nat} {cells cells':List SV} (hi:H[id]?=some (.box cells)) (hc:∀ b cs T,E.ids[id]?=some (.pointer (some ⟨b,0,none⟩))->E.w.heap[b]?=some (.cells cs T (0,0))->ZW E cells cs.toList->ZW E cells' cs.toList) :
  Inv B E (H.set id (.box cells')):=by
 have hlt:id<H.length:=(List.getElem?_eq_some_iff.1 hi).1;have old:∀ (j:Nat) (e:Entry),(H.set id (.box cells'))[j]?=some e->∃ e0,H[j]?=some e0/\(e.live=true->e0.live=true)/\(j≠id->e=e0)/\(j=id->e=.box cells'/\e0=.box cells)/\(∀ v g,Zev e v g->Zev e0 v g):=by
  intro j e hj;by_cases hji:id=j
  ·subst hji
   rw[List.getElem?_set_self hlt] at hj;simp at hj;subst hj;exact ⟨_,hi,λ_=>rfl,λhne=>absurd rfl hne,λ_=>⟨rfl,rfl⟩,λv g h=>h⟩
  grind
 exact
  {keeps:=h.keeps,Slt:=h.Slt,Sold:=h.Sold,glob:=h.glob,len:=by simp[h.len],pin:=h.pin
   ent:=λj e hj=>by
    obtain ⟨e0,hj0,_,hne,heq,_⟩:=old j e hj;by_cases hji:j=id
    ·obtain ⟨rfl,rfl⟩:=heq hji
     obtain ⟨b,cs,T,a1,a2,a3⟩:=h.ent j _ hj0;subst hji;exact ⟨b,cs,T,a1,a2,hc b cs T a1 a2 a3⟩
    ·rw[hne hji];exact h.ent j e0 hj0
   free:=λj e v g hj hl hv hb=>by
    obtain ⟨e0,hj0,hl0,_,_,hb0⟩:=old j e hj;exact h.free j e0 v g hj0 (hl0 hl) hv (hb0 v g hb)
   sep:=λi j ei ej vi vj g hi' hj' hli hlj hvi hvj hbi hbj=>by
    obtain ⟨e0,hi0,hl0,_,_,hb0⟩:=old i ei hi';obtain ⟨e1,hj1,hl1,_,_,hb1⟩:=old j ej hj';exact h.sep i j e0 e1 vi vj g hi0 hj1 (hl0 hli) (hl1 hlj) hvi hvj (hb0 vi g hbi) (hb1 vj g hbj)}
theorem Zka {E:Env} {cells:List SV} {vs:List Value} (hd:ZW E cells vs) (off:Nat):ZW E (cells.set off .bot) vs:=by
 by_cases hr:off<vs.length
 ·have:=Zca _ _ hd off .bot vs[off] (by simp only[den])
  simpa using this
 ·have hl:=Yp _ _ hd
  rw[List.set_eq_of_length_le (by omega)];exact hd
def QE (B:Base) (E:Env) (H:List Entry) (vs:List Value):(ls:List Loc)->ZoH ls->List Nat->Prop
 | [],_,gs=>gs=[]
 | .reg r (.dat t)::q,v,gs=>(∃ u,vs[r]?=some u/\rep E.S E.w t v.1 [u])/\QE B E H vs q v.2 gs
 | .reg r (.own e)::q,v,gs=>∃ u f g1,vs[r]?=some u/\Zsf e.ty u/\ZeQ E.S E.w e v.1 u.cells.toList f/\gs=f++g1/\QE B E H vs q v.2 g1
 | .reg _ (.io _)::_,_,_=>False
 | .reg _ (.back _)::_,_,_=>False
 | .cell id off t::q,v,gs=>(∃ b cs T cells u,H[id]?=some (.box cells)/\E.ids[id]?=some (.pointer (some ⟨b,0,none⟩))/\E.w.heap[b]?=some (.cells cs T (0,0))/\cs.toList[off]?=some u/\rep E.S E.w t v.1 [u])/\
   QE B E H vs q v.2 gs
 | .cello id off e::q,v,gs=>∃ b cs T cells u f g1,H[id]?=some (.box cells)/\E.ids[id]?=some (.pointer (some ⟨b,0,none⟩))/\E.w.heap[b]?=some (.cells cs T (0,0))/\cs.toList[off]?=some u/\
   ZeQ E.S E.w e v.1 [u] f/\gs=f++g1/\QE B E H vs q v.2 g1
 | .ent id et e::q,v,gs=>∃ u f g1,id<H.length/\E.ids[id]?=some u/\(∀ c,H[id]?≠some (.box c))/\ZeQ E.S E.w (.ol et e) v.1 [u] f/\gs=f++g1/\QE B E H vs q v.2 g1
 | .entm id k t::q,v,gs=>∃ u f g1,id<H.length/\E.ids[id]?=some u/\(∀ c,H[id]?≠some (.box c))/\ZeQ E.S E.w (.mp k t) v.1 [u] f/\gs=f++g1/\QE B E H vs q v.2 g1
 | .splt id et e::q,v,gs=>∃ u f g1,id<H.length/\E.ids[id]?=some u/\(∀ c,H[id]?≠some (.box c))/\ZuW E.S E.w et e v.1.1 v.1.2 u f/\gs=f++g1/\QE B E H vs q v.2 g1
def Boxed (H H':List Entry):Prop:=H'.length=H.length/\(∀ (i:Nat) (c:List SV),H[i]?=some (.box c)->∃ c',H'[i]?=some (.box c'))/\∀ (i:Nat) (c:List SV),H'[i]?=some (.box c)->∃ c',H[i]?=some (.box c')
theorem Boxed.refl (H:List Entry):Boxed H H:=⟨rfl,λ_ c h=>⟨c,h⟩,λ_ c h=>⟨c,h⟩⟩
theorem Boxed.trans {A C D:List Entry} (h:Boxed A C) (k:Boxed C D):Boxed A D :=
 ⟨k.1.trans h.1,λi c hi=>by obtain ⟨c',h'⟩:=h.2.1 i c hi;exact k.2.1 i c' h',λi c hi=>by obtain ⟨c',h'⟩:=k.2.2 i c hi;exact h.2.2 i c' h'⟩
theorem Boxed.frz {E E':Env} {H H':List Entry} (h:Frz E H E' H') (hb:∀ (i:Nat) (c:List SV),H[i]?=some (.box c)->H'[i]?=some (.box c)):Boxed H H' :=
 ⟨h.len,λi c hi=>⟨c,hb i c hi⟩,λi c hi=>⟨c,h.box i c hi⟩⟩
theorem Boxed.Zje {H:List Entry} {id:Nat} {c0 c1:List SV} (h:H[id]?=some (.box c0)):Boxed H (H.set id (.box c1)):=by
 have hlt:=(List.getElem?_eq_some_iff.1 h).1;refine ⟨by simp,λi c hi=>?_,λi c hi=>?_⟩;all_goals grind
theorem Boxed.Zuf {H:List Entry} {id:Nat} {e1:Entry} (h:∀ c,H[id]?≠some (.box c)) (h1:∀ c,e1≠.box c):Boxed H (H.set id e1):=by
 refine ⟨by simp,λi c hi=>?_,λi c hi=>?_⟩;all_goals grind
theorem Q7 {B:Base} {E E':Env} {H H':List Entry} (hw:E'.w=E.w) (hS:∀ b,E.S b->E'.S b) (hids:∀ (i:Nat) (v:Value),i<H'.length->E.ids[i]?=some v->E'.ids[i]?=some v) {vs:List Value}
  (hbox:∀ (i:Nat) (c:List SV),H[i]?=some (.box c)->i<H'.length->∃ c',H'[i]?=some (.box c')) (hno:∀ (i:Nat) (c:List SV),H'[i]?=some (.box c)->∃ c',H[i]?=some (.box c')) :
  ∀ (ls:List Loc) (v:ZoH ls) (gs:List Nat),(∀ id off t,Loc.cell id off t∈ls->id<H'.length)->(∀ id off e,Loc.cello id off e∈ls->id<H'.length)->(∀ l∈ls,l.ZuJ H'.length)->QE B E H vs ls v gs->QE B E' H' vs ls v gs
 | [],_,_,_,_,_,h=>h
 | .reg _ (.dat t)::q,v,gs,p1,p2,p3,⟨⟨u,a,b⟩,h⟩=>⟨⟨u,a,Z6 hS (λ_ _=>by rw[hw]) t _ _ b⟩,Q7 hw hS hids hbox hno q v.2 gs (λi o t h=>p1 i o t (by simp[h])) (λi o t h=>p2 i o t (by simp[h])) (λl h=>p3 l (by simp[h])) h⟩
 | .reg _ (.own e)::q,v,gs,p1,p2,p3,⟨u,f,g1,a,b,c,d,h⟩=>⟨u,f,g1,a,b,Yg hS (λ_ _=>by rw[hw]) e _ _ _ (λg _=>by rw[hw]) c,d,Q7 hw hS hids hbox hno q v.2 g1 (λi o t h=>p1 i o t (by simp[h])) (λi o t h=>p2 i o t (by simp[h])) (λl h=>p3 l (by simp[h])) h⟩
 | .cell id off t::q,v,gs,p1,p2,p3,⟨⟨b,cs,T,cells,u,a1,a2,a3,a4,a5⟩,h⟩=>by
  have hlt:=p1 id off t (by simp);obtain ⟨c',hc'⟩:=hbox id _ a1 hlt;exact ⟨⟨b,cs,T,c',u,hc',hids _ _ hlt a2,by rw[hw];exact a3,a4,Z6 hS (λ_ _=>by rw[hw]) t _ _ a5⟩,Q7 hw hS hids hbox hno q v.2 gs (λi o t h=>p1 i o t (by simp[h])) (λi o t h=>p2 i o t (by simp[h])) (λl h=>p3 l (by simp[h])) h⟩
 | .cello id off e::q,v,gs,p1,p2,p3,⟨b,cs,T,cells,u,f,g1,a1,a2,a3,a4,a5,a6,h⟩=>by
  have hlt:=p2 id off e (by simp);obtain ⟨c',hc'⟩:=hbox id _ a1 hlt;exact ⟨b,cs,T,c',u,f,g1,hc',hids _ _ hlt a2,by rw[hw];exact a3,a4,Yg hS (λ_ _=>by rw[hw]) e _ _ _ (λg _=>by rw[hw]) a5,a6,Q7 hw hS hids hbox hno q v.2 g1 (λi o t h=>p1 i o t (by simp[h])) (λi o t h=>p2 i o t (by simp[h])) (λl h=>p3 l (by simp[h])) h⟩
 | .ent id et e::q,v,gs,p1,p2,p3,⟨u,f,g1,a1,a2,a3,a4,a5,h⟩=>by
  have hlt:id<H'.length:=p3 _ List.mem_cons_self;exact ⟨u,f,g1,hlt,hids _ _ hlt a2,λc hc=>by grind,Yg hS (λ_ _=>by rw[hw]) (.ol et e) _ _ _ (λg _=>by rw[hw]) a4,a5,Q7 hw hS hids hbox hno q v.2 g1 (λi o t h=>p1 i o t (by simp[h])) (λi o t h=>p2 i o t (by simp[h])) (λl h=>p3 l (by simp[h])) h⟩
 | .entm id k t::q,v,gs,p1,p2,p3,⟨u,f,g1,a1,a2,a3,a4,a5,h⟩=>by
  have hlt:id<H'.length:=p3 _ List.mem_cons_self;exact ⟨u,f,g1,hlt,hids _ _ hlt a2,λc hc=>by grind,Yg hS (λ_ _=>by rw[hw]) (.mp k t) _ _ _ (λg _=>by rw[hw]) a4,a5,Q7 hw hS hids hbox hno q v.2 g1 (λi o t h=>p1 i o t (by simp[h])) (λi o t h=>p2 i o t (by simp[h])) (λl h=>p3 l (by simp[h])) h⟩
 | .splt id et e::q,v,gs,p1,p2,p3,⟨u,f,g1,a1,a2,a3,a4,a5,h⟩=>by
  have hlt:id<H'.length:=p3 _ List.mem_cons_self;exact ⟨u,f,g1,hlt,hids _ _ hlt a2,λc hc=>by grind,ZlY hS (λ_ _=>by rw[hw]) (λg _=>by rw[hw]) a4,a5,Q7 hw hS hids hbox hno q v.2 g1 (λi o t h=>p1 i o t (by simp[h])) (λi o t h=>p2 i o t (by simp[h])) (λl h=>p3 l (by simp[h])) h⟩
def ZpO (n:Nat) (ls:List Loc):Prop:=(∀ id off t,Loc.cell id off t∈ls->id<n)/\(∀ id off e,Loc.cello id off e∈ls->id<n)/\∀ l∈ls,l.ZuJ n
theorem Zav {B:Base} {E:Env} {H:List Entry} {vs:List Value}:∀ (ls:List Loc) (v:ZoH ls) (gs:List Nat),QE B E H vs ls v gs->ZpO H.length ls
 | [],_,_,_=>⟨λ_ _ _ h=>by simp at h,λ_ _ _ h=>by simp at h,λ_ h=>by simp at h⟩
 | .reg _ (.dat t)::q,v,gs,⟨_,h⟩=>by
  obtain ⟨a,b,c⟩:=Zav q v.2 gs h;exact ⟨λi o t h=>a i o t (by simpa using h),λi o t h=>b i o t (by simpa using h),λl h=>(List.mem_cons.1 h).elim (λe=>by subst e;trivial) (c l)⟩
 | .reg _ (.own e)::q,v,gs,⟨_,_,g1,_,_,_,_,h⟩=>by
  obtain ⟨a,b,c⟩:=Zav q v.2 g1 h;exact ⟨λi o t h=>a i o t (by simpa using h),λi o t h=>b i o t (by simpa using h),λl h=>(List.mem_cons.1 h).elim (λe=>by subst e;trivial) (c l)⟩
 | .reg _ (.io _)::_,_,_,h=>by simp only[QE] at h
 | .reg _ (.back _)::_,_,_,h=>by simp only[QE] at h
 | .cell id off t::q,v,gs,⟨⟨_,_,_,_,_,a1,_⟩,h⟩=>by
  obtain ⟨a,b,c⟩:=Zav q v.2 gs h;refine ⟨λi o t' h'=>?_,λi o t h=>b i o t (by simpa using h),λl h=>(List.mem_cons.1 h).elim (λe=>by subst e;trivial) (c l)⟩;grind
 | .cello id off e::q,v,gs,⟨_,_,_,_,_,_,g1,a1,_,_,_,_,_,h⟩=>by
  obtain ⟨a,b,c⟩:=Zav q v.2 g1 h;refine ⟨λi o t h=>a i o t (by simpa using h),λi o e' h'=>?_,λl h=>(List.mem_cons.1 h).elim (λe=>by subst e;trivial) (c l)⟩;grind
 | .ent id et e::q,v,gs,⟨_,_,g1,a1,_,_,_,_,h⟩=>by
  obtain ⟨a,b,c⟩:=Zav q v.2 g1 h;exact ⟨λi o t h=>a i o t (by simpa using h),λi o t h=>b i o t (by simpa using h),λl h=>(List.mem_cons.1 h).elim (λe=>by subst e;exact a1) (c l)⟩
 | .entm id k u::q,v,gs,⟨_,_,g1,a1,_,_,_,_,h⟩=>by
  obtain ⟨a,b,c⟩:=Zav q v.2 g1 h;exact ⟨λi o t h=>a i o t (by simpa using h),λi o t h=>b i o t (by simpa using h),λl h=>(List.mem_cons.1 h).elim (λe=>by subst e;exact a1) (c l)⟩
 | .splt id et e::q,v,gs,⟨_,_,g1,a1,_,_,_,_,h⟩=>by
  obtain ⟨a,b,c⟩:=Zav q v.2 g1 h;exact ⟨λi o t h=>a i o t (by simpa using h),λi o t h=>b i o t (by simpa using h),λl h=>(List.mem_cons.1 h).elim (λe=>by subst e;exact a1) (c l)⟩
theorem ZpO.tail {n:Nat} {l:Loc} {q:List Loc} (h:ZpO n (l::q)):ZpO n q :=
 ⟨λi o t hm=>h.1 i o t (by simp[hm]),λi o t hm=>h.2.1 i o t (by simp[hm]),λl hm=>h.2.2 l (by simp[hm])⟩
theorem VJ {B:Base} {E E':Env} {H H':List Entry} (hw:E'.w=E.w) (hS:∀ b,E.S b->E'.S b) (hids:∀ (i:Nat) (v:Value),E.ids[i]?=some v->E'.ids[i]?=some v) (hb:Boxed H H') {vs:List Value}
  (ls:List Loc) (v:ZoH ls) (gs:List Nat) (h:QE B E H vs ls v gs):QE B E' H' vs ls v gs:=by
 obtain ⟨p1,p2,p3⟩:=Zav ls v gs h;rw[<-hb.1] at p1 p2 p3;exact Q7 hw hS (λi v _ hv=>hids i v hv) (λi c hi _=>hb.2.1 i c hi) hb.2.2 ls v gs p1 p2 p3 h
theorem Zkc {B:Base} {E:Env} {H:List Entry} {vs:List Value} (E':Env) (l:List Entry) (hw:E'.w=E.w) (hS:E'.S=E.S) (hids:∀ (i:Nat) (v:Value),E.ids[i]?=some v->E'.ids[i]?=some v)
  (ls:List Loc) (v:ZoH ls) (gs:List Nat) (h:QE B E H vs ls v gs):QE B E' (H++l) vs ls v gs:=by
 obtain ⟨p1,p2,p3⟩:=Zav ls v gs h;have hle:H.length<=(H++l).length:=by simp
 have go:∀ (ls:List Loc) (v:ZoH ls) (gs:List Nat),QE B E H vs ls v gs->QE B E' (H++l) vs ls v gs:=by
  intro ls;induction ls with
  | nil=>intro v gs h;exact h
  | cons x q ih =>
   intro v gs h
   match x,v,h with
   | .reg _ (.dat t),v,⟨⟨u,a,b⟩,h⟩=>exact ⟨⟨u,a,by rw[hS,hw];exact b⟩,ih v.2 gs h⟩
   | .reg _ (.own e),v,⟨u,f,g1,a,b,c,d,h⟩=>exact ⟨u,f,g1,a,b,by rw[hS,hw];exact c,d,ih v.2 g1 h⟩
   | .reg _ (.io _),v,h=>simp only[QE] at h
   | .reg _ (.back _),v,h=>simp only[QE] at h
   | .cell id off t,v,⟨⟨b,cs,T,cells,u,a1,a2,a3,a4,a5⟩,h⟩ =>
    exact ⟨⟨b,cs,T,cells,u,by grind,hids _ _ a2,by rw[hw];exact a3,a4,by rw[hS,hw];exact a5⟩,ih v.2 gs h⟩
   | .cello id off e,v,⟨b,cs,T,cells,u,f,g1,a1,a2,a3,a4,a5,a6,h⟩ =>
    exact ⟨b,cs,T,cells,u,f,g1,by grind,hids _ _ a2,by rw[hw];exact a3,a4,by rw[hS,hw];exact a5,a6,ih v.2 g1 h⟩
   | .ent id et e,v,⟨u,f,g1,a1,a2,a3,a4,a5,h⟩ =>
    exact ⟨u,f,g1,Nat.lt_of_lt_of_le a1 hle,hids _ _ a2,λc hc=>a3 c (by grind),by rw[hS,hw];exact a4,a5,ih v.2 g1 h⟩
   | .entm id k t,v,⟨u,f,g1,a1,a2,a3,a4,a5,h⟩ =>
    exact ⟨u,f,g1,Nat.lt_of_lt_of_le a1 hle,hids _ _ a2,λc hc=>a3 c (by grind),by rw[hS,hw];exact a4,a5,ih v.2 g1 h⟩
   | .splt id et e,v,⟨u,f,g1,a1,a2,a3,a4,a5,h⟩ =>
    exact ⟨u,f,g1,Nat.lt_of_lt_of_le a1 hle,hids _ _ a2,λc hc=>a3 c (by grind),by rw[hS,hw];exact a4,a5,ih v.2 g1 h⟩
 exact go ls v gs h
def Taken (B:Base) (ls:List Loc) (E:Env) (H:List Entry) (vs:List Value) (gs:List Nat) (K:ZoH ls->List Entry->Prop):Prop :=
 ∃ E1 H1 v g1,E1.w=E.w/\E1.ids=E.ids/\Inv B E1 H1/\E.le E1/\K v H1/\QE B E1 H1 vs ls v g1/\Loose B E1 H1 (g1++gs)/\Boxed H H1
theorem Zdb {B:Base}:∀ (ls:List Loc) {E:Env} {H:List Entry} (_:Inv B E H) {regs:List SV} {vs:List Value} (_:ZW E regs vs) (gs:List Nat) (_:Loose B E H gs) {K:ZoH ls->List Entry->Prop} (_:ZeO ls regs H K),Taken B ls E H vs gs K
 | [],E,H,hI,regs,vs,hd,gs,hL,K,hk=>⟨E,H,(),[],rfl,rfl,hI,Env.le.refl E,hk,rfl,hL,Boxed.refl H⟩
 | .reg r (.dat t)::q,E,H,hI,regs,vs,hd,gs,hL,K,hk=>by
  simp only[ZeO] at hk;obtain ⟨s,u,hu,hs,hk,_⟩:=Jv _ _ hd hk;obtain ⟨E1,H1,cs,hf,hI1,hd1,hk,hb1⟩:=Xj [s] hI (show ZW E [s] [u] from ⟨hs,trivial⟩) hk;obtain ⟨d,rest,v1,v2,e12,hr,hrest,hk⟩:=YQ t cs _ _ hd1 hk;split at hk
  ·have hv2:v2=[]:=by cases v2 with
    | nil=>rfl
    | cons=>simp[ZW] at hrest
   subst hv2;rw[List.append_nil] at e12;obtain ⟨E2,H2,v,g1,hw2,hid2,hI2,hle2,hk,hl,hL2,hb2⟩:=Zdb q hI1 (ZA hf.le _ _ hd) gs (hL.frz hf) hk;refine ⟨E2,H2,(d,v),g1,hw2.trans hf.w,hid2.trans hf.ids,hI2,hf.le.trans hle2,hk,⟨⟨u,hu,?_⟩,hl⟩,hL2,(Boxed.frz hf hb1).trans hb2⟩;rw[e12];exact Z6 hle2.S hle2.w t d v1 hr
  ·exact hk.elim
 | .reg r (.own e)::q,E,H,hI,regs,vs,hd,gs,hL,K,hk=>by
  simp only[ZeO] at hk;obtain ⟨s,u,hu,hs,hk,_⟩:=Jv _ _ hd hk;split at hk
  ·rename_i hc
   obtain ⟨hw,hag⟩:=hc;obtain ⟨E1,H1,d,f,hf,hI1,hr,hk,hL1,hT,hb1⟩:=XQ hI (QX hs hw) hL hk;obtain ⟨E2,H2,v,g1,hw2,hid2,hI2,hle2,hk,hl,hL2,hb2⟩:=Zdb q hI1 (ZA hf.le _ _ hd) (f++gs) hL1 hk;refine ⟨E2,H2,(d,v),f++g1,hw2.trans hf.w,hid2.trans hf.ids,hI2,hf.le.trans hle2,hk,⟨u,f,g1,hu,Znn hs hw hag,?_,rfl,hl⟩,hL2.perm ?_,(Boxed.frz hf hb1).trans hb2⟩
   ·exact Yg hle2.S hle2.w e _ _ _ (λg _=>by rw[hw2]) hr
   grind
  ·exact hk.elim
 | .reg _ (.io _)::_,_,_,_,_,_,_,_,_,_,hk=>by simp only[ZeO] at hk
 | .reg _ (.back _)::_,_,_,_,_,_,_,_,_,_,hk=>by simp only[ZeO] at hk
 | .cell id off t::q,E,H,hI,regs,vs,hd,gs,hL,K,hk=>by
  simp only[ZeO] at hk;obtain ⟨e,he,hk⟩:=Yu H hk;split at hk
  ·rename_i cells
   obtain ⟨b,cs0,T,e1,e2,e3⟩:=hI.ent id _ he;obtain ⟨s,u,hu,hs,hk,_⟩:=Jv _ _ e3 hk;obtain ⟨E1,H1,cs,hf,hI1,hd1,hk,hb1⟩:=Xj [s] hI (show ZW E [s] [u] from ⟨hs,trivial⟩) hk;obtain ⟨d,rest,v1,v2,e12,hr,hrest,hk⟩:=YQ t cs _ _ hd1 hk;split at hk
   ·have hv2:v2=[]:=by cases v2 with
     | nil=>rfl
     | cons=>simp[ZW] at hrest
    subst hv2;rw[List.append_nil] at e12;obtain ⟨E2,H2,v,g1,hw2,hid2,hI2,hle2,hk,hl,hL2,hb2⟩:=Zdb q hI1 (ZA hf.le _ _ hd) gs (hL.frz hf) hk;obtain ⟨c',hc'⟩:=hb2.2.1 id _ (hb1 _ _ he);refine ⟨E2,H2,(d,v),g1,hw2.trans hf.w,hid2.trans hf.ids,hI2,hf.le.trans hle2,hk,⟨⟨b,cs0,T,c',u,hc',by rw[hid2,hf.ids];exact e1,by rw[hw2,hf.w];exact e2,hu,?_⟩,hl⟩,hL2,(Boxed.frz hf hb1).trans hb2⟩;rw[e12];exact Z6 hle2.S hle2.w t d v1 hr
   ·exact hk.elim
  ·exact hk.elim
 | .cello id off e::q,E,H,hI,regs,vs,hd,gs,hL,K,hk=>by
  simp only[ZeO] at hk;obtain ⟨en,he,hk⟩:=Yu H hk;split at hk
  ·rename_i cells
   obtain ⟨b,cs0,T,e1,e2,e3⟩:=hI.ent id _ he;obtain ⟨s,u,hu,hs,hk,_⟩:=Jv _ _ e3 hk;obtain ⟨E1,H1,d,f,hf,hI1,hr,hk,hL1,hT,hb1⟩:=XQ hI (show ZW E [s] [u] from ⟨hs,trivial⟩) hL hk;obtain ⟨E2,H2,v,g1,hw2,hid2,hI2,hle2,hk,hl,hL2,hb2⟩:=Zdb q hI1 (ZA hf.le _ _ hd) (f++gs) hL1 hk;obtain ⟨c',hc'⟩:=hb2.2.1 id _ (hb1 _ _ he);refine ⟨E2,H2,(d,v),f++g1,hw2.trans hf.w,hid2.trans hf.ids,hI2,hf.le.trans hle2,hk,⟨b,cs0,T,c',u,f,g1,hc',by rw[hid2,hf.ids];exact e1,by rw[hw2,hf.w];exact e2,hu,?_,rfl,hl⟩,hL2.perm ?_,(Boxed.frz hf hb1).trans hb2⟩
   ·exact Yg hle2.S hle2.w e _ _ _ (λg _=>by rw[hw2]) hr
   grind
  ·exact hk.elim
 | .ent id et e::q,E,H,hI,regs,vs,hd,gs,hL,K,hk=>by
  simp only[ZeO] at hk;have hk0:=hk;unfold closeAll at hk0;simp only[Qw] at hk0;obtain ⟨en,he,hk0⟩:=Yu H hk0;have hlt:=(List.getElem?_eq_some_iff.1 he).1;obtain ⟨u,hu⟩:∃ u,E.ids[id]?=some u:=⟨_,List.getElem?_eq_getElem (show id<E.ids.length by rw[hI.len];exact hlt)⟩;have hnb:∀ c,H[id]?≠some (.box c):=by
   grind
  have hs:den E (.own id) u:=by
   simp only[den];refine ⟨hu,?_⟩;split at hk0
   ·obtain ⟨v',xs,a1,a2,_⟩:=hI.ent id _ he
    have:=hu.symm.trans a1;simp at this;subst this;rcases a2.2 with ⟨rfl,_⟩ | ⟨g,cap,cur,o,rfl,_⟩<;>exact ⟨_,_,_,rfl⟩
   ·obtain ⟨v',xs,fps,a1,a2,_⟩:=hI.ent id _ he
    have:=hu.symm.trans a1;simp at this;subst this;rcases a2.2 with ⟨rfl,_⟩ | ⟨g,cap,cur,o,rfl,_⟩<;>exact ⟨_,_,_,rfl⟩
   ·obtain ⟨v',xs,x1,vx,x2,f1,f2,a1,a2,_⟩:=hI.ent id _ he
    have:=hu.symm.trans a1;simp at this;subst this;rcases a2.2 with ⟨rfl,_⟩ | ⟨g,cap,cur,o,rfl,_⟩<;>exact ⟨_,_,_,rfl⟩
   ·obtain ⟨v',a1,⟨xs,x1,x2,f1,a2,_⟩,_⟩:=hI.ent id _ he
    have:=hu.symm.trans a1;simp at this;subst this;rcases a2.2 with ⟨rfl,_⟩ | ⟨g,cap,cur,o,rfl,_⟩<;>exact ⟨_,_,_,rfl⟩
   ·exact hk0.elim
  obtain ⟨E1,H1,d,f,hf,hI1,hr,hk,hL1,hT,hb1⟩:=XQ hI (show ZW E [.own id] [u] from ⟨hs,trivial⟩) hL hk;obtain ⟨E2,H2,v,g1,hw2,hid2,hI2,hle2,hk,hl,hL2,hb2⟩:=Zdb q hI1 (ZA hf.le _ _ hd) (f++gs) hL1 hk;have hbb:=(Boxed.frz hf hb1).trans hb2;refine ⟨E2,H2,(d,v),f++g1,hw2.trans hf.w,hid2.trans hf.ids,hI2,hf.le.trans hle2,hk,⟨u,f,g1,by rw[hbb.1];exact hlt,by rw[hid2,hf.ids];exact hu,λc hc=>?_,?_,rfl,hl⟩,hL2.perm ?_,hbb⟩
  ·obtain ⟨c',hc'⟩:=hbb.2.2 id c hc;exact hnb c' hc'
  ·exact Yg hle2.S hle2.w (.ol et e) _ _ _ (λg _=>by rw[hw2]) hr
  grind
 | .entm id k t::q,E,H,hI,regs,vs,hd,gs,hL,K,hk=>by
  simp only[ZeO] at hk;have hk0:=hk;unfold closeAll at hk0;simp only[Qw] at hk0;obtain ⟨en,he,hk0⟩:=Yu H hk0;have hlt:=(List.getElem?_eq_some_iff.1 he).1;obtain ⟨u,hu⟩:∃ u,E.ids[id]?=some u:=⟨_,List.getElem?_eq_getElem (show id<E.ids.length by rw[hI.len];exact hlt)⟩;have hnb:∀ c,H[id]?≠some (.box c):=by
   grind
  have hs:den E (.mown id) u:=by
   simp only[den];refine ⟨hu,?_⟩;split at hk0
   ·obtain ⟨b,es,clk,a1,_⟩:=hI.ent id _ he
    grind
   ·exact hk0.elim
  obtain ⟨E1,H1,d,f,hf,hI1,hr,hk,hL1,hT,hb1⟩:=XQ hI (show ZW E [.mown id] [u] from ⟨hs,trivial⟩) hL hk;obtain ⟨E2,H2,v,g1,hw2,hid2,hI2,hle2,hk,hl,hL2,hb2⟩:=Zdb q hI1 (ZA hf.le _ _ hd) (f++gs) hL1 hk;have hbb:=(Boxed.frz hf hb1).trans hb2;refine ⟨E2,H2,(d,v),f++g1,hw2.trans hf.w,hid2.trans hf.ids,hI2,hf.le.trans hle2,hk,⟨u,f,g1,by rw[hbb.1];exact hlt,by rw[hid2,hf.ids];exact hu,λc hc=>?_,?_,rfl,hl⟩,hL2.perm ?_,hbb⟩
  ·obtain ⟨c',hc'⟩:=hbb.2.2 id c hc;exact hnb c' hc'
  ·exact Yg hle2.S hle2.w (.mp k t) _ _ _ (λg _=>by rw[hw2]) hr
  grind
 | .splt id et e::q,E,H,hI,regs,vs,hd,gs,hL,K,hk=>by
  simp only[ZeO] at hk;obtain ⟨E1,H1,d,n,u,f,hf,hI1,hu,hnb,hr,hk,hL1,hb1⟩:=Zq6 hI hL hk;obtain ⟨E2,H2,v,g1,hw2,hid2,hI2,hle2,hk,hl,hL2,hb2⟩:=Zdb q hI1 (ZA hf.le _ _ hd) (f++gs) hL1 hk;have hbb:=(Boxed.frz hf hb1).trans hb2;have hlt:id<H2.length:=by
   have:=(List.getElem?_eq_some_iff.1 hu).1;rw[hb2.1,<-hI1.len];exact this
  refine ⟨E2,H2,((d,n),v),f++g1,hw2.trans hf.w,hid2.trans hf.ids,hI2,hf.le.trans hle2,hk,⟨u,f,g1,hlt,by rw[hid2];exact hu,λc hc=>?_,?_,rfl,hl⟩,hL2.perm ?_,hbb⟩
  ·obtain ⟨c',hc'⟩:=hbb.2.2 id c hc;exact hnb c' hc'
  ·exact ZlY hle2.S hle2.w (λg _=>by rw[hw2]) hr
  grind
theorem ZkQ {vs:List Value} {r:Nat} {u:Value} (hu:vs[r]?=some u):vs.set r u=vs:=by
 apply List.ext_getElem?;grind
theorem Loose.Zje {B:Base} {E:Env} {H:List Entry} {gs:List Nat} (hL:Loose B E H gs) {id:Nat} {c0 c1:List SV} (he:H[id]?=some (.box c0)):Loose B E (H.set id (.box c1)) gs:=by
 have hlt:=(List.getElem?_eq_some_iff.1 he).1;refine ⟨hL.nodup,hL.free,λg hg j ej vj hj hlv hv hb=>?_⟩;by_cases hji:id=j
 ·subst hji;rw[List.getElem?_set_self hlt] at hj;simp at hj;subst hj;exact hL.apart g hg id _ vj he rfl hv hb
 ·rw[List.getElem?_set_ne hji] at hj;exact hL.apart g hg j ej vj hj hlv hv hb
theorem Zfl {B:Base}:∀ (ls:List Loc) (v:ZoH ls) {E:Env} {H:List Entry} (_:Inv B E H) {regs:List SV} {vs:List Value} (_:ZW E regs vs) (g1:List Nat) (_:QE B E H vs ls v g1) (_:Loose B E H g1)
  {K:List SV->List Entry->Prop} (_:ZnX ls v regs H K),∃ E' H' regs',E'.w=E.w/\Inv B E' H'/\ZW E' regs' vs/\K regs' H'
 | [],v,E,H,hI,regs,vs,hd,g1,hl,hL,K,hk=>⟨E,H,regs,rfl,hI,hd,hk⟩
 | .reg r (.dat t)::q,v,E,H,hI,regs,vs,hd,g1,⟨⟨u,hu,hr⟩,hl⟩,hL,K,hk=>by
  simp only[ZnX,Qm,Zwc,Y0] at hk;have hdc:=YI t v.1 [u] hr;split at hk
  ·rename_i c hc
   rw[hc] at hdc;simp only[ZW] at hdc;rw[Zb1] at hk;have hd':=Zca _ _ hd r c u hdc.1;rw[ZkQ hu] at hd';exact Zfl q v.2 hI hd' g1 hl hL hk
  ·exact hk.elim
 | .reg r (.own e)::q,v,E,H,hI,regs,vs,hd,g1,⟨u,f,g2,hu,hform,hr,hg,hl⟩,hL,K,hk=>by
  simp only[ZnX,Qm] at hk;subst hg;obtain ⟨E1,H1,cs,hw1,hS1,hI1,hle1,hd1,hk,hL1,l,hl1⟩:=Qv e v.1 hI hr hL hk;obtain ⟨s,hs,hk⟩:=Zld hform hd1 hk;rw[Zb1] at hk;have hd':=Zca _ _ (ZA hle1 _ _ hd) r s u hs;rw[ZkQ hu] at hd';subst hl1;obtain ⟨E2,H2,regs',hw2,hI2,hd2,hk⟩:=Zfl q v.2 hI1 hd' g2 (Zkc E1 l hw1 hS1 hle1.ids q v.2 g2 hl) hL1 hk;grind
 | .reg _ (.io _)::_,_,_,_,_,_,_,_,_,_,_,_,hk=>by simp only[ZnX] at hk
 | .reg _ (.back _)::_,_,_,_,_,_,_,_,_,_,_,_,hk=>by simp only[ZnX] at hk
 | .cell id off t::q,v,E,H,hI,regs,vs,hd,g1,⟨⟨b,cs,T,cells0,u,a1,a2,a3,a4,a5⟩,hl⟩,hL,K,hk=>by
  simp only[ZnX,Qm,Zwc,Y0] at hk;have hdc:=YI t v.1 [u] a5;split at hk
  ·rename_i c hc
   rw[hc] at hdc;simp only[ZW] at hdc;obtain ⟨e,he,hk⟩:=Yu H hk;split at hk
   ·rename_i cells
    rw[Zb1,YO] at hk;have hI1:=hI.weaken (cells':=cells.set off c) he (λb' cs' T' h1 h2 h3=>by
     have:=a2.symm.trans h1;simp at this;subst this;have:=a3.symm.trans h2;simp at this;obtain ⟨rfl,_⟩:=this;have hset:=Zca _ _ h3 off c u hdc.1
     rwa [ZkQ a4] at hset)
    exact Zfl q v.2 hI1 hd g1 (VJ rfl (λ_ h=>h) (λ_ _ h=>h) (Boxed.Zje he) q v.2 g1 hl) (hL.Zje he) hk
   ·exact hk.elim
  ·exact hk.elim
 | .cello id off e::q,v,E,H,hI,regs,vs,hd,g1,⟨b,cs,T,cells0,u,f,g2,a1,a2,a3,a4,hr,hg,hl⟩,hL,K,hk=>by
  simp only[ZnX,Qm] at hk;subst hg;obtain ⟨E1,H1,cs1,hw1,hS1,hI1,hle1,hd1,hk,hL1,l,hl1⟩:=Qv e v.1 hI hr hL hk;subst hl1;split at hk
  ·rename_i s
   simp only[ZW] at hd1;obtain ⟨en,he,hk⟩:=Yu _ hk;split at hk
   ·rename_i cells
    rw[Zb1,YO] at hk;have a2':=hle1.ids _ _ a2;have hI2:=hI1.weaken (cells':=cells.set off s) he (λb' cs' T' h1 h2 h3=>by
     have:=a2'.symm.trans h1;simp at this;subst this;rw[hw1] at h2;have:=a3.symm.trans h2;simp at this;obtain ⟨rfl,_⟩:=this;have hset:=Zca _ _ h3 off s u hd1.1
     rwa [ZkQ a4] at hset)
    obtain ⟨E2,H2,regs',hw2,hI3,hd2,hk⟩:=Zfl q v.2 hI2 (ZA hle1 _ _ hd) g2 (VJ rfl (λ_ h=>h) (λ_ _ h=>h) (Boxed.Zje he) q v.2 g2 (Zkc E1 l hw1 hS1 hle1.ids q v.2 g2 hl)) (hL1.Zje he) hk;grind
   ·exact hk.elim
  ·exact hk.elim
 | .ent id et e::q,v,E,H,hI,regs,vs,hd,g1,⟨u,f,g2,a1,a2,a3,hr,hg,hl⟩,hL,K,hk=>by
  simp only[ZnX,Qm] at hk;subst hg;obtain ⟨e1,hI1,hL1,hk,hnb⟩:=ZrX e hI a1 a2 hr hL hk;exact Zfl q v.2 hI1 hd g2 (VJ rfl (λ_ h=>h) (λ_ _ h=>h) (Boxed.Zuf a3 hnb) q v.2 g2 hl) hL1 hk
 | .entm id k t::q,v,E,H,hI,regs,vs,hd,g1,⟨u,f,g2,a1,a2,a3,⟨b,es,clk,e1,e2,hh,hr⟩,hg,hl⟩,hL,K,hk=>by
  simp only[ZnX,Qm,YO] at hk;subst hg;simp at e1;subst e1;obtain ⟨hI1,hL1⟩:=hL.put hI a1 a2 (.mpe k t v.1) (λ_ g hg=>by
   have hg:Yl (.map (some b))=some g:=hg;simp[Yl] at hg;rw[e2];simp[hg]) ⟨b,es,clk,a2,hh,hr⟩
  exact Zfl q v.2 hI1 hd g2 (VJ rfl (λ_ h=>h) (λ_ _ h=>h) (Boxed.Zuf a3 (λc h=>by cases h)) q v.2 g2 hl) hL1 hk
 | .splt id et e::q,v,E,H,hI,regs,vs,hd,g1,⟨u,f,g2,a1,a2,a3,hr,hg,hl⟩,hL,K,hk=>by
  simp only[ZnX,Qm] at hk;have hk:=hk f;rw[YO] at hk;subst hg;obtain ⟨hI1,hL1⟩:=hL.put hI a1 a2 (.spl et e v.1.1 v.1.2 f) (λ_ g hg=>hg) ⟨u,a2,hr,(List.nodup_append.1 hL.nodup).1⟩;exact Zfl q v.2 hI1 hd g2 (VJ rfl (λ_ h=>h) (λ_ _ h=>h) (Boxed.Zuf a3 (λc h=>by cases h)) q v.2 g2 hl) hL1 hk
structure Cal where
 run:List SV->List Entry->(SV->List Entry->Prop)->Prop
 dat:Bool
 io:Option (List Bool) -- which arguments are variables,if nothing else is handed over
def ZtE (P:Program) (f:FuncId) (C:Cal):Prop:=Zm8 P f/\
 ∀ {B:Base} {E:Env} {H:List Entry},Inv B E H->∀ {ss:List SV} {vs:List Value},ZW E ss vs->∀ {K:SV->List Entry->Prop},C.run ss H K->
  Calls P f vs.toArray E.w λe w'=>∃ v E' H' s,e=.returned v/\E'.w=w'/\Inv B E' H'/\E.le E'/\den E' s v/\K s H'/\(C.dat=true->Grow E.w w')/\(∀ m,C.io=some m->∀ b,b<E.w.heap.size->(∀ v∈pick m vs,Yl v≠some b)->w'.heap[b]?=E.w.heap[b]?)
def Ctr.cal (C:Ctr):Cal:=⟨ZtO C,Zbf C.args,match ZfF C.args with
 | true=>some (ZiO C.args)
 | false=>none⟩
theorem Ctr.ZuF {P:Program} {f:FuncId} {C:Ctr} (h:Za P f C):ZtE P f C.cal:=⟨h.1,λhI _ _ hd _ hk=>(Zso hI h hd hk).mono λe w' ⟨v,E',H',s,a1,a2,a3,a4,a5,a6,a7,a8⟩=>⟨v,E',H',s,a1,a2,a3,a4,a5,a6,a7,λm hm=>by
 simp only[Ctr.cal] at hm;grind⟩⟩
abbrev Gam:=List (Nat×Cal)
def Gam.ok (Γ:Gam) (P:Program):Prop:=∀ x∈Γ,ZtE P x.1 x.2
def ZsI:Gam->Nat->(Cal->Prop)->Prop
 | [],_,_=>False
 | (n,C)::r,f,K=>if n=f then K C else ZsI r f K
def ZpG:Gam->Nat->Bool
 | [],_=>false
 | (n,C)::r,f=>if n=f then C.dat else ZpG r f
def ZpH:Gam->Nat->Option (List Bool)
 | [],_=>none
 | (n,C)::r,f=>if n=f then C.io else ZpH r f
theorem Zoa {P:Program}:∀ (Γ:Gam),Γ.ok P->∀ {f:Nat} {K:Cal->Prop},ZsI Γ f K->∃ C,ZtE P f C/\K C/\C.dat=ZpG Γ f/\C.io=ZpH Γ f
 | [],_,_,_,h=>h.elim
 | (n,C)::r,hΓ,f,K,h=>by
  unfold ZsI at h;unfold ZpG ZpH;split at h
  ·rename_i e;subst e;exact ⟨C,hΓ (n,C) (by simp),h,by rw[if_pos rfl],by rw[if_pos rfl]⟩
  ·rename_i e;rw[if_neg e,if_neg e];exact Zoa r (λx hx=>hΓ x (by simp[hx])) h
def Zgf (Γ:Gam) (op:Op):Bool:=ZbX op||Zkb op||match op with
 | .call c=>match c.callee with
  | .value (.func f)=>ZpG Γ f
  | _=>false
 | _=>false
def Zgx (Γ:Gam) (op:Op):Option (List Operand):=match op with
 | .call c=>match c.callee with
  | .value (.func f)=>match ZpH Γ f with
   | some m=>some (pick m c.args.toList)
   | none=>none
  | _=>none
 | _=>none
def ZnO (Δ:Tab) (Γ:Gam) (regs:List SV) (H:List Entry) (op:Op) (K:SV->List Entry->Prop):Prop :=
 match op with
 | .call c=>match c.callee with
  | .value fo=>QK regs fo λsf=>match sf with
   | .fn f caps=>ZsI Γ f λC=>Zqn regs c.args.toList λl=>ZnV l caps λl'=>C.run l' H K
   | _=>False
  | _=>opK Δ regs H op K
 | op=>opK Δ regs H op K
def ZqB (regs:List SV) (dst:Option Tmp) (s:SV) (K:List SV->Prop):Prop :=
 match dst with
 | none=>K regs
 | some d=>ZqF regs d s K
def ZrJ:List Oper->Nat->(Oper->Prop)->Prop
 | [],_,_=>False
 | o::_,0,K=>K o
 | _::r,n+1,K=>ZrJ r n K
theorem ZjR:∀ (l:List Oper) {n:Nat} {K:Oper->Prop},ZrJ l n K->∃ o,l[n]?=some o/\K o
 | [],_,_,h=>h.elim
 | o::_,0,K,h=>⟨o,rfl,h⟩
 | _::r,n+1,K,h=>by simpa using ZjR r (n:=n) h
def ZrM (Δ:Tab) (Γ:Gam) (ops:List Oper) (o:Oper) (regs:List SV) (H:List Entry) (K:List SV->List Entry->Prop):Prop :=
 match o.guard with
 | none=>ZnO Δ Γ regs H o.op λs H'=>ZqB regs o.dst s λregs'=>K regs' H'
 | some (j,want)=>ZrJ ops j λoj=>match oj.dst with
  | none=>False
  | some d=>Zkk regs d λsg=>match sg with
   | .blit b=>if b=want then ZnO Δ Γ regs H o.op λs H'=>ZqB regs o.dst s λregs'=>K regs' H'
     else ZqB regs o.dst (.tup []) λregs'=>K regs' H
   | .bool p=>(p=want->ZqF regs d (.blit want) λregs1=>ZnO Δ Γ regs1 H o.op λs H'=>ZqB regs1 o.dst s λregs'=>K regs' H')/\
     (p = !want->ZqF regs d (.blit (!want)) λregs1=>ZqB regs1 o.dst (.tup []) λregs'=>K regs' H)
   | .tup []=>ZqB regs o.dst (.tup []) λregs'=>K regs' H
   | _=>False
def Zv9 (Δ:Tab) (Γ:Gam) (ops:List Oper):List Oper->List SV->List Entry->(List SV->List Entry->Prop)->Prop
 | [],regs,H,K=>K regs H
 | o::r,regs,H,K=>ZrM Δ Γ ops o regs H λregs' H'=>Zv9 Δ Γ ops r regs' H' K
def Conc (B:Base) (regs:List SV) (H:List Entry) (a:Act) (w:World):Prop :=
 ∃ E,E.w=w/\Inv B E H/\ZW E regs a.tmps.toList/\a.defers=[]
section
variable {P:Program}
theorem Zi9 {E:Env} {regs:List SV} {a:Act} (hd:ZW E regs a.tmps.toList) {dst:Option Tmp} {s:SV} {v:Value} (hs:den E s v) {K:List SV->Prop} (hk:ZqB regs dst s K) :
  ∃ regs',ZW E regs' (a.put dst v).tmps.toList/\K regs'/\(a.put dst v).defers=a.defers:=by
 cases dst with
 | none=>exact ⟨regs,hd,hk,rfl⟩
 | some d =>
  simp only[ZqB,Zb1] at hk;refine ⟨_,?_,hk,rfl⟩;simp only[Act.put,Array.toList_setIfInBounds];exact Zca _ _ hd d s v hs
theorem Zse {B:Base} {E:Env} {o:Oper} {a:Act} {K:SV->List Entry->Prop} (h:Ran P B E o a K) {next:Act->World->Prop} {Q:Exit->Act->World->Prop}
  (hn:∀ E' H' s v,Inv B E' H'->E.le E'->den E' s v->K s H'->((ZbX o.op||Zkb o.op)=true->Grow E.w E'.w)->(∀ x,appArg o.op=some x->E.w.grownBy E'.w (Yl (a.eval x)))->next (a.put o.dst v) E'.w):o.wp P a E.w next Q:=by
 obtain ⟨nx,v,E',H',s,h1,h2,h3,h4,h5,h6,_,h7,h8⟩:=h;unfold Oper.wp;rw[h1];rcases h2 with rfl | ⟨rfl,rfl⟩
 ·exact hn E' H' s v h3 h4 h5 h6 h7 h8
 ·exact hn E' H' s _ h3 h4 h5 h6 h7 h8
theorem Ztg {Δ:Tab} (hΔ:Δ.ok P) {Γ:Gam} (hΓ:Γ.ok P) {B:Base} {E:Env} {H:List Entry} (hI:Inv B E H) {regs:List SV} {a:Act} (hd:ZW E regs a.tmps.toList) {o:Oper} {K:SV->List Entry->Prop}
  (h:ZnO Δ Γ regs H o.op K) {next:Act->World->Prop} {Q:Exit->Act->World->Prop}
  (hn:∀ E' H' s v,Inv B E' H'->E.le E'->den E' s v->K s H'->(Zgf Γ o.op=true->Grow E.w E'.w)->(∀ x,appArg o.op=some x->E.w.grownBy E'.w (Yl (a.eval x)))->(∀ xs,Zgx Γ o.op=some xs->∀ b,b<E.w.heap.size->(∀ x∈xs,Yl (a.eval x)≠some b)->E'.w.heap[b]?=E.w.heap[b]?)->next (a.put o.dst v) E'.w):o.wp P a E.w next Q:=by
 obtain ⟨dst,op,type,pos,after,guard⟩:=o;simp only at h;unfold ZnO at h;split at h
 ·rename_i c
  obtain ⟨callee,args,argTypes⟩:=c;simp only at h;split at h
  ·rename_i fo
   obtain ⟨sf,hsf,h⟩:=Z8 hd h;split at h
   ·rename_i f caps
    simp only[den] at hsf;obtain ⟨cv,hfv,hcaps⟩:=hsf;obtain ⟨C,hC,h,hda,hio⟩:=Zoa Γ hΓ h;obtain ⟨l,hl,h⟩:=ZiG hd _ h;rw[Jc] at h;have hds:=Jt _ _ hl _ _ hcaps;have hcall:=hC.2 hI hds h;obtain ⟨⟨fn,hf,hname,hbody⟩,_⟩:=hC;have hrun:(execOp a.eval ⟨dst,.call ⟨.value fo,args,argTypes⟩,type,pos,after,guard⟩).run P E.w=.ok (.enter f (args.toList.map a.eval++cv).toArray) E.w:=by
     have hargs:(args.map a.eval)++cv.toArray=(args.toList.map a.eval++cv).toArray:=by
      grind
     simp only[execOp,resolve,hfv,Deferred.ofValue,pure_bind,invoke,Array.empty_append,hargs];unfold callFunc;rw[Sem.run_bind,run_program,Result.andThen_ok,hf];simp only[hname,hbody,Bool.false_eq_true,if_false];rfl
    unfold Oper.wp;rw[hrun];refine hcall.mono ?_;rintro e w' ⟨v,E',H',s,rfl,rfl,h1,h2,h3,h4,h5,h6⟩;refine hn E' H' s v h1 h2 h3 h4 (λhgr=>h5 ?_) (ZmY rfl) (λxs hx b hb hne=>?_)
    ·rw[hda]
     cases fo with
     | func f0 =>
      simp only[Act.eval] at hfv;injection hfv with hfv
      injection hfv with hfv
      subst hfv;simpa[Zgf,ZbX,Zkb] using hgr
     | _=>simp[Zgf,ZbX,Zkb] at hgr
    ·cases fo with
     | func f0 =>
      simp only[Act.eval] at hfv;have hcv:cv=[]:=by
       grind
      injection hfv with hfv
      injection hfv with hfv
      subst hfv;simp only[Zgx] at hx;split at hx
      ·rename_i m hm
       injection hx with hx
       subst hx;refine h6 m (hio.trans hm) b hb (λu hu=>?_);have:pick m (args.toList.map a.eval++cv)=(pick m args.toList).map a.eval:=by
        rw[<-ZnF,hcv,List.append_nil]
       grind
      ·cases hx
     | _=>simp[Zgx] at hx
   ·exact h.elim
  ·rename_i hne
   refine Zse (ZrO hΔ hI hd h) (λE' H' s v h1 h2 h3 h4 h5 h6=>hn E' H' s v h1 h2 h3 h4 (λhgr=>h5 ?_) h6 (λxs hx=>?_))
   ·cases callee with
    | value f=>grind
    | _=>simpa[Zgf,Zkb] using hgr
   ·cases callee with
    | value f=>grind
    | _=>simp[Zgx] at hx
 ·rename_i hne
  refine Zse (ZrO hΔ hI hd h) (λE' H' s v h1 h2 h3 h4 h5 h6=>hn E' H' s v h1 h2 h3 h4 (λhgr=>h5 ?_) h6 (λxs hx=>?_));rotate_left
  ·cases op with
   | call c=>grind
   | _=>simp[Zgx] at hx
  cases op with
  | call c=>grind
  | _=>first | rfl | exact hgr | (simp[Zgf,ZbX,Zkb] at hgr ⊢)
def Zq3:Value->Option Bool
 | .bool b=>some b
 | _=>none
theorem Zm7 {ops:Array Oper} {a:Act} {j d:Nat} {oj:Oper} {v:Value} (ho:ops.toList[j]?=some oj) (hd:oj.dst=some d) (hv:a.tmps.toList[d]?=some v) :
  yielded ops a.tmps j=Zq3 v:=by
 have ho':ops[j]?=some oj:=by simpa using ho
 have hv':a.tmps[d]?=some v:=by simpa using hv
 unfold yielded;rw[ho',Option.bind_some,hd,Option.bind_some,hv'];cases v<;>rfl
theorem ZpW {Δ:Tab} (hΔ:Δ.ok P) {Γ:Gam} (hΓ:Γ.ok P) {B:Base} (ops:Array Oper) {Q:Exit->Act->World->Prop} (o:Oper) {regs:List SV} {H:List Entry} {a:Act} {E:Env} (hI:Inv B E H) (hd:ZW E regs a.tmps.toList) (hdef:a.defers=[])
  {K:List SV->List Entry->Prop} (hk:ZrM Δ Γ ops.toList o regs H K) {next:Act->World->Prop}
  (hq:∀ regs' H' a' E',K regs' H'->Inv B E' H'->ZW E' regs' a'.tmps.toList->a'.defers=[]->E.le E'->(Zgf Γ o.op=true->Grow E.w E'.w)->(∀ x,appArg o.op=some x->E.w.grownBy E'.w (Yl (a.eval x)))->(∀ xs,Zgx Γ o.op=some xs->∀ b,b<E.w.heap.size->(∀ x∈xs,Yl (a.eval x)≠some b)->E'.w.heap[b]?=E.w.heap[b]?)->next a' E'.w) :
  (if Region.wanted o (yielded ops a.tmps) then o.wp P a E.w next Q\/(o.asks P a E.w/\LetsOut Q) else next (a.put o.dst undef) E.w):=by
 have run:∀ {regs:List SV},ZW E regs a.tmps.toList->(ZnO Δ Γ regs H o.op λs H'=>ZqB regs o.dst s λregs'=>K regs' H')->o.wp P a E.w next Q:=by
  intro regs hd hk;refine Ztg hΔ hΓ hI hd hk (λE' H' s v hI' hle hs hk hg hap hwr=>?_);obtain ⟨regs',hd',hk,hdf⟩:=Zi9 (ZA hle _ _ hd) hs hk;grind
 have skip:∀ {regs:List SV},ZW E regs a.tmps.toList->(ZqB regs o.dst (.tup []) λregs'=>K regs' H)->next (a.put o.dst undef) E.w:=by
  intro regs hd hk;obtain ⟨regs',hd',hk,hdf⟩:=Zi9 hd (v:=undef) (by simp only[den];exact ⟨[],rfl,trivial⟩) hk;exact hq regs' H _ _ hk hI hd' (by rw[hdf];exact hdef) (Env.le.refl E) (λ_=>Grow.refl _) (λ_ _=>⟨rfl,rfl,rfl,Nat.le_refl _,λ_ _ _=>rfl⟩) (λ_ _ _ _ _=>rfl)
 unfold ZrM at hk;split at hk
 ·rename_i hg
  rw[if_pos (by simp[Region.wanted,hg])];grind
 ·rename_i j want hg
  obtain ⟨oj,hoj,hk1⟩:=ZjR _ hk;clear hk;split at hk1
  ·exact hk1.elim
  ·rename_i d hdst
   obtain ⟨sg,v,hv,hsg,hk,hrg⟩:=Jv _ _ hd hk1;clear hrg hk1;have hy:=Zm7 hoj hdst hv;have hwant:Region.wanted o (yielded ops a.tmps)=(Zq3 v == some want):=by
    simp only[Region.wanted,hg,hy]
   have hset:∀ (s:SV),den E s v->ZW E (regs.set d s) a.tmps.toList:=by
    intro s hs;have h1:=Zca _ _ hd d s v hs;have hvs:a.tmps.toList.set d v=a.tmps.toList:=by
     apply List.ext_getElem?;grind
    rwa [hvs] at h1
   split at hk
   ·rename_i b
    simp only[den] at hsg;subst hsg;split at hk
    ·rename_i hb;subst hb
     rw[if_pos (by rw[hwant];simp[Zq3])];grind
    ·rename_i hb
     rw[if_neg (by rw[hwant];simp[Zq3];exact hb)];exact skip hd hk
   ·rename_i p
    simp only[den] at hsg;subst hsg;by_cases hp:p=want
    ·subst hp
     rw[if_pos (by rw[hwant];simp[Zq3])];have hk:=hk.1 rfl;rw[Zb1] at hk;exact .inl (run (hset _ (by simp only[den])) hk)
    ·have hp':p = !want:=by cases p<;>cases want<;>simp_all
     rw[if_neg (by rw[hwant];simp[Zq3];exact hp)];have hk:=hk.2 hp';rw[Zb1] at hk;exact skip (hset _ (by simp only[den,hp'])) hk
   ·simp only[den] at hsg
    obtain ⟨vs,hvs,hd0⟩:=hsg;have:v=.tuple #[]:=by
     cases vs with
     | nil=>rw[hvs]
     | cons=>simp[ZW] at hd0
    rw[if_neg (by rw[hwant,this];intro h;cases h)];exact skip hd hk
   ·exact hk.elim
theorem Zt8 {Δ:Tab} (hΔ:Δ.ok P) {Γ:Gam} (hΓ:Γ.ok P) {B:Base} (ops:Array Oper) {Q:Exit->Act->World->Prop} (o:Oper) {regs:List SV} {H:List Entry} {a:Act} {w:World} (hc:Conc B regs H a w)
  {K:List SV->List Entry->Prop} (hk:ZrM Δ Γ ops.toList o regs H K) {next:Act->World->Prop}
  (hq:∀ regs' H' a' w',K regs' H'->Conc B regs' H' a' w'->(Zgf Γ o.op=true->Grow w w')->next a' w') :
  (if Region.wanted o (yielded ops a.tmps) then o.wp P a w next Q\/(o.asks P a w/\LetsOut Q) else next (a.put o.dst undef) w):=by
 obtain ⟨E,hw,hI,hd,hdef⟩:=hc;subst hw;exact ZpW hΔ hΓ ops o hI hd hdef hk (λregs' H' a' E' hk hI' hd' hdef' _ hg _ _=>hq regs' H' a' _ hk ⟨E',rfl,hI',hd',hdef'⟩ hg)
theorem ZrP {Δ:Tab} (hΔ:Δ.ok P) {Γ:Gam} (hΓ:Γ.ok P) {B:Base} (ops:Array Oper) {Q:Exit->Act->World->Prop}:∀ (l:List Oper) {regs:List SV} {H:List Entry} {a:Act} {w:World} (_:Conc B regs H a w)
  {K:List SV->List Entry->Prop} (_:Zv9 Δ Γ ops.toList l regs H K) (_:∀ regs' H' a' w',K regs' H'->Conc B regs' H' a' w'->Q .normal a' w'),wpList P ops Q l a w
 | [],regs,H,a,w,hc,K,hk,hq=>hq _ _ _ _ hk hc
 | o::r,regs,H,a,w,hc,K,hk,hq=>by
  simp only[Zv9] at hk;unfold wpList;exact Zt8 hΔ hΓ ops o hc hk (λregs' H' a' w' hk' hc' _=>ZrP hΔ hΓ ops r hc' hk' hq)
def Ziu (B:Base) (E0:Env) (regs:List SV) (H:List Entry) (a:Act) (w:World):Prop :=
 ∃ E,E0.le E/\E.w=w/\Inv B E H/\ZW E regs a.tmps.toList/\a.defers=[]
theorem Ziu.ZxR {B:Base} {E0:Env} {regs:List SV} {H:List Entry} {a:Act} {w:World} (h:Ziu B E0 regs H a w):Conc B regs H a w:=by
 obtain ⟨E,_,h⟩:=h;exact ⟨E,h⟩
theorem ZrE {Δ:Tab} (hΔ:Δ.ok P) {Γ:Gam} {B:Base} (ops:Array Oper) (o:Oper) (hl:ZbX o.op=true) {regs:List SV} {H:List Entry} {a:Act} {E:Env} (hI:Inv B E H) (hd:ZW E regs a.tmps.toList) (hdef:a.defers=[])
  {K:List SV->List Entry->Prop} (hk:ZrM Δ Γ ops.toList o regs H K) :
  ∃ v,((Region.wanted o (yielded ops a.tmps)=true/\∀ w',(isLoad o.op=true->ZnU E.w w')->(execOp a.eval o).run P w'=.ok (.value v) w')\/(Region.wanted o (yielded ops a.tmps)=false/\v=undef))/\
   ∃ regs' H',K regs' H'/\Ziu B E regs' H' (a.put o.dst v) E.w:=by
 have hst:∀ (K:SV->List Entry->Prop) (regs:List SV),ZnO Δ Γ regs H o.op K->opK Δ regs H o.op K:=by
  intro K regs h;unfold ZnO at h;split at h
  ·rename_i c heq
   split at h
   ·rename_i f hcal
    rw[heq] at hl;simp[ZbX,hcal] at hl
   ·exact h
  ·exact h
 have run:∀ {regs:List SV},ZW E regs a.tmps.toList->(ZnO Δ Γ regs H o.op λs H'=>ZqB regs o.dst s λregs'=>K regs' H')->
   ∃ v,(∀ w',(isLoad o.op=true->ZnU E.w w')->(execOp a.eval o).run P w'=.ok (.value v) w')/\∃ regs' H',K regs' H'/\Ziu B E regs' H' (a.put o.dst v) E.w:=by
  intro regs hd hk;obtain ⟨nx,v,E',H',s,h1,h2,h3,h4,h5,h6,h7,_⟩:=ZrO hΔ hI hd (hst _ _ hk);obtain ⟨_,hw8,h8⟩:=h7 hl;obtain ⟨regs',hd',hk,hdf⟩:=Zi9 (ZA h4 _ _ hd) h5 h6;exact ⟨v,h8,regs',H',hk,E',h4,hw8,h3,hd',by rw[hdf];exact hdef⟩
 have skip:∀ {regs:List SV},ZW E regs a.tmps.toList->(ZqB regs o.dst (.tup []) λregs'=>K regs' H)->∃ regs' H',K regs' H'/\Ziu B E regs' H' (a.put o.dst undef) E.w:=by
  intro regs hd hk;obtain ⟨regs',hd',hk,hdf⟩:=Zi9 hd (v:=undef) (by simp only[den];exact ⟨[],rfl,trivial⟩) hk;exact ⟨regs',H,hk,E,Env.le.refl E,rfl,hI,hd',by rw[hdf];exact hdef⟩
 unfold ZrM at hk;split at hk
 ·rename_i hg
  obtain ⟨v,h1,h2⟩:=run hd hk;exact ⟨v,.inl ⟨by simp[Region.wanted,hg],h1⟩,h2⟩
 ·rename_i j want hg
  obtain ⟨oj,hoj,hk1⟩:=ZjR _ hk;clear hk;split at hk1
  ·exact hk1.elim
  ·rename_i d hdst
   obtain ⟨sg,v,hv,hsg,hk,hrg⟩:=Jv _ _ hd hk1;clear hrg hk1;have hy:=Zm7 hoj hdst hv;have hwant:Region.wanted o (yielded ops a.tmps)=(Zq3 v == some want):=by
    simp only[Region.wanted,hg,hy]
   have hset:∀ (s:SV),den E s v->ZW E (regs.set d s) a.tmps.toList:=by
    intro s hs;have h1:=Zca _ _ hd d s v hs;have hvs:a.tmps.toList.set d v=a.tmps.toList:=by
     apply List.ext_getElem?;grind
    rwa [hvs] at h1
   split at hk
   ·rename_i b
    simp only[den] at hsg;subst hsg;split at hk
    ·rename_i hb;subst hb
     obtain ⟨v,h1,h2⟩:=run hd hk;exact ⟨v,.inl ⟨by rw[hwant];simp[Zq3],h1⟩,h2⟩
    ·rename_i hb
     exact ⟨_,.inr ⟨by rw[hwant];simp[Zq3];exact hb,rfl⟩,skip hd hk⟩
   ·rename_i p
    simp only[den] at hsg;subst hsg;by_cases hp:p=want
    ·subst hp
     have hk:=hk.1 rfl;rw[Zb1] at hk;obtain ⟨v,h1,h2⟩:=run (hset _ (by simp only[den])) hk;exact ⟨v,.inl ⟨by rw[hwant];simp[Zq3],h1⟩,h2⟩
    ·have hp':p = !want:=by cases p<;>cases want<;>simp_all
     have hk:=hk.2 hp';rw[Zb1] at hk;exact ⟨_,.inr ⟨by rw[hwant];simp[Zq3];exact hp,rfl⟩,skip (hset _ (by simp only[den,hp'])) hk⟩
   ·simp only[den] at hsg
    obtain ⟨vs,hvs,hd0⟩:=hsg;have:v=.tuple #[]:=by
     cases vs with
     | nil=>rw[hvs]
     | cons=>simp[ZW] at hd0
    exact ⟨_,.inr ⟨by rw[hwant,this];rfl,rfl⟩,skip hd hk⟩
   ·exact hk.elim
end
section
variable {P:Program}
theorem ZmD {E:Env} {T:TypeId} {ti:TI} (h:ZaH P T ti) (W:World->Prop) (p:Addr) {cs:List SV} {K:SV->Prop} (hk:Qb ti cs K)
  (vs:List Value) (hd:ZW E cs vs) (hvs:∀ w',W w'->∀ j u,vs[j]?=some u->w'.cell? (p.add j)=some u) :
  ∃ v s,(∀ w',W w'->(loadVar T p).run P w'=.ok v w')/\den E s v/\K s:=by
 unfold Qb at hk;split at hk
 ·rename_i ha
  rw[Zfw] at hk;split at hk
  ·rename_i hl
   have hd':=Zdo cs vs hd ti.size;have hl':=Yp _ _ hd';have h':=λw' (hst:W w')=>Zcn h w' p (vs.take ti.size) (λj u hu=>hvs w' hst j u (by
    rw[List.getElem?_take] at hu;split at hu
    ·exact hu
    ·cases hu)) (λ_=>by rw[<-hl'];exact hl)
   exact ⟨_,.agg _,λw' hst=>(h' w' hst).1 ha,by simp only[den];exact ⟨_,rfl,hd'⟩,hk⟩
  ·exact hk.elim
 ·rename_i ha
  split at hk
  ·rename_i c r
   match vs,hd,hvs with
   | v::vs,hd,hvs =>
    simp only[ZW] at hd;have h':=λw' (hst:W w')=>Zcn h w' p (v::vs) (λj u hu=>hvs w' hst j u hu) (λe=>absurd e ha);exact ⟨v,c,λw' hst=>(h' w' hst).2 (by simpa using ha) v rfl,hd.1,hk⟩
   | [],hd,_=>simp[ZW] at hd
  ·exact hk.elim
theorem Zqr {B:Base} {E:Env} {H:List Entry} (hI:Inv B E H) {T:TypeId} {ti:TI} (h:ZaH P T ti) {id off:Nat} {v:Value} (hs:den E (.ptr id off) v) {cells:List SV} (he:H[id]?=some (.box cells)) {K:SV->Prop}
  (hk:Zgb cells off λcs=>Qb ti cs K) :
  ∃ b u r,E.ids[id]?=some (.pointer (some ⟨b,0,none⟩))/\(∀ w':World,w'.heap[b]?=E.w.heap[b]?->(Instr.loadAt T v).run P w'=.ok u w')/\den E r u/\K r:=by
 rw[JW] at hk;simp only[den] at hs;obtain ⟨b,h1,rfl⟩:=hs;obtain ⟨b',cs,T',h1',h2,h3⟩:=hI.ent id _ he;have:=h1.symm.trans h1';simp at this;subst this;obtain ⟨u,r,g1,g2,g3⟩:=ZmD h (λw'=>w'.heap[b]?=E.w.heap[b]?) ⟨b,off,none⟩ hk (cs.toList.drop off) (QZ _ _ h3 off) (λw' hw=>ZiA (hw.trans h2) off);exact ⟨b,u,r,h1,λw' hw=>by simp only[Instr.loadAt,Instr.sureAddr,pure_bind];exact g1 w' hw,g2,g3⟩
theorem ZkZ {B:Base} {E:Env} {H:List Entry} (hI:Inv B E H) {id:Nat} {cells:List SV} (he:H[id]?=some (.box cells)) {b:Nat} (hb:E.ids[id]?=some (.pointer (some ⟨b,0,none⟩)))
  {k:Nat} {ek:Entry} {v:Value} (hk:H[k]?=some ek) (hl:ek.live=true) (hv:E.ids[k]?=some v) (hkid:k≠id):¬Zev ek v b:=by
 intro h;exact hkid (hI.sep k id ek _ v _ b hk he hl rfl hv hb h (by simp[Zev,Yl]))
end
def Zon (m:List Nat) (i:Nat):Nat:=(m[i]?).getD i
mutual
def ZxB (m:List Nat):SV->SV
 | .ptr id off=>.ptr (Zon m id) off
 | .own id=>.own (Zon m id)
 | .oep id sz i off=>.oep (Zon m id) sz i off
 | .mown id=>.mown (Zon m id)
 | .fptr cs=>.fptr (ZrZ m cs)
 | .agg cs=>.agg (ZrZ m cs)
 | .tup cs=>.tup (ZrZ m cs)
 | .fn f cs=>.fn f (ZrZ m cs)
 | .bot=>.bot
 | .int k n=>.int k n
 | .bool b=>.bool b
 | .blit b=>.blit b
 | .str s=>.str s
 | .sl t d=>.sl t d
 | .nsl=>.nsl
 | .nilp=>.nilp
 | .gptr g=>.gptr g
 | .nptr t d=>.nptr t d
 | .mp k v d=>.mp k v d
def ZrZ (m:List Nat):List SV->List SV
 | []=>[]
 | c::cs=>ZxB m c::ZrZ m cs
end
def ZuU (m:List Nat):Entry->Entry
 | .box cells=>.box (ZrZ m cells)
 | .fbx cells=>.fbx (ZrZ m cells)
 | .hole et e d i cells fp=>.hole et e d i (ZrZ m cells) fp
 | .hsp et e d i cells fp=>.hsp et e d i (ZrZ m cells) fp
 | e=>e
section
variable {E:Env} {ids':List Value} {m:List Nat}
mutual
theorem ZtT (h:∀ i v,E.ids[i]?=some v->ids'[Zon m i]?=some v):∀ (s:SV) (v:Value),den E s v->den ⟨E.S,E.w,ids'⟩ (ZxB m s) v
 | .bot,_,_=>trivial
 | .int _ _,_,e=>e
 | .bool _,_,e=>e
 | .blit _,_,e=>e
 | .str _,_,e=>e
 | .sl t d,v,e=>e
 | .nsl,_,e=>e
 | .ptr _ _,_,⟨b,e1,e2⟩=>⟨b,h _ _ e1,e2⟩
 | .own _,_,⟨e1,e2⟩=>⟨h _ _ e1,e2⟩
 | .oep _ _ _ _,_,⟨b,bo,n,c,e1,e2⟩=>⟨b,bo,n,c,h _ _ e1,e2⟩
 | .fptr cs,_,⟨p,vs,e1,e2,e3,e4,e5⟩=>⟨p,vs,e1,e2,e3,e4,Zb9 h cs vs e5⟩
 | .agg cs,_,⟨vs,e1,e2⟩=>⟨vs,e1,Zb9 h cs vs e2⟩
 | .tup cs,_,⟨vs,e1,e2⟩=>⟨vs,e1,Zb9 h cs vs e2⟩
 | .fn _ cs,_,⟨vs,e1,e2⟩=>⟨vs,e1,Zb9 h cs vs e2⟩
 | .nilp,_,e=>e
 | .gptr _,_,e=>e
 | .nptr t d,v,e=>e
 | .mown _,_,⟨e1,e2⟩=>⟨h _ _ e1,e2⟩
 | .mp k u d,v,e=>e
theorem Zb9 (h:∀ i v,E.ids[i]?=some v->ids'[Zon m i]?=some v):∀ (cs:List SV) (vs:List Value),ZW E cs vs->ZW ⟨E.S,E.w,ids'⟩ (ZrZ m cs) vs
 | [],[],_=>trivial
 | c::cs,v::vs,⟨e1,e2⟩=>⟨ZtT h c v e1,Zb9 h cs vs e2⟩
 | [],_::_,e=>e
 | _::_,[],e=>e
end
theorem ZsC (h:∀ i v,E.ids[i]?=some v->ids'[Zon m i]?=some v) (i:Nat):∀ e:Entry,Zpt E i e->Zpt ⟨E.S,E.w,ids'⟩ (Zon m i) (ZuU m e)
 | .gone,_=>trivial
 | .box cells,⟨b,cs,T,e1,e2,e3⟩=>⟨b,cs,T,h _ _ e1,e2,Zb9 h _ _ e3⟩
 | .arr et t d,⟨v,xs,e1,r⟩=>⟨v,xs,h _ _ e1,r⟩
 | .frz t d,⟨v,e1,r⟩=>⟨v,h _ _ e1,r⟩
 | .fbx cells,⟨b,cs,T,e1,e2,e3,e4⟩=>⟨b,cs,T,h _ _ e1,e2,e3,Zb9 h _ _ e4⟩
 | .darr et e d fp,⟨v,xs,fps,e1,r⟩=>⟨v,xs,fps,h _ _ e1,r⟩
 | .hole et e d i cells fp,⟨v,xs,x1,vx,x2,f1,f2,e1,a1,a2,a3,a4,a5,a6,a7,a8,a9,r⟩=>⟨v,xs,x1,vx,x2,f1,f2,h _ _ e1,a1,a2,a3,a4,a5,a6,a7,a8,Zb9 h _ _ a9,r⟩
 | .spl et e d n fp,⟨v,e1,r⟩=>⟨v,h _ _ e1,r⟩
 | .hsp et e d i cells fp,⟨v,xs,x1,vx,x2,f1,e1,a1,a2,a3,a4,a5,a6,a7,a8,a9,r⟩=>⟨v,xs,x1,vx,x2,f1,h _ _ e1,a1,a2,a3,a4,a5,a6,a7,a8,Zb9 h _ _ a9,r⟩
 | .mpe k v d,⟨b,es,clk,e1,r⟩=>⟨b,es,clk,h _ _ e1,r⟩
 | .frm k v d,⟨u,e1,r⟩=>⟨u,h _ _ e1,r⟩
end
theorem Zom (m:List Nat) (e:Entry):(ZuU m e).live=e.live:=by cases e<;>rfl
theorem ZnH (m:List Nat) (e:Entry) (v:Value) (g:Nat):Zev (ZuU m e) v g<->Zev e v g:=by cases e<;>exact Iff.rfl
def ZqC:List Nat->Nat->Nat->(Nat->Prop)->Prop
 | [],_,i,K=>K i
 | a::_,0,_,K=>K a
 | _::r,n+1,i,K=>ZqC r n i K
theorem Zja:∀ (m:List Nat) (n i:Nat) (K:Nat->Prop),ZqC m n i K=K ((m[n]?).getD i)
 | [],_,_,_=>rfl
 | _::_,0,_,_=>rfl
 | _::r,n+1,i,K=>Zja r n i K
mutual
def ZmE (m:List Nat):SV->(SV->Prop)->Prop
 | .ptr id off,K=>ZqC m id id λj=>K (.ptr j off)
 | .own id,K=>ZqC m id id λj=>K (.own j)
 | .oep id sz i off,K=>ZqC m id id λj=>K (.oep j sz i off)
 | .mown id,K=>ZqC m id id λj=>K (.mown j)
 | .fptr cs,K=>ZkA m cs λcs=>K (.fptr cs)
 | .agg cs,K=>ZkA m cs λcs=>K (.agg cs)
 | .tup cs,K=>ZkA m cs λcs=>K (.tup cs)
 | .fn f cs,K=>ZkA m cs λcs=>K (.fn f cs)
 | .bot,K=>K .bot
 | .int k n,K=>K (.int k n)
 | .bool b,K=>K (.bool b)
 | .blit b,K=>K (.blit b)
 | .str s,K=>K (.str s)
 | .sl t d,K=>K (.sl t d)
 | .nsl,K=>K .nsl
 | .nilp,K=>K .nilp
 | .gptr g,K=>K (.gptr g)
 | .nptr t d,K=>K (.nptr t d)
 | .mp k v d,K=>K (.mp k v d)
def ZkA (m:List Nat):List SV->(List SV->Prop)->Prop
 | [],K=>K []
 | c::cs,K=>ZmE m c λc=>ZkA m cs λcs=>K (c::cs)
end
mutual
theorem Zs5 (m:List Nat):∀ (s:SV) (K:SV->Prop),ZmE m s K=K (ZxB m s)
 | .ptr id off,K=>by simp only[ZmE,Zja];rfl
 | .own id,K=>by simp only[ZmE,Zja];rfl
 | .oep id sz i off,K=>by simp only[ZmE,Zja];rfl
 | .mown id,K=>by simp only[ZmE,Zja];rfl
 | .fptr cs,K=>by simp only[ZmE,Zfn m cs];rfl
 | .agg cs,K=>by simp only[ZmE,Zfn m cs];rfl
 | .tup cs,K=>by simp only[ZmE,Zfn m cs];rfl
 | .fn f cs,K=>by simp only[ZmE,Zfn m cs];rfl
 | .bot,K=>rfl
 | .int k n,K=>rfl
 | .bool b,K=>rfl
 | .blit b,K=>rfl
 | .str s,K=>rfl
 | .sl t d,K=>rfl
 | .nsl,K=>rfl
 | .nilp,K=>rfl
 | .gptr g,K=>rfl
 | .nptr t d,K=>rfl
 | .mp k v d,K=>rfl
theorem Zfn (m:List Nat):∀ (l:List SV) (K:List SV->Prop),ZkA m l K=K (ZrZ m l)
 | [],K=>rfl
 | c::cs,K=>by simp only[ZkA,Zs5 m c,Zfn m cs];rfl
end
def Zud (m:List Nat):Entry->(Entry->Prop)->Prop
 | .box cells,K=>ZkA m cells λcs=>K (.box cs)
 | .fbx cells,K=>ZkA m cells λcs=>K (.fbx cs)
 | .hole et e d i cells fp,K=>ZkA m cells λcs=>K (.hole et e d i cs fp)
 | .hsp et e d i cells fp,K=>ZkA m cells λcs=>K (.hsp et e d i cs fp)
 | .gone,K=>K .gone
 | .arr et t d,K=>K (.arr et t d)
 | .frz t d,K=>K (.frz t d)
 | .darr et e d fp,K=>K (.darr et e d fp)
 | .spl et e d n fp,K=>K (.spl et e d n fp)
 | .mpe k v d,K=>K (.mpe k v d)
 | .frm k v d,K=>K (.frm k v d)
theorem Zs4 (m:List Nat) (e:Entry) (K:Entry->Prop):Zud m e K=K (ZuU m e):=by
 cases e<;>first | rfl | (simp only[Zud,Zfn];rfl)
def Zs1 (H:List Entry) (m:List Nat):List Nat->(List Entry->Prop)->Prop
 | [],K=>K []
 | j::r,K=>ZdW H j λe=>Zud m e λe=>Zs1 H m r λl=>K (e::l)
theorem Zp2 (H:List Entry) (m:List Nat):∀ (o:List Nat) {K:List Entry->Prop},Zs1 H m o K->∃ l,K l/\l.length=o.length/\∀ (i:Nat) (e':Entry),l[i]?=some e'->∃ j e,o[i]?=some j/\H[j]?=some e/\e'=ZuU m e
 | [],K,h=>⟨[],h,rfl,λi e' hi=>by cases hi⟩
 | j::r,K,h=>by
  unfold Zs1 at h;obtain ⟨e,he,h⟩:=Yu H h;rw[Zs4] at h;obtain ⟨l,h1,h2,h3⟩:=Zp2 H m r h;grind
def Zv7:List Nat->Nat->Nat->Bool
 | [],_,_=>false
 | a::_,0,x=>Nat.beq a x
 | _::r,n+1,x=>Zv7 r n x
theorem Zo2:∀ (l:List Nat) {n x:Nat},Zv7 l n x=true->l[n]?=some x
 | [],_,_,h=>by cases h
 | a::_,0,x,h=>by rw[List.getElem?_cons_zero,Nat.eq_of_beq_eq_true h]
 | _::r,n+1,x,h=>by rw[List.getElem?_cons_succ];exact Zo2 r h
def ZuN (m:List Nat):List Nat->Nat->Bool
 | [],_=>true
 | j::r,k=>Zv7 m j k&&ZuN m r (k+1)
theorem ZoV (m:List Nat):∀ (o:List Nat) (k:Nat),ZuN m o k=true->∀ (i j:Nat),o[i]?=some j->m[j]?=some (k+i)
 | [],_,_,i,j,h=>by cases h
 | a::r,k,h,i,j,hi=>by
  unfold ZuN at h;rw[Bool.and_eq_true] at h;cases i with
  | zero =>
   rw[List.getElem?_cons_zero] at hi;injection hi with hi
   subst hi;exact Zo2 m h.1
  | succ i =>
   rw[List.getElem?_cons_succ] at hi;have:=ZoV m r (k+1) h.2 i j hi;grind
def Zv2 (m:List Nat):Nat->Bool
 | 0=>true
 | n+1=>Zv7 m n n&&Zv2 m n
theorem Zrn (m:List Nat):∀ (n:Nat),Zv2 m n=true->∀ i,i<n->m[i]?=some i
 | 0,_,i,hi=>by omega
 | n+1,h,i,hi=>by
  unfold Zv2 at h;rw[Bool.and_eq_true] at h;by_cases e:i=n
  ·subst e;exact Zo2 m h.1
  ·exact Zrn m n h.2 i (by omega)
def Zs8 {α β:Type}:List α->List β->Bool
 | [],[]=>true
 | _::r,_::s=>Zs8 r s
 | _,_=>false
theorem ZnK {α β:Type}:∀ (l:List α) (r:List β),Zs8 l r=true->l.length=r.length
 | [],[],_=>rfl
 | _::r,_::s,h=>by simp[ZnK r s h]
 | [],_::_,h=>by cases h
 | _::_,[],h=>by cases h
def Zv4 (i:Nat):List Nat->Bool
 | []=>false
 | j::r=>Nat.beq j i||Zv4 i r
def ZuO:List Entry->Nat->Bool
 | [],_=>false
 | .box _::_,0=>true
 | _::_,0=>false
 | _::r,n+1=>ZuO r n
def Ztz (n0:Nat) (H:List Entry):List SV->List Nat->(List Nat->Prop)->Prop
 | [],acc,K=>K acc
 | .ptr id _::r,acc,K=>match Nat.ble n0 id&&ZuO H id&&!Zv4 id acc with
  | true=>Ztz n0 H r (id::acc) K
  | false=>Ztz n0 H r acc K
 | .own id::r,acc,K=>match Nat.ble n0 id&&!Zv4 id acc with
  | true=>Ztz n0 H r (id::acc) K
  | false=>Ztz n0 H r acc K
 | _::r,acc,K=>Ztz n0 H r acc K
theorem Zo3 (n0:Nat) (H:List Entry) {K:List Nat->Prop}:∀ (l:List SV) (acc:List Nat),Ztz n0 H l acc K->∃ c,K c
 | [],acc,h=>⟨acc,h⟩
 | s::r,acc,h=>by
  cases s<;>unfold Ztz at h<;>first
   | exact Zo3 n0 H r _ h
   | (split at h<;>exact Zo3 n0 H r _ h)
def Zr4 (c:List Nat):List Entry->Nat->(List Nat->Prop)->Prop
 | [],_,K=>K c
 | _::r,i,K=>match Zv4 i c with
  | true=>Zr4 c r (i+1) K
  | false=>Zr4 c r (i+1) λl=>K (i::l)
theorem ZnJ (c:List Nat):∀ (H:List Entry) (i:Nat) {K:List Nat->Prop},Zr4 c H i K->∃ o,K o
 | [],_,_,h=>⟨c,h⟩
 | _::r,i,K,h=>by
  unfold Zr4 at h;split at h
  ·exact ZnJ c r (i+1) h
  ·obtain ⟨o,h⟩:=ZnJ c r (i+1) h
   exact ⟨_,h⟩
def ZsF:List Nat->Nat->Nat->(Nat->Prop)->Prop
 | [],_,k,K=>K k
 | a::r,j,k,K=>match Nat.beq a j with
  | true=>K k
  | false=>ZsF r j (k+1) K
theorem ZpB:∀ (o:List Nat) (j k:Nat) {K:Nat->Prop},ZsF o j k K->∃ p,K p
 | [],_,k,_,h=>⟨k,h⟩
 | a::r,j,k,K,h=>by
  unfold ZsF at h;split at h
  ·exact ⟨k,h⟩
  ·exact ZpB r j (k+1) h
def Zwb (o:List Nat):List Entry->Nat->(List Nat->Prop)->Prop
 | [],_,K=>K []
 | _::r,j,K=>ZsF o j 0 λp=>Zwb o r (j+1) λl=>K (p::l)
theorem ZrV (o:List Nat):∀ (H:List Entry) (j:Nat) {K:List Nat->Prop},Zwb o H j K->∃ m,K m
 | [],_,_,h=>⟨[],h⟩
 | _::r,j,K,h=>by
  unfold Zwb at h;obtain ⟨p,h⟩:=ZpB o j 0 h;obtain ⟨m,h⟩:=ZrV o r (j+1) h;exact ⟨_,h⟩
def idB:List Nat->Nat->Bool
 | [],_=>true
 | j::r,k=>Nat.beq j k&&idB r (k+1)
def canonK (n0:Nat) (regs:List SV) (H:List Entry) (K:List SV->List Entry->Prop):Prop :=
 Ztz n0 H regs [] λc=>match c with
  | []=>K regs H
  | c=>Zr4 c H 0 λo=>match idB o 0 with
  | true=>K regs H
  | false=>Zwb o H 0 λm=>match (Zs8 o H&&Zs8 m H&&ZuN m o 0&&ZuN o m 0&&Zv2 m n0) with
   | true=>ZkA m regs λregs'=>Zs1 H m o λH'=>K regs' H'
   | false=>False
theorem Zq4 {B:Base} {n0:Nat} {regs:List SV} {H:List Entry} {a:Act} {w:World} {K:List SV->List Entry->Prop} (hpin:∀ (i:Nat) (v:Value),B.pin[i]?=some v->i<n0) (h:canonK n0 regs H K) (hc:Conc B regs H a w) :
  ∃ regs' H',K regs' H'/\Conc B regs' H' a w:=by
 unfold canonK at h;obtain ⟨c,h⟩:=Zo3 n0 H _ _ h;split at h
 ·grind
 ·obtain ⟨o,h⟩:=ZnJ _ H 0 h
  split at h
  ·grind
  obtain ⟨m,h⟩:=ZrV o H 0 h;split at h
  ·rename_i hb
   simp only[Bool.and_eq_true] at hb;obtain ⟨⟨⟨⟨b1,b2⟩,b3⟩,b4⟩,b5⟩:=hb;have c1:=ZnK _ _ b1;have c2:=ZnK _ _ b2;have c3:=ZoV m o 0 b3;have c4:=ZoV o m 0 b4;have c5:=Zrn m n0 b5;rw[Zfn] at h;obtain ⟨H',h,g1,g2⟩:=Zp2 H m o h;refine ⟨_,H',h,?_⟩;obtain ⟨E,hw,hI,hd,hdef⟩:=hc
   let ids':=o.map λj=>(E.ids[j]?).getD undef
   have hm:∀ j,j<H.length->∃ k,m[j]?=some k/\o[k]?=some j/\Zon m j=k:=λj hj=>by
    have e:m[j]?=some (m[j]'(by omega)):=List.getElem?_eq_getElem _;have:=c4 j _ e;rw[Nat.zero_add] at this;exact ⟨_,e,this,by unfold Zon;rw[e];rfl⟩
   have hids:∀ i v,E.ids[i]?=some v->ids'[Zon m i]?=some v:=λi v hi=>by
    have hl:=(List.getElem?_eq_some_iff.1 hi).1;rw[hI.len] at hl;grind
   have hback:∀ i v,ids'[i]?=some v->∃ j,o[i]?=some j/\E.ids[j]?=some v/\Zon m j=i:=λi v hi=>by
    have hi':(o.map λj=>(E.ids[j]?).getD undef)[i]?=some v:=hi;rw[List.getElem?_map] at hi';cases e:o[i]? with
    | none=>grind
    | some j =>
     rw[e] at hi';have e':=c3 i j e;rw[Nat.zero_add] at e';have hj:j<H.length:=by grind
     have hjv:E.ids[j]?=some (E.ids[j]'(by rw[hI.len];exact hj)):=List.getElem?_eq_getElem _;refine ⟨j,rfl,?_,by unfold Zon;rw[e'];rfl⟩;grind
   refine ⟨⟨E.S,E.w,ids'⟩,hw,⟨hI.keeps,hI.Slt,hI.Sold,hI.glob,?_,λi v hi=>?_,λi e' hi=>?_,λi e' v g hi hl hv hb=>?_,λi j ei ej vi vj g hi hj li lj vi' vj' bi bj=>?_⟩,Zb9 hids _ _ hd,hdef⟩
   ·grind
   ·have:=hids i v (hI.pin i v hi)
    rw[show Zon m i=i by unfold Zon;grind] at this;exact this
   ·obtain ⟨j,e,o1,o2,rfl⟩:=g2 i e' hi
    have:=c3 i j o1;rw[Nat.zero_add] at this;have er:=ZsC hids j e (hI.ent j e o2);rw[show Zon m j=i by unfold Zon;rw[this];rfl] at er;exact er
   ·obtain ⟨j,e,o1,o2,rfl⟩:=g2 i e' hi
    obtain ⟨j',p1,p2,_⟩:=hback i v hv;rw[o1] at p1;injection p1 with p1
    subst p1;rw[Zom] at hl;exact hI.free j e v g o2 hl p2 ((ZnH m e v g).1 hb)
   ·obtain ⟨j1,e1,o1,o2,rfl⟩:=g2 i ei hi
    obtain ⟨j2,e2,q1,q2,rfl⟩:=g2 j ej hj;obtain ⟨k1,p1,p2,p3⟩:=hback i vi vi';obtain ⟨k2,r1,r2,r3⟩:=hback j vj vj';rw[o1] at p1;injection p1 with p1
    subst p1;rw[q1] at r1;injection r1 with r1
    subst r1;rw[Zom] at li lj;have:=hI.sep j1 j2 e1 e2 vi vj g o2 q2 li lj p2 r2 ((ZnH m e1 vi g).1 bi) ((ZnH m e2 vj g).1 bj);grind
  ·exact h.elim
inductive Vo
 | done
 | op (i:Nat) (p:Vo)
 | ld (i:Nat) (p:Vo)
 | alt (i:Nat) (p q:Vo)
 | can (p:Vo)
def Vo.o:List Nat->Vo->Vo
 | [],p=>p
 | i::r,p=>.op i (Vo.o r p)
def Vo.u:Nat->Nat->Vo->Vo
 | _,0,p=>p
 | a,n+1,p=>.op a (Vo.u (a+1) n p)
def Vo.l:List Nat->Vo->Vo
 | [],p=>p
 | i::r,p=>.ld i (Vo.l r p)
def Vo.a:List Nat->Vo->Vo
 | [],p=>p
 | i::r,p=>.alt i (Vo.a r p) .done
def Vo.d (i:Nat):Vo:=.alt i .done .done
def Vo.core:Vo->Vo
 | .can p=>p
 | p=>p
section
variable {P:Program} {ops:Array Oper}
inductive Behind (ops:Array Oper) (i:Nat):Nat->Prop
 | edge {j:Nat} {oj:Oper} {e:Edge}:ops[j]?=some oj->e∈oj.after->Region.binds .any e=true->e.on=i->Behind ops i j
 | step {j:Nat} {oj:Oper} {e:Edge}:ops[j]?=some oj->e∈oj.after->Region.binds .any e=true->Behind ops i e.on->Behind ops i j
def ZpS (acc:List Nat) (l:List Edge) (m:Nat):Nat :=
 match l with
 | []=>m
 | e::r=>ZpS acc r (if Region.binds .any e then (m ||| 2 ^ e.on) ||| acc.getD e.on 0 else m)
def Zij:List Oper->List Nat->List Nat
 | [],acc=>acc
 | o::r,acc=>Zij r (acc++[ZpS acc o.after.toList 0])
def Zbd (M:List Nat) (i j:Nat):Bool:=(M.getD j 0).testBit i
theorem Zoh {ops:Array Oper} {acc:List Nat} (hacc:∀ (j m:Nat),acc[j]?=some m->∀ i,m.testBit i=true->Behind ops i j) {j:Nat} {oj:Oper} (hj:ops[j]?=some oj) :
  ∀ (l:List Edge) (m:Nat),(∀ e∈l,e∈oj.after)->(∀ i,m.testBit i=true->Behind ops i j)->∀ i,(ZpS acc l m).testBit i=true->Behind ops i j
 | [],m,_,hm,i,h=>hm i h
 | e::r,m,hl,hm,i,h=>by
  unfold ZpS at h;refine Zoh hacc hj r _ (λe he=>hl e (by simp[he])) ?_ i h;intro k hk;split at hk
  ·rename_i hb
   rw[Nat.testBit_or,Nat.testBit_or,Nat.testBit_two_pow] at hk;simp only[Bool.or_eq_true,decide_eq_true_eq] at hk;rcases hk with (hk | hk) | hk
   ·exact hm k hk
   ·exact .edge hj (hl e (by simp)) hb hk
   ·cases ha:acc[e.on]? with
    | none=>simp[ha] at hk
    | some m'=>exact .step hj (hl e (by simp)) hb (hacc _ _ ha k (by simpa[ha] using hk))
  ·exact hm k hk
theorem ZmW {ops:Array Oper}:∀ (l:List Oper) (acc:List Nat),(∀ (k:Nat),l[k]?=ops[acc.length+k]?)->(∀ (j m:Nat),acc[j]?=some m->∀ i,m.testBit i=true->Behind ops i j)->
  ∀ (j m:Nat),(Zij l acc)[j]?=some m->∀ i,m.testBit i=true->Behind ops i j
 | [],acc,_,h=>h
 | o::r,acc,hl,h=>by
  unfold Zij;refine ZmW r _ (λk=>?_) ?_
  ·have:=hl (k+1)
   grind
  ·intro j m hj i hi
   have hlt:=(List.getElem?_eq_some_iff.1 hj).1;rw[List.length_append,List.length_singleton] at hlt;by_cases hja:j<acc.length
   ·grind
   ·have:j=acc.length:=by omega
    subst this;rw[List.getElem?_append_right (by omega)] at hj;simp at hj;subst hj;have h0:ops[acc.length]?=some o:=by simpa using (hl 0).symm
    exact Zoh h h0 _ 0 (λe he=>by simpa using he) (λi hi=>by simp at hi) i hi
def Down (ops:Array Oper) (listed:Array Bool):Prop:=∀ (j:Nat) (oj:Oper) (e:Edge),ops[j]?=some oj->listed.getD j false=true->e∈oj.after->Region.binds .any e=true->listed.getD e.on false=true
theorem Down.set {listed:Array Bool} (h:Down ops listed) {i:Nat} (hr:i∈Region.ready .any ops listed):Down ops (listed.setIfInBounds i true):=by
 intro j oj e hj hl he hb;by_cases hij:i=j
 ·subst hij
  obtain ⟨_,o,ho,hall⟩:=mem_ready.1 hr;rw[hj] at ho;injection ho with ho;subst ho
  exact getD_set_true (hall e he hb)
 ·rw[getD_set_ne false hij] at hl
  exact getD_set_true (h j oj e hj hl he hb)
theorem Zj6 {listed:Array Bool} (hd:Down ops listed) {i:Nat} (hi:listed.getD i false=false):∀ (j:Nat),Behind ops i j->j ∉ Region.ready .any ops listed/\listed.getD j false=false:=by
 intro j h;have fin:∀ {j:Nat} {oj:Oper} {e:Edge},ops[j]?=some oj->e∈oj.after->Region.binds .any e=true->listed.getD e.on false=false->j ∉ Region.ready .any ops listed/\listed.getD j false=false:=by
  intro j oj e hj he hb hun;constructor
  ·intro hr
   obtain ⟨_,o,ho,hall⟩:=mem_ready.1 hr;grind
  ·cases hl:listed.getD j false with
   | false=>rfl
   | true =>
    have:=hd j oj e hj hl he hb;grind
 induction h with
 | edge hj he hb hon=>grind
 | step hj he hb _ ih=>grind
def Lit (P:Program) (ops:Array Oper) (R:World->World->Prop) (o:Oper) (v:Value) (a:Act) (w:World):Prop :=
 (Region.wanted o (yielded ops a.tmps)=true/\∀ w',R w w'->(execOp a.eval o).run P w'=.ok (.value v) w')\/(Region.wanted o (yielded ops a.tmps)=false/\v=undef)
structure Way (R:World->World->Prop):Prop where
 refl:∀ w,R w w
 trans:∀ a b c,R a b->R b c->R a c
def Zkh (P:Program) (ops:Array Oper) (G:Nat->World->World->Prop) (Q:Exit->Act->World->Prop):Nat->Array Bool->Act->World->Prop
 | 0,listed,a,w=>Region.ready .any ops listed=[]/\Q .normal a w
 | fuel+1,listed,a,w=>(Region.ready .any ops listed=[]->Q .normal a w)/\
  ∀ i∈Region.ready .any ops listed,wpOp P ops Q i (λa' w'=>G i w w'/\Zkh P ops G Q fuel (listed.setIfInBounds i true) a' w') a w
theorem Zm6 {G:Nat->World->World->Prop} {Q:Exit->Act->World->Prop}:∀ (fuel:Nat) (listed:Array Bool) (a:Act) (w:World),Zkh P ops G Q fuel listed a w->wpAny P .any ops Q fuel listed a w
 | 0,_,_,_,h=>h
 | fuel+1,_,_,_,h=>⟨h.1,λi hi=>wpOp_mono (λa' w' hh=>Zm6 fuel _ a' w' hh.2) (h.2 i hi)⟩
theorem Lit.wpOp {R:World->World->Prop} (hR:Way R) {Q:Exit->Act->World->Prop} {i:Nat} {o:Oper} {v:Value} {a:Act} {w:World} (hi:ops[i]?=some o) (hy:Lit P ops R o v a w)
  {K:Act->World->Prop} (h:K (a.put o.dst v) w):Go.wpOp P ops Q i K a w:=by
 unfold Go.wpOp;simp only[hi];rcases hy with ⟨hw,hv⟩ | ⟨hw,rfl⟩
 ·simp only[hw,if_true,Oper.wp,hv w (hR.refl w),Oper.upon];exact .inl h
 grind
theorem Zsh {R:World->World->Prop} (hR:Way R) {Q:Exit->Act->World->Prop} {j:Nat} {oi oj:Oper} {v:Value} (hj:ops[j]?=some oj) (hap:oi.apart ops oj=true)
  (hsi:∀ cs b,oi.op≠.select cs b) (hsj:∀ cs b,oj.op≠.select cs b) (hQ:∀ c a w,¬Q (.panic c) a w) {G1:World->World->Prop} (hgr:∀ w w',G1 w w'->R w w')
  {K:Act->World->Prop} {a:Act} {w:World} (hy:Lit P ops R oi v a w) (h:wpOp P ops Q j (λa' w'=>G1 w w'/\K a' w') (a.put oi.dst v) w) :
  wpOp P ops Q j (λa' w'=>G1 w w'/\Lit P ops R oi v a' w'/\K (a'.put oi.dst v) w') a w:=by
 obtain ⟨h1,h2,h3⟩:=Oper.apart_spec hap;have keep:∀ (a':Act) (w':World),execOp a'.eval oi=execOp a.eval oi->Region.wanted oi (yielded ops a'.tmps)=Region.wanted oi (yielded ops a.tmps)->R w w'->Lit P ops R oi v a' w':=by
  intro a' w' he hw hr;unfold Lit at *;rw[he,hw];rcases hy with ⟨a1,a2⟩ | a1
  ·exact .inl ⟨a1,λw'' h''=>a2 w'' (hR.trans _ _ _ hr h'')⟩
  ·exact .inr a1
 have keepP:∀ (u:Value) (w':World),R w w'->Lit P ops R oi v (a.put oj.dst u) w':=λu w' hr=>keep _ _ (execOp_put oi hsi a oj.dst u h3) (wanted_put oi a oj.dst u h3) hr;have keepD:∀ (d:Deferred) (u:Value) (w':World),R w w'->Lit P ops R oi v (({a with defers:=d::a.defers}:Act).put oj.dst u) w':=λd u w' hr =>
  keep _ _ ((execOp_put oi hsi ({a with defers:=d::a.defers}:Act) oj.dst u h3).trans rfl) ((wanted_put oi ({a with defers:=d::a.defers}:Act) oj.dst u h3).trans rfl) hr
 unfold wpOp at *;simp only[hj] at *;rw[wanted_put oj a oi.dst v h1] at h;split
 ·rename_i hw
  simp only[hw,if_true] at h;rcases h with h | ⟨hasks,hlets⟩
  case inr=>exact .inr ⟨by unfold Oper.asks at *;rw[execOp_put oj hsj a oi.dst v h1] at hasks;exact hasks,hlets⟩
  refine .inl ?_;unfold Oper.wp at *;rw[execOp_put oj hsj a oi.dst v h1] at h;generalize (execOp a.eval oj).run P w=r at *;cases r with
  | ok n w' =>
   cases n<;>simp only[Oper.upon] at h ⊢
   case value u=>exact ⟨h.1,keepP u w' (hgr _ _ h.1),by rw[<-Act.put_comm a v u h2];exact h.2⟩
   case skip=>exact ⟨h.1,keepP _ w' (hgr _ _ h.1),by rw[<-Act.put_comm a v undef h2];exact h.2⟩
   case defer d =>
    refine ⟨h.1,keepD d _ w' (hgr _ _ h.1),?_⟩;rw[<-Act.put_comm _ v undef h2,<-Act.put_defers];exact h.2
   case enter f args =>
    refine Calls.mono h λe w'' he=>?_;cases e with
    | returned u=>exact ⟨he.1,keepP u w'' (hgr _ _ he.1),by rw[<-Act.put_comm a v u h2];exact he.2⟩
    | panicked c=>grind
    | outgrown=>exact he
   case row row args=>exact Rows.mono h λu w'' he=>⟨he.1,keepP u w'' (hgr _ _ he.1),by rw[<-Act.put_comm a v u h2];exact he.2⟩
  | halt x w' =>
   cases x<;>simp only[Oper.upon] at h ⊢
   grind
 ·rename_i hw
  simp only[hw] at h;exact ⟨h.1,keepP _ w (hR.refl w),by rw[<-Act.put_comm a v undef h2];exact h.2⟩
theorem Zki {R:World->World->Prop} (hR:Way R) {Q:Exit->Act->World->Prop} {G:Nat->World->World->Prop} {i:Nat} {oi:Oper} {v:Value} (hi:ops[i]?=some oi) (hGi:∀ w,G i w w)
  (hsel:∀ (j:Nat) (o:Oper) cs b,ops[j]?=some o->o.op≠.select cs b) (hQ:∀ c a w,¬Q (.panic c) a w)
  (hfree:∀ j oj,ops[j]?=some oj->j≠i->¬Behind ops i j->¬Behind ops j i->oi.apart ops oj=true/\∀ w w',G j w w'->R w w') :
  ∀ (fuel:Nat) (listed:Array Bool) (a:Act) (w:World),Down ops listed->i∈Region.ready .any ops listed->Lit P ops R oi v a w->
   Zkh P ops G Q fuel (listed.setIfInBounds i true) (a.put oi.dst v) w->Zkh P ops G Q (fuel+1) listed a w:=by
 have hun:∀ listed:Array Bool,i∈Region.ready .any ops listed->listed.getD i false=false:=by
  intro listed hr;have h0:=(mem_ready.1 hr).1;grind
 intro fuel;induction fuel with
 | zero =>
  intro listed a w hd hr hy H;refine ⟨λh=>(by grind),λj hj=>?_⟩;by_cases hji:j=i
  ·subst hji;exact hy.wpOp hR hi ⟨hGi w,H⟩
  ·have:=ready_mono hj hji
   rw[H.1] at this;cases this
 | succ fuel ih =>
  intro listed a w hd hr hy H;refine ⟨λh=>(by grind),λj hj=>?_⟩;by_cases hji:j=i
  ·subst hji;exact hy.wpOp hR hi ⟨hGi w,H⟩
  ·have h1:=H.2 j (ready_mono hj hji)
   obtain ⟨hjun,oj,hoj,hall⟩:=mem_ready.1 hj;have hnb:¬Behind ops i j:=λhb=>(Zj6 hd (hun _ hr) j hb).1 hj;have hnb2:¬Behind ops j i:=by
    intro hb;refine (Zj6 hd ?_ i hb).1 hr;grind
   obtain ⟨hap,hgr⟩:=hfree j oj hoj hji hnb hnb2;have h2:=Zsh hR hoj hap (λcs b=>hsel i oi cs b hi) (λcs b=>hsel j oj cs b hoj) hQ hgr hy h1;refine wpOp_mono (λa' w' h3=>⟨h3.1,ih (listed.setIfInBounds j true) a' w' (hd.set hj) (ready_mono hr (Ne.symm hji)) h3.2.1 ?_⟩) h2;rw[Array.setIfInBounds_comm _ _ hji];exact h3.2.2
def Zi5 (ops:Array Oper):Bool:=ops.all λo=>match o.op with
 | .select _ _=>false
 | _=>true
def ZuK (Γ:Gam) (ops:Array Oper) (M:List Nat) (i:Nat):Bool :=
 match ops[i]? with
 | none=>false
 | some oi=>ZbX oi.op&&(List.range ops.size).all λj=>j == i||Zbd M i j||Zbd M j i||match ops[j]? with
  | none=>true
  | some oj=>oi.apart ops oj&&(!isLoad oi.op||Zgf Γ oj.op)
def Zxv:Op->Bool
 | .indexAddr _ _ _=>true
 | _=>false
def Zuu (ops:List Oper):Bool:=ops.all λo=>match o.op with
 | .store _ (.tmp t) _=>ops.any λo'=>(match o'.dst with
  | some d=>Nat.beq d t
  | none=>false)&&Zxv o'.op
 | .store _ _ _=>false
 | _=>true
def ZtJ (st:Bool) (op:Op):Option Operand:=match op with
 | .store _ x _=>match st with
  | true=>some x
  | false=>none
 | op=>appArg op
theorem Zpl {st:Bool} {op:Op} {x:Operand} (h:ZtJ st op=some x):appArg op=some x:=by
 unfold ZtJ at h;split at h
 ·split at h
  ·exact h
  ·cases h
 ·exact h
def Zwi (Γ:Gam) (st:Bool) (op:Op):Bool:=(ZtJ st op).isSome||(Zgx Γ op).isSome
theorem ZvS {Γ:Gam} {op:Op} {x:Operand} (h:appArg op=some x):Zgx Γ op=none:=by
 unfold appArg at h;split at h
 ·rfl
 ·rfl
 ·cases h
def ZrU (o:Oper):Bool:=match o.op,o.guard with
 | .load _ _,none=>true
 | _,_=>false
def ZuL (Γ:Gam) (ops:Array Oper) (M:List Nat) (i:Nat):Bool :=
 match ops[i]? with
 | none=>false
 | some oi=>ZrU oi&&(List.range ops.size).all λj=>j == i||Zbd M i j||Zbd M j i||match ops[j]? with
  | none=>true
  | some oj=>oi.apart ops oj&&(Zgf Γ oj.op||Zwi Γ (Zuu ops.toList) oj.op)
def Jo (Γ:Gam) (ops:Array Oper) (M:List Nat):Vo->Nat->Array Bool->Option (List Nat)->Bool
 | .done,_,listed,none=>(Region.ready .any ops listed).isEmpty
 | .done,_,_,some rem=>rem.isEmpty
 | .op i p,n+1,listed,none=>(Region.ready .any ops listed).contains i&&ZuK Γ ops M i&&Jo Γ ops M p n (listed.setIfInBounds i true) none
 | .ld i p,n+1,listed,none=>(Region.ready .any ops listed).contains i&&ZuL Γ ops M i&&Jo Γ ops M p n (listed.setIfInBounds i true) none
 | .alt i p q,n+1,listed,none=>(Region.ready .any ops listed).contains i&&Jo Γ ops M p n (listed.setIfInBounds i true) none&&Jo Γ ops M q (n+1) listed (some ((Region.ready .any ops listed).filter (· != i)))
 | .alt i p q,n+1,listed,some rem=>Jo Γ ops M p n (listed.setIfInBounds i true) none&&Jo Γ ops M q (n+1) listed (some (rem.filter (· != i)))
 | _,_,_,_=>false
def Za8 (i:Nat):List Nat->Bool
 | []=>false
 | j::r=>Nat.beq j i||Za8 i r
def Zf6:List Nat->List Entry->Prop->Prop
 | [],_,K=>K
 | i::r,H,K=>ZdW H i λe=>match e with
  | .box _=>Zf6 r H K
  | _=>False
def wrK (V:List Nat) (regs:List SV) (H:List Entry):List Operand->Prop->Prop
 | [],K=>Zf6 V H K
 | x::r,K=>QK regs x λs=>match s with
  | .ptr i _=>Za8 i V=false/\ZdW H i λe=>match e with
   | .box _=>wrK V regs H r K
   | _=>False
  | _=>False
def Zum (Γ:Gam) (st:Bool) (V:List Nat) (regs:List SV) (H:List Entry) (op:Op) (K:Prop):Prop:=match V with
 | []=>K
 | _=>match ZtJ st op with
  | none=>match Zgx Γ op with
   | none=>K
   | some xs=>wrK V regs H xs K
  | some x=>QK regs x λs=>match s with
   | .nsl=>K
   | .own i=>Za8 i V=false/\ZdW H i λe=>match e with
    | .arr _ _ _=>Zf6 V H K
    | .darr _ _ _ _=>Zf6 V H K
    | _=>False
   | .oep i _ _ _=>Za8 i V=false/\ZdW H i λe=>match e with
    | .arr _ _ _=>Zf6 V H K
    | .darr _ _ _ _=>Zf6 V H K
    | .hole _ _ _ _ _ _=>Zf6 V H K
    | _=>False
   | _=>False
def ldK (Δ:Tab) (V:List Nat) (o:Oper) (regs:List SV) (H:List Entry) (K:List SV->Prop):Prop:=match o.op,o.guard with
 | .load T x,none=>Zax Δ T λti=>QK regs x λs=>match s with
  | .ptr id off=>Za8 id V=true/\ZdW H id λe=>match e with
   | .box cells=>Zgb cells off λcs=>Qb ti cs λr=>ZqB regs o.dst r K
   | _=>False
  | _=>False
 | _,_=>False
def Zuy:Prop:=True
def ZfQ (Δ:Tab) (Γ:Gam) (ops:List Oper) (V:List Nat):Vo->Bool->List SV->List Entry->(List SV->List Entry->Prop)->Prop
 | .done,false,regs,H,K=>Zuy/\K regs H
 | .done,true,_,_,_=>True
 | .op i p,_,regs,H,K=>ZrJ ops i λo=>ZrM Δ Γ ops o regs H λregs' H'=>ZfQ Δ Γ ops V p false regs' H' K
 | .ld i p,_,regs,H,K=>ZrJ ops i λo=>ldK Δ V o regs H λregs'=>ZfQ Δ Γ ops V p false regs' H K
 | .can _,_,_,_,_=>False
 | .alt i p .done,_,regs,H,K=>ZrJ ops i λo=>Zum Γ (Zuu ops) V regs H o.op (ZrM Δ Γ ops o regs H λregs' H'=>ZfQ Δ Γ ops V p false regs' H' K)
 | .alt i p q,_,regs,H,K=>(ZrJ ops i λo=>Zum Γ (Zuu ops) V regs H o.op (ZrM Δ Γ ops o regs H λregs' H'=>ZfQ Δ Γ ops V p false regs' H' K))/\ZfQ Δ Γ ops V q true regs H K
def Zv3 (Γ:Gam) (ops:Array Oper) (j:Nat):Bool:=match ops[j]? with
 | some o=>Zgf Γ o.op
 | none=>true
def ZtI (Γ:Gam) (ops:Array Oper) (j:Nat):Bool:=match ops[j]? with
 | some o=>Zwi Γ (Zuu ops.toList) o.op
 | none=>false
def VOk (V:List Nat) (Bk:Nat->Option Nat) (E:Env):Prop:=∀ id,Za8 id V=true->∃ b,Bk id=some b/\E.ids[id]?=some (.pointer (some ⟨b,0,none⟩))
theorem VOk.le {V:List Nat} {Bk:Nat->Option Nat} {E E':Env} (h:VOk V Bk E) (hle:E.le E'):VOk V Bk E':=λid hi=>by
 obtain ⟨b,h1,h2⟩:=h id hi;exact ⟨b,h1,hle.ids _ _ h2⟩
def Zmf (B:Base) (V:List Nat) (Bk:Nat->Option Nat) (regs:List SV) (H:List Entry) (a:Act) (w:World):Prop :=
 ∃ E,VOk V Bk E/\E.w=w/\Inv B E H/\ZW E regs a.tmps.toList/\a.defers=[]
theorem Zmf.ZxR {B:Base} {V:List Nat} {Bk:Nat->Option Nat} {regs:List SV} {H:List Entry} {a:Act} {w:World} (h:Zmf B V Bk regs H a w):Conc B regs H a w:=by
 obtain ⟨E,_,h⟩:=h;exact ⟨E,h⟩
def Leaves (Γ:Gam) (ops:Array Oper) (V:List Nat) (Bk:Nat->Option Nat) (j:Nat) (w w':World):Prop :=
 (Zv3 Γ ops j=true->Grow w w')/\(ZtI Γ ops j=true->∀ id b,Za8 id V=true->Bk id=some b->b<w.heap.size->w'.heap[b]?=w.heap[b]?)
theorem Leaves.refl {Γ:Gam} {ops:Array Oper} {V:List Nat} {Bk:Nat->Option Nat} {j:Nat} (w:World):Leaves Γ ops V Bk j w w:=⟨λ_=>Grow.refl w,λ_ _ _ _ _ _=>rfl⟩
def Rb (b:Nat) (w w':World):Prop:=b<w.heap.size->b<w'.heap.size/\w'.heap[b]?=w.heap[b]?
theorem Rb.way (b:Nat):Way (Rb b):=⟨λw h=>⟨h,rfl⟩,λx y z h1 h2 h=>by
 obtain ⟨a1,a2⟩:=h1 h;obtain ⟨b1,b2⟩:=h2 a1;grind⟩
theorem Rb.of {b:Nat} {w w':World} (h:b<w.heap.size->w'.heap[b]?=w.heap[b]?):Rb b w w':=λhb=>by
 grind
theorem Zf7:∀ (V:List Nat) {H:List Entry} {K:Prop},Zf6 V H K->K/\∀ id,Za8 id V=true->∃ cells,H[id]?=some (.box cells)
 | [],H,K,h=>⟨h,λid hi=>by cases hi⟩
 | i::r,H,K,h=>by
  unfold Zf6 at h;obtain ⟨e,he,h⟩:=Yu H h;split at h
  ·rename_i cells
   obtain ⟨hk,hr⟩:=Zf7 r h;refine ⟨hk,λid hi=>?_⟩;unfold Za8 at hi;rcases Bool.or_eq_true _ _▸hi with hq | hq
   all_goals simp_all
  ·exact h.elim
theorem ZtD {B:Base} {E:Env} {H:List Entry} (hI:Inv B E H) {regs:List SV} {a:Act} (hd:ZW E regs a.tmps.toList) {V:List Nat} {Bk:Nat->Option Nat} (hV:VOk V Bk E):∀ (xs:List Operand) {K:Prop},wrK V regs H xs K->
  K/\(∀ id,Za8 id V=true->∃ cells,H[id]?=some (.box cells))/\∀ id b,Za8 id V=true->Bk id=some b->∀ x∈xs,Yl (a.eval x)≠some b
 | [],K,h=>⟨(Zf7 V h).1,(Zf7 V h).2,λid b _ _ x hx=>by cases hx⟩
 | x::r,K,h=>by
  unfold wrK at h;obtain ⟨s,hs,h⟩:=Z8 hd h;split at h
  ·rename_i i off
   obtain ⟨hn,h⟩:=h;obtain ⟨en,he,h⟩:=Yu H h;split at h
   ·rename_i cells
    obtain ⟨hk,hbox,hr⟩:=ZtD hI hd hV r h;refine ⟨hk,hbox,λid b hi hbk y hy=>?_⟩;rcases List.mem_cons.1 hy with rfl | hy
    ·simp only[den] at hs
     obtain ⟨b0,h1,h2⟩:=hs;rw[h2];intro e;simp only[Yl,Option.some.injEq] at e;subst e;obtain ⟨b',hb1,hb2⟩:=hV id hi;rw[hbk] at hb1;injection hb1 with hb1
     subst hb1;obtain ⟨cells',hc⟩:=hbox id hi;have hkid:i≠id:=λq=>by grind
     exact ZkZ hI hc hb2 he rfl h1 hkid (by simp[Zev,Yl])
    grind
   ·exact h.elim
  ·exact h.elim
theorem ZtH {B:Base} {E:Env} {H:List Entry} (hI:Inv B E H) {regs:List SV} {a:Act} (hd:ZW E regs a.tmps.toList) {V:List Nat} {Bk:Nat->Option Nat} (hV:VOk V Bk E) {Γ:Gam} {st:Bool} {op:Op} {K:Prop} (h:Zum Γ st V regs H op K) :
  (K/\∀ x,ZtJ st op=some x->∀ w',E.w.grownBy w' (Yl (a.eval x))->∀ id b,Za8 id V=true->Bk id=some b->b<E.w.heap.size->w'.heap[b]?=E.w.heap[b]?)/\
  ∀ xs,Zgx Γ op=some xs->∀ id b,Za8 id V=true->Bk id=some b->∀ x∈xs,Yl (a.eval x)≠some b:=by
 unfold Zum at h;split at h
 ·exact ⟨⟨h,λx _ w' _ id b hi=>by cases hi⟩,λxs _ id b hi=>by cases hi⟩
 ·split at h
  ·rename_i ha
   split at h
   ·grind
   ·rename_i xs hw
    obtain ⟨hk,_,h2⟩:=ZtD hI hd hV xs h;grind
  ·rename_i x ha
   refine ⟨?_,λxs hx=>by rw[ZvS (Zpl ha)] at hx;cases hx⟩;obtain ⟨s,hs,h⟩:=Z8 hd h;split at h
   ·simp only[den] at hs
    refine ⟨h,λy hy w' hg id b _ _ hb=>?_⟩;rw[ha] at hy;injection hy with hy;subst hy
    rw[hs] at hg;exact hg.block b hb (λe=>by simp[Yl] at e)
   ·rename_i k
    obtain ⟨hn,h⟩:=h;obtain ⟨en,he,h⟩:=Yu H h;simp only[den] at hs;have fin:∀ {K:Prop},Zf6 V H K->en.live=true->(∀ g,Yl (a.eval x)=some g->Zev en (a.eval x) g)->K/\∀ y,ZtJ st op=some y->∀ w',E.w.grownBy w' (Yl (a.eval y))->∀ id b,Za8 id V=true->Bk id=some b->b<E.w.heap.size->w'.heap[b]?=E.w.heap[b]?:=by
     intro K h hl hblk;obtain ⟨hk,hbox⟩:=Zf7 V h;refine ⟨hk,λy hy w' hg id b hi hbk hb=>?_⟩;rw[ha] at hy;injection hy with hy;subst hy
     obtain ⟨cells,hc⟩:=hbox id hi;obtain ⟨b',hb1,hb2⟩:=hV id hi;rw[hbk] at hb1;injection hb1 with hb1;subst hb1
     refine hg.block b hb (λe=>?_);have hkid:k≠id:=λq=>by grind
     exact ZkZ hI hc hb2 he hl hs.1 hkid (hblk b e.symm)
    split at h
    ·exact fin h rfl (λg hg=>hg)
    ·obtain ⟨v,xs,fps,e1,_,_,efp,_⟩:=hI.ent k _ he
     have:=hs.1.symm.trans e1;simp at this;subst this;exact fin h rfl (λg hg=>by simp only[Zev];rw[efp,hg];simp)
    ·exact h.elim
   ·rename_i k sz i off
    obtain ⟨hn,h⟩:=h;obtain ⟨en,he,h⟩:=Yu H h;simp only[den] at hs;obtain ⟨g0,bo,n0,c0,hs1,hs2⟩:=hs;have fin:∀ {K:Prop},Zf6 V H K->en.live=true->Zev en (.slice (some ⟨g0,bo,none⟩) n0 c0) g0->K/\∀ y,ZtJ st op=some y->∀ w',E.w.grownBy w' (Yl (a.eval y))->∀ id b,Za8 id V=true->Bk id=some b->b<E.w.heap.size->w'.heap[b]?=E.w.heap[b]?:=by
     intro K h hl hblk;obtain ⟨hk,hbox⟩:=Zf7 V h;refine ⟨hk,λy hy w' hg id b hi hbk hb=>?_⟩;rw[ha] at hy;injection hy with hy;subst hy
     obtain ⟨cells,hc⟩:=hbox id hi;obtain ⟨b',hb1,hb2⟩:=hV id hi;rw[hbk] at hb1;injection hb1 with hb1;subst hb1
     refine hg.block b hb (λe=>?_);rw[hs2] at e;simp only[Yl,Option.some.injEq] at e;subst e;have hkid:k≠id:=λq=>by grind
     exact ZkZ hI hc hb2 he hl hs1 hkid hblk
    split at h
    ·exact fin h rfl rfl
    ·obtain ⟨v,xs,fps,e1,_,_,efp,_⟩:=hI.ent k _ he
     have:=hs1.symm.trans e1;simp at this;subst this;exact fin h rfl (by simp only[Zev];rw[efp];simp[Yl])
    ·obtain ⟨v,xs,x1,vxs,x2,f1,f2,k1,ho,hi0,hi1,ex,el,el2,hr1,hr2,hdc,ef,hnd⟩:=hI.ent k _ he
     have:=hs1.symm.trans k1;simp at this;subst this;exact fin h rfl (by simp only[Zev];rw[ef];simp[Yl])
    ·exact h.elim
   ·exact h.elim
theorem Zsy {M:List Nat} (hM:∀ i j,Zbd M i j=true->Behind ops i j) {Δ:Tab} (hΔ:Δ.ok P) {Γ:Gam} (hΓ:Γ.ok P) {B:Base} {V:List Nat} {Bk:Nat->Option Nat} {Q:Exit->Act->World->Prop} (hQ:∀ c a w,¬Q (.panic c) a w) (hs:Zi5 ops=true) {K:List SV->List Entry->Prop}
  (hq:∀ regs' H' a' w',K regs' H'->Zmf B V Bk regs' H' a' w'->Q .normal a' w') :
  ∀ (p:Vo) (n:Nat) (listed:Array Bool) (m:Option (List Nat)) (regs:List SV) (H:List Entry) (a:Act) (w:World),Zmf B V Bk regs H a w->Down ops listed->Jo Γ ops M p n listed m=true->ZfQ Δ Γ ops.toList V p m.isSome regs H K->
   match m with
   | none=>Zkh P ops (Leaves Γ ops V Bk) Q n listed a w
   | some rem=>∀ i∈rem,i∈Region.ready .any ops listed->wpOp P ops Q i (λa' w'=>Leaves Γ ops V Bk i w w'/\Zkh P ops (Leaves Γ ops V Bk) Q (n-1) (listed.setIfInBounds i true) a' w') a w:=by
 have hsel:∀ (j:Nat) (o:Oper) cs b,ops[j]?=some o->o.op≠.select cs b:=by
  intro j o cs b hj he;unfold Zi5 at hs;grind
 have heavy:∀ (i n:Nat) (listed:Array Bool) (p:Vo) (regs:List SV) (H:List Entry) (a:Act) (w:World),Zmf B V Bk regs H a w->Down ops listed->i∈Region.ready .any ops listed->Jo Γ ops M p n (listed.setIfInBounds i true) none=true->
   (∀ regs H a w,Zmf B V Bk regs H a w->ZfQ Δ Γ ops.toList V p false regs H K->Zkh P ops (Leaves Γ ops V Bk) Q n (listed.setIfInBounds i true) a w)->
   (ZrJ ops.toList i λo=>Zum Γ (Zuu ops.toList) V regs H o.op (ZrM Δ Γ ops.toList o regs H λregs' H'=>ZfQ Δ Γ ops.toList V p false regs' H' K))->
   wpOp P ops Q i (λa' w'=>Leaves Γ ops V Bk i w w'/\Zkh P ops (Leaves Γ ops V Bk) Q n (listed.setIfInBounds i true) a' w') a w:=by
  intro i n listed p regs H a w hc hd hr hp ih hk;obtain ⟨o,ho,hk⟩:=ZjR _ hk;have ho':ops[i]?=some o:=by simpa using ho
  unfold wpOp;simp only[ho'];obtain ⟨E,hV,rfl,hI,hdn,hdef⟩:=hc;obtain ⟨⟨hk,happ⟩,hwrs⟩:=ZtH hI hdn hV hk;refine ZpW hΔ hΓ ops o hI hdn hdef hk (λregs' H' a' E' hk' hI' hd' hdef' hle hg hap hwr=>⟨⟨λhgr=>hg ?_,λhb=>?_⟩,ih regs' H' a' E'.w ⟨E',hV.le hle,rfl,hI',hd',hdef'⟩ hk'⟩)
  ·simpa[Zv3,ho'] using hgr
  ·simp only[ZtI,ho',Zwi,Bool.or_eq_true,Option.isSome_iff_exists] at hb
   rcases hb with ⟨x,hx⟩ | ⟨xs,hx⟩
   ·exact happ x hx _ (hap x (Zpl hx))
   grind
 intro p;induction p with
 | done =>
  intro n listed m regs H a w hc hd hp hk;cases m with
  | none =>
   simp only[Jo,List.isEmpty_iff] at hp;simp only[ZfQ,Option.isSome] at hk;cases n with
   | zero=>exact ⟨hp,hq _ _ _ _ hk.2 hc⟩
   | succ n=>exact ⟨λ_=>hq _ _ _ _ hk.2 hc,λi hi=>by grind⟩
  | some rem =>
   simp only[Jo,List.isEmpty_iff] at hp;grind
 | op i p ih =>
  intro n listed m regs H a w hc hd hp hk;cases m with
  | some rem=>cases n<;>simp[Jo] at hp
  | none =>
   cases n with
   | zero=>simp[Jo] at hp
   | succ n =>
    simp only[Jo,Bool.and_eq_true,List.contains_iff_mem] at hp;obtain ⟨⟨hr,hf⟩,hp⟩:=hp;simp only[ZfQ] at hk;obtain ⟨o,ho,hk⟩:=ZjR _ hk;have ho':ops[i]?=some o:=by simpa using ho
    unfold ZuK at hf;simp only[ho',Bool.and_eq_true] at hf;obtain ⟨hl,hf⟩:=hf;obtain ⟨E,hV,rfl,hI,hdn,hdef⟩:=hc;obtain ⟨v,hy,regs',H',hk',E',hle',hw',hc'⟩:=ZrE hΔ ops o hl hI hdn hdef hk;have hfree:∀ j oj,ops[j]?=some oj->j≠i->Zbd M i j=false->Zbd M j i=false->o.apart ops oj=true/\(isLoad o.op=true->Zgf Γ oj.op=true):=by
     grind
    refine Zki (R:=λw w'=>isLoad o.op=true->ZnU w w') ⟨λw _=>ZnU.refl w,λa b c h1 h2 h=>(h1 h).trans (h2 h)⟩ ho' (λw=>Leaves.refl w) hsel hQ ?_ n listed a E.w hd hr hy (ih n _ none regs' H' _ _ ⟨E',hV.le hle',hw',hc'⟩ (hd.set hr) hp hk');intro j oj hj hji hb hb2;have nb:∀ x y,¬Behind ops x y->Zbd M x y=false:=λx y h=>by
     grind
    obtain ⟨h1,h2⟩:=hfree j oj hj hji (nb _ _ hb) (nb _ _ hb2);exact ⟨h1,λw w' h hld=>(h.1 (by simpa[Zv3,hj] using h2 hld)).ZAg⟩
 | ld i p ih =>
  intro n listed m regs H a w hc hd hp hk;cases m with
  | some rem=>cases n<;>simp[Jo] at hp
  | none =>
   cases n with
   | zero=>simp[Jo] at hp
   | succ n =>
    simp only[Jo,Bool.and_eq_true,List.contains_iff_mem] at hp;obtain ⟨⟨hr,hf⟩,hp⟩:=hp;simp only[ZfQ] at hk;obtain ⟨o,ho,hk⟩:=ZjR _ hk;have ho':ops[i]?=some o:=by simpa using ho
    obtain ⟨E,hV,rfl,hI,hdn,hdef⟩:=hc;unfold ZuL at hf;simp only[ho',Bool.and_eq_true] at hf;obtain ⟨_,hf⟩:=hf;unfold ldK at hk;split at hk
    ·rename_i T x hop hg
     obtain ⟨ti,ht,hk⟩:=YP Δ hΔ hk;obtain ⟨s,hs1,hk⟩:=Z8 hdn hk;split at hk
     ·rename_i id off
      obtain ⟨hid,hk⟩:=hk;obtain ⟨en,he,hk⟩:=Yu H hk;split at hk
      ·rename_i cells
       obtain ⟨b,u,r,hb,hrun,hden,hk⟩:=Zqr hI ht hs1 he hk;obtain ⟨b',hbk,hb'⟩:=hV id hid;have:=hb.symm.trans hb';simp at this;subst this;have hlt:b<E.w.heap.size:=(hI.free id _ _ b he rfl hb (by simp[Zev,Yl])).2.2;obtain ⟨regs',hd',hk',hdf⟩:=Zi9 (dst:=o.dst) (v:=u) hdn hden hk;have hlit:Lit P ops (Rb b) o u a E.w:=by
        refine .inl ⟨by simp[Region.wanted,hg],λw' hw'=>?_⟩;have h1:=hrun w' (hw' hlt).2;obtain ⟨dst,op,type,pos,after,guard⟩:=o;simp only at hop;subst hop;show Sem.run P (do pure (Next.value (<-Instr.loadAt T (a.eval x))):Sem Next) w'=_
        simp_all
       refine Zki (R:=Rb b) (Rb.way b) ho' (λw=>Leaves.refl w) hsel hQ ?_ n listed a E.w hd hr hlit (ih n _ none regs' H _ _ ⟨E,hV,rfl,hI,hd',by rw[hdf];exact hdef⟩ (hd.set hr) hp hk');intro j oj hj hji hb1 hb2;have nb:∀ x y,¬Behind ops x y->Zbd M x y=false:=λx y h=>by
        grind
       rw[List.all_eq_true] at hf;have:=hf j (List.mem_range.2 (Array.getElem?_eq_some_iff.1 hj).1);simp only[hj,nb _ _ hb1,nb _ _ hb2,Bool.or_eq_true,beq_iff_eq,Bool.and_eq_true,Bool.false_eq_true,or_false] at this;rcases this with h | ⟨h1,h2⟩
       ·exact absurd h hji
       ·refine ⟨h1,λw w' hlv=>Rb.of λhbl=>?_⟩
        rcases h2 with h2 | h2
        ·exact hlv.1 (by simpa[Zv3,hj] using h2) b hbl
        ·exact hlv.2 (by simpa[ZtI,hj] using h2) id b hid hbk hbl
      ·exact hk.elim
     ·exact hk.elim
    ·exact hk.elim
 | can p ih =>
  intro n listed m regs H a w hc hd hp hk;cases n<;>cases m<;>simp[Jo] at hp
 | alt i p q ihp ihq =>
  intro n listed m regs H a w hc hd hp hk;cases n with
  | zero=>cases m<;>simp[Jo] at hp
  | succ n =>
   obtain ⟨hk1,hk2⟩:(ZrJ ops.toList i λo=>Zum Γ (Zuu ops.toList) V regs H o.op (ZrM Δ Γ ops.toList o regs H λregs' H'=>ZfQ Δ Γ ops.toList V p false regs' H' K))/\ZfQ Δ Γ ops.toList V q true regs H K:=by
    cases q with
    | done=>exact ⟨by simpa only[ZfQ] using hk,trivial⟩
    | _=>simpa only[ZfQ] using hk
   cases m with
   | none =>
    simp only[Jo,Bool.and_eq_true,List.contains_iff_mem] at hp;obtain ⟨⟨hr,hp⟩,hpq⟩:=hp;have h1:=heavy i n listed p regs H a w hc hd hr hp (λregs H a w hc hk=>ihp n _ none regs H a w hc (hd.set hr) hp hk) hk1;have h2:=ihq (n+1) listed (some _) regs H a w hc hd hpq hk2;refine ⟨λh=>(by grind),λj hj=>?_⟩;grind
   | some rem =>
    simp only[Jo,Bool.and_eq_true] at hp;obtain ⟨hp,hpq⟩:=hp;have h2:=ihq (n+1) listed (some _) regs H a w hc hd hpq hk2;intro j hj hr;by_cases hji:j=i
    ·subst hji
     exact heavy j n listed p regs H a w hc hd hr hp (λregs H a w hc hk=>ihp n _ none regs H a w hc (hd.set hr) hp hk) hk1
    grind
def ZtU (Δ:Tab) (Γ:Gam) (ops:List Oper) (V:List Nat) (p:Vo) (regs:List SV) (H:List Entry) (K:List SV->List Entry->Prop):Prop:=match p with
 | .can p=>ZfQ Δ Γ ops V p false regs H λregs' H'=>ZoX H 0 λn=>canonK n regs' H' K
 | p=>ZfQ Δ Γ ops V p false regs H K
def Zru:Vo->Bool
 | .done=>false
 | .op _ p=>Zru p
 | .ld _ _=>true
 | .alt _ p q=>Zru p||Zru q
 | .can p=>Zru p
def ZnR:Nat->List Entry->(List Nat->Prop)->Prop
 | _,[],K=>K []
 | n,e::r,K=>ZnR (n+1) r λV=>match e with
  | .box _=>K (n::V)
  | _=>K V
def ZtV (i:Nat):List Nat->(List Nat->Prop)->Prop
 | [],K=>K []
 | j::r,K=>ZtV i r λr'=>match Nat.beq j i with
  | true=>K r'
  | false=>K (j::r')
def ZsE:List SV->Nat->List Nat->(List Nat->Prop)->Prop
 | [],_,V,K=>K V
 | s::_,0,V,K=>match s with
  | .ptr i _=>ZtV i V K
  | _=>K V
 | _::r,n+1,V,K=>ZsE r n V K
def Zr7 (t:Nat):List Oper->Nat
 | []=>t
 | o::r=>match o.dst,o.op with
  | some d,.move (.tmp t')=>match Nat.beq d t with
   | true=>t'
   | false=>Zr7 t r
  | _,_=>Zr7 t r
def Zn6 (all:List Oper) (regs:List SV):List Operand->List Nat->(List Nat->Prop)->Prop
 | [],V,K=>K V
 | x::r,V,K=>match x with
  | .tmp t=>ZsE regs (Zr7 t all) V λV'=>Zn6 all regs r V' K
  | _=>Zn6 all regs r V K
def Zk8 (Γ:Gam) (all:List Oper) (regs:List SV):List Oper->List Nat->(List Nat->Prop)->Prop
 | [],V,K=>K V
 | o::r,V,K=>match Zgx Γ o.op with
  | none=>Zk8 Γ all regs r V K
  | some xs=>Zn6 all regs xs V λV'=>Zk8 Γ all regs r V' K
theorem Zpy (i:Nat):∀ (V:List Nat) {K:List Nat->Prop},ZtV i V K->∃ V',K V'/\∀ id,Za8 id V'=true->Za8 id V=true
 | [],K,h=>⟨[],h,λid h=>h⟩
 | j::r,K,h=>by
  obtain ⟨r',h2,hr⟩:=Zpy i r h;clear h;split at h2
  ·exact ⟨r',h2,λid h=>by unfold Za8;grind⟩
  ·refine ⟨j::r',h2,λid h=>?_⟩
   unfold Za8 at h ⊢;grind
theorem Zpz:∀ (l:List SV) (n:Nat) (V:List Nat) {K:List Nat->Prop},ZsE l n V K->∃ V',K V'/\∀ id,Za8 id V'=true->Za8 id V=true
 | [],_,V,K,h=>⟨V,h,λid h=>h⟩
 | s::_,0,V,K,h=>by
  unfold ZsE at h;split at h
  ·exact Zpy _ V h
  grind
 | _::r,n+1,V,K,h=>Zpz r n V h
theorem Zk9 (all:List Oper) (regs:List SV):∀ (xs:List Operand) (V:List Nat) {K:List Nat->Prop},Zn6 all regs xs V K->∃ V',K V'/\∀ id,Za8 id V'=true->Za8 id V=true
 | [],V,K,h=>⟨V,h,λid h=>h⟩
 | x::r,V,K,h=>by
  unfold Zn6 at h;split at h
  ·obtain ⟨V1,h1,a1⟩:=Zpz _ _ _ h
   obtain ⟨V2,h2,a2⟩:=Zk9 all regs r V1 h1;grind
  ·exact Zk9 all regs r V h
theorem Zjr (Γ:Gam) (all:List Oper) (regs:List SV):∀ (l:List Oper) (V:List Nat) {K:List Nat->Prop},Zk8 Γ all regs l V K->∃ V',K V'/\∀ id,Za8 id V'=true->Za8 id V=true
 | [],V,K,h=>⟨V,h,λid h=>h⟩
 | o::r,V,K,h=>by
  unfold Zk8 at h;split at h
  ·exact Zjr Γ all regs r V h
  ·obtain ⟨V1,h1,a1⟩:=Zk9 _ _ _ _ h
   obtain ⟨V2,h2,a2⟩:=Zjr Γ all regs r V1 h1;grind
def Zsz (Γ:Gam) (ops:List Oper) (regs:List SV) (p:Vo) (H:List Entry) (K:List Nat->Prop):Prop:=match Zru p with
 | false=>K []
 | true=>ZnR 0 H λV=>Zk8 Γ ops regs ops V K
theorem Zmd:∀ (H:List Entry) (n:Nat) {K:List Nat->Prop},ZnR n H K->∃ V,K V/\∀ id,Za8 id V=true->n<=id/\∃ cells,H[id-n]?=some (.box cells)
 | [],n,K,h=>⟨[],h,λid hi=>by cases hi⟩
 | e::r,n,K,h=>by
  obtain ⟨V,h2,hV⟩:=Zmd r (n+1) h;clear h;have old:∀ id,Za8 id V=true->n<=id/\∃ cells,(e::r)[id-n]?=some (.box cells):=by
   grind
  split at h2
  ·rename_i cells
   refine ⟨_,h2,λid hi=>?_⟩;unfold Za8 at hi;rcases Bool.or_eq_true _ _▸hi with hq | hq
   all_goals simp_all
  grind
theorem ZsA {Γ:Gam} {ops:List Oper} {regs:List SV} {p:Vo} {H:List Entry} {K:List Nat->Prop} (h:Zsz Γ ops regs p H K):∃ V,K V/\∀ id,Za8 id V=true->∃ cells,H[id]?=some (.box cells):=by
 unfold Zsz at h;split at h
 ·exact ⟨[],h,λid hi=>by cases hi⟩
 ·obtain ⟨V,h,hV⟩:=Zmd H 0 h
  obtain ⟨V',h',hV'⟩:=Zjr Γ ops regs ops V h;grind
theorem Conc.drew {B:Base} {regs:List SV} {H:List Entry} {a:Act} {w:World} (h:Conc B regs H a w):Conc B regs H a {w with drawn:=w.drawn+1}:=by
 obtain ⟨E,hw,hI,hd,hdef⟩:=h;subst hw;have hle:E.le ⟨E.S,{E.w with drawn:=E.w.drawn+1},E.ids⟩:=⟨λb h=>h,λb h=>rfl,λi v h=>h⟩
 refine ⟨⟨E.S,{E.w with drawn:=E.w.drawn+1},E.ids⟩,rfl,?_,ZA hle _ _ hd,hdef⟩
 exact ⟨⟨hI.keeps.os,hI.keeps.tape,hI.keeps.output,hI.keeps.size,hI.keeps.block⟩,hI.Slt,hI.Sold,hI.glob.le hle,hI.len,hI.pin,λi e hi=>Zbg hle i e (λ_ _ _ _ _=>rfl) (hI.ent i e hi),hI.free,hI.sep⟩
theorem Zmf.drew {B:Base} {V:List Nat} {Bk:Nat->Option Nat} {regs:List SV} {H:List Entry} {a:Act} {w:World} (h:Zmf B V Bk regs H a w):Zmf B V Bk regs H a {w with drawn:=w.drawn+1}:=by
 obtain ⟨E,hV,hw,hI,hd,hdef⟩:=h;subst hw;have hle:E.le ⟨E.S,{E.w with drawn:=E.w.drawn+1},E.ids⟩:=⟨λb h=>h,λb h=>rfl,λi v h=>h⟩
 refine ⟨⟨E.S,{E.w with drawn:=E.w.drawn+1},E.ids⟩,hV,rfl,?_,ZA hle _ _ hd,hdef⟩
 exact ⟨⟨hI.keeps.os,hI.keeps.tape,hI.keeps.output,hI.keeps.size,hI.keeps.block⟩,hI.Slt,hI.Sold,hI.glob.le hle,hI.len,hI.pin,λi e hi=>Zbg hle i e (λ_ _ _ _ _=>rfl) (hI.ent i e hi),hI.free,hI.sep⟩
theorem VOk.ex (V:List Nat) {B:Base} {E:Env} {H:List Entry} (hI:Inv B E H) (h:∀ id,Za8 id V=true->∃ cells,H[id]?=some (.box cells)):∃ Bk,VOk V Bk E:=by
 refine ⟨λid=>match E.ids[id]? with
  | some (.pointer (some ⟨b,_,_⟩))=>some b
  | _=>none,λid hi=>?_⟩
 obtain ⟨cells,hc⟩:=h id hi;obtain ⟨b,_,_,h1,_⟩:=hI.ent id _ hc;grind
theorem ZsB {Δ:Tab} (hΔ:Δ.ok P) {Γ:Gam} (hΓ:Γ.ok P) {B:Base} {id:Nat} {Q:Exit->Act->World->Prop} (hm:P.follows .mixedOrders=true) {M:List Nat} (hM:Zij ops.toList []=M) {p:Vo} (hs:Zi5 ops=true)
  (hp:Jo Γ ops M p.core ops.size (Array.replicate ops.size false) none=true) {regs:List SV} {H:List Entry} {a:Act} {w:World} (hc:Conc B regs H a w)
  {K0:List SV->List Entry->Prop} (hk0:Zsz Γ ops.toList regs p.core H λV=>ZtU Δ Γ ops.toList V p regs H K0)
  (hq0:∀ regs' H' a' w',K0 regs' H'->Conc B regs' H' a' w'->Q .normal a' w'):(Code.region id ops true).wp P Q a w:=by
 obtain ⟨V,hk0,hVb⟩:=ZsA hk0;have hpin:∀ (i:Nat) (v:Value),B.pin[i]?=some v->i<H.length:=λi v hi=>by
  obtain ⟨E,_,hI,_⟩:=hc;have:=(List.getElem?_eq_some_iff.1 (hI.pin i v hi)).1;rw[hI.len] at this;exact this
 obtain ⟨K,hk,hq⟩:∃ K:List SV->List Entry->Prop,ZfQ Δ Γ ops.toList V p.core false regs H K/\∀ regs' H' a' w',K regs' H'->Conc B regs' H' a' w'->Q .normal a' w':=by
  unfold ZtU at hk0;split at hk0
  ·refine ⟨_,hk0,λregs' H' a' w' h hc'=>?_⟩
   rw[Zaj,Nat.zero_add] at h;obtain ⟨regs2,H2,h2,hc2⟩:=Zq4 hpin h hc';grind
  ·rename_i hne
   have hc0:p.core=p:=by
    cases p with
    | can q=>grind
    | _=>rfl
   grind
 generalize p.core=p at hp hk;have hcv:∃ Bk,Zmf B V Bk regs H a w:=by
  obtain ⟨E,hw,hI,hd,hdef⟩:=hc;obtain ⟨Bk,hV⟩:=VOk.ex V hI hVb;exact ⟨Bk,E,hV,hw,hI,hd,hdef⟩
 obtain ⟨Bk,hcv⟩:=hcv;refine Code.wp_mono (Q:=λe a w=>e=.normal/\Q e a w) (λe a w h=>h.2) ?_;refine wp_region_any hm (Zm6 (G:=Leaves Γ ops V Bk) _ _ _ _ ?_);have hMb:∀ i j,Zbd M i j=true->Behind ops i j:=by
  intro i j h;unfold Zbd at h;cases hj:M[j]? with
  | none=>simp[hj] at h
  | some m =>
   rw[<-hM] at hj;exact ZmW ops.toList [] (by simp) (by simp) j m hj i (by
    grind)
 refine Zsy hMb hΔ hΓ (Q:=λe a w=>e=.normal/\Q e a w) (λc a w h=>by cases h.1) hs (λregs' H' a' w' h1 h2=>⟨rfl,hq regs' H' a' w' h1 h2.ZxR⟩) p ops.size _ none regs H a _ hcv.drew ?_ hp hk;intro j oj e hj hl;have hlt:j<ops.size:=(Array.getElem?_eq_some_iff.1 hj).1;simp[hlt] at hl
end
def writes:Code->List Nat
 | .region _ ops _=>ops.toList.filterMap (·.dst)
 | .seq a b=>writes a++writes b
 | .cond _ a b=>writes a++writes b
 | .block _ c=>writes c
 | .loop c=>writes c
 | .scope c=>writes c
 | _=>[]
def ZrR:List Oper->Bool
 | []=>false
 | o::r=>match o.op,o.guard with
  | .panic _,none=>true
  | _,_=>ZrR r
structure Ann where
 loops:List (Nat×List Loc):=[]
 draws:List (Nat×List Nat×Vo):=[]
def ZsR:List (Nat×List Loc)->Nat->(List Loc->Prop)->Prop
 | [],_,_=>False
 | (n,l)::r,id,K=>if n=id then K l else ZsR r id K
def ZpD:List Nat->(List Nat->Bool)->Bool
 | [],k=>k []
 | x::r,k=>ZpD r λl=>k (x::l)
theorem Zn8:∀ (l:List Nat) (k:List Nat->Bool),ZpD l k=k l
 | [],_=>rfl
 | x::r,k=>by unfold ZpD;exact Zn8 r _
def Zt9 (Γ:Gam) (ops:Array Oper) (M:List Nat) (p:Vo):Bool:=match M with
 | []=>ZpD (Zij ops.toList []) λM=>Jo Γ ops M p.core ops.size (Array.replicate ops.size false) none
 | _=>Zij ops.toList [] == M&&Jo Γ ops M p.core ops.size (Array.replicate ops.size false) none
theorem Zs3 {Γ:Gam} {ops:Array Oper} {M:List Nat} {p:Vo} (h:Zt9 Γ ops M p=true):Jo Γ ops (Zij ops.toList []) p.core ops.size (Array.replicate ops.size false) none=true:=by
 unfold Zt9 at h;split at h
 ·rwa [Zn8] at h
 ·rw[Bool.and_eq_true,beq_iff_eq] at h
  rw[h.1];exact h.2
def ZsS:List (Nat×List Nat×Vo)->Nat->(List Nat->Vo->Prop)->Prop
 | [],_,_=>False
 | (n,M,l)::r,id,K=>if n=id then K M l else ZsS r id K
theorem ZpQ:∀ (A:List (Nat×List Nat×Vo)) {id:Nat} {K:List Nat->Vo->Prop},ZsS A id K->∃ M l,K M l
 | [],_,_,h=>h.elim
 | (n,M,l)::r,id,K,h=>by
  unfold ZsS at h;split at h
  ·exact ⟨M,l,h⟩
  ·exact ZpQ r h
theorem ZpP:∀ (A:List (Nat×List Loc)) {id:Nat} {K:List Loc->Prop},ZsR A id K->∃ l,K l
 | [],_,_,h=>h.elim
 | (n,l)::r,id,K,h=>by
  unfold ZsR at h;split at h
  ·exact ⟨l,h⟩
  ·exact ZpP r h
def Zys:Loc->Bool
 | .cell id _ _=>Nat.ble 1000 id
 | .cello id _ _=>Nat.ble 1000 id
 | .ent id _ _=>Nat.ble 1000 id
 | .splt id _ _=>Nat.ble 1000 id
 | _=>false
def Ztx:List Loc->Bool
 | []=>false
 | l::r=>match Zys l with
  | true=>true
  | false=>Ztx r
def Zs0 (id:Nat) (regs:List SV) (H:List Entry) (K:Nat->Prop):Prop :=
 Zkk regs ((id-1000) / 100) λs=>match s with
  | .ptr b o=>ZdW H b λen=>match en with
   | .box cs=>Zkk cs (o+(id-1000) % 100) λc=>match c with
    | .own i=>K i
    | _=>False
   | _=>False
  | _=>False
def Zr2 (regs:List SV) (H:List Entry) (K:Loc->Prop) (l:Loc):Prop:=match Zys l with
 | false=>K l
 | true=>match l with
  | .cell id off t=>Zkk regs (id-1000) λs=>match s with
   | .ptr b o=>K (.cell b (o+off) t)
   | _=>False
  | .cello id off e=>Zkk regs (id-1000) λs=>match s with
   | .ptr b o=>K (.cello b (o+off) e)
   | _=>False
  | .ent id et e=>Zs0 id regs H λi=>K (.ent i et e)
  | .splt id et e=>Zs0 id regs H λi=>K (.splt i et e)
  | _=>False
def Zs7 (regs:List SV) (H:List Entry):List Loc->(List Loc->Prop)->Prop
 | [],K=>K []
 | l::r,K=>Zr2 regs H (λl'=>Zs7 regs H r λr'=>K (l'::r')) l
def ZxQ (ls:List Loc) (regs:List SV) (H:List Entry) (K:List Loc->Prop):Prop:=match Ztx ls with
 | false=>K ls
 | true=>Zs7 regs H ls K
theorem ZiK:∀ (cs:List SV) {n:Nat} {K:SV->Prop},Zkk cs n K->∃ s,K s
 | [],_,_,h=>by simp[Zkk] at h
 | s::r,0,_,h=>⟨s,by simpa[Zkk] using h⟩
 | s::r,n+1,_,h=>ZiK r (by simpa[Zkk] using h)
theorem ZpZ {id:Nat} {regs:List SV} {H:List Entry} {K:Nat->Prop} (h:Zs0 id regs H K):∃ i,K i:=by
 unfold Zs0 at h;obtain ⟨s,h⟩:=ZiK _ h;split at h
 ·obtain ⟨en,_,h⟩:=Yu H h
  split at h
  ·obtain ⟨c,h⟩:=ZiK _ h
   split at h
   ·exact ⟨_,h⟩
   ·exact h.elim
  ·exact h.elim
 ·exact h.elim
theorem Zr3 {regs:List SV} {H:List Entry} {K:Loc->Prop} {l:Loc} (h:Zr2 regs H K l):∃ l',K l':=by
 unfold Zr2 at h;split at h
 ·exact ⟨_,h⟩
 ·split at h
  ·obtain ⟨s,h⟩:=ZiK _ h
   split at h
   ·exact ⟨_,h⟩
   ·exact h.elim
  ·obtain ⟨s,h⟩:=ZiK _ h
   split at h
   ·exact ⟨_,h⟩
   ·exact h.elim
  ·obtain ⟨i,h⟩:=ZpZ h
   exact ⟨_,h⟩
  ·obtain ⟨i,h⟩:=ZpZ h
   exact ⟨_,h⟩
  ·exact h.elim
theorem Zp4 {regs:List SV} {H:List Entry}:∀ (ls:List Loc) {K:List Loc->Prop},Zs7 regs H ls K->∃ ls',K ls'
 | [],_,h=>⟨[],h⟩
 | l::r,K,h=>by
  obtain ⟨l',h⟩:=Zr3 (K:=λl'=>Zs7 regs H r λr'=>K (l'::r')) h;obtain ⟨r',h⟩:=Zp4 r h;exact ⟨_,h⟩
theorem Zuk {ls:List Loc} {regs:List SV} {H:List Entry} {K:List Loc->Prop} (h:ZxQ ls regs H K):∃ ls',K ls':=by
 unfold ZxQ at h;split at h
 ·exact ⟨_,h⟩
 ·exact Zp4 ls h
def sx (Δ:Tab) (Γ:Gam) (A:Ann):Code->Nat->(Exit->List SV->List Entry->Prop)->List SV->List Entry->Prop
 | .skip,_,Q,regs,H=>Q .normal regs H
 | .label _,_,Q,regs,H=>Q .normal regs H
 | .ret,_,Q,regs,H=>Q .ret regs H
 | .exit id,_,Q,regs,H=>Q (.exit id) regs H
 | .region id ops draw,_,Q,regs,H=>if ZrR ops.toList=true then Dead else match draw with
  | false=>Zv9 Δ Γ ops.toList ops.toList regs H (Q .normal)
  | true=>ZsS A.draws id λM p=>(Zi5 ops&&Zt9 Γ ops M p)=true/\Zsz Γ ops.toList regs p.core H λV=>ZtU Δ Γ ops.toList V p regs H (Q .normal)
 | .seq a b,cur,Q,regs,H=>sx Δ Γ A a cur (λe r h=>match e with
  | .normal=>sx Δ Γ A b cur Q r h
  | e=>Q e r h) regs H
 | .cond c a b,cur,Q,regs,H=>QK regs c λs=>match s with
  | .blit true=>sx Δ Γ A a cur Q regs H
  | .blit false=>sx Δ Γ A b cur Q regs H
  | .bool p=>(p=true->sx Δ Γ A a cur Q regs H)/\(p=false->sx Δ Γ A b cur Q regs H)
  | _=>False
 | .block id c,_,Q,regs,H=>sx Δ Γ A c id (λe r h=>match e with
  | .exit id'=>if id'=id then Q .normal r h else Q (.exit id') r h
  | e=>Q e r h) regs H
 | .loop c,cur,Q,regs,H=>ZsR A.loops cur λl0=>ZxQ l0 regs H λls=>ZeO ls regs H λv0 H0=>Zgj ls (writes c) λW=>Zqw W regs λregs0=>Zky ls H0 λH1=>ZoX H1 0 λn0 =>
   ∃ (I:ZoH ls->Prop) (μ:ZoH ls->Nat),I v0/\∀ v,I v->ZnX ls v regs0 H1 λrh Hh=>sx Δ Γ A c cur (λe r h=>match e with
    | .normal=>ZeO ls r h λv' H2=>Zqw W r λr1=>Zky ls H2 λH3=>ZmJ H3 n0 λH4=>(r1=regs0/\H4=H1)/\I v'/\μ v'<μ v
    | e=>Q e r h) rh Hh
 | _,_,_,_,_=>False
theorem ZgE {p:Nat->Prop} (h:∃ n,p n):∃ n,p n/\∀ m,p m->n<=m:=by
 obtain ⟨n,hn⟩:=h;induction n using Nat.strongRecOn with
 | _ n ih =>
  by_cases hlt:∃ m,m<n/\p m
  ·obtain ⟨m,hm,hp⟩:=hlt;exact ih m hm hp
  ·exact ⟨n,hn,λm hm=>Nat.le_of_not_lt λhlt'=>hlt ⟨m,hlt',hm⟩⟩
theorem Zsi {P:Program} {c:Code} {Q:Exit->Act->World->Prop} (J:Nat->Act->World->Prop)
  (round:∀ n a w,J n a w->c.wp P (Exit.then (λa' w'=>∃ m,m<n/\J m a' w') Q) a w) {n:Nat} {a:Act} {w:World} (h:J n a w):(Code.loop c).wp P Q a w:=by
 classical
 let μ:Act->World->Nat:=λa w=>if h:∃ n,J n a w then Classical.choose (ZgE h) else 0
 have hμ:∀ a w (h:∃ n,J n a w),J (μ a w) a w/\∀ m,J m a w->μ a w<=m:=by
  intro a w h;have:μ a w=Classical.choose (ZgE h):=by simp only[μ,dif_pos h]
  rw[this];exact Classical.choose_spec (ZgE h)
 refine wp_loop (λa w=>∃ n,J n a w) μ ⟨n,h⟩ (λa w hJ=>?_);have h1:=(hμ a w hJ).1;refine Code.wp_mono ?_ (round _ a w h1);intro e a' w' hq;cases e with
 | normal =>
  obtain ⟨m,hm,hJm⟩:=hq;exact ⟨⟨m,hJm⟩,Nat.lt_of_le_of_lt ((hμ a' w' ⟨m,hJm⟩).2 m hJm) hm⟩
 | _=>exact hq
theorem Zek {B:Base} {E:Env}:∀ (ls:List Loc) {H:List Entry} (_:Inv B E H) {gs:List Nat} (_:Loose B E H gs) {K:List Entry->Prop} (_:Zky ls H K),
  ∃ H',Inv B E H'/\Loose B E H' gs/\K H'/\Boxed H H'
 | [],H,hI,gs,hL,K,hk=>⟨H,hI,hL,hk,Boxed.refl H⟩
 | .reg _ _::q,H,hI,gs,hL,K,hk=>Zek q hI hL hk
 | .ent _ _ _::q,H,hI,gs,hL,K,hk=>Zek q hI hL hk
 | .entm _ _ _::q,H,hI,gs,hL,K,hk=>Zek q hI hL hk
 | .splt _ _ _::q,H,hI,gs,hL,K,hk=>Zek q hI hL hk
 | .cell id off t::q,H,hI,gs,hL,K,hk=>by
  simp only[Zky] at hk;obtain ⟨e,he,hk⟩:=Yu H hk;split at hk
  ·rename_i cells
   rw[Zb1,YO] at hk;have hI1:=hI.weaken (cells':=cells.set off .bot) he (λ_ _ _ _ _ hd=>Zka hd off);obtain ⟨H',h1,h2,h3,h4⟩:=Zek q hI1 (hL.Zje he) hk;exact ⟨H',h1,h2,h3,(Boxed.Zje he).trans h4⟩
  ·exact hk.elim
 | .cello id off e0::q,H,hI,gs,hL,K,hk=>by
  simp only[Zky] at hk;obtain ⟨e,he,hk⟩:=Yu H hk;split at hk
  ·rename_i cells
   rw[Zb1,YO] at hk;have hI1:=hI.weaken (cells':=cells.set off .bot) he (λ_ _ _ _ _ hd=>Zka hd off);obtain ⟨H',h1,h2,h3,h4⟩:=Zek q hI1 (hL.Zje he) hk;exact ⟨H',h1,h2,h3,(Boxed.Zje he).trans h4⟩
  ·exact hk.elim
theorem ZbY:∀ (ls:List Loc) {W:List Nat} {K:List Nat->Prop},Zgj ls W K->∃ W',K W'
 | [],W,K,h=>⟨W,h⟩
 | .reg r _::q,W,K,h=>by obtain ⟨W',h⟩:=ZbY q h;exact ⟨_,h⟩
 | .cell _ _ _::q,W,K,h=>ZbY q h
 | .cello _ _ _::q,W,K,h=>ZbY q h
 | .ent _ _ _::q,W,K,h=>ZbY q h
 | .entm _ _ _::q,W,K,h=>ZbY q h
 | .splt _ _ _::q,W,K,h=>ZbY q h
theorem ZnQ {P:Program} {Δ:Tab} (hΔ:Δ.ok P) {Γ:Gam} (hΓ:Γ.ok P) (A:Ann) (hm:P.follows .mixedOrders=true) {B:Base}:∀ (c:Code) (cur:Nat) (Q:Exit->List SV->List Entry->Prop) {regs:List SV} {H:List Entry} (_:sx Δ Γ A c cur Q regs H)
  {a:Act} {w:World} (_:Conc B regs H a w) (R:Exit->Act->World->Prop) (_:∀ e regs' H' a' w',Q e regs' H'->Conc B regs' H' a' w'->R e a' w'),c.wp P R a w
 | .skip,_,Q,regs,H,h,a,w,hc,R,hR=>wp_skip (hR _ _ _ _ _ h hc)
 | .label _,_,Q,regs,H,h,a,w,hc,R,hR=>wp_label (hR _ _ _ _ _ h hc)
 | .ret,_,Q,regs,H,h,a,w,hc,R,hR=>wp_ret (hR _ _ _ _ _ h hc)
 | .exit id,_,Q,regs,H,h,a,w,hc,R,hR=>wp_exit (hR _ _ _ _ _ h hc)
 | .region id ops draw,_,Q,regs,H,h,a,w,hc,R,hR=>by
  simp only[sx] at h;split at h
  ·exact h.no.elim
  split at h
  ·exact wp_region_list (ZrP hΔ hΓ ops ops.toList hc h (λregs' H' a' w' hq hc'=>hR _ _ _ _ _ hq hc'))
  ·obtain ⟨M,p,h⟩:=ZpQ _ h
   obtain ⟨hb,h⟩:=h;rw[Bool.and_eq_true] at hb;exact ZsB hΔ hΓ hm rfl hb.1 (Zs3 hb.2) hc h (λregs' H' a' w' hq hc'=>hR _ _ _ _ _ hq hc')
 | .seq x y,cur,Q,regs,H,h,a,w,hc,R,hR=>by
  simp only[sx] at h;refine wp_seq (ZnQ hΔ hΓ A hm x cur _ h hc _ ?_);intro e regs' H' a' w' hq hc';cases e with
  | normal=>exact ZnQ hΔ hΓ A hm y cur Q hq hc' R hR
  | _=>exact hR _ _ _ _ _ hq hc'
 | .cond c x y,cur,Q,regs,H,h,a,w,hc,R,hR=>by
  simp only[sx] at h;obtain ⟨E,hw,hI,hd,hdef⟩:=hc;obtain ⟨s,hs,h⟩:=Z8 hd h;split at h
  ·simp only[den] at hs
   exact wp_cond_true hs (ZnQ hΔ hΓ A hm x cur Q h ⟨E,hw,hI,hd,hdef⟩ R hR)
  ·simp only[den] at hs
   exact wp_cond_false hs (ZnQ hΔ hΓ A hm y cur Q h ⟨E,hw,hI,hd,hdef⟩ R hR)
  ·simp only[den] at hs
   exact wp_cond_split hs (λe=>ZnQ hΔ hΓ A hm x cur Q (h.1 e) ⟨E,hw,hI,hd,hdef⟩ R hR) (λe=>ZnQ hΔ hΓ A hm y cur Q (h.2 e) ⟨E,hw,hI,hd,hdef⟩ R hR)
  ·exact h.elim
 | .block id c,cur,Q,regs,H,h,a,w,hc,R,hR=>by
  simp only[sx] at h;refine wp_block (ZnQ hΔ hΓ A hm c id _ h hc _ ?_);intro e regs' H' a' w' hq hc';cases e with
  | exit id' =>
   simp only at hq;simp only[Exit.inBlock];split at hq
   ·rename_i e;rw[if_pos e];exact hR _ _ _ _ _ hq hc'
   ·rename_i e;rw[if_neg e];exact hR _ _ _ _ _ hq hc'
  | _=>exact hR _ _ _ _ _ hq hc'
 | .loop c,cur,Q,regs,H,h,a,w,hc,R,hR=>by
  simp only[sx] at h;obtain ⟨l0,h⟩:=ZpP A.loops h;obtain ⟨ls,h⟩:=Zuk h;obtain ⟨E,hw,hI,hd,hdef⟩:=hc;obtain ⟨E0,H0,v0,g0,hw0,hid0,hI0,hle0,h,hl0,hL0,hb0⟩:=Zdb ls hI hd [] (Loose.none _ _ _) h;rw[List.append_nil] at hL0;obtain ⟨W,h⟩:=ZbY ls h;obtain ⟨regs0,hd0,h⟩:=Znz W regs _ (ZA hle0 _ _ hd) h;obtain ⟨H1,hI1,hL1,h,hbox1⟩:=Zek ls hI0 hL0 h;rw[Zaj,Nat.zero_add] at h;obtain ⟨I,μ,hI0v,hround⟩:=h;have hl1:=VJ rfl (λ_ h=>h) (λ_ _ h=>h) hbox1 ls v0 g0 hl0
  let Q':ZoH ls->Exit->List SV->List Entry->Prop:=λv e r h=>match e with
    | .normal=>ZeO ls r h λv' H2=>Zqw W r λr1=>Zky ls H2 λH3=>ZmJ H3 H1.length λH4=>(r1=regs0/\H4=H1)/\I v'/\μ v'<μ v
    | e=>Q e r h
  let J:Nat->Act->World->Prop:=λn a w=>∃ v rh Hh,I v/\μ v=n/\Conc B rh Hh a w/\sx Δ Γ A c cur (Q' v) rh Hh
  have start:J (μ v0) a w:=by
   obtain ⟨E',Hh,rh,hw',hI',hd',hk⟩:=Zfl ls v0 hI1 hd0 g0 hl1 hL1 (hround v0 hI0v);exact ⟨v0,rh,Hh,hI0v,rfl,⟨E',by rw[hw',hw0,hw],hI',hd',hdef⟩,hk⟩
  have rng:ZaO H1.length regs0:=by have:=Ve _ _ hd0;rwa [hI1.len] at this
  have erng:∀ e∈H1,ZoO H1.length e:=by
   intro e he;obtain ⟨i,hi⟩:=List.mem_iff_getElem?.1 he;have:=ZoN (hI1.ent i e hi)
   rwa [hI1.len] at this
  refine Zsi J ?_ start;rintro n a1 w1 ⟨v,rh,Hh,hIv,hμ,hc1,hsx⟩;subst hμ;refine ZnQ hΔ hΓ A hm c cur (Q' v) hsx hc1 _ ?_;intro e r' H' a' w' hq hc';cases e with
  | normal =>
   obtain ⟨E2,hw2,hI2,hd2,hdef2⟩:=hc';obtain ⟨E3,H3,v',g3,hw3,hid3,hI3,hle3,hq,hl3,hL3,hb3⟩:=Zdb ls hI2 hd2 [] (Loose.none _ _ _) hq;rw[List.append_nil] at hL3;obtain ⟨r1,hd3,hq⟩:=Znz W r' _ (ZA hle3 _ _ hd2) hq;obtain ⟨H4,hI4,hL4,hq,hbox4⟩:=Zek ls hI3 hL3 hq;rw[Zfw] at hq;obtain ⟨⟨hr1,hH4⟩,hIv',hlt⟩:=hq;have hpin:B.pin.length<=H1.length:=by
    rcases Nat.eq_zero_or_pos B.pin.length with h0 | h0
    ·omega
    ·have hlast:B.pin[B.pin.length-1]?=some (B.pin[B.pin.length-1]'(by omega)):=List.getElem?_eq_getElem _
     have:=(List.getElem?_eq_some_iff.1 (hI1.pin _ _ hlast)).1;rw[hI1.len] at this;omega
   have hI5:=hI4.trunc H1.length hpin (by rw[hH4];exact erng);rw[hH4] at hI5;have hd5:=V7 (n:=H1.length) _ _ (by rw[hr1];exact rng) hd3;rw[hr1] at hd5;have hl4:=VJ rfl (λ_ h=>h) (λ_ _ h=>h) hbox4 ls v' g3 hl3;obtain ⟨p1,p2,p3⟩:=Zav ls v0 g0 hl1;have hl5:QE B ⟨E3.S,E3.w,E3.ids.take H1.length⟩ H1 _ ls v' g3:=Q7 (E:=E3) (E':=⟨E3.S,E3.w,E3.ids.take H1.length⟩) (H':=H1) rfl (λ_ h=>h) (λi u hi hu=>by
    show (E3.ids.take H1.length)[i]?=some u;rw[List.getElem?_take,if_pos hi];exact hu) (λi c hi hlt=>by
     rw[<-hH4,List.getElem?_take,if_pos hlt];exact ⟨c,hi⟩) (λi c hi=>by
     rw[<-hH4,List.getElem?_take] at hi;split at hi
     ·exact ⟨c,hi⟩
     ·cases hi) ls v' g3 p1 p2 p3 hl4
   have hL5:Loose B ⟨E3.S,E3.w,E3.ids.take H1.length⟩ H1 g3:=⟨hL4.nodup,hL4.free,λg hg j ej vj hj hlv hv hb=>by
    have hj4:H4[j]?=some ej:=by
     rw[<-hH4,List.getElem?_take] at hj;split at hj
     ·exact hj
     ·cases hj
    have hv4:E3.ids[j]?=some vj:=by
     have hv':(E3.ids.take H1.length)[j]?=some vj:=hv;rw[List.getElem?_take] at hv';split at hv'
     ·exact hv'
     ·cases hv'
    exact hL4.apart g hg j ej vj hj4 hlv hv4 hb⟩
   obtain ⟨E',Hh',rh',hw',hI',hd',hk⟩:=Zfl ls v' hI5 hd5 g3 hl5 hL5 (hround v' hIv');exact ⟨μ v',hlt,v',rh',Hh',hIv',rfl,⟨E',by rw[hw'];show E3.w=w';rw[hw3,hw2],hI',hd',hdef2⟩,hk⟩
  | _=>exact hR _ _ _ _ _ hq hc'
 | .rangeFunc _ _ _ _,_,Q,regs,H,h,a,w,hc,R,hR=>by simp only[sx] at h
 | .scope _,_,Q,regs,H,h,a,w,hc,R,hR=>by simp only[sx] at h
 | .goto _,_,Q,regs,H,h,a,w,hc,R,hR=>by simp only[sx] at h
 | .refuse _,_,Q,regs,H,h,a,w,hc,R,hR=>by simp only[sx] at h
def Zqc:Nat->List SV->(List SV->Prop)->Prop
 | 0,l,K=>K l
 | n+1,l,K=>Zqc n (.tup []::l) K
theorem ZoD:∀ (n:Nat) (l:List SV) (K:List SV->Prop),Zqc n l K=K (List.replicate n (.tup [])++l)
 | 0,_,_=>rfl
 | n+1,l,K=>by
  simp only[Zqc,ZoD n];congr 1;rw[List.replicate_succ',List.append_assoc];rfl
def Zut (Δ:Tab):List ResultVar->List SV->List Entry->(List SV->Prop)->Prop
 | [],_,_,K=>K []
 | .tmp t::r,regs,H,K=>Zkk regs t λs=>Zut Δ r regs H λss=>K (s::ss)
 | .cell a T::r,regs,H,K=>Zkk regs a λsa=>Zax Δ T λti=>Zqs ti sa H λs=>Zut Δ r regs H λss=>K (s::ss)
def Zhy:(l:List Sh)->List SV->List Entry->(Ios l->Prop)->Prop
 | [],_,_,K=>K ()
 | .io e::r,ss,H,K=>match ss with
  | .ptr id 0::ss=>ZdW H id λen=>match en with
   | .box cells=>ZeR H id .gone λH0=>closeAll e cells H0 λd H1=>Zhy r ss H1 λds=>K (d,ds)
   | _=>False
  | _=>False
 | .back e::r,ss,H,K=>match ss with
  | s::ss=>if s.whole=true then closeAll e s.cells H λd H1=>Zhy r ss H1 λds=>K (d,ds) else False
  | _=>False
 | .dat _::r,ss,H,K=>match ss with
  | _::ss=>Zhy r ss H K
  | _=>False
 | .own _::r,ss,H,K=>match ss with
  | _::ss=>Zhy r ss H K
  | _=>False
def Zwa (Δ:Tab) (C:Ctr) (res:List ResultVar) (ss0 regs:List SV) (H:List Entry) (K:Shs C.rets->Ios C.args->Prop):Prop :=
 Zut Δ res regs H λss=>Zkj C.rets ss H λrs H1=>Zhy C.args ss0 H1 λios=>K rs ios
def fnK (Δ:Tab) (Γ:Gam) (A:Ann) (C:Ctr) (fn:Func) (as:Shs C.args) (K:Shs C.rets->Ios C.args->Prop):Prop :=
 match fn.body with
 | none=>False
 | some c=>ZjW C.args as [] λss H=>ZoX ss 0 λn=>Zqc (fn.ntmps-n) [] λus=>ZnV ss us λregs =>
  sx Δ Γ A c 0 (λe regs' H'=>match e with
   | .normal=>Zwa Δ C fn.results.toList ss regs' H' K
   | .ret=>Zwa Δ C fn.results.toList ss regs' H' K
   | _=>False) regs H
def Zue (tmps:Array Value):ResultVar->Sem Value
 | .tmp t=>pure (tmps.getD t undef)
 | .cell a t=>asAddr (tmps.getD a undef) >>= λp=>loadVar t p
theorem Zpa {P:Program} {Δ:Tab} (hΔ:Δ.ok P) {B:Base} {E:Env} {H:List Entry} (hI:Inv B E H) {regs:List SV} {tmps:Array Value} (hd:ZW E regs tmps.toList):∀ (l:List ResultVar) {K:List SV->Prop} (_:Zut Δ l regs H K),
  ∃ ss us,(l.mapM (Zue tmps)).run P E.w=.ok us E.w/\ZW E ss us/\K ss
 | [],K,hk=>⟨[],[],rfl,trivial,hk⟩
 | .tmp t::r,K,hk=>by
  simp only[Zut] at hk;obtain ⟨s,v,hv,hs,hk,_⟩:=Jv _ _ hd hk;obtain ⟨ss,us,h1,h2,h3⟩:=Zpa hΔ hI hd r hk;have hv':tmps.getD t undef=v:=by
   simp_all
  refine ⟨s::ss,v::us,?_,⟨hs,h2⟩,h3⟩;rw[List.mapM_cons,Sem.run_bind,Zue,hv',Sem.run_pure,Result.andThen_ok,Sem.run_bind,h1];rfl
 | .cell a T::r,K,hk=>by
  simp only[Zut] at hk;obtain ⟨sa,va,hv,hs,hk,_⟩:=Jv _ _ hd hk;obtain ⟨ti,ht,hk⟩:=YP Δ hΔ hk;obtain ⟨u,s,h0,hu,hk⟩:=ZpN hI ht hs hk;have h0:=h0.here;obtain ⟨ss,us,h1,h2,h3⟩:=Zpa hΔ hI hd r hk;have hv':tmps.getD a undef=va:=by
   simp_all
  have hptr:∃ p,va=.pointer (some p):=by
   cases va with
   | pointer p=>cases p with
    | some p=>exact ⟨p,rfl⟩
    | none=>simp[Instr.loadAt,Instr.sureAddr] at h0
   | _=>simp[Instr.loadAt,Instr.sureAddr] at h0
  obtain ⟨p,rfl⟩:=hptr;have h0':(loadVar T p).run P E.w=.ok u E.w:=by simpa[Instr.loadAt,Instr.sureAddr] using h0
  refine ⟨s::ss,u::us,?_,⟨hu,h2⟩,h3⟩;rw[List.mapM_cons,Sem.run_bind,Zue,hv',asAddr,pure_bind,h0',Result.andThen_ok,Sem.run_bind,h1];rfl
theorem ZqE (fn:Func) (tmps:Array Value):results fn tmps=(fn.results.mapM (Zue tmps) >>= λvs=>pure (if h:vs.size=1 then vs[0] else .tuple vs)):=by
 have e:(λx=>match x with
  | ResultVar.tmp t=>pure (tmps.getD t undef)
  | ResultVar.cell a t=>do loadVar t (<-asAddr (tmps.getD a undef)):ResultVar->Sem Value)=Zue tmps:=by
  funext x;cases x<;>rfl
 rw[<-e];rfl
theorem Zpc {P:Program} {fn:Func} {tmps:Array Value} {us:List Value} {w:World} (h:(fn.results.toList.mapM (Zue tmps)).run P w=.ok us w) :
  ∃ v,(results fn tmps).run P w=.ok v w/\retv us v:=by
 have h':(fn.results.mapM (Zue tmps)).run P w=.ok us.toArray w:=by
  rw[<-Array.toArray_toList (xs:=fn.results),List.mapM_toArray]
  simp_all
 rw[ZqE,Sem.run_bind,h',Result.andThen_ok];unfold retv
 match us with
 | [u]=>simp_all
 | []=>simp_all
 | a::b::r=>simp_all
theorem Zgh {B:Base}:∀ (l:List Sh) (ss:List SV) {E:Env} {H:List Entry} (_:Inv B E H) {vs:List Value} (_:ZW E ss vs) (_:∃ (S:Nat->Prop) (w:World) (as:Shs l) (fp:List Nat),ZbN S w l as vs fp) {gs:List Nat} (_:Loose B E H gs) {K:Ios l->Prop} (_:Zhy l ss H K),
  ∃ E1 H1 ios fio,Frz E H E1 H1/\Inv B E1 H1/\ZfH E1.S E1.w l ios vs fio/\K ios/\Loose B E1 H1 (fio++gs)
 | [],ss,E,H,hI,vs,hd,hf,gs,hL,K,hk=>⟨E,H,(),[],Frz.refl E H,hI,rfl,hk,hL⟩
 | .io e::r,ss,E,H,hI,vs,hd,⟨S,w,as,fp,v,vr,f0,fr,ev,_,hsh,hrest⟩,gs,hL,K,hk=>by
  simp only[Zhy] at hk;subst ev;split at hk
  ·rename_i id ss
   simp only[ZW] at hd;obtain ⟨en,he,hk⟩:=Yu H hk;split at hk
   ·rename_i cells
    rw[YO] at hk;have hv:=hd.1;simp only[den] at hv;obtain ⟨b,hb0,hv⟩:=hv;obtain ⟨b',cs0,T,e1,e2,e3⟩:=hI.ent id _ he;have:=hb0.symm.trans e1;simp at this;subst this;have t1:Frz E H E (H.set id .gone):=Frz.one he rfl hb0 rfl (Env.le.refl E) (λb hb=>.inl hb);have t3:=hL.take hI he rfl hb0 (f:=[b]) (by simp) (λg hg=>by
     simp at hg;subst hg;rfl)
    obtain ⟨E1,H1,d,f,hf1,hI1,hr,hk,hL1,hT,_⟩:=XQ (hI.drop id) e3 t3 hk;obtain ⟨E2,H2,ios,fio,hf2,hI2,hio,hk,hL2⟩:=Zgh r ss hI1 (ZA hf1.le _ _ hd.2) ⟨S,w,as.2,fr,hrest⟩ hL1 hk;refine ⟨E2,H2,(d,ios),(b::f)++fio,(t1.trans hf1).trans hf2,hI2,⟨v,vr,b::f,fio,rfl,rfl,⟨b,cs0,T,f,hv,by rw[hf2.w,hf1.w];exact e2,?_,rfl⟩,hio⟩,hk,hL2.perm ?_⟩
    ·exact Yg hf2.le.S hf2.le.w e _ _ _ (λg _=>by rw[hf2.w]) hr
    grind
   ·exact hk.elim
  ·exact hk.elim
 | .back e::r,ss,E,H,hI,vs,hd,⟨S,w,as,fp,v,vr,f0,fr,ev,_,hsh,hrest⟩,gs,hL,K,hk=>by
  simp only[Zhy] at hk;subst ev;split at hk
  ·rename_i s ss
   simp only[ZW] at hd;split at hk
   ·rename_i hw
    obtain ⟨E1,H1,d,f,hf1,hI1,hr,hk,hL1,hT,_⟩:=XQ hI (QX hd.1 hw) hL hk;obtain ⟨E2,H2,ios,fio,hf2,hI2,hio,hk,hL2⟩:=Zgh r ss hI1 (ZA hf1.le _ _ hd.2) ⟨S,w,as.2,fr,hrest⟩ hL1 hk;refine ⟨E2,H2,(d,ios),f++fio,hf1.trans hf2,hI2,⟨v,vr,f,fio,rfl,rfl,⟨hsh.1,?_⟩,hio⟩,hk,hL2.perm ?_⟩
    ·exact Yg hf2.le.S hf2.le.w e _ _ _ (λg _=>by rw[hf2.w]) hr
    grind
   ·exact hk.elim
  ·exact hk.elim
 | .dat _::r,ss,E,H,hI,vs,hd,⟨S,w,as,fp,v,vr,f0,fr,ev,_,hsh,hrest⟩,gs,hL,K,hk=>by
  simp only[Zhy] at hk;subst ev;split at hk
  ·simp only[ZW] at hd
   obtain ⟨E2,H2,ios,fio,hf2,hI2,hio,hk,hL2⟩:=Zgh r _ hI hd.2 ⟨S,w,as.2,fr,hrest⟩ hL hk;exact ⟨E2,H2,ios,fio,hf2,hI2,⟨v,vr,rfl,hio⟩,hk,hL2⟩
  ·exact hk.elim
 | .own _::r,ss,E,H,hI,vs,hd,⟨S,w,as,fp,v,vr,f0,fr,ev,_,hsh,hrest⟩,gs,hL,K,hk=>by
  simp only[Zhy] at hk;subst ev;split at hk
  ·simp only[ZW] at hd
   obtain ⟨E2,H2,ios,fio,hf2,hI2,hio,hk,hL2⟩:=Zgh r _ hI hd.2 ⟨S,w,as.2,fr,hrest⟩ hL hk;exact ⟨E2,H2,ios,fio,hf2,hI2,⟨v,vr,rfl,hio⟩,hk,hL2⟩
  ·exact hk.elim
theorem Zjg {w:World} {S:Nat->Prop}:∀ (l:List Sh) (d:Shs l) (vs:List Value) (fp:List Nat),ZbN S w l d vs fp->l.length=vs.length
 | [],_,_,_,h=>by rw[h.1];rfl
 | _::r,d,_,_,⟨v,vr,f,fr,e,_,_,h⟩=>by subst e;simp[Zjg r d.2 vr fr h]
theorem Inv.more {B:Base} {E:Env} {H:List Entry} (h:Inv B E H) (hB:∀ b,B.S b->b<B.w.heap.size/\¬B.io b):Inv B ⟨λb=>E.S b\/B.S b,E.w,E.ids⟩ H/\E.le ⟨λb=>E.S b\/B.S b,E.w,E.ids⟩:=by
 have hle:E.le ⟨λb=>E.S b\/B.S b,E.w,E.ids⟩:=⟨λ_ h=>.inl h,λ_ _=>rfl,λ_ _ h=>h⟩;exact ⟨
  {keeps:=h.keeps
   Slt:=λb hb=>hb.elim (h.Slt b) (λhb=>Nat.lt_of_lt_of_le (hB b hb).1 h.keeps.size)
   Sold:=λb hb hlt=>hb.elim (λhb=>h.Sold b hb hlt) .inl
   glob:=h.glob.le hle,len:=h.len,pin:=h.pin
   ent:=λi e hi=>Zbg hle i e (λ_ _ _ _ _=>rfl) (h.ent i e hi)
   free:=λi e v g hi hl hv hb=>by
    obtain ⟨a,b,c⟩:=h.free i e v g hi hl hv hb;grind
   sep:=h.sep},hle⟩
theorem Zf {P:Program} {Δ:Tab} (hΔ:Δ.ok P) {Γ:Gam} (hΓ:Γ.ok P) (hm:P.follows .mixedOrders=true) (A:Ann) {f:FuncId} {fn:Func} (hf:P.funcs[f]?=some fn) (hname:(fn.name == "runtime.NumGoroutine")=false:=by kernel_rfl) (hbody:fn.body.isNone=false:=by kernel_rfl) {C:Ctr}
  (hvc:∀ (as:Shs C.args) (K:Shs C.rets->Ios C.args->Prop),C.tr as K->fnK Δ Γ A C fn as K):Za P f C:=by
 refine ⟨⟨fn,hf,hname,hbody⟩,?_⟩;intro w S vs as fp K hSlt hG has hnd hpriv hK;have hk:=hvc as K hK;unfold fnK at hk;split at hk
 ·exact hk.elim
 ·rename_i c hbody'
  let B0:Base:=⟨w,S,λb=>b∈fp,[]⟩
  have hI0:Inv B0 ⟨S,w,[]⟩ [] :=
   {keeps:=⟨rfl,rfl,rfl,Nat.le_refl _,λ_ _ _=>rfl⟩
    Slt:=hSlt
    Sold:=λb hb _=>.inl hb
    glob:=hG
    len:=rfl
    pin:=λ_ _ h=>h
    ent:=λi e hi=>by simp at hi
    free:=λi e v g hi=>by simp at hi
    sep:=λi j ei ej vi vj g hi=>by simp at hi}
  have hL0:Loose B0 ⟨S,w,[]⟩ [] (fp++[]):=by
   rw[List.append_nil];exact ⟨hnd,λg hg=>⟨(hpriv g hg).1,.inr hg,(hpriv g hg).2⟩,λg _ j e v hj=>by simp at hj⟩
  obtain ⟨E1,H1,ss,hw1,hS1,hI1,hle1,hd1,hk⟩:=ZgI (E:=⟨S,w,[]⟩) C.args as vs hI0 has hL0 hk;rw[Zaj,ZoD,Jc,Nat.zero_add,List.append_nil] at hk;have hl:=Yp _ _ hd1
  let B:Base:=⟨w,S,λb=>b∈fp,E1.ids⟩
  have hI:Inv B E1 H1 :=
   {keeps:=⟨hI1.keeps.os,hI1.keeps.tape,hI1.keeps.output,hI1.keeps.size,hI1.keeps.block⟩
    Slt:=hI1.Slt,Sold:=hI1.Sold,glob:=hI1.glob,len:=hI1.len,pin:=λ_ _ h=>h,ent:=hI1.ent,free:=hI1.free,sep:=hI1.sep}
  refine calls_of_wp hf hbody' ?_;have hdens:ZW E1 (ss++List.replicate (fn.ntmps-ss.length) (.tup [])) (vs.toArray++Array.replicate (fn.ntmps-vs.toArray.size) undef).toList:=by
   rw[Array.toList_append,Array.toList_replicate,List.toList_toArray,List.size_toArray,hl];refine Jt _ _ hd1 _ _ ?_;have:∀ n,ZW E1 (List.replicate n (.tup [])) (List.replicate n undef):=by
    intro n;induction n with
    | zero=>trivial
    | succ n ih=>exact ⟨by simp only[den];exact ⟨[],rfl,trivial⟩,ih⟩
   exact this _
  rw[<-show E1.w=w from hw1];refine ZnQ hΔ hΓ A hm c 0 _ hk (B:=B) ⟨_,rfl,hI,hdens,rfl⟩ _ ?_;intro e regs' H' a' w' hq hc';obtain ⟨E2,hw2,hI2,hd2,hdef2⟩:=hc';subst hw2;rw[show E1.w=w from hw1];have fin:Zwa Δ C fn.results.toList ss regs' H' K->bodyPost P fn (λe w'=>∃ v us rs ios S' fr fio,e=.returned v/\retv us v/\K rs ios/\Keeps ⟨w,S,λb=>b∈fp,[]⟩ w'/\(∀ b,S b->S' b)/\
    (∀ b,S' b->b<w'.heap.size/\(b<w.heap.size->S b\/b∈fp))/\ZbN S' w' C.rets rs us fr/\ZfH S' w' C.args ios vs fio/\
    (fio++fr).Nodup/\∀ g∈fio++fr,¬S' g/\g<w'.heap.size/\(w.heap.size<=g\/g∈fp)) .ret a' E2.w:=by
   intro hq;unfold Zwa at hq;have hBS:∀ b,B.S b->b<B.w.heap.size/\¬B.io b:=λb hb=>⟨hSlt b hb,λhio=>(hpriv b hio).1 hb⟩;obtain ⟨hI3,hle3⟩:=hI2.more hBS;obtain ⟨ss',us,hrun,hds,hq⟩:=Zpa hΔ hI3 (ZA hle3 _ _ hd2) _ hq;have hle0:E1.le ⟨λb=>E2.S b\/B.S b,E2.w,E2.ids⟩:=by
    refine ⟨λb hb=>.inr (by grind),λb hb=>?_,λi v hv=>hI2.pin i v hv⟩;have hb':S b:=by grind
    rw[hw1];exact hI2.keeps.block b (hSlt b hb') (λhio=>(hpriv b hio).1 hb')
   have hss:=ZA hle0 _ _ hd1;obtain ⟨E4,H4,rs,fr,hf4,hI4,hrs,hq,hL4,_⟩:=Zgy C.rets ss' hI3 hds (Loose.none _ _ _) hq;obtain ⟨E5,H5,ios,fio,hf5,hI5,hio,hq,hL5⟩:=Zgh C.args ss hI4 (ZA hf4.le _ _ hss) ⟨S,w,as,fp,has⟩ hL4 hq;rw[List.append_nil] at hL5;obtain ⟨v,hv,hret⟩:=Zpc hrun;have hww:E5.w=E2.w:=by rw[hf5.w,hf4.w]
   refine bodyPost_ret hv hdef2 ⟨v,us,rs,ios,E5.S,fr,fio,rfl,hret,hq,?_,λb hb=>hf5.le.S b (hf4.le.S b (.inr hb)),?_,?_,?_,hL5.nodup,?_⟩
   ·have:=hI2.keeps
    exact ⟨this.os,this.tape,this.output,this.size,this.block⟩
   ·intro b hb
    exact ⟨by rw[<-hww];exact hI5.Slt b hb,λhlt=>hI5.Sold b hb hlt⟩
   ·show ZbN E5.S E2.w C.rets rs us fr
    rw[<-hww];exact Zot hf5.le _ _ _ _ (λg _=>by rw[hf5.w]) hrs
   ·grind
   ·intro g hg
    obtain ⟨a1,a2,a3⟩:=hL5.free g hg;grind
  cases e with
  | normal=>exact fin hq
  | ret=>exact fin hq
  | _=>exact hq.elim
def ZLH (Δ:Tab) (Γ:Gam) (A:Ann) (fn:Func) (ss:List SV) (H:List Entry) (K:SV->List Entry->Prop):Prop :=
 match fn.body with
 | none=>False
 | some c=>ZoX ss 0 λn=>Zqc (fn.ntmps-n) [] λus=>ZnV ss us λregs =>
  sx Δ Γ A c 0 (λe regs' H'=>match e with
   | .normal=>Zut Δ fn.results.toList regs' H' λss'=>ZrN ss' λs=>K s H'
   | .ret=>Zut Δ fn.results.toList regs' H' λss'=>ZrN ss' λs=>K s H'
   | _=>False) regs H
def ZLG (Δ:Tab) (Γ:Gam) (A:Ann) (fn:Func):Cal:=⟨ZLH Δ Γ A fn,false,none⟩
theorem ZK3 {P:Program} {Δ:Tab} (hΔ:Δ.ok P) {Γ:Gam} (hΓ:Γ.ok P) (hm:P.follows .mixedOrders=true) (A:Ann) {f:FuncId} {fn:Func} (hf:P.funcs[f]?=some fn) (hname:(fn.name == "runtime.NumGoroutine")=false) (hbody:fn.body.isNone=false):ZtE P f (ZLG Δ Γ A fn):=by
 refine ⟨⟨fn,hf,hname,hbody⟩,?_⟩;intro B E H hI ss vs hd K hk;have hk:ZLH Δ Γ A fn ss H K:=hk;unfold ZLH at hk;split at hk
 ·exact hk.elim
 ·rename_i c hbody'
  rw[Zaj,ZoD,Jc,Nat.zero_add,List.append_nil] at hk;have hl:=Yp _ _ hd
  let B1:Base:=⟨E.w,E.S,λb=>¬E.S b/\(B.w.heap.size<=b\/B.io b),E.ids⟩
  have hI1:Inv B1 E H :=
   {keeps:=⟨rfl,rfl,rfl,Nat.le_refl _,λ_ _ _=>rfl⟩
    Slt:=hI.Slt,Sold:=λb hb _=>.inl hb,glob:=hI.glob,len:=hI.len,pin:=λ_ _ h=>h,ent:=hI.ent
    free:=λi e v g hi hl hv hb=>by
     obtain ⟨a,b,c⟩:=hI.free i e v g hi hl hv hb;grind
    sep:=hI.sep}
  refine calls_of_wp hf hbody' ?_;have hdens:ZW E (ss++List.replicate (fn.ntmps-ss.length) (.tup [])) (vs.toArray++Array.replicate (fn.ntmps-vs.toArray.size) undef).toList:=by
   rw[Array.toList_append,Array.toList_replicate,List.toList_toArray,List.size_toArray,hl];refine Jt _ _ hd _ _ ?_;have:∀ n,ZW E (List.replicate n (.tup [])) (List.replicate n undef):=by
    intro n;induction n with
    | zero=>trivial
    | succ n ih=>exact ⟨by simp only[den];exact ⟨[],rfl,trivial⟩,ih⟩
   exact this _
  refine ZnQ hΔ hΓ A hm c 0 _ hk (B:=B1) ⟨_,rfl,hI1,hdens,rfl⟩ _ ?_;intro e regs' H' a' w' hq hc';obtain ⟨E2,hw2,hI2,hd2,hdef2⟩:=hc';subst hw2;have hBS:∀ b,B1.S b->b<B1.w.heap.size/\¬B1.io b:=λb hb=>⟨hI.Slt b hb,λhio=>hio.1 hb⟩;obtain ⟨hI3,hle3⟩:=hI2.more hBS;have hstand:∀ b,b<E.w.heap.size->¬(¬E.S b/\(B.w.heap.size<=b\/B.io b))->E2.w.heap[b]?=E.w.heap[b]?:=λb h1 h2=>hI2.keeps.block b h1 h2;have hsz:E.w.heap.size<=E2.w.heap.size:=hI2.keeps.size;have hB0:=hI.keeps.size;have hIB:Inv B ⟨λb=>E2.S b\/B1.S b,E2.w,E2.ids⟩ H' :=
   {keeps:=⟨hI2.keeps.os.trans hI.keeps.os,hI2.keeps.tape.trans hI.keeps.tape,hI2.keeps.output.trans hI.keeps.output,Nat.le_trans hB0 hsz,λb hb hio =>
     (hstand b (Nat.lt_of_lt_of_le hb hB0) (λh=>by
      grind)).trans (hI.keeps.block b hb hio)⟩
    Slt:=hI3.Slt
    Sold:=λb hb hlt=>by
     rcases hb with hb | hb
     ·rcases hI2.Sold b hb (Nat.lt_of_lt_of_le hlt hB0) with h | h
      ·exact hI.Sold b h hlt
      grind
     ·exact hI.Sold b hb hlt
    glob:=hI3.glob
    len:=hI2.len
    pin:=λi v hv=>hI2.pin i v (hI.pin i v hv)
    ent:=hI3.ent
    free:=λi e v g hi hl hv hb=>by
     obtain ⟨a,b,c⟩:=hI3.free i e v g hi hl hv hb;grind
    sep:=hI2.sep}
  have hle:E.le ⟨λb=>E2.S b\/B1.S b,E2.w,E2.ids⟩:=⟨λb hb=>.inr hb,λb hb=>hstand b (hI.Slt b hb) (λh=>h.1 hb),λi v hv=>hI2.pin i v hv⟩;have fin:(Zut Δ fn.results.toList regs' H' λss'=>ZrN ss' λs=>K s H')->bodyPost P fn (λe w'=>∃ v E' H' s,e=.returned v/\E'.w=w'/\Inv B E' H'/\E.le E'/\den E' s v/\K s H'/\((ZLG Δ Γ A fn).dat=true->Grow E.w w')/\(∀ m,(ZLG Δ Γ A fn).io=some m->∀ b,b<E.w.heap.size->(∀ v∈pick m vs,Yl v≠some b)->w'.heap[b]?=E.w.heap[b]?)) .ret a' E2.w:=by
   intro hq;obtain ⟨ss',us,hrun,hds,hq⟩:=Zpa hΔ hIB (ZA hle3 _ _ hd2) _ hq;obtain ⟨v,hv,hret⟩:=Zpc hrun;obtain ⟨s,hs,hq⟩:=ZsZ hds hret hq;exact bodyPost_ret hv hdef2 ⟨v,⟨λb=>E2.S b\/B1.S b,E2.w,E2.ids⟩,H',s,rfl,rfl,hIB,hle,hs,hq,(λh=>by cases h),(λm h=>by cases h)⟩
  cases e with
  | normal=>exact fin hq
  | ret=>exact fin hq
  | _=>exact hq.elim
def QN {α:Type} (o:Option α) (k:α->Prop):Prop:=∃ r,o=some r/\k r
def iterM {σ ρ:Type} (step:σ->Option (σ ⊕ ρ)):Nat->σ->Option ρ
 | 0,_=>none
 | n+1,v=>match step v with
  | none=>none
  | some (.inl v')=>iterM step n v'
  | some (.inr r)=>some r
theorem Zjz {σ ρ:Type} {step:σ->Option (σ ⊕ ρ)} {r:ρ}:∀ {n m:Nat} {v:σ},iterM step n v=some r->n<=m->iterM step m v=some r
 | 0,_,_,h,_=>by simp[iterM] at h
 | n+1,0,_,_,hm=>by omega
 | n+1,m+1,v,h,hm=>by
  simp only[iterM] at h ⊢;split at h
  ·cases h
  ·exact Zjz h (by omega)
  ·exact h
theorem Zrz {σ ρ:Type} {step:σ->Option (σ ⊕ ρ)} {r r':ρ} {n m:Nat} {v:σ} (h:iterM step n v=some r) (h':iterM step m v=some r'):r=r':=by
 have h1:=Zjz h (Nat.le_max_left n m);have h2:=Zjz h' (Nat.le_max_right n m);rw[h1] at h2;injection h2
noncomputable def Zq {σ ρ:Type} (step:σ->Option (σ ⊕ ρ)) (v:σ):Option ρ :=
 open Classical in if h:∃ r n,iterM step n v=some r then some (Classical.choose h) else none
theorem Zfz {σ ρ:Type} {step:σ->Option (σ ⊕ ρ)} {v:σ} {r:ρ}:Zq step v=some r<->∃ n,iterM step n v=some r:=by
 unfold Zq;constructor
 ·intro h
  split at h
  ·rename_i hx
   obtain ⟨n,hn⟩:=Classical.choose_spec hx;injection h with h;rw[h] at hn;exact ⟨n,hn⟩
  ·cases h
 ·rintro ⟨n,hn⟩
  have hx:∃ r n,iterM step n v=some r:=⟨r,n,hn⟩;rw[dif_pos hx];obtain ⟨m,hm⟩:=Classical.choose_spec hx;rw[Zrz hm hn]
theorem ZoF {σ ρ:Type} (step:σ->Option (σ ⊕ ρ)) (v:σ):Zq step v=match step v with
  | none=>none
  | some (.inl v')=>Zq step v'
  | some (.inr r)=>some r:=by
 apply Option.ext;intro r;rw[Zfz];constructor
 ·rintro ⟨n,hn⟩
  cases n with
  | zero=>simp[iterM] at hn
  | succ n =>
   simp only[iterM] at hn;split
   ·rename_i e;rw[e] at hn;cases hn
   ·rename_i v' e;rw[e] at hn;exact Zfz.2 ⟨n,hn⟩
   ·rename_i r' e;rw[e] at hn;exact hn
 ·intro h
  split at h
  ·cases h
  ·rename_i v' e
   obtain ⟨n,hn⟩:=Zfz.1 h;exact ⟨n+1,by simp only[iterM,e];exact hn⟩
  ·rename_i r' e
   exact ⟨1,by simp only[iterM,e];exact h⟩
theorem Zgw {σ ρ:Type} {step:σ->Option (σ ⊕ ρ)} {v v':σ} (h:step v=some (.inl v')):Zq step v=Zq step v':=by rw[ZoF,h]
theorem ZeP {σ ρ:Type} {step:σ->Option (σ ⊕ ρ)} {v:σ} {r:ρ} (h:step v=some (.inr r)):Zq step v=some r:=by rw[ZoF,h]
theorem ZqM {σ ρ:Type} {step:σ->Option (σ ⊕ ρ)} (I:σ->Prop) (μ:σ->Nat) (Q:ρ->Prop) {v:σ} (h0:I v)
  (hs:∀ v,I v->(∃ v',step v=some (.inl v')/\I v'/\μ v'<μ v)\/∃ r,step v=some (.inr r)/\Q r):∃ r,Zq step v=some r/\Q r:=by
 have:∀ n v,I v->μ v<n->∃ r,Zq step v=some r/\Q r:=by
  intro n;induction n with
  | zero=>intro v _ h;omega
  | succ n ih =>
   intro v hI hn;rcases hs v hI with ⟨v',e,hI',hlt⟩ | ⟨r,e,hq⟩
   ·obtain ⟨r,h1,h2⟩:=ih v' hI' (by omega)
    exact ⟨r,by rw[Zgw e];exact h1,h2⟩
   ·exact ⟨r,ZeP e,hq⟩
 exact this (μ v+1) v h0 (by omega)
def atI {α:Type} (l:List α) (i:Int):Option α:=if 0<=i then l[i.toNat]? else none
noncomputable def Zp {α:Type} (p:Prop) (a:Option α):Option α:=open Classical in if p then a else none
section
variable {α β:Type} {A B:Prop} {r:β} {a b:Option β}
theorem Zph {q:Prop} {_:Decidable q} (h:(if q then a else b)=some r) (ha:a=some r->A) (hb:b=some r->B):(decide q=true->A)/\(decide q=false->B):=by
 by_cases hq:q
 ·rw[if_pos hq] at h;exact ⟨λ_=>ha h,λe=>by simp[hq] at e⟩
 ·rw[if_neg hq] at h;exact ⟨λe=>by simp[hq] at e,λ_=>hb h⟩
theorem Ztl {q:Prop} {_:Decidable q} (h:(if q then a else b)=some r) (ha:a=some r->A) (hb:b=some r->B):(decide q=false->B)/\(decide q=true->A):=⟨(Zph h ha hb).2,(Zph h ha hb).1⟩
theorem ZqR {p:Bool} (h:(if p=true then a else b)=some r) (ha:a=some r->A) (hb:b=some r->B):(p=true->A)/\(p=false->B):=by
 cases p
 ·exact ⟨λe=>(by cases e),λ_=>hb h⟩
 ·exact ⟨λ_=>ha h,λe=>(by cases e)⟩
theorem Ztk {p:Bool} (h:(if p=true then a else b)=some r) (ha:a=some r->A) (hb:b=some r->B):(p=false->B)/\(p=true->A):=⟨(ZqR h ha hb).2,(ZqR h ha hb).1⟩
theorem Zuv {p:Bool} (h:(p=true->A)/\(p=false->B)):((!p)=false->A)/\((!p)=true->B):=⟨λe=>h.1 (by simpa using e),λe=>h.2 (by simpa using e)⟩
theorem Zpi {p:Bool} (h:(p=true->A)/\(p=false->B)):((!p)=true->B)/\((!p)=false->A):=⟨(Zuv h).2,(Zuv h).1⟩
theorem Ztm {p:Prop} (h:Zp p a=some r) (ha:p->a=some r->A):p/\A:=by
 unfold Zp at h;split at h
 ·rename_i hp;exact ⟨hp,ha hp h⟩
 ·cases h
theorem vAt {l:List α} {i:Int} {f:α->Option β} {A:α->Prop} (h:(atI l i).bind f=some r) (ha:∀ x,0<=i->i<(l.length:Int)->l[i.toNat]?=some x->f x=some r->A x) :
  0<=i/\i<(l.length:Int)/\∀ x,l[i.toNat]?=some x->A x:=by
 unfold atI at h;split at h
 ·rename_i h0
  cases hx:l[i.toNat]? with
  | none=>rw[hx] at h;cases h
  | some x =>
   rw[hx] at h;have hlt:=(List.getElem?_eq_some_iff.1 hx).1;exact ⟨h0,by omega,λy hy=>by injection hy with hy;subst hy;exact ha x h0 (by omega) hx h⟩
 ·cases h
theorem atE {l:List α} {i:Int} {f:α->Option β} (h:(atI l i).bind f=some r):∃ x,0<=i/\i<(l.length:Int)/\l[i.toNat]?=some x/\f x=some r:=by
 unfold atI at h;split at h
 ·rename_i h0
  cases hx:l[i.toNat]? with
  | none=>rw[hx] at h;cases h
  | some x =>
   rw[hx] at h;have hlt:=(List.getElem?_eq_some_iff.1 hx).1;exact ⟨x,h0,by omega,rfl,h⟩
 ·cases h
theorem guardE {p:Prop} (h:Zp p a=some r):p/\a=some r:=by
 unfold Zp at h;split at h
 ·rename_i hp;exact ⟨hp,h⟩
 ·cases h
theorem Zfy {o:Option α} {f:α->Option β} {k:α->Prop} (h:o.bind f=some r) (hk:∀ x,o=some x->f x=some r->k x):∃ x,o=some x/\k x:=by
 cases ho:o with
 | none=>rw[ho] at h;cases h
 | some x=>rw[ho] at h;exact ⟨x,rfl,hk x ho h⟩
theorem ZoE {o:Option α} {f:α->Option β} {k:α->Prop} (h:o.bind f=some r) (hk:∀ x,o=some x->f x=some r->k x):∀ x,o=some x->k x:=by
 intro x hx;rw[hx] at h;exact hk x hx h
theorem Zjl {o:Option α} {y:α} {G:α->Prop} (ha:o=some y) (k:G y):∀ x,o=some x->G x:=by
 intro x hx;rw[ha] at hx;injection hx with hx;subst hx;exact k
theorem ZxP {σ ρ:Type} {step:σ->Option (σ ⊕ ρ)} {v0:σ} {r:ρ} (h:Zq step v0=some r) {P:(σ->Prop)->(σ->Nat)->σ->Prop}
  (hb:∀ (I:σ->Prop) (μ:σ->Nat) (v:σ) (s:σ ⊕ ρ),step v=some s->(∀ v',s=.inl v'->I v'/\μ v'<μ v)->(∀ r',s=.inr r'->r'=r)->P I μ v) :
  ∃ I μ,I v0/\∀ v,I v->P I μ v:=by
 obtain ⟨n0,hn0⟩:=Zfz.1 h
 let I:σ->Prop:=λv=>∃ n,iterM step n v=some r
 classical
 let μ:σ->Nat:=λv=>if h:∃ n,iterM step n v=some r then Classical.choose (ZgE h) else 0
 have hμ:∀ v (h:∃ n,iterM step n v=some r),iterM step (μ v) v=some r/\∀ m,iterM step m v=some r->μ v<=m:=by
  intro v h;have:μ v=Classical.choose (ZgE h):=by simp only[μ,dif_pos h]
  rw[this];exact Classical.choose_spec (ZgE h)
 refine ⟨I,μ,⟨n0,hn0⟩,λv hv=>?_⟩;have h1:=(hμ v hv).1;cases hm:μ v with
 | zero=>rw[hm] at h1;simp[iterM] at h1
 | succ m =>
  rw[hm] at h1;simp only[iterM] at h1;split at h1
  ·cases h1
  ·rename_i v' e
   refine hb I μ v _ e (λv'' e'=>?_) (λr' e'=>by cases e');injection e' with e';subst e'
   exact ⟨⟨m,h1⟩,by have:=(hμ v' ⟨m,h1⟩).2 m h1;omega⟩
  ·rename_i r' e
   refine hb I μ v _ e (λv'' e'=>by cases e') (λr'' e'=>?_);injection e' with e';subst e';injection h1
end
def D1 (a r:Ty) (f:a.den->Option r.den):Ctr:=⟨[.dat a],[.dat r],λx K=>ZT x λp _=>QN (f p) λr=>K (r,()) ()⟩
def D2 (a b r:Ty) (f:a.den->b.den->Option r.den):Ctr:=⟨[.dat a,.dat b],[.dat r],λx K=>ZT x λp x=>ZT x λq _=>QN (f p q) λr=>K (r,()) ()⟩
def D3 (a b c r:Ty) (f:a.den->b.den->c.den->Option r.den):Ctr:=⟨[.dat a,.dat b,.dat c],[.dat r],λx K=>ZT x λp x=>ZT x λq x=>ZT x λs _=>QN (f p q s) λr=>K (r,()) ()⟩
def D4 (a b c d r:Ty) (f:a.den->b.den->c.den->d.den->Option r.den):Ctr:=⟨[.dat a,.dat b,.dat c,.dat d],[.dat r],λx K=>ZT x λp x=>ZT x λq x=>ZT x λs x=>ZT x λt _=>QN (f p q s t) λr=>K (r,()) ()⟩
theorem Zsx {B:Prop} (k:B):Zuy/\B:=⟨trivial,k⟩
theorem Zwf {α:Type} {v:α} {G:α->Prop} (k:G v):∀ x,x=v->G x:=λ_ e=>e▸k
theorem Zs9 {α:Type} {o:Option α} {G:α->Prop} (k:∀ x,o=some x->G x):∀ x,o=some x->G x:=k
theorem Zwg {α:Type} {o:Option α} {G:α->Prop} (k:∃ x,o=some x/\G x):∃ x,o=some x/\G x:=k
theorem Zgc {α:Type} {o:Option α} {y:α} {G:α->Prop} (ha:o=some y) (k:G y):∃ x,o=some x/\G x:=⟨y,ha,k⟩
theorem Zwd {α:Type} {l:List α} {i:Int} {G:α->Prop} (k:0<=i/\i<(l.length:Int)/\∀ x,l[i.toNat]?=some x->G x):0<=i/\i<(l.length:Int)/\∀ x,l[i.toNat]?=some x->G x:=k
theorem Zf3 {α:Type} {l:List α} {i:Int} {y:α} {G:α->Prop} (ha:0<=i) (hb:i<(l.length:Int)) (hx:l[i.toNat]?=some y) (k:G y):0<=i/\i<(l.length:Int)/\∀ x,l[i.toNat]?=some x->G x:=⟨ha,hb,Zjl hx k⟩
theorem Zwe {A B:Prop} {p x y:Bool} (k:(p=x->A)/\(p=y->B)):(p=x->A)/\(p=y->B):=k
theorem shD {A B:Prop} {q:Prop} {_:Decidable q} {x y:Bool} (k:(decide q=x->A)/\(decide q=y->B)):(decide q=x->A)/\(decide q=y->B):=k
theorem Ztb {A B:Prop} {p x y:Bool} (k:((!p)=x->A)/\((!p)=y->B)):((!p)=x->A)/\((!p)=y->B):=k
theorem Zta {α:Type} {l:List α} {A B:Prop} (k:(l=[]->A)/\B):(l=[]->A)/\B:=k
theorem Ztc {l:List Oper} {n:Nat} {K:Oper->Prop} {B:Prop} (k:ZrJ l n K/\B):ZrJ l n K/\B:=k
theorem orL {α:Type} {a:α} {P Q:Prop} (k:P):(a=a/\P)\/Q:=.inl ⟨rfl,k⟩
theorem Zsw {α:Type} {x:α} {P:Prop} (h:none=some x):P:=by cases h
theorem Zp6 {σ:Type} {P:(σ->Prop)->(σ->Nat)->σ->Prop} {v0:σ} (k:∃ I μ,I v0/\∀ v,I v->P I μ v):∃ I μ,I v0/\∀ v,I v->P I μ v:=k
theorem Zqd {σ ρ:Type} {step:σ->Option (σ ⊕ ρ)} {v0:σ} {r:ρ} (h:Zq step v0=some r) {P:(σ->Prop)->(σ->Nat)->σ->Prop} {G:Prop} (hK:G)
  (hb:∀ (I:σ->Prop) (μ:σ->Nat) (v:σ) (s:σ ⊕ ρ),step v=some s->((∀ v',s=.inl v'->I v'/\μ v'<μ v)/\(∀ r',s=.inr r'->r'=r)/\G)->P I μ v) :
  ∃ I μ,I v0/\∀ v,I v->P I μ v:=ZxP h λI μ v s h1 h2 h3=>hb I μ v s h1 ⟨h2,h3,hK⟩
theorem pB {α β:Type} {o:Option α} {f:α->Option β} {r:β} {G:Prop} (h:o.bind f=some r) (k:∀ x,o=some x->f x=some r->G):G:=by
 obtain ⟨x,h1,h2⟩:=Option.bind_eq_some_iff.1 h;exact k x h1 h2
theorem pA {α β:Type} {l:List α} {i:Int} {f:α->Option β} {r:β} {G:Prop} (h:(atI l i).bind f=some r) (k:∀ x,0<=i->i<(l.length:Int)->l[i.toNat]?=some x->f x=some r->G):G:=by
 obtain ⟨x,h1,h2,h3,h4⟩:=atE h;exact k x h1 h2 h3 h4
theorem pG {α:Type} {p:Prop} {a:Option α} {r:α} {G:Prop} (h:Zp p a=some r) (k:p->a=some r->G):G:=k (guardE h).1 (guardE h).2
theorem pS {α:Type} {a r:α} {G:Prop} (h:some a=some r) (k:a=r->G):G:=k (Option.some.inj h)
theorem pR {σ ρ:Type} {A G P:Prop} {a r:ρ} (h:A/\(∀ r',(.inr a:σ ⊕ ρ)=.inr r'->r'=r)/\G) (k:a=r->G->P):P:=k (h.2.1 _ rfl) h.2.2
noncomputable def Zuc {ρ:Type} (g:Nat->Option ρ):Option ρ :=
 open Classical in if h:∃ r n,g n=some r then some (Classical.choose h) else none
theorem ZlX {ρ:Type} {g:Nat->Option ρ} {r:ρ} (h:Zuc g=some r):∃ n,g n=some r:=by
 unfold Zuc at h;split at h
 ·rename_i hx
  obtain ⟨n,hn⟩:=Classical.choose_spec hx;injection h with h;rw[h] at hn;exact ⟨n,hn⟩
 ·cases h
end Go.Sx
namespace Go.Sx
set_option linter.unusedVariables false
set_option linter.unusedSimpArgs false
open Go.RowKit Go.ChangeShapes Go.WideShapes
mutual
def Vz (P:Program):Ty->TypeId->Bool
 | .int k,T=>ZpI k (P.underlying T)
 | .bool,T=>Znr (P.underlying T)
 | .str,T=>ZpJ (P.underlying T)
 | .sl t,T=>match P.underlying T with
  | some (.slice e)=>Vz P t e&&P.cellsOf e == t.size&&decide (0<t.size)
  | _=>false
 | .pair a b,T=>match P.underlying T with
  | some (.struct fs)=>match fs.toList with
   | f::fl=>Vz P a f.type&&f.offset == 0&&P.cellsOf f.type == a.size&&ZfE P b fl a.size&&P.cellsOf T == a.size+b.size
   | []=>false
  | _=>false
 | _,_=>false
def ZfE (P:Program):Ty->List Field->Nat->Bool
 | .unit,fl,_=>fl.isEmpty
 | .pair a b,fl,o=>match fl with
  | f::fl=>Vz P a f.type&&f.offset == o&&P.cellsOf f.type == a.size&&ZfE P b fl (o+a.size)
  | []=>false
 | _,_,_=>false
end
def bnd:(t:Ty)->t.den->Prop
 | .int k,n=>k.min<=n/\n<=k.max
 | .str,s=>(s.length:Int)<=9223372036854775807
 | .sl t,l=>(l.length:Int)<=9223372036854775807/\∀ x∈l,bnd t x
 | .pair a b,d=>bnd a d.1/\bnd b d.2
 | _,_=>True
section
variable {H:Type} {enc:TypeId×Value->H} {P:Program} {w:World} {spare:Nat->Bool} {held:Bool}
theorem ZuC (s:ByteArray):(⟨s.data.toList.toArray⟩:ByteArray)=s:=by
 cases s;simp
theorem Zr0 {t:Ty} {S:Nat->Prop} {p:Addr} {n:Nat} (hn:t.size=n):∀ (len:Nat) (css:List (List Value)),css.length=len->
  (∀ (i:Nat) (cs:List Value),css[i]?=some cs->cs.length=n/\∃ d:t.den,rep S w t d cs/\bnd t d)->
  ∃ l:List t.den,l.length=len/\YZ (rep S w t) l css.flatten/\∀ x∈l,bnd t x:=by
 intro len;induction len with
 | zero =>
  intro css hl _;have:css=[]:=List.eq_nil_of_length_eq_zero hl;subst this;exact ⟨[],rfl,rfl,by simp⟩
 | succ len ih =>
  intro css hl h;cases css with
  | nil=>simp at hl
  | cons cs css =>
   obtain ⟨_,d,hd,hb⟩:=h 0 cs rfl;obtain ⟨l,h1,h2,h3⟩:=ih css (by simpa using hl) (λi c hc=>h (i+1) c (by simpa using hc));refine ⟨d::l,by simp[h1],⟨cs,css.flatten,by simp,hd,h2⟩,?_⟩;intro x hx;rcases List.mem_cons.1 hx with rfl | hx
   ·exact hb
   ·exact h3 x hx
theorem Zla {n:Nat}:∀ (css:List (List Value)) (_:∀ cs∈css,cs.length=n) (i j:Nat) (cs:List Value) (_:css[i]?=some cs) (_:j<n),css.flatten[i*n+j]?=cs[j]?
 | [],_,i,j,cs,h,_=>by simp at h
 | c::css,hl,0,j,cs,h,hj=>by
  simp at h;subst h;have:=hl c (by simp);simp[List.getElem?_append_left (show j<c.length by omega)]
 | c::css,hl,i+1,j,cs,h,hj=>by
  have hc:=hl c (by simp);have:=Zla css (λx hx=>hl x (by simp[hx])) i j cs (by simpa using h) hj;rw[List.flatten_cons,List.getElem?_append_right (by rw[hc,Nat.succ_mul];omega),hc,show (i+1)*n+j-n=i*n+j by rw[Nat.succ_mul];omega];exact this
theorem Zlb {n:Nat}:∀ (css:List (List Value)) (_:∀ cs∈css,cs.length=n),css.flatten.length=css.length*n
 | [],_=>by simp
 | c::css,hl=>by
  have hc:=hl c (by simp);have:=Zlb css (λx hx=>hl x (by simp[hx]));simp only[List.flatten_cons,List.length_append,List.length_cons,this,hc,Nat.succ_mul];omega
mutual
theorem ZkS:∀ (ty:Ty) (fuel:Nat) (T:TypeId) (cs:List Value) (x:DataW H×List MemPlace),Vz P ty T=true->DataW.trod enc P w 0 spare held fuel T cs=some x->
  ∃ d:ty.den,rep (λb=>b<w.heap.size) w ty d cs/\bnd ty d
 | .int k,fuel,T,cs,x,hf,h=>by
  simp only[Vz] at hf;obtain ⟨n,h1,_,hw⟩:=DataW.trod_int (Zgi hf) h;exact ⟨n,h1,(by simpa[Go.Lit.wf] using hw:k.min<=n/\n<=k.max)⟩
 | .bool,fuel,T,cs,x,hf,h=>by
  simp only[Vz] at hf;obtain ⟨b,h1,_⟩:=DataW.trod_bool (Zjx hf) h;exact ⟨b,h1,trivial⟩
 | .str,fuel,T,cs,x,hf,h=>by
  simp only[Vz] at hf;obtain ⟨s,h1,_,hs⟩:=DataW.trod_string (Zlr hf) h;refine ⟨s.data.toList,?_,?_⟩
  ·show cs=[.string ⟨s.data.toList.toArray⟩]
   rw[h1,ZuC]
  ·show ((s.data.toList.length:Nat):Int)<=_
   clear h h1;have:s.data.toList.length=s.size:=by cases s;rfl
   unfold maxLen at hs;omega
 | .sl t,fuel,T,cs,x,hf,h=>by
  unfold Vz at hf;split at hf
  ·rename_i e hu
   simp only[Bool.and_eq_true,beq_iff_eq,decide_eq_true_eq] at hf;obtain ⟨⟨hf,hsz⟩,hpos⟩:=hf;rcases DataW.trod_slice hu h with ⟨h1,_⟩ | ⟨a,len,cap,elems,rest,n,rfl,rfl,_,_,hlc,hcap,hel,hget,_⟩
   ·refine ⟨[],?_,by show ((0:Nat):Int)<=9223372036854775807;omega,λx hx=>(by cases hx)⟩
    show rep _ w (.sl t) [] cs;exact ⟨none,0,by rw[h1];rfl,by simp,λ_=>rfl,.inl rfl⟩
   ·-- the elements' cells
    have hcss:∃ css:List (List Value),css.length=len/\∀ (i:Nat) (c:List Value),css[i]?=some c->w.cells? 0 (a.add (i*t.size)) t.size=some c/\∃ d:t.den,rep (λb=>b<w.heap.size) w t d c/\bnd t d:=by
     have:∀ m,m<=len->∃ css:List (List Value),css.length=m/\∀ (i:Nat) (c:List Value),css[i]?=some c->w.cells? 0 (a.add (i*t.size)) t.size=some c/\∃ d:t.den,rep (λb=>b<w.heap.size) w t d c/\bnd t d:=by
      intro m;induction m with
      | zero=>intro _;exact ⟨[],rfl,by simp⟩
      | succ m ih =>
       intro hm;obtain ⟨css,h1,h2⟩:=ih (by omega);have hg:=hget m (by omega);rw[List.getElem?_eq_getElem (by omega)] at hg;obtain ⟨c,hc,hcx⟩:=Option.bind_eq_some_iff.1 hg;rw[hsz] at hc;obtain ⟨d,hd,hb⟩:=ZkS t n e c _ hf hcx;refine ⟨css++[c],by simp[h1],λi c' hi=>?_⟩;by_cases him:i<m
       ·rw[List.getElem?_append_left (by omega)] at hi
        exact h2 i c' hi
       ·have:i=m:=by
         have:=(List.getElem?_eq_some_iff.1 hi).1;simp[h1] at this;omega
        subst this;rw[List.getElem?_append_right (by omega),h1] at hi;simp at hi;subst hi;exact ⟨hc,d,hd,hb⟩
     exact this len (Nat.le_refl _)
    obtain ⟨css,hcl,hcs⟩:=hcss;have hlens:∀ c∈css,c.length=t.size:=by
     intro c hc;obtain ⟨i,hi⟩:=List.mem_iff_getElem?.1 hc;exact (World.cells?_some (hcs i c hi).1).2.1
    obtain ⟨l,hl,hr,hb⟩:=Zr0 (S:=λb=>b<w.heap.size) (w:=w) (t:=t) (p:=a) rfl len css hcl (λi c hi=>⟨hlens c (List.mem_of_getElem? hi),(hcs i c hi).2⟩);refine ⟨l,?_,by unfold maxLen at hcap;omega,hb⟩;refine ⟨some a,cap,by rw[hl],by omega,λe=>(by cases e),?_⟩;cases css with
    | nil =>
     left;simp at hcl;exact List.eq_nil_of_length_eq_zero (by omega)
    | cons c0 css =>
     right;have h0:=(hcs 0 c0 rfl).1;rw[Nat.zero_mul] at h0;have ha0:a.add 0=a:=by unfold Addr.add;simp
     rw[ha0] at h0;have hspot:a.spot=none:=by
      have h1:=(World.cells?_some h0).2.2 0 hpos;rw[ha0] at h1;have hlen0:=(World.cells?_some h0).2.1;rw[List.getElem?_eq_getElem (by omega)] at h1;unfold World.cell? at h1;split at h1
      ·split at h1
       ·cases h1
       ·rename_i hs;simpa using hs
      ·cases h1
     refine ⟨a,(c0::css).flatten,rfl,hspot,World.cells?_block h0 hpos,λj u hu=>?_,hr⟩;have hjl:=(List.getElem?_eq_some_iff.1 hu).1;rw[Zlb _ hlens] at hjl;have hdm:j / t.size*t.size+j % t.size=j:=by rw[Nat.mul_comm];exact Nat.div_add_mod j t.size
     have hq:j / t.size<(c0::css).length:=by rw[Nat.div_lt_iff_lt_mul hpos];exact hjl
     obtain ⟨c,hc⟩:∃ c,(c0::css)[j / t.size]?=some c:=⟨_,List.getElem?_eq_getElem hq⟩;have h2:=Zla (c0::css) hlens (j / t.size) (j % t.size) c hc (Nat.mod_lt _ hpos);rw[hdm,hu] at h2;have h3:=(World.cells?_some (hcs _ c hc).1).2.2 (j % t.size) (Nat.mod_lt _ hpos);rw[add_add _ _ _ hspot,hdm] at h3;rw[h3];exact h2.symm
  ·cases hf
 | .pair a b,fuel,T,cs,x,hf,h=>by
  unfold Vz at hf;split at hf
  ·rename_i fs hu
   split at hf
   ·rename_i f fl hfl
    simp only[Bool.and_eq_true,beq_iff_eq] at hf;obtain ⟨⟨⟨⟨h1,h2⟩,h3⟩,h4⟩,h5⟩:=hf;obtain ⟨xs,n,rfl,_,hlen,hxl,hget⟩:=DataW.trod_struct hu h;have hsz:fs.size=fl.length+1:=by
     have:=congrArg List.length hfl;simpa using this
    have hf0:fs[0]?=some f:=by
     have:=congrArg (·[0]?) hfl;simpa using this
    have hg:=hget 0 f hf0;rw[List.getElem?_eq_getElem (by omega),h2,h3] at hg;obtain ⟨d,hd,hb⟩:=ZkS a n f.type _ _ h1 hg;have hrest:∀ (i:Nat) (g:Field),fl[i]?=some g->∃ y,DataW.trod enc P w 0 spare held n g.type ((cs.drop g.offset).take (P.cellsOf g.type))=some y:=by
     intro i g hgi;have hg1:fs[i+1]?=some g:=by
      have:=congrArg (·[i+1]?) hfl;simp only[List.getElem?_cons_succ,hgi,Array.getElem?_toList] at this;exact this
     have:=hget (i+1) g hg1;have hi:=(List.getElem?_eq_some_iff.1 hgi).1;rw[List.getElem?_eq_getElem (by omega)] at this;exact ⟨_,this⟩
    obtain ⟨d2,hd2,hb2⟩:=ZoC b n fl a.size cs h4 (by omega) hrest;refine ⟨(d,d2),⟨(cs.drop 0).take a.size,cs.drop a.size,by simp,hd,hd2⟩,hb,hb2⟩
   ·cases hf
  ·cases hf
 | .unit,_,_,_,_,hf,_=>by simp[Vz] at hf
 | .ptr _,_,_,_,_,hf,_=>by simp[Vz] at hf
 | .fn _ _,_,_,_,_,hf,_=>by simp[Vz] at hf
 | .nptr _,_,_,_,_,hf,_=>by simp[Vz] at hf
 | .mp _ _,_,_,_,_,hf,_=>by simp[Vz] at hf
theorem ZoC:∀ (ty:Ty) (n:Nat) (fl:List Field) (o:Nat) (cs:List Value),ZfE P ty fl o=true->cs.length=o+ty.size->
  (∀ (i:Nat) (g:Field),fl[i]?=some g->∃ y,DataW.trod enc P w 0 spare held n g.type ((cs.drop g.offset).take (P.cellsOf g.type))=some y)->
  ∃ d:ty.den,rep (λb=>b<w.heap.size) w ty d (cs.drop o)/\bnd ty d
 | .unit,n,fl,o,cs,hf,hl,h=>by
  refine ⟨(),?_,trivial⟩;show cs.drop o=[];simp only[Ty.size] at hl;exact List.drop_eq_nil_of_le (by omega)
 | .pair a b,n,fl,o,cs,hf,hl,h=>by
  unfold ZfE at hf;split at hf
  ·rename_i f fl
   simp only[Bool.and_eq_true,beq_iff_eq] at hf;obtain ⟨⟨⟨h1,h2⟩,h3⟩,h4⟩:=hf;obtain ⟨y,hy⟩:=h 0 f rfl;rw[h2,h3] at hy;obtain ⟨d,hd,hb⟩:=ZkS a n f.type _ _ h1 hy;obtain ⟨d2,hd2,hb2⟩:=ZoC b n fl (o+a.size) cs h4 (by simp only[Ty.size] at hl;omega) (λi g hg=>h (i+1) g (by simpa using hg));refine ⟨(d,d2),⟨(cs.drop o).take a.size,cs.drop (o+a.size),?_,hd,hd2⟩,hb,hb2⟩;rw[<-List.drop_drop];exact (List.take_append_drop _ _).symm
  ·cases hf
 | .int _,_,_,_,_,hf,_,_=>by simp[ZfE] at hf
 | .bool,_,_,_,_,hf,_,_=>by simp[ZfE] at hf
 | .str,_,_,_,_,hf,_,_=>by simp[ZfE] at hf
 | .sl _,_,_,_,_,hf,_,_=>by simp[ZfE] at hf
 | .ptr _,_,_,_,_,hf,_,_=>by simp[ZfE] at hf
 | .fn _ _,_,_,_,_,hf,_,_=>by simp[ZfE] at hf
 | .nptr _,_,_,_,_,hf,_,_=>by simp[ZfE] at hf
 | .mp _ _,_,_,_,_,hf,_,_=>by simp[ZfE] at hf
end
theorem Zsd {ty:Ty} {T:TypeId} {v:Value} {d:DataW H} {ps:List MemPlace} {base:Nat} (hf:Vz P ty T=true) (hok:Value.okWide P w .any base T v) (h:DataW.Trod enc P w 0 spare held T v d ps) :
  ∃ x:ty.den,Zuw (λb=>b<w.heap.size) w ty x v/\bnd ty x:=by
 obtain ⟨fuel,h⟩:=h;obtain ⟨x,hx,hb⟩:=ZkS ty fuel T _ _ hf h;refine ⟨x,⟨?_,?_,hx⟩,hb⟩
 ·intro ha
  cases ty with
  | pair a b =>
   unfold Vz at hf;split at hf
   ·rename_i fs hu
    obtain ⟨cs,hcs,_⟩:=okWide_struct hu hok;exact ⟨cs,hcs⟩
   ·cases hf
  | unit=>simp[Vz] at hf
  | _=>simp[Ty.agg] at ha
 ·intro ha
  have hna:∀ cs,v≠.agg cs:=by
   intro cs e;subst e;cases ty with
   | int k=>simp only[Vz] at hf;simp[Value.okWide,Zgi hf,Cell.okWide,Cell.ok] at hok
   | bool=>simp only[Vz] at hf;simp[Value.okWide,Zjx hf,Cell.okWide,Cell.ok] at hok
   | str=>simp only[Vz] at hf;simp[Value.okWide,Zlr hf,Cell.okWide,Cell.ok] at hok
   | sl t =>
    unfold Vz at hf;split at hf
    ·rename_i e hu;simp[Value.okWide,hu,Cell.okWide,Cell.ok] at hok
    ·cases hf
   | pair a b=>simp[Ty.agg] at ha
   | unit=>simp[Ty.agg] at ha
   | ptr _=>simp[Vz] at hf
   | fn _ _=>simp[Vz] at hf
   | nptr _=>simp[Vz] at hf
   | mp _ _=>simp[Vz] at hf
  cases v<;>first | rfl | exact absurd rfl (hna _)
def Zj9:List Ty->List Sh
 | []=>[]
 | t::r=>.dat t::Zj9 r
def Zwl:(l:List Ty)->Shs (Zj9 l)->Prop
 | [],_=>True
 | t::r,d=>bnd t d.1/\Zwl r d.2
def Zjt (P:Program):List Ty->List TypeId->Bool
 | [],[]=>true
 | t::r,T::q=>Vz P t T&&Zjt P r q
 | _,_=>false
theorem Zmc {base:Nat}:∀ (l:List Ty) (ts:List TypeId) (vs:List Value) (ds:List (DataW H)) (p:List MemPlace),Zjt P l ts=true->
  (∀ (j:Nat) t v,ts[j]?=some t->vs[j]?=some v->Value.okWide P w .any base t v)->DataW.TrodAll enc P w 0 spare held ts vs ds p->
  ∃ as:Shs (Zj9 l),ZbN (λb=>b<w.heap.size) w (Zj9 l) as vs []/\Zwl l as
 | [],[],vs,ds,p,_,_,h=>by
  obtain ⟨rfl,_,_⟩:=trodAll_nil h;exact ⟨(),⟨rfl,rfl⟩,trivial⟩
 | t::r,T::q,vs,ds,p,hf,hok,h=>by
  simp only[Zjt,Bool.and_eq_true] at hf;obtain ⟨v,vs',d,ds',p1,p2,rfl,rfl,rfl,h1,h2⟩:=trodAll_cons h;obtain ⟨x,hx,hb⟩:=Zsd hf.1 (hok 0 T v rfl rfl) h1;obtain ⟨as,has,hbs⟩:=Zmc r q vs' ds' p2 hf.2 (λj t v hj hv=>hok (j+1) t v (by simpa using hj) (by simpa using hv)) h2;exact ⟨(x,as),⟨v,vs',[],[],rfl,rfl,⟨rfl,hx⟩,has⟩,hb,hbs⟩
 | [],_::_,_,_,_,hf,_,_=>by simp[Zjt] at hf
 | _::_,[],_,_,_,hf,_,_=>by simp[Zjt] at hf
theorem Zjk (hl:laidOutB P=true) {W W':World} (hb:Below W.heap.size W W'):∀ (ts:List TypeId) (vs:List Value) (ds:List (DataW H)) (p:List MemPlace),(ts.all λt=>P.readableRec t&&decide (t<P.types.size))=true->
  DataW.TrodAll enc P W 0 (λ_=>true) true ts vs ds p->(∀ x∈p,x.block<W.heap.size)->DataW.TrodAll enc P W' 0 (λb=>decide (b<W.heap.size)) true ts vs ds p
 | [],vs,ds,p,_,h,_=>by
  obtain ⟨rfl,rfl,rfl⟩:=trodAll_nil h;rfl
 | t::ts,vs,ds,p,hr,h,hlt=>by
  simp only[List.all_cons,Bool.and_eq_true,decide_eq_true_eq] at hr;obtain ⟨v,vs',d,ds',p1,p2,rfl,rfl,rfl,h1,h2⟩:=trodAll_cons h;exact ⟨p1,p2,Below.trod hl hr.1.1 hr.1.2 h1 hb (λx hx=>hlt x (by simp[hx])),Zjk hl hb ts vs' ds' p2 hr.2 h2 (λx hx=>hlt x (by simp[hx])),rfl⟩
theorem ZrD {f:FuncId} {l:List Ty} {tr:Shs (Zj9 l)->(Shs [.dat .bool]->Ios (Zj9 l)->Prop)->Prop} (hC:Za P f ⟨Zj9 l,[.dat .bool],tr⟩)
  (htrue:∀ as:Shs (Zj9 l),Zwl l as->tr as (λr _=>r.1=true)) {ts:List TypeId} {args:Array Value} {ds:List (DataW H)} {p:List MemPlace} {base:Nat} (hf:Zjt P l ts=true)
  (hok:∀ (j:Nat) t v,ts[j]?=some t->args[j]?=some v->Value.okWide P w .any base t v) (h:DataW.TrodAll enc P w 0 spare held ts args.toList ds p) (hG:ZfC (λb=>b<w.heap.size) w:=by intro p hp;simp[globs] at hp) :
  Calls P f args w λe w'=>e=.returned (.bool true)/\Below w.heap.size w w':=by
 obtain ⟨as,has,hb⟩:=Zmc l ts args.toList ds p hf (λj t v hj hv=>hok j t v hj (by simpa using hv)) h;have hc:=hC.2 w (λb=>b<w.heap.size) args.toList as [] (λr _=>r.1=true) (λb h=>h) hG has List.nodup_nil (by simp) (htrue as hb);have he:args.toList.toArray=args:=by simp
 rw[he] at hc;refine hc.mono ?_;rintro e w' ⟨v,us,rs,ios,S',fr,fio,rfl,hret,hr,hk,hS,hS2,hs,_⟩;obtain ⟨u,ur,f1,f2,rfl,_,⟨_,hu⟩,hur⟩:=hs;obtain ⟨rfl,_⟩:=hur;simp only[retv] at hret;subst hret;refine ⟨?_,hk.os,hk.tape,hk.output,hk.size,λb hb=>hk.block b hb (by simp)⟩;obtain ⟨h1,h2,h3⟩:=hu;have hv:=h2 rfl;rw[hv] at h3;have h4:[v]=[.bool rs.1]:=h3;simp at h4;rw[h4,hr]
end
end Go.Sx
