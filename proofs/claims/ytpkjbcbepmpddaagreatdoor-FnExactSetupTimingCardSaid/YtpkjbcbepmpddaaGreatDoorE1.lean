/-
  Maps: made, looked up, written. Keys: numbers, and structs of numbers.
-/
import Derived.Test.YtpkjbcbepmpddaaGreatDoorE0
import Derived.MapKept
import Derived.Orders
import Derived.KernelRfl
import Derived.ProofKit
import Derived.Below
import Derived.Carry
namespace Go.Sx
set_option linter.unusedVariables false
set_option linter.unusedSimpArgs false
def ZsE:EqD->Nat->Ty->Bool
 | .nil,_,.unit=>true
 | .int k o r,n,.pair (.int k') t=>decide (k=k')&&decide (o=n)&&ZsE r (n+1) t
 | _,_,_=>false
def ZCc (ti:TI) (t:Ty):Bool:=match ti.kind with
 | .int k=>decide (t=.int k)
 | .st=>!ti.eqd.isNil&&decide (ti.eqd.depth<=1000)&&ZsE ti.eqd 0 t
 | _=>false
def keq:(t:Ty)->t.den->t.den->Bool
 | .int _,x,y=>decide (x=y)
 | .pair a b,x,y=>keq a x.1 y.1&&keq b x.2 y.2
 | _,_,_=>true
def ZAu (k v:Ty):List (k.den×v.den)->k.den->Option v.den
 | [],_=>none
 | d::l,x=>if keq k x d.1=true then some d.2 else ZAu k v l x
def ZCq (k v:Ty):List (k.den×v.den)->k.den->v.den->List (k.den×v.den)
 | [],x,y=>[(x,y)]
 | d::l,x,y=>if keq k x d.1=true then (x,y)::l else d::ZCq k v l x y
def fnd {k v:Ty}:List (k.den×v.den)->k.den->List MapEntry->Nat->Option (Nat×Value)
 | [],_,_,_=>none
 | d::l,x,es,i=>match es with
  | []=>none
  | e::r=>if keq k x d.1=true then some (i,e.val) else fnd l x r (i+1)
theorem Zt8 {k v:Ty} {R:k.den->List Value->Prop} {Q:v.den->List Value->Prop} {ka va:Bool} {x:k.den}:∀ (d:List (k.den×v.den)) (es:List MapEntry) (i:Nat),Zft R Q ka va d es->
  (fnd d x es i=none/\ZAu k v d x=none)\/∃ j u y e kd,fnd d x es i=some (i+j,u)/\ZAu k v d x=some y/\Zkm va u/\Q y u.cells.toList/\es[j]?=some e/\keq k x kd=true/\Zkm ka e.key/\R kd e.key.cells.toList
 | [],es,i,h=>.inl ⟨rfl,rfl⟩
 | d::l,es,i,⟨e,r,e1,f1,r1,f2,r2,rs⟩=>by
  subst e1;by_cases hq:keq k x d.1=true
  ·exact .inr ⟨0,e.val,d.2,e,d.1,by simp[fnd,hq],by simp[ZAu,hq],f2,r2,rfl,hq,f1,r1⟩
  ·rcases Zt8 (x:=x) l r (i+1) rs with ⟨h1,h2⟩ | ⟨j,u,y,e',kd,h1,h2,h3,h4,h5,h6⟩
   ·exact .inl ⟨by simp[fnd,hq,h1],by simp[ZAu,hq,h2]⟩
   ·exact .inr ⟨j+1,u,y,e',kd,by simp only[fnd,hq,if_false,h1];simp;omega,by simp[ZAu,hq,h2],h3,h4,by simpa using h5,h6⟩
theorem Zxz {k v:Ty} {R:k.den->List Value->Prop} {Q:v.den->List Value->Prop} {ka va:Bool} {x:k.den} {y:v.den} {kv vv:Value} {born:Nat} (hk:Zkm ka kv) (hR:R x kv.cells.toList) (hv:Zkm va vv) (hQ:Q y vv.cells.toList) :
  ∀ (d:List (k.den×v.den)) (es:List MapEntry) (i:Nat),Zft R Q ka va d es->fnd d x es i=none->Zft R Q ka va (ZCq k v d x y) (es++[⟨kv,vv,born⟩])
 | [],es,i,h,_=>by
  have:es=[]:=h;subst this;exact ⟨⟨kv,vv,born⟩,[],rfl,hk,hR,hv,hQ,rfl⟩
 | d::l,es,i,⟨e,r,e1,f1,r1,f2,r2,rs⟩,hf=>by
  subst e1;by_cases hq:keq k x d.1=true
  ·simp[fnd,hq] at hf
  ·simp only[fnd,if_neg hq] at hf
   have:=Zxz (born:=born) hk hR hv hQ l r (i+1) rs hf;simp only[ZCq,if_neg hq];exact ⟨e,r++[⟨kv,vv,born⟩],rfl,f1,r1,f2,r2,this⟩
theorem ZxA {k v:Ty} {R:k.den->List Value->Prop} {Q:v.den->List Value->Prop} {ka va:Bool} {x:k.den} {y:v.den} {kv vv:Value} (hk:Zkm ka kv) (hR:R x kv.cells.toList) (hv:Zkm va vv) (hQ:Q y vv.cells.toList) :
  ∀ (d:List (k.den×v.den)) (es:List MapEntry) (i j:Nat) (u:Value),Zft R Q ka va d es->fnd d x es i=some (i+j,u)->Zft R Q ka va (ZCq k v d x y) (es.modify j λe=>{e with key:=kv,val:=vv})
 | [],es,i,j,u,h,hf=>by simp[fnd] at hf
 | d::l,es,i,j,u,⟨e,r,e1,f1,r1,f2,r2,rs⟩,hf=>by
  subst e1;by_cases hq:keq k x d.1=true
  ·simp only[fnd,hq,if_true] at hf
   have:j=0:=by
    grind
   subst this;simp only[ZCq,hq,if_true,List.modify_zero_cons];exact ⟨_,r,rfl,hk,hR,hv,hQ,rs⟩
  ·simp only[fnd,if_neg hq] at hf
   cases j with
   | zero =>
    rcases Zt8 (x:=x) l r (i+1) rs with ⟨h1,_⟩ | ⟨j',u',y',e',kd,h1,_⟩;all_goals grind
   | succ j =>
    have:=ZxA hk hR hv hQ l r (i+1) j u rs (by grind);simp only[ZCq,if_neg hq,List.modify_succ_cons];exact ⟨e,_,rfl,f1,r1,f2,r2,this⟩
section
variable {P:Program}
open Go.MapKept
theorem Jf {q:EqD} {o:Nat} {t:Ty} (h:ZsE q o t=true):(q=.nil/\t=.unit)\/∃ k r t',q=.int k o r/\t=.pair (.int k) t'/\ZsE r (o+1) t'=true:=by
 unfold ZsE at h;grind
theorem ZAo {S:Nat->Prop} {w:World}:∀ (q:EqD) (o:Nat) (t:Ty),ZsE q o t=true->∀ (x y:t.den) (vs us:List Value),rep S w t x vs->rep S w t y us->keq t x y=true->vs=us/\∀ u∈vs,∃ k n,u=.int k n:=by
 intro q;induction q with
 | nil =>
  intro o t h x y vs us h1 h2 _;rcases Jf h with ⟨_,rfl⟩ | ⟨_,_,_,e,_⟩
  ·have h1:vs=[]:=h1
   have h2:us=[]:=h2;rw[h1,h2];simp
  ·cases e
 | int k o' r ih =>
  intro o t h x y vs us h1 h2 hq;rcases Jf h with ⟨e,_⟩ | ⟨k',r',t',e,rfl,hr⟩
  ·cases e
  ·injection e with e1 e2 e3
   subst e1;subst e2;subst e3;obtain ⟨v1,v2,e1,h1,h2'⟩:=h1;obtain ⟨u1,u2,e2,h3,h4⟩:=h2;simp only[keq,Bool.and_eq_true,decide_eq_true_eq] at hq;obtain ⟨a,b⟩:=ih _ t' hr x.2 y.2 v2 u2 h2' h4 hq.2;have h1:v1=[.int k x.1]:=h1;have h3:u1=[.int k y.1]:=h3;grind
 | bool o' r ih=>intro o t h;rcases Jf h with ⟨e,_⟩ | ⟨_,_,_,e,_⟩<;>cases e
 | str o' r ih=>intro o t h;rcases Jf h with ⟨e,_⟩ | ⟨_,_,_,e,_⟩<;>cases e
 | st o' sz fs r ih1 ih2=>intro o t h;rcases Jf h with ⟨e,_⟩ | ⟨_,_,_,e,_⟩<;>cases e
theorem Zvw {S:Nat->Prop} {w:World} {n:Nat}:∀ (q:EqD) (o:Nat) (t:Ty) (fl:List Field),ZsE q o t=true->q.fits P fl=true->∀ (x y:t.den) (p1 p2 vs us:List Value),p1.length=o->p2.length=o->rep S w t x vs->rep S w t y us->∀ w',
  (Op.eqFields (n+1) (p1++vs).toArray (p2++us).toArray fl).run P w'=.ok (keq t x y) w':=by
 intro q;induction q with
 | nil =>
  intro o t fl h hf x y p1 p2 vs us l1 l2 h1 h2 w';rcases Jf h with ⟨_,rfl⟩ | ⟨_,_,_,e,_⟩
  ·simp only[EqD.fits,List.isEmpty_iff] at hf
   subst hf;rfl
  ·cases e
 | int k o' r ih =>
  intro o t fl h hf x y p1 p2 vs us l1 l2 h1 h2 w';rcases Jf h with ⟨e,_⟩ | ⟨k',r',t',e,rfl,hr⟩
  ·cases e
  ·injection e with e1 e2 e3
   subst e1;subst e2;subst e3;cases fl with
   | nil=>simp[EqD.fits] at hf
   | cons f fl =>
    simp only[EqD.fits,Bool.and_eq_true,bne_iff_ne,beq_iff_eq] at hf;obtain ⟨⟨⟨f1,f2⟩,f3⟩,f4⟩:=hf;obtain ⟨v1,v2,e1,h1,h2'⟩:=h1;obtain ⟨u1,u2,e2,h3,h4⟩:=h2;have h1:v1=[.int k x.1]:=h1;have h3:u1=[.int k y.1]:=h3;subst h1;subst h3;subst e1;subst e2;have hty:=Zlj f3;have ih':=ih _ t' fl hr f4 x.2 y.2 (p1++[.int k x.1]) (p2++[.int k y.1]) v2 u2 (by simp[l1]) (by simp[l2]) h2' h4 w';simp only[List.append_assoc] at ih';refine ZeK f1 (Ze5 hty rfl (v:=.int k x.1) ?_ w') (Ze5 hty rfl (v:=.int k y.1) ?_ w') (by rw[run_equalIn_int w' n f.type k k x.1 y.1 hty,Zds];rfl) ih';all_goals simp_all
 | bool o' r ih=>intro o t fl h;rcases Jf h with ⟨e,_⟩ | ⟨_,_,_,e,_⟩<;>cases e
 | str o' r ih=>intro o t fl h;rcases Jf h with ⟨e,_⟩ | ⟨_,_,_,e,_⟩<;>cases e
 | st o' sz fs r ih1 ih2=>intro o t fl h;rcases Jf h with ⟨e,_⟩ | ⟨_,_,_,e,_⟩<;>cases e
theorem ZpC {T:TypeId} {k:IntKind} (h:P.underlying T=some (.int k)) (em:Bool) (n:Nat) (k':IntKind) (a:Int) (w:World):(Instr.checkKey em (n+1) T (.int k' a)).run P w=.ok () w:=by
 unfold Instr.checkKey;simp only[Sem.run_bind,run_underlying h,Result.andThen_ok];rfl
theorem ZAp {T:TypeId} {fs:Array Field} (hu:P.underlying T=some (.struct fs)) (em:Bool) {S:Nat->Prop} {w0:World} {q:EqD} {t:Ty} (hq:ZsE q 0 t=true) (hf:q.fits P fs.toList=true) (n:Nat) {x:t.den} {vs:List Value} (hr:rep S w0 t x vs) (w:World) :
  (Instr.checkKey em (n+2) T (.agg vs.toArray)).run P w=.ok () w:=by
 rw[show n+2=(n+1)+1 from rfl,Instr.checkKey];simp only[Sem.run_bind,run_underlying hu,Result.andThen_ok];rw[<-Array.forIn_toList];generalize fs.toList=L at hf;have gen:∀ (q:EqD) (o:Nat) (t:Ty) (L:List Field),ZsE q o t=true->q.fits P L=true->∀ (x:t.den) (pre us:List Value),pre.length=o->pre++us=vs->rep S w0 t x us->
   (forIn L PUnit.unit λf r=>do
    if f.name≠ "_" then do
     let v <-part f.type vs.toArray f.offset
     Instr.checkKey em (n+1) f.type v
     pure (ForInStep.yield PUnit.unit)
    else pure (ForInStep.yield PUnit.unit):Sem PUnit).run P w=.ok () w:=by
  intro q;induction q with
  | nil =>
   intro o t L h hf x pre us _ _ _;rcases Jf h with ⟨_,rfl⟩ | ⟨_,_,_,e,_⟩
   ·simp only[EqD.fits,List.isEmpty_iff] at hf
    subst hf;simp
   ·cases e
  | int k o' r ih =>
   intro o t L h hf x pre us hl he hr;rcases Jf h with ⟨e,_⟩ | ⟨k',r',t',e,rfl,hr'⟩
   ·cases e
   ·injection e with e1 e2 e3
    subst e1;subst e2;subst e3;cases L with
    | nil=>simp[EqD.fits] at hf
    | cons f L =>
     simp only[EqD.fits,Bool.and_eq_true,bne_iff_ne,beq_iff_eq] at hf;obtain ⟨⟨⟨f1,f2⟩,f3⟩,f4⟩:=hf;obtain ⟨v1,v2,e1,h1,h2'⟩:=hr;have h1:v1=[.int k x.1]:=h1;subst h1;subst e1;have hty:=Zlj f3;have p1:=Ze5 (P:=P) hty rfl (cs:=vs.toArray) (o:=f.offset) (v:=.int k x.1) (by grind) w;have p2:=ZpC (P:=P) hty em n k x.1 w;have ih':=ih _ t' L hr' f4 x.2 (pre++[.int k x.1]) v2 (by simp[hl]) (by rw[<-he];simp) h2'
     simp_all
  | bool o' r ih=>intro o t L h;rcases Jf h with ⟨e,_⟩ | ⟨_,_,_,e,_⟩<;>cases e
  | str o' r ih=>intro o t L h;rcases Jf h with ⟨e,_⟩ | ⟨_,_,_,e,_⟩<;>cases e
  | st o' sz fs r ih1 ih2=>intro o t L h;rcases Jf h with ⟨e,_⟩ | ⟨_,_,_,e,_⟩<;>cases e
 exact (congrArg (λr=>Result.andThen r _) (gen q 0 t L hq hf x [] vs rfl rfl hr)).trans rfl
structure Zxf (P:Program) (T:TypeId) (t:Ty):Prop where
 check:∀ (S:Nat->Prop) (w0:World) (x:t.den) (v:Value),Zkm t.agg v->rep S w0 t x v.cells.toList->∀ (em:Bool) (w:World),(Instr.checkKey em 10000 T v).run P w=.ok () w
 find:∀ (S:Nat->Prop) (w0:World) (x:t.den) (v:Value),Zkm t.agg v->rep S w0 t x v.cells.toList->∀ (u:Ty) (Q:u.den->List Value->Prop) (va:Bool) (d:List (t.den×u.den)) (es:List MapEntry),Zft (rep S w0 t) Q t.agg va d es->∀ (w:World),(Instr.findKey T v es).run P w=.ok (fnd d x es 0) w
 stays:∀ (S:Nat->Prop) (w0:World) (x y:t.den) (v v':Value),Zkm t.agg v->rep S w0 t x v.cells.toList->Zkm t.agg v'->rep S w0 t y v'.cells.toList->keq t x y=true->∀ (w:World),(Instr.keyThatStays v' v).run P w=.ok v w
theorem ZyM {T:TypeId} {k:IntKind} (h:P.underlying T=some (.int k)):Zxf P T (.int k) where
 check S w0 x v hf hr em w:=by
  have hc:=hf.2 rfl;rw[hc] at hr;have hr:[v]=[.int k x]:=hr;simp at hr;subst hr;exact ZpC h em 9999 k x w
 find S w0 x v hf hr u Q va d es he w:=by
  have hc:=hf.2 rfl;rw[hc] at hr;have hr:[v]=[.int k x]:=hr;simp at hr;subst hr;have gen:∀ (d:List (Int×u.den)) (es:List MapEntry) (i:Nat),Zft (rep S w0 (.int k)) Q false va d es->Instr.findNow (.int k) (.int k x) es i=some (fnd (k:=.int k) d x es i):=by
   intro d;induction d with
   | nil =>
    intro es i he;have:es=[]:=he;subst this;rfl
   | cons d l ih =>
    rintro es i ⟨e,r,rfl,f1,r1,f2,r2,rs⟩;have hc1:=f1.2 rfl;rw[hc1] at r1;have r1:[e.key]=[.int k d.1]:=r1;simp at r1;by_cases hq:x=d.1
    ·simp[Instr.findNow,r1,Instr.sameNow,fnd,keq,hq]
    ·have hb:(x == d.1)=false:=by grind
     simp[Instr.findNow,r1,Instr.sameNow,fnd,keq,hq,ih r (i+1) rs,hb]
  have:=gen d es 0 he;unfold Instr.findKey;rw[Sem.run_bind,run_underlying h,Result.andThen_ok,this];rfl
 stays S w0 x y v v' hf hr hf' hr' hq w:=by
  have hc:=hf.2 rfl;rw[hc] at hr;have hr:[v]=[.int k x]:=hr;simp at hr;subst hr;have hc':=hf'.2 rfl;rw[hc'] at hr';have hr':[v']=[.int k y]:=hr';simp at hr';subst hr';simp only[keq,decide_eq_true_eq] at hq;subst hq;simp[Instr.keyThatStays,Instr.sameBits]
theorem ZAn {T:TypeId} {ti:TI} (h:ZdQ P T ti) {t:Ty} (hk:ti.kind=.st) (hn:ti.eqd.isNil=false) (hq:ZsE ti.eqd 0 t=true):Zxf P T t:=by
 have he:=h.eqd;simp only[hn,Bool.false_or] at he;split at he
 ·rename_i fs hT
  simp only[Bool.and_eq_true,Bool.not_eq_true'] at he;obtain ⟨⟨e1,e2⟩,e3⟩:=he;have hagg:t.agg=true:=by
   rcases Jf hq with ⟨_,rfl⟩ | ⟨_,_,_,_,rfl,_⟩<;>rfl
  have hfo:P.fieldsOf T=fs:=by simp[Program.fieldsOf,hT]
  have heq:∀ (S:Nat->Prop) (w0:World) (x y:t.den) (vs us:List Value),rep S w0 t x vs->rep S w0 t y us->∀ w,(Op.equal T (.agg vs.toArray) (.agg us.toArray)).run P w=.ok (keq t x y) w:=by
   intro S w0 x y vs us h1 h2 w;show (Op.equalIn (9999+1) T _ _).run P w=_;rw[run_equalIn_struct w 9999 T _ _ (by rw[hfo];exact hT) e1,hfo];exact Zvw (n:=9998) ti.eqd 0 t fs.toList hq e2 x y [] [] vs us rfl rfl h1 h2 w
  have toA:∀ (v:Value),Zkm t.agg v->v=.agg v.cells.toList.toArray:=by
   intro v hf;obtain ⟨cs,rfl⟩:=hf.1 hagg;simp[Value.cells]
  refine ⟨λS w0 x v hf hr em w=>?_,λS w0 x v hf hr u Q va d es hes w=>?_,λS w0 x y v v' hf hr hf' hr' hxy w=>?_⟩
  ·rw[toA v hf]
   exact ZAp hT em hq e2 9998 hr w
  ·rw[toA v hf]
   have gen:∀ (d:List (t.den×u.den)) (es:List MapEntry) (i:Nat),Zft (rep S w0 t) Q t.agg va d es->(Instr.findAsking T (.agg v.cells.toList.toArray) es i).run P w=.ok (fnd d x es i) w:=by
    intro d;induction d with
    | nil =>
     intro es i he;have:es=[]:=he;subst this;rfl
    | cons d l ih =>
     rintro es i ⟨e,r,rfl,f1,r1,f2,r2,rs⟩;have:=heq S w0 x d.1 _ _ hr r1 w;rw[<-toA e.key f1] at this;simp only[Instr.findAsking,Sem.run_bind,this,Result.andThen_ok,fnd];by_cases hq:keq t x d.1=true
     ·simp[hq]
     grind
   unfold Instr.findKey;rw[Sem.run_bind,run_underlying hT,Result.andThen_ok];cases es with
   | nil =>
    cases d with
    | nil=>rfl
    | cons=>obtain ⟨_,_,e,_⟩:=hes;cases e
   | cons e r=>exact gen d (e::r) 0 hes
  ·obtain ⟨a,b⟩:=ZAo ti.eqd 0 t hq x y _ _ hr hr' hxy
   rw[toA v hf,toA v' hf',<-a];have hs:Instr.sameBits 10000 (.agg v.cells.toList.toArray) (.agg v.cells.toList.toArray)=true:=by
    show Instr.sameBits (9999+1) _ _=true;simp only[Instr.sameBits,beq_self_eq_true,Bool.true_and,List.all_eq_true];intro p hp;obtain ⟨i,hi⟩:=List.mem_iff_getElem?.1 hp;rw[List.getElem?_zip_eq_some] at hi;have:p.1=p.2:=by
     grind
    obtain ⟨k,m,hkm⟩:=b p.1 (List.mem_of_getElem? hi.1);rw[<-this,hkm];simp[Instr.sameBits]
   unfold Instr.keyThatStays;rw[if_pos hs];rfl
 ·cases he
theorem Zvv {T:TypeId} {ti:TI} (h:ZdQ P T ti) {t:Ty} (hk:ZCc ti t=true):Zxf P T t:=by
 unfold ZCc at hk;split at hk
 ·rename_i k hkd
  simp only[decide_eq_true_eq] at hk;subst hk;exact ZyM (h.intOf hkd)
 ·rename_i hkd
  simp only[Bool.and_eq_true,Bool.not_eq_true',decide_eq_true_eq] at hk;exact ZAn h hkd hk.1.1 hk.2
 ·cases hk
def SV.isA:SV->Bool
 | .agg _=>true
 | _=>false
theorem ZAi {E:Env} {s:SV} {v:Value} (h:den E s v) (hw:s.whole=true) {b:Bool} (hb:b=s.isA):Zkm b v:=by
 subst hb;constructor
 ·intro ha
  cases s<;>simp[SV.isA] at ha
  simp only[den] at h;grind
 ·intro ha
  have h1:s.one=true:=by cases s<;>simp_all[SV.isA,SV.whole,SV.one]
  exact (Zlt h h1).1
def ZKh (t:Ty) (cs:List SV) (K:SV->Prop):Prop :=
 if t.agg=true then K (.agg cs) else match cs with
  | c::_=>K c
  | []=>False
theorem ZDQ {E:Env} {t:Ty} {v:Value} (hf:Zkm t.agg v) {cs:List SV} (hd:Yg E cs v.cells.toList) {K:SV->Prop} (hk:ZKh t cs K):∃ s,den E s v/\K s:=by
 obtain ⟨h1,h2⟩:=hf;unfold ZKh at hk;split at hk
 ·rename_i ha
  obtain ⟨cs,rfl⟩:=h1 ha;exact ⟨.agg _,by simp only[den];exact ⟨cs.toList,by simp,hd⟩,hk⟩
 ·rename_i ha
  have hv:=h2 (by simpa using ha);split at hk
  ·rename_i c r
   rw[hv] at hd;simp only[Yg] at hd;grind
  ·exact hk.elim
def ZC0 (b:Bool):Value->Bool
 | .agg _=>b
 | _=>!b
theorem ZC1 {b:Bool} {v:Value} (h:ZC0 b v=true):Zkm b v:=by
 cases b
 ·refine ⟨λh=>(by cases h),λ_=>?_⟩
  cases v<;>first | rfl | (simp[ZC0] at h)
 ·refine ⟨λ_=>?_,λh=>(by cases h)⟩
  cases v<;>first | exact ⟨_,rfl⟩ | (simp[ZC0] at h)
def ZKv (s:SV) (H:List Entry) (K:(k v:Ty)->List (k.den×v.den)->Prop):Prop :=
 match s with
 | .mp k v d=>K k v d
 | .mown id=>Zid H id λe=>match e with
  | .mpe k v d=>K k v d
  | .frm k v d=>K k v d
  | _=>False
 | _=>False
def MapAt (E:Env) (x:Value) (k v:Ty) (d:List (k.den×v.den)):Prop :=
 (d=[]/\x=.map none)\/∃ b es clk,x=.map (some b)/\E.w.heap[b]?=some (.map es clk)/\Zft (rep E.S E.w k) (rep E.S E.w v) k.agg v.agg d es.toList
theorem ZEi {B:Base} {E:Env} {H:List Entry} (hI:Inv B E H) {s:SV} {x:Value} (hs:den E s x) {K:(k v:Ty)->List (k.den×v.den)->Prop} (hk:ZKv s H K):∃ k v d,MapAt E x k v d/\K k v d:=by
 have data:∀ (k v:Ty) (d:List (k.den×v.den)),rep E.S E.w (.mp k v) d [x]->MapAt E x k v d:=by
  intro k v d h;rcases h with ⟨h1,h2⟩ | ⟨b,es,clk,h1,_,h2,h3⟩
  ·simp at h2;exact .inl ⟨h1,h2⟩
  ·simp at h1;exact .inr ⟨b,es,clk,h1,h2,h3⟩
 unfold ZKv at hk;split at hk
 ·rename_i k v d
  simp only[den] at hs;grind
 ·rename_i id
  obtain ⟨e,he,hk⟩:=Y5 H hk;simp only[den] at hs;split at hk
  ·rename_i k v d
   obtain ⟨b,es,clk,h1,h2,h3⟩:=hI.ent id _ he;have:=hs.1.symm.trans h1;simp at this;subst this;exact ⟨k,v,d,.inr ⟨b,es,clk,rfl,h2,h3⟩,hk⟩
  ·rename_i k v d
   obtain ⟨u,h1,h2⟩:=hI.ent id _ he;grind
  ·exact hk.elim
 ·exact hk.elim
def ZwO (Δ:Tab) (ti:TI) (x i:SV) (ok:Bool) (H:List Entry) (K:SV->Prop):Prop :=
 match ti.kind with
 | .mp kt et=>ZdC Δ kt λtk=>ZdC Δ et λte=>ZKv x H λk v d =>
  if i.whole=true/\k.agg=i.isA/\ZCc tk k=true/\ZC0 v.agg te.zero=true then Qk k i.cells λkey r1=>match r1 with
   | []=>Zso te.zero λzc=>Qk v zc λz r2=>match r2 with
    | []=>Vj v ((ZAu k v d key).getD z) λcs=>ZKh v cs λs=>if ok=true then K (.tup [s,.bool (ZAu k v d key).isSome]) else K s
    | _=>False
   | _=>False
  else False
 | _=>False
theorem ZdQ.map {T:TypeId} {ti:TI} (h:ZdQ P T ti) {kt et:TypeId} (hk:ti.kind=.mp kt et):P.underlying T=some (.map kt et):=by
 obtain ⟨d,hd,hk'⟩:=h.get;rw[hk] at hk';cases d<;>simp[Zzq] at hk'
 grind
theorem Zqu {E:Env} {vs:List Value} (h:Yg E [] vs):vs=[]:=by
 cases vs with
 | nil=>rfl
 | cons=>simp[Yg] at h
theorem ZyT {T kt et:TypeId} (hT:P.underlying T=some (.map kt et)) {k:Ty} (KR:Zxf P kt k) {z:Value} (hz:∀ w,(zeroValue et).run P w=.ok z w) {E:Env} {x:Value} {v:Ty} {d:List (k.den×v.den)} (hm:MapAt E x k v d)
  {i:Value} {key:k.den} (hif:Zkm k.agg i) (hir:rep E.S E.w k key i.cells.toList) (ok:Bool) :
  ∃ es,Zft (rep E.S E.w k) (rep E.S E.w v) k.agg v.agg d es/\(Instr.lookup T x i ok).run P E.w=.ok (if ok=true then .tuple #[((fnd d key es 0).map (·.2)).getD z,.bool (fnd d key es 0).isSome] else ((fnd d key es 0).map (·.2)).getD z) E.w:=by
 have fin:∀ (es:Array MapEntry),Zft (rep E.S E.w k) (rep E.S E.w v) k.agg v.agg d es.toList->((do
   Instr.checkKey es.isEmpty 10000 kt i
   let (v,okk) <-match <-Instr.findKey kt i es.toList with
    | some (_,v)=>pure (v,true)
    | none=>pure (<-zeroValue et,false)
   pure (if ok then .tuple #[v,.bool okk] else v):Sem Value)).run P E.w=.ok (if ok=true then .tuple #[((fnd d key es.toList 0).map (·.2)).getD z,.bool (fnd d key es.toList 0).isSome] else ((fnd d key es.toList 0).map (·.2)).getD z) E.w:=by
  intro es he;have h1:=KR.check _ _ key i hif hir es.isEmpty E.w;have h2:=KR.find _ _ key i hif hir v _ _ d es.toList he E.w;simp only[Sem.run_bind,h1,h2,Result.andThen_ok];cases fnd d key es.toList 0 with
  | none=>simp[hz]
  | some p=>simp
 rcases hm with ⟨rfl,rfl⟩ | ⟨b,es,clk,rfl,hb,he⟩
 ·refine ⟨[],rfl,?_⟩
  have:=fin #[] rfl;unfold Instr.lookup;simp only[Sem.run_bind,run_underlying hT,Result.andThen_ok,Sem.run_pure] at this ⊢;exact this
 ·refine ⟨es.toList,he,?_⟩
  have:=fin es he;unfold Instr.lookup;simp only[Sem.run_bind,run_underlying hT,Result.andThen_ok,Sem.run_pure,Go.MapKept.run_getObj_map hb] at this ⊢;exact this
theorem ZyS {Δ:Tab} (hΔ:Δ.ok P) {B:Base} {E:Env} {H:List Entry} (hI:Inv B E H) {T:TypeId} {ti:TI} (h:ZdQ P T ti) {x i:SV} {vx vi:Value} (hx:den E x vx) (hi:den E i vi) {ok:Bool} {K:SV->Prop} (hk:ZwO Δ ti x i ok H K) :
  ∃ u s,(Instr.lookup T vx vi ok).run P E.w=.ok u E.w/\den E s u/\K s:=by
 unfold ZwO at hk;split at hk
 ·rename_i kt et hkd
  obtain ⟨tk,htk,hk⟩:=XL Δ hΔ hk;obtain ⟨te,hte,hk⟩:=XL Δ hΔ hk;obtain ⟨k,v,d,hm,hk⟩:=ZEi hI hx hk;split at hk
  ·rename_i hc
   obtain ⟨c1,c2,c3,c4⟩:=hc;have hif:=ZAi hi c1 c2;obtain ⟨key,r1,v1,v2,e1,hkr,hr1,hk⟩:=XV k _ _ _ (J3 hi c1) hk;split at hk
   ·have:=Zqu hr1
    subst this;rw[List.append_nil] at e1;subst e1;obtain ⟨zc,hzc,hk⟩:=Zhp E _ _ hk;obtain ⟨z,r2,z1,z2,e2,hzr,hr2,hk⟩:=XV v _ _ _ hzc hk;split at hk
    ·have:=Zqu hr2
     subst this;rw[List.append_nil] at e2;subst e2;obtain ⟨inf,hinf,_,_,hz0⟩:=hte.info';have hz:∀ w,(zeroValue et).run P w=.ok te.zero w:=λw=>by simp[zeroValue,typeInfo,hinf,hz0]
     obtain ⟨es,he,hrun⟩:=ZyT (h.map hkd) (Zvv htk c3) hz hm hif hkr ok;rw[Qb] at hk;have val:∃ u,((fnd d key es 0).map (·.2)).getD te.zero=u/\Zkm v.agg u/\rep E.S E.w v ((ZAu k v d key).getD z) u.cells.toList/\(fnd d key es 0).isSome=(ZAu k v d key).isSome:=by
      rcases Zt8 (x:=key) d es 0 he with ⟨h1,h2⟩ | ⟨j,u,y,e,kd,h1,h2,h3,h4,_⟩
      ·exact ⟨te.zero,by rw[h1];rfl,ZC1 c4,by rw[h2];exact hzr,by rw[h1,h2];rfl⟩
      grind
     obtain ⟨u,hu,hf,hr,hs⟩:=val;rw[hu,hs] at hrun;obtain ⟨s,hs1,hk⟩:=ZDQ hf (XA v _ _ hr) hk;cases ok
     ·grind
     ·simp only[if_true] at hk hrun
      refine ⟨_,_,hrun,?_,hk⟩;simp only[den];exact ⟨[u,.bool (ZAu k v d key).isSome],rfl,hs1,by simp only[den],trivial⟩
    ·exact hk.elim
   ·exact hk.elim
  ·exact hk.elim
 ·exact hk.elim
def Zxc (Δ:Tab) (ti:TI) (x i y:SV) (H:List Entry) (K:List Entry->Prop):Prop :=
 match ti.kind,x with
 | .mp kt et,.mown id=>ZdC Δ kt λtk=>Zid H id λe=>match e with
  | .mpe k v d=>if i.whole=true/\k.agg=i.isA/\ZCc tk k=true/\y.whole=true/\v.agg=y.isA then Qk k i.cells λkey r1=>match r1 with
   | []=>Qk v y.cells λval r2=>match r2 with
    | []=>Zjn H id (.mpe k v (ZCq k v d key val)) K
    | _=>False
   | _=>False
   else False
  | _=>False
 | _,_=>False
theorem grownBy_set {w:World} {b:Nat} {o o':Obj} (hb:w.heap[b]?=some o):w.grownBy {w with heap:=w.heap.setIfInBounds b o'} (some b) :=
 ⟨rfl,rfl,rfl,by simp,λi _ hi=>(Go.MapKept.heap_set hb).2 i (λe=>hi (by rw[e]))⟩
theorem Zzi {Δ:Tab} (hΔ:Δ.ok P) {B:Base} {E:Env} {H:List Entry} (hI:Inv B E H) {T:TypeId} {ti:TI} (h:ZdQ P T ti) {x i y:SV} {vx vi vy:Value} (hx:den E x vx) (hi:den E i vi) (hy:den E y vy) {K:List Entry->Prop} (hk:Zxc Δ ti x i y H K) :
  ∃ E' H',(Instr.mapUpdate T vx vi vy).run P E.w=.ok () E'.w/\Inv B E' H'/\E.le E'/\K H':=by
 unfold Zxc at hk;split at hk
 ·rename_i kt et id hkd
  obtain ⟨tk,htk,hk⟩:=XL Δ hΔ hk;obtain ⟨e,he,hk⟩:=Y5 H hk;split at hk
  ·rename_i k v d
   split at hk
   ·rename_i hc
    obtain ⟨c1,c2,c3,c4,c5⟩:=hc;have hif:=ZAi hi c1 c2;have hyf:=ZAi hy c4 c5;obtain ⟨key,r1,v1,v2,e1,hkr,hr1,hk⟩:=XV k _ _ _ (J3 hi c1) hk;split at hk
    ·have:=Zqu hr1
     subst this;rw[List.append_nil] at e1;subst e1;obtain ⟨val,r2,z1,z2,e2,hvr,hr2,hk⟩:=XV v _ _ _ (J3 hy c4) hk;split at hk
     ·have:=Zqu hr2
      subst this;rw[List.append_nil] at e2;subst e2;rw[XK] at hk;obtain ⟨b,es,clk,h1,hb,hes⟩:=hI.ent id _ he;simp only[den] at hx;have hid:=hx.1;have:=hx.1.symm.trans h1;simp at this;subst this;have KR:=Zvv htk c3;have hT:=h.map hkd;have k1:=KR.check _ _ key vi hif hkr false E.w;have k2:=KR.find _ _ key vi hif hkr v _ _ d es.toList hes E.w;have fin:∀ (es':Array MapEntry) (clk':Nat),(Instr.mapUpdate T (.map (some b)) vi vy).run P E.w=.ok () {E.w with heap:=E.w.heap.setIfInBounds b (.map es' clk')}->
        Zft (rep E.S E.w k) (rep E.S E.w v) k.agg v.agg (ZCq k v d key val) es'.toList->∃ E' H',(Instr.mapUpdate T (.map (some b)) vi vy).run P E.w=.ok () E'.w/\Inv B E' H'/\E.le E'/\K H':=by
       intro es' clk' hrun hes';have hg:=grownBy_set (w:=E.w) (o':=.map es' clk') hb;have hnS:¬E.S b:=(hI.free id _ (.map (some b)) b he rfl hid rfl).1;have hle:=ZeL hg hI.Slt (λg e=>by grind);refine ⟨⟨E.S,_,E.ids⟩,_,hrun,hI.write he rfl hid hg (.mpe k v (ZCq k v d key val)) ?_,hle,hk⟩;exact ⟨b,es',clk',hid,(Go.MapKept.heap_set hb).1,Zcc (λd vs=>Yp hle.S hle.w k d vs) (λd vs=>Yp hle.S hle.w v d vs) _ _ hes'⟩
      have unf:(Instr.mapUpdate T (.map (some b)) vi vy).run P E.w=(match fnd d key es.toList 0 with
        | some (j,_)=>(do
          let key' <-Instr.keyThatStays ((es[j]?.map MapEntry.key).getD vi) vi
          setObj b (.map (es.modify j λe=>{e with key:=key',val:=vy}) clk):Sem Unit)
        | none=>setObj b (.map (es.push {key:=vi,val:=vy,born:=clk}) (clk+1))).run P E.w:=by
       unfold Instr.mapUpdate;simp only[Sem.run_bind,run_underlying hT,Result.andThen_ok,Go.MapKept.run_getObj_map hb,k1,k2];grind
      rcases Zt8 (x:=key) d es.toList 0 hes with ⟨f1,f2⟩ | ⟨j,u,y',e',kd,f1,f2,f3,f4,f5,f6,f7,f8⟩
      ·refine fin (es.push ⟨vi,vy,clk⟩) (clk+1) ?_ ?_
       ·rw[unf,f1]
        exact Go.MapKept.run_setObj_map _ hb
       ·rw[Array.toList_push]
        exact Zxz hif hkr hyf hvr d es.toList 0 hes f1
      ·have f5':es[j]?=some e':=by simpa using f5
       refine fin (es.modify j λe=>{e with key:=vi,val:=vy}) clk ?_ ?_
       ·rw[unf,f1]
        have:=KR.stays _ _ key kd vi e'.key hif hkr f7 f8 f6 E.w;simp only[Nat.zero_add,f5',Option.map_some,Option.getD_some,Sem.run_bind,this,Result.andThen_ok];exact Go.MapKept.run_setObj_map _ hb
       ·rw[Array.toList_modify]
        exact ZxA hif hkr hyf hvr d es.toList 0 j u hes f1
     ·exact hk.elim
    ·exact hk.elim
   ·exact hk.elim
  ·exact hk.elim
 ·exact hk.elim
def Zur (ti:TI) (H:List Entry) (K:SV->List Entry->Prop):Prop :=
 match ti.kind with
 | .mp _ _=>Zwh H 0 λn=>ZtQ H [.mpe ti.ty ti.ety []] λH'=>K (.mown n) H'
 | _=>False
theorem ZwP {B:Base} {E:Env} {H:List Entry} (hI:Inv B E H) {T:TypeId} {ti:TI} (h:ZdQ P T ti) {K:SV->List Entry->Prop} (hk:Zur ti H K) :
  ∃ u E' H' s,(Instr.makeMap T none).run P E.w=.ok u E'.w/\Inv B E' H'/\E.le E'/\den E' s u/\K s H'/\Grow E.w E'.w:=by
 unfold Zur at hk;split at hk
 ·rw[Zcw,Zbc,Nat.zero_add] at hk
  have hle:=ZtP hI (.map #[] 0) (.map (some E.w.heap.size));have hid:(E.ids++[Value.map (some E.w.heap.size)])[H.length]?=some (.map (some E.w.heap.size)):=by
   rw[<-hI.len];simp
  refine ⟨.map (some E.w.heap.size),⟨E.S,E.w.alloc (.map #[] 0),E.ids++[.map (some E.w.heap.size)]⟩,_,_,?_,hI.alloc (.map #[] 0) _ _ rfl ?_,hle,?_,hk,ZcO _ _⟩
  ·simp[Instr.makeMap]
  ·exact ⟨_,#[],0,hid,Go.heap_alloc_new _ _,rfl⟩
  ·simp only[den]
   grind
 ·exact hk.elim
end
section
variable {P:Program}
def ZyH (regs:List SV):List Operand->(List SV->Prop)->Prop
 | [],K=>K []
 | x::r,K=>JO regs x λs=>ZyH regs r λl=>K (s::l)
theorem ZnD {E:Env} {regs:List SV} {a:Act} (hd:Yg E regs a.tmps.toList):∀ (xs:List Operand) {K:List SV->Prop},ZyH regs xs K->∃ l,Yg E l (xs.map a.eval)/\K l
 | [],K,h=>⟨[],trivial,h⟩
 | x::r,K,h=>by
  obtain ⟨s,hs,h⟩:=Yr hd h;obtain ⟨l,hl,h⟩:=ZnD hd r h;exact ⟨s::l,⟨hs,hl⟩,h⟩
def SV.ZD7:SV->Bool
 | .ptr _ _=>true
 | .oep _ _ _ _=>true
 | .fptr _=>true
 | .fn _ _=>true
 | _=>false
theorem ZwV {E:Env} {s:SV} {v:Value} (h:den E s v) (hp:s.ZD7=true) :
  (∃ a,v=.pointer (some a))\/∃ f cs,v=.func (.func f) #[] cs:=by
 cases s<;>simp[SV.ZD7] at hp<;>simp only[den] at h
 all_goals grind
def ZzU (s:SV) (K:SV->Prop):Prop :=
 match s with
 | .nptr t d=>∃ x,d=some x/\Vj t x λcs=>K (.fptr cs)
 | s=>K s
theorem ZzV {E:Env} {s:SV} {v:Value} (hs:den E s v) {K:SV->Prop} (hk:ZzU s K):∃ s',den E s' v/\K s':=by
 unfold ZzU at hk;split at hk
 ·rename_i t d
  obtain ⟨x,rfl,hk⟩:=hk;rw[Qb] at hk;refine ⟨_,?_,hk⟩;simp only[den] at hs ⊢;rcases hs with ⟨e,_⟩ | ⟨x',p,xs,e,e2,hp,hS,hc,hr⟩
  ·cases e
  ·injection e with e;subst e
   simp at e2;subst e2;exact ⟨p,xs,rfl,hp,hS,hc,XA t _ _ hr⟩
 grind
def ZDC (Δ:Tab) (op:BinOp) (T:TypeId) (sx sy:SV) (K:SV->Prop):Prop :=
 match sx,sy with
 | .agg xs,.agg ys=>ZdC Δ T λti=>eqK op ti (.agg xs) (.agg ys) K
 | .bool x,sy=>ZdC Δ T λti=>eqK op ti (.bool x) sy K
 | .blit x,sy=>ZdC Δ T λti=>eqK op ti (.blit x) sy K
 | sx,.nilp=>ZdC Δ T λti=>if Zmm ti.kind=true then ZHF op ti sx K else False
 | sx,.nsl=>ZdC Δ T λti=>if Zvu ti.kind=true then ZHF op ti sx K else False
 | sx,sy=>ZHT op sx sy K
theorem ZBH {Δ:Tab} (hΔ:Δ.ok P) {E:Env} {op:BinOp} {T:TypeId} {x y:SV} {K:SV->Prop} (h:ZDC Δ op T x y K) {u v:Value} (hu:den E x u) (hv:den E y v) (ox oy:Operand) :
  ∃ r s,(∀ w,((do eqGuard op T ox oy u v;binOp op T u v:Sem Value)).run P w=.ok r w)/\den E s r/\K s:=by
 unfold ZDC at h;split at h
 ·obtain ⟨ti,ht,h⟩:=XL Δ hΔ h;exact ZzZ ht h hu hv ox oy
 ·obtain ⟨ti,ht,h⟩:=XL Δ hΔ h;exact ZzZ ht h hu hv ox oy
 ·obtain ⟨ti,ht,h⟩:=XL Δ hΔ h;exact ZzZ ht h hu hv ox oy
 ·obtain ⟨ti,ht,h⟩:=XL Δ hΔ h
  split at h
  ·rename_i hq
   exact ZAy ht (.inl rfl) h ⟨λ_=>rfl,λhs=>by cases hk:ti.kind<;>rw[hk] at hq hs<;>simp[Zmm,Zvu] at hq hs⟩ hu hv ox oy
  ·exact h.elim
 ·obtain ⟨ti,ht,h⟩:=XL Δ hΔ h
  split at h
  ·rename_i hq
   exact ZAy ht (.inr rfl) h ⟨λhs=>by cases hk:ti.kind<;>rw[hk] at hq hs<;>simp[Zmm,Zvu] at hq hs,λ_=>rfl⟩ hu hv ox oy
  ·exact h.elim
 ·exact ZDD h hu hv T ox oy
def opK (Δ:Tab) (regs:List SV) (H:List Entry) (op:Op) (K:SV->List Entry->Prop):Prop :=
 match op with
 | .move x=>JO regs x λs=>K s H
 | .assign x=>JO regs x λs=>K s H
 | .pick c x y=>JO regs c λs=>match s with
  | .blit true=>JO regs x λs=>K s H
  | .blit false=>JO regs y λs=>K s H
  | .bool p=>(p=true->JO regs x λs=>K s H)/\(p=false->JO regs y λs=>K s H)
  | _=>False
 | .alloc T=>ZdC Δ T λti=>ZC4 ti H K
 | .box _ x=>JO regs x λs=>ZHV s H K
 | .build T ps=>ZdC Δ T λti=>Zyg regs ps.toList λl=>ZzC ti l λs=>K s H
 | .buildSlice T n ps=>ZdC Δ T λti=>Zyg regs ps.toList λl=>ZmC ti n l H K
 | .load T x=>ZdC Δ T λti=>JO regs x λs=>ZEe ti s H K
 | .store T x y=>ZdC Δ T λti=>JO regs x λsa=>JO regs y λsx=>ZBd ti sa sx H λH'=>K (.tup []) H'
 | .nilCheck x=>JO regs x λs=>ZzU s λs'=>if s'.ZD7=true then K s' H else match s' with
  | .nilp=>Dead
  | _=>False
 | .binOp op T x y _=>JO regs x λsx=>JO regs y λsy=>ZDC Δ op T sx sy λs=>K s H
 | .unOp op _ x=>JO regs x λsx=>unK op sx λs=>K s H
 | .convert S T x=>ZdC Δ S λts=>ZdC Δ T λtd=>JO regs x λs=>match ts.kind,td.kind with
  | .sl,.str=>ZdC Δ ts.elem λte=>ZzO te s H λr=>K r H
  | _,_=>ZDO ts td s H λr=>K r H
 | .makeFunc (.func f) first caps=>if first.size=0 then ZyH regs caps.toList λl=>K (.fn f l) H else False
 | .makeSlice T l c=>ZdC Δ T λti=>JO regs l λsl=>JO regs c λsc=>ZEg ti sl sc H K
 | .slice T x lo hi none=>ZdC Δ T λti=>JO regs x λs=>ZA6 ti regs s lo hi H K
 | .fieldAddr T x f=>ZdC Δ T λti=>JO regs x λs=>ZoB ti s f λr=>K r H
 | .field T x f=>ZdC Δ T λti=>JO regs x λs=>Zz2 ti s f λr=>K r H
 | .indexAddr T x i=>ZdC Δ T λti=>JO regs x λs=>JO regs i λsi=>ZlP ti s si i H λr=>K r H
 | .index T x i=>ZdC Δ T λti=>JO regs x λs=>JO regs i λsi=>ZBf ti s si λr=>K r H
 | .extract x i=>JO regs x λs=>ZLw s i λr=>K r H
 | .makeMap T none=>ZdC Δ T λti=>Zur ti H K
 | .lookup T x i ok=>ZdC Δ T λti=>JO regs x λsx=>JO regs i λsi=>ZwO Δ ti sx si ok H λr=>K r H
 | .mapUpdate T x i y=>ZdC Δ T λti=>JO regs x λsx=>JO regs i λsi=>JO regs y λsy=>Zxc Δ ti sx si sy H λH'=>K (.tup []) H'
 | .call c=>match c.callee,c.args.toList,c.argTypes.toList with
  | .builtin .len,[x],[T]=>ZdC Δ T λti=>JO regs x λs=>ZKu ti s H λr=>K r H
  | .builtin .append,[x,y],[T,T']=>if T=T' then ZdC Δ T λti=>JO regs x λsx=>JO regs y λsy=>Zwm ti sx sy H K else False
  | .builtin .min,x::r,_=>JO regs x λs=>ZyH regs r λl=>ZGm false s l λr=>K r H
  | .builtin .max,x::r,_=>JO regs x λs=>ZyH regs r λl=>ZGm true s l λr=>K r H
  | _,_,_=>False
 | _=>False
def ZfD:Op->Bool
 | .move _=>true
 | .assign _=>true
 | .pick _ _ _=>true
 | .build _ _=>true
 | .load _ _=>true
 | .nilCheck _=>true
 | .binOp _ _ _ _ _=>true
 | .unOp _ _ _=>true
 | .fieldAddr _ _ _=>true
 | .field _ _ _=>true
 | .indexAddr _ _ _=>true
 | .index _ _ _=>true
 | .extract _ _=>true
 | .makeFunc _ _ _=>true
 | .call c=>match c.callee with
  | .builtin .len=>true
  | .builtin .min=>true
  | .builtin .max=>true
  | _=>false
 | _=>false
def isLoad:Op->Bool
 | .load _ _=>true
 | _=>false
def ZpH:Op->Bool
 | .alloc _=>true
 | .box _ _=>true
 | .buildSlice _ _ _=>true
 | .makeSlice _ _ _=>true
 | .slice _ _ _ _ _=>true
 | .convert _ _ _=>true
 | .makeMap _ _=>true
 | _=>false
def appArg:Op->Option Operand
 | .call ⟨.builtin .append,args,_⟩=>args.toList.head?
 | .store _ x _=>some x
 | _=>none
def Ran (P:Program) (B:Base) (E:Env) (o:Oper) (a:Act) (K:SV->List Entry->Prop):Prop :=
 ∃ nx v E' H' s,(execOp a.eval o).run P E.w=.ok nx E'.w/\(nx=.value v\/nx=.skip/\v=undef)/\Inv B E' H'/\E.le E'/\den E' s v/\K s H'/\
  (ZfD o.op=true->nx=.value v/\E'.w=E.w/\∀ w',(isLoad o.op=true->ZuX E.w w')->(execOp a.eval o).run P w'=.ok (.value v) w')/\((ZfD o.op||ZpH o.op)=true->Grow E.w E'.w)/\∀ x,appArg o.op=some x->E.w.grownBy E'.w (YC (a.eval x))
theorem ZwG {w w':World} {v:Value} (h:w.grownBy w' v.ownBlock):w.grownBy w' (YC v):=⟨h.os,h.tape,h.output,h.size,λk hk hne=>h.block k hk (λe=>hne (ZzA v k e.symm).symm)⟩
theorem Ztx {op:Op} {p:Operand->Prop} (ha:appArg op=none):∀ x,appArg op=some x->p x:=λx e=>by rw[ha] at e;cases e
theorem ZAS {B:Base} {E:Env} {H:List Entry} (hI:Inv B E H) {o:Oper} {a:Act} {K:SV->List Entry->Prop} {x:Sem Value} (he:execOp a.eval o=(do pure (.value (<-x)):Sem Next)) (hl:isLoad o.op=true)
  (h:∃ u s E' H',E'.w=E.w/\ZBE P E.w x u/\Inv B E' H'/\E.le E'/\den E' s u/\K s H') (ha:appArg o.op=none:=by rfl):Ran P B E o a K:=by
 obtain ⟨u,s,E',H',hw,h1,h2,h2',h3,h3'⟩:=h;have h4:∀ w',ZuX E.w w'->(execOp a.eval o).run P w'=.ok (.value u) w':=λw' hst=>by rw[he,Sem.run_bind,h1 w' hst];rfl
 exact ⟨_,u,E',H',s,by rw[hw];exact h4 _ (ZuX.refl _),.inl rfl,h2,h2',h3,h3',λ_=>⟨rfl,hw,λw' h=>h4 w' (h hl)⟩,λ_=>by rw[hw];exact Grow.refl _,Ztx ha⟩
theorem Vo {B:Base} {E:Env} {H:List Entry} (hI:Inv B E H) {o:Oper} {a:Act} {K:SV->List Entry->Prop} {x:Sem Value} (he:execOp a.eval o=(do pure (.value (<-x)):Sem Next))
  (h:∃ u s,Zsr P x u/\den E s u/\K s H) (ha:appArg o.op=none:=by rfl):Ran P B E o a K:=by
 obtain ⟨u,s,h1,h2,h3⟩:=h;have h4:∀ w',(execOp a.eval o).run P w'=.ok (.value u) w':=λw'=>by rw[he,Sem.run_bind,h1 w'];rfl
 exact ⟨_,u,E,H,s,h4 _,.inl rfl,hI,Env.le.refl E,h2,h3,λ_=>⟨rfl,rfl,λw' _=>h4 w'⟩,λ_=>Grow.refl _,Ztx ha⟩
theorem ZjR {B:Base} {E:Env} {H:List Entry} (hI:Inv B E H) {o:Oper} {a:Act} {K:SV->List Entry->Prop} {u:Value} {s:SV} (he:execOp a.eval o=(pure (.value u):Sem Next))
  (h2:den E s u) (h3:K s H) (ha:appArg o.op=none:=by rfl):Ran P B E o a K :=
 ⟨_,u,E,H,s,by rw[he];rfl,.inl rfl,hI,Env.le.refl E,h2,h3,λ_=>⟨rfl,rfl,λw' _=>by rw[he];rfl⟩,λ_=>Grow.refl _,Ztx ha⟩
theorem Zey {B:Base} {E:Env} {o:Oper} {a:Act} {K:SV->List Entry->Prop} {x:Sem Value} (he:execOp a.eval o=(do pure (.value (<-x)):Sem Next)) (hl:ZfD o.op=false)
  (h:∃ u E' H' s,x.run P E.w=.ok u E'.w/\Inv B E' H'/\E.le E'/\den E' s u/\K s H'/\Grow E.w E'.w) (ha:appArg o.op=none:=by rfl):Ran P B E o a K:=by
 obtain ⟨u,E',H',s,h1,h2,h3,h4,h5,h6⟩:=h;exact ⟨_,u,E',H',s,by simp_all,.inl rfl,h2,h3,h4,h5,λe=>(by rw[hl] at e;cases e),λ_=>h6,Ztx ha⟩
theorem ZEo {B:Base} {E:Env} {o:Oper} {a:Act} {K:SV->List Entry->Prop} {x:Sem Value} {r:Operand} (he:execOp a.eval o=(do pure (.value (<-x)):Sem Next)) (hl:(ZfD o.op||ZpH o.op)=false) (ha:appArg o.op=some r)
  (h:∃ u E' H' s,x.run P E.w=.ok u E'.w/\Inv B E' H'/\E.le E'/\den E' s u/\K s H'/\E.w.grownBy E'.w (a.eval r).ownBlock):Ran P B E o a K:=by
 obtain ⟨u,E',H',s,h1,h2,h3,h4,h5,h6⟩:=h;have hl':ZfD o.op=false:=by grind
 exact ⟨_,u,E',H',s,by simp_all,.inl rfl,h2,h3,h4,h5,λe=>(by grind),λe=>(by rw[hl] at e;cases e),λx hx=>by rw[ha] at hx;injection hx with hx;subst hx;exact ZwG h6⟩
theorem ZAE {Δ:Tab} (hΔ:Δ.ok P) {B:Base} {E:Env} {H:List Entry} (hI:Inv B E H) {regs:List SV} {a:Act} (hd:Yg E regs a.tmps.toList) {o:Oper} {K:SV->List Entry->Prop}
  (h:opK Δ regs H o.op K):Ran P B E o a K:=by
 obtain ⟨dst,op,type,pos,after,guard⟩:=o;simp only at h;have val:∀ {x:Operand} (op':Op),(execOp a.eval ⟨dst,op',type,pos,after,guard⟩=pure (.value (a.eval x)))->(JO regs x λs=>K s H)->appArg op'=none->Ran P B E ⟨dst,op',type,pos,after,guard⟩ a K:=by
  intro x op' he h ha;obtain ⟨s,hs,h⟩:=Yr hd h;exact ZjR hI he hs h ha
 unfold opK at h;split at h
 ·exact val _ rfl h rfl
 ·exact val _ rfl h rfl
 ·rename_i c x y
  obtain ⟨s,hs,h⟩:=Yr hd h;split at h
  ·simp only[den] at hs
   obtain ⟨s',hs',h⟩:=Yr hd h;exact ZjR hI (u:=a.eval x) (by simp[execOp,hs,asBool]) hs' h
  ·simp only[den] at hs
   obtain ⟨s',hs',h⟩:=Yr hd h;exact ZjR hI (u:=a.eval y) (by simp[execOp,hs,asBool]) hs' h
  ·rename_i p
   simp only[den] at hs;cases p
   ·obtain ⟨s',hs',h⟩:=Yr hd (h.2 rfl)
    exact ZjR hI (u:=a.eval y) (by simp[execOp,hs,asBool]) hs' h
   ·obtain ⟨s',hs',h⟩:=Yr hd (h.1 rfl)
    exact ZjR hI (u:=a.eval x) (by simp[execOp,hs,asBool]) hs' h
  ·exact h.elim
 ·obtain ⟨ti,ht,h⟩:=XL Δ hΔ h
  exact Zey rfl rfl (Zzw hI ht h)
 ·obtain ⟨s,hs,h⟩:=Yr hd h
  exact Zey rfl rfl (ZDE hI hs h)
 ·rename_i T ps
  obtain ⟨ti,ht,h⟩:=XL Δ hΔ h;obtain ⟨l,hl,h⟩:=ZrS hd _ h;exact Vo hI rfl (ZzD ht (by simp_all) h)
 ·rename_i T n ps
  obtain ⟨ti,ht,h⟩:=XL Δ hΔ h;obtain ⟨l,hl,h⟩:=ZrS hd _ h;exact Zey rfl rfl (Zss hI ht (by simp_all) h)
 ·obtain ⟨ti,ht,h⟩:=XL Δ hΔ h
  obtain ⟨s,hs,h⟩:=Yr hd h;exact ZAS hI rfl rfl (ZCh hI ht hs h)
 ·obtain ⟨ti,ht,h⟩:=XL Δ hΔ h
  obtain ⟨sa,hsa,h⟩:=Yr hd h;obtain ⟨sx,hsx,h⟩:=Yr hd h;obtain ⟨E',H',h1,h2,h3,h4,h5⟩:=ZBe hI ht hsa hsx h;exact ⟨.skip,undef,E',H',.tup [],by simp[execOp,h1],.inr ⟨rfl,rfl⟩,h2,h3,by simp only[den];exact ⟨[],rfl,trivial⟩,h4,λe=>(by cases e),λe=>(by cases e),λy hy=>by simp only[appArg] at hy;grind⟩
 ·obtain ⟨s0,hs0,h⟩:=Yr hd h
  obtain ⟨s,hs,h⟩:=ZzV hs0 h;split at h
  ·rename_i hp
   rcases ZwV hs hp with ⟨p,hv⟩ | ⟨f,cs,hv⟩
   ·exact ZjR hI (by simp[execOp,hv];rfl) (by rw[<-hv];exact hs) h
   ·exact ZjR hI (by simp[execOp,hv];rfl) (by rw[<-hv];exact hs) h
  ·split at h
   ·exact h.no.elim
   ·exact h.elim
 ·obtain ⟨sx,hsx,h⟩:=Yr hd h
  obtain ⟨sy,hsy,h⟩:=Yr hd h;obtain ⟨r,s,h1,h2,h3⟩:=ZBH (P:=P) hΔ h hsx hsy _ _;exact Vo hI rfl ⟨r,s,h1,h2,h3⟩
 ·obtain ⟨sx,hsx,h⟩:=Yr hd h
  obtain ⟨r,s,h1,h2,h3⟩:=ZG5 (P:=P) h hsx;exact Vo hI rfl ⟨r,s,h1,h2,h3⟩
 ·obtain ⟨ts,hts,h⟩:=XL Δ hΔ h
  obtain ⟨td,htd,h⟩:=XL Δ hΔ h;obtain ⟨s,hs,h⟩:=Yr hd h;split at h
  ·rename_i hk1 hk2
   obtain ⟨te,hte,h⟩:=XL Δ hΔ h;obtain ⟨u,r,h1,h2,h3⟩:=ZzP (P:=P) hI hts hk1 htd hk2 hte hs h;exact Zey rfl rfl ⟨u,E,H,r,h1,hI,Env.le.refl E,h2,h3,Grow.refl _⟩
  ·obtain ⟨u,r,h1,h2,h3⟩:=ZBQ (P:=P) hts htd hs h
   exact Vo hI rfl ⟨u,r,h1,h2,h3⟩
 ·rename_i f first caps
  split at h
  ·rename_i hf
   obtain ⟨caps⟩:=caps;obtain ⟨l,hl,h⟩:=ZnD hd _ h;have hf':first=#[]:=Array.eq_empty_of_size_eq_zero hf;subst hf';refine Vo hI rfl ⟨_,_,λw=>rfl,?_,h⟩;simp only[den];grind
  ·exact h.elim
 ·obtain ⟨ti,ht,h⟩:=XL Δ hΔ h
  obtain ⟨sl,hsl,h⟩:=Yr hd h;obtain ⟨sc,hsc,h⟩:=Yr hd h;exact Zey rfl rfl (ZCl hI ht hsl hsc h)
 ·obtain ⟨ti,ht,h⟩:=XL Δ hΔ h
  obtain ⟨s,hs,h⟩:=Yr hd h;exact Zey rfl rfl (ZA7 hI hd ht hs h)
 ·obtain ⟨ti,ht,h⟩:=XL Δ hΔ h
  obtain ⟨s,hs,h⟩:=Yr hd h;exact Vo hI rfl (Zt6 ht hs h)
 ·obtain ⟨ti,ht,h⟩:=XL Δ hΔ h
  obtain ⟨s,hs,h⟩:=Yr hd h;exact Vo hI rfl (Zz3 ht hs h)
 ·rename_i T x i
  obtain ⟨ti,ht,h⟩:=XL Δ hΔ h;obtain ⟨s,hs,h⟩:=Yr hd h;cases i with
  | const v =>
   obtain ⟨si,hsi,h⟩:∃ si,(∀ j,ZmH (.const v)=some j->∀ k i,si=.int k i->i=(j:Int))/\den E si v/\ZlP ti s si (.const v) H λr=>K r H:=by
    have h':=h;obtain ⟨si,hsi,h⟩:=Yr hd h;have hsi':den E si v:=hsi;refine ⟨si,λj hj k i hsi2=>?_,hsi',h⟩;subst hsi2;simp only[den] at hsi';subst hsi';simp only[ZmH] at hj;split at hj;all_goals grind
   exact Vo hI rfl (Zg5 hI ht hs h.1 h.2 hsi)
  | tmp t =>
   obtain ⟨si,hsi,h⟩:=Yr hd h;exact Vo hI rfl (Zg5 hI ht hs hsi h (λj hj=>by simp[ZmH] at hj))
  | global g =>
   obtain ⟨si,hsi,h⟩:=Yr hd h;exact Vo hI rfl (Zg5 hI ht hs hsi h (λj hj=>by simp[ZmH] at hj))
  | func f =>
   obtain ⟨si,hsi,h⟩:=Yr hd h;exact Vo hI rfl (Zg5 hI ht hs hsi h (λj hj=>by simp[ZmH] at hj))
 ·obtain ⟨ti,ht,h⟩:=XL Δ hΔ h
  obtain ⟨s,hs,h⟩:=Yr hd h;obtain ⟨si,hsi,h⟩:=Yr hd h;obtain ⟨u,r,h1,h2,h3⟩:=ZBg (P:=P) ht hs hsi h;exact Vo hI rfl ⟨u,r,h1,h2,h3⟩
 ·obtain ⟨s,hs,h⟩:=Yr hd h
  obtain ⟨u,r,h1,h2,h3⟩:=ZFz (P:=P) hs h;exact Vo hI rfl ⟨u,r,h1,h2,h3⟩
 ·obtain ⟨ti,ht,h⟩:=XL Δ hΔ h
  exact Zey rfl rfl (ZwP hI ht h)
 ·obtain ⟨ti,ht,h⟩:=XL Δ hΔ h
  obtain ⟨sx,hsx,h⟩:=Yr hd h;obtain ⟨si,hsi,h⟩:=Yr hd h;obtain ⟨u,r,h1,h2,h3⟩:=ZyS (P:=P) hΔ hI ht hsx hsi h;exact Zey rfl rfl ⟨u,E,H,r,h1,hI,Env.le.refl E,h2,h3,Grow.refl _⟩
 ·obtain ⟨ti,ht,h⟩:=XL Δ hΔ h
  obtain ⟨sx,hsx,h⟩:=Yr hd h;obtain ⟨si,hsi,h⟩:=Yr hd h;obtain ⟨sy,hsy,h⟩:=Yr hd h;obtain ⟨E',H',h1,h2,h3,h4⟩:=Zzi (P:=P) hΔ hI ht hsx hsi hsy h;exact ⟨.skip,undef,E',H',.tup [],by simp[execOp,h1],.inr ⟨rfl,rfl⟩,h2,h3,by simp only[den];exact ⟨[],rfl,trivial⟩,h4,λe=>(by cases e),λe=>(by cases e),Ztx rfl⟩
 ·rename_i c
  obtain ⟨callee,args,argTypes⟩:=c;obtain ⟨args⟩:=args;obtain ⟨argTypes⟩:=argTypes;simp only at h;split at h
  ·rename_i x T
   obtain ⟨ti,ht,h⟩:=XL Δ hΔ h;obtain ⟨s,hs,h⟩:=Yr hd h;obtain ⟨u,r,h1,h2,h3⟩:=ZEc (ty:=type) hI ht hs h;exact Vo hI (x:=Builtin.len_ #[T] type #[a.eval x]) (by simp only[execOp,resolve,invoke,builtin,pure_bind,List.map_toArray,List.map_cons,List.map_nil]) ⟨u,r,h1,h2,h3⟩
  ·rename_i x y T T'
   split at h
   ·rename_i hTT;subst hTT
    obtain ⟨ti,ht,h⟩:=XL Δ hΔ h;obtain ⟨sx,hsx,h⟩:=Yr hd h;obtain ⟨sy,hsy,h⟩:=Yr hd h;exact ZEo (x:=Builtin.append_ #[T,T] type #[a.eval x,a.eval y]) (by simp only[execOp,resolve,invoke,builtin,pure_bind,List.map_toArray,List.map_cons,List.map_nil]) rfl rfl (Zyx (ty:=type) hI ht hsx hsy h)
   ·exact h.elim
  ·rename_i x r
   obtain ⟨s,hs,h⟩:=Yr hd h;obtain ⟨l,hl,h⟩:=ZnD hd _ h;obtain ⟨u,r',h1,h2,h3⟩:=ZwQ (P:=P) (mx:=false) l s _ _ hs hl h;exact Vo hI (x:=Builtin.min_ argTypes.toArray type ((x::r).toArray.map a.eval)) (by simp only[execOp,resolve,invoke,builtin,pure_bind]) ⟨u,r',λw=>by simpa[Builtin.min_] using h1 w,h2,h3⟩
  ·rename_i x r
   obtain ⟨s,hs,h⟩:=Yr hd h;obtain ⟨l,hl,h⟩:=ZnD hd _ h;obtain ⟨u,r',h1,h2,h3⟩:=ZwQ (P:=P) (mx:=true) l s _ _ hs hl h;exact Vo hI (x:=Builtin.max_ argTypes.toArray type ((x::r).toArray.map a.eval)) (by simp only[execOp,resolve,invoke,builtin,pure_bind]) ⟨u,r',λw=>by simpa[Builtin.max_] using h1 w,h2,h3⟩
  ·exact h.elim
 ·exact h.elim
end
inductive Sh
 | dat (t:Ty)
 | own (e:Dp)
 | io (e:Dp)
 | back (e:Dp)
@[reducible] def Sh.den:Sh->Type
 | .dat t=>t.den
 | .own e=>e.ty.den
 | .io e=>e.ty.den
 | .back e=>e.ty.den
@[reducible] def Shs:List Sh->Type
 | []=>Unit
 | s::r=>s.den×Shs r
@[reducible] def Ios:List Sh->Type
 | []=>Unit
 | .io e::r=>e.ty.den×Ios r
 | .back e::r=>e.ty.den×Ios r
 | .dat _::r=>Ios r
 | .own _::r=>Ios r
structure Ctr where
 args:List Sh
 rets:List Sh
 tr:Shs args->(Shs rets->Ios args->Prop)->Prop
def ZBp (t:Ty) (v:Value):Prop:=(t.agg=true->∃ cs,v=.agg cs)/\(t.agg=false->v.cells=#[v])
def ZFP (S:Nat->Prop) (w:World) (t:Ty) (d:t.den) (v:Value):Prop :=
 (t.agg=true->∃ cs,v=.agg cs)/\(t.agg=false->v.cells=#[v])/\rep S w t d v.cells.toList
def ZvW (S:Nat->Prop) (w:World):(s:Sh)->s.den->Value->List Nat->Prop
 | .dat t,d,v,fp=>fp=[]/\ZFP S w t d v
 | .own e,d,v,fp=>ZBp e.ty v/\Zh5 S w e d v.cells.toList fp
 | .back e,d,v,fp=>ZBp e.ty v/\Zh5 S w e d v.cells.toList fp
 | .io e,d,v,fp=>∃ b cs T f,v=.pointer (some ⟨b,0,none⟩)/\w.heap[b]?=some (.cells cs T (0,0))/\Zh5 S w e d cs.toList f/\fp=b::f
def ZeA (S:Nat->Prop) (w:World):(l:List Sh)->Shs l->List Value->List Nat->Prop
 | [],_,vs,fp=>vs=[]/\fp=[]
 | s::r,d,vs,fp=>∃ v vr f fr,vs=v::vr/\fp=f++fr/\ZvW S w s d.1 v f/\ZeA S w r d.2 vr fr
def Zik (S:Nat->Prop) (w:World):(l:List Sh)->Ios l->List Value->List Nat->Prop
 | [],_,_,fp=>fp=[]
 | .io e::r,d,vs,fp=>∃ v vr f fr,vs=v::vr/\fp=f++fr/\ZvW S w (.io e) d.1 v f/\Zik S w r d.2 vr fr
 | .back e::r,d,vs,fp=>∃ v vr f fr,vs=v::vr/\fp=f++fr/\ZvW S w (.back e) d.1 v f/\Zik S w r d.2 vr fr
 | .dat _::r,d,vs,fp=>∃ v vr,vs=v::vr/\Zik S w r d vr fp
 | .own _::r,d,vs,fp=>∃ v vr,vs=v::vr/\Zik S w r d vr fp
def retv (us:List Value) (v:Value):Prop :=
 match us with
 | [u]=>v=u
 | us=>v=.tuple us.toArray
def ZlI (P:Program) (f:FuncId):Prop:=∃ fn,P.funcs[f]?=some fn/\(fn.name == "runtime.NumGoroutine")=false/\fn.body.isNone=false
def Za (P:Program) (f:FuncId) (C:Ctr):Prop:=ZlI P f/\
 ∀ (w:World) (S:Nat->Prop) (vs:List Value) (as:Shs C.args) (fp:List Nat) (K:Shs C.rets->Ios C.args->Prop),
  (∀ b,S b->b<w.heap.size)->Zma S w->ZeA S w C.args as vs fp->fp.Nodup->(∀ g∈fp,¬S g/\g<w.heap.size)->C.tr as K->
  Calls P f vs.toArray w λe w'=>∃ v us rs ios S' fr fio,e=.returned v/\retv us v/\K rs ios/\Keeps ⟨w,S,λb=>b∈fp,[]⟩ w'/\(∀ b,S b->S' b)/\
   (∀ b,S' b->b<w'.heap.size/\(b<w.heap.size->S b\/b∈fp))/\ZeA S' w' C.rets rs us fr/\Zik S' w' C.args ios vs fio/\
   (fio++fr).Nodup/\∀ g∈fio++fr,¬S' g/\g<w'.heap.size/\(w.heap.size<=g\/g∈fp)
def SV.isAgg:SV->Bool
 | .agg _=>true
 | _=>false
def ZFK (f:SV->List Entry->(SV->List Entry->Prop)->Prop):List SV->List Entry->(List SV->List Entry->Prop)->Prop
 | [],H,K=>K [] H
 | s::r,H,K=>f s H λs' H1=>ZFK f r H1 λr' H2=>K (s'::r') H2
def Zq3:Nat->SV->List Entry->(SV->List Entry->Prop)->Prop
 | 0,s,H,K=>K s H
 | n+1,s,H,K=>match s with
  | .ptr id 0=>Zid H id λe=>match e with
   | .box cells=>ZFK (Zq3 n) cells H λcs0 H0=>VX cs0 H0 λcs' H1=>Zid H1 id λe1=>match e1 with
    | .box _=>Zjn H1 id (.fbx cs') λH2=>K (.fptr cs') H2
    | _=>False
   | .fbx cells=>K (.fptr cells) H
   | _=>False
  | .own id=>Zid H id λe=>match e with
   | .hole _ e d i cells _=>ZFK (Zq3 n) cells H λcs0 H0=>VX cs0 H0 λcs' H1=>Qk e.ty cs' λx rest=>match rest with
    | []=>Zid H1 id λe1=>match e1 with
     | .hole _ _ _ _ _ _=>Zjn H1 id (.frz e.ty (d.set i.toNat x)) λH2=>K (.sl e.ty (d.set i.toNat x)) H2
     | _=>False
    | _=>False
   | _=>K (.own id) H
  | s=>K s H
def ZAc (s:SV) (H:List Entry) (K:SV->List Entry->Prop):Prop:=Zq3 3 s H K
def ZwC (cs:List SV) (H:List Entry) (K:List SV->List Entry->Prop):Prop:=ZFK ZAc cs H K
def ZAa (s:SV) (H:List Entry) (K:List SV->List Entry->Prop):Prop :=
 match s with
 | .fn f caps=>ZwC caps H λcaps' H1=>K [.fn f caps'] H1
 | .ptr id off=>ZAc (.ptr id off) H λs' H1=>K [s'] H1
 | s=>ZwC s.cells H λcs0 H0=>VX cs0 H0 K
def Zvb (t:Ty) (cs:List SV) (K:SV->Prop):Prop :=
 if t.agg=true then K (.agg cs) else match cs with
  | c::_=>K c
  | []=>False
def ZpR:(l:List Sh)->List SV->List Entry->(Shs l->List Entry->Prop)->Prop
 | [],ss,H,K=>match ss with
  | []=>K () H
  | _=>False
 | .dat t::r,ss,H,K=>match ss with
  | s::ss=>if s.whole=true/\t.agg=s.isAgg then ZAa s H λcs H1=>Qk t cs λd rest=>match rest with
    | []=>ZpR r ss H1 λds H2=>K (d,ds) H2
    | _=>False
   else False
  | _=>False
 | .own e::r,ss,H,K=>match ss with
  | s::ss=>if s.whole=true/\e.ty.agg=s.isAgg then closeAll e s.cells H λd H1=>ZpR r ss H1 λds H2=>K (d,ds) H2 else False
  | _=>False
 | .back e::r,ss,H,K=>match ss with
  | s::ss=>if s.whole=true/\e.ty.agg=s.isAgg then closeAll e s.cells H λd H1=>ZpR r ss H1 λds H2=>K (d,ds) H2 else False
  | _=>False
 | .io e::r,ss,H,K=>match ss with
  | .ptr id 0::ss=>Zid H id λen=>match en with
   | .box cells=>Zjn H id .gone λH0=>closeAll e cells H0 λd H1=>ZpR r ss H1 λds H2=>K (d,ds) H2
   | _=>False
  | _=>False
def Dp.closed:Dp->Bool
 | .flat t=>t.flat
 | .ol _ e=>e.closed
 | .pair a b=>a.closed&&b.closed
 | .mp k v=>k.flat&&v.flat
def Sh.flat:Sh->Bool
 | .dat t=>t.flat
 | .own e=>e.closed
 | .io e=>e.closed
 | .back e=>e.closed
def Zqw:List Sh->Bool
 | []=>true
 | s::r=>s.flat&&Zqw r
def ZmJ:List Sh->Bool
 | []=>true
 | .io e::r=>e.closed&&ZmJ r
 | .back e::r=>e.closed&&ZmJ r
 | _::r=>ZmJ r
def Zgj:(e:Dp)->List SV->e.ty.den->List Entry->(List SV->List Entry->Prop)->Prop
 | .flat t,cs,_,H,K=>Zk3 cs t.size λr=>K r H
 | .ol et e,cs,d,H,K=>match cs with
  | .nsl::r=>K r H
  | .own id::r=>ZEn et e id d H λH'=>K r H'
  | _=>False
 | .mp k v,cs,d,H,K=>match cs with
  | .mown id::r=>Zjn H id (.mpe k v d) λH'=>K r H'
  | _=>False
 | .pair a b,cs,d,H,K=>Zv d λx y=>Zgj a cs x H λr H1=>Zgj b r y H1 K
def Zzo:(l:List Sh)->List SV->Ios l->List Entry->(List Entry->Prop)->Prop
 | [],_,_,H,K=>K H
 | .io e::r,ss,d,H,K=>match ss with
  | .ptr id 0::ss=>Zv d λx d'=>VB e x H λcells H1=>Zjn H1 id (.box cells) λH2=>Zzo r ss d' H2 K
  | _=>False
 | .back e::r,ss,d,H,K=>match ss with
  | s::ss=>if s.whole=true then Zv d λx d'=>Zgj e s.cells x H λ_ H1=>Zzo r ss d' H1 K else False
  | _=>False
 | .dat _::r,ss,d,H,K=>match ss with
  | _::ss=>Zzo r ss d H K
  | _=>False
 | .own _::r,ss,d,H,K=>match ss with
  | _::ss=>Zzo r ss d H K
  | _=>False
def Zpr:(l:List Sh)->Shs l->List Entry->(List SV->List Entry->Prop)->Prop
 | [],_,H,K=>K [] H
 | .dat t::r,d,H,K=>Zv d λx d'=>Vj t x λcs=>Zvb t cs λs=>Zpr r d' H λss H'=>K (s::ss) H'
 | .own e::r,d,H,K=>Zv d λx d'=>VB e x H λcs H1=>Zvb e.ty cs λs=>Zpr r d' H1 λss H'=>K (s::ss) H'
 | .back e::r,d,H,K=>Zv d λx d'=>VB e x H λcs H1=>Zvb e.ty cs λs=>Zpr r d' H1 λss H'=>K (s::ss) H'
 | .io e::r,d,H,K=>Zv d λx d'=>VB e x H λcs H1=>Ztw cs H1 λs H2=>Zpr r d' H2 λss H'=>K (s::ss) H'
def ZvF (ss:List SV) (K:SV->Prop):Prop :=
 match ss with
 | [s]=>K s
 | ss=>K (.tup ss)
def ZxH:List Entry->(List Entry->Prop)->Prop
 | [],K=>K []
 | e::r,K=>ZxH r λr'=>K (e::r')
theorem Zvg:∀ (l:List Entry) (K:List Entry->Prop),ZxH l K=K l
 | [],_=>rfl
 | e::r,K=>by unfold ZxH;exact Zvg r _
def ZDI (C:Ctr) (ss:List SV) (H:List Entry) (K:SV->List Entry->Prop):Prop :=
 ZpR C.args ss H λas H1=>C.tr as λrs ios =>
  if (Zqw C.rets&&ZmJ C.args)=true then ZxH (Zqj H H1) λH0=>Zzo C.args ss ios H0 λH2=>Zpr C.rets rs H2 λss' H3=>ZvF ss' λs=>K s H3
  else Zzo C.args ss ios H1 λH2=>Zpr C.rets rs H2 λss' H3=>ZvF ss' λs=>K s H3
def ZFT (B:Base) (f:SV->List Entry->(SV->List Entry->Prop)->Prop):Prop :=
 ∀ (E:Env) (H:List Entry),Inv B E H->∀ (s:SV) (v:Value),den E s v->∀ (K:SV->List Entry->Prop),f s H K->∃ E' H' s',Frz E H E' H'/\Inv B E' H'/\den E' s' v/\K s' H'
theorem Zua {B:Base} {f:SV->List Entry->(SV->List Entry->Prop)->Prop} (hf:ZFT B f):∀ (cs:List SV) {E:Env} {H:List Entry} (_:Inv B E H) {vs:List Value} (_:Yg E cs vs) {K:List SV->List Entry->Prop} (_:ZFK f cs H K),
  ∃ E' H' cs',Frz E H E' H'/\Inv B E' H'/\Yg E' cs' vs/\K cs' H'
 | [],E,H,hI,vs,hd,K,hk=>⟨E,H,[],Frz.refl E H,hI,hd,hk⟩
 | s::r,E,H,hI,vs,hd,K,hk=>by
  match vs,hd with
  | [],hd=>simp[Yg] at hd
  | v::vs,hd =>
   simp only[Yg] at hd;simp only[ZFK] at hk;obtain ⟨E1,H1,s',hf1,hI1,hd1,hk⟩:=hf _ _ hI _ _ hd.1 _ hk;obtain ⟨E2,H2,r',hf2,hI2,hd2,hk⟩:=Zua hf r hI1 (ZK hf1.le _ _ hd.2) hk;exact ⟨E2,H2,s'::r',hf1.trans hf2,hI2,⟨Zib hf2.le _ _ hd1,hd2⟩,hk⟩
theorem ZoE {B:Base}:∀ n,ZFT B (Zq3 n)
 | 0=>λ_ _ hI _ _ hd _ hk=>⟨_,_,_,Frz.refl _ _,hI,hd,hk⟩
 | n+1=>by
  intro E H hI s v hd K hk;unfold Zq3 at hk;split at hk
  ·rename_i id
   obtain ⟨e,he,hk⟩:=Y5 H hk;simp only[den] at hd;obtain ⟨b,h1,hv⟩:=hd;split at hk
   ·rename_i cells
    obtain ⟨b',cs,T,h1',h2,h3⟩:=hI.ent id _ he;have:=h1.symm.trans h1';simp at this;subst this;obtain ⟨E0,H0,cs0,hf0,hI0,hd0,hk⟩:=Zua (ZoE n) _ hI h3 hk;obtain ⟨E1,H1,cs',hf1,hI1,hd1,hk,_⟩:=QG _ hI0 hd0 hk;have hf01:=hf0.trans hf1;obtain ⟨e1,he1,hk⟩:=Y5 H1 hk;split at hk
    ·rename_i c1
     rw[XK] at hk;have hv1:E1.ids[id]?=some (.pointer (some ⟨b,0,none⟩)):=by rw[hf01.ids];exact h1
     have hh1:E1.w.heap[b]?=some (.cells cs T (0,0)):=by rw[hf01.w];exact h2
     have hle0:E1.le ⟨λg=>E1.S g\/ZiY (.box c1) (.pointer (some ⟨b,0,none⟩)) g,E1.w,E1.ids⟩:=⟨λ_ h=>.inl h,λ_ _=>rfl,λ_ _ h=>h⟩;obtain ⟨hle2,hI2⟩:=hI1.Zq1 he1 rfl hv1 (.fbx cs') rfl ⟨b,cs,T,hv1,.inr rfl,hh1,ZK hle0 _ _ hd1⟩;refine ⟨_,_,_,hf01.trans (Frz.one he1 rfl hv1 rfl hle2 (λb hb=>hb)),hI2,?_,hk⟩;simp only[den];refine ⟨⟨b,0,none⟩,cs.toList,hv,rfl,.inr rfl,λj u hu=>?_,ZK hle2 _ _ hd1⟩;exact Zns (w:=E1.w) (b:=b) (cs:=cs) (T:=T) (fr:=(0,0)) hh1 0 j u (by simpa using hu)
    ·exact hk.elim
   ·rename_i cells
    obtain ⟨b',cs,T,h1',hS,h2,h3⟩:=hI.ent id _ he;have:=h1.symm.trans h1';simp at this;subst this;refine ⟨E,H,_,Frz.refl E H,hI,?_,hk⟩;simp only[den];refine ⟨⟨b,0,none⟩,cs.toList,hv,rfl,hS,λj u hu=>?_,h3⟩;exact Zns h2 0 j u (by simpa using hu)
   ·exact hk.elim
  ·rename_i id
   obtain ⟨en,he,hk⟩:=Y5 H hk;split at hk
   ·rename_i et e d i cells fp
    have hd0:=hd;simp only[den] at hd0;obtain ⟨v',xs,x1,vx,x2,f1,f2,h1,ho,hi0,hi1,ex,el,el2,hr1,hr2,hdc,efp,hnd⟩:=hI.ent id _ he;have:=h1.symm.trans hd0.1;simp at this;subst this;obtain ⟨E0,H0,cs0,hf0,hI0,hd0',hk⟩:=Zua (ZoE n) _ hI hdc hk;obtain ⟨E1,H1,cs',hf1,hI1,hd1,hk,_⟩:=QG _ hI0 hd0' hk;have hf01:=hf0.trans hf1;obtain ⟨x,rest,u1,u2,e12,hr,hrest,hk⟩:=XV e.ty cs' _ _ hd1 hk;split at hk
    ·have hv2:u2=[]:=by cases u2 with
      | nil=>rfl
      | cons=>simp[Yg] at hrest
     subst hv2;rw[List.append_nil] at e12;subst e12;obtain ⟨e1,he1,hk⟩:=Y5 H1 hk;split at hk
     ·have hsame:=hf01.same id _ he1 rfl
      rw[he] at hsame;have hsame:=Option.some.inj hsame;rw[<-hsame] at he1;rw[XK] at hk;have hv1:E1.ids[id]?=some v':=by rw[hf01.ids];exact hd0.1
      have hrd:rep (λb=>E1.S b\/ZiY (.hole et e d i cells fp) v' b) E1.w (.sl e.ty) (d.set i.toNat x) [v']:=by
       have hw:=hf01.w;rw[hw];rw[hw] at hr;refine ZvI (by rw[List.length_set];exact ho) ?_ (λg hg=>.inr (by show g∈fp;rw[efp];simp[hg]));rw[List.set_eq_take_append_cons_drop,if_pos (by omega),ex,List.append_assoc];refine ZjU _ _ _ _ (ZjT _ _ _ (λd vs f hsub h=>Zhs (S:=E.S) (λb hb=>.inl (hf01.le.S b hb)) e d vs f (λg hg=>.inr (by show g∈fp;grind)) h) hr1) ⟨vx,x2,rfl,?_,?_⟩
       ·exact Yp (λb hb=>.inl hb) (λ_ _=>rfl) e.ty x vx hr
       ·exact ZjT _ _ _ (λd vs f hsub h=>Zhs (S:=E.S) (λb hb=>.inl (hf01.le.S b hb)) e d vs f (λg hg=>.inr (by show g∈fp;grind)) h) hr2
      obtain ⟨hle2,hI2⟩:=hI1.Zq1 he1 rfl hv1 (.frz e.ty (d.set i.toNat x)) rfl ⟨v',hv1,hrd⟩;exact ⟨_,_,_,hf01.trans (Frz.one he1 rfl hv1 rfl hle2 (λb hb=>hb)),hI2,by simp only[den];exact hrd,hk⟩
     ·exact hk.elim
    ·exact hk.elim
   ·exact ⟨E,H,_,Frz.refl E H,hI,hd,hk⟩
  ·exact ⟨E,H,_,Frz.refl E H,hI,hd,hk⟩
theorem Zvk {B:Base} {E:Env} {H:List Entry} (hI:Inv B E H) {s:SV} {v:Value} (hd:den E s v) {K:SV->List Entry->Prop} (hk:ZAc s H K) :
  ∃ E' H' s',Frz E H E' H'/\Inv B E' H'/\den E' s' v/\K s' H':=ZoE 3 _ _ hI _ _ hd _ hk
theorem Ztk {B:Base} (cs:List SV) {E:Env} {H:List Entry} (hI:Inv B E H) {vs:List Value} (hd:Yg E cs vs) {K:List SV->List Entry->Prop} (hk:ZwC cs H K) :
  ∃ E' H' cs',Frz E H E' H'/\Inv B E' H'/\Yg E' cs' vs/\K cs' H' :=
 Zua (λ_ _ hI _ _ hd _ hk=>Zvk hI hd hk) cs hI hd hk
theorem ZAb {B:Base} {E:Env} {H:List Entry} (hI:Inv B E H) {s:SV} {v:Value} (hd:den E s v) (hw:s.whole=true) {K:List SV->List Entry->Prop} (hk:ZAa s H K) :
  ∃ E' H' cs',Frz E H E' H'/\Inv B E' H'/\Yg E' cs' v.cells.toList/\K cs' H':=by
 unfold ZAa at hk;split at hk
 ·rename_i f caps
  simp only[den] at hd;obtain ⟨vs,rfl,hd⟩:=hd;obtain ⟨E1,H1,cs',hf1,hI1,hd1,hk⟩:=Ztk _ hI hd hk;exact ⟨E1,H1,[.fn f cs'],hf1,hI1,⟨by simp only[den];grind,trivial⟩,hk⟩
 ·rename_i id off
  have hc:=(Zlt hd rfl).1;obtain ⟨E1,H1,s',hf1,hI1,hd1,hk⟩:=Zvk hI hd hk;exact ⟨E1,H1,[s'],hf1,hI1,by rw[hc];exact ⟨hd1,trivial⟩,hk⟩
 ·obtain ⟨E0,H0,cs0,hf0,hI0,hd0,hk⟩:=Ztk _ hI (J3 hd hw) hk
  obtain ⟨E1,H1,cs',hf1,hI1,hd1,hk,_⟩:=QG _ hI0 hd0 hk;exact ⟨E1,H1,_,hf0.trans hf1,hI1,hd1,hk⟩
theorem Zyn {E E':Env} (h:E.le E') {fp:List Nat} (hw:∀ g∈fp,E'.w.heap[g]?=E.w.heap[g]?):∀ (s:Sh) (d:s.den) (v:Value),ZvW E.S E.w s d v fp->ZvW E'.S E'.w s d v fp
 | .dat t,_,_,⟨h0,h1,h2,h3⟩=>⟨h0,h1,h2,Yp h.S h.w t _ _ h3⟩
 | .own e,_,_,⟨h1,h2⟩=>⟨h1,Yz h.S h.w e _ _ _ hw h2⟩
 | .back e,_,_,⟨h1,h2⟩=>⟨h1,Yz h.S h.w e _ _ _ hw h2⟩
 | .io e,_,_,⟨b,cs,T,f,h1,h2,h3,h4⟩=>⟨b,cs,T,f,h1,by grind,Yz h.S h.w e _ _ _ (λg hg=>hw g (by rw[h4];simp[hg])) h3,h4⟩
theorem ZvX {E E':Env} (h:E.le E'):∀ (l:List Sh) (d:Shs l) (vs:List Value) (fp:List Nat),(∀ g∈fp,E'.w.heap[g]?=E.w.heap[g]?)->ZeA E.S E.w l d vs fp->ZeA E'.S E'.w l d vs fp
 | [],_,_,_,_,h=>h
 | s::r,_,_,_,hw,⟨v,vr,f,fr,e,ef,h1,h2⟩=>⟨v,vr,f,fr,e,ef,Zyn h (λg hg=>hw g (by rw[ef];simp[hg])) s _ _ h1,ZvX h r _ _ _ (λg hg=>hw g (by rw[ef];simp[hg])) h2⟩
theorem Zw0 {α:Type} {R R':α->List Value->List Nat->Prop} (h:∀ d vs f,R d vs f->R' d vs f) (l:List α) (xs:List Value) (fp:List Nat) (hr:ZaA R l xs fp):ZaA R' l xs fp:=Ql l xs fp (λd vs f _=>h d vs f) hr
theorem Zcy {S S':Nat->Prop} {w:World}:∀ (e:Dp),e.closed=true->∀ (d:e.ty.den) (vs:List Value) (fp:List Nat),Zh5 S w e d vs fp->Zh5 S' w e d vs fp
 | .flat t,hc,_,_,_,⟨h1,h2⟩=>⟨h1,ZlS t hc _ _ h2⟩
 | .ol et e,hc,_,_,_,⟨v,xs,fps,e1,ho,hr,e2⟩=>⟨v,xs,fps,e1,ho,Zw0 (λd vs f=>Zcy e hc d vs f) _ _ _ hr,e2⟩
 | .mp k v,hc,_,_,_,⟨b,es,clk,e1,e2,hh,h⟩=>by
  simp only[Dp.closed,Bool.and_eq_true] at hc;exact ⟨b,es,clk,e1,e2,hh,Zcc (λd vs=>ZlS k hc.1 d vs) (λd vs=>ZlS v hc.2 d vs) _ _ h⟩
 | .pair a b,hc,_,_,_,⟨v1,v2,f1,f2,e1,e2,h1,h2⟩=>by
  simp only[Dp.closed,Bool.and_eq_true] at hc;exact ⟨v1,v2,f1,f2,e1,e2,Zcy a hc.1 _ _ _ h1,Zcy b hc.2 _ _ _ h2⟩
theorem Zom {S S':Nat->Prop} {w:World}:∀ (l:List Sh),Zqw l=true->∀ (d:Shs l) (vs:List Value) (fp:List Nat),ZeA S w l d vs fp->ZeA S' w l d vs fp
 | [],_,_,_,_,h=>h
 | s::r,hf,_,_,_,⟨v,vr,f,fr,e,ef,h1,h2⟩=>by
  simp only[Zqw,Bool.and_eq_true] at hf;refine ⟨v,vr,f,fr,e,ef,?_,Zom r hf.2 _ _ _ h2⟩;cases s with
  | dat t=>obtain ⟨a,b,c,d⟩:=h1;exact ⟨a,b,c,ZlS t hf.1 _ _ d⟩
  | own e=>exact ⟨h1.1,Zcy e hf.1 _ _ _ h1.2⟩
  | back e=>exact ⟨h1.1,Zcy e hf.1 _ _ _ h1.2⟩
  | io e=>obtain ⟨b,cs,T,f',a1,a2,a3,a4⟩:=h1;exact ⟨b,cs,T,f',a1,a2,Zcy e hf.1 _ _ _ a3,a4⟩
theorem ZeW {S S':Nat->Prop} {w:World}:∀ (l:List Sh),ZmJ l=true->∀ (d:Ios l) (vs:List Value) (fp:List Nat),Zik S w l d vs fp->Zik S' w l d vs fp
 | [],_,_,_,_,h=>h
 | .io e::r,hf,_,_,_,⟨v,vr,f,fr,ev,ef,⟨b,cs,T,f',a1,a2,a3,a4⟩,h2⟩=>by
  simp only[ZmJ,Bool.and_eq_true] at hf;exact ⟨v,vr,f,fr,ev,ef,⟨b,cs,T,f',a1,a2,Zcy e hf.1 _ _ _ a3,a4⟩,ZeW r hf.2 _ _ _ h2⟩
 | .back e::r,hf,_,_,_,⟨v,vr,f,fr,ev,ef,⟨a1,a2⟩,h2⟩=>by
  simp only[ZmJ,Bool.and_eq_true] at hf;exact ⟨v,vr,f,fr,ev,ef,⟨a1,Zcy e hf.1 _ _ _ a2⟩,ZeW r hf.2 _ _ _ h2⟩
 | .dat _::r,hf,_,_,_,⟨v,vr,e,h2⟩=>⟨v,vr,e,ZeW r hf _ _ _ h2⟩
 | .own _::r,hf,_,_,_,⟨v,vr,e,h2⟩=>⟨v,vr,e,ZeW r hf _ _ _ h2⟩
theorem ZCa {E:Env} {s:SV} {v:Value} (h:den E s v) (hw:s.whole=true):(s.isAgg=true->∃ cs,v=.agg cs)/\(s.isAgg=false->v.cells=#[v]):=by
 constructor
 ·intro ha
  cases s<;>simp[SV.isAgg] at ha
  simp only[den] at h;grind
 ·intro ha
  have h1:s.one=true:=by cases s<;>simp_all[SV.isAgg,SV.whole,SV.one]
  exact (Zlt h h1).1
def Handed (B:Base) (l:List Sh) (E:Env) (H:List Entry) (vs:List Value) (gs:List Nat) (K:Shs l->List Entry->Prop):Prop :=
 ∃ E1 H1 as fp,Frz E H E1 H1/\Inv B E1 H1/\ZeA E1.S E1.w l as vs fp/\K as H1/\Loose B E1 H1 (fp++gs)/\Zmd E H H1 fp
theorem Handed.cons {B:Base} {s:Sh} {r:List Sh} {E E1:Env} {H H1:List Entry} {v:Value} {vs:List Value} {gs f:List Nat} {d:s.den} (hf:Frz E H E1 H1) (hs:ZvW E1.S E1.w s d v f) (hT:Zmd E H H1 f) {K:Shs (s::r)->List Entry->Prop}
  (h:Handed B r E1 H1 vs (f++gs) (λds H2=>K (d,ds) H2)):Handed B (s::r) E H (v::vs) gs K:=by
 obtain ⟨E2,H2,ds,fp,hf2,hI2,hds,hk,hL,hT2⟩:=h;refine ⟨E2,H2,(d,ds),f++fp,hf.trans hf2,hI2,⟨v,vs,f,fp,rfl,rfl,Zyn hf2.le (λg _=>by rw[hf2.w]) s _ _ hs,hds⟩,hk,hL.perm ?_,(hT.later hf2).append (Zmd.after hf hT2)⟩;grind
theorem Zt9 {E:Env} {s:SV} {v:Value} (hd:den E s v) (hw:s.whole=true) {t:Ty} (hag:t.agg=s.isAgg):ZBp t v:=by
 have hag':=ZCa hd hw;exact ⟨λh=>hag'.1 (by rw[<-hag];exact h),λh=>hag'.2 (by rw[<-hag];exact h)⟩
theorem ZlK {B:Base}:∀ (l:List Sh) (ss:List SV) {E:Env} {H:List Entry} (_:Inv B E H) {vs:List Value} (_:Yg E ss vs) {gs:List Nat} (_:Loose B E H gs) {K:Shs l->List Entry->Prop} (_:ZpR l ss H K),Handed B l E H vs gs K
 | [],ss,E,H,hI,vs,hd,gs,hL,K,hk=>by
  simp only[ZpR] at hk;split at hk
  ·match vs,hd with
   | [],_=>exact ⟨E,H,(),[],Frz.refl E H,hI,⟨rfl,rfl⟩,hk,hL,Zmd.nil _ _ _⟩
   | _::_,hd=>simp[Yg] at hd
  ·exact hk.elim
 | .dat t::r,ss,E,H,hI,vs,hd,gs,hL,K,hk=>by
  simp only[ZpR] at hk;split at hk
  ·rename_i s ss
   match vs,hd with
   | [],hd=>simp[Yg] at hd
   | v::vs,hd =>
    simp only[Yg] at hd;split at hk
    ·rename_i hc
     obtain ⟨hw,hag⟩:=hc;obtain ⟨E1,H1,cs,hf1,hI1,hd1,hk⟩:=ZAb hI hd.1 hw hk;obtain ⟨d,rest,v1,v2,e12,hr,hrest,hk⟩:=XV t cs _ _ hd1 hk;split at hk
     ·have hv2:v2=[]:=by cases v2 with
       | nil=>rfl
       | cons=>simp[Yg] at hrest
      subst hv2;rw[List.append_nil] at e12;obtain ⟨h1,h2⟩:=Zt9 hd.1 hw hag;exact Handed.cons (s:=.dat t) (d:=d) (f:=[]) hf1 ⟨rfl,h1,h2,by rw[e12];exact hr⟩ (Zmd.nil _ _ _) (ZlK r ss hI1 (ZK hf1.le _ _ hd.2) (hL.frz hf1) hk)
     ·exact hk.elim
    ·exact hk.elim
  ·exact hk.elim
 | .own e::r,ss,E,H,hI,vs,hd,gs,hL,K,hk=>by
  simp only[ZpR] at hk;split at hk
  ·rename_i s ss
   match vs,hd with
   | [],hd=>simp[Yg] at hd
   | v::vs,hd =>
    simp only[Yg] at hd;split at hk
    ·rename_i hc
     obtain ⟨hw,hag⟩:=hc;obtain ⟨E1,H1,d,f,hf1,hI1,hr,hk,hL1,hT,_⟩:=VF hI (J3 hd.1 hw) hL hk;exact Handed.cons hf1 (s:=.own e) ⟨Zt9 hd.1 hw hag,hr⟩ hT (ZlK r ss hI1 (ZK hf1.le _ _ hd.2) hL1 hk)
    ·exact hk.elim
  ·exact hk.elim
 | .back e::r,ss,E,H,hI,vs,hd,gs,hL,K,hk=>by
  simp only[ZpR] at hk;split at hk
  ·rename_i s ss
   match vs,hd with
   | [],hd=>simp[Yg] at hd
   | v::vs,hd =>
    simp only[Yg] at hd;split at hk
    ·rename_i hc
     obtain ⟨hw,hag⟩:=hc;obtain ⟨E1,H1,d,f,hf1,hI1,hr,hk,hL1,hT,_⟩:=VF hI (J3 hd.1 hw) hL hk;exact Handed.cons hf1 (s:=.back e) ⟨Zt9 hd.1 hw hag,hr⟩ hT (ZlK r ss hI1 (ZK hf1.le _ _ hd.2) hL1 hk)
    ·exact hk.elim
  ·exact hk.elim
 | .io e::r,ss,E,H,hI,vs,hd,gs,hL,K,hk=>by
  simp only[ZpR] at hk;split at hk
  ·rename_i id ss
   match vs,hd with
   | [],hd=>simp[Yg] at hd
   | v::vs,hd =>
    simp only[Yg] at hd;obtain ⟨en,he,hk⟩:=Y5 H hk;split at hk
    ·rename_i cells
     rw[XK] at hk;have hv:=hd.1;simp only[den] at hv;obtain ⟨b,hb0,hv⟩:=hv;obtain ⟨b',cs0,T,e1,e2,e3⟩:=hI.ent id _ he;have:=hb0.symm.trans e1;simp at this;subst this;have t1:Frz E H E (H.set id .gone):=Frz.one he rfl hb0 rfl (Env.le.refl E) (λb hb=>.inl hb);have t3:=hL.take hI he rfl hb0 (f:=[b]) (by simp) (λg hg=>by
      simp at hg;subst hg;rfl)
     have t4:Zmd E H (H.set id .gone) [b]:=λg hg=>by
      simp at hg;subst hg;exact ⟨id,_,_,he,rfl,hb0,rfl,ZAd he⟩
     obtain ⟨E1,H1,d,f,hf1,hI1,hr,hk,hL1,hT,_⟩:=VF (hI.drop id) e3 t3 hk;refine Handed.cons (t1.trans hf1) (s:=.io e) (f:=b::f) ⟨b,cs0,T,f,hv,by rw[hf1.w];exact e2,hr,rfl⟩ ?_ (ZlK r ss hI1 (ZK hf1.le _ _ hd.2) (hL1.perm ?_) hk)
     ·exact ((t4.later hf1).append (Zmd.after t1 hT)).sub (λg hg=>by simpa using hg)
     grind
    ·exact hk.elim
  ·exact hk.elim
theorem ZqZ {E:Env} {t:Ty} {v:Value} (hf:ZBp t v) {cs:List SV} (hd:Yg E cs v.cells.toList) {K:SV->Prop} (hk:Zvb t cs K):∃ s,den E s v/\K s:=by
 unfold Zvb at hk;split at hk
 ·rename_i ha
  obtain ⟨cs',rfl⟩:=hf.1 ha;exact ⟨.agg _,by simp only[den];exact ⟨cs'.toList,by simp,hd⟩,hk⟩
 ·rename_i ha
  have hv:=hf.2 (by simpa using ha);split at hk
  ·rename_i c r
   rw[hv] at hd;simp only[Yg] at hd;grind
  ·exact hk.elim
theorem ZBS {E:Env} {t:Ty} {d:t.den} {v:Value} (h:ZFP E.S E.w t d v) {K:SV->Prop} (hk:Zvb t (ZgR t d) K):∃ s,den E s v/\K s:=by
 obtain ⟨h1,h2,h3⟩:=h;have hd:=XA t d _ h3;unfold Zvb at hk;split at hk
 ·rename_i ha
  obtain ⟨cs,rfl⟩:=h1 ha;exact ⟨.agg _,by simp only[den];exact ⟨cs.toList,by simp,hd⟩,hk⟩
 ·rename_i ha
  have hv:=h2 (by simpa using ha);split at hk
  ·rename_i c r heq
   rw[heq,hv] at hd;simp only[Yg] at hd;grind
  ·exact hk.elim
theorem ZkW {B:Base} {E:Env}:∀ (e:Dp) (cs:List SV) (x:e.ty.den) {H:List Entry} (_:Inv B E H) {vs vr:List Value} (_:Yg E cs (vs++vr)) {f gs:List Nat} (_:Zh5 E.S E.w e x vs f) (_:Loose B E H (f++gs)) {K:List SV->List Entry->Prop} (_:Zgj e cs x H K),
  ∃ H' r,Inv B E H'/\Loose B E H' gs/\Yg E r vr/\K r H'
 | .flat t,cs,x,H,hI,vs,vr,hd,f,gs,⟨hf,hr⟩,hL,K,hk=>by
  simp only[Zgj,ZcM] at hk;have hl:=X0 t x vs hr;have:=J8 _ _ hd t.size;grind
 | .ol et e,cs,d,H,hI,vs,vr,hd,f,gs,hr,hL,K,hk=>by
  have hr0:=hr;obtain ⟨v,xs,fps,ev,ho,hrs,ef⟩:=hr;subst ev;simp only[Zgj] at hk;split at hk
  ·rename_i r
   simp only[List.cons_append,List.nil_append,Yg,den] at hd;obtain ⟨rfl,hd⟩:=hd;refine ⟨H,r,hI,?_,hd,hk⟩;rcases ho.2 with ⟨_,hn⟩ | ⟨g,cap,cur,o,hv,_⟩
   ·have:d=[]:=List.eq_nil_of_length_eq_zero hn
    subst this;have:fps=[]:=hrs.2;subst this;rw[ef] at hL;simpa[YC] using hL
   ·simp at hv
  ·rename_i id r
   simp only[List.cons_append,List.nil_append,Yg,den] at hd;obtain ⟨⟨hid,_⟩,hd⟩:=hd;have hlt:id<H.length:=by
    have:=(List.getElem?_eq_some_iff.1 hid).1;rw[<-hI.len];exact this
   obtain ⟨e1,h1,h2,h3,_⟩:=ZAP e hI hlt hid hr0 hL hk;grind
  ·exact hk.elim
 | .mp kt vt,cs,d,H,hI,vs,vr,hd,f,gs,⟨b,es,clk,e1,e2,hh,hr⟩,hL,K,hk=>by
  subst e1;simp only[Zgj] at hk;split at hk
  ·rename_i id r
   simp only[List.cons_append,List.nil_append,Yg,den] at hd;obtain ⟨⟨hid,_⟩,hd⟩:=hd;rw[XK] at hk;have hlt:id<H.length:=by
    have:=(List.getElem?_eq_some_iff.1 hid).1;rw[<-hI.len];exact this
   obtain ⟨h1,h2⟩:=hL.put hI hlt hid (.mpe kt vt d) (λ_ g hg=>by
    have hg:YC (.map (some b))=some g:=hg;simp[YC] at hg;rw[e2];simp[hg]) ⟨b,es,clk,hid,hh,hr⟩
   grind
  ·exact hk.elim
 | .pair a b,cs,d,H,hI,vs,vr,hd,f,gs,⟨v1,v2,f1,f2,ev,ef,h1,h2⟩,hL,K,hk=>by
  simp only[Zgj,Jh] at hk;subst ev;subst ef;rw[List.append_assoc] at hd hL;obtain ⟨H1,r,hI1,hL1,hd1,hk⟩:=ZkW a cs d.1 hI hd h1 hL hk;exact ZkW b r d.2 hI1 hd1 h2 hL1 hk
theorem Zrg {B:Base}:∀ (l:List Sh) (ss:List SV) (ios:Ios l) {E:Env} {H:List Entry} (_:Inv B E H) {vs:List Value} (_:Yg E ss vs) {fio gs:List Nat} (_:Zik E.S E.w l ios vs fio) (_:Loose B E H (fio++gs)) {K:List Entry->Prop} (_:Zzo l ss ios H K),
  ∃ E' H',E'.w=E.w/\E'.S=E.S/\Inv B E' H'/\E.le E'/\Loose B E' H' gs/\K H'
 | [],ss,ios,E,H,hI,vs,hd,fio,gs,hio,hL,K,hk=>by
  have:fio=[]:=hio;subst this;exact ⟨E,H,rfl,rfl,hI,Env.le.refl E,hL,hk⟩
 | .io e::r,ss,ios,E,H,hI,vs,hd,fio,gs,⟨v,vr,f,fr,ev,ef,⟨b,cs,T,f',a1,a2,a3,a4⟩,hio⟩,hL,K,hk=>by
  simp only[Zzo] at hk;subst ev;subst ef;subst a4;subst a1;split at hk
  ·rename_i id ss
   simp only[Yg,den] at hd;obtain ⟨⟨b',hid,hb'⟩,hd⟩:=hd;simp at hb';subst hb';simp only[Jh] at hk;have hL1:Loose B E H (f'++(b::(fr++gs))):=hL.perm (by
    grind)
   obtain ⟨E1,H1,cells,hw1,hS1,hI1,hle1,hd1,hk,hL2,_⟩:=Jq e ios.1 hI a3 hL1 hk;rw[XK] at hk;have hid1:=hle1.ids _ _ hid;have hlt:id<H1.length:=by
    have:=(List.getElem?_eq_some_iff.1 hid1).1;rw[<-hI1.len];exact this
   obtain ⟨hI2,hL3⟩:=Loose.put (f:=[b]) (gs:=fr++gs) hL2 hI1 hlt hid1 (.box cells) (λ_ g hg=>by
    have hg:some b=some g:=hg;simp at hg;simp[hg]) ⟨b,cs,T,hid1,by rw[hw1];exact a2,hd1⟩
   obtain ⟨E2,H2,hw2,hS2,hI3,hle2,hL4,hk⟩:=Zrg r ss ios.2 hI2 (ZK hle1 _ _ hd) (by grind) hL3 hk;exact ⟨E2,H2,hw2.trans hw1,hS2.trans hS1,hI3,hle1.trans hle2,hL4,hk⟩
  ·exact hk.elim
 | .back e::r,ss,ios,E,H,hI,vs,hd,fio,gs,⟨v,vr,f,fr,ev,ef,⟨a1,a2⟩,hio⟩,hL,K,hk=>by
  simp only[Zzo] at hk;subst ev;subst ef;split at hk
  ·rename_i s ss
   simp only[Yg] at hd;split at hk
   ·rename_i hw
    simp only[Jh] at hk;rw[List.append_assoc] at hL;obtain ⟨H1,r',hI1,hL1,_,hk⟩:=ZkW e s.cells ios.1 hI (vs:=v.cells.toList) (vr:=[]) (by rw[List.append_nil];exact J3 hd.1 hw) a2 hL hk;exact Zrg r ss ios.2 hI1 hd.2 hio hL1 hk
   ·exact hk.elim
  ·exact hk.elim
 | .dat _::r,ss,ios,E,H,hI,vs,hd,fio,gs,⟨v,vr,ev,hio⟩,hL,K,hk=>by
  simp only[Zzo] at hk;subst ev;split at hk
  ·simp only[Yg] at hd
   exact Zrg r _ ios hI hd.2 hio hL hk
  ·exact hk.elim
 | .own _::r,ss,ios,E,H,hI,vs,hd,fio,gs,⟨v,vr,ev,hio⟩,hL,K,hk=>by
  simp only[Zzo] at hk;subst ev;split at hk
  ·simp only[Yg] at hd
   exact Zrg r _ ios hI hd.2 hio hL hk
  ·exact hk.elim
theorem ZlU {B:Base}:∀ (l:List Sh) (rs:Shs l) (us:List Value) {E:Env} {H:List Entry} (_:Inv B E H) {fp gs:List Nat} (_:ZeA E.S E.w l rs us fp) (_:Loose B E H (fp++gs)) {K:List SV->List Entry->Prop} (_:Zpr l rs H K),
  ∃ E' H' ss,E'.w=E.w/\E'.S=E.S/\Inv B E' H'/\E.le E'/\Yg E' ss us/\K ss H'
 | [],rs,us,E,H,hI,fp,gs,hd,hL,K,hk=>by
  obtain ⟨rfl,rfl⟩:=hd;exact ⟨E,H,[],rfl,rfl,hI,Env.le.refl E,trivial,hk⟩
 | .dat t::r,rs,us,E,H,hI,fp,gs,⟨u,ur,f,fr,e,ef,⟨hf,h1⟩,h2⟩,hL,K,hk=>by
  subst e;subst hf;subst ef;simp only[Zpr,Jh,Qb] at hk;obtain ⟨s,hs,hk⟩:=ZBS h1 hk;obtain ⟨E',H',ss,hw,hS,hI',hle,hds,hk⟩:=ZlU r rs.2 ur hI h2 hL hk;exact ⟨E',H',s::ss,hw,hS,hI',hle,⟨Zib hle s u hs,hds⟩,hk⟩
 | .own e::r,rs,us,E,H,hI,fp,gs,⟨u,ur,f,fr,ev,ef,⟨hform,h1⟩,h2⟩,hL,K,hk=>by
  subst ev;subst ef;simp only[Zpr,Jh] at hk;rw[List.append_assoc] at hL;obtain ⟨E1,H1,cs,hw1,hS1,hI1,hle1,hd1,hk,hL1,_⟩:=Jq e rs.1 hI h1 hL hk;obtain ⟨s,hs,hk⟩:=ZqZ hform hd1 hk;obtain ⟨E',H',ss,hw,hS,hI',hle,hds,hk⟩:=ZlU r rs.2 ur hI1 (by grind) hL1 hk;exact ⟨E',H',s::ss,hw.trans hw1,hS.trans hS1,hI',hle1.trans hle,⟨Zib hle s u hs,hds⟩,hk⟩
 | .back e::r,rs,us,E,H,hI,fp,gs,⟨u,ur,f,fr,ev,ef,⟨hform,h1⟩,h2⟩,hL,K,hk=>by
  subst ev;subst ef;simp only[Zpr,Jh] at hk;rw[List.append_assoc] at hL;obtain ⟨E1,H1,cs,hw1,hS1,hI1,hle1,hd1,hk,hL1,_⟩:=Jq e rs.1 hI h1 hL hk;obtain ⟨s,hs,hk⟩:=ZqZ hform hd1 hk;obtain ⟨E',H',ss,hw,hS,hI',hle,hds,hk⟩:=ZlU r rs.2 ur hI1 (by grind) hL1 hk;exact ⟨E',H',s::ss,hw.trans hw1,hS.trans hS1,hI',hle1.trans hle,⟨Zib hle s u hs,hds⟩,hk⟩
 | .io e::r,rs,us,E,H,hI,fp,gs,⟨u,ur,f,fr,ev,ef,⟨b,cs,T,f',a1,a2,a3,a4⟩,h2⟩,hL,K,hk=>by
  subst ev;subst ef;subst a4;subst a1;simp only[Zpr,Jh] at hk;have hL1:Loose B E H (f'++(b::(fr++gs))):=hL.perm (by
   grind)
  obtain ⟨E1,H1,cells,hw1,hS1,hI1,hle1,hd1,hk,hL2,_⟩:=Jq e rs.1 hI a3 hL1 hk;simp only[Ztw,Zcw,Zbc,Nat.zero_add] at hk;have hid:(E1.ids++[Value.pointer (some ⟨b,0,none⟩)])[H1.length]?=some (.pointer (some ⟨b,0,none⟩)):=by rw[<-hI1.len];simp
  have hle2:=Zmj E1 (.pointer (some ⟨b,0,none⟩));obtain ⟨hI2,hL3⟩:=Loose.push (f:=[b]) (gs:=fr++gs) hL2 hI1 (.pointer (some ⟨b,0,none⟩)) (.box cells) (λ_ g hg=>by
   have hg:some b=some g:=hg;simp at hg;simp[hg]) ⟨b,cs,T,hid,by grind,ZK hle2 _ _ hd1⟩
  obtain ⟨E',H',ss,hw,hS,hI',hle,hds,hk⟩:=ZlU r rs.2 ur hI2 (by
   grind) hL3 hk
  refine ⟨E',H',.ptr H1.length 0::ss,hw.trans hw1,hS.trans hS1,hI',hle1.trans (hle2.trans hle),⟨Zib hle _ _ ?_,hds⟩,hk⟩;simp only[den];grind
theorem Zx9 {E:Env} {ss:List SV} {us:List Value} (h:Yg E ss us) {v:Value} (hv:retv us v) {K:SV->Prop} (hk:ZvF ss K):∃ s,den E s v/\K s:=by
 unfold ZvF at hk;unfold retv at hv;split at hk
 ·rename_i s
  match us,h with
  | [u],h=>simp only[Yg] at h;grind
  | [],h=>simp[Yg] at h
  | _::_::_,h=>simp[Yg] at h
 ·rename_i hne
  have hl:=YJ _ _ h;split at hv
  ·rename_i u
   match ss,hl with
   | [s],_=>grind
  ·subst hv
   exact ⟨.tup ss,by simp only[den];grind,hk⟩
theorem Loose.behind {B:Base} {E:Env} {H:List Entry} {fp:List Nat} (hL:Loose B E H fp) (hI:Inv B E H) {w':World} {S0:Nat->Prop} (hk:Keeps ⟨E.w,S0,λb=>b∈fp,[]⟩ w') {S2:Nat->Prop} (hS:∀ b,E.S b->S2 b)
  (hS2:∀ b,S2 b->b<w'.heap.size/\(b<E.w.heap.size->E.S b\/b∈fp)) {l:List Nat} (hl:l.Nodup) (hfree:∀ g∈l,¬S2 g/\g<w'.heap.size/\(E.w.heap.size<=g\/g∈fp)) :
  E.le ⟨S2,w',E.ids⟩/\Inv B ⟨S2,w',E.ids⟩ H/\Loose B ⟨S2,w',E.ids⟩ H l:=by
 have hle:E.le ⟨S2,w',E.ids⟩:=⟨hS,λb hb=>hk.block b (hI.Slt b hb) (λhp=>(hL.free b hp).1 hb),λ_ _ hh=>hh⟩;refine ⟨hle,?_,hl,λg hg=>?_,λg hg j e v hj hlv hv hb=>?_⟩
 ·exact
   {keeps:=⟨hk.os.trans hI.keeps.os,hk.tape.trans hI.keeps.tape,hk.output.trans hI.keeps.output,Nat.le_trans hI.keeps.size hk.size,λb hb hio =>
     (hk.block b (Nat.lt_of_lt_of_le hb hI.keeps.size) (λhp=>by
      rcases (hL.free b hp).2.1 with h1 | h1
      all_goals grind)).trans (hI.keeps.block b hb hio)⟩
    Slt:=λb hb=>(hS2 b hb).1
    Sold:=λb hb hlt=>by
     rcases (hS2 b hb).2 (Nat.lt_of_lt_of_le hlt hI.keeps.size) with h | h
     ·exact hI.Sold b h hlt
     ·rcases (hL.free b h).2.1 with h1 | h1
      all_goals grind
    glob:=hI.glob.le hle
    len:=hI.len
    pin:=hI.pin
    ent:=λj e hj=>ZeJ hle j e (λhlv v g hv hb=>hk.block g (hI.free j e v g hj hlv hv hb).2.2 (λhp=>hL.apart g hp j e v hj hlv hv hb)) (hI.ent j e hj)
    free:=λj e v g hj hlv hv hb=>by
     obtain ⟨a,b,c⟩:=hI.free j e v g hj hlv hv hb;refine ⟨λhs=>?_,b,Nat.lt_of_lt_of_le c hk.size⟩;rcases (hS2 g hs).2 c with h | h
     ·exact a h
     ·exact hL.apart g h j e v hj hlv hv hb
    sep:=hI.sep}
 ·obtain ⟨a,b,c⟩:=hfree g hg
  refine ⟨a,?_,b⟩;rcases c with c | c
  ·exact .inl (Nat.le_trans hI.keeps.size c)
  ·exact (hL.free g c).2.1
 ·obtain ⟨_,_,c⟩:=hfree g hg
  rcases c with c | c
  ·have:=(hI.free j e v g hj hlv hv hb).2.2;omega
  ·exact hL.apart g c j e v hj hlv hv hb
def ZeI:List Sh->Bool
 | []=>true
 | .dat _::r=>ZeI r
 | _::_=>false
theorem Zpu {S:Nat->Prop} {w:World}:∀ (l:List Sh) (d:Shs l) (vs:List Value) (fp:List Nat),ZeI l=true->ZeA S w l d vs fp->fp=[]
 | [],_,_,_,_,h=>h.2
 | .dat _::r,_,_,_,hd,⟨v,vr,f,fr,e,ef,⟨h1,_⟩,h2⟩=>by rw[ef,h1,Zpu r _ _ _ hd h2];rfl
 | .own _::_,_,_,_,h,_=>by simp[ZeI] at h
 | .io _::_,_,_,_,h,_=>by simp[ZeI] at h
 | .back _::_,_,_,_,h,_=>by simp[ZeI] at h
def Zkd:List Sh->Bool
 | []=>true
 | .dat _::r=>Zkd r
 | .io (.flat _)::r=>Zkd r
 | _::_=>false
def ZnM:List Sh->List Bool
 | []=>[]
 | .io _::r=>true::ZnM r
 | _::r=>false::ZnM r
def pick {α:Type}:List Bool->List α->List α
 | true::m,x::r=>x::pick m r
 | false::m,_::r=>pick m r
 | _,_=>[]
theorem Zuz {α β:Type} (f:α->β):∀ (m:List Bool) (l:List α),pick m (l.map f)=(pick m l).map f
 | [],l=>by cases l<;>rfl
 | true::m,[]=>rfl
 | false::m,[]=>rfl
 | true::m,x::r=>by simp only[List.map_cons,pick,Zuz f m r]
 | false::m,x::r=>by simp only[List.map_cons,pick,Zuz f m r]
theorem Znc {S:Nat->Prop} {w:World}:∀ (l:List Sh) (d:Shs l) (vs:List Value) (fp:List Nat),Zkd l=true->ZeA S w l d vs fp->∀ g∈fp,∃ v∈pick (ZnM l) vs,YC v=some g
 | [],_,_,_,_,h,g,hg=>by rw[h.2] at hg;cases hg
 | .dat _::r,_,_,_,hd,⟨v,vr,f,fr,e,ef,⟨h1,_⟩,h2⟩,g,hg=>by
  rw[ef,h1,List.nil_append] at hg;rw[e];exact Znc r _ _ _ hd h2 g hg
 | .io (.flat t)::r,_,_,_,hd,⟨v,vr,f,fr,e,ef,⟨b,cs,T,f',hv,_,hr,hf⟩,h2⟩,g,hg=>by
  have hf':f'=[]:=hr.1;rw[ef,hf,hf'] at hg;rw[e];rcases List.mem_append.1 hg with hg | hg
  ·rw[List.mem_singleton] at hg
   exact ⟨v,by simp[ZnM,pick],by rw[hv,hg];rfl⟩
  ·obtain ⟨u,hu,hb⟩:=Znc r _ _ _ hd h2 g hg
   exact ⟨u,by simp only[ZnM,pick];grind,hb⟩
 | .io (.ol _ _)::_,_,_,_,h,_,_,_=>by simp[Zkd] at h
 | .io (.pair _ _)::_,_,_,_,h,_,_,_=>by simp[Zkd] at h
 | .io (.mp _ _)::_,_,_,_,h,_,_,_=>by simp[Zkd] at h
 | .own _::_,_,_,_,h,_,_,_=>by simp[Zkd] at h
 | .back _::_,_,_,_,h,_,_,_=>by simp[Zkd] at h
theorem ZBL {P:Program} {B:Base} {E:Env} {H:List Entry} (hI:Inv B E H) {f:FuncId} {C:Ctr} (hC:Za P f C) {ss:List SV} {vs:List Value} (hd:Yg E ss vs)
  {K:SV->List Entry->Prop} (hk:ZDI C ss H K) :
  Calls P f vs.toArray E.w λe w'=>∃ v E' H' s,e=.returned v/\E'.w=w'/\Inv B E' H'/\E.le E'/\den E' s v/\K s H'/\(ZeI C.args=true->Grow E.w w')/\(Zkd C.args=true->∀ b,b<E.w.heap.size->(∀ v∈pick (ZnM C.args) vs,YC v≠some b)->w'.heap[b]?=E.w.heap[b]?):=by
 unfold ZDI at hk;obtain ⟨E1,H1,as,fp,hf1,hI1,has,hk,hL1,hT⟩:=ZlK C.args ss hI hd (Loose.none B E H) hk;rw[List.append_nil] at hL1;have hcall:=hC.2 E1.w E1.S vs as fp _ hI1.Slt hI1.glob has hL1.nodup (λg hg=>⟨(hL1.free g hg).1,(hL1.free g hg).2.2⟩) hk;rw[hf1.w] at hcall;refine hcall.mono ?_;rintro e w' ⟨v,us,rs,ios,S',fr,fio,he,hv,hk,hkeeps,hS1,hS2,hrets,hios,hnd,hfree⟩;have hgrow:ZeI C.args=true->Grow E.w w':=by
  intro hda b hb;refine hkeeps.block b hb ?_;rw[Zpu _ _ _ _ hda has];simp
 have hstay:Zkd C.args=true->∀ b,b<E.w.heap.size->(∀ v∈pick (ZnM C.args) vs,YC v≠some b)->w'.heap[b]?=E.w.heap[b]?:=by
  intro hfl b hb hne;refine hkeeps.block b hb (λhm=>?_);obtain ⟨u,hu,hbu⟩:=Znc _ _ _ _ hfl has b hm;exact hne u hu hbu
 have fin:∀ (E0:Env) (H0:List Entry) (S2:Nat->Prop),E0.w=E.w->Inv B E0 H0->E.le E0->Loose B E0 H0 fp->(∀ b,E0.S b->S2 b)->(∀ b,S2 b->S' b)->(∀ b,S2 b->b<w'.heap.size/\(b<E.w.heap.size->E0.S b\/b∈fp))->
   ZeA S2 w' C.rets rs us fr->Zik S2 w' C.args ios vs fio->
   (Zzo C.args ss ios H0 λH2=>Zpr C.rets rs H2 λss' H3=>ZvF ss' λs=>K s H3)->
   ∃ v E' H' s,e=.returned v/\E'.w=w'/\Inv B E' H'/\E.le E'/\den E' s v/\K s H'/\(ZeI C.args=true->Grow E.w w')/\(Zkd C.args=true->∀ b,b<E.w.heap.size->(∀ v∈pick (ZnM C.args) vs,YC v≠some b)->w'.heap[b]?=E.w.heap[b]?):=by
  intro E0 H0 S2 hw0 hI0 hle0 hL0 hSa hSb hSc hr2 hi2 hk;obtain ⟨hleb,hI2,hL2⟩:=hL0.behind hI0 (w':=w') (S0:=E1.S) (by grind) (S2:=S2) hSa (by rw[hw0];exact hSc) hnd (λg hg=>by
   grind)
  obtain ⟨E2,H2,hw2,hS2',hI3,hle2,hL3,hk⟩:=Zrg C.args ss ios hI2 (ZK (hle0.trans hleb) _ _ hd) hi2 hL2 hk;obtain ⟨E3,H3,ss',hw3,hS3,hI4,hle3,hds,hk⟩:=ZlU C.rets rs us hI3 (gs:=[]) (by rw[hS2',hw2];exact hr2) (by grind) hk;obtain ⟨s,hs,hk⟩:=Zx9 hds hv hk;exact ⟨v,E3,H3,s,he,hw3.trans hw2,hI4,((hle0.trans hleb).trans hle2).trans hle3,hs,hk,hgrow,hstay⟩
 split at hk
 ·rename_i hflat
  simp only[Bool.and_eq_true] at hflat;obtain ⟨hIr,hLr⟩:=Zw1 hI hf1 hL1 hT;rw[Zvg] at hk;exact fin E (Zqj H H1) E.S rfl hIr (Env.le.refl E) hLr (λb h=>h) (λb h=>hS1 b (hf1.le.S b h)) (λb hb=>⟨Nat.lt_of_lt_of_le (hI.Slt b hb) hkeeps.size,λ_=>.inl hb⟩)
   (Zom _ hflat.1 _ _ _ hrets) (ZeW _ hflat.2 _ _ _ hios) hk
 ·exact fin E1 H1 S' hf1.w hI1 hf1.le hL1 hS1 (λb h=>h) (λb hb=>by
   grind) hrets hios hk
mutual
def ranged (n:Nat):SV->Prop
 | .ptr id _=>id<n
 | .own id=>id<n
 | .mown id=>id<n
 | .oep id _ _ _=>id<n
 | .fptr cs=>Zd6 n cs
 | .agg cs=>Zd6 n cs
 | .tup cs=>Zd6 n cs
 | .fn _ cs=>Zd6 n cs
 | _=>True
def Zd6 (n:Nat):List SV->Prop
 | []=>True
 | c::cs=>ranged n c/\Zd6 n cs
end
mutual
theorem ZyF {E:Env}:∀ (s:SV) (v:Value),den E s v->ranged E.ids.length s
 | .bot,_,_=>by simp only[ranged]
 | .int _ _,_,_=>by simp only[ranged]
 | .bool _,_,_=>by simp only[ranged]
 | .blit _,_,_=>by simp only[ranged]
 | .str _,_,_=>by simp only[ranged]
 | .sl _ _,_,_=>by simp only[ranged]
 | .nsl,_,_=>by simp only[ranged]
 | .nilp,_,_=>by simp only[ranged]
 | .gptr _,_,_=>by simp only[ranged]
 | .nptr _ _,_,_=>by simp only[ranged]
 | .mp _ _ _,_,_=>by simp only[ranged]
 | .mown id,_,h=>by simp only[den] at h;simp only[ranged];grind
 | .ptr id _,_,h=>by simp only[den] at h;obtain ⟨b,e,_⟩:=h;simp only[ranged];grind
 | .own id,_,h=>by simp only[den] at h;simp only[ranged];grind
 | .oep id _ _ _,_,h=>by simp only[den] at h;obtain ⟨b,bo,n,c,e,_⟩:=h;simp only[ranged];grind
 | .fptr cs,_,h=>by simp only[den] at h;obtain ⟨p,vs,_,_,_,_,h⟩:=h;simp only[ranged];exact Zat cs vs h
 | .agg cs,_,h=>by simp only[den] at h;obtain ⟨vs,_,h⟩:=h;simp only[ranged];exact Zat cs vs h
 | .tup cs,_,h=>by simp only[den] at h;obtain ⟨vs,_,h⟩:=h;simp only[ranged];exact Zat cs vs h
 | .fn _ cs,_,h=>by simp only[den] at h;obtain ⟨vs,_,h⟩:=h;simp only[ranged];exact Zat cs vs h
theorem Zat {E:Env}:∀ (cs:List SV) (vs:List Value),Yg E cs vs->Zd6 E.ids.length cs
 | [],_,_=>by simp only[Zd6]
 | c::cs,v::vs,h=>by simp only[Yg] at h;simp only[Zd6];exact ⟨ZyF c v h.1,Zat cs vs h.2⟩
 | _::_,[],h=>by simp[Yg] at h
end
mutual
theorem ZzT {E:Env} {n:Nat}:∀ (s:SV) (v:Value),ranged n s->den E s v->den ⟨E.S,E.w,E.ids.take n⟩ s v
 | .bot,_,_,h=>h
 | .int _ _,_,_,h=>h
 | .bool _,_,_,h=>h
 | .blit _,_,_,h=>h
 | .str _,_,_,h=>h
 | .sl _ _,_,_,h=>h
 | .nsl,_,_,h=>h
 | .nilp,_,_,h=>h
 | .gptr _,_,_,h=>h
 | .nptr _ _,_,_,h=>h
 | .mp _ _ _,_,_,h=>h
 | .mown id,_,hs,h=>by
  simp only[den] at h ⊢;simp only[ranged] at hs;grind
 | .ptr id _,_,hs,h=>by
  simp only[den] at h ⊢;simp only[ranged] at hs;grind
 | .own id,_,hs,h=>by
  simp only[den] at h ⊢;simp only[ranged] at hs;grind
 | .oep id _ _ _,_,hs,h=>by
  simp only[den] at h ⊢;simp only[ranged] at hs;grind
 | .fptr cs,_,hs,h=>by
  simp only[den] at h ⊢;simp only[ranged] at hs;obtain ⟨p,vs,a,b,c,d,h⟩:=h;exact ⟨p,vs,a,b,c,d,ZbH cs vs hs h⟩
 | .agg cs,_,hs,h=>by simp only[den] at h ⊢;simp only[ranged] at hs;obtain ⟨vs,a,h⟩:=h;exact ⟨vs,a,ZbH cs vs hs h⟩
 | .tup cs,_,hs,h=>by simp only[den] at h ⊢;simp only[ranged] at hs;obtain ⟨vs,a,h⟩:=h;exact ⟨vs,a,ZbH cs vs hs h⟩
 | .fn _ cs,_,hs,h=>by simp only[den] at h ⊢;simp only[ranged] at hs;obtain ⟨vs,a,h⟩:=h;exact ⟨vs,a,ZbH cs vs hs h⟩
theorem ZbH {E:Env} {n:Nat}:∀ (cs:List SV) (vs:List Value),Zd6 n cs->Yg E cs vs->Yg ⟨E.S,E.w,E.ids.take n⟩ cs vs
 | [],[],_,_=>trivial
 | c::cs,v::vs,hs,h=>by simp only[Yg] at h ⊢;simp only[Zd6] at hs;exact ⟨ZzT c v hs.1 h.1,ZbH cs vs hs.2 h.2⟩
 | _::_,[],_,h=>by simp[Yg] at h
 | [],_::_,_,h=>by simp[Yg] at h
end
def Zww (n:Nat):Entry->Prop
 | .box cells=>Zd6 n cells
 | .fbx cells=>Zd6 n cells
 | .hole _ _ _ _ cells _=>Zd6 n cells
 | .hsp _ _ _ _ cells _=>Zd6 n cells
 | _=>True
theorem Zwv {E:Env} {i:Nat} {e:Entry} (h:Zxy E i e):Zww E.ids.length e:=by
 cases e with
 | box cells=>obtain ⟨b,cs,T,_,_,h⟩:=h;exact Zat _ _ h
 | fbx cells=>obtain ⟨b,cs,T,_,_,_,h⟩:=h;exact Zat _ _ h
 | hole et e d i cells fp=>obtain ⟨_,_,_,_,_,_,_,_,_,_,_,_,_,_,_,_,h,_⟩:=h;exact Zat _ _ h
 | hsp et e d i cells fp=>obtain ⟨_,_,_,_,_,_,_,_,_,_,_,_,_,_,_,h,_⟩:=h;exact Zat _ _ h
 | _=>trivial
theorem Inv.trunc {B:Base} {E:Env} {H:List Entry} (h:Inv B E H) (n:Nat) (hn:B.pin.length<=n) (hs:∀ e∈H.take n,Zww n e):Inv B ⟨E.S,E.w,E.ids.take n⟩ (H.take n):=by
 have hH:∀ (i:Nat) (e:Entry),(H.take n)[i]?=some e->i<n/\H[i]?=some e:=by
  grind
 have hid:∀ (i:Nat) (v:Value),i<n->E.ids[i]?=some v->(E.ids.take n)[i]?=some v:=by
  grind
 have hid':∀ (i:Nat) (v:Value),(E.ids.take n)[i]?=some v->E.ids[i]?=some v:=by
  grind
 exact
  {keeps:=h.keeps,Slt:=h.Slt,Sold:=h.Sold,glob:=h.glob,len:=by simp[h.len]
   pin:=λi v hv=>hid i v (Nat.lt_of_lt_of_le (List.getElem?_eq_some_iff.1 hv).1 hn) (h.pin i v hv)
   ent:=λi e hi=>by
    have hmem:=List.mem_of_getElem? hi;obtain ⟨hlt,hi'⟩:=hH i e hi;have he:=h.ent i e hi';cases e with
    | gone=>trivial
    | box cells =>
     obtain ⟨b,cs,T,a1,a2,a3⟩:=he;exact ⟨b,cs,T,hid _ _ hlt a1,a2,ZbH _ _ (hs _ hmem) a3⟩
    | arr et t d=>obtain ⟨v,xs,a1,a2,a3⟩:=he;exact ⟨v,xs,hid _ _ hlt a1,a2,a3⟩
    | frz t d=>obtain ⟨v,a1,a2⟩:=he;exact ⟨v,hid _ _ hlt a1,a2⟩
    | mpe k v d=>obtain ⟨b,es,clk,a1,a2⟩:=he;exact ⟨b,es,clk,hid _ _ hlt a1,a2⟩
    | frm k v d=>obtain ⟨u,a1,a2⟩:=he;exact ⟨u,hid _ _ hlt a1,a2⟩
    | fbx cells =>
     obtain ⟨b,cs,T,a1,aS,a2,a3⟩:=he;exact ⟨b,cs,T,hid _ _ hlt a1,aS,a2,ZbH _ _ (hs _ hmem) a3⟩
    | darr et e d fp=>obtain ⟨v,xs,fps,a1,a2⟩:=he;exact ⟨v,xs,fps,hid _ _ hlt a1,a2⟩
    | hole et e d i cells fp =>
     obtain ⟨v,xs,x1,vx,x2,f1,f2,a1,a2,a3,a4,a5,a6,a7,a8,a9,a10,a11⟩:=he;exact ⟨v,xs,x1,vx,x2,f1,f2,hid _ _ hlt a1,a2,a3,a4,a5,a6,a7,a8,a9,ZbH _ _ (hs _ hmem) a10,a11⟩
    | spl et e d n fp=>obtain ⟨v,a1,a2⟩:=he;exact ⟨v,hid _ _ hlt a1,a2⟩
    | hsp et e d i cells fp =>
     obtain ⟨v,xs,x1,vx,x2,f1,a1,a2,a3,a4,a5,a6,a7,a8,a9,a10,a11⟩:=he;exact ⟨v,xs,x1,vx,x2,f1,hid _ _ hlt a1,a2,a3,a4,a5,a6,a7,a8,a9,ZbH _ _ (hs _ hmem) a10,a11⟩
   free:=λi e v g hi hl hv hb=>h.free i e v g (hH i e hi).2 hl (hid' _ _ hv) hb
   sep:=λi j ei ej vi vj g hi hj hli hlj hvi hvj=>h.sep i j ei ej vi vj g (hH i ei hi).2 (hH j ej hj).2 hli hlj (hid' _ _ hvi) (hid' _ _ hvj)}
inductive Loc
 | reg (r:Nat) (s:Sh)
 | cell (id off:Nat) (t:Ty)
 | cello (id off:Nat) (e:Dp)
 | ent (id:Nat) (et:TypeId) (e:Dp)
 | entm (id:Nat) (k v:Ty)
 | splt (id:Nat) (et:TypeId) (e:Dp)
def Loc.ZF8 (n:Nat):Loc->Prop
 | .ent id _ _=>id<n
 | .entm id _ _=>id<n
 | .splt id _ _=>id<n
 | _=>True
@[reducible] def Loc.den:Loc->Type
 | .reg _ s=>s.den
 | .cell _ _ t=>t.den
 | .cello _ _ e=>e.ty.den
 | .ent _ _ e=>List e.ty.den
 | .entm _ k v=>List (k.den×v.den)
 | .splt _ _ e=>List e.ty.den×Int
@[reducible] def Zwi:List Loc->Type
 | []=>Unit
 | l::r=>l.den×Zwi r
def Zjm:(ls:List Loc)->List SV->List Entry->(Zwi ls->List Entry->Prop)->Prop
 | [],_,H,K=>K () H
 | .reg r (.dat t)::q,regs,H,K=>ZpT regs r λs=>VX [s] H λcs H1=>Qk t cs λd rest=>match rest with
   | []=>Zjm q regs H1 λds H2=>K (d,ds) H2
   | _=>False
 | .reg r (.own e)::q,regs,H,K=>ZpT regs r λs=>if s.whole=true/\e.ty.agg=s.isAgg then closeAll e s.cells H λd H1=>Zjm q regs H1 λds H2=>K (d,ds) H2 else False
 | .reg _ (.io _)::_,_,_,_=>False
 | .reg _ (.back _)::_,_,_,_=>False
 | .cell id off t::q,regs,H,K=>Zid H id λe=>match e with
   | .box cells=>ZpT cells off λs=>VX [s] H λcs H1=>Qk t cs λd rest=>match rest with
    | []=>Zjm q regs H1 λds H2=>K (d,ds) H2
    | _=>False
   | _=>False
 | .cello id off e::q,regs,H,K=>Zid H id λen=>match en with
   | .box cells=>ZpT cells off λs=>closeAll e [s] H λd H1=>Zjm q regs H1 λds H2=>K (d,ds) H2
   | _=>False
 | .ent id et e::q,regs,H,K=>closeAll (.ol et e) [.own id] H λd H1=>Zjm q regs H1 λds H2=>K (d,ds) H2
 | .entm id k v::q,regs,H,K=>closeAll (.mp k v) [.mown id] H λd H1=>Zjm q regs H1 λds H2=>K (d,ds) H2
 | .splt id et e::q,regs,H,K=>ZzI et e id H λd n H1=>Zjm q regs H1 λds H2=>K ((d,n),ds) H2
def ZHJ (t:Ty) (d:t.den) (K:SV->Prop):Prop:=Vj t d λcs=>match cs with
 | [c]=>K c
 | _=>False
def ZuZ:(ls:List Loc)->Zwi ls->List SV->List Entry->(List SV->List Entry->Prop)->Prop
 | [],_,regs,H,K=>K regs H
 | .reg r (.dat t)::q,v,regs,H,K=>Zv v λx v'=>ZHJ t x λc=>Zza regs r c λregs'=>ZuZ q v' regs' H K
 | .reg r (.own e)::q,v,regs,H,K=>Zv v λx v'=>VB e x H λcs H1=>Zvb e.ty cs λs=>Zza regs r s λregs'=>ZuZ q v' regs' H1 K
 | .reg _ (.io _)::_,_,_,_,_=>False
 | .reg _ (.back _)::_,_,_,_,_=>False
 | .cell id off t::q,v,regs,H,K=>Zv v λx v'=>ZHJ t x λc=>Zid H id λe=>match e with
   | .box cells=>Zza cells off c λcells'=>Zjn H id (.box cells') λH'=>ZuZ q v' regs H' K
   | _=>False
 | .cello id off e::q,v,regs,H,K=>Zv v λx v'=>VB e x H λcs H1=>match cs with
   | [s]=>Zid H1 id λen=>match en with
    | .box cells=>Zza cells off s λcells'=>Zjn H1 id (.box cells') λH'=>ZuZ q v' regs H' K
    | _=>False
   | _=>False
 | .ent id et e::q,v,regs,H,K=>Zv v λx v'=>ZEn et e id x H λH'=>ZuZ q v' regs H' K
 | .entm id k u::q,v,regs,H,K=>Zv v λx v'=>Zjn H id (.mpe k u x) λH'=>ZuZ q v' regs H' K
 | .splt id et e::q,v,regs,H,K=>Zv v λx v'=>∀ fp:List Nat,Zjn H id (.spl et e x.1 x.2 fp) λH'=>ZuZ q v' regs H' K
def Zqg:List Loc->List Entry->(List Entry->Prop)->Prop
 | [],H,K=>K H
 | .cell id off _::q,H,K=>Zid H id λe=>match e with
   | .box cells=>Zza cells off .bot λcells'=>Zjn H id (.box cells') λH'=>Zqg q H' K
   | _=>False
 | .cello id off _::q,H,K=>Zid H id λe=>match e with
   | .box cells=>Zza cells off .bot λcells'=>Zjn H id (.box cells') λH'=>Zqg q H' K
   | _=>False
 | .reg _ _::q,H,K=>Zqg q H K
 | .ent _ _ _::q,H,K=>Zqg q H K
 | .entm _ _ _::q,H,K=>Zqg q H K
 | .splt _ _ _::q,H,K=>Zqg q H K
def ZyU:List Nat->List SV->(List SV->Prop)->Prop
 | [],regs,K=>K regs
 | r::q,regs,K=>Zza regs r .bot λregs'=>ZyU q regs' K
def Zlr:List Loc->List Nat->(List Nat->Prop)->Prop
 | [],W,K=>K W
 | .reg r _::q,W,K=>Zlr q W λW'=>K (r::W')
 | .cell _ _ _::q,W,K=>Zlr q W K
 | .cello _ _ _::q,W,K=>Zlr q W K
 | .ent _ _ _::q,W,K=>Zlr q W K
 | .entm _ _ _::q,W,K=>Zlr q W K
 | .splt _ _ _::q,W,K=>Zlr q W K
theorem Zus {E:Env}:∀ (W:List Nat) (regs:List SV) (vs:List Value),Yg E regs vs->∀ {K:List SV->Prop},ZyU W regs K->∃ regs',Yg E regs' vs/\K regs'
 | [],regs,vs,hd,K,hk=>⟨regs,hd,hk⟩
 | r::W,regs,vs,hd,K,hk=>by
  simp only[ZyU,ZfG] at hk;have hd':Yg E (regs.set r .bot) vs:=by
   by_cases hr:r<vs.length
   ·have:=ZfS _ _ hd r .bot vs[r] (by simp only[den])
    simpa using this
   ·have hl:=YJ _ _ hd
    rw[List.set_eq_of_length_le (by omega)];exact hd
  exact Zus W _ vs hd' hk
theorem Inv.weaken {B:Base} {E:Env} {H:List Entry} (h:Inv B E H) {id:Nat} {cells cells':List SV} (hi:H[id]?=some (.box cells)) (hc:∀ b cs T,E.ids[id]?=some (.pointer (some ⟨b,0,none⟩))->E.w.heap[b]?=some (.cells cs T (0,0))->Yg E cells cs.toList->Yg E cells' cs.toList) :
  Inv B E (H.set id (.box cells')):=by
 have hlt:id<H.length:=(List.getElem?_eq_some_iff.1 hi).1;have old:∀ (j:Nat) (e:Entry),(H.set id (.box cells'))[j]?=some e->∃ e0,H[j]?=some e0/\(e.live=true->e0.live=true)/\(j≠id->e=e0)/\(j=id->e=.box cells'/\e0=.box cells)/\(∀ v g,ZiY e v g->ZiY e0 v g):=by
  intro j e hj;by_cases hji:id=j
  ·subst hji
   rw[List.getElem?_set_self hlt] at hj;simp at hj;subst hj;exact ⟨_,hi,λ_=>rfl,λhne=>absurd rfl hne,λ_=>⟨rfl,rfl⟩,λv g h=>h⟩
  grind
 exact
  {keeps:=h.keeps,Slt:=h.Slt,Sold:=h.Sold,glob:=h.glob,len:=by simp[h.len],pin:=h.pin
   ent:=λj e hj=>by
    obtain ⟨e0,hj0,_,hne,heq,_⟩:=old j e hj;by_cases hji:j=id
    ·obtain ⟨rfl,rfl⟩:=heq hji
     obtain ⟨b,cs,T,a1,a2,a3⟩:=h.ent j _ hj0;subst hji;exact ⟨b,cs,T,a1,a2,hc b cs T a1 a2 a3⟩
    ·rw[hne hji];exact h.ent j e0 hj0
   free:=λj e v g hj hl hv hb=>by
    obtain ⟨e0,hj0,hl0,_,_,hb0⟩:=old j e hj;exact h.free j e0 v g hj0 (hl0 hl) hv (hb0 v g hb)
   sep:=λi j ei ej vi vj g hi' hj' hli hlj hvi hvj hbi hbj=>by
    obtain ⟨e0,hi0,hl0,_,_,hb0⟩:=old i ei hi';obtain ⟨e1,hj1,hl1,_,_,hb1⟩:=old j ej hj';exact h.sep i j e0 e1 vi vj g hi0 hj1 (hl0 hli) (hl1 hlj) hvi hvj (hb0 vi g hbi) (hb1 vj g hbj)}
theorem ZpF {E:Env} {cells:List SV} {vs:List Value} (hd:Yg E cells vs) (off:Nat):Yg E (cells.set off .bot) vs:=by
 by_cases hr:off<vs.length
 ·have:=ZfS _ _ hd off .bot vs[off] (by simp only[den])
  simpa using this
 ·have hl:=YJ _ _ hd
  rw[List.set_eq_of_length_le (by omega)];exact hd
def JE (B:Base) (E:Env) (H:List Entry) (vs:List Value):(ls:List Loc)->Zwi ls->List Nat->Prop
 | [],_,gs=>gs=[]
 | .reg r (.dat t)::q,v,gs=>(∃ u,vs[r]?=some u/\rep E.S E.w t v.1 [u])/\JE B E H vs q v.2 gs
 | .reg r (.own e)::q,v,gs=>∃ u f g1,vs[r]?=some u/\ZBp e.ty u/\Zh5 E.S E.w e v.1 u.cells.toList f/\gs=f++g1/\JE B E H vs q v.2 g1
 | .reg _ (.io _)::_,_,_=>False
 | .reg _ (.back _)::_,_,_=>False
 | .cell id off t::q,v,gs=>(∃ b cs T cells u,H[id]?=some (.box cells)/\E.ids[id]?=some (.pointer (some ⟨b,0,none⟩))/\E.w.heap[b]?=some (.cells cs T (0,0))/\cs.toList[off]?=some u/\rep E.S E.w t v.1 [u])/\
   JE B E H vs q v.2 gs
 | .cello id off e::q,v,gs=>∃ b cs T cells u f g1,H[id]?=some (.box cells)/\E.ids[id]?=some (.pointer (some ⟨b,0,none⟩))/\E.w.heap[b]?=some (.cells cs T (0,0))/\cs.toList[off]?=some u/\
   Zh5 E.S E.w e v.1 [u] f/\gs=f++g1/\JE B E H vs q v.2 g1
 | .ent id et e::q,v,gs=>∃ u f g1,id<H.length/\E.ids[id]?=some u/\(∀ c,H[id]?≠some (.box c))/\Zh5 E.S E.w (.ol et e) v.1 [u] f/\gs=f++g1/\JE B E H vs q v.2 g1
 | .entm id k t::q,v,gs=>∃ u f g1,id<H.length/\E.ids[id]?=some u/\(∀ c,H[id]?≠some (.box c))/\Zh5 E.S E.w (.mp k t) v.1 [u] f/\gs=f++g1/\JE B E H vs q v.2 g1
 | .splt id et e::q,v,gs=>∃ u f g1,id<H.length/\E.ids[id]?=some u/\(∀ c,H[id]?≠some (.box c))/\ZGu E.S E.w et e v.1.1 v.1.2 u f/\gs=f++g1/\JE B E H vs q v.2 g1
def Boxed (H H':List Entry):Prop:=H'.length=H.length/\(∀ (i:Nat) (c:List SV),H[i]?=some (.box c)->∃ c',H'[i]?=some (.box c'))/\∀ (i:Nat) (c:List SV),H'[i]?=some (.box c)->∃ c',H[i]?=some (.box c')
theorem Boxed.refl (H:List Entry):Boxed H H:=⟨rfl,λ_ c h=>⟨c,h⟩,λ_ c h=>⟨c,h⟩⟩
theorem Boxed.trans {A C D:List Entry} (h:Boxed A C) (k:Boxed C D):Boxed A D :=
 ⟨k.1.trans h.1,λi c hi=>by obtain ⟨c',h'⟩:=h.2.1 i c hi;exact k.2.1 i c' h',λi c hi=>by obtain ⟨c',h'⟩:=k.2.2 i c hi;exact h.2.2 i c' h'⟩
theorem Boxed.frz {E E':Env} {H H':List Entry} (h:Frz E H E' H') (hb:∀ (i:Nat) (c:List SV),H[i]?=some (.box c)->H'[i]?=some (.box c)):Boxed H H' :=
 ⟨h.len,λi c hi=>⟨c,hb i c hi⟩,λi c hi=>⟨c,h.box i c hi⟩⟩
theorem Boxed.Zol {H:List Entry} {id:Nat} {c0 c1:List SV} (h:H[id]?=some (.box c0)):Boxed H (H.set id (.box c1)):=by
 have hlt:=(List.getElem?_eq_some_iff.1 h).1;refine ⟨by simp,λi c hi=>?_,λi c hi=>?_⟩;all_goals grind
theorem Boxed.ZEt {H:List Entry} {id:Nat} {e1:Entry} (h:∀ c,H[id]?≠some (.box c)) (h1:∀ c,e1≠.box c):Boxed H (H.set id e1):=by
 refine ⟨by simp,λi c hi=>?_,λi c hi=>?_⟩;all_goals grind
theorem Zae {B:Base} {E E':Env} {H H':List Entry} (hw:E'.w=E.w) (hS:∀ b,E.S b->E'.S b) (hids:∀ (i:Nat) (v:Value),i<H'.length->E.ids[i]?=some v->E'.ids[i]?=some v) {vs:List Value}
  (hbox:∀ (i:Nat) (c:List SV),H[i]?=some (.box c)->i<H'.length->∃ c',H'[i]?=some (.box c')) (hno:∀ (i:Nat) (c:List SV),H'[i]?=some (.box c)->∃ c',H[i]?=some (.box c')) :
  ∀ (ls:List Loc) (v:Zwi ls) (gs:List Nat),(∀ id off t,Loc.cell id off t∈ls->id<H'.length)->(∀ id off e,Loc.cello id off e∈ls->id<H'.length)->(∀ l∈ls,l.ZF8 H'.length)->JE B E H vs ls v gs->JE B E' H' vs ls v gs
 | [],_,_,_,_,_,h=>h
 | .reg _ (.dat t)::q,v,gs,p1,p2,p3,⟨⟨u,a,b⟩,h⟩=>⟨⟨u,a,Yp hS (λ_ _=>by rw[hw]) t _ _ b⟩,Zae hw hS hids hbox hno q v.2 gs (λi o t h=>p1 i o t (by simp[h])) (λi o t h=>p2 i o t (by simp[h])) (λl h=>p3 l (by simp[h])) h⟩
 | .reg _ (.own e)::q,v,gs,p1,p2,p3,⟨u,f,g1,a,b,c,d,h⟩=>⟨u,f,g1,a,b,Yz hS (λ_ _=>by rw[hw]) e _ _ _ (λg _=>by rw[hw]) c,d,Zae hw hS hids hbox hno q v.2 g1 (λi o t h=>p1 i o t (by simp[h])) (λi o t h=>p2 i o t (by simp[h])) (λl h=>p3 l (by simp[h])) h⟩
 | .cell id off t::q,v,gs,p1,p2,p3,⟨⟨b,cs,T,cells,u,a1,a2,a3,a4,a5⟩,h⟩=>by
  have hlt:=p1 id off t (by simp);obtain ⟨c',hc'⟩:=hbox id _ a1 hlt;exact ⟨⟨b,cs,T,c',u,hc',hids _ _ hlt a2,by rw[hw];exact a3,a4,Yp hS (λ_ _=>by rw[hw]) t _ _ a5⟩,Zae hw hS hids hbox hno q v.2 gs (λi o t h=>p1 i o t (by simp[h])) (λi o t h=>p2 i o t (by simp[h])) (λl h=>p3 l (by simp[h])) h⟩
 | .cello id off e::q,v,gs,p1,p2,p3,⟨b,cs,T,cells,u,f,g1,a1,a2,a3,a4,a5,a6,h⟩=>by
  have hlt:=p2 id off e (by simp);obtain ⟨c',hc'⟩:=hbox id _ a1 hlt;exact ⟨b,cs,T,c',u,f,g1,hc',hids _ _ hlt a2,by rw[hw];exact a3,a4,Yz hS (λ_ _=>by rw[hw]) e _ _ _ (λg _=>by rw[hw]) a5,a6,Zae hw hS hids hbox hno q v.2 g1 (λi o t h=>p1 i o t (by simp[h])) (λi o t h=>p2 i o t (by simp[h])) (λl h=>p3 l (by simp[h])) h⟩
 | .ent id et e::q,v,gs,p1,p2,p3,⟨u,f,g1,a1,a2,a3,a4,a5,h⟩=>by
  have hlt:id<H'.length:=p3 _ List.mem_cons_self;exact ⟨u,f,g1,hlt,hids _ _ hlt a2,λc hc=>by grind,Yz hS (λ_ _=>by rw[hw]) (.ol et e) _ _ _ (λg _=>by rw[hw]) a4,a5,Zae hw hS hids hbox hno q v.2 g1 (λi o t h=>p1 i o t (by simp[h])) (λi o t h=>p2 i o t (by simp[h])) (λl h=>p3 l (by simp[h])) h⟩
 | .entm id k t::q,v,gs,p1,p2,p3,⟨u,f,g1,a1,a2,a3,a4,a5,h⟩=>by
  have hlt:id<H'.length:=p3 _ List.mem_cons_self;exact ⟨u,f,g1,hlt,hids _ _ hlt a2,λc hc=>by grind,Yz hS (λ_ _=>by rw[hw]) (.mp k t) _ _ _ (λg _=>by rw[hw]) a4,a5,Zae hw hS hids hbox hno q v.2 g1 (λi o t h=>p1 i o t (by simp[h])) (λi o t h=>p2 i o t (by simp[h])) (λl h=>p3 l (by simp[h])) h⟩
 | .splt id et e::q,v,gs,p1,p2,p3,⟨u,f,g1,a1,a2,a3,a4,a5,h⟩=>by
  have hlt:id<H'.length:=p3 _ List.mem_cons_self;exact ⟨u,f,g1,hlt,hids _ _ hlt a2,λc hc=>by grind,ZrW hS (λ_ _=>by rw[hw]) (λg _=>by rw[hw]) a4,a5,Zae hw hS hids hbox hno q v.2 g1 (λi o t h=>p1 i o t (by simp[h])) (λi o t h=>p2 i o t (by simp[h])) (λl h=>p3 l (by simp[h])) h⟩
def ZGk (n:Nat) (ls:List Loc):Prop:=(∀ id off t,Loc.cell id off t∈ls->id<n)/\(∀ id off e,Loc.cello id off e∈ls->id<n)/\∀ l∈ls,l.ZF8 n
theorem Zdy {B:Base} {E:Env} {H:List Entry} {vs:List Value}:∀ (ls:List Loc) (v:Zwi ls) (gs:List Nat),JE B E H vs ls v gs->ZGk H.length ls
 | [],_,_,_=>⟨λ_ _ _ h=>by simp at h,λ_ _ _ h=>by simp at h,λ_ h=>by simp at h⟩
 | .reg _ (.dat t)::q,v,gs,⟨_,h⟩=>by
  obtain ⟨a,b,c⟩:=Zdy q v.2 gs h;exact ⟨λi o t h=>a i o t (by simpa using h),λi o t h=>b i o t (by simpa using h),λl h=>(List.mem_cons.1 h).elim (λe=>by subst e;trivial) (c l)⟩
 | .reg _ (.own e)::q,v,gs,⟨_,_,g1,_,_,_,_,h⟩=>by
  obtain ⟨a,b,c⟩:=Zdy q v.2 g1 h;exact ⟨λi o t h=>a i o t (by simpa using h),λi o t h=>b i o t (by simpa using h),λl h=>(List.mem_cons.1 h).elim (λe=>by subst e;trivial) (c l)⟩
 | .reg _ (.io _)::_,_,_,h=>by simp only[JE] at h
 | .reg _ (.back _)::_,_,_,h=>by simp only[JE] at h
 | .cell id off t::q,v,gs,⟨⟨_,_,_,_,_,a1,_⟩,h⟩=>by
  obtain ⟨a,b,c⟩:=Zdy q v.2 gs h;refine ⟨λi o t' h'=>?_,λi o t h=>b i o t (by simpa using h),λl h=>(List.mem_cons.1 h).elim (λe=>by subst e;trivial) (c l)⟩;grind
 | .cello id off e::q,v,gs,⟨_,_,_,_,_,_,g1,a1,_,_,_,_,_,h⟩=>by
  obtain ⟨a,b,c⟩:=Zdy q v.2 g1 h;refine ⟨λi o t h=>a i o t (by simpa using h),λi o e' h'=>?_,λl h=>(List.mem_cons.1 h).elim (λe=>by subst e;trivial) (c l)⟩;grind
 | .ent id et e::q,v,gs,⟨_,_,g1,a1,_,_,_,_,h⟩=>by
  obtain ⟨a,b,c⟩:=Zdy q v.2 g1 h;exact ⟨λi o t h=>a i o t (by simpa using h),λi o t h=>b i o t (by simpa using h),λl h=>(List.mem_cons.1 h).elim (λe=>by subst e;exact a1) (c l)⟩
 | .entm id k u::q,v,gs,⟨_,_,g1,a1,_,_,_,_,h⟩=>by
  obtain ⟨a,b,c⟩:=Zdy q v.2 g1 h;exact ⟨λi o t h=>a i o t (by simpa using h),λi o t h=>b i o t (by simpa using h),λl h=>(List.mem_cons.1 h).elim (λe=>by subst e;exact a1) (c l)⟩
 | .splt id et e::q,v,gs,⟨_,_,g1,a1,_,_,_,_,h⟩=>by
  obtain ⟨a,b,c⟩:=Zdy q v.2 g1 h;exact ⟨λi o t h=>a i o t (by simpa using h),λi o t h=>b i o t (by simpa using h),λl h=>(List.mem_cons.1 h).elim (λe=>by subst e;exact a1) (c l)⟩
theorem Zbn {B:Base} {E E':Env} {H H':List Entry} (hw:E'.w=E.w) (hS:∀ b,E.S b->E'.S b) (hids:∀ (i:Nat) (v:Value),E.ids[i]?=some v->E'.ids[i]?=some v) (hb:Boxed H H') {vs:List Value}
  (ls:List Loc) (v:Zwi ls) (gs:List Nat) (h:JE B E H vs ls v gs):JE B E' H' vs ls v gs:=by
 obtain ⟨p1,p2,p3⟩:=Zdy ls v gs h;rw[<-hb.1] at p1 p2 p3;exact Zae hw hS (λi v _ hv=>hids i v hv) (λi c hi _=>hb.2.1 i c hi) hb.2.2 ls v gs p1 p2 p3 h
theorem ZpI {B:Base} {E:Env} {H:List Entry} {vs:List Value} (E':Env) (l:List Entry) (hw:E'.w=E.w) (hS:E'.S=E.S) (hids:∀ (i:Nat) (v:Value),E.ids[i]?=some v->E'.ids[i]?=some v)
  (ls:List Loc) (v:Zwi ls) (gs:List Nat) (h:JE B E H vs ls v gs):JE B E' (H++l) vs ls v gs:=by
 obtain ⟨p1,p2,p3⟩:=Zdy ls v gs h;have hle:H.length<=(H++l).length:=by simp
 have go:∀ (ls:List Loc) (v:Zwi ls) (gs:List Nat),JE B E H vs ls v gs->JE B E' (H++l) vs ls v gs:=by
  intro ls;induction ls with
  | nil=>intro v gs h;exact h
  | cons x q ih =>
   intro v gs h
   match x,v,h with
   | .reg _ (.dat t),v,⟨⟨u,a,b⟩,h⟩=>exact ⟨⟨u,a,by rw[hS,hw];exact b⟩,ih v.2 gs h⟩
   | .reg _ (.own e),v,⟨u,f,g1,a,b,c,d,h⟩=>exact ⟨u,f,g1,a,b,by rw[hS,hw];exact c,d,ih v.2 g1 h⟩
   | .reg _ (.io _),v,h=>simp only[JE] at h
   | .reg _ (.back _),v,h=>simp only[JE] at h
   | .cell id off t,v,⟨⟨b,cs,T,cells,u,a1,a2,a3,a4,a5⟩,h⟩ =>
    exact ⟨⟨b,cs,T,cells,u,by grind,hids _ _ a2,by rw[hw];exact a3,a4,by rw[hS,hw];exact a5⟩,ih v.2 gs h⟩
   | .cello id off e,v,⟨b,cs,T,cells,u,f,g1,a1,a2,a3,a4,a5,a6,h⟩ =>
    exact ⟨b,cs,T,cells,u,f,g1,by grind,hids _ _ a2,by rw[hw];exact a3,a4,by rw[hS,hw];exact a5,a6,ih v.2 g1 h⟩
   | .ent id et e,v,⟨u,f,g1,a1,a2,a3,a4,a5,h⟩ =>
    exact ⟨u,f,g1,Nat.lt_of_lt_of_le a1 hle,hids _ _ a2,λc hc=>a3 c (by grind),by rw[hS,hw];exact a4,a5,ih v.2 g1 h⟩
   | .entm id k t,v,⟨u,f,g1,a1,a2,a3,a4,a5,h⟩ =>
    exact ⟨u,f,g1,Nat.lt_of_lt_of_le a1 hle,hids _ _ a2,λc hc=>a3 c (by grind),by rw[hS,hw];exact a4,a5,ih v.2 g1 h⟩
   | .splt id et e,v,⟨u,f,g1,a1,a2,a3,a4,a5,h⟩ =>
    exact ⟨u,f,g1,Nat.lt_of_lt_of_le a1 hle,hids _ _ a2,λc hc=>a3 c (by grind),by rw[hS,hw];exact a4,a5,ih v.2 g1 h⟩
 exact go ls v gs h
def Taken (B:Base) (ls:List Loc) (E:Env) (H:List Entry) (vs:List Value) (gs:List Nat) (K:Zwi ls->List Entry->Prop):Prop :=
 ∃ E1 H1 v g1,E1.w=E.w/\E1.ids=E.ids/\Inv B E1 H1/\E.le E1/\K v H1/\JE B E1 H1 vs ls v g1/\Loose B E1 H1 (g1++gs)/\Boxed H H1
theorem Zho {B:Base}:∀ (ls:List Loc) {E:Env} {H:List Entry} (_:Inv B E H) {regs:List SV} {vs:List Value} (_:Yg E regs vs) (gs:List Nat) (_:Loose B E H gs) {K:Zwi ls->List Entry->Prop} (_:Zjm ls regs H K),Taken B ls E H vs gs K
 | [],E,H,hI,regs,vs,hd,gs,hL,K,hk=>⟨E,H,(),[],rfl,rfl,hI,Env.le.refl E,hk,rfl,hL,Boxed.refl H⟩
 | .reg r (.dat t)::q,E,H,hI,regs,vs,hd,gs,hL,K,hk=>by
  simp only[Zjm] at hk;obtain ⟨s,u,hu,hs,hk,_⟩:=Zce _ _ hd hk;obtain ⟨E1,H1,cs,hf,hI1,hd1,hk,hb1⟩:=QG [s] hI (show Yg E [s] [u] from ⟨hs,trivial⟩) hk;obtain ⟨d,rest,v1,v2,e12,hr,hrest,hk⟩:=XV t cs _ _ hd1 hk;split at hk
  ·have hv2:v2=[]:=by cases v2 with
    | nil=>rfl
    | cons=>simp[Yg] at hrest
   subst hv2;rw[List.append_nil] at e12;obtain ⟨E2,H2,v,g1,hw2,hid2,hI2,hle2,hk,hl,hL2,hb2⟩:=Zho q hI1 (ZK hf.le _ _ hd) gs (hL.frz hf) hk;refine ⟨E2,H2,(d,v),g1,hw2.trans hf.w,hid2.trans hf.ids,hI2,hf.le.trans hle2,hk,⟨⟨u,hu,?_⟩,hl⟩,hL2,(Boxed.frz hf hb1).trans hb2⟩;rw[e12];exact Yp hle2.S hle2.w t d v1 hr
  ·exact hk.elim
 | .reg r (.own e)::q,E,H,hI,regs,vs,hd,gs,hL,K,hk=>by
  simp only[Zjm] at hk;obtain ⟨s,u,hu,hs,hk,_⟩:=Zce _ _ hd hk;split at hk
  ·rename_i hc
   obtain ⟨hw,hag⟩:=hc;obtain ⟨E1,H1,d,f,hf,hI1,hr,hk,hL1,hT,hb1⟩:=VF hI (J3 hs hw) hL hk;obtain ⟨E2,H2,v,g1,hw2,hid2,hI2,hle2,hk,hl,hL2,hb2⟩:=Zho q hI1 (ZK hf.le _ _ hd) (f++gs) hL1 hk;refine ⟨E2,H2,(d,v),f++g1,hw2.trans hf.w,hid2.trans hf.ids,hI2,hf.le.trans hle2,hk,⟨u,f,g1,hu,Zt9 hs hw hag,?_,rfl,hl⟩,hL2.perm ?_,(Boxed.frz hf hb1).trans hb2⟩
   ·exact Yz hle2.S hle2.w e _ _ _ (λg _=>by rw[hw2]) hr
   grind
  ·exact hk.elim
 | .reg _ (.io _)::_,_,_,_,_,_,_,_,_,_,hk=>by simp only[Zjm] at hk
 | .reg _ (.back _)::_,_,_,_,_,_,_,_,_,_,hk=>by simp only[Zjm] at hk
 | .cell id off t::q,E,H,hI,regs,vs,hd,gs,hL,K,hk=>by
  simp only[Zjm] at hk;obtain ⟨e,he,hk⟩:=Y5 H hk;split at hk
  ·rename_i cells
   obtain ⟨b,cs0,T,e1,e2,e3⟩:=hI.ent id _ he;obtain ⟨s,u,hu,hs,hk,_⟩:=Zce _ _ e3 hk;obtain ⟨E1,H1,cs,hf,hI1,hd1,hk,hb1⟩:=QG [s] hI (show Yg E [s] [u] from ⟨hs,trivial⟩) hk;obtain ⟨d,rest,v1,v2,e12,hr,hrest,hk⟩:=XV t cs _ _ hd1 hk;split at hk
   ·have hv2:v2=[]:=by cases v2 with
     | nil=>rfl
     | cons=>simp[Yg] at hrest
    subst hv2;rw[List.append_nil] at e12;obtain ⟨E2,H2,v,g1,hw2,hid2,hI2,hle2,hk,hl,hL2,hb2⟩:=Zho q hI1 (ZK hf.le _ _ hd) gs (hL.frz hf) hk;obtain ⟨c',hc'⟩:=hb2.2.1 id _ (hb1 _ _ he);refine ⟨E2,H2,(d,v),g1,hw2.trans hf.w,hid2.trans hf.ids,hI2,hf.le.trans hle2,hk,⟨⟨b,cs0,T,c',u,hc',by rw[hid2,hf.ids];exact e1,by rw[hw2,hf.w];exact e2,hu,?_⟩,hl⟩,hL2,(Boxed.frz hf hb1).trans hb2⟩;rw[e12];exact Yp hle2.S hle2.w t d v1 hr
   ·exact hk.elim
  ·exact hk.elim
 | .cello id off e::q,E,H,hI,regs,vs,hd,gs,hL,K,hk=>by
  simp only[Zjm] at hk;obtain ⟨en,he,hk⟩:=Y5 H hk;split at hk
  ·rename_i cells
   obtain ⟨b,cs0,T,e1,e2,e3⟩:=hI.ent id _ he;obtain ⟨s,u,hu,hs,hk,_⟩:=Zce _ _ e3 hk;obtain ⟨E1,H1,d,f,hf,hI1,hr,hk,hL1,hT,hb1⟩:=VF hI (show Yg E [s] [u] from ⟨hs,trivial⟩) hL hk;obtain ⟨E2,H2,v,g1,hw2,hid2,hI2,hle2,hk,hl,hL2,hb2⟩:=Zho q hI1 (ZK hf.le _ _ hd) (f++gs) hL1 hk;obtain ⟨c',hc'⟩:=hb2.2.1 id _ (hb1 _ _ he);refine ⟨E2,H2,(d,v),f++g1,hw2.trans hf.w,hid2.trans hf.ids,hI2,hf.le.trans hle2,hk,⟨b,cs0,T,c',u,f,g1,hc',by rw[hid2,hf.ids];exact e1,by rw[hw2,hf.w];exact e2,hu,?_,rfl,hl⟩,hL2.perm ?_,(Boxed.frz hf hb1).trans hb2⟩
   ·exact Yz hle2.S hle2.w e _ _ _ (λg _=>by rw[hw2]) hr
   grind
  ·exact hk.elim
 | .ent id et e::q,E,H,hI,regs,vs,hd,gs,hL,K,hk=>by
  simp only[Zjm] at hk;have hk0:=hk;unfold closeAll at hk0;simp only[Jr] at hk0;obtain ⟨en,he,hk0⟩:=Y5 H hk0;have hlt:=(List.getElem?_eq_some_iff.1 he).1;obtain ⟨u,hu⟩:∃ u,E.ids[id]?=some u:=⟨_,List.getElem?_eq_getElem (show id<E.ids.length by rw[hI.len];exact hlt)⟩;have hnb:∀ c,H[id]?≠some (.box c):=by
   grind
  have hs:den E (.own id) u:=by
   simp only[den];refine ⟨hu,?_⟩;split at hk0
   ·obtain ⟨v',xs,a1,a2,_⟩:=hI.ent id _ he
    have:=hu.symm.trans a1;simp at this;subst this;rcases a2.2 with ⟨rfl,_⟩ | ⟨g,cap,cur,o,rfl,_⟩<;>exact ⟨_,_,_,rfl⟩
   ·obtain ⟨v',xs,fps,a1,a2,_⟩:=hI.ent id _ he
    have:=hu.symm.trans a1;simp at this;subst this;rcases a2.2 with ⟨rfl,_⟩ | ⟨g,cap,cur,o,rfl,_⟩<;>exact ⟨_,_,_,rfl⟩
   ·obtain ⟨v',xs,x1,vx,x2,f1,f2,a1,a2,_⟩:=hI.ent id _ he
    have:=hu.symm.trans a1;simp at this;subst this;rcases a2.2 with ⟨rfl,_⟩ | ⟨g,cap,cur,o,rfl,_⟩<;>exact ⟨_,_,_,rfl⟩
   ·obtain ⟨v',a1,⟨xs,x1,x2,f1,a2,_⟩,_⟩:=hI.ent id _ he
    have:=hu.symm.trans a1;simp at this;subst this;rcases a2.2 with ⟨rfl,_⟩ | ⟨g,cap,cur,o,rfl,_⟩<;>exact ⟨_,_,_,rfl⟩
   ·exact hk0.elim
  obtain ⟨E1,H1,d,f,hf,hI1,hr,hk,hL1,hT,hb1⟩:=VF hI (show Yg E [.own id] [u] from ⟨hs,trivial⟩) hL hk;obtain ⟨E2,H2,v,g1,hw2,hid2,hI2,hle2,hk,hl,hL2,hb2⟩:=Zho q hI1 (ZK hf.le _ _ hd) (f++gs) hL1 hk;have hbb:=(Boxed.frz hf hb1).trans hb2;refine ⟨E2,H2,(d,v),f++g1,hw2.trans hf.w,hid2.trans hf.ids,hI2,hf.le.trans hle2,hk,⟨u,f,g1,by rw[hbb.1];exact hlt,by rw[hid2,hf.ids];exact hu,λc hc=>?_,?_,rfl,hl⟩,hL2.perm ?_,hbb⟩
  ·obtain ⟨c',hc'⟩:=hbb.2.2 id c hc;exact hnb c' hc'
  ·exact Yz hle2.S hle2.w (.ol et e) _ _ _ (λg _=>by rw[hw2]) hr
  grind
 | .entm id k t::q,E,H,hI,regs,vs,hd,gs,hL,K,hk=>by
  simp only[Zjm] at hk;have hk0:=hk;unfold closeAll at hk0;simp only[Jr] at hk0;obtain ⟨en,he,hk0⟩:=Y5 H hk0;have hlt:=(List.getElem?_eq_some_iff.1 he).1;obtain ⟨u,hu⟩:∃ u,E.ids[id]?=some u:=⟨_,List.getElem?_eq_getElem (show id<E.ids.length by rw[hI.len];exact hlt)⟩;have hnb:∀ c,H[id]?≠some (.box c):=by
   grind
  have hs:den E (.mown id) u:=by
   simp only[den];refine ⟨hu,?_⟩;split at hk0
   ·obtain ⟨b,es,clk,a1,_⟩:=hI.ent id _ he
    grind
   ·exact hk0.elim
  obtain ⟨E1,H1,d,f,hf,hI1,hr,hk,hL1,hT,hb1⟩:=VF hI (show Yg E [.mown id] [u] from ⟨hs,trivial⟩) hL hk;obtain ⟨E2,H2,v,g1,hw2,hid2,hI2,hle2,hk,hl,hL2,hb2⟩:=Zho q hI1 (ZK hf.le _ _ hd) (f++gs) hL1 hk;have hbb:=(Boxed.frz hf hb1).trans hb2;refine ⟨E2,H2,(d,v),f++g1,hw2.trans hf.w,hid2.trans hf.ids,hI2,hf.le.trans hle2,hk,⟨u,f,g1,by rw[hbb.1];exact hlt,by rw[hid2,hf.ids];exact hu,λc hc=>?_,?_,rfl,hl⟩,hL2.perm ?_,hbb⟩
  ·obtain ⟨c',hc'⟩:=hbb.2.2 id c hc;exact hnb c' hc'
  ·exact Yz hle2.S hle2.w (.mp k t) _ _ _ (λg _=>by rw[hw2]) hr
  grind
 | .splt id et e::q,E,H,hI,regs,vs,hd,gs,hL,K,hk=>by
  simp only[Zjm] at hk;obtain ⟨E1,H1,d,n,u,f,hf,hI1,hu,hnb,hr,hk,hL1,hb1⟩:=ZzJ hI hL hk;obtain ⟨E2,H2,v,g1,hw2,hid2,hI2,hle2,hk,hl,hL2,hb2⟩:=Zho q hI1 (ZK hf.le _ _ hd) (f++gs) hL1 hk;have hbb:=(Boxed.frz hf hb1).trans hb2;have hlt:id<H2.length:=by
   have:=(List.getElem?_eq_some_iff.1 hu).1;rw[hb2.1,<-hI1.len];exact this
  refine ⟨E2,H2,((d,n),v),f++g1,hw2.trans hf.w,hid2.trans hf.ids,hI2,hf.le.trans hle2,hk,⟨u,f,g1,hlt,by rw[hid2];exact hu,λc hc=>?_,?_,rfl,hl⟩,hL2.perm ?_,hbb⟩
  ·obtain ⟨c',hc'⟩:=hbb.2.2 id c hc;exact hnb c' hc'
  ·exact ZrW hle2.S hle2.w (λg _=>by rw[hw2]) hr
  grind
theorem ZqC {vs:List Value} {r:Nat} {u:Value} (hu:vs[r]?=some u):vs.set r u=vs:=by
 apply List.ext_getElem?;grind
theorem Loose.Zol {B:Base} {E:Env} {H:List Entry} {gs:List Nat} (hL:Loose B E H gs) {id:Nat} {c0 c1:List SV} (he:H[id]?=some (.box c0)):Loose B E (H.set id (.box c1)) gs:=by
 have hlt:=(List.getElem?_eq_some_iff.1 he).1;refine ⟨hL.nodup,hL.free,λg hg j ej vj hj hlv hv hb=>?_⟩;by_cases hji:id=j
 ·subst hji;rw[List.getElem?_set_self hlt] at hj;simp at hj;subst hj;exact hL.apart g hg id _ vj he rfl hv hb
 ·rw[List.getElem?_set_ne hji] at hj;exact hL.apart g hg j ej vj hj hlv hv hb
theorem ZjQ {B:Base}:∀ (ls:List Loc) (v:Zwi ls) {E:Env} {H:List Entry} (_:Inv B E H) {regs:List SV} {vs:List Value} (_:Yg E regs vs) (g1:List Nat) (_:JE B E H vs ls v g1) (_:Loose B E H g1)
  {K:List SV->List Entry->Prop} (_:ZuZ ls v regs H K),∃ E' H' regs',E'.w=E.w/\Inv B E' H'/\Yg E' regs' vs/\K regs' H'
 | [],v,E,H,hI,regs,vs,hd,g1,hl,hL,K,hk=>⟨E,H,regs,rfl,hI,hd,hk⟩
 | .reg r (.dat t)::q,v,E,H,hI,regs,vs,hd,g1,⟨⟨u,hu,hr⟩,hl⟩,hL,K,hk=>by
  simp only[ZuZ,Jh,ZHJ,Qb] at hk;have hdc:=XA t v.1 [u] hr;split at hk
  ·rename_i c hc
   rw[hc] at hdc;simp only[Yg] at hdc;rw[ZfG] at hk;have hd':=ZfS _ _ hd r c u hdc.1;rw[ZqC hu] at hd';exact ZjQ q v.2 hI hd' g1 hl hL hk
  ·exact hk.elim
 | .reg r (.own e)::q,v,E,H,hI,regs,vs,hd,g1,⟨u,f,g2,hu,hform,hr,hg,hl⟩,hL,K,hk=>by
  simp only[ZuZ,Jh] at hk;subst hg;obtain ⟨E1,H1,cs,hw1,hS1,hI1,hle1,hd1,hk,hL1,l,hl1⟩:=Jq e v.1 hI hr hL hk;obtain ⟨s,hs,hk⟩:=ZqZ hform hd1 hk;rw[ZfG] at hk;have hd':=ZfS _ _ (ZK hle1 _ _ hd) r s u hs;rw[ZqC hu] at hd';subst hl1;obtain ⟨E2,H2,regs',hw2,hI2,hd2,hk⟩:=ZjQ q v.2 hI1 hd' g2 (ZpI E1 l hw1 hS1 hle1.ids q v.2 g2 hl) hL1 hk;grind
 | .reg _ (.io _)::_,_,_,_,_,_,_,_,_,_,_,_,hk=>by simp only[ZuZ] at hk
 | .reg _ (.back _)::_,_,_,_,_,_,_,_,_,_,_,_,hk=>by simp only[ZuZ] at hk
 | .cell id off t::q,v,E,H,hI,regs,vs,hd,g1,⟨⟨b,cs,T,cells0,u,a1,a2,a3,a4,a5⟩,hl⟩,hL,K,hk=>by
  simp only[ZuZ,Jh,ZHJ,Qb] at hk;have hdc:=XA t v.1 [u] a5;split at hk
  ·rename_i c hc
   rw[hc] at hdc;simp only[Yg] at hdc;obtain ⟨e,he,hk⟩:=Y5 H hk;split at hk
   ·rename_i cells
    rw[ZfG,XK] at hk;have hI1:=hI.weaken (cells':=cells.set off c) he (λb' cs' T' h1 h2 h3=>by
     have:=a2.symm.trans h1;simp at this;subst this;have:=a3.symm.trans h2;simp at this;obtain ⟨rfl,_⟩:=this;have hset:=ZfS _ _ h3 off c u hdc.1
     rwa [ZqC a4] at hset)
    exact ZjQ q v.2 hI1 hd g1 (Zbn rfl (λ_ h=>h) (λ_ _ h=>h) (Boxed.Zol he) q v.2 g1 hl) (hL.Zol he) hk
   ·exact hk.elim
  ·exact hk.elim
 | .cello id off e::q,v,E,H,hI,regs,vs,hd,g1,⟨b,cs,T,cells0,u,f,g2,a1,a2,a3,a4,hr,hg,hl⟩,hL,K,hk=>by
  simp only[ZuZ,Jh] at hk;subst hg;obtain ⟨E1,H1,cs1,hw1,hS1,hI1,hle1,hd1,hk,hL1,l,hl1⟩:=Jq e v.1 hI hr hL hk;subst hl1;split at hk
  ·rename_i s
   simp only[Yg] at hd1;obtain ⟨en,he,hk⟩:=Y5 _ hk;split at hk
   ·rename_i cells
    rw[ZfG,XK] at hk;have a2':=hle1.ids _ _ a2;have hI2:=hI1.weaken (cells':=cells.set off s) he (λb' cs' T' h1 h2 h3=>by
     have:=a2'.symm.trans h1;simp at this;subst this;rw[hw1] at h2;have:=a3.symm.trans h2;simp at this;obtain ⟨rfl,_⟩:=this;have hset:=ZfS _ _ h3 off s u hd1.1
     rwa [ZqC a4] at hset)
    obtain ⟨E2,H2,regs',hw2,hI3,hd2,hk⟩:=ZjQ q v.2 hI2 (ZK hle1 _ _ hd) g2 (Zbn rfl (λ_ h=>h) (λ_ _ h=>h) (Boxed.Zol he) q v.2 g2 (ZpI E1 l hw1 hS1 hle1.ids q v.2 g2 hl)) (hL1.Zol he) hk;grind
   ·exact hk.elim
  ·exact hk.elim
 | .ent id et e::q,v,E,H,hI,regs,vs,hd,g1,⟨u,f,g2,a1,a2,a3,hr,hg,hl⟩,hL,K,hk=>by
  simp only[ZuZ,Jh] at hk;subst hg;obtain ⟨e1,hI1,hL1,hk,hnb⟩:=ZAP e hI a1 a2 hr hL hk;exact ZjQ q v.2 hI1 hd g2 (Zbn rfl (λ_ h=>h) (λ_ _ h=>h) (Boxed.ZEt a3 hnb) q v.2 g2 hl) hL1 hk
 | .entm id k t::q,v,E,H,hI,regs,vs,hd,g1,⟨u,f,g2,a1,a2,a3,⟨b,es,clk,e1,e2,hh,hr⟩,hg,hl⟩,hL,K,hk=>by
  simp only[ZuZ,Jh,XK] at hk;subst hg;simp at e1;subst e1;obtain ⟨hI1,hL1⟩:=hL.put hI a1 a2 (.mpe k t v.1) (λ_ g hg=>by
   have hg:YC (.map (some b))=some g:=hg;simp[YC] at hg;rw[e2];simp[hg]) ⟨b,es,clk,a2,hh,hr⟩
  exact ZjQ q v.2 hI1 hd g2 (Zbn rfl (λ_ h=>h) (λ_ _ h=>h) (Boxed.ZEt a3 (λc h=>by cases h)) q v.2 g2 hl) hL1 hk
 | .splt id et e::q,v,E,H,hI,regs,vs,hd,g1,⟨u,f,g2,a1,a2,a3,hr,hg,hl⟩,hL,K,hk=>by
  simp only[ZuZ,Jh] at hk;have hk:=hk f;rw[XK] at hk;subst hg;obtain ⟨hI1,hL1⟩:=hL.put hI a1 a2 (.spl et e v.1.1 v.1.2 f) (λ_ g hg=>hg) ⟨u,a2,hr,(List.nodup_append.1 hL.nodup).1⟩;exact ZjQ q v.2 hI1 hd g2 (Zbn rfl (λ_ h=>h) (λ_ _ h=>h) (Boxed.ZEt a3 (λc h=>by cases h)) q v.2 g2 hl) hL1 hk
structure Cal where
 run:List SV->List Entry->(SV->List Entry->Prop)->Prop
 dat:Bool
 io:Option (List Bool) -- which arguments are variables,if nothing else is handed over
def Zzs (P:Program) (f:FuncId) (C:Cal):Prop:=ZlI P f/\
 ∀ {B:Base} {E:Env} {H:List Entry},Inv B E H->∀ {ss:List SV} {vs:List Value},Yg E ss vs->∀ {K:SV->List Entry->Prop},C.run ss H K->
  Calls P f vs.toArray E.w λe w'=>∃ v E' H' s,e=.returned v/\E'.w=w'/\Inv B E' H'/\E.le E'/\den E' s v/\K s H'/\(C.dat=true->Grow E.w w')/\(∀ m,C.io=some m->∀ b,b<E.w.heap.size->(∀ v∈pick m vs,YC v≠some b)->w'.heap[b]?=E.w.heap[b]?)
def Ctr.cal (C:Ctr):Cal:=⟨ZDI C,ZeI C.args,match Zkd C.args with
 | true=>some (ZnM C.args)
 | false=>none⟩
theorem Ctr.ZF3 {P:Program} {f:FuncId} {C:Ctr} (h:Za P f C):Zzs P f C.cal:=⟨h.1,λhI _ _ hd _ hk=>(ZBL hI h hd hk).mono λe w' ⟨v,E',H',s,a1,a2,a3,a4,a5,a6,a7,a8⟩=>⟨v,E',H',s,a1,a2,a3,a4,a5,a6,a7,λm hm=>by
 simp only[Ctr.cal] at hm;grind⟩⟩
abbrev Gam:=List (Nat×Cal)
def Gam.ok (Γ:Gam) (P:Program):Prop:=∀ x∈Γ,Zzs P x.1 x.2
def ZB7:Gam->Nat->(Cal->Prop)->Prop
 | [],_,_=>False
 | (n,C)::r,f,K=>if n=f then K C else ZB7 r f K
def ZxK:Gam->Nat->Bool
 | [],_=>false
 | (n,C)::r,f=>if n=f then C.dat else ZxK r f
def ZxL:Gam->Nat->Option (List Bool)
 | [],_=>none
 | (n,C)::r,f=>if n=f then C.io else ZxL r f
theorem Zvl {P:Program}:∀ (Γ:Gam),Γ.ok P->∀ {f:Nat} {K:Cal->Prop},ZB7 Γ f K->∃ C,Zzs P f C/\K C/\C.dat=ZxK Γ f/\C.io=ZxL Γ f
 | [],_,_,_,h=>h.elim
 | (n,C)::r,hΓ,f,K,h=>by
  unfold ZB7 at h;unfold ZxK ZxL;split at h
  ·rename_i e;subst e;exact ⟨C,hΓ (n,C) (by simp),h,by rw[if_pos rfl],by rw[if_pos rfl]⟩
  ·rename_i e;rw[if_neg e,if_neg e];exact Zvl r (λx hx=>hΓ x (by simp[hx])) h
def Zlf (Γ:Gam) (op:Op):Bool:=ZfD op||ZpH op||match op with
 | .call c=>match c.callee with
  | .value (.func f)=>ZxK Γ f
  | _=>false
 | _=>false
def ZlH (Γ:Gam) (op:Op):Option (List Operand):=match op with
 | .call c=>match c.callee with
  | .value (.func f)=>match ZxL Γ f with
   | some m=>some (pick m c.args.toList)
   | none=>none
  | _=>none
 | _=>none
def ZuP (Δ:Tab) (Γ:Gam) (regs:List SV) (H:List Entry) (op:Op) (K:SV->List Entry->Prop):Prop :=
 match op with
 | .call c=>match c.callee with
  | .value fo=>JO regs fo λsf=>match sf with
   | .fn f caps=>ZB7 Γ f λC=>ZyH regs c.args.toList λl=>ZtQ l caps λl'=>C.run l' H K
   | _=>False
  | _=>opK Δ regs H op K
 | op=>opK Δ regs H op K
def Zy1 (regs:List SV) (dst:Option Tmp) (s:SV) (K:List SV->Prop):Prop :=
 match dst with
 | none=>K regs
 | some d=>Zza regs d s K
def ZAB:List Oper->Nat->(Oper->Prop)->Prop
 | [],_,_=>False
 | o::_,0,K=>K o
 | _::r,n+1,K=>ZAB r n K
theorem Zpj:∀ (l:List Oper) {n:Nat} {K:Oper->Prop},ZAB l n K->∃ o,l[n]?=some o/\K o
 | [],_,_,h=>h.elim
 | o::_,0,K,h=>⟨o,rfl,h⟩
 | _::r,n+1,K,h=>by simpa using Zpj r (n:=n) h
def ZAD (Δ:Tab) (Γ:Gam) (ops:List Oper) (o:Oper) (regs:List SV) (H:List Entry) (K:List SV->List Entry->Prop):Prop :=
 match o.guard with
 | none=>ZuP Δ Γ regs H o.op λs H'=>Zy1 regs o.dst s λregs'=>K regs' H'
 | some (j,want)=>ZAB ops j λoj=>match oj.dst with
  | none=>False
  | some d=>ZpT regs d λsg=>match sg with
   | .blit b=>if b=want then ZuP Δ Γ regs H o.op λs H'=>Zy1 regs o.dst s λregs'=>K regs' H'
     else Zy1 regs o.dst (.tup []) λregs'=>K regs' H
   | .bool p=>(p=want->Zza regs d (.blit want) λregs1=>ZuP Δ Γ regs1 H o.op λs H'=>Zy1 regs1 o.dst s λregs'=>K regs' H')/\
     (p = !want->Zza regs d (.blit (!want)) λregs1=>Zy1 regs1 o.dst (.tup []) λregs'=>K regs' H)
   | .tup []=>Zy1 regs o.dst (.tup []) λregs'=>K regs' H
   | _=>False
def ZHG (Δ:Tab) (Γ:Gam) (ops:List Oper):List Oper->List SV->List Entry->(List SV->List Entry->Prop)->Prop
 | [],regs,H,K=>K regs H
 | o::r,regs,H,K=>ZAD Δ Γ ops o regs H λregs' H'=>ZHG Δ Γ ops r regs' H' K
def Conc (B:Base) (regs:List SV) (H:List Entry) (a:Act) (w:World):Prop :=
 ∃ E,E.w=w/\Inv B E H/\Yg E regs a.tmps.toList/\a.defers=[]
section
variable {P:Program}
theorem Zog {E:Env} {regs:List SV} {a:Act} (hd:Yg E regs a.tmps.toList) {dst:Option Tmp} {s:SV} {v:Value} (hs:den E s v) {K:List SV->Prop} (hk:Zy1 regs dst s K) :
  ∃ regs',Yg E regs' (a.put dst v).tmps.toList/\K regs'/\(a.put dst v).defers=a.defers:=by
 cases dst with
 | none=>exact ⟨regs,hd,hk,rfl⟩
 | some d =>
  simp only[Zy1,ZfG] at hk;refine ⟨_,?_,hk,rfl⟩;simp only[Act.put,Array.toList_setIfInBounds];exact ZfS _ _ hd d s v hs
theorem ZBn {B:Base} {E:Env} {o:Oper} {a:Act} {K:SV->List Entry->Prop} (h:Ran P B E o a K) {next:Act->World->Prop} {Q:Exit->Act->World->Prop}
  (hn:∀ E' H' s v,Inv B E' H'->E.le E'->den E' s v->K s H'->((ZfD o.op||ZpH o.op)=true->Grow E.w E'.w)->(∀ x,appArg o.op=some x->E.w.grownBy E'.w (YC (a.eval x)))->next (a.put o.dst v) E'.w):o.wp P a E.w next Q:=by
 obtain ⟨nx,v,E',H',s,h1,h2,h3,h4,h5,h6,_,h7,h8⟩:=h;unfold Oper.wp;rw[h1];rcases h2 with rfl | ⟨rfl,rfl⟩
 ·exact hn E' H' s v h3 h4 h5 h6 h7 h8
 ·exact hn E' H' s _ h3 h4 h5 h6 h7 h8
theorem ZCR {Δ:Tab} (hΔ:Δ.ok P) {Γ:Gam} (hΓ:Γ.ok P) {B:Base} {E:Env} {H:List Entry} (hI:Inv B E H) {regs:List SV} {a:Act} (hd:Yg E regs a.tmps.toList) {o:Oper} {K:SV->List Entry->Prop}
  (h:ZuP Δ Γ regs H o.op K) {next:Act->World->Prop} {Q:Exit->Act->World->Prop}
  (hn:∀ E' H' s v,Inv B E' H'->E.le E'->den E' s v->K s H'->(Zlf Γ o.op=true->Grow E.w E'.w)->(∀ x,appArg o.op=some x->E.w.grownBy E'.w (YC (a.eval x)))->(∀ xs,ZlH Γ o.op=some xs->∀ b,b<E.w.heap.size->(∀ x∈xs,YC (a.eval x)≠some b)->E'.w.heap[b]?=E.w.heap[b]?)->next (a.put o.dst v) E'.w):o.wp P a E.w next Q:=by
 obtain ⟨dst,op,type,pos,after,guard⟩:=o;simp only at h;unfold ZuP at h;split at h
 ·rename_i c
  obtain ⟨callee,args,argTypes⟩:=c;simp only at h;split at h
  ·rename_i fo
   obtain ⟨sf,hsf,h⟩:=Yr hd h;split at h
   ·rename_i f caps
    simp only[den] at hsf;obtain ⟨cv,hfv,hcaps⟩:=hsf;obtain ⟨C,hC,h,hda,hio⟩:=Zvl Γ hΓ h;obtain ⟨l,hl,h⟩:=ZnD hd _ h;rw[Zbc] at h;have hds:=Zbe _ _ hl _ _ hcaps;have hcall:=hC.2 hI hds h;obtain ⟨⟨fn,hf,hname,hbody⟩,_⟩:=hC;have hrun:(execOp a.eval ⟨dst,.call ⟨.value fo,args,argTypes⟩,type,pos,after,guard⟩).run P E.w=.ok (.enter f (args.toList.map a.eval++cv).toArray) E.w:=by
     have hargs:(args.map a.eval)++cv.toArray=(args.toList.map a.eval++cv).toArray:=by
      grind
     simp only[execOp,resolve,hfv,Deferred.ofValue,pure_bind,invoke,Array.empty_append,hargs];unfold callFunc;rw[Sem.run_bind,run_program,Result.andThen_ok,hf];simp only[hname,hbody,Bool.false_eq_true,if_false];rfl
    unfold Oper.wp;rw[hrun];refine hcall.mono ?_;rintro e w' ⟨v,E',H',s,rfl,rfl,h1,h2,h3,h4,h5,h6⟩;refine hn E' H' s v h1 h2 h3 h4 (λhgr=>h5 ?_) (Ztx rfl) (λxs hx b hb hne=>?_)
    ·rw[hda]
     cases fo with
     | func f0 =>
      simp only[Act.eval] at hfv;injection hfv with hfv
      injection hfv with hfv
      subst hfv;simpa[Zlf,ZfD,ZpH] using hgr
     | _=>simp[Zlf,ZfD,ZpH] at hgr
    ·cases fo with
     | func f0 =>
      simp only[Act.eval] at hfv;have hcv:cv=[]:=by
       grind
      injection hfv with hfv
      injection hfv with hfv
      subst hfv;simp only[ZlH] at hx;split at hx
      ·rename_i m hm
       injection hx with hx
       subst hx;refine h6 m (hio.trans hm) b hb (λu hu=>?_);have:pick m (args.toList.map a.eval++cv)=(pick m args.toList).map a.eval:=by
        rw[<-Zuz,hcv,List.append_nil]
       grind
      ·cases hx
     | _=>simp[ZlH] at hx
   ·exact h.elim
  ·rename_i hne
   refine ZBn (ZAE hΔ hI hd h) (λE' H' s v h1 h2 h3 h4 h5 h6=>hn E' H' s v h1 h2 h3 h4 (λhgr=>h5 ?_) h6 (λxs hx=>?_))
   ·cases callee with
    | value f=>grind
    | _=>simpa[Zlf,ZpH] using hgr
   ·cases callee with
    | value f=>grind
    | _=>simp[ZlH] at hx
 ·rename_i hne
  refine ZBn (ZAE hΔ hI hd h) (λE' H' s v h1 h2 h3 h4 h5 h6=>hn E' H' s v h1 h2 h3 h4 (λhgr=>h5 ?_) h6 (λxs hx=>?_));rotate_left
  ·cases op with
   | call c=>grind
   | _=>simp[ZlH] at hx
  cases op with
  | call c=>grind
  | _=>first | rfl | exact hgr | (simp[Zlf,ZfD,ZpH] at hgr ⊢)
def ZzE:Value->Option Bool
 | .bool b=>some b
 | _=>none
theorem ZtL {ops:Array Oper} {a:Act} {j d:Nat} {oj:Oper} {v:Value} (ho:ops.toList[j]?=some oj) (hd:oj.dst=some d) (hv:a.tmps.toList[d]?=some v) :
  yielded ops a.tmps j=ZzE v:=by
 have ho':ops[j]?=some oj:=by simpa using ho
 have hv':a.tmps[d]?=some v:=by simpa using hv
 unfold yielded;rw[ho',Option.bind_some,hd,Option.bind_some,hv'];cases v<;>rfl
theorem Zx8 {Δ:Tab} (hΔ:Δ.ok P) {Γ:Gam} (hΓ:Γ.ok P) {B:Base} (ops:Array Oper) {Q:Exit->Act->World->Prop} (o:Oper) {regs:List SV} {H:List Entry} {a:Act} {E:Env} (hI:Inv B E H) (hd:Yg E regs a.tmps.toList) (hdef:a.defers=[])
  {K:List SV->List Entry->Prop} (hk:ZAD Δ Γ ops.toList o regs H K) {next:Act->World->Prop}
  (hq:∀ regs' H' a' E',K regs' H'->Inv B E' H'->Yg E' regs' a'.tmps.toList->a'.defers=[]->E.le E'->(Zlf Γ o.op=true->Grow E.w E'.w)->(∀ x,appArg o.op=some x->E.w.grownBy E'.w (YC (a.eval x)))->(∀ xs,ZlH Γ o.op=some xs->∀ b,b<E.w.heap.size->(∀ x∈xs,YC (a.eval x)≠some b)->E'.w.heap[b]?=E.w.heap[b]?)->next a' E'.w) :
  (if Region.wanted o (yielded ops a.tmps) then o.wp P a E.w next Q\/(o.asks P a E.w/\LetsOut Q) else next (a.put o.dst undef) E.w):=by
 have run:∀ {regs:List SV},Yg E regs a.tmps.toList->(ZuP Δ Γ regs H o.op λs H'=>Zy1 regs o.dst s λregs'=>K regs' H')->o.wp P a E.w next Q:=by
  intro regs hd hk;refine ZCR hΔ hΓ hI hd hk (λE' H' s v hI' hle hs hk hg hap hwr=>?_);obtain ⟨regs',hd',hk,hdf⟩:=Zog (ZK hle _ _ hd) hs hk;grind
 have skip:∀ {regs:List SV},Yg E regs a.tmps.toList->(Zy1 regs o.dst (.tup []) λregs'=>K regs' H)->next (a.put o.dst undef) E.w:=by
  intro regs hd hk;obtain ⟨regs',hd',hk,hdf⟩:=Zog hd (v:=undef) (by simp only[den];exact ⟨[],rfl,trivial⟩) hk;exact hq regs' H _ _ hk hI hd' (by rw[hdf];exact hdef) (Env.le.refl E) (λ_=>Grow.refl _) (λ_ _=>⟨rfl,rfl,rfl,Nat.le_refl _,λ_ _ _=>rfl⟩) (λ_ _ _ _ _=>rfl)
 unfold ZAD at hk;split at hk
 ·rename_i hg
  rw[if_pos (by simp[Region.wanted,hg])];grind
 ·rename_i j want hg
  obtain ⟨oj,hoj,hk1⟩:=Zpj _ hk;clear hk;split at hk1
  ·exact hk1.elim
  ·rename_i d hdst
   obtain ⟨sg,v,hv,hsg,hk,hrg⟩:=Zce _ _ hd hk1;clear hrg hk1;have hy:=ZtL hoj hdst hv;have hwant:Region.wanted o (yielded ops a.tmps)=(ZzE v == some want):=by
    simp only[Region.wanted,hg,hy]
   have hset:∀ (s:SV),den E s v->Yg E (regs.set d s) a.tmps.toList:=by
    intro s hs;have h1:=ZfS _ _ hd d s v hs;have hvs:a.tmps.toList.set d v=a.tmps.toList:=by
     apply List.ext_getElem?;grind
    rwa [hvs] at h1
   split at hk
   ·rename_i b
    simp only[den] at hsg;subst hsg;split at hk
    ·rename_i hb;subst hb
     rw[if_pos (by rw[hwant];simp[ZzE])];grind
    ·rename_i hb
     rw[if_neg (by rw[hwant];simp[ZzE];exact hb)];exact skip hd hk
   ·rename_i p
    simp only[den] at hsg;subst hsg;by_cases hp:p=want
    ·subst hp
     rw[if_pos (by rw[hwant];simp[ZzE])];have hk:=hk.1 rfl;rw[ZfG] at hk;exact .inl (run (hset _ (by simp only[den])) hk)
    ·have hp':p = !want:=by cases p<;>cases want<;>simp_all
     rw[if_neg (by rw[hwant];simp[ZzE];exact hp)];have hk:=hk.2 hp';rw[ZfG] at hk;exact skip (hset _ (by simp only[den,hp'])) hk
   ·simp only[den] at hsg
    obtain ⟨vs,hvs,hd0⟩:=hsg;have:v=.tuple #[]:=by
     cases vs with
     | nil=>rw[hvs]
     | cons=>simp[Yg] at hd0
    rw[if_neg (by rw[hwant,this];intro h;cases h)];exact skip hd hk
   ·exact hk.elim
theorem ZEk {Δ:Tab} (hΔ:Δ.ok P) {Γ:Gam} (hΓ:Γ.ok P) {B:Base} (ops:Array Oper) {Q:Exit->Act->World->Prop} (o:Oper) {regs:List SV} {H:List Entry} {a:Act} {w:World} (hc:Conc B regs H a w)
  {K:List SV->List Entry->Prop} (hk:ZAD Δ Γ ops.toList o regs H K) {next:Act->World->Prop}
  (hq:∀ regs' H' a' w',K regs' H'->Conc B regs' H' a' w'->(Zlf Γ o.op=true->Grow w w')->next a' w') :
  (if Region.wanted o (yielded ops a.tmps) then o.wp P a w next Q\/(o.asks P a w/\LetsOut Q) else next (a.put o.dst undef) w):=by
 obtain ⟨E,hw,hI,hd,hdef⟩:=hc;subst hw;exact Zx8 hΔ hΓ ops o hI hd hdef hk (λregs' H' a' E' hk hI' hd' hdef' _ hg _ _=>hq regs' H' a' _ hk ⟨E',rfl,hI',hd',hdef'⟩ hg)
theorem ZAF {Δ:Tab} (hΔ:Δ.ok P) {Γ:Gam} (hΓ:Γ.ok P) {B:Base} (ops:Array Oper) {Q:Exit->Act->World->Prop}:∀ (l:List Oper) {regs:List SV} {H:List Entry} {a:Act} {w:World} (_:Conc B regs H a w)
  {K:List SV->List Entry->Prop} (_:ZHG Δ Γ ops.toList l regs H K) (_:∀ regs' H' a' w',K regs' H'->Conc B regs' H' a' w'->Q .normal a' w'),wpList P ops Q l a w
 | [],regs,H,a,w,hc,K,hk,hq=>hq _ _ _ _ hk hc
 | o::r,regs,H,a,w,hc,K,hk,hq=>by
  simp only[ZHG] at hk;unfold wpList;exact ZEk hΔ hΓ ops o hc hk (λregs' H' a' w' hk' hc' _=>ZAF hΔ hΓ ops r hc' hk' hq)
def Znm (B:Base) (E0:Env) (regs:List SV) (H:List Entry) (a:Act) (w:World):Prop :=
 ∃ E,E0.le E/\E.w=w/\Inv B E H/\Yg E regs a.tmps.toList/\a.defers=[]
theorem Znm.ZLz {B:Base} {E0:Env} {regs:List SV} {H:List Entry} {a:Act} {w:World} (h:Znm B E0 regs H a w):Conc B regs H a w:=by
 obtain ⟨E,_,h⟩:=h;exact ⟨E,h⟩
theorem ZAt {Δ:Tab} (hΔ:Δ.ok P) {Γ:Gam} {B:Base} (ops:Array Oper) (o:Oper) (hl:ZfD o.op=true) {regs:List SV} {H:List Entry} {a:Act} {E:Env} (hI:Inv B E H) (hd:Yg E regs a.tmps.toList) (hdef:a.defers=[])
  {K:List SV->List Entry->Prop} (hk:ZAD Δ Γ ops.toList o regs H K) :
  ∃ v,((Region.wanted o (yielded ops a.tmps)=true/\∀ w',(isLoad o.op=true->ZuX E.w w')->(execOp a.eval o).run P w'=.ok (.value v) w')\/(Region.wanted o (yielded ops a.tmps)=false/\v=undef))/\
   ∃ regs' H',K regs' H'/\Znm B E regs' H' (a.put o.dst v) E.w:=by
 have hst:∀ (K:SV->List Entry->Prop) (regs:List SV),ZuP Δ Γ regs H o.op K->opK Δ regs H o.op K:=by
  intro K regs h;unfold ZuP at h;split at h
  ·rename_i c heq
   split at h
   ·rename_i f hcal
    rw[heq] at hl;simp[ZfD,hcal] at hl
   ·exact h
  ·exact h
 have run:∀ {regs:List SV},Yg E regs a.tmps.toList->(ZuP Δ Γ regs H o.op λs H'=>Zy1 regs o.dst s λregs'=>K regs' H')->
   ∃ v,(∀ w',(isLoad o.op=true->ZuX E.w w')->(execOp a.eval o).run P w'=.ok (.value v) w')/\∃ regs' H',K regs' H'/\Znm B E regs' H' (a.put o.dst v) E.w:=by
  intro regs hd hk;obtain ⟨nx,v,E',H',s,h1,h2,h3,h4,h5,h6,h7,_⟩:=ZAE hΔ hI hd (hst _ _ hk);obtain ⟨_,hw8,h8⟩:=h7 hl;obtain ⟨regs',hd',hk,hdf⟩:=Zog (ZK h4 _ _ hd) h5 h6;exact ⟨v,h8,regs',H',hk,E',h4,hw8,h3,hd',by rw[hdf];exact hdef⟩
 have skip:∀ {regs:List SV},Yg E regs a.tmps.toList->(Zy1 regs o.dst (.tup []) λregs'=>K regs' H)->∃ regs' H',K regs' H'/\Znm B E regs' H' (a.put o.dst undef) E.w:=by
  intro regs hd hk;obtain ⟨regs',hd',hk,hdf⟩:=Zog hd (v:=undef) (by simp only[den];exact ⟨[],rfl,trivial⟩) hk;exact ⟨regs',H,hk,E,Env.le.refl E,rfl,hI,hd',by rw[hdf];exact hdef⟩
 unfold ZAD at hk;split at hk
 ·rename_i hg
  obtain ⟨v,h1,h2⟩:=run hd hk;exact ⟨v,.inl ⟨by simp[Region.wanted,hg],h1⟩,h2⟩
 ·rename_i j want hg
  obtain ⟨oj,hoj,hk1⟩:=Zpj _ hk;clear hk;split at hk1
  ·exact hk1.elim
  ·rename_i d hdst
   obtain ⟨sg,v,hv,hsg,hk,hrg⟩:=Zce _ _ hd hk1;clear hrg hk1;have hy:=ZtL hoj hdst hv;have hwant:Region.wanted o (yielded ops a.tmps)=(ZzE v == some want):=by
    simp only[Region.wanted,hg,hy]
   have hset:∀ (s:SV),den E s v->Yg E (regs.set d s) a.tmps.toList:=by
    intro s hs;have h1:=ZfS _ _ hd d s v hs;have hvs:a.tmps.toList.set d v=a.tmps.toList:=by
     apply List.ext_getElem?;grind
    rwa [hvs] at h1
   split at hk
   ·rename_i b
    simp only[den] at hsg;subst hsg;split at hk
    ·rename_i hb;subst hb
     obtain ⟨v,h1,h2⟩:=run hd hk;exact ⟨v,.inl ⟨by rw[hwant];simp[ZzE],h1⟩,h2⟩
    ·rename_i hb
     exact ⟨_,.inr ⟨by rw[hwant];simp[ZzE];exact hb,rfl⟩,skip hd hk⟩
   ·rename_i p
    simp only[den] at hsg;subst hsg;by_cases hp:p=want
    ·subst hp
     have hk:=hk.1 rfl;rw[ZfG] at hk;obtain ⟨v,h1,h2⟩:=run (hset _ (by simp only[den])) hk;exact ⟨v,.inl ⟨by rw[hwant];simp[ZzE],h1⟩,h2⟩
    ·have hp':p = !want:=by cases p<;>cases want<;>simp_all
     have hk:=hk.2 hp';rw[ZfG] at hk;exact ⟨_,.inr ⟨by rw[hwant];simp[ZzE];exact hp,rfl⟩,skip (hset _ (by simp only[den,hp'])) hk⟩
   ·simp only[den] at hsg
    obtain ⟨vs,hvs,hd0⟩:=hsg;have:v=.tuple #[]:=by
     cases vs with
     | nil=>rw[hvs]
     | cons=>simp[Yg] at hd0
    exact ⟨_,.inr ⟨by rw[hwant,this];rfl,rfl⟩,skip hd hk⟩
   ·exact hk.elim
end
section
variable {P:Program}
theorem ZsT {E:Env} {T:TypeId} {ti:TI} (h:ZdQ P T ti) (W:World->Prop) (p:Addr) {cs:List SV} {K:SV->Prop} (hk:VY ti cs K)
  (vs:List Value) (hd:Yg E cs vs) (hvs:∀ w',W w'->∀ j u,vs[j]?=some u->w'.cell? (p.add j)=some u) :
  ∃ v s,(∀ w',W w'->(loadVar T p).run P w'=.ok v w')/\den E s v/\K s:=by
 unfold VY at hk;split at hk
 ·rename_i ha
  rw[Zj3] at hk;split at hk
  ·rename_i hl
   have hd':=ZhB cs vs hd ti.size;have hl':=YJ _ _ hd';have h':=λw' (hst:W w')=>Zgb h w' p (vs.take ti.size) (λj u hu=>hvs w' hst j u (by
    rw[List.getElem?_take] at hu;split at hu
    ·exact hu
    ·cases hu)) (λ_=>by rw[<-hl'];exact hl)
   exact ⟨_,.agg _,λw' hst=>(h' w' hst).1 ha,by simp only[den];exact ⟨_,rfl,hd'⟩,hk⟩
  ·exact hk.elim
 ·rename_i ha
  split at hk
  ·rename_i c r
   match vs,hd,hvs with
   | v::vs,hd,hvs =>
    simp only[Yg] at hd;have h':=λw' (hst:W w')=>Zgb h w' p (v::vs) (λj u hu=>hvs w' hst j u hu) (λe=>absurd e ha);exact ⟨v,c,λw' hst=>(h' w' hst).2 (by simpa using ha) v rfl,hd.1,hk⟩
   | [],hd,_=>simp[Yg] at hd
  ·exact hk.elim
theorem ZyO {B:Base} {E:Env} {H:List Entry} (hI:Inv B E H) {T:TypeId} {ti:TI} (h:ZdQ P T ti) {id off:Nat} {v:Value} (hs:den E (.ptr id off) v) {cells:List SV} (he:H[id]?=some (.box cells)) {K:SV->Prop}
  (hk:Zk3 cells off λcs=>VY ti cs K) :
  ∃ b u r,E.ids[id]?=some (.pointer (some ⟨b,0,none⟩))/\(∀ w':World,w'.heap[b]?=E.w.heap[b]?->(Instr.loadAt T v).run P w'=.ok u w')/\den E r u/\K r:=by
 rw[ZcM] at hk;simp only[den] at hs;obtain ⟨b,h1,rfl⟩:=hs;obtain ⟨b',cs,T',h1',h2,h3⟩:=hI.ent id _ he;have:=h1.symm.trans h1';simp at this;subst this;obtain ⟨u,r,g1,g2,g3⟩:=ZsT h (λw'=>w'.heap[b]?=E.w.heap[b]?) ⟨b,off,none⟩ hk (cs.toList.drop off) (J8 _ _ h3 off) (λw' hw=>Zns (hw.trans h2) off);exact ⟨b,u,r,h1,λw' hw=>by simp only[Instr.loadAt,Instr.sureAddr,pure_bind];exact g1 w' hw,g2,g3⟩
theorem ZqM {B:Base} {E:Env} {H:List Entry} (hI:Inv B E H) {id:Nat} {cells:List SV} (he:H[id]?=some (.box cells)) {b:Nat} (hb:E.ids[id]?=some (.pointer (some ⟨b,0,none⟩)))
  {k:Nat} {ek:Entry} {v:Value} (hk:H[k]?=some ek) (hl:ek.live=true) (hv:E.ids[k]?=some v) (hkid:k≠id):¬ZiY ek v b:=by
 intro h;exact hkid (hI.sep k id ek _ v _ b hk he hl rfl hv hb h (by simp[ZiY,YC]))
end
def ZvO (m:List Nat) (i:Nat):Nat:=(m[i]?).getD i
mutual
def ZKx (m:List Nat):SV->SV
 | .ptr id off=>.ptr (ZvO m id) off
 | .own id=>.own (ZvO m id)
 | .oep id sz i off=>.oep (ZvO m id) sz i off
 | .mown id=>.mown (ZvO m id)
 | .fptr cs=>.fptr (ZAU m cs)
 | .agg cs=>.agg (ZAU m cs)
 | .tup cs=>.tup (ZAU m cs)
 | .fn f cs=>.fn f (ZAU m cs)
 | .bot=>.bot
 | .int k n=>.int k n
 | .bool b=>.bool b
 | .blit b=>.blit b
 | .str s=>.str s
 | .sl t d=>.sl t d
 | .nsl=>.nsl
 | .nilp=>.nilp
 | .gptr g=>.gptr g
 | .nptr t d=>.nptr t d
 | .mp k v d=>.mp k v d
def ZAU (m:List Nat):List SV->List SV
 | []=>[]
 | c::cs=>ZKx m c::ZAU m cs
end
def ZGs (m:List Nat):Entry->Entry
 | .box cells=>.box (ZAU m cells)
 | .fbx cells=>.fbx (ZAU m cells)
 | .hole et e d i cells fp=>.hole et e d i (ZAU m cells) fp
 | .hsp et e d i cells fp=>.hsp et e d i (ZAU m cells) fp
 | e=>e
section
variable {E:Env} {ids':List Value} {m:List Nat}
mutual
theorem ZDT (h:∀ i v,E.ids[i]?=some v->ids'[ZvO m i]?=some v):∀ (s:SV) (v:Value),den E s v->den ⟨E.S,E.w,ids'⟩ (ZKx m s) v
 | .bot,_,_=>trivial
 | .int _ _,_,e=>e
 | .bool _,_,e=>e
 | .blit _,_,e=>e
 | .str _,_,e=>e
 | .sl t d,v,e=>e
 | .nsl,_,e=>e
 | .ptr _ _,_,⟨b,e1,e2⟩=>⟨b,h _ _ e1,e2⟩
 | .own _,_,⟨e1,e2⟩=>⟨h _ _ e1,e2⟩
 | .oep _ _ _ _,_,⟨b,bo,n,c,e1,e2⟩=>⟨b,bo,n,c,h _ _ e1,e2⟩
 | .fptr cs,_,⟨p,vs,e1,e2,e3,e4,e5⟩=>⟨p,vs,e1,e2,e3,e4,ZfR h cs vs e5⟩
 | .agg cs,_,⟨vs,e1,e2⟩=>⟨vs,e1,ZfR h cs vs e2⟩
 | .tup cs,_,⟨vs,e1,e2⟩=>⟨vs,e1,ZfR h cs vs e2⟩
 | .fn _ cs,_,⟨vs,e1,e2⟩=>⟨vs,e1,ZfR h cs vs e2⟩
 | .nilp,_,e=>e
 | .gptr _,_,e=>e
 | .nptr t d,v,e=>e
 | .mown _,_,⟨e1,e2⟩=>⟨h _ _ e1,e2⟩
 | .mp k u d,v,e=>e
theorem ZfR (h:∀ i v,E.ids[i]?=some v->ids'[ZvO m i]?=some v):∀ (cs:List SV) (vs:List Value),Yg E cs vs->Yg ⟨E.S,E.w,ids'⟩ (ZAU m cs) vs
 | [],[],_=>trivial
 | c::cs,v::vs,⟨e1,e2⟩=>⟨ZDT h c v e1,ZfR h cs vs e2⟩
 | [],_::_,e=>e
 | _::_,[],e=>e
end
theorem ZB0 (h:∀ i v,E.ids[i]?=some v->ids'[ZvO m i]?=some v) (i:Nat):∀ e:Entry,Zxy E i e->Zxy ⟨E.S,E.w,ids'⟩ (ZvO m i) (ZGs m e)
 | .gone,_=>trivial
 | .box cells,⟨b,cs,T,e1,e2,e3⟩=>⟨b,cs,T,h _ _ e1,e2,ZfR h _ _ e3⟩
 | .arr et t d,⟨v,xs,e1,r⟩=>⟨v,xs,h _ _ e1,r⟩
 | .frz t d,⟨v,e1,r⟩=>⟨v,h _ _ e1,r⟩
 | .fbx cells,⟨b,cs,T,e1,e2,e3,e4⟩=>⟨b,cs,T,h _ _ e1,e2,e3,ZfR h _ _ e4⟩
 | .darr et e d fp,⟨v,xs,fps,e1,r⟩=>⟨v,xs,fps,h _ _ e1,r⟩
 | .hole et e d i cells fp,⟨v,xs,x1,vx,x2,f1,f2,e1,a1,a2,a3,a4,a5,a6,a7,a8,a9,r⟩=>⟨v,xs,x1,vx,x2,f1,f2,h _ _ e1,a1,a2,a3,a4,a5,a6,a7,a8,ZfR h _ _ a9,r⟩
 | .spl et e d n fp,⟨v,e1,r⟩=>⟨v,h _ _ e1,r⟩
 | .hsp et e d i cells fp,⟨v,xs,x1,vx,x2,f1,e1,a1,a2,a3,a4,a5,a6,a7,a8,a9,r⟩=>⟨v,xs,x1,vx,x2,f1,h _ _ e1,a1,a2,a3,a4,a5,a6,a7,a8,ZfR h _ _ a9,r⟩
 | .mpe k v d,⟨b,es,clk,e1,r⟩=>⟨b,es,clk,h _ _ e1,r⟩
 | .frm k v d,⟨u,e1,r⟩=>⟨u,h _ _ e1,r⟩
end
theorem ZvN (m:List Nat) (e:Entry):(ZGs m e).live=e.live:=by cases e<;>rfl
theorem ZuB (m:List Nat) (e:Entry) (v:Value) (g:Nat):ZiY (ZGs m e) v g<->ZiY e v g:=by cases e<;>exact Iff.rfl
def Zy7:List Nat->Nat->Nat->(Nat->Prop)->Prop
 | [],_,i,K=>K i
 | a::_,0,_,K=>K a
 | _::r,n+1,i,K=>Zy7 r n i K
theorem Zoh:∀ (m:List Nat) (n i:Nat) (K:Nat->Prop),Zy7 m n i K=K ((m[n]?).getD i)
 | [],_,_,_=>rfl
 | _::_,0,_,_=>rfl
 | _::r,n+1,i,K=>Zoh r n i K
mutual
def ZsV (m:List Nat):SV->(SV->Prop)->Prop
 | .ptr id off,K=>Zy7 m id id λj=>K (.ptr j off)
 | .own id,K=>Zy7 m id id λj=>K (.own j)
 | .oep id sz i off,K=>Zy7 m id id λj=>K (.oep j sz i off)
 | .mown id,K=>Zy7 m id id λj=>K (.mown j)
 | .fptr cs,K=>Zqi m cs λcs=>K (.fptr cs)
 | .agg cs,K=>Zqi m cs λcs=>K (.agg cs)
 | .tup cs,K=>Zqi m cs λcs=>K (.tup cs)
 | .fn f cs,K=>Zqi m cs λcs=>K (.fn f cs)
 | .bot,K=>K .bot
 | .int k n,K=>K (.int k n)
 | .bool b,K=>K (.bool b)
 | .blit b,K=>K (.blit b)
 | .str s,K=>K (.str s)
 | .sl t d,K=>K (.sl t d)
 | .nsl,K=>K .nsl
 | .nilp,K=>K .nilp
 | .gptr g,K=>K (.gptr g)
 | .nptr t d,K=>K (.nptr t d)
 | .mp k v d,K=>K (.mp k v d)
def Zqi (m:List Nat):List SV->(List SV->Prop)->Prop
 | [],K=>K []
 | c::cs,K=>ZsV m c λc=>Zqi m cs λcs=>K (c::cs)
end
mutual
theorem ZCB (m:List Nat):∀ (s:SV) (K:SV->Prop),ZsV m s K=K (ZKx m s)
 | .ptr id off,K=>by simp only[ZsV,Zoh];rfl
 | .own id,K=>by simp only[ZsV,Zoh];rfl
 | .oep id sz i off,K=>by simp only[ZsV,Zoh];rfl
 | .mown id,K=>by simp only[ZsV,Zoh];rfl
 | .fptr cs,K=>by simp only[ZsV,ZjS m cs];rfl
 | .agg cs,K=>by simp only[ZsV,ZjS m cs];rfl
 | .tup cs,K=>by simp only[ZsV,ZjS m cs];rfl
 | .fn f cs,K=>by simp only[ZsV,ZjS m cs];rfl
 | .bot,K=>rfl
 | .int k n,K=>rfl
 | .bool b,K=>rfl
 | .blit b,K=>rfl
 | .str s,K=>rfl
 | .sl t d,K=>rfl
 | .nsl,K=>rfl
 | .nilp,K=>rfl
 | .gptr g,K=>rfl
 | .nptr t d,K=>rfl
 | .mp k v d,K=>rfl
theorem ZjS (m:List Nat):∀ (l:List SV) (K:List SV->Prop),Zqi m l K=K (ZAU m l)
 | [],K=>rfl
 | c::cs,K=>by simp only[Zqi,ZCB m c,ZjS m cs];rfl
end
def ZEp (m:List Nat):Entry->(Entry->Prop)->Prop
 | .box cells,K=>Zqi m cells λcs=>K (.box cs)
 | .fbx cells,K=>Zqi m cells λcs=>K (.fbx cs)
 | .hole et e d i cells fp,K=>Zqi m cells λcs=>K (.hole et e d i cs fp)
 | .hsp et e d i cells fp,K=>Zqi m cells λcs=>K (.hsp et e d i cs fp)
 | .gone,K=>K .gone
 | .arr et t d,K=>K (.arr et t d)
 | .frz t d,K=>K (.frz t d)
 | .darr et e d fp,K=>K (.darr et e d fp)
 | .spl et e d n fp,K=>K (.spl et e d n fp)
 | .mpe k v d,K=>K (.mpe k v d)
 | .frm k v d,K=>K (.frm k v d)
theorem ZCA (m:List Nat) (e:Entry) (K:Entry->Prop):ZEp m e K=K (ZGs m e):=by
 cases e<;>first | rfl | (simp only[ZEp,ZjS];rfl)
def ZCw (H:List Entry) (m:List Nat):List Nat->(List Entry->Prop)->Prop
 | [],K=>K []
 | j::r,K=>Zid H j λe=>ZEp m e λe=>ZCw H m r λl=>K (e::l)
theorem Zyh (H:List Entry) (m:List Nat):∀ (o:List Nat) {K:List Entry->Prop},ZCw H m o K->∃ l,K l/\l.length=o.length/\∀ (i:Nat) (e':Entry),l[i]?=some e'->∃ j e,o[i]?=some j/\H[j]?=some e/\e'=ZGs m e
 | [],K,h=>⟨[],h,rfl,λi e' hi=>by cases hi⟩
 | j::r,K,h=>by
  unfold ZCw at h;obtain ⟨e,he,h⟩:=Y5 H h;rw[ZCA] at h;obtain ⟨l,h1,h2,h3⟩:=Zyh H m r h;grind
def ZHE:List Nat->Nat->Nat->Bool
 | [],_,_=>false
 | a::_,0,x=>Nat.beq a x
 | _::r,n+1,x=>ZHE r n x
theorem ZwR:∀ (l:List Nat) {n x:Nat},ZHE l n x=true->l[n]?=some x
 | [],_,_,h=>by cases h
 | a::_,0,x,h=>by rw[List.getElem?_cons_zero,Nat.eq_of_beq_eq_true h]
 | _::r,n+1,x,h=>by rw[List.getElem?_cons_succ];exact ZwR r h
def ZGd (m:List Nat):List Nat->Nat->Bool
 | [],_=>true
 | j::r,k=>ZHE m j k&&ZGd m r (k+1)
theorem ZwJ (m:List Nat):∀ (o:List Nat) (k:Nat),ZGd m o k=true->∀ (i j:Nat),o[i]?=some j->m[j]?=some (k+i)
 | [],_,_,i,j,h=>by cases h
 | a::r,k,h,i,j,hi=>by
  unfold ZGd at h;rw[Bool.and_eq_true] at h;cases i with
  | zero =>
   rw[List.getElem?_cons_zero] at hi;injection hi with hi
   subst hi;exact ZwR m h.1
  | succ i =>
   rw[List.getElem?_cons_succ] at hi;have:=ZwJ m r (k+1) h.2 i j hi;grind
def ZHw (m:List Nat):Nat->Bool
 | 0=>true
 | n+1=>ZHE m n n&&ZHw m n
theorem Zz6 (m:List Nat):∀ (n:Nat),ZHw m n=true->∀ i,i<n->m[i]?=some i
 | 0,_,i,hi=>by omega
 | n+1,h,i,hi=>by
  unfold ZHw at h;rw[Bool.and_eq_true] at h;by_cases e:i=n
  ·subst e;exact ZwR m h.1
  ·exact Zz6 m n h.2 i (by omega)
def ZCH {α β:Type}:List α->List β->Bool
 | [],[]=>true
 | _::r,_::s=>ZCH r s
 | _,_=>false
theorem ZuF {α β:Type}:∀ (l:List α) (r:List β),ZCH l r=true->l.length=r.length
 | [],[],_=>rfl
 | _::r,_::s,h=>by simp[ZuF r s h]
 | [],_::_,h=>by cases h
 | _::_,[],h=>by cases h
def ZHy (i:Nat):List Nat->Bool
 | []=>false
 | j::r=>Nat.beq j i||ZHy i r
def ZGf:List Entry->Nat->Bool
 | [],_=>false
 | .box _::_,0=>true
 | _::_,0=>false
 | _::r,n+1=>ZGf r n
def ZDg (n0:Nat) (H:List Entry):List SV->List Nat->(List Nat->Prop)->Prop
 | [],acc,K=>K acc
 | .ptr id _::r,acc,K=>match Nat.ble n0 id&&ZGf H id&&!ZHy id acc with
  | true=>ZDg n0 H r (id::acc) K
  | false=>ZDg n0 H r acc K
 | .own id::r,acc,K=>match Nat.ble n0 id&&!ZHy id acc with
  | true=>ZDg n0 H r (id::acc) K
  | false=>ZDg n0 H r acc K
 | _::r,acc,K=>ZDg n0 H r acc K
theorem ZwS (n0:Nat) (H:List Entry) {K:List Nat->Prop}:∀ (l:List SV) (acc:List Nat),ZDg n0 H l acc K->∃ c,K c
 | [],acc,h=>⟨acc,h⟩
 | s::r,acc,h=>by
  cases s<;>unfold ZDg at h<;>first
   | exact ZwS n0 H r _ h
   | (split at h<;>exact ZwS n0 H r _ h)
def ZAY (c:List Nat):List Entry->Nat->(List Nat->Prop)->Prop
 | [],_,K=>K c
 | _::r,i,K=>match ZHy i c with
  | true=>ZAY c r (i+1) K
  | false=>ZAY c r (i+1) λl=>K (i::l)
theorem ZuE (c:List Nat):∀ (H:List Entry) (i:Nat) {K:List Nat->Prop},ZAY c H i K->∃ o,K o
 | [],_,_,h=>⟨c,h⟩
 | _::r,i,K,h=>by
  unfold ZAY at h;split at h
  ·exact ZuE c r (i+1) h
  ·obtain ⟨o,h⟩:=ZuE c r (i+1) h
   exact ⟨_,h⟩
def ZB3:List Nat->Nat->Nat->(Nat->Prop)->Prop
 | [],_,k,K=>K k
 | a::r,j,k,K=>match Nat.beq a j with
  | true=>K k
  | false=>ZB3 r j (k+1) K
theorem ZxF:∀ (o:List Nat) (j k:Nat) {K:Nat->Prop},ZB3 o j k K->∃ p,K p
 | [],_,k,_,h=>⟨k,h⟩
 | a::r,j,k,K,h=>by
  unfold ZB3 at h;split at h
  ·exact ⟨k,h⟩
  ·exact ZxF r j (k+1) h
def ZHI (o:List Nat):List Entry->Nat->(List Nat->Prop)->Prop
 | [],_,K=>K []
 | _::r,j,K=>ZB3 o j 0 λp=>ZHI o r (j+1) λl=>K (p::l)
theorem ZAN (o:List Nat):∀ (H:List Entry) (j:Nat) {K:List Nat->Prop},ZHI o H j K->∃ m,K m
 | [],_,_,h=>⟨[],h⟩
 | _::r,j,K,h=>by
  unfold ZHI at h;obtain ⟨p,h⟩:=ZxF o j 0 h;obtain ⟨m,h⟩:=ZAN o r (j+1) h;exact ⟨_,h⟩
def idB:List Nat->Nat->Bool
 | [],_=>true
 | j::r,k=>Nat.beq j k&&idB r (k+1)
def canonK (n0:Nat) (regs:List SV) (H:List Entry) (K:List SV->List Entry->Prop):Prop :=
 ZDg n0 H regs [] λc=>match c with
  | []=>K regs H
  | c=>ZAY c H 0 λo=>match idB o 0 with
  | true=>K regs H
  | false=>ZHI o H 0 λm=>match (ZCH o H&&ZCH m H&&ZGd m o 0&&ZGd o m 0&&ZHw m n0) with
   | true=>Zqi m regs λregs'=>ZCw H m o λH'=>K regs' H'
   | false=>False
theorem ZzH {B:Base} {n0:Nat} {regs:List SV} {H:List Entry} {a:Act} {w:World} {K:List SV->List Entry->Prop} (hpin:∀ (i:Nat) (v:Value),B.pin[i]?=some v->i<n0) (h:canonK n0 regs H K) (hc:Conc B regs H a w) :
  ∃ regs' H',K regs' H'/\Conc B regs' H' a w:=by
 unfold canonK at h;obtain ⟨c,h⟩:=ZwS n0 H _ _ h;split at h
 ·grind
 ·obtain ⟨o,h⟩:=ZuE _ H 0 h
  split at h
  ·grind
  obtain ⟨m,h⟩:=ZAN o H 0 h;split at h
  ·rename_i hb
   simp only[Bool.and_eq_true] at hb;obtain ⟨⟨⟨⟨b1,b2⟩,b3⟩,b4⟩,b5⟩:=hb;have c1:=ZuF _ _ b1;have c2:=ZuF _ _ b2;have c3:=ZwJ m o 0 b3;have c4:=ZwJ o m 0 b4;have c5:=Zz6 m n0 b5;rw[ZjS] at h;obtain ⟨H',h,g1,g2⟩:=Zyh H m o h;refine ⟨_,H',h,?_⟩;obtain ⟨E,hw,hI,hd,hdef⟩:=hc
   let ids':=o.map λj=>(E.ids[j]?).getD undef
   have hm:∀ j,j<H.length->∃ k,m[j]?=some k/\o[k]?=some j/\ZvO m j=k:=λj hj=>by
    have e:m[j]?=some (m[j]'(by omega)):=List.getElem?_eq_getElem _;have:=c4 j _ e;rw[Nat.zero_add] at this;exact ⟨_,e,this,by unfold ZvO;rw[e];rfl⟩
   have hids:∀ i v,E.ids[i]?=some v->ids'[ZvO m i]?=some v:=λi v hi=>by
    have hl:=(List.getElem?_eq_some_iff.1 hi).1;rw[hI.len] at hl;grind
   have hback:∀ i v,ids'[i]?=some v->∃ j,o[i]?=some j/\E.ids[j]?=some v/\ZvO m j=i:=λi v hi=>by
    have hi':(o.map λj=>(E.ids[j]?).getD undef)[i]?=some v:=hi;rw[List.getElem?_map] at hi';cases e:o[i]? with
    | none=>grind
    | some j =>
     rw[e] at hi';have e':=c3 i j e;rw[Nat.zero_add] at e';have hj:j<H.length:=by grind
     have hjv:E.ids[j]?=some (E.ids[j]'(by rw[hI.len];exact hj)):=List.getElem?_eq_getElem _;refine ⟨j,rfl,?_,by unfold ZvO;rw[e'];rfl⟩;grind
   refine ⟨⟨E.S,E.w,ids'⟩,hw,⟨hI.keeps,hI.Slt,hI.Sold,hI.glob,?_,λi v hi=>?_,λi e' hi=>?_,λi e' v g hi hl hv hb=>?_,λi j ei ej vi vj g hi hj li lj vi' vj' bi bj=>?_⟩,ZfR hids _ _ hd,hdef⟩
   ·grind
   ·have:=hids i v (hI.pin i v hi)
    rw[show ZvO m i=i by unfold ZvO;grind] at this;exact this
   ·obtain ⟨j,e,o1,o2,rfl⟩:=g2 i e' hi
    have:=c3 i j o1;rw[Nat.zero_add] at this;have er:=ZB0 hids j e (hI.ent j e o2);rw[show ZvO m j=i by unfold ZvO;rw[this];rfl] at er;exact er
   ·obtain ⟨j,e,o1,o2,rfl⟩:=g2 i e' hi
    obtain ⟨j',p1,p2,_⟩:=hback i v hv;rw[o1] at p1;injection p1 with p1
    subst p1;rw[ZvN] at hl;exact hI.free j e v g o2 hl p2 ((ZuB m e v g).1 hb)
   ·obtain ⟨j1,e1,o1,o2,rfl⟩:=g2 i ei hi
    obtain ⟨j2,e2,q1,q2,rfl⟩:=g2 j ej hj;obtain ⟨k1,p1,p2,p3⟩:=hback i vi vi';obtain ⟨k2,r1,r2,r3⟩:=hback j vj vj';rw[o1] at p1;injection p1 with p1
    subst p1;rw[q1] at r1;injection r1 with r1
    subst r1;rw[ZvN] at li lj;have:=hI.sep j1 j2 e1 e2 vi vj g o2 q2 li lj p2 r2 ((ZuB m e1 vi g).1 bi) ((ZuB m e2 vj g).1 bj);grind
  ·exact h.elim
inductive ZaL
 | done
 | op (i:Nat) (p:ZaL)
 | ld (i:Nat) (p:ZaL)
 | alt (i:Nat) (p q:ZaL)
 | can (p:ZaL)
def ZaL.o:List Nat->ZaL->ZaL
 | [],p=>p
 | i::r,p=>.op i (ZaL.o r p)
def ZaL.u:Nat->Nat->ZaL->ZaL
 | _,0,p=>p
 | a,n+1,p=>.op a (ZaL.u (a+1) n p)
def ZaL.l:List Nat->ZaL->ZaL
 | [],p=>p
 | i::r,p=>.ld i (ZaL.l r p)
def ZaL.a:List Nat->ZaL->ZaL
 | [],p=>p
 | i::r,p=>.alt i (ZaL.a r p) .done
def ZaL.d (i:Nat):ZaL:=.alt i .done .done
def ZaL.core:ZaL->ZaL
 | .can p=>p
 | p=>p
section
variable {P:Program} {ops:Array Oper}
inductive Behind (ops:Array Oper) (i:Nat):Nat->Prop
 | edge {j:Nat} {oj:Oper} {e:Edge}:ops[j]?=some oj->e∈oj.after->Region.binds .any e=true->e.on=i->Behind ops i j
 | step {j:Nat} {oj:Oper} {e:Edge}:ops[j]?=some oj->e∈oj.after->Region.binds .any e=true->Behind ops i e.on->Behind ops i j
def Zx1 (acc:List Nat) (l:List Edge) (m:Nat):Nat :=
 match l with
 | []=>m
 | e::r=>Zx1 acc r (if Region.binds .any e then (m ||| 2 ^ e.on) ||| acc.getD e.on 0 else m)
def Zm7:List Oper->List Nat->List Nat
 | [],acc=>acc
 | o::r,acc=>Zm7 r (acc++[Zx1 acc o.after.toList 0])
def ZeF (M:List Nat) (i j:Nat):Bool:=(M.getD j 0).testBit i
theorem ZvC {ops:Array Oper} {acc:List Nat} (hacc:∀ (j m:Nat),acc[j]?=some m->∀ i,m.testBit i=true->Behind ops i j) {j:Nat} {oj:Oper} (hj:ops[j]?=some oj) :
  ∀ (l:List Edge) (m:Nat),(∀ e∈l,e∈oj.after)->(∀ i,m.testBit i=true->Behind ops i j)->∀ i,(Zx1 acc l m).testBit i=true->Behind ops i j
 | [],m,_,hm,i,h=>hm i h
 | e::r,m,hl,hm,i,h=>by
  unfold Zx1 at h;refine ZvC hacc hj r _ (λe he=>hl e (by simp[he])) ?_ i h;intro k hk;split at hk
  ·rename_i hb
   rw[Nat.testBit_or,Nat.testBit_or,Nat.testBit_two_pow] at hk;simp only[Bool.or_eq_true,decide_eq_true_eq] at hk;rcases hk with (hk | hk) | hk
   ·exact hm k hk
   ·exact .edge hj (hl e (by simp)) hb hk
   ·cases ha:acc[e.on]? with
    | none=>simp[ha] at hk
    | some m'=>exact .step hj (hl e (by simp)) hb (hacc _ _ ha k (by simpa[ha] using hk))
  ·exact hm k hk
theorem Ztu {ops:Array Oper}:∀ (l:List Oper) (acc:List Nat),(∀ (k:Nat),l[k]?=ops[acc.length+k]?)->(∀ (j m:Nat),acc[j]?=some m->∀ i,m.testBit i=true->Behind ops i j)->
  ∀ (j m:Nat),(Zm7 l acc)[j]?=some m->∀ i,m.testBit i=true->Behind ops i j
 | [],acc,_,h=>h
 | o::r,acc,hl,h=>by
  unfold Zm7;refine Ztu r _ (λk=>?_) ?_
  ·have:=hl (k+1)
   grind
  ·intro j m hj i hi
   have hlt:=(List.getElem?_eq_some_iff.1 hj).1;rw[List.length_append,List.length_singleton] at hlt;by_cases hja:j<acc.length
   ·grind
   ·have:j=acc.length:=by omega
    subst this;rw[List.getElem?_append_right (by omega)] at hj;simp at hj;subst hj;have h0:ops[acc.length]?=some o:=by simpa using (hl 0).symm
    exact ZvC h h0 _ 0 (λe he=>by simpa using he) (λi hi=>by simp at hi) i hi
def Down (ops:Array Oper) (listed:Array Bool):Prop:=∀ (j:Nat) (oj:Oper) (e:Edge),ops[j]?=some oj->listed.getD j false=true->e∈oj.after->Region.binds .any e=true->listed.getD e.on false=true
theorem Down.set {listed:Array Bool} (h:Down ops listed) {i:Nat} (hr:i∈Region.ready .any ops listed):Down ops (listed.setIfInBounds i true):=by
 intro j oj e hj hl he hb;by_cases hij:i=j
 ·subst hij
  obtain ⟨_,o,ho,hall⟩:=mem_ready.1 hr;rw[hj] at ho;injection ho with ho;subst ho
  exact getD_set_true (hall e he hb)
 ·rw[getD_set_ne false hij] at hl
  exact getD_set_true (h j oj e hj hl he hb)
theorem ZpB {listed:Array Bool} (hd:Down ops listed) {i:Nat} (hi:listed.getD i false=false):∀ (j:Nat),Behind ops i j->j ∉ Region.ready .any ops listed/\listed.getD j false=false:=by
 intro j h;have fin:∀ {j:Nat} {oj:Oper} {e:Edge},ops[j]?=some oj->e∈oj.after->Region.binds .any e=true->listed.getD e.on false=false->j ∉ Region.ready .any ops listed/\listed.getD j false=false:=by
  intro j oj e hj he hb hun;constructor
  ·intro hr
   obtain ⟨_,o,ho,hall⟩:=mem_ready.1 hr;grind
  ·cases hl:listed.getD j false with
   | false=>rfl
   | true =>
    have:=hd j oj e hj hl he hb;grind
 induction h with
 | edge hj he hb hon=>grind
 | step hj he hb _ ih=>grind
def Lit (P:Program) (ops:Array Oper) (R:World->World->Prop) (o:Oper) (v:Value) (a:Act) (w:World):Prop :=
 (Region.wanted o (yielded ops a.tmps)=true/\∀ w',R w w'->(execOp a.eval o).run P w'=.ok (.value v) w')\/(Region.wanted o (yielded ops a.tmps)=false/\v=undef)
structure Way (R:World->World->Prop):Prop where
 refl:∀ w,R w w
 trans:∀ a b c,R a b->R b c->R a c
def ZpN (P:Program) (ops:Array Oper) (G:Nat->World->World->Prop) (Q:Exit->Act->World->Prop):Nat->Array Bool->Act->World->Prop
 | 0,listed,a,w=>Region.ready .any ops listed=[]/\Q .normal a w
 | fuel+1,listed,a,w=>(Region.ready .any ops listed=[]->Q .normal a w)/\
  ∀ i∈Region.ready .any ops listed,wpOp P ops Q i (λa' w'=>G i w w'/\ZpN P ops G Q fuel (listed.setIfInBounds i true) a' w') a w
theorem ZtK {G:Nat->World->World->Prop} {Q:Exit->Act->World->Prop}:∀ (fuel:Nat) (listed:Array Bool) (a:Act) (w:World),ZpN P ops G Q fuel listed a w->wpAny P .any ops Q fuel listed a w
 | 0,_,_,_,h=>h
 | fuel+1,_,_,_,h=>⟨h.1,λi hi=>wpOp_mono (λa' w' hh=>ZtK fuel _ a' w' hh.2) (h.2 i hi)⟩
theorem Lit.wpOp {R:World->World->Prop} (hR:Way R) {Q:Exit->Act->World->Prop} {i:Nat} {o:Oper} {v:Value} {a:Act} {w:World} (hi:ops[i]?=some o) (hy:Lit P ops R o v a w)
  {K:Act->World->Prop} (h:K (a.put o.dst v) w):Go.wpOp P ops Q i K a w:=by
 unfold Go.wpOp;simp only[hi];rcases hy with ⟨hw,hv⟩ | ⟨hw,rfl⟩
 ·simp only[hw,if_true,Oper.wp,hv w (hR.refl w),Oper.upon];exact .inl h
 grind
theorem ZBs {R:World->World->Prop} (hR:Way R) {Q:Exit->Act->World->Prop} {j:Nat} {oi oj:Oper} {v:Value} (hj:ops[j]?=some oj) (hap:oi.apart ops oj=true)
  (hsi:∀ cs b,oi.op≠.select cs b) (hsj:∀ cs b,oj.op≠.select cs b) (hQ:∀ c a w,¬Q (.panic c) a w) {G1:World->World->Prop} (hgr:∀ w w',G1 w w'->R w w')
  {K:Act->World->Prop} {a:Act} {w:World} (hy:Lit P ops R oi v a w) (h:wpOp P ops Q j (λa' w'=>G1 w w'/\K a' w') (a.put oi.dst v) w) :
  wpOp P ops Q j (λa' w'=>G1 w w'/\Lit P ops R oi v a' w'/\K (a'.put oi.dst v) w') a w:=by
 obtain ⟨h1,h2,h3⟩:=Oper.apart_spec hap;have keep:∀ (a':Act) (w':World),execOp a'.eval oi=execOp a.eval oi->Region.wanted oi (yielded ops a'.tmps)=Region.wanted oi (yielded ops a.tmps)->R w w'->Lit P ops R oi v a' w':=by
  intro a' w' he hw hr;unfold Lit at *;rw[he,hw];rcases hy with ⟨a1,a2⟩ | a1
  ·exact .inl ⟨a1,λw'' h''=>a2 w'' (hR.trans _ _ _ hr h'')⟩
  ·exact .inr a1
 have keepP:∀ (u:Value) (w':World),R w w'->Lit P ops R oi v (a.put oj.dst u) w':=λu w' hr=>keep _ _ (execOp_put oi hsi a oj.dst u h3) (wanted_put oi a oj.dst u h3) hr;have keepD:∀ (d:Deferred) (u:Value) (w':World),R w w'->Lit P ops R oi v (({a with defers:=d::a.defers}:Act).put oj.dst u) w':=λd u w' hr =>
  keep _ _ ((execOp_put oi hsi ({a with defers:=d::a.defers}:Act) oj.dst u h3).trans rfl) ((wanted_put oi ({a with defers:=d::a.defers}:Act) oj.dst u h3).trans rfl) hr
 unfold wpOp at *;simp only[hj] at *;rw[wanted_put oj a oi.dst v h1] at h;split
 ·rename_i hw
  simp only[hw,if_true] at h;rcases h with h | ⟨hasks,hlets⟩
  case inr=>exact .inr ⟨by unfold Oper.asks at *;rw[execOp_put oj hsj a oi.dst v h1] at hasks;exact hasks,hlets⟩
  refine .inl ?_;unfold Oper.wp at *;rw[execOp_put oj hsj a oi.dst v h1] at h;generalize (execOp a.eval oj).run P w=r at *;cases r with
  | ok n w' =>
   cases n<;>simp only[Oper.upon] at h ⊢
   case value u=>exact ⟨h.1,keepP u w' (hgr _ _ h.1),by rw[<-Act.put_comm a v u h2];exact h.2⟩
   case skip=>exact ⟨h.1,keepP _ w' (hgr _ _ h.1),by rw[<-Act.put_comm a v undef h2];exact h.2⟩
   case defer d =>
    refine ⟨h.1,keepD d _ w' (hgr _ _ h.1),?_⟩;rw[<-Act.put_comm _ v undef h2,<-Act.put_defers];exact h.2
   case enter f args =>
    refine Calls.mono h λe w'' he=>?_;cases e with
    | returned u=>exact ⟨he.1,keepP u w'' (hgr _ _ he.1),by rw[<-Act.put_comm a v u h2];exact he.2⟩
    | panicked c=>grind
    | outgrown=>exact he
   case row row args=>exact Rows.mono h λu w'' he=>⟨he.1,keepP u w'' (hgr _ _ he.1),by rw[<-Act.put_comm a v u h2];exact he.2⟩
  | halt x w' =>
   cases x<;>simp only[Oper.upon] at h ⊢
   grind
 ·rename_i hw
  simp only[hw] at h;exact ⟨h.1,keepP _ w (hR.refl w),by rw[<-Act.put_comm a v undef h2];exact h.2⟩
theorem ZpO {R:World->World->Prop} (hR:Way R) {Q:Exit->Act->World->Prop} {G:Nat->World->World->Prop} {i:Nat} {oi:Oper} {v:Value} (hi:ops[i]?=some oi) (hGi:∀ w,G i w w)
  (hsel:∀ (j:Nat) (o:Oper) cs b,ops[j]?=some o->o.op≠.select cs b) (hQ:∀ c a w,¬Q (.panic c) a w)
  (hfree:∀ j oj,ops[j]?=some oj->j≠i->¬Behind ops i j->¬Behind ops j i->oi.apart ops oj=true/\∀ w w',G j w w'->R w w') :
  ∀ (fuel:Nat) (listed:Array Bool) (a:Act) (w:World),Down ops listed->i∈Region.ready .any ops listed->Lit P ops R oi v a w->
   ZpN P ops G Q fuel (listed.setIfInBounds i true) (a.put oi.dst v) w->ZpN P ops G Q (fuel+1) listed a w:=by
 have hun:∀ listed:Array Bool,i∈Region.ready .any ops listed->listed.getD i false=false:=by
  intro listed hr;have h0:=(mem_ready.1 hr).1;grind
 intro fuel;induction fuel with
 | zero =>
  intro listed a w hd hr hy H;refine ⟨λh=>(by grind),λj hj=>?_⟩;by_cases hji:j=i
  ·subst hji;exact hy.wpOp hR hi ⟨hGi w,H⟩
  ·have:=ready_mono hj hji
   rw[H.1] at this;cases this
 | succ fuel ih =>
  intro listed a w hd hr hy H;refine ⟨λh=>(by grind),λj hj=>?_⟩;by_cases hji:j=i
  ·subst hji;exact hy.wpOp hR hi ⟨hGi w,H⟩
  ·have h1:=H.2 j (ready_mono hj hji)
   obtain ⟨hjun,oj,hoj,hall⟩:=mem_ready.1 hj;have hnb:¬Behind ops i j:=λhb=>(ZpB hd (hun _ hr) j hb).1 hj;have hnb2:¬Behind ops j i:=by
    intro hb;refine (ZpB hd ?_ i hb).1 hr;grind
   obtain ⟨hap,hgr⟩:=hfree j oj hoj hji hnb hnb2;have h2:=ZBs hR hoj hap (λcs b=>hsel i oi cs b hi) (λcs b=>hsel j oj cs b hoj) hQ hgr hy h1;refine wpOp_mono (λa' w' h3=>⟨h3.1,ih (listed.setIfInBounds j true) a' w' (hd.set hj) (ready_mono hr (Ne.symm hji)) h3.2.1 ?_⟩) h2;rw[Array.setIfInBounds_comm _ _ hji];exact h3.2.2
def Zod (ops:Array Oper):Bool:=ops.all λo=>match o.op with
 | .select _ _=>false
 | _=>true
def ZF9 (Γ:Gam) (ops:Array Oper) (M:List Nat) (i:Nat):Bool :=
 match ops[i]? with
 | none=>false
 | some oi=>ZfD oi.op&&(List.range ops.size).all λj=>j == i||ZeF M i j||ZeF M j i||match ops[j]? with
  | none=>true
  | some oj=>oi.apart ops oj&&(!isLoad oi.op||Zlf Γ oj.op)
def ZKl:Op->Bool
 | .indexAddr _ _ _=>true
 | _=>false
def ZFN (ops:List Oper):Bool:=ops.all λo=>match o.op with
 | .store _ (.tmp t) _=>ops.any λo'=>(match o'.dst with
  | some d=>Nat.beq d t
  | none=>false)&&ZKl o'.op
 | .store _ _ _=>false
 | _=>true
def ZDz (st:Bool) (op:Op):Option Operand:=match op with
 | .store _ x _=>match st with
  | true=>some x
  | false=>none
 | op=>appArg op
theorem Zxk {st:Bool} {op:Op} {x:Operand} (h:ZDz st op=some x):appArg op=some x:=by
 unfold ZDz at h;split at h
 ·split at h
  ·exact h
  ·cases h
 ·exact h
def ZHR (Γ:Gam) (st:Bool) (op:Op):Bool:=(ZDz st op).isSome||(ZlH Γ op).isSome
theorem ZG7 {Γ:Gam} {op:Op} {x:Operand} (h:appArg op=some x):ZlH Γ op=none:=by
 unfold appArg at h;split at h
 ·rfl
 ·rfl
 ·cases h
def ZAM (o:Oper):Bool:=match o.op,o.guard with
 | .load _ _,none=>true
 | _,_=>false
def ZGa (Γ:Gam) (ops:Array Oper) (M:List Nat) (i:Nat):Bool :=
 match ops[i]? with
 | none=>false
 | some oi=>ZAM oi&&(List.range ops.size).all λj=>j == i||ZeF M i j||ZeF M j i||match ops[j]? with
  | none=>true
  | some oj=>oi.apart ops oj&&(Zlf Γ oj.op||ZHR Γ (ZFN ops.toList) oj.op)
def Zb2 (Γ:Gam) (ops:Array Oper) (M:List Nat):ZaL->Nat->Array Bool->Option (List Nat)->Bool
 | .done,_,listed,none=>(Region.ready .any ops listed).isEmpty
 | .done,_,_,some rem=>rem.isEmpty
 | .op i p,n+1,listed,none=>(Region.ready .any ops listed).contains i&&ZF9 Γ ops M i&&Zb2 Γ ops M p n (listed.setIfInBounds i true) none
 | .ld i p,n+1,listed,none=>(Region.ready .any ops listed).contains i&&ZGa Γ ops M i&&Zb2 Γ ops M p n (listed.setIfInBounds i true) none
 | .alt i p q,n+1,listed,none=>(Region.ready .any ops listed).contains i&&Zb2 Γ ops M p n (listed.setIfInBounds i true) none&&Zb2 Γ ops M q (n+1) listed (some ((Region.ready .any ops listed).filter (· != i)))
 | .alt i p q,n+1,listed,some rem=>Zb2 Γ ops M p n (listed.setIfInBounds i true) none&&Zb2 Γ ops M q (n+1) listed (some (rem.filter (· != i)))
 | _,_,_,_=>false
def ZeE (i:Nat):List Nat->Bool
 | []=>false
 | j::r=>Nat.beq j i||ZeE i r
def ZkY:List Nat->List Entry->Prop->Prop
 | [],_,K=>K
 | i::r,H,K=>Zid H i λe=>match e with
  | .box _=>ZkY r H K
  | _=>False
def wrK (V:List Nat) (regs:List SV) (H:List Entry):List Operand->Prop->Prop
 | [],K=>ZkY V H K
 | x::r,K=>JO regs x λs=>match s with
  | .ptr i _=>ZeE i V=false/\Zid H i λe=>match e with
   | .box _=>wrK V regs H r K
   | _=>False
  | _=>False
def ZFF (Γ:Gam) (st:Bool) (V:List Nat) (regs:List SV) (H:List Entry) (op:Op) (K:Prop):Prop:=match V with
 | []=>K
 | _=>match ZDz st op with
  | none=>match ZlH Γ op with
   | none=>K
   | some xs=>wrK V regs H xs K
  | some x=>JO regs x λs=>match s with
   | .nsl=>K
   | .own i=>ZeE i V=false/\Zid H i λe=>match e with
    | .arr _ _ _=>ZkY V H K
    | .darr _ _ _ _=>ZkY V H K
    | _=>False
   | .oep i _ _ _=>ZeE i V=false/\Zid H i λe=>match e with
    | .arr _ _ _=>ZkY V H K
    | .darr _ _ _ _=>ZkY V H K
    | .hole _ _ _ _ _ _=>ZkY V H K
    | _=>False
   | _=>False
def ldK (Δ:Tab) (V:List Nat) (o:Oper) (regs:List SV) (H:List Entry) (K:List SV->Prop):Prop:=match o.op,o.guard with
 | .load T x,none=>ZdC Δ T λti=>JO regs x λs=>match s with
  | .ptr id off=>ZeE id V=true/\Zid H id λe=>match e with
   | .box cells=>Zk3 cells off λcs=>VY ti cs λr=>Zy1 regs o.dst r K
   | _=>False
  | _=>False
 | _,_=>False
def ZFS:Prop:=True
def Zko (Δ:Tab) (Γ:Gam) (ops:List Oper) (V:List Nat):ZaL->Bool->List SV->List Entry->(List SV->List Entry->Prop)->Prop
 | .done,false,regs,H,K=>ZFS/\K regs H
 | .done,true,_,_,_=>True
 | .op i p,_,regs,H,K=>ZAB ops i λo=>ZAD Δ Γ ops o regs H λregs' H'=>Zko Δ Γ ops V p false regs' H' K
 | .ld i p,_,regs,H,K=>ZAB ops i λo=>ldK Δ V o regs H λregs'=>Zko Δ Γ ops V p false regs' H K
 | .can _,_,_,_,_=>False
 | .alt i p .done,_,regs,H,K=>ZAB ops i λo=>ZFF Γ (ZFN ops) V regs H o.op (ZAD Δ Γ ops o regs H λregs' H'=>Zko Δ Γ ops V p false regs' H' K)
 | .alt i p q,_,regs,H,K=>(ZAB ops i λo=>ZFF Γ (ZFN ops) V regs H o.op (ZAD Δ Γ ops o regs H λregs' H'=>Zko Δ Γ ops V p false regs' H' K))/\Zko Δ Γ ops V q true regs H K
def ZHx (Γ:Gam) (ops:Array Oper) (j:Nat):Bool:=match ops[j]? with
 | some o=>Zlf Γ o.op
 | none=>true
def ZDy (Γ:Gam) (ops:Array Oper) (j:Nat):Bool:=match ops[j]? with
 | some o=>ZHR Γ (ZFN ops.toList) o.op
 | none=>false
def VOk (V:List Nat) (Bk:Nat->Option Nat) (E:Env):Prop:=∀ id,ZeE id V=true->∃ b,Bk id=some b/\E.ids[id]?=some (.pointer (some ⟨b,0,none⟩))
theorem VOk.le {V:List Nat} {Bk:Nat->Option Nat} {E E':Env} (h:VOk V Bk E) (hle:E.le E'):VOk V Bk E':=λid hi=>by
 obtain ⟨b,h1,h2⟩:=h id hi;exact ⟨b,h1,hle.ids _ _ h2⟩
def Zsq (B:Base) (V:List Nat) (Bk:Nat->Option Nat) (regs:List SV) (H:List Entry) (a:Act) (w:World):Prop :=
 ∃ E,VOk V Bk E/\E.w=w/\Inv B E H/\Yg E regs a.tmps.toList/\a.defers=[]
theorem Zsq.ZLz {B:Base} {V:List Nat} {Bk:Nat->Option Nat} {regs:List SV} {H:List Entry} {a:Act} {w:World} (h:Zsq B V Bk regs H a w):Conc B regs H a w:=by
 obtain ⟨E,_,h⟩:=h;exact ⟨E,h⟩
def Leaves (Γ:Gam) (ops:Array Oper) (V:List Nat) (Bk:Nat->Option Nat) (j:Nat) (w w':World):Prop :=
 (ZHx Γ ops j=true->Grow w w')/\(ZDy Γ ops j=true->∀ id b,ZeE id V=true->Bk id=some b->b<w.heap.size->w'.heap[b]?=w.heap[b]?)
theorem Leaves.refl {Γ:Gam} {ops:Array Oper} {V:List Nat} {Bk:Nat->Option Nat} {j:Nat} (w:World):Leaves Γ ops V Bk j w w:=⟨λ_=>Grow.refl w,λ_ _ _ _ _ _=>rfl⟩
def Rb (b:Nat) (w w':World):Prop:=b<w.heap.size->b<w'.heap.size/\w'.heap[b]?=w.heap[b]?
theorem Rb.way (b:Nat):Way (Rb b):=⟨λw h=>⟨h,rfl⟩,λx y z h1 h2 h=>by
 obtain ⟨a1,a2⟩:=h1 h;obtain ⟨b1,b2⟩:=h2 a1;grind⟩
theorem Rb.of {b:Nat} {w w':World} (h:b<w.heap.size->w'.heap[b]?=w.heap[b]?):Rb b w w':=λhb=>by
 grind
theorem ZkZ:∀ (V:List Nat) {H:List Entry} {K:Prop},ZkY V H K->K/\∀ id,ZeE id V=true->∃ cells,H[id]?=some (.box cells)
 | [],H,K,h=>⟨h,λid hi=>by cases hi⟩
 | i::r,H,K,h=>by
  unfold ZkY at h;obtain ⟨e,he,h⟩:=Y5 H h;split at h
  ·rename_i cells
   obtain ⟨hk,hr⟩:=ZkZ r h;refine ⟨hk,λid hi=>?_⟩;unfold ZeE at hi;rcases Bool.or_eq_true _ _▸hi with hq | hq
   all_goals simp_all
  ·exact h.elim
theorem ZDs {B:Base} {E:Env} {H:List Entry} (hI:Inv B E H) {regs:List SV} {a:Act} (hd:Yg E regs a.tmps.toList) {V:List Nat} {Bk:Nat->Option Nat} (hV:VOk V Bk E):∀ (xs:List Operand) {K:Prop},wrK V regs H xs K->
  K/\(∀ id,ZeE id V=true->∃ cells,H[id]?=some (.box cells))/\∀ id b,ZeE id V=true->Bk id=some b->∀ x∈xs,YC (a.eval x)≠some b
 | [],K,h=>⟨(ZkZ V h).1,(ZkZ V h).2,λid b _ _ x hx=>by cases hx⟩
 | x::r,K,h=>by
  unfold wrK at h;obtain ⟨s,hs,h⟩:=Yr hd h;split at h
  ·rename_i i off
   obtain ⟨hn,h⟩:=h;obtain ⟨en,he,h⟩:=Y5 H h;split at h
   ·rename_i cells
    obtain ⟨hk,hbox,hr⟩:=ZDs hI hd hV r h;refine ⟨hk,hbox,λid b hi hbk y hy=>?_⟩;rcases List.mem_cons.1 hy with rfl | hy
    ·simp only[den] at hs
     obtain ⟨b0,h1,h2⟩:=hs;rw[h2];intro e;simp only[YC,Option.some.injEq] at e;subst e;obtain ⟨b',hb1,hb2⟩:=hV id hi;rw[hbk] at hb1;injection hb1 with hb1
     subst hb1;obtain ⟨cells',hc⟩:=hbox id hi;have hkid:i≠id:=λq=>by grind
     exact ZqM hI hc hb2 he rfl h1 hkid (by simp[ZiY,YC])
    grind
   ·exact h.elim
  ·exact h.elim
theorem ZDx {B:Base} {E:Env} {H:List Entry} (hI:Inv B E H) {regs:List SV} {a:Act} (hd:Yg E regs a.tmps.toList) {V:List Nat} {Bk:Nat->Option Nat} (hV:VOk V Bk E) {Γ:Gam} {st:Bool} {op:Op} {K:Prop} (h:ZFF Γ st V regs H op K) :
  (K/\∀ x,ZDz st op=some x->∀ w',E.w.grownBy w' (YC (a.eval x))->∀ id b,ZeE id V=true->Bk id=some b->b<E.w.heap.size->w'.heap[b]?=E.w.heap[b]?)/\
  ∀ xs,ZlH Γ op=some xs->∀ id b,ZeE id V=true->Bk id=some b->∀ x∈xs,YC (a.eval x)≠some b:=by
 unfold ZFF at h;split at h
 ·exact ⟨⟨h,λx _ w' _ id b hi=>by cases hi⟩,λxs _ id b hi=>by cases hi⟩
 ·split at h
  ·rename_i ha
   split at h
   ·grind
   ·rename_i xs hw
    obtain ⟨hk,_,h2⟩:=ZDs hI hd hV xs h;grind
  ·rename_i x ha
   refine ⟨?_,λxs hx=>by rw[ZG7 (Zxk ha)] at hx;cases hx⟩;obtain ⟨s,hs,h⟩:=Yr hd h;split at h
   ·simp only[den] at hs
    refine ⟨h,λy hy w' hg id b _ _ hb=>?_⟩;rw[ha] at hy;injection hy with hy;subst hy
    rw[hs] at hg;exact hg.block b hb (λe=>by simp[YC] at e)
   ·rename_i k
    obtain ⟨hn,h⟩:=h;obtain ⟨en,he,h⟩:=Y5 H h;simp only[den] at hs;have fin:∀ {K:Prop},ZkY V H K->en.live=true->(∀ g,YC (a.eval x)=some g->ZiY en (a.eval x) g)->K/\∀ y,ZDz st op=some y->∀ w',E.w.grownBy w' (YC (a.eval y))->∀ id b,ZeE id V=true->Bk id=some b->b<E.w.heap.size->w'.heap[b]?=E.w.heap[b]?:=by
     intro K h hl hblk;obtain ⟨hk,hbox⟩:=ZkZ V h;refine ⟨hk,λy hy w' hg id b hi hbk hb=>?_⟩;rw[ha] at hy;injection hy with hy;subst hy
     obtain ⟨cells,hc⟩:=hbox id hi;obtain ⟨b',hb1,hb2⟩:=hV id hi;rw[hbk] at hb1;injection hb1 with hb1;subst hb1
     refine hg.block b hb (λe=>?_);have hkid:k≠id:=λq=>by grind
     exact ZqM hI hc hb2 he hl hs.1 hkid (hblk b e.symm)
    split at h
    ·exact fin h rfl (λg hg=>hg)
    ·obtain ⟨v,xs,fps,e1,_,_,efp,_⟩:=hI.ent k _ he
     have:=hs.1.symm.trans e1;simp at this;subst this;exact fin h rfl (λg hg=>by simp only[ZiY];rw[efp,hg];simp)
    ·exact h.elim
   ·rename_i k sz i off
    obtain ⟨hn,h⟩:=h;obtain ⟨en,he,h⟩:=Y5 H h;simp only[den] at hs;obtain ⟨g0,bo,n0,c0,hs1,hs2⟩:=hs;have fin:∀ {K:Prop},ZkY V H K->en.live=true->ZiY en (.slice (some ⟨g0,bo,none⟩) n0 c0) g0->K/\∀ y,ZDz st op=some y->∀ w',E.w.grownBy w' (YC (a.eval y))->∀ id b,ZeE id V=true->Bk id=some b->b<E.w.heap.size->w'.heap[b]?=E.w.heap[b]?:=by
     intro K h hl hblk;obtain ⟨hk,hbox⟩:=ZkZ V h;refine ⟨hk,λy hy w' hg id b hi hbk hb=>?_⟩;rw[ha] at hy;injection hy with hy;subst hy
     obtain ⟨cells,hc⟩:=hbox id hi;obtain ⟨b',hb1,hb2⟩:=hV id hi;rw[hbk] at hb1;injection hb1 with hb1;subst hb1
     refine hg.block b hb (λe=>?_);rw[hs2] at e;simp only[YC,Option.some.injEq] at e;subst e;have hkid:k≠id:=λq=>by grind
     exact ZqM hI hc hb2 he hl hs1 hkid hblk
    split at h
    ·exact fin h rfl rfl
    ·obtain ⟨v,xs,fps,e1,_,_,efp,_⟩:=hI.ent k _ he
     have:=hs1.symm.trans e1;simp at this;subst this;exact fin h rfl (by simp only[ZiY];rw[efp];simp[YC])
    ·obtain ⟨v,xs,x1,vxs,x2,f1,f2,k1,ho,hi0,hi1,ex,el,el2,hr1,hr2,hdc,ef,hnd⟩:=hI.ent k _ he
     have:=hs1.symm.trans k1;simp at this;subst this;exact fin h rfl (by simp only[ZiY];rw[ef];simp[YC])
    ·exact h.elim
   ·exact h.elim
theorem ZBW {M:List Nat} (hM:∀ i j,ZeF M i j=true->Behind ops i j) {Δ:Tab} (hΔ:Δ.ok P) {Γ:Gam} (hΓ:Γ.ok P) {B:Base} {V:List Nat} {Bk:Nat->Option Nat} {Q:Exit->Act->World->Prop} (hQ:∀ c a w,¬Q (.panic c) a w) (hs:Zod ops=true) {K:List SV->List Entry->Prop}
  (hq:∀ regs' H' a' w',K regs' H'->Zsq B V Bk regs' H' a' w'->Q .normal a' w') :
  ∀ (p:ZaL) (n:Nat) (listed:Array Bool) (m:Option (List Nat)) (regs:List SV) (H:List Entry) (a:Act) (w:World),Zsq B V Bk regs H a w->Down ops listed->Zb2 Γ ops M p n listed m=true->Zko Δ Γ ops.toList V p m.isSome regs H K->
   match m with
   | none=>ZpN P ops (Leaves Γ ops V Bk) Q n listed a w
   | some rem=>∀ i∈rem,i∈Region.ready .any ops listed->wpOp P ops Q i (λa' w'=>Leaves Γ ops V Bk i w w'/\ZpN P ops (Leaves Γ ops V Bk) Q (n-1) (listed.setIfInBounds i true) a' w') a w:=by
 have hsel:∀ (j:Nat) (o:Oper) cs b,ops[j]?=some o->o.op≠.select cs b:=by
  intro j o cs b hj he;unfold Zod at hs;grind
 have heavy:∀ (i n:Nat) (listed:Array Bool) (p:ZaL) (regs:List SV) (H:List Entry) (a:Act) (w:World),Zsq B V Bk regs H a w->Down ops listed->i∈Region.ready .any ops listed->Zb2 Γ ops M p n (listed.setIfInBounds i true) none=true->
   (∀ regs H a w,Zsq B V Bk regs H a w->Zko Δ Γ ops.toList V p false regs H K->ZpN P ops (Leaves Γ ops V Bk) Q n (listed.setIfInBounds i true) a w)->
   (ZAB ops.toList i λo=>ZFF Γ (ZFN ops.toList) V regs H o.op (ZAD Δ Γ ops.toList o regs H λregs' H'=>Zko Δ Γ ops.toList V p false regs' H' K))->
   wpOp P ops Q i (λa' w'=>Leaves Γ ops V Bk i w w'/\ZpN P ops (Leaves Γ ops V Bk) Q n (listed.setIfInBounds i true) a' w') a w:=by
  intro i n listed p regs H a w hc hd hr hp ih hk;obtain ⟨o,ho,hk⟩:=Zpj _ hk;have ho':ops[i]?=some o:=by simpa using ho
  unfold wpOp;simp only[ho'];obtain ⟨E,hV,rfl,hI,hdn,hdef⟩:=hc;obtain ⟨⟨hk,happ⟩,hwrs⟩:=ZDx hI hdn hV hk;refine Zx8 hΔ hΓ ops o hI hdn hdef hk (λregs' H' a' E' hk' hI' hd' hdef' hle hg hap hwr=>⟨⟨λhgr=>hg ?_,λhb=>?_⟩,ih regs' H' a' E'.w ⟨E',hV.le hle,rfl,hI',hd',hdef'⟩ hk'⟩)
  ·simpa[ZHx,ho'] using hgr
  ·simp only[ZDy,ho',ZHR,Bool.or_eq_true,Option.isSome_iff_exists] at hb
   rcases hb with ⟨x,hx⟩ | ⟨xs,hx⟩
   ·exact happ x hx _ (hap x (Zxk hx))
   grind
 intro p;induction p with
 | done =>
  intro n listed m regs H a w hc hd hp hk;cases m with
  | none =>
   simp only[Zb2,List.isEmpty_iff] at hp;simp only[Zko,Option.isSome] at hk;cases n with
   | zero=>exact ⟨hp,hq _ _ _ _ hk.2 hc⟩
   | succ n=>exact ⟨λ_=>hq _ _ _ _ hk.2 hc,λi hi=>by grind⟩
  | some rem =>
   simp only[Zb2,List.isEmpty_iff] at hp;grind
 | op i p ih =>
  intro n listed m regs H a w hc hd hp hk;cases m with
  | some rem=>cases n<;>simp[Zb2] at hp
  | none =>
   cases n with
   | zero=>simp[Zb2] at hp
   | succ n =>
    simp only[Zb2,Bool.and_eq_true,List.contains_iff_mem] at hp;obtain ⟨⟨hr,hf⟩,hp⟩:=hp;simp only[Zko] at hk;obtain ⟨o,ho,hk⟩:=Zpj _ hk;have ho':ops[i]?=some o:=by simpa using ho
    unfold ZF9 at hf;simp only[ho',Bool.and_eq_true] at hf;obtain ⟨hl,hf⟩:=hf;obtain ⟨E,hV,rfl,hI,hdn,hdef⟩:=hc;obtain ⟨v,hy,regs',H',hk',E',hle',hw',hc'⟩:=ZAt hΔ ops o hl hI hdn hdef hk;have hfree:∀ j oj,ops[j]?=some oj->j≠i->ZeF M i j=false->ZeF M j i=false->o.apart ops oj=true/\(isLoad o.op=true->Zlf Γ oj.op=true):=by
     grind
    refine ZpO (R:=λw w'=>isLoad o.op=true->ZuX w w') ⟨λw _=>ZuX.refl w,λa b c h1 h2 h=>(h1 h).trans (h2 h)⟩ ho' (λw=>Leaves.refl w) hsel hQ ?_ n listed a E.w hd hr hy (ih n _ none regs' H' _ _ ⟨E',hV.le hle',hw',hc'⟩ (hd.set hr) hp hk');intro j oj hj hji hb hb2;have nb:∀ x y,¬Behind ops x y->ZeF M x y=false:=λx y h=>by
     grind
    obtain ⟨h1,h2⟩:=hfree j oj hj hji (nb _ _ hb) (nb _ _ hb2);exact ⟨h1,λw w' h hld=>(h.1 (by simpa[ZHx,hj] using h2 hld)).ZO1⟩
 | ld i p ih =>
  intro n listed m regs H a w hc hd hp hk;cases m with
  | some rem=>cases n<;>simp[Zb2] at hp
  | none =>
   cases n with
   | zero=>simp[Zb2] at hp
   | succ n =>
    simp only[Zb2,Bool.and_eq_true,List.contains_iff_mem] at hp;obtain ⟨⟨hr,hf⟩,hp⟩:=hp;simp only[Zko] at hk;obtain ⟨o,ho,hk⟩:=Zpj _ hk;have ho':ops[i]?=some o:=by simpa using ho
    obtain ⟨E,hV,rfl,hI,hdn,hdef⟩:=hc;unfold ZGa at hf;simp only[ho',Bool.and_eq_true] at hf;obtain ⟨_,hf⟩:=hf;unfold ldK at hk;split at hk
    ·rename_i T x hop hg
     obtain ⟨ti,ht,hk⟩:=XL Δ hΔ hk;obtain ⟨s,hs1,hk⟩:=Yr hdn hk;split at hk
     ·rename_i id off
      obtain ⟨hid,hk⟩:=hk;obtain ⟨en,he,hk⟩:=Y5 H hk;split at hk
      ·rename_i cells
       obtain ⟨b,u,r,hb,hrun,hden,hk⟩:=ZyO hI ht hs1 he hk;obtain ⟨b',hbk,hb'⟩:=hV id hid;have:=hb.symm.trans hb';simp at this;subst this;have hlt:b<E.w.heap.size:=(hI.free id _ _ b he rfl hb (by simp[ZiY,YC])).2.2;obtain ⟨regs',hd',hk',hdf⟩:=Zog (dst:=o.dst) (v:=u) hdn hden hk;have hlit:Lit P ops (Rb b) o u a E.w:=by
        refine .inl ⟨by simp[Region.wanted,hg],λw' hw'=>?_⟩;have h1:=hrun w' (hw' hlt).2;obtain ⟨dst,op,type,pos,after,guard⟩:=o;simp only at hop;subst hop;show Sem.run P (do pure (Next.value (<-Instr.loadAt T (a.eval x))):Sem Next) w'=_
        simp_all
       refine ZpO (R:=Rb b) (Rb.way b) ho' (λw=>Leaves.refl w) hsel hQ ?_ n listed a E.w hd hr hlit (ih n _ none regs' H _ _ ⟨E,hV,rfl,hI,hd',by rw[hdf];exact hdef⟩ (hd.set hr) hp hk');intro j oj hj hji hb1 hb2;have nb:∀ x y,¬Behind ops x y->ZeF M x y=false:=λx y h=>by
        grind
       rw[List.all_eq_true] at hf;have:=hf j (List.mem_range.2 (Array.getElem?_eq_some_iff.1 hj).1);simp only[hj,nb _ _ hb1,nb _ _ hb2,Bool.or_eq_true,beq_iff_eq,Bool.and_eq_true,Bool.false_eq_true,or_false] at this;rcases this with h | ⟨h1,h2⟩
       ·exact absurd h hji
       ·refine ⟨h1,λw w' hlv=>Rb.of λhbl=>?_⟩
        rcases h2 with h2 | h2
        ·exact hlv.1 (by simpa[ZHx,hj] using h2) b hbl
        ·exact hlv.2 (by simpa[ZDy,hj] using h2) id b hid hbk hbl
      ·exact hk.elim
     ·exact hk.elim
    ·exact hk.elim
 | can p ih =>
  intro n listed m regs H a w hc hd hp hk;cases n<;>cases m<;>simp[Zb2] at hp
 | alt i p q ihp ihq =>
  intro n listed m regs H a w hc hd hp hk;cases n with
  | zero=>cases m<;>simp[Zb2] at hp
  | succ n =>
   obtain ⟨hk1,hk2⟩:(ZAB ops.toList i λo=>ZFF Γ (ZFN ops.toList) V regs H o.op (ZAD Δ Γ ops.toList o regs H λregs' H'=>Zko Δ Γ ops.toList V p false regs' H' K))/\Zko Δ Γ ops.toList V q true regs H K:=by
    cases q with
    | done=>exact ⟨by simpa only[Zko] using hk,trivial⟩
    | _=>simpa only[Zko] using hk
   cases m with
   | none =>
    simp only[Zb2,Bool.and_eq_true,List.contains_iff_mem] at hp;obtain ⟨⟨hr,hp⟩,hpq⟩:=hp;have h1:=heavy i n listed p regs H a w hc hd hr hp (λregs H a w hc hk=>ihp n _ none regs H a w hc (hd.set hr) hp hk) hk1;have h2:=ihq (n+1) listed (some _) regs H a w hc hd hpq hk2;refine ⟨λh=>(by grind),λj hj=>?_⟩;grind
   | some rem =>
    simp only[Zb2,Bool.and_eq_true] at hp;obtain ⟨hp,hpq⟩:=hp;have h2:=ihq (n+1) listed (some _) regs H a w hc hd hpq hk2;intro j hj hr;by_cases hji:j=i
    ·subst hji
     exact heavy j n listed p regs H a w hc hd hr hp (λregs H a w hc hk=>ihp n _ none regs H a w hc (hd.set hr) hp hk) hk1
    grind
def ZDV (Δ:Tab) (Γ:Gam) (ops:List Oper) (V:List Nat) (p:ZaL) (regs:List SV) (H:List Entry) (K:List SV->List Entry->Prop):Prop:=match p with
 | .can p=>Zko Δ Γ ops V p false regs H λregs' H'=>Zwh H 0 λn=>canonK n regs' H' K
 | p=>Zko Δ Γ ops V p false regs H K
def ZAe:ZaL->Bool
 | .done=>false
 | .op _ p=>ZAe p
 | .ld _ _=>true
 | .alt _ p q=>ZAe p||ZAe q
 | .can p=>ZAe p
def ZuU:Nat->List Entry->(List Nat->Prop)->Prop
 | _,[],K=>K []
 | n,e::r,K=>ZuU (n+1) r λV=>match e with
  | .box _=>K (n::V)
  | _=>K V
def ZDW (i:Nat):List Nat->(List Nat->Prop)->Prop
 | [],K=>K []
 | j::r,K=>ZDW i r λr'=>match Nat.beq j i with
  | true=>K r'
  | false=>K (j::r')
def ZB2:List SV->Nat->List Nat->(List Nat->Prop)->Prop
 | [],_,V,K=>K V
 | s::_,0,V,K=>match s with
  | .ptr i _=>ZDW i V K
  | _=>K V
 | _::r,n+1,V,K=>ZB2 r n V K
def ZBb (t:Nat):List Oper->Nat
 | []=>t
 | o::r=>match o.dst,o.op with
  | some d,.move (.tmp t')=>match Nat.beq d t with
   | true=>t'
   | false=>ZBb t r
  | _,_=>ZBb t r
def Zvd (all:List Oper) (regs:List SV):List Operand->List Nat->(List Nat->Prop)->Prop
 | [],V,K=>K V
 | x::r,V,K=>match x with
  | .tmp t=>ZB2 regs (ZBb t all) V λV'=>Zvd all regs r V' K
  | _=>Zvd all regs r V K
def ZqT (Γ:Gam) (all:List Oper) (regs:List SV):List Oper->List Nat->(List Nat->Prop)->Prop
 | [],V,K=>K V
 | o::r,V,K=>match ZlH Γ o.op with
  | none=>ZqT Γ all regs r V K
  | some xs=>Zvd all regs xs V λV'=>ZqT Γ all regs r V' K
theorem ZxD (i:Nat):∀ (V:List Nat) {K:List Nat->Prop},ZDW i V K->∃ V',K V'/\∀ id,ZeE id V'=true->ZeE id V=true
 | [],K,h=>⟨[],h,λid h=>h⟩
 | j::r,K,h=>by
  obtain ⟨r',h2,hr⟩:=ZxD i r h;clear h;split at h2
  ·exact ⟨r',h2,λid h=>by unfold ZeE;grind⟩
  ·refine ⟨j::r',h2,λid h=>?_⟩
   unfold ZeE at h ⊢;grind
theorem ZxE:∀ (l:List SV) (n:Nat) (V:List Nat) {K:List Nat->Prop},ZB2 l n V K->∃ V',K V'/\∀ id,ZeE id V'=true->ZeE id V=true
 | [],_,V,K,h=>⟨V,h,λid h=>h⟩
 | s::_,0,V,K,h=>by
  unfold ZB2 at h;split at h
  ·exact ZxD _ V h
  grind
 | _::r,n+1,V,K,h=>ZxE r n V h
theorem ZqU (all:List Oper) (regs:List SV):∀ (xs:List Operand) (V:List Nat) {K:List Nat->Prop},Zvd all regs xs V K->∃ V',K V'/\∀ id,ZeE id V'=true->ZeE id V=true
 | [],V,K,h=>⟨V,h,λid h=>h⟩
 | x::r,V,K,h=>by
  unfold Zvd at h;split at h
  ·obtain ⟨V1,h1,a1⟩:=ZxE _ _ _ h
   obtain ⟨V2,h2,a2⟩:=ZqU all regs r V1 h1;grind
  ·exact ZqU all regs r V h
theorem ZoA (Γ:Gam) (all:List Oper) (regs:List SV):∀ (l:List Oper) (V:List Nat) {K:List Nat->Prop},ZqT Γ all regs l V K->∃ V',K V'/\∀ id,ZeE id V'=true->ZeE id V=true
 | [],V,K,h=>⟨V,h,λid h=>h⟩
 | o::r,V,K,h=>by
  unfold ZqT at h;split at h
  ·exact ZoA Γ all regs r V h
  ·obtain ⟨V1,h1,a1⟩:=ZqU _ _ _ _ h
   obtain ⟨V2,h2,a2⟩:=ZoA Γ all regs r V1 h1;grind
def ZBX (Γ:Gam) (ops:List Oper) (regs:List SV) (p:ZaL) (H:List Entry) (K:List Nat->Prop):Prop:=match ZAe p with
 | false=>K []
 | true=>ZuU 0 H λV=>ZqT Γ ops regs ops V K
theorem Zsn:∀ (H:List Entry) (n:Nat) {K:List Nat->Prop},ZuU n H K->∃ V,K V/\∀ id,ZeE id V=true->n<=id/\∃ cells,H[id-n]?=some (.box cells)
 | [],n,K,h=>⟨[],h,λid hi=>by cases hi⟩
 | e::r,n,K,h=>by
  obtain ⟨V,h2,hV⟩:=Zsn r (n+1) h;clear h;have old:∀ id,ZeE id V=true->n<=id/\∃ cells,(e::r)[id-n]?=some (.box cells):=by
   grind
  split at h2
  ·rename_i cells
   refine ⟨_,h2,λid hi=>?_⟩;unfold ZeE at hi;rcases Bool.or_eq_true _ _▸hi with hq | hq
   all_goals simp_all
  grind
theorem ZBY {Γ:Gam} {ops:List Oper} {regs:List SV} {p:ZaL} {H:List Entry} {K:List Nat->Prop} (h:ZBX Γ ops regs p H K):∃ V,K V/\∀ id,ZeE id V=true->∃ cells,H[id]?=some (.box cells):=by
 unfold ZBX at h;split at h
 ·exact ⟨[],h,λid hi=>by cases hi⟩
 ·obtain ⟨V,h,hV⟩:=Zsn H 0 h
  obtain ⟨V',h',hV'⟩:=ZoA Γ ops regs ops V h;grind
theorem Conc.drew {B:Base} {regs:List SV} {H:List Entry} {a:Act} {w:World} (h:Conc B regs H a w):Conc B regs H a {w with drawn:=w.drawn+1}:=by
 obtain ⟨E,hw,hI,hd,hdef⟩:=h;subst hw;have hle:E.le ⟨E.S,{E.w with drawn:=E.w.drawn+1},E.ids⟩:=⟨λb h=>h,λb h=>rfl,λi v h=>h⟩
 refine ⟨⟨E.S,{E.w with drawn:=E.w.drawn+1},E.ids⟩,rfl,?_,ZK hle _ _ hd,hdef⟩
 exact ⟨⟨hI.keeps.os,hI.keeps.tape,hI.keeps.output,hI.keeps.size,hI.keeps.block⟩,hI.Slt,hI.Sold,hI.glob.le hle,hI.len,hI.pin,λi e hi=>ZeJ hle i e (λ_ _ _ _ _=>rfl) (hI.ent i e hi),hI.free,hI.sep⟩
theorem Zsq.drew {B:Base} {V:List Nat} {Bk:Nat->Option Nat} {regs:List SV} {H:List Entry} {a:Act} {w:World} (h:Zsq B V Bk regs H a w):Zsq B V Bk regs H a {w with drawn:=w.drawn+1}:=by
 obtain ⟨E,hV,hw,hI,hd,hdef⟩:=h;subst hw;have hle:E.le ⟨E.S,{E.w with drawn:=E.w.drawn+1},E.ids⟩:=⟨λb h=>h,λb h=>rfl,λi v h=>h⟩
 refine ⟨⟨E.S,{E.w with drawn:=E.w.drawn+1},E.ids⟩,hV,rfl,?_,ZK hle _ _ hd,hdef⟩
 exact ⟨⟨hI.keeps.os,hI.keeps.tape,hI.keeps.output,hI.keeps.size,hI.keeps.block⟩,hI.Slt,hI.Sold,hI.glob.le hle,hI.len,hI.pin,λi e hi=>ZeJ hle i e (λ_ _ _ _ _=>rfl) (hI.ent i e hi),hI.free,hI.sep⟩
theorem VOk.ex (V:List Nat) {B:Base} {E:Env} {H:List Entry} (hI:Inv B E H) (h:∀ id,ZeE id V=true->∃ cells,H[id]?=some (.box cells)):∃ Bk,VOk V Bk E:=by
 refine ⟨λid=>match E.ids[id]? with
  | some (.pointer (some ⟨b,_,_⟩))=>some b
  | _=>none,λid hi=>?_⟩
 obtain ⟨cells,hc⟩:=h id hi;obtain ⟨b,_,_,h1,_⟩:=hI.ent id _ hc;grind
theorem ZBZ {Δ:Tab} (hΔ:Δ.ok P) {Γ:Gam} (hΓ:Γ.ok P) {B:Base} {id:Nat} {Q:Exit->Act->World->Prop} (hm:P.follows .mixedOrders=true) {M:List Nat} (hM:Zm7 ops.toList []=M) {p:ZaL} (hs:Zod ops=true)
  (hp:Zb2 Γ ops M p.core ops.size (Array.replicate ops.size false) none=true) {regs:List SV} {H:List Entry} {a:Act} {w:World} (hc:Conc B regs H a w)
  {K0:List SV->List Entry->Prop} (hk0:ZBX Γ ops.toList regs p.core H λV=>ZDV Δ Γ ops.toList V p regs H K0)
  (hq0:∀ regs' H' a' w',K0 regs' H'->Conc B regs' H' a' w'->Q .normal a' w'):(Code.region id ops true).wp P Q a w:=by
 obtain ⟨V,hk0,hVb⟩:=ZBY hk0;have hpin:∀ (i:Nat) (v:Value),B.pin[i]?=some v->i<H.length:=λi v hi=>by
  obtain ⟨E,_,hI,_⟩:=hc;have:=(List.getElem?_eq_some_iff.1 (hI.pin i v hi)).1;rw[hI.len] at this;exact this
 obtain ⟨K,hk,hq⟩:∃ K:List SV->List Entry->Prop,Zko Δ Γ ops.toList V p.core false regs H K/\∀ regs' H' a' w',K regs' H'->Conc B regs' H' a' w'->Q .normal a' w':=by
  unfold ZDV at hk0;split at hk0
  ·refine ⟨_,hk0,λregs' H' a' w' h hc'=>?_⟩
   rw[Zcw,Nat.zero_add] at h;obtain ⟨regs2,H2,h2,hc2⟩:=ZzH hpin h hc';grind
  ·rename_i hne
   have hc0:p.core=p:=by
    cases p with
    | can q=>grind
    | _=>rfl
   grind
 generalize p.core=p at hp hk;have hcv:∃ Bk,Zsq B V Bk regs H a w:=by
  obtain ⟨E,hw,hI,hd,hdef⟩:=hc;obtain ⟨Bk,hV⟩:=VOk.ex V hI hVb;exact ⟨Bk,E,hV,hw,hI,hd,hdef⟩
 obtain ⟨Bk,hcv⟩:=hcv;refine Code.wp_mono (Q:=λe a w=>e=.normal/\Q e a w) (λe a w h=>h.2) ?_;refine wp_region_any hm (ZtK (G:=Leaves Γ ops V Bk) _ _ _ _ ?_);have hMb:∀ i j,ZeF M i j=true->Behind ops i j:=by
  intro i j h;unfold ZeF at h;cases hj:M[j]? with
  | none=>simp[hj] at h
  | some m =>
   rw[<-hM] at hj;exact Ztu ops.toList [] (by simp) (by simp) j m hj i (by
    grind)
 refine ZBW hMb hΔ hΓ (Q:=λe a w=>e=.normal/\Q e a w) (λc a w h=>by cases h.1) hs (λregs' H' a' w' h1 h2=>⟨rfl,hq regs' H' a' w' h1 h2.ZLz⟩) p ops.size _ none regs H a _ hcv.drew ?_ hp hk;intro j oj e hj hl;have hlt:j<ops.size:=(Array.getElem?_eq_some_iff.1 hj).1;simp[hlt] at hl
end
def writes:Code->List Nat
 | .region _ ops _=>ops.toList.filterMap (·.dst)
 | .seq a b=>writes a++writes b
 | .cond _ a b=>writes a++writes b
 | .block _ c=>writes c
 | .loop c=>writes c
 | .scope c=>writes c
 | _=>[]
def ZAJ:List Oper->Bool
 | []=>false
 | o::r=>match o.op,o.guard with
  | .panic _,none=>true
  | _,_=>ZAJ r
structure Ann where
 loops:List (Nat×List Loc):=[]
 draws:List (Nat×List Nat×ZaL):=[]
def ZCi:List (Nat×List Loc)->Nat->(List Loc->Prop)->Prop
 | [],_,_=>False
 | (n,l)::r,id,K=>if n=id then K l else ZCi r id K
def ZxI:List Nat->(List Nat->Bool)->Bool
 | [],k=>k []
 | x::r,k=>ZxI r λl=>k (x::l)
theorem Zvh:∀ (l:List Nat) (k:List Nat->Bool),ZxI l k=k l
 | [],_=>rfl
 | x::r,k=>by unfold ZxI;exact Zvh r _
def ZEl (Γ:Gam) (ops:Array Oper) (M:List Nat) (p:ZaL):Bool:=match M with
 | []=>ZxI (Zm7 ops.toList []) λM=>Zb2 Γ ops M p.core ops.size (Array.replicate ops.size false) none
 | _=>Zm7 ops.toList [] == M&&Zb2 Γ ops M p.core ops.size (Array.replicate ops.size false) none
theorem ZCy {Γ:Gam} {ops:Array Oper} {M:List Nat} {p:ZaL} (h:ZEl Γ ops M p=true):Zb2 Γ ops (Zm7 ops.toList []) p.core ops.size (Array.replicate ops.size false) none=true:=by
 unfold ZEl at h;split at h
 ·rwa [Zvh] at h
 ·rw[Bool.and_eq_true,beq_iff_eq] at h
  rw[h.1];exact h.2
def ZCj:List (Nat×List Nat×ZaL)->Nat->(List Nat->ZaL->Prop)->Prop
 | [],_,_=>False
 | (n,M,l)::r,id,K=>if n=id then K M l else ZCj r id K
theorem ZxX:∀ (A:List (Nat×List Nat×ZaL)) {id:Nat} {K:List Nat->ZaL->Prop},ZCj A id K->∃ M l,K M l
 | [],_,_,h=>h.elim
 | (n,M,l)::r,id,K,h=>by
  unfold ZCj at h;split at h
  ·exact ⟨M,l,h⟩
  ·exact ZxX r h
theorem ZxW:∀ (A:List (Nat×List Loc)) {id:Nat} {K:List Loc->Prop},ZCi A id K->∃ l,K l
 | [],_,_,h=>h.elim
 | (n,l)::r,id,K,h=>by
  unfold ZCi at h;split at h
  ·exact ⟨l,h⟩
  ·exact ZxW r h
def ZLW:Loc->Bool
 | .cell id _ _=>Nat.ble 1000 id
 | .cello id _ _=>Nat.ble 1000 id
 | .ent id _ _=>Nat.ble 1000 id
 | .splt id _ _=>Nat.ble 1000 id
 | _=>false
def ZC5:List Loc->Bool
 | []=>false
 | l::r=>match ZLW l with
  | true=>true
  | false=>ZC5 r
def ZCv (id:Nat) (regs:List SV) (H:List Entry) (K:Nat->Prop):Prop :=
 ZpT regs ((id-1000) / 100) λs=>match s with
  | .ptr b o=>Zid H b λen=>match en with
   | .box cs=>ZpT cs (o+(id-1000) % 100) λc=>match c with
    | .own i=>K i
    | _=>False
   | _=>False
  | _=>False
def ZAW (regs:List SV) (H:List Entry) (K:Loc->Prop) (l:Loc):Prop:=match ZLW l with
 | false=>K l
 | true=>match l with
  | .cell id off t=>ZpT regs (id-1000) λs=>match s with
   | .ptr b o=>K (.cell b (o+off) t)
   | _=>False
  | .cello id off e=>ZpT regs (id-1000) λs=>match s with
   | .ptr b o=>K (.cello b (o+off) e)
   | _=>False
  | .ent id et e=>ZCv id regs H λi=>K (.ent i et e)
  | .splt id et e=>ZCv id regs H λi=>K (.splt i et e)
  | _=>False
def ZCD (regs:List SV) (H:List Entry):List Loc->(List Loc->Prop)->Prop
 | [],K=>K []
 | l::r,K=>ZAW regs H (λl'=>ZCD regs H r λr'=>K (l'::r')) l
def ZLx (ls:List Loc) (regs:List SV) (H:List Entry) (K:List Loc->Prop):Prop:=match ZC5 ls with
 | false=>K ls
 | true=>ZCD regs H ls K
theorem ZnH:∀ (cs:List SV) {n:Nat} {K:SV->Prop},ZpT cs n K->∃ s,K s
 | [],_,_,h=>by simp[ZpT] at h
 | s::r,0,_,h=>⟨s,by simpa[ZpT] using h⟩
 | s::r,n+1,_,h=>ZnH r (by simpa[ZpT] using h)
theorem Zyd {id:Nat} {regs:List SV} {H:List Entry} {K:Nat->Prop} (h:ZCv id regs H K):∃ i,K i:=by
 unfold ZCv at h;obtain ⟨s,h⟩:=ZnH _ h;split at h
 ·obtain ⟨en,_,h⟩:=Y5 H h
  split at h
  ·obtain ⟨c,h⟩:=ZnH _ h
   split at h
   ·exact ⟨_,h⟩
   ·exact h.elim
  ·exact h.elim
 ·exact h.elim
theorem ZAX {regs:List SV} {H:List Entry} {K:Loc->Prop} {l:Loc} (h:ZAW regs H K l):∃ l',K l':=by
 unfold ZAW at h;split at h
 ·exact ⟨_,h⟩
 ·split at h
  ·obtain ⟨s,h⟩:=ZnH _ h
   split at h
   ·exact ⟨_,h⟩
   ·exact h.elim
  ·obtain ⟨s,h⟩:=ZnH _ h
   split at h
   ·exact ⟨_,h⟩
   ·exact h.elim
  ·obtain ⟨i,h⟩:=Zyd h
   exact ⟨_,h⟩
  ·obtain ⟨i,h⟩:=Zyd h
   exact ⟨_,h⟩
  ·exact h.elim
theorem Zyk {regs:List SV} {H:List Entry}:∀ (ls:List Loc) {K:List Loc->Prop},ZCD regs H ls K->∃ ls',K ls'
 | [],_,h=>⟨[],h⟩
 | l::r,K,h=>by
  obtain ⟨l',h⟩:=ZAX (K:=λl'=>ZCD regs H r λr'=>K (l'::r')) h;obtain ⟨r',h⟩:=Zyk r h;exact ⟨_,h⟩
theorem ZFB {ls:List Loc} {regs:List SV} {H:List Entry} {K:List Loc->Prop} (h:ZLx ls regs H K):∃ ls',K ls':=by
 unfold ZLx at h;split at h
 ·exact ⟨_,h⟩
 ·exact Zyk ls h
def sx (Δ:Tab) (Γ:Gam) (A:Ann):Code->Nat->(Exit->List SV->List Entry->Prop)->List SV->List Entry->Prop
 | .skip,_,Q,regs,H=>Q .normal regs H
 | .label _,_,Q,regs,H=>Q .normal regs H
 | .ret,_,Q,regs,H=>Q .ret regs H
 | .exit id,_,Q,regs,H=>Q (.exit id) regs H
 | .region id ops draw,_,Q,regs,H=>if ZAJ ops.toList=true then Dead else match draw with
  | false=>ZHG Δ Γ ops.toList ops.toList regs H (Q .normal)
  | true=>ZCj A.draws id λM p=>(Zod ops&&ZEl Γ ops M p)=true/\ZBX Γ ops.toList regs p.core H λV=>ZDV Δ Γ ops.toList V p regs H (Q .normal)
 | .seq a b,cur,Q,regs,H=>sx Δ Γ A a cur (λe r h=>match e with
  | .normal=>sx Δ Γ A b cur Q r h
  | e=>Q e r h) regs H
 | .cond c a b,cur,Q,regs,H=>JO regs c λs=>match s with
  | .blit true=>sx Δ Γ A a cur Q regs H
  | .blit false=>sx Δ Γ A b cur Q regs H
  | .bool p=>(p=true->sx Δ Γ A a cur Q regs H)/\(p=false->sx Δ Γ A b cur Q regs H)
  | _=>False
 | .block id c,_,Q,regs,H=>sx Δ Γ A c id (λe r h=>match e with
  | .exit id'=>if id'=id then Q .normal r h else Q (.exit id') r h
  | e=>Q e r h) regs H
 | .loop c,cur,Q,regs,H=>ZCi A.loops cur λl0=>ZLx l0 regs H λls=>Zjm ls regs H λv0 H0=>Zlr ls (writes c) λW=>ZyU W regs λregs0=>Zqg ls H0 λH1=>Zwh H1 0 λn0 =>
   ∃ (I:Zwi ls->Prop) (μ:Zwi ls->Nat),I v0/\∀ v,I v->ZuZ ls v regs0 H1 λrh Hh=>sx Δ Γ A c cur (λe r h=>match e with
    | .normal=>Zjm ls r h λv' H2=>ZyU W r λr1=>Zqg ls H2 λH3=>Zs4 H3 n0 λH4=>(r1=regs0/\H4=H1)/\I v'/\μ v'<μ v
    | e=>Q e r h) rh Hh
 | _,_,_,_,_=>False
theorem ZlQ {p:Nat->Prop} (h:∃ n,p n):∃ n,p n/\∀ m,p m->n<=m:=by
 obtain ⟨n,hn⟩:=h;induction n using Nat.strongRecOn with
 | _ n ih =>
  by_cases hlt:∃ m,m<n/\p m
  ·obtain ⟨m,hm,hp⟩:=hlt;exact ih m hm hp
  ·exact ⟨n,hn,λm hm=>Nat.le_of_not_lt λhlt'=>hlt ⟨m,hlt',hm⟩⟩
theorem ZBt {P:Program} {c:Code} {Q:Exit->Act->World->Prop} (J:Nat->Act->World->Prop)
  (round:∀ n a w,J n a w->c.wp P (Exit.then (λa' w'=>∃ m,m<n/\J m a' w') Q) a w) {n:Nat} {a:Act} {w:World} (h:J n a w):(Code.loop c).wp P Q a w:=by
 classical
 let μ:Act->World->Nat:=λa w=>if h:∃ n,J n a w then Classical.choose (ZlQ h) else 0
 have hμ:∀ a w (h:∃ n,J n a w),J (μ a w) a w/\∀ m,J m a w->μ a w<=m:=by
  intro a w h;have:μ a w=Classical.choose (ZlQ h):=by simp only[μ,dif_pos h]
  rw[this];exact Classical.choose_spec (ZlQ h)
 refine wp_loop (λa w=>∃ n,J n a w) μ ⟨n,h⟩ (λa w hJ=>?_);have h1:=(hμ a w hJ).1;refine Code.wp_mono ?_ (round _ a w h1);intro e a' w' hq;cases e with
 | normal =>
  obtain ⟨m,hm,hJm⟩:=hq;exact ⟨⟨m,hJm⟩,Nat.lt_of_le_of_lt ((hμ a' w' ⟨m,hJm⟩).2 m hJm) hm⟩
 | _=>exact hq
theorem ZiA {B:Base} {E:Env}:∀ (ls:List Loc) {H:List Entry} (_:Inv B E H) {gs:List Nat} (_:Loose B E H gs) {K:List Entry->Prop} (_:Zqg ls H K),
  ∃ H',Inv B E H'/\Loose B E H' gs/\K H'/\Boxed H H'
 | [],H,hI,gs,hL,K,hk=>⟨H,hI,hL,hk,Boxed.refl H⟩
 | .reg _ _::q,H,hI,gs,hL,K,hk=>ZiA q hI hL hk
 | .ent _ _ _::q,H,hI,gs,hL,K,hk=>ZiA q hI hL hk
 | .entm _ _ _::q,H,hI,gs,hL,K,hk=>ZiA q hI hL hk
 | .splt _ _ _::q,H,hI,gs,hL,K,hk=>ZiA q hI hL hk
 | .cell id off t::q,H,hI,gs,hL,K,hk=>by
  simp only[Zqg] at hk;obtain ⟨e,he,hk⟩:=Y5 H hk;split at hk
  ·rename_i cells
   rw[ZfG,XK] at hk;have hI1:=hI.weaken (cells':=cells.set off .bot) he (λ_ _ _ _ _ hd=>ZpF hd off);obtain ⟨H',h1,h2,h3,h4⟩:=ZiA q hI1 (hL.Zol he) hk;exact ⟨H',h1,h2,h3,(Boxed.Zol he).trans h4⟩
  ·exact hk.elim
 | .cello id off e0::q,H,hI,gs,hL,K,hk=>by
  simp only[Zqg] at hk;obtain ⟨e,he,hk⟩:=Y5 H hk;split at hk
  ·rename_i cells
   rw[ZfG,XK] at hk;have hI1:=hI.weaken (cells':=cells.set off .bot) he (λ_ _ _ _ _ hd=>ZpF hd off);obtain ⟨H',h1,h2,h3,h4⟩:=ZiA q hI1 (hL.Zol he) hk;exact ⟨H',h1,h2,h3,(Boxed.Zol he).trans h4⟩
  ·exact hk.elim
theorem ZfE:∀ (ls:List Loc) {W:List Nat} {K:List Nat->Prop},Zlr ls W K->∃ W',K W'
 | [],W,K,h=>⟨W,h⟩
 | .reg r _::q,W,K,h=>by obtain ⟨W',h⟩:=ZfE q h;exact ⟨_,h⟩
 | .cell _ _ _::q,W,K,h=>ZfE q h
 | .cello _ _ _::q,W,K,h=>ZfE q h
 | .ent _ _ _::q,W,K,h=>ZfE q h
 | .entm _ _ _::q,W,K,h=>ZfE q h
 | .splt _ _ _::q,W,K,h=>ZfE q h
theorem Zs3 {P:Program} {Δ:Tab} (hΔ:Δ.ok P) {Γ:Gam} (hΓ:Γ.ok P) (A:Ann) (hm:P.follows .mixedOrders=true) {B:Base}:∀ (c:Code) (cur:Nat) (Q:Exit->List SV->List Entry->Prop) {regs:List SV} {H:List Entry} (_:sx Δ Γ A c cur Q regs H)
  {a:Act} {w:World} (_:Conc B regs H a w) (R:Exit->Act->World->Prop) (_:∀ e regs' H' a' w',Q e regs' H'->Conc B regs' H' a' w'->R e a' w'),c.wp P R a w
 | .skip,_,Q,regs,H,h,a,w,hc,R,hR=>wp_skip (hR _ _ _ _ _ h hc)
 | .label _,_,Q,regs,H,h,a,w,hc,R,hR=>wp_label (hR _ _ _ _ _ h hc)
 | .ret,_,Q,regs,H,h,a,w,hc,R,hR=>wp_ret (hR _ _ _ _ _ h hc)
 | .exit id,_,Q,regs,H,h,a,w,hc,R,hR=>wp_exit (hR _ _ _ _ _ h hc)
 | .region id ops draw,_,Q,regs,H,h,a,w,hc,R,hR=>by
  simp only[sx] at h;split at h
  ·exact h.no.elim
  split at h
  ·exact wp_region_list (ZAF hΔ hΓ ops ops.toList hc h (λregs' H' a' w' hq hc'=>hR _ _ _ _ _ hq hc'))
  ·obtain ⟨M,p,h⟩:=ZxX _ h
   obtain ⟨hb,h⟩:=h;rw[Bool.and_eq_true] at hb;exact ZBZ hΔ hΓ hm rfl hb.1 (ZCy hb.2) hc h (λregs' H' a' w' hq hc'=>hR _ _ _ _ _ hq hc')
 | .seq x y,cur,Q,regs,H,h,a,w,hc,R,hR=>by
  simp only[sx] at h;refine wp_seq (Zs3 hΔ hΓ A hm x cur _ h hc _ ?_);intro e regs' H' a' w' hq hc';cases e with
  | normal=>exact Zs3 hΔ hΓ A hm y cur Q hq hc' R hR
  | _=>exact hR _ _ _ _ _ hq hc'
 | .cond c x y,cur,Q,regs,H,h,a,w,hc,R,hR=>by
  simp only[sx] at h;obtain ⟨E,hw,hI,hd,hdef⟩:=hc;obtain ⟨s,hs,h⟩:=Yr hd h;split at h
  ·simp only[den] at hs
   exact wp_cond_true hs (Zs3 hΔ hΓ A hm x cur Q h ⟨E,hw,hI,hd,hdef⟩ R hR)
  ·simp only[den] at hs
   exact wp_cond_false hs (Zs3 hΔ hΓ A hm y cur Q h ⟨E,hw,hI,hd,hdef⟩ R hR)
  ·simp only[den] at hs
   exact wp_cond_split hs (λe=>Zs3 hΔ hΓ A hm x cur Q (h.1 e) ⟨E,hw,hI,hd,hdef⟩ R hR) (λe=>Zs3 hΔ hΓ A hm y cur Q (h.2 e) ⟨E,hw,hI,hd,hdef⟩ R hR)
  ·exact h.elim
 | .block id c,cur,Q,regs,H,h,a,w,hc,R,hR=>by
  simp only[sx] at h;refine wp_block (Zs3 hΔ hΓ A hm c id _ h hc _ ?_);intro e regs' H' a' w' hq hc';cases e with
  | exit id' =>
   simp only at hq;simp only[Exit.inBlock];split at hq
   ·rename_i e;rw[if_pos e];exact hR _ _ _ _ _ hq hc'
   ·rename_i e;rw[if_neg e];exact hR _ _ _ _ _ hq hc'
  | _=>exact hR _ _ _ _ _ hq hc'
 | .loop c,cur,Q,regs,H,h,a,w,hc,R,hR=>by
  simp only[sx] at h;obtain ⟨l0,h⟩:=ZxW A.loops h;obtain ⟨ls,h⟩:=ZFB h;obtain ⟨E,hw,hI,hd,hdef⟩:=hc;obtain ⟨E0,H0,v0,g0,hw0,hid0,hI0,hle0,h,hl0,hL0,hb0⟩:=Zho ls hI hd [] (Loose.none _ _ _) h;rw[List.append_nil] at hL0;obtain ⟨W,h⟩:=ZfE ls h;obtain ⟨regs0,hd0,h⟩:=Zus W regs _ (ZK hle0 _ _ hd) h;obtain ⟨H1,hI1,hL1,h,hbox1⟩:=ZiA ls hI0 hL0 h;rw[Zcw,Nat.zero_add] at h;obtain ⟨I,μ,hI0v,hround⟩:=h;have hl1:=Zbn rfl (λ_ h=>h) (λ_ _ h=>h) hbox1 ls v0 g0 hl0
  let Q':Zwi ls->Exit->List SV->List Entry->Prop:=λv e r h=>match e with
    | .normal=>Zjm ls r h λv' H2=>ZyU W r λr1=>Zqg ls H2 λH3=>Zs4 H3 H1.length λH4=>(r1=regs0/\H4=H1)/\I v'/\μ v'<μ v
    | e=>Q e r h
  let J:Nat->Act->World->Prop:=λn a w=>∃ v rh Hh,I v/\μ v=n/\Conc B rh Hh a w/\sx Δ Γ A c cur (Q' v) rh Hh
  have start:J (μ v0) a w:=by
   obtain ⟨E',Hh,rh,hw',hI',hd',hk⟩:=ZjQ ls v0 hI1 hd0 g0 hl1 hL1 (hround v0 hI0v);exact ⟨v0,rh,Hh,hI0v,rfl,⟨E',by rw[hw',hw0,hw],hI',hd',hdef⟩,hk⟩
  have rng:Zd6 H1.length regs0:=by have:=Zat _ _ hd0;rwa [hI1.len] at this
  have erng:∀ e∈H1,Zww H1.length e:=by
   intro e he;obtain ⟨i,hi⟩:=List.mem_iff_getElem?.1 he;have:=Zwv (hI1.ent i e hi)
   rwa [hI1.len] at this
  refine ZBt J ?_ start;rintro n a1 w1 ⟨v,rh,Hh,hIv,hμ,hc1,hsx⟩;subst hμ;refine Zs3 hΔ hΓ A hm c cur (Q' v) hsx hc1 _ ?_;intro e r' H' a' w' hq hc';cases e with
  | normal =>
   obtain ⟨E2,hw2,hI2,hd2,hdef2⟩:=hc';obtain ⟨E3,H3,v',g3,hw3,hid3,hI3,hle3,hq,hl3,hL3,hb3⟩:=Zho ls hI2 hd2 [] (Loose.none _ _ _) hq;rw[List.append_nil] at hL3;obtain ⟨r1,hd3,hq⟩:=Zus W r' _ (ZK hle3 _ _ hd2) hq;obtain ⟨H4,hI4,hL4,hq,hbox4⟩:=ZiA ls hI3 hL3 hq;rw[Zj3] at hq;obtain ⟨⟨hr1,hH4⟩,hIv',hlt⟩:=hq;have hpin:B.pin.length<=H1.length:=by
    rcases Nat.eq_zero_or_pos B.pin.length with h0 | h0
    ·omega
    ·have hlast:B.pin[B.pin.length-1]?=some (B.pin[B.pin.length-1]'(by omega)):=List.getElem?_eq_getElem _
     have:=(List.getElem?_eq_some_iff.1 (hI1.pin _ _ hlast)).1;rw[hI1.len] at this;omega
   have hI5:=hI4.trunc H1.length hpin (by rw[hH4];exact erng);rw[hH4] at hI5;have hd5:=ZbH (n:=H1.length) _ _ (by rw[hr1];exact rng) hd3;rw[hr1] at hd5;have hl4:=Zbn rfl (λ_ h=>h) (λ_ _ h=>h) hbox4 ls v' g3 hl3;obtain ⟨p1,p2,p3⟩:=Zdy ls v0 g0 hl1;have hl5:JE B ⟨E3.S,E3.w,E3.ids.take H1.length⟩ H1 _ ls v' g3:=Zae (E:=E3) (E':=⟨E3.S,E3.w,E3.ids.take H1.length⟩) (H':=H1) rfl (λ_ h=>h) (λi u hi hu=>by
    show (E3.ids.take H1.length)[i]?=some u;rw[List.getElem?_take,if_pos hi];exact hu) (λi c hi hlt=>by
     rw[<-hH4,List.getElem?_take,if_pos hlt];exact ⟨c,hi⟩) (λi c hi=>by
     rw[<-hH4,List.getElem?_take] at hi;split at hi
     ·exact ⟨c,hi⟩
     ·cases hi) ls v' g3 p1 p2 p3 hl4
   have hL5:Loose B ⟨E3.S,E3.w,E3.ids.take H1.length⟩ H1 g3:=⟨hL4.nodup,hL4.free,λg hg j ej vj hj hlv hv hb=>by
    have hj4:H4[j]?=some ej:=by
     rw[<-hH4,List.getElem?_take] at hj;split at hj
     ·exact hj
     ·cases hj
    have hv4:E3.ids[j]?=some vj:=by
     have hv':(E3.ids.take H1.length)[j]?=some vj:=hv;rw[List.getElem?_take] at hv';split at hv'
     ·exact hv'
     ·cases hv'
    exact hL4.apart g hg j ej vj hj4 hlv hv4 hb⟩
   obtain ⟨E',Hh',rh',hw',hI',hd',hk⟩:=ZjQ ls v' hI5 hd5 g3 hl5 hL5 (hround v' hIv');exact ⟨μ v',hlt,v',rh',Hh',hIv',rfl,⟨E',by rw[hw'];show E3.w=w';rw[hw3,hw2],hI',hd',hdef2⟩,hk⟩
  | _=>exact hR _ _ _ _ _ hq hc'
 | .rangeFunc _ _ _ _,_,Q,regs,H,h,a,w,hc,R,hR=>by simp only[sx] at h
 | .scope _,_,Q,regs,H,h,a,w,hc,R,hR=>by simp only[sx] at h
 | .goto _,_,Q,regs,H,h,a,w,hc,R,hR=>by simp only[sx] at h
 | .refuse _,_,Q,regs,H,h,a,w,hc,R,hR=>by simp only[sx] at h
def Zwe:Nat->List SV->(List SV->Prop)->Prop
 | 0,l,K=>K l
 | n+1,l,K=>Zwe n (.tup []::l) K
theorem Zsl:∀ (n:Nat) (l:List SV) (K:List SV->Prop),Zwe n l K=K (List.replicate n (.tup [])++l)
 | 0,_,_=>rfl
 | n+1,l,K=>by
  simp only[Zwe,Zsl n];congr 1;rw[List.replicate_succ',List.append_assoc];rfl
def ZCE (Δ:Tab):List ResultVar->List SV->List Entry->(List SV->Prop)->Prop
 | [],_,_,K=>K []
 | .tmp t::r,regs,H,K=>ZpT regs t λs=>ZCE Δ r regs H λss=>K (s::ss)
 | .cell a T::r,regs,H,K=>ZpT regs a λsa=>ZdC Δ T λti=>ZyP ti sa H λs=>ZCE Δ r regs H λss=>K (s::ss)
def Zml:(l:List Sh)->List SV->List Entry->(Ios l->Prop)->Prop
 | [],_,_,K=>K ()
 | .io e::r,ss,H,K=>match ss with
  | .ptr id 0::ss=>Zid H id λen=>match en with
   | .box cells=>Zjn H id .gone λH0=>closeAll e cells H0 λd H1=>Zml r ss H1 λds=>K (d,ds)
   | _=>False
  | _=>False
 | .back e::r,ss,H,K=>match ss with
  | s::ss=>if s.whole=true then closeAll e s.cells H λd H1=>Zml r ss H1 λds=>K (d,ds) else False
  | _=>False
 | .dat _::r,ss,H,K=>match ss with
  | _::ss=>Zml r ss H K
  | _=>False
 | .own _::r,ss,H,K=>match ss with
  | _::ss=>Zml r ss H K
  | _=>False
def ZHH (Δ:Tab) (C:Ctr) (res:List ResultVar) (ss0 regs:List SV) (H:List Entry) (K:Shs C.rets->Ios C.args->Prop):Prop :=
 ZCE Δ res regs H λss=>ZpR C.rets ss H λrs H1=>Zml C.args ss0 H1 λios=>K rs ios
def fnK (Δ:Tab) (Γ:Gam) (A:Ann) (C:Ctr) (fn:Func) (as:Shs C.args) (K:Shs C.rets->Ios C.args->Prop):Prop :=
 match fn.body with
 | none=>False
 | some c=>Zpr C.args as [] λss H=>Zwh ss 0 λn=>Zwe (fn.ntmps-n) [] λus=>ZtQ ss us λregs =>
  sx Δ Γ A c 0 (λe regs' H'=>match e with
   | .normal=>ZHH Δ C fn.results.toList ss regs' H' K
   | .ret=>ZHH Δ C fn.results.toList ss regs' H' K
   | _=>False) regs H
def ZEq (tmps:Array Value):ResultVar->Sem Value
 | .tmp t=>pure (tmps.getD t undef)
 | .cell a t=>asAddr (tmps.getD a undef) >>= λp=>loadVar t p
theorem ZuD {P:Program} {Δ:Tab} (hΔ:Δ.ok P) {B:Base} {E:Env} {H:List Entry} (hI:Inv B E H) {regs:List SV} {tmps:Array Value} (hd:Yg E regs tmps.toList):∀ (l:List ResultVar) {K:List SV->Prop} (_:ZCE Δ l regs H K),
  ∃ ss us,(l.mapM (ZEq tmps)).run P E.w=.ok us E.w/\Yg E ss us/\K ss
 | [],K,hk=>⟨[],[],rfl,trivial,hk⟩
 | .tmp t::r,K,hk=>by
  simp only[ZCE] at hk;obtain ⟨s,v,hv,hs,hk,_⟩:=Zce _ _ hd hk;obtain ⟨ss,us,h1,h2,h3⟩:=ZuD hΔ hI hd r hk;have hv':tmps.getD t undef=v:=by
   simp_all
  refine ⟨s::ss,v::us,?_,⟨hs,h2⟩,h3⟩;rw[List.mapM_cons,Sem.run_bind,ZEq,hv',Sem.run_pure,Result.andThen_ok,Sem.run_bind,h1];rfl
 | .cell a T::r,K,hk=>by
  simp only[ZCE] at hk;obtain ⟨sa,va,hv,hs,hk,_⟩:=Zce _ _ hd hk;obtain ⟨ti,ht,hk⟩:=XL Δ hΔ hk;obtain ⟨u,s,h0,hu,hk⟩:=ZxU hI ht hs hk;have h0:=h0.here;obtain ⟨ss,us,h1,h2,h3⟩:=ZuD hΔ hI hd r hk;have hv':tmps.getD a undef=va:=by
   simp_all
  have hptr:∃ p,va=.pointer (some p):=by
   cases va with
   | pointer p=>cases p with
    | some p=>exact ⟨p,rfl⟩
    | none=>simp[Instr.loadAt,Instr.sureAddr] at h0
   | _=>simp[Instr.loadAt,Instr.sureAddr] at h0
  obtain ⟨p,rfl⟩:=hptr;have h0':(loadVar T p).run P E.w=.ok u E.w:=by simpa[Instr.loadAt,Instr.sureAddr] using h0
  refine ⟨s::ss,u::us,?_,⟨hu,h2⟩,h3⟩;rw[List.mapM_cons,Sem.run_bind,ZEq,hv',asAddr,pure_bind,h0',Result.andThen_ok,Sem.run_bind,h1];rfl
theorem Zy9 (fn:Func) (tmps:Array Value):results fn tmps=(fn.results.mapM (ZEq tmps) >>= λvs=>pure (if h:vs.size=1 then vs[0] else .tuple vs)):=by
 have e:(λx=>match x with
  | ResultVar.tmp t=>pure (tmps.getD t undef)
  | ResultVar.cell a t=>do loadVar t (<-asAddr (tmps.getD a undef)):ResultVar->Sem Value)=ZEq tmps:=by
  funext x;cases x<;>rfl
 rw[<-e];rfl
theorem ZrZ {P:Program} {fn:Func} {tmps:Array Value} {us:List Value} {w:World} (h:(fn.results.toList.mapM (ZEq tmps)).run P w=.ok us w) :
  ∃ v,(results fn tmps).run P w=.ok v w/\retv us v:=by
 have h':(fn.results.mapM (ZEq tmps)).run P w=.ok us.toArray w:=by
  rw[<-Array.toArray_toList (xs:=fn.results),List.mapM_toArray]
  simp_all
 rw[Zy9,Sem.run_bind,h',Result.andThen_ok];unfold retv
 match us with
 | [u]=>simp_all
 | []=>simp_all
 | a::b::r=>simp_all
theorem Zli {B:Base}:∀ (l:List Sh) (ss:List SV) {E:Env} {H:List Entry} (_:Inv B E H) {vs:List Value} (_:Yg E ss vs) (_:∃ (S:Nat->Prop) (w:World) (as:Shs l) (fp:List Nat),ZeA S w l as vs fp) {gs:List Nat} (_:Loose B E H gs) {K:Ios l->Prop} (_:Zml l ss H K),
  ∃ E1 H1 ios fio,Frz E H E1 H1/\Inv B E1 H1/\Zik E1.S E1.w l ios vs fio/\K ios/\Loose B E1 H1 (fio++gs)
 | [],ss,E,H,hI,vs,hd,hf,gs,hL,K,hk=>⟨E,H,(),[],Frz.refl E H,hI,rfl,hk,hL⟩
 | .io e::r,ss,E,H,hI,vs,hd,⟨S,w,as,fp,v,vr,f0,fr,ev,_,hsh,hrest⟩,gs,hL,K,hk=>by
  simp only[Zml] at hk;subst ev;split at hk
  ·rename_i id ss
   simp only[Yg] at hd;obtain ⟨en,he,hk⟩:=Y5 H hk;split at hk
   ·rename_i cells
    rw[XK] at hk;have hv:=hd.1;simp only[den] at hv;obtain ⟨b,hb0,hv⟩:=hv;obtain ⟨b',cs0,T,e1,e2,e3⟩:=hI.ent id _ he;have:=hb0.symm.trans e1;simp at this;subst this;have t1:Frz E H E (H.set id .gone):=Frz.one he rfl hb0 rfl (Env.le.refl E) (λb hb=>.inl hb);have t3:=hL.take hI he rfl hb0 (f:=[b]) (by simp) (λg hg=>by
     simp at hg;subst hg;rfl)
    obtain ⟨E1,H1,d,f,hf1,hI1,hr,hk,hL1,hT,_⟩:=VF (hI.drop id) e3 t3 hk;obtain ⟨E2,H2,ios,fio,hf2,hI2,hio,hk,hL2⟩:=Zli r ss hI1 (ZK hf1.le _ _ hd.2) ⟨S,w,as.2,fr,hrest⟩ hL1 hk;refine ⟨E2,H2,(d,ios),(b::f)++fio,(t1.trans hf1).trans hf2,hI2,⟨v,vr,b::f,fio,rfl,rfl,⟨b,cs0,T,f,hv,by rw[hf2.w,hf1.w];exact e2,?_,rfl⟩,hio⟩,hk,hL2.perm ?_⟩
    ·exact Yz hf2.le.S hf2.le.w e _ _ _ (λg _=>by rw[hf2.w]) hr
    grind
   ·exact hk.elim
  ·exact hk.elim
 | .back e::r,ss,E,H,hI,vs,hd,⟨S,w,as,fp,v,vr,f0,fr,ev,_,hsh,hrest⟩,gs,hL,K,hk=>by
  simp only[Zml] at hk;subst ev;split at hk
  ·rename_i s ss
   simp only[Yg] at hd;split at hk
   ·rename_i hw
    obtain ⟨E1,H1,d,f,hf1,hI1,hr,hk,hL1,hT,_⟩:=VF hI (J3 hd.1 hw) hL hk;obtain ⟨E2,H2,ios,fio,hf2,hI2,hio,hk,hL2⟩:=Zli r ss hI1 (ZK hf1.le _ _ hd.2) ⟨S,w,as.2,fr,hrest⟩ hL1 hk;refine ⟨E2,H2,(d,ios),f++fio,hf1.trans hf2,hI2,⟨v,vr,f,fio,rfl,rfl,⟨hsh.1,?_⟩,hio⟩,hk,hL2.perm ?_⟩
    ·exact Yz hf2.le.S hf2.le.w e _ _ _ (λg _=>by rw[hf2.w]) hr
    grind
   ·exact hk.elim
  ·exact hk.elim
 | .dat _::r,ss,E,H,hI,vs,hd,⟨S,w,as,fp,v,vr,f0,fr,ev,_,hsh,hrest⟩,gs,hL,K,hk=>by
  simp only[Zml] at hk;subst ev;split at hk
  ·simp only[Yg] at hd
   obtain ⟨E2,H2,ios,fio,hf2,hI2,hio,hk,hL2⟩:=Zli r _ hI hd.2 ⟨S,w,as.2,fr,hrest⟩ hL hk;exact ⟨E2,H2,ios,fio,hf2,hI2,⟨v,vr,rfl,hio⟩,hk,hL2⟩
  ·exact hk.elim
 | .own _::r,ss,E,H,hI,vs,hd,⟨S,w,as,fp,v,vr,f0,fr,ev,_,hsh,hrest⟩,gs,hL,K,hk=>by
  simp only[Zml] at hk;subst ev;split at hk
  ·simp only[Yg] at hd
   obtain ⟨E2,H2,ios,fio,hf2,hI2,hio,hk,hL2⟩:=Zli r _ hI hd.2 ⟨S,w,as.2,fr,hrest⟩ hL hk;exact ⟨E2,H2,ios,fio,hf2,hI2,⟨v,vr,rfl,hio⟩,hk,hL2⟩
  ·exact hk.elim
theorem Zon {w:World} {S:Nat->Prop}:∀ (l:List Sh) (d:Shs l) (vs:List Value) (fp:List Nat),ZeA S w l d vs fp->l.length=vs.length
 | [],_,_,_,h=>by rw[h.1];rfl
 | _::r,d,_,_,⟨v,vr,f,fr,e,_,_,h⟩=>by subst e;simp[Zon r d.2 vr fr h]
theorem Inv.more {B:Base} {E:Env} {H:List Entry} (h:Inv B E H) (hB:∀ b,B.S b->b<B.w.heap.size/\¬B.io b):Inv B ⟨λb=>E.S b\/B.S b,E.w,E.ids⟩ H/\E.le ⟨λb=>E.S b\/B.S b,E.w,E.ids⟩:=by
 have hle:E.le ⟨λb=>E.S b\/B.S b,E.w,E.ids⟩:=⟨λ_ h=>.inl h,λ_ _=>rfl,λ_ _ h=>h⟩;exact ⟨
  {keeps:=h.keeps
   Slt:=λb hb=>hb.elim (h.Slt b) (λhb=>Nat.lt_of_lt_of_le (hB b hb).1 h.keeps.size)
   Sold:=λb hb hlt=>hb.elim (λhb=>h.Sold b hb hlt) .inl
   glob:=h.glob.le hle,len:=h.len,pin:=h.pin
   ent:=λi e hi=>ZeJ hle i e (λ_ _ _ _ _=>rfl) (h.ent i e hi)
   free:=λi e v g hi hl hv hb=>by
    obtain ⟨a,b,c⟩:=h.free i e v g hi hl hv hb;grind
   sep:=h.sep},hle⟩
theorem Ze {P:Program} {Δ:Tab} (hΔ:Δ.ok P) {Γ:Gam} (hΓ:Γ.ok P) (hm:P.follows .mixedOrders=true) (A:Ann) {f:FuncId} {fn:Func} (hf:P.funcs[f]?=some fn) (hname:(fn.name == "runtime.NumGoroutine")=false:=by kernel_rfl) (hbody:fn.body.isNone=false:=by kernel_rfl) {C:Ctr}
  (hvc:∀ (as:Shs C.args) (K:Shs C.rets->Ios C.args->Prop),C.tr as K->fnK Δ Γ A C fn as K):Za P f C:=by
 refine ⟨⟨fn,hf,hname,hbody⟩,?_⟩;intro w S vs as fp K hSlt hG has hnd hpriv hK;have hk:=hvc as K hK;unfold fnK at hk;split at hk
 ·exact hk.elim
 ·rename_i c hbody'
  let B0:Base:=⟨w,S,λb=>b∈fp,[]⟩
  have hI0:Inv B0 ⟨S,w,[]⟩ [] :=
   {keeps:=⟨rfl,rfl,rfl,Nat.le_refl _,λ_ _ _=>rfl⟩
    Slt:=hSlt
    Sold:=λb hb _=>.inl hb
    glob:=hG
    len:=rfl
    pin:=λ_ _ h=>h
    ent:=λi e hi=>by simp at hi
    free:=λi e v g hi=>by simp at hi
    sep:=λi j ei ej vi vj g hi=>by simp at hi}
  have hL0:Loose B0 ⟨S,w,[]⟩ [] (fp++[]):=by
   rw[List.append_nil];exact ⟨hnd,λg hg=>⟨(hpriv g hg).1,.inr hg,(hpriv g hg).2⟩,λg _ j e v hj=>by simp at hj⟩
  obtain ⟨E1,H1,ss,hw1,hS1,hI1,hle1,hd1,hk⟩:=ZlU (E:=⟨S,w,[]⟩) C.args as vs hI0 has hL0 hk;rw[Zcw,Zsl,Zbc,Nat.zero_add,List.append_nil] at hk;have hl:=YJ _ _ hd1
  let B:Base:=⟨w,S,λb=>b∈fp,E1.ids⟩
  have hI:Inv B E1 H1 :=
   {keeps:=⟨hI1.keeps.os,hI1.keeps.tape,hI1.keeps.output,hI1.keeps.size,hI1.keeps.block⟩
    Slt:=hI1.Slt,Sold:=hI1.Sold,glob:=hI1.glob,len:=hI1.len,pin:=λ_ _ h=>h,ent:=hI1.ent,free:=hI1.free,sep:=hI1.sep}
  refine calls_of_wp hf hbody' ?_;have hdens:Yg E1 (ss++List.replicate (fn.ntmps-ss.length) (.tup [])) (vs.toArray++Array.replicate (fn.ntmps-vs.toArray.size) undef).toList:=by
   rw[Array.toList_append,Array.toList_replicate,List.toList_toArray,List.size_toArray,hl];refine Zbe _ _ hd1 _ _ ?_;have:∀ n,Yg E1 (List.replicate n (.tup [])) (List.replicate n undef):=by
    intro n;induction n with
    | zero=>trivial
    | succ n ih=>exact ⟨by simp only[den];exact ⟨[],rfl,trivial⟩,ih⟩
   exact this _
  rw[<-show E1.w=w from hw1];refine Zs3 hΔ hΓ A hm c 0 _ hk (B:=B) ⟨_,rfl,hI,hdens,rfl⟩ _ ?_;intro e regs' H' a' w' hq hc';obtain ⟨E2,hw2,hI2,hd2,hdef2⟩:=hc';subst hw2;rw[show E1.w=w from hw1];have fin:ZHH Δ C fn.results.toList ss regs' H' K->bodyPost P fn (λe w'=>∃ v us rs ios S' fr fio,e=.returned v/\retv us v/\K rs ios/\Keeps ⟨w,S,λb=>b∈fp,[]⟩ w'/\(∀ b,S b->S' b)/\
    (∀ b,S' b->b<w'.heap.size/\(b<w.heap.size->S b\/b∈fp))/\ZeA S' w' C.rets rs us fr/\Zik S' w' C.args ios vs fio/\
    (fio++fr).Nodup/\∀ g∈fio++fr,¬S' g/\g<w'.heap.size/\(w.heap.size<=g\/g∈fp)) .ret a' E2.w:=by
   intro hq;unfold ZHH at hq;have hBS:∀ b,B.S b->b<B.w.heap.size/\¬B.io b:=λb hb=>⟨hSlt b hb,λhio=>(hpriv b hio).1 hb⟩;obtain ⟨hI3,hle3⟩:=hI2.more hBS;obtain ⟨ss',us,hrun,hds,hq⟩:=ZuD hΔ hI3 (ZK hle3 _ _ hd2) _ hq;have hle0:E1.le ⟨λb=>E2.S b\/B.S b,E2.w,E2.ids⟩:=by
    refine ⟨λb hb=>.inr (by grind),λb hb=>?_,λi v hv=>hI2.pin i v hv⟩;have hb':S b:=by grind
    rw[hw1];exact hI2.keeps.block b (hSlt b hb') (λhio=>(hpriv b hio).1 hb')
   have hss:=ZK hle0 _ _ hd1;obtain ⟨E4,H4,rs,fr,hf4,hI4,hrs,hq,hL4,_⟩:=ZlK C.rets ss' hI3 hds (Loose.none _ _ _) hq;obtain ⟨E5,H5,ios,fio,hf5,hI5,hio,hq,hL5⟩:=Zli C.args ss hI4 (ZK hf4.le _ _ hss) ⟨S,w,as,fp,has⟩ hL4 hq;rw[List.append_nil] at hL5;obtain ⟨v,hv,hret⟩:=ZrZ hrun;have hww:E5.w=E2.w:=by rw[hf5.w,hf4.w]
   refine bodyPost_ret hv hdef2 ⟨v,us,rs,ios,E5.S,fr,fio,rfl,hret,hq,?_,λb hb=>hf5.le.S b (hf4.le.S b (.inr hb)),?_,?_,?_,hL5.nodup,?_⟩
   ·have:=hI2.keeps
    exact ⟨this.os,this.tape,this.output,this.size,this.block⟩
   ·intro b hb
    exact ⟨by rw[<-hww];exact hI5.Slt b hb,λhlt=>hI5.Sold b hb hlt⟩
   ·show ZeA E5.S E2.w C.rets rs us fr
    rw[<-hww];exact ZvX hf5.le _ _ _ _ (λg _=>by rw[hf5.w]) hrs
   ·grind
   ·intro g hg
    obtain ⟨a1,a2,a3⟩:=hL5.free g hg;grind
  cases e with
  | normal=>exact fin hq
  | ret=>exact fin hq
  | _=>exact hq.elim
def ZKk (Δ:Tab) (Γ:Gam) (A:Ann) (fn:Func) (ss:List SV) (H:List Entry) (K:SV->List Entry->Prop):Prop :=
 match fn.body with
 | none=>False
 | some c=>Zwh ss 0 λn=>Zwe (fn.ntmps-n) [] λus=>ZtQ ss us λregs =>
  sx Δ Γ A c 0 (λe regs' H'=>match e with
   | .normal=>ZCE Δ fn.results.toList regs' H' λss'=>ZvF ss' λs=>K s H'
   | .ret=>ZCE Δ fn.results.toList regs' H' λss'=>ZvF ss' λs=>K s H'
   | _=>False) regs H
def ZKj (Δ:Tab) (Γ:Gam) (A:Ann) (fn:Func):Cal:=⟨ZKk Δ Γ A fn,false,none⟩
theorem ZAg {P:Program} {Δ:Tab} (hΔ:Δ.ok P) {Γ:Gam} (hΓ:Γ.ok P) (hm:P.follows .mixedOrders=true) (A:Ann) {f:FuncId} {fn:Func} (hf:P.funcs[f]?=some fn) (hname:(fn.name == "runtime.NumGoroutine")=false) (hbody:fn.body.isNone=false):Zzs P f (ZKj Δ Γ A fn):=by
 refine ⟨⟨fn,hf,hname,hbody⟩,?_⟩;intro B E H hI ss vs hd K hk;have hk:ZKk Δ Γ A fn ss H K:=hk;unfold ZKk at hk;split at hk
 ·exact hk.elim
 ·rename_i c hbody'
  rw[Zcw,Zsl,Zbc,Nat.zero_add,List.append_nil] at hk;have hl:=YJ _ _ hd
  let B1:Base:=⟨E.w,E.S,λb=>¬E.S b/\(B.w.heap.size<=b\/B.io b),E.ids⟩
  have hI1:Inv B1 E H :=
   {keeps:=⟨rfl,rfl,rfl,Nat.le_refl _,λ_ _ _=>rfl⟩
    Slt:=hI.Slt,Sold:=λb hb _=>.inl hb,glob:=hI.glob,len:=hI.len,pin:=λ_ _ h=>h,ent:=hI.ent
    free:=λi e v g hi hl hv hb=>by
     obtain ⟨a,b,c⟩:=hI.free i e v g hi hl hv hb;grind
    sep:=hI.sep}
  refine calls_of_wp hf hbody' ?_;have hdens:Yg E (ss++List.replicate (fn.ntmps-ss.length) (.tup [])) (vs.toArray++Array.replicate (fn.ntmps-vs.toArray.size) undef).toList:=by
   rw[Array.toList_append,Array.toList_replicate,List.toList_toArray,List.size_toArray,hl];refine Zbe _ _ hd _ _ ?_;have:∀ n,Yg E (List.replicate n (.tup [])) (List.replicate n undef):=by
    intro n;induction n with
    | zero=>trivial
    | succ n ih=>exact ⟨by simp only[den];exact ⟨[],rfl,trivial⟩,ih⟩
   exact this _
  refine Zs3 hΔ hΓ A hm c 0 _ hk (B:=B1) ⟨_,rfl,hI1,hdens,rfl⟩ _ ?_;intro e regs' H' a' w' hq hc';obtain ⟨E2,hw2,hI2,hd2,hdef2⟩:=hc';subst hw2;have hBS:∀ b,B1.S b->b<B1.w.heap.size/\¬B1.io b:=λb hb=>⟨hI.Slt b hb,λhio=>hio.1 hb⟩;obtain ⟨hI3,hle3⟩:=hI2.more hBS;have hstand:∀ b,b<E.w.heap.size->¬(¬E.S b/\(B.w.heap.size<=b\/B.io b))->E2.w.heap[b]?=E.w.heap[b]?:=λb h1 h2=>hI2.keeps.block b h1 h2;have hsz:E.w.heap.size<=E2.w.heap.size:=hI2.keeps.size;have hB0:=hI.keeps.size;have hIB:Inv B ⟨λb=>E2.S b\/B1.S b,E2.w,E2.ids⟩ H' :=
   {keeps:=⟨hI2.keeps.os.trans hI.keeps.os,hI2.keeps.tape.trans hI.keeps.tape,hI2.keeps.output.trans hI.keeps.output,Nat.le_trans hB0 hsz,λb hb hio =>
     (hstand b (Nat.lt_of_lt_of_le hb hB0) (λh=>by
      grind)).trans (hI.keeps.block b hb hio)⟩
    Slt:=hI3.Slt
    Sold:=λb hb hlt=>by
     rcases hb with hb | hb
     ·rcases hI2.Sold b hb (Nat.lt_of_lt_of_le hlt hB0) with h | h
      ·exact hI.Sold b h hlt
      grind
     ·exact hI.Sold b hb hlt
    glob:=hI3.glob
    len:=hI2.len
    pin:=λi v hv=>hI2.pin i v (hI.pin i v hv)
    ent:=hI3.ent
    free:=λi e v g hi hl hv hb=>by
     obtain ⟨a,b,c⟩:=hI3.free i e v g hi hl hv hb;grind
    sep:=hI2.sep}
  have hle:E.le ⟨λb=>E2.S b\/B1.S b,E2.w,E2.ids⟩:=⟨λb hb=>.inr hb,λb hb=>hstand b (hI.Slt b hb) (λh=>h.1 hb),λi v hv=>hI2.pin i v hv⟩;have fin:(ZCE Δ fn.results.toList regs' H' λss'=>ZvF ss' λs=>K s H')->bodyPost P fn (λe w'=>∃ v E' H' s,e=.returned v/\E'.w=w'/\Inv B E' H'/\E.le E'/\den E' s v/\K s H'/\((ZKj Δ Γ A fn).dat=true->Grow E.w w')/\(∀ m,(ZKj Δ Γ A fn).io=some m->∀ b,b<E.w.heap.size->(∀ v∈pick m vs,YC v≠some b)->w'.heap[b]?=E.w.heap[b]?)) .ret a' E2.w:=by
   intro hq;obtain ⟨ss',us,hrun,hds,hq⟩:=ZuD hΔ hIB (ZK hle3 _ _ hd2) _ hq;obtain ⟨v,hv,hret⟩:=ZrZ hrun;obtain ⟨s,hs,hq⟩:=Zx9 hds hret hq;exact bodyPost_ret hv hdef2 ⟨v,⟨λb=>E2.S b\/B1.S b,E2.w,E2.ids⟩,H',s,rfl,rfl,hIB,hle,hs,hq,(λh=>by cases h),(λm h=>by cases h)⟩
  cases e with
  | normal=>exact fin hq
  | ret=>exact fin hq
  | _=>exact hq.elim
def Yw {α:Type} (o:Option α) (k:α->Prop):Prop:=∃ r,o=some r/\k r
def iterM {σ ρ:Type} (step:σ->Option (σ ⊕ ρ)):Nat->σ->Option ρ
 | 0,_=>none
 | n+1,v=>match step v with
  | none=>none
  | some (.inl v')=>iterM step n v'
  | some (.inr r)=>some r
theorem ZoP {σ ρ:Type} {step:σ->Option (σ ⊕ ρ)} {r:ρ}:∀ {n m:Nat} {v:σ},iterM step n v=some r->n<=m->iterM step m v=some r
 | 0,_,_,h,_=>by simp[iterM] at h
 | n+1,0,_,_,hm=>by omega
 | n+1,m+1,v,h,hm=>by
  simp only[iterM] at h ⊢;split at h
  ·cases h
  ·exact ZoP h (by omega)
  ·exact h
theorem ZAl {σ ρ:Type} {step:σ->Option (σ ⊕ ρ)} {r r':ρ} {n m:Nat} {v:σ} (h:iterM step n v=some r) (h':iterM step m v=some r'):r=r':=by
 have h1:=ZoP h (Nat.le_max_left n m);have h2:=ZoP h' (Nat.le_max_right n m);rw[h1] at h2;injection h2
noncomputable def Zo {σ ρ:Type} (step:σ->Option (σ ⊕ ρ)) (v:σ):Option ρ :=
 open Classical in if h:∃ r n,iterM step n v=some r then some (Classical.choose h) else none
theorem Zj6 {σ ρ:Type} {step:σ->Option (σ ⊕ ρ)} {v:σ} {r:ρ}:Zo step v=some r<->∃ n,iterM step n v=some r:=by
 unfold Zo;constructor
 ·intro h
  split at h
  ·rename_i hx
   obtain ⟨n,hn⟩:=Classical.choose_spec hx;injection h with h;rw[h] at hn;exact ⟨n,hn⟩
  ·cases h
 ·rintro ⟨n,hn⟩
  have hx:∃ r n,iterM step n v=some r:=⟨r,n,hn⟩;rw[dif_pos hx];obtain ⟨m,hm⟩:=Classical.choose_spec hx;rw[ZAl hm hn]
theorem Zwf {σ ρ:Type} (step:σ->Option (σ ⊕ ρ)) (v:σ):Zo step v=match step v with
  | none=>none
  | some (.inl v')=>Zo step v'
  | some (.inr r)=>some r:=by
 apply Option.ext;intro r;rw[Zj6];constructor
 ·rintro ⟨n,hn⟩
  cases n with
  | zero=>simp[iterM] at hn
  | succ n =>
   simp only[iterM] at hn;split
   ·rename_i e;rw[e] at hn;cases hn
   ·rename_i v' e;rw[e] at hn;exact Zj6.2 ⟨n,hn⟩
   ·rename_i r' e;rw[e] at hn;exact hn
 ·intro h
  split at h
  ·cases h
  ·rename_i v' e
   obtain ⟨n,hn⟩:=Zj6.1 h;exact ⟨n+1,by simp only[iterM,e];exact hn⟩
  ·rename_i r' e
   exact ⟨1,by simp only[iterM,e];exact h⟩
theorem Y1 {σ ρ:Type} {step:σ->Option (σ ⊕ ρ)} {v v':σ} (h:step v=some (.inl v')):Zo step v=Zo step v':=by rw[Zwf,h]
theorem YI {σ ρ:Type} {step:σ->Option (σ ⊕ ρ)} {v:σ} {r:ρ} (h:step v=some (.inr r)):Zo step v=some r:=by rw[Zwf,h]
theorem ZeD {σ ρ:Type} {step:σ->Option (σ ⊕ ρ)} (I:σ->Prop) (μ:σ->Nat) (Q:ρ->Prop) {v:σ} (h0:I v)
  (hs:∀ v,I v->(∃ v',step v=some (.inl v')/\I v'/\μ v'<μ v)\/∃ r,step v=some (.inr r)/\Q r):∃ r,Zo step v=some r/\Q r:=by
 have:∀ n v,I v->μ v<n->∃ r,Zo step v=some r/\Q r:=by
  intro n;induction n with
  | zero=>intro v _ h;omega
  | succ n ih =>
   intro v hI hn;rcases hs v hI with ⟨v',e,hI',hlt⟩ | ⟨r,e,hq⟩
   ·obtain ⟨r,h1,h2⟩:=ih v' hI' (by omega)
    exact ⟨r,by rw[Y1 e];exact h1,h2⟩
   ·exact ⟨r,YI e,hq⟩
 exact this (μ v+1) v h0 (by omega)
def atI {α:Type} (l:List α) (i:Int):Option α:=if 0<=i then l[i.toNat]? else none
noncomputable def Zy {α:Type} (p:Prop) (a:Option α):Option α:=open Classical in if p then a else none
section
variable {α β:Type} {A B:Prop} {r:β} {a b:Option β}
theorem ZtH {q:Prop} {_:Decidable q} (h:(if q then a else b)=some r) (ha:a=some r->A) (hb:b=some r->B):(decide q=true->A)/\(decide q=false->B):=by
 by_cases hq:q
 ·rw[if_pos hq] at h;exact ⟨λ_=>ha h,λe=>by simp[hq] at e⟩
 ·rw[if_neg hq] at h;exact ⟨λe=>by simp[hq] at e,λ_=>hb h⟩
theorem ZCX {q:Prop} {_:Decidable q} (h:(if q then a else b)=some r) (ha:a=some r->A) (hb:b=some r->B):(decide q=false->B)/\(decide q=true->A):=⟨(ZtH h ha hb).2,(ZtH h ha hb).1⟩
theorem Zyt {p:Bool} (h:(if p=true then a else b)=some r) (ha:a=some r->A) (hb:b=some r->B):(p=true->A)/\(p=false->B):=by
 cases p
 ·exact ⟨λe=>(by cases e),λ_=>hb h⟩
 ·exact ⟨λ_=>ha h,λe=>(by cases e)⟩
theorem ZFA {p:Bool} (h:(if p=true then a else b)=some r) (ha:a=some r->A) (hb:b=some r->B):(p=false->B)/\(p=true->A):=⟨(Zyt h ha hb).2,(Zyt h ha hb).1⟩
theorem ZDr {p:Bool} (h:(p=true->A)/\(p=false->B)):((!p)=false->A)/\((!p)=true->B):=⟨λe=>h.1 (by simpa using e),λe=>h.2 (by simpa using e)⟩
theorem Zs6 {p:Bool} (h:(p=true->A)/\(p=false->B)):((!p)=true->B)/\((!p)=false->A):=⟨(ZDr h).2,(ZDr h).1⟩
theorem ZFO {p:Prop} (h:Zy p a=some r) (ha:p->a=some r->A):p/\A:=by
 unfold Zy at h;split at h
 ·rename_i hp;exact ⟨hp,ha hp h⟩
 ·cases h
theorem vAt {l:List α} {i:Int} {f:α->Option β} {A:α->Prop} (h:(atI l i).bind f=some r) (ha:∀ x,0<=i->i<(l.length:Int)->l[i.toNat]?=some x->f x=some r->A x) :
  0<=i/\i<(l.length:Int)/\∀ x,l[i.toNat]?=some x->A x:=by
 unfold atI at h;split at h
 ·rename_i h0
  cases hx:l[i.toNat]? with
  | none=>rw[hx] at h;cases h
  | some x =>
   rw[hx] at h;have hlt:=(List.getElem?_eq_some_iff.1 hx).1;exact ⟨h0,by omega,λy hy=>by injection hy with hy;subst hy;exact ha x h0 (by omega) hx h⟩
 ·cases h
theorem atE {l:List α} {i:Int} {f:α->Option β} (h:(atI l i).bind f=some r):∃ x,0<=i/\i<(l.length:Int)/\l[i.toNat]?=some x/\f x=some r:=by
 unfold atI at h;split at h
 ·rename_i h0
  cases hx:l[i.toNat]? with
  | none=>rw[hx] at h;cases h
  | some x =>
   rw[hx] at h;have hlt:=(List.getElem?_eq_some_iff.1 hx).1;exact ⟨x,h0,by omega,rfl,h⟩
 ·cases h
theorem guardE {p:Prop} (h:Zy p a=some r):p/\a=some r:=by
 unfold Zy at h;split at h
 ·rename_i hp;exact ⟨hp,h⟩
 ·cases h
theorem Zj5 {o:Option α} {f:α->Option β} {k:α->Prop} (h:o.bind f=some r) (hk:∀ x,o=some x->f x=some r->k x):∃ x,o=some x/\k x:=by
 cases ho:o with
 | none=>rw[ho] at h;cases h
 | some x=>rw[ho] at h;exact ⟨x,rfl,hk x ho h⟩
theorem Zzj {o:Option α} {f:α->Option β} {k:α->Prop} (h:o.bind f=some r) (hk:∀ x,o=some x->f x=some r->k x):∀ x,o=some x->k x:=by
 intro x hx;rw[hx] at h;exact hk x hx h
theorem Zsm {o:Option α} {y:α} {G:α->Prop} (ha:o=some y) (k:G y):∀ x,o=some x->G x:=by
 intro x hx;rw[ha] at hx;injection hx with hx;subst hx;exact k
theorem ZG6 {σ ρ:Type} {step:σ->Option (σ ⊕ ρ)} {v0:σ} {r:ρ} (h:Zo step v0=some r) {P:(σ->Prop)->(σ->Nat)->σ->Prop}
  (hb:∀ (I:σ->Prop) (μ:σ->Nat) (v:σ) (s:σ ⊕ ρ),step v=some s->(∀ v',s=.inl v'->I v'/\μ v'<μ v)->(∀ r',s=.inr r'->r'=r)->P I μ v) :
  ∃ I μ,I v0/\∀ v,I v->P I μ v:=by
 obtain ⟨n0,hn0⟩:=Zj6.1 h
 let I:σ->Prop:=λv=>∃ n,iterM step n v=some r
 classical
 let μ:σ->Nat:=λv=>if h:∃ n,iterM step n v=some r then Classical.choose (ZlQ h) else 0
 have hμ:∀ v (h:∃ n,iterM step n v=some r),iterM step (μ v) v=some r/\∀ m,iterM step m v=some r->μ v<=m:=by
  intro v h;have:μ v=Classical.choose (ZlQ h):=by simp only[μ,dif_pos h]
  rw[this];exact Classical.choose_spec (ZlQ h)
 refine ⟨I,μ,⟨n0,hn0⟩,λv hv=>?_⟩;have h1:=(hμ v hv).1;cases hm:μ v with
 | zero=>rw[hm] at h1;simp[iterM] at h1
 | succ m =>
  rw[hm] at h1;simp only[iterM] at h1;split at h1
  ·cases h1
  ·rename_i v' e
   refine hb I μ v _ e (λv'' e'=>?_) (λr' e'=>by cases e');injection e' with e';subst e'
   exact ⟨⟨m,h1⟩,by have:=(hμ v' ⟨m,h1⟩).2 m h1;omega⟩
  ·rename_i r' e
   refine hb I μ v _ e (λv'' e'=>by cases e') (λr'' e'=>?_);injection e' with e';subst e';injection h1
end
def D1 (a r:Ty) (f:a.den->Option r.den):Ctr:=⟨[.dat a],[.dat r],λx K=>Zv x λp _=>Yw (f p) λr=>K (r,()) ()⟩
def D2 (a b r:Ty) (f:a.den->b.den->Option r.den):Ctr:=⟨[.dat a,.dat b],[.dat r],λx K=>Zv x λp x=>Zv x λq _=>Yw (f p q) λr=>K (r,()) ()⟩
def D3 (a b c r:Ty) (f:a.den->b.den->c.den->Option r.den):Ctr:=⟨[.dat a,.dat b,.dat c],[.dat r],λx K=>Zv x λp x=>Zv x λq x=>Zv x λs _=>Yw (f p q s) λr=>K (r,()) ()⟩
def D4 (a b c d r:Ty) (f:a.den->b.den->c.den->d.den->Option r.den):Ctr:=⟨[.dat a,.dat b,.dat c,.dat d],[.dat r],λx K=>Zv x λp x=>Zv x λq x=>Zv x λs x=>Zv x λt _=>Yw (f p q s t) λr=>K (r,()) ()⟩
theorem ZDl {A B:Prop} {T:List Nat->List Nat->List Nat->List Nat->Prop} (h:(∀ x0 x1 x2 x3,T x0 x1 x2 x3)->A) (g:(∀ x0 x1 x2 x3,T x0 x1 x2 x3)->B) (t:∀ x0 x1 x2 x3,T x0 x1 x2 x3):A/\B:=⟨h t,g t⟩
theorem ZDU {B:Prop} (k:B):ZFS/\B:=⟨trivial,k⟩
theorem ZKA {α:Type} {v:α} {G:α->Prop} (k:G v):∀ x,x=v->G x:=λ_ e=>e▸k
theorem ZEu {α:Type} {o:Option α} {G:α->Prop} (k:∀ x,o=some x->G x):∀ x,o=some x->G x:=k
theorem ZKB {α:Type} {o:Option α} {G:α->Prop} (k:∃ x,o=some x/\G x):∃ x,o=some x/\G x:=k
theorem Zoz {α:Type} {o:Option α} {y:α} {G:α->Prop} (ha:o=some y) (k:G y):∃ x,o=some x/\G x:=⟨y,ha,k⟩
theorem ZKy {α:Type} {l:List α} {i:Int} {G:α->Prop} (k:0<=i/\i<(l.length:Int)/\∀ x,l[i.toNat]?=some x->G x):0<=i/\i<(l.length:Int)/\∀ x,l[i.toNat]?=some x->G x:=k
theorem Zov {α:Type} {l:List α} {i:Int} {y:α} {G:α->Prop} (ha:0<=i) (hb:i<(l.length:Int)) (hx:l[i.toNat]?=some y) (k:G y):0<=i/\i<(l.length:Int)/\∀ x,l[i.toNat]?=some x->G x:=⟨ha,hb,Zsm hx k⟩
theorem ZKz {A B:Prop} {p x y:Bool} (k:(p=x->A)/\(p=y->B)):(p=x->A)/\(p=y->B):=k
theorem shD {A B:Prop} {q:Prop} {_:Decidable q} {x y:Bool} (k:(decide q=x->A)/\(decide q=y->B)):(decide q=x->A)/\(decide q=y->B):=k
theorem ZEw {A B:Prop} {p x y:Bool} (k:((!p)=x->A)/\((!p)=y->B)):((!p)=x->A)/\((!p)=y->B):=k
theorem ZEv {α:Type} {l:List α} {A B:Prop} (k:(l=[]->A)/\B):(l=[]->A)/\B:=k
theorem ZEx {l:List Oper} {n:Nat} {K:Oper->Prop} {B:Prop} (k:ZAB l n K/\B):ZAB l n K/\B:=k
theorem orL {α:Type} {a:α} {P Q:Prop} (k:P):(a=a/\P)\/Q:=.inl ⟨rfl,k⟩
theorem ZDR {α:Type} {x:α} {P:Prop} (h:none=some x):P:=by cases h
theorem ZA5 {σ:Type} {P:(σ->Prop)->(σ->Nat)->σ->Prop} {v0:σ} (k:∃ I μ,I v0/\∀ v,I v->P I μ v):∃ I μ,I v0/\∀ v,I v->P I μ v:=k
theorem ZBo {σ ρ:Type} {step:σ->Option (σ ⊕ ρ)} {v0:σ} {r:ρ} (h:Zo step v0=some r) {P:(σ->Prop)->(σ->Nat)->σ->Prop} {G:Prop} (hK:G)
  (hb:∀ (I:σ->Prop) (μ:σ->Nat) (v:σ) (s:σ ⊕ ρ),step v=some s->((∀ v',s=.inl v'->I v'/\μ v'<μ v)/\(∀ r',s=.inr r'->r'=r)/\G)->P I μ v) :
  ∃ I μ,I v0/\∀ v,I v->P I μ v:=ZG6 h λI μ v s h1 h2 h3=>hb I μ v s h1 ⟨h2,h3,hK⟩
theorem pB {α β:Type} {o:Option α} {f:α->Option β} {r:β} {G:Prop} (h:o.bind f=some r) (k:∀ x,o=some x->f x=some r->G):G:=by
 obtain ⟨x,h1,h2⟩:=Option.bind_eq_some_iff.1 h;exact k x h1 h2
theorem pA {α β:Type} {l:List α} {i:Int} {f:α->Option β} {r:β} {G:Prop} (h:(atI l i).bind f=some r) (k:∀ x,0<=i->i<(l.length:Int)->l[i.toNat]?=some x->f x=some r->G):G:=by
 obtain ⟨x,h1,h2,h3,h4⟩:=atE h;exact k x h1 h2 h3 h4
theorem pG {α:Type} {p:Prop} {a:Option α} {r:α} {G:Prop} (h:Zy p a=some r) (k:p->a=some r->G):G:=k (guardE h).1 (guardE h).2
theorem pS {α:Type} {a r:α} {G:Prop} (h:some a=some r) (k:a=r->G):G:=k (Option.some.inj h)
theorem pR {σ ρ:Type} {A G P:Prop} {a r:ρ} (h:A/\(∀ r',(.inr a:σ ⊕ ρ)=.inr r'->r'=r)/\G) (k:a=r->G->P):P:=k (h.2.1 _ rfl) h.2.2
noncomputable def ZFM {ρ:Type} (g:Nat->Option ρ):Option ρ :=
 open Classical in if h:∃ r n,g n=some r then some (Classical.choose h) else none
theorem ZvM {ρ:Type} {g:Nat->Option ρ} {r:ρ} (h:ZFM g=some r):∃ n,g n=some r:=by
 unfold ZFM at h;split at h
 ·rename_i hx
  obtain ⟨n,hn⟩:=Classical.choose_spec hx;injection h with h;rw[h] at hn;exact ⟨n,hn⟩
 ·cases h
end Go.Sx
namespace Go.Sx
set_option linter.unusedVariables false
set_option linter.unusedSimpArgs false
open Go.RowKit Go.ChangeShapes Go.WideShapes
mutual
def Za6 (P:Program):Ty->TypeId->Bool
 | .int k,T=>ZxQ k (P.underlying T)
 | .bool,T=>Zui (P.underlying T)
 | .str,T=>ZxR (P.underlying T)
 | .sl t,T=>match P.underlying T with
  | some (.slice e)=>Za6 P t e&&P.cellsOf e == t.size&&decide (0<t.size)
  | _=>false
 | .pair a b,T=>match P.underlying T with
  | some (.struct fs)=>match fs.toList with
   | f::fl=>Za6 P a f.type&&f.offset == 0&&P.cellsOf f.type == a.size&&Zkc P b fl a.size&&P.cellsOf T == a.size+b.size
   | []=>false
  | _=>false
 | _,_=>false
def Zkc (P:Program):Ty->List Field->Nat->Bool
 | .unit,fl,_=>fl.isEmpty
 | .pair a b,fl,o=>match fl with
  | f::fl=>Za6 P a f.type&&f.offset == o&&P.cellsOf f.type == a.size&&Zkc P b fl (o+a.size)
  | []=>false
 | _,_,_=>false
end
def bnd:(t:Ty)->t.den->Prop
 | .int k,n=>k.min<=n/\n<=k.max
 | .str,s=>(s.length:Int)<=9223372036854775807
 | .sl t,l=>(l.length:Int)<=9223372036854775807/\∀ x∈l,bnd t x
 | .pair a b,d=>bnd a d.1/\bnd b d.2
 | _,_=>True
section
variable {H:Type} {enc:TypeId×Value->H} {P:Program} {w:World} {spare:Nat->Bool} {held:Bool}
theorem ZFY (s:ByteArray):(⟨s.data.toList.toArray⟩:ByteArray)=s:=by
 cases s;simp
theorem ZAV {t:Ty} {S:Nat->Prop} {p:Addr} {n:Nat} (hn:t.size=n):∀ (len:Nat) (css:List (List Value)),css.length=len->
  (∀ (i:Nat) (cs:List Value),css[i]?=some cs->cs.length=n/\∃ d:t.den,rep S w t d cs/\bnd t d)->
  ∃ l:List t.den,l.length=len/\QL (rep S w t) l css.flatten/\∀ x∈l,bnd t x:=by
 intro len;induction len with
 | zero =>
  intro css hl _;have:css=[]:=List.eq_nil_of_length_eq_zero hl;subst this;exact ⟨[],rfl,rfl,by simp⟩
 | succ len ih =>
  intro css hl h;cases css with
  | nil=>simp at hl
  | cons cs css =>
   obtain ⟨_,d,hd,hb⟩:=h 0 cs rfl;obtain ⟨l,h1,h2,h3⟩:=ih css (by simpa using hl) (λi c hc=>h (i+1) c (by simpa using hc));refine ⟨d::l,by simp[h1],⟨cs,css.flatten,by simp,hd,h2⟩,?_⟩;intro x hx;rcases List.mem_cons.1 hx with rfl | hx
   ·exact hb
   ·exact h3 x hx
theorem ZqV {n:Nat}:∀ (css:List (List Value)) (_:∀ cs∈css,cs.length=n) (i j:Nat) (cs:List Value) (_:css[i]?=some cs) (_:j<n),css.flatten[i*n+j]?=cs[j]?
 | [],_,i,j,cs,h,_=>by simp at h
 | c::css,hl,0,j,cs,h,hj=>by
  simp at h;subst h;have:=hl c (by simp);simp[List.getElem?_append_left (show j<c.length by omega)]
 | c::css,hl,i+1,j,cs,h,hj=>by
  have hc:=hl c (by simp);have:=ZqV css (λx hx=>hl x (by simp[hx])) i j cs (by simpa using h) hj;rw[List.flatten_cons,List.getElem?_append_right (by rw[hc,Nat.succ_mul];omega),hc,show (i+1)*n+j-n=i*n+j by rw[Nat.succ_mul];omega];exact this
theorem ZqW {n:Nat}:∀ (css:List (List Value)) (_:∀ cs∈css,cs.length=n),css.flatten.length=css.length*n
 | [],_=>by simp
 | c::css,hl=>by
  have hc:=hl c (by simp);have:=ZqW css (λx hx=>hl x (by simp[hx]));simp only[List.flatten_cons,List.length_append,List.length_cons,this,hc,Nat.succ_mul];omega
mutual
theorem ZqE:∀ (ty:Ty) (fuel:Nat) (T:TypeId) (cs:List Value) (x:DataW H×List MemPlace),Za6 P ty T=true->DataW.trod enc P w 0 spare held fuel T cs=some x->
  ∃ d:ty.den,rep (λb=>b<w.heap.size) w ty d cs/\bnd ty d
 | .int k,fuel,T,cs,x,hf,h=>by
  simp only[Za6] at hf;obtain ⟨n,h1,_,hw⟩:=DataW.trod_int (Zlj hf) h;exact ⟨n,h1,(by simpa[Go.Lit.wf] using hw:k.min<=n/\n<=k.max)⟩
 | .bool,fuel,T,cs,x,hf,h=>by
  simp only[Za6] at hf;obtain ⟨b,h1,_⟩:=DataW.trod_bool (ZoM hf) h;exact ⟨b,h1,trivial⟩
 | .str,fuel,T,cs,x,hf,h=>by
  simp only[Za6] at hf;obtain ⟨s,h1,_,hs⟩:=DataW.trod_string (Zri hf) h;refine ⟨s.data.toList,?_,?_⟩
  ·show cs=[.string ⟨s.data.toList.toArray⟩]
   rw[h1,ZFY]
  ·show ((s.data.toList.length:Nat):Int)<=_
   clear h h1;have:s.data.toList.length=s.size:=by cases s;rfl
   unfold maxLen at hs;omega
 | .sl t,fuel,T,cs,x,hf,h=>by
  unfold Za6 at hf;split at hf
  ·rename_i e hu
   simp only[Bool.and_eq_true,beq_iff_eq,decide_eq_true_eq] at hf;obtain ⟨⟨hf,hsz⟩,hpos⟩:=hf;rcases DataW.trod_slice hu h with ⟨h1,_⟩ | ⟨a,len,cap,elems,rest,n,rfl,rfl,_,_,hlc,hcap,hel,hget,_⟩
   ·refine ⟨[],?_,by show ((0:Nat):Int)<=9223372036854775807;omega,λx hx=>(by cases hx)⟩
    show rep _ w (.sl t) [] cs;exact ⟨none,0,by rw[h1];rfl,by simp,λ_=>rfl,.inl rfl⟩
   ·-- the elements' cells
    have hcss:∃ css:List (List Value),css.length=len/\∀ (i:Nat) (c:List Value),css[i]?=some c->w.cells? 0 (a.add (i*t.size)) t.size=some c/\∃ d:t.den,rep (λb=>b<w.heap.size) w t d c/\bnd t d:=by
     have:∀ m,m<=len->∃ css:List (List Value),css.length=m/\∀ (i:Nat) (c:List Value),css[i]?=some c->w.cells? 0 (a.add (i*t.size)) t.size=some c/\∃ d:t.den,rep (λb=>b<w.heap.size) w t d c/\bnd t d:=by
      intro m;induction m with
      | zero=>intro _;exact ⟨[],rfl,by simp⟩
      | succ m ih =>
       intro hm;obtain ⟨css,h1,h2⟩:=ih (by omega);have hg:=hget m (by omega);rw[List.getElem?_eq_getElem (by omega)] at hg;obtain ⟨c,hc,hcx⟩:=Option.bind_eq_some_iff.1 hg;rw[hsz] at hc;obtain ⟨d,hd,hb⟩:=ZqE t n e c _ hf hcx;refine ⟨css++[c],by simp[h1],λi c' hi=>?_⟩;by_cases him:i<m
       ·rw[List.getElem?_append_left (by omega)] at hi
        exact h2 i c' hi
       ·have:i=m:=by
         have:=(List.getElem?_eq_some_iff.1 hi).1;simp[h1] at this;omega
        subst this;rw[List.getElem?_append_right (by omega),h1] at hi;simp at hi;subst hi;exact ⟨hc,d,hd,hb⟩
     exact this len (Nat.le_refl _)
    obtain ⟨css,hcl,hcs⟩:=hcss;have hlens:∀ c∈css,c.length=t.size:=by
     intro c hc;obtain ⟨i,hi⟩:=List.mem_iff_getElem?.1 hc;exact (World.cells?_some (hcs i c hi).1).2.1
    obtain ⟨l,hl,hr,hb⟩:=ZAV (S:=λb=>b<w.heap.size) (w:=w) (t:=t) (p:=a) rfl len css hcl (λi c hi=>⟨hlens c (List.mem_of_getElem? hi),(hcs i c hi).2⟩);refine ⟨l,?_,by unfold maxLen at hcap;omega,hb⟩;refine ⟨some a,cap,by rw[hl],by omega,λe=>(by cases e),?_⟩;cases css with
    | nil =>
     left;simp at hcl;exact List.eq_nil_of_length_eq_zero (by omega)
    | cons c0 css =>
     right;have h0:=(hcs 0 c0 rfl).1;rw[Nat.zero_mul] at h0;have ha0:a.add 0=a:=by unfold Addr.add;simp
     rw[ha0] at h0;have hspot:a.spot=none:=by
      have h1:=(World.cells?_some h0).2.2 0 hpos;rw[ha0] at h1;have hlen0:=(World.cells?_some h0).2.1;rw[List.getElem?_eq_getElem (by omega)] at h1;unfold World.cell? at h1;split at h1
      ·split at h1
       ·cases h1
       ·rename_i hs;simpa using hs
      ·cases h1
     refine ⟨a,(c0::css).flatten,rfl,hspot,World.cells?_block h0 hpos,λj u hu=>?_,hr⟩;have hjl:=(List.getElem?_eq_some_iff.1 hu).1;rw[ZqW _ hlens] at hjl;have hdm:j / t.size*t.size+j % t.size=j:=by rw[Nat.mul_comm];exact Nat.div_add_mod j t.size
     have hq:j / t.size<(c0::css).length:=by rw[Nat.div_lt_iff_lt_mul hpos];exact hjl
     obtain ⟨c,hc⟩:∃ c,(c0::css)[j / t.size]?=some c:=⟨_,List.getElem?_eq_getElem hq⟩;have h2:=ZqV (c0::css) hlens (j / t.size) (j % t.size) c hc (Nat.mod_lt _ hpos);rw[hdm,hu] at h2;have h3:=(World.cells?_some (hcs _ c hc).1).2.2 (j % t.size) (Nat.mod_lt _ hpos);rw[add_add _ _ _ hspot,hdm] at h3;rw[h3];exact h2.symm
  ·cases hf
 | .pair a b,fuel,T,cs,x,hf,h=>by
  unfold Za6 at hf;split at hf
  ·rename_i fs hu
   split at hf
   ·rename_i f fl hfl
    simp only[Bool.and_eq_true,beq_iff_eq] at hf;obtain ⟨⟨⟨⟨h1,h2⟩,h3⟩,h4⟩,h5⟩:=hf;obtain ⟨xs,n,rfl,_,hlen,hxl,hget⟩:=DataW.trod_struct hu h;have hsz:fs.size=fl.length+1:=by
     have:=congrArg List.length hfl;simpa using this
    have hf0:fs[0]?=some f:=by
     have:=congrArg (·[0]?) hfl;simpa using this
    have hg:=hget 0 f hf0;rw[List.getElem?_eq_getElem (by omega),h2,h3] at hg;obtain ⟨d,hd,hb⟩:=ZqE a n f.type _ _ h1 hg;have hrest:∀ (i:Nat) (g:Field),fl[i]?=some g->∃ y,DataW.trod enc P w 0 spare held n g.type ((cs.drop g.offset).take (P.cellsOf g.type))=some y:=by
     intro i g hgi;have hg1:fs[i+1]?=some g:=by
      have:=congrArg (·[i+1]?) hfl;simp only[List.getElem?_cons_succ,hgi,Array.getElem?_toList] at this;exact this
     have:=hget (i+1) g hg1;have hi:=(List.getElem?_eq_some_iff.1 hgi).1;rw[List.getElem?_eq_getElem (by omega)] at this;exact ⟨_,this⟩
    obtain ⟨d2,hd2,hb2⟩:=Zwd b n fl a.size cs h4 (by omega) hrest;refine ⟨(d,d2),⟨(cs.drop 0).take a.size,cs.drop a.size,by simp,hd,hd2⟩,hb,hb2⟩
   ·cases hf
  ·cases hf
 | .unit,_,_,_,_,hf,_=>by simp[Za6] at hf
 | .ptr _,_,_,_,_,hf,_=>by simp[Za6] at hf
 | .fn _ _,_,_,_,_,hf,_=>by simp[Za6] at hf
 | .nptr _,_,_,_,_,hf,_=>by simp[Za6] at hf
 | .mp _ _,_,_,_,_,hf,_=>by simp[Za6] at hf
theorem Zwd:∀ (ty:Ty) (n:Nat) (fl:List Field) (o:Nat) (cs:List Value),Zkc P ty fl o=true->cs.length=o+ty.size->
  (∀ (i:Nat) (g:Field),fl[i]?=some g->∃ y,DataW.trod enc P w 0 spare held n g.type ((cs.drop g.offset).take (P.cellsOf g.type))=some y)->
  ∃ d:ty.den,rep (λb=>b<w.heap.size) w ty d (cs.drop o)/\bnd ty d
 | .unit,n,fl,o,cs,hf,hl,h=>by
  refine ⟨(),?_,trivial⟩;show cs.drop o=[];simp only[Ty.size] at hl;exact List.drop_eq_nil_of_le (by omega)
 | .pair a b,n,fl,o,cs,hf,hl,h=>by
  unfold Zkc at hf;split at hf
  ·rename_i f fl
   simp only[Bool.and_eq_true,beq_iff_eq] at hf;obtain ⟨⟨⟨h1,h2⟩,h3⟩,h4⟩:=hf;obtain ⟨y,hy⟩:=h 0 f rfl;rw[h2,h3] at hy;obtain ⟨d,hd,hb⟩:=ZqE a n f.type _ _ h1 hy;obtain ⟨d2,hd2,hb2⟩:=Zwd b n fl (o+a.size) cs h4 (by simp only[Ty.size] at hl;omega) (λi g hg=>h (i+1) g (by simpa using hg));refine ⟨(d,d2),⟨(cs.drop o).take a.size,cs.drop (o+a.size),?_,hd,hd2⟩,hb,hb2⟩;rw[<-List.drop_drop];exact (List.take_append_drop _ _).symm
  ·cases hf
 | .int _,_,_,_,_,hf,_,_=>by simp[Zkc] at hf
 | .bool,_,_,_,_,hf,_,_=>by simp[Zkc] at hf
 | .str,_,_,_,_,hf,_,_=>by simp[Zkc] at hf
 | .sl _,_,_,_,_,hf,_,_=>by simp[Zkc] at hf
 | .ptr _,_,_,_,_,hf,_,_=>by simp[Zkc] at hf
 | .fn _ _,_,_,_,_,hf,_,_=>by simp[Zkc] at hf
 | .nptr _,_,_,_,_,hf,_,_=>by simp[Zkc] at hf
 | .mp _ _,_,_,_,_,hf,_,_=>by simp[Zkc] at hf
end
theorem ZBj {ty:Ty} {T:TypeId} {v:Value} {d:DataW H} {ps:List MemPlace} {base:Nat} (hf:Za6 P ty T=true) (hok:Value.okWide P w .any base T v) (h:DataW.Trod enc P w 0 spare held T v d ps) :
  ∃ x:ty.den,ZFP (λb=>b<w.heap.size) w ty x v/\bnd ty x:=by
 obtain ⟨fuel,h⟩:=h;obtain ⟨x,hx,hb⟩:=ZqE ty fuel T _ _ hf h;refine ⟨x,⟨?_,?_,hx⟩,hb⟩
 ·intro ha
  cases ty with
  | pair a b =>
   unfold Za6 at hf;split at hf
   ·rename_i fs hu
    obtain ⟨cs,hcs,_⟩:=okWide_struct hu hok;exact ⟨cs,hcs⟩
   ·cases hf
  | unit=>simp[Za6] at hf
  | _=>simp[Ty.agg] at ha
 ·intro ha
  have hna:∀ cs,v≠.agg cs:=by
   intro cs e;subst e;cases ty with
   | int k=>simp only[Za6] at hf;simp[Value.okWide,Zlj hf,Cell.okWide,Cell.ok] at hok
   | bool=>simp only[Za6] at hf;simp[Value.okWide,ZoM hf,Cell.okWide,Cell.ok] at hok
   | str=>simp only[Za6] at hf;simp[Value.okWide,Zri hf,Cell.okWide,Cell.ok] at hok
   | sl t =>
    unfold Za6 at hf;split at hf
    ·rename_i e hu;simp[Value.okWide,hu,Cell.okWide,Cell.ok] at hok
    ·cases hf
   | pair a b=>simp[Ty.agg] at ha
   | unit=>simp[Ty.agg] at ha
   | ptr _=>simp[Za6] at hf
   | fn _ _=>simp[Za6] at hf
   | nptr _=>simp[Za6] at hf
   | mp _ _=>simp[Za6] at hf
  cases v<;>first | rfl | exact absurd rfl (hna _)
def ZpE:List Ty->List Sh
 | []=>[]
 | t::r=>.dat t::ZpE r
def ZHU:(l:List Ty)->Shs (ZpE l)->Prop
 | [],_=>True
 | t::r,d=>bnd t d.1/\ZHU r d.2
def ZoC (P:Program):List Ty->List TypeId->Bool
 | [],[]=>true
 | t::r,T::q=>Za6 P t T&&ZoC P r q
 | _,_=>false
theorem Zsk {base:Nat}:∀ (l:List Ty) (ts:List TypeId) (vs:List Value) (ds:List (DataW H)) (p:List MemPlace),ZoC P l ts=true->
  (∀ (j:Nat) t v,ts[j]?=some t->vs[j]?=some v->Value.okWide P w .any base t v)->DataW.TrodAll enc P w 0 spare held ts vs ds p->
  ∃ as:Shs (ZpE l),ZeA (λb=>b<w.heap.size) w (ZpE l) as vs []/\ZHU l as
 | [],[],vs,ds,p,_,_,h=>by
  obtain ⟨rfl,_,_⟩:=trodAll_nil h;exact ⟨(),⟨rfl,rfl⟩,trivial⟩
 | t::r,T::q,vs,ds,p,hf,hok,h=>by
  simp only[ZoC,Bool.and_eq_true] at hf;obtain ⟨v,vs',d,ds',p1,p2,rfl,rfl,rfl,h1,h2⟩:=trodAll_cons h;obtain ⟨x,hx,hb⟩:=ZBj hf.1 (hok 0 T v rfl rfl) h1;obtain ⟨as,has,hbs⟩:=Zsk r q vs' ds' p2 hf.2 (λj t v hj hv=>hok (j+1) t v (by simpa using hj) (by simpa using hv)) h2;exact ⟨(x,as),⟨v,vs',[],[],rfl,rfl,⟨rfl,hx⟩,has⟩,hb,hbs⟩
 | [],_::_,_,_,_,hf,_,_=>by simp[ZoC] at hf
 | _::_,[],_,_,_,hf,_,_=>by simp[ZoC] at hf
theorem Zos (hl:laidOutB P=true) {W W':World} (hb:Below W.heap.size W W'):∀ (ts:List TypeId) (vs:List Value) (ds:List (DataW H)) (p:List MemPlace),(ts.all λt=>P.readableRec t&&decide (t<P.types.size))=true->
  DataW.TrodAll enc P W 0 (λ_=>true) true ts vs ds p->(∀ x∈p,x.block<W.heap.size)->DataW.TrodAll enc P W' 0 (λb=>decide (b<W.heap.size)) true ts vs ds p
 | [],vs,ds,p,_,h,_=>by
  obtain ⟨rfl,rfl,rfl⟩:=trodAll_nil h;rfl
 | t::ts,vs,ds,p,hr,h,hlt=>by
  simp only[List.all_cons,Bool.and_eq_true,decide_eq_true_eq] at hr;obtain ⟨v,vs',d,ds',p1,p2,rfl,rfl,rfl,h1,h2⟩:=trodAll_cons h;exact ⟨p1,p2,Below.trod hl hr.1.1 hr.1.2 h1 hb (λx hx=>hlt x (by simp[hx])),Zos hl hb ts vs' ds' p2 hr.2 h2 (λx hx=>hlt x (by simp[hx])),rfl⟩
theorem ZAs {f:FuncId} {l:List Ty} {tr:Shs (ZpE l)->(Shs [.dat .bool]->Ios (ZpE l)->Prop)->Prop} (hC:Za P f ⟨ZpE l,[.dat .bool],tr⟩)
  (htrue:∀ as:Shs (ZpE l),ZHU l as->tr as (λr _=>r.1=true)) {ts:List TypeId} {args:Array Value} {ds:List (DataW H)} {p:List MemPlace} {base:Nat} (hf:ZoC P l ts=true)
  (hok:∀ (j:Nat) t v,ts[j]?=some t->args[j]?=some v->Value.okWide P w .any base t v) (h:DataW.TrodAll enc P w 0 spare held ts args.toList ds p) (hG:Zma (λb=>b<w.heap.size) w:=by intro p hp;simp[globs] at hp) :
  Calls P f args w λe w'=>e=.returned (.bool true)/\Below w.heap.size w w':=by
 obtain ⟨as,has,hb⟩:=Zsk l ts args.toList ds p hf (λj t v hj hv=>hok j t v hj (by simpa using hv)) h;have hc:=hC.2 w (λb=>b<w.heap.size) args.toList as [] (λr _=>r.1=true) (λb h=>h) hG has List.nodup_nil (by simp) (htrue as hb);have he:args.toList.toArray=args:=by simp
 rw[he] at hc;refine hc.mono ?_;rintro e w' ⟨v,us,rs,ios,S',fr,fio,rfl,hret,hr,hk,hS,hS2,hs,_⟩;obtain ⟨u,ur,f1,f2,rfl,_,⟨_,hu⟩,hur⟩:=hs;obtain ⟨rfl,_⟩:=hur;simp only[retv] at hret;subst hret;refine ⟨?_,hk.os,hk.tape,hk.output,hk.size,λb hb=>hk.block b hb (by simp)⟩;obtain ⟨h1,h2,h3⟩:=hu;have hv:=h2 rfl;rw[hv] at h3;have h4:[v]=[.bool rs.1]:=h3;simp at h4;rw[h4,hr]
end
end Go.Sx
