/-
  Maps: made, looked up, written. Keys: numbers, and structs of numbers.
-/
import Derived.Test.YtioiomifapgimaaGreatDoorE0
import Derived.MapKept
import Derived.Orders
import Derived.KernelRfl
import Derived.ProofKit
import Derived.Below
import Derived.Carry
namespace Go.Sx
set_option linter.unusedVariables false
set_option linter.unusedSimpArgs false
def Znc:EqD->Nat->Ty->Bool
 | .nil,_,.unit=>true
 | .int k o r,n,.pair (.int k') t=>decide (k=k')&&decide (o=n)&&Znc r (n+1) t
 | _,_,_=>false
def Zvq (ti:TI) (t:Ty):Bool:=match ti.kind with
 | .int k=>decide (t=.int k)
 | .st=>!ti.eqd.isNil&&decide (ti.eqd.depth<=1000)&&Znc ti.eqd 0 t
 | _=>false
def keq:(t:Ty)->t.den->t.den->Bool
 | .int _,x,y=>decide (x=y)
 | .pair a b,x,y=>keq a x.1 y.1&&keq b x.2 y.2
 | _,_,_=>true
def ZgK (k v:Ty):List (k.den×v.den)->k.den->Option v.den
 | [],_=>none
 | d::l,x=>if keq k x d.1=true then some d.2 else ZgK k v l x
def ZnR (k v:Ty):List (k.den×v.den)->k.den->v.den->List (k.den×v.den)
 | [],x,y=>[(x,y)]
 | d::l,x,y=>if keq k x d.1=true then (x,y)::l else d::ZnR k v l x y
def fnd {k v:Ty}:List (k.den×v.den)->k.den->List MapEntry->Nat->Option (Nat×Value)
 | [],_,_,_=>none
 | d::l,x,es,i=>match es with
  | []=>none
  | e::r=>if keq k x d.1=true then some (i,e.val) else fnd l x r (i+1)
theorem Zoi {k v:Ty} {R:k.den->List Value->Prop} {Q:v.den->List Value->Prop} {ka va:Bool} {x:k.den}:∀ (d:List (k.den×v.den)) (es:List MapEntry) (i:Nat),Zcv R Q ka va d es->
  (fnd d x es i=none/\ZgK k v d x=none)\/∃ j u y e kd,fnd d x es i=some (i+j,u)/\ZgK k v d x=some y/\Zgc va u/\Q y u.cells.toList/\es[j]?=some e/\keq k x kd=true/\Zgc ka e.key/\R kd e.key.cells.toList
 | [],es,i,h=>.inl ⟨rfl,rfl⟩
 | d::l,es,i,⟨e,r,e1,f1,r1,f2,r2,rs⟩=>by
  subst e1;by_cases hq:keq k x d.1=true
  ·exact .inr ⟨0,e.val,d.2,e,d.1,by simp[fnd,hq],by simp[ZgK,hq],f2,r2,rfl,hq,f1,r1⟩
  ·rcases Zoi (x:=x) l r (i+1) rs with ⟨h1,h2⟩ | ⟨j,u,y,e',kd,h1,h2,h3,h4,h5,h6⟩
   ·exact .inl ⟨by simp[fnd,hq,h1],by simp[ZgK,hq,h2]⟩
   ·exact .inr ⟨j+1,u,y,e',kd,by simp only[fnd,hq,if_false,h1];simp;omega,by simp[ZgK,hq,h2],h3,h4,by simpa using h5,h6⟩
theorem Zrd {k v:Ty} {R:k.den->List Value->Prop} {Q:v.den->List Value->Prop} {ka va:Bool} {x:k.den} {y:v.den} {kv vv:Value} {born:Nat} (hk:Zgc ka kv) (hR:R x kv.cells.toList) (hv:Zgc va vv) (hQ:Q y vv.cells.toList) :
  ∀ (d:List (k.den×v.den)) (es:List MapEntry) (i:Nat),Zcv R Q ka va d es->fnd d x es i=none->Zcv R Q ka va (ZnR k v d x y) (es++[⟨kv,vv,born⟩])
 | [],es,i,h,_=>by
  have:es=[]:=h;subst this;exact ⟨⟨kv,vv,born⟩,[],rfl,hk,hR,hv,hQ,rfl⟩
 | d::l,es,i,⟨e,r,e1,f1,r1,f2,r2,rs⟩,hf=>by
  subst e1;by_cases hq:keq k x d.1=true
  ·simp[fnd,hq] at hf
  ·simp only[fnd,if_neg hq] at hf
   have:=Zrd (born:=born) hk hR hv hQ l r (i+1) rs hf;simp only[ZnR,if_neg hq];exact ⟨e,r++[⟨kv,vv,born⟩],rfl,f1,r1,f2,r2,this⟩
theorem Zre {k v:Ty} {R:k.den->List Value->Prop} {Q:v.den->List Value->Prop} {ka va:Bool} {x:k.den} {y:v.den} {kv vv:Value} (hk:Zgc ka kv) (hR:R x kv.cells.toList) (hv:Zgc va vv) (hQ:Q y vv.cells.toList) :
  ∀ (d:List (k.den×v.den)) (es:List MapEntry) (i j:Nat) (u:Value),Zcv R Q ka va d es->fnd d x es i=some (i+j,u)->Zcv R Q ka va (ZnR k v d x y) (es.modify j λe=>{e with key:=kv,val:=vv})
 | [],es,i,j,u,h,hf=>by simp[fnd] at hf
 | d::l,es,i,j,u,⟨e,r,e1,f1,r1,f2,r2,rs⟩,hf=>by
  subst e1;by_cases hq:keq k x d.1=true
  ·simp only[fnd,hq,if_true] at hf
   have:j=0:=by
    grind
   subst this;simp only[ZnR,hq,if_true,List.modify_zero_cons];exact ⟨_,r,rfl,hk,hR,hv,hQ,rs⟩
  ·simp only[fnd,if_neg hq] at hf
   cases j with
   | zero =>
    rcases Zoi (x:=x) l r (i+1) rs with ⟨h1,_⟩ | ⟨j',u',y',e',kd,h1,_⟩;all_goals grind
   | succ j =>
    have:=Zre hk hR hv hQ l r (i+1) j u rs (by grind);simp only[ZnR,if_neg hq,List.modify_succ_cons];exact ⟨e,_,rfl,f1,r1,f2,r2,this⟩
section
variable {P:Program}
open Go.MapKept
theorem Qy {q:EqD} {o:Nat} {t:Ty} (h:Znc q o t=true):(q=.nil/\t=.unit)\/∃ k r t',q=.int k o r/\t=.pair (.int k) t'/\Znc r (o+1) t'=true:=by
 unfold Znc at h;grind
theorem ZtL {S:Nat->Prop} {w:World}:∀ (q:EqD) (o:Nat) (t:Ty),Znc q o t=true->∀ (x y:t.den) (vs us:List Value),rep S w t x vs->rep S w t y us->keq t x y=true->vs=us/\∀ u∈vs,∃ k n,u=.int k n:=by
 intro q;induction q with
 | nil =>
  intro o t h x y vs us h1 h2 _;rcases Qy h with ⟨_,rfl⟩ | ⟨_,_,_,e,_⟩
  ·have h1:vs=[]:=h1
   have h2:us=[]:=h2;rw[h1,h2];simp
  ·cases e
 | int k o' r ih =>
  intro o t h x y vs us h1 h2 hq;rcases Qy h with ⟨e,_⟩ | ⟨k',r',t',e,rfl,hr⟩
  ·cases e
  ·injection e with e1 e2 e3
   subst e1;subst e2;subst e3;obtain ⟨v1,v2,e1,h1,h2'⟩:=h1;obtain ⟨u1,u2,e2,h3,h4⟩:=h2;simp only[keq,Bool.and_eq_true,decide_eq_true_eq] at hq;obtain ⟨a,b⟩:=ih _ t' hr x.2 y.2 v2 u2 h2' h4 hq.2;have h1:v1=[.int k x.1]:=h1;have h3:u1=[.int k y.1]:=h3;grind
 | bool o' r ih=>intro o t h;rcases Qy h with ⟨e,_⟩ | ⟨_,_,_,e,_⟩<;>cases e
 | str o' r ih=>intro o t h;rcases Qy h with ⟨e,_⟩ | ⟨_,_,_,e,_⟩<;>cases e
 | st o' sz fs r ih1 ih2=>intro o t h;rcases Qy h with ⟨e,_⟩ | ⟨_,_,_,e,_⟩<;>cases e
theorem Zps {S:Nat->Prop} {w:World} {n:Nat}:∀ (q:EqD) (o:Nat) (t:Ty) (fl:List Field),Znc q o t=true->q.fits P fl=true->∀ (x y:t.den) (p1 p2 vs us:List Value),p1.length=o->p2.length=o->rep S w t x vs->rep S w t y us->∀ w',
  (Op.eqFields (n+1) (p1++vs).toArray (p2++us).toArray fl).run P w'=.ok (keq t x y) w':=by
 intro q;induction q with
 | nil =>
  intro o t fl h hf x y p1 p2 vs us l1 l2 h1 h2 w';rcases Qy h with ⟨_,rfl⟩ | ⟨_,_,_,e,_⟩
  ·simp only[EqD.fits,List.isEmpty_iff] at hf
   subst hf;rfl
  ·cases e
 | int k o' r ih =>
  intro o t fl h hf x y p1 p2 vs us l1 l2 h1 h2 w';rcases Qy h with ⟨e,_⟩ | ⟨k',r',t',e,rfl,hr⟩
  ·cases e
  ·injection e with e1 e2 e3
   subst e1;subst e2;subst e3;cases fl with
   | nil=>simp[EqD.fits] at hf
   | cons f fl =>
    simp only[EqD.fits,Bool.and_eq_true,bne_iff_ne,beq_iff_eq] at hf;obtain ⟨⟨⟨f1,f2⟩,f3⟩,f4⟩:=hf;obtain ⟨v1,v2,e1,h1,h2'⟩:=h1;obtain ⟨u1,u2,e2,h3,h4⟩:=h2;have h1:v1=[.int k x.1]:=h1;have h3:u1=[.int k y.1]:=h3;subst h1;subst h3;subst e1;subst e2;have hty:=Zhb f3;have ih':=ih _ t' fl hr f4 x.2 y.2 (p1++[.int k x.1]) (p2++[.int k y.1]) v2 u2 (by simp[l1]) (by simp[l2]) h2' h4 w';simp only[List.append_assoc] at ih';refine ZbT f1 (Zcb hty rfl (v:=.int k x.1) ?_ w') (Zcb hty rfl (v:=.int k y.1) ?_ w') (by rw[run_equalIn_int w' n f.type k k x.1 y.1 hty,ZaO];rfl) ih';all_goals simp_all
 | bool o' r ih=>intro o t fl h;rcases Qy h with ⟨e,_⟩ | ⟨_,_,_,e,_⟩<;>cases e
 | str o' r ih=>intro o t fl h;rcases Qy h with ⟨e,_⟩ | ⟨_,_,_,e,_⟩<;>cases e
 | st o' sz fs r ih1 ih2=>intro o t fl h;rcases Qy h with ⟨e,_⟩ | ⟨_,_,_,e,_⟩<;>cases e
theorem ZkA {T:TypeId} {k:IntKind} (h:P.underlying T=some (.int k)) (em:Bool) (n:Nat) (k':IntKind) (a:Int) (w:World):(Instr.checkKey em (n+1) T (.int k' a)).run P w=.ok () w:=by
 unfold Instr.checkKey;simp only[Sem.run_bind,run_underlying h,Result.andThen_ok];rfl
theorem ZtM {T:TypeId} {fs:Array Field} (hu:P.underlying T=some (.struct fs)) (em:Bool) {S:Nat->Prop} {w0:World} {q:EqD} {t:Ty} (hq:Znc q 0 t=true) (hf:q.fits P fs.toList=true) (n:Nat) {x:t.den} {vs:List Value} (hr:rep S w0 t x vs) (w:World) :
  (Instr.checkKey em (n+2) T (.agg vs.toArray)).run P w=.ok () w:=by
 rw[show n+2=(n+1)+1 from rfl,Instr.checkKey];simp only[Sem.run_bind,run_underlying hu,Result.andThen_ok];rw[<-Array.forIn_toList];generalize fs.toList=L at hf;have gen:∀ (q:EqD) (o:Nat) (t:Ty) (L:List Field),Znc q o t=true->q.fits P L=true->∀ (x:t.den) (pre us:List Value),pre.length=o->pre++us=vs->rep S w0 t x us->
   (forIn L PUnit.unit λf r=>do
    if f.name≠ "_" then do
     let v <-part f.type vs.toArray f.offset
     Instr.checkKey em (n+1) f.type v
     pure (ForInStep.yield PUnit.unit)
    else pure (ForInStep.yield PUnit.unit):Sem PUnit).run P w=.ok () w:=by
  intro q;induction q with
  | nil =>
   intro o t L h hf x pre us _ _ _;rcases Qy h with ⟨_,rfl⟩ | ⟨_,_,_,e,_⟩
   ·simp only[EqD.fits,List.isEmpty_iff] at hf
    subst hf;simp
   ·cases e
  | int k o' r ih =>
   intro o t L h hf x pre us hl he hr;rcases Qy h with ⟨e,_⟩ | ⟨k',r',t',e,rfl,hr'⟩
   ·cases e
   ·injection e with e1 e2 e3
    subst e1;subst e2;subst e3;cases L with
    | nil=>simp[EqD.fits] at hf
    | cons f L =>
     simp only[EqD.fits,Bool.and_eq_true,bne_iff_ne,beq_iff_eq] at hf;obtain ⟨⟨⟨f1,f2⟩,f3⟩,f4⟩:=hf;obtain ⟨v1,v2,e1,h1,h2'⟩:=hr;have h1:v1=[.int k x.1]:=h1;subst h1;subst e1;have hty:=Zhb f3;have p1:=Zcb (P:=P) hty rfl (cs:=vs.toArray) (o:=f.offset) (v:=.int k x.1) (by grind) w;have p2:=ZkA (P:=P) hty em n k x.1 w;have ih':=ih _ t' L hr' f4 x.2 (pre++[.int k x.1]) v2 (by simp[hl]) (by rw[<-he];simp) h2'
     simp_all
  | bool o' r ih=>intro o t L h;rcases Qy h with ⟨e,_⟩ | ⟨_,_,_,e,_⟩<;>cases e
  | str o' r ih=>intro o t L h;rcases Qy h with ⟨e,_⟩ | ⟨_,_,_,e,_⟩<;>cases e
  | st o' sz fs r ih1 ih2=>intro o t L h;rcases Qy h with ⟨e,_⟩ | ⟨_,_,_,e,_⟩<;>cases e
 exact (congrArg (λr=>Result.andThen r _) (gen q 0 t L hq hf x [] vs rfl rfl hr)).trans rfl
structure ZqY (P:Program) (T:TypeId) (t:Ty):Prop where
 check:∀ (S:Nat->Prop) (w0:World) (x:t.den) (v:Value),Zgc t.agg v->rep S w0 t x v.cells.toList->∀ (em:Bool) (w:World),(Instr.checkKey em 10000 T v).run P w=.ok () w
 find:∀ (S:Nat->Prop) (w0:World) (x:t.den) (v:Value),Zgc t.agg v->rep S w0 t x v.cells.toList->∀ (u:Ty) (Q:u.den->List Value->Prop) (va:Bool) (d:List (t.den×u.den)) (es:List MapEntry),Zcv (rep S w0 t) Q t.agg va d es->∀ (w:World),(Instr.findKey T v es).run P w=.ok (fnd d x es 0) w
 stays:∀ (S:Nat->Prop) (w0:World) (x y:t.den) (v v':Value),Zgc t.agg v->rep S w0 t x v.cells.toList->Zgc t.agg v'->rep S w0 t y v'.cells.toList->keq t x y=true->∀ (w:World),(Instr.keyThatStays v' v).run P w=.ok v w
theorem Zsk {T:TypeId} {k:IntKind} (h:P.underlying T=some (.int k)):ZqY P T (.int k) where
 check S w0 x v hf hr em w:=by
  have hc:=hf.2 rfl;rw[hc] at hr;have hr:[v]=[.int k x]:=hr;simp at hr;subst hr;exact ZkA h em 9999 k x w
 find S w0 x v hf hr u Q va d es he w:=by
  have hc:=hf.2 rfl;rw[hc] at hr;have hr:[v]=[.int k x]:=hr;simp at hr;subst hr;have gen:∀ (d:List (Int×u.den)) (es:List MapEntry) (i:Nat),Zcv (rep S w0 (.int k)) Q false va d es->Instr.findNow (.int k) (.int k x) es i=some (fnd (k:=.int k) d x es i):=by
   intro d;induction d with
   | nil =>
    intro es i he;have:es=[]:=he;subst this;rfl
   | cons d l ih =>
    rintro es i ⟨e,r,rfl,f1,r1,f2,r2,rs⟩;have hc1:=f1.2 rfl;rw[hc1] at r1;have r1:[e.key]=[.int k d.1]:=r1;simp at r1;by_cases hq:x=d.1
    ·simp[Instr.findNow,r1,Instr.sameNow,fnd,keq,hq]
    ·have hb:(x == d.1)=false:=by grind
     simp[Instr.findNow,r1,Instr.sameNow,fnd,keq,hq,ih r (i+1) rs,hb]
  have:=gen d es 0 he;unfold Instr.findKey;rw[Sem.run_bind,run_underlying h,Result.andThen_ok,this];rfl
 stays S w0 x y v v' hf hr hf' hr' hq w:=by
  have hc:=hf.2 rfl;rw[hc] at hr;have hr:[v]=[.int k x]:=hr;simp at hr;subst hr;have hc':=hf'.2 rfl;rw[hc'] at hr';have hr':[v']=[.int k y]:=hr';simp at hr';subst hr';simp only[keq,decide_eq_true_eq] at hq;subst hq;simp[Instr.keyThatStays,Instr.sameBits]
theorem ZtK {T:TypeId} {ti:TI} (h:Zbc P T ti) {t:Ty} (hk:ti.kind=.st) (hn:ti.eqd.isNil=false) (hq:Znc ti.eqd 0 t=true):ZqY P T t:=by
 have he:=h.eqd;simp only[hn,Bool.false_or] at he;split at he
 ·rename_i fs hT
  simp only[Bool.and_eq_true,Bool.not_eq_true'] at he;obtain ⟨⟨e1,e2⟩,e3⟩:=he;have hagg:t.agg=true:=by
   rcases Qy hq with ⟨_,rfl⟩ | ⟨_,_,_,_,rfl,_⟩<;>rfl
  have hfo:P.fieldsOf T=fs:=by simp[Program.fieldsOf,hT]
  have heq:∀ (S:Nat->Prop) (w0:World) (x y:t.den) (vs us:List Value),rep S w0 t x vs->rep S w0 t y us->∀ w,(Op.equal T (.agg vs.toArray) (.agg us.toArray)).run P w=.ok (keq t x y) w:=by
   intro S w0 x y vs us h1 h2 w;show (Op.equalIn (9999+1) T _ _).run P w=_;rw[run_equalIn_struct w 9999 T _ _ (by rw[hfo];exact hT) e1,hfo];exact Zps (n:=9998) ti.eqd 0 t fs.toList hq e2 x y [] [] vs us rfl rfl h1 h2 w
  have toA:∀ (v:Value),Zgc t.agg v->v=.agg v.cells.toList.toArray:=by
   intro v hf;obtain ⟨cs,rfl⟩:=hf.1 hagg;simp[Value.cells]
  refine ⟨λS w0 x v hf hr em w=>?_,λS w0 x v hf hr u Q va d es hes w=>?_,λS w0 x y v v' hf hr hf' hr' hxy w=>?_⟩
  ·rw[toA v hf]
   exact ZtM hT em hq e2 9998 hr w
  ·rw[toA v hf]
   have gen:∀ (d:List (t.den×u.den)) (es:List MapEntry) (i:Nat),Zcv (rep S w0 t) Q t.agg va d es->(Instr.findAsking T (.agg v.cells.toList.toArray) es i).run P w=.ok (fnd d x es i) w:=by
    intro d;induction d with
    | nil =>
     intro es i he;have:es=[]:=he;subst this;rfl
    | cons d l ih =>
     rintro es i ⟨e,r,rfl,f1,r1,f2,r2,rs⟩;have:=heq S w0 x d.1 _ _ hr r1 w;rw[<-toA e.key f1] at this;simp only[Instr.findAsking,Sem.run_bind,this,Result.andThen_ok,fnd];by_cases hq:keq t x d.1=true
     ·simp[hq]
     grind
   unfold Instr.findKey;rw[Sem.run_bind,run_underlying hT,Result.andThen_ok];cases es with
   | nil =>
    cases d with
    | nil=>rfl
    | cons=>obtain ⟨_,_,e,_⟩:=hes;cases e
   | cons e r=>exact gen d (e::r) 0 hes
  ·obtain ⟨a,b⟩:=ZtL ti.eqd 0 t hq x y _ _ hr hr' hxy
   rw[toA v hf,toA v' hf',<-a];have hs:Instr.sameBits 10000 (.agg v.cells.toList.toArray) (.agg v.cells.toList.toArray)=true:=by
    show Instr.sameBits (9999+1) _ _=true;simp only[Instr.sameBits,beq_self_eq_true,Bool.true_and,List.all_eq_true];intro p hp;obtain ⟨i,hi⟩:=List.mem_iff_getElem?.1 hp;rw[List.getElem?_zip_eq_some] at hi;have:p.1=p.2:=by
     grind
    obtain ⟨k,m,hkm⟩:=b p.1 (List.mem_of_getElem? hi.1);rw[<-this,hkm];simp[Instr.sameBits]
   unfold Instr.keyThatStays;rw[if_pos hs];rfl
 ·cases he
theorem Zpr {T:TypeId} {ti:TI} (h:Zbc P T ti) {t:Ty} (hk:Zvq ti t=true):ZqY P T t:=by
 unfold Zvq at hk;split at hk
 ·rename_i k hkd
  simp only[decide_eq_true_eq] at hk;subst hk;exact Zsk (h.intOf hkd)
 ·rename_i hkd
  simp only[Bool.and_eq_true,Bool.not_eq_true',decide_eq_true_eq] at hk;exact ZtK h hkd hk.1.1 hk.2
 ·cases hk
def SV.isA:SV->Bool
 | .agg _=>true
 | _=>false
theorem ZtH {E:Env} {s:SV} {v:Value} (h:den E s v) (hw:s.whole=true) {b:Bool} (hb:b=s.isA):Zgc b v:=by
 subst hb;constructor
 ·intro ha
  cases s<;>simp[SV.isA] at ha
  simp only[den] at h;grind
 ·intro ha
  have h1:s.one=true:=by cases s<;>simp_all[SV.isA,SV.whole,SV.one]
  exact (Zhi h h1).1
def ZA1 (t:Ty) (cs:List SV) (K:SV->Prop):Prop :=
 if t.agg=true then K (.agg cs) else match cs with
  | c::_=>K c
  | []=>False
theorem ZwR {E:Env} {t:Ty} {v:Value} (hf:Zgc t.agg v) {cs:List SV} (hd:Z7 E cs v.cells.toList) {K:SV->Prop} (hk:ZA1 t cs K):∃ s,den E s v/\K s:=by
 obtain ⟨h1,h2⟩:=hf;unfold ZA1 at hk;split at hk
 ·rename_i ha
  obtain ⟨cs,rfl⟩:=h1 ha;exact ⟨.agg _,by simp only[den];exact ⟨cs.toList,by simp,hd⟩,hk⟩
 ·rename_i ha
  have hv:=h2 (by simpa using ha);split at hk
  ·rename_i c r
   rw[hv] at hd;simp only[Z7] at hd;grind
  ·exact hk.elim
def Zv9 (b:Bool):Value->Bool
 | .agg _=>b
 | _=>!b
theorem Zwa {b:Bool} {v:Value} (h:Zv9 b v=true):Zgc b v:=by
 cases b
 ·refine ⟨λh=>(by cases h),λ_=>?_⟩
  cases v<;>first | rfl | (simp[Zv9] at h)
 ·refine ⟨λ_=>?_,λh=>(by cases h)⟩
  cases v<;>first | exact ⟨_,rfl⟩ | (simp[Zv9] at h)
def ZBa (s:SV) (H:List Entry) (K:(k v:Ty)->List (k.den×v.den)->Prop):Prop :=
 match s with
 | .mp k v d=>K k v d
 | .mown id=>Zev H id λe=>match e with
  | .mpe k v d=>K k v d
  | .frm k v d=>K k v d
  | _=>False
 | _=>False
def MapAt (E:Env) (x:Value) (k v:Ty) (d:List (k.den×v.den)):Prop :=
 (d=[]/\x=.map none)\/∃ b es clk,x=.map (some b)/\E.w.heap[b]?=some (.map es clk)/\Zcv (rep E.S E.w k) (rep E.S E.w v) k.agg v.agg d es.toList
theorem Zw9 {B:Base} {E:Env} {H:List Entry} (hI:Inv B E H) {s:SV} {x:Value} (hs:den E s x) {K:(k v:Ty)->List (k.den×v.den)->Prop} (hk:ZBa s H K):∃ k v d,MapAt E x k v d/\K k v d:=by
 have data:∀ (k v:Ty) (d:List (k.den×v.den)),rep E.S E.w (.mp k v) d [x]->MapAt E x k v d:=by
  intro k v d h;rcases h with ⟨h1,h2⟩ | ⟨b,es,clk,h1,_,h2,h3⟩
  ·simp at h2;exact .inl ⟨h1,h2⟩
  ·simp at h1;exact .inr ⟨b,es,clk,h1,h2,h3⟩
 unfold ZBa at hk;split at hk
 ·rename_i k v d
  simp only[den] at hs;grind
 ·rename_i id
  obtain ⟨e,he,hk⟩:=YM H hk;simp only[den] at hs;split at hk
  ·rename_i k v d
   obtain ⟨b,es,clk,h1,h2,h3⟩:=hI.ent id _ he;have:=hs.1.symm.trans h1;simp at this;subst this;exact ⟨k,v,d,.inr ⟨b,es,clk,rfl,h2,h3⟩,hk⟩
  ·rename_i k v d
   obtain ⟨u,h1,h2⟩:=hI.ent id _ he;grind
  ·exact hk.elim
 ·exact hk.elim
def Zqw (Δ:Tab) (ti:TI) (x i:SV) (ok:Bool) (H:List Entry) (K:SV->Prop):Prop :=
 match ti.kind with
 | .mp kt et=>ZaV Δ kt λtk=>ZaV Δ et λte=>ZBa x H λk v d =>
  if i.whole=true/\k.agg=i.isA/\Zvq tk k=true/\Zv9 v.agg te.zero=true then Xe k i.cells λkey r1=>match r1 with
   | []=>Zm0 te.zero λzc=>Xe v zc λz r2=>match r2 with
    | []=>XQ v ((ZgK k v d key).getD z) λcs=>ZA1 v cs λs=>if ok=true then K (.tup [s,.bool (ZgK k v d key).isSome]) else K s
    | _=>False
   | _=>False
  else False
 | _=>False
theorem Zbc.map {T:TypeId} {ti:TI} (h:Zbc P T ti) {kt et:TypeId} (hk:ti.kind=.mp kt et):P.underlying T=some (.map kt et):=by
 obtain ⟨d,hd,hk'⟩:=h.get;rw[hk] at hk';cases d<;>simp[ZsR] at hk'
 grind
theorem Zld {E:Env} {vs:List Value} (h:Z7 E [] vs):vs=[]:=by
 cases vs with
 | nil=>rfl
 | cons=>simp[Z7] at h
theorem Zsw {T kt et:TypeId} (hT:P.underlying T=some (.map kt et)) {k:Ty} (KR:ZqY P kt k) {z:Value} (hz:∀ w,(zeroValue et).run P w=.ok z w) {E:Env} {x:Value} {v:Ty} {d:List (k.den×v.den)} (hm:MapAt E x k v d)
  {i:Value} {key:k.den} (hif:Zgc k.agg i) (hir:rep E.S E.w k key i.cells.toList) (ok:Bool) :
  ∃ es,Zcv (rep E.S E.w k) (rep E.S E.w v) k.agg v.agg d es/\(Instr.lookup T x i ok).run P E.w=.ok (if ok=true then .tuple #[((fnd d key es 0).map (·.2)).getD z,.bool (fnd d key es 0).isSome] else ((fnd d key es 0).map (·.2)).getD z) E.w:=by
 have fin:∀ (es:Array MapEntry),Zcv (rep E.S E.w k) (rep E.S E.w v) k.agg v.agg d es.toList->((do
   Instr.checkKey es.isEmpty 10000 kt i
   let (v,okk) <-match <-Instr.findKey kt i es.toList with
    | some (_,v)=>pure (v,true)
    | none=>pure (<-zeroValue et,false)
   pure (if ok then .tuple #[v,.bool okk] else v):Sem Value)).run P E.w=.ok (if ok=true then .tuple #[((fnd d key es.toList 0).map (·.2)).getD z,.bool (fnd d key es.toList 0).isSome] else ((fnd d key es.toList 0).map (·.2)).getD z) E.w:=by
  intro es he;have h1:=KR.check _ _ key i hif hir es.isEmpty E.w;have h2:=KR.find _ _ key i hif hir v _ _ d es.toList he E.w;simp only[Sem.run_bind,h1,h2,Result.andThen_ok];cases fnd d key es.toList 0 with
  | none=>simp[hz]
  | some p=>simp
 rcases hm with ⟨rfl,rfl⟩ | ⟨b,es,clk,rfl,hb,he⟩
 ·refine ⟨[],rfl,?_⟩
  have:=fin #[] rfl;unfold Instr.lookup;simp only[Sem.run_bind,run_underlying hT,Result.andThen_ok,Sem.run_pure] at this ⊢;exact this
 ·refine ⟨es.toList,he,?_⟩
  have:=fin es he;unfold Instr.lookup;simp only[Sem.run_bind,run_underlying hT,Result.andThen_ok,Sem.run_pure,Go.MapKept.run_getObj_map hb] at this ⊢;exact this
theorem Zsv {Δ:Tab} (hΔ:Δ.ok P) {B:Base} {E:Env} {H:List Entry} (hI:Inv B E H) {T:TypeId} {ti:TI} (h:Zbc P T ti) {x i:SV} {vx vi:Value} (hx:den E x vx) (hi:den E i vi) {ok:Bool} {K:SV->Prop} (hk:Zqw Δ ti x i ok H K) :
  ∃ u s,(Instr.lookup T vx vi ok).run P E.w=.ok u E.w/\den E s u/\K s:=by
 unfold Zqw at hk;split at hk
 ·rename_i kt et hkd
  obtain ⟨tk,htk,hk⟩:=Y2 Δ hΔ hk;obtain ⟨te,hte,hk⟩:=Y2 Δ hΔ hk;obtain ⟨k,v,d,hm,hk⟩:=Zw9 hI hx hk;split at hk
  ·rename_i hc
   obtain ⟨c1,c2,c3,c4⟩:=hc;have hif:=ZtH hi c1 c2;obtain ⟨key,r1,v1,v2,e1,hkr,hr1,hk⟩:=Y4 k _ _ _ (Vb hi c1) hk;split at hk
   ·have:=Zld hr1
    subst this;rw[List.append_nil] at e1;subst e1;obtain ⟨zc,hzc,hk⟩:=ZdQ E _ _ hk;obtain ⟨z,r2,z1,z2,e2,hzr,hr2,hk⟩:=Y4 v _ _ _ hzc hk;split at hk
    ·have:=Zld hr2
     subst this;rw[List.append_nil] at e2;subst e2;obtain ⟨inf,hinf,_,_,hz0⟩:=hte.info';have hz:∀ w,(zeroValue et).run P w=.ok te.zero w:=λw=>by simp[zeroValue,typeInfo,hinf,hz0]
     obtain ⟨es,he,hrun⟩:=Zsw (h.map hkd) (Zpr htk c3) hz hm hif hkr ok;rw[Y9] at hk;have val:∃ u,((fnd d key es 0).map (·.2)).getD te.zero=u/\Zgc v.agg u/\rep E.S E.w v ((ZgK k v d key).getD z) u.cells.toList/\(fnd d key es 0).isSome=(ZgK k v d key).isSome:=by
      rcases Zoi (x:=key) d es 0 he with ⟨h1,h2⟩ | ⟨j,u,y,e,kd,h1,h2,h3,h4,_⟩
      ·exact ⟨te.zero,by rw[h1];rfl,Zwa c4,by rw[h2];exact hzr,by rw[h1,h2];rfl⟩
      grind
     obtain ⟨u,hu,hf,hr,hs⟩:=val;rw[hu,hs] at hrun;obtain ⟨s,hs1,hk⟩:=ZwR hf (YU v _ _ hr) hk;cases ok
     ·grind
     ·simp only[if_true] at hk hrun
      refine ⟨_,_,hrun,?_,hk⟩;simp only[den];exact ⟨[u,.bool (ZgK k v d key).isSome],rfl,hs1,by simp only[den],trivial⟩
    ·exact hk.elim
   ·exact hk.elim
  ·exact hk.elim
 ·exact hk.elim
def ZqW (Δ:Tab) (ti:TI) (x i y:SV) (H:List Entry) (K:List Entry->Prop):Prop :=
 match ti.kind,x with
 | .mp kt et,.mown id=>ZaV Δ kt λtk=>Zev H id λe=>match e with
  | .mpe k v d=>if i.whole=true/\k.agg=i.isA/\Zvq tk k=true/\y.whole=true/\v.agg=y.isA then Xe k i.cells λkey r1=>match r1 with
   | []=>Xe v y.cells λval r2=>match r2 with
    | []=>Zfm H id (.mpe k v (ZnR k v d key val)) K
    | _=>False
   | _=>False
   else False
  | _=>False
 | _,_=>False
theorem grownBy_set {w:World} {b:Nat} {o o':Obj} (hb:w.heap[b]?=some o):w.grownBy {w with heap:=w.heap.setIfInBounds b o'} (some b) :=
 ⟨rfl,rfl,rfl,by simp,λi _ hi=>(Go.MapKept.heap_set hb).2 i (λe=>hi (by rw[e]))⟩
theorem ZsO {Δ:Tab} (hΔ:Δ.ok P) {B:Base} {E:Env} {H:List Entry} (hI:Inv B E H) {T:TypeId} {ti:TI} (h:Zbc P T ti) {x i y:SV} {vx vi vy:Value} (hx:den E x vx) (hi:den E i vi) (hy:den E y vy) {K:List Entry->Prop} (hk:ZqW Δ ti x i y H K) :
  ∃ E' H',(Instr.mapUpdate T vx vi vy).run P E.w=.ok () E'.w/\Inv B E' H'/\E.le E'/\K H':=by
 unfold ZqW at hk;split at hk
 ·rename_i kt et id hkd
  obtain ⟨tk,htk,hk⟩:=Y2 Δ hΔ hk;obtain ⟨e,he,hk⟩:=YM H hk;split at hk
  ·rename_i k v d
   split at hk
   ·rename_i hc
    obtain ⟨c1,c2,c3,c4,c5⟩:=hc;have hif:=ZtH hi c1 c2;have hyf:=ZtH hy c4 c5;obtain ⟨key,r1,v1,v2,e1,hkr,hr1,hk⟩:=Y4 k _ _ _ (Vb hi c1) hk;split at hk
    ·have:=Zld hr1
     subst this;rw[List.append_nil] at e1;subst e1;obtain ⟨val,r2,z1,z2,e2,hvr,hr2,hk⟩:=Y4 v _ _ _ (Vb hy c4) hk;split at hk
     ·have:=Zld hr2
      subst this;rw[List.append_nil] at e2;subst e2;rw[Y0] at hk;obtain ⟨b,es,clk,h1,hb,hes⟩:=hI.ent id _ he;simp only[den] at hx;have hid:=hx.1;have:=hx.1.symm.trans h1;simp at this;subst this;have KR:=Zpr htk c3;have hT:=h.map hkd;have k1:=KR.check _ _ key vi hif hkr false E.w;have k2:=KR.find _ _ key vi hif hkr v _ _ d es.toList hes E.w;have fin:∀ (es':Array MapEntry) (clk':Nat),(Instr.mapUpdate T (.map (some b)) vi vy).run P E.w=.ok () {E.w with heap:=E.w.heap.setIfInBounds b (.map es' clk')}->
        Zcv (rep E.S E.w k) (rep E.S E.w v) k.agg v.agg (ZnR k v d key val) es'.toList->∃ E' H',(Instr.mapUpdate T (.map (some b)) vi vy).run P E.w=.ok () E'.w/\Inv B E' H'/\E.le E'/\K H':=by
       intro es' clk' hrun hes';have hg:=grownBy_set (w:=E.w) (o':=.map es' clk') hb;have hnS:¬E.S b:=(hI.free id _ (.map (some b)) b he rfl hid rfl).1;have hle:=ZbV hg hI.Slt (λg e=>by grind);refine ⟨⟨E.S,_,E.ids⟩,_,hrun,hI.write he rfl hid hg (.mpe k v (ZnR k v d key val)) ?_,hle,hk⟩;exact ⟨b,es',clk',hid,(Go.MapKept.heap_set hb).1,JH (λd vs=>Yi hle.S hle.w k d vs) (λd vs=>Yi hle.S hle.w v d vs) _ _ hes'⟩
      have unf:(Instr.mapUpdate T (.map (some b)) vi vy).run P E.w=(match fnd d key es.toList 0 with
        | some (j,_)=>(do
          let key' <-Instr.keyThatStays ((es[j]?.map MapEntry.key).getD vi) vi
          setObj b (.map (es.modify j λe=>{e with key:=key',val:=vy}) clk):Sem Unit)
        | none=>setObj b (.map (es.push {key:=vi,val:=vy,born:=clk}) (clk+1))).run P E.w:=by
       unfold Instr.mapUpdate;simp only[Sem.run_bind,run_underlying hT,Result.andThen_ok,Go.MapKept.run_getObj_map hb,k1,k2];grind
      rcases Zoi (x:=key) d es.toList 0 hes with ⟨f1,f2⟩ | ⟨j,u,y',e',kd,f1,f2,f3,f4,f5,f6,f7,f8⟩
      ·refine fin (es.push ⟨vi,vy,clk⟩) (clk+1) ?_ ?_
       ·rw[unf,f1]
        exact Go.MapKept.run_setObj_map _ hb
       ·rw[Array.toList_push]
        exact Zrd hif hkr hyf hvr d es.toList 0 hes f1
      ·have f5':es[j]?=some e':=by simpa using f5
       refine fin (es.modify j λe=>{e with key:=vi,val:=vy}) clk ?_ ?_
       ·rw[unf,f1]
        have:=KR.stays _ _ key kd vi e'.key hif hkr f7 f8 f6 E.w;simp only[Nat.zero_add,f5',Option.map_some,Option.getD_some,Sem.run_bind,this,Result.andThen_ok];exact Go.MapKept.run_setObj_map _ hb
       ·rw[Array.toList_modify]
        exact Zre hif hkr hyf hvr d es.toList 0 j u hes f1
     ·exact hk.elim
    ·exact hk.elim
   ·exact hk.elim
  ·exact hk.elim
 ·exact hk.elim
def ZoC (ti:TI) (H:List Entry) (K:SV->List Entry->Prop):Prop :=
 match ti.kind with
 | .mp _ _=>Zp3 H 0 λn=>Zn7 H [.mpe ti.ty ti.ety []] λH'=>K (.mown n) H'
 | _=>False
theorem Zqx {B:Base} {E:Env} {H:List Entry} (hI:Inv B E H) {T:TypeId} {ti:TI} (h:Zbc P T ti) {K:SV->List Entry->Prop} (hk:ZoC ti H K) :
  ∃ u E' H' s,(Instr.makeMap T none).run P E.w=.ok u E'.w/\Inv B E' H'/\E.le E'/\den E' s u/\K s H'/\Grow E.w E'.w:=by
 unfold ZoC at hk;split at hk
 ·rw[JZ,VZ,Nat.zero_add] at hk
  have hle:=Zn6 hI (.map #[] 0) (.map (some E.w.heap.size));have hid:(E.ids++[Value.map (some E.w.heap.size)])[H.length]?=some (.map (some E.w.heap.size)):=by
   rw[<-hI.len];simp
  refine ⟨.map (some E.w.heap.size),⟨E.S,E.w.alloc (.map #[] 0),E.ids++[.map (some E.w.heap.size)]⟩,_,_,?_,hI.alloc (.map #[] 0) _ _ rfl ?_,hle,?_,hk,Zaf _ _⟩
  ·simp[Instr.makeMap]
  ·exact ⟨_,#[],0,hid,Go.heap_alloc_new _ _,rfl⟩
  ·simp only[den]
   grind
 ·exact hk.elim
end
section
variable {P:Program}
def Zsh (regs:List SV):List Operand->(List SV->Prop)->Prop
 | [],K=>K []
 | x::r,K=>Q0 regs x λs=>Zsh regs r λl=>K (s::l)
theorem Zi3 {E:Env} {regs:List SV} {a:Act} (hd:Z7 E regs a.tmps.toList):∀ (xs:List Operand) {K:List SV->Prop},Zsh regs xs K->∃ l,Z7 E l (xs.map a.eval)/\K l
 | [],K,h=>⟨[],trivial,h⟩
 | x::r,K,h=>by
  obtain ⟨s,hs,h⟩:=Ym hd h;obtain ⟨l,hl,h⟩:=Zi3 hd r h;exact ⟨s::l,⟨hs,hl⟩,h⟩
def SV.Zw1:SV->Bool
 | .ptr _ _=>true
 | .oep _ _ _ _=>true
 | .fptr _=>true
 | .fn _ _=>true
 | _=>false
theorem ZqC {E:Env} {s:SV} {v:Value} (h:den E s v) (hp:s.Zw1=true) :
  (∃ a,v=.pointer (some a))\/∃ f cs,v=.func (.func f) #[] cs:=by
 cases s<;>simp[SV.Zw1] at hp<;>simp only[den] at h
 all_goals grind
def Zti (s:SV) (K:SV->Prop):Prop :=
 match s with
 | .nptr t d=>∃ x,d=some x/\XQ t x λcs=>K (.fptr cs)
 | s=>K s
theorem Ztj {E:Env} {s:SV} {v:Value} (hs:den E s v) {K:SV->Prop} (hk:Zti s K):∃ s',den E s' v/\K s':=by
 unfold Zti at hk;split at hk
 ·rename_i t d
  obtain ⟨x,rfl,hk⟩:=hk;rw[Y9] at hk;refine ⟨_,?_,hk⟩;simp only[den] at hs ⊢;rcases hs with ⟨e,_⟩ | ⟨x',p,xs,e,e2,hp,hS,hc,hr⟩
  ·cases e
  ·injection e with e;subst e
   simp at e2;subst e2;exact ⟨p,xs,rfl,hp,hS,hc,YU t _ _ hr⟩
 grind
def ZwJ (Δ:Tab) (op:BinOp) (T:TypeId) (sx sy:SV) (K:SV->Prop):Prop :=
 match sx,sy with
 | .agg xs,.agg ys=>ZaV Δ T λti=>eqK op ti (.agg xs) (.agg ys) K
 | .bool x,sy=>ZaV Δ T λti=>eqK op ti (.bool x) sy K
 | .blit x,sy=>ZaV Δ T λti=>eqK op ti (.blit x) sy K
 | sx,.nilp=>ZaV Δ T λti=>if Zh6 ti.kind=true then Zzt op ti sx K else False
 | sx,.nsl=>ZaV Δ T λti=>if Zpq ti.kind=true then Zzt op ti sx K else False
 | sx,sy=>ZzK op sx sy K
theorem ZuZ {Δ:Tab} (hΔ:Δ.ok P) {E:Env} {op:BinOp} {T:TypeId} {x y:SV} {K:SV->Prop} (h:ZwJ Δ op T x y K) {u v:Value} (hu:den E x u) (hv:den E y v) (ox oy:Operand) :
  ∃ r s,(∀ w,((do eqGuard op T ox oy u v;binOp op T u v:Sem Value)).run P w=.ok r w)/\den E s r/\K s:=by
 unfold ZwJ at h;split at h
 ·obtain ⟨ti,ht,h⟩:=Y2 Δ hΔ h;exact Ztp ht h hu hv ox oy
 ·obtain ⟨ti,ht,h⟩:=Y2 Δ hΔ h;exact Ztp ht h hu hv ox oy
 ·obtain ⟨ti,ht,h⟩:=Y2 Δ hΔ h;exact Ztp ht h hu hv ox oy
 ·obtain ⟨ti,ht,h⟩:=Y2 Δ hΔ h
  split at h
  ·rename_i hq
   exact Zt1 ht (.inl rfl) h ⟨λ_=>rfl,λhs=>by cases hk:ti.kind<;>rw[hk] at hq hs<;>simp[Zh6,Zpq] at hq hs⟩ hu hv ox oy
  ·exact h.elim
 ·obtain ⟨ti,ht,h⟩:=Y2 Δ hΔ h
  split at h
  ·rename_i hq
   exact Zt1 ht (.inr rfl) h ⟨λhs=>by cases hk:ti.kind<;>rw[hk] at hq hs<;>simp[Zh6,Zpq] at hq hs,λ_=>rfl⟩ hu hv ox oy
  ·exact h.elim
 ·exact ZwK h hu hv T ox oy
def opK (Δ:Tab) (regs:List SV) (H:List Entry) (op:Op) (K:SV->List Entry->Prop):Prop :=
 match op with
 | .move x=>Q0 regs x λs=>K s H
 | .assign x=>Q0 regs x λs=>K s H
 | .pick c x y=>Q0 regs c λs=>match s with
  | .blit true=>Q0 regs x λs=>K s H
  | .blit false=>Q0 regs y λs=>K s H
  | .bool p=>(p=true->Q0 regs x λs=>K s H)/\(p=false->Q0 regs y λs=>K s H)
  | _=>False
 | .alloc T=>ZaV Δ T λti=>Zwe ti H K
 | .box _ x=>Q0 regs x λs=>ZzM s H K
 | .build T ps=>ZaV Δ T λti=>ZrR regs ps.toList λl=>Zs2 ti l λs=>K s H
 | .buildSlice T n ps=>ZaV Δ T λti=>ZrR regs ps.toList λl=>Zig ti n l H K
 | .load T x=>ZaV Δ T λti=>Q0 regs x λs=>Zw5 ti s H K
 | .store T x y=>ZaV Δ T λti=>Q0 regs x λsa=>Q0 regs y λsx=>Zuw ti sa sx H λH'=>K (.tup []) H'
 | .nilCheck x=>Q0 regs x λs=>Zti s λs'=>if s'.Zw1=true then K s' H else match s' with
  | .nilp=>Dead
  | _=>False
 | .binOp op T x y _=>Q0 regs x λsx=>Q0 regs y λsy=>ZwJ Δ op T sx sy λs=>K s H
 | .unOp op _ x=>Q0 regs x λsx=>unK op sx λs=>K s H
 | .convert S T x=>ZaV Δ S λts=>ZaV Δ T λtd=>Q0 regs x λs=>match ts.kind,td.kind with
  | .sl,.str=>ZaV Δ ts.elem λte=>Ztc te s H λr=>K r H
  | _,_=>ZwP ts td s H λr=>K r H
 | .makeFunc (.func f) first caps=>if first.size=0 then Zsh regs caps.toList λl=>K (.fn f l) H else False
 | .makeSlice T l c=>ZaV Δ T λti=>Q0 regs l λsl=>Q0 regs c λsc=>Zw7 ti sl sc H K
 | .slice T x lo hi none=>ZaV Δ T λti=>Q0 regs x λs=>Zup ti regs s lo hi H K
 | .fieldAddr T x f=>ZaV Δ T λti=>Q0 regs x λs=>ZjS ti s f λr=>K r H
 | .field T x f=>ZaV Δ T λti=>Q0 regs x λs=>Zts ti s f λr=>K r H
 | .indexAddr T x i=>ZaV Δ T λti=>Q0 regs x λs=>Q0 regs i λsi=>Zhw ti s si i H λr=>K r H
 | .index T x i=>ZaV Δ T λti=>Q0 regs x λs=>Q0 regs i λsi=>Zuy ti s si λr=>K r H
 | .extract x i=>Q0 regs x λs=>ZBQ s i λr=>K r H
 | .makeMap T none=>ZaV Δ T λti=>ZoC ti H K
 | .lookup T x i ok=>ZaV Δ T λti=>Q0 regs x λsx=>Q0 regs i λsi=>Zqw Δ ti sx si ok H λr=>K r H
 | .mapUpdate T x i y=>ZaV Δ T λti=>Q0 regs x λsx=>Q0 regs i λsi=>Q0 regs y λsy=>ZqW Δ ti sx si sy H λH'=>K (.tup []) H'
 | .call c=>match c.callee,c.args.toList,c.argTypes.toList with
  | .builtin .len,[x],[T]=>ZaV Δ T λti=>Q0 regs x λs=>ZA9 ti s H λr=>K r H
  | .builtin .append,[x,y],[T,T']=>if T=T' then ZaV Δ T λti=>Q0 regs x λsx=>Q0 regs y λsy=>Zp8 ti sx sy H K else False
  | .builtin .min,x::r,_=>Q0 regs x λs=>Zsh regs r λl=>ZyH false s l λr=>K r H
  | .builtin .max,x::r,_=>Q0 regs x λs=>Zsh regs r λl=>ZyH true s l λr=>K r H
  | _,_,_=>False
 | _=>False
def ZcF:Op->Bool
 | .move _=>true
 | .assign _=>true
 | .pick _ _ _=>true
 | .build _ _=>true
 | .load _ _=>true
 | .nilCheck _=>true
 | .binOp _ _ _ _ _=>true
 | .unOp _ _ _=>true
 | .fieldAddr _ _ _=>true
 | .field _ _ _=>true
 | .indexAddr _ _ _=>true
 | .index _ _ _=>true
 | .extract _ _=>true
 | .makeFunc _ _ _=>true
 | .call c=>match c.callee with
  | .builtin .len=>true
  | .builtin .min=>true
  | .builtin .max=>true
  | _=>false
 | _=>false
def isLoad:Op->Bool
 | .load _ _=>true
 | _=>false
def ZkG:Op->Bool
 | .alloc _=>true
 | .box _ _=>true
 | .buildSlice _ _ _=>true
 | .makeSlice _ _ _=>true
 | .slice _ _ _ _ _=>true
 | .convert _ _ _=>true
 | .makeMap _ _=>true
 | _=>false
def appArg:Op->Option Operand
 | .call ⟨.builtin .append,args,_⟩=>args.toList.head?
 | .store _ x _=>some x
 | _=>none
def Ran (P:Program) (B:Base) (E:Env) (o:Oper) (a:Act) (K:SV->List Entry->Prop):Prop :=
 ∃ nx v E' H' s,(execOp a.eval o).run P E.w=.ok nx E'.w/\(nx=.value v\/nx=.skip/\v=undef)/\Inv B E' H'/\E.le E'/\den E' s v/\K s H'/\
  (ZcF o.op=true->nx=.value v/\E'.w=E.w/\∀ w',(isLoad o.op=true->ZoZ E.w w')->(execOp a.eval o).run P w'=.ok (.value v) w')/\((ZcF o.op||ZkG o.op)=true->Grow E.w E'.w)/\∀ x,appArg o.op=some x->E.w.grownBy E'.w (Yx (a.eval x))
theorem Zqo {w w':World} {v:Value} (h:w.grownBy w' v.ownBlock):w.grownBy w' (Yx v):=⟨h.os,h.tape,h.output,h.size,λk hk hne=>h.block k hk (λe=>hne (Zs1 v k e.symm).symm)⟩
theorem ZnT {op:Op} {p:Operand->Prop} (ha:appArg op=none):∀ x,appArg op=some x->p x:=λx e=>by rw[ha] at e;cases e
theorem Zug {B:Base} {E:Env} {H:List Entry} (hI:Inv B E H) {o:Oper} {a:Act} {K:SV->List Entry->Prop} {x:Sem Value} (he:execOp a.eval o=(do pure (.value (<-x)):Sem Next)) (hl:isLoad o.op=true)
  (h:∃ u s E' H',E'.w=E.w/\ZuY P E.w x u/\Inv B E' H'/\E.le E'/\den E' s u/\K s H') (ha:appArg o.op=none:=by rfl):Ran P B E o a K:=by
 obtain ⟨u,s,E',H',hw,h1,h2,h2',h3,h3'⟩:=h;have h4:∀ w',ZoZ E.w w'->(execOp a.eval o).run P w'=.ok (.value u) w':=λw' hst=>by rw[he,Sem.run_bind,h1 w' hst];rfl
 exact ⟨_,u,E',H',s,by rw[hw];exact h4 _ (ZoZ.refl _),.inl rfl,h2,h2',h3,h3',λ_=>⟨rfl,hw,λw' h=>h4 w' (h hl)⟩,λ_=>by rw[hw];exact Grow.refl _,ZnT ha⟩
theorem XT {B:Base} {E:Env} {H:List Entry} (hI:Inv B E H) {o:Oper} {a:Act} {K:SV->List Entry->Prop} {x:Sem Value} (he:execOp a.eval o=(do pure (.value (<-x)):Sem Next))
  (h:∃ u s,Zm2 P x u/\den E s u/\K s H) (ha:appArg o.op=none:=by rfl):Ran P B E o a K:=by
 obtain ⟨u,s,h1,h2,h3⟩:=h;have h4:∀ w',(execOp a.eval o).run P w'=.ok (.value u) w':=λw'=>by rw[he,Sem.run_bind,h1 w'];rfl
 exact ⟨_,u,E,H,s,h4 _,.inl rfl,hI,Env.le.refl E,h2,h3,λ_=>⟨rfl,rfl,λw' _=>h4 w'⟩,λ_=>Grow.refl _,ZnT ha⟩
theorem ZfM {B:Base} {E:Env} {H:List Entry} (hI:Inv B E H) {o:Oper} {a:Act} {K:SV->List Entry->Prop} {u:Value} {s:SV} (he:execOp a.eval o=(pure (.value u):Sem Next))
  (h2:den E s u) (h3:K s H) (ha:appArg o.op=none:=by rfl):Ran P B E o a K :=
 ⟨_,u,E,H,s,by rw[he];rfl,.inl rfl,hI,Env.le.refl E,h2,h3,λ_=>⟨rfl,rfl,λw' _=>by rw[he];rfl⟩,λ_=>Grow.refl _,ZnT ha⟩
theorem ZbE {B:Base} {E:Env} {o:Oper} {a:Act} {K:SV->List Entry->Prop} {x:Sem Value} (he:execOp a.eval o=(do pure (.value (<-x)):Sem Next)) (hl:ZcF o.op=false)
  (h:∃ u E' H' s,x.run P E.w=.ok u E'.w/\Inv B E' H'/\E.le E'/\den E' s u/\K s H'/\Grow E.w E'.w) (ha:appArg o.op=none:=by rfl):Ran P B E o a K:=by
 obtain ⟨u,E',H',s,h1,h2,h3,h4,h5,h6⟩:=h;exact ⟨_,u,E',H',s,by simp_all,.inl rfl,h2,h3,h4,h5,λe=>(by rw[hl] at e;cases e),λ_=>h6,ZnT ha⟩
theorem Zxh {B:Base} {E:Env} {o:Oper} {a:Act} {K:SV->List Entry->Prop} {x:Sem Value} {r:Operand} (he:execOp a.eval o=(do pure (.value (<-x)):Sem Next)) (hl:(ZcF o.op||ZkG o.op)=false) (ha:appArg o.op=some r)
  (h:∃ u E' H' s,x.run P E.w=.ok u E'.w/\Inv B E' H'/\E.le E'/\den E' s u/\K s H'/\E.w.grownBy E'.w (a.eval r).ownBlock):Ran P B E o a K:=by
 obtain ⟨u,E',H',s,h1,h2,h3,h4,h5,h6⟩:=h;have hl':ZcF o.op=false:=by grind
 exact ⟨_,u,E',H',s,by simp_all,.inl rfl,h2,h3,h4,h5,λe=>(by grind),λe=>(by rw[hl] at e;cases e),λx hx=>by rw[ha] at hx;injection hx with hx;subst hx;exact Zqo h6⟩
theorem Zt5 {Δ:Tab} (hΔ:Δ.ok P) {B:Base} {E:Env} {H:List Entry} (hI:Inv B E H) {regs:List SV} {a:Act} (hd:Z7 E regs a.tmps.toList) {o:Oper} {K:SV->List Entry->Prop}
  (h:opK Δ regs H o.op K):Ran P B E o a K:=by
 obtain ⟨dst,op,type,pos,after,guard⟩:=o;simp only at h;have val:∀ {x:Operand} (op':Op),(execOp a.eval ⟨dst,op',type,pos,after,guard⟩=pure (.value (a.eval x)))->(Q0 regs x λs=>K s H)->appArg op'=none->Ran P B E ⟨dst,op',type,pos,after,guard⟩ a K:=by
  intro x op' he h ha;obtain ⟨s,hs,h⟩:=Ym hd h;exact ZfM hI he hs h ha
 unfold opK at h;split at h
 ·exact val _ rfl h rfl
 ·exact val _ rfl h rfl
 ·rename_i c x y
  obtain ⟨s,hs,h⟩:=Ym hd h;split at h
  ·simp only[den] at hs
   obtain ⟨s',hs',h⟩:=Ym hd h;exact ZfM hI (u:=a.eval x) (by simp[execOp,hs,asBool]) hs' h
  ·simp only[den] at hs
   obtain ⟨s',hs',h⟩:=Ym hd h;exact ZfM hI (u:=a.eval y) (by simp[execOp,hs,asBool]) hs' h
  ·rename_i p
   simp only[den] at hs;cases p
   ·obtain ⟨s',hs',h⟩:=Ym hd (h.2 rfl)
    exact ZfM hI (u:=a.eval y) (by simp[execOp,hs,asBool]) hs' h
   ·obtain ⟨s',hs',h⟩:=Ym hd (h.1 rfl)
    exact ZfM hI (u:=a.eval x) (by simp[execOp,hs,asBool]) hs' h
  ·exact h.elim
 ·obtain ⟨ti,ht,h⟩:=Y2 Δ hΔ h
  exact ZbE rfl rfl (ZsW hI ht h)
 ·obtain ⟨s,hs,h⟩:=Ym hd h
  exact ZbE rfl rfl (ZwL hI hs h)
 ·rename_i T ps
  obtain ⟨ti,ht,h⟩:=Y2 Δ hΔ h;obtain ⟨l,hl,h⟩:=Zmr hd _ h;exact XT hI rfl (Zs3 ht (by simp_all) h)
 ·rename_i T n ps
  obtain ⟨ti,ht,h⟩:=Y2 Δ hΔ h;obtain ⟨l,hl,h⟩:=Zmr hd _ h;exact ZbE rfl rfl (Zm3 hI ht (by simp_all) h)
 ·obtain ⟨ti,ht,h⟩:=Y2 Δ hΔ h
  obtain ⟨s,hs,h⟩:=Ym hd h;exact Zug hI rfl rfl (Zvy hI ht hs h)
 ·obtain ⟨ti,ht,h⟩:=Y2 Δ hΔ h
  obtain ⟨sa,hsa,h⟩:=Ym hd h;obtain ⟨sx,hsx,h⟩:=Ym hd h;obtain ⟨E',H',h1,h2,h3,h4,h5⟩:=Zux hI ht hsa hsx h;exact ⟨.skip,undef,E',H',.tup [],by simp[execOp,h1],.inr ⟨rfl,rfl⟩,h2,h3,by simp only[den];exact ⟨[],rfl,trivial⟩,h4,λe=>(by cases e),λe=>(by cases e),λy hy=>by simp only[appArg] at hy;grind⟩
 ·obtain ⟨s0,hs0,h⟩:=Ym hd h
  obtain ⟨s,hs,h⟩:=Ztj hs0 h;split at h
  ·rename_i hp
   rcases ZqC hs hp with ⟨p,hv⟩ | ⟨f,cs,hv⟩
   ·exact ZfM hI (by simp[execOp,hv];rfl) (by rw[<-hv];exact hs) h
   ·exact ZfM hI (by simp[execOp,hv];rfl) (by rw[<-hv];exact hs) h
  ·split at h
   ·exact h.no.elim
   ·exact h.elim
 ·obtain ⟨sx,hsx,h⟩:=Ym hd h
  obtain ⟨sy,hsy,h⟩:=Ym hd h;obtain ⟨r,s,h1,h2,h3⟩:=ZuZ (P:=P) hΔ h hsx hsy _ _;exact XT hI rfl ⟨r,s,h1,h2,h3⟩
 ·obtain ⟨sx,hsx,h⟩:=Ym hd h
  obtain ⟨r,s,h1,h2,h3⟩:=Zzd (P:=P) h hsx;exact XT hI rfl ⟨r,s,h1,h2,h3⟩
 ·obtain ⟨ts,hts,h⟩:=Y2 Δ hΔ h
  obtain ⟨td,htd,h⟩:=Y2 Δ hΔ h;obtain ⟨s,hs,h⟩:=Ym hd h;split at h
  ·rename_i hk1 hk2
   obtain ⟨te,hte,h⟩:=Y2 Δ hΔ h;obtain ⟨u,r,h1,h2,h3⟩:=Ztd (P:=P) hI hts hk1 htd hk2 hte hs h;exact ZbE rfl rfl ⟨u,E,H,r,h1,hI,Env.le.refl E,h2,h3,Grow.refl _⟩
  ·obtain ⟨u,r,h1,h2,h3⟩:=Zu3 (P:=P) hts htd hs h
   exact XT hI rfl ⟨u,r,h1,h2,h3⟩
 ·rename_i f first caps
  split at h
  ·rename_i hf
   obtain ⟨caps⟩:=caps;obtain ⟨l,hl,h⟩:=Zi3 hd _ h;have hf':first=#[]:=Array.eq_empty_of_size_eq_zero hf;subst hf';refine XT hI rfl ⟨_,_,λw=>rfl,?_,h⟩;simp only[den];grind
  ·exact h.elim
 ·obtain ⟨ti,ht,h⟩:=Y2 Δ hΔ h
  obtain ⟨sl,hsl,h⟩:=Ym hd h;obtain ⟨sc,hsc,h⟩:=Ym hd h;exact ZbE rfl rfl (ZvB hI ht hsl hsc h)
 ·obtain ⟨ti,ht,h⟩:=Y2 Δ hΔ h
  obtain ⟨s,hs,h⟩:=Ym hd h;exact ZbE rfl rfl (Zuq hI hd ht hs h)
 ·obtain ⟨ti,ht,h⟩:=Y2 Δ hΔ h
  obtain ⟨s,hs,h⟩:=Ym hd h;exact XT hI rfl (Zoh ht hs h)
 ·obtain ⟨ti,ht,h⟩:=Y2 Δ hΔ h
  obtain ⟨s,hs,h⟩:=Ym hd h;exact XT hI rfl (Ztt ht hs h)
 ·rename_i T x i
  obtain ⟨ti,ht,h⟩:=Y2 Δ hΔ h;obtain ⟨s,hs,h⟩:=Ym hd h;cases i with
  | const v =>
   obtain ⟨si,hsi,h⟩:∃ si,(∀ j,Zik (.const v)=some j->∀ k i,si=.int k i->i=(j:Int))/\den E si v/\Zhw ti s si (.const v) H λr=>K r H:=by
    have h':=h;obtain ⟨si,hsi,h⟩:=Ym hd h;have hsi':den E si v:=hsi;refine ⟨si,λj hj k i hsi2=>?_,hsi',h⟩;subst hsi2;simp only[den] at hsi';subst hsi';simp only[Zik] at hj;split at hj;all_goals grind
   exact XT hI rfl (ZdG hI ht hs h.1 h.2 hsi)
  | tmp t =>
   obtain ⟨si,hsi,h⟩:=Ym hd h;exact XT hI rfl (ZdG hI ht hs hsi h (λj hj=>by simp[Zik] at hj))
  | global g =>
   obtain ⟨si,hsi,h⟩:=Ym hd h;exact XT hI rfl (ZdG hI ht hs hsi h (λj hj=>by simp[Zik] at hj))
  | func f =>
   obtain ⟨si,hsi,h⟩:=Ym hd h;exact XT hI rfl (ZdG hI ht hs hsi h (λj hj=>by simp[Zik] at hj))
 ·obtain ⟨ti,ht,h⟩:=Y2 Δ hΔ h
  obtain ⟨s,hs,h⟩:=Ym hd h;obtain ⟨si,hsi,h⟩:=Ym hd h;obtain ⟨u,r,h1,h2,h3⟩:=Zuz (P:=P) ht hs hsi h;exact XT hI rfl ⟨u,r,h1,h2,h3⟩
 ·obtain ⟨s,hs,h⟩:=Ym hd h
  obtain ⟨u,r,h1,h2,h3⟩:=Zx3 (P:=P) hs h;exact XT hI rfl ⟨u,r,h1,h2,h3⟩
 ·obtain ⟨ti,ht,h⟩:=Y2 Δ hΔ h
  exact ZbE rfl rfl (Zqx hI ht h)
 ·obtain ⟨ti,ht,h⟩:=Y2 Δ hΔ h
  obtain ⟨sx,hsx,h⟩:=Ym hd h;obtain ⟨si,hsi,h⟩:=Ym hd h;obtain ⟨u,r,h1,h2,h3⟩:=Zsv (P:=P) hΔ hI ht hsx hsi h;exact ZbE rfl rfl ⟨u,E,H,r,h1,hI,Env.le.refl E,h2,h3,Grow.refl _⟩
 ·obtain ⟨ti,ht,h⟩:=Y2 Δ hΔ h
  obtain ⟨sx,hsx,h⟩:=Ym hd h;obtain ⟨si,hsi,h⟩:=Ym hd h;obtain ⟨sy,hsy,h⟩:=Ym hd h;obtain ⟨E',H',h1,h2,h3,h4⟩:=ZsO (P:=P) hΔ hI ht hsx hsi hsy h;exact ⟨.skip,undef,E',H',.tup [],by simp[execOp,h1],.inr ⟨rfl,rfl⟩,h2,h3,by simp only[den];exact ⟨[],rfl,trivial⟩,h4,λe=>(by cases e),λe=>(by cases e),ZnT rfl⟩
 ·rename_i c
  obtain ⟨callee,args,argTypes⟩:=c;obtain ⟨args⟩:=args;obtain ⟨argTypes⟩:=argTypes;simp only at h;split at h
  ·rename_i x T
   obtain ⟨ti,ht,h⟩:=Y2 Δ hΔ h;obtain ⟨s,hs,h⟩:=Ym hd h;obtain ⟨u,r,h1,h2,h3⟩:=Zw4 (ty:=type) hI ht hs h;exact XT hI (x:=Builtin.len_ #[T] type #[a.eval x]) (by simp only[execOp,resolve,invoke,builtin,pure_bind,List.map_toArray,List.map_cons,List.map_nil]) ⟨u,r,h1,h2,h3⟩
  ·rename_i x y T T'
   split at h
   ·rename_i hTT;subst hTT
    obtain ⟨ti,ht,h⟩:=Y2 Δ hΔ h;obtain ⟨sx,hsx,h⟩:=Ym hd h;obtain ⟨sy,hsy,h⟩:=Ym hd h;exact Zxh (x:=Builtin.append_ #[T,T] type #[a.eval x,a.eval y]) (by simp only[execOp,resolve,invoke,builtin,pure_bind,List.map_toArray,List.map_cons,List.map_nil]) rfl rfl (Zr8 (ty:=type) hI ht hsx hsy h)
   ·exact h.elim
  ·rename_i x r
   obtain ⟨s,hs,h⟩:=Ym hd h;obtain ⟨l,hl,h⟩:=Zi3 hd _ h;obtain ⟨u,r',h1,h2,h3⟩:=Zqz (P:=P) (mx:=false) l s _ _ hs hl h;exact XT hI (x:=Builtin.min_ argTypes.toArray type ((x::r).toArray.map a.eval)) (by simp only[execOp,resolve,invoke,builtin,pure_bind]) ⟨u,r',λw=>by simpa[Builtin.min_] using h1 w,h2,h3⟩
  ·rename_i x r
   obtain ⟨s,hs,h⟩:=Ym hd h;obtain ⟨l,hl,h⟩:=Zi3 hd _ h;obtain ⟨u,r',h1,h2,h3⟩:=Zqz (P:=P) (mx:=true) l s _ _ hs hl h;exact XT hI (x:=Builtin.max_ argTypes.toArray type ((x::r).toArray.map a.eval)) (by simp only[execOp,resolve,invoke,builtin,pure_bind]) ⟨u,r',λw=>by simpa[Builtin.max_] using h1 w,h2,h3⟩
  ·exact h.elim
 ·exact h.elim
end
inductive Sh
 | dat (t:Ty)
 | own (e:Dp)
 | io (e:Dp)
 | back (e:Dp)
@[reducible] def Sh.den:Sh->Type
 | .dat t=>t.den
 | .own e=>e.ty.den
 | .io e=>e.ty.den
 | .back e=>e.ty.den
@[reducible] def Shs:List Sh->Type
 | []=>Unit
 | s::r=>s.den×Shs r
@[reducible] def Ios:List Sh->Type
 | []=>Unit
 | .io e::r=>e.ty.den×Ios r
 | .back e::r=>e.ty.den×Ios r
 | .dat _::r=>Ios r
 | .own _::r=>Ios r
structure Ctr where
 args:List Sh
 rets:List Sh
 tr:Shs args->(Shs rets->Ios args->Prop)->Prop
def ZuM (t:Ty) (v:Value):Prop:=(t.agg=true->∃ cs,v=.agg cs)/\(t.agg=false->v.cells=#[v])
def Zye (S:Nat->Prop) (w:World) (t:Ty) (d:t.den) (v:Value):Prop :=
 (t.agg=true->∃ cs,v=.agg cs)/\(t.agg=false->v.cells=#[v])/\rep S w t d v.cells.toList
def ZqL (S:Nat->Prop) (w:World):(s:Sh)->s.den->Value->List Nat->Prop
 | .dat t,d,v,fp=>fp=[]/\Zye S w t d v
 | .own e,d,v,fp=>ZuM e.ty v/\Ze3 S w e d v.cells.toList fp
 | .back e,d,v,fp=>ZuM e.ty v/\Ze3 S w e d v.cells.toList fp
 | .io e,d,v,fp=>∃ b cs T f,v=.pointer (some ⟨b,0,none⟩)/\w.heap[b]?=some (.cells cs T (0,0))/\Ze3 S w e d cs.toList f/\fp=b::f
def Zcf (S:Nat->Prop) (w:World):(l:List Sh)->Shs l->List Value->List Nat->Prop
 | [],_,vs,fp=>vs=[]/\fp=[]
 | s::r,d,vs,fp=>∃ v vr f fr,vs=v::vr/\fp=f++fr/\ZqL S w s d.1 v f/\Zcf S w r d.2 vr fr
def Zfd (S:Nat->Prop) (w:World):(l:List Sh)->Ios l->List Value->List Nat->Prop
 | [],_,_,fp=>fp=[]
 | .io e::r,d,vs,fp=>∃ v vr f fr,vs=v::vr/\fp=f++fr/\ZqL S w (.io e) d.1 v f/\Zfd S w r d.2 vr fr
 | .back e::r,d,vs,fp=>∃ v vr f fr,vs=v::vr/\fp=f++fr/\ZqL S w (.back e) d.1 v f/\Zfd S w r d.2 vr fr
 | .dat _::r,d,vs,fp=>∃ v vr,vs=v::vr/\Zfd S w r d vr fp
 | .own _::r,d,vs,fp=>∃ v vr,vs=v::vr/\Zfd S w r d vr fp
def retv (us:List Value) (v:Value):Prop :=
 match us with
 | [u]=>v=u
 | us=>v=.tuple us.toArray
def ZiR (P:Program) (f:FuncId):Prop:=∃ fn,P.funcs[f]?=some fn/\(fn.name == "runtime.NumGoroutine")=false/\fn.body.isNone=false
def Za (P:Program) (f:FuncId) (C:Ctr):Prop:=ZiR P f/\
 ∀ (w:World) (S:Nat->Prop) (vs:List Value) (as:Shs C.args) (fp:List Nat) (K:Shs C.rets->Ios C.args->Prop),
  (∀ b,S b->b<w.heap.size)->ZhT S w->Zcf S w C.args as vs fp->fp.Nodup->(∀ g∈fp,¬S g/\g<w.heap.size)->C.tr as K->
  Calls P f vs.toArray w λe w'=>∃ v us rs ios S' fr fio,e=.returned v/\retv us v/\K rs ios/\Keeps ⟨w,S,λb=>b∈fp,[]⟩ w'/\(∀ b,S b->S' b)/\
   (∀ b,S' b->b<w'.heap.size/\(b<w.heap.size->S b\/b∈fp))/\Zcf S' w' C.rets rs us fr/\Zfd S' w' C.args ios vs fio/\
   (fio++fr).Nodup/\∀ g∈fio++fr,¬S' g/\g<w'.heap.size/\(w.heap.size<=g\/g∈fp)
def SV.isAgg:SV->Bool
 | .agg _=>true
 | _=>false
def Zyb (f:SV->List Entry->(SV->List Entry->Prop)->Prop):List SV->List Entry->(List SV->List Entry->Prop)->Prop
 | [],H,K=>K [] H
 | s::r,H,K=>f s H λs' H1=>Zyb f r H1 λr' H2=>K (s'::r') H2
def ZlL:Nat->SV->List Entry->(SV->List Entry->Prop)->Prop
 | 0,s,H,K=>K s H
 | n+1,s,H,K=>match s with
  | .ptr id 0=>Zev H id λe=>match e with
   | .box cells=>Zyb (ZlL n) cells H λcs0 H0=>Ql cs0 H0 λcs' H1=>Zev H1 id λe1=>match e1 with
    | .box _=>Zfm H1 id (.fbx cs') λH2=>K (.fptr cs') H2
    | _=>False
   | .fbx cells=>K (.fptr cells) H
   | _=>False
  | .own id=>Zev H id λe=>match e with
   | .hole _ e d i cells _=>Zyb (ZlL n) cells H λcs0 H0=>Ql cs0 H0 λcs' H1=>Xe e.ty cs' λx rest=>match rest with
    | []=>Zev H1 id λe1=>match e1 with
     | .hole _ _ _ _ _ _=>Zfm H1 id (.frz e.ty (d.set i.toNat x)) λH2=>K (.sl e.ty (d.set i.toNat x)) H2
     | _=>False
    | _=>False
   | _=>K (.own id) H
  | s=>K s H
def Zty (s:SV) (H:List Entry) (K:SV->List Entry->Prop):Prop:=ZlL 3 s H K
def Zqn (cs:List SV) (H:List Entry) (K:List SV->List Entry->Prop):Prop:=Zyb Zty cs H K
def Ztw (s:SV) (H:List Entry) (K:List SV->List Entry->Prop):Prop :=
 match s with
 | .fn f caps=>Zqn caps H λcaps' H1=>K [.fn f caps'] H1
 | .ptr id off=>Zty (.ptr id off) H λs' H1=>K [s'] H1
 | s=>Zqn s.cells H λcs0 H0=>Ql cs0 H0 K
def Zpd (t:Ty) (cs:List SV) (K:SV->Prop):Prop :=
 if t.agg=true then K (.agg cs) else match cs with
  | c::_=>K c
  | []=>False
def ZkO:(l:List Sh)->List SV->List Entry->(Shs l->List Entry->Prop)->Prop
 | [],ss,H,K=>match ss with
  | []=>K () H
  | _=>False
 | .dat t::r,ss,H,K=>match ss with
  | s::ss=>if s.whole=true/\t.agg=s.isAgg then Ztw s H λcs H1=>Xe t cs λd rest=>match rest with
    | []=>ZkO r ss H1 λds H2=>K (d,ds) H2
    | _=>False
   else False
  | _=>False
 | .own e::r,ss,H,K=>match ss with
  | s::ss=>if s.whole=true/\e.ty.agg=s.isAgg then closeAll e s.cells H λd H1=>ZkO r ss H1 λds H2=>K (d,ds) H2 else False
  | _=>False
 | .back e::r,ss,H,K=>match ss with
  | s::ss=>if s.whole=true/\e.ty.agg=s.isAgg then closeAll e s.cells H λd H1=>ZkO r ss H1 λds H2=>K (d,ds) H2 else False
  | _=>False
 | .io e::r,ss,H,K=>match ss with
  | .ptr id 0::ss=>Zev H id λen=>match en with
   | .box cells=>Zfm H id .gone λH0=>closeAll e cells H0 λd H1=>ZkO r ss H1 λds H2=>K (d,ds) H2
   | _=>False
  | _=>False
def Dp.closed:Dp->Bool
 | .flat t=>t.flat
 | .ol _ e=>e.closed
 | .pair a b=>a.closed&&b.closed
 | .mp k v=>k.flat&&v.flat
def Sh.flat:Sh->Bool
 | .dat t=>t.flat
 | .own e=>e.closed
 | .io e=>e.closed
 | .back e=>e.closed
def Zle:List Sh->Bool
 | []=>true
 | s::r=>s.flat&&Zle r
def Zil:List Sh->Bool
 | []=>true
 | .io e::r=>e.closed&&Zil r
 | .back e::r=>e.closed&&Zil r
 | _::r=>Zil r
def Zdn:(e:Dp)->List SV->e.ty.den->List Entry->(List SV->List Entry->Prop)->Prop
 | .flat t,cs,_,H,K=>ZgT cs t.size λr=>K r H
 | .ol et e,cs,d,H,K=>match cs with
  | .nsl::r=>K r H
  | .own id::r=>Zxg et e id d H λH'=>K r H'
  | _=>False
 | .mp k v,cs,d,H,K=>match cs with
  | .mown id::r=>Zfm H id (.mpe k v d) λH'=>K r H'
  | _=>False
 | .pair a b,cs,d,H,K=>Zv d λx y=>Zdn a cs x H λr H1=>Zdn b r y H1 K
def ZsQ:(l:List Sh)->List SV->Ios l->List Entry->(List Entry->Prop)->Prop
 | [],_,_,H,K=>K H
 | .io e::r,ss,d,H,K=>match ss with
  | .ptr id 0::ss=>Zv d λx d'=>X3 e x H λcells H1=>Zfm H1 id (.box cells) λH2=>ZsQ r ss d' H2 K
  | _=>False
 | .back e::r,ss,d,H,K=>match ss with
  | s::ss=>if s.whole=true then Zv d λx d'=>Zdn e s.cells x H λ_ H1=>ZsQ r ss d' H1 K else False
  | _=>False
 | .dat _::r,ss,d,H,K=>match ss with
  | _::ss=>ZsQ r ss d H K
  | _=>False
 | .own _::r,ss,d,H,K=>match ss with
  | _::ss=>ZsQ r ss d H K
  | _=>False
def Zkr:(l:List Sh)->Shs l->List Entry->(List SV->List Entry->Prop)->Prop
 | [],_,H,K=>K [] H
 | .dat t::r,d,H,K=>Zv d λx d'=>XQ t x λcs=>Zpd t cs λs=>Zkr r d' H λss H'=>K (s::ss) H'
 | .own e::r,d,H,K=>Zv d λx d'=>X3 e x H λcs H1=>Zpd e.ty cs λs=>Zkr r d' H1 λss H'=>K (s::ss) H'
 | .back e::r,d,H,K=>Zv d λx d'=>X3 e x H λcs H1=>Zpd e.ty cs λs=>Zkr r d' H1 λss H'=>K (s::ss) H'
 | .io e::r,d,H,K=>Zv d λx d'=>X3 e x H λcs H1=>ZnS cs H1 λs H2=>Zkr r d' H2 λss H'=>K (s::ss) H'
def ZpC (ss:List SV) (K:SV->Prop):Prop :=
 match ss with
 | [s]=>K s
 | ss=>K (.tup ss)
def Zrl:List Entry->(List Entry->Prop)->Prop
 | [],K=>K []
 | e::r,K=>Zrl r λr'=>K (e::r')
theorem Zpf:∀ (l:List Entry) (K:List Entry->Prop),Zrl l K=K l
 | [],_=>rfl
 | e::r,K=>by unfold Zrl;exact Zpf r _
def ZwM (C:Ctr) (ss:List SV) (H:List Entry) (K:SV->List Entry->Prop):Prop :=
 ZkO C.args ss H λas H1=>C.tr as λrs ios =>
  if (Zle C.rets&&Zil C.args)=true then Zrl (Zk6 H H1) λH0=>ZsQ C.args ss ios H0 λH2=>Zkr C.rets rs H2 λss' H3=>ZpC ss' λs=>K s H3
  else ZsQ C.args ss ios H1 λH2=>Zkr C.rets rs H2 λss' H3=>ZpC ss' λs=>K s H3
def Zyh (B:Base) (f:SV->List Entry->(SV->List Entry->Prop)->Prop):Prop :=
 ∀ (E:Env) (H:List Entry),Inv B E H->∀ (s:SV) (v:Value),den E s v->∀ (K:SV->List Entry->Prop),f s H K->∃ E' H' s',Frz E H E' H'/\Inv B E' H'/\den E' s' v/\K s' H'
theorem Zol {B:Base} {f:SV->List Entry->(SV->List Entry->Prop)->Prop} (hf:Zyh B f):∀ (cs:List SV) {E:Env} {H:List Entry} (_:Inv B E H) {vs:List Value} (_:Z7 E cs vs) {K:List SV->List Entry->Prop} (_:Zyb f cs H K),
  ∃ E' H' cs',Frz E H E' H'/\Inv B E' H'/\Z7 E' cs' vs/\K cs' H'
 | [],E,H,hI,vs,hd,K,hk=>⟨E,H,[],Frz.refl E H,hI,hd,hk⟩
 | s::r,E,H,hI,vs,hd,K,hk=>by
  match vs,hd with
  | [],hd=>simp[Z7] at hd
  | v::vs,hd =>
   simp only[Z7] at hd;simp only[Zyb] at hk;obtain ⟨E1,H1,s',hf1,hI1,hd1,hk⟩:=hf _ _ hI _ _ hd.1 _ hk;obtain ⟨E2,H2,r',hf2,hI2,hd2,hk⟩:=Zol hf r hI1 (ZL hf1.le _ _ hd.2) hk;exact ⟨E2,H2,s'::r',hf1.trans hf2,hI2,⟨Zet hf2.le _ _ hd1,hd2⟩,hk⟩
theorem ZjV {B:Base}:∀ n,Zyh B (ZlL n)
 | 0=>λ_ _ hI _ _ hd _ hk=>⟨_,_,_,Frz.refl _ _,hI,hd,hk⟩
 | n+1=>by
  intro E H hI s v hd K hk;unfold ZlL at hk;split at hk
  ·rename_i id
   obtain ⟨e,he,hk⟩:=YM H hk;simp only[den] at hd;obtain ⟨b,h1,hv⟩:=hd;split at hk
   ·rename_i cells
    obtain ⟨b',cs,T,h1',h2,h3⟩:=hI.ent id _ he;have:=h1.symm.trans h1';simp at this;subst this;obtain ⟨E0,H0,cs0,hf0,hI0,hd0,hk⟩:=Zol (ZjV n) _ hI h3 hk;obtain ⟨E1,H1,cs',hf1,hI1,hd1,hk,_⟩:=Xz _ hI0 hd0 hk;have hf01:=hf0.trans hf1;obtain ⟨e1,he1,hk⟩:=YM H1 hk;split at hk
    ·rename_i c1
     rw[Y0] at hk;have hv1:E1.ids[id]?=some (.pointer (some ⟨b,0,none⟩)):=by rw[hf01.ids];exact h1
     have hh1:E1.w.heap[b]?=some (.cells cs T (0,0)):=by rw[hf01.w];exact h2
     have hle0:E1.le ⟨λg=>E1.S g\/Ze5 (.box c1) (.pointer (some ⟨b,0,none⟩)) g,E1.w,E1.ids⟩:=⟨λ_ h=>.inl h,λ_ _=>rfl,λ_ _ h=>h⟩;obtain ⟨hle2,hI2⟩:=hI1.ZlJ he1 rfl hv1 (.fbx cs') rfl ⟨b,cs,T,hv1,.inr rfl,hh1,ZL hle0 _ _ hd1⟩;refine ⟨_,_,_,hf01.trans (Frz.one he1 rfl hv1 rfl hle2 (λb hb=>hb)),hI2,?_,hk⟩;simp only[den];refine ⟨⟨b,0,none⟩,cs.toList,hv,rfl,.inr rfl,λj u hu=>?_,ZL hle2 _ _ hd1⟩;exact ZiX (w:=E1.w) (b:=b) (cs:=cs) (T:=T) (fr:=(0,0)) hh1 0 j u (by simpa using hu)
    ·exact hk.elim
   ·rename_i cells
    obtain ⟨b',cs,T,h1',hS,h2,h3⟩:=hI.ent id _ he;have:=h1.symm.trans h1';simp at this;subst this;refine ⟨E,H,_,Frz.refl E H,hI,?_,hk⟩;simp only[den];refine ⟨⟨b,0,none⟩,cs.toList,hv,rfl,hS,λj u hu=>?_,h3⟩;exact ZiX h2 0 j u (by simpa using hu)
   ·exact hk.elim
  ·rename_i id
   obtain ⟨en,he,hk⟩:=YM H hk;split at hk
   ·rename_i et e d i cells fp
    have hd0:=hd;simp only[den] at hd0;obtain ⟨v',xs,x1,vx,x2,f1,f2,h1,ho,hi0,hi1,ex,el,el2,hr1,hr2,hdc,efp,hnd⟩:=hI.ent id _ he;have:=h1.symm.trans hd0.1;simp at this;subst this;obtain ⟨E0,H0,cs0,hf0,hI0,hd0',hk⟩:=Zol (ZjV n) _ hI hdc hk;obtain ⟨E1,H1,cs',hf1,hI1,hd1,hk,_⟩:=Xz _ hI0 hd0' hk;have hf01:=hf0.trans hf1;obtain ⟨x,rest,u1,u2,e12,hr,hrest,hk⟩:=Y4 e.ty cs' _ _ hd1 hk;split at hk
    ·have hv2:u2=[]:=by cases u2 with
      | nil=>rfl
      | cons=>simp[Z7] at hrest
     subst hv2;rw[List.append_nil] at e12;subst e12;obtain ⟨e1,he1,hk⟩:=YM H1 hk;split at hk
     ·have hsame:=hf01.same id _ he1 rfl
      rw[he] at hsame;have hsame:=Option.some.inj hsame;rw[<-hsame] at he1;rw[Y0] at hk;have hv1:E1.ids[id]?=some v':=by rw[hf01.ids];exact hd0.1
      have hrd:rep (λb=>E1.S b\/Ze5 (.hole et e d i cells fp) v' b) E1.w (.sl e.ty) (d.set i.toNat x) [v']:=by
       have hw:=hf01.w;rw[hw];rw[hw] at hr;refine ZpE (by rw[List.length_set];exact ho) ?_ (λg hg=>.inr (by show g∈fp;rw[efp];simp[hg]));rw[List.set_eq_take_append_cons_drop,if_pos (by omega),ex,List.append_assoc];refine ZfP _ _ _ _ (ZfO _ _ _ (λd vs f hsub h=>ZdU (S:=E.S) (λb hb=>.inl (hf01.le.S b hb)) e d vs f (λg hg=>.inr (by show g∈fp;grind)) h) hr1) ⟨vx,x2,rfl,?_,?_⟩
       ·exact Yi (λb hb=>.inl hb) (λ_ _=>rfl) e.ty x vx hr
       ·exact ZfO _ _ _ (λd vs f hsub h=>ZdU (S:=E.S) (λb hb=>.inl (hf01.le.S b hb)) e d vs f (λg hg=>.inr (by show g∈fp;grind)) h) hr2
      obtain ⟨hle2,hI2⟩:=hI1.ZlJ he1 rfl hv1 (.frz e.ty (d.set i.toNat x)) rfl ⟨v',hv1,hrd⟩;exact ⟨_,_,_,hf01.trans (Frz.one he1 rfl hv1 rfl hle2 (λb hb=>hb)),hI2,by simp only[den];exact hrd,hk⟩
     ·exact hk.elim
    ·exact hk.elim
   ·exact ⟨E,H,_,Frz.refl E H,hI,hd,hk⟩
  ·exact ⟨E,H,_,Frz.refl E H,hI,hd,hk⟩
theorem Zph {B:Base} {E:Env} {H:List Entry} (hI:Inv B E H) {s:SV} {v:Value} (hd:den E s v) {K:SV->List Entry->Prop} (hk:Zty s H K) :
  ∃ E' H' s',Frz E H E' H'/\Inv B E' H'/\den E' s' v/\K s' H':=ZjV 3 _ _ hI _ _ hd _ hk
theorem ZnH {B:Base} (cs:List SV) {E:Env} {H:List Entry} (hI:Inv B E H) {vs:List Value} (hd:Z7 E cs vs) {K:List SV->List Entry->Prop} (hk:Zqn cs H K) :
  ∃ E' H' cs',Frz E H E' H'/\Inv B E' H'/\Z7 E' cs' vs/\K cs' H' :=
 Zol (λ_ _ hI _ _ hd _ hk=>Zph hI hd hk) cs hI hd hk
theorem Ztx {B:Base} {E:Env} {H:List Entry} (hI:Inv B E H) {s:SV} {v:Value} (hd:den E s v) (hw:s.whole=true) {K:List SV->List Entry->Prop} (hk:Ztw s H K) :
  ∃ E' H' cs',Frz E H E' H'/\Inv B E' H'/\Z7 E' cs' v.cells.toList/\K cs' H':=by
 unfold Ztw at hk;split at hk
 ·rename_i f caps
  simp only[den] at hd;obtain ⟨vs,rfl,hd⟩:=hd;obtain ⟨E1,H1,cs',hf1,hI1,hd1,hk⟩:=ZnH _ hI hd hk;exact ⟨E1,H1,[.fn f cs'],hf1,hI1,⟨by simp only[den];grind,trivial⟩,hk⟩
 ·rename_i id off
  have hc:=(Zhi hd rfl).1;obtain ⟨E1,H1,s',hf1,hI1,hd1,hk⟩:=Zph hI hd hk;exact ⟨E1,H1,[s'],hf1,hI1,by rw[hc];exact ⟨hd1,trivial⟩,hk⟩
 ·obtain ⟨E0,H0,cs0,hf0,hI0,hd0,hk⟩:=ZnH _ hI (Vb hd hw) hk
  obtain ⟨E1,H1,cs',hf1,hI1,hd1,hk,_⟩:=Xz _ hI0 hd0 hk;exact ⟨E1,H1,_,hf0.trans hf1,hI1,hd1,hk⟩
theorem ZrY {E E':Env} (h:E.le E') {fp:List Nat} (hw:∀ g∈fp,E'.w.heap[g]?=E.w.heap[g]?):∀ (s:Sh) (d:s.den) (v:Value),ZqL E.S E.w s d v fp->ZqL E'.S E'.w s d v fp
 | .dat t,_,_,⟨h0,h1,h2,h3⟩=>⟨h0,h1,h2,Yi h.S h.w t _ _ h3⟩
 | .own e,_,_,⟨h1,h2⟩=>⟨h1,Yu h.S h.w e _ _ _ hw h2⟩
 | .back e,_,_,⟨h1,h2⟩=>⟨h1,Yu h.S h.w e _ _ _ hw h2⟩
 | .io e,_,_,⟨b,cs,T,f,h1,h2,h3,h4⟩=>⟨b,cs,T,f,h1,by grind,Yu h.S h.w e _ _ _ (λg hg=>hw g (by rw[h4];simp[hg])) h3,h4⟩
theorem ZpN {E E':Env} (h:E.le E'):∀ (l:List Sh) (d:Shs l) (vs:List Value) (fp:List Nat),(∀ g∈fp,E'.w.heap[g]?=E.w.heap[g]?)->Zcf E.S E.w l d vs fp->Zcf E'.S E'.w l d vs fp
 | [],_,_,_,_,h=>h
 | s::r,_,_,_,hw,⟨v,vr,f,fr,e,ef,h1,h2⟩=>⟨v,vr,f,fr,e,ef,ZrY h (λg hg=>hw g (by rw[ef];simp[hg])) s _ _ h1,ZpN h r _ _ _ (λg hg=>hw g (by rw[ef];simp[hg])) h2⟩
theorem ZqH {α:Type} {R R':α->List Value->List Nat->Prop} (h:∀ d vs f,R d vs f->R' d vs f) (l:List α) (xs:List Value) (fp:List Nat) (hr:VT R l xs fp):VT R' l xs fp:=Xf l xs fp (λd vs f _=>h d vs f) hr
theorem J3 {S S':Nat->Prop} {w:World}:∀ (e:Dp),e.closed=true->∀ (d:e.ty.den) (vs:List Value) (fp:List Nat),Ze3 S w e d vs fp->Ze3 S' w e d vs fp
 | .flat t,hc,_,_,_,⟨h1,h2⟩=>⟨h1,ZhC t hc _ _ h2⟩
 | .ol et e,hc,_,_,_,⟨v,xs,fps,e1,ho,hr,e2⟩=>⟨v,xs,fps,e1,ho,ZqH (λd vs f=>J3 e hc d vs f) _ _ _ hr,e2⟩
 | .mp k v,hc,_,_,_,⟨b,es,clk,e1,e2,hh,h⟩=>by
  simp only[Dp.closed,Bool.and_eq_true] at hc;exact ⟨b,es,clk,e1,e2,hh,JH (λd vs=>ZhC k hc.1 d vs) (λd vs=>ZhC v hc.2 d vs) _ _ h⟩
 | .pair a b,hc,_,_,_,⟨v1,v2,f1,f2,e1,e2,h1,h2⟩=>by
  simp only[Dp.closed,Bool.and_eq_true] at hc;exact ⟨v1,v2,f1,f2,e1,e2,J3 a hc.1 _ _ _ h1,J3 b hc.2 _ _ _ h2⟩
theorem ZjH {S S':Nat->Prop} {w:World}:∀ (l:List Sh),Zle l=true->∀ (d:Shs l) (vs:List Value) (fp:List Nat),Zcf S w l d vs fp->Zcf S' w l d vs fp
 | [],_,_,_,_,h=>h
 | s::r,hf,_,_,_,⟨v,vr,f,fr,e,ef,h1,h2⟩=>by
  simp only[Zle,Bool.and_eq_true] at hf;refine ⟨v,vr,f,fr,e,ef,?_,ZjH r hf.2 _ _ _ h2⟩;cases s with
  | dat t=>obtain ⟨a,b,c,d⟩:=h1;exact ⟨a,b,c,ZhC t hf.1 _ _ d⟩
  | own e=>exact ⟨h1.1,J3 e hf.1 _ _ _ h1.2⟩
  | back e=>exact ⟨h1.1,J3 e hf.1 _ _ _ h1.2⟩
  | io e=>obtain ⟨b,cs,T,f',a1,a2,a3,a4⟩:=h1;exact ⟨b,cs,T,f',a1,a2,J3 e hf.1 _ _ _ a3,a4⟩
theorem Zb3 {S S':Nat->Prop} {w:World}:∀ (l:List Sh),Zil l=true->∀ (d:Ios l) (vs:List Value) (fp:List Nat),Zfd S w l d vs fp->Zfd S' w l d vs fp
 | [],_,_,_,_,h=>h
 | .io e::r,hf,_,_,_,⟨v,vr,f,fr,ev,ef,⟨b,cs,T,f',a1,a2,a3,a4⟩,h2⟩=>by
  simp only[Zil,Bool.and_eq_true] at hf;exact ⟨v,vr,f,fr,ev,ef,⟨b,cs,T,f',a1,a2,J3 e hf.1 _ _ _ a3,a4⟩,Zb3 r hf.2 _ _ _ h2⟩
 | .back e::r,hf,_,_,_,⟨v,vr,f,fr,ev,ef,⟨a1,a2⟩,h2⟩=>by
  simp only[Zil,Bool.and_eq_true] at hf;exact ⟨v,vr,f,fr,ev,ef,⟨a1,J3 e hf.1 _ _ _ a2⟩,Zb3 r hf.2 _ _ _ h2⟩
 | .dat _::r,hf,_,_,_,⟨v,vr,e,h2⟩=>⟨v,vr,e,Zb3 r hf _ _ _ h2⟩
 | .own _::r,hf,_,_,_,⟨v,vr,e,h2⟩=>⟨v,vr,e,Zb3 r hf _ _ _ h2⟩
theorem Zvo {E:Env} {s:SV} {v:Value} (h:den E s v) (hw:s.whole=true):(s.isAgg=true->∃ cs,v=.agg cs)/\(s.isAgg=false->v.cells=#[v]):=by
 constructor
 ·intro ha
  cases s<;>simp[SV.isAgg] at ha
  simp only[den] at h;grind
 ·intro ha
  have h1:s.one=true:=by cases s<;>simp_all[SV.isAgg,SV.whole,SV.one]
  exact (Zhi h h1).1
def Handed (B:Base) (l:List Sh) (E:Env) (H:List Entry) (vs:List Value) (gs:List Nat) (K:Shs l->List Entry->Prop):Prop :=
 ∃ E1 H1 as fp,Frz E H E1 H1/\Inv B E1 H1/\Zcf E1.S E1.w l as vs fp/\K as H1/\Loose B E1 H1 (fp++gs)/\ZhW E H H1 fp
theorem Handed.cons {B:Base} {s:Sh} {r:List Sh} {E E1:Env} {H H1:List Entry} {v:Value} {vs:List Value} {gs f:List Nat} {d:s.den} (hf:Frz E H E1 H1) (hs:ZqL E1.S E1.w s d v f) (hT:ZhW E H H1 f) {K:Shs (s::r)->List Entry->Prop}
  (h:Handed B r E1 H1 vs (f++gs) (λds H2=>K (d,ds) H2)):Handed B (s::r) E H (v::vs) gs K:=by
 obtain ⟨E2,H2,ds,fp,hf2,hI2,hds,hk,hL,hT2⟩:=h;refine ⟨E2,H2,(d,ds),f++fp,hf.trans hf2,hI2,⟨v,vs,f,fp,rfl,rfl,ZrY hf2.le (λg _=>by rw[hf2.w]) s _ _ hs,hds⟩,hk,hL.perm ?_,(hT.later hf2).append (ZhW.after hf hT2)⟩;grind
theorem Zoj {E:Env} {s:SV} {v:Value} (hd:den E s v) (hw:s.whole=true) {t:Ty} (hag:t.agg=s.isAgg):ZuM t v:=by
 have hag':=Zvo hd hw;exact ⟨λh=>hag'.1 (by rw[<-hag];exact h),λh=>hag'.2 (by rw[<-hag];exact h)⟩
theorem Zht {B:Base}:∀ (l:List Sh) (ss:List SV) {E:Env} {H:List Entry} (_:Inv B E H) {vs:List Value} (_:Z7 E ss vs) {gs:List Nat} (_:Loose B E H gs) {K:Shs l->List Entry->Prop} (_:ZkO l ss H K),Handed B l E H vs gs K
 | [],ss,E,H,hI,vs,hd,gs,hL,K,hk=>by
  simp only[ZkO] at hk;split at hk
  ·match vs,hd with
   | [],_=>exact ⟨E,H,(),[],Frz.refl E H,hI,⟨rfl,rfl⟩,hk,hL,ZhW.nil _ _ _⟩
   | _::_,hd=>simp[Z7] at hd
  ·exact hk.elim
 | .dat t::r,ss,E,H,hI,vs,hd,gs,hL,K,hk=>by
  simp only[ZkO] at hk;split at hk
  ·rename_i s ss
   match vs,hd with
   | [],hd=>simp[Z7] at hd
   | v::vs,hd =>
    simp only[Z7] at hd;split at hk
    ·rename_i hc
     obtain ⟨hw,hag⟩:=hc;obtain ⟨E1,H1,cs,hf1,hI1,hd1,hk⟩:=Ztx hI hd.1 hw hk;obtain ⟨d,rest,v1,v2,e12,hr,hrest,hk⟩:=Y4 t cs _ _ hd1 hk;split at hk
     ·have hv2:v2=[]:=by cases v2 with
       | nil=>rfl
       | cons=>simp[Z7] at hrest
      subst hv2;rw[List.append_nil] at e12;obtain ⟨h1,h2⟩:=Zoj hd.1 hw hag;exact Handed.cons (s:=.dat t) (d:=d) (f:=[]) hf1 ⟨rfl,h1,h2,by rw[e12];exact hr⟩ (ZhW.nil _ _ _) (Zht r ss hI1 (ZL hf1.le _ _ hd.2) (hL.frz hf1) hk)
     ·exact hk.elim
    ·exact hk.elim
  ·exact hk.elim
 | .own e::r,ss,E,H,hI,vs,hd,gs,hL,K,hk=>by
  simp only[ZkO] at hk;split at hk
  ·rename_i s ss
   match vs,hd with
   | [],hd=>simp[Z7] at hd
   | v::vs,hd =>
    simp only[Z7] at hd;split at hk
    ·rename_i hc
     obtain ⟨hw,hag⟩:=hc;obtain ⟨E1,H1,d,f,hf1,hI1,hr,hk,hL1,hT,_⟩:=X6 hI (Vb hd.1 hw) hL hk;exact Handed.cons hf1 (s:=.own e) ⟨Zoj hd.1 hw hag,hr⟩ hT (Zht r ss hI1 (ZL hf1.le _ _ hd.2) hL1 hk)
    ·exact hk.elim
  ·exact hk.elim
 | .back e::r,ss,E,H,hI,vs,hd,gs,hL,K,hk=>by
  simp only[ZkO] at hk;split at hk
  ·rename_i s ss
   match vs,hd with
   | [],hd=>simp[Z7] at hd
   | v::vs,hd =>
    simp only[Z7] at hd;split at hk
    ·rename_i hc
     obtain ⟨hw,hag⟩:=hc;obtain ⟨E1,H1,d,f,hf1,hI1,hr,hk,hL1,hT,_⟩:=X6 hI (Vb hd.1 hw) hL hk;exact Handed.cons hf1 (s:=.back e) ⟨Zoj hd.1 hw hag,hr⟩ hT (Zht r ss hI1 (ZL hf1.le _ _ hd.2) hL1 hk)
    ·exact hk.elim
  ·exact hk.elim
 | .io e::r,ss,E,H,hI,vs,hd,gs,hL,K,hk=>by
  simp only[ZkO] at hk;split at hk
  ·rename_i id ss
   match vs,hd with
   | [],hd=>simp[Z7] at hd
   | v::vs,hd =>
    simp only[Z7] at hd;obtain ⟨en,he,hk⟩:=YM H hk;split at hk
    ·rename_i cells
     rw[Y0] at hk;have hv:=hd.1;simp only[den] at hv;obtain ⟨b,hb0,hv⟩:=hv;obtain ⟨b',cs0,T,e1,e2,e3⟩:=hI.ent id _ he;have:=hb0.symm.trans e1;simp at this;subst this;have t1:Frz E H E (H.set id .gone):=Frz.one he rfl hb0 rfl (Env.le.refl E) (λb hb=>.inl hb);have t3:=hL.take hI he rfl hb0 (f:=[b]) (by simp) (λg hg=>by
      simp at hg;subst hg;rfl)
     have t4:ZhW E H (H.set id .gone) [b]:=λg hg=>by
      simp at hg;subst hg;exact ⟨id,_,_,he,rfl,hb0,rfl,ZtD he⟩
     obtain ⟨E1,H1,d,f,hf1,hI1,hr,hk,hL1,hT,_⟩:=X6 (hI.drop id) e3 t3 hk;refine Handed.cons (t1.trans hf1) (s:=.io e) (f:=b::f) ⟨b,cs0,T,f,hv,by rw[hf1.w];exact e2,hr,rfl⟩ ?_ (Zht r ss hI1 (ZL hf1.le _ _ hd.2) (hL1.perm ?_) hk)
     ·exact ((t4.later hf1).append (ZhW.after t1 hT)).sub (λg hg=>by simpa using hg)
     grind
    ·exact hk.elim
  ·exact hk.elim
theorem ZlI {E:Env} {t:Ty} {v:Value} (hf:ZuM t v) {cs:List SV} (hd:Z7 E cs v.cells.toList) {K:SV->Prop} (hk:Zpd t cs K):∃ s,den E s v/\K s:=by
 unfold Zpd at hk;split at hk
 ·rename_i ha
  obtain ⟨cs',rfl⟩:=hf.1 ha;exact ⟨.agg _,by simp only[den];exact ⟨cs'.toList,by simp,hd⟩,hk⟩
 ·rename_i ha
  have hv:=hf.2 (by simpa using ha);split at hk
  ·rename_i c r
   rw[hv] at hd;simp only[Z7] at hd;grind
  ·exact hk.elim
theorem Zu4 {E:Env} {t:Ty} {d:t.den} {v:Value} (h:Zye E.S E.w t d v) {K:SV->Prop} (hk:Zpd t (Zdy t d) K):∃ s,den E s v/\K s:=by
 obtain ⟨h1,h2,h3⟩:=h;have hd:=YU t d _ h3;unfold Zpd at hk;split at hk
 ·rename_i ha
  obtain ⟨cs,rfl⟩:=h1 ha;exact ⟨.agg _,by simp only[den];exact ⟨cs.toList,by simp,hd⟩,hk⟩
 ·rename_i ha
  have hv:=h2 (by simpa using ha);split at hk
  ·rename_i c r heq
   rw[heq,hv] at hd;simp only[Z7] at hd;grind
  ·exact hk.elim
theorem ZgN {B:Base} {E:Env}:∀ (e:Dp) (cs:List SV) (x:e.ty.den) {H:List Entry} (_:Inv B E H) {vs vr:List Value} (_:Z7 E cs (vs++vr)) {f gs:List Nat} (_:Ze3 E.S E.w e x vs f) (_:Loose B E H (f++gs)) {K:List SV->List Entry->Prop} (_:Zdn e cs x H K),
  ∃ H' r,Inv B E H'/\Loose B E H' gs/\Z7 E r vr/\K r H'
 | .flat t,cs,x,H,hI,vs,vr,hd,f,gs,⟨hf,hr⟩,hL,K,hk=>by
  simp only[Zdn,Zad] at hk;have hl:=Y8 t x vs hr;have:=Ve _ _ hd t.size;grind
 | .ol et e,cs,d,H,hI,vs,vr,hd,f,gs,hr,hL,K,hk=>by
  have hr0:=hr;obtain ⟨v,xs,fps,ev,ho,hrs,ef⟩:=hr;subst ev;simp only[Zdn] at hk;split at hk
  ·rename_i r
   simp only[List.cons_append,List.nil_append,Z7,den] at hd;obtain ⟨rfl,hd⟩:=hd;refine ⟨H,r,hI,?_,hd,hk⟩;rcases ho.2 with ⟨_,hn⟩ | ⟨g,cap,cur,o,hv,_⟩
   ·have:d=[]:=List.eq_nil_of_length_eq_zero hn
    subst this;have:fps=[]:=hrs.2;subst this;rw[ef] at hL;simpa[Yx] using hL
   ·simp at hv
  ·rename_i id r
   simp only[List.cons_append,List.nil_append,Z7,den] at hd;obtain ⟨⟨hid,_⟩,hd⟩:=hd;have hlt:id<H.length:=by
    have:=(List.getElem?_eq_some_iff.1 hid).1;rw[<-hI.len];exact this
   obtain ⟨e1,h1,h2,h3,_⟩:=Zuf e hI hlt hid hr0 hL hk;grind
  ·exact hk.elim
 | .mp kt vt,cs,d,H,hI,vs,vr,hd,f,gs,⟨b,es,clk,e1,e2,hh,hr⟩,hL,K,hk=>by
  subst e1;simp only[Zdn] at hk;split at hk
  ·rename_i id r
   simp only[List.cons_append,List.nil_append,Z7,den] at hd;obtain ⟨⟨hid,_⟩,hd⟩:=hd;rw[Y0] at hk;have hlt:id<H.length:=by
    have:=(List.getElem?_eq_some_iff.1 hid).1;rw[<-hI.len];exact this
   obtain ⟨h1,h2⟩:=hL.put hI hlt hid (.mpe kt vt d) (λ_ g hg=>by
    have hg:Yx (.map (some b))=some g:=hg;simp[Yx] at hg;rw[e2];simp[hg]) ⟨b,es,clk,hid,hh,hr⟩
   grind
  ·exact hk.elim
 | .pair a b,cs,d,H,hI,vs,vr,hd,f,gs,⟨v1,v2,f1,f2,ev,ef,h1,h2⟩,hL,K,hk=>by
  simp only[Zdn,QC] at hk;subst ev;subst ef;rw[List.append_assoc] at hd hL;obtain ⟨H1,r,hI1,hL1,hd1,hk⟩:=ZgN a cs d.1 hI hd h1 hL hk;exact ZgN b r d.2 hI1 hd1 h2 hL1 hk
theorem ZlU {B:Base}:∀ (l:List Sh) (ss:List SV) (ios:Ios l) {E:Env} {H:List Entry} (_:Inv B E H) {vs:List Value} (_:Z7 E ss vs) {fio gs:List Nat} (_:Zfd E.S E.w l ios vs fio) (_:Loose B E H (fio++gs)) {K:List Entry->Prop} (_:ZsQ l ss ios H K),
  ∃ E' H',E'.w=E.w/\E'.S=E.S/\Inv B E' H'/\E.le E'/\Loose B E' H' gs/\K H'
 | [],ss,ios,E,H,hI,vs,hd,fio,gs,hio,hL,K,hk=>by
  have:fio=[]:=hio;subst this;exact ⟨E,H,rfl,rfl,hI,Env.le.refl E,hL,hk⟩
 | .io e::r,ss,ios,E,H,hI,vs,hd,fio,gs,⟨v,vr,f,fr,ev,ef,⟨b,cs,T,f',a1,a2,a3,a4⟩,hio⟩,hL,K,hk=>by
  simp only[ZsQ] at hk;subst ev;subst ef;subst a4;subst a1;split at hk
  ·rename_i id ss
   simp only[Z7,den] at hd;obtain ⟨⟨b',hid,hb'⟩,hd⟩:=hd;simp at hb';subst hb';simp only[QC] at hk;have hL1:Loose B E H (f'++(b::(fr++gs))):=hL.perm (by
    grind)
   obtain ⟨E1,H1,cells,hw1,hS1,hI1,hle1,hd1,hk,hL2,_⟩:=QI e ios.1 hI a3 hL1 hk;rw[Y0] at hk;have hid1:=hle1.ids _ _ hid;have hlt:id<H1.length:=by
    have:=(List.getElem?_eq_some_iff.1 hid1).1;rw[<-hI1.len];exact this
   obtain ⟨hI2,hL3⟩:=Loose.put (f:=[b]) (gs:=fr++gs) hL2 hI1 hlt hid1 (.box cells) (λ_ g hg=>by
    have hg:some b=some g:=hg;simp at hg;simp[hg]) ⟨b,cs,T,hid1,by rw[hw1];exact a2,hd1⟩
   obtain ⟨E2,H2,hw2,hS2,hI3,hle2,hL4,hk⟩:=ZlU r ss ios.2 hI2 (ZL hle1 _ _ hd) (by grind) hL3 hk;exact ⟨E2,H2,hw2.trans hw1,hS2.trans hS1,hI3,hle1.trans hle2,hL4,hk⟩
  ·exact hk.elim
 | .back e::r,ss,ios,E,H,hI,vs,hd,fio,gs,⟨v,vr,f,fr,ev,ef,⟨a1,a2⟩,hio⟩,hL,K,hk=>by
  simp only[ZsQ] at hk;subst ev;subst ef;split at hk
  ·rename_i s ss
   simp only[Z7] at hd;split at hk
   ·rename_i hw
    simp only[QC] at hk;rw[List.append_assoc] at hL;obtain ⟨H1,r',hI1,hL1,_,hk⟩:=ZgN e s.cells ios.1 hI (vs:=v.cells.toList) (vr:=[]) (by rw[List.append_nil];exact Vb hd.1 hw) a2 hL hk;exact ZlU r ss ios.2 hI1 hd.2 hio hL1 hk
   ·exact hk.elim
  ·exact hk.elim
 | .dat _::r,ss,ios,E,H,hI,vs,hd,fio,gs,⟨v,vr,ev,hio⟩,hL,K,hk=>by
  simp only[ZsQ] at hk;subst ev;split at hk
  ·simp only[Z7] at hd
   exact ZlU r _ ios hI hd.2 hio hL hk
  ·exact hk.elim
 | .own _::r,ss,ios,E,H,hI,vs,hd,fio,gs,⟨v,vr,ev,hio⟩,hL,K,hk=>by
  simp only[ZsQ] at hk;subst ev;split at hk
  ·simp only[Z7] at hd
   exact ZlU r _ ios hI hd.2 hio hL hk
  ·exact hk.elim
theorem ZhE {B:Base}:∀ (l:List Sh) (rs:Shs l) (us:List Value) {E:Env} {H:List Entry} (_:Inv B E H) {fp gs:List Nat} (_:Zcf E.S E.w l rs us fp) (_:Loose B E H (fp++gs)) {K:List SV->List Entry->Prop} (_:Zkr l rs H K),
  ∃ E' H' ss,E'.w=E.w/\E'.S=E.S/\Inv B E' H'/\E.le E'/\Z7 E' ss us/\K ss H'
 | [],rs,us,E,H,hI,fp,gs,hd,hL,K,hk=>by
  obtain ⟨rfl,rfl⟩:=hd;exact ⟨E,H,[],rfl,rfl,hI,Env.le.refl E,trivial,hk⟩
 | .dat t::r,rs,us,E,H,hI,fp,gs,⟨u,ur,f,fr,e,ef,⟨hf,h1⟩,h2⟩,hL,K,hk=>by
  subst e;subst hf;subst ef;simp only[Zkr,QC,Y9] at hk;obtain ⟨s,hs,hk⟩:=Zu4 h1 hk;obtain ⟨E',H',ss,hw,hS,hI',hle,hds,hk⟩:=ZhE r rs.2 ur hI h2 hL hk;exact ⟨E',H',s::ss,hw,hS,hI',hle,⟨Zet hle s u hs,hds⟩,hk⟩
 | .own e::r,rs,us,E,H,hI,fp,gs,⟨u,ur,f,fr,ev,ef,⟨hform,h1⟩,h2⟩,hL,K,hk=>by
  subst ev;subst ef;simp only[Zkr,QC] at hk;rw[List.append_assoc] at hL;obtain ⟨E1,H1,cs,hw1,hS1,hI1,hle1,hd1,hk,hL1,_⟩:=QI e rs.1 hI h1 hL hk;obtain ⟨s,hs,hk⟩:=ZlI hform hd1 hk;obtain ⟨E',H',ss,hw,hS,hI',hle,hds,hk⟩:=ZhE r rs.2 ur hI1 (by grind) hL1 hk;exact ⟨E',H',s::ss,hw.trans hw1,hS.trans hS1,hI',hle1.trans hle,⟨Zet hle s u hs,hds⟩,hk⟩
 | .back e::r,rs,us,E,H,hI,fp,gs,⟨u,ur,f,fr,ev,ef,⟨hform,h1⟩,h2⟩,hL,K,hk=>by
  subst ev;subst ef;simp only[Zkr,QC] at hk;rw[List.append_assoc] at hL;obtain ⟨E1,H1,cs,hw1,hS1,hI1,hle1,hd1,hk,hL1,_⟩:=QI e rs.1 hI h1 hL hk;obtain ⟨s,hs,hk⟩:=ZlI hform hd1 hk;obtain ⟨E',H',ss,hw,hS,hI',hle,hds,hk⟩:=ZhE r rs.2 ur hI1 (by grind) hL1 hk;exact ⟨E',H',s::ss,hw.trans hw1,hS.trans hS1,hI',hle1.trans hle,⟨Zet hle s u hs,hds⟩,hk⟩
 | .io e::r,rs,us,E,H,hI,fp,gs,⟨u,ur,f,fr,ev,ef,⟨b,cs,T,f',a1,a2,a3,a4⟩,h2⟩,hL,K,hk=>by
  subst ev;subst ef;subst a4;subst a1;simp only[Zkr,QC] at hk;have hL1:Loose B E H (f'++(b::(fr++gs))):=hL.perm (by
   grind)
  obtain ⟨E1,H1,cells,hw1,hS1,hI1,hle1,hd1,hk,hL2,_⟩:=QI e rs.1 hI a3 hL1 hk;simp only[ZnS,JZ,VZ,Nat.zero_add] at hk;have hid:(E1.ids++[Value.pointer (some ⟨b,0,none⟩)])[H1.length]?=some (.pointer (some ⟨b,0,none⟩)):=by rw[<-hI1.len];simp
  have hle2:=Zh1 E1 (.pointer (some ⟨b,0,none⟩));obtain ⟨hI2,hL3⟩:=Loose.push (f:=[b]) (gs:=fr++gs) hL2 hI1 (.pointer (some ⟨b,0,none⟩)) (.box cells) (λ_ g hg=>by
   have hg:some b=some g:=hg;simp at hg;simp[hg]) ⟨b,cs,T,hid,by grind,ZL hle2 _ _ hd1⟩
  obtain ⟨E',H',ss,hw,hS,hI',hle,hds,hk⟩:=ZhE r rs.2 ur hI2 (by
   grind) hL3 hk
  refine ⟨E',H',.ptr H1.length 0::ss,hw.trans hw1,hS.trans hS1,hI',hle1.trans (hle2.trans hle),⟨Zet hle _ _ ?_,hds⟩,hk⟩;simp only[den];grind
theorem ZrN {E:Env} {ss:List SV} {us:List Value} (h:Z7 E ss us) {v:Value} (hv:retv us v) {K:SV->Prop} (hk:ZpC ss K):∃ s,den E s v/\K s:=by
 unfold ZpC at hk;unfold retv at hv;split at hk
 ·rename_i s
  match us,h with
  | [u],h=>simp only[Z7] at h;grind
  | [],h=>simp[Z7] at h
  | _::_::_,h=>simp[Z7] at h
 ·rename_i hne
  have hl:=YC _ _ h;split at hv
  ·rename_i u
   match ss,hl with
   | [s],_=>grind
  ·subst hv
   exact ⟨.tup ss,by simp only[den];grind,hk⟩
theorem Loose.behind {B:Base} {E:Env} {H:List Entry} {fp:List Nat} (hL:Loose B E H fp) (hI:Inv B E H) {w':World} {S0:Nat->Prop} (hk:Keeps ⟨E.w,S0,λb=>b∈fp,[]⟩ w') {S2:Nat->Prop} (hS:∀ b,E.S b->S2 b)
  (hS2:∀ b,S2 b->b<w'.heap.size/\(b<E.w.heap.size->E.S b\/b∈fp)) {l:List Nat} (hl:l.Nodup) (hfree:∀ g∈l,¬S2 g/\g<w'.heap.size/\(E.w.heap.size<=g\/g∈fp)) :
  E.le ⟨S2,w',E.ids⟩/\Inv B ⟨S2,w',E.ids⟩ H/\Loose B ⟨S2,w',E.ids⟩ H l:=by
 have hle:E.le ⟨S2,w',E.ids⟩:=⟨hS,λb hb=>hk.block b (hI.Slt b hb) (λhp=>(hL.free b hp).1 hb),λ_ _ hh=>hh⟩;refine ⟨hle,?_,hl,λg hg=>?_,λg hg j e v hj hlv hv hb=>?_⟩
 ·exact
   {keeps:=⟨hk.os.trans hI.keeps.os,hk.tape.trans hI.keeps.tape,hk.output.trans hI.keeps.output,Nat.le_trans hI.keeps.size hk.size,λb hb hio =>
     (hk.block b (Nat.lt_of_lt_of_le hb hI.keeps.size) (λhp=>by
      rcases (hL.free b hp).2.1 with h1 | h1
      all_goals grind)).trans (hI.keeps.block b hb hio)⟩
    Slt:=λb hb=>(hS2 b hb).1
    Sold:=λb hb hlt=>by
     rcases (hS2 b hb).2 (Nat.lt_of_lt_of_le hlt hI.keeps.size) with h | h
     ·exact hI.Sold b h hlt
     ·rcases (hL.free b h).2.1 with h1 | h1
      all_goals grind
    glob:=hI.glob.le hle
    len:=hI.len
    pin:=hI.pin
    ent:=λj e hj=>ZbS hle j e (λhlv v g hv hb=>hk.block g (hI.free j e v g hj hlv hv hb).2.2 (λhp=>hL.apart g hp j e v hj hlv hv hb)) (hI.ent j e hj)
    free:=λj e v g hj hlv hv hb=>by
     obtain ⟨a,b,c⟩:=hI.free j e v g hj hlv hv hb;refine ⟨λhs=>?_,b,Nat.lt_of_lt_of_le c hk.size⟩;rcases (hS2 g hs).2 c with h | h
     ·exact a h
     ·exact hL.apart g h j e v hj hlv hv hb
    sep:=hI.sep}
 ·obtain ⟨a,b,c⟩:=hfree g hg
  refine ⟨a,?_,b⟩;rcases c with c | c
  ·exact .inl (Nat.le_trans hI.keeps.size c)
  ·exact (hL.free g c).2.1
 ·obtain ⟨_,_,c⟩:=hfree g hg
  rcases c with c | c
  ·have:=(hI.free j e v g hj hlv hv hb).2.2;omega
  ·exact hL.apart g c j e v hj hlv hv hb
def ZbR:List Sh->Bool
 | []=>true
 | .dat _::r=>ZbR r
 | _::_=>false
theorem Zks {S:Nat->Prop} {w:World}:∀ (l:List Sh) (d:Shs l) (vs:List Value) (fp:List Nat),ZbR l=true->Zcf S w l d vs fp->fp=[]
 | [],_,_,_,_,h=>h.2
 | .dat _::r,_,_,_,hd,⟨v,vr,f,fr,e,ef,⟨h1,_⟩,h2⟩=>by rw[ef,h1,Zks r _ _ _ hd h2];rfl
 | .own _::_,_,_,_,h,_=>by simp[ZbR] at h
 | .io _::_,_,_,_,h,_=>by simp[ZbR] at h
 | .back _::_,_,_,_,h,_=>by simp[ZbR] at h
def Zf3:List Sh->Bool
 | []=>true
 | .dat _::r=>Zf3 r
 | .io (.flat _)::r=>Zf3 r
 | _::_=>false
def Zja:List Sh->List Bool
 | []=>[]
 | .io _::r=>true::Zja r
 | _::r=>false::Zja r
def pick {α:Type}:List Bool->List α->List α
 | true::m,x::r=>x::pick m r
 | false::m,_::r=>pick m r
 | _,_=>[]
theorem ZoJ {α β:Type} (f:α->β):∀ (m:List Bool) (l:List α),pick m (l.map f)=(pick m l).map f
 | [],l=>by cases l<;>rfl
 | true::m,[]=>rfl
 | false::m,[]=>rfl
 | true::m,x::r=>by simp only[List.map_cons,pick,ZoJ f m r]
 | false::m,x::r=>by simp only[List.map_cons,pick,ZoJ f m r]
theorem ZiK {S:Nat->Prop} {w:World}:∀ (l:List Sh) (d:Shs l) (vs:List Value) (fp:List Nat),Zf3 l=true->Zcf S w l d vs fp->∀ g∈fp,∃ v∈pick (Zja l) vs,Yx v=some g
 | [],_,_,_,_,h,g,hg=>by rw[h.2] at hg;cases hg
 | .dat _::r,_,_,_,hd,⟨v,vr,f,fr,e,ef,⟨h1,_⟩,h2⟩,g,hg=>by
  rw[ef,h1,List.nil_append] at hg;rw[e];exact ZiK r _ _ _ hd h2 g hg
 | .io (.flat t)::r,_,_,_,hd,⟨v,vr,f,fr,e,ef,⟨b,cs,T,f',hv,_,hr,hf⟩,h2⟩,g,hg=>by
  have hf':f'=[]:=hr.1;rw[ef,hf,hf'] at hg;rw[e];rcases List.mem_append.1 hg with hg | hg
  ·rw[List.mem_singleton] at hg
   exact ⟨v,by simp[Zja,pick],by rw[hv,hg];rfl⟩
  ·obtain ⟨u,hu,hb⟩:=ZiK r _ _ _ hd h2 g hg
   exact ⟨u,by simp only[Zja,pick];grind,hb⟩
 | .io (.ol _ _)::_,_,_,_,h,_,_,_=>by simp[Zf3] at h
 | .io (.pair _ _)::_,_,_,_,h,_,_,_=>by simp[Zf3] at h
 | .io (.mp _ _)::_,_,_,_,h,_,_,_=>by simp[Zf3] at h
 | .own _::_,_,_,_,h,_,_,_=>by simp[Zf3] at h
 | .back _::_,_,_,_,h,_,_,_=>by simp[Zf3] at h
theorem Zu0 {P:Program} {B:Base} {E:Env} {H:List Entry} (hI:Inv B E H) {f:FuncId} {C:Ctr} (hC:Za P f C) {ss:List SV} {vs:List Value} (hd:Z7 E ss vs)
  {K:SV->List Entry->Prop} (hk:ZwM C ss H K) :
  Calls P f vs.toArray E.w λe w'=>∃ v E' H' s,e=.returned v/\E'.w=w'/\Inv B E' H'/\E.le E'/\den E' s v/\K s H'/\(ZbR C.args=true->Grow E.w w')/\(Zf3 C.args=true->∀ b,b<E.w.heap.size->(∀ v∈pick (Zja C.args) vs,Yx v≠some b)->w'.heap[b]?=E.w.heap[b]?):=by
 unfold ZwM at hk;obtain ⟨E1,H1,as,fp,hf1,hI1,has,hk,hL1,hT⟩:=Zht C.args ss hI hd (Loose.none B E H) hk;rw[List.append_nil] at hL1;have hcall:=hC.2 E1.w E1.S vs as fp _ hI1.Slt hI1.glob has hL1.nodup (λg hg=>⟨(hL1.free g hg).1,(hL1.free g hg).2.2⟩) hk;rw[hf1.w] at hcall;refine hcall.mono ?_;rintro e w' ⟨v,us,rs,ios,S',fr,fio,he,hv,hk,hkeeps,hS1,hS2,hrets,hios,hnd,hfree⟩;have hgrow:ZbR C.args=true->Grow E.w w':=by
  intro hda b hb;refine hkeeps.block b hb ?_;rw[Zks _ _ _ _ hda has];simp
 have hstay:Zf3 C.args=true->∀ b,b<E.w.heap.size->(∀ v∈pick (Zja C.args) vs,Yx v≠some b)->w'.heap[b]?=E.w.heap[b]?:=by
  intro hfl b hb hne;refine hkeeps.block b hb (λhm=>?_);obtain ⟨u,hu,hbu⟩:=ZiK _ _ _ _ hfl has b hm;exact hne u hu hbu
 have fin:∀ (E0:Env) (H0:List Entry) (S2:Nat->Prop),E0.w=E.w->Inv B E0 H0->E.le E0->Loose B E0 H0 fp->(∀ b,E0.S b->S2 b)->(∀ b,S2 b->S' b)->(∀ b,S2 b->b<w'.heap.size/\(b<E.w.heap.size->E0.S b\/b∈fp))->
   Zcf S2 w' C.rets rs us fr->Zfd S2 w' C.args ios vs fio->
   (ZsQ C.args ss ios H0 λH2=>Zkr C.rets rs H2 λss' H3=>ZpC ss' λs=>K s H3)->
   ∃ v E' H' s,e=.returned v/\E'.w=w'/\Inv B E' H'/\E.le E'/\den E' s v/\K s H'/\(ZbR C.args=true->Grow E.w w')/\(Zf3 C.args=true->∀ b,b<E.w.heap.size->(∀ v∈pick (Zja C.args) vs,Yx v≠some b)->w'.heap[b]?=E.w.heap[b]?):=by
  intro E0 H0 S2 hw0 hI0 hle0 hL0 hSa hSb hSc hr2 hi2 hk;obtain ⟨hleb,hI2,hL2⟩:=hL0.behind hI0 (w':=w') (S0:=E1.S) (by grind) (S2:=S2) hSa (by rw[hw0];exact hSc) hnd (λg hg=>by
   grind)
  obtain ⟨E2,H2,hw2,hS2',hI3,hle2,hL3,hk⟩:=ZlU C.args ss ios hI2 (ZL (hle0.trans hleb) _ _ hd) hi2 hL2 hk;obtain ⟨E3,H3,ss',hw3,hS3,hI4,hle3,hds,hk⟩:=ZhE C.rets rs us hI3 (gs:=[]) (by rw[hS2',hw2];exact hr2) (by grind) hk;obtain ⟨s,hs,hk⟩:=ZrN hds hv hk;exact ⟨v,E3,H3,s,he,hw3.trans hw2,hI4,((hle0.trans hleb).trans hle2).trans hle3,hs,hk,hgrow,hstay⟩
 split at hk
 ·rename_i hflat
  simp only[Bool.and_eq_true] at hflat;obtain ⟨hIr,hLr⟩:=ZqI hI hf1 hL1 hT;rw[Zpf] at hk;exact fin E (Zk6 H H1) E.S rfl hIr (Env.le.refl E) hLr (λb h=>h) (λb h=>hS1 b (hf1.le.S b h)) (λb hb=>⟨Nat.lt_of_lt_of_le (hI.Slt b hb) hkeeps.size,λ_=>.inl hb⟩)
   (ZjH _ hflat.1 _ _ _ hrets) (Zb3 _ hflat.2 _ _ _ hios) hk
 ·exact fin E1 H1 S' hf1.w hI1 hf1.le hL1 hS1 (λb h=>h) (λb hb=>by
   grind) hrets hios hk
mutual
def ranged (n:Nat):SV->Prop
 | .ptr id _=>id<n
 | .own id=>id<n
 | .mown id=>id<n
 | .oep id _ _ _=>id<n
 | .fptr cs=>Zbm n cs
 | .agg cs=>Zbm n cs
 | .tup cs=>Zbm n cs
 | .fn _ cs=>Zbm n cs
 | _=>True
def Zbm (n:Nat):List SV->Prop
 | []=>True
 | c::cs=>ranged n c/\Zbm n cs
end
mutual
theorem Zsf {E:Env}:∀ (s:SV) (v:Value),den E s v->ranged E.ids.length s
 | .bot,_,_=>by simp only[ranged]
 | .int _ _,_,_=>by simp only[ranged]
 | .bool _,_,_=>by simp only[ranged]
 | .blit _,_,_=>by simp only[ranged]
 | .str _,_,_=>by simp only[ranged]
 | .sl _ _,_,_=>by simp only[ranged]
 | .nsl,_,_=>by simp only[ranged]
 | .nilp,_,_=>by simp only[ranged]
 | .gptr _,_,_=>by simp only[ranged]
 | .nptr _ _,_,_=>by simp only[ranged]
 | .mp _ _ _,_,_=>by simp only[ranged]
 | .mown id,_,h=>by simp only[den] at h;simp only[ranged];grind
 | .ptr id _,_,h=>by simp only[den] at h;obtain ⟨b,e,_⟩:=h;simp only[ranged];grind
 | .own id,_,h=>by simp only[den] at h;simp only[ranged];grind
 | .oep id _ _ _,_,h=>by simp only[den] at h;obtain ⟨b,bo,n,c,e,_⟩:=h;simp only[ranged];grind
 | .fptr cs,_,h=>by simp only[den] at h;obtain ⟨p,vs,_,_,_,_,h⟩:=h;simp only[ranged];exact Vn cs vs h
 | .agg cs,_,h=>by simp only[den] at h;obtain ⟨vs,_,h⟩:=h;simp only[ranged];exact Vn cs vs h
 | .tup cs,_,h=>by simp only[den] at h;obtain ⟨vs,_,h⟩:=h;simp only[ranged];exact Vn cs vs h
 | .fn _ cs,_,h=>by simp only[den] at h;obtain ⟨vs,_,h⟩:=h;simp only[ranged];exact Vn cs vs h
theorem Vn {E:Env}:∀ (cs:List SV) (vs:List Value),Z7 E cs vs->Zbm E.ids.length cs
 | [],_,_=>by simp only[Zbm]
 | c::cs,v::vs,h=>by simp only[Z7] at h;simp only[Zbm];exact ⟨Zsf c v h.1,Vn cs vs h.2⟩
 | _::_,[],h=>by simp[Z7] at h
end
mutual
theorem Ztg {E:Env} {n:Nat}:∀ (s:SV) (v:Value),ranged n s->den E s v->den ⟨E.S,E.w,E.ids.take n⟩ s v
 | .bot,_,_,h=>h
 | .int _ _,_,_,h=>h
 | .bool _,_,_,h=>h
 | .blit _,_,_,h=>h
 | .str _,_,_,h=>h
 | .sl _ _,_,_,h=>h
 | .nsl,_,_,h=>h
 | .nilp,_,_,h=>h
 | .gptr _,_,_,h=>h
 | .nptr _ _,_,_,h=>h
 | .mp _ _ _,_,_,h=>h
 | .mown id,_,hs,h=>by
  simp only[den] at h ⊢;simp only[ranged] at hs;grind
 | .ptr id _,_,hs,h=>by
  simp only[den] at h ⊢;simp only[ranged] at hs;grind
 | .own id,_,hs,h=>by
  simp only[den] at h ⊢;simp only[ranged] at hs;grind
 | .oep id _ _ _,_,hs,h=>by
  simp only[den] at h ⊢;simp only[ranged] at hs;grind
 | .fptr cs,_,hs,h=>by
  simp only[den] at h ⊢;simp only[ranged] at hs;obtain ⟨p,vs,a,b,c,d,h⟩:=h;exact ⟨p,vs,a,b,c,d,Jq cs vs hs h⟩
 | .agg cs,_,hs,h=>by simp only[den] at h ⊢;simp only[ranged] at hs;obtain ⟨vs,a,h⟩:=h;exact ⟨vs,a,Jq cs vs hs h⟩
 | .tup cs,_,hs,h=>by simp only[den] at h ⊢;simp only[ranged] at hs;obtain ⟨vs,a,h⟩:=h;exact ⟨vs,a,Jq cs vs hs h⟩
 | .fn _ cs,_,hs,h=>by simp only[den] at h ⊢;simp only[ranged] at hs;obtain ⟨vs,a,h⟩:=h;exact ⟨vs,a,Jq cs vs hs h⟩
theorem Jq {E:Env} {n:Nat}:∀ (cs:List SV) (vs:List Value),Zbm n cs->Z7 E cs vs->Z7 ⟨E.S,E.w,E.ids.take n⟩ cs vs
 | [],[],_,_=>trivial
 | c::cs,v::vs,hs,h=>by simp only[Z7] at h ⊢;simp only[Zbm] at hs;exact ⟨Ztg c v hs.1 h.1,Jq cs vs hs.2 h.2⟩
 | _::_,[],_,h=>by simp[Z7] at h
 | [],_::_,_,h=>by simp[Z7] at h
end
def Zqg (n:Nat):Entry->Prop
 | .box cells=>Zbm n cells
 | .fbx cells=>Zbm n cells
 | .hole _ _ _ _ cells _=>Zbm n cells
 | .hsp _ _ _ _ cells _=>Zbm n cells
 | _=>True
theorem Zqf {E:Env} {i:Nat} {e:Entry} (h:Zrc E i e):Zqg E.ids.length e:=by
 cases e with
 | box cells=>obtain ⟨b,cs,T,_,_,h⟩:=h;exact Vn _ _ h
 | fbx cells=>obtain ⟨b,cs,T,_,_,_,h⟩:=h;exact Vn _ _ h
 | hole et e d i cells fp=>obtain ⟨_,_,_,_,_,_,_,_,_,_,_,_,_,_,_,_,h,_⟩:=h;exact Vn _ _ h
 | hsp et e d i cells fp=>obtain ⟨_,_,_,_,_,_,_,_,_,_,_,_,_,_,_,h,_⟩:=h;exact Vn _ _ h
 | _=>trivial
theorem Inv.trunc {B:Base} {E:Env} {H:List Entry} (h:Inv B E H) (n:Nat) (hn:B.pin.length<=n) (hs:∀ e∈H.take n,Zqg n e):Inv B ⟨E.S,E.w,E.ids.take n⟩ (H.take n):=by
 have hH:∀ (i:Nat) (e:Entry),(H.take n)[i]?=some e->i<n/\H[i]?=some e:=by
  grind
 have hid:∀ (i:Nat) (v:Value),i<n->E.ids[i]?=some v->(E.ids.take n)[i]?=some v:=by
  grind
 have hid':∀ (i:Nat) (v:Value),(E.ids.take n)[i]?=some v->E.ids[i]?=some v:=by
  grind
 exact
  {keeps:=h.keeps,Slt:=h.Slt,Sold:=h.Sold,glob:=h.glob,len:=by simp[h.len]
   pin:=λi v hv=>hid i v (Nat.lt_of_lt_of_le (List.getElem?_eq_some_iff.1 hv).1 hn) (h.pin i v hv)
   ent:=λi e hi=>by
    have hmem:=List.mem_of_getElem? hi;obtain ⟨hlt,hi'⟩:=hH i e hi;have he:=h.ent i e hi';cases e with
    | gone=>trivial
    | box cells =>
     obtain ⟨b,cs,T,a1,a2,a3⟩:=he;exact ⟨b,cs,T,hid _ _ hlt a1,a2,Jq _ _ (hs _ hmem) a3⟩
    | arr et t d=>obtain ⟨v,xs,a1,a2,a3⟩:=he;exact ⟨v,xs,hid _ _ hlt a1,a2,a3⟩
    | frz t d=>obtain ⟨v,a1,a2⟩:=he;exact ⟨v,hid _ _ hlt a1,a2⟩
    | mpe k v d=>obtain ⟨b,es,clk,a1,a2⟩:=he;exact ⟨b,es,clk,hid _ _ hlt a1,a2⟩
    | frm k v d=>obtain ⟨u,a1,a2⟩:=he;exact ⟨u,hid _ _ hlt a1,a2⟩
    | fbx cells =>
     obtain ⟨b,cs,T,a1,aS,a2,a3⟩:=he;exact ⟨b,cs,T,hid _ _ hlt a1,aS,a2,Jq _ _ (hs _ hmem) a3⟩
    | darr et e d fp=>obtain ⟨v,xs,fps,a1,a2⟩:=he;exact ⟨v,xs,fps,hid _ _ hlt a1,a2⟩
    | hole et e d i cells fp =>
     obtain ⟨v,xs,x1,vx,x2,f1,f2,a1,a2,a3,a4,a5,a6,a7,a8,a9,a10,a11⟩:=he;exact ⟨v,xs,x1,vx,x2,f1,f2,hid _ _ hlt a1,a2,a3,a4,a5,a6,a7,a8,a9,Jq _ _ (hs _ hmem) a10,a11⟩
    | spl et e d n fp=>obtain ⟨v,a1,a2⟩:=he;exact ⟨v,hid _ _ hlt a1,a2⟩
    | hsp et e d i cells fp =>
     obtain ⟨v,xs,x1,vx,x2,f1,a1,a2,a3,a4,a5,a6,a7,a8,a9,a10,a11⟩:=he;exact ⟨v,xs,x1,vx,x2,f1,hid _ _ hlt a1,a2,a3,a4,a5,a6,a7,a8,a9,Jq _ _ (hs _ hmem) a10,a11⟩
   free:=λi e v g hi hl hv hb=>h.free i e v g (hH i e hi).2 hl (hid' _ _ hv) hb
   sep:=λi j ei ej vi vj g hi hj hli hlj hvi hvj=>h.sep i j ei ej vi vj g (hH i ei hi).2 (hH j ej hj).2 hli hlj (hid' _ _ hvi) (hid' _ _ hvj)}
inductive Loc
 | reg (r:Nat) (s:Sh)
 | cell (id off:Nat) (t:Ty)
 | cello (id off:Nat) (e:Dp)
 | ent (id:Nat) (et:TypeId) (e:Dp)
 | entm (id:Nat) (k v:Ty)
 | splt (id:Nat) (et:TypeId) (e:Dp)
def Loc.Zyx (n:Nat):Loc->Prop
 | .ent id _ _=>id<n
 | .entm id _ _=>id<n
 | .splt id _ _=>id<n
 | _=>True
@[reducible] def Loc.den:Loc->Type
 | .reg _ s=>s.den
 | .cell _ _ t=>t.den
 | .cello _ _ e=>e.ty.den
 | .ent _ _ e=>List e.ty.den
 | .entm _ k v=>List (k.den×v.den)
 | .splt _ _ e=>List e.ty.den×Int
@[reducible] def Zp6:List Loc->Type
 | []=>Unit
 | l::r=>l.den×Zp6 r
def Zfk:(ls:List Loc)->List SV->List Entry->(Zp6 ls->List Entry->Prop)->Prop
 | [],_,H,K=>K () H
 | .reg r (.dat t)::q,regs,H,K=>ZkP regs r λs=>Ql [s] H λcs H1=>Xe t cs λd rest=>match rest with
   | []=>Zfk q regs H1 λds H2=>K (d,ds) H2
   | _=>False
 | .reg r (.own e)::q,regs,H,K=>ZkP regs r λs=>if s.whole=true/\e.ty.agg=s.isAgg then closeAll e s.cells H λd H1=>Zfk q regs H1 λds H2=>K (d,ds) H2 else False
 | .reg _ (.io _)::_,_,_,_=>False
 | .reg _ (.back _)::_,_,_,_=>False
 | .cell id off t::q,regs,H,K=>Zev H id λe=>match e with
   | .box cells=>ZkP cells off λs=>Ql [s] H λcs H1=>Xe t cs λd rest=>match rest with
    | []=>Zfk q regs H1 λds H2=>K (d,ds) H2
    | _=>False
   | _=>False
 | .cello id off e::q,regs,H,K=>Zev H id λen=>match en with
   | .box cells=>ZkP cells off λs=>closeAll e [s] H λd H1=>Zfk q regs H1 λds H2=>K (d,ds) H2
   | _=>False
 | .ent id et e::q,regs,H,K=>closeAll (.ol et e) [.own id] H λd H1=>Zfk q regs H1 λds H2=>K (d,ds) H2
 | .entm id k v::q,regs,H,K=>closeAll (.mp k v) [.mown id] H λd H1=>Zfk q regs H1 λds H2=>K (d,ds) H2
 | .splt id et e::q,regs,H,K=>Zs7 et e id H λd n H1=>Zfk q regs H1 λds H2=>K ((d,n),ds) H2
def Zzy (t:Ty) (d:t.den) (K:SV->Prop):Prop:=XQ t d λcs=>match cs with
 | [c]=>K c
 | _=>False
def Zo1:(ls:List Loc)->Zp6 ls->List SV->List Entry->(List SV->List Entry->Prop)->Prop
 | [],_,regs,H,K=>K regs H
 | .reg r (.dat t)::q,v,regs,H,K=>Zv v λx v'=>Zzy t x λc=>ZsI regs r c λregs'=>Zo1 q v' regs' H K
 | .reg r (.own e)::q,v,regs,H,K=>Zv v λx v'=>X3 e x H λcs H1=>Zpd e.ty cs λs=>ZsI regs r s λregs'=>Zo1 q v' regs' H1 K
 | .reg _ (.io _)::_,_,_,_,_=>False
 | .reg _ (.back _)::_,_,_,_,_=>False
 | .cell id off t::q,v,regs,H,K=>Zv v λx v'=>Zzy t x λc=>Zev H id λe=>match e with
   | .box cells=>ZsI cells off c λcells'=>Zfm H id (.box cells') λH'=>Zo1 q v' regs H' K
   | _=>False
 | .cello id off e::q,v,regs,H,K=>Zv v λx v'=>X3 e x H λcs H1=>match cs with
   | [s]=>Zev H1 id λen=>match en with
    | .box cells=>ZsI cells off s λcells'=>Zfm H1 id (.box cells') λH'=>Zo1 q v' regs H' K
    | _=>False
   | _=>False
 | .ent id et e::q,v,regs,H,K=>Zv v λx v'=>Zxg et e id x H λH'=>Zo1 q v' regs H' K
 | .entm id k u::q,v,regs,H,K=>Zv v λx v'=>Zfm H id (.mpe k u x) λH'=>Zo1 q v' regs H' K
 | .splt id et e::q,v,regs,H,K=>Zv v λx v'=>∀ fp:List Nat,Zfm H id (.spl et e x.1 x.2 fp) λH'=>Zo1 q v' regs H' K
def Zk3:List Loc->List Entry->(List Entry->Prop)->Prop
 | [],H,K=>K H
 | .cell id off _::q,H,K=>Zev H id λe=>match e with
   | .box cells=>ZsI cells off .bot λcells'=>Zfm H id (.box cells') λH'=>Zk3 q H' K
   | _=>False
 | .cello id off _::q,H,K=>Zev H id λe=>match e with
   | .box cells=>ZsI cells off .bot λcells'=>Zfm H id (.box cells') λH'=>Zk3 q H' K
   | _=>False
 | .reg _ _::q,H,K=>Zk3 q H K
 | .ent _ _ _::q,H,K=>Zk3 q H K
 | .entm _ _ _::q,H,K=>Zk3 q H K
 | .splt _ _ _::q,H,K=>Zk3 q H K
def Zsx:List Nat->List SV->(List SV->Prop)->Prop
 | [],regs,K=>K regs
 | r::q,regs,K=>ZsI regs r .bot λregs'=>Zsx q regs' K
def Zhh:List Loc->List Nat->(List Nat->Prop)->Prop
 | [],W,K=>K W
 | .reg r _::q,W,K=>Zhh q W λW'=>K (r::W')
 | .cell _ _ _::q,W,K=>Zhh q W K
 | .cello _ _ _::q,W,K=>Zhh q W K
 | .ent _ _ _::q,W,K=>Zhh q W K
 | .entm _ _ _::q,W,K=>Zhh q W K
 | .splt _ _ _::q,W,K=>Zhh q W K
theorem ZoD {E:Env}:∀ (W:List Nat) (regs:List SV) (vs:List Value),Z7 E regs vs->∀ {K:List SV->Prop},Zsx W regs K->∃ regs',Z7 E regs' vs/\K regs'
 | [],regs,vs,hd,K,hk=>⟨regs,hd,hk⟩
 | r::W,regs,vs,hd,K,hk=>by
  simp only[Zsx,ZcL] at hk;have hd':Z7 E (regs.set r .bot) vs:=by
   by_cases hr:r<vs.length
   ·have:=ZcW _ _ hd r .bot vs[r] (by simp only[den])
    simpa using this
   ·have hl:=YC _ _ hd
    rw[List.set_eq_of_length_le (by omega)];exact hd
  exact ZoD W _ vs hd' hk
theorem Inv.weaken {B:Base} {E:Env} {H:List Entry} (h:Inv B E H) {id:Nat} {cells cells':List SV} (hi:H[id]?=some (.box cells)) (hc:∀ b cs T,E.ids[id]?=some (.pointer (some ⟨b,0,none⟩))->E.w.heap[b]?=some (.cells cs T (0,0))->Z7 E cells cs.toList->Z7 E cells' cs.toList) :
  Inv B E (H.set id (.box cells')):=by
 have hlt:id<H.length:=(List.getElem?_eq_some_iff.1 hi).1;have old:∀ (j:Nat) (e:Entry),(H.set id (.box cells'))[j]?=some e->∃ e0,H[j]?=some e0/\(e.live=true->e0.live=true)/\(j≠id->e=e0)/\(j=id->e=.box cells'/\e0=.box cells)/\(∀ v g,Ze5 e v g->Ze5 e0 v g):=by
  intro j e hj;by_cases hji:id=j
  ·subst hji
   rw[List.getElem?_set_self hlt] at hj;simp at hj;subst hj;exact ⟨_,hi,λ_=>rfl,λhne=>absurd rfl hne,λ_=>⟨rfl,rfl⟩,λv g h=>h⟩
  grind
 exact
  {keeps:=h.keeps,Slt:=h.Slt,Sold:=h.Sold,glob:=h.glob,len:=by simp[h.len],pin:=h.pin
   ent:=λj e hj=>by
    obtain ⟨e0,hj0,_,hne,heq,_⟩:=old j e hj;by_cases hji:j=id
    ·obtain ⟨rfl,rfl⟩:=heq hji
     obtain ⟨b,cs,T,a1,a2,a3⟩:=h.ent j _ hj0;subst hji;exact ⟨b,cs,T,a1,a2,hc b cs T a1 a2 a3⟩
    ·rw[hne hji];exact h.ent j e0 hj0
   free:=λj e v g hj hl hv hb=>by
    obtain ⟨e0,hj0,hl0,_,_,hb0⟩:=old j e hj;exact h.free j e0 v g hj0 (hl0 hl) hv (hb0 v g hb)
   sep:=λi j ei ej vi vj g hi' hj' hli hlj hvi hvj hbi hbj=>by
    obtain ⟨e0,hi0,hl0,_,_,hb0⟩:=old i ei hi';obtain ⟨e1,hj1,hl1,_,_,hb1⟩:=old j ej hj';exact h.sep i j e0 e1 vi vj g hi0 hj1 (hl0 hli) (hl1 hlj) hvi hvj (hb0 vi g hbi) (hb1 vj g hbj)}
theorem ZkD {E:Env} {cells:List SV} {vs:List Value} (hd:Z7 E cells vs) (off:Nat):Z7 E (cells.set off .bot) vs:=by
 by_cases hr:off<vs.length
 ·have:=ZcW _ _ hd off .bot vs[off] (by simp only[den])
  simpa using this
 ·have hl:=YC _ _ hd
  rw[List.set_eq_of_length_le (by omega)];exact hd
def QS (B:Base) (E:Env) (H:List Entry) (vs:List Value):(ls:List Loc)->Zp6 ls->List Nat->Prop
 | [],_,gs=>gs=[]
 | .reg r (.dat t)::q,v,gs=>(∃ u,vs[r]?=some u/\rep E.S E.w t v.1 [u])/\QS B E H vs q v.2 gs
 | .reg r (.own e)::q,v,gs=>∃ u f g1,vs[r]?=some u/\ZuM e.ty u/\Ze3 E.S E.w e v.1 u.cells.toList f/\gs=f++g1/\QS B E H vs q v.2 g1
 | .reg _ (.io _)::_,_,_=>False
 | .reg _ (.back _)::_,_,_=>False
 | .cell id off t::q,v,gs=>(∃ b cs T cells u,H[id]?=some (.box cells)/\E.ids[id]?=some (.pointer (some ⟨b,0,none⟩))/\E.w.heap[b]?=some (.cells cs T (0,0))/\cs.toList[off]?=some u/\rep E.S E.w t v.1 [u])/\
   QS B E H vs q v.2 gs
 | .cello id off e::q,v,gs=>∃ b cs T cells u f g1,H[id]?=some (.box cells)/\E.ids[id]?=some (.pointer (some ⟨b,0,none⟩))/\E.w.heap[b]?=some (.cells cs T (0,0))/\cs.toList[off]?=some u/\
   Ze3 E.S E.w e v.1 [u] f/\gs=f++g1/\QS B E H vs q v.2 g1
 | .ent id et e::q,v,gs=>∃ u f g1,id<H.length/\E.ids[id]?=some u/\(∀ c,H[id]?≠some (.box c))/\Ze3 E.S E.w (.ol et e) v.1 [u] f/\gs=f++g1/\QS B E H vs q v.2 g1
 | .entm id k t::q,v,gs=>∃ u f g1,id<H.length/\E.ids[id]?=some u/\(∀ c,H[id]?≠some (.box c))/\Ze3 E.S E.w (.mp k t) v.1 [u] f/\gs=f++g1/\QS B E H vs q v.2 g1
 | .splt id et e::q,v,gs=>∃ u f g1,id<H.length/\E.ids[id]?=some u/\(∀ c,H[id]?≠some (.box c))/\ZyK E.S E.w et e v.1.1 v.1.2 u f/\gs=f++g1/\QS B E H vs q v.2 g1
def Boxed (H H':List Entry):Prop:=H'.length=H.length/\(∀ (i:Nat) (c:List SV),H[i]?=some (.box c)->∃ c',H'[i]?=some (.box c'))/\∀ (i:Nat) (c:List SV),H'[i]?=some (.box c)->∃ c',H[i]?=some (.box c')
theorem Boxed.refl (H:List Entry):Boxed H H:=⟨rfl,λ_ c h=>⟨c,h⟩,λ_ c h=>⟨c,h⟩⟩
theorem Boxed.trans {A C D:List Entry} (h:Boxed A C) (k:Boxed C D):Boxed A D :=
 ⟨k.1.trans h.1,λi c hi=>by obtain ⟨c',h'⟩:=h.2.1 i c hi;exact k.2.1 i c' h',λi c hi=>by obtain ⟨c',h'⟩:=k.2.2 i c hi;exact h.2.2 i c' h'⟩
theorem Boxed.frz {E E':Env} {H H':List Entry} (h:Frz E H E' H') (hb:∀ (i:Nat) (c:List SV),H[i]?=some (.box c)->H'[i]?=some (.box c)):Boxed H H' :=
 ⟨h.len,λi c hi=>⟨c,hb i c hi⟩,λi c hi=>⟨c,h.box i c hi⟩⟩
theorem Boxed.ZjG {H:List Entry} {id:Nat} {c0 c1:List SV} (h:H[id]?=some (.box c0)):Boxed H (H.set id (.box c1)):=by
 have hlt:=(List.getElem?_eq_some_iff.1 h).1;refine ⟨by simp,λi c hi=>?_,λi c hi=>?_⟩;all_goals grind
theorem Boxed.Zxm {H:List Entry} {id:Nat} {e1:Entry} (h:∀ c,H[id]?≠some (.box c)) (h1:∀ c,e1≠.box c):Boxed H (H.set id e1):=by
 refine ⟨by simp,λi c hi=>?_,λi c hi=>?_⟩;all_goals grind
theorem Vk {B:Base} {E E':Env} {H H':List Entry} (hw:E'.w=E.w) (hS:∀ b,E.S b->E'.S b) (hids:∀ (i:Nat) (v:Value),i<H'.length->E.ids[i]?=some v->E'.ids[i]?=some v) {vs:List Value}
  (hbox:∀ (i:Nat) (c:List SV),H[i]?=some (.box c)->i<H'.length->∃ c',H'[i]?=some (.box c')) (hno:∀ (i:Nat) (c:List SV),H'[i]?=some (.box c)->∃ c',H[i]?=some (.box c')) :
  ∀ (ls:List Loc) (v:Zp6 ls) (gs:List Nat),(∀ id off t,Loc.cell id off t∈ls->id<H'.length)->(∀ id off e,Loc.cello id off e∈ls->id<H'.length)->(∀ l∈ls,l.Zyx H'.length)->QS B E H vs ls v gs->QS B E' H' vs ls v gs
 | [],_,_,_,_,_,h=>h
 | .reg _ (.dat t)::q,v,gs,p1,p2,p3,⟨⟨u,a,b⟩,h⟩=>⟨⟨u,a,Yi hS (λ_ _=>by rw[hw]) t _ _ b⟩,Vk hw hS hids hbox hno q v.2 gs (λi o t h=>p1 i o t (by simp[h])) (λi o t h=>p2 i o t (by simp[h])) (λl h=>p3 l (by simp[h])) h⟩
 | .reg _ (.own e)::q,v,gs,p1,p2,p3,⟨u,f,g1,a,b,c,d,h⟩=>⟨u,f,g1,a,b,Yu hS (λ_ _=>by rw[hw]) e _ _ _ (λg _=>by rw[hw]) c,d,Vk hw hS hids hbox hno q v.2 g1 (λi o t h=>p1 i o t (by simp[h])) (λi o t h=>p2 i o t (by simp[h])) (λl h=>p3 l (by simp[h])) h⟩
 | .cell id off t::q,v,gs,p1,p2,p3,⟨⟨b,cs,T,cells,u,a1,a2,a3,a4,a5⟩,h⟩=>by
  have hlt:=p1 id off t (by simp);obtain ⟨c',hc'⟩:=hbox id _ a1 hlt;exact ⟨⟨b,cs,T,c',u,hc',hids _ _ hlt a2,by rw[hw];exact a3,a4,Yi hS (λ_ _=>by rw[hw]) t _ _ a5⟩,Vk hw hS hids hbox hno q v.2 gs (λi o t h=>p1 i o t (by simp[h])) (λi o t h=>p2 i o t (by simp[h])) (λl h=>p3 l (by simp[h])) h⟩
 | .cello id off e::q,v,gs,p1,p2,p3,⟨b,cs,T,cells,u,f,g1,a1,a2,a3,a4,a5,a6,h⟩=>by
  have hlt:=p2 id off e (by simp);obtain ⟨c',hc'⟩:=hbox id _ a1 hlt;exact ⟨b,cs,T,c',u,f,g1,hc',hids _ _ hlt a2,by rw[hw];exact a3,a4,Yu hS (λ_ _=>by rw[hw]) e _ _ _ (λg _=>by rw[hw]) a5,a6,Vk hw hS hids hbox hno q v.2 g1 (λi o t h=>p1 i o t (by simp[h])) (λi o t h=>p2 i o t (by simp[h])) (λl h=>p3 l (by simp[h])) h⟩
 | .ent id et e::q,v,gs,p1,p2,p3,⟨u,f,g1,a1,a2,a3,a4,a5,h⟩=>by
  have hlt:id<H'.length:=p3 _ List.mem_cons_self;exact ⟨u,f,g1,hlt,hids _ _ hlt a2,λc hc=>by grind,Yu hS (λ_ _=>by rw[hw]) (.ol et e) _ _ _ (λg _=>by rw[hw]) a4,a5,Vk hw hS hids hbox hno q v.2 g1 (λi o t h=>p1 i o t (by simp[h])) (λi o t h=>p2 i o t (by simp[h])) (λl h=>p3 l (by simp[h])) h⟩
 | .entm id k t::q,v,gs,p1,p2,p3,⟨u,f,g1,a1,a2,a3,a4,a5,h⟩=>by
  have hlt:id<H'.length:=p3 _ List.mem_cons_self;exact ⟨u,f,g1,hlt,hids _ _ hlt a2,λc hc=>by grind,Yu hS (λ_ _=>by rw[hw]) (.mp k t) _ _ _ (λg _=>by rw[hw]) a4,a5,Vk hw hS hids hbox hno q v.2 g1 (λi o t h=>p1 i o t (by simp[h])) (λi o t h=>p2 i o t (by simp[h])) (λl h=>p3 l (by simp[h])) h⟩
 | .splt id et e::q,v,gs,p1,p2,p3,⟨u,f,g1,a1,a2,a3,a4,a5,h⟩=>by
  have hlt:id<H'.length:=p3 _ List.mem_cons_self;exact ⟨u,f,g1,hlt,hids _ _ hlt a2,λc hc=>by grind,Zmw hS (λ_ _=>by rw[hw]) (λg _=>by rw[hw]) a4,a5,Vk hw hS hids hbox hno q v.2 g1 (λi o t h=>p1 i o t (by simp[h])) (λi o t h=>p2 i o t (by simp[h])) (λl h=>p3 l (by simp[h])) h⟩
def ZyF (n:Nat) (ls:List Loc):Prop:=(∀ id off t,Loc.cell id off t∈ls->id<n)/\(∀ id off e,Loc.cello id off e∈ls->id<n)/\∀ l∈ls,l.Zyx n
theorem ZaS {B:Base} {E:Env} {H:List Entry} {vs:List Value}:∀ (ls:List Loc) (v:Zp6 ls) (gs:List Nat),QS B E H vs ls v gs->ZyF H.length ls
 | [],_,_,_=>⟨λ_ _ _ h=>by simp at h,λ_ _ _ h=>by simp at h,λ_ h=>by simp at h⟩
 | .reg _ (.dat t)::q,v,gs,⟨_,h⟩=>by
  obtain ⟨a,b,c⟩:=ZaS q v.2 gs h;exact ⟨λi o t h=>a i o t (by simpa using h),λi o t h=>b i o t (by simpa using h),λl h=>(List.mem_cons.1 h).elim (λe=>by subst e;trivial) (c l)⟩
 | .reg _ (.own e)::q,v,gs,⟨_,_,g1,_,_,_,_,h⟩=>by
  obtain ⟨a,b,c⟩:=ZaS q v.2 g1 h;exact ⟨λi o t h=>a i o t (by simpa using h),λi o t h=>b i o t (by simpa using h),λl h=>(List.mem_cons.1 h).elim (λe=>by subst e;trivial) (c l)⟩
 | .reg _ (.io _)::_,_,_,h=>by simp only[QS] at h
 | .reg _ (.back _)::_,_,_,h=>by simp only[QS] at h
 | .cell id off t::q,v,gs,⟨⟨_,_,_,_,_,a1,_⟩,h⟩=>by
  obtain ⟨a,b,c⟩:=ZaS q v.2 gs h;refine ⟨λi o t' h'=>?_,λi o t h=>b i o t (by simpa using h),λl h=>(List.mem_cons.1 h).elim (λe=>by subst e;trivial) (c l)⟩;grind
 | .cello id off e::q,v,gs,⟨_,_,_,_,_,_,g1,a1,_,_,_,_,_,h⟩=>by
  obtain ⟨a,b,c⟩:=ZaS q v.2 g1 h;refine ⟨λi o t h=>a i o t (by simpa using h),λi o e' h'=>?_,λl h=>(List.mem_cons.1 h).elim (λe=>by subst e;trivial) (c l)⟩;grind
 | .ent id et e::q,v,gs,⟨_,_,g1,a1,_,_,_,_,h⟩=>by
  obtain ⟨a,b,c⟩:=ZaS q v.2 g1 h;exact ⟨λi o t h=>a i o t (by simpa using h),λi o t h=>b i o t (by simpa using h),λl h=>(List.mem_cons.1 h).elim (λe=>by subst e;exact a1) (c l)⟩
 | .entm id k u::q,v,gs,⟨_,_,g1,a1,_,_,_,_,h⟩=>by
  obtain ⟨a,b,c⟩:=ZaS q v.2 g1 h;exact ⟨λi o t h=>a i o t (by simpa using h),λi o t h=>b i o t (by simpa using h),λl h=>(List.mem_cons.1 h).elim (λe=>by subst e;exact a1) (c l)⟩
 | .splt id et e::q,v,gs,⟨_,_,g1,a1,_,_,_,_,h⟩=>by
  obtain ⟨a,b,c⟩:=ZaS q v.2 g1 h;exact ⟨λi o t h=>a i o t (by simpa using h),λi o t h=>b i o t (by simpa using h),λl h=>(List.mem_cons.1 h).elim (λe=>by subst e;exact a1) (c l)⟩
theorem ZyF.tail {n:Nat} {l:Loc} {q:List Loc} (h:ZyF n (l::q)):ZyF n q :=
 ⟨λi o t hm=>h.1 i o t (by simp[hm]),λi o t hm=>h.2.1 i o t (by simp[hm]),λl hm=>h.2.2 l (by simp[hm])⟩
theorem Jd {B:Base} {E E':Env} {H H':List Entry} (hw:E'.w=E.w) (hS:∀ b,E.S b->E'.S b) (hids:∀ (i:Nat) (v:Value),E.ids[i]?=some v->E'.ids[i]?=some v) (hb:Boxed H H') {vs:List Value}
  (ls:List Loc) (v:Zp6 ls) (gs:List Nat) (h:QS B E H vs ls v gs):QS B E' H' vs ls v gs:=by
 obtain ⟨p1,p2,p3⟩:=ZaS ls v gs h;rw[<-hb.1] at p1 p2 p3;exact Vk hw hS (λi v _ hv=>hids i v hv) (λi c hi _=>hb.2.1 i c hi) hb.2.2 ls v gs p1 p2 p3 h
theorem ZkH {B:Base} {E:Env} {H:List Entry} {vs:List Value} (E':Env) (l:List Entry) (hw:E'.w=E.w) (hS:E'.S=E.S) (hids:∀ (i:Nat) (v:Value),E.ids[i]?=some v->E'.ids[i]?=some v)
  (ls:List Loc) (v:Zp6 ls) (gs:List Nat) (h:QS B E H vs ls v gs):QS B E' (H++l) vs ls v gs:=by
 obtain ⟨p1,p2,p3⟩:=ZaS ls v gs h;have hle:H.length<=(H++l).length:=by simp
 have go:∀ (ls:List Loc) (v:Zp6 ls) (gs:List Nat),QS B E H vs ls v gs->QS B E' (H++l) vs ls v gs:=by
  intro ls;induction ls with
  | nil=>intro v gs h;exact h
  | cons x q ih =>
   intro v gs h
   match x,v,h with
   | .reg _ (.dat t),v,⟨⟨u,a,b⟩,h⟩=>exact ⟨⟨u,a,by rw[hS,hw];exact b⟩,ih v.2 gs h⟩
   | .reg _ (.own e),v,⟨u,f,g1,a,b,c,d,h⟩=>exact ⟨u,f,g1,a,b,by rw[hS,hw];exact c,d,ih v.2 g1 h⟩
   | .reg _ (.io _),v,h=>simp only[QS] at h
   | .reg _ (.back _),v,h=>simp only[QS] at h
   | .cell id off t,v,⟨⟨b,cs,T,cells,u,a1,a2,a3,a4,a5⟩,h⟩ =>
    exact ⟨⟨b,cs,T,cells,u,by grind,hids _ _ a2,by rw[hw];exact a3,a4,by rw[hS,hw];exact a5⟩,ih v.2 gs h⟩
   | .cello id off e,v,⟨b,cs,T,cells,u,f,g1,a1,a2,a3,a4,a5,a6,h⟩ =>
    exact ⟨b,cs,T,cells,u,f,g1,by grind,hids _ _ a2,by rw[hw];exact a3,a4,by rw[hS,hw];exact a5,a6,ih v.2 g1 h⟩
   | .ent id et e,v,⟨u,f,g1,a1,a2,a3,a4,a5,h⟩ =>
    exact ⟨u,f,g1,Nat.lt_of_lt_of_le a1 hle,hids _ _ a2,λc hc=>a3 c (by grind),by rw[hS,hw];exact a4,a5,ih v.2 g1 h⟩
   | .entm id k t,v,⟨u,f,g1,a1,a2,a3,a4,a5,h⟩ =>
    exact ⟨u,f,g1,Nat.lt_of_lt_of_le a1 hle,hids _ _ a2,λc hc=>a3 c (by grind),by rw[hS,hw];exact a4,a5,ih v.2 g1 h⟩
   | .splt id et e,v,⟨u,f,g1,a1,a2,a3,a4,a5,h⟩ =>
    exact ⟨u,f,g1,Nat.lt_of_lt_of_le a1 hle,hids _ _ a2,λc hc=>a3 c (by grind),by rw[hS,hw];exact a4,a5,ih v.2 g1 h⟩
 exact go ls v gs h
def Taken (B:Base) (ls:List Loc) (E:Env) (H:List Entry) (vs:List Value) (gs:List Nat) (K:Zp6 ls->List Entry->Prop):Prop :=
 ∃ E1 H1 v g1,E1.w=E.w/\E1.ids=E.ids/\Inv B E1 H1/\E.le E1/\K v H1/\QS B E1 H1 vs ls v g1/\Loose B E1 H1 (g1++gs)/\Boxed H H1
theorem ZdP {B:Base}:∀ (ls:List Loc) {E:Env} {H:List Entry} (_:Inv B E H) {regs:List SV} {vs:List Value} (_:Z7 E regs vs) (gs:List Nat) (_:Loose B E H gs) {K:Zp6 ls->List Entry->Prop} (_:Zfk ls regs H K),Taken B ls E H vs gs K
 | [],E,H,hI,regs,vs,hd,gs,hL,K,hk=>⟨E,H,(),[],rfl,rfl,hI,Env.le.refl E,hk,rfl,hL,Boxed.refl H⟩
 | .reg r (.dat t)::q,E,H,hI,regs,vs,hd,gs,hL,K,hk=>by
  simp only[Zfk] at hk;obtain ⟨s,u,hu,hs,hk,_⟩:=JJ _ _ hd hk;obtain ⟨E1,H1,cs,hf,hI1,hd1,hk,hb1⟩:=Xz [s] hI (show Z7 E [s] [u] from ⟨hs,trivial⟩) hk;obtain ⟨d,rest,v1,v2,e12,hr,hrest,hk⟩:=Y4 t cs _ _ hd1 hk;split at hk
  ·have hv2:v2=[]:=by cases v2 with
    | nil=>rfl
    | cons=>simp[Z7] at hrest
   subst hv2;rw[List.append_nil] at e12;obtain ⟨E2,H2,v,g1,hw2,hid2,hI2,hle2,hk,hl,hL2,hb2⟩:=ZdP q hI1 (ZL hf.le _ _ hd) gs (hL.frz hf) hk;refine ⟨E2,H2,(d,v),g1,hw2.trans hf.w,hid2.trans hf.ids,hI2,hf.le.trans hle2,hk,⟨⟨u,hu,?_⟩,hl⟩,hL2,(Boxed.frz hf hb1).trans hb2⟩;rw[e12];exact Yi hle2.S hle2.w t d v1 hr
  ·exact hk.elim
 | .reg r (.own e)::q,E,H,hI,regs,vs,hd,gs,hL,K,hk=>by
  simp only[Zfk] at hk;obtain ⟨s,u,hu,hs,hk,_⟩:=JJ _ _ hd hk;split at hk
  ·rename_i hc
   obtain ⟨hw,hag⟩:=hc;obtain ⟨E1,H1,d,f,hf,hI1,hr,hk,hL1,hT,hb1⟩:=X6 hI (Vb hs hw) hL hk;obtain ⟨E2,H2,v,g1,hw2,hid2,hI2,hle2,hk,hl,hL2,hb2⟩:=ZdP q hI1 (ZL hf.le _ _ hd) (f++gs) hL1 hk;refine ⟨E2,H2,(d,v),f++g1,hw2.trans hf.w,hid2.trans hf.ids,hI2,hf.le.trans hle2,hk,⟨u,f,g1,hu,Zoj hs hw hag,?_,rfl,hl⟩,hL2.perm ?_,(Boxed.frz hf hb1).trans hb2⟩
   ·exact Yu hle2.S hle2.w e _ _ _ (λg _=>by rw[hw2]) hr
   grind
  ·exact hk.elim
 | .reg _ (.io _)::_,_,_,_,_,_,_,_,_,_,hk=>by simp only[Zfk] at hk
 | .reg _ (.back _)::_,_,_,_,_,_,_,_,_,_,hk=>by simp only[Zfk] at hk
 | .cell id off t::q,E,H,hI,regs,vs,hd,gs,hL,K,hk=>by
  simp only[Zfk] at hk;obtain ⟨e,he,hk⟩:=YM H hk;split at hk
  ·rename_i cells
   obtain ⟨b,cs0,T,e1,e2,e3⟩:=hI.ent id _ he;obtain ⟨s,u,hu,hs,hk,_⟩:=JJ _ _ e3 hk;obtain ⟨E1,H1,cs,hf,hI1,hd1,hk,hb1⟩:=Xz [s] hI (show Z7 E [s] [u] from ⟨hs,trivial⟩) hk;obtain ⟨d,rest,v1,v2,e12,hr,hrest,hk⟩:=Y4 t cs _ _ hd1 hk;split at hk
   ·have hv2:v2=[]:=by cases v2 with
     | nil=>rfl
     | cons=>simp[Z7] at hrest
    subst hv2;rw[List.append_nil] at e12;obtain ⟨E2,H2,v,g1,hw2,hid2,hI2,hle2,hk,hl,hL2,hb2⟩:=ZdP q hI1 (ZL hf.le _ _ hd) gs (hL.frz hf) hk;obtain ⟨c',hc'⟩:=hb2.2.1 id _ (hb1 _ _ he);refine ⟨E2,H2,(d,v),g1,hw2.trans hf.w,hid2.trans hf.ids,hI2,hf.le.trans hle2,hk,⟨⟨b,cs0,T,c',u,hc',by rw[hid2,hf.ids];exact e1,by rw[hw2,hf.w];exact e2,hu,?_⟩,hl⟩,hL2,(Boxed.frz hf hb1).trans hb2⟩;rw[e12];exact Yi hle2.S hle2.w t d v1 hr
   ·exact hk.elim
  ·exact hk.elim
 | .cello id off e::q,E,H,hI,regs,vs,hd,gs,hL,K,hk=>by
  simp only[Zfk] at hk;obtain ⟨en,he,hk⟩:=YM H hk;split at hk
  ·rename_i cells
   obtain ⟨b,cs0,T,e1,e2,e3⟩:=hI.ent id _ he;obtain ⟨s,u,hu,hs,hk,_⟩:=JJ _ _ e3 hk;obtain ⟨E1,H1,d,f,hf,hI1,hr,hk,hL1,hT,hb1⟩:=X6 hI (show Z7 E [s] [u] from ⟨hs,trivial⟩) hL hk;obtain ⟨E2,H2,v,g1,hw2,hid2,hI2,hle2,hk,hl,hL2,hb2⟩:=ZdP q hI1 (ZL hf.le _ _ hd) (f++gs) hL1 hk;obtain ⟨c',hc'⟩:=hb2.2.1 id _ (hb1 _ _ he);refine ⟨E2,H2,(d,v),f++g1,hw2.trans hf.w,hid2.trans hf.ids,hI2,hf.le.trans hle2,hk,⟨b,cs0,T,c',u,f,g1,hc',by rw[hid2,hf.ids];exact e1,by rw[hw2,hf.w];exact e2,hu,?_,rfl,hl⟩,hL2.perm ?_,(Boxed.frz hf hb1).trans hb2⟩
   ·exact Yu hle2.S hle2.w e _ _ _ (λg _=>by rw[hw2]) hr
   grind
  ·exact hk.elim
 | .ent id et e::q,E,H,hI,regs,vs,hd,gs,hL,K,hk=>by
  simp only[Zfk] at hk;have hk0:=hk;unfold closeAll at hk0;simp only[QJ] at hk0;obtain ⟨en,he,hk0⟩:=YM H hk0;have hlt:=(List.getElem?_eq_some_iff.1 he).1;obtain ⟨u,hu⟩:∃ u,E.ids[id]?=some u:=⟨_,List.getElem?_eq_getElem (show id<E.ids.length by rw[hI.len];exact hlt)⟩;have hnb:∀ c,H[id]?≠some (.box c):=by
   grind
  have hs:den E (.own id) u:=by
   simp only[den];refine ⟨hu,?_⟩;split at hk0
   ·obtain ⟨v',xs,a1,a2,_⟩:=hI.ent id _ he
    have:=hu.symm.trans a1;simp at this;subst this;rcases a2.2 with ⟨rfl,_⟩ | ⟨g,cap,cur,o,rfl,_⟩<;>exact ⟨_,_,_,rfl⟩
   ·obtain ⟨v',xs,fps,a1,a2,_⟩:=hI.ent id _ he
    have:=hu.symm.trans a1;simp at this;subst this;rcases a2.2 with ⟨rfl,_⟩ | ⟨g,cap,cur,o,rfl,_⟩<;>exact ⟨_,_,_,rfl⟩
   ·obtain ⟨v',xs,x1,vx,x2,f1,f2,a1,a2,_⟩:=hI.ent id _ he
    have:=hu.symm.trans a1;simp at this;subst this;rcases a2.2 with ⟨rfl,_⟩ | ⟨g,cap,cur,o,rfl,_⟩<;>exact ⟨_,_,_,rfl⟩
   ·obtain ⟨v',a1,⟨xs,x1,x2,f1,a2,_⟩,_⟩:=hI.ent id _ he
    have:=hu.symm.trans a1;simp at this;subst this;rcases a2.2 with ⟨rfl,_⟩ | ⟨g,cap,cur,o,rfl,_⟩<;>exact ⟨_,_,_,rfl⟩
   ·exact hk0.elim
  obtain ⟨E1,H1,d,f,hf,hI1,hr,hk,hL1,hT,hb1⟩:=X6 hI (show Z7 E [.own id] [u] from ⟨hs,trivial⟩) hL hk;obtain ⟨E2,H2,v,g1,hw2,hid2,hI2,hle2,hk,hl,hL2,hb2⟩:=ZdP q hI1 (ZL hf.le _ _ hd) (f++gs) hL1 hk;have hbb:=(Boxed.frz hf hb1).trans hb2;refine ⟨E2,H2,(d,v),f++g1,hw2.trans hf.w,hid2.trans hf.ids,hI2,hf.le.trans hle2,hk,⟨u,f,g1,by rw[hbb.1];exact hlt,by rw[hid2,hf.ids];exact hu,λc hc=>?_,?_,rfl,hl⟩,hL2.perm ?_,hbb⟩
  ·obtain ⟨c',hc'⟩:=hbb.2.2 id c hc;exact hnb c' hc'
  ·exact Yu hle2.S hle2.w (.ol et e) _ _ _ (λg _=>by rw[hw2]) hr
  grind
 | .entm id k t::q,E,H,hI,regs,vs,hd,gs,hL,K,hk=>by
  simp only[Zfk] at hk;have hk0:=hk;unfold closeAll at hk0;simp only[QJ] at hk0;obtain ⟨en,he,hk0⟩:=YM H hk0;have hlt:=(List.getElem?_eq_some_iff.1 he).1;obtain ⟨u,hu⟩:∃ u,E.ids[id]?=some u:=⟨_,List.getElem?_eq_getElem (show id<E.ids.length by rw[hI.len];exact hlt)⟩;have hnb:∀ c,H[id]?≠some (.box c):=by
   grind
  have hs:den E (.mown id) u:=by
   simp only[den];refine ⟨hu,?_⟩;split at hk0
   ·obtain ⟨b,es,clk,a1,_⟩:=hI.ent id _ he
    grind
   ·exact hk0.elim
  obtain ⟨E1,H1,d,f,hf,hI1,hr,hk,hL1,hT,hb1⟩:=X6 hI (show Z7 E [.mown id] [u] from ⟨hs,trivial⟩) hL hk;obtain ⟨E2,H2,v,g1,hw2,hid2,hI2,hle2,hk,hl,hL2,hb2⟩:=ZdP q hI1 (ZL hf.le _ _ hd) (f++gs) hL1 hk;have hbb:=(Boxed.frz hf hb1).trans hb2;refine ⟨E2,H2,(d,v),f++g1,hw2.trans hf.w,hid2.trans hf.ids,hI2,hf.le.trans hle2,hk,⟨u,f,g1,by rw[hbb.1];exact hlt,by rw[hid2,hf.ids];exact hu,λc hc=>?_,?_,rfl,hl⟩,hL2.perm ?_,hbb⟩
  ·obtain ⟨c',hc'⟩:=hbb.2.2 id c hc;exact hnb c' hc'
  ·exact Yu hle2.S hle2.w (.mp k t) _ _ _ (λg _=>by rw[hw2]) hr
  grind
 | .splt id et e::q,E,H,hI,regs,vs,hd,gs,hL,K,hk=>by
  simp only[Zfk] at hk;obtain ⟨E1,H1,d,n,u,f,hf,hI1,hu,hnb,hr,hk,hL1,hb1⟩:=Zs8 hI hL hk;obtain ⟨E2,H2,v,g1,hw2,hid2,hI2,hle2,hk,hl,hL2,hb2⟩:=ZdP q hI1 (ZL hf.le _ _ hd) (f++gs) hL1 hk;have hbb:=(Boxed.frz hf hb1).trans hb2;have hlt:id<H2.length:=by
   have:=(List.getElem?_eq_some_iff.1 hu).1;rw[hb2.1,<-hI1.len];exact this
  refine ⟨E2,H2,((d,n),v),f++g1,hw2.trans hf.w,hid2.trans hf.ids,hI2,hf.le.trans hle2,hk,⟨u,f,g1,hlt,by rw[hid2];exact hu,λc hc=>?_,?_,rfl,hl⟩,hL2.perm ?_,hbb⟩
  ·obtain ⟨c',hc'⟩:=hbb.2.2 id c hc;exact hnb c' hc'
  ·exact Zmw hle2.S hle2.w (λg _=>by rw[hw2]) hr
  grind
theorem Zll {vs:List Value} {r:Nat} {u:Value} (hu:vs[r]?=some u):vs.set r u=vs:=by
 apply List.ext_getElem?;grind
theorem Loose.ZjG {B:Base} {E:Env} {H:List Entry} {gs:List Nat} (hL:Loose B E H gs) {id:Nat} {c0 c1:List SV} (he:H[id]?=some (.box c0)):Loose B E (H.set id (.box c1)) gs:=by
 have hlt:=(List.getElem?_eq_some_iff.1 he).1;refine ⟨hL.nodup,hL.free,λg hg j ej vj hj hlv hv hb=>?_⟩;by_cases hji:id=j
 ·subst hji;rw[List.getElem?_set_self hlt] at hj;simp at hj;subst hj;exact hL.apart g hg id _ vj he rfl hv hb
 ·rw[List.getElem?_set_ne hji] at hj;exact hL.apart g hg j ej vj hj hlv hv hb
theorem ZfL {B:Base}:∀ (ls:List Loc) (v:Zp6 ls) {E:Env} {H:List Entry} (_:Inv B E H) {regs:List SV} {vs:List Value} (_:Z7 E regs vs) (g1:List Nat) (_:QS B E H vs ls v g1) (_:Loose B E H g1)
  {K:List SV->List Entry->Prop} (_:Zo1 ls v regs H K),∃ E' H' regs',E'.w=E.w/\Inv B E' H'/\Z7 E' regs' vs/\K regs' H'
 | [],v,E,H,hI,regs,vs,hd,g1,hl,hL,K,hk=>⟨E,H,regs,rfl,hI,hd,hk⟩
 | .reg r (.dat t)::q,v,E,H,hI,regs,vs,hd,g1,⟨⟨u,hu,hr⟩,hl⟩,hL,K,hk=>by
  simp only[Zo1,QC,Zzy,Y9] at hk;have hdc:=YU t v.1 [u] hr;split at hk
  ·rename_i c hc
   rw[hc] at hdc;simp only[Z7] at hdc;rw[ZcL] at hk;have hd':=ZcW _ _ hd r c u hdc.1;rw[Zll hu] at hd';exact ZfL q v.2 hI hd' g1 hl hL hk
  ·exact hk.elim
 | .reg r (.own e)::q,v,E,H,hI,regs,vs,hd,g1,⟨u,f,g2,hu,hform,hr,hg,hl⟩,hL,K,hk=>by
  simp only[Zo1,QC] at hk;subst hg;obtain ⟨E1,H1,cs,hw1,hS1,hI1,hle1,hd1,hk,hL1,l,hl1⟩:=QI e v.1 hI hr hL hk;obtain ⟨s,hs,hk⟩:=ZlI hform hd1 hk;rw[ZcL] at hk;have hd':=ZcW _ _ (ZL hle1 _ _ hd) r s u hs;rw[Zll hu] at hd';subst hl1;obtain ⟨E2,H2,regs',hw2,hI2,hd2,hk⟩:=ZfL q v.2 hI1 hd' g2 (ZkH E1 l hw1 hS1 hle1.ids q v.2 g2 hl) hL1 hk;grind
 | .reg _ (.io _)::_,_,_,_,_,_,_,_,_,_,_,_,hk=>by simp only[Zo1] at hk
 | .reg _ (.back _)::_,_,_,_,_,_,_,_,_,_,_,_,hk=>by simp only[Zo1] at hk
 | .cell id off t::q,v,E,H,hI,regs,vs,hd,g1,⟨⟨b,cs,T,cells0,u,a1,a2,a3,a4,a5⟩,hl⟩,hL,K,hk=>by
  simp only[Zo1,QC,Zzy,Y9] at hk;have hdc:=YU t v.1 [u] a5;split at hk
  ·rename_i c hc
   rw[hc] at hdc;simp only[Z7] at hdc;obtain ⟨e,he,hk⟩:=YM H hk;split at hk
   ·rename_i cells
    rw[ZcL,Y0] at hk;have hI1:=hI.weaken (cells':=cells.set off c) he (λb' cs' T' h1 h2 h3=>by
     have:=a2.symm.trans h1;simp at this;subst this;have:=a3.symm.trans h2;simp at this;obtain ⟨rfl,_⟩:=this;have hset:=ZcW _ _ h3 off c u hdc.1
     rwa [Zll a4] at hset)
    exact ZfL q v.2 hI1 hd g1 (Jd rfl (λ_ h=>h) (λ_ _ h=>h) (Boxed.ZjG he) q v.2 g1 hl) (hL.ZjG he) hk
   ·exact hk.elim
  ·exact hk.elim
 | .cello id off e::q,v,E,H,hI,regs,vs,hd,g1,⟨b,cs,T,cells0,u,f,g2,a1,a2,a3,a4,hr,hg,hl⟩,hL,K,hk=>by
  simp only[Zo1,QC] at hk;subst hg;obtain ⟨E1,H1,cs1,hw1,hS1,hI1,hle1,hd1,hk,hL1,l,hl1⟩:=QI e v.1 hI hr hL hk;subst hl1;split at hk
  ·rename_i s
   simp only[Z7] at hd1;obtain ⟨en,he,hk⟩:=YM _ hk;split at hk
   ·rename_i cells
    rw[ZcL,Y0] at hk;have a2':=hle1.ids _ _ a2;have hI2:=hI1.weaken (cells':=cells.set off s) he (λb' cs' T' h1 h2 h3=>by
     have:=a2'.symm.trans h1;simp at this;subst this;rw[hw1] at h2;have:=a3.symm.trans h2;simp at this;obtain ⟨rfl,_⟩:=this;have hset:=ZcW _ _ h3 off s u hd1.1
     rwa [Zll a4] at hset)
    obtain ⟨E2,H2,regs',hw2,hI3,hd2,hk⟩:=ZfL q v.2 hI2 (ZL hle1 _ _ hd) g2 (Jd rfl (λ_ h=>h) (λ_ _ h=>h) (Boxed.ZjG he) q v.2 g2 (ZkH E1 l hw1 hS1 hle1.ids q v.2 g2 hl)) (hL1.ZjG he) hk;grind
   ·exact hk.elim
  ·exact hk.elim
 | .ent id et e::q,v,E,H,hI,regs,vs,hd,g1,⟨u,f,g2,a1,a2,a3,hr,hg,hl⟩,hL,K,hk=>by
  simp only[Zo1,QC] at hk;subst hg;obtain ⟨e1,hI1,hL1,hk,hnb⟩:=Zuf e hI a1 a2 hr hL hk;exact ZfL q v.2 hI1 hd g2 (Jd rfl (λ_ h=>h) (λ_ _ h=>h) (Boxed.Zxm a3 hnb) q v.2 g2 hl) hL1 hk
 | .entm id k t::q,v,E,H,hI,regs,vs,hd,g1,⟨u,f,g2,a1,a2,a3,⟨b,es,clk,e1,e2,hh,hr⟩,hg,hl⟩,hL,K,hk=>by
  simp only[Zo1,QC,Y0] at hk;subst hg;simp at e1;subst e1;obtain ⟨hI1,hL1⟩:=hL.put hI a1 a2 (.mpe k t v.1) (λ_ g hg=>by
   have hg:Yx (.map (some b))=some g:=hg;simp[Yx] at hg;rw[e2];simp[hg]) ⟨b,es,clk,a2,hh,hr⟩
  exact ZfL q v.2 hI1 hd g2 (Jd rfl (λ_ h=>h) (λ_ _ h=>h) (Boxed.Zxm a3 (λc h=>by cases h)) q v.2 g2 hl) hL1 hk
 | .splt id et e::q,v,E,H,hI,regs,vs,hd,g1,⟨u,f,g2,a1,a2,a3,hr,hg,hl⟩,hL,K,hk=>by
  simp only[Zo1,QC] at hk;have hk:=hk f;rw[Y0] at hk;subst hg;obtain ⟨hI1,hL1⟩:=hL.put hI a1 a2 (.spl et e v.1.1 v.1.2 f) (λ_ g hg=>hg) ⟨u,a2,hr,(List.nodup_append.1 hL.nodup).1⟩;exact ZfL q v.2 hI1 hd g2 (Jd rfl (λ_ h=>h) (λ_ _ h=>h) (Boxed.Zxm a3 (λc h=>by cases h)) q v.2 g2 hl) hL1 hk
structure Cal where
 run:List SV->List Entry->(SV->List Entry->Prop)->Prop
 dat:Bool
 io:Option (List Bool) -- which arguments are variables,if nothing else is handed over
def ZsT (P:Program) (f:FuncId) (C:Cal):Prop:=ZiR P f/\
 ∀ {B:Base} {E:Env} {H:List Entry},Inv B E H->∀ {ss:List SV} {vs:List Value},Z7 E ss vs->∀ {K:SV->List Entry->Prop},C.run ss H K->
  Calls P f vs.toArray E.w λe w'=>∃ v E' H' s,e=.returned v/\E'.w=w'/\Inv B E' H'/\E.le E'/\den E' s v/\K s H'/\(C.dat=true->Grow E.w w')/\(∀ m,C.io=some m->∀ b,b<E.w.heap.size->(∀ v∈pick m vs,Yx v≠some b)->w'.heap[b]?=E.w.heap[b]?)
def Ctr.cal (C:Ctr):Cal:=⟨ZwM C,ZbR C.args,match Zf3 C.args with
 | true=>some (Zja C.args)
 | false=>none⟩
theorem Ctr.Zyt {P:Program} {f:FuncId} {C:Ctr} (h:Za P f C):ZsT P f C.cal:=⟨h.1,λhI _ _ hd _ hk=>(Zu0 hI h hd hk).mono λe w' ⟨v,E',H',s,a1,a2,a3,a4,a5,a6,a7,a8⟩=>⟨v,E',H',s,a1,a2,a3,a4,a5,a6,a7,λm hm=>by
 simp only[Ctr.cal] at hm;grind⟩⟩
abbrev Gam:=List (Nat×Cal)
def Gam.ok (Γ:Gam) (P:Program):Prop:=∀ x∈Γ,ZsT P x.1 x.2
def Zvj:Gam->Nat->(Cal->Prop)->Prop
 | [],_,_=>False
 | (n,C)::r,f,K=>if n=f then K C else Zvj r f K
def Zrp:Gam->Nat->Bool
 | [],_=>false
 | (n,C)::r,f=>if n=f then C.dat else Zrp r f
def Zrq:Gam->Nat->Option (List Bool)
 | [],_=>none
 | (n,C)::r,f=>if n=f then C.io else Zrq r f
theorem Zpk {P:Program}:∀ (Γ:Gam),Γ.ok P->∀ {f:Nat} {K:Cal->Prop},Zvj Γ f K->∃ C,ZsT P f C/\K C/\C.dat=Zrp Γ f/\C.io=Zrq Γ f
 | [],_,_,_,h=>h.elim
 | (n,C)::r,hΓ,f,K,h=>by
  unfold Zvj at h;unfold Zrp Zrq;split at h
  ·rename_i e;subst e;exact ⟨C,hΓ (n,C) (by simp),h,by rw[if_pos rfl],by rw[if_pos rfl]⟩
  ·rename_i e;rw[if_neg e,if_neg e];exact Zpk r (λx hx=>hΓ x (by simp[hx])) h
def Zg7 (Γ:Gam) (op:Op):Bool:=ZcF op||ZkG op||match op with
 | .call c=>match c.callee with
  | .value (.func f)=>Zrp Γ f
  | _=>false
 | _=>false
def Zhs (Γ:Gam) (op:Op):Option (List Operand):=match op with
 | .call c=>match c.callee with
  | .value (.func f)=>match Zrq Γ f with
   | some m=>some (pick m c.args.toList)
   | none=>none
  | _=>none
 | _=>none
def ZoU (Δ:Tab) (Γ:Gam) (regs:List SV) (H:List Entry) (op:Op) (K:SV->List Entry->Prop):Prop :=
 match op with
 | .call c=>match c.callee with
  | .value fo=>Q0 regs fo λsf=>match sf with
   | .fn f caps=>Zvj Γ f λC=>Zsh regs c.args.toList λl=>Zn7 l caps λl'=>C.run l' H K
   | _=>False
  | _=>opK Δ regs H op K
 | op=>opK Δ regs H op K
def ZsC (regs:List SV) (dst:Option Tmp) (s:SV) (K:List SV->Prop):Prop :=
 match dst with
 | none=>K regs
 | some d=>ZsI regs d s K
def Zt2:List Oper->Nat->(Oper->Prop)->Prop
 | [],_,_=>False
 | o::_,0,K=>K o
 | _::r,n+1,K=>Zt2 r n K
theorem Zkn:∀ (l:List Oper) {n:Nat} {K:Oper->Prop},Zt2 l n K->∃ o,l[n]?=some o/\K o
 | [],_,_,h=>h.elim
 | o::_,0,K,h=>⟨o,rfl,h⟩
 | _::r,n+1,K,h=>by simpa using Zkn r (n:=n) h
def Zt4 (Δ:Tab) (Γ:Gam) (ops:List Oper) (o:Oper) (regs:List SV) (H:List Entry) (K:List SV->List Entry->Prop):Prop :=
 match o.guard with
 | none=>ZoU Δ Γ regs H o.op λs H'=>ZsC regs o.dst s λregs'=>K regs' H'
 | some (j,want)=>Zt2 ops j λoj=>match oj.dst with
  | none=>False
  | some d=>ZkP regs d λsg=>match sg with
   | .blit b=>if b=want then ZoU Δ Γ regs H o.op λs H'=>ZsC regs o.dst s λregs'=>K regs' H'
     else ZsC regs o.dst (.tup []) λregs'=>K regs' H
   | .bool p=>(p=want->ZsI regs d (.blit want) λregs1=>ZoU Δ Γ regs1 H o.op λs H'=>ZsC regs1 o.dst s λregs'=>K regs' H')/\
     (p = !want->ZsI regs d (.blit (!want)) λregs1=>ZsC regs1 o.dst (.tup []) λregs'=>K regs' H)
   | .tup []=>ZsC regs o.dst (.tup []) λregs'=>K regs' H
   | _=>False
def Zzu (Δ:Tab) (Γ:Gam) (ops:List Oper):List Oper->List SV->List Entry->(List SV->List Entry->Prop)->Prop
 | [],regs,H,K=>K regs H
 | o::r,regs,H,K=>Zt4 Δ Γ ops o regs H λregs' H'=>Zzu Δ Γ ops r regs' H' K
def Conc (B:Base) (regs:List SV) (H:List Entry) (a:Act) (w:World):Prop :=
 ∃ E,E.w=w/\Inv B E H/\Z7 E regs a.tmps.toList/\a.defers=[]
section
variable {P:Program}
theorem ZjA {E:Env} {regs:List SV} {a:Act} (hd:Z7 E regs a.tmps.toList) {dst:Option Tmp} {s:SV} {v:Value} (hs:den E s v) {K:List SV->Prop} (hk:ZsC regs dst s K) :
  ∃ regs',Z7 E regs' (a.put dst v).tmps.toList/\K regs'/\(a.put dst v).defers=a.defers:=by
 cases dst with
 | none=>exact ⟨regs,hd,hk,rfl⟩
 | some d =>
  simp only[ZsC,ZcL] at hk;refine ⟨_,?_,hk,rfl⟩;simp only[Act.put,Array.toList_setIfInBounds];exact ZcW _ _ hd d s v hs
theorem ZuK {B:Base} {E:Env} {o:Oper} {a:Act} {K:SV->List Entry->Prop} (h:Ran P B E o a K) {next:Act->World->Prop} {Q:Exit->Act->World->Prop}
  (hn:∀ E' H' s v,Inv B E' H'->E.le E'->den E' s v->K s H'->((ZcF o.op||ZkG o.op)=true->Grow E.w E'.w)->(∀ x,appArg o.op=some x->E.w.grownBy E'.w (Yx (a.eval x)))->next (a.put o.dst v) E'.w):o.wp P a E.w next Q:=by
 obtain ⟨nx,v,E',H',s,h1,h2,h3,h4,h5,h6,_,h7,h8⟩:=h;unfold Oper.wp;rw[h1];rcases h2 with rfl | ⟨rfl,rfl⟩
 ·exact hn E' H' s v h3 h4 h5 h6 h7 h8
 ·exact hn E' H' s _ h3 h4 h5 h6 h7 h8
theorem ZvX {Δ:Tab} (hΔ:Δ.ok P) {Γ:Gam} (hΓ:Γ.ok P) {B:Base} {E:Env} {H:List Entry} (hI:Inv B E H) {regs:List SV} {a:Act} (hd:Z7 E regs a.tmps.toList) {o:Oper} {K:SV->List Entry->Prop}
  (h:ZoU Δ Γ regs H o.op K) {next:Act->World->Prop} {Q:Exit->Act->World->Prop}
  (hn:∀ E' H' s v,Inv B E' H'->E.le E'->den E' s v->K s H'->(Zg7 Γ o.op=true->Grow E.w E'.w)->(∀ x,appArg o.op=some x->E.w.grownBy E'.w (Yx (a.eval x)))->(∀ xs,Zhs Γ o.op=some xs->∀ b,b<E.w.heap.size->(∀ x∈xs,Yx (a.eval x)≠some b)->E'.w.heap[b]?=E.w.heap[b]?)->next (a.put o.dst v) E'.w):o.wp P a E.w next Q:=by
 obtain ⟨dst,op,type,pos,after,guard⟩:=o;simp only at h;unfold ZoU at h;split at h
 ·rename_i c
  obtain ⟨callee,args,argTypes⟩:=c;simp only at h;split at h
  ·rename_i fo
   obtain ⟨sf,hsf,h⟩:=Ym hd h;split at h
   ·rename_i f caps
    simp only[den] at hsf;obtain ⟨cv,hfv,hcaps⟩:=hsf;obtain ⟨C,hC,h,hda,hio⟩:=Zpk Γ hΓ h;obtain ⟨l,hl,h⟩:=Zi3 hd _ h;rw[VZ] at h;have hds:=V4 _ _ hl _ _ hcaps;have hcall:=hC.2 hI hds h;obtain ⟨⟨fn,hf,hname,hbody⟩,_⟩:=hC;have hrun:(execOp a.eval ⟨dst,.call ⟨.value fo,args,argTypes⟩,type,pos,after,guard⟩).run P E.w=.ok (.enter f (args.toList.map a.eval++cv).toArray) E.w:=by
     have hargs:(args.map a.eval)++cv.toArray=(args.toList.map a.eval++cv).toArray:=by
      grind
     simp only[execOp,resolve,hfv,Deferred.ofValue,pure_bind,invoke,Array.empty_append,hargs];unfold callFunc;rw[Sem.run_bind,run_program,Result.andThen_ok,hf];simp only[hname,hbody,Bool.false_eq_true,if_false];rfl
    unfold Oper.wp;rw[hrun];refine hcall.mono ?_;rintro e w' ⟨v,E',H',s,rfl,rfl,h1,h2,h3,h4,h5,h6⟩;refine hn E' H' s v h1 h2 h3 h4 (λhgr=>h5 ?_) (ZnT rfl) (λxs hx b hb hne=>?_)
    ·rw[hda]
     cases fo with
     | func f0 =>
      simp only[Act.eval] at hfv;injection hfv with hfv
      injection hfv with hfv
      subst hfv;simpa[Zg7,ZcF,ZkG] using hgr
     | _=>simp[Zg7,ZcF,ZkG] at hgr
    ·cases fo with
     | func f0 =>
      simp only[Act.eval] at hfv;have hcv:cv=[]:=by
       grind
      injection hfv with hfv
      injection hfv with hfv
      subst hfv;simp only[Zhs] at hx;split at hx
      ·rename_i m hm
       injection hx with hx
       subst hx;refine h6 m (hio.trans hm) b hb (λu hu=>?_);have:pick m (args.toList.map a.eval++cv)=(pick m args.toList).map a.eval:=by
        rw[<-ZoJ,hcv,List.append_nil]
       grind
      ·cases hx
     | _=>simp[Zhs] at hx
   ·exact h.elim
  ·rename_i hne
   refine ZuK (Zt5 hΔ hI hd h) (λE' H' s v h1 h2 h3 h4 h5 h6=>hn E' H' s v h1 h2 h3 h4 (λhgr=>h5 ?_) h6 (λxs hx=>?_))
   ·cases callee with
    | value f=>grind
    | _=>simpa[Zg7,ZkG] using hgr
   ·cases callee with
    | value f=>grind
    | _=>simp[Zhs] at hx
 ·rename_i hne
  refine ZuK (Zt5 hΔ hI hd h) (λE' H' s v h1 h2 h3 h4 h5 h6=>hn E' H' s v h1 h2 h3 h4 (λhgr=>h5 ?_) h6 (λxs hx=>?_));rotate_left
  ·cases op with
   | call c=>grind
   | _=>simp[Zhs] at hx
  cases op with
  | call c=>grind
  | _=>first | rfl | exact hgr | (simp[Zg7,ZcF,ZkG] at hgr ⊢)
def Zs4:Value->Option Bool
 | .bool b=>some b
 | _=>none
theorem Zn3 {ops:Array Oper} {a:Act} {j d:Nat} {oj:Oper} {v:Value} (ho:ops.toList[j]?=some oj) (hd:oj.dst=some d) (hv:a.tmps.toList[d]?=some v) :
  yielded ops a.tmps j=Zs4 v:=by
 have ho':ops[j]?=some oj:=by simpa using ho
 have hv':a.tmps[d]?=some v:=by simpa using hv
 unfold yielded;rw[ho',Option.bind_some,hd,Option.bind_some,hv'];cases v<;>rfl
theorem ZrM {Δ:Tab} (hΔ:Δ.ok P) {Γ:Gam} (hΓ:Γ.ok P) {B:Base} (ops:Array Oper) {Q:Exit->Act->World->Prop} (o:Oper) {regs:List SV} {H:List Entry} {a:Act} {E:Env} (hI:Inv B E H) (hd:Z7 E regs a.tmps.toList) (hdef:a.defers=[])
  {K:List SV->List Entry->Prop} (hk:Zt4 Δ Γ ops.toList o regs H K) {next:Act->World->Prop}
  (hq:∀ regs' H' a' E',K regs' H'->Inv B E' H'->Z7 E' regs' a'.tmps.toList->a'.defers=[]->E.le E'->(Zg7 Γ o.op=true->Grow E.w E'.w)->(∀ x,appArg o.op=some x->E.w.grownBy E'.w (Yx (a.eval x)))->(∀ xs,Zhs Γ o.op=some xs->∀ b,b<E.w.heap.size->(∀ x∈xs,Yx (a.eval x)≠some b)->E'.w.heap[b]?=E.w.heap[b]?)->next a' E'.w) :
  (if Region.wanted o (yielded ops a.tmps) then o.wp P a E.w next Q\/(o.asks P a E.w/\LetsOut Q) else next (a.put o.dst undef) E.w):=by
 have run:∀ {regs:List SV},Z7 E regs a.tmps.toList->(ZoU Δ Γ regs H o.op λs H'=>ZsC regs o.dst s λregs'=>K regs' H')->o.wp P a E.w next Q:=by
  intro regs hd hk;refine ZvX hΔ hΓ hI hd hk (λE' H' s v hI' hle hs hk hg hap hwr=>?_);obtain ⟨regs',hd',hk,hdf⟩:=ZjA (ZL hle _ _ hd) hs hk;grind
 have skip:∀ {regs:List SV},Z7 E regs a.tmps.toList->(ZsC regs o.dst (.tup []) λregs'=>K regs' H)->next (a.put o.dst undef) E.w:=by
  intro regs hd hk;obtain ⟨regs',hd',hk,hdf⟩:=ZjA hd (v:=undef) (by simp only[den];exact ⟨[],rfl,trivial⟩) hk;exact hq regs' H _ _ hk hI hd' (by rw[hdf];exact hdef) (Env.le.refl E) (λ_=>Grow.refl _) (λ_ _=>⟨rfl,rfl,rfl,Nat.le_refl _,λ_ _ _=>rfl⟩) (λ_ _ _ _ _=>rfl)
 unfold Zt4 at hk;split at hk
 ·rename_i hg
  rw[if_pos (by simp[Region.wanted,hg])];grind
 ·rename_i j want hg
  obtain ⟨oj,hoj,hk1⟩:=Zkn _ hk;clear hk;split at hk1
  ·exact hk1.elim
  ·rename_i d hdst
   obtain ⟨sg,v,hv,hsg,hk,hrg⟩:=JJ _ _ hd hk1;clear hrg hk1;have hy:=Zn3 hoj hdst hv;have hwant:Region.wanted o (yielded ops a.tmps)=(Zs4 v == some want):=by
    simp only[Region.wanted,hg,hy]
   have hset:∀ (s:SV),den E s v->Z7 E (regs.set d s) a.tmps.toList:=by
    intro s hs;have h1:=ZcW _ _ hd d s v hs;have hvs:a.tmps.toList.set d v=a.tmps.toList:=by
     apply List.ext_getElem?;grind
    rwa [hvs] at h1
   split at hk
   ·rename_i b
    simp only[den] at hsg;subst hsg;split at hk
    ·rename_i hb;subst hb
     rw[if_pos (by rw[hwant];simp[Zs4])];grind
    ·rename_i hb
     rw[if_neg (by rw[hwant];simp[Zs4];exact hb)];exact skip hd hk
   ·rename_i p
    simp only[den] at hsg;subst hsg;by_cases hp:p=want
    ·subst hp
     rw[if_pos (by rw[hwant];simp[Zs4])];have hk:=hk.1 rfl;rw[ZcL] at hk;exact .inl (run (hset _ (by simp only[den])) hk)
    ·have hp':p = !want:=by cases p<;>cases want<;>simp_all
     rw[if_neg (by rw[hwant];simp[Zs4];exact hp)];have hk:=hk.2 hp';rw[ZcL] at hk;exact skip (hset _ (by simp only[den,hp'])) hk
   ·simp only[den] at hsg
    obtain ⟨vs,hvs,hd0⟩:=hsg;have:v=.tuple #[]:=by
     cases vs with
     | nil=>rw[hvs]
     | cons=>simp[Z7] at hd0
    rw[if_neg (by rw[hwant,this];intro h;cases h)];exact skip hd hk
   ·exact hk.elim
theorem Zxc {Δ:Tab} (hΔ:Δ.ok P) {Γ:Gam} (hΓ:Γ.ok P) {B:Base} (ops:Array Oper) {Q:Exit->Act->World->Prop} (o:Oper) {regs:List SV} {H:List Entry} {a:Act} {w:World} (hc:Conc B regs H a w)
  {K:List SV->List Entry->Prop} (hk:Zt4 Δ Γ ops.toList o regs H K) {next:Act->World->Prop}
  (hq:∀ regs' H' a' w',K regs' H'->Conc B regs' H' a' w'->(Zg7 Γ o.op=true->Grow w w')->next a' w') :
  (if Region.wanted o (yielded ops a.tmps) then o.wp P a w next Q\/(o.asks P a w/\LetsOut Q) else next (a.put o.dst undef) w):=by
 obtain ⟨E,hw,hI,hd,hdef⟩:=hc;subst hw;exact ZrM hΔ hΓ ops o hI hd hdef hk (λregs' H' a' E' hk hI' hd' hdef' _ hg _ _=>hq regs' H' a' _ hk ⟨E',rfl,hI',hd',hdef'⟩ hg)
theorem Zt6 {Δ:Tab} (hΔ:Δ.ok P) {Γ:Gam} (hΓ:Γ.ok P) {B:Base} (ops:Array Oper) {Q:Exit->Act->World->Prop}:∀ (l:List Oper) {regs:List SV} {H:List Entry} {a:Act} {w:World} (_:Conc B regs H a w)
  {K:List SV->List Entry->Prop} (_:Zzu Δ Γ ops.toList l regs H K) (_:∀ regs' H' a' w',K regs' H'->Conc B regs' H' a' w'->Q .normal a' w'),wpList P ops Q l a w
 | [],regs,H,a,w,hc,K,hk,hq=>hq _ _ _ _ hk hc
 | o::r,regs,H,a,w,hc,K,hk,hq=>by
  simp only[Zzu] at hk;unfold wpList;exact Zxc hΔ hΓ ops o hc hk (λregs' H' a' w' hk' hc' _=>Zt6 hΔ hΓ ops r hc' hk' hq)
def ZiS (B:Base) (E0:Env) (regs:List SV) (H:List Entry) (a:Act) (w:World):Prop :=
 ∃ E,E0.le E/\E.w=w/\Inv B E H/\Z7 E regs a.tmps.toList/\a.defers=[]
theorem ZiS.ZBT {B:Base} {E0:Env} {regs:List SV} {H:List Entry} {a:Act} {w:World} (h:ZiS B E0 regs H a w):Conc B regs H a w:=by
 obtain ⟨E,_,h⟩:=h;exact ⟨E,h⟩
theorem ZtT {Δ:Tab} (hΔ:Δ.ok P) {Γ:Gam} {B:Base} (ops:Array Oper) (o:Oper) (hl:ZcF o.op=true) {regs:List SV} {H:List Entry} {a:Act} {E:Env} (hI:Inv B E H) (hd:Z7 E regs a.tmps.toList) (hdef:a.defers=[])
  {K:List SV->List Entry->Prop} (hk:Zt4 Δ Γ ops.toList o regs H K) :
  ∃ v,((Region.wanted o (yielded ops a.tmps)=true/\∀ w',(isLoad o.op=true->ZoZ E.w w')->(execOp a.eval o).run P w'=.ok (.value v) w')\/(Region.wanted o (yielded ops a.tmps)=false/\v=undef))/\
   ∃ regs' H',K regs' H'/\ZiS B E regs' H' (a.put o.dst v) E.w:=by
 have hst:∀ (K:SV->List Entry->Prop) (regs:List SV),ZoU Δ Γ regs H o.op K->opK Δ regs H o.op K:=by
  intro K regs h;unfold ZoU at h;split at h
  ·rename_i c heq
   split at h
   ·rename_i f hcal
    rw[heq] at hl;simp[ZcF,hcal] at hl
   ·exact h
  ·exact h
 have run:∀ {regs:List SV},Z7 E regs a.tmps.toList->(ZoU Δ Γ regs H o.op λs H'=>ZsC regs o.dst s λregs'=>K regs' H')->
   ∃ v,(∀ w',(isLoad o.op=true->ZoZ E.w w')->(execOp a.eval o).run P w'=.ok (.value v) w')/\∃ regs' H',K regs' H'/\ZiS B E regs' H' (a.put o.dst v) E.w:=by
  intro regs hd hk;obtain ⟨nx,v,E',H',s,h1,h2,h3,h4,h5,h6,h7,_⟩:=Zt5 hΔ hI hd (hst _ _ hk);obtain ⟨_,hw8,h8⟩:=h7 hl;obtain ⟨regs',hd',hk,hdf⟩:=ZjA (ZL h4 _ _ hd) h5 h6;exact ⟨v,h8,regs',H',hk,E',h4,hw8,h3,hd',by rw[hdf];exact hdef⟩
 have skip:∀ {regs:List SV},Z7 E regs a.tmps.toList->(ZsC regs o.dst (.tup []) λregs'=>K regs' H)->∃ regs' H',K regs' H'/\ZiS B E regs' H' (a.put o.dst undef) E.w:=by
  intro regs hd hk;obtain ⟨regs',hd',hk,hdf⟩:=ZjA hd (v:=undef) (by simp only[den];exact ⟨[],rfl,trivial⟩) hk;exact ⟨regs',H,hk,E,Env.le.refl E,rfl,hI,hd',by rw[hdf];exact hdef⟩
 unfold Zt4 at hk;split at hk
 ·rename_i hg
  obtain ⟨v,h1,h2⟩:=run hd hk;exact ⟨v,.inl ⟨by simp[Region.wanted,hg],h1⟩,h2⟩
 ·rename_i j want hg
  obtain ⟨oj,hoj,hk1⟩:=Zkn _ hk;clear hk;split at hk1
  ·exact hk1.elim
  ·rename_i d hdst
   obtain ⟨sg,v,hv,hsg,hk,hrg⟩:=JJ _ _ hd hk1;clear hrg hk1;have hy:=Zn3 hoj hdst hv;have hwant:Region.wanted o (yielded ops a.tmps)=(Zs4 v == some want):=by
    simp only[Region.wanted,hg,hy]
   have hset:∀ (s:SV),den E s v->Z7 E (regs.set d s) a.tmps.toList:=by
    intro s hs;have h1:=ZcW _ _ hd d s v hs;have hvs:a.tmps.toList.set d v=a.tmps.toList:=by
     apply List.ext_getElem?;grind
    rwa [hvs] at h1
   split at hk
   ·rename_i b
    simp only[den] at hsg;subst hsg;split at hk
    ·rename_i hb;subst hb
     obtain ⟨v,h1,h2⟩:=run hd hk;exact ⟨v,.inl ⟨by rw[hwant];simp[Zs4],h1⟩,h2⟩
    ·rename_i hb
     exact ⟨_,.inr ⟨by rw[hwant];simp[Zs4];exact hb,rfl⟩,skip hd hk⟩
   ·rename_i p
    simp only[den] at hsg;subst hsg;by_cases hp:p=want
    ·subst hp
     have hk:=hk.1 rfl;rw[ZcL] at hk;obtain ⟨v,h1,h2⟩:=run (hset _ (by simp only[den])) hk;exact ⟨v,.inl ⟨by rw[hwant];simp[Zs4],h1⟩,h2⟩
    ·have hp':p = !want:=by cases p<;>cases want<;>simp_all
     have hk:=hk.2 hp';rw[ZcL] at hk;exact ⟨_,.inr ⟨by rw[hwant];simp[Zs4];exact hp,rfl⟩,skip (hset _ (by simp only[den,hp'])) hk⟩
   ·simp only[den] at hsg
    obtain ⟨vs,hvs,hd0⟩:=hsg;have:v=.tuple #[]:=by
     cases vs with
     | nil=>rw[hvs]
     | cons=>simp[Z7] at hd0
    exact ⟨_,.inr ⟨by rw[hwant,this];rfl,rfl⟩,skip hd hk⟩
   ·exact hk.elim
end
section
variable {P:Program}
theorem Zns {E:Env} {T:TypeId} {ti:TI} (h:Zbc P T ti) (W:World->Prop) (p:Addr) {cs:List SV} {K:SV->Prop} (hk:Qr ti cs K)
  (vs:List Value) (hd:Z7 E cs vs) (hvs:∀ w',W w'->∀ j u,vs[j]?=some u->w'.cell? (p.add j)=some u) :
  ∃ v s,(∀ w',W w'->(loadVar T p).run P w'=.ok v w')/\den E s v/\K s:=by
 unfold Qr at hk;split at hk
 ·rename_i ha
  rw[ZfY] at hk;split at hk
  ·rename_i hl
   have hd':=Zd4 cs vs hd ti.size;have hl':=YC _ _ hd';have h':=λw' (hst:W w')=>Zc8 h w' p (vs.take ti.size) (λj u hu=>hvs w' hst j u (by
    rw[List.getElem?_take] at hu;split at hu
    ·exact hu
    ·cases hu)) (λ_=>by rw[<-hl'];exact hl)
   exact ⟨_,.agg _,λw' hst=>(h' w' hst).1 ha,by simp only[den];exact ⟨_,rfl,hd'⟩,hk⟩
  ·exact hk.elim
 ·rename_i ha
  split at hk
  ·rename_i c r
   match vs,hd,hvs with
   | v::vs,hd,hvs =>
    simp only[Z7] at hd;have h':=λw' (hst:W w')=>Zc8 h w' p (v::vs) (λj u hu=>hvs w' hst j u hu) (λe=>absurd e ha);exact ⟨v,c,λw' hst=>(h' w' hst).2 (by simpa using ha) v rfl,hd.1,hk⟩
   | [],hd,_=>simp[Z7] at hd
  ·exact hk.elim
theorem Zsp {B:Base} {E:Env} {H:List Entry} (hI:Inv B E H) {T:TypeId} {ti:TI} (h:Zbc P T ti) {id off:Nat} {v:Value} (hs:den E (.ptr id off) v) {cells:List SV} (he:H[id]?=some (.box cells)) {K:SV->Prop}
  (hk:ZgT cells off λcs=>Qr ti cs K) :
  ∃ b u r,E.ids[id]?=some (.pointer (some ⟨b,0,none⟩))/\(∀ w':World,w'.heap[b]?=E.w.heap[b]?->(Instr.loadAt T v).run P w'=.ok u w')/\den E r u/\K r:=by
 rw[Zad] at hk;simp only[den] at hs;obtain ⟨b,h1,rfl⟩:=hs;obtain ⟨b',cs,T',h1',h2,h3⟩:=hI.ent id _ he;have:=h1.symm.trans h1';simp at this;subst this;obtain ⟨u,r,g1,g2,g3⟩:=Zns h (λw'=>w'.heap[b]?=E.w.heap[b]?) ⟨b,off,none⟩ hk (cs.toList.drop off) (Ve _ _ h3 off) (λw' hw=>ZiX (hw.trans h2) off);exact ⟨b,u,r,h1,λw' hw=>by simp only[Instr.loadAt,Instr.sureAddr,pure_bind];exact g1 w' hw,g2,g3⟩
theorem Zlw {B:Base} {E:Env} {H:List Entry} (hI:Inv B E H) {id:Nat} {cells:List SV} (he:H[id]?=some (.box cells)) {b:Nat} (hb:E.ids[id]?=some (.pointer (some ⟨b,0,none⟩)))
  {k:Nat} {ek:Entry} {v:Value} (hk:H[k]?=some ek) (hl:ek.live=true) (hv:E.ids[k]?=some v) (hkid:k≠id):¬Ze5 ek v b:=by
 intro h;exact hkid (hI.sep k id ek _ v _ b hk he hl rfl hv hb h (by simp[Ze5,Yx]))
end
def ZpJ (m:List Nat) (i:Nat):Nat:=(m[i]?).getD i
mutual
def ZBb (m:List Nat):SV->SV
 | .ptr id off=>.ptr (ZpJ m id) off
 | .own id=>.own (ZpJ m id)
 | .oep id sz i off=>.oep (ZpJ m id) sz i off
 | .mown id=>.mown (ZpJ m id)
 | .fptr cs=>.fptr (Zui m cs)
 | .agg cs=>.agg (Zui m cs)
 | .tup cs=>.tup (Zui m cs)
 | .fn f cs=>.fn f (Zui m cs)
 | .bot=>.bot
 | .int k n=>.int k n
 | .bool b=>.bool b
 | .blit b=>.blit b
 | .str s=>.str s
 | .sl t d=>.sl t d
 | .nsl=>.nsl
 | .nilp=>.nilp
 | .gptr g=>.gptr g
 | .nptr t d=>.nptr t d
 | .mp k v d=>.mp k v d
def Zui (m:List Nat):List SV->List SV
 | []=>[]
 | c::cs=>ZBb m c::Zui m cs
end
def ZyI (m:List Nat):Entry->Entry
 | .box cells=>.box (Zui m cells)
 | .fbx cells=>.fbx (Zui m cells)
 | .hole et e d i cells fp=>.hole et e d i (Zui m cells) fp
 | .hsp et e d i cells fp=>.hsp et e d i (Zui m cells) fp
 | e=>e
section
variable {E:Env} {ids':List Value} {m:List Nat}
mutual
theorem ZwT (h:∀ i v,E.ids[i]?=some v->ids'[ZpJ m i]?=some v):∀ (s:SV) (v:Value),den E s v->den ⟨E.S,E.w,ids'⟩ (ZBb m s) v
 | .bot,_,_=>trivial
 | .int _ _,_,e=>e
 | .bool _,_,e=>e
 | .blit _,_,e=>e
 | .str _,_,e=>e
 | .sl t d,v,e=>e
 | .nsl,_,e=>e
 | .ptr _ _,_,⟨b,e1,e2⟩=>⟨b,h _ _ e1,e2⟩
 | .own _,_,⟨e1,e2⟩=>⟨h _ _ e1,e2⟩
 | .oep _ _ _ _,_,⟨b,bo,n,c,e1,e2⟩=>⟨b,bo,n,c,h _ _ e1,e2⟩
 | .fptr cs,_,⟨p,vs,e1,e2,e3,e4,e5⟩=>⟨p,vs,e1,e2,e3,e4,ZcV h cs vs e5⟩
 | .agg cs,_,⟨vs,e1,e2⟩=>⟨vs,e1,ZcV h cs vs e2⟩
 | .tup cs,_,⟨vs,e1,e2⟩=>⟨vs,e1,ZcV h cs vs e2⟩
 | .fn _ cs,_,⟨vs,e1,e2⟩=>⟨vs,e1,ZcV h cs vs e2⟩
 | .nilp,_,e=>e
 | .gptr _,_,e=>e
 | .nptr t d,v,e=>e
 | .mown _,_,⟨e1,e2⟩=>⟨h _ _ e1,e2⟩
 | .mp k u d,v,e=>e
theorem ZcV (h:∀ i v,E.ids[i]?=some v->ids'[ZpJ m i]?=some v):∀ (cs:List SV) (vs:List Value),Z7 E cs vs->Z7 ⟨E.S,E.w,ids'⟩ (Zui m cs) vs
 | [],[],_=>trivial
 | c::cs,v::vs,⟨e1,e2⟩=>⟨ZwT h c v e1,ZcV h cs vs e2⟩
 | [],_::_,e=>e
 | _::_,[],e=>e
end
theorem Zve (h:∀ i v,E.ids[i]?=some v->ids'[ZpJ m i]?=some v) (i:Nat):∀ e:Entry,Zrc E i e->Zrc ⟨E.S,E.w,ids'⟩ (ZpJ m i) (ZyI m e)
 | .gone,_=>trivial
 | .box cells,⟨b,cs,T,e1,e2,e3⟩=>⟨b,cs,T,h _ _ e1,e2,ZcV h _ _ e3⟩
 | .arr et t d,⟨v,xs,e1,r⟩=>⟨v,xs,h _ _ e1,r⟩
 | .frz t d,⟨v,e1,r⟩=>⟨v,h _ _ e1,r⟩
 | .fbx cells,⟨b,cs,T,e1,e2,e3,e4⟩=>⟨b,cs,T,h _ _ e1,e2,e3,ZcV h _ _ e4⟩
 | .darr et e d fp,⟨v,xs,fps,e1,r⟩=>⟨v,xs,fps,h _ _ e1,r⟩
 | .hole et e d i cells fp,⟨v,xs,x1,vx,x2,f1,f2,e1,a1,a2,a3,a4,a5,a6,a7,a8,a9,r⟩=>⟨v,xs,x1,vx,x2,f1,f2,h _ _ e1,a1,a2,a3,a4,a5,a6,a7,a8,ZcV h _ _ a9,r⟩
 | .spl et e d n fp,⟨v,e1,r⟩=>⟨v,h _ _ e1,r⟩
 | .hsp et e d i cells fp,⟨v,xs,x1,vx,x2,f1,e1,a1,a2,a3,a4,a5,a6,a7,a8,a9,r⟩=>⟨v,xs,x1,vx,x2,f1,h _ _ e1,a1,a2,a3,a4,a5,a6,a7,a8,ZcV h _ _ a9,r⟩
 | .mpe k v d,⟨b,es,clk,e1,r⟩=>⟨b,es,clk,h _ _ e1,r⟩
 | .frm k v d,⟨u,e1,r⟩=>⟨u,h _ _ e1,r⟩
end
theorem ZpI (m:List Nat) (e:Entry):(ZyI m e).live=e.live:=by cases e<;>rfl
theorem ZoL (m:List Nat) (e:Entry) (v:Value) (g:Nat):Ze5 (ZyI m e) v g<->Ze5 e v g:=by cases e<;>exact Iff.rfl
def ZsD:List Nat->Nat->Nat->(Nat->Prop)->Prop
 | [],_,i,K=>K i
 | a::_,0,_,K=>K a
 | _::r,n+1,i,K=>ZsD r n i K
theorem ZjB:∀ (m:List Nat) (n i:Nat) (K:Nat->Prop),ZsD m n i K=K ((m[n]?).getD i)
 | [],_,_,_=>rfl
 | _::_,0,_,_=>rfl
 | _::r,n+1,i,K=>ZjB r n i K
mutual
def Znt (m:List Nat):SV->(SV->Prop)->Prop
 | .ptr id off,K=>ZsD m id id λj=>K (.ptr j off)
 | .own id,K=>ZsD m id id λj=>K (.own j)
 | .oep id sz i off,K=>ZsD m id id λj=>K (.oep j sz i off)
 | .mown id,K=>ZsD m id id λj=>K (.mown j)
 | .fptr cs,K=>Zk5 m cs λcs=>K (.fptr cs)
 | .agg cs,K=>Zk5 m cs λcs=>K (.agg cs)
 | .tup cs,K=>Zk5 m cs λcs=>K (.tup cs)
 | .fn f cs,K=>Zk5 m cs λcs=>K (.fn f cs)
 | .bot,K=>K .bot
 | .int k n,K=>K (.int k n)
 | .bool b,K=>K (.bool b)
 | .blit b,K=>K (.blit b)
 | .str s,K=>K (.str s)
 | .sl t d,K=>K (.sl t d)
 | .nsl,K=>K .nsl
 | .nilp,K=>K .nilp
 | .gptr g,K=>K (.gptr g)
 | .nptr t d,K=>K (.nptr t d)
 | .mp k v d,K=>K (.mp k v d)
def Zk5 (m:List Nat):List SV->(List SV->Prop)->Prop
 | [],K=>K []
 | c::cs,K=>Znt m c λc=>Zk5 m cs λcs=>K (c::cs)
end
mutual
theorem ZvN (m:List Nat):∀ (s:SV) (K:SV->Prop),Znt m s K=K (ZBb m s)
 | .ptr id off,K=>by simp only[Znt,ZjB];rfl
 | .own id,K=>by simp only[Znt,ZjB];rfl
 | .oep id sz i off,K=>by simp only[Znt,ZjB];rfl
 | .mown id,K=>by simp only[Znt,ZjB];rfl
 | .fptr cs,K=>by simp only[Znt,ZfN m cs];rfl
 | .agg cs,K=>by simp only[Znt,ZfN m cs];rfl
 | .tup cs,K=>by simp only[Znt,ZfN m cs];rfl
 | .fn f cs,K=>by simp only[Znt,ZfN m cs];rfl
 | .bot,K=>rfl
 | .int k n,K=>rfl
 | .bool b,K=>rfl
 | .blit b,K=>rfl
 | .str s,K=>rfl
 | .sl t d,K=>rfl
 | .nsl,K=>rfl
 | .nilp,K=>rfl
 | .gptr g,K=>rfl
 | .nptr t d,K=>rfl
 | .mp k v d,K=>rfl
theorem ZfN (m:List Nat):∀ (l:List SV) (K:List SV->Prop),Zk5 m l K=K (Zui m l)
 | [],K=>rfl
 | c::cs,K=>by simp only[Zk5,ZvN m c,ZfN m cs];rfl
end
def Zxj (m:List Nat):Entry->(Entry->Prop)->Prop
 | .box cells,K=>Zk5 m cells λcs=>K (.box cs)
 | .fbx cells,K=>Zk5 m cells λcs=>K (.fbx cs)
 | .hole et e d i cells fp,K=>Zk5 m cells λcs=>K (.hole et e d i cs fp)
 | .hsp et e d i cells fp,K=>Zk5 m cells λcs=>K (.hsp et e d i cs fp)
 | .gone,K=>K .gone
 | .arr et t d,K=>K (.arr et t d)
 | .frz t d,K=>K (.frz t d)
 | .darr et e d fp,K=>K (.darr et e d fp)
 | .spl et e d n fp,K=>K (.spl et e d n fp)
 | .mpe k v d,K=>K (.mpe k v d)
 | .frm k v d,K=>K (.frm k v d)
theorem ZvM (m:List Nat) (e:Entry) (K:Entry->Prop):Zxj m e K=K (ZyI m e):=by
 cases e<;>first | rfl | (simp only[Zxj,ZfN];rfl)
def ZvI (H:List Entry) (m:List Nat):List Nat->(List Entry->Prop)->Prop
 | [],K=>K []
 | j::r,K=>Zev H j λe=>Zxj m e λe=>ZvI H m r λl=>K (e::l)
theorem ZrT (H:List Entry) (m:List Nat):∀ (o:List Nat) {K:List Entry->Prop},ZvI H m o K->∃ l,K l/\l.length=o.length/\∀ (i:Nat) (e':Entry),l[i]?=some e'->∃ j e,o[i]?=some j/\H[j]?=some e/\e'=ZyI m e
 | [],K,h=>⟨[],h,rfl,λi e' hi=>by cases hi⟩
 | j::r,K,h=>by
  unfold ZvI at h;obtain ⟨e,he,h⟩:=YM H h;rw[ZvM] at h;obtain ⟨l,h1,h2,h3⟩:=ZrT H m r h;grind
def Zzs:List Nat->Nat->Nat->Bool
 | [],_,_=>false
 | a::_,0,x=>Nat.beq a x
 | _::r,n+1,x=>Zzs r n x
theorem ZqA:∀ (l:List Nat) {n x:Nat},Zzs l n x=true->l[n]?=some x
 | [],_,_,h=>by cases h
 | a::_,0,x,h=>by rw[List.getElem?_cons_zero,Nat.eq_of_beq_eq_true h]
 | _::r,n+1,x,h=>by rw[List.getElem?_cons_succ];exact ZqA r h
def ZyB (m:List Nat):List Nat->Nat->Bool
 | [],_=>true
 | j::r,k=>Zzs m j k&&ZyB m r (k+1)
theorem Zqq (m:List Nat):∀ (o:List Nat) (k:Nat),ZyB m o k=true->∀ (i j:Nat),o[i]?=some j->m[j]?=some (k+i)
 | [],_,_,i,j,h=>by cases h
 | a::r,k,h,i,j,hi=>by
  unfold ZyB at h;rw[Bool.and_eq_true] at h;cases i with
  | zero =>
   rw[List.getElem?_cons_zero] at hi;injection hi with hi
   subst hi;exact ZqA m h.1
  | succ i =>
   rw[List.getElem?_cons_succ] at hi;have:=Zqq m r (k+1) h.2 i j hi;grind
def Zzl (m:List Nat):Nat->Bool
 | 0=>true
 | n+1=>Zzs m n n&&Zzl m n
theorem Ztv (m:List Nat):∀ (n:Nat),Zzl m n=true->∀ i,i<n->m[i]?=some i
 | 0,_,i,hi=>by omega
 | n+1,h,i,hi=>by
  unfold Zzl at h;rw[Bool.and_eq_true] at h;by_cases e:i=n
  ·subst e;exact ZqA m h.1
  ·exact Ztv m n h.2 i (by omega)
def ZvR {α β:Type}:List α->List β->Bool
 | [],[]=>true
 | _::r,_::s=>ZvR r s
 | _,_=>false
theorem ZoP {α β:Type}:∀ (l:List α) (r:List β),ZvR l r=true->l.length=r.length
 | [],[],_=>rfl
 | _::r,_::s,h=>by simp[ZoP r s h]
 | [],_::_,h=>by cases h
 | _::_,[],h=>by cases h
def Zzn (i:Nat):List Nat->Bool
 | []=>false
 | j::r=>Nat.beq j i||Zzn i r
def ZyC:List Entry->Nat->Bool
 | [],_=>false
 | .box _::_,0=>true
 | _::_,0=>false
 | _::r,n+1=>ZyC r n
def Zwu (n0:Nat) (H:List Entry):List SV->List Nat->(List Nat->Prop)->Prop
 | [],acc,K=>K acc
 | .ptr id _::r,acc,K=>match Nat.ble n0 id&&ZyC H id&&!Zzn id acc with
  | true=>Zwu n0 H r (id::acc) K
  | false=>Zwu n0 H r acc K
 | .own id::r,acc,K=>match Nat.ble n0 id&&!Zzn id acc with
  | true=>Zwu n0 H r (id::acc) K
  | false=>Zwu n0 H r acc K
 | _::r,acc,K=>Zwu n0 H r acc K
theorem ZqB (n0:Nat) (H:List Entry) {K:List Nat->Prop}:∀ (l:List SV) (acc:List Nat),Zwu n0 H l acc K->∃ c,K c
 | [],acc,h=>⟨acc,h⟩
 | s::r,acc,h=>by
  cases s<;>unfold Zwu at h<;>first
   | exact ZqB n0 H r _ h
   | (split at h<;>exact ZqB n0 H r _ h)
def Zum (c:List Nat):List Entry->Nat->(List Nat->Prop)->Prop
 | [],_,K=>K c
 | _::r,i,K=>match Zzn i c with
  | true=>Zum c r (i+1) K
  | false=>Zum c r (i+1) λl=>K (i::l)
theorem ZoO (c:List Nat):∀ (H:List Entry) (i:Nat) {K:List Nat->Prop},Zum c H i K->∃ o,K o
 | [],_,_,h=>⟨c,h⟩
 | _::r,i,K,h=>by
  unfold Zum at h;split at h
  ·exact ZoO c r (i+1) h
  ·obtain ⟨o,h⟩:=ZoO c r (i+1) h
   exact ⟨_,h⟩
def Zvh:List Nat->Nat->Nat->(Nat->Prop)->Prop
 | [],_,k,K=>K k
 | a::r,j,k,K=>match Nat.beq a j with
  | true=>K k
  | false=>Zvh r j (k+1) K
theorem Zrk:∀ (o:List Nat) (j k:Nat) {K:Nat->Prop},Zvh o j k K->∃ p,K p
 | [],_,k,_,h=>⟨k,h⟩
 | a::r,j,k,K,h=>by
  unfold Zvh at h;split at h
  ·exact ⟨k,h⟩
  ·exact Zrk r j (k+1) h
def Zzw (o:List Nat):List Entry->Nat->(List Nat->Prop)->Prop
 | [],_,K=>K []
 | _::r,j,K=>Zvh o j 0 λp=>Zzw o r (j+1) λl=>K (p::l)
theorem Zud (o:List Nat):∀ (H:List Entry) (j:Nat) {K:List Nat->Prop},Zzw o H j K->∃ m,K m
 | [],_,_,h=>⟨[],h⟩
 | _::r,j,K,h=>by
  unfold Zzw at h;obtain ⟨p,h⟩:=Zrk o j 0 h;obtain ⟨m,h⟩:=Zud o r (j+1) h;exact ⟨_,h⟩
def idB:List Nat->Nat->Bool
 | [],_=>true
 | j::r,k=>Nat.beq j k&&idB r (k+1)
def canonK (n0:Nat) (regs:List SV) (H:List Entry) (K:List SV->List Entry->Prop):Prop :=
 Zwu n0 H regs [] λc=>match c with
  | []=>K regs H
  | c=>Zum c H 0 λo=>match idB o 0 with
  | true=>K regs H
  | false=>Zzw o H 0 λm=>match (ZvR o H&&ZvR m H&&ZyB m o 0&&ZyB o m 0&&Zzl m n0) with
   | true=>Zk5 m regs λregs'=>ZvI H m o λH'=>K regs' H'
   | false=>False
theorem Zs5 {B:Base} {n0:Nat} {regs:List SV} {H:List Entry} {a:Act} {w:World} {K:List SV->List Entry->Prop} (hpin:∀ (i:Nat) (v:Value),B.pin[i]?=some v->i<n0) (h:canonK n0 regs H K) (hc:Conc B regs H a w) :
  ∃ regs' H',K regs' H'/\Conc B regs' H' a w:=by
 unfold canonK at h;obtain ⟨c,h⟩:=ZqB n0 H _ _ h;split at h
 ·grind
 ·obtain ⟨o,h⟩:=ZoO _ H 0 h
  split at h
  ·grind
  obtain ⟨m,h⟩:=Zud o H 0 h;split at h
  ·rename_i hb
   simp only[Bool.and_eq_true] at hb;obtain ⟨⟨⟨⟨b1,b2⟩,b3⟩,b4⟩,b5⟩:=hb;have c1:=ZoP _ _ b1;have c2:=ZoP _ _ b2;have c3:=Zqq m o 0 b3;have c4:=Zqq o m 0 b4;have c5:=Ztv m n0 b5;rw[ZfN] at h;obtain ⟨H',h,g1,g2⟩:=ZrT H m o h;refine ⟨_,H',h,?_⟩;obtain ⟨E,hw,hI,hd,hdef⟩:=hc
   let ids':=o.map λj=>(E.ids[j]?).getD undef
   have hm:∀ j,j<H.length->∃ k,m[j]?=some k/\o[k]?=some j/\ZpJ m j=k:=λj hj=>by
    have e:m[j]?=some (m[j]'(by omega)):=List.getElem?_eq_getElem _;have:=c4 j _ e;rw[Nat.zero_add] at this;exact ⟨_,e,this,by unfold ZpJ;rw[e];rfl⟩
   have hids:∀ i v,E.ids[i]?=some v->ids'[ZpJ m i]?=some v:=λi v hi=>by
    have hl:=(List.getElem?_eq_some_iff.1 hi).1;rw[hI.len] at hl;grind
   have hback:∀ i v,ids'[i]?=some v->∃ j,o[i]?=some j/\E.ids[j]?=some v/\ZpJ m j=i:=λi v hi=>by
    have hi':(o.map λj=>(E.ids[j]?).getD undef)[i]?=some v:=hi;rw[List.getElem?_map] at hi';cases e:o[i]? with
    | none=>grind
    | some j =>
     rw[e] at hi';have e':=c3 i j e;rw[Nat.zero_add] at e';have hj:j<H.length:=by grind
     have hjv:E.ids[j]?=some (E.ids[j]'(by rw[hI.len];exact hj)):=List.getElem?_eq_getElem _;refine ⟨j,rfl,?_,by unfold ZpJ;rw[e'];rfl⟩;grind
   refine ⟨⟨E.S,E.w,ids'⟩,hw,⟨hI.keeps,hI.Slt,hI.Sold,hI.glob,?_,λi v hi=>?_,λi e' hi=>?_,λi e' v g hi hl hv hb=>?_,λi j ei ej vi vj g hi hj li lj vi' vj' bi bj=>?_⟩,ZcV hids _ _ hd,hdef⟩
   ·grind
   ·have:=hids i v (hI.pin i v hi)
    rw[show ZpJ m i=i by unfold ZpJ;grind] at this;exact this
   ·obtain ⟨j,e,o1,o2,rfl⟩:=g2 i e' hi
    have:=c3 i j o1;rw[Nat.zero_add] at this;have er:=Zve hids j e (hI.ent j e o2);rw[show ZpJ m j=i by unfold ZpJ;rw[this];rfl] at er;exact er
   ·obtain ⟨j,e,o1,o2,rfl⟩:=g2 i e' hi
    obtain ⟨j',p1,p2,_⟩:=hback i v hv;rw[o1] at p1;injection p1 with p1
    subst p1;rw[ZpI] at hl;exact hI.free j e v g o2 hl p2 ((ZoL m e v g).1 hb)
   ·obtain ⟨j1,e1,o1,o2,rfl⟩:=g2 i ei hi
    obtain ⟨j2,e2,q1,q2,rfl⟩:=g2 j ej hj;obtain ⟨k1,p1,p2,p3⟩:=hback i vi vi';obtain ⟨k2,r1,r2,r3⟩:=hback j vj vj';rw[o1] at p1;injection p1 with p1
    subst p1;rw[q1] at r1;injection r1 with r1
    subst r1;rw[ZpI] at li lj;have:=hI.sep j1 j2 e1 e2 vi vj g o2 q2 li lj p2 r2 ((ZoL m e1 vi g).1 bi) ((ZoL m e2 vj g).1 bj);grind
  ·exact h.elim
inductive VD
 | done
 | op (i:Nat) (p:VD)
 | ld (i:Nat) (p:VD)
 | alt (i:Nat) (p q:VD)
 | can (p:VD)
def VD.o:List Nat->VD->VD
 | [],p=>p
 | i::r,p=>.op i (VD.o r p)
def VD.u:Nat->Nat->VD->VD
 | _,0,p=>p
 | a,n+1,p=>.op a (VD.u (a+1) n p)
def VD.l:List Nat->VD->VD
 | [],p=>p
 | i::r,p=>.ld i (VD.l r p)
def VD.a:List Nat->VD->VD
 | [],p=>p
 | i::r,p=>.alt i (VD.a r p) .done
def VD.d (i:Nat):VD:=.alt i .done .done
def VD.core:VD->VD
 | .can p=>p
 | p=>p
section
variable {P:Program} {ops:Array Oper}
inductive Behind (ops:Array Oper) (i:Nat):Nat->Prop
 | edge {j:Nat} {oj:Oper} {e:Edge}:ops[j]?=some oj->e∈oj.after->Region.binds .any e=true->e.on=i->Behind ops i j
 | step {j:Nat} {oj:Oper} {e:Edge}:ops[j]?=some oj->e∈oj.after->Region.binds .any e=true->Behind ops i e.on->Behind ops i j
def ZrG (acc:List Nat) (l:List Edge) (m:Nat):Nat :=
 match l with
 | []=>m
 | e::r=>ZrG acc r (if Region.binds .any e then (m ||| 2 ^ e.on) ||| acc.getD e.on 0 else m)
def ZiG:List Oper->List Nat->List Nat
 | [],acc=>acc
 | o::r,acc=>ZiG r (acc++[ZrG acc o.after.toList 0])
def ZbJ (M:List Nat) (i j:Nat):Bool:=(M.getD j 0).testBit i
theorem Zpx {ops:Array Oper} {acc:List Nat} (hacc:∀ (j m:Nat),acc[j]?=some m->∀ i,m.testBit i=true->Behind ops i j) {j:Nat} {oj:Oper} (hj:ops[j]?=some oj) :
  ∀ (l:List Edge) (m:Nat),(∀ e∈l,e∈oj.after)->(∀ i,m.testBit i=true->Behind ops i j)->∀ i,(ZrG acc l m).testBit i=true->Behind ops i j
 | [],m,_,hm,i,h=>hm i h
 | e::r,m,hl,hm,i,h=>by
  unfold ZrG at h;refine Zpx hacc hj r _ (λe he=>hl e (by simp[he])) ?_ i h;intro k hk;split at hk
  ·rename_i hb
   rw[Nat.testBit_or,Nat.testBit_or,Nat.testBit_two_pow] at hk;simp only[Bool.or_eq_true,decide_eq_true_eq] at hk;rcases hk with (hk | hk) | hk
   ·exact hm k hk
   ·exact .edge hj (hl e (by simp)) hb hk
   ·cases ha:acc[e.on]? with
    | none=>simp[ha] at hk
    | some m'=>exact .step hj (hl e (by simp)) hb (hacc _ _ ha k (by simpa[ha] using hk))
  ·exact hm k hk
theorem ZnQ {ops:Array Oper}:∀ (l:List Oper) (acc:List Nat),(∀ (k:Nat),l[k]?=ops[acc.length+k]?)->(∀ (j m:Nat),acc[j]?=some m->∀ i,m.testBit i=true->Behind ops i j)->
  ∀ (j m:Nat),(ZiG l acc)[j]?=some m->∀ i,m.testBit i=true->Behind ops i j
 | [],acc,_,h=>h
 | o::r,acc,hl,h=>by
  unfold ZiG;refine ZnQ r _ (λk=>?_) ?_
  ·have:=hl (k+1)
   grind
  ·intro j m hj i hi
   have hlt:=(List.getElem?_eq_some_iff.1 hj).1;rw[List.length_append,List.length_singleton] at hlt;by_cases hja:j<acc.length
   ·grind
   ·have:j=acc.length:=by omega
    subst this;rw[List.getElem?_append_right (by omega)] at hj;simp at hj;subst hj;have h0:ops[acc.length]?=some o:=by simpa using (hl 0).symm
    exact Zpx h h0 _ 0 (λe he=>by simpa using he) (λi hi=>by simp at hi) i hi
def Down (ops:Array Oper) (listed:Array Bool):Prop:=∀ (j:Nat) (oj:Oper) (e:Edge),ops[j]?=some oj->listed.getD j false=true->e∈oj.after->Region.binds .any e=true->listed.getD e.on false=true
theorem Down.set {listed:Array Bool} (h:Down ops listed) {i:Nat} (hr:i∈Region.ready .any ops listed):Down ops (listed.setIfInBounds i true):=by
 intro j oj e hj hl he hb;by_cases hij:i=j
 ·subst hij
  obtain ⟨_,o,ho,hall⟩:=mem_ready.1 hr;rw[hj] at ho;injection ho with ho;subst ho
  exact getD_set_true (hall e he hb)
 ·rw[getD_set_ne false hij] at hl
  exact getD_set_true (h j oj e hj hl he hb)
theorem Zkz {listed:Array Bool} (hd:Down ops listed) {i:Nat} (hi:listed.getD i false=false):∀ (j:Nat),Behind ops i j->j ∉ Region.ready .any ops listed/\listed.getD j false=false:=by
 intro j h;have fin:∀ {j:Nat} {oj:Oper} {e:Edge},ops[j]?=some oj->e∈oj.after->Region.binds .any e=true->listed.getD e.on false=false->j ∉ Region.ready .any ops listed/\listed.getD j false=false:=by
  intro j oj e hj he hb hun;constructor
  ·intro hr
   obtain ⟨_,o,ho,hall⟩:=mem_ready.1 hr;grind
  ·cases hl:listed.getD j false with
   | false=>rfl
   | true =>
    have:=hd j oj e hj hl he hb;grind
 induction h with
 | edge hj he hb hon=>grind
 | step hj he hb _ ih=>grind
def Lit (P:Program) (ops:Array Oper) (R:World->World->Prop) (o:Oper) (v:Value) (a:Act) (w:World):Prop :=
 (Region.wanted o (yielded ops a.tmps)=true/\∀ w',R w w'->(execOp a.eval o).run P w'=.ok (.value v) w')\/(Region.wanted o (yielded ops a.tmps)=false/\v=undef)
structure Way (R:World->World->Prop):Prop where
 refl:∀ w,R w w
 trans:∀ a b c,R a b->R b c->R a c
def ZkM (P:Program) (ops:Array Oper) (G:Nat->World->World->Prop) (Q:Exit->Act->World->Prop):Nat->Array Bool->Act->World->Prop
 | 0,listed,a,w=>Region.ready .any ops listed=[]/\Q .normal a w
 | fuel+1,listed,a,w=>(Region.ready .any ops listed=[]->Q .normal a w)/\
  ∀ i∈Region.ready .any ops listed,wpOp P ops Q i (λa' w'=>G i w w'/\ZkM P ops G Q fuel (listed.setIfInBounds i true) a' w') a w
theorem Zn2 {G:Nat->World->World->Prop} {Q:Exit->Act->World->Prop}:∀ (fuel:Nat) (listed:Array Bool) (a:Act) (w:World),ZkM P ops G Q fuel listed a w->wpAny P .any ops Q fuel listed a w
 | 0,_,_,_,h=>h
 | fuel+1,_,_,_,h=>⟨h.1,λi hi=>wpOp_mono (λa' w' hh=>Zn2 fuel _ a' w' hh.2) (h.2 i hi)⟩
theorem Lit.wpOp {R:World->World->Prop} (hR:Way R) {Q:Exit->Act->World->Prop} {i:Nat} {o:Oper} {v:Value} {a:Act} {w:World} (hi:ops[i]?=some o) (hy:Lit P ops R o v a w)
  {K:Act->World->Prop} (h:K (a.put o.dst v) w):Go.wpOp P ops Q i K a w:=by
 unfold Go.wpOp;simp only[hi];rcases hy with ⟨hw,hv⟩ | ⟨hw,rfl⟩
 ·simp only[hw,if_true,Oper.wp,hv w (hR.refl w),Oper.upon];exact .inl h
 grind
theorem ZuP {R:World->World->Prop} (hR:Way R) {Q:Exit->Act->World->Prop} {j:Nat} {oi oj:Oper} {v:Value} (hj:ops[j]?=some oj) (hap:oi.apart ops oj=true)
  (hsi:∀ cs b,oi.op≠.select cs b) (hsj:∀ cs b,oj.op≠.select cs b) (hQ:∀ c a w,¬Q (.panic c) a w) {G1:World->World->Prop} (hgr:∀ w w',G1 w w'->R w w')
  {K:Act->World->Prop} {a:Act} {w:World} (hy:Lit P ops R oi v a w) (h:wpOp P ops Q j (λa' w'=>G1 w w'/\K a' w') (a.put oi.dst v) w) :
  wpOp P ops Q j (λa' w'=>G1 w w'/\Lit P ops R oi v a' w'/\K (a'.put oi.dst v) w') a w:=by
 obtain ⟨h1,h2,h3⟩:=Oper.apart_spec hap;have keep:∀ (a':Act) (w':World),execOp a'.eval oi=execOp a.eval oi->Region.wanted oi (yielded ops a'.tmps)=Region.wanted oi (yielded ops a.tmps)->R w w'->Lit P ops R oi v a' w':=by
  intro a' w' he hw hr;unfold Lit at *;rw[he,hw];rcases hy with ⟨a1,a2⟩ | a1
  ·exact .inl ⟨a1,λw'' h''=>a2 w'' (hR.trans _ _ _ hr h'')⟩
  ·exact .inr a1
 have keepP:∀ (u:Value) (w':World),R w w'->Lit P ops R oi v (a.put oj.dst u) w':=λu w' hr=>keep _ _ (execOp_put oi hsi a oj.dst u h3) (wanted_put oi a oj.dst u h3) hr;have keepD:∀ (d:Deferred) (u:Value) (w':World),R w w'->Lit P ops R oi v (({a with defers:=d::a.defers}:Act).put oj.dst u) w':=λd u w' hr =>
  keep _ _ ((execOp_put oi hsi ({a with defers:=d::a.defers}:Act) oj.dst u h3).trans rfl) ((wanted_put oi ({a with defers:=d::a.defers}:Act) oj.dst u h3).trans rfl) hr
 unfold wpOp at *;simp only[hj] at *;rw[wanted_put oj a oi.dst v h1] at h;split
 ·rename_i hw
  simp only[hw,if_true] at h;rcases h with h | ⟨hasks,hlets⟩
  case inr=>exact .inr ⟨by unfold Oper.asks at *;rw[execOp_put oj hsj a oi.dst v h1] at hasks;exact hasks,hlets⟩
  refine .inl ?_;unfold Oper.wp at *;rw[execOp_put oj hsj a oi.dst v h1] at h;generalize (execOp a.eval oj).run P w=r at *;cases r with
  | ok n w' =>
   cases n<;>simp only[Oper.upon] at h ⊢
   case value u=>exact ⟨h.1,keepP u w' (hgr _ _ h.1),by rw[<-Act.put_comm a v u h2];exact h.2⟩
   case skip=>exact ⟨h.1,keepP _ w' (hgr _ _ h.1),by rw[<-Act.put_comm a v undef h2];exact h.2⟩
   case defer d =>
    refine ⟨h.1,keepD d _ w' (hgr _ _ h.1),?_⟩;rw[<-Act.put_comm _ v undef h2,<-Act.put_defers];exact h.2
   case enter f args =>
    refine Calls.mono h λe w'' he=>?_;cases e with
    | returned u=>exact ⟨he.1,keepP u w'' (hgr _ _ he.1),by rw[<-Act.put_comm a v u h2];exact he.2⟩
    | panicked c=>grind
    | outgrown=>exact he
   case row row args=>exact Rows.mono h λu w'' he=>⟨he.1,keepP u w'' (hgr _ _ he.1),by rw[<-Act.put_comm a v u h2];exact he.2⟩
  | halt x w' =>
   cases x<;>simp only[Oper.upon] at h ⊢
   grind
 ·rename_i hw
  simp only[hw] at h;exact ⟨h.1,keepP _ w (hR.refl w),by rw[<-Act.put_comm a v undef h2];exact h.2⟩
theorem ZkN {R:World->World->Prop} (hR:Way R) {Q:Exit->Act->World->Prop} {G:Nat->World->World->Prop} {i:Nat} {oi:Oper} {v:Value} (hi:ops[i]?=some oi) (hGi:∀ w,G i w w)
  (hsel:∀ (j:Nat) (o:Oper) cs b,ops[j]?=some o->o.op≠.select cs b) (hQ:∀ c a w,¬Q (.panic c) a w)
  (hfree:∀ j oj,ops[j]?=some oj->j≠i->¬Behind ops i j->¬Behind ops j i->oi.apart ops oj=true/\∀ w w',G j w w'->R w w') :
  ∀ (fuel:Nat) (listed:Array Bool) (a:Act) (w:World),Down ops listed->i∈Region.ready .any ops listed->Lit P ops R oi v a w->
   ZkM P ops G Q fuel (listed.setIfInBounds i true) (a.put oi.dst v) w->ZkM P ops G Q (fuel+1) listed a w:=by
 have hun:∀ listed:Array Bool,i∈Region.ready .any ops listed->listed.getD i false=false:=by
  intro listed hr;have h0:=(mem_ready.1 hr).1;grind
 intro fuel;induction fuel with
 | zero =>
  intro listed a w hd hr hy H;refine ⟨λh=>(by grind),λj hj=>?_⟩;by_cases hji:j=i
  ·subst hji;exact hy.wpOp hR hi ⟨hGi w,H⟩
  ·have:=ready_mono hj hji
   rw[H.1] at this;cases this
 | succ fuel ih =>
  intro listed a w hd hr hy H;refine ⟨λh=>(by grind),λj hj=>?_⟩;by_cases hji:j=i
  ·subst hji;exact hy.wpOp hR hi ⟨hGi w,H⟩
  ·have h1:=H.2 j (ready_mono hj hji)
   obtain ⟨hjun,oj,hoj,hall⟩:=mem_ready.1 hj;have hnb:¬Behind ops i j:=λhb=>(Zkz hd (hun _ hr) j hb).1 hj;have hnb2:¬Behind ops j i:=by
    intro hb;refine (Zkz hd ?_ i hb).1 hr;grind
   obtain ⟨hap,hgr⟩:=hfree j oj hoj hji hnb hnb2;have h2:=ZuP hR hoj hap (λcs b=>hsel i oi cs b hi) (λcs b=>hsel j oj cs b hoj) hQ hgr hy h1;refine wpOp_mono (λa' w' h3=>⟨h3.1,ih (listed.setIfInBounds j true) a' w' (hd.set hj) (ready_mono hr (Ne.symm hji)) h3.2.1 ?_⟩) h2;rw[Array.setIfInBounds_comm _ _ hji];exact h3.2.2
def Zjy (ops:Array Oper):Bool:=ops.all λo=>match o.op with
 | .select _ _=>false
 | _=>true
def Zyy (Γ:Gam) (ops:Array Oper) (M:List Nat) (i:Nat):Bool :=
 match ops[i]? with
 | none=>false
 | some oi=>ZcF oi.op&&(List.range ops.size).all λj=>j == i||ZbJ M i j||ZbJ M j i||match ops[j]? with
  | none=>true
  | some oj=>oi.apart ops oj&&(!isLoad oi.op||Zg7 Γ oj.op)
def ZA5:Op->Bool
 | .indexAddr _ _ _=>true
 | _=>false
def Zyd (ops:List Oper):Bool:=ops.all λo=>match o.op with
 | .store _ (.tmp t) _=>ops.any λo'=>(match o'.dst with
  | some d=>Nat.beq d t
  | none=>false)&&ZA5 o'.op
 | .store _ _ _=>false
 | _=>true
def ZwH (st:Bool) (op:Op):Option Operand:=match op with
 | .store _ x _=>match st with
  | true=>some x
  | false=>none
 | op=>appArg op
theorem Zq1 {st:Bool} {op:Op} {x:Operand} (h:ZwH st op=some x):appArg op=some x:=by
 unfold ZwH at h;split at h
 ·split at h
  ·exact h
  ·cases h
 ·exact h
def ZzI (Γ:Gam) (st:Bool) (op:Op):Bool:=(ZwH st op).isSome||(Zhs Γ op).isSome
theorem Zze {Γ:Gam} {op:Op} {x:Operand} (h:appArg op=some x):Zhs Γ op=none:=by
 unfold appArg at h;split at h
 ·rfl
 ·rfl
 ·cases h
def Zub (o:Oper):Bool:=match o.op,o.guard with
 | .load _ _,none=>true
 | _,_=>false
def Zyz (Γ:Gam) (ops:Array Oper) (M:List Nat) (i:Nat):Bool :=
 match ops[i]? with
 | none=>false
 | some oi=>Zub oi&&(List.range ops.size).all λj=>j == i||ZbJ M i j||ZbJ M j i||match ops[j]? with
  | none=>true
  | some oj=>oi.apart ops oj&&(Zg7 Γ oj.op||ZzI Γ (Zyd ops.toList) oj.op)
def JF (Γ:Gam) (ops:Array Oper) (M:List Nat):VD->Nat->Array Bool->Option (List Nat)->Bool
 | .done,_,listed,none=>(Region.ready .any ops listed).isEmpty
 | .done,_,_,some rem=>rem.isEmpty
 | .op i p,n+1,listed,none=>(Region.ready .any ops listed).contains i&&Zyy Γ ops M i&&JF Γ ops M p n (listed.setIfInBounds i true) none
 | .ld i p,n+1,listed,none=>(Region.ready .any ops listed).contains i&&Zyz Γ ops M i&&JF Γ ops M p n (listed.setIfInBounds i true) none
 | .alt i p q,n+1,listed,none=>(Region.ready .any ops listed).contains i&&JF Γ ops M p n (listed.setIfInBounds i true) none&&JF Γ ops M q (n+1) listed (some ((Region.ready .any ops listed).filter (· != i)))
 | .alt i p q,n+1,listed,some rem=>JF Γ ops M p n (listed.setIfInBounds i true) none&&JF Γ ops M q (n+1) listed (some (rem.filter (· != i)))
 | _,_,_,_=>false
def ZbI (i:Nat):List Nat->Bool
 | []=>false
 | j::r=>Nat.beq j i||ZbI i r
def ZgP:List Nat->List Entry->Prop->Prop
 | [],_,K=>K
 | i::r,H,K=>Zev H i λe=>match e with
  | .box _=>ZgP r H K
  | _=>False
def wrK (V:List Nat) (regs:List SV) (H:List Entry):List Operand->Prop->Prop
 | [],K=>ZgP V H K
 | x::r,K=>Q0 regs x λs=>match s with
  | .ptr i _=>ZbI i V=false/\Zev H i λe=>match e with
   | .box _=>wrK V regs H r K
   | _=>False
  | _=>False
def Zx8 (Γ:Gam) (st:Bool) (V:List Nat) (regs:List SV) (H:List Entry) (op:Op) (K:Prop):Prop:=match V with
 | []=>K
 | _=>match ZwH st op with
  | none=>match Zhs Γ op with
   | none=>K
   | some xs=>wrK V regs H xs K
  | some x=>Q0 regs x λs=>match s with
   | .nsl=>K
   | .own i=>ZbI i V=false/\Zev H i λe=>match e with
    | .arr _ _ _=>ZgP V H K
    | .darr _ _ _ _=>ZgP V H K
    | _=>False
   | .oep i _ _ _=>ZbI i V=false/\Zev H i λe=>match e with
    | .arr _ _ _=>ZgP V H K
    | .darr _ _ _ _=>ZgP V H K
    | .hole _ _ _ _ _ _=>ZgP V H K
    | _=>False
   | _=>False
def ldK (Δ:Tab) (V:List Nat) (o:Oper) (regs:List SV) (H:List Entry) (K:List SV->Prop):Prop:=match o.op,o.guard with
 | .load T x,none=>ZaV Δ T λti=>Q0 regs x λs=>match s with
  | .ptr id off=>ZbI id V=true/\Zev H id λe=>match e with
   | .box cells=>ZgT cells off λcs=>Qr ti cs λr=>ZsC regs o.dst r K
   | _=>False
  | _=>False
 | _,_=>False
def Zyg:Prop:=True
def Zge (Δ:Tab) (Γ:Gam) (ops:List Oper) (V:List Nat):VD->Bool->List SV->List Entry->(List SV->List Entry->Prop)->Prop
 | .done,false,regs,H,K=>Zyg/\K regs H
 | .done,true,_,_,_=>True
 | .op i p,_,regs,H,K=>Zt2 ops i λo=>Zt4 Δ Γ ops o regs H λregs' H'=>Zge Δ Γ ops V p false regs' H' K
 | .ld i p,_,regs,H,K=>Zt2 ops i λo=>ldK Δ V o regs H λregs'=>Zge Δ Γ ops V p false regs' H K
 | .can _,_,_,_,_=>False
 | .alt i p .done,_,regs,H,K=>Zt2 ops i λo=>Zx8 Γ (Zyd ops) V regs H o.op (Zt4 Δ Γ ops o regs H λregs' H'=>Zge Δ Γ ops V p false regs' H' K)
 | .alt i p q,_,regs,H,K=>(Zt2 ops i λo=>Zx8 Γ (Zyd ops) V regs H o.op (Zt4 Δ Γ ops o regs H λregs' H'=>Zge Δ Γ ops V p false regs' H' K))/\Zge Δ Γ ops V q true regs H K
def Zzm (Γ:Gam) (ops:Array Oper) (j:Nat):Bool:=match ops[j]? with
 | some o=>Zg7 Γ o.op
 | none=>true
def ZwG (Γ:Gam) (ops:Array Oper) (j:Nat):Bool:=match ops[j]? with
 | some o=>ZzI Γ (Zyd ops.toList) o.op
 | none=>false
def VOk (V:List Nat) (Bk:Nat->Option Nat) (E:Env):Prop:=∀ id,ZbI id V=true->∃ b,Bk id=some b/\E.ids[id]?=some (.pointer (some ⟨b,0,none⟩))
theorem VOk.le {V:List Nat} {Bk:Nat->Option Nat} {E E':Env} (h:VOk V Bk E) (hle:E.le E'):VOk V Bk E':=λid hi=>by
 obtain ⟨b,h1,h2⟩:=h id hi;exact ⟨b,h1,hle.ids _ _ h2⟩
def Zm1 (B:Base) (V:List Nat) (Bk:Nat->Option Nat) (regs:List SV) (H:List Entry) (a:Act) (w:World):Prop :=
 ∃ E,VOk V Bk E/\E.w=w/\Inv B E H/\Z7 E regs a.tmps.toList/\a.defers=[]
theorem Zm1.ZBT {B:Base} {V:List Nat} {Bk:Nat->Option Nat} {regs:List SV} {H:List Entry} {a:Act} {w:World} (h:Zm1 B V Bk regs H a w):Conc B regs H a w:=by
 obtain ⟨E,_,h⟩:=h;exact ⟨E,h⟩
def Leaves (Γ:Gam) (ops:Array Oper) (V:List Nat) (Bk:Nat->Option Nat) (j:Nat) (w w':World):Prop :=
 (Zzm Γ ops j=true->Grow w w')/\(ZwG Γ ops j=true->∀ id b,ZbI id V=true->Bk id=some b->b<w.heap.size->w'.heap[b]?=w.heap[b]?)
theorem Leaves.refl {Γ:Gam} {ops:Array Oper} {V:List Nat} {Bk:Nat->Option Nat} {j:Nat} (w:World):Leaves Γ ops V Bk j w w:=⟨λ_=>Grow.refl w,λ_ _ _ _ _ _=>rfl⟩
def Rb (b:Nat) (w w':World):Prop:=b<w.heap.size->b<w'.heap.size/\w'.heap[b]?=w.heap[b]?
theorem Rb.way (b:Nat):Way (Rb b):=⟨λw h=>⟨h,rfl⟩,λx y z h1 h2 h=>by
 obtain ⟨a1,a2⟩:=h1 h;obtain ⟨b1,b2⟩:=h2 a1;grind⟩
theorem Rb.of {b:Nat} {w w':World} (h:b<w.heap.size->w'.heap[b]?=w.heap[b]?):Rb b w w':=λhb=>by
 grind
theorem ZgQ:∀ (V:List Nat) {H:List Entry} {K:Prop},ZgP V H K->K/\∀ id,ZbI id V=true->∃ cells,H[id]?=some (.box cells)
 | [],H,K,h=>⟨h,λid hi=>by cases hi⟩
 | i::r,H,K,h=>by
  unfold ZgP at h;obtain ⟨e,he,h⟩:=YM H h;split at h
  ·rename_i cells
   obtain ⟨hk,hr⟩:=ZgQ r h;refine ⟨hk,λid hi=>?_⟩;unfold ZbI at hi;rcases Bool.or_eq_true _ _▸hi with hq | hq
   all_goals simp_all
  ·exact h.elim
theorem ZwD {B:Base} {E:Env} {H:List Entry} (hI:Inv B E H) {regs:List SV} {a:Act} (hd:Z7 E regs a.tmps.toList) {V:List Nat} {Bk:Nat->Option Nat} (hV:VOk V Bk E):∀ (xs:List Operand) {K:Prop},wrK V regs H xs K->
  K/\(∀ id,ZbI id V=true->∃ cells,H[id]?=some (.box cells))/\∀ id b,ZbI id V=true->Bk id=some b->∀ x∈xs,Yx (a.eval x)≠some b
 | [],K,h=>⟨(ZgQ V h).1,(ZgQ V h).2,λid b _ _ x hx=>by cases hx⟩
 | x::r,K,h=>by
  unfold wrK at h;obtain ⟨s,hs,h⟩:=Ym hd h;split at h
  ·rename_i i off
   obtain ⟨hn,h⟩:=h;obtain ⟨en,he,h⟩:=YM H h;split at h
   ·rename_i cells
    obtain ⟨hk,hbox,hr⟩:=ZwD hI hd hV r h;refine ⟨hk,hbox,λid b hi hbk y hy=>?_⟩;rcases List.mem_cons.1 hy with rfl | hy
    ·simp only[den] at hs
     obtain ⟨b0,h1,h2⟩:=hs;rw[h2];intro e;simp only[Yx,Option.some.injEq] at e;subst e;obtain ⟨b',hb1,hb2⟩:=hV id hi;rw[hbk] at hb1;injection hb1 with hb1
     subst hb1;obtain ⟨cells',hc⟩:=hbox id hi;have hkid:i≠id:=λq=>by grind
     exact Zlw hI hc hb2 he rfl h1 hkid (by simp[Ze5,Yx])
    grind
   ·exact h.elim
  ·exact h.elim
theorem ZwF {B:Base} {E:Env} {H:List Entry} (hI:Inv B E H) {regs:List SV} {a:Act} (hd:Z7 E regs a.tmps.toList) {V:List Nat} {Bk:Nat->Option Nat} (hV:VOk V Bk E) {Γ:Gam} {st:Bool} {op:Op} {K:Prop} (h:Zx8 Γ st V regs H op K) :
  (K/\∀ x,ZwH st op=some x->∀ w',E.w.grownBy w' (Yx (a.eval x))->∀ id b,ZbI id V=true->Bk id=some b->b<E.w.heap.size->w'.heap[b]?=E.w.heap[b]?)/\
  ∀ xs,Zhs Γ op=some xs->∀ id b,ZbI id V=true->Bk id=some b->∀ x∈xs,Yx (a.eval x)≠some b:=by
 unfold Zx8 at h;split at h
 ·exact ⟨⟨h,λx _ w' _ id b hi=>by cases hi⟩,λxs _ id b hi=>by cases hi⟩
 ·split at h
  ·rename_i ha
   split at h
   ·grind
   ·rename_i xs hw
    obtain ⟨hk,_,h2⟩:=ZwD hI hd hV xs h;grind
  ·rename_i x ha
   refine ⟨?_,λxs hx=>by rw[Zze (Zq1 ha)] at hx;cases hx⟩;obtain ⟨s,hs,h⟩:=Ym hd h;split at h
   ·simp only[den] at hs
    refine ⟨h,λy hy w' hg id b _ _ hb=>?_⟩;rw[ha] at hy;injection hy with hy;subst hy
    rw[hs] at hg;exact hg.block b hb (λe=>by simp[Yx] at e)
   ·rename_i k
    obtain ⟨hn,h⟩:=h;obtain ⟨en,he,h⟩:=YM H h;simp only[den] at hs;have fin:∀ {K:Prop},ZgP V H K->en.live=true->(∀ g,Yx (a.eval x)=some g->Ze5 en (a.eval x) g)->K/\∀ y,ZwH st op=some y->∀ w',E.w.grownBy w' (Yx (a.eval y))->∀ id b,ZbI id V=true->Bk id=some b->b<E.w.heap.size->w'.heap[b]?=E.w.heap[b]?:=by
     intro K h hl hblk;obtain ⟨hk,hbox⟩:=ZgQ V h;refine ⟨hk,λy hy w' hg id b hi hbk hb=>?_⟩;rw[ha] at hy;injection hy with hy;subst hy
     obtain ⟨cells,hc⟩:=hbox id hi;obtain ⟨b',hb1,hb2⟩:=hV id hi;rw[hbk] at hb1;injection hb1 with hb1;subst hb1
     refine hg.block b hb (λe=>?_);have hkid:k≠id:=λq=>by grind
     exact Zlw hI hc hb2 he hl hs.1 hkid (hblk b e.symm)
    split at h
    ·exact fin h rfl (λg hg=>hg)
    ·obtain ⟨v,xs,fps,e1,_,_,efp,_⟩:=hI.ent k _ he
     have:=hs.1.symm.trans e1;simp at this;subst this;exact fin h rfl (λg hg=>by simp only[Ze5];rw[efp,hg];simp)
    ·exact h.elim
   ·rename_i k sz i off
    obtain ⟨hn,h⟩:=h;obtain ⟨en,he,h⟩:=YM H h;simp only[den] at hs;obtain ⟨g0,bo,n0,c0,hs1,hs2⟩:=hs;have fin:∀ {K:Prop},ZgP V H K->en.live=true->Ze5 en (.slice (some ⟨g0,bo,none⟩) n0 c0) g0->K/\∀ y,ZwH st op=some y->∀ w',E.w.grownBy w' (Yx (a.eval y))->∀ id b,ZbI id V=true->Bk id=some b->b<E.w.heap.size->w'.heap[b]?=E.w.heap[b]?:=by
     intro K h hl hblk;obtain ⟨hk,hbox⟩:=ZgQ V h;refine ⟨hk,λy hy w' hg id b hi hbk hb=>?_⟩;rw[ha] at hy;injection hy with hy;subst hy
     obtain ⟨cells,hc⟩:=hbox id hi;obtain ⟨b',hb1,hb2⟩:=hV id hi;rw[hbk] at hb1;injection hb1 with hb1;subst hb1
     refine hg.block b hb (λe=>?_);rw[hs2] at e;simp only[Yx,Option.some.injEq] at e;subst e;have hkid:k≠id:=λq=>by grind
     exact Zlw hI hc hb2 he hl hs1 hkid hblk
    split at h
    ·exact fin h rfl rfl
    ·obtain ⟨v,xs,fps,e1,_,_,efp,_⟩:=hI.ent k _ he
     have:=hs1.symm.trans e1;simp at this;subst this;exact fin h rfl (by simp only[Ze5];rw[efp];simp[Yx])
    ·obtain ⟨v,xs,x1,vxs,x2,f1,f2,k1,ho,hi0,hi1,ex,el,el2,hr1,hr2,hdc,ef,hnd⟩:=hI.ent k _ he
     have:=hs1.symm.trans k1;simp at this;subst this;exact fin h rfl (by simp only[Ze5];rw[ef];simp[Yx])
    ·exact h.elim
   ·exact h.elim
theorem Zu8 {M:List Nat} (hM:∀ i j,ZbJ M i j=true->Behind ops i j) {Δ:Tab} (hΔ:Δ.ok P) {Γ:Gam} (hΓ:Γ.ok P) {B:Base} {V:List Nat} {Bk:Nat->Option Nat} {Q:Exit->Act->World->Prop} (hQ:∀ c a w,¬Q (.panic c) a w) (hs:Zjy ops=true) {K:List SV->List Entry->Prop}
  (hq:∀ regs' H' a' w',K regs' H'->Zm1 B V Bk regs' H' a' w'->Q .normal a' w') :
  ∀ (p:VD) (n:Nat) (listed:Array Bool) (m:Option (List Nat)) (regs:List SV) (H:List Entry) (a:Act) (w:World),Zm1 B V Bk regs H a w->Down ops listed->JF Γ ops M p n listed m=true->Zge Δ Γ ops.toList V p m.isSome regs H K->
   match m with
   | none=>ZkM P ops (Leaves Γ ops V Bk) Q n listed a w
   | some rem=>∀ i∈rem,i∈Region.ready .any ops listed->wpOp P ops Q i (λa' w'=>Leaves Γ ops V Bk i w w'/\ZkM P ops (Leaves Γ ops V Bk) Q (n-1) (listed.setIfInBounds i true) a' w') a w:=by
 have hsel:∀ (j:Nat) (o:Oper) cs b,ops[j]?=some o->o.op≠.select cs b:=by
  intro j o cs b hj he;unfold Zjy at hs;grind
 have heavy:∀ (i n:Nat) (listed:Array Bool) (p:VD) (regs:List SV) (H:List Entry) (a:Act) (w:World),Zm1 B V Bk regs H a w->Down ops listed->i∈Region.ready .any ops listed->JF Γ ops M p n (listed.setIfInBounds i true) none=true->
   (∀ regs H a w,Zm1 B V Bk regs H a w->Zge Δ Γ ops.toList V p false regs H K->ZkM P ops (Leaves Γ ops V Bk) Q n (listed.setIfInBounds i true) a w)->
   (Zt2 ops.toList i λo=>Zx8 Γ (Zyd ops.toList) V regs H o.op (Zt4 Δ Γ ops.toList o regs H λregs' H'=>Zge Δ Γ ops.toList V p false regs' H' K))->
   wpOp P ops Q i (λa' w'=>Leaves Γ ops V Bk i w w'/\ZkM P ops (Leaves Γ ops V Bk) Q n (listed.setIfInBounds i true) a' w') a w:=by
  intro i n listed p regs H a w hc hd hr hp ih hk;obtain ⟨o,ho,hk⟩:=Zkn _ hk;have ho':ops[i]?=some o:=by simpa using ho
  unfold wpOp;simp only[ho'];obtain ⟨E,hV,rfl,hI,hdn,hdef⟩:=hc;obtain ⟨⟨hk,happ⟩,hwrs⟩:=ZwF hI hdn hV hk;refine ZrM hΔ hΓ ops o hI hdn hdef hk (λregs' H' a' E' hk' hI' hd' hdef' hle hg hap hwr=>⟨⟨λhgr=>hg ?_,λhb=>?_⟩,ih regs' H' a' E'.w ⟨E',hV.le hle,rfl,hI',hd',hdef'⟩ hk'⟩)
  ·simpa[Zzm,ho'] using hgr
  ·simp only[ZwG,ho',ZzI,Bool.or_eq_true,Option.isSome_iff_exists] at hb
   rcases hb with ⟨x,hx⟩ | ⟨xs,hx⟩
   ·exact happ x hx _ (hap x (Zq1 hx))
   grind
 intro p;induction p with
 | done =>
  intro n listed m regs H a w hc hd hp hk;cases m with
  | none =>
   simp only[JF,List.isEmpty_iff] at hp;simp only[Zge,Option.isSome] at hk;cases n with
   | zero=>exact ⟨hp,hq _ _ _ _ hk.2 hc⟩
   | succ n=>exact ⟨λ_=>hq _ _ _ _ hk.2 hc,λi hi=>by grind⟩
  | some rem =>
   simp only[JF,List.isEmpty_iff] at hp;grind
 | op i p ih =>
  intro n listed m regs H a w hc hd hp hk;cases m with
  | some rem=>cases n<;>simp[JF] at hp
  | none =>
   cases n with
   | zero=>simp[JF] at hp
   | succ n =>
    simp only[JF,Bool.and_eq_true,List.contains_iff_mem] at hp;obtain ⟨⟨hr,hf⟩,hp⟩:=hp;simp only[Zge] at hk;obtain ⟨o,ho,hk⟩:=Zkn _ hk;have ho':ops[i]?=some o:=by simpa using ho
    unfold Zyy at hf;simp only[ho',Bool.and_eq_true] at hf;obtain ⟨hl,hf⟩:=hf;obtain ⟨E,hV,rfl,hI,hdn,hdef⟩:=hc;obtain ⟨v,hy,regs',H',hk',E',hle',hw',hc'⟩:=ZtT hΔ ops o hl hI hdn hdef hk;have hfree:∀ j oj,ops[j]?=some oj->j≠i->ZbJ M i j=false->ZbJ M j i=false->o.apart ops oj=true/\(isLoad o.op=true->Zg7 Γ oj.op=true):=by
     grind
    refine ZkN (R:=λw w'=>isLoad o.op=true->ZoZ w w') ⟨λw _=>ZoZ.refl w,λa b c h1 h2 h=>(h1 h).trans (h2 h)⟩ ho' (λw=>Leaves.refl w) hsel hQ ?_ n listed a E.w hd hr hy (ih n _ none regs' H' _ _ ⟨E',hV.le hle',hw',hc'⟩ (hd.set hr) hp hk');intro j oj hj hji hb hb2;have nb:∀ x y,¬Behind ops x y->ZbJ M x y=false:=λx y h=>by
     grind
    obtain ⟨h1,h2⟩:=hfree j oj hj hji (nb _ _ hb) (nb _ _ hb2);exact ⟨h1,λw w' h hld=>(h.1 (by simpa[Zzm,hj] using h2 hld)).ZDT⟩
 | ld i p ih =>
  intro n listed m regs H a w hc hd hp hk;cases m with
  | some rem=>cases n<;>simp[JF] at hp
  | none =>
   cases n with
   | zero=>simp[JF] at hp
   | succ n =>
    simp only[JF,Bool.and_eq_true,List.contains_iff_mem] at hp;obtain ⟨⟨hr,hf⟩,hp⟩:=hp;simp only[Zge] at hk;obtain ⟨o,ho,hk⟩:=Zkn _ hk;have ho':ops[i]?=some o:=by simpa using ho
    obtain ⟨E,hV,rfl,hI,hdn,hdef⟩:=hc;unfold Zyz at hf;simp only[ho',Bool.and_eq_true] at hf;obtain ⟨_,hf⟩:=hf;unfold ldK at hk;split at hk
    ·rename_i T x hop hg
     obtain ⟨ti,ht,hk⟩:=Y2 Δ hΔ hk;obtain ⟨s,hs1,hk⟩:=Ym hdn hk;split at hk
     ·rename_i id off
      obtain ⟨hid,hk⟩:=hk;obtain ⟨en,he,hk⟩:=YM H hk;split at hk
      ·rename_i cells
       obtain ⟨b,u,r,hb,hrun,hden,hk⟩:=Zsp hI ht hs1 he hk;obtain ⟨b',hbk,hb'⟩:=hV id hid;have:=hb.symm.trans hb';simp at this;subst this;have hlt:b<E.w.heap.size:=(hI.free id _ _ b he rfl hb (by simp[Ze5,Yx])).2.2;obtain ⟨regs',hd',hk',hdf⟩:=ZjA (dst:=o.dst) (v:=u) hdn hden hk;have hlit:Lit P ops (Rb b) o u a E.w:=by
        refine .inl ⟨by simp[Region.wanted,hg],λw' hw'=>?_⟩;have h1:=hrun w' (hw' hlt).2;obtain ⟨dst,op,type,pos,after,guard⟩:=o;simp only at hop;subst hop;show Sem.run P (do pure (Next.value (<-Instr.loadAt T (a.eval x))):Sem Next) w'=_
        simp_all
       refine ZkN (R:=Rb b) (Rb.way b) ho' (λw=>Leaves.refl w) hsel hQ ?_ n listed a E.w hd hr hlit (ih n _ none regs' H _ _ ⟨E,hV,rfl,hI,hd',by rw[hdf];exact hdef⟩ (hd.set hr) hp hk');intro j oj hj hji hb1 hb2;have nb:∀ x y,¬Behind ops x y->ZbJ M x y=false:=λx y h=>by
        grind
       rw[List.all_eq_true] at hf;have:=hf j (List.mem_range.2 (Array.getElem?_eq_some_iff.1 hj).1);simp only[hj,nb _ _ hb1,nb _ _ hb2,Bool.or_eq_true,beq_iff_eq,Bool.and_eq_true,Bool.false_eq_true,or_false] at this;rcases this with h | ⟨h1,h2⟩
       ·exact absurd h hji
       ·refine ⟨h1,λw w' hlv=>Rb.of λhbl=>?_⟩
        rcases h2 with h2 | h2
        ·exact hlv.1 (by simpa[Zzm,hj] using h2) b hbl
        ·exact hlv.2 (by simpa[ZwG,hj] using h2) id b hid hbk hbl
      ·exact hk.elim
     ·exact hk.elim
    ·exact hk.elim
 | can p ih =>
  intro n listed m regs H a w hc hd hp hk;cases n<;>cases m<;>simp[JF] at hp
 | alt i p q ihp ihq =>
  intro n listed m regs H a w hc hd hp hk;cases n with
  | zero=>cases m<;>simp[JF] at hp
  | succ n =>
   obtain ⟨hk1,hk2⟩:(Zt2 ops.toList i λo=>Zx8 Γ (Zyd ops.toList) V regs H o.op (Zt4 Δ Γ ops.toList o regs H λregs' H'=>Zge Δ Γ ops.toList V p false regs' H' K))/\Zge Δ Γ ops.toList V q true regs H K:=by
    cases q with
    | done=>exact ⟨by simpa only[Zge] using hk,trivial⟩
    | _=>simpa only[Zge] using hk
   cases m with
   | none =>
    simp only[JF,Bool.and_eq_true,List.contains_iff_mem] at hp;obtain ⟨⟨hr,hp⟩,hpq⟩:=hp;have h1:=heavy i n listed p regs H a w hc hd hr hp (λregs H a w hc hk=>ihp n _ none regs H a w hc (hd.set hr) hp hk) hk1;have h2:=ihq (n+1) listed (some _) regs H a w hc hd hpq hk2;refine ⟨λh=>(by grind),λj hj=>?_⟩;grind
   | some rem =>
    simp only[JF,Bool.and_eq_true] at hp;obtain ⟨hp,hpq⟩:=hp;have h2:=ihq (n+1) listed (some _) regs H a w hc hd hpq hk2;intro j hj hr;by_cases hji:j=i
    ·subst hji
     exact heavy j n listed p regs H a w hc hd hr hp (λregs H a w hc hk=>ihp n _ none regs H a w hc (hd.set hr) hp hk) hk1
    grind
def ZwU (Δ:Tab) (Γ:Gam) (ops:List Oper) (V:List Nat) (p:VD) (regs:List SV) (H:List Entry) (K:List SV->List Entry->Prop):Prop:=match p with
 | .can p=>Zge Δ Γ ops V p false regs H λregs' H'=>Zp3 H 0 λn=>canonK n regs' H' K
 | p=>Zge Δ Γ ops V p false regs H K
def ZtE:VD->Bool
 | .done=>false
 | .op _ p=>ZtE p
 | .ld _ _=>true
 | .alt _ p q=>ZtE p||ZtE q
 | .can p=>ZtE p
def ZoX:Nat->List Entry->(List Nat->Prop)->Prop
 | _,[],K=>K []
 | n,e::r,K=>ZoX (n+1) r λV=>match e with
  | .box _=>K (n::V)
  | _=>K V
def ZwV (i:Nat):List Nat->(List Nat->Prop)->Prop
 | [],K=>K []
 | j::r,K=>ZwV i r λr'=>match Nat.beq j i with
  | true=>K r'
  | false=>K (j::r')
def Zvf:List SV->Nat->List Nat->(List Nat->Prop)->Prop
 | [],_,V,K=>K V
 | s::_,0,V,K=>match s with
  | .ptr i _=>ZwV i V K
  | _=>K V
 | _::r,n+1,V,K=>Zvf r n V K
def Zus (t:Nat):List Oper->Nat
 | []=>t
 | o::r=>match o.dst,o.op with
  | some d,.move (.tmp t')=>match Nat.beq d t with
   | true=>t'
   | false=>Zus t r
  | _,_=>Zus t r
def Zpe (all:List Oper) (regs:List SV):List Operand->List Nat->(List Nat->Prop)->Prop
 | [],V,K=>K V
 | x::r,V,K=>match x with
  | .tmp t=>Zvf regs (Zus t all) V λV'=>Zpe all regs r V' K
  | _=>Zpe all regs r V K
def ZlB (Γ:Gam) (all:List Oper) (regs:List SV):List Oper->List Nat->(List Nat->Prop)->Prop
 | [],V,K=>K V
 | o::r,V,K=>match Zhs Γ o.op with
  | none=>ZlB Γ all regs r V K
  | some xs=>Zpe all regs xs V λV'=>ZlB Γ all regs r V' K
theorem Zrh (i:Nat):∀ (V:List Nat) {K:List Nat->Prop},ZwV i V K->∃ V',K V'/\∀ id,ZbI id V'=true->ZbI id V=true
 | [],K,h=>⟨[],h,λid h=>h⟩
 | j::r,K,h=>by
  obtain ⟨r',h2,hr⟩:=Zrh i r h;clear h;split at h2
  ·exact ⟨r',h2,λid h=>by unfold ZbI;grind⟩
  ·refine ⟨j::r',h2,λid h=>?_⟩
   unfold ZbI at h ⊢;grind
theorem Zri:∀ (l:List SV) (n:Nat) (V:List Nat) {K:List Nat->Prop},Zvf l n V K->∃ V',K V'/\∀ id,ZbI id V'=true->ZbI id V=true
 | [],_,V,K,h=>⟨V,h,λid h=>h⟩
 | s::_,0,V,K,h=>by
  unfold Zvf at h;split at h
  ·exact Zrh _ V h
  grind
 | _::r,n+1,V,K,h=>Zri r n V h
theorem ZlC (all:List Oper) (regs:List SV):∀ (xs:List Operand) (V:List Nat) {K:List Nat->Prop},Zpe all regs xs V K->∃ V',K V'/\∀ id,ZbI id V'=true->ZbI id V=true
 | [],V,K,h=>⟨V,h,λid h=>h⟩
 | x::r,V,K,h=>by
  unfold Zpe at h;split at h
  ·obtain ⟨V1,h1,a1⟩:=Zri _ _ _ h
   obtain ⟨V2,h2,a2⟩:=ZlC all regs r V1 h1;grind
  ·exact ZlC all regs r V h
theorem ZjR (Γ:Gam) (all:List Oper) (regs:List SV):∀ (l:List Oper) (V:List Nat) {K:List Nat->Prop},ZlB Γ all regs l V K->∃ V',K V'/\∀ id,ZbI id V'=true->ZbI id V=true
 | [],V,K,h=>⟨V,h,λid h=>h⟩
 | o::r,V,K,h=>by
  unfold ZlB at h;split at h
  ·exact ZjR Γ all regs r V h
  ·obtain ⟨V1,h1,a1⟩:=ZlC _ _ _ _ h
   obtain ⟨V2,h2,a2⟩:=ZjR Γ all regs r V1 h1;grind
def Zu9 (Γ:Gam) (ops:List Oper) (regs:List SV) (p:VD) (H:List Entry) (K:List Nat->Prop):Prop:=match ZtE p with
 | false=>K []
 | true=>ZoX 0 H λV=>ZlB Γ ops regs ops V K
theorem ZmV:∀ (H:List Entry) (n:Nat) {K:List Nat->Prop},ZoX n H K->∃ V,K V/\∀ id,ZbI id V=true->n<=id/\∃ cells,H[id-n]?=some (.box cells)
 | [],n,K,h=>⟨[],h,λid hi=>by cases hi⟩
 | e::r,n,K,h=>by
  obtain ⟨V,h2,hV⟩:=ZmV r (n+1) h;clear h;have old:∀ id,ZbI id V=true->n<=id/\∃ cells,(e::r)[id-n]?=some (.box cells):=by
   grind
  split at h2
  ·rename_i cells
   refine ⟨_,h2,λid hi=>?_⟩;unfold ZbI at hi;rcases Bool.or_eq_true _ _▸hi with hq | hq
   all_goals simp_all
  grind
theorem Zva {Γ:Gam} {ops:List Oper} {regs:List SV} {p:VD} {H:List Entry} {K:List Nat->Prop} (h:Zu9 Γ ops regs p H K):∃ V,K V/\∀ id,ZbI id V=true->∃ cells,H[id]?=some (.box cells):=by
 unfold Zu9 at h;split at h
 ·exact ⟨[],h,λid hi=>by cases hi⟩
 ·obtain ⟨V,h,hV⟩:=ZmV H 0 h
  obtain ⟨V',h',hV'⟩:=ZjR Γ ops regs ops V h;grind
theorem Conc.drew {B:Base} {regs:List SV} {H:List Entry} {a:Act} {w:World} (h:Conc B regs H a w):Conc B regs H a {w with drawn:=w.drawn+1}:=by
 obtain ⟨E,hw,hI,hd,hdef⟩:=h;subst hw;have hle:E.le ⟨E.S,{E.w with drawn:=E.w.drawn+1},E.ids⟩:=⟨λb h=>h,λb h=>rfl,λi v h=>h⟩
 refine ⟨⟨E.S,{E.w with drawn:=E.w.drawn+1},E.ids⟩,rfl,?_,ZL hle _ _ hd,hdef⟩
 exact ⟨⟨hI.keeps.os,hI.keeps.tape,hI.keeps.output,hI.keeps.size,hI.keeps.block⟩,hI.Slt,hI.Sold,hI.glob.le hle,hI.len,hI.pin,λi e hi=>ZbS hle i e (λ_ _ _ _ _=>rfl) (hI.ent i e hi),hI.free,hI.sep⟩
theorem Zm1.drew {B:Base} {V:List Nat} {Bk:Nat->Option Nat} {regs:List SV} {H:List Entry} {a:Act} {w:World} (h:Zm1 B V Bk regs H a w):Zm1 B V Bk regs H a {w with drawn:=w.drawn+1}:=by
 obtain ⟨E,hV,hw,hI,hd,hdef⟩:=h;subst hw;have hle:E.le ⟨E.S,{E.w with drawn:=E.w.drawn+1},E.ids⟩:=⟨λb h=>h,λb h=>rfl,λi v h=>h⟩
 refine ⟨⟨E.S,{E.w with drawn:=E.w.drawn+1},E.ids⟩,hV,rfl,?_,ZL hle _ _ hd,hdef⟩
 exact ⟨⟨hI.keeps.os,hI.keeps.tape,hI.keeps.output,hI.keeps.size,hI.keeps.block⟩,hI.Slt,hI.Sold,hI.glob.le hle,hI.len,hI.pin,λi e hi=>ZbS hle i e (λ_ _ _ _ _=>rfl) (hI.ent i e hi),hI.free,hI.sep⟩
theorem VOk.ex (V:List Nat) {B:Base} {E:Env} {H:List Entry} (hI:Inv B E H) (h:∀ id,ZbI id V=true->∃ cells,H[id]?=some (.box cells)):∃ Bk,VOk V Bk E:=by
 refine ⟨λid=>match E.ids[id]? with
  | some (.pointer (some ⟨b,_,_⟩))=>some b
  | _=>none,λid hi=>?_⟩
 obtain ⟨cells,hc⟩:=h id hi;obtain ⟨b,_,_,h1,_⟩:=hI.ent id _ hc;grind
theorem Zvb {Δ:Tab} (hΔ:Δ.ok P) {Γ:Gam} (hΓ:Γ.ok P) {B:Base} {id:Nat} {Q:Exit->Act->World->Prop} (hm:P.follows .mixedOrders=true) {M:List Nat} (hM:ZiG ops.toList []=M) {p:VD} (hs:Zjy ops=true)
  (hp:JF Γ ops M p.core ops.size (Array.replicate ops.size false) none=true) {regs:List SV} {H:List Entry} {a:Act} {w:World} (hc:Conc B regs H a w)
  {K0:List SV->List Entry->Prop} (hk0:Zu9 Γ ops.toList regs p.core H λV=>ZwU Δ Γ ops.toList V p regs H K0)
  (hq0:∀ regs' H' a' w',K0 regs' H'->Conc B regs' H' a' w'->Q .normal a' w'):(Code.region id ops true).wp P Q a w:=by
 obtain ⟨V,hk0,hVb⟩:=Zva hk0;have hpin:∀ (i:Nat) (v:Value),B.pin[i]?=some v->i<H.length:=λi v hi=>by
  obtain ⟨E,_,hI,_⟩:=hc;have:=(List.getElem?_eq_some_iff.1 (hI.pin i v hi)).1;rw[hI.len] at this;exact this
 obtain ⟨K,hk,hq⟩:∃ K:List SV->List Entry->Prop,Zge Δ Γ ops.toList V p.core false regs H K/\∀ regs' H' a' w',K regs' H'->Conc B regs' H' a' w'->Q .normal a' w':=by
  unfold ZwU at hk0;split at hk0
  ·refine ⟨_,hk0,λregs' H' a' w' h hc'=>?_⟩
   rw[JZ,Nat.zero_add] at h;obtain ⟨regs2,H2,h2,hc2⟩:=Zs5 hpin h hc';grind
  ·rename_i hne
   have hc0:p.core=p:=by
    cases p with
    | can q=>grind
    | _=>rfl
   grind
 generalize p.core=p at hp hk;have hcv:∃ Bk,Zm1 B V Bk regs H a w:=by
  obtain ⟨E,hw,hI,hd,hdef⟩:=hc;obtain ⟨Bk,hV⟩:=VOk.ex V hI hVb;exact ⟨Bk,E,hV,hw,hI,hd,hdef⟩
 obtain ⟨Bk,hcv⟩:=hcv;refine Code.wp_mono (Q:=λe a w=>e=.normal/\Q e a w) (λe a w h=>h.2) ?_;refine wp_region_any hm (Zn2 (G:=Leaves Γ ops V Bk) _ _ _ _ ?_);have hMb:∀ i j,ZbJ M i j=true->Behind ops i j:=by
  intro i j h;unfold ZbJ at h;cases hj:M[j]? with
  | none=>simp[hj] at h
  | some m =>
   rw[<-hM] at hj;exact ZnQ ops.toList [] (by simp) (by simp) j m hj i (by
    grind)
 refine Zu8 hMb hΔ hΓ (Q:=λe a w=>e=.normal/\Q e a w) (λc a w h=>by cases h.1) hs (λregs' H' a' w' h1 h2=>⟨rfl,hq regs' H' a' w' h1 h2.ZBT⟩) p ops.size _ none regs H a _ hcv.drew ?_ hp hk;intro j oj e hj hl;have hlt:j<ops.size:=(Array.getElem?_eq_some_iff.1 hj).1;simp[hlt] at hl
end
def writes:Code->List Nat
 | .region _ ops _=>ops.toList.filterMap (·.dst)
 | .seq a b=>writes a++writes b
 | .cond _ a b=>writes a++writes b
 | .block _ c=>writes c
 | .loop c=>writes c
 | .scope c=>writes c
 | _=>[]
def Zt7:List Oper->Bool
 | []=>false
 | o::r=>match o.op,o.guard with
  | .panic _,none=>true
  | _,_=>Zt7 r
structure Ann where
 loops:List (Nat×List Loc):=[]
 draws:List (Nat×List Nat×VD):=[]
def Zvz:List (Nat×List Loc)->Nat->(List Loc->Prop)->Prop
 | [],_,_=>False
 | (n,l)::r,id,K=>if n=id then K l else Zvz r id K
def Zrm:List Nat->(List Nat->Bool)->Bool
 | [],k=>k []
 | x::r,k=>Zrm r λl=>k (x::l)
theorem Zpg:∀ (l:List Nat) (k:List Nat->Bool),Zrm l k=k l
 | [],_=>rfl
 | x::r,k=>by unfold Zrm;exact Zpg r _
def Zxe (Γ:Gam) (ops:Array Oper) (M:List Nat) (p:VD):Bool:=match M with
 | []=>Zrm (ZiG ops.toList []) λM=>JF Γ ops M p.core ops.size (Array.replicate ops.size false) none
 | _=>ZiG ops.toList [] == M&&JF Γ ops M p.core ops.size (Array.replicate ops.size false) none
theorem ZvJ {Γ:Gam} {ops:Array Oper} {M:List Nat} {p:VD} (h:Zxe Γ ops M p=true):JF Γ ops (ZiG ops.toList []) p.core ops.size (Array.replicate ops.size false) none=true:=by
 unfold Zxe at h;split at h
 ·rwa [Zpg] at h
 ·rw[Bool.and_eq_true,beq_iff_eq] at h
  rw[h.1];exact h.2
def ZvA:List (Nat×List Nat×VD)->Nat->(List Nat->VD->Prop)->Prop
 | [],_,_=>False
 | (n,M,l)::r,id,K=>if n=id then K M l else ZvA r id K
theorem ZrD:∀ (A:List (Nat×List Nat×VD)) {id:Nat} {K:List Nat->VD->Prop},ZvA A id K->∃ M l,K M l
 | [],_,_,h=>h.elim
 | (n,M,l)::r,id,K,h=>by
  unfold ZvA at h;split at h
  ·exact ⟨M,l,h⟩
  ·exact ZrD r h
theorem ZrC:∀ (A:List (Nat×List Loc)) {id:Nat} {K:List Loc->Prop},Zvz A id K->∃ l,K l
 | [],_,_,h=>h.elim
 | (n,l)::r,id,K,h=>by
  unfold Zvz at h;split at h
  ·exact ⟨l,h⟩
  ·exact ZrC r h
def ZB2:Loc->Bool
 | .cell id _ _=>Nat.ble 1000 id
 | .cello id _ _=>Nat.ble 1000 id
 | .ent id _ _=>Nat.ble 1000 id
 | .splt id _ _=>Nat.ble 1000 id
 | _=>false
def Zwf:List Loc->Bool
 | []=>false
 | l::r=>match ZB2 l with
  | true=>true
  | false=>Zwf r
def ZvH (id:Nat) (regs:List SV) (H:List Entry) (K:Nat->Prop):Prop :=
 ZkP regs ((id-1000) / 100) λs=>match s with
  | .ptr b o=>Zev H b λen=>match en with
   | .box cs=>ZkP cs (o+(id-1000) % 100) λc=>match c with
    | .own i=>K i
    | _=>False
   | _=>False
  | _=>False
def Zuk (regs:List SV) (H:List Entry) (K:Loc->Prop) (l:Loc):Prop:=match ZB2 l with
 | false=>K l
 | true=>match l with
  | .cell id off t=>ZkP regs (id-1000) λs=>match s with
   | .ptr b o=>K (.cell b (o+off) t)
   | _=>False
  | .cello id off e=>ZkP regs (id-1000) λs=>match s with
   | .ptr b o=>K (.cello b (o+off) e)
   | _=>False
  | .ent id et e=>ZvH id regs H λi=>K (.ent i et e)
  | .splt id et e=>ZvH id regs H λi=>K (.splt i et e)
  | _=>False
def ZvP (regs:List SV) (H:List Entry):List Loc->(List Loc->Prop)->Prop
 | [],K=>K []
 | l::r,K=>Zuk regs H (λl'=>ZvP regs H r λr'=>K (l'::r')) l
def ZBR (ls:List Loc) (regs:List SV) (H:List Entry) (K:List Loc->Prop):Prop:=match Zwf ls with
 | false=>K ls
 | true=>ZvP regs H ls K
theorem Zi6:∀ (cs:List SV) {n:Nat} {K:SV->Prop},ZkP cs n K->∃ s,K s
 | [],_,_,h=>by simp[ZkP] at h
 | s::r,0,_,h=>⟨s,by simpa[ZkP] using h⟩
 | s::r,n+1,_,h=>Zi6 r (by simpa[ZkP] using h)
theorem ZrP {id:Nat} {regs:List SV} {H:List Entry} {K:Nat->Prop} (h:ZvH id regs H K):∃ i,K i:=by
 unfold ZvH at h;obtain ⟨s,h⟩:=Zi6 _ h;split at h
 ·obtain ⟨en,_,h⟩:=YM H h
  split at h
  ·obtain ⟨c,h⟩:=Zi6 _ h
   split at h
   ·exact ⟨_,h⟩
   ·exact h.elim
  ·exact h.elim
 ·exact h.elim
theorem Zul {regs:List SV} {H:List Entry} {K:Loc->Prop} {l:Loc} (h:Zuk regs H K l):∃ l',K l':=by
 unfold Zuk at h;split at h
 ·exact ⟨_,h⟩
 ·split at h
  ·obtain ⟨s,h⟩:=Zi6 _ h
   split at h
   ·exact ⟨_,h⟩
   ·exact h.elim
  ·obtain ⟨s,h⟩:=Zi6 _ h
   split at h
   ·exact ⟨_,h⟩
   ·exact h.elim
  ·obtain ⟨i,h⟩:=ZrP h
   exact ⟨_,h⟩
  ·obtain ⟨i,h⟩:=ZrP h
   exact ⟨_,h⟩
  ·exact h.elim
theorem ZrV {regs:List SV} {H:List Entry}:∀ (ls:List Loc) {K:List Loc->Prop},ZvP regs H ls K->∃ ls',K ls'
 | [],_,h=>⟨[],h⟩
 | l::r,K,h=>by
  obtain ⟨l',h⟩:=Zul (K:=λl'=>ZvP regs H r λr'=>K (l'::r')) h;obtain ⟨r',h⟩:=ZrV r h;exact ⟨_,h⟩
theorem Zx5 {ls:List Loc} {regs:List SV} {H:List Entry} {K:List Loc->Prop} (h:ZBR ls regs H K):∃ ls',K ls':=by
 unfold ZBR at h;split at h
 ·exact ⟨_,h⟩
 ·exact ZrV ls h
def sx (Δ:Tab) (Γ:Gam) (A:Ann):Code->Nat->(Exit->List SV->List Entry->Prop)->List SV->List Entry->Prop
 | .skip,_,Q,regs,H=>Q .normal regs H
 | .label _,_,Q,regs,H=>Q .normal regs H
 | .ret,_,Q,regs,H=>Q .ret regs H
 | .exit id,_,Q,regs,H=>Q (.exit id) regs H
 | .region id ops draw,_,Q,regs,H=>if Zt7 ops.toList=true then Dead else match draw with
  | false=>Zzu Δ Γ ops.toList ops.toList regs H (Q .normal)
  | true=>ZvA A.draws id λM p=>(Zjy ops&&Zxe Γ ops M p)=true/\Zu9 Γ ops.toList regs p.core H λV=>ZwU Δ Γ ops.toList V p regs H (Q .normal)
 | .seq a b,cur,Q,regs,H=>sx Δ Γ A a cur (λe r h=>match e with
  | .normal=>sx Δ Γ A b cur Q r h
  | e=>Q e r h) regs H
 | .cond c a b,cur,Q,regs,H=>Q0 regs c λs=>match s with
  | .blit true=>sx Δ Γ A a cur Q regs H
  | .blit false=>sx Δ Γ A b cur Q regs H
  | .bool p=>(p=true->sx Δ Γ A a cur Q regs H)/\(p=false->sx Δ Γ A b cur Q regs H)
  | _=>False
 | .block id c,_,Q,regs,H=>sx Δ Γ A c id (λe r h=>match e with
  | .exit id'=>if id'=id then Q .normal r h else Q (.exit id') r h
  | e=>Q e r h) regs H
 | .loop c,cur,Q,regs,H=>Zvz A.loops cur λl0=>ZBR l0 regs H λls=>Zfk ls regs H λv0 H0=>Zhh ls (writes c) λW=>Zsx W regs λregs0=>Zk3 ls H0 λH1=>Zp3 H1 0 λn0 =>
   ∃ (I:Zp6 ls->Prop) (μ:Zp6 ls->Nat),I v0/\∀ v,I v->Zo1 ls v regs0 H1 λrh Hh=>sx Δ Γ A c cur (λe r h=>match e with
    | .normal=>Zfk ls r h λv' H2=>Zsx W r λr1=>Zk3 ls H2 λH3=>Zny H3 n0 λH4=>(r1=regs0/\H4=H1)/\I v'/\μ v'<μ v
    | e=>Q e r h) rh Hh
 | _,_,_,_,_=>False
theorem Zhy {p:Nat->Prop} (h:∃ n,p n):∃ n,p n/\∀ m,p m->n<=m:=by
 obtain ⟨n,hn⟩:=h;induction n using Nat.strongRecOn with
 | _ n ih =>
  by_cases hlt:∃ m,m<n/\p m
  ·obtain ⟨m,hm,hp⟩:=hlt;exact ih m hm hp
  ·exact ⟨n,hn,λm hm=>Nat.le_of_not_lt λhlt'=>hlt ⟨m,hlt',hm⟩⟩
theorem ZuQ {P:Program} {c:Code} {Q:Exit->Act->World->Prop} (J:Nat->Act->World->Prop)
  (round:∀ n a w,J n a w->c.wp P (Exit.then (λa' w'=>∃ m,m<n/\J m a' w') Q) a w) {n:Nat} {a:Act} {w:World} (h:J n a w):(Code.loop c).wp P Q a w:=by
 classical
 let μ:Act->World->Nat:=λa w=>if h:∃ n,J n a w then Classical.choose (Zhy h) else 0
 have hμ:∀ a w (h:∃ n,J n a w),J (μ a w) a w/\∀ m,J m a w->μ a w<=m:=by
  intro a w h;have:μ a w=Classical.choose (Zhy h):=by simp only[μ,dif_pos h]
  rw[this];exact Classical.choose_spec (Zhy h)
 refine wp_loop (λa w=>∃ n,J n a w) μ ⟨n,h⟩ (λa w hJ=>?_);have h1:=(hμ a w hJ).1;refine Code.wp_mono ?_ (round _ a w h1);intro e a' w' hq;cases e with
 | normal =>
  obtain ⟨m,hm,hJm⟩:=hq;exact ⟨⟨m,hJm⟩,Nat.lt_of_le_of_lt ((hμ a' w' ⟨m,hJm⟩).2 m hJm) hm⟩
 | _=>exact hq
theorem ZeL {B:Base} {E:Env}:∀ (ls:List Loc) {H:List Entry} (_:Inv B E H) {gs:List Nat} (_:Loose B E H gs) {K:List Entry->Prop} (_:Zk3 ls H K),
  ∃ H',Inv B E H'/\Loose B E H' gs/\K H'/\Boxed H H'
 | [],H,hI,gs,hL,K,hk=>⟨H,hI,hL,hk,Boxed.refl H⟩
 | .reg _ _::q,H,hI,gs,hL,K,hk=>ZeL q hI hL hk
 | .ent _ _ _::q,H,hI,gs,hL,K,hk=>ZeL q hI hL hk
 | .entm _ _ _::q,H,hI,gs,hL,K,hk=>ZeL q hI hL hk
 | .splt _ _ _::q,H,hI,gs,hL,K,hk=>ZeL q hI hL hk
 | .cell id off t::q,H,hI,gs,hL,K,hk=>by
  simp only[Zk3] at hk;obtain ⟨e,he,hk⟩:=YM H hk;split at hk
  ·rename_i cells
   rw[ZcL,Y0] at hk;have hI1:=hI.weaken (cells':=cells.set off .bot) he (λ_ _ _ _ _ hd=>ZkD hd off);obtain ⟨H',h1,h2,h3,h4⟩:=ZeL q hI1 (hL.ZjG he) hk;exact ⟨H',h1,h2,h3,(Boxed.ZjG he).trans h4⟩
  ·exact hk.elim
 | .cello id off e0::q,H,hI,gs,hL,K,hk=>by
  simp only[Zk3] at hk;obtain ⟨e,he,hk⟩:=YM H hk;split at hk
  ·rename_i cells
   rw[ZcL,Y0] at hk;have hI1:=hI.weaken (cells':=cells.set off .bot) he (λ_ _ _ _ _ hd=>ZkD hd off);obtain ⟨H',h1,h2,h3,h4⟩:=ZeL q hI1 (hL.ZjG he) hk;exact ⟨H',h1,h2,h3,(Boxed.ZjG he).trans h4⟩
  ·exact hk.elim
theorem ZcG:∀ (ls:List Loc) {W:List Nat} {K:List Nat->Prop},Zhh ls W K->∃ W',K W'
 | [],W,K,h=>⟨W,h⟩
 | .reg r _::q,W,K,h=>by obtain ⟨W',h⟩:=ZcG q h;exact ⟨_,h⟩
 | .cell _ _ _::q,W,K,h=>ZcG q h
 | .cello _ _ _::q,W,K,h=>ZcG q h
 | .ent _ _ _::q,W,K,h=>ZcG q h
 | .entm _ _ _::q,W,K,h=>ZcG q h
 | .splt _ _ _::q,W,K,h=>ZcG q h
theorem Znx {P:Program} {Δ:Tab} (hΔ:Δ.ok P) {Γ:Gam} (hΓ:Γ.ok P) (A:Ann) (hm:P.follows .mixedOrders=true) {B:Base}:∀ (c:Code) (cur:Nat) (Q:Exit->List SV->List Entry->Prop) {regs:List SV} {H:List Entry} (_:sx Δ Γ A c cur Q regs H)
  {a:Act} {w:World} (_:Conc B regs H a w) (R:Exit->Act->World->Prop) (_:∀ e regs' H' a' w',Q e regs' H'->Conc B regs' H' a' w'->R e a' w'),c.wp P R a w
 | .skip,_,Q,regs,H,h,a,w,hc,R,hR=>wp_skip (hR _ _ _ _ _ h hc)
 | .label _,_,Q,regs,H,h,a,w,hc,R,hR=>wp_label (hR _ _ _ _ _ h hc)
 | .ret,_,Q,regs,H,h,a,w,hc,R,hR=>wp_ret (hR _ _ _ _ _ h hc)
 | .exit id,_,Q,regs,H,h,a,w,hc,R,hR=>wp_exit (hR _ _ _ _ _ h hc)
 | .region id ops draw,_,Q,regs,H,h,a,w,hc,R,hR=>by
  simp only[sx] at h;split at h
  ·exact h.no.elim
  split at h
  ·exact wp_region_list (Zt6 hΔ hΓ ops ops.toList hc h (λregs' H' a' w' hq hc'=>hR _ _ _ _ _ hq hc'))
  ·obtain ⟨M,p,h⟩:=ZrD _ h
   obtain ⟨hb,h⟩:=h;rw[Bool.and_eq_true] at hb;exact Zvb hΔ hΓ hm rfl hb.1 (ZvJ hb.2) hc h (λregs' H' a' w' hq hc'=>hR _ _ _ _ _ hq hc')
 | .seq x y,cur,Q,regs,H,h,a,w,hc,R,hR=>by
  simp only[sx] at h;refine wp_seq (Znx hΔ hΓ A hm x cur _ h hc _ ?_);intro e regs' H' a' w' hq hc';cases e with
  | normal=>exact Znx hΔ hΓ A hm y cur Q hq hc' R hR
  | _=>exact hR _ _ _ _ _ hq hc'
 | .cond c x y,cur,Q,regs,H,h,a,w,hc,R,hR=>by
  simp only[sx] at h;obtain ⟨E,hw,hI,hd,hdef⟩:=hc;obtain ⟨s,hs,h⟩:=Ym hd h;split at h
  ·simp only[den] at hs
   exact wp_cond_true hs (Znx hΔ hΓ A hm x cur Q h ⟨E,hw,hI,hd,hdef⟩ R hR)
  ·simp only[den] at hs
   exact wp_cond_false hs (Znx hΔ hΓ A hm y cur Q h ⟨E,hw,hI,hd,hdef⟩ R hR)
  ·simp only[den] at hs
   exact wp_cond_split hs (λe=>Znx hΔ hΓ A hm x cur Q (h.1 e) ⟨E,hw,hI,hd,hdef⟩ R hR) (λe=>Znx hΔ hΓ A hm y cur Q (h.2 e) ⟨E,hw,hI,hd,hdef⟩ R hR)
  ·exact h.elim
 | .block id c,cur,Q,regs,H,h,a,w,hc,R,hR=>by
  simp only[sx] at h;refine wp_block (Znx hΔ hΓ A hm c id _ h hc _ ?_);intro e regs' H' a' w' hq hc';cases e with
  | exit id' =>
   simp only at hq;simp only[Exit.inBlock];split at hq
   ·rename_i e;rw[if_pos e];exact hR _ _ _ _ _ hq hc'
   ·rename_i e;rw[if_neg e];exact hR _ _ _ _ _ hq hc'
  | _=>exact hR _ _ _ _ _ hq hc'
 | .loop c,cur,Q,regs,H,h,a,w,hc,R,hR=>by
  simp only[sx] at h;obtain ⟨l0,h⟩:=ZrC A.loops h;obtain ⟨ls,h⟩:=Zx5 h;obtain ⟨E,hw,hI,hd,hdef⟩:=hc;obtain ⟨E0,H0,v0,g0,hw0,hid0,hI0,hle0,h,hl0,hL0,hb0⟩:=ZdP ls hI hd [] (Loose.none _ _ _) h;rw[List.append_nil] at hL0;obtain ⟨W,h⟩:=ZcG ls h;obtain ⟨regs0,hd0,h⟩:=ZoD W regs _ (ZL hle0 _ _ hd) h;obtain ⟨H1,hI1,hL1,h,hbox1⟩:=ZeL ls hI0 hL0 h;rw[JZ,Nat.zero_add] at h;obtain ⟨I,μ,hI0v,hround⟩:=h;have hl1:=Jd rfl (λ_ h=>h) (λ_ _ h=>h) hbox1 ls v0 g0 hl0
  let Q':Zp6 ls->Exit->List SV->List Entry->Prop:=λv e r h=>match e with
    | .normal=>Zfk ls r h λv' H2=>Zsx W r λr1=>Zk3 ls H2 λH3=>Zny H3 H1.length λH4=>(r1=regs0/\H4=H1)/\I v'/\μ v'<μ v
    | e=>Q e r h
  let J:Nat->Act->World->Prop:=λn a w=>∃ v rh Hh,I v/\μ v=n/\Conc B rh Hh a w/\sx Δ Γ A c cur (Q' v) rh Hh
  have start:J (μ v0) a w:=by
   obtain ⟨E',Hh,rh,hw',hI',hd',hk⟩:=ZfL ls v0 hI1 hd0 g0 hl1 hL1 (hround v0 hI0v);exact ⟨v0,rh,Hh,hI0v,rfl,⟨E',by rw[hw',hw0,hw],hI',hd',hdef⟩,hk⟩
  have rng:Zbm H1.length regs0:=by have:=Vn _ _ hd0;rwa [hI1.len] at this
  have erng:∀ e∈H1,Zqg H1.length e:=by
   intro e he;obtain ⟨i,hi⟩:=List.mem_iff_getElem?.1 he;have:=Zqf (hI1.ent i e hi)
   rwa [hI1.len] at this
  refine ZuQ J ?_ start;rintro n a1 w1 ⟨v,rh,Hh,hIv,hμ,hc1,hsx⟩;subst hμ;refine Znx hΔ hΓ A hm c cur (Q' v) hsx hc1 _ ?_;intro e r' H' a' w' hq hc';cases e with
  | normal =>
   obtain ⟨E2,hw2,hI2,hd2,hdef2⟩:=hc';obtain ⟨E3,H3,v',g3,hw3,hid3,hI3,hle3,hq,hl3,hL3,hb3⟩:=ZdP ls hI2 hd2 [] (Loose.none _ _ _) hq;rw[List.append_nil] at hL3;obtain ⟨r1,hd3,hq⟩:=ZoD W r' _ (ZL hle3 _ _ hd2) hq;obtain ⟨H4,hI4,hL4,hq,hbox4⟩:=ZeL ls hI3 hL3 hq;rw[ZfY] at hq;obtain ⟨⟨hr1,hH4⟩,hIv',hlt⟩:=hq;have hpin:B.pin.length<=H1.length:=by
    rcases Nat.eq_zero_or_pos B.pin.length with h0 | h0
    ·omega
    ·have hlast:B.pin[B.pin.length-1]?=some (B.pin[B.pin.length-1]'(by omega)):=List.getElem?_eq_getElem _
     have:=(List.getElem?_eq_some_iff.1 (hI1.pin _ _ hlast)).1;rw[hI1.len] at this;omega
   have hI5:=hI4.trunc H1.length hpin (by rw[hH4];exact erng);rw[hH4] at hI5;have hd5:=Jq (n:=H1.length) _ _ (by rw[hr1];exact rng) hd3;rw[hr1] at hd5;have hl4:=Jd rfl (λ_ h=>h) (λ_ _ h=>h) hbox4 ls v' g3 hl3;obtain ⟨p1,p2,p3⟩:=ZaS ls v0 g0 hl1;have hl5:QS B ⟨E3.S,E3.w,E3.ids.take H1.length⟩ H1 _ ls v' g3:=Vk (E:=E3) (E':=⟨E3.S,E3.w,E3.ids.take H1.length⟩) (H':=H1) rfl (λ_ h=>h) (λi u hi hu=>by
    show (E3.ids.take H1.length)[i]?=some u;rw[List.getElem?_take,if_pos hi];exact hu) (λi c hi hlt=>by
     rw[<-hH4,List.getElem?_take,if_pos hlt];exact ⟨c,hi⟩) (λi c hi=>by
     rw[<-hH4,List.getElem?_take] at hi;split at hi
     ·exact ⟨c,hi⟩
     ·cases hi) ls v' g3 p1 p2 p3 hl4
   have hL5:Loose B ⟨E3.S,E3.w,E3.ids.take H1.length⟩ H1 g3:=⟨hL4.nodup,hL4.free,λg hg j ej vj hj hlv hv hb=>by
    have hj4:H4[j]?=some ej:=by
     rw[<-hH4,List.getElem?_take] at hj;split at hj
     ·exact hj
     ·cases hj
    have hv4:E3.ids[j]?=some vj:=by
     have hv':(E3.ids.take H1.length)[j]?=some vj:=hv;rw[List.getElem?_take] at hv';split at hv'
     ·exact hv'
     ·cases hv'
    exact hL4.apart g hg j ej vj hj4 hlv hv4 hb⟩
   obtain ⟨E',Hh',rh',hw',hI',hd',hk⟩:=ZfL ls v' hI5 hd5 g3 hl5 hL5 (hround v' hIv');exact ⟨μ v',hlt,v',rh',Hh',hIv',rfl,⟨E',by rw[hw'];show E3.w=w';rw[hw3,hw2],hI',hd',hdef2⟩,hk⟩
  | _=>exact hR _ _ _ _ _ hq hc'
 | .rangeFunc _ _ _ _,_,Q,regs,H,h,a,w,hc,R,hR=>by simp only[sx] at h
 | .scope _,_,Q,regs,H,h,a,w,hc,R,hR=>by simp only[sx] at h
 | .goto _,_,Q,regs,H,h,a,w,hc,R,hR=>by simp only[sx] at h
 | .refuse _,_,Q,regs,H,h,a,w,hc,R,hR=>by simp only[sx] at h
def ZpY:Nat->List SV->(List SV->Prop)->Prop
 | 0,l,K=>K l
 | n+1,l,K=>ZpY n (.tup []::l) K
theorem ZmU:∀ (n:Nat) (l:List SV) (K:List SV->Prop),ZpY n l K=K (List.replicate n (.tup [])++l)
 | 0,_,_=>rfl
 | n+1,l,K=>by
  simp only[ZpY,ZmU n];congr 1;rw[List.replicate_succ',List.append_assoc];rfl
def ZvQ (Δ:Tab):List ResultVar->List SV->List Entry->(List SV->Prop)->Prop
 | [],_,_,K=>K []
 | .tmp t::r,regs,H,K=>ZkP regs t λs=>ZvQ Δ r regs H λss=>K (s::ss)
 | .cell a T::r,regs,H,K=>ZkP regs a λsa=>ZaV Δ T λti=>Zsq ti sa H λs=>ZvQ Δ r regs H λss=>K (s::ss)
def Zh5:(l:List Sh)->List SV->List Entry->(Ios l->Prop)->Prop
 | [],_,_,K=>K ()
 | .io e::r,ss,H,K=>match ss with
  | .ptr id 0::ss=>Zev H id λen=>match en with
   | .box cells=>Zfm H id .gone λH0=>closeAll e cells H0 λd H1=>Zh5 r ss H1 λds=>K (d,ds)
   | _=>False
  | _=>False
 | .back e::r,ss,H,K=>match ss with
  | s::ss=>if s.whole=true then closeAll e s.cells H λd H1=>Zh5 r ss H1 λds=>K (d,ds) else False
  | _=>False
 | .dat _::r,ss,H,K=>match ss with
  | _::ss=>Zh5 r ss H K
  | _=>False
 | .own _::r,ss,H,K=>match ss with
  | _::ss=>Zh5 r ss H K
  | _=>False
def Zzv (Δ:Tab) (C:Ctr) (res:List ResultVar) (ss0 regs:List SV) (H:List Entry) (K:Shs C.rets->Ios C.args->Prop):Prop :=
 ZvQ Δ res regs H λss=>ZkO C.rets ss H λrs H1=>Zh5 C.args ss0 H1 λios=>K rs ios
def fnK (Δ:Tab) (Γ:Gam) (A:Ann) (C:Ctr) (fn:Func) (as:Shs C.args) (K:Shs C.rets->Ios C.args->Prop):Prop :=
 match fn.body with
 | none=>False
 | some c=>Zkr C.args as [] λss H=>Zp3 ss 0 λn=>ZpY (fn.ntmps-n) [] λus=>Zn7 ss us λregs =>
  sx Δ Γ A c 0 (λe regs' H'=>match e with
   | .normal=>Zzv Δ C fn.results.toList ss regs' H' K
   | .ret=>Zzv Δ C fn.results.toList ss regs' H' K
   | _=>False) regs H
def Zxk (tmps:Array Value):ResultVar->Sem Value
 | .tmp t=>pure (tmps.getD t undef)
 | .cell a t=>asAddr (tmps.getD a undef) >>= λp=>loadVar t p
theorem ZoN {P:Program} {Δ:Tab} (hΔ:Δ.ok P) {B:Base} {E:Env} {H:List Entry} (hI:Inv B E H) {regs:List SV} {tmps:Array Value} (hd:Z7 E regs tmps.toList):∀ (l:List ResultVar) {K:List SV->Prop} (_:ZvQ Δ l regs H K),
  ∃ ss us,(l.mapM (Zxk tmps)).run P E.w=.ok us E.w/\Z7 E ss us/\K ss
 | [],K,hk=>⟨[],[],rfl,trivial,hk⟩
 | .tmp t::r,K,hk=>by
  simp only[ZvQ] at hk;obtain ⟨s,v,hv,hs,hk,_⟩:=JJ _ _ hd hk;obtain ⟨ss,us,h1,h2,h3⟩:=ZoN hΔ hI hd r hk;have hv':tmps.getD t undef=v:=by
   simp_all
  refine ⟨s::ss,v::us,?_,⟨hs,h2⟩,h3⟩;rw[List.mapM_cons,Sem.run_bind,Zxk,hv',Sem.run_pure,Result.andThen_ok,Sem.run_bind,h1];rfl
 | .cell a T::r,K,hk=>by
  simp only[ZvQ] at hk;obtain ⟨sa,va,hv,hs,hk,_⟩:=JJ _ _ hd hk;obtain ⟨ti,ht,hk⟩:=Y2 Δ hΔ hk;obtain ⟨u,s,h0,hu,hk⟩:=ZrB hI ht hs hk;have h0:=h0.here;obtain ⟨ss,us,h1,h2,h3⟩:=ZoN hΔ hI hd r hk;have hv':tmps.getD a undef=va:=by
   simp_all
  have hptr:∃ p,va=.pointer (some p):=by
   cases va with
   | pointer p=>cases p with
    | some p=>exact ⟨p,rfl⟩
    | none=>simp[Instr.loadAt,Instr.sureAddr] at h0
   | _=>simp[Instr.loadAt,Instr.sureAddr] at h0
  obtain ⟨p,rfl⟩:=hptr;have h0':(loadVar T p).run P E.w=.ok u E.w:=by simpa[Instr.loadAt,Instr.sureAddr] using h0
  refine ⟨s::ss,u::us,?_,⟨hu,h2⟩,h3⟩;rw[List.mapM_cons,Sem.run_bind,Zxk,hv',asAddr,pure_bind,h0',Result.andThen_ok,Sem.run_bind,h1];rfl
theorem ZsF (fn:Func) (tmps:Array Value):results fn tmps=(fn.results.mapM (Zxk tmps) >>= λvs=>pure (if h:vs.size=1 then vs[0] else .tuple vs)):=by
 have e:(λx=>match x with
  | ResultVar.tmp t=>pure (tmps.getD t undef)
  | ResultVar.cell a t=>do loadVar t (<-asAddr (tmps.getD a undef)):ResultVar->Sem Value)=Zxk tmps:=by
  funext x;cases x<;>rfl
 rw[<-e];rfl
theorem Zmz {P:Program} {fn:Func} {tmps:Array Value} {us:List Value} {w:World} (h:(fn.results.toList.mapM (Zxk tmps)).run P w=.ok us w) :
  ∃ v,(results fn tmps).run P w=.ok v w/\retv us v:=by
 have h':(fn.results.mapM (Zxk tmps)).run P w=.ok us.toArray w:=by
  rw[<-Array.toArray_toList (xs:=fn.results),List.mapM_toArray]
  simp_all
 rw[ZsF,Sem.run_bind,h',Result.andThen_ok];unfold retv
 match us with
 | [u]=>simp_all
 | []=>simp_all
 | a::b::r=>simp_all
theorem Zha {B:Base}:∀ (l:List Sh) (ss:List SV) {E:Env} {H:List Entry} (_:Inv B E H) {vs:List Value} (_:Z7 E ss vs) (_:∃ (S:Nat->Prop) (w:World) (as:Shs l) (fp:List Nat),Zcf S w l as vs fp) {gs:List Nat} (_:Loose B E H gs) {K:Ios l->Prop} (_:Zh5 l ss H K),
  ∃ E1 H1 ios fio,Frz E H E1 H1/\Inv B E1 H1/\Zfd E1.S E1.w l ios vs fio/\K ios/\Loose B E1 H1 (fio++gs)
 | [],ss,E,H,hI,vs,hd,hf,gs,hL,K,hk=>⟨E,H,(),[],Frz.refl E H,hI,rfl,hk,hL⟩
 | .io e::r,ss,E,H,hI,vs,hd,⟨S,w,as,fp,v,vr,f0,fr,ev,_,hsh,hrest⟩,gs,hL,K,hk=>by
  simp only[Zh5] at hk;subst ev;split at hk
  ·rename_i id ss
   simp only[Z7] at hd;obtain ⟨en,he,hk⟩:=YM H hk;split at hk
   ·rename_i cells
    rw[Y0] at hk;have hv:=hd.1;simp only[den] at hv;obtain ⟨b,hb0,hv⟩:=hv;obtain ⟨b',cs0,T,e1,e2,e3⟩:=hI.ent id _ he;have:=hb0.symm.trans e1;simp at this;subst this;have t1:Frz E H E (H.set id .gone):=Frz.one he rfl hb0 rfl (Env.le.refl E) (λb hb=>.inl hb);have t3:=hL.take hI he rfl hb0 (f:=[b]) (by simp) (λg hg=>by
     simp at hg;subst hg;rfl)
    obtain ⟨E1,H1,d,f,hf1,hI1,hr,hk,hL1,hT,_⟩:=X6 (hI.drop id) e3 t3 hk;obtain ⟨E2,H2,ios,fio,hf2,hI2,hio,hk,hL2⟩:=Zha r ss hI1 (ZL hf1.le _ _ hd.2) ⟨S,w,as.2,fr,hrest⟩ hL1 hk;refine ⟨E2,H2,(d,ios),(b::f)++fio,(t1.trans hf1).trans hf2,hI2,⟨v,vr,b::f,fio,rfl,rfl,⟨b,cs0,T,f,hv,by rw[hf2.w,hf1.w];exact e2,?_,rfl⟩,hio⟩,hk,hL2.perm ?_⟩
    ·exact Yu hf2.le.S hf2.le.w e _ _ _ (λg _=>by rw[hf2.w]) hr
    grind
   ·exact hk.elim
  ·exact hk.elim
 | .back e::r,ss,E,H,hI,vs,hd,⟨S,w,as,fp,v,vr,f0,fr,ev,_,hsh,hrest⟩,gs,hL,K,hk=>by
  simp only[Zh5] at hk;subst ev;split at hk
  ·rename_i s ss
   simp only[Z7] at hd;split at hk
   ·rename_i hw
    obtain ⟨E1,H1,d,f,hf1,hI1,hr,hk,hL1,hT,_⟩:=X6 hI (Vb hd.1 hw) hL hk;obtain ⟨E2,H2,ios,fio,hf2,hI2,hio,hk,hL2⟩:=Zha r ss hI1 (ZL hf1.le _ _ hd.2) ⟨S,w,as.2,fr,hrest⟩ hL1 hk;refine ⟨E2,H2,(d,ios),f++fio,hf1.trans hf2,hI2,⟨v,vr,f,fio,rfl,rfl,⟨hsh.1,?_⟩,hio⟩,hk,hL2.perm ?_⟩
    ·exact Yu hf2.le.S hf2.le.w e _ _ _ (λg _=>by rw[hf2.w]) hr
    grind
   ·exact hk.elim
  ·exact hk.elim
 | .dat _::r,ss,E,H,hI,vs,hd,⟨S,w,as,fp,v,vr,f0,fr,ev,_,hsh,hrest⟩,gs,hL,K,hk=>by
  simp only[Zh5] at hk;subst ev;split at hk
  ·simp only[Z7] at hd
   obtain ⟨E2,H2,ios,fio,hf2,hI2,hio,hk,hL2⟩:=Zha r _ hI hd.2 ⟨S,w,as.2,fr,hrest⟩ hL hk;exact ⟨E2,H2,ios,fio,hf2,hI2,⟨v,vr,rfl,hio⟩,hk,hL2⟩
  ·exact hk.elim
 | .own _::r,ss,E,H,hI,vs,hd,⟨S,w,as,fp,v,vr,f0,fr,ev,_,hsh,hrest⟩,gs,hL,K,hk=>by
  simp only[Zh5] at hk;subst ev;split at hk
  ·simp only[Z7] at hd
   obtain ⟨E2,H2,ios,fio,hf2,hI2,hio,hk,hL2⟩:=Zha r _ hI hd.2 ⟨S,w,as.2,fr,hrest⟩ hL hk;exact ⟨E2,H2,ios,fio,hf2,hI2,⟨v,vr,rfl,hio⟩,hk,hL2⟩
  ·exact hk.elim
theorem ZjI {w:World} {S:Nat->Prop}:∀ (l:List Sh) (d:Shs l) (vs:List Value) (fp:List Nat),Zcf S w l d vs fp->l.length=vs.length
 | [],_,_,_,h=>by rw[h.1];rfl
 | _::r,d,_,_,⟨v,vr,f,fr,e,_,_,h⟩=>by subst e;simp[ZjI r d.2 vr fr h]
theorem Inv.more {B:Base} {E:Env} {H:List Entry} (h:Inv B E H) (hB:∀ b,B.S b->b<B.w.heap.size/\¬B.io b):Inv B ⟨λb=>E.S b\/B.S b,E.w,E.ids⟩ H/\E.le ⟨λb=>E.S b\/B.S b,E.w,E.ids⟩:=by
 have hle:E.le ⟨λb=>E.S b\/B.S b,E.w,E.ids⟩:=⟨λ_ h=>.inl h,λ_ _=>rfl,λ_ _ h=>h⟩;exact ⟨
  {keeps:=h.keeps
   Slt:=λb hb=>hb.elim (h.Slt b) (λhb=>Nat.lt_of_lt_of_le (hB b hb).1 h.keeps.size)
   Sold:=λb hb hlt=>hb.elim (λhb=>h.Sold b hb hlt) .inl
   glob:=h.glob.le hle,len:=h.len,pin:=h.pin
   ent:=λi e hi=>ZbS hle i e (λ_ _ _ _ _=>rfl) (h.ent i e hi)
   free:=λi e v g hi hl hv hb=>by
    obtain ⟨a,b,c⟩:=h.free i e v g hi hl hv hb;grind
   sep:=h.sep},hle⟩
theorem Zf {P:Program} {Δ:Tab} (hΔ:Δ.ok P) {Γ:Gam} (hΓ:Γ.ok P) (hm:P.follows .mixedOrders=true) (A:Ann) {f:FuncId} {fn:Func} (hf:P.funcs[f]?=some fn) (hname:(fn.name == "runtime.NumGoroutine")=false:=by kernel_rfl) (hbody:fn.body.isNone=false:=by kernel_rfl) {C:Ctr}
  (hvc:∀ (as:Shs C.args) (K:Shs C.rets->Ios C.args->Prop),C.tr as K->fnK Δ Γ A C fn as K):Za P f C:=by
 refine ⟨⟨fn,hf,hname,hbody⟩,?_⟩;intro w S vs as fp K hSlt hG has hnd hpriv hK;have hk:=hvc as K hK;unfold fnK at hk;split at hk
 ·exact hk.elim
 ·rename_i c hbody'
  let B0:Base:=⟨w,S,λb=>b∈fp,[]⟩
  have hI0:Inv B0 ⟨S,w,[]⟩ [] :=
   {keeps:=⟨rfl,rfl,rfl,Nat.le_refl _,λ_ _ _=>rfl⟩
    Slt:=hSlt
    Sold:=λb hb _=>.inl hb
    glob:=hG
    len:=rfl
    pin:=λ_ _ h=>h
    ent:=λi e hi=>by simp at hi
    free:=λi e v g hi=>by simp at hi
    sep:=λi j ei ej vi vj g hi=>by simp at hi}
  have hL0:Loose B0 ⟨S,w,[]⟩ [] (fp++[]):=by
   rw[List.append_nil];exact ⟨hnd,λg hg=>⟨(hpriv g hg).1,.inr hg,(hpriv g hg).2⟩,λg _ j e v hj=>by simp at hj⟩
  obtain ⟨E1,H1,ss,hw1,hS1,hI1,hle1,hd1,hk⟩:=ZhE (E:=⟨S,w,[]⟩) C.args as vs hI0 has hL0 hk;rw[JZ,ZmU,VZ,Nat.zero_add,List.append_nil] at hk;have hl:=YC _ _ hd1
  let B:Base:=⟨w,S,λb=>b∈fp,E1.ids⟩
  have hI:Inv B E1 H1 :=
   {keeps:=⟨hI1.keeps.os,hI1.keeps.tape,hI1.keeps.output,hI1.keeps.size,hI1.keeps.block⟩
    Slt:=hI1.Slt,Sold:=hI1.Sold,glob:=hI1.glob,len:=hI1.len,pin:=λ_ _ h=>h,ent:=hI1.ent,free:=hI1.free,sep:=hI1.sep}
  refine calls_of_wp hf hbody' ?_;have hdens:Z7 E1 (ss++List.replicate (fn.ntmps-ss.length) (.tup [])) (vs.toArray++Array.replicate (fn.ntmps-vs.toArray.size) undef).toList:=by
   rw[Array.toList_append,Array.toList_replicate,List.toList_toArray,List.size_toArray,hl];refine V4 _ _ hd1 _ _ ?_;have:∀ n,Z7 E1 (List.replicate n (.tup [])) (List.replicate n undef):=by
    intro n;induction n with
    | zero=>trivial
    | succ n ih=>exact ⟨by simp only[den];exact ⟨[],rfl,trivial⟩,ih⟩
   exact this _
  rw[<-show E1.w=w from hw1];refine Znx hΔ hΓ A hm c 0 _ hk (B:=B) ⟨_,rfl,hI,hdens,rfl⟩ _ ?_;intro e regs' H' a' w' hq hc';obtain ⟨E2,hw2,hI2,hd2,hdef2⟩:=hc';subst hw2;rw[show E1.w=w from hw1];have fin:Zzv Δ C fn.results.toList ss regs' H' K->bodyPost P fn (λe w'=>∃ v us rs ios S' fr fio,e=.returned v/\retv us v/\K rs ios/\Keeps ⟨w,S,λb=>b∈fp,[]⟩ w'/\(∀ b,S b->S' b)/\
    (∀ b,S' b->b<w'.heap.size/\(b<w.heap.size->S b\/b∈fp))/\Zcf S' w' C.rets rs us fr/\Zfd S' w' C.args ios vs fio/\
    (fio++fr).Nodup/\∀ g∈fio++fr,¬S' g/\g<w'.heap.size/\(w.heap.size<=g\/g∈fp)) .ret a' E2.w:=by
   intro hq;unfold Zzv at hq;have hBS:∀ b,B.S b->b<B.w.heap.size/\¬B.io b:=λb hb=>⟨hSlt b hb,λhio=>(hpriv b hio).1 hb⟩;obtain ⟨hI3,hle3⟩:=hI2.more hBS;obtain ⟨ss',us,hrun,hds,hq⟩:=ZoN hΔ hI3 (ZL hle3 _ _ hd2) _ hq;have hle0:E1.le ⟨λb=>E2.S b\/B.S b,E2.w,E2.ids⟩:=by
    refine ⟨λb hb=>.inr (by grind),λb hb=>?_,λi v hv=>hI2.pin i v hv⟩;have hb':S b:=by grind
    rw[hw1];exact hI2.keeps.block b (hSlt b hb') (λhio=>(hpriv b hio).1 hb')
   have hss:=ZL hle0 _ _ hd1;obtain ⟨E4,H4,rs,fr,hf4,hI4,hrs,hq,hL4,_⟩:=Zht C.rets ss' hI3 hds (Loose.none _ _ _) hq;obtain ⟨E5,H5,ios,fio,hf5,hI5,hio,hq,hL5⟩:=Zha C.args ss hI4 (ZL hf4.le _ _ hss) ⟨S,w,as,fp,has⟩ hL4 hq;rw[List.append_nil] at hL5;obtain ⟨v,hv,hret⟩:=Zmz hrun;have hww:E5.w=E2.w:=by rw[hf5.w,hf4.w]
   refine bodyPost_ret hv hdef2 ⟨v,us,rs,ios,E5.S,fr,fio,rfl,hret,hq,?_,λb hb=>hf5.le.S b (hf4.le.S b (.inr hb)),?_,?_,?_,hL5.nodup,?_⟩
   ·have:=hI2.keeps
    exact ⟨this.os,this.tape,this.output,this.size,this.block⟩
   ·intro b hb
    exact ⟨by rw[<-hww];exact hI5.Slt b hb,λhlt=>hI5.Sold b hb hlt⟩
   ·show Zcf E5.S E2.w C.rets rs us fr
    rw[<-hww];exact ZpN hf5.le _ _ _ _ (λg _=>by rw[hf5.w]) hrs
   ·grind
   ·intro g hg
    obtain ⟨a1,a2,a3⟩:=hL5.free g hg;grind
  cases e with
  | normal=>exact fin hq
  | ret=>exact fin hq
  | _=>exact hq.elim
def ZA4 (Δ:Tab) (Γ:Gam) (A:Ann) (fn:Func) (ss:List SV) (H:List Entry) (K:SV->List Entry->Prop):Prop :=
 match fn.body with
 | none=>False
 | some c=>Zp3 ss 0 λn=>ZpY (fn.ntmps-n) [] λus=>Zn7 ss us λregs =>
  sx Δ Γ A c 0 (λe regs' H'=>match e with
   | .normal=>ZvQ Δ fn.results.toList regs' H' λss'=>ZpC ss' λs=>K s H'
   | .ret=>ZvQ Δ fn.results.toList regs' H' λss'=>ZpC ss' λs=>K s H'
   | _=>False) regs H
def ZA3 (Δ:Tab) (Γ:Gam) (A:Ann) (fn:Func):Cal:=⟨ZA4 Δ Γ A fn,false,none⟩
theorem ZnI {P:Program} {Δ:Tab} (hΔ:Δ.ok P) {Γ:Gam} (hΓ:Γ.ok P) (hm:P.follows .mixedOrders=true) (A:Ann) {f:FuncId} {fn:Func} (hf:P.funcs[f]?=some fn) (hname:(fn.name == "runtime.NumGoroutine")=false) (hbody:fn.body.isNone=false):ZsT P f (ZA3 Δ Γ A fn):=by
 refine ⟨⟨fn,hf,hname,hbody⟩,?_⟩;intro B E H hI ss vs hd K hk;have hk:ZA4 Δ Γ A fn ss H K:=hk;unfold ZA4 at hk;split at hk
 ·exact hk.elim
 ·rename_i c hbody'
  rw[JZ,ZmU,VZ,Nat.zero_add,List.append_nil] at hk;have hl:=YC _ _ hd
  let B1:Base:=⟨E.w,E.S,λb=>¬E.S b/\(B.w.heap.size<=b\/B.io b),E.ids⟩
  have hI1:Inv B1 E H :=
   {keeps:=⟨rfl,rfl,rfl,Nat.le_refl _,λ_ _ _=>rfl⟩
    Slt:=hI.Slt,Sold:=λb hb _=>.inl hb,glob:=hI.glob,len:=hI.len,pin:=λ_ _ h=>h,ent:=hI.ent
    free:=λi e v g hi hl hv hb=>by
     obtain ⟨a,b,c⟩:=hI.free i e v g hi hl hv hb;grind
    sep:=hI.sep}
  refine calls_of_wp hf hbody' ?_;have hdens:Z7 E (ss++List.replicate (fn.ntmps-ss.length) (.tup [])) (vs.toArray++Array.replicate (fn.ntmps-vs.toArray.size) undef).toList:=by
   rw[Array.toList_append,Array.toList_replicate,List.toList_toArray,List.size_toArray,hl];refine V4 _ _ hd _ _ ?_;have:∀ n,Z7 E (List.replicate n (.tup [])) (List.replicate n undef):=by
    intro n;induction n with
    | zero=>trivial
    | succ n ih=>exact ⟨by simp only[den];exact ⟨[],rfl,trivial⟩,ih⟩
   exact this _
  refine Znx hΔ hΓ A hm c 0 _ hk (B:=B1) ⟨_,rfl,hI1,hdens,rfl⟩ _ ?_;intro e regs' H' a' w' hq hc';obtain ⟨E2,hw2,hI2,hd2,hdef2⟩:=hc';subst hw2;have hBS:∀ b,B1.S b->b<B1.w.heap.size/\¬B1.io b:=λb hb=>⟨hI.Slt b hb,λhio=>hio.1 hb⟩;obtain ⟨hI3,hle3⟩:=hI2.more hBS;have hstand:∀ b,b<E.w.heap.size->¬(¬E.S b/\(B.w.heap.size<=b\/B.io b))->E2.w.heap[b]?=E.w.heap[b]?:=λb h1 h2=>hI2.keeps.block b h1 h2;have hsz:E.w.heap.size<=E2.w.heap.size:=hI2.keeps.size;have hB0:=hI.keeps.size;have hIB:Inv B ⟨λb=>E2.S b\/B1.S b,E2.w,E2.ids⟩ H' :=
   {keeps:=⟨hI2.keeps.os.trans hI.keeps.os,hI2.keeps.tape.trans hI.keeps.tape,hI2.keeps.output.trans hI.keeps.output,Nat.le_trans hB0 hsz,λb hb hio =>
     (hstand b (Nat.lt_of_lt_of_le hb hB0) (λh=>by
      grind)).trans (hI.keeps.block b hb hio)⟩
    Slt:=hI3.Slt
    Sold:=λb hb hlt=>by
     rcases hb with hb | hb
     ·rcases hI2.Sold b hb (Nat.lt_of_lt_of_le hlt hB0) with h | h
      ·exact hI.Sold b h hlt
      grind
     ·exact hI.Sold b hb hlt
    glob:=hI3.glob
    len:=hI2.len
    pin:=λi v hv=>hI2.pin i v (hI.pin i v hv)
    ent:=hI3.ent
    free:=λi e v g hi hl hv hb=>by
     obtain ⟨a,b,c⟩:=hI3.free i e v g hi hl hv hb;grind
    sep:=hI2.sep}
  have hle:E.le ⟨λb=>E2.S b\/B1.S b,E2.w,E2.ids⟩:=⟨λb hb=>.inr hb,λb hb=>hstand b (hI.Slt b hb) (λh=>h.1 hb),λi v hv=>hI2.pin i v hv⟩;have fin:(ZvQ Δ fn.results.toList regs' H' λss'=>ZpC ss' λs=>K s H')->bodyPost P fn (λe w'=>∃ v E' H' s,e=.returned v/\E'.w=w'/\Inv B E' H'/\E.le E'/\den E' s v/\K s H'/\((ZA3 Δ Γ A fn).dat=true->Grow E.w w')/\(∀ m,(ZA3 Δ Γ A fn).io=some m->∀ b,b<E.w.heap.size->(∀ v∈pick m vs,Yx v≠some b)->w'.heap[b]?=E.w.heap[b]?)) .ret a' E2.w:=by
   intro hq;obtain ⟨ss',us,hrun,hds,hq⟩:=ZoN hΔ hIB (ZL hle3 _ _ hd2) _ hq;obtain ⟨v,hv,hret⟩:=Zmz hrun;obtain ⟨s,hs,hq⟩:=ZrN hds hret hq;exact bodyPost_ret hv hdef2 ⟨v,⟨λb=>E2.S b\/B1.S b,E2.w,E2.ids⟩,H',s,rfl,rfl,hIB,hle,hs,hq,(λh=>by cases h),(λm h=>by cases h)⟩
  cases e with
  | normal=>exact fin hq
  | ret=>exact fin hq
  | _=>exact hq.elim
def YX {α:Type} (o:Option α) (k:α->Prop):Prop:=∃ r,o=some r/\k r
def iterM {σ ρ:Type} (step:σ->Option (σ ⊕ ρ)):Nat->σ->Option ρ
 | 0,_=>none
 | n+1,v=>match step v with
  | none=>none
  | some (.inl v')=>iterM step n v'
  | some (.inr r)=>some r
theorem Zj2 {σ ρ:Type} {step:σ->Option (σ ⊕ ρ)} {r:ρ}:∀ {n m:Nat} {v:σ},iterM step n v=some r->n<=m->iterM step m v=some r
 | 0,_,_,h,_=>by simp[iterM] at h
 | n+1,0,_,_,hm=>by omega
 | n+1,m+1,v,h,hm=>by
  simp only[iterM] at h ⊢;split at h
  ·cases h
  ·exact Zj2 h (by omega)
  ·exact h
theorem ZtJ {σ ρ:Type} {step:σ->Option (σ ⊕ ρ)} {r r':ρ} {n m:Nat} {v:σ} (h:iterM step n v=some r) (h':iterM step m v=some r'):r=r':=by
 have h1:=Zj2 h (Nat.le_max_left n m);have h2:=Zj2 h' (Nat.le_max_right n m);rw[h1] at h2;injection h2
noncomputable def Zn {σ ρ:Type} (step:σ->Option (σ ⊕ ρ)) (v:σ):Option ρ :=
 open Classical in if h:∃ r n,iterM step n v=some r then some (Classical.choose h) else none
theorem Zaa {σ ρ:Type} {step:σ->Option (σ ⊕ ρ)} {v:σ} {r:ρ}:Zn step v=some r<->∃ n,iterM step n v=some r:=by
 unfold Zn;constructor
 ·intro h
  split at h
  ·rename_i hx
   obtain ⟨n,hn⟩:=Classical.choose_spec hx;injection h with h;rw[h] at hn;exact ⟨n,hn⟩
  ·cases h
 ·rintro ⟨n,hn⟩
  have hx:∃ r n,iterM step n v=some r:=⟨r,n,hn⟩;rw[dif_pos hx];obtain ⟨m,hm⟩:=Classical.choose_spec hx;rw[ZtJ hm hn]
theorem Zp0 {σ ρ:Type} (step:σ->Option (σ ⊕ ρ)) (v:σ):Zn step v=match step v with
  | none=>none
  | some (.inl v')=>Zn step v'
  | some (.inr r)=>some r:=by
 apply Option.ext;intro r;rw[Zaa];constructor
 ·rintro ⟨n,hn⟩
  cases n with
  | zero=>simp[iterM] at hn
  | succ n =>
   simp only[iterM] at hn;split
   ·rename_i e;rw[e] at hn;cases hn
   ·rename_i v' e;rw[e] at hn;exact Zaa.2 ⟨n,hn⟩
   ·rename_i r' e;rw[e] at hn;exact hn
 ·intro h
  split at h
  ·cases h
  ·rename_i v' e
   obtain ⟨n,hn⟩:=Zaa.1 h;exact ⟨n+1,by simp only[iterM,e];exact hn⟩
  ·rename_i r' e
   exact ⟨1,by simp only[iterM,e];exact h⟩
theorem Zp1 {σ ρ:Type} {step:σ->Option (σ ⊕ ρ)} {v v':σ} (h:step v=some (.inl v')):Zn step v=Zn step v':=by rw[Zp0,h]
theorem Zfl {σ ρ:Type} {step:σ->Option (σ ⊕ ρ)} {v:σ} {r:ρ} (h:step v=some (.inr r)):Zn step v=some r:=by rw[Zp0,h]
theorem VR {σ ρ:Type} {step:σ->Option (σ ⊕ ρ)} (I:σ->Prop) (μ:σ->Nat) (Q:ρ->Prop) {v:σ} (h0:I v)
  (hs:∀ v,I v->(∃ v',step v=some (.inl v')/\I v'/\μ v'<μ v)\/∃ r,step v=some (.inr r)/\Q r):∃ r,Zn step v=some r/\Q r:=by
 have:∀ n v,I v->μ v<n->∃ r,Zn step v=some r/\Q r:=by
  intro n;induction n with
  | zero=>intro v _ h;omega
  | succ n ih =>
   intro v hI hn;rcases hs v hI with ⟨v',e,hI',hlt⟩ | ⟨r,e,hq⟩
   ·obtain ⟨r,h1,h2⟩:=ih v' hI' (by omega)
    exact ⟨r,by rw[Zp1 e];exact h1,h2⟩
   ·exact ⟨r,Zfl e,hq⟩
 exact this (μ v+1) v h0 (by omega)
def atI {α:Type} (l:List α) (i:Int):Option α:=if 0<=i then l[i.toNat]? else none
noncomputable def Zu {α:Type} (p:Prop) (a:Option α):Option α:=open Classical in if p then a else none
section
variable {α β:Type} {A B:Prop} {r:β} {a b:Option β}
theorem VB {q:Prop} {_:Decidable q} (h:(if q then a else b)=some r) (ha:a=some r->A) (hb:b=some r->B):(decide q=true->A)/\(decide q=false->B):=by
 by_cases hq:q
 ·rw[if_pos hq] at h;exact ⟨λ_=>ha h,λe=>by simp[hq] at e⟩
 ·rw[if_neg hq] at h;exact ⟨λe=>by simp[hq] at e,λ_=>hb h⟩
theorem ZuL {q:Prop} {_:Decidable q} (h:(if q then a else b)=some r) (ha:a=some r->A) (hb:b=some r->B):(decide q=false->B)/\(decide q=true->A):=⟨(VB h ha hb).2,(VB h ha hb).1⟩
theorem ZsS {p:Bool} (h:(if p=true then a else b)=some r) (ha:a=some r->A) (hb:b=some r->B):(p=true->A)/\(p=false->B):=by
 cases p
 ·exact ⟨λe=>(by cases e),λ_=>hb h⟩
 ·exact ⟨λ_=>ha h,λe=>(by cases e)⟩
theorem Zv5 {p:Bool} (h:(if p=true then a else b)=some r) (ha:a=some r->A) (hb:b=some r->B):(p=false->B)/\(p=true->A):=⟨(ZsS h ha hb).2,(ZsS h ha hb).1⟩
theorem Zv6 {p:Bool} (h:(p=true->A)/\(p=false->B)):((!p)=false->A)/\((!p)=true->B):=⟨λe=>h.1 (by simpa using e),λe=>h.2 (by simpa using e)⟩
theorem ZjM {p:Bool} (h:(p=true->A)/\(p=false->B)):((!p)=true->B)/\((!p)=false->A):=⟨(Zv6 h).2,(Zv6 h).1⟩
theorem Zwz {p:Prop} (h:Zu p a=some r) (ha:p->a=some r->A):p/\A:=by
 unfold Zu at h;split at h
 ·rename_i hp;exact ⟨hp,ha hp h⟩
 ·cases h
theorem vAt {l:List α} {i:Int} {f:α->Option β} {A:α->Prop} (h:(atI l i).bind f=some r) (ha:∀ x,0<=i->i<(l.length:Int)->l[i.toNat]?=some x->f x=some r->A x) :
  0<=i/\i<(l.length:Int)/\∀ x,l[i.toNat]?=some x->A x:=by
 unfold atI at h;split at h
 ·rename_i h0
  cases hx:l[i.toNat]? with
  | none=>rw[hx] at h;cases h
  | some x =>
   rw[hx] at h;have hlt:=(List.getElem?_eq_some_iff.1 hx).1;exact ⟨h0,by omega,λy hy=>by injection hy with hy;subst hy;exact ha x h0 (by omega) hx h⟩
 ·cases h
theorem atE {l:List α} {i:Int} {f:α->Option β} (h:(atI l i).bind f=some r):∃ x,0<=i/\i<(l.length:Int)/\l[i.toNat]?=some x/\f x=some r:=by
 unfold atI at h;split at h
 ·rename_i h0
  cases hx:l[i.toNat]? with
  | none=>rw[hx] at h;cases h
  | some x =>
   rw[hx] at h;have hlt:=(List.getElem?_eq_some_iff.1 hx).1;exact ⟨x,h0,by omega,rfl,h⟩
 ·cases h
theorem guardE {p:Prop} (h:Zu p a=some r):p/\a=some r:=by
 unfold Zu at h;split at h
 ·rename_i hp;exact ⟨hp,h⟩
 ·cases h
theorem XZ {o:Option α} {f:α->Option β} {k:α->Prop} (h:o.bind f=some r) (hk:∀ x,o=some x->f x=some r->k x):∃ x,o=some x/\k x:=by
 cases ho:o with
 | none=>rw[ho] at h;cases h
 | some x=>rw[ho] at h;exact ⟨x,rfl,hk x ho h⟩
theorem ZpZ {o:Option α} {f:α->Option β} {k:α->Prop} (h:o.bind f=some r) (hk:∀ x,o=some x->f x=some r->k x):∀ x,o=some x->k x:=by
 intro x hx;rw[hx] at h;exact hk x hx h
theorem Qb {o:Option α} {y:α} {G:α->Prop} (ha:o=some y) (k:G y):∀ x,o=some x->G x:=by
 intro x hx;rw[ha] at hx;injection hx with hx;subst hx;exact k
theorem ZoW {σ ρ:Type} {step:σ->Option (σ ⊕ ρ)} {v0:σ} {r:ρ} (h:Zn step v0=some r) {P:(σ->Prop)->(σ->Nat)->σ->Prop}
  (hb:∀ (I:σ->Prop) (μ:σ->Nat) (v:σ) (s:σ ⊕ ρ),step v=some s->(∀ v',s=.inl v'->I v'/\μ v'<μ v)->(∀ r',s=.inr r'->r'=r)->P I μ v) :
  ∃ I μ,I v0/\∀ v,I v->P I μ v:=by
 obtain ⟨n0,hn0⟩:=Zaa.1 h
 let I:σ->Prop:=λv=>∃ n,iterM step n v=some r
 classical
 let μ:σ->Nat:=λv=>if h:∃ n,iterM step n v=some r then Classical.choose (Zhy h) else 0
 have hμ:∀ v (h:∃ n,iterM step n v=some r),iterM step (μ v) v=some r/\∀ m,iterM step m v=some r->μ v<=m:=by
  intro v h;have:μ v=Classical.choose (Zhy h):=by simp only[μ,dif_pos h]
  rw[this];exact Classical.choose_spec (Zhy h)
 refine ⟨I,μ,⟨n0,hn0⟩,λv hv=>?_⟩;have h1:=(hμ v hv).1;cases hm:μ v with
 | zero=>rw[hm] at h1;simp[iterM] at h1
 | succ m =>
  rw[hm] at h1;simp only[iterM] at h1;split at h1
  ·cases h1
  ·rename_i v' e
   refine hb I μ v _ e (λv'' e'=>?_) (λr' e'=>by cases e');injection e' with e';subst e'
   exact ⟨⟨m,h1⟩,by have:=(hμ v' ⟨m,h1⟩).2 m h1;omega⟩
  ·rename_i r' e
   refine hb I μ v _ e (λv'' e'=>by cases e') (λr'' e'=>?_);injection e' with e';subst e';injection h1
end
def D1 (a r:Ty) (f:a.den->Option r.den):Ctr:=⟨[.dat a],[.dat r],λx K=>Zv x λp _=>YX (f p) λr=>K (r,()) ()⟩
def D2 (a b r:Ty) (f:a.den->b.den->Option r.den):Ctr:=⟨[.dat a,.dat b],[.dat r],λx K=>Zv x λp x=>Zv x λq _=>YX (f p q) λr=>K (r,()) ()⟩
def D3 (a b c r:Ty) (f:a.den->b.den->c.den->Option r.den):Ctr:=⟨[.dat a,.dat b,.dat c],[.dat r],λx K=>Zv x λp x=>Zv x λq x=>Zv x λs _=>YX (f p q s) λr=>K (r,()) ()⟩
def D4 (a b c d r:Ty) (f:a.den->b.den->c.den->d.den->Option r.den):Ctr:=⟨[.dat a,.dat b,.dat c,.dat d],[.dat r],λx K=>Zv x λp x=>Zv x λq x=>Zv x λs x=>Zv x λt _=>YX (f p q s t) λr=>K (r,()) ()⟩
theorem Zu7 {B:Prop} (k:B):Zyg/\B:=⟨trivial,k⟩
theorem ZzC {α:Type} {v:α} {G:α->Prop} (k:G v):∀ x,x=v->G x:=λ_ e=>e▸k
theorem ZvS {α:Type} {o:Option α} {G:α->Prop} (k:∀ x,o=some x->G x):∀ x,o=some x->G x:=k
theorem ZzD {α:Type} {o:Option α} {G:α->Prop} (k:∃ x,o=some x/\G x):∃ x,o=some x/\G x:=k
theorem ZgU {α:Type} {o:Option α} {y:α} {G:α->Prop} (ha:o=some y) (k:G y):∃ x,o=some x/\G x:=⟨y,ha,k⟩
theorem ZzA {α:Type} {l:List α} {i:Int} {G:α->Prop} (k:0<=i/\i<(l.length:Int)/\∀ x,l[i.toNat]?=some x->G x):0<=i/\i<(l.length:Int)/\∀ x,l[i.toNat]?=some x->G x:=k
theorem ZgM {α:Type} {l:List α} {i:Int} {y:α} {G:α->Prop} (ha:0<=i) (hb:i<(l.length:Int)) (hx:l[i.toNat]?=some y) (k:G y):0<=i/\i<(l.length:Int)/\∀ x,l[i.toNat]?=some x->G x:=⟨ha,hb,Qb hx k⟩
theorem ZzB {A B:Prop} {p x y:Bool} (k:(p=x->A)/\(p=y->B)):(p=x->A)/\(p=y->B):=k
theorem shD {A B:Prop} {q:Prop} {_:Decidable q} {x y:Bool} (k:(decide q=x->A)/\(decide q=y->B)):(decide q=x->A)/\(decide q=y->B):=k
theorem ZvU {A B:Prop} {p x y:Bool} (k:((!p)=x->A)/\((!p)=y->B)):((!p)=x->A)/\((!p)=y->B):=k
theorem ZvT {α:Type} {l:List α} {A B:Prop} (k:(l=[]->A)/\B):(l=[]->A)/\B:=k
theorem ZvV {l:List Oper} {n:Nat} {K:Oper->Prop} {B:Prop} (k:Zt2 l n K/\B):Zt2 l n K/\B:=k
theorem orL {α:Type} {a:α} {P Q:Prop} (k:P):(a=a/\P)\/Q:=.inl ⟨rfl,k⟩
theorem Zu5 {α:Type} {x:α} {P:Prop} (h:none=some x):P:=by cases h
theorem ZrX {σ:Type} {P:(σ->Prop)->(σ->Nat)->σ->Prop} {v0:σ} (k:∃ I μ,I v0/\∀ v,I v->P I μ v):∃ I μ,I v0/\∀ v,I v->P I μ v:=k
theorem Zr5 {σ ρ:Type} {step:σ->Option (σ ⊕ ρ)} {v0:σ} {r:ρ} (h:Zn step v0=some r) {P:(σ->Prop)->(σ->Nat)->σ->Prop} {G:Prop} (hK:G)
  (hb:∀ (I:σ->Prop) (μ:σ->Nat) (v:σ) (s:σ ⊕ ρ),step v=some s->((∀ v',s=.inl v'->I v'/\μ v'<μ v)/\(∀ r',s=.inr r'->r'=r)/\G)->P I μ v) :
  ∃ I μ,I v0/\∀ v,I v->P I μ v:=ZoW h λI μ v s h1 h2 h3=>hb I μ v s h1 ⟨h2,h3,hK⟩
theorem pB {α β:Type} {o:Option α} {f:α->Option β} {r:β} {G:Prop} (h:o.bind f=some r) (k:∀ x,o=some x->f x=some r->G):G:=by
 obtain ⟨x,h1,h2⟩:=Option.bind_eq_some_iff.1 h;exact k x h1 h2
theorem pA {α β:Type} {l:List α} {i:Int} {f:α->Option β} {r:β} {G:Prop} (h:(atI l i).bind f=some r) (k:∀ x,0<=i->i<(l.length:Int)->l[i.toNat]?=some x->f x=some r->G):G:=by
 obtain ⟨x,h1,h2,h3,h4⟩:=atE h;exact k x h1 h2 h3 h4
theorem pG {α:Type} {p:Prop} {a:Option α} {r:α} {G:Prop} (h:Zu p a=some r) (k:p->a=some r->G):G:=k (guardE h).1 (guardE h).2
theorem pS {α:Type} {a r:α} {G:Prop} (h:some a=some r) (k:a=r->G):G:=k (Option.some.inj h)
theorem pR {σ ρ:Type} {A G P:Prop} {a r:ρ} (h:A/\(∀ r',(.inr a:σ ⊕ ρ)=.inr r'->r'=r)/\G) (k:a=r->G->P):P:=k (h.2.1 _ rfl) h.2.2
noncomputable def Zxi {ρ:Type} (g:Nat->Option ρ):Option ρ :=
 open Classical in if h:∃ r n,g n=some r then some (Classical.choose h) else none
theorem Zmv {ρ:Type} {g:Nat->Option ρ} {r:ρ} (h:Zxi g=some r):∃ n,g n=some r:=by
 unfold Zxi at h;split at h
 ·rename_i hx
  obtain ⟨n,hn⟩:=Classical.choose_spec hx;injection h with h;rw[h] at hn;exact ⟨n,hn⟩
 ·cases h
end Go.Sx
namespace Go.Sx
set_option linter.unusedVariables false
set_option linter.unusedSimpArgs false
open Go.RowKit Go.ChangeShapes Go.WideShapes
mutual
def VU (P:Program):Ty->TypeId->Bool
 | .int k,T=>Zru k (P.underlying T)
 | .bool,T=>Zou (P.underlying T)
 | .str,T=>Zrx (P.underlying T)
 | .sl t,T=>match P.underlying T with
  | some (.slice e)=>VU P t e&&P.cellsOf e == t.size&&decide (0<t.size)
  | _=>false
 | .pair a b,T=>match P.underlying T with
  | some (.struct fs)=>match fs.toList with
   | f::fl=>VU P a f.type&&f.offset == 0&&P.cellsOf f.type == a.size&&Zf2 P b fl a.size&&P.cellsOf T == a.size+b.size
   | []=>false
  | _=>false
 | _,_=>false
def Zf2 (P:Program):Ty->List Field->Nat->Bool
 | .unit,fl,_=>fl.isEmpty
 | .pair a b,fl,o=>match fl with
  | f::fl=>VU P a f.type&&f.offset == o&&P.cellsOf f.type == a.size&&Zf2 P b fl (o+a.size)
  | []=>false
 | _,_,_=>false
end
def bnd:(t:Ty)->t.den->Prop
 | .int k,n=>k.min<=n/\n<=k.max
 | .str,s=>(s.length:Int)<=9223372036854775807
 | .sl t,l=>(l.length:Int)<=9223372036854775807/\∀ x∈l,bnd t x
 | .pair a b,d=>bnd a d.1/\bnd b d.2
 | _,_=>True
section
variable {H:Type} {enc:TypeId×Value->H} {P:Program} {w:World} {spare:Nat->Bool} {held:Bool}
theorem Zyo (s:ByteArray):(⟨s.data.toList.toArray⟩:ByteArray)=s:=by
 cases s;simp
theorem Zuj {t:Ty} {S:Nat->Prop} {p:Addr} {n:Nat} (hn:t.size=n):∀ (len:Nat) (css:List (List Value)),css.length=len->
  (∀ (i:Nat) (cs:List Value),css[i]?=some cs->cs.length=n/\∃ d:t.den,rep S w t d cs/\bnd t d)->
  ∃ l:List t.den,l.length=len/\XC (rep S w t) l css.flatten/\∀ x∈l,bnd t x:=by
 intro len;induction len with
 | zero =>
  intro css hl _;have:css=[]:=List.eq_nil_of_length_eq_zero hl;subst this;exact ⟨[],rfl,rfl,by simp⟩
 | succ len ih =>
  intro css hl h;cases css with
  | nil=>simp at hl
  | cons cs css =>
   obtain ⟨_,d,hd,hb⟩:=h 0 cs rfl;obtain ⟨l,h1,h2,h3⟩:=ih css (by simpa using hl) (λi c hc=>h (i+1) c (by simpa using hc));refine ⟨d::l,by simp[h1],⟨cs,css.flatten,by simp,hd,h2⟩,?_⟩;intro x hx;rcases List.mem_cons.1 hx with rfl | hx
   ·exact hb
   ·exact h3 x hx
theorem ZlE {n:Nat}:∀ (css:List (List Value)) (_:∀ cs∈css,cs.length=n) (i j:Nat) (cs:List Value) (_:css[i]?=some cs) (_:j<n),css.flatten[i*n+j]?=cs[j]?
 | [],_,i,j,cs,h,_=>by simp at h
 | c::css,hl,0,j,cs,h,hj=>by
  simp at h;subst h;have:=hl c (by simp);simp[List.getElem?_append_left (show j<c.length by omega)]
 | c::css,hl,i+1,j,cs,h,hj=>by
  have hc:=hl c (by simp);have:=ZlE css (λx hx=>hl x (by simp[hx])) i j cs (by simpa using h) hj;rw[List.flatten_cons,List.getElem?_append_right (by rw[hc,Nat.succ_mul];omega),hc,show (i+1)*n+j-n=i*n+j by rw[Nat.succ_mul];omega];exact this
theorem ZlF {n:Nat}:∀ (css:List (List Value)) (_:∀ cs∈css,cs.length=n),css.flatten.length=css.length*n
 | [],_=>by simp
 | c::css,hl=>by
  have hc:=hl c (by simp);have:=ZlF css (λx hx=>hl x (by simp[hx]));simp only[List.flatten_cons,List.length_append,List.length_cons,this,hc,Nat.succ_mul];omega
mutual
theorem Zlr:∀ (ty:Ty) (fuel:Nat) (T:TypeId) (cs:List Value) (x:DataW H×List MemPlace),VU P ty T=true->DataW.trod enc P w 0 spare held fuel T cs=some x->
  ∃ d:ty.den,rep (λb=>b<w.heap.size) w ty d cs/\bnd ty d
 | .int k,fuel,T,cs,x,hf,h=>by
  simp only[VU] at hf;obtain ⟨n,h1,_,hw⟩:=DataW.trod_int (Zhb hf) h;exact ⟨n,h1,(by simpa[Go.Lit.wf] using hw:k.min<=n/\n<=k.max)⟩
 | .bool,fuel,T,cs,x,hf,h=>by
  simp only[VU] at hf;obtain ⟨b,h1,_⟩:=DataW.trod_bool (Zj0 hf) h;exact ⟨b,h1,trivial⟩
 | .str,fuel,T,cs,x,hf,h=>by
  simp only[VU] at hf;obtain ⟨s,h1,_,hs⟩:=DataW.trod_string (ZlV hf) h;refine ⟨s.data.toList,?_,?_⟩
  ·show cs=[.string ⟨s.data.toList.toArray⟩]
   rw[h1,Zyo]
  ·show ((s.data.toList.length:Nat):Int)<=_
   clear h h1;have:s.data.toList.length=s.size:=by cases s;rfl
   unfold maxLen at hs;omega
 | .sl t,fuel,T,cs,x,hf,h=>by
  unfold VU at hf;split at hf
  ·rename_i e hu
   simp only[Bool.and_eq_true,beq_iff_eq,decide_eq_true_eq] at hf;obtain ⟨⟨hf,hsz⟩,hpos⟩:=hf;rcases DataW.trod_slice hu h with ⟨h1,_⟩ | ⟨a,len,cap,elems,rest,n,rfl,rfl,_,_,hlc,hcap,hel,hget,_⟩
   ·refine ⟨[],?_,by show ((0:Nat):Int)<=9223372036854775807;omega,λx hx=>(by cases hx)⟩
    show rep _ w (.sl t) [] cs;exact ⟨none,0,by rw[h1];rfl,by simp,λ_=>rfl,.inl rfl⟩
   ·-- the elements' cells
    have hcss:∃ css:List (List Value),css.length=len/\∀ (i:Nat) (c:List Value),css[i]?=some c->w.cells? 0 (a.add (i*t.size)) t.size=some c/\∃ d:t.den,rep (λb=>b<w.heap.size) w t d c/\bnd t d:=by
     have:∀ m,m<=len->∃ css:List (List Value),css.length=m/\∀ (i:Nat) (c:List Value),css[i]?=some c->w.cells? 0 (a.add (i*t.size)) t.size=some c/\∃ d:t.den,rep (λb=>b<w.heap.size) w t d c/\bnd t d:=by
      intro m;induction m with
      | zero=>intro _;exact ⟨[],rfl,by simp⟩
      | succ m ih =>
       intro hm;obtain ⟨css,h1,h2⟩:=ih (by omega);have hg:=hget m (by omega);rw[List.getElem?_eq_getElem (by omega)] at hg;obtain ⟨c,hc,hcx⟩:=Option.bind_eq_some_iff.1 hg;rw[hsz] at hc;obtain ⟨d,hd,hb⟩:=Zlr t n e c _ hf hcx;refine ⟨css++[c],by simp[h1],λi c' hi=>?_⟩;by_cases him:i<m
       ·rw[List.getElem?_append_left (by omega)] at hi
        exact h2 i c' hi
       ·have:i=m:=by
         have:=(List.getElem?_eq_some_iff.1 hi).1;simp[h1] at this;omega
        subst this;rw[List.getElem?_append_right (by omega),h1] at hi;simp at hi;subst hi;exact ⟨hc,d,hd,hb⟩
     exact this len (Nat.le_refl _)
    obtain ⟨css,hcl,hcs⟩:=hcss;have hlens:∀ c∈css,c.length=t.size:=by
     intro c hc;obtain ⟨i,hi⟩:=List.mem_iff_getElem?.1 hc;exact (World.cells?_some (hcs i c hi).1).2.1
    obtain ⟨l,hl,hr,hb⟩:=Zuj (S:=λb=>b<w.heap.size) (w:=w) (t:=t) (p:=a) rfl len css hcl (λi c hi=>⟨hlens c (List.mem_of_getElem? hi),(hcs i c hi).2⟩);refine ⟨l,?_,by unfold maxLen at hcap;omega,hb⟩;refine ⟨some a,cap,by rw[hl],by omega,λe=>(by cases e),?_⟩;cases css with
    | nil =>
     left;simp at hcl;exact List.eq_nil_of_length_eq_zero (by omega)
    | cons c0 css =>
     right;have h0:=(hcs 0 c0 rfl).1;rw[Nat.zero_mul] at h0;have ha0:a.add 0=a:=by unfold Addr.add;simp
     rw[ha0] at h0;have hspot:a.spot=none:=by
      have h1:=(World.cells?_some h0).2.2 0 hpos;rw[ha0] at h1;have hlen0:=(World.cells?_some h0).2.1;rw[List.getElem?_eq_getElem (by omega)] at h1;unfold World.cell? at h1;split at h1
      ·split at h1
       ·cases h1
       ·rename_i hs;simpa using hs
      ·cases h1
     refine ⟨a,(c0::css).flatten,rfl,hspot,World.cells?_block h0 hpos,λj u hu=>?_,hr⟩;have hjl:=(List.getElem?_eq_some_iff.1 hu).1;rw[ZlF _ hlens] at hjl;have hdm:j / t.size*t.size+j % t.size=j:=by rw[Nat.mul_comm];exact Nat.div_add_mod j t.size
     have hq:j / t.size<(c0::css).length:=by rw[Nat.div_lt_iff_lt_mul hpos];exact hjl
     obtain ⟨c,hc⟩:∃ c,(c0::css)[j / t.size]?=some c:=⟨_,List.getElem?_eq_getElem hq⟩;have h2:=ZlE (c0::css) hlens (j / t.size) (j % t.size) c hc (Nat.mod_lt _ hpos);rw[hdm,hu] at h2;have h3:=(World.cells?_some (hcs _ c hc).1).2.2 (j % t.size) (Nat.mod_lt _ hpos);rw[add_add _ _ _ hspot,hdm] at h3;rw[h3];exact h2.symm
  ·cases hf
 | .pair a b,fuel,T,cs,x,hf,h=>by
  unfold VU at hf;split at hf
  ·rename_i fs hu
   split at hf
   ·rename_i f fl hfl
    simp only[Bool.and_eq_true,beq_iff_eq] at hf;obtain ⟨⟨⟨⟨h1,h2⟩,h3⟩,h4⟩,h5⟩:=hf;obtain ⟨xs,n,rfl,_,hlen,hxl,hget⟩:=DataW.trod_struct hu h;have hsz:fs.size=fl.length+1:=by
     have:=congrArg List.length hfl;simpa using this
    have hf0:fs[0]?=some f:=by
     have:=congrArg (·[0]?) hfl;simpa using this
    have hg:=hget 0 f hf0;rw[List.getElem?_eq_getElem (by omega),h2,h3] at hg;obtain ⟨d,hd,hb⟩:=Zlr a n f.type _ _ h1 hg;have hrest:∀ (i:Nat) (g:Field),fl[i]?=some g->∃ y,DataW.trod enc P w 0 spare held n g.type ((cs.drop g.offset).take (P.cellsOf g.type))=some y:=by
     intro i g hgi;have hg1:fs[i+1]?=some g:=by
      have:=congrArg (·[i+1]?) hfl;simp only[List.getElem?_cons_succ,hgi,Array.getElem?_toList] at this;exact this
     have:=hget (i+1) g hg1;have hi:=(List.getElem?_eq_some_iff.1 hgi).1;rw[List.getElem?_eq_getElem (by omega)] at this;exact ⟨_,this⟩
    obtain ⟨d2,hd2,hb2⟩:=ZpX b n fl a.size cs h4 (by omega) hrest;refine ⟨(d,d2),⟨(cs.drop 0).take a.size,cs.drop a.size,by simp,hd,hd2⟩,hb,hb2⟩
   ·cases hf
  ·cases hf
 | .unit,_,_,_,_,hf,_=>by simp[VU] at hf
 | .ptr _,_,_,_,_,hf,_=>by simp[VU] at hf
 | .fn _ _,_,_,_,_,hf,_=>by simp[VU] at hf
 | .nptr _,_,_,_,_,hf,_=>by simp[VU] at hf
 | .mp _ _,_,_,_,_,hf,_=>by simp[VU] at hf
theorem ZpX:∀ (ty:Ty) (n:Nat) (fl:List Field) (o:Nat) (cs:List Value),Zf2 P ty fl o=true->cs.length=o+ty.size->
  (∀ (i:Nat) (g:Field),fl[i]?=some g->∃ y,DataW.trod enc P w 0 spare held n g.type ((cs.drop g.offset).take (P.cellsOf g.type))=some y)->
  ∃ d:ty.den,rep (λb=>b<w.heap.size) w ty d (cs.drop o)/\bnd ty d
 | .unit,n,fl,o,cs,hf,hl,h=>by
  refine ⟨(),?_,trivial⟩;show cs.drop o=[];simp only[Ty.size] at hl;exact List.drop_eq_nil_of_le (by omega)
 | .pair a b,n,fl,o,cs,hf,hl,h=>by
  unfold Zf2 at hf;split at hf
  ·rename_i f fl
   simp only[Bool.and_eq_true,beq_iff_eq] at hf;obtain ⟨⟨⟨h1,h2⟩,h3⟩,h4⟩:=hf;obtain ⟨y,hy⟩:=h 0 f rfl;rw[h2,h3] at hy;obtain ⟨d,hd,hb⟩:=Zlr a n f.type _ _ h1 hy;obtain ⟨d2,hd2,hb2⟩:=ZpX b n fl (o+a.size) cs h4 (by simp only[Ty.size] at hl;omega) (λi g hg=>h (i+1) g (by simpa using hg));refine ⟨(d,d2),⟨(cs.drop o).take a.size,cs.drop (o+a.size),?_,hd,hd2⟩,hb,hb2⟩;rw[<-List.drop_drop];exact (List.take_append_drop _ _).symm
  ·cases hf
 | .int _,_,_,_,_,hf,_,_=>by simp[Zf2] at hf
 | .bool,_,_,_,_,hf,_,_=>by simp[Zf2] at hf
 | .str,_,_,_,_,hf,_,_=>by simp[Zf2] at hf
 | .sl _,_,_,_,_,hf,_,_=>by simp[Zf2] at hf
 | .ptr _,_,_,_,_,hf,_,_=>by simp[Zf2] at hf
 | .fn _ _,_,_,_,_,hf,_,_=>by simp[Zf2] at hf
 | .nptr _,_,_,_,_,hf,_,_=>by simp[Zf2] at hf
 | .mp _ _,_,_,_,_,hf,_,_=>by simp[Zf2] at hf
end
theorem ZuJ {ty:Ty} {T:TypeId} {v:Value} {d:DataW H} {ps:List MemPlace} {base:Nat} (hf:VU P ty T=true) (hok:Value.okWide P w .any base T v) (h:DataW.Trod enc P w 0 spare held T v d ps) :
  ∃ x:ty.den,Zye (λb=>b<w.heap.size) w ty x v/\bnd ty x:=by
 obtain ⟨fuel,h⟩:=h;obtain ⟨x,hx,hb⟩:=Zlr ty fuel T _ _ hf h;refine ⟨x,⟨?_,?_,hx⟩,hb⟩
 ·intro ha
  cases ty with
  | pair a b =>
   unfold VU at hf;split at hf
   ·rename_i fs hu
    obtain ⟨cs,hcs,_⟩:=okWide_struct hu hok;exact ⟨cs,hcs⟩
   ·cases hf
  | unit=>simp[VU] at hf
  | _=>simp[Ty.agg] at ha
 ·intro ha
  have hna:∀ cs,v≠.agg cs:=by
   intro cs e;subst e;cases ty with
   | int k=>simp only[VU] at hf;simp[Value.okWide,Zhb hf,Cell.okWide,Cell.ok] at hok
   | bool=>simp only[VU] at hf;simp[Value.okWide,Zj0 hf,Cell.okWide,Cell.ok] at hok
   | str=>simp only[VU] at hf;simp[Value.okWide,ZlV hf,Cell.okWide,Cell.ok] at hok
   | sl t =>
    unfold VU at hf;split at hf
    ·rename_i e hu;simp[Value.okWide,hu,Cell.okWide,Cell.ok] at hok
    ·cases hf
   | pair a b=>simp[Ty.agg] at ha
   | unit=>simp[Ty.agg] at ha
   | ptr _=>simp[VU] at hf
   | fn _ _=>simp[VU] at hf
   | nptr _=>simp[VU] at hf
   | mp _ _=>simp[VU] at hf
  cases v<;>first | rfl | exact absurd rfl (hna _)
def ZkC:List Ty->List Sh
 | []=>[]
 | t::r=>.dat t::ZkC r
def ZzL:(l:List Ty)->Shs (ZkC l)->Prop
 | [],_=>True
 | t::r,d=>bnd t d.1/\ZzL r d.2
def ZjT (P:Program):List Ty->List TypeId->Bool
 | [],[]=>true
 | t::r,T::q=>VU P t T&&ZjT P r q
 | _,_=>false
theorem ZmS {base:Nat}:∀ (l:List Ty) (ts:List TypeId) (vs:List Value) (ds:List (DataW H)) (p:List MemPlace),ZjT P l ts=true->
  (∀ (j:Nat) t v,ts[j]?=some t->vs[j]?=some v->Value.okWide P w .any base t v)->DataW.TrodAll enc P w 0 spare held ts vs ds p->
  ∃ as:Shs (ZkC l),Zcf (λb=>b<w.heap.size) w (ZkC l) as vs []/\ZzL l as
 | [],[],vs,ds,p,_,_,h=>by
  obtain ⟨rfl,_,_⟩:=trodAll_nil h;exact ⟨(),⟨rfl,rfl⟩,trivial⟩
 | t::r,T::q,vs,ds,p,hf,hok,h=>by
  simp only[ZjT,Bool.and_eq_true] at hf;obtain ⟨v,vs',d,ds',p1,p2,rfl,rfl,rfl,h1,h2⟩:=trodAll_cons h;obtain ⟨x,hx,hb⟩:=ZuJ hf.1 (hok 0 T v rfl rfl) h1;obtain ⟨as,has,hbs⟩:=ZmS r q vs' ds' p2 hf.2 (λj t v hj hv=>hok (j+1) t v (by simpa using hj) (by simpa using hv)) h2;exact ⟨(x,as),⟨v,vs',[],[],rfl,rfl,⟨rfl,hx⟩,has⟩,hb,hbs⟩
 | [],_::_,_,_,_,hf,_,_=>by simp[ZjT] at hf
 | _::_,[],_,_,_,hf,_,_=>by simp[ZjT] at hf
theorem ZjL (hl:laidOutB P=true) {W W':World} (hb:Below W.heap.size W W'):∀ (ts:List TypeId) (vs:List Value) (ds:List (DataW H)) (p:List MemPlace),(ts.all λt=>P.readableRec t&&decide (t<P.types.size))=true->
  DataW.TrodAll enc P W 0 (λ_=>true) true ts vs ds p->(∀ x∈p,x.block<W.heap.size)->DataW.TrodAll enc P W' 0 (λb=>decide (b<W.heap.size)) true ts vs ds p
 | [],vs,ds,p,_,h,_=>by
  obtain ⟨rfl,rfl,rfl⟩:=trodAll_nil h;rfl
 | t::ts,vs,ds,p,hr,h,hlt=>by
  simp only[List.all_cons,Bool.and_eq_true,decide_eq_true_eq] at hr;obtain ⟨v,vs',d,ds',p1,p2,rfl,rfl,rfl,h1,h2⟩:=trodAll_cons h;exact ⟨p1,p2,Below.trod hl hr.1.1 hr.1.2 h1 hb (λx hx=>hlt x (by simp[hx])),ZjL hl hb ts vs' ds' p2 hr.2 h2 (λx hx=>hlt x (by simp[hx])),rfl⟩
theorem ZtR {f:FuncId} {l:List Ty} {tr:Shs (ZkC l)->(Shs [.dat .bool]->Ios (ZkC l)->Prop)->Prop} (hC:Za P f ⟨ZkC l,[.dat .bool],tr⟩)
  (htrue:∀ as:Shs (ZkC l),ZzL l as->tr as (λr _=>r.1=true)) {ts:List TypeId} {args:Array Value} {ds:List (DataW H)} {p:List MemPlace} {base:Nat} (hf:ZjT P l ts=true)
  (hok:∀ (j:Nat) t v,ts[j]?=some t->args[j]?=some v->Value.okWide P w .any base t v) (h:DataW.TrodAll enc P w 0 spare held ts args.toList ds p) (hG:ZhT (λb=>b<w.heap.size) w:=by intro p hp;simp[globs] at hp) :
  Calls P f args w λe w'=>e=.returned (.bool true)/\Below w.heap.size w w':=by
 obtain ⟨as,has,hb⟩:=ZmS l ts args.toList ds p hf (λj t v hj hv=>hok j t v hj (by simpa using hv)) h;have hc:=hC.2 w (λb=>b<w.heap.size) args.toList as [] (λr _=>r.1=true) (λb h=>h) hG has List.nodup_nil (by simp) (htrue as hb);have he:args.toList.toArray=args:=by simp
 rw[he] at hc;refine hc.mono ?_;rintro e w' ⟨v,us,rs,ios,S',fr,fio,rfl,hret,hr,hk,hS,hS2,hs,_⟩;obtain ⟨u,ur,f1,f2,rfl,_,⟨_,hu⟩,hur⟩:=hs;obtain ⟨rfl,_⟩:=hur;simp only[retv] at hret;subst hret;refine ⟨?_,hk.os,hk.tape,hk.output,hk.size,λb hb=>hk.block b hb (by simp)⟩;obtain ⟨h1,h2,h3⟩:=hu;have hv:=h2 rfl;rw[hv] at h3;have h4:[v]=[.bool rs.1]:=h3;simp at h4;rw[h4,hr]
end
end Go.Sx
