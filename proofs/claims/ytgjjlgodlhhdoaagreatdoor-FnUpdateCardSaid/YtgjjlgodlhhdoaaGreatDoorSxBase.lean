/-
  The ground of the symbolic executor: codes of data types, how data lie in memory, symbolic values, and what a symbolic value says of a value.
-/
import Derived.Test.YtgjjlgodlhhdoaaGreatDoorSxAt
namespace Go.Sx
set_option linter.unusedVariables false
set_option linter.unusedSimpArgs false
inductive Ty
 | int (k:IntKind)
 | bool
 | str
 | sl (t:Ty)
 | unit
 | pair (a b:Ty)
 | ptr (t:Ty)
 | fn (f:FuncId) (t:Ty)
 | nptr (t:Ty)
 | mp (k v:Ty)
 deriving DecidableEq
@[reducible] def Ty.den:Ty->Type
 | .int _=>Int
 | .bool=>Bool
 | .str=>List UInt8
 | .sl t=>List t.den
 | .unit=>Unit
 | .pair a b=>a.den×b.den
 | .ptr t=>t.den
 | .fn _ t=>t.den
 | .nptr t=>Option t.den
 | .mp k v=>List (k.den×v.den)
def splitK {α β:Type} (d:α×β) (K:α->β->Prop):Prop:=match d with
 | (x,y)=>K x y
theorem QK {α β:Type} (d:α×β) (K:α->β->Prop):splitK d K=K d.1 d.2:=rfl
def Zqq {t' t:Ty} (h:t'=t) (d:List t'.den) (K:List t.den->Prop):Prop:=Eq.rec (motive:=λt _=>(List t.den->Prop)->Prop) (λK=>K d) h K
def Zvu {t' t:Ty} (h:t'=t) (d:Option t'.den) (K:Option t.den->Prop):Prop:=Eq.rec (motive:=λt _=>(Option t.den->Prop)->Prop) (λK=>K d) h K
theorem Zpi {t' t:Ty} (h:t'=t) (d:Option t'.den) (K:Option t.den->Prop):Zvu h d K=K (h▸d):=by subst h;rfl
theorem Zph {t' t:Ty} (h:t'=t) (d:List t'.den) (K:List t.den->Prop):Zqq h d K=K (h▸d):=by subst h;rfl
def Ty.size:Ty->Nat
 | .unit=>0
 | .pair a b=>a.size+b.size
 | _=>1
def Ty.agg:Ty->Bool
 | .unit=>true
 | .pair _ _=>true
 | _=>false
def Ty.flat:Ty->Bool
 | .sl _=>false
 | .ptr _=>false
 | .fn _ _=>false
 | .nptr _=>false
 | .mp _ _=>false
 | .pair a b=>a.flat&&b.flat
 | _=>true
def XZ {α:Type} (R:α->List Value->Prop):List α->List Value->Prop
 | [],xs=>xs=[]
 | d::l,xs=>∃ v1 v2,xs=v1++v2/\R d v1/\XZ R l v2
def Zf6 (agg:Bool) (v:Value):Prop:=(agg=true->∃ cs,v=.agg cs)/\(agg=false->v.cells=#[v])
def ZcX {α β:Type} (R:α->List Value->Prop) (Q:β->List Value->Prop) (ka va:Bool):List (α×β)->List MapEntry->Prop
 | [],es=>es=[]
 | d::l,es=>∃ e r,es=e::r/\Zf6 ka e.key/\R d.1 e.key.cells.toList/\Zf6 va e.val/\Q d.2 e.val.cells.toList/\ZcX R Q ka va l r
def rep (S:Nat->Prop) (w:World):(t:Ty)->t.den->List Value->Prop
 | .int k,n,vs=>vs=[.int k n]
 | .bool,b,vs=>vs=[.bool b]
 | .str,s,vs=>vs=[.string ⟨s.toArray⟩]
 | .sl t,l,vs=>∃ a cap,vs=[.slice a l.length cap]/\l.length<=cap/\(a=none->cap=0)/\
   (l=[]\/∃ p xs,a=some p/\p.spot=none/\S p.block/\(∀ j u,xs[j]?=some u->w.cell? (p.add j)=some u)/\XZ (rep S w t) l xs)
 | .unit,_,vs=>vs=[]
 | .pair a b,d,vs=>∃ v1 v2,vs=v1++v2/\rep S w a d.1 v1/\rep S w b d.2 v2
 | .ptr t,d,vs=>∃ p xs,vs=[.pointer (some p)]/\p.spot=none/\S p.block/\(∀ j u,xs[j]?=some u->w.cell? (p.add j)=some u)/\rep S w t d xs
 | .fn f t,d,vs=>∃ xs,vs=[.func (.func f) #[] xs.toArray]/\rep S w t d xs
 | .nptr t,d,vs=>(d=none/\vs=[.pointer none])\/∃ x p xs,d=some x/\vs=[.pointer (some p)]/\p.spot=none/\S p.block/\(∀ j u,xs[j]?=some u->w.cell? (p.add j)=some u)/\rep S w t x xs
 | .mp k v,d,vs=>(d=[]/\vs=[.map none])\/∃ b es clk,vs=[.map (some b)]/\S b/\w.heap[b]?=some (.map es clk)/\ZcX (rep S w k) (rep S w v) k.agg v.agg d es.toList
theorem QD {α:Type} {R R':α->List Value->Prop} (h:∀ d vs,R d vs->R' d vs):∀ l xs,XZ R l xs->XZ R' l xs
 | [],_,e=>e
 | _::l,_,⟨v1,v2,e,r,rs⟩=>⟨v1,v2,e,h _ _ r,QD h l _ rs⟩
theorem Zan {α β:Type} {R R':α->List Value->Prop} {Q Q':β->List Value->Prop} {ka va:Bool} (h:∀ d vs,R d vs->R' d vs) (h':∀ d vs,Q d vs->Q' d vs):∀ l es,ZcX R Q ka va l es->ZcX R' Q' ka va l es
 | [],_,e=>e
 | _::l,_,⟨e,r,e1,f1,r1,f2,r2,rs⟩=>⟨e,r,e1,f1,h _ _ r1,f2,h' _ _ r2,Zan h h' l _ rs⟩
theorem Z7 {S S':Nat->Prop} {w w':World} (hS:∀ b,S b->S' b) (hw:∀ b,S b->w'.heap[b]?=w.heap[b]?) :
  ∀ (t:Ty) (d:t.den) (vs:List Value),rep S w t d vs->rep S' w' t d vs
 | .int _,_,_,h=>h
 | .bool,_,_,h=>h
 | .str,_,_,h=>h
 | .unit,_,_,h=>h
 | .pair a b,_,_,⟨v1,v2,e,ha,hb⟩=>⟨v1,v2,e,Z7 hS hw a _ _ ha,Z7 hS hw b _ _ hb⟩
 | .ptr t,_,_,⟨p,xs,e,hp,hSp,hx,hr⟩=>⟨p,xs,e,hp,hS _ hSp,λj u hu=>by
     have hb:(p.add j).block=p.block:=by unfold Addr.add;split<;>rfl
     rw[World.cell?_of_block (w:=w) (by rw[hb];exact hw _ hSp)];exact hx j u hu,Z7 hS hw t _ _ hr⟩
 | .fn _ t,_,_,⟨xs,e,hr⟩=>⟨xs,e,Z7 hS hw t _ _ hr⟩
 | .nptr t,_,_,.inl h=>.inl h
 | .nptr t,_,_,.inr ⟨x,p,xs,e0,e,hp,hSp,hx,hr⟩=>.inr ⟨x,p,xs,e0,e,hp,hS _ hSp,λj u hu=>by
     have hb:(p.add j).block=p.block:=by unfold Addr.add;split<;>rfl
     rw[World.cell?_of_block (w:=w) (by rw[hb];exact hw _ hSp)];exact hx j u hu,Z7 hS hw t _ _ hr⟩
 | .mp k v,_,_,.inl h=>.inl h
 | .mp k v,_,_,.inr ⟨b,es,clk,e,hb,hh,h⟩=>.inr ⟨b,es,clk,e,hS _ hb,by rw[hw _ hb];exact hh,Zan (λd vs=>Z7 hS hw k d vs) (λd vs=>Z7 hS hw v d vs) _ _ h⟩
 | .sl t,_,_,⟨a,cap,e,hc,hn,h⟩=>⟨a,cap,e,hc,hn,by
   rcases h with h | ⟨p,xs,ha,hp,hSp,hx,hr⟩
   ·exact .inl h
   ·exact .inr ⟨p,xs,ha,hp,hS _ hSp,λj u hu=>by
     have hb:(p.add j).block=p.block:=by unfold Addr.add;split<;>rfl
     rw[World.cell?_of_block (w:=w) (by rw[hb];exact hw _ hSp)];exact hx j u hu,
     QD (λd vs=>Z7 hS hw t d vs) _ _ hr⟩⟩
theorem ZgJ {S S':Nat->Prop} {w w':World}:∀ (t:Ty),t.flat=true->∀ (d:t.den) (vs:List Value),rep S w t d vs->rep S' w' t d vs
 | .int _,_,_,_,h=>h
 | .bool,_,_,_,h=>h
 | .str,_,_,_,h=>h
 | .unit,_,_,_,h=>h
 | .pair a b,hf,_,_,⟨v1,v2,e,ha,hb⟩=>by
   simp only[Ty.flat,Bool.and_eq_true] at hf;exact ⟨v1,v2,e,ZgJ a hf.1 _ _ ha,ZgJ b hf.2 _ _ hb⟩
 | .sl _,hf,_,_,_=>by simp[Ty.flat] at hf
 | .ptr _,hf,_,_,_=>by simp[Ty.flat] at hf
 | .fn _ _,hf,_,_,_=>by simp[Ty.flat] at hf
 | .nptr _,hf,_,_,_=>by simp[Ty.flat] at hf
 | .mp _ _,hf,_,_,_=>by simp[Ty.flat] at hf
theorem Xj {S:Nat->Prop} {w:World}:∀ (t:Ty) (d:t.den) (vs:List Value),rep S w t d vs->vs.length=t.size
 | .int _,_,_,h=>by cases h;rfl
 | .bool,_,_,h=>by cases h;rfl
 | .str,_,_,h=>by cases h;rfl
 | .unit,_,_,h=>by cases h;rfl
 | .pair a b,_,_,⟨v1,v2,e,ha,hb⟩=>by
   have h1:=Xj a _ _ ha;have h2:=Xj b _ _ hb;subst e;simp[Ty.size,h1,h2]
 | .sl _,_,_,⟨a,cap,e,_⟩=>by subst e;rfl
 | .ptr _,_,_,⟨_,_,e,_⟩=>by subst e;rfl
 | .fn _ _,_,_,⟨_,e,_⟩=>by subst e;rfl
 | .nptr _,_,_,.inl ⟨_,e⟩=>by subst e;rfl
 | .nptr _,_,_,.inr ⟨_,_,_,_,e,_⟩=>by subst e;rfl
 | .mp _ _,_,_,.inl ⟨_,e⟩=>by subst e;rfl
 | .mp _ _,_,_,.inr ⟨_,_,_,e,_⟩=>by subst e;rfl
theorem Zh3 {α:Type} {R:α->List Value->Prop} {n:Nat} (hn:∀ d vs,R d vs->vs.length=n):∀ l xs,XZ R l xs->xs.length=l.length*n
 | [],xs,e=>by cases e;simp
 | d::l,xs,⟨v1,v2,e,r,rs⟩=>by
   subst e;have h1:=hn _ _ r;have h2:=Zh3 hn l _ rs;simp[h1,h2,Nat.succ_mul,Nat.add_comm]
theorem ZfH {α:Type} {R:α->List Value->Prop}:∀ l l' xs xs',XZ R l xs->XZ R l' xs'->XZ R (l++l') (xs++xs')
 | [],_,_,_,e,h=>by cases e;exact h
 | d::l,l',_,xs',⟨v1,v2,e,r,rs⟩,h=>⟨v1,v2++xs',by subst e;simp,r,ZfH l l' v2 xs' rs h⟩
theorem Zfd {α:Type} {R:α->List Value->Prop} {n:Nat} (hn:∀ d vs,R d vs->vs.length=n):∀ l xs,XZ R l xs->∀ i d,l[i]?=some d->
  ∃ vs,R d vs/\∀ j u,vs[j]?=some u->xs[i*n+j]?=some u
 | [],_,_,i,d,h=>by simp at h
 | d0::l,xs,⟨v1,v2,e,r,rs⟩,0,d,h=>by
   simp at h;subst h;subst e;refine ⟨v1,r,λj u hu=>?_⟩;have hj:j<v1.length:=(List.getElem?_eq_some_iff.1 hu).1;simp[List.getElem?_append_left hj,hu]
 | d0::l,xs,⟨v1,v2,e,r,rs⟩,i+1,d,h=>by
   simp at h;subst e;obtain ⟨vs,hr,hx⟩:=Zfd hn l v2 rs i d h;refine ⟨vs,hr,λj u hu=>?_⟩;have h1:=hn _ _ r;rw[List.getElem?_append_right (by rw[h1,Nat.succ_mul];omega),h1];rw[show (i+1)*n+j-n=i*n+j by rw[Nat.succ_mul];omega];exact hx j u hu
theorem Zhl {α:Type} {R:α->List Value->Prop} {n:Nat} (hn:∀ d vs,R d vs->vs.length=n):∀ l xs,XZ R l xs->∀ i,
  XZ R (l.drop i) (xs.drop (i*n))
 | [],_,e,i=>by cases e;simp[XZ]
 | d0::l,xs,h,0=>by simpa using h
 | d0::l,xs,⟨v1,v2,e,r,rs⟩,i+1=>by
   subst e;have h1:=hn _ _ r;have h2:=Zhl hn l v2 rs i;rw[List.drop_succ_cons,show (i+1)*n=v1.length+i*n by rw[h1,Nat.succ_mul];omega,<-List.drop_drop,List.drop_left];exact h2
theorem Zhm {α:Type} {R:α->List Value->Prop} {n:Nat} (hn:∀ d vs,R d vs->vs.length=n):∀ l xs,XZ R l xs->∀ i,
  XZ R (l.take i) (xs.take (i*n))
 | [],_,e,i=>by cases e;simp[XZ]
 | d0::l,xs,h,0=>by simp[XZ]
 | d0::l,xs,⟨v1,v2,e,r,rs⟩,i+1=>by
   subst e;have h1:=hn _ _ r;have h2:=Zhm hn l v2 rs i;rw[List.take_succ_cons,show (i+1)*n=v1.length+i*n by rw[h1,Nat.succ_mul];omega,List.take_append];exact ⟨v1,_,by simp[List.take_of_length_le],r,h2⟩
theorem ZlX {α:Type} {R:α->List Value->Prop} {n:Nat} (hn:∀ d vs,R d vs->vs.length=n):∀ l xs,XZ R l xs->∀ i d vs,i<l.length->R d vs->
  XZ R (l.set i d) (xs.take (i*n)++vs++xs.drop (i*n+n))
 | [],_,_,i,_,_,h,_=>by simp at h
 | d0::l,xs,⟨v1,v2,e,r,rs⟩,0,d,vs,_,hr=>by
   subst e;have h1:=hn _ _ r;refine ⟨vs,v2,by simp[List.drop_append,h1],hr,rs⟩
 | d0::l,xs,⟨v1,v2,e,r,rs⟩,i+1,d,vs,hi,hr=>by
   subst e;have h1:=hn _ _ r;have h2:=ZlX hn l v2 rs i d vs (by simpa using hi) hr;refine ⟨v1,_,?_,r,h2⟩;rw[show (i+1)*n=v1.length+i*n by rw[h1,Nat.succ_mul];omega,show v1.length+i*n+n=v1.length+(i*n+n) by omega,List.take_append,List.drop_append];simp[List.take_of_length_le]
inductive SV
 | bot
 | int (k:IntKind) (n:Int)
 | bool (b:Bool)
 | blit (b:Bool)
 | str (s:List UInt8)
 | sl (t:Ty) (d:List t.den)
 | nsl
 | ptr (id off:Nat)
 | own (id:Nat)
 | oep (id:Nat) (sz:Nat) (i:Int) (off:Nat)
 | fptr (cells:List SV)
 | agg (cells:List SV)
 | tup (cells:List SV)
 | fn (f:FuncId) (caps:List SV)
 | nilp
 | nptr (t:Ty) (d:Option t.den)
 | mown (id:Nat)
 | mp (k v:Ty) (d:List (k.den×v.den))
structure Env where
 S:Nat->Prop
 w:World
 ids:List Value
mutual
def den (E:Env):SV->Value->Prop
 | .bot,_=>True
 | .int k n,v=>v=.int k n
 | .bool b,v=>v=.bool b
 | .blit b,v=>v=.bool b
 | .str s,v=>v=.string ⟨s.toArray⟩
 | .sl t d,v=>rep E.S E.w (.sl t) d [v]
 | .nsl,v=>v=.slice none 0 0
 | .ptr id off,v=>∃ b,E.ids[id]?=some (.pointer (some ⟨b,0,none⟩))/\v=.pointer (some ⟨b,off,none⟩)
 | .own id,v=>E.ids[id]?=some v/\∃ a n c,v=.slice a n c
 | .oep id sz i off,v=>∃ b bo n c,E.ids[id]?=some (.slice (some ⟨b,bo,none⟩) n c)/\v=.pointer (some ⟨b,bo+(i.toNat*sz+off),none⟩)
 | .fptr cs,v=>∃ p vs,v=.pointer (some p)/\p.spot=none/\E.S p.block/\(∀ j u,vs[j]?=some u->E.w.cell? (p.add j)=some u)/\ZT E cs vs
 | .agg cs,v=>∃ vs,v=.agg vs.toArray/\ZT E cs vs
 | .tup cs,v=>∃ vs,v=.tuple vs.toArray/\ZT E cs vs
 | .fn f cs,v=>∃ vs,v=.func (.func f) #[] vs.toArray/\ZT E cs vs
 | .nilp,v=>v=.pointer none
 | .nptr t d,v=>rep E.S E.w (.nptr t) d [v]
 | .mown id,v=>E.ids[id]?=some v/\∃ b,v=.map (some b)
 | .mp k e d,v=>rep E.S E.w (.mp k e) d [v]
def ZT (E:Env):List SV->List Value->Prop
 | [],[]=>True
 | c::cs,v::vs=>den E c v/\ZT E cs vs
 | _,_=>False
end
structure Env.le (E E':Env):Prop where
 S:∀ b,E.S b->E'.S b
 w:∀ b,E.S b->E'.w.heap[b]?=E.w.heap[b]?
 ids:∀ (i:Nat) (v:Value),E.ids[i]?=some v->E'.ids[i]?=some v
theorem Env.le.refl (E:Env):E.le E:=⟨λ_ h=>h,λ_ _=>rfl,λ_ _ h=>h⟩
theorem Env.le.trans {A B C:Env} (h:A.le B) (k:B.le C):A.le C :=
 ⟨λb hb=>k.S b (h.S b hb),λb hb=>(k.w b (h.S b hb)).trans (h.w b hb),λi v hv=>k.ids i v (h.ids i v hv)⟩
theorem add_block (p:Addr) (j:Nat):(p.add j).block=p.block:=by unfold Addr.add;split<;>rfl
theorem add_add (p:Addr) (i j:Nat) (hp:p.spot=none):(p.add i).add j=p.add (i+j):=by
 unfold Addr.add;by_cases h1:i=0
 ·simp[h1]
 ·by_cases h2:j=0
  ·simp[h1,h2]
  ·have:¬(i+j=0):=by omega
   simp[h1,h2,Nat.add_assoc]
theorem Zmf (p:Addr) (i:Nat) (hp:p.spot=none):(p.add i).spot=none:=by unfold Addr.add;split<;>simp[hp]
theorem add_eq (b o j:Nat):(⟨b,o,none⟩:Addr).add j=⟨b,o+j,none⟩:=by unfold Addr.add;split<;>simp_all
mutual
theorem ZdX {E E':Env} (h:E.le E'):∀ (s:SV) (v:Value),den E s v->den E' s v
 | .bot,_,_=>trivial
 | .int _ _,_,e=>e
 | .bool _,_,e=>e
 | .blit _,_,e=>e
 | .str _,_,e=>e
 | .sl t d,v,e=>Z7 h.S h.w (.sl t) d [v] e
 | .nsl,_,e=>e
 | .ptr _ _,_,⟨b,e1,e2⟩=>⟨b,h.ids _ _ e1,e2⟩
 | .own _,_,⟨e1,e2⟩=>⟨h.ids _ _ e1,e2⟩
 | .oep _ _ _ _,_,⟨b,bo,n,c,e1,e2⟩=>⟨b,bo,n,c,h.ids _ _ e1,e2⟩
 | .fptr cs,_,⟨p,vs,e1,e2,e3,e4,e5⟩=>⟨p,vs,e1,e2,h.S _ e3,λj u hu=>by
   rw[World.cell?_of_block (w:=E.w) (by rw[add_block];exact h.w _ e3)];exact e4 j u hu,ZE h cs vs e5⟩
 | .agg cs,_,⟨vs,e1,e2⟩=>⟨vs,e1,ZE h cs vs e2⟩
 | .tup cs,_,⟨vs,e1,e2⟩=>⟨vs,e1,ZE h cs vs e2⟩
 | .fn _ cs,_,⟨vs,e1,e2⟩=>⟨vs,e1,ZE h cs vs e2⟩
 | .nilp,_,e=>e
 | .nptr t d,v,e=>Z7 h.S h.w (.nptr t) d [v] e
 | .mown _,_,⟨e1,e2⟩=>⟨h.ids _ _ e1,e2⟩
 | .mp k u d,v,e=>Z7 h.S h.w (.mp k u) d [v] e
theorem ZE {E E':Env} (h:E.le E'):∀ (cs:List SV) (vs:List Value),ZT E cs vs->ZT E' cs vs
 | [],[],_=>trivial
 | c::cs,v::vs,⟨e1,e2⟩=>⟨ZdX h c v e1,ZE h cs vs e2⟩
 | [],_::_,e=>e
 | _::_,[],e=>e
end
theorem Yl {E:Env}:∀ (cs:List SV) (vs:List Value),ZT E cs vs->cs.length=vs.length
 | [],[],_=>rfl
 | c::cs,v::vs,h=>by simp only[ZT] at h;simp[Yl cs vs h.2]
 | [],_::_,h=>by simp[ZT] at h
 | _::_,[],h=>by simp[ZT] at h
theorem ZtA {E:Env}:∀ (cs:List SV) (vs:List Value),ZT E cs vs->∀ (i:Nat) (c:SV),cs[i]?=some c->∃ v,vs[i]?=some v/\den E c v
 | [],[],_,i,c,h=>by simp at h
 | c0::cs,v0::vs,h,0,c,hc=>by simp only[ZT] at h;simp at hc;subst hc;exact ⟨v0,rfl,h.1⟩
 | c0::cs,v0::vs,h,i+1,c,hc=>by simp only[ZT] at h;simpa using ZtA cs vs h.2 i c (by simpa using hc)
 | [],_::_,h,_,_,_=>by simp[ZT] at h
 | _::_,[],h,_,_,_=>by simp[ZT] at h
theorem Zdj {E:Env}:∀ (cs:List SV) (vs:List Value),ZT E cs vs->∀ i c v,den E c v->ZT E (cs.set i c) (vs.set i v)
 | [],[],h,i,c,v,_=>by simpa using h
 | c0::cs,v0::vs,h,0,c,v,hc=>by simp only[ZT] at h;exact ⟨hc,h.2⟩
 | c0::cs,v0::vs,h,i+1,c,v,hc=>by simp only[ZT] at h;exact ⟨h.1,Zdj cs vs h.2 i c v hc⟩
 | [],_::_,h,_,_,_,_=>by simp[ZT] at h
 | _::_,[],h,_,_,_,_=>by simp[ZT] at h
theorem Jw {E:Env}:∀ (cs:List SV) (vs:List Value),ZT E cs vs->∀ cs' vs',ZT E cs' vs'->ZT E (cs++cs') (vs++vs')
 | [],[],_,_,_,h'=>h'
 | c::cs,v::vs,h,cs',vs',h'=>by simp only[ZT] at h;exact ⟨h.1,Jw cs vs h.2 cs' vs' h'⟩
 | [],_::_,h,_,_,_=>by simp[ZT] at h
 | _::_,[],h,_,_,_=>by simp[ZT] at h
theorem Vv {E:Env}:∀ (cs:List SV) (vs:List Value),ZT E cs vs->∀ i,ZT E (cs.drop i) (vs.drop i)
 | cs,vs,h,0=>by simpa using h
 | [],[],_,i+1=>by simp[ZT]
 | c::cs,v::vs,h,i+1=>by simp only[ZT] at h;simpa using Vv cs vs h.2 i
 | [],_::_,h,_+1=>by simp[ZT] at h
 | _::_,[],h,_+1=>by simp[ZT] at h
theorem Zej {E:Env}:∀ (cs:List SV) (vs:List Value),ZT E cs vs->∀ i,ZT E (cs.take i) (vs.take i)
 | cs,vs,h,0=>by simp[ZT]
 | [],[],_,i+1=>by simp[ZT]
 | c::cs,v::vs,h,i+1=>by simp only[ZT] at h;simp only[List.take_succ_cons,ZT];exact ⟨h.1,Zej cs vs h.2 i⟩
 | [],_::_,h,_+1=>by simp[ZT] at h
 | _::_,[],h,_+1=>by simp[ZT] at h
def ZdP:(t:Ty)->t.den->List SV
 | .int k,n=>[.int k n]
 | .bool,b=>[.bool b]
 | .str,s=>[.str s]
 | .sl t,l=>[.sl t l]
 | .unit,_=>[]
 | .pair a b,d=>ZdP a d.1++ZdP b d.2
 | .ptr t,d=>[.fptr (ZdP t d)]
 | .fn f t,d=>[.fn f (ZdP t d)]
 | .nptr t,d=>[.nptr t d]
 | .mp k v,d=>[.mp k v d]
theorem Y0 {E:Env}:∀ (t:Ty) (d:t.den) (vs:List Value),rep E.S E.w t d vs->ZT E (ZdP t d) vs
 | .int _,_,_,h=>by cases h;exact ⟨rfl,trivial⟩
 | .bool,_,_,h=>by cases h;exact ⟨rfl,trivial⟩
 | .str,_,_,h=>by cases h;exact ⟨rfl,trivial⟩
 | .unit,_,_,h=>by cases h;exact trivial
 | .sl t,l,vs,h=>by
   have h':=h;obtain ⟨a,cap,e,_⟩:=h;subst e;exact ⟨h',trivial⟩
 | .pair a b,_,_,⟨v1,v2,e,ha,hb⟩=>by
   subst e;exact Jw _ _ (Y0 a _ _ ha) _ _ (Y0 b _ _ hb)
 | .ptr t,_,_,⟨p,xs,e,hp,hS,hx,hr⟩=>by
   subst e;exact ⟨⟨p,xs,rfl,hp,hS,hx,Y0 t _ _ hr⟩,trivial⟩
 | .fn f t,_,_,⟨xs,e,hr⟩=>by
   subst e;exact ⟨⟨xs,rfl,Y0 t _ _ hr⟩,trivial⟩
 | .nptr t,d,vs,h=>by
   have h':=h;rcases h with ⟨_,e⟩ | ⟨_,_,_,_,e,_⟩<;>subst e<;>exact ⟨h',trivial⟩
 | .mp k v,d,vs,h=>by
   have h':=h;rcases h with ⟨_,e⟩ | ⟨_,_,_,e,_⟩<;>subst e<;>exact ⟨h',trivial⟩
end Go.Sx
