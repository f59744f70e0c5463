/-
  Ground of the models: functions as Lean functions that may fail (Option), loops as iteration; and how a verification condition is met by a model.
-/
import Derived.Test.YtgjjlgodlhhdoaaGreatDoorSxFn
namespace Go.Sx
set_option linter.unusedVariables false
set_option linter.unusedSimpArgs false
def YB {α:Type} (o:Option α) (k:α->Prop):Prop:=∃ r,o=some r/\k r
def iterM {σ ρ:Type} (step:σ->Option (σ ⊕ ρ)):Nat->σ->Option ρ
 | 0,_=>none
 | n+1,v=>match step v with
  | none=>none
  | some (.inl v')=>iterM step n v'
  | some (.inr r)=>some r
theorem ZiA {σ ρ:Type} {step:σ->Option (σ ⊕ ρ)} {r:ρ}:∀ {n m:Nat} {v:σ},iterM step n v=some r->n<=m->iterM step m v=some r
 | 0,_,_,h,_=>by simp[iterM] at h
 | n+1,0,_,_,hm=>by omega
 | n+1,m+1,v,h,hm=>by
  simp only[iterM] at h ⊢;split at h
  ·cases h
  ·exact ZiA h (by omega)
  ·exact h
theorem Zr8 {σ ρ:Type} {step:σ->Option (σ ⊕ ρ)} {r r':ρ} {n m:Nat} {v:σ} (h:iterM step n v=some r) (h':iterM step m v=some r'):r=r':=by
 have h1:=ZiA h (Nat.le_max_left n m);have h2:=ZiA h' (Nat.le_max_right n m);rw[h1] at h2;injection h2
noncomputable def Zp {σ ρ:Type} (step:σ->Option (σ ⊕ ρ)) (v:σ):Option ρ :=
 open Classical in if h:∃ r n,iterM step n v=some r then some (Classical.choose h) else none
theorem ZfV {σ ρ:Type} {step:σ->Option (σ ⊕ ρ)} {v:σ} {r:ρ}:Zp step v=some r<->∃ n,iterM step n v=some r:=by
 unfold Zp;constructor
 ·intro h
  split at h
  ·rename_i hx
   obtain ⟨n,hn⟩:=Classical.choose_spec hx;injection h with h;rw[h] at hn;exact ⟨n,hn⟩
  ·cases h
 ·rintro ⟨n,hn⟩
  have hx:∃ r n,iterM step n v=some r:=⟨r,n,hn⟩;rw[dif_pos hx];obtain ⟨m,hm⟩:=Classical.choose_spec hx;rw[Zr8 hm hn]
theorem Zoi {σ ρ:Type} (step:σ->Option (σ ⊕ ρ)) (v:σ):Zp step v=match step v with
  | none=>none
  | some (.inl v')=>Zp step v'
  | some (.inr r)=>some r:=by
 apply Option.ext;intro r;rw[ZfV];constructor
 ·rintro ⟨n,hn⟩
  cases n with
  | zero=>simp[iterM] at hn
  | succ n =>
   simp only[iterM] at hn;split
   ·rename_i e;rw[e] at hn;cases hn
   ·rename_i v' e;rw[e] at hn;exact ZfV.2 ⟨n,hn⟩
   ·rename_i r' e;rw[e] at hn;exact hn
 ·intro h
  split at h
  ·cases h
  ·rename_i v' e
   obtain ⟨n,hn⟩:=ZfV.1 h;exact ⟨n+1,by simp only[iterM,e];exact hn⟩
  ·rename_i r' e
   exact ⟨1,by simp only[iterM,e];exact h⟩
theorem YM {σ ρ:Type} {step:σ->Option (σ ⊕ ρ)} {v v':σ} (h:step v=some (.inl v')):Zp step v=Zp step v':=by rw[Zoi,h]
theorem YL {σ ρ:Type} {step:σ->Option (σ ⊕ ρ)} {v:σ} {r:ρ} (h:step v=some (.inr r)):Zp step v=some r:=by rw[Zoi,h]
theorem Zee {σ ρ:Type} {step:σ->Option (σ ⊕ ρ)} (I:σ->Prop) (μ:σ->Nat) (Q:ρ->Prop) {v:σ} (h0:I v)
  (hs:∀ v,I v->(∃ v',step v=some (.inl v')/\I v'/\μ v'<μ v)\/∃ r,step v=some (.inr r)/\Q r):∃ r,Zp step v=some r/\Q r:=by
 have:∀ n v,I v->μ v<n->∃ r,Zp step v=some r/\Q r:=by
  intro n;induction n with
  | zero=>intro v _ h;omega
  | succ n ih =>
   intro v hI hn;rcases hs v hI with ⟨v',e,hI',hlt⟩ | ⟨r,e,hq⟩
   ·obtain ⟨r,h1,h2⟩:=ih v' hI' (by omega)
    exact ⟨r,by rw[YM e];exact h1,h2⟩
   ·exact ⟨r,YL e,hq⟩
 exact this (μ v+1) v h0 (by omega)
def atI {α:Type} (l:List α) (i:Int):Option α:=if 0<=i then l[i.toNat]? else none
noncomputable def Zw {α:Type} (p:Prop) (a:Option α):Option α:=open Classical in if p then a else none
section
variable {α β:Type} {A B:Prop} {r:β} {a b:Option β}
theorem ZBN {α:Type} {F T r:α} (h:F=r) (e:F=T):T=r:=e▸h
theorem ZlD {q:Prop} {_:Decidable q} (h:(if q then a else b)=some r) (ha:a=some r->A) (hb:b=some r->B):(decide q=true->A)/\(decide q=false->B):=by
 by_cases hq:q
 ·rw[if_pos hq] at h;exact ⟨λ_=>ha h,λe=>by simp[hq] at e⟩
 ·rw[if_neg hq] at h;exact ⟨λe=>by simp[hq] at e,λ_=>hb h⟩
theorem Zq7 {q:Prop} {_:Decidable q} (h:(if q then a else b)=some r) (ha:a=some r->A) (hb:b=some r->B):(decide q=false->B)/\(decide q=true->A):=⟨(ZlD h ha hb).2,(ZlD h ha hb).1⟩
theorem Zs5 {p:Bool} (h:(if p=true then a else b)=some r) (ha:a=some r->A) (hb:b=some r->B):(p=true->A)/\(p=false->B):=by
 cases p
 ·exact ⟨λe=>(by cases e),λ_=>hb h⟩
 ·exact ⟨λ_=>ha h,λe=>(by cases e)⟩
theorem Zs6 {p:Bool} (h:(if p=true then a else b)=some r) (ha:a=some r->A) (hb:b=some r->B):(p=false->B)/\(p=true->A):=⟨(Zs5 h ha hb).2,(Zs5 h ha hb).1⟩
theorem Zwh {p:Bool} (h:(p=true->A)/\(p=false->B)):((!p)=false->A)/\((!p)=true->B):=⟨λe=>h.1 (by simpa using e),λe=>h.2 (by simpa using e)⟩
theorem Zo7 {p:Bool} (h:(p=true->A)/\(p=false->B)):((!p)=true->B)/\((!p)=false->A):=⟨(Zwh h).2,(Zwh h).1⟩
theorem Zs7 {p:Prop} (h:Zw p a=some r) (ha:p->a=some r->A):p/\A:=by
 unfold Zw at h;split at h
 ·rename_i hp;exact ⟨hp,ha hp h⟩
 ·cases h
theorem vAt {l:List α} {i:Int} {f:α->Option β} {A:α->Prop} (h:(atI l i).bind f=some r) (ha:∀ x,0<=i->i<(l.length:Int)->l[i.toNat]?=some x->f x=some r->A x) :
  0<=i/\i<(l.length:Int)/\∀ x,l[i.toNat]?=some x->A x:=by
 unfold atI at h;split at h
 ·rename_i h0
  cases hx:l[i.toNat]? with
  | none=>rw[hx] at h;cases h
  | some x =>
   rw[hx] at h;have hlt:=(List.getElem?_eq_some_iff.1 hx).1;exact ⟨h0,by omega,λy hy=>by injection hy with hy;subst hy;exact ha x h0 (by omega) hx h⟩
 ·cases h
theorem atE {l:List α} {i:Int} {f:α->Option β} (h:(atI l i).bind f=some r):∃ x,0<=i/\i<(l.length:Int)/\l[i.toNat]?=some x/\f x=some r:=by
 unfold atI at h;split at h
 ·rename_i h0
  cases hx:l[i.toNat]? with
  | none=>rw[hx] at h;cases h
  | some x =>
   rw[hx] at h;have hlt:=(List.getElem?_eq_some_iff.1 hx).1;exact ⟨x,h0,by omega,rfl,h⟩
 ·cases h
theorem guardE {p:Prop} (h:Zw p a=some r):p/\a=some r:=by
 unfold Zw at h;split at h
 ·rename_i hp;exact ⟨hp,h⟩
 ·cases h
theorem ZaJ {o:Option α} {f:α->Option β} {k:α->Prop} (h:o.bind f=some r) (hk:∀ x,o=some x->f x=some r->k x):∃ x,o=some x/\k x:=by
 cases ho:o with
 | none=>rw[ho] at h;cases h
 | some x=>rw[ho] at h;exact ⟨x,rfl,hk x ho h⟩
theorem ZlC {o:Option α} {f:α->Option β} {k:α->Prop} (h:o.bind f=some r) (hk:∀ x,o=some x->f x=some r->k x):∀ x,o=some x->k x:=by
 intro x hx;rw[hx] at h;exact hk x hx h
theorem Yd {o:Option α} {y:α} {G:α->Prop} (ha:o=some y) (k:G y):∀ x,o=some x->G x:=by
 intro x hx;rw[ha] at hx;injection hx with hx;subst hx;exact k
theorem ZzH {σ ρ:Type} {step:σ->Option (σ ⊕ ρ)} {v0:σ} {r:ρ} (h:Zp step v0=some r) {P:(σ->Prop)->(σ->Nat)->σ->Prop}
  (hb:∀ (I:σ->Prop) (μ:σ->Nat) (v:σ) (s:σ ⊕ ρ),step v=some s->(∀ v',s=.inl v'->I v'/\μ v'<μ v)->(∀ r',s=.inr r'->r'=r)->P I μ v) :
  ∃ I μ,I v0/\∀ v,I v->P I μ v:=by
 obtain ⟨n0,hn0⟩:=ZfV.1 h
 let I:σ->Prop:=λv=>∃ n,iterM step n v=some r
 classical
 let μ:σ->Nat:=λv=>if h:∃ n,iterM step n v=some r then Classical.choose (ZgG h) else 0
 have hμ:∀ v (h:∃ n,iterM step n v=some r),iterM step (μ v) v=some r/\∀ m,iterM step m v=some r->μ v<=m:=by
  intro v h;have:μ v=Classical.choose (ZgG h):=by simp only[μ,dif_pos h]
  rw[this];exact Classical.choose_spec (ZgG h)
 refine ⟨I,μ,⟨n0,hn0⟩,λv hv=>?_⟩;have h1:=(hμ v hv).1;cases hm:μ v with
 | zero=>rw[hm] at h1;simp[iterM] at h1
 | succ m =>
  rw[hm] at h1;simp only[iterM] at h1;split at h1
  ·cases h1
  ·rename_i v' e
   refine hb I μ v _ e (λv'' e'=>?_) (λr' e'=>by cases e');injection e' with e';subst e'
   exact ⟨⟨m,h1⟩,by have:=(hμ v' ⟨m,h1⟩).2 m h1;omega⟩
  ·rename_i r' e
   refine hb I μ v _ e (λv'' e'=>by cases e') (λr'' e'=>?_);injection e' with e';subst e';injection h1
end
def D0 (r:Ty) (f:Option r.den):Ctr:=⟨[],[.dat r],λ_ K=>YB f λr=>K (r,()) ()⟩
def D1 (a r:Ty) (f:a.den->Option r.den):Ctr:=⟨[.dat a],[.dat r],λx K=>splitK x λp _=>YB (f p) λr=>K (r,()) ()⟩
def D2 (a b r:Ty) (f:a.den->b.den->Option r.den):Ctr:=⟨[.dat a,.dat b],[.dat r],λx K=>splitK x λp x=>splitK x λq _=>YB (f p q) λr=>K (r,()) ()⟩
def D3 (a b c r:Ty) (f:a.den->b.den->c.den->Option r.den):Ctr:=⟨[.dat a,.dat b,.dat c],[.dat r],λx K=>splitK x λp x=>splitK x λq x=>splitK x λs _=>YB (f p q s) λr=>K (r,()) ()⟩
def D4 (a b c d r:Ty) (f:a.den->b.den->c.den->d.den->Option r.den):Ctr:=⟨[.dat a,.dat b,.dat c,.dat d],[.dat r],λx K=>splitK x λp x=>splitK x λq x=>splitK x λs x=>splitK x λt _=>YB (f p q s t) λr=>K (r,()) ()⟩
theorem ZzY {A B T:Prop} (h:T->A) (g:T->B) (t:T):A/\B:=⟨h t,g t⟩
theorem share1 {A B:Prop} {T:List Nat->Prop} (h:(∀ x0,T x0)->A) (g:(∀ x0,T x0)->B) (t:∀ x0,T x0):A/\B:=⟨h t,g t⟩
theorem ZzZ {A B:Prop} {T:List Nat->List Nat->Prop} (h:(∀ x0 x1,T x0 x1)->A) (g:(∀ x0 x1,T x0 x1)->B) (t:∀ x0 x1,T x0 x1):A/\B:=⟨h t,g t⟩
theorem Zz0 {A B:Prop} {T:List Nat->List Nat->List Nat->Prop} (h:(∀ x0 x1 x2,T x0 x1 x2)->A) (g:(∀ x0 x1 x2,T x0 x1 x2)->B) (t:∀ x0 x1 x2,T x0 x1 x2):A/\B:=⟨h t,g t⟩
theorem Zz1 {A B:Prop} {T:List Nat->List Nat->List Nat->List Nat->Prop} (h:(∀ x0 x1 x2 x3,T x0 x1 x2 x3)->A) (g:(∀ x0 x1 x2 x3,T x0 x1 x2 x3)->B) (t:∀ x0 x1 x2 x3,T x0 x1 x2 x3):A/\B:=⟨h t,g t⟩
theorem Zz2 {A B:Prop} {T:List Nat->List Nat->List Nat->List Nat->List Nat->Prop} (h:(∀ x0 x1 x2 x3 x4,T x0 x1 x2 x3 x4)->A) (g:(∀ x0 x1 x2 x3 x4,T x0 x1 x2 x3 x4)->B) (t:∀ x0 x1 x2 x3 x4,T x0 x1 x2 x3 x4):A/\B:=⟨h t,g t⟩
theorem Zz3 {A B:Prop} {T:List Nat->List Nat->List Nat->List Nat->List Nat->List Nat->Prop} (h:(∀ x0 x1 x2 x3 x4 x5,T x0 x1 x2 x3 x4 x5)->A) (g:(∀ x0 x1 x2 x3 x4 x5,T x0 x1 x2 x3 x4 x5)->B) (t:∀ x0 x1 x2 x3 x4 x5,T x0 x1 x2 x3 x4 x5):A/\B:=⟨h t,g t⟩
theorem Zz4 {A B:Prop} {T:List Nat->List Nat->List Nat->List Nat->List Nat->List Nat->List Nat->Prop} (h:(∀ x0 x1 x2 x3 x4 x5 x6,T x0 x1 x2 x3 x4 x5 x6)->A) (g:(∀ x0 x1 x2 x3 x4 x5 x6,T x0 x1 x2 x3 x4 x5 x6)->B) (t:∀ x0 x1 x2 x3 x4 x5 x6,T x0 x1 x2 x3 x4 x5 x6):A/\B:=⟨h t,g t⟩
theorem Zz5 {A B:Prop} {T:List Nat->List Nat->List Nat->List Nat->List Nat->List Nat->List Nat->List Nat->Prop} (h:(∀ x0 x1 x2 x3 x4 x5 x6 x7,T x0 x1 x2 x3 x4 x5 x6 x7)->A) (g:(∀ x0 x1 x2 x3 x4 x5 x6 x7,T x0 x1 x2 x3 x4 x5 x6 x7)->B) (t:∀ x0 x1 x2 x3 x4 x5 x6 x7,T x0 x1 x2 x3 x4 x5 x6 x7):A/\B:=⟨h t,g t⟩
theorem ZrN {B:Prop} (k:B):Zwy/\B:=⟨trivial,k⟩
theorem Zw9 {α:Type} {v:α} {G:α->Prop} (k:G v):∀ x,x=v->G x:=λ_ e=>e▸k
theorem ZsM {α:Type} {o:Option α} {G:α->Prop} (k:∀ x,o=some x->G x):∀ x,o=some x->G x:=k
theorem Zxa {α:Type} {o:Option α} {G:α->Prop} (k:∃ x,o=some x/\G x):∃ x,o=some x/\G x:=k
theorem ZeZ {α:Type} {o:Option α} {y:α} {G:α->Prop} (ha:o=some y) (k:G y):∃ x,o=some x/\G x:=⟨y,ha,k⟩
theorem Zw7 {α:Type} {l:List α} {i:Int} {G:α->Prop} (k:0<=i/\i<(l.length:Int)/\∀ x,l[i.toNat]?=some x->G x):0<=i/\i<(l.length:Int)/\∀ x,l[i.toNat]?=some x->G x:=k
theorem ZeX {α:Type} {l:List α} {i:Int} {y:α} {G:α->Prop} (ha:0<=i) (hb:i<(l.length:Int)) (hx:l[i.toNat]?=some y) (k:G y):0<=i/\i<(l.length:Int)/\∀ x,l[i.toNat]?=some x->G x:=⟨ha,hb,Yd hx k⟩
theorem Zw8 {A B:Prop} {p x y:Bool} (k:(p=x->A)/\(p=y->B)):(p=x->A)/\(p=y->B):=k
theorem shD {A B:Prop} {q:Prop} {_:Decidable q} {x y:Bool} (k:(decide q=x->A)/\(decide q=y->B)):(decide q=x->A)/\(decide q=y->B):=k
theorem ZsO {A B:Prop} {p x y:Bool} (k:((!p)=x->A)/\((!p)=y->B)):((!p)=x->A)/\((!p)=y->B):=k
theorem ZsN {α:Type} {l:List α} {A B:Prop} (k:(l=[]->A)/\B):(l=[]->A)/\B:=k
theorem ZsP {l:List Oper} {n:Nat} {K:Oper->Prop} {B:Prop} (k:Zsk l n K/\B):Zsk l n K/\B:=k
theorem orL {α:Type} {a:α} {P Q:Prop} (k:P):(a=a/\P)\/Q:=.inl ⟨rfl,k⟩
theorem ZrG {α:Type} {x:α} {P:Prop} (h:none=some x):P:=by cases h
theorem ZnZ {σ:Type} {P:(σ->Prop)->(σ->Nat)->σ->Prop} {v0:σ} (k:∃ I μ,I v0/\∀ v,I v->P I μ v):∃ I μ,I v0/\∀ v,I v->P I μ v:=k
theorem Zoh {σ ρ:Type} {step:σ->Option (σ ⊕ ρ)} {v0:σ} {r:ρ} (h:Zp step v0=some r) {P:(σ->Prop)->(σ->Nat)->σ->Prop} {G:Prop} (hK:G)
  (hb:∀ (I:σ->Prop) (μ:σ->Nat) (v:σ) (s:σ ⊕ ρ),step v=some s->((∀ v',s=.inl v'->I v'/\μ v'<μ v)/\(∀ r',s=.inr r'->r'=r)/\G)->P I μ v) :
  ∃ I μ,I v0/\∀ v,I v->P I μ v:=ZzH h λI μ v s h1 h2 h3=>hb I μ v s h1 ⟨h2,h3,hK⟩
theorem pB {α β:Type} {o:Option α} {f:α->Option β} {r:β} {G:Prop} (h:o.bind f=some r) (k:∀ x,o=some x->f x=some r->G):G:=by
 obtain ⟨x,h1,h2⟩:=Option.bind_eq_some_iff.1 h;exact k x h1 h2
theorem pA {α β:Type} {l:List α} {i:Int} {f:α->Option β} {r:β} {G:Prop} (h:(atI l i).bind f=some r) (k:∀ x,0<=i->i<(l.length:Int)->l[i.toNat]?=some x->f x=some r->G):G:=by
 obtain ⟨x,h1,h2,h3,h4⟩:=atE h;exact k x h1 h2 h3 h4
theorem pG {α:Type} {p:Prop} {a:Option α} {r:α} {G:Prop} (h:Zw p a=some r) (k:p->a=some r->G):G:=k (guardE h).1 (guardE h).2
theorem pS {α:Type} {a r:α} {G:Prop} (h:some a=some r) (k:a=r->G):G:=k (Option.some.inj h)
theorem pR {σ ρ:Type} {A G P:Prop} {a r:ρ} (h:A/\(∀ r',(.inr a:σ ⊕ ρ)=.inr r'->r'=r)/\G) (k:a=r->G->P):P:=k (h.2.1 _ rfl) h.2.2
noncomputable def ZvX {ρ:Type} (g:Nat->Option ρ):Option ρ :=
 open Classical in if h:∃ r n,g n=some r then some (Classical.choose h) else none
theorem ZsB {ρ:Type} {g:Nat->Option ρ} {r:ρ} (h:ZvX g=some r):∃ n,g n=some r:=by
 unfold ZvX at h;split at h
 ·rename_i hx
  obtain ⟨n,hn⟩:=Classical.choose_spec hx;injection h with h;rw[h] at hn;exact ⟨n,hn⟩
 ·cases h
theorem Zzp {ρ:Type} {g:Nat->Option ρ} {r:ρ} {n:Nat} (hm:∀ n m r,g n=some r->n<=m->g m=some r) (h:g n=some r):ZvX g=some r:=by
 have hx:∃ r n,g n=some r:=⟨r,n,h⟩;unfold ZvX;rw[dif_pos hx];obtain ⟨m,hm'⟩:=Classical.choose_spec hx;have h1:=hm _ _ _ hm' (Nat.le_max_left m n);have h2:=hm _ _ _ h (Nat.le_max_right m n);rw[h1] at h2;exact h2
end Go.Sx
