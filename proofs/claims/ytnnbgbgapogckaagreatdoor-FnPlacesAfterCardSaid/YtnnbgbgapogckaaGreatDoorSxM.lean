/-
  Ground of the models: functions as Lean functions that may fail (Option), loops as iteration; and how a verification condition is met by a model.
-/
import Derived.Test.YtnnbgbgapogckaaGreatDoorSxFn
namespace Go.Sx
set_option linter.unusedVariables false
set_option linter.unusedSimpArgs false
def XU {α:Type} (o:Option α) (k:α→Prop):Prop:=∃ r,o=some r∧k r
def iterM {σ ρ:Type} (step:σ→Option (σ ⊕ ρ)):Nat→σ→Option ρ
 | 0,_=>none
 | n+1,v=>match step v with
  | none=>none
  | some (.inl v')=>iterM step n v'
  | some (.inr r)=>some r
theorem Zcf {σ ρ:Type} {step:σ→Option (σ ⊕ ρ)} {r:ρ}:∀ {n m:Nat} {v:σ},iterM step n v=some r→n≤m→iterM step m v=some r
 | 0,_,_,h,_=>by simp [iterM] at h
 | n+1,0,_,_,hm=>by omega
 | n+1,m+1,v,h,hm=>by
  simp only [iterM] at h ⊢
  split at h
  ·cases h
  ·exact Zcf h (by omega)
  ·exact h
theorem Zjm {σ ρ:Type} {step:σ→Option (σ ⊕ ρ)} {r r':ρ} {n m:Nat} {v:σ} (h:iterM step n v=some r) (h':iterM step m v=some r'):r=r':=by
 have h1:=Zcf h (Nat.le_max_left n m)
 have h2:=Zcf h' (Nat.le_max_right n m)
 rw [h1] at h2;injection h2
noncomputable def ZA {σ ρ:Type} (step:σ→Option (σ ⊕ ρ)) (v:σ):Option ρ :=
 open Classical in if h:∃ r n,iterM step n v=some r then some (Classical.choose h) else none
theorem J9 {σ ρ:Type} {step:σ→Option (σ ⊕ ρ)} {v:σ} {r:ρ}:ZA step v=some r↔∃ n,iterM step n v=some r:=by
 unfold ZA
 constructor
 ·intro h
  split at h
  ·rename_i hx
   obtain ⟨n,hn⟩:=Classical.choose_spec hx
   injection h with h;rw [h] at hn;exact ⟨n,hn⟩
  ·cases h
 ·rintro ⟨n,hn⟩
  have hx:∃ r n,iterM step n v=some r:=⟨r,n,hn⟩
  rw [dif_pos hx]
  obtain ⟨m,hm⟩:=Classical.choose_spec hx
  rw [Zjm hm hn]
theorem Zgz {σ ρ:Type} (step:σ→Option (σ ⊕ ρ)) (v:σ):ZA step v=match step v with
  | none=>none
  | some (.inl v')=>ZA step v'
  | some (.inr r)=>some r:=by
 apply Option.ext
 intro r
 rw [J9]
 constructor
 ·rintro ⟨n,hn⟩
  cases n with
  | zero=>simp [iterM] at hn
  | succ n =>
   simp only [iterM] at hn
   split
   ·rename_i e;rw [e] at hn;cases hn
   ·rename_i v' e;rw [e] at hn;exact J9.2 ⟨n,hn⟩
   ·rename_i r' e;rw [e] at hn;exact hn
 ·intro h
  split at h
  ·cases h
  ·rename_i v' e
   obtain ⟨n,hn⟩:=J9.1 h
   exact ⟨n+1,by simp only [iterM,e];exact hn⟩
  ·rename_i r' e
   exact ⟨1,by simp only [iterM,e];exact h⟩
theorem ZgA {σ ρ:Type} {step:σ→Option (σ ⊕ ρ)} {v v':σ} (h:step v=some (.inl v')):ZA step v=ZA step v':=by rw [Zgz,h]
theorem Zct {σ ρ:Type} {step:σ→Option (σ ⊕ ρ)} {v:σ} {r:ρ} (h:step v=some (.inr r)):ZA step v=some r:=by rw [Zgz,h]
theorem ZeX {σ ρ:Type} {step:σ→Option (σ ⊕ ρ)} (I:σ→Prop) (μ:σ→Nat) (Q:ρ→Prop) {v:σ} (h0:I v)
  (hs:∀ v,I v→(∃ v',step v=some (.inl v')∧I v'∧μ v'<μ v)∨∃ r,step v=some (.inr r)∧Q r):∃ r,ZA step v=some r∧Q r:=by
 have:∀ n v,I v→μ v<n→∃ r,ZA step v=some r∧Q r:=by
  intro n
  induction n with
  | zero=>intro v _ h;omega
  | succ n ih =>
   intro v hI hn
   rcases hs v hI with ⟨v',e,hI',hlt⟩ | ⟨r,e,hq⟩
   ·obtain ⟨r,h1,h2⟩:=ih v' hI' (by omega)
    exact ⟨r,by rw [ZgA e];exact h1,h2⟩
   ·exact ⟨r,Zct e,hq⟩
 exact this (μ v+1) v h0 (by omega)
def atI {α:Type} (l:List α) (i:Int):Option α:=if 0≤i then l[i.toNat]? else none
noncomputable def Zj {α:Type} (p:Prop) (a:Option α):Option α:=open Classical in if p then a else none
section
variable {α β:Type} {A B:Prop} {r:β} {a b:Option β}
theorem ZoV {α:Type} {F T r:α} (h:F=r) (e:F=T):T=r:=e▸h
theorem ZG {q:Prop} {_:Decidable q} (h:(if q then a else b)=some r) (ha:a=some r→A) (hb:b=some r→B):(decide q=true→A)∧(decide q=false→B):=by
 by_cases hq:q
 ·rw [if_pos hq] at h;exact ⟨fun _=>ha h,fun e=>by simp [hq] at e⟩
 ·rw [if_neg hq] at h;exact ⟨fun e=>by simp [hq] at e,fun _=>hb h⟩
theorem ZcV {q:Prop} {_:Decidable q} (h:(if q then a else b)=some r) (ha:a=some r→A) (hb:b=some r→B):(decide q=false→B)∧(decide q=true→A):=⟨(ZG h ha hb).2,(ZG h ha hb).1⟩
theorem Qn {p:Bool} (h:(if p=true then a else b)=some r) (ha:a=some r→A) (hb:b=some r→B):(p=true→A)∧(p=false→B):=by
 cases p
 ·exact ⟨fun e=>(by cases e),fun _=>hb h⟩
 ·exact ⟨fun _=>ha h,fun e=>(by cases e)⟩
theorem Zmk {p:Bool} (h:(if p=true then a else b)=some r) (ha:a=some r→A) (hb:b=some r→B):(p=false→B)∧(p=true→A):=⟨(Qn h ha hb).2,(Qn h ha hb).1⟩
theorem Zj4 {p:Bool} (h:(p=true→A)∧(p=false→B)):((!p)=false→A)∧((!p)=true→B):=⟨fun e=>h.1 (by simpa using e),fun e=>h.2 (by simpa using e)⟩
theorem Yc {p:Bool} (h:(p=true→A)∧(p=false→B)):((!p)=true→B)∧((!p)=false→A):=⟨(Zj4 h).2,(Zj4 h).1⟩
theorem Yk {p:Prop} (h:Zj p a=some r) (ha:p→a=some r→A):p∧A:=by
 unfold Zj at h
 split at h
 ·rename_i hp;exact ⟨hp,ha hp h⟩
 ·cases h
theorem vAt {l:List α} {i:Int} {f:α→Option β} {A:α→Prop} (h:(atI l i).bind f=some r) (ha:∀ x,0≤i→i<(l.length:Int)→l[i.toNat]?=some x→f x=some r→A x) :
  0≤i∧i<(l.length:Int)∧∀ x,l[i.toNat]?=some x→A x:=by
 unfold atI at h
 split at h
 ·rename_i h0
  cases hx:l[i.toNat]? with
  | none=>rw [hx] at h;cases h
  | some x =>
   rw [hx] at h
   have hlt:=(List.getElem?_eq_some_iff.1 hx).1
   exact ⟨h0,by omega,fun y hy=>by injection hy with hy;subst hy;exact ha x h0 (by omega) hx h⟩
 ·cases h
theorem atE {l:List α} {i:Int} {f:α→Option β} (h:(atI l i).bind f=some r):∃ x,0≤i∧i<(l.length:Int)∧l[i.toNat]?=some x∧f x=some r:=by
 unfold atI at h
 split at h
 ·rename_i h0
  cases hx:l[i.toNat]? with
  | none=>rw [hx] at h;cases h
  | some x =>
   rw [hx] at h
   have hlt:=(List.getElem?_eq_some_iff.1 hx).1
   exact ⟨x,h0,by omega,rfl,h⟩
 ·cases h
theorem guardE {p:Prop} (h:Zj p a=some r):p∧a=some r:=by
 unfold Zj at h
 split at h
 ·rename_i hp;exact ⟨hp,h⟩
 ·cases h
theorem Ze {o:Option α} {f:α→Option β} {k:α→Prop} (h:o.bind f=some r) (hk:∀ x,o=some x→f x=some r→k x):∃ x,o=some x∧k x:=by
 cases ho:o with
 | none=>rw [ho] at h;cases h
 | some x=>rw [ho] at h;exact ⟨x,rfl,hk x ho h⟩
theorem ZoU {o:Option α} {f:α→Option β} {k:α→Prop} (h:o.bind f=some r) (hk:∀ x,o=some x→f x=some r→k x):∀ x,o=some x→k x:=by
 intro x hx
 rw [hx] at h;exact hk x hx h
theorem Zh {o:Option α} {y:α} {G:α→Prop} (ha:o=some y) (k:G y):∀ x,o=some x→G x:=by
 intro x hx
 rw [ha] at hx;injection hx with hx;subst hx;exact k
theorem YH {σ ρ:Type} {step:σ→Option (σ ⊕ ρ)} {v0:σ} {r:ρ} (h:ZA step v0=some r) {P:(σ→Prop)→(σ→Nat)→σ→Prop}
  (hb:∀ (I:σ→Prop) (μ:σ→Nat) (v:σ) (s:σ ⊕ ρ),step v=some s→(∀ v',s=.inl v'→I v'∧μ v'<μ v)→(∀ r',s=.inr r'→r'=r)→P I μ v) :
  ∃ I μ,I v0∧∀ v,I v→P I μ v:=by
 obtain ⟨n0,hn0⟩:=J9.1 h
 let I:σ→Prop:=fun v=>∃ n,iterM step n v=some r
 classical
 let μ:σ→Nat:=fun v=>if h:∃ n,iterM step n v=some r then Classical.choose (ZaN h) else 0
 have hμ:∀ v (h:∃ n,iterM step n v=some r),iterM step (μ v) v=some r∧∀ m,iterM step m v=some r→μ v≤m:=by
  intro v h
  have:μ v=Classical.choose (ZaN h):=by simp only [μ,dif_pos h]
  rw [this]
  exact Classical.choose_spec (ZaN h)
 refine ⟨I,μ,⟨n0,hn0⟩,fun v hv=>?_⟩
 have h1:=(hμ v hv).1
 cases hm:μ v with
 | zero=>rw [hm] at h1;simp [iterM] at h1
 | succ m =>
  rw [hm] at h1
  simp only [iterM] at h1
  split at h1
  ·cases h1
  ·rename_i v' e
   refine hb I μ v _ e (fun v'' e'=>?_) (fun r' e'=>by cases e')
   injection e' with e';subst e'
   exact ⟨⟨m,h1⟩,by have:=(hμ v' ⟨m,h1⟩).2 m h1;omega⟩
  ·rename_i r' e
   refine hb I μ v _ e (fun v'' e'=>by cases e') (fun r'' e'=>?_)
   injection e' with e';subst e';injection h1
end
def D0 (r:Ty) (f:Option r.den):Ctr:=⟨[],[.dat r],fun _ K=>XU f fun r=>K (r,()) ()⟩
def D1 (a r:Ty) (f:a.den→Option r.den):Ctr:=⟨[.dat a],[.dat r],fun x K=>splitK x fun p _=>XU (f p) fun r=>K (r,()) ()⟩
def D2 (a b r:Ty) (f:a.den→b.den→Option r.den):Ctr:=⟨[.dat a,.dat b],[.dat r],fun x K=>splitK x fun p x=>splitK x fun q _=>XU (f p q) fun r=>K (r,()) ()⟩
def D3 (a b c r:Ty) (f:a.den→b.den→c.den→Option r.den):Ctr:=⟨[.dat a,.dat b,.dat c],[.dat r],fun x K=>splitK x fun p x=>splitK x fun q x=>splitK x fun s _=>XU (f p q s) fun r=>K (r,()) ()⟩
def D4 (a b c d r:Ty) (f:a.den→b.den→c.den→d.den→Option r.den):Ctr:=⟨[.dat a,.dat b,.dat c,.dat d],[.dat r],fun x K=>splitK x fun p x=>splitK x fun q x=>splitK x fun s x=>splitK x fun t _=>XU (f p q s t) fun r=>K (r,()) ()⟩
theorem Zou {A B T:Prop} (h:T→A) (g:T→B) (t:T):A∧B:=⟨h t,g t⟩
theorem share1 {A B:Prop} {T:List Nat→Prop} (h:(∀ x0,T x0)→A) (g:(∀ x0,T x0)→B) (t:∀ x0,T x0):A∧B:=⟨h t,g t⟩
theorem Zov {A B:Prop} {T:List Nat→List Nat→Prop} (h:(∀ x0 x1,T x0 x1)→A) (g:(∀ x0 x1,T x0 x1)→B) (t:∀ x0 x1,T x0 x1):A∧B:=⟨h t,g t⟩
theorem Zow {A B:Prop} {T:List Nat→List Nat→List Nat→Prop} (h:(∀ x0 x1 x2,T x0 x1 x2)→A) (g:(∀ x0 x1 x2,T x0 x1 x2)→B) (t:∀ x0 x1 x2,T x0 x1 x2):A∧B:=⟨h t,g t⟩
theorem Zox {A B:Prop} {T:List Nat→List Nat→List Nat→List Nat→Prop} (h:(∀ x0 x1 x2 x3,T x0 x1 x2 x3)→A) (g:(∀ x0 x1 x2 x3,T x0 x1 x2 x3)→B) (t:∀ x0 x1 x2 x3,T x0 x1 x2 x3):A∧B:=⟨h t,g t⟩
theorem Zoy {A B:Prop} {T:List Nat→List Nat→List Nat→List Nat→List Nat→Prop} (h:(∀ x0 x1 x2 x3 x4,T x0 x1 x2 x3 x4)→A) (g:(∀ x0 x1 x2 x3 x4,T x0 x1 x2 x3 x4)→B) (t:∀ x0 x1 x2 x3 x4,T x0 x1 x2 x3 x4):A∧B:=⟨h t,g t⟩
theorem Zoz {A B:Prop} {T:List Nat→List Nat→List Nat→List Nat→List Nat→List Nat→Prop} (h:(∀ x0 x1 x2 x3 x4 x5,T x0 x1 x2 x3 x4 x5)→A) (g:(∀ x0 x1 x2 x3 x4 x5,T x0 x1 x2 x3 x4 x5)→B) (t:∀ x0 x1 x2 x3 x4 x5,T x0 x1 x2 x3 x4 x5):A∧B:=⟨h t,g t⟩
theorem ZoA {A B:Prop} {T:List Nat→List Nat→List Nat→List Nat→List Nat→List Nat→List Nat→Prop} (h:(∀ x0 x1 x2 x3 x4 x5 x6,T x0 x1 x2 x3 x4 x5 x6)→A) (g:(∀ x0 x1 x2 x3 x4 x5 x6,T x0 x1 x2 x3 x4 x5 x6)→B) (t:∀ x0 x1 x2 x3 x4 x5 x6,T x0 x1 x2 x3 x4 x5 x6):A∧B:=⟨h t,g t⟩
theorem ZoB {A B:Prop} {T:List Nat→List Nat→List Nat→List Nat→List Nat→List Nat→List Nat→List Nat→Prop} (h:(∀ x0 x1 x2 x3 x4 x5 x6 x7,T x0 x1 x2 x3 x4 x5 x6 x7)→A) (g:(∀ x0 x1 x2 x3 x4 x5 x6 x7,T x0 x1 x2 x3 x4 x5 x6 x7)→B) (t:∀ x0 x1 x2 x3 x4 x5 x6 x7,T x0 x1 x2 x3 x4 x5 x6 x7):A∧B:=⟨h t,g t⟩
theorem ZoK {B:Prop} (k:B):Zmy∧B:=⟨trivial,k⟩
theorem Zo7 {α:Type} {v:α} {G:α→Prop} (k:G v):∀ x,x=v→G x:=fun _ e=>e▸k
theorem ZoM {α:Type} {o:Option α} {G:α→Prop} (k:∀ x,o=some x→G x):∀ x,o=some x→G x:=k
theorem Zo8 {α:Type} {o:Option α} {G:α→Prop} (k:∃ x,o=some x∧G x):∃ x,o=some x∧G x:=k
theorem ZnS {α:Type} {o:Option α} {y:α} {G:α→Prop} (ha:o=some y) (k:G y):∃ x,o=some x∧G x:=⟨y,ha,k⟩
theorem Zo5 {α:Type} {l:List α} {i:Int} {G:α→Prop} (k:0≤i∧i<(l.length:Int)∧∀ x,l[i.toNat]?=some x→G x):0≤i∧i<(l.length:Int)∧∀ x,l[i.toNat]?=some x→G x:=k
theorem ZnK {α:Type} {l:List α} {i:Int} {y:α} {G:α→Prop} (ha:0≤i) (hb:i<(l.length:Int)) (hx:l[i.toNat]?=some y) (k:G y):0≤i∧i<(l.length:Int)∧∀ x,l[i.toNat]?=some x→G x:=⟨ha,hb,Zh hx k⟩
theorem Zo6 {A B:Prop} {p x y:Bool} (k:(p=x→A)∧(p=y→B)):(p=x→A)∧(p=y→B):=k
theorem shD {A B:Prop} {q:Prop} {_:Decidable q} {x y:Bool} (k:(decide q=x→A)∧(decide q=y→B)):(decide q=x→A)∧(decide q=y→B):=k
theorem ZoO {A B:Prop} {p x y:Bool} (k:((!p)=x→A)∧((!p)=y→B)):((!p)=x→A)∧((!p)=y→B):=k
theorem ZoN {α:Type} {l:List α} {A B:Prop} (k:(l=[]→A)∧B):(l=[]→A)∧B:=k
theorem ZoP {l:List Oper} {n:Nat} {K:Oper→Prop} {B:Prop} (k:Zju l n K∧B):Zju l n K∧B:=k
theorem orL {α:Type} {a:α} {P Q:Prop} (k:P):(a=a∧P)∨Q:=.inl ⟨rfl,k⟩
theorem ZoJ {α:Type} {x:α} {P:Prop} (h:none=some x):P:=by cases h
theorem Zot {σ:Type} {P:(σ→Prop)→(σ→Nat)→σ→Prop} {v0:σ} (k:∃ I μ,I v0∧∀ v,I v→P I μ v):∃ I μ,I v0∧∀ v,I v→P I μ v:=k
theorem ZoC {σ ρ:Type} {step:σ→Option (σ ⊕ ρ)} {v0:σ} {r:ρ} (h:ZA step v0=some r) {P:(σ→Prop)→(σ→Nat)→σ→Prop} {G:Prop} (hK:G)
  (hb:∀ (I:σ→Prop) (μ:σ→Nat) (v:σ) (s:σ ⊕ ρ),step v=some s→((∀ v',s=.inl v'→I v'∧μ v'<μ v)∧(∀ r',s=.inr r'→r'=r)∧G)→P I μ v) :
  ∃ I μ,I v0∧∀ v,I v→P I μ v:=YH h fun I μ v s h1 h2 h3=>hb I μ v s h1 ⟨h2,h3,hK⟩
theorem pB {α β:Type} {o:Option α} {f:α→Option β} {r:β} {G:Prop} (h:o.bind f=some r) (k:∀ x,o=some x→f x=some r→G):G:=by
 obtain ⟨x,h1,h2⟩:=Option.bind_eq_some_iff.1 h
 exact k x h1 h2
theorem pA {α β:Type} {l:List α} {i:Int} {f:α→Option β} {r:β} {G:Prop} (h:(atI l i).bind f=some r) (k:∀ x,0≤i→i<(l.length:Int)→l[i.toNat]?=some x→f x=some r→G):G:=by
 obtain ⟨x,h1,h2,h3,h4⟩:=atE h
 exact k x h1 h2 h3 h4
theorem pG {α:Type} {p:Prop} {a:Option α} {r:α} {G:Prop} (h:Zj p a=some r) (k:p→a=some r→G):G:=k (guardE h).1 (guardE h).2
theorem pS {α:Type} {a r:α} {G:Prop} (h:some a=some r) (k:a=r→G):G:=k (Option.some.inj h)
theorem pR {σ ρ:Type} {A G P:Prop} {a r:ρ} (h:A∧(∀ r',(.inr a:σ ⊕ ρ)=.inr r'→r'=r)∧G) (k:a=r→G→P):P:=k (h.2.1 _ rfl) h.2.2
noncomputable def ZkQ {ρ:Type} (g:Nat→Option ρ):Option ρ :=
 open Classical in if h:∃ r n,g n=some r then some (Classical.choose h) else none
theorem ZdB {ρ:Type} {g:Nat→Option ρ} {r:ρ} (h:ZkQ g=some r):∃ n,g n=some r:=by
 unfold ZkQ at h
 split at h
 ·rename_i hx
  obtain ⟨n,hn⟩:=Classical.choose_spec hx
  injection h with h;rw [h] at hn;exact ⟨n,hn⟩
 ·cases h
theorem Zn0 {ρ:Type} {g:Nat→Option ρ} {r:ρ} {n:Nat} (hm:∀ n m r,g n=some r→n≤m→g m=some r) (h:g n=some r):ZkQ g=some r:=by
 have hx:∃ r n,g n=some r:=⟨r,n,h⟩
 unfold ZkQ
 rw [dif_pos hx]
 obtain ⟨m,hm'⟩:=Classical.choose_spec hx
 have h1:=hm _ _ _ hm' (Nat.le_max_left m n)
 have h2:=hm _ _ _ h (Nat.le_max_right m n)
 rw [h1] at h2;exact h2
end Go.Sx
