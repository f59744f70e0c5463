/-
  Ground of the plain laws: loops by what they come to; small arithmetic.
-/
import Derived.Test.YtjepimjoknccmaaGreatDoorE1
import Derived.IntWalk
import Derived.Test.YtjepimjoknccmaaGreatDoorM
namespace Go.Proofs.YtjepimjoknccmaaGreatDoor
set_option linter.unusedVariables false
set_option linter.unusedSimpArgs false
open Go Go.Sx
theorem YZ {n:Int} (h1:-9223372036854775808<=n) (h2:n<=9223372036854775807):Wq n=n:=IntWalk.i64_in n ⟨h1,h2⟩
theorem Zm {α:Type} (l:List α) (k:Nat):atI l (k:Int)=l[k]?:=by simp[atI]
theorem YD {α:Type} {l:List α} {i:Int} {x:α} (h0:0<=i) (hx:l[i.toNat]?=some x):atI l i=some x:=by simp[atI,h0,hx]
theorem Zvn {α:Type} {l:List α} {i:Int} (h0:0<=i) (h1:i<l.length):∃ x,atI l i=some x/\l[i.toNat]?=some x :=
  ⟨l[i.toNat]'(by omega),by simp[atI,h0],Ua _⟩
theorem Zg {α:Type} {p:Prop} (h:p) (a:Option α):Zt p a=a:=by
  unfold Zt;exact Uc h
theorem ZaD {τ ρ:Type} {step:τ->Option (τ ⊕ ρ)} (n:Nat) (I:Nat->τ->Prop) (Q:ρ->Prop) {v:τ} (h0:I 0 v)
    (hs:∀ k v,k<n->I k v->(∃ v',step v=some (.inl v')/\I (k+1) v')\/∃ r,step v=some (.inr r)/\Q r)
    (hx:∀ v,I n v->∃ r,step v=some (.inr r)/\Q r):∃ r,Zq step v=some r/\Q r:=by
  have:∀ m k v,k+m=n->I k v->∃ r,Zq step v=some r/\Q r:=by
    intro m;induction m with
    | zero =>
      intro k v hk hI;have:k=n:=by omega
      subst this;obtain ⟨r,e,hq⟩:=hx v hI;exact ⟨r,Xn e,hq⟩
    | succ m ih =>
      intro k v hk hI;rcases hs k v (by omega) hI with ⟨v',e,hI'⟩ | ⟨r,e,hq⟩
      · obtain ⟨r,h1,h2⟩:=ih (k+1) v' (by omega) hI'
        exact ⟨r,by rw[Xq e];exact h1,h2⟩
      · exact ⟨r,Xn e,hq⟩
  exact this n 0 v (by omega) h0
theorem Yy {τ ρ:Type} {step:τ->Option (τ ⊕ ρ)} (n:Nat) (I:Nat->τ->Prop) (R:ρ) {v:τ} (h0:I 0 v)
    (hs:∀ k v,k<n->I k v->(∃ v',step v=some (.inl v')/\I (k+1) v')\/step v=some (.inr R))
    (hx:∀ v,I n v->step v=some (.inr R)):Zq step v=some R:=by
  obtain ⟨r,h1,h2⟩:=ZaD n I (λr=>r=R) h0 (λk v hk hI=>(hs k v hk hI).elim .inl (λh=>.inr ⟨R,h,rfl⟩)) (λv hI=>⟨R,hx v hI,rfl⟩);rw[h1,h2]
theorem Yu {α:Type} {l:List α} {k:Nat} {x:α} (hx:l[k]?=some x):l.take (k+1)=l.take k++[x]:=by
  rw[List.take_add_one,hx];rfl
def sm:(t:Ty)->t.den->Prop
  | .str,s=>(s.length:Int)<=1048576
  | .sl t,l=>(l.length:Int)<=1048576/\∀ x∈l,sm t x
  | .pair a b,d=>sm a d.1/\sm b d.2
  | _,_=>True
def Szd (o:Option Int) (left:Int) (P:Prop):Prop:=∃ n,o=some n/\n<=left/\(0<=n->P)
theorem Szd.mono {o:Option Int} {left:Int} {P Q:Prop} (h:Szd o left P) (hpq:P->Q):Szd o left Q:=by
  obtain ⟨n,a,b,c⟩:=h;exact ⟨n,a,b,λh=>hpq (c h)⟩
theorem Szd.then {o:Option Int} {left:Int} {P Q:Prop} (h:Szd o left P) (h0:0<=left) (hl:left<=1048576) {F:Int->Option Int} (h2:∀ n,0<=n->n<=1048576->P->Szd (F n) n Q) :
    Szd (o.bind λn=>if n<0 then some (-1) else F n) left Q:=by
  obtain ⟨n,e,hle,hP⟩:=h;rw[e,Bq];split
  · rename_i hn
    exact ⟨-1,rfl,by omega,λh=>by omega⟩
  · rename_i hn
    obtain ⟨m,e2,h3,h4⟩:=h2 n (by omega) (by omega) (hP (by omega));exact ⟨m,e2,by omega,h4⟩
theorem Szd.last {o:Option Int} {left:Int} {P Q:Prop} (h:Szd o left P) (hl:0<=left) (hpq:P->Q):Szd (o.bind λn=>if n<0 then some (-1) else some n) left Q:=by
  obtain ⟨n,e,hle,hP⟩:=h;rw[e,Bq];split
  · rename_i hn
    exact ⟨-1,rfl,by omega,λh=>by omega⟩
  · exact ⟨n,rfl,hle,λh=>hpq (hP h)⟩
theorem Szd.len {left n:Int} {Q:Prop} {B:Option Int} (h0:0<=left) (hl:left<=1048576) (hn:0<=n) (hb:n<=9223372036854775807)
    (h2:Wq (left-n)=left-n->0<=left-n->left-n<=1048576->n<=1048576->Szd B (left-n) Q) :
    Szd (if Wq (left-n)<0 then some (-1) else B) left Q:=by
  have hw:=YZ (n:=left-n) (by omega) (by omega);rw[hw];split
  · rename_i hn
    exact ⟨-1,rfl,by omega,λh=>by omega⟩
  · rename_i hn
    obtain ⟨m,e2,h3,h4⟩:=h2 hw (by omega) (by omega) (by omega);exact ⟨m,e2,by omega,h4⟩
theorem Szd.ret {left:Int} {P:Prop} (h:P):Szd (some left) left P:=⟨left,rfl,Int.le_refl _,λ_=>h⟩
theorem Szd.loop {α:Type} {l:List α} {f:α->Int->Option Int} {P:α->Prop} {step:Int×Int×Unit->Option ((Int×Int×Unit) ⊕ Int)}
    (hf:∀ x∈l,∀ m,0<=m->m<=1048576->Szd (f x m) m (P x))
    (hstep:∀ (k:Nat) (m:Int),step (m,(k:Int),())=if (k:Int)<(l.length:Int) then (atI l (k:Int)).bind λx=>(f x m).bind λn=>if n<0 then some (.inr (-1)) else some (.inl (n,Wq ((k:Int)+1),())) else some (.inr m))
    {left:Int} (h0:0<=left) (h1:left<=1048576) (hl:(l.length:Int)<=1048576):Szd (Zq step (left,0,())) left (∀ x∈l,P x):=by
  unfold Szd;refine ZaD l.length (λk v=>v.2.1=(k:Int)/\0<=v.1/\v.1<=left/\∀ x∈l.take k,P x) (λn=>n<=left/\(0<=n->∀ x∈l,P x)) ⟨rfl,h0,Int.le_refl _,by simp⟩ ?_ ?_
  · rintro k ⟨m,i,⟨⟩⟩ hk ⟨hi,hm0,hm1,hP⟩
    simp only at hi hm0 hm1;subst hi;have hx:l[k]?=some l[k]:=Ua hk;generalize l[k]=x at hx;rw[hstep,Uc (by omega),Zm,hx,Bq];obtain ⟨n,e,hn,hPx⟩:=hf x (Ue hx) m hm0 (by omega);rw[e,Bq];split
    · exact .inr ⟨-1,rfl,by omega,λh=>by omega⟩
    · rw[YZ (by omega) (by omega)]
      refine .inl ⟨_,rfl,by simp,by dsimp only;omega,by dsimp only;omega,?_⟩;rw[Yu hx];intro y hy;rcases UB.1 hy with hy | hy
      · exact hP y hy
      · simp at hy;subst hy;exact hPx (by omega)
  · rintro ⟨m,i,⟨⟩⟩ ⟨hi,hm0,hm1,hP⟩
    simp only at hi hm0 hm1;subst hi;rw[Um] at hP;rw[hstep,Ud (by omega)];exact ⟨m,rfl,hm1,λ_=>hP⟩
theorem ZbQ {α:Type} {l:List α} {f:α->Option α} {z:α} {step:Int×List α×Unit->Option ((Int×List α×Unit) ⊕ List α)} (hf:∀ x∈l,f x=some x)
    (hstep:∀ (k:Nat) (out:List α),step ((k:Int),out,())=if (k:Int)<(l.length:Int) then (atI l (k:Int)).bind λx=>(f x).bind λy=>(atI out (k:Int)).bind λ_=>some (.inl (Wq ((k:Int)+1),List.set out (Int.toNat (k:Int)) y,())) else some (.inr out))
    (hl:(l.length:Int)<=1048576):Zq step (0,List.replicate (Int.toNat (l.length:Int)) z,())=some l:=by
  refine Yy l.length (λk v=>v.1=(k:Int)/\v.2.1.length=l.length/\v.2.1.take k=l.take k) _ ⟨rfl,by simp,by simp⟩ ?_ ?_
  · rintro k ⟨i,out,⟨⟩⟩ hk ⟨hi,hlen,ht⟩
    simp only at hi hlen ht;subst hi;have hx:l[k]?=some l[k]:=Ua hk;generalize l[k]=x at hx;have hy:out[k]?=some (out[k]'(by omega)):=Ua (by omega);rw[hstep,Uc (by omega),Zm,hx,Bq,hf x (Ue hx),Bq,Zm,hy,Bq,YZ (by omega) (by omega)];refine .inl ⟨_,rfl,by simp,by simp[hlen],?_⟩;have hx2:(out.set k x)[k]?=some x:=by rw[Ut (by omega)]
    simp only[Up];rw[Yu hx2,Yu hx,List.take_set,ht];rw[KG (by simp;omega)]
  · rintro ⟨i,out,⟨⟩⟩ ⟨hi,hlen,ht⟩
    simp only at hi hlen ht;subst hi;rw[hstep,Ud (by omega)];rw[Um,Kt (by omega)] at ht;rw[ht]
theorem ZxS {α:Type} [DecidableEq α] {l:List α} {step:Int×Unit->Option ((Int×Unit) ⊕ Bool)}
    (hstep:∀ (k:Nat),step ((k:Int),())=if (k:Int)<(l.length:Int) then (atI l (k:Int)).bind λx=>(atI l (k:Int)).bind λy=>if x=y then some (.inl (Wq ((k:Int)+1),())) else some (.inr false) else some (.inr true))
    (hl:(l.length:Int)<=1048576):Zq step (0,())=some true:=by
  refine Yy l.length (λk v=>v.1=(k:Int)) _ rfl ?_ ?_
  · rintro k ⟨i,⟨⟩⟩ hk hi
    simp only at hi;subst hi;have hx:l[k]?=some l[k]:=Ua hk;generalize l[k]=x at hx;rw[hstep,Uc (by omega),Zm,hx,Bq,Bq,Uc rfl,YZ (by omega) (by omega)];exact .inl ⟨_,rfl,by simp⟩
  · rintro ⟨i,⟨⟩⟩ hi
    simp only at hi;subst hi;rw[hstep,Ud (by omega)]
theorem ZCl {l:List Bool} {step:Int×Unit->Option ((Int×Unit) ⊕ Bool)}
    (hstep:∀ (k:Nat),step ((k:Int),())=if (k:Int)<(l.length:Int) then (atI l (k:Int)).bind λx=>(atI l (k:Int)).bind λy=>if (x == y)=true then some (.inl (Wq ((k:Int)+1),())) else some (.inr false) else some (.inr true))
    (hl:(l.length:Int)<=1048576):Zq step (0,())=some true:=by
  refine Yy l.length (λk v=>v.1=(k:Int)) _ rfl ?_ ?_
  · rintro k ⟨i,⟨⟩⟩ hk hi
    simp only at hi;subst hi;have hx:l[k]?=some l[k]:=Ua hk;generalize l[k]=x at hx;rw[hstep,Uc (by omega),Zm,hx,Bq,Bq,Uc (by simp),YZ (by omega) (by omega)];exact .inl ⟨_,rfl,by simp⟩
  · rintro ⟨i,⟨⟩⟩ hi
    simp only at hi;subst hi;rw[hstep,Ud (by omega)]
def Ty.fixed:Ty->Bool
  | .str=>false
  | .sl _=>false
  | .ptr _=>true
  | .fn _ _=>true
  | .pair a b=>Ty.fixed a&&Ty.fixed b
  | _=>true
theorem Xx:∀ (t:Ty),Ty.fixed t=true->∀ d:t.den,sm t d
  | .int _,_,_=>trivial
  | .bool,_,_=>trivial
  | .unit,_,_=>trivial
  | .ptr _,_,_=>trivial
  | .fn _ _,_,_=>trivial
  | .nptr _,_,_=>trivial
  | .mp _ _,_,_=>trivial
  | .str,h,_=>by simp[Ty.fixed] at h
  | .sl _,h,_=>by simp[Ty.fixed] at h
  | .pair a b,h,d=>by
    simp only[Ty.fixed,Ur] at h;exact ⟨Xx a h.1 d.1,Xx b h.2 d.2⟩
theorem Zkt {α:Type} {l:List α} {f:α->α->Option Bool} {step:Int×Unit->Option ((Int×Unit) ⊕ Bool)} (hf:∀ x∈l,f x x=some true)
    (hstep:∀ (k:Nat),step ((k:Int),())=if (k:Int)<(l.length:Int) then (atI l (k:Int)).bind λx=>(atI l (k:Int)).bind λy=>(f x y).bind λe=>if e=true then some (.inl (Wq ((k:Int)+1),())) else some (.inr false) else some (.inr true))
    (hl:(l.length:Int)<=1048576):Zq step (0,())=some true:=by
  refine Yy l.length (λk v=>v.1=(k:Int)) _ rfl ?_ ?_
  · rintro k ⟨i,⟨⟩⟩ hk hi
    simp only at hi;subst hi;have hx:l[k]?=some l[k]:=Ua hk;generalize l[k]=x at hx;rw[hstep,Uc (by omega),Zm,hx,Bq,Bq,hf x (Ue hx),Bq,Uc rfl,YZ (by omega) (by omega)];exact .inl ⟨_,rfl,by simp⟩
  · rintro ⟨i,⟨⟩⟩ hi
    simp only at hi;subst hi;rw[hstep,Ud (by omega)]
noncomputable def tr (p:Prop):Bool:=@decide p (Classical.propDecidable p)
theorem ZqV {p:Prop} {b:Bool} (h:b=true<->p):tr p=b:=by
  unfold tr;cases b
  · simp at h;simp[h]
  · simp at h;simp[h]
theorem YS (p:Prop):tr p=true<->p:=by simp[tr]
theorem ZU {p:Prop} (h:p):tr p=true:=(YS p).2 h
theorem Yj {p:Prop} (h:¬p):tr p=false:=by simp[tr,h]
def Len {α:Type} (l:List α):Prop:=l.length<=4611686018427387904
theorem ZzF {k:Nat} {α:Type} {l:List α} (hl:Len l) (hk:k<=l.length):Wq ((k:Int)+1)=((k+1:Nat):Int):=by
  have:l.length<=4611686018427387904:=hl;rw[YZ (by omega) (by omega)];simp
def JB {α:Type} (p:α->Bool) (l:List α):Int:=match l.findIdx? p with
  | some i=>i
  | none=>-1
theorem Qw {α:Type} {p:α->Bool} {l:List α}:0<=JB p l<->l.any p=true:=by
  unfold JB;split
  · rename_i i h
    obtain ⟨h1,h2,_⟩:=Kg.1 h;refine ⟨λ_=>Kx.2 ⟨_,List.getElem_mem h1,h2⟩,λ_=>by omega⟩
  · rename_i h
    rw[List.findIdx?_eq_none_iff] at h;refine ⟨λh'=>by omega,λh'=>?_⟩;obtain ⟨x,hx,hp⟩:=Kx.1 h';have:=h x hx;rw[hp] at this;cases this
theorem X5 {α ρ:Type} {l:List α} (hl:Len l) {p:α->Bool} {step:Int×Unit->Option ((Int×Unit) ⊕ ρ)} {out:Int->ρ}
    (hs:∀ (k:Nat) (x:α),l[k]?=some x->step ((k:Int),())=some (if p x=true then .inr (out k) else .inl (Wq ((k:Int)+1),())))
    (hx:step ((l.length:Int),())=some (.inr (out (-1)))):Zq step (0,())=some (out (JB p l)):=by
  refine Yy l.length (λk v=>v.1=(k:Int)/\∀ x∈l.take k,p x=false) _ ⟨rfl,by simp⟩ ?_ ?_
  · rintro k ⟨i,⟨⟩⟩ hk ⟨hi,hS⟩
    simp only at hi;subst hi;have hx:l[k]?=some l[k]:=Ua hk;rw[hs k _ hx,ZzF hl (by omega)];split
    · rename_i hp
      right;have:l.findIdx? p=some k:=by
        rw[Kg];refine ⟨hk,hp,λj hj=>?_⟩;have:=hS l[j] (UE.2 ⟨j,by rw[UA,Uc hj];exact Ua _⟩);simp[this]
      unfold JB;rw[this]
    · rename_i hp
      refine .inl ⟨_,rfl,rfl,?_⟩;rw[Yu hx];intro y hy;rcases UB.1 hy with hy | hy
      · exact hS y hy
      · simp at hy;subst hy;simpa using hp
  · rintro ⟨i,⟨⟩⟩ ⟨hi,hS⟩
    simp only at hi;subst hi;rw[Um] at hS;have:l.findIdx? p=none:=List.findIdx?_eq_none_iff.2 hS;rw[hx];unfold JB;rw[this]
def foldI {α σ:Type} (f:Nat->α->σ->σ):Nat->List α->σ->σ
  | _,[],s=>s
  | k,x::r,s=>foldI f (k+1) r (f k x s)
theorem Zi2 {α σ:Type} (f:Nat->α->σ->σ):∀ (l r:List α) (m:Nat) (s:σ),foldI f m (l++r) s=foldI f (m+l.length) r (foldI f m l s)
  | [],r,m,s=>by simp[foldI]
  | x::l,r,m,s=>by
    simp only[U0,foldI,Uz,Zi2 f l r];rw[show m+1+l.length=m+(l.length+1) by omega]
theorem Zid {α σ:Type} {f:Nat->α->σ->σ} {l:List α} {k:Nat} {x:α} (hx:l[k]?=some x) (s:σ):foldI f 0 (l.take (k+1)) s=f k x (foldI f 0 (l.take k) s):=by
  have hk:=(Ub.1 hx).1;rw[Yu hx,Zi2];simp only[foldI,Uw,Ui];rw[show min k l.length=k by omega]
theorem ZeM {α σ τ ρ:Type} {l:List α} (hl:Len l) (pack:σ->Int->τ) {f:Nat->α->σ->σ} {step:τ->Option (τ ⊕ ρ)} {s0:σ} {R:ρ} (I:Nat->σ->Prop) (h0:I 0 s0)
    (hs:∀ (k:Nat) (x:α) (s:σ),l[k]?=some x->I k s->s=foldI f 0 (l.take k) s0->step (pack s (k:Int))=some (.inl (pack (f k x s) (Wq ((k:Int)+1))))/\I (k+1) (f k x s))
    (hx:∀ s,I l.length s->s=foldI f 0 l s0->step (pack s (l.length:Int))=some (.inr R)):Zq step (pack s0 0)=some R:=by
  refine Yy l.length (λk v=>v=pack (foldI f 0 (l.take k) s0) (k:Int)/\I k (foldI f 0 (l.take k) s0)) _ ⟨rfl,h0⟩ ?_ ?_
  · rintro k _ hk ⟨rfl,hI⟩
    have hx:l[k]?=some l[k]:=Ua hk;obtain ⟨h1,h2⟩:=hs k _ _ hx hI rfl;rw[h1,ZzF hl (by omega)];exact .inl ⟨_,rfl,by rw[Zid hx],by rw[Zid hx];exact h2⟩
  · rintro _ ⟨rfl,hI⟩
    rw[Um] at hI ⊢;exact hx _ hI rfl
theorem Zrn {α β:Type} (g:α->β):∀ (l:List α) (m:Nat) (acc:List β),foldI (λ_ x s=>s++[g x]) m l acc=acc++l.map g
  | [],_,_=>by simp[foldI]
  | x::l,m,acc=>by simp[foldI,Zrn g l]
theorem Zyh {α β τ ρ:Type} {l:List α} (hl:Len l) (pack:List β->Int->τ) {g:α->β} {step:τ->Option (τ ⊕ ρ)} {s0:List β} {R:ρ}
    (hs:∀ (k:Nat) (x:α),l[k]?=some x->∀ s,s=s0++(l.take k).map g->step (pack s (k:Int))=some (.inl (pack (s++[g x]) (Wq ((k:Int)+1)))))
    (hx:step (pack (s0++l.map g) (l.length:Int))=some (.inr R)):Zq step (pack s0 0)=some R:=by
  refine ZeM hl pack (f:=λ_ x s=>s++[g x]) (λ_ _=>True) trivial (λk x s hk _ he=>⟨hs k x hk s (by rw[he,Zrn]),trivial⟩) (λs _ he=>?_);rw[he,Zrn];exact hx
noncomputable def sel {ρ:Type} (P:Prop) (a b:ρ):ρ:=match tr P with
  | true=>a
  | false=>b
theorem QF {ρ:Type} {P:Prop} (h:P) (a b:ρ):sel P a b=a:=by simp[sel,ZU h]
theorem Qc {ρ:Type} {P:Prop} (h:¬P) (a b:ρ):sel P a b=b:=by simp[sel,Yj h]
theorem Zlj (P:Prop):sel P true false=tr P:=by
  by_cases h:P
  · rw[QF h,ZU h]
  · rw[Qc h,Yj h]
def ZfL {α:Type} (l:List α) (P:Nat->α->Prop):Prop:=∀ (k:Nat) (x:α),l[k]?=some x->P k x
theorem VL {α ρ:Type} {l:List α} (hl:Len l) (P:Nat->α->Prop) {step:Int×Unit->Option ((Int×Unit) ⊕ ρ)} {bad good:ρ}
    (hs:∀ (k:Nat) (x:α),l[k]?=some x->k<l.length->(∀ (j:Nat) (y:α),j<k->l[j]?=some y->P j y)->(P k x->step ((k:Int),())=some (.inl (Wq ((k:Int)+1),())))/\(¬P k x->step ((k:Int),())=some (.inr bad)))
    (hx:ZfL l P->step ((l.length:Int),())=some (.inr good)):Zq step (0,())=some (sel (ZfL l P) good bad):=by
  refine Yy l.length (λk v=>v.1=(k:Int)/\∀ (j:Nat) (y:α),j<k->l[j]?=some y->P j y) _ ⟨rfl,λj y hj=>by omega⟩ ?_ ?_
  · rintro k ⟨i,⟨⟩⟩ hk ⟨hi,hS⟩
    simp only at hi;subst hi;have hx:l[k]?=some l[k]:=Ua hk;obtain ⟨h1,h2⟩:=hs k _ hx hk hS;by_cases hP:P k l[k]
    · rw[h1 hP,ZzF hl (by omega)]
      refine .inl ⟨_,rfl,rfl,λj y hj hy=>?_⟩;by_cases hjk:j<k
      · exact hS j y hjk hy
      · have:j=k:=by omega
        subst this;rw[hx] at hy;injection hy with hy;subst hy
        exact hP
    · right
      rw[h2 hP,Qc (λh=>hP (h k _ hx))]
  · rintro ⟨i,⟨⟩⟩ ⟨hi,hS⟩
    simp only at hi;subst hi;have hA:ZfL l P:=λk x hk=>hS k x (Ub.1 hk).1 hk;rw[hx hA,QF hA]
theorem Zyf {ρ:Type} (m n:Nat) (hmn:m<=n) (hn:n<=4611686018427387904) (P:Nat->Prop) {step:Int×Unit->Option ((Int×Unit) ⊕ ρ)} {bad good:ρ}
    (hs:∀ k:Nat,m<=k->k<n->(∀ j,m<=j->j<k->P j)->(P k->step ((k:Int),())=some (.inl (Wq ((k:Int)+1),())))/\(¬P k->step ((k:Int),())=some (.inr bad)))
    (hx:(∀ j,m<=j->j<n->P j)->step ((n:Int),())=some (.inr good)):Zq step ((m:Int),())=some (sel (∀ j,m<=j->j<n->P j) good bad):=by
  refine Yy (n-m) (λk v=>v.1=((m+k:Nat):Int)/\∀ j,m<=j->j<m+k->P j) _ ⟨by simp,λj h1 h2=>by omega⟩ ?_ ?_
  · rintro k ⟨i,⟨⟩⟩ hk ⟨hi,hS⟩
    simp only at hi;subst hi;obtain ⟨h1,h2⟩:=hs (m+k) (by omega) (by omega) hS;by_cases hP:P (m+k)
    · rw[h1 hP,YZ (by omega) (by omega)]
      refine .inl ⟨_,rfl,by simp only;omega,λj ha hb=>?_⟩;by_cases hj:j<m+k
      · exact hS j ha hj
      · have:j=m+k:=by omega
        subst this;exact hP
    · right
      rw[h2 hP,Qc (λh=>hP (h (m+k) (by omega) (by omega)))]
  · rintro ⟨i,⟨⟩⟩ ⟨hi,hS⟩
    simp only at hi;subst hi;have e:m+(n-m)=n:=by omega
    rw[e] at hS ⊢;rw[hx hS,QF hS]
def tot:(t:Ty)->t.den->Nat
  | .str,s=>s.length
  | .sl t,l=>l.length+(l.map (tot t)).sum
  | .pair a b,d=>tot a d.1+tot b d.2
  | _,_=>0
def Szt (o:Option Int) (left:Int) (T:Nat):Prop:=∀ n,o=some n->0<=n->n+(T:Int)<=left
theorem Szt.mono {o:Option Int} {left:Int} {T T':Nat} (h:Szt o left T) (ht:T'<=T):Szt o left T':=λn h1 h2=>by
  have:=h n h1 h2;omega
theorem Szt.then {o:Option Int} {left:Int} {T1 T2:Nat} (h:Szt o left T1) (h0:0<=left) (hl:left<=1048576) {F:Int->Option Int} (h2:∀ n,0<=n->n<=1048576->Szt (F n) n T2) :
    Szt (o.bind λn=>if n<0 then some (-1) else F n) left (T1+T2):=by
  intro m hm hm0;cases ho:o with
  | none=>rw[ho] at hm;cases hm
  | some n =>
    rw[ho,Bq] at hm;by_cases hn:n<0
    · rw[Uc hn] at hm;injection hm;omega
    · rw[Ud hn] at hm
      have a:=h n ho (by omega);have b:=h2 n (by omega) (by omega) m hm hm0;omega
theorem Szt.last {o:Option Int} {left:Int} {T:Nat} (h:Szt o left T):Szt (o.bind λn=>if n<0 then some (-1) else some n) left T:=by
  intro m hm hm0;cases ho:o with
  | none=>rw[ho] at hm;cases hm
  | some n =>
    rw[ho,Bq] at hm;by_cases hn:n<0
    · rw[Uc hn] at hm;injection hm;omega
    · rw[Ud hn] at hm
      injection hm with hm
      subst hm;exact h n ho hm0
theorem Szt.len {left n:Int} {T:Nat} {B:Option Int} (h0:0<=left) (hl:left<=1048576) (hn:0<=n) (hb:n<=9223372036854775807)
    (h2:Wq (left-n)=left-n->0<=left-n->left-n<=1048576->Szt B (left-n) T) :
    Szt (if Wq (left-n)<0 then some (-1) else B) left (n.toNat+T):=by
  have hw:=YZ (n:=left-n) (by omega) (by omega);intro m hm hm0;rw[hw] at hm;by_cases hneg:left-n<0
  · rw[Uc hneg] at hm;injection hm;omega
  · rw[Ud hneg] at hm
    have:=h2 hw (by omega) (by omega) m hm hm0;omega
theorem Szt.ret {left:Int}:Szt (some left) left 0:=λn h _=>by injection h;omega
theorem Szt.loop {α:Type} {l:List α} {f:α->Int->Option Int} {P:α->Prop} {T:α->Nat} {step:Int×Int×Unit->Option ((Int×Int×Unit) ⊕ Int)}
    (hf:∀ x∈l,∀ m,0<=m->m<=1048576->Szd (f x m) m (P x)) (ht:∀ x∈l,∀ m,0<=m->m<=1048576->Szt (f x m) m (T x))
    (hstep:∀ (k:Nat) (m:Int),step (m,(k:Int),())=if (k:Int)<(l.length:Int) then (atI l (k:Int)).bind λx=>(f x m).bind λn=>if n<0 then some (.inr (-1)) else some (.inl (n,Wq ((k:Int)+1),())) else some (.inr m))
    {left:Int} (h0:0<=left) (h1:left<=1048576) (hl:(l.length:Int)<=1048576):Szt (Zq step (left,0,())) left (l.map T).sum:=by
  have:∃ r,Zq step (left,0,())=some r/\(0<=r->r+((l.map T).sum:Int)<=left):=by
    refine ZaD l.length (λk v=>v.2.1=(k:Int)/\0<=v.1/\v.1+(((l.take k).map T).sum:Int)<=left) _ ⟨rfl,h0,by simp⟩ ?_ ?_
    · rintro k ⟨m,i,⟨⟩⟩ hk ⟨hi,hm0,hm1⟩
      simp only at hi hm0 hm1;subst hi;have hx:l[k]?=some l[k]:=Ua hk;generalize l[k]=x at hx;rw[hstep,Uc (by omega),Zm,hx,Bq];obtain ⟨n,e,hn,hPx⟩:=hf x (Ue hx) m hm0 (by omega);rw[e,Bq];split
      · exact .inr ⟨-1,rfl,λh=>by omega⟩
      · rename_i hneg
        have:=ht x (Ue hx) m hm0 (by omega) n e (by omega);rw[YZ (by omega) (by omega)];refine .inl ⟨_,rfl,by simp,by dsimp only;omega,?_⟩;rw[Yu hx,UV,KS];simp only[U5,Kw,Kr,List.sum_nil];omega
    · rintro ⟨m,i,⟨⟩⟩ ⟨hi,hm0,hm1⟩
      simp only at hi hm0 hm1;subst hi;rw[Um] at hm1;rw[hstep,Ud (by omega)];exact ⟨m,rfl,λ_=>hm1⟩
  obtain ⟨r,h2,h3⟩:=this;intro n hn hn0;rw[h2] at hn;injection hn with hn
  subst hn;exact h3 hn0
theorem Zsz:∀ (t:Ty),Ty.fixed t=true->∀ d:t.den,tot t d=0
  | .int _,_,_=>rfl
  | .bool,_,_=>rfl
  | .unit,_,_=>rfl
  | .ptr _,_,_=>rfl
  | .fn _ _,_,_=>rfl
  | .nptr _,_,_=>rfl
  | .mp _ _,_,_=>rfl
  | .str,h,_=>by simp[Ty.fixed] at h
  | .sl _,h,_=>by simp[Ty.fixed] at h
  | .pair a b,h,d=>by
    simp only[Ty.fixed,Ur] at h;simp only[tot,Zsz a h.1 d.1,Zsz b h.2 d.2]
theorem Zl9 {t:Ty} (h:Ty.fixed t=true) (l:List t.den):(l.map (tot t)).sum=0:=by
  induction l with
  | nil=>rfl
  | cons x r ih=>simp only[U5,Kr,Zsz t h x,ih]
theorem Zef (a b:Ty) (d:(Ty.pair a b).den):tot (.pair a b) d=tot a d.1+tot b d.2:=rfl
theorem Zkh (t:Ty) (l:List t.den):tot (.sl t) l=l.length+(l.map (tot t)).sum:=rfl
theorem Zgg (s:List UInt8):tot .str s=s.length:=rfl
theorem Zhf (k:IntKind) (n:Int):tot (.int k) n=0:=rfl
theorem Zee (b:Bool):tot .bool b=0:=rfl
theorem Zeg (b:Unit):tot .unit b=0:=rfl
theorem Szt.str (x:List UInt8) (m:Int) (m0:0<=m) (m1:m<=1048576) (hb:(x.length:Int)<=9223372036854775807) :
    Szt (if Wq (m-(x.length:Int))<0 then some (-1) else some (Wq (m-(x.length:Int)))) m (tot .str x):=by
  have h:Szt (if Wq (m-(x.length:Int))<0 then some (-1) else some (Wq (m-(x.length:Int)))) m ((x.length:Int).toNat+0) :=
    Szt.len m0 m1 (by omega) hb (λhw _ _=>by rw[hw];exact Szt.ret)
  refine h.mono ?_;rw[Zgg];omega
theorem Szd.str (x:List UInt8) (m:Int) (m0:0<=m) (m1:m<=1048576) (hb:(x.length:Int)<=9223372036854775807) :
    Szd (if Wq (m-(x.length:Int))<0 then some (-1) else some (Wq (m-(x.length:Int)))) m (sm .str x) :=
  Szd.len m0 m1 (by omega) hb (λhw _ _ hn=>by rw[hw];exact Szd.ret hn)
def cnt:(t:Ty)->t.den->Nat
  | .int _,_=>1
  | .bool,_=>1
  | .str,_=>1
  | .sl t,l=>(l.map (cnt t)).sum
  | .pair a b,d=>cnt a d.1+cnt b d.2
  | _,_=>0
theorem Zc4 (a b:Ty) (d:(Ty.pair a b).den):cnt (.pair a b) d=cnt a d.1+cnt b d.2:=rfl
theorem ZfR (s:List UInt8):cnt .str s=1:=rfl
theorem Ze6 (k:IntKind) (n:Int):cnt (.int k) n=1:=rfl
theorem Zc3 (b:Bool):cnt .bool b=1:=rfl
theorem Zc5 (b:Unit):cnt .unit b=0:=rfl
def wid:Ty->Nat
  | .int _=>1
  | .bool=>1
  | .str=>1
  | .pair a b=>wid a+wid b
  | _=>0
def Ze2:Ty->Nat
  | .sl t=>max (wid t) (Ze2 t)
  | .pair a b=>max (Ze2 a) (Ze2 b)
  | _=>0
theorem Zrf:∀ (t:Ty) (d:t.den),cnt t d<=wid t+Ze2 t*tot t d
  | .int _,_=>by simp[cnt,wid]
  | .bool,_=>by simp[cnt,wid]
  | .str,_=>by simp[cnt,wid]
  | .unit,_=>by simp[cnt]
  | .ptr _,_=>by simp[cnt]
  | .fn _ _,_=>by simp[cnt]
  | .nptr _,_=>by simp[cnt]
  | .mp _ _,_=>by simp[cnt]
  | .pair a b,d=>by
    have h1:=Zrf a d.1;have h2:=Zrf b d.2;have h3:Ze2 a*tot a d.1<=max (Ze2 a) (Ze2 b)*tot a d.1:=UO _ (Nat.le_max_left _ _);have h4:Ze2 b*tot b d.2<=max (Ze2 a) (Ze2 b)*tot b d.2:=UO _ (Nat.le_max_right _ _);simp only[cnt,wid,Ze2,tot,Nat.mul_add];omega
  | .sl t,l=>by
    have:(l.map (cnt t)).sum<=wid t*l.length+Ze2 t*(l.map (tot t)).sum:=by
      induction l with
      | nil=>simp
      | cons x r ih =>
        have:=Zrf t x;simp only[U5,Kr,Uz,Nat.mul_add];omega
    have h1:wid t*l.length<=max (wid t) (Ze2 t)*l.length:=UO _ (Nat.le_max_left _ _);have h2:Ze2 t*(l.map (tot t)).sum<=max (wid t) (Ze2 t)*(l.map (tot t)).sum:=UO _ (Nat.le_max_right _ _);simp only[cnt,wid,Ze2,tot,Nat.mul_add];omega
def Mkd {α:Type} (o:Option (Int×α)) (k:Int) (c:Nat):Prop:=∃ a',o=some (k+(c:Int),a')
theorem ZfP {α:Type} {L:List α} {j:Nat} {y:α} (h:j<L.length):atI (List.set L j y) (j:Int)=some y:=by
  rw[Zm,Ut h]
theorem Mkd.loop {α:Type} {l:List α} {c:α->Nat} {step:Int×Int×List α×Unit->Option ((Int×Int×List α×Unit) ⊕ (Int×List α))} {k:Int}
    (hstep:∀ (j:Nat) (m:Int) (x:α) (L:List α),j<L.length->(j:Int)<(L.length:Int)->L.length=l.length->L[j]?=some x->x∈l->0<=m->m+(c x:Int)<=4611686018427387904->(j:Int)<=1048576->∃ y,step (m,(j:Int),L,())=some (.inl (m+(c x:Int),((j+1:Nat):Int),List.set L j y,())))
    (hend:∀ (m:Int) (L:List α),L.length=l.length->step (m,(L.length:Int),L,())=some (.inr (m,L)))
    (hl:l.length<=1048576) (h0:0<=k) (h1:k+((l.map c).sum:Int)<=4611686018427387904):Mkd (Zq step (k,0,l,())) k (l.map c).sum:=by
  have:∃ r,Zq step (k,0,l,())=some r/\r.1=k+((l.map c).sum:Int):=by
    refine ZaD l.length (λj v=>v.1=k+(((l.take j).map c).sum:Int)/\v.2.1=(j:Int)/\v.2.2.1.length=l.length/\∀ i,j<=i->v.2.2.1[i]?=l[i]?) _ ⟨by simp,rfl,rfl,λi _=>rfl⟩ ?_ ?_
    · rintro j ⟨m,i,L,⟨⟩⟩ hj ⟨hm,hi,hL,hrest⟩
      simp only at hm hi hL hrest;subst hi;have hx:l[j]?=some l[j]:=Ua hj;have hsum:(l.map c).sum=((l.take j).map c).sum+(c l[j]+((l.drop (j+1)).map c).sum):=by
        have e:l=l.take j++(l[j]::l.drop (j+1)):=by rw[<-Ka hj,Ki]
        have e2:=UM (λl=>(l.map c).sum) e;simp only[UV,KS,U5,Kr] at e2;exact e2
      obtain ⟨y,hy⟩:=hstep j m l[j] L (by omega) (by omega) hL (by rw[hrest j (UK _)];exact hx) (Ue hx) (by omega) (by omega) (by omega);left;refine ⟨_,hy,?_,rfl,by simp[hL],λi hi=>?_⟩
      · rw[Yu hx,UV,KS]
        simp only[U5,Kw,Kr,List.sum_nil];omega
      · simp only
        rw[UH (by omega)];exact hrest i (by omega)
    · rintro ⟨m,i,L,⟨⟩⟩ ⟨hm,hi,hL,_⟩
      simp only at hm hi hL;subst hi;rw[Um] at hm;rw[<-hL,hend m L hL];exact ⟨_,rfl,hm⟩
  obtain ⟨r,h2,h3⟩:=this;exact ⟨r.2,by rw[h2,<-h3]⟩
def mkL {α:Type} (f:α->Int->α) (c:α->Nat):List α->Int->List α
  | [],_=>[]
  | x::r,k=>f x k::mkL f c r (k+(c x:Int))
def mkA (mt:Int->List UInt8):(t:Ty)->t.den->Int->t.den
  | .int _,_,k=>k
  | .str,_,k=>mt k
  | .bool,_,k=>decide (Int.tmod k 3=0)
  | .pair a b,d,k=>(mkA mt a d.1 k,mkA mt b d.2 (k+(cnt a d.1:Int)))
  | .sl t,l,k=>mkL (mkA mt t) (cnt t) l k
  | .unit,d,_=>d
  | .ptr _,d,_=>d
  | .fn _ _,d,_=>d
  | .nptr _,d,_=>d
  | .mp _ _,d,_=>d
def ZnK:(t:Ty)->t.den->Nat
  | .pair a b,d=>ZnK a d.1+ZnK b d.2
  | .sl t,l=>cnt (.sl t) l
  | _,_=>0
def mkT (mt:Int->List UInt8):(t:Ty)->t.den->Int->t.den
  | .pair a b,d,k=>(mkT mt a d.1 k,mkT mt b d.2 (k+(ZnK a d.1:Int)))
  | .sl t,l,k=>mkL (mkA mt t) (cnt t) l k
  | .int _,d,_=>d
  | .str,d,_=>d
  | .bool,d,_=>d
  | .unit,d,_=>d
  | .ptr _,d,_=>d
  | .fn _ _,d,_=>d
  | .nptr _,d,_=>d
  | .mp _ _,d,_=>d
theorem Zj5 {α:Type} (f:α->Int->α) (c:α->Nat):∀ (l:List α) (k:Int),(mkL f c l k).length=l.length
  | [],_=>rfl
  | x::r,k=>by simp only[mkL,Uz,Zj5 f c r]
theorem ZAI {α:Type} (f:α->Int->α) (c:α->Nat):∀ (l:List α) (k:Int) (j:Nat),(mkL f c l k)[j]?=(l[j]?).map (λx=>f x (k+(((l.take j).map c).sum:Int)))
  | [],k,j=>by simp[mkL]
  | x::r,k,0=>by simp[mkL]
  | x::r,k,j+1=>by
    simp only[mkL,U8,ZAI f c r,List.take_succ_cons,U5,Kr];congr 1;funext y;congr 1;omega
theorem ZtK {α:Type} (f:α->Int->α) (c:α->Nat):∀ (l r:List α) (k:Int),mkL f c (l++r) k=mkL f c l k++mkL f c r (k+((l.map c).sum:Int))
  | [],r,k=>by simp[mkL]
  | x::l,r,k=>by
    simp only[U0,mkL,ZtK f c l r,U5,Kr];congr 3;omega
theorem ZCK {α:Type} {f:α->Int->α} {c:α->Nat} {l:List α} {k:Int} {j:Nat} {x:α} (hx:l[j]?=some x):mkL f c (l.take (j+1)) k=mkL f c (l.take j) k++[f x (k+(((l.take j).map c).sum:Int))]:=by
  rw[Yu hx,ZtK];rfl
theorem ZAJ {α:Type} {l:List α} {f:α->Int->α} {c:α->Nat} {step:Int×Int×List α×Unit->Option ((Int×Int×List α×Unit) ⊕ (Int×List α))} {k:Int}
    (hstep:∀ (j:Nat) (m:Int) (x:α) (L:List α),j<L.length->(j:Int)<(L.length:Int)->L[j]?=some x->x∈l->0<=m->m+(c x:Int)<=4611686018427387904->(j:Int)<=1048576->step (m,(j:Int),L,())=some (.inl (m+(c x:Int),((j+1:Nat):Int),List.set L j (f x m),())))
    (hend:∀ (m:Int) (L:List α),step (m,(L.length:Int),L,())=some (.inr (m,L)))
    (hl:l.length<=1048576) (h0:0<=k) (h1:k+((l.map c).sum:Int)<=4611686018427387904):Zq step (k,0,l,())=some (k+((l.map c).sum:Int),mkL f c l k):=by
  refine Yy l.length (λj v=>v.1=k+(((l.take j).map c).sum:Int)/\v.2.1=(j:Int)/\v.2.2.1=mkL f c (l.take j) k++l.drop j) _ ⟨by simp,rfl,by simp[mkL]⟩ ?_ ?_
  · rintro j ⟨m,i,L,⟨⟩⟩ hj ⟨hm,hi,hL⟩
    simp only at hm hi hL;subst hi;have hx:l[j]?=some l[j]:=Ua hj;generalize hxv:l[j]=x at hx;have hlen:(mkL f c (l.take j) k).length=j:=by rw[Zj5,Ui];omega
    have hd:l.drop j=x::l.drop (j+1):=by rw[Ka hj,hxv]
    have hLl:L.length=l.length:=by rw[hL,Ug,hlen,UR];omega
    have hLx:L[j]?=some x:=by rw[hL,Uv (by omega),hlen,KD,hd];rfl
    have hsum:(l.map c).sum=((l.take j).map c).sum+(c x+((l.drop (j+1)).map c).sum):=by
      have e:l=l.take j++(x::l.drop (j+1)):=by rw[<-hd,Ki]
      have e2:=UM (λl=>(l.map c).sum) e;simp only[UV,KS,U5,Kr] at e2;exact e2
    left;refine ⟨_,hstep j m x L (by omega) (by omega) hLx (Ue hx) (by omega) (by omega) (by omega),?_,rfl,?_⟩
    · rw[Yu hx,UV,KS]
      simp only[U5,Kw,Kr,List.sum_nil];omega
    · simp only
      rw[hL,ZCK hx,KT,Ud (by omega),hlen,KD,hd,hm];simp
  · rintro ⟨m,i,L,⟨⟩⟩ ⟨hm,hi,hL⟩
    simp only at hm hi hL;subst hi;rw[Um,List.drop_length,Uo] at hL;rw[Um] at hm;subst hL;rw[<-Zj5 f c l k,hend,hm]
theorem Zug {α:Type} {l:List α} {f:α->Int->α} {c:α->Nat} {step:Int×Int×Unit->Option ((Int×Int×Unit) ⊕ Int)} {k:Int}
    (hstep:∀ (j:Nat) (m:Int) (x:α),(j:Int)<((mkL f c l k).length:Int)->(mkL f c l k)[j]?=some (f x m)->x∈l->0<=m->m+(c x:Int)<=4611686018427387904->(j:Int)<=1048576->step (m,(j:Int),())=some (.inl (m+(c x:Int),((j+1:Nat):Int),())))
    (hend:∀ (m:Int),step (m,((mkL f c l k).length:Int),())=some (.inr m))
    (hl:l.length<=1048576) (h0:0<=k) (h1:k+((l.map c).sum:Int)<=4611686018427387904):Zq step (k,0,())=some (k+((l.map c).sum:Int)):=by
  refine Yy l.length (λj v=>v.1=k+(((l.take j).map c).sum:Int)/\v.2.1=(j:Int)) _ ⟨by simp,rfl⟩ ?_ ?_
  · rintro j ⟨m,i,⟨⟩⟩ hj ⟨hm,hi⟩
    simp only at hm hi;subst hi;have hx:l[j]?=some l[j]:=Ua hj;generalize hxv:l[j]=x at hx;have hsum:(l.map c).sum=((l.take j).map c).sum+(c x+((l.drop (j+1)).map c).sum):=by
      have hd:l.drop j=x::l.drop (j+1):=by rw[Ka hj,hxv]
      have e:l=l.take j++(x::l.drop (j+1)):=by rw[<-hd,Ki]
      have e2:=UM (λl=>(l.map c).sum) e;simp only[UV,KS,U5,Kr] at e2;exact e2
    left;refine ⟨_,hstep j m x (by rw[Zj5];omega) (by rw[ZAI,hx,hm];rfl) (Ue hx) (by omega) (by omega) (by omega),?_,rfl⟩;rw[Yu hx,UV,KS];simp only[U5,Kw,Kr,List.sum_nil];omega
  · rintro ⟨m,i,⟨⟩⟩ ⟨hm,hi⟩
    simp only at hm hi;subst hi;rw[Um] at hm;rw[<-Zj5 f c l k,hend,hm]
theorem Zt5:∀ (t:Ty) (d:t.den),ZnK t d<=cnt t d
  | .pair a b,d=>Nat.add_le_add (Zt5 a d.1) (Zt5 b d.2)
  | .sl t,l=>UK _
  | .int _,_=>Ky _
  | .bool,_=>Ky _
  | .str,_=>Ky _
  | .unit,_=>Ky _
  | .ptr _,_=>Ky _
  | .fn _ _,_=>Ky _
  | .nptr _,_=>Ky _
  | .mp _ _,_=>Ky _
def within (n a b:Int):Bool:=decide (a<=n)&&decide (n<=b)
theorem Zb3 (n a b:Int):Yr n a b=some (within n a b):=by
  unfold Yr within;split<;>simp[*]
theorem ZfC (n a b:Int):ZQ n a b=some (within n a b):=by
  unfold ZQ within;split<;>simp[*]
theorem within_iff (n a b:Int):within n a b=true<->a<=n/\n<=b:=by simp[within]
def ZjF (b:UInt8):Bool:=decide (97<=b.toNat)&&decide (b.toNat<=122)
def Zo9 (b:UInt8):Bool:=decide (48<=b.toNat)&&decide (b.toNat<=57)
def Zao (s:List UInt8):Bool:=decide (1<=s.length)&&decide (s.length<=8)&&s.all (λb=>ZjF b||Zo9 b)&&(match s with
  | b::_=>ZjF b
  | []=>false)
def Zvi (s:List UInt8) (i:Nat):Prop:=∀ (j:Nat) (b:UInt8),j<i->s[j]?=some b->(ZjF b||Zo9 b)=true/\(j=0->ZjF b=true)
theorem Zxi {s:List UInt8} {i:Nat} {x:UInt8} (h:Zvi s i) (hx:s[i]?=some x) (h1:(ZjF x||Zo9 x)=true) (h2:i=0->ZjF x=true):Zvi s (i+1):=by
  intro j b hj hb;by_cases e:j<i
  · exact h j b e hb
  · have:j=i:=by omega
    subst this;rw[hx] at hb;injection hb with hb;subst hb
    exact ⟨h1,h2⟩
theorem ZuA {s:List UInt8} (h:Zvi s s.length):Zao s=(decide (1<=s.length)&&decide (s.length<=8)):=by
  unfold Zao;have h1:s.all (λb=>ZjF b||Zo9 b)=true:=by
    rw[KE];intro b hb;obtain ⟨j,hj⟩:=UE.1 hb;exact (h j b (Ub.1 hj).1 hj).1
  rw[h1];cases s with
  | nil=>rfl
  | cons b r =>
    have:=(h 0 b (by simp) rfl).2 rfl;simp[this]
theorem Zzb {s:List UInt8} {j:Nat} {b:UInt8} (hb:s[j]?=some b) (h:(ZjF b||Zo9 b)=false\/j=0/\ZjF b=false):Zao s=false:=by
  unfold Zao;rcases h with h | ⟨rfl,h⟩
  · have:s.all (λb=>ZjF b||Zo9 b)=false:=by
      rw[List.all_eq_false];exact ⟨b,Ue hb,by simp[h]⟩
    simp[this]
  · cases s with
    | nil=>simp at hb
    | cons c r=>simp at hb;subst hb;simp[h]
theorem Zbf (s:List UInt8) (hl:s.length<=4611686018427387904):Zbr s=some (Zao s):=by
  unfold Zbr;refine Yy s.length (λk v=>v.1=(k:Int)/\Zvi s k) _ ⟨rfl,λj b hj=>by omega⟩ ?_ ?_
  · rintro k ⟨i,⟨⟩⟩ hk ⟨rfl,hS⟩
    have hx:s[k]?=some s[k]:=Ua hk;generalize s[k]=x at hx;simp only[ZfE,Zm,hx,Bq,show (k:Int)<(s.length:Int) from by omega,Uj,YZ (show (-9223372036854775808:Int)<=(k:Int)+1 by omega) (by omega)];have ok:(ZjF x||Zo9 x)=true->(k=0->ZjF x=true)->(((k:Int)+1,()):Int×Unit).1=((k+1:Nat):Int)/\Zvi s (k+1):=λh1 h2=>⟨by simp,Zxi hS hx h1 h2⟩;have bad:((ZjF x||Zo9 x)=false\/k=0/\ZjF x=false)->(some (Sum.inr false):Option (Int×Unit ⊕ Bool))=some (Sum.inr (Zao s)):=λh=>by rw[Zzb hx h]
    simp only[ZjF,Zo9] at ok bad;repeat' split
    all_goals first
      | (left;refine ⟨_,rfl,ok ?_ ?_⟩<;>simp<;>omega)
      | (right;refine bad ?_;first | (left;simp;omega) | (right;simp;omega))
  · rintro ⟨i,⟨⟩⟩ ⟨rfl,hS⟩
    simp only[ZfE,Uf,Uh];rw[ZuA hS];split
    · rename_i h
      have h1:1<=s.length:=by omega
      have h2:decide ((s.length:Int)<=8)=decide (s.length<=8):=by rw[Km];omega
      simp[h1,h2]
    · have h1:¬1<=s.length:=by omega
      simp[h1]
theorem dropWhile_nil {p:UInt8->Bool}:∀ (m:List UInt8),(∀ x∈m.dropWhile p,p x=true)->∀ x∈m,p x=true
  | [],_=>by simp
  | a::m,h=>by
    by_cases ha:p a=true
    · rw[List.dropWhile_cons_of_pos ha] at h
      intro x hx;rcases UT.1 hx with rfl | hx
      · exact ha
      · exact dropWhile_nil m h x hx
    · rw[List.dropWhile_cons_of_neg ha] at h
      exact absurd (h a (by simp)) ha
theorem ZnW {p:UInt8->Bool}:∀ (m:List UInt8),m.dropWhile p=[]<->∀ x∈m,p x=true
  | []=>by simp
  | a::m=>by
    by_cases ha:p a=true
    · rw[List.dropWhile_cons_of_pos ha,ZnW m];simp[ha]
    · rw[List.dropWhile_cons_of_neg ha];simp[ha]
theorem ZBy (s cs:List UInt8):Lib.trimS s cs=[]<->∀ b∈s,cs.contains b=true:=by
  unfold Lib.trimS Lib.trimLeftS Lib.trimRightS;rw[ZnW];constructor
  · intro h b hb
    exact dropWhile_nil s.reverse (λx hx=>h x (List.mem_reverse.2 hx)) b (List.mem_reverse.2 hb)
  · intro h b hb
    exact h b (List.mem_reverse.1 ((List.dropWhile_sublist _).subset (List.mem_reverse.1 hb)))
def letters:List UInt8:=[97,98,99,100,101,102,103,104,105,106,107,108,109,110,111,112,113,114,115,116,117,118,119,120,121,122]
def ZkG:List UInt8:=letters++[48,49,50,51,52,53,54,55,56,57]
theorem ZDq {p:UInt8->Bool} (h:(List.range 256).all (λn=>p (UInt8.ofNat n))=true) (b:UInt8):p b=true:=by
  rw[KE] at h;have:=h b.toNat (Kz.2 b.toNat_lt);simpa using this
theorem Zlq (b:UInt8):ZkG.contains b=(ZjF b||Zo9 b):=by
  have:=ZDq (p:=λb=>ZkG.contains b == (ZjF b||Zo9 b)) (by decide +kernel) b;simpa using this
theorem Zwk (s:List UInt8):Lib.trimS s ZkG=[]<->s.all (λb=>ZjF b||Zo9 b)=true:=by
  rw[ZBy,KE];simp only[Zlq]
theorem Zum (b:UInt8):decide (0<=(Lib.indexByte letters b:Int))=ZjF b:=by
  have:=ZDq (p:=λb=>decide (0<=(Lib.indexByte letters b:Int)) == ZjF b) (by decide +kernel) b;simpa using this
theorem Zgn (s:List UInt8):Zem s=some (Zao s):=by
  unfold Zem;rw[Zb3,Bq];split
  · rename_i h
    rw[within_iff] at h;rw[Zg (by omega)];split
    · rename_i ht
      have ht':=(Zwk s).1 ht;cases s with
      | nil=>simp at h
      | cons b r =>
        have e:atI (b::r) (0:Int)=some b:=rfl;rw[e,Bq];have e1:((b.toNat:Int)).toNat.toUInt8=b:=by simp
        rw[e1];have h1:1<=(b::r).length:=by simp
        have h2:(b::r).length<=8:=by omega
        have:=Zum b;unfold letters at this;rw[this];simp only[Zao,ht',UX h1,UX h2,Bool.true_and]
    · rename_i ht
      have ht':¬s.all (λb=>ZjF b||Zo9 b)=true:=λe=>ht ((Zwk s).2 e);simp only[Zao,Bool.eq_false_iff.2 ht',Bool.and_false,KW]
  · rename_i h
    rw[within_iff] at h;have:¬(1<=s.length/\s.length<=8):=by omega
    rw[eq_comm];congr 1;rw[Bool.eq_false_iff];intro hh;simp only[Zao,Ur,Uk] at hh;omega
theorem ZqN (l:List (List UInt8)) (s:List UInt8) (hl:l.length<=4611686018427387904):∃ r,Y8 l s=some r/\(0<=r<->s∈l):=by
  unfold Y8;refine ZaD l.length (λk v=>v.1=(k:Int)/\s ∉ l.take k) _ ⟨rfl,by simp⟩ ?_ ?_
  · rintro k ⟨i,⟨⟩⟩ hk ⟨rfl,hS⟩
    have hx:l[k]?=some l[k]:=Ua hk;generalize l[k]=x at hx;simp only[Xi,Zm,hx,Bq,show (k:Int)<(l.length:Int) from by omega,Uj,YZ (show (-9223372036854775808:Int)<=(k:Int)+1 by omega) (by omega)];split
    · rename_i e;subst e
      exact .inr ⟨_,rfl,λ_=>Ue hx,λ_=>by simp⟩
    · rename_i e
      exact .inl ⟨_,rfl,by simp,by rw[Yu hx];simp[hS,e]⟩
  · rintro ⟨i,⟨⟩⟩ ⟨rfl,hS⟩
    simp only[Xi,Uf,Uh];refine ⟨_,rfl,λh=>by omega,λh=>absurd h (by simpa using hS)⟩
theorem ZnF (l:List (List UInt8)) (s:List UInt8) (hl:l.length<=4611686018427387904):Qo l s=some (decide (s∈l)):=by
  obtain ⟨r,h1,h2⟩:=ZqN l s hl;unfold Qo;rw[h1,Bq];simp only[h2]
def V4 (l:List (List UInt8)) (k:Nat):Prop:=∀ (j:Nat) (s:List UInt8),j<k->l[j]?=some s->Zao s=true/\s ∉ l.take j
theorem ZbS (l:List (List UInt8)) (hl:l.length<=4611686018427387904):Zaf l=some (tr (V4 l l.length)):=by
  unfold Zaf;refine Yy l.length (λk v=>v.1=(k:Int)/\V4 l k) _ ⟨rfl,λj s hj=>by omega⟩ ?_ ?_
  · rintro k ⟨i,⟨⟩⟩ hk ⟨rfl,hS⟩
    have hx:l[k]?=some l[k]:=Ua hk;generalize l[k]=x at hx;simp only[Zek,Zm,hx,Bq,show (k:Int)<(l.length:Int) from by omega,Uj,YZ (show (-9223372036854775808:Int)<=(k:Int)+1 by omega) (by omega),Zgn];split
    · rename_i hn
      rw[Zg (by omega),Zg (by omega)];simp only[Up,Int.toNat_zero,KF,Nat.sub_zero];rw[ZnF _ _ (by simp only[Ui];omega),Bq];split
      · rename_i hm
        right;rw[Yj];intro hh;exact (hh k x hk hx).2 (by simpa using hm)
      · rename_i hm
        refine .inl ⟨_,rfl,by simp,λj s hj hs=>?_⟩;by_cases e:j<k
        · exact hS j s e hs
        · have:j=k:=by omega
          subst this;rw[hx] at hs;injection hs with hs;subst hs
          exact ⟨hn,by simpa using hm⟩
    · rename_i hn
      right;rw[Yj];intro hh;exact hn (hh k x hk hx).1
  · rintro ⟨i,⟨⟩⟩ ⟨rfl,hS⟩
    simp only[Zek,Uf,Uh];rw[ZU hS]
def allIn (l:List Int) (lo hi:Int):Bool:=l.all (λn=>within n lo hi)
theorem Zdc (l:List Int) (lo hi:Int) (hl:l.length<=4611686018427387904):XD l lo hi=some (allIn l lo hi):=by
  have h1:∃ r,YA l (lo,hi,())=some r/\(0<=r<->allIn l lo hi=false):=by
    unfold YA;refine ZaD l.length (λk v=>v.1=(k:Int)/\allIn (l.take k) lo hi=true) _ ⟨rfl,rfl⟩ ?_ ?_
    · rintro k ⟨i,⟨⟩⟩ hk ⟨rfl,hS⟩
      have hx:l[k]?=some l[k]:=Ua hk;generalize l[k]=x at hx;simp only[YO,ZfV,Zb3,Zm,hx,Bq,show (k:Int)<(l.length:Int) from by omega,Uj,YZ (show (-9223372036854775808:Int)<=(k:Int)+1 by omega) (by omega)];cases hw:within x lo hi
      · refine .inr ⟨_,rfl,λ_=>?_,λ_=>by simp⟩
        rw[allIn,List.all_eq_false];exact ⟨x,Ue hx,by simp[hw]⟩
      · refine .inl ⟨_,rfl,by simp,?_⟩
        rw[Yu hx,allIn,List.all_append];simp only[allIn] at hS;simp[hS,hw]
    · rintro ⟨i,⟨⟩⟩ ⟨rfl,hS⟩
      rw[Um] at hS;simp only[YO,Uf,Uh];exact ⟨_,rfl,λh=>by omega,λh=>by rw[hS] at h;cases h⟩
  obtain ⟨r,h1,h2⟩:=h1;unfold XD Y2;rw[h1];simp only[Bq,h2];cases allIn l lo hi<;>simp
theorem ZgV {l:List (List UInt8)} {v:List UInt8} (hl:Len l):Y8 l v=some (JB (λx=>decide (v=x)) l):=by
  unfold Y8;refine X5 (out:=λi=>i) hl (λk x hx=>?_) ?_
  · have hk:=(Ub.1 hx).1
    simp only[Xi,Zm,hx,Bq,show (k:Int)<(l.length:Int) from by omega,Uj,Uk];split<;>rfl
  · simp only[Xi,Uf,Uh]
theorem Q7 {l:List Zw} {f:Bool×Unit} (hl:Len l) (p:Zw->Bool) (hp:∀ x∈l,Ju x f.fst=some (p x)):Z8 l f=some (JB p l):=by
  unfold Z8;refine X5 (out:=λi=>i) hl (p:=p) (λk x hx=>?_) ?_
  · have hk:=(Ub.1 hx).1
    simp only[Yn,Zm,hx,Bq,show (k:Int)<(l.length:Int) from by omega,Uj,hp x (Ue hx)];split<;>rfl
  · simp only[Yn,Uf,Uh]
theorem QK {l:List Zw} {f:Bool×Unit} (hl:Len l) (p:Zw->Bool) (hp:∀ x∈l,Ju x f.fst=some (p x)):ZW l f=some (l.any p):=by
  unfold ZW;rw[Q7 hl p hp,Bq];congr 1;rw[Kp,Uk,Qw]
theorem Vn {l:List YN} {f:Unit} (hl:Len l) (p:YN->Bool) (hp:∀ x∈l,Zfc x=some (p x)):Ye l f=some (JB p l):=by
  unfold Ye;refine X5 (out:=λi=>i) hl (p:=p) (λk x hx=>?_) ?_
  · have hk:=(Ub.1 hx).1
    simp only[Yx,Zm,hx,Bq,show (k:Int)<(l.length:Int) from by omega,Uj,hp x (Ue hx)];split<;>rfl
  · simp only[Yx,Uf,Uh]
theorem Vi {l:List ZC} {f:ZC×Unit} (hl:Len l) (p:ZC->Bool) (hp:∀ x∈l,Vb x f.fst=some (p x)):Ya l f=some (JB p l):=by
  unfold Ya;refine X5 (out:=λi=>i) hl (p:=p) (λk x hx=>?_) ?_
  · have hk:=(Ub.1 hx).1
    simp only[Yt,Zm,hx,Bq,show (k:Int)<(l.length:Int) from by omega,Uj,hp x (Ue hx)];split<;>rfl
  · simp only[Yt,Uf,Uh]
theorem QM {l:List ZC} {f:ZC×Unit} (hl:Len l) (p:ZC->Bool) (hp:∀ x∈l,Vb x f.fst=some (p x)):ZY l f=some (l.any p):=by
  unfold ZY;rw[Vi hl p hp,Bq];congr 1;rw[Kp,Uk,Qw]
theorem Vy {l:List ZC} {f:Int×Unit} (hl:Len l) (p:ZC->Bool) (hp:∀ x∈l,Zd3 x f.fst=some (p x)):Yh l f=some (JB p l):=by
  unfold Yh;refine X5 (out:=λi=>i) hl (p:=p) (λk x hx=>?_) ?_
  · have hk:=(Ub.1 hx).1
    simp only[YB,Zm,hx,Bq,show (k:Int)<(l.length:Int) from by omega,Uj,hp x (Ue hx)];split<;>rfl
  · simp only[YB,Uf,Uh]
theorem Vj {l:List ZC} {f:Int×Unit} (hl:Len l) (p:ZC->Bool) (hp:∀ x∈l,Zd3 x f.fst=some (p x)):Yb l f=some (l.any p):=by
  unfold Yb;rw[Vy hl p hp,Bq];congr 1;rw[Kp,Uk,Qw]
theorem Vk {l:List Int} {f:Zb×Unit} (hl:Len l) (p:Int->Bool) (hp:∀ x∈l,Qu x f.fst=some (p x)):Yd l f=some (JB p l):=by
  unfold Yd;refine X5 (out:=λi=>i) hl (p:=p) (λk x hx=>?_) ?_
  · have hk:=(Ub.1 hx).1
    simp only[Yv,Zm,hx,Bq,show (k:Int)<(l.length:Int) from by omega,Uj,hp x (Ue hx)];split<;>rfl
  · simp only[Yv,Uf,Uh]
theorem QO {l:List Int} {f:Zb×Unit} (hl:Len l) (p:Int->Bool) (hp:∀ x∈l,Qu x f.fst=some (p x)):Z5 l f=some (l.any p):=by
  unfold Z5;rw[Vk hl p hp,Bq];congr 1;rw[Kp,Uk,Qw]
theorem Zap {l:List Int} {f:Unit} (hl:Len l) (p:Int->Bool) (hp:∀ x∈l,Zd4 x=some (p x)):YR l f=some (JB p l):=by
  unfold YR;refine X5 (out:=λi=>i) hl (p:=p) (λk x hx=>?_) ?_
  · have hk:=(Ub.1 hx).1
    simp only[Y7,Zm,hx,Bq,show (k:Int)<(l.length:Int) from by omega,Uj,hp x (Ue hx)];split<;>rfl
  · simp only[Y7,Uf,Uh]
theorem JJ {l:List Int} {f:Unit} (hl:Len l) (p:Int->Bool) (hp:∀ x∈l,Zd4 x=some (p x)):YE l f=some (l.any p):=by
  unfold YE;rw[Zap hl p hp,Bq];congr 1;rw[Kp,Uk,Qw]
theorem Qe {l:List Ze} {f:List UInt8×Unit} (hl:Len l) (p:Ze->Bool) (hp:∀ x∈l,ZcB x f.fst=some (p x)):ZP l f=some (JB p l):=by
  unfold ZP;refine X5 (out:=λi=>i) hl (p:=p) (λk x hx=>?_) ?_
  · have hk:=(Ub.1 hx).1
    simp only[Z4,Zm,hx,Bq,show (k:Int)<(l.length:Int) from by omega,Uj,hp x (Ue hx)];split<;>rfl
  · simp only[Z4,Uf,Uh]
theorem ZhZ {l:List Int} {v:Int} (hl:Len l):Xl l v=some (JB (λx=>decide (v=x)) l):=by
  unfold Xl;refine X5 (out:=λi=>i) hl (λk x hx=>?_) ?_
  · have hk:=(Ub.1 hx).1
    simp only[Yo,Zm,hx,Bq,show (k:Int)<(l.length:Int) from by omega,Uj,Uk];split<;>rfl
  · simp only[Yo,Uf,Uh]
theorem Zf9 {l:List Int} {v:Int} (hl:Len l):Yc l v=some (decide (v∈l)):=by
  unfold Yc;rw[ZhZ hl,Bq];congr 1;rw[Kp,Uk,Uk,Qw,Kx];simp
theorem VP {l:List Int} {f:List Bool×Ym×Unit} (hl:Len l) (p:Int->Bool) (hp:∀ x∈l,Ve x f.fst f.snd.fst=some (p x)):Yp l f=some (JB p l):=by
  unfold Yp;refine X5 (out:=λi=>i) hl (p:=p) (λk x hx=>?_) ?_
  · have hk:=(Ub.1 hx).1
    simp only[YF,Zm,hx,Bq,show (k:Int)<(l.length:Int) from by omega,Uj,hp x (Ue hx)];split<;>rfl
  · simp only[YF,Uf,Uh]
theorem Vu {l:List Int} {f:List Bool×Ym×Unit} (hl:Len l) (p:Int->Bool) (hp:∀ x∈l,Ve x f.fst f.snd.fst=some (p x)):ZJ l f=some (l.any p):=by
  unfold ZJ;rw[VP hl p hp,Bq];congr 1;rw[Kp,Uk,Qw]
theorem QS {l:List Zk} {f:Int×Unit} (hl:Len l) (p:Zk->Bool) (hp:∀ x∈l,Zg8 x f.fst=some (p x)):Z6 l f=some (JB p l):=by
  unfold Z6;refine X5 (out:=λi=>i) hl (p:=p) (λk x hx=>?_) ?_
  · have hk:=(Ub.1 hx).1
    simp only[Yl,Zm,hx,Bq,show (k:Int)<(l.length:Int) from by omega,Uj,hp x (Ue hx)];split<;>rfl
  · simp only[Yl,Uf,Uh]
theorem Zom (a:YN) (left:Int) (h0:0<=left) (h1:left<=1048576) (hb:bnd (Ze1) a):Szd (ZeR a left) left (sm (Ze1) a):=by
  unfold ZeR;refine Szd.len h0 h1 (by omega) hb.1 (λhw a0 b0 s0=>?_);rw[hw];exact Szd.ret ⟨s0,Xx _ (by rfl) _,Xx _ (by rfl) _,Xx _ (by rfl) _,trivial⟩
theorem Zs6 (a:List (YN)) (left:Int) (h0:0<=left) (h1:left<=1048576) (hb:bnd (.sl (Ze1)) a):Szd (Zf2 a left) left (sm (.sl (Ze1)) a):=by
  unfold Zf2;refine Szd.len h0 h1 (by omega) hb.1 (λhw m0 m1 hn=>?_);rw[hw];exact (Szd.loop (f:=λx m=>ZeR x m) (P:=λx=>sm (Ze1) x) (λx hx m m0 m1=>Zom x m m0 m1 (hb.2 x hx)) (λk m=>rfl) m0 m1 hn).mono (λh=>⟨hn,h⟩)
theorem Qx (a:List (Int)) (left:Int) (h0:0<=left) (h1:left<=1048576) (hb:bnd (.sl (.int .i64)) a):Szd (XL a left) left (sm (.sl (.int .i64)) a):=by
  unfold XL;refine Szd.len h0 h1 (by omega) hb.1 (λhw m0 m1 hn=>?_);rw[hw];exact Szd.ret ⟨hn,λx _=>Xx (.int .i64) (by rfl) x⟩
theorem ZlP (a:Zw) (left:Int) (h0:0<=left) (h1:left<=1048576) (hb:bnd (Xa) a):Szd (Zbp a left) left (sm (Xa) a):=by
  unfold Zbp;refine Szd.then (Qx _ _ h0 h1 hb.1) h0 h1 (λm0 a0 b0 s0=>?_);refine Szd.then (Qx _ _ a0 b0 hb.2.1) a0 b0 (λm1 a1 b1 s1=>?_);refine Szd.last (Qx _ _ a1 b1 hb.2.2.1) a1 (λs2=>?_);exact ⟨s0,s1,s2,trivial⟩
theorem Zlf (a:List (Zw)) (left:Int) (h0:0<=left) (h1:left<=1048576) (hb:bnd (.sl (Xa)) a):Szd (ZbD a left) left (sm (.sl (Xa)) a):=by
  unfold ZbD;refine Szd.len h0 h1 (by omega) hb.1 (λhw m0 m1 hn=>?_);rw[hw];exact (Szd.loop (f:=λx m=>Zbp x m) (P:=λx=>sm (Xa) x) (λx hx m m0 m1=>ZlP x m m0 m1 (hb.2 x hx)) (λk m=>rfl) m0 m1 hn).mono (λh=>⟨hn,h⟩)
theorem Zoj (a:ZC) (left:Int) (h0:0<=left) (h1:left<=1048576) (hb:bnd (ZfO) a):Szd (ZeN a left) left (sm (ZfO) a):=by
  unfold ZeN;refine Szd.then (Zlf _ _ h0 h1 hb.2.2.2.2.1) h0 h1 (λm0 a0 b0 s0=>?_);refine Szd.last (Zlf _ _ a0 b0 hb.2.2.2.2.2.1) a0 (λs1=>?_);exact ⟨Xx _ (by rfl) _,Xx _ (by rfl) _,Xx _ (by rfl) _,Xx _ (by rfl) _,s0,s1,trivial⟩
theorem Zs3 (a:List (ZC)) (left:Int) (h0:0<=left) (h1:left<=1048576) (hb:bnd (.sl (ZfO)) a):Szd (Zf0 a left) left (sm (.sl (ZfO)) a):=by
  unfold Zf0;refine Szd.len h0 h1 (by omega) hb.1 (λhw m0 m1 hn=>?_);rw[hw];exact (Szd.loop (f:=λx m=>ZeN x m) (P:=λx=>sm (ZfO) x) (λx hx m m0 m1=>Zoj x m m0 m1 (hb.2 x hx)) (λk m=>rfl) m0 m1 hn).mono (λh=>⟨hn,h⟩)
theorem ZmW (a:Zl) (left:Int) (h0:0<=left) (h1:left<=1048576) (hb:bnd (QC) a):Szd (ZcM a left) left (sm (QC) a):=by
  unfold ZcM;refine Szd.len h0 h1 (by omega) hb.1 (λhw a0 b0 s0=>?_);rw[hw];refine Szd.then (Zs6 _ _ a0 b0 hb.2.2.1) a0 b0 (λm1 a1 b1 s1=>?_);refine Szd.then (Zs3 _ _ a1 b1 hb.2.2.2.1) a1 b1 (λm2 a2 b2 s2=>?_);refine Szd.last (Qx _ _ a2 b2 hb.2.2.2.2.1) a2 (λs3=>?_);exact ⟨s0,Xx _ (by rfl) _,s1,s2,s3,Xx _ (by rfl) _,Xx _ (by rfl) _,trivial⟩
theorem ZrP (a:List (Zl)) (left:Int) (h0:0<=left) (h1:left<=1048576) (hb:bnd (.sl (QC)) a):Szd (ZeQ a left) left (sm (.sl (QC)) a):=by
  unfold ZeQ;refine Szd.len h0 h1 (by omega) hb.1 (λhw m0 m1 hn=>?_);rw[hw];exact (Szd.loop (f:=λx m=>ZcM x m) (P:=λx=>sm (QC) x) (λx hx m m0 m1=>ZmW x m m0 m1 (hb.2 x hx)) (λk m=>rfl) m0 m1 hn).mono (λh=>⟨hn,h⟩)
theorem Zpp (a:Zp) (left:Int) (h0:0<=left) (h1:left<=1048576) (hb:bnd (YV) a):Szd (Zb4 a left) left (sm (YV) a):=by
  unfold Zb4;refine Szd.last (ZrP _ _ h0 h1 hb.1) h0 (λs0=>?_);exact ⟨s0,trivial⟩
theorem Zji (a:Ze) (left:Int) (h0:0<=left) (h1:left<=1048576) (hb:bnd (ZX) a):Szd (VK a left) left (sm (ZX) a):=by
  unfold VK;refine Szd.len h0 h1 (by omega) hb.1 (λhw a0 b0 s0=>?_);rw[hw];refine Szd.last (Qx _ _ a0 b0 hb.2.2.1) a0 (λs1=>?_);exact ⟨s0,Xx _ (by rfl) _,s1,trivial⟩
theorem Znr (a:List (Ze)) (left:Int) (h0:0<=left) (h1:left<=1048576) (hb:bnd (.sl (ZX)) a):Szd (J9 a left) left (sm (.sl (ZX)) a):=by
  unfold J9;refine Szd.len h0 h1 (by omega) hb.1 (λhw m0 m1 hn=>?_);rw[hw];exact (Szd.loop (f:=λx m=>VK x m) (P:=λx=>sm (ZX) x) (λx hx m m0 m1=>Zji x m m0 m1 (hb.2 x hx)) (λk m=>rfl) m0 m1 hn).mono (λh=>⟨hn,h⟩)
theorem Zps (a:List (List UInt8)) (left:Int) (h0:0<=left) (h1:left<=1048576) (hb:bnd (.sl (.str)) a):Szd (Zb6 a left) left (sm (.sl (.str)) a):=by
  unfold Zb6;refine Szd.len h0 h1 (by omega) hb.1 (λhw m0 m1 hn=>?_);rw[hw];exact (Szd.loop (f:=λx m=>if Wq (m-(x.length:Int))<0 then some (-1) else some (Wq (m-(x.length:Int)))) (P:=λx=>sm .str x) (λx hx m m0 m1=>Szd.len m0 m1 (by omega) (hb.2 x hx) (λhw _ _ hn=>by rw[hw];exact Szd.ret hn)) (λk m=>by
    show V9 a m (k:Int)=_;unfold V9;congr 1;congr 1;funext x;split<;>simp_all) m0 m1 hn).mono (λh=>⟨hn,h⟩)
theorem ZmX (a:ZL) (left:Int) (h0:0<=left) (h1:left<=1048576) (hb:bnd (ZaB) a):Szd (ZcN a left) left (sm (ZaB) a):=by
  unfold ZcN;refine Szd.len h0 h1 (by omega) hb.1 (λhw a0 b0 s0=>?_);rw[hw];exact Szd.ret ⟨s0,Xx _ (by rfl) _,Xx _ (by rfl) _,trivial⟩
theorem ZrT (a:List (ZL)) (left:Int) (h0:0<=left) (h1:left<=1048576) (hb:bnd (.sl (ZaB)) a):Szd (ZeS a left) left (sm (.sl (ZaB)) a):=by
  unfold ZeS;refine Szd.len h0 h1 (by omega) hb.1 (λhw m0 m1 hn=>?_);rw[hw];exact (Szd.loop (f:=λx m=>ZcN x m) (P:=λx=>sm (ZaB) x) (λx hx m m0 m1=>ZmX x m m0 m1 (hb.2 x hx)) (λk m=>rfl) m0 m1 hn).mono (λh=>⟨hn,h⟩)
theorem ZqA (a:Zb) (left:Int) (h0:0<=left) (h1:left<=1048576) (hb:bnd (Yi) a):Szd (Zde a left) left (sm (Yi) a):=by
  unfold Zde;refine Szd.then (Znr _ _ h0 h1 hb.1) h0 h1 (λm0 a0 b0 s0=>?_);refine Szd.then (Zps _ _ a0 b0 hb.2.1) a0 b0 (λm1 a1 b1 s1=>?_);refine Szd.last (ZrT _ _ a1 b1 hb.2.2.1) a1 (λs2=>?_);exact ⟨s0,s1,s2,trivial⟩
theorem ZjH (a:Zo) (left:Int) (h0:0<=left) (h1:left<=1048576) (hb:bnd (QD) a):Szd (ZbE a left) left (sm (QD) a):=by
  unfold ZbE;refine Szd.then (Qx _ _ h0 h1 hb.1) h0 h1 (λm0 a0 b0 s0=>?_);refine Szd.then (Qx _ _ a0 b0 hb.2.1) a0 b0 (λm1 a1 b1 s1=>?_);refine Szd.then (Qx _ _ a1 b1 hb.2.2.1) a1 b1 (λm2 a2 b2 s2=>?_);refine Szd.last (Qx _ _ a2 b2 hb.2.2.2.1) a2 (λs3=>?_);exact ⟨s0,s1,s2,s3,trivial⟩
theorem ZrV (a:List (Zo)) (left:Int) (h0:0<=left) (h1:left<=1048576) (hb:bnd (.sl (QD)) a):Szd (ZeT a left) left (sm (.sl (QD)) a):=by
  unfold ZeT;refine Szd.len h0 h1 (by omega) hb.1 (λhw m0 m1 hn=>?_);rw[hw];exact (Szd.loop (f:=λx m=>ZbE x m) (P:=λx=>sm (QD) x) (λx hx m m0 m1=>ZjH x m m0 m1 (hb.2 x hx)) (λk m=>rfl) m0 m1 hn).mono (λh=>⟨hn,h⟩)
theorem ZrN (a:Za) (left:Int) (h0:0<=left) (h1:left<=1048576) (hb:bnd (ZT) a):Szd (ZeO a left) left (sm (ZT) a):=by
  unfold ZeO;refine Szd.then (Zpp _ _ h0 h1 hb.1) h0 h1 (λm0 a0 b0 s0=>?_);refine Szd.then (ZqA _ _ a0 b0 hb.2.1) a0 b0 (λm1 a1 b1 s1=>?_);refine Szd.last (ZrV _ _ a1 b1 hb.2.2.1) a1 (λs2=>?_);exact ⟨s0,s1,s2,trivial⟩
theorem Zs5 (a:Zj) (left:Int) (h0:0<=left) (h1:left<=1048576) (hb:bnd (XO) a):Szd (Zf1 a left) left (sm (XO) a):=by
  unfold Zf1;refine Szd.len h0 h1 (by omega) hb.2.2.2.2.2.1 (λhw a0 b0 s0=>?_);rw[hw];refine Szd.last (ZjH _ _ a0 b0 hb.2.2.2.2.2.2.1) a0 (λs1=>?_);exact ⟨Xx _ (by rfl) _,Xx _ (by rfl) _,Xx _ (by rfl) _,Xx _ (by rfl) _,Xx _ (by rfl) _,s0,s1,trivial⟩
theorem Zqz (a:ZA) (left:Int) (h0:0<=left) (h1:left<=1048576) (hb:bnd (XW) a):Szd (ZhV a left) left (sm (XW) a):=by
  unfold ZhV;refine Szd.len h0 h1 (by omega) hb.1 (λhw a0 b0 s0=>?_);rw[hw];exact Szd.ret ⟨s0,Xx _ (by rfl) _,Xx _ (by rfl) _,Xx _ (by rfl) _,Xx _ (by rfl) _,trivial⟩
theorem Zpr (a:List (Zk)) (left:Int) (h0:0<=left) (h1:left<=1048576) (hb:bnd (.sl (Z7)) a):Szd (Zb5 a left) left (sm (.sl (Z7)) a):=by
  unfold Zb5;refine Szd.len h0 h1 (by omega) hb.1 (λhw m0 m1 hn=>?_);rw[hw];exact Szd.ret ⟨hn,λx _=>Xx (Z7) (by rfl) x⟩
theorem ZrO (a:List (Bool)) (left:Int) (h0:0<=left) (h1:left<=1048576) (hb:bnd (.sl (.bool)) a):Szd (ZeP a left) left (sm (.sl (.bool)) a):=by
  unfold ZeP;refine Szd.len h0 h1 (by omega) hb.1 (λhw m0 m1 hn=>?_);rw[hw];exact Szd.ret ⟨hn,λx _=>Xx (.bool) (by rfl) x⟩
theorem ZlO (a:List (Zv)) (left:Int) (h0:0<=left) (h1:left<=1048576) (hb:bnd (.sl (YU)) a):Szd (ZcO a left) left (sm (.sl (YU)) a):=by
  unfold ZcO;refine Szd.len h0 h1 (by omega) hb.1 (λhw m0 m1 hn=>?_);rw[hw];exact Szd.ret ⟨hn,λx _=>Xx (YU) (by rfl) x⟩
theorem ZqD (a:Zh) (left:Int) (h0:0<=left) (h1:left<=1048576) (hb:bnd (Yf) a):Szd (Zdf a left) left (sm (Yf) a):=by
  unfold Zdf;refine Szd.then (ZrO _ _ h0 h1 hb.1) h0 h1 (λm0 a0 b0 s0=>?_);refine Szd.then (ZlO _ _ a0 b0 hb.2.1) a0 b0 (λm1 a1 b1 s1=>?_);refine Szd.last (ZlO _ _ a1 b1 hb.2.2.1) a1 (λs2=>?_);exact ⟨s0,s1,s2,trivial⟩
theorem Zuv (a:YN) (hs:sm (Ze1) a):Zj3 a=some a:=by
  unfold Zj3;all_goals rfl
theorem Ztb (a:List (YN)) (hs:sm (.sl (Ze1)) a):ZkF a=some a:=by
  unfold ZkF;have h:=hs.1;rw[Zg (by omega),Zg (by omega),Zg (by omega),Zg (by omega)];exact ZbQ (f:=Zj3) (λx hx=>Zuv x (hs.2 x hx)) (λk out=>rfl) h
theorem Qz (a:List (Int)) (hs:sm (.sl (.int .i64)) a):Qy a=some a:=by
  unfold Qy;have h:=hs.1;rw[Zg (by omega),Zg (by omega),Zg (by omega),Zg (by omega)];exact ZbQ (f:=some) (λx _=>rfl) (λk out=>rfl) h
theorem Zr0 (a:Zw) (hs:sm (Xa) a):ZgR a=some a:=by
  unfold ZgR;rw[Qz _ hs.1,Bq,Qz _ hs.2.1,Bq,Qz _ hs.2.2.1,Bq];all_goals rfl
theorem Zlg (a:List (Zw)) (hs:sm (.sl (Xa)) a):Zfs a=some a:=by
  unfold Zfs;have h:=hs.1;rw[Zg (by omega),Zg (by omega),Zg (by omega),Zg (by omega)];exact ZbQ (f:=ZgR) (λx hx=>Zr0 x (hs.2 x hx)) (λk out=>rfl) h
theorem Zuu (a:ZC) (hs:sm (ZfO) a):Zj2 a=some a:=by
  unfold Zj2;rw[Zlg _ hs.2.2.2.2.1,Bq,Zlg _ hs.2.2.2.2.2.1,Bq];all_goals rfl
theorem Zs8 (a:List (ZC)) (hs:sm (.sl (ZfO)) a):ZkD a=some a:=by
  unfold ZkD;have h:=hs.1;rw[Zg (by omega),Zg (by omega),Zg (by omega),Zg (by omega)];exact ZbQ (f:=Zj2) (λx hx=>Zuu x (hs.2 x hx)) (λk out=>rfl) h
theorem Zs9 (a:Zl) (hs:sm (QC) a):ZiJ a=some a:=by
  unfold ZiJ;rw[Ztb _ hs.2.2.1,Bq,Zs8 _ hs.2.2.2.1,Bq,Qz _ hs.2.2.2.2.1,Bq];all_goals rfl
theorem ZrY (a:List (Zl)) (hs:sm (.sl (QC)) a):Zjl a=some a:=by
  unfold Zjl;have h:=hs.1;rw[Zg (by omega),Zg (by omega),Zg (by omega),Zg (by omega)];exact ZbQ (f:=ZiJ) (λx hx=>Zs9 x (hs.2 x hx)) (λk out=>rfl) h
theorem Zpv (a:Zp) (hs:sm (YV) a):Zgx a=some a:=by
  unfold Zgx;rw[ZrY _ hs.1,Bq];all_goals rfl
theorem Zot (a:Ze) (hs:sm (ZX) a):ZcP a=some a:=by
  unfold ZcP;rw[Qz _ hs.2.2.1,Bq];all_goals rfl
theorem Znu (a:List (Ze)) (hs:sm (.sl (ZX)) a):Zec a=some a:=by
  unfold Zec;have h:=hs.1;rw[Zg (by omega),Zg (by omega),Zg (by omega),Zg (by omega)];exact ZbQ (f:=ZcP) (λx hx=>Zot x (hs.2 x hx)) (λk out=>rfl) h
theorem Zpy (a:List (List UInt8)) (hs:sm (.sl (.str)) a):Zgz a=some a:=by
  unfold Zgz;have h:=hs.1;rw[Zg (by omega),Zg (by omega),Zg (by omega),Zg (by omega)];exact ZbQ (f:=some) (λx _=>rfl) (λk out=>rfl) h
theorem Ztc (a:ZL) (hs:sm (ZaB) a):ZiK a=some a:=by
  unfold ZiK;all_goals rfl
theorem ZrZ (a:List (ZL)) (hs:sm (.sl (ZaB)) a):Zjm a=some a:=by
  unfold Zjm;have h:=hs.1;rw[Zg (by omega),Zg (by omega),Zg (by omega),Zg (by omega)];exact ZbQ (f:=ZiK) (λx hx=>Ztc x (hs.2 x hx)) (λk out=>rfl) h
theorem ZqG (a:Zb) (hs:sm (Yi) a):ZhX a=some a:=by
  unfold ZhX;rw[Znu _ hs.1,Bq,Zpy _ hs.2.1,Bq,ZrZ _ hs.2.2.1,Bq];all_goals rfl
theorem ZmY (a:Zo) (hs:sm (QD) a):Zf3 a=some a:=by
  unfold Zf3;rw[Qz _ hs.1,Bq,Qz _ hs.2.1,Bq,Qz _ hs.2.2.1,Bq,Qz _ hs.2.2.2.1,Bq];all_goals rfl
theorem Zr1 (a:List (Zo)) (hs:sm (.sl (QD)) a):Zjn a=some a:=by
  unfold Zjn;have h:=hs.1;rw[Zg (by omega),Zg (by omega),Zg (by omega),Zg (by omega)];exact ZbQ (f:=Zf3) (λx hx=>ZmY x (hs.2 x hx)) (λk out=>rfl) h
theorem ZrW (a:Za) (hs:sm (ZT) a):Zjj a=some a:=by
  unfold Zjj;rw[Zpv _ hs.1,Bq,ZqG _ hs.2.1,Bq,Zr1 _ hs.2.2.1,Bq];all_goals rfl
theorem Zta (a:Zj) (hs:sm (XO) a):ZkE a=some a:=by
  unfold ZkE;rw[ZmY _ hs.2.2.2.2.2.2.1,Bq];all_goals rfl
theorem ZqF (a:ZA) (hs:sm (XW) a):ZhW a=some a:=by
  unfold ZhW;all_goals rfl
theorem ZjI (a:Zv) (hs:sm (YU) a):Zes a=some a:=by
  unfold Zes;all_goals rfl
theorem ZqH (a:Zk) (hs:sm (Z7) a):Zfr a=some a:=by
  unfold Zfr;rw[ZjI _ hs.2.1,Bq,ZjI _ hs.2.2.1,Bq];all_goals rfl
theorem Zpx (a:List (Zk)) (hs:sm (.sl (Z7)) a):Zgy a=some a:=by
  unfold Zgy;have h:=hs.1;rw[Zg (by omega),Zg (by omega),Zg (by omega),Zg (by omega)];exact ZbQ (f:=Zfr) (λx hx=>ZqH x (hs.2 x hx)) (λk out=>rfl) h
theorem ZrX (a:List (Bool)) (hs:sm (.sl (.bool)) a):Zjk a=some a:=by
  unfold Zjk;have h:=hs.1;rw[Zg (by omega),Zg (by omega),Zg (by omega),Zg (by omega)];exact ZbQ (f:=some) (λx _=>rfl) (λk out=>rfl) h
theorem ZlR (a:List (Zv)) (hs:sm (.sl (YU)) a):ZgQ a=some a:=by
  unfold ZgQ;have h:=hs.1;rw[Zg (by omega),Zg (by omega),Zg (by omega),Zg (by omega)];exact ZbQ (f:=Zes) (λx hx=>ZjI x (hs.2 x hx)) (λk out=>rfl) h
theorem ZqI (a:Zh) (hs:sm (Yf) a):ZhY a=some a:=by
  unfold ZhY;rw[ZrX _ hs.1,Bq,ZlR _ hs.2.1,Bq,ZlR _ hs.2.2.1,Bq];all_goals rfl
theorem ZrH (a:List (Bool)) (hs:sm (.sl (.bool)) a):Zjc a a=some true:=by
  unfold Zjc;rw[Uc rfl];exact ZCl (λk=>rfl) hs.1
theorem ZjG (a:Zv) (hs:sm (YU) a):Zeo a a=some true:=by
  unfold Zeo;simp
theorem ZlM (a:List (Zv)) (hs:sm (.sl (YU)) a):ZgO a a=some true:=by
  unfold ZgO;rw[Uc rfl];exact Zkt (f:=Zeo) (λx hx=>ZjG x (hs.2 x hx)) (λk=>rfl) hs.1
theorem Zld (a:Zh) (hs:sm (Yf) a):Zfn a a=some true:=by
  unfold Zfn;simp[ZrH _ hs.1,ZlM _ hs.2.1,ZlM _ hs.2.2.1]
theorem XY (a:List (Int)) (hs:sm (.sl (.int .i64)) a):X6 a a=some true:=by
  unfold X6;rw[Uc rfl];exact ZxS (λk=>rfl) hs.1
theorem Zut (a:YN) (hs:sm (Ze1) a):ZjY a a=some true:=by
  unfold ZjY;simp
theorem Zs1 (a:List (YN)) (hs:sm (.sl (Ze1)) a):ZkC a a=some true:=by
  unfold ZkC;rw[Uc rfl];exact Zkt (f:=ZjY) (λx hx=>Zut x (hs.2 x hx)) (λk=>rfl) hs.1
theorem ZrK (a:Zw) (hs:sm (Xa) a):ZgP a a=some true:=by
  unfold ZgP;simp[XY _ hs.1,XY _ hs.2.1,XY _ hs.2.2.1]
theorem Zlc (a:List (Zw)) (hs:sm (.sl (Xa)) a):Zfm a a=some true:=by
  unfold Zfm;rw[Uc rfl];exact Zkt (f:=ZgP) (λx hx=>ZrK x (hs.2 x hx)) (λk=>rfl) hs.1
theorem Zus (a:ZC) (hs:sm (ZfO) a):ZjX a a=some true:=by
  unfold ZjX;simp[Zlc _ hs.2.2.2.2.1,Zlc _ hs.2.2.2.2.2.1]
theorem ZsY (a:List (ZC)) (hs:sm (.sl (ZfO)) a):ZkA a a=some true:=by
  unfold ZkA;rw[Uc rfl];exact Zkt (f:=ZjX) (λx hx=>Zus x (hs.2 x hx)) (λk=>rfl) hs.1
theorem ZsZ (a:Zl) (hs:sm (QC) a):ZiH a a=some true:=by
  unfold ZiH;simp[Zs1 _ hs.2.2.1,ZsY _ hs.2.2.2.1,XY _ hs.2.2.2.2.1]
theorem ZrI (a:List (Zl)) (hs:sm (.sl (QC)) a):Zjd a a=some true:=by
  unfold Zjd;rw[Uc rfl];exact Zkt (f:=ZiH) (λx hx=>ZsZ x (hs.2 x hx)) (λk=>rfl) hs.1
theorem Zpd (a:Zp) (hs:sm (YV) a):Zgo a a=some true:=by
  unfold Zgo;simp[ZrI _ hs.1]
theorem Zoc (a:Ze) (hs:sm (ZX) a):ZcI a a=some true:=by
  unfold ZcI;simp[XY _ hs.2.2.1]
theorem Znl (a:List (Ze)) (hs:sm (.sl (ZX)) a):Zd8 a a=some true:=by
  unfold Zd8;rw[Uc rfl];exact Zkt (f:=ZcI) (λx hx=>Zoc x (hs.2 x hx)) (λk=>rfl) hs.1
theorem Zpg (a:List (List UInt8)) (hs:sm (.sl (.str)) a):Zgq a a=some true:=by
  unfold Zgq;rw[Uc rfl];exact ZxS (λk=>rfl) hs.1
theorem Zs2 (a:ZL) (hs:sm (ZaB) a):ZiI a a=some true:=by
  unfold ZiI;simp
theorem ZrJ (a:List (ZL)) (hs:sm (.sl (ZaB)) a):Zje a a=some true:=by
  unfold Zje;rw[Uc rfl];exact Zkt (f:=ZiI) (λx hx=>Zs2 x (hs.2 x hx)) (λk=>rfl) hs.1
theorem Zqq (a:Zb) (hs:sm (Yi) a):ZhQ a a=some true:=by
  unfold ZhQ;simp[Znl _ hs.1,Zpg _ hs.2.1,ZrJ _ hs.2.2.1]
theorem ZmV (a:Zo) (hs:sm (QD) a):ZfZ a a=some true:=by
  unfold ZfZ;simp[XY _ hs.1,XY _ hs.2.1,XY _ hs.2.2.1,XY _ hs.2.2.2.1]
theorem ZrL (a:List (Zo)) (hs:sm (.sl (QD)) a):Zjf a a=some true:=by
  unfold Zjf;rw[Uc rfl];exact Zkt (f:=ZfZ) (λx hx=>ZmV x (hs.2 x hx)) (λk=>rfl) hs.1
theorem ZrG (a:Za) (hs:sm (ZT) a):Zjb a a=some true:=by
  unfold Zjb;simp[Zpd _ hs.1,Zqq _ hs.2.1,ZrL _ hs.2.2.1]
theorem Zs0 (a:Zj) (hs:sm (XO) a):ZkB a a=some true:=by
  unfold ZkB;simp[ZmV _ hs.2.2.2.2.2.2.1]
theorem Zqr (a:Zk) (hs:sm (Z7) a):Zfl a a=some true:=by
  unfold Zfl;simp[ZjG _ hs.2.1,ZjG _ hs.2.2.1]
theorem Zpf (a:List (Zk)) (hs:sm (.sl (Z7)) a):Zgp a a=some true:=by
  unfold Zgp;rw[Uc rfl];exact Zkt (f:=Zfl) (λx hx=>Zqr x (hs.2 x hx)) (λk=>rfl) hs.1
theorem Zyi {α:Type} {L:List α} {j:Nat} {z:α} {A A' B B':Int} (hA:A=A') (hB:B=B'):∃ y,(some (.inl (A,B,List.set L j z,())):Option ((Int×Int×List α×Unit) ⊕ (Int×List α)))=some (.inl (A',B',List.set L j y,())):=⟨z,by rw[hA,hB]⟩
theorem ZiL (k:Int) (h0:0<=k) (h1:k<=4611686018427387904):∃ s,Jh k=some s:=by
  unfold Jh;split
  · exact ⟨_,rfl⟩
  · obtain ⟨r,h,_⟩:=Zki (step:=λv=>Zer v.1 v.2.1) (λv:Int×List UInt8×Unit=>0<=v.1/\v.1+(v.2.1.length:Int)<=4611686018427387904) (λv=>v.1.toNat) (λ_=>True) (v:=(k,([]:List UInt8),())) ⟨h0,by simpa using h1⟩
      (by
        rintro ⟨m,s,⟨⟩⟩ ⟨a,b⟩;simp only at a b;simp only[Zer];by_cases hm:0<m
        · have e1:Int.tdiv m 10=m / 10:=Kk a
          rw[Uc hm,e1,YZ (n:=m / 10) (by omega) (by omega),Zg (by simp only[bytesOf,UL,Un];omega)];refine .inl ⟨_,rfl,⟨by simp only;omega,?_⟩,by simp only;omega⟩;simp only[Ug,bytesOf,UL,Un];omega
        · rw[Ud hm,Zg (by simp only[Un];omega)]
          exact .inr ⟨_,rfl,trivial⟩)
    exact ⟨r,h⟩
theorem Zs7 (a:YN) (left:Int) (h0:0<=left) (h1:left<=1048576) (hb:bnd (Ze1) a):Szt (ZeR a left) left (tot (Ze1) a):=by
  unfold ZeR;exact (Szt.len h0 h1 (by omega) hb.1 (λhw0 a0 b0=>by rw[hw0];exact Szt.ret)).mono (by simp only[Zef,Zhf,Zee,Zeg,Zgg];omega)
theorem ZrS (a:List (YN)) (left:Int) (h0:0<=left) (h1:left<=1048576) (hb:bnd (.sl (Ze1)) a):Szt (Zf2 a left) left (tot (.sl (Ze1)) a):=by
  unfold Zf2;refine (Szt.len h0 h1 (by omega) hb.1 (λhw m0 m1=>(?_:Szt _ _ ((a.map (tot (Ze1))).sum)))).mono (by rw[Zkh];omega);rw[hw];exact Szt.loop (f:=λx m=>ZeR x m) (P:=λx=>sm (Ze1) x) (T:=tot (Ze1)) (λx hx m m0 m1=>Zom x m m0 m1 (hb.2 x hx)) (λx hx m m0 m1=>Zs7 x m m0 m1 (hb.2 x hx)) (λk m=>rfl) m0 m1 (by omega)
theorem X7 (a:List (Int)) (left:Int) (h0:0<=left) (h1:left<=1048576) (hb:bnd (.sl (.int .i64)) a):Szt (XL a left) left (tot (.sl (.int .i64)) a):=by
  unfold XL;refine (Szt.len h0 h1 (by omega) hb.1 (λhw m0 m1=>(?_:Szt _ _ ((a.map (tot (.int .i64))).sum)))).mono (by rw[Zkh];omega);rw[hw];exact Szt.ret.mono (by rw[Zl9 (by rfl)];omega)
theorem ZqC (a:Zw) (left:Int) (h0:0<=left) (h1:left<=1048576) (hb:bnd (Xa) a):Szt (Zbp a left) left (tot (Xa) a):=by
  unfold Zbp;exact (Szt.then (X7 a.1 _ h0 h1 hb.1) h0 h1 (λm0 a0 b0=>Szt.then (X7 a.2.1 _ a0 b0 hb.2.1) a0 b0 (λm1 a1 b1=>Szt.last (X7 a.2.2.1 _ a1 b1 hb.2.2.1)))).mono (by simp only[Zef,Zhf,Zee,Zeg,Zgg];omega)
theorem Zj1 (a:List (Zw)) (left:Int) (h0:0<=left) (h1:left<=1048576) (hb:bnd (.sl (Xa)) a):Szt (ZbD a left) left (tot (.sl (Xa)) a):=by
  unfold ZbD;refine (Szt.len h0 h1 (by omega) hb.1 (λhw m0 m1=>(?_:Szt _ _ ((a.map (tot (Xa))).sum)))).mono (by rw[Zkh];omega);rw[hw];exact Szt.loop (f:=λx m=>Zbp x m) (P:=λx=>sm (Xa) x) (T:=tot (Xa)) (λx hx m m0 m1=>ZlP x m m0 m1 (hb.2 x hx)) (λx hx m m0 m1=>ZqC x m m0 m1 (hb.2 x hx)) (λk m=>rfl) m0 m1 (by omega)
theorem Zs4 (a:ZC) (left:Int) (h0:0<=left) (h1:left<=1048576) (hb:bnd (ZfO) a):Szt (ZeN a left) left (tot (ZfO) a):=by
  unfold ZeN;exact (Szt.then (Zj1 a.2.2.2.2.1 _ h0 h1 hb.2.2.2.2.1) h0 h1 (λm0 a0 b0=>Szt.last (Zj1 a.2.2.2.2.2.1 _ a0 b0 hb.2.2.2.2.2.1))).mono (by simp only[Zef,Zhf,Zee,Zeg,Zgg];omega)
theorem ZrM (a:List (ZC)) (left:Int) (h0:0<=left) (h1:left<=1048576) (hb:bnd (.sl (ZfO)) a):Szt (Zf0 a left) left (tot (.sl (ZfO)) a):=by
  unfold Zf0;refine (Szt.len h0 h1 (by omega) hb.1 (λhw m0 m1=>(?_:Szt _ _ ((a.map (tot (ZfO))).sum)))).mono (by rw[Zkh];omega);rw[hw];exact Szt.loop (f:=λx m=>ZeN x m) (P:=λx=>sm (ZfO) x) (T:=tot (ZfO)) (λx hx m m0 m1=>Zoj x m m0 m1 (hb.2 x hx)) (λx hx m m0 m1=>Zs4 x m m0 m1 (hb.2 x hx)) (λk m=>rfl) m0 m1 (by omega)
theorem ZrQ (a:Zl) (left:Int) (h0:0<=left) (h1:left<=1048576) (hb:bnd (QC) a):Szt (ZcM a left) left (tot (QC) a):=by
  unfold ZcM;exact (Szt.len h0 h1 (by omega) hb.1 (λhw0 a0 b0=>by rw[hw0];exact Szt.then (ZrS a.2.2.1 _ a0 b0 hb.2.2.1) a0 b0 (λm1 a1 b1=>Szt.then (ZrM a.2.2.2.1 _ a1 b1 hb.2.2.2.1) a1 b1 (λm2 a2 b2=>Szt.last (X7 a.2.2.2.2.1 _ a2 b2 hb.2.2.2.2.1))))).mono (by simp only[Zef,Zhf,Zee,Zeg,Zgg];omega)
theorem Zqy (a:List (Zl)) (left:Int) (h0:0<=left) (h1:left<=1048576) (hb:bnd (.sl (QC)) a):Szt (ZeQ a left) left (tot (.sl (QC)) a):=by
  unfold ZeQ;refine (Szt.len h0 h1 (by omega) hb.1 (λhw m0 m1=>(?_:Szt _ _ ((a.map (tot (QC))).sum)))).mono (by rw[Zkh];omega);rw[hw];exact Szt.loop (f:=λx m=>ZcM x m) (P:=λx=>sm (QC) x) (T:=tot (QC)) (λx hx m m0 m1=>ZmW x m m0 m1 (hb.2 x hx)) (λx hx m m0 m1=>ZrQ x m m0 m1 (hb.2 x hx)) (λk m=>rfl) m0 m1 (by omega)
theorem Zol (a:Zp) (left:Int) (h0:0<=left) (h1:left<=1048576) (hb:bnd (YV) a):Szt (Zb4 a left) left (tot (YV) a):=by
  unfold Zb4;exact (Szt.last (Zqy a.1 _ h0 h1 hb.1)).mono (by simp only[Zef,Zhf,Zee,Zeg,Zgg];omega)
theorem Zns (a:Ze) (left:Int) (h0:0<=left) (h1:left<=1048576) (hb:bnd (ZX) a):Szt (VK a left) left (tot (ZX) a):=by
  unfold VK;exact (Szt.len h0 h1 (by omega) hb.1 (λhw0 a0 b0=>by rw[hw0];exact Szt.last (X7 a.2.2.1 _ a0 b0 hb.2.2.1))).mono (by simp only[Zef,Zhf,Zee,Zeg,Zgg];omega)
theorem Zmy (a:List (Ze)) (left:Int) (h0:0<=left) (h1:left<=1048576) (hb:bnd (.sl (ZX)) a):Szt (J9 a left) left (tot (.sl (ZX)) a):=by
  unfold J9;refine (Szt.len h0 h1 (by omega) hb.1 (λhw m0 m1=>(?_:Szt _ _ ((a.map (tot (ZX))).sum)))).mono (by rw[Zkh];omega);rw[hw];exact Szt.loop (f:=λx m=>VK x m) (P:=λx=>sm (ZX) x) (T:=tot (ZX)) (λx hx m m0 m1=>Zji x m m0 m1 (hb.2 x hx)) (λx hx m m0 m1=>Zns x m m0 m1 (hb.2 x hx)) (λk m=>rfl) m0 m1 (by omega)
theorem Zop (a:List (List UInt8)) (left:Int) (h0:0<=left) (h1:left<=1048576) (hb:bnd (.sl (.str)) a):Szt (Zb6 a left) left (tot (.sl (.str)) a):=by
  unfold Zb6;refine (Szt.len h0 h1 (by omega) hb.1 (λhw m0 m1=>(?_:Szt _ _ ((a.map (tot (.str))).sum)))).mono (by rw[Zkh];omega);rw[hw];exact Szt.loop (l:=a) (α:=List UInt8) (f:=λ(x:List UInt8) (m:Int)=>if Wq (m-(x.length:Int))<0 then some (-1) else some (Wq (m-(x.length:Int)))) (P:=λ(x:List UInt8)=>sm .str x) (T:=λ(x:List UInt8)=>tot .str x) (λx hx m m0 m1=>Szd.str x m m0 m1 (hb.2 x hx)) (λx hx m m0 m1=>Szt.str x m m0 m1 (hb.2 x hx)) (λk m=>by
    show V9 a m (k:Int)=_;unfold V9;congr 1;congr 1;funext x;split<;>simp_all) m0 m1 (by omega)
theorem ZrU (a:ZL) (left:Int) (h0:0<=left) (h1:left<=1048576) (hb:bnd (ZaB) a):Szt (ZcN a left) left (tot (ZaB) a):=by
  unfold ZcN;exact (Szt.len h0 h1 (by omega) hb.1 (λhw0 a0 b0=>by rw[hw0];exact Szt.ret)).mono (by simp only[Zef,Zhf,Zee,Zeg,Zgg];omega)
theorem ZqB (a:List (ZL)) (left:Int) (h0:0<=left) (h1:left<=1048576) (hb:bnd (.sl (ZaB)) a):Szt (ZeS a left) left (tot (.sl (ZaB)) a):=by
  unfold ZeS;refine (Szt.len h0 h1 (by omega) hb.1 (λhw m0 m1=>(?_:Szt _ _ ((a.map (tot (ZaB))).sum)))).mono (by rw[Zkh];omega);rw[hw];exact Szt.loop (f:=λx m=>ZcN x m) (P:=λx=>sm (ZaB) x) (T:=tot (ZaB)) (λx hx m m0 m1=>ZmX x m m0 m1 (hb.2 x hx)) (λx hx m m0 m1=>ZrU x m m0 m1 (hb.2 x hx)) (λk m=>rfl) m0 m1 (by omega)
theorem Zpo (a:Zb) (left:Int) (h0:0<=left) (h1:left<=1048576) (hb:bnd (Yi) a):Szt (Zde a left) left (tot (Yi) a):=by
  unfold Zde;exact (Szt.then (Zmy a.1 _ h0 h1 hb.1) h0 h1 (λm0 a0 b0=>Szt.then (Zop a.2.1 _ a0 b0 hb.2.1) a0 b0 (λm1 a1 b1=>Szt.last (ZqB a.2.2.1 _ a1 b1 hb.2.2.1)))).mono (by simp only[Zef,Zhf,Zee,Zeg,Zgg];omega)
theorem ZlQ (a:Zo) (left:Int) (h0:0<=left) (h1:left<=1048576) (hb:bnd (QD) a):Szt (ZbE a left) left (tot (QD) a):=by
  unfold ZbE;exact (Szt.then (X7 a.1 _ h0 h1 hb.1) h0 h1 (λm0 a0 b0=>Szt.then (X7 a.2.1 _ a0 b0 hb.2.1) a0 b0 (λm1 a1 b1=>Szt.then (X7 a.2.2.1 _ a1 b1 hb.2.2.1) a1 b1 (λm2 a2 b2=>Szt.last (X7 a.2.2.2.1 _ a2 b2 hb.2.2.2.1))))).mono (by simp only[Zef,Zhf,Zee,Zeg,Zgg];omega)
theorem ZqE (a:List (Zo)) (left:Int) (h0:0<=left) (h1:left<=1048576) (hb:bnd (.sl (QD)) a):Szt (ZeT a left) left (tot (.sl (QD)) a):=by
  unfold ZeT;refine (Szt.len h0 h1 (by omega) hb.1 (λhw m0 m1=>(?_:Szt _ _ ((a.map (tot (QD))).sum)))).mono (by rw[Zkh];omega);rw[hw];exact Szt.loop (f:=λx m=>ZbE x m) (P:=λx=>sm (QD) x) (T:=tot (QD)) (λx hx m m0 m1=>ZjH x m m0 m1 (hb.2 x hx)) (λx hx m m0 m1=>ZlQ x m m0 m1 (hb.2 x hx)) (λk m=>rfl) m0 m1 (by omega)
theorem Zqw (a:Za) (left:Int) (h0:0<=left) (h1:left<=1048576) (hb:bnd (ZT) a):Szt (ZeO a left) left (tot (ZT) a):=by
  unfold ZeO;exact (Szt.then (Zol a.1 _ h0 h1 hb.1) h0 h1 (λm0 a0 b0=>Szt.then (Zpo a.2.1 _ a0 b0 hb.2.1) a0 b0 (λm1 a1 b1=>Szt.last (ZqE a.2.2.1 _ a1 b1 hb.2.2.1)))).mono (by simp only[Zef,Zhf,Zee,Zeg,Zgg];omega)
theorem ZrR (a:Zj) (left:Int) (h0:0<=left) (h1:left<=1048576) (hb:bnd (XO) a):Szt (Zf1 a left) left (tot (XO) a):=by
  unfold Zf1;exact (Szt.len h0 h1 (by omega) hb.2.2.2.2.2.1 (λhw0 a0 b0=>by rw[hw0];exact Szt.last (ZlQ a.2.2.2.2.2.2.1 _ a0 b0 hb.2.2.2.2.2.2.1))).mono (by simp only[Zef,Zhf,Zee,Zeg,Zgg];omega)
theorem Zoo (a:List (Zk)) (left:Int) (h0:0<=left) (h1:left<=1048576) (hb:bnd (.sl (Z7)) a):Szt (Zb5 a left) left (tot (.sl (Z7)) a):=by
  unfold Zb5;refine (Szt.len h0 h1 (by omega) hb.1 (λhw m0 m1=>(?_:Szt _ _ ((a.map (tot (Z7))).sum)))).mono (by rw[Zkh];omega);rw[hw];exact Szt.ret.mono (by rw[Zl9 (by rfl)];omega)
theorem Zqx (a:List (Bool)) (left:Int) (h0:0<=left) (h1:left<=1048576) (hb:bnd (.sl (.bool)) a):Szt (ZeP a left) left (tot (.sl (.bool)) a):=by
  unfold ZeP;refine (Szt.len h0 h1 (by omega) hb.1 (λhw m0 m1=>(?_:Szt _ _ ((a.map (tot (.bool))).sum)))).mono (by rw[Zkh];omega);rw[hw];exact Szt.ret.mono (by rw[Zl9 (by rfl)];omega)
theorem Zle (a:List (Zv)) (left:Int) (h0:0<=left) (h1:left<=1048576) (hb:bnd (.sl (YU)) a):Szt (ZcO a left) left (tot (.sl (YU)) a):=by
  unfold ZcO;refine (Szt.len h0 h1 (by omega) hb.1 (λhw m0 m1=>(?_:Szt _ _ ((a.map (tot (YU))).sum)))).mono (by rw[Zkh];omega);rw[hw];exact Szt.ret.mono (by rw[Zl9 (by rfl)];omega)
theorem Zpt (a:Zh) (left:Int) (h0:0<=left) (h1:left<=1048576) (hb:bnd (Yf) a):Szt (Zdf a left) left (tot (Yf) a):=by
  unfold Zdf;exact (Szt.then (Zqx a.1 _ h0 h1 hb.1) h0 h1 (λm0 a0 b0=>Szt.then (Zle a.2.1 _ a0 b0 hb.2.1) a0 b0 (λm1 a1 b1=>Szt.last (Zle a.2.2.1 _ a1 b1 hb.2.2.1)))).mono (by simp only[Zef,Zhf,Zee,Zeg,Zgg];omega)
theorem Zqu (a:List (YN)) (k:Int) (hs:sm (.sl (Ze1)) a) (h0:0<=k) (h1:k+(cnt (.sl (Ze1)) a:Int)<=4611686018427387904):Mkd (ZhT a k) k (cnt (.sl (Ze1)) a):=by
  unfold ZhT;have hl:a.length<=1048576:=by have:=hs.1;omega
  refine Mkd.loop (l:=a) (c:=cnt (Ze1)) (λj m x L hj hj' hL hx hxm hm0 hm1 hj2=>?_) (λm L hL=>?_) hl h0 h1
  · have hsx:=hs.2 x hxm
    have hc:((cnt (Ze1) x:Nat):Int)=0+1+1+1+1:=by simp only[Zc4,Ze6,Zc3,Zc5,ZfR];omega
    obtain ⟨s0,e0⟩:=ZiL (m) (by omega) (by omega);have hx2:atI L (j:Int)=some x:=by rw[Zm];exact hx
    have hb:∀ {β:Type} (y:YN) (F:YN->Option β),(atI (List.set L j y) (j:Int)).bind F=F y:=λy F=>by rw[ZfP hj];rfl
    simp only[Zeq,Uc hj',Up,hx2,↓hb,Bq,Ks,e0];refine Zyi ?_ ?_
    · have hc:=hc;simp (disch:=omega) only [YZ];omega
    · simp (disch:=omega) only [YZ];omega
  · simp only[Zeq,Uf,Uh]
theorem XK (a:List (Int)) (k:Int) (hs:sm (.sl (.int .i64)) a) (h0:0<=k) (h1:k+(cnt (.sl (.int .i64)) a:Int)<=4611686018427387904):Mkd (Yw a k) k (cnt (.sl (.int .i64)) a):=by
  unfold Yw;have hl:a.length<=1048576:=by have:=hs.1;omega
  refine Mkd.loop (l:=a) (c:=cnt (.int .i64)) (λj m x L hj hj' hL hx hxm hm0 hm1 hj2=>?_) (λm L hL=>?_) hl h0 h1
  · have hsx:=hs.2 x hxm
    have hc:((cnt (.int .i64) x:Nat):Int)=0+1:=by rfl
    simp (disch:=omega) only [VJ,Uc hj',Zm,hx,Bq,YZ,Up,ZfP,Uy,Ks,Ut];refine ⟨_,UM some (UM Sum.inl (Prod.ext ?_ (Prod.ext ?_ (Prod.ext rfl rfl))))⟩
    · show _=m+_;rw[hc];omega
    · simp only;omega
  · simp only[VJ,Uf,Uh]
theorem Zjg (a:List (Zw)) (k:Int) (hs:sm (.sl (Xa)) a) (h0:0<=k) (h1:k+(cnt (.sl (Xa)) a:Int)<=4611686018427387904):Mkd (ZcJ a k) k (cnt (.sl (Xa)) a):=by
  unfold ZcJ;have hl:a.length<=1048576:=by have:=hs.1;omega
  refine Mkd.loop (l:=a) (c:=cnt (Xa)) (λj m x L hj hj' hL hx hxm hm0 hm1 hj2=>?_) (λm L hL=>?_) hl h0 h1
  · have hsx:=hs.2 x hxm
    have hc:((cnt (Xa) x:Nat):Int)=0+((cnt (.sl (.int .i64)) x.1:Nat):Int)+((cnt (.sl (.int .i64)) x.2.1:Nat):Int)+((cnt (.sl (.int .i64)) x.2.2.1:Nat):Int):=by simp only[Zc4,Ze6,Zc3,Zc5,ZfR];omega
    obtain ⟨s0,e0⟩:=XK x.1 (m) hsx.1 (by omega) (by omega);obtain ⟨s1,e1⟩:=XK x.2.1 (m+((cnt (.sl (.int .i64)) x.1:Nat):Int)) hsx.2.1 (by omega) (by omega);obtain ⟨s2,e2⟩:=XK x.2.2.1 (m+((cnt (.sl (.int .i64)) x.1:Nat):Int)+((cnt (.sl (.int .i64)) x.2.1:Nat):Int)) hsx.2.2.1 (by omega) (by omega);simp (disch:=omega) only [ZcK,Uc hj',Zm,hx,Bq,YZ,Up,ZfP,Uy,Ks,Ut,e0,e1,e2];refine ⟨_,UM some (UM Sum.inl (Prod.ext ?_ (Prod.ext ?_ (Prod.ext rfl rfl))))⟩
    · show _=m+_;rw[hc];omega
    · simp only;omega
  · simp only[ZcK,Uf,Uh]
theorem Zqs (a:List (ZC)) (k:Int) (hs:sm (.sl (ZfO)) a) (h0:0<=k) (h1:k+(cnt (.sl (ZfO)) a:Int)<=4611686018427387904):Mkd (ZhR a k) k (cnt (.sl (ZfO)) a):=by
  unfold ZhR;have hl:a.length<=1048576:=by have:=hs.1;omega
  refine Mkd.loop (l:=a) (c:=cnt (ZfO)) (λj m x L hj hj' hL hx hxm hm0 hm1 hj2=>?_) (λm L hL=>?_) hl h0 h1
  · have hsx:=hs.2 x hxm
    have hc:((cnt (ZfO) x:Nat):Int)=0+1+1+1+1+((cnt (.sl (Xa)) x.2.2.2.2.1:Nat):Int)+((cnt (.sl (Xa)) x.2.2.2.2.2.1:Nat):Int):=by simp only[Zc4,Ze6,Zc3,Zc5,ZfR];omega
    obtain ⟨s0,e0⟩:=Zjg x.2.2.2.2.1 (m+1+1+1+1) hsx.2.2.2.2.1 (by omega) (by omega);obtain ⟨s1,e1⟩:=Zjg x.2.2.2.2.2.1 (m+1+1+1+1+((cnt (.sl (Xa)) x.2.2.2.2.1:Nat):Int)) hsx.2.2.2.2.2.1 (by omega) (by omega);simp (disch:=omega) only [Zep,Uc hj',Zm,hx,Bq,YZ,Up,ZfP,Uy,Ks,Ut,e0,e1];refine ⟨_,UM some (UM Sum.inl (Prod.ext ?_ (Prod.ext ?_ (Prod.ext rfl rfl))))⟩
    · show _=m+_;rw[hc];omega
    · simp only;omega
  · simp only[Zep,Uf,Uh]
theorem Zpk (a:List (Zl)) (k:Int) (hs:sm (.sl (QC)) a) (h0:0<=k) (h1:k+(cnt (.sl (QC)) a:Int)<=4611686018427387904):Mkd (Zgu a k) k (cnt (.sl (QC)) a):=by
  unfold Zgu;have hl:a.length<=1048576:=by have:=hs.1;omega
  refine Mkd.loop (l:=a) (c:=cnt (QC)) (λj m x L hj hj' hL hx hxm hm0 hm1 hj2=>?_) (λm L hL=>?_) hl h0 h1
  · have hsx:=hs.2 x hxm
    have hc:((cnt (QC) x:Nat):Int)=0+1+1+((cnt (.sl (Ze1)) x.2.2.1:Nat):Int)+((cnt (.sl (ZfO)) x.2.2.2.1:Nat):Int)+((cnt (.sl (.int .i64)) x.2.2.2.2.1:Nat):Int)+1+1:=by simp only[Zc4,Ze6,Zc3,Zc5,ZfR];omega
    obtain ⟨s0,e0⟩:=ZiL (m) (by omega) (by omega);obtain ⟨s1,e1⟩:=Zqu x.2.2.1 (m+1+1) hsx.2.2.1 (by omega) (by omega);obtain ⟨s2,e2⟩:=Zqs x.2.2.2.1 (m+1+1+((cnt (.sl (Ze1)) x.2.2.1:Nat):Int)) hsx.2.2.2.1 (by omega) (by omega);obtain ⟨s3,e3⟩:=XK x.2.2.2.2.1 (m+1+1+((cnt (.sl (Ze1)) x.2.2.1:Nat):Int)+((cnt (.sl (ZfO)) x.2.2.2.1:Nat):Int)) hsx.2.2.2.2.1 (by omega) (by omega);simp (disch:=omega) only [Zdw,Uc hj',Zm,hx,Bq,YZ,Up,ZfP,Uy,Ks,Ut,e0,e1,e2,e3];refine ⟨_,UM some (UM Sum.inl (Prod.ext ?_ (Prod.ext ?_ (Prod.ext rfl rfl))))⟩
    · show _=m+_;rw[hc];omega
    · simp only;omega
  · simp only[Zdw,Uf,Uh]
theorem Zno (a:Zp) (k:Int) (hs:sm (YV) a) (h0:0<=k) (h1:k+((cnt (YV) a:Nat):Int)<=4611686018427387904):Mkd (Zd9 a k) k (cnt (YV) a):=by
  unfold Zd9;have hc:((cnt (YV) a:Nat):Int)=0+(((cnt (.sl (QC)) a.1):Nat):Int):=by simp only[Zc4,Ze6,Zc3,Zc5,ZfR];omega
  obtain ⟨s0,e0⟩:=Zpk a.1 (k) hs.1 (by omega) (by omega);simp only[Bq,e0];exact ⟨_,UM some (Prod.ext (by rfl) rfl)⟩
theorem ZlN (a:List (Ze)) (k:Int) (hs:sm (.sl (ZX)) a) (h0:0<=k) (h1:k+(cnt (.sl (ZX)) a:Int)<=4611686018427387904):Mkd (Zcl a k) k (cnt (.sl (ZX)) a):=by
  unfold Zcl;have hl:a.length<=1048576:=by have:=hs.1;omega
  refine Mkd.loop (l:=a) (c:=cnt (ZX)) (λj m x L hj hj' hL hx hxm hm0 hm1 hj2=>?_) (λm L hL=>?_) hl h0 h1
  · have hsx:=hs.2 x hxm
    have hc:((cnt (ZX) x:Nat):Int)=0+1+1+((cnt (.sl (.int .i64)) x.2.2.1:Nat):Int):=by simp only[Zc4,Ze6,Zc3,Zc5,ZfR];omega
    obtain ⟨s0,e0⟩:=ZiL (m) (by omega) (by omega);obtain ⟨s1,e1⟩:=XK x.2.2.1 (m+1+1) hsx.2.2.1 (by omega) (by omega);simp (disch:=omega) only [Za8,Uc hj',Zm,hx,Bq,YZ,Up,ZfP,Uy,Ks,Ut,e0,e1];refine ⟨_,UM some (UM Sum.inl (Prod.ext ?_ (Prod.ext ?_ (Prod.ext rfl rfl))))⟩
    · show _=m+_;rw[hc];omega
    · simp only;omega
  · simp only[Za8,Uf,Uh]
theorem Znq (a:List (List UInt8)) (k:Int) (hs:sm (.sl (.str)) a) (h0:0<=k) (h1:k+(cnt (.sl (.str)) a:Int)<=4611686018427387904):Mkd (Zeb a k) k (cnt (.sl (.str)) a):=by
  unfold Zeb;have hl:a.length<=1048576:=by have:=hs.1;omega
  refine Mkd.loop (l:=a) (c:=cnt (.str)) (λj m x L hj hj' hL hx hxm hm0 hm1 hj2=>?_) (λm L hL=>?_) hl h0 h1
  · have hsx:=hs.2 x hxm
    have hc:((cnt (.str) x:Nat):Int)=0+1:=by rfl
    obtain ⟨s0,e0⟩:=ZiL (m) (by omega) (by omega);simp (disch:=omega) only [Zce,Uc hj',Zm,hx,Bq,YZ,Up,ZfP,Uy,Ks,Ut,e0];refine ⟨_,UM some (UM Sum.inl (Prod.ext ?_ (Prod.ext ?_ (Prod.ext rfl rfl))))⟩
    · show _=m+_;rw[hc];omega
    · simp only;omega
  · simp only[Zce,Uf,Uh]
theorem Zpl (a:List (ZL)) (k:Int) (hs:sm (.sl (ZaB)) a) (h0:0<=k) (h1:k+(cnt (.sl (ZaB)) a:Int)<=4611686018427387904):Mkd (Zgv a k) k (cnt (.sl (ZaB)) a):=by
  unfold Zgv;have hl:a.length<=1048576:=by have:=hs.1;omega
  refine Mkd.loop (l:=a) (c:=cnt (ZaB)) (λj m x L hj hj' hL hx hxm hm0 hm1 hj2=>?_) (λm L hL=>?_) hl h0 h1
  · have hsx:=hs.2 x hxm
    have hc:((cnt (ZaB) x:Nat):Int)=0+1+1+1:=by simp only[Zc4,Ze6,Zc3,Zc5,ZfR];omega
    obtain ⟨s0,e0⟩:=ZiL (m) (by omega) (by omega);simp (disch:=omega) only [Zdx,Uc hj',Zm,hx,Bq,YZ,Up,ZfP,Uy,Ks,Ut,e0];refine ⟨_,UM some (UM Sum.inl (Prod.ext ?_ (Prod.ext ?_ (Prod.ext rfl rfl))))⟩
    · show _=m+_;rw[hc];omega
    · simp only;omega
  · simp only[Zdx,Uf,Uh]
theorem Zoi (a:Zb) (k:Int) (hs:sm (Yi) a) (h0:0<=k) (h1:k+((cnt (Yi) a:Nat):Int)<=4611686018427387904):Mkd (Zfq a k) k (cnt (Yi) a):=by
  unfold Zfq;have hc:((cnt (Yi) a:Nat):Int)=0+(((cnt (.sl (ZX)) a.1):Nat):Int)+(((cnt (.sl (.str)) a.2.1):Nat):Int)+(((cnt (.sl (ZaB)) a.2.2.1):Nat):Int):=by simp only[Zc4,Ze6,Zc3,Zc5,ZfR];omega
  obtain ⟨s0,e0⟩:=ZlN a.1 (k) hs.1 (by omega) (by omega);obtain ⟨s1,e1⟩:=Znq a.2.1 (k+(((cnt (.sl (ZX)) a.1):Nat):Int)) hs.2.1 (by omega) (by omega);obtain ⟨s2,e2⟩:=Zpl a.2.2.1 (k+(((cnt (.sl (ZX)) a.1):Nat):Int)+(((cnt (.sl (.str)) a.2.1):Nat):Int)) hs.2.2.1 (by omega) (by omega);simp only[Bq,e0,e1,e2];exact ⟨_,UM some (Prod.ext (by show _=k+_;rw[hc];omega) rfl)⟩
theorem Zpm (a:List (Zo)) (k:Int) (hs:sm (.sl (QD)) a) (h0:0<=k) (h1:k+(cnt (.sl (QD)) a:Int)<=4611686018427387904):Mkd (Zgw a k) k (cnt (.sl (QD)) a):=by
  unfold Zgw;have hl:a.length<=1048576:=by have:=hs.1;omega
  refine Mkd.loop (l:=a) (c:=cnt (QD)) (λj m x L hj hj' hL hx hxm hm0 hm1 hj2=>?_) (λm L hL=>?_) hl h0 h1
  · have hsx:=hs.2 x hxm
    have hc:((cnt (QD) x:Nat):Int)=0+((cnt (.sl (.int .i64)) x.1:Nat):Int)+((cnt (.sl (.int .i64)) x.2.1:Nat):Int)+((cnt (.sl (.int .i64)) x.2.2.1:Nat):Int)+((cnt (.sl (.int .i64)) x.2.2.2.1:Nat):Int):=by simp only[Zc4,Ze6,Zc3,Zc5,ZfR];omega
    obtain ⟨s0,e0⟩:=XK x.1 (m) hsx.1 (by omega) (by omega);obtain ⟨s1,e1⟩:=XK x.2.1 (m+((cnt (.sl (.int .i64)) x.1:Nat):Int)) hsx.2.1 (by omega) (by omega);obtain ⟨s2,e2⟩:=XK x.2.2.1 (m+((cnt (.sl (.int .i64)) x.1:Nat):Int)+((cnt (.sl (.int .i64)) x.2.1:Nat):Int)) hsx.2.2.1 (by omega) (by omega);obtain ⟨s3,e3⟩:=XK x.2.2.2.1 (m+((cnt (.sl (.int .i64)) x.1:Nat):Int)+((cnt (.sl (.int .i64)) x.2.1:Nat):Int)+((cnt (.sl (.int .i64)) x.2.2.1:Nat):Int)) hsx.2.2.2.1 (by omega) (by omega);simp (disch:=omega) only [Zdz,Uc hj',Zm,hx,Bq,YZ,Up,ZfP,Uy,Ks,Ut,e0,e1,e2,e3];refine ⟨_,UM some (UM Sum.inl (Prod.ext ?_ (Prod.ext ?_ (Prod.ext rfl rfl))))⟩
    · show _=m+_;rw[hc];omega
    · simp only;omega
  · simp only[Zdz,Uf,Uh]
theorem Zpi (a:Za) (k:Int) (hs:sm (ZT) a) (h0:0<=k) (h1:k+((cnt (ZT) a:Nat):Int)<=4611686018427387904):Mkd (Zgs a k) k (cnt (ZT) a):=by
  unfold Zgs;have hc:((cnt (ZT) a:Nat):Int)=0+(((cnt (YV) a.1):Nat):Int)+(((cnt (Yi) a.2.1):Nat):Int)+(((cnt (.sl (QD)) a.2.2.1):Nat):Int):=by simp only[Zc4,Ze6,Zc3,Zc5,ZfR];omega
  obtain ⟨s0,e0⟩:=Zno a.1 (k) hs.1 (by omega) (by omega);obtain ⟨s1,e1⟩:=Zoi a.2.1 (k+(((cnt (YV) a.1):Nat):Int)) hs.2.1 (by omega) (by omega);obtain ⟨s2,e2⟩:=Zpm a.2.2.1 (k+(((cnt (YV) a.1):Nat):Int)+(((cnt (Yi) a.2.1):Nat):Int)) hs.2.2.1 (by omega) (by omega);simp only[Bq,e0,e1,e2];exact ⟨_,UM some (Prod.ext (by show _=k+_;rw[hc];omega) rfl)⟩
theorem Znp (a:List (Zk)) (k:Int) (hs:sm (.sl (Z7)) a) (h0:0<=k) (h1:k+(cnt (.sl (Z7)) a:Int)<=4611686018427387904):Mkd (Zea a k) k (cnt (.sl (Z7)) a):=by
  unfold Zea;have hl:a.length<=1048576:=by have:=hs.1;omega
  refine Mkd.loop (l:=a) (c:=cnt (Z7)) (λj m x L hj hj' hL hx hxm hm0 hm1 hj2=>?_) (λm L hL=>?_) hl h0 h1
  · have hsx:=hs.2 x hxm
    have hc:((cnt (Z7) x:Nat):Int)=0+1+1+1+1+1:=by simp only[Zc4,Ze6,Zc3,Zc5,ZfR];omega
    have hx2:atI L (j:Int)=some x:=by rw[Zm];exact hx
    have hb:∀ {β:Type} (y:Zk) (F:Zk->Option β),(atI (List.set L j y) (j:Int)).bind F=F y:=λy F=>by rw[ZfP hj];rfl
    simp only[Zcd,Uc hj',Up,hx2,↓hb,Bq,Ks];refine Zyi ?_ ?_
    · have hc:=hc;simp (disch:=omega) only [YZ];omega
    · simp (disch:=omega) only [YZ];omega
  · simp only[Zcd,Uf,Uh]
theorem ZfQ {a b:Bool} (h:a=true<->b=true):a=b:=by cases a<;>cases b<;>simp_all
theorem VE {P Q:Prop} (h:P<->Q):tr P=tr Q:=by rw[propext h]
def Inc (l:List Int):Prop:=∀ (k:Nat) (x y:Int),l[k]?=some x->l[k+1]?=some y->x<y
def ZjP (l:List Int) (lo hi:Int):Prop:=∀ x∈l,lo<=x/\x<=hi
theorem ZnP (l:List Int) (lo hi:Int):allIn l lo hi=true<->ZjP l lo hi:=by
  unfold allIn ZjP;rw[KE];simp only[within_iff]
theorem Vf (l:List Int):Xg l=some (l.length:Int):=rfl
theorem Zhj (l:List Int) (hl:Len l):Vp l=some (tr (Inc l)):=by
  unfold Vp;have h4:l.length<=4611686018427387904:=hl;by_cases h0:l.length=0
  · have:l=[]:=UF h0
    subst this;rw[Xn (r:=true) (by rfl)];have h0:Inc []:=λk x y h=>by simp at h
    rw[ZU h0]
  have:=Zyf (ρ:=Bool) 1 l.length (by omega) h4 (λk=>∀ x y,l[k-1]?=some x->l[k]?=some y->x<y) (step:=λv=>QX l v.1) (bad:=false) (good:=true)
    (λk h1 h2 _=>by
      obtain ⟨x,hx⟩:∃ x,l[k-1]?=some x:=⟨_,Ua (by omega)⟩;obtain ⟨y,hy⟩:∃ y,l[k]?=some y:=⟨_,Ua h2⟩;have e1:Wq ((k:Int)-1)=((k-1:Nat):Int):=by rw[YZ (by omega) (by omega)];omega
      simp only[QX,show (k:Int)<(l.length:Int) from by omega,Uj,e1,Zm,hx,hy,Bq];refine ⟨λh=>?_,λh=>?_⟩
      · have:=h x y rfl rfl
        rw[Ud (by omega)]
      · rw[Uc]
        rcases Int.lt_or_le x y with h' | h'
        · exact absurd (λa b ha hb=>by injection ha with ha;injection hb with hb;subst ha;subst hb;exact h') h
        · exact h')
    (λ_=>by simp only[QX,Uf,Uh])
  refine (show Zq (λv=>QX l v.1) ((1:Int),())=_ from this).trans ?_;rw[Zlj];congr 1;refine VE ⟨λh k x y hx hy=>?_,λh j h1 h2 x y hx hy=>?_⟩
  · exact h (k+1) (by omega) (Ub.1 hy).1 x y (by simpa using hx) hy
  · exact h (j-1) x y hx (by rw[show j-1+1=j by omega];exact hy)
def Zhg (l:List Int):Prop:=1<=l.length/\l.length<=4/\ZjP l 0 100000/\Inc l
theorem ZmS (l:List Int) (hl:Len l):ZiE l=some (tr (Zhg l)):=by
  unfold ZiE;rw[Vf,Bq,Zb3,Bq,Zdc l _ _ hl,Bq,Zhj l hl,Bq];have e:tr (Zhg l)=(within (l.length:Int) 1 4&&allIn l 0 100000&&tr (Inc l)):=by
    refine ZqV ?_;simp only[Ur,within_iff,ZnP,YS,Zhg];exact ⟨λ⟨⟨⟨a,b⟩,c⟩,d⟩=>⟨by omega,by omega,c,d⟩,λ⟨a,b,c,d⟩=>⟨⟨⟨by omega,by omega⟩,c⟩,d⟩⟩
  rw[e];cases within (l.length:Int) 1 4<;>cases allIn l 0 100000<;>cases tr (Inc l)<;>rfl
theorem Zl3 (l:List Int) (hl:Len l):ZgW l=some (tr (Zhg l)):=by
  unfold ZgW;have h4:l.length<=4611686018427387904:=hl;rw[VL hl (λk x=>(0<=x/\x<=100000)/\(0<k->∀ y,l[k-1]?=some y->y<x)) (bad:=false) (good:=decide (1<=l.length/\l.length<=4))
    (λk x hx hk _=>by
      simp only[ZfD,show (k:Int)<(l.length:Int) from by omega,Uj,Zm,hx,Bq,ZfC];by_cases hw:within x 0 100000=true
      · rw[Uc hw]
        by_cases h0:0<k
        · obtain ⟨y,hy⟩:∃ y,l[k-1]?=some y:=⟨_,Ua (by omega)⟩
          have e1:Wq ((k:Int)-1)=((k-1:Nat):Int):=by rw[YZ (by omega) (by omega)];omega
          rw[Uc (by omega),e1,Zm,hy,Bq];refine ⟨λh=>?_,λh=>?_⟩
          · rw[Ud (by have:=h.2 h0 y rfl;omega)]
          · rw[Uc]
            rcases Int.lt_or_le y x with h' | h'
            · exact absurd ⟨(within_iff _ _ _).1 hw,λ_ z hz=>by injection hz with hz;subst hz;exact h'⟩ h
            · exact h'
        · rw[Ud (by omega)]
          exact ⟨λ_=>rfl,λh=>absurd ⟨(within_iff _ _ _).1 hw,λh'=>absurd h' h0⟩ h⟩
      · rw[Ud hw]
        exact ⟨λh=>absurd ((within_iff _ _ _).2 h.1) hw,λ_=>rfl⟩)
    (λ_=>by
      simp only[ZfD,Uf,Uh];by_cases h1:1<=l.length
      · rw[Uc (by omega)]
        congr 2;rw[Km];omega
      · rw[Ud (by omega)]
        simp[h1])]
  congr 1;refine ZfQ ?_;rw[YS];by_cases h:ZfL l (λk x=>(0<=x/\x<=100000)/\(0<k->∀ y,l[k-1]?=some y->y<x))
  · rw[QF h,Uk]
    constructor
    · rintro ⟨h1,h2⟩
      refine ⟨h1,h2,λx hx=>?_,λk x y hx hy=>?_⟩
      · obtain ⟨k,hk⟩:=UE.1 hx
        exact (h k x hk).1
      · exact (h (k+1) y hy).2 (by omega) x (by simpa using hx)
    · intro hh
      exact ⟨hh.1,hh.2.1⟩
  · rw[Qc h]
    constructor
    · intro hh;cases hh
    · intro hh
      refine absurd ?_ h;intro k x hk;refine ⟨hh.2.2.1 x (Ue hk),λh0 y hy=>?_⟩;exact hh.2.2.2 (k-1) y x hy (by rw[show k-1+1=k by omega];exact hk)
def Jz (t:Zw):Prop:=Zhg (GM t)/\Zhg (Gt t)/\(Gr t).length=(GM t).length*(Gt t).length/\ZjP (Gr t) (-1000000) 1000000
def ZFF (t:Zw):Prop:=Len (GM t)/\Len (Gt t)/\Len (Gr t)
theorem Zhg.mul {a b:List Int} (ha:Zhg a) (hb:Zhg b):a.length*b.length<=16:=by
  have h1:=ha.2.1;have h2:=hb.2.1
  calc a.length*b.length<=4*4:=Ko h1 h2
    _=16:=rfl
theorem Zyl {a b:List Int} (ha:Zhg a) (hb:Zhg b):Wq ((a.length:Int)*(b.length:Int))=((a.length*b.length:Nat):Int):=by
  have:=ha.mul hb;have e:(a.length:Int)*(b.length:Int)=((a.length*b.length:Nat):Int):=by simp
  rw[e,YZ (by omega) (by omega)]
theorem Zrv (t:Zw) (h:ZFF t):Zi4 t=some (tr (Jz t)):=by
  unfold Zi4;rw[ZmS _ h.1,Bq];by_cases h1:Zhg (GM t)
  · rw[Uc (ZU h1),ZmS _ h.2.1,Bq]
    by_cases h2:Zhg (Gt t)
    · rw[Uc (ZU h2),Zyl h1 h2]
      by_cases h3:(Gr t).length=(GM t).length*(Gt t).length
      · rw[Uc (by rw[h3]),Zdc _ _ _ h.2.2,Bq]
        congr 1;refine ZfQ ?_;rw[ZnP,YS];exact ⟨λh4=>⟨h1,h2,h3,h4⟩,λh4=>h4.2.2.2⟩
      · rw[Ud (by omega),Yj (λhh=>h3 hh.2.2.1)]
    · rw[Ud (by rw[Yj h2];simp),Yj (λhh=>h2 hh.2.1)]
  · rw[Ud (by rw[Yj h1];simp),Yj (λhh=>h1 hh.1)]
theorem Zsp (t:Zw) (h:ZFF t):Zjv t=some (tr (Jz t)):=by
  unfold Zjv;rw[Zl3 _ h.1,Bq];by_cases h1:Zhg (GM t)
  · rw[Uc (ZU h1),Zl3 _ h.2.1,Bq]
    by_cases h2:Zhg (Gt t)
    · rw[Uc (ZU h2),Zyl h1 h2]
      by_cases h3:(Gr t).length=(GM t).length*(Gt t).length
      · rw[Uc (by rw[h3]),VL h.2.2 (λk x=>-1000000<=x/\x<=1000000) (bad:=false) (good:=true)
          (λk x hx hk _=>by
            simp only[ZfB,show (k:Int)<((Gr t).length:Int) from by omega,Uj,Zm,hx,Bq,ZfC,within_iff];exact ⟨λhh=>by rw[Uc hh],λhh=>by rw[Ud hh]⟩)
          (λ_=>by simp only[ZfB,Uf,Uh]),Zlj]
        congr 1;refine VE ⟨λh4=>⟨h1,h2,h3,λx hx=>?_⟩,λh4 k x hx=>h4.2.2.2 x (Ue hx)⟩;obtain ⟨k,hk⟩:=UE.1 hx;exact h4 k x hk
      · rw[Ud (by omega),Yj (λhh=>h3 hh.2.2.1)]
    · rw[Ud (by rw[Yj h2];simp),Yj (λhh=>h2 hh.2.1)]
  · rw[Ud (by rw[Yj h1];simp),Yj (λhh=>h1 hh.1)]
theorem ZuS (x:Int) (l:List Int) (hl:Len (x::l)):Jj (x::l)=some (l.foldl min x):=by
  unfold Jj;have h4:(x::l).length<=4611686018427387904:=hl;have e1:¬(((x::l).length:Int)<1):=by simp only[Uz];omega
  have e2:atI (x::l) (0:Int)=some x:=rfl;rw[Ud e1,e2,Bq];refine Yy l.length (λk v=>v.1=(l.take k).foldl min x/\v.2.1=(((k+1:Nat)):Int)) _ ⟨by simp,rfl⟩ ?_ ?_
  · rintro k ⟨m,i,⟨⟩⟩ hk ⟨hm,hi⟩
    simp only at hm hi;subst hm;subst hi;have hx:l[k]?=some l[k]:=Ua hk;have hx1:(x::l)[k+1]?=some l[k]:=by simp
    simp only[V6,Zm,hx1,Bq,show ((k+1:Nat):Int)<((x::l).length:Int) from by simp;omega,Uj];refine .inl ⟨_,rfl,?_,?_⟩
    · rw[Yu hx,List.foldl_append];rfl
    · simp only[Uz] at h4
      show Wq (((k+1:Nat):Int)+1)=((k+1+1:Nat):Int);rw[YZ (by omega) (by omega)];omega
  · rintro ⟨m,i,⟨⟩⟩ ⟨hm,hi⟩
    simp only at hm hi;subst hm;subst hi;rw[Um];simp only[V6,show ¬(((l.length+1:Nat):Int)<((x::l).length:Int)) from by simp,Uh]
theorem Zn2 (x:Int) (l:List Int):l.foldl min x<0<->x<0\/∃ y∈l,y<0:=by
  induction l generalizing x with
  | nil=>simp
  | cons y r ih =>
    simp only[List.foldl_cons,ih,UT,exists_eq_or_imp];rw[show min x y<0<->x<0\/y<0 by omega,or_assoc]
def Zdt (l:List Zw) (pos:Bool):Prop:=l.length=2/\∀ t∈l,Jz t/\(pos=true->∀ v∈Gr t,0<=v)
theorem Jz.some {t:Zw} (h:Jz t):∃ x l,Gr t=x::l:=by
  have h1:=h.1.1;have h2:=h.2.1.1;have h3:=h.2.2.1;have:1*1<=(GM t).length*(Gt t).length:=Ko h1 h2;cases hv:Gr t with
  | nil=>rw[hv] at h3;simp at h3;omega
  | cons x l=>exact ⟨x,l,rfl⟩
theorem Zmu (t:Zw) (pos:Bool) (h:ZFF t):Ju t pos=some (! tr (Jz t/\(pos=true->∀ v∈Gr t,0<=v))):=by
  unfold Ju;rw[Zrv _ h,Bq];by_cases h1:Jz t
  · rw[Uc (ZU h1)]
    cases pos
    · rw[Ud (by simp),ZU ⟨h1,λe=>by cases e⟩];rfl
    · obtain ⟨x,l,hv⟩:=h1.some
      have hlen:=h.2.2;rw[Uc rfl,hv];rw[hv] at hlen;rw[ZuS x l hlen,Bq];congr 1;refine ZfQ ?_;rw[Uk,Zn2,UP,<-KL,YS];constructor
      · rintro (hh | ⟨y,hy,hh⟩) ⟨_,hall⟩
        · have:=hall rfl x (by simp);omega
        · have:=hall rfl y (by simp[hy]);omega
      · intro hh
        apply UU;intro hn;refine hh ⟨h1,λ_ v hvm=>?_⟩;rcases UT.1 hvm with rfl | hvm
        · exact Int.not_lt.1 λhlt=>hn (.inl hlt)
        · exact Int.not_lt.1 λhlt=>hn (.inr ⟨v,hvm,hlt⟩)
  · rw[Ud (by rw[Yj h1];simp),Yj (λhh=>h1 hh.1)];rfl
def ZDK (l:List Zw):Prop:=Len l/\∀ t∈l,ZFF t
theorem ZfU (l:List Zw) (pos:Bool) (h:ZDK l):Zb2 l pos=some (tr (Zdt l pos)):=by
  unfold Zb2;by_cases h2:l.length=2
  · rw[Uc (by omega),QK h.1 (λt=>! tr (Jz t/\(pos=true->∀ v∈Gr t,0<=v))) (λt ht=>Zmu t pos (h.2 t ht)),Bq]
    congr 1;refine ZfQ ?_;rw[UP,List.any_eq_false,YS];simp only[UP,Bool.not_eq_false,YS,KL];exact ⟨λhh=>⟨h2,hh⟩,λhh=>hh.2⟩
  · rw[Ud (by omega),Yj (λhh=>h2 hh.1)]
theorem Zjo {α τ ρ:Type} {l:List α} (pk:Nat->τ) (P:Nat->α->Prop) {step:τ->Option (τ ⊕ ρ)} {bad good:ρ}
    (hs:∀ (k:Nat) (x:α),l[k]?=some x->k<l.length->(∀ (j:Nat) (y:α),j<k->l[j]?=some y->P j y)->(P k x->step (pk k)=some (.inl (pk (k+1))))/\(¬P k x->step (pk k)=some (.inr bad)))
    (hx:ZfL l P->step (pk l.length)=some (.inr good)):Zq step (pk 0)=some (sel (ZfL l P) good bad):=by
  refine Yy l.length (λk v=>v=pk k/\∀ (j:Nat) (y:α),j<k->l[j]?=some y->P j y) _ ⟨rfl,λj y hj=>by omega⟩ ?_ ?_
  · rintro k v hk ⟨rfl,hS⟩
    have hx:l[k]?=some l[k]:=Ua hk;obtain ⟨h1,h2⟩:=hs k _ hx hk hS;by_cases hP:P k l[k]
    · refine .inl ⟨_,h1 hP,rfl,λj y hj hy=>?_⟩
      by_cases hjk:j<k
      · exact hS j y hjk hy
      · have:j=k:=by omega
        subst this;rw[hx] at hy;injection hy with hy;subst hy
        exact hP
    · right
      rw[h2 hP,Qc (λh=>hP (h k _ hx))]
  · rintro v ⟨rfl,hS⟩
    have hA:ZfL l P:=λk x hk=>hS k x (Ub.1 hk).1 hk;rw[hx hA,QF hA]
theorem YK {α τ ρ:Type} {l:List α} (pk:Nat->τ) {step:τ->Option (τ ⊕ ρ)} {good:ρ}
    (hs:∀ (k:Nat) (x:α),l[k]?=some x->k<l.length->step (pk k)=some (.inl (pk (k+1)))) (hx:step (pk l.length)=some (.inr good)):Zq step (pk 0)=some good:=by
  have:=Zjo (l:=l) pk (λ_ _=>True) (step:=step) (bad:=good) (good:=good) (λk x h1 h2 _=>⟨λ_=>hs k x h1 h2,λh=>absurd trivial h⟩) (λ_=>hx);rw[this,QF (show ZfL l (λ_ _=>True) from λ_ _ _=>trivial)]
theorem Zr3 {ρ:Type} (n:Nat) (hn:n<=4611686018427387904) (P:Nat->Prop) {step:Int×Unit->Option ((Int×Unit) ⊕ ρ)} {bad good:ρ}
    (hs:∀ k:Nat,k<n->(P k->step ((k:Int),())=some (.inl (Wq ((k:Int)+1),())))/\(¬P k->step ((k:Int),())=some (.inr bad)))
    (hx:(∀ j,j<n->P j)->step ((n:Int),())=some (.inr good)):Zq step ((0:Int),())=some (sel (∀ j,j<n->P j) good bad):=by
  have:=Zyf (ρ:=ρ) 0 n (by omega) hn P (step:=step) (bad:=bad) (good:=good) (λk _ h _=>hs k h) (λh=>hx (λj hj=>h j (by omega) hj));refine (show Zq step ((0:Int),())=_ from this).trans ?_;congr 1;have e:(∀ j,0<=j->j<n->P j)<->(∀ j,j<n->P j):=⟨λh j hj=>h j (by omega) hj,λh j _ hj=>h j hj⟩;rw[propext e]
theorem Qi {t:Ty} {l:List t.den} (h:sm (.sl t) l):Len l:=by
  have h1:(l.length:Int)<=1048576:=h.1;show l.length<=4611686018427387904;omega
theorem Zkf {s:List UInt8} (h:sm .str s):s.length<=4611686018427387904:=by
  have h1:(s.length:Int)<=1048576:=h;omega
theorem Zv6 {t:Ty} {l:List t.den} (h:sm (.sl t) l) {x:t.den} (hx:x∈l):sm t x:=h.2 x hx
theorem Zas {t:Ty} {l:List t.den} (h:sm (.sl t) l) {k:Nat} {x:t.den} (hx:l[k]?=some x):sm t x:=h.2 x (Ue hx)
theorem Zu {t:Ty} {l:List t.den} (h:sm (.sl t) l):l.length<=1048576:=by
  have h1:(l.length:Int)<=1048576:=h.1;omega
theorem Zzo {t:Zw} (h:sm Xa t):ZFF t:=⟨Qi (t:=.int .i64) h.1,Qi (t:=.int .i64) h.2.1,Qi (t:=.int .i64) h.2.2.1⟩
theorem Zk3 {l:List Zw} (h:sm (.sl Xa) l):ZDK l:=⟨Qi h,λt ht=>Zzo (Zv6 h ht)⟩
theorem ZnG (t:Zw) (h:ZFF t):∃ r,Zed t=some r/\(Jz t->r.2=0/\(r.1.1<0<->∃ v∈Gr t,v<0))/\(¬Jz t->r.2=1):=by
  unfold Zed;rw[Zsp _ h,Bq];by_cases h1:Jz t
  · rw[Uc (ZU h1)]
    obtain ⟨x,l,hv⟩:=h1.some;have h4:(x::l).length<=4611686018427387904:=by rw[<-hv];exact h.2.2
    have e2:atI (Gr t) (0:Int)=some x:=by rw[hv];rfl
    rw[e2,Bq];have:=YK (l:=l) (ρ:=Zv×Int) (λk=>((((k+1:Nat)):Int),(l.take k).foldl min x,(l.take k).foldl max x,())) (step:=λv=>JZ t v.1 v.2.1 v.2.2.1) (good:=((l.foldl min x,l.foldl max x,()),0))
      (λk y hy hk=>by
        have hx1:(x::l)[k+1]?=some y:=by simpa using hy
        simp only[Uz] at h4;simp only[JZ,hv,Zm,hx1,Bq,show ((k+1:Nat):Int)<((x::l).length:Int) from by simp;omega,Uj];rw[Yu hy,List.foldl_append,List.foldl_append,YZ (by omega) (by omega)];rfl)
      (by
        simp only[JZ,hv,Um,show ¬(((l.length+1:Nat):Int)<((x::l).length:Int)) from by simp,Uh])
    refine ⟨_,this,λ_=>⟨rfl,?_⟩,λhn=>absurd h1 hn⟩;rw[hv];refine (Zn2 x l).trans ?_;simp
  · rw[Ud (by rw[Yj h1];simp)]
    exact ⟨_,rfl,λhn=>absurd hn h1,λ_=>rfl⟩
theorem Zgd (l:List Zw) (pos:Bool) (h:ZDK l):Y3 l pos=some (tr (Zdt l pos)):=by
  unfold Y3;by_cases h2:l.length=2
  · rw[Uc (by omega),VL h.1 (λk t=>Jz t/\(pos=true->∀ v∈Gr t,0<=v)) (bad:=false) (good:=true)
      (λk t hx hk _=>by
        obtain ⟨r,hr,hr1,hr2⟩:=ZnG t (h.2 t (Ue hx));simp only[ZdE,show (k:Int)<2 from by omega,Uj,Zm,hx,Bq,hr];by_cases ht:Jz t
        · obtain ⟨e1,e2⟩:=hr1 ht
          rw[Uc e1];cases pos
          · simp only[Kf,Uh]
            exact ⟨λ_=>trivial,λhn=>absurd ⟨ht,λe=>by cases e⟩ hn⟩
          · simp only[Uj]
            refine ⟨λhh=>?_,λhn=>?_⟩
            · rw[Ud]
              intro hlt;obtain ⟨v,hv,hv0⟩:=e2.1 hlt;have:=hh.2 trivial v hv;omega
            · rw[Uc]
              apply UU;intro hlt;refine hn ⟨ht,λ_ v hv=>?_⟩;exact Int.not_lt.1 λhv0=>hlt (e2.2 ⟨v,hv,hv0⟩)
        · have e1:=hr2 ht
          rw[Ud (by rw[e1];decide)];exact ⟨λhh=>absurd hh.1 ht,λ_=>rfl⟩)
      (λ_=>by simp only[ZdE,h2];rfl),Zlj]
    congr 1;refine VE ⟨λhh=>⟨h2,λt ht=>?_⟩,λhh k t hk=>hh.2 t (Ue hk)⟩;obtain ⟨k,hk⟩:=UE.1 ht;exact hh k t hk
  · rw[Ud (by omega),Yj (λhh=>h2 hh.1)]
def ZgU (l:List YN):List (List UInt8):=l.map GG
def ZqK (l:List YN):Nat:=l.countP (λp=>Gg p)
def Zvh (n k:Nat) (p:YN):Prop:=(0<=GV p/\GV p<=500)/\(k+1=n->GW p=2/\GV p=0/\Gg p=false)/\(k+1<n->GW p=1)
def ZmH (l:List YN):Prop:=2<=l.length/\l.length<=5/\V4 (ZgU l) l.length/\ZfL l (Zvh l.length)
theorem Zrx (l:List YN) (h:sm (.sl Ze1) l):Zi6 l=some (tr (ZmH l)):=by
  unfold Zi6;have hs:=Zu h;have:=Zjo (l:=l) (ρ:=Bool) (λk=>((ZgU l).take k,(k:Int),())) (Zvh l.length) (step:=λv=>Zag l v.1 v.2.1) (bad:=false) (good:=tr (2<=l.length/\l.length<=5/\V4 (ZgU l) l.length))
    (λk p hx hk _=>by
      have hn:(ZgU l)[k]?=some (GG p):=by simp[ZgU,hx]
      have e1:Wq ((l.length:Int)-1)=((l.length-1:Nat):Int):=by rw[YZ (by omega) (by omega)];omega
      simp only[Zag,show (k:Int)<(l.length:Int) from by omega,Uj,Zm,hx,Bq,e1];rw[Zg (by simp only[Ui,Un,ZgU,UL];omega),Yu hn,YZ (by omega) (by omega)];unfold Zvh;by_cases hlast:(k:Int)=((l.length-1:Nat):Int)
      · rw[Uc hlast]
        have hk1:k+1=l.length:=by omega
        constructor
        · rintro ⟨_,h2,_⟩
          obtain ⟨a,b,c⟩:=h2 hk1;rw[Uc a,Uc b,Ud (by rw[c];simp)];rfl
        · intro hh
          split
          · split
            · split
              · rfl
              · rename_i a b c
                exact absurd ⟨by omega,λ_=>⟨a,b,by simpa using c⟩,λh'=>by omega⟩ hh
            · rfl
          · rfl
      · rw[Ud hlast,Zb3]
        have hk1:k+1<l.length:=by omega
        simp only[Bq,within_iff];constructor
        · rintro ⟨h1,_,h3⟩
          rw[Uc (h3 hk1),Uc h1];rfl
        · intro hh
          split
          · split
            · rename_i a b
              exact absurd ⟨b,λh'=>by omega,λ_=>a⟩ hh
            · rfl
          · rfl)
    (λhA=>by
      have e0:(ZgU l).take l.length=ZgU l:=by rw[show l.length=(ZgU l).length by simp[ZgU],Um]
      simp only[Zag,Uf,Uh,e0,Zb3,Bq,show ZaM l=some (l.length:Int) from rfl];have hlen:(ZgU l).length=l.length:=by simp[ZgU]
      by_cases hw:within (l.length:Int) 2 5=true
      · rw[Uc hw,ZbS _ (by rw[hlen];omega),Bq,hlen]
        rw[within_iff] at hw;congr 2;exact VE ⟨λhh=>⟨by omega,by omega,hh⟩,λhh=>hh.2.2⟩
      · rw[Ud hw,Yj]
        intro hh;exact hw ((within_iff _ _ _).2 (by omega)))
  refine (show Zq (λv=>Zag l v.1 v.2.1) (([]:List (List UInt8)),(0:Int),())=_ from this).trans ?_;congr 1;refine ZfQ ?_;rw[YS];by_cases hA:ZfL l (Zvh l.length)
  · rw[QF hA,YS]
    exact ⟨λhh=>⟨hh.1,hh.2.1,hh.2.2,hA⟩,λhh=>⟨hh.1,hh.2.1,hh.2.2.1⟩⟩
  · rw[Qc hA]
    exact ⟨λhh=>(by cases hh),λhh=>absurd hh.2.2.2 hA⟩
theorem ZmK {n:Nat} (h:n<=1048576) (h1:1<=n):Wq ((n:Int)-1)=((n-1:Nat):Int):=by rw[YZ (by omega) (by omega)];omega
theorem Y4 {n:Nat} (h:n<=1048576):Wq ((n:Int)+1)=((n+1:Nat):Int):=by rw[YZ (by omega) (by omega)];omega
theorem ZmZ {l:List YN} {k:Nat} {s:List UInt8}:s ∉ (ZgU l).take k<->∀ (j:Nat) (q:YN),j<k->l[j]?=some q->GG q≠s:=by
  constructor
  · intro h j q hj hq e
    refine h (UE.2 ⟨j,?_⟩);rw[UA,Uc hj];simp[ZgU,hq,e]
  · intro h hm
    obtain ⟨j,hj⟩:=UE.1 hm;rw[UA] at hj;split at hj
    · rename_i hjk
      simp only[ZgU,UI,KC] at hj;obtain ⟨q,hq,e⟩:=hj;exact h j q hjk hq e
    · cases hj
theorem Zsr (c:Zl) (h:sm (.sl Ze1) (K7 c)):Zjw c=some (sel (ZmH (K7 c)) ((ZqK (K7 c):Int),true) ((0:Int),false)):=by
  unfold Zjw;have hs:=Zu h;by_cases h2:((K7 c).length:Int)<2
  · rw[Uc h2,Qc (λhh=>by have:=hh.1;omega)]
  by_cases h5:(5:Int)<((K7 c).length:Int)
  · rw[Ud h2,Uc h5,Qc (λhh=>by have:=hh.2.1;omega)]
  rw[Ud h2,Ud h5];have e1:Wq (((K7 c).length:Int)-1)=(((K7 c).length-1:Nat):Int):=ZmK hs (by omega);have:=Zjo (l:=K7 c) (ρ:=Int×Bool) (λk=>((((K7 c).take k).countP (λp=>Gg p):Int),(k:Int),()))
    (λk p=>(Zao (GG p)=true/\∀ (j:Nat) (q:YN),j<k->(K7 c)[j]?=some q->GG q≠GG p)/\Zvh (K7 c).length k p) (step:=λv=>Zau c v.1 v.2.1) (bad:=((0:Int),false)) (good:=((ZqK (K7 c):Int),true))
    (λk p hx hk _=>by
      have hcnt:((K7 c).take k).countP (λp=>Gg p)<=5:=by
        have h1:=List.countP_le_length (p:=λp=>Gg p) (l:=(K7 c).take k);rw[Ui] at h1;omega
      have hnext:((K7 c).take (k+1)).countP (λp=>Gg p)=((K7 c).take k).countP (λp=>Gg p)+if Gg p=true then 1 else 0:=by
        rw[Yu hx,U2];simp[List.countP_cons]
      have hname:(GG p).length<=4611686018427387904:=Zkf (Zas h hx).1;have rest:∀ (v:Int),V3 c v (k:Int) p (k:Int)=sel (Zao (GG p)=true/\Zvh (K7 c).length k p) (some (Sum.inr (Sum.inl (if Gg p=true then Wq (v+1) else v,((k+1:Nat):Int),())))) (some (Sum.inr (Sum.inr (0,false)))):=by
        intro v;simp only[V3,Uf,Uh,Zbf _ hname,ZfC,Bq,e1,Y4 (show k<=1048576 by omega),within_iff];unfold Zvh;by_cases hn:Zao (GG p)=true
        · by_cases hcap:0<=GV p/\GV p<=500
          · by_cases hlast:k+1=(K7 c).length
            · have e2:(k:Int)=(((K7 c).length-1:Nat):Int):=by omega
              have e3:¬((k:Int)<(((K7 c).length-1:Nat):Int)):=by omega
              have e4:¬(k+1<(K7 c).length):=by omega
              rw[Uc hn,Uc hcap,Uc e2];by_cases a:GW p=2
              · by_cases b:GV p=0
                · by_cases d:Gg p=true
                  · rw[Uc a,Uc b,Uc d,Qc]
                    rintro ⟨_,_,h',_⟩;have:=(h' hlast).2.2;rw[d] at this;cases this
                  · rw[Uc a,Uc b,Ud d,Ud e3,Ud d,QF ⟨hn,hcap,λ_=>⟨a,b,by simpa using d⟩,λh'=>absurd h' e4⟩]
                    simp[d]
                · rw[Uc a,Ud b,Qc]
                  rintro ⟨_,_,h',_⟩;exact b (h' hlast).2.1
              · rw[Ud a,Qc]
                rintro ⟨_,_,h',_⟩;exact a (h' hlast).1
            · have e2:¬(k:Int)=(((K7 c).length-1:Nat):Int):=by omega
              have e3:(k:Int)<(((K7 c).length-1:Nat):Int):=by omega
              have e4:k+1<(K7 c).length:=by omega
              rw[Uc hn,Uc hcap,Ud e2,Uc e3];by_cases a:GW p=1
              · rw[Uc a,QF ⟨hn,hcap,λh'=>absurd h' hlast,λ_=>a⟩]
                by_cases d:Gg p=true
                · rw[Uc d,Uc d]
                · rw[Ud d,Ud d]
              · rw[Ud a,Qc]
                rintro ⟨_,_,_,h'⟩;exact a (h' e4)
          · rw[Uc hn,Ud hcap,Qc (λhh=>hcap hh.2.1)]
        · rw[Ud hn,Qc (λhh=>hn hh.1)]
      have inner:∀ (v:Int) (good:(Int×Int×Unit) ⊕ (Int×Bool)),((∀ (j:Nat) (q:YN),j<k->(K7 c)[j]?=some q->GG q≠GG p)->V3 c v (k:Int) p (k:Int)=some (.inr good))->
          Zq (λv'=>V3 c v (k:Int) p v'.1) ((0:Int),())=some (sel (∀ j,j<k->∀ q,(K7 c)[j]?=some q->GG q≠GG p) good (.inr (0,false))):=by
        intro v good hg;refine Zr3 k (by omega) (λj=>∀ q,(K7 c)[j]?=some q->GG q≠GG p) (λj hj=>?_) (λhh=>hg (λj q hj hq=>hh j hj q hq));obtain ⟨q,hq⟩:∃ q,(K7 c)[j]?=some q:=⟨_,Ua (by omega)⟩;simp only[V3,show (j:Int)<(k:Int) from by omega,Uj,Zm,hq,Bq];refine ⟨λhh=>by rw[Ud (hh q rfl)],λhh=>?_⟩;rw[Uc];apply UU;intro hne;exact hh (λq' hq'=>by injection hq' with hq';subst hq';exact hne)
      simp only[Zau,show (k:Int)<((K7 c).length:Int) from by omega,Uj,Zm,hx,Bq];constructor
      · rintro ⟨⟨a,b⟩,d⟩
        rw[inner _ (.inl (((((K7 c).take (k+1)).countP (λp=>Gg p):Nat):Int),((k+1:Nat):Int),())) (λ_=>by
          rw[rest,QF ⟨a,d⟩,hnext];by_cases hc:Gg p=true
          · rw[Uc hc,Uc hc,Y4 (by omega)]
          · rw[Ud hc,Ud hc];rfl),QF (λj hj q hq=>b j q hj hq)]
      · intro hh
        rw[inner _ (.inr (0,false)) (λhn=>by
          rw[rest,Qc (λh'=>hh ⟨⟨h'.1,hn⟩,h'.2⟩)])]
        by_cases hP:∀ j,j<k->∀ q,(K7 c)[j]?=some q->GG q≠GG p
        · rw[QF hP]
        · rw[Qc hP])
    (λ_=>by simp only[Zau,Uf,Uh,Um];rfl)
  refine (show Zq (λv=>Zau c v.1 v.2.1) ((0:Int),(0:Int),())=_ from this).trans ?_;congr 1;have e:ZfL (K7 c) (λk p=>(Zao (GG p)=true/\∀ (j:Nat) (q:YN),j<k->(K7 c)[j]?=some q->GG q≠GG p)/\Zvh (K7 c).length k p)<->ZmH (K7 c):=by
    constructor
    · intro hA
      refine ⟨by omega,by omega,λj s hj hs'=>?_,λk p hp=>(hA k p hp).2⟩;simp only[ZgU,UI,KC] at hs';obtain ⟨q,hq,rfl⟩:=hs';exact ⟨(hA j q hq).1.1,ZmZ.2 (hA j q hq).1.2⟩
    · intro hh k p hp
      have hk:=(Ub.1 hp).1;have hn:=hh.2.2.1 k (GG p) hk (by simp[ZgU,hp]);exact ⟨⟨hn.1,ZmZ.1 hn.2⟩,hh.2.2.2 k p hp⟩
  rw[propext e]
def Zt4 (l:List YN) (i:Int):Bool:=match l[i.toNat]? with
  | some p=>Gg p
  | none=>false
def ZoP (c:Zl) (a:ZC):Prop :=
  (0<=Gi a/\Gi a<=((K7 c).length:Int)-2)/\(0<=Gn a/\Gn a<=((K7 c).length:Int)-1)/\
  ((Ge a=1/\Zt4 (K7 c) (Gi a)=false/\Gn a=((K7 c).length:Int)-1/\(1<=GJ a/\GJ a<=3)/\Zdt (GC a) true/\Zdt (GN a) true)\/
   ((Ge a=2\/Ge a=3)/\Zt4 (K7 c) (Gi a)=true/\Gn a=((K7 c).length:Int)-1/\GJ a=0/\Zdt (GC a) true/\Zdt (GN a) true)\/
   ((Ge a=4\/Ge a=5)/\Zt4 (K7 c) (Gi a)=true/\Gn a<((K7 c).length:Int)-1/\Zt4 (K7 c) (Gn a)=false/\GJ a=0/\Zdt (GC a) false/\(GN a).length=0))
theorem ZoP.kind {c:Zl} {a:ZC} (h:ZoP c a):1<=Ge a/\Ge a<=5:=by
  rcases h.2.2 with h | h | h
  · have:=h.1;omega
  · have:=h.1;omega
  · have:=h.1;omega
theorem ZFY {P Q:Prop} {m:Option Bool} (hm:m=some (tr Q)):(if tr P=true then m else some false)=some (tr (P/\Q)):=by
  by_cases h:P
  · rw[Uc (ZU h),hm];congr 1;exact VE ⟨λq=>⟨h,q⟩,λq=>q.2⟩
  · rw[Ud (by rw[Yj h];simp),Yj (λq=>h q.1)]
theorem Yq {P Q:Prop} {_:Decidable P} {m:Option Bool} (hm:P->m=some (tr Q)):(if P then m else some false)=some (tr (P/\Q)):=by
  by_cases h:P
  · rw[Uc h,hm h];congr 1;exact VE ⟨λq=>⟨h,q⟩,λq=>q.2⟩
  · rw[Ud h,Yj (λq=>h q.1)]
theorem Zkm {P Q:Prop} {_:Decidable P} {m:Option Bool} (hm:¬P->m=some (tr Q)):(if P then some false else m)=some (tr (¬P/\Q)):=by
  by_cases h:P
  · rw[Uc h,Yj (λq=>q.1 h)]
  · rw[Ud h,hm h];congr 1;exact VE ⟨λq=>⟨h,q⟩,λq=>q.2⟩
theorem Zch {P:Prop} {b:Bool} (h:b=true<->P):some b=some (tr P):=by rw[ZqV h]
theorem JA {m:Option Bool} {P Q:Prop} (h:m=some (tr P)) (hpq:P<->Q):m=some (tr Q):=by rw[h,propext hpq]
theorem ZpL {Q:Prop} (h:¬Q):(some false:Option Bool)=some (tr Q):=by rw[Yj h]
theorem J4 {P:Prop} {m:Option Bool} (h:m=some (tr P)):(m.bind λb=>some b)=some (tr P):=by rw[h];rfl
theorem Xc {P Q:Prop} {m m2:Option Bool} (h:m=some (tr P)) (h2:P->m2=some (tr Q)):(m.bind λb=>if b=true then m2 else some false)=some (tr (P/\Q)):=by
  rw[h,Bq];by_cases hp:P
  · rw[Uc (ZU hp),h2 hp];congr 1;exact VE ⟨λq=>⟨hp,q⟩,λq=>q.2⟩
  · rw[Ud (by rw[Yj hp];simp),Yj (λq=>hp q.1)]
theorem VW (n a b:Int):ZQ n a b=some (tr (a<=n/\n<=b)):=by rw[ZfC];exact Zch (within_iff _ _ _)
theorem VO (n a b:Int):Yr n a b=some (tr (a<=n/\n<=b)):=by rw[Zb3];exact Zch (within_iff _ _ _)
theorem ZA0 {l:List YN} {i:Int} (h0:0<=i) (h1:i<l.length):∃ p,atI l i=some p/\Zt4 l i=Gg p:=by
  obtain ⟨p,h2,h3⟩:=Zvn h0 h1;exact ⟨p,h2,by simp[Zt4,h3]⟩
theorem Zti (c:Zl) (a:ZC) (hp:sm (.sl Ze1) (K7 c)) (hd:sm (.sl Xa) (GC a)) (hw:sm (.sl Xa) (GN a)) (h2:2<=(K7 c).length):ZkT c a=some (tr (ZoP c a)):=by
  unfold ZkT;have hs:=Zu hp;have e1:Wq (((K7 c).length:Int)-1)=((K7 c).length:Int)-1:=YZ (by omega) (by omega);have e2:Wq (((K7 c).length:Int)-1-1)=((K7 c).length:Int)-2:=by rw[YZ (by omega) (by omega)];omega
  rw[e1,e2];refine JA (Xc (VW _ _ _) (λhF=>Xc (VW _ _ _) (λhT=>?_))) (Q:=ZoP c a) (P:=(0<=Gi a/\Gi a<=((K7 c).length:Int)-2)/\(0<=Gn a/\Gn a<=((K7 c).length:Int)-1)/\ZoP c a) ⟨λhh=>hh.2.2,λhh=>⟨hh.1,hh.2.1,hh⟩⟩;obtain ⟨p,hp1,hp2⟩:=ZA0 (l:=K7 c) hF.1 (by omega);rw[hp1,Bq];have hdl:=Zk3 hd;have hsl:=Zk3 hw;have tt:∀ b,(Y3 (GC a) b).bind (λx=>if x=true then (Y3 (GN a) b).bind (λy=>some y) else some false)=some (tr (Zdt (GC a) b/\Zdt (GN a) b)):=λb=>Xc (Zgd _ _ hdl) (λ_=>J4 (Zgd _ _ hsl));have tz:(Y3 (GC a) false).bind (λx=>if x=true then some (Decidable.decide (((GN a).length:Int)=(0:Int))) else some false)=some (tr (Zdt (GC a) false/\(GN a).length=0)):=Xc (Zgd _ _ hdl) (λ_=>Zch (by rw[Uk];omega));unfold ZoP;rw[hp2];by_cases k1:Ge a=1
  · simp only[k1,Uj]
    refine JA (Zkm (λhc=>Yq (λhl=>Xc (VW _ _ _) (λ_=>tt true)))) ?_;grind
  by_cases k2:Ge a=2
  · simp only[k2,Uj,Int.reduceEq,Uh]
    refine JA (Yq (λhc=>Yq (λhl=>Yq (λ_=>tt true)))) ?_;grind
  by_cases k3:Ge a=3
  · simp only[k3,Uj,Int.reduceEq,Uh]
    refine JA (Yq (λhc=>Yq (λhl=>Yq (λ_=>tt true)))) ?_;grind
  have chk:(if Gg p=true then (if Gn a<((K7 c).length:Int)-1 then (atI (K7 c) (Gn a)).bind (λx1=>if Gg x1=true then some false else if GJ a=0 then (Y3 (GC a) false).bind (λx=>if x=true then some (Decidable.decide (((GN a).length:Int)=(0:Int))) else some false) else some false) else some false) else some false) =
      some (tr (Gg p=true/\Gn a<((K7 c).length:Int)-1/\Zt4 (K7 c) (Gn a)=false/\GJ a=0/\Zdt (GC a) false/\(GN a).length=0)):=by
    refine Yq (λ_=>Yq (λhl=>?_));obtain ⟨q,hq1,hq2⟩:=ZA0 (l:=K7 c) hT.1 (by omega);rw[hq1,Bq,hq2];refine JA (Zkm (λ_=>Yq (λ_=>tz))) ?_;simp only[KL]
  by_cases k4:Ge a=4
  · simp only[k4,Uj,Int.reduceEq,Uh]
    refine JA chk ?_;grind
  by_cases k5:Ge a=5
  · simp only[k5,Uj,Int.reduceEq,Uh]
    refine JA chk ?_;grind
  · simp only[k1,k2,k3,k4,k5,Uh]
    refine ZpL ?_;grind
def ZlC (l:List YN):Int:=JB (λp=>Gg p) l
theorem Zn4 (c:Zl) (h:sm (.sl Ze1) (K7 c)):Zfb c=some (ZlC (K7 c)):=by
  unfold Zfb;rw[Vn (Qi h) (λp=>Gg p) (λp _=>rfl),Bq];rfl
theorem Zej (c:Zl) (h:sm (.sl Ze1) (K7 c)):ZbR c=some (((K7 c).length:Int)-1):=by
  have hs:=Zu h;show some (Wq (((K7 c).length:Int)-1))=_;rw[YZ (by omega) (by omega)]
theorem Zhi (c:Zl) (i:Int) (h:sm (.sl Ze1) (K7 c)):ZaX c i=some (tr (0<=i/\i<=((K7 c).length:Int)-2)):=by
  have hs:=Zu h;unfold ZaX;rw[Zej c h,Bq,YZ (by omega) (by omega)];refine JA (J4 (VO _ _ _)) ?_;omega
def ZBN (c:Zl) (a:ZC):Prop :=
  ((Ge a=4\/Ge a=5)/\GJ a=0/\(GN a).length=0/\Zdt (GC a) false/\Gi a=ZlC (K7 c)/\0<=Gi a/\(0<=Gn a/\Gn a<=((K7 c).length:Int)-2)/\Gn a≠Gi a)\/
  (¬(Ge a=4\/Ge a=5)/\Zdt (GC a) true/\Zdt (GN a) true/\Gn a=((K7 c).length:Int)-1/\(0<=Gi a/\Gi a<=((K7 c).length:Int)-2)/\
    ((Ge a=1/\Zt4 (K7 c) (Gi a)=false/\(1<=GJ a/\GJ a<=3))\/((Ge a=2\/Ge a=3)/\Zt4 (K7 c) (Gi a)=true/\GJ a=0)))
theorem Zry (k:Int):Zi8 k=some (tr (k=4\/k=5)):=by
  unfold Zi8;split
  · rename_i h;rw[ZU (.inl h)]
  · rename_i h
    exact Zch (by rw[Uk];omega)
theorem Zuh (c:Zl) (a:ZC) (hp:sm (.sl Ze1) (K7 c)) (hd:sm (.sl Xa) (GC a)) (hw:sm (.sl Xa) (GN a)):Zfd c a=some (tr (ZBN c a)):=by
  unfold Zfd;have hdl:=Zk3 hd;have hsl:=Zk3 hw;rw[Zry,Bq];by_cases hk:Ge a=4\/Ge a=5
  · rw[Uc (ZU hk)]
    refine JA (Yq (λ_=>Yq (λ_=>Xc (ZfU _ _ hdl) (λ_=>?_)))) (P:=GJ a=0/\((GN a).length:Int)=0/\Zdt (GC a) false/\(Gi a=ZlC (K7 c)/\0<=Gi a/\(0<=Gn a/\Gn a<=((K7 c).length:Int)-2)/\Gn a≠Gi a)) ?_
    · rw[Zn4 c hp,Bq]
      refine Yq (λ_=>Yq (λ_=>Xc (Zhi c _ hp) (λ_=>Zch ?_)));rw[UP,Kj]
    · unfold ZBN
      constructor
      · rintro ⟨x1,x2,x3,x4⟩
        exact .inl ⟨hk,x1,by omega,x3,x4⟩
      · rintro (⟨_,x1,x2,x3,x4⟩ | ⟨x,_⟩)
        · exact ⟨x1,by omega,x3,x4⟩
        · exact absurd hk x
  · rw[Ud (by rw[Yj hk];simp)]
    refine JA (Xc (ZfU _ _ hdl) (λ_=>Xc (ZfU _ _ hsl) (λ_=>?_))) (P:=Zdt (GC a) true/\Zdt (GN a) true/\(Gn a=((K7 c).length:Int)-1/\(0<=Gi a/\Gi a<=((K7 c).length:Int)-2)/\
      ((Ge a=1/\Zt4 (K7 c) (Gi a)=false/\(1<=GJ a/\GJ a<=3))\/((Ge a=2\/Ge a=3)/\Zt4 (K7 c) (Gi a)=true/\GJ a=0)))) ?_
    · rw[Zej c hp,Bq]
      refine Yq (λ_=>Xc (Zhi c _ hp) (λhF=>?_));obtain ⟨p,hp1,hp2⟩:=ZA0 (l:=K7 c) hF.1 (by omega);rw[hp1,hp2];simp only[Bq];by_cases k1:Ge a=1
      · simp only[k1,Uj]
        refine JA (Zkm (λ_=>J4 (VO _ _ _))) ?_;grind
      by_cases k2:Ge a=2
      · simp only[k2,Uj,Int.reduceEq,Uh]
        refine JA (Yq (λ_=>Zch (U3))) ?_;grind
      by_cases k3:Ge a=3
      · simp only[k3,Uj,Int.reduceEq,Uh]
        refine JA (Yq (λ_=>Zch (U3))) ?_;grind
      · simp only[k1,k2,k3,Uh]
        refine ZpL ?_;grind
    · unfold ZBN
      constructor
      · intro x;exact .inr ⟨hk,x⟩
      · rintro (⟨x,_⟩ | ⟨_,x⟩)
        · exact absurd x hk
        · exact x
def ZiN (o a:ZC):Prop:=Ge o=Ge a/\Gi o=Gi a/\Gn o=Gn a
def Apart (l:List ZC) (k:Nat) (a:ZC):Prop:=∀ (j:Nat) (o:ZC),j<k->l[j]?=some o->¬ZiN o a
structure Ztr (c:Zl):Prop where
  name:(GQ c).length<=4611686018427387904
  pins:sm (.sl Ze1) (K7 c)
  arcs:sm (.sl ZfO) (Gj c)
  truth:sm (.sl (.int .i64)) (GH c)
theorem ZBl {c:Zl} (h:sm QC c):Ztr c:=⟨Zkf h.1,h.2.2.1,h.2.2.2.1,h.2.2.2.2.1⟩
theorem ZC8 {a:ZC} (h:sm ZfO a):sm (.sl Xa) (GC a)/\sm (.sl Xa) (GN a):=⟨h.2.2.2.2.1,h.2.2.2.2.2.1⟩
theorem Zn5 (o a:ZC):Vb o a=some (tr (ZiN o a)):=by
  unfold Vb ZiN;exact Yq (λ_=>Yq (λ_=>Zch U3))
theorem Zrw (c:Zl) (h:Ztr c):Zda c=some (tr ((Gj c).length<=8/\ZfL (Gj c) (λk a=>ZBN c a/\Apart (Gj c) k a))):=by
  unfold Zda;have hs:=Zu h.arcs;rw[VL (Qi h.arcs) (λk a=>ZBN c a/\Apart (Gj c) k a) (bad:=false) (good:=decide ((Gj c).length<=8))
    (λk a hx hk _=>by
      obtain ⟨h1,h2⟩:=ZC8 (Zas h.arcs hx);simp only[Zbv,show (k:Int)<((Gj c).length:Int) from by omega,Uj,Zm,hx,Bq,Zuh c a h.pins h1 h2];by_cases hA:ZBN c a
      · rw[Uc (ZU hA),Zg (by omega),Zg (by omega)]
        simp only[Up,Int.toNat_zero,KF,Nat.sub_zero];rw[QM (by show ((Gj c).take k).length<=4611686018427387904;rw[Ui];omega) (λo=>tr (ZiN o a)) (λo _=>Zn5 o a),Bq];have e:((Gj c).take k).any (λo=>tr (ZiN o a))=true<->¬Apart (Gj c) k a:=by
          rw[Kx];constructor
          · rintro ⟨o,ho,hs⟩ hap
            obtain ⟨j,hj⟩:=UE.1 ho;rw[UA] at hj;split at hj
            · rename_i hjk;exact hap j o hjk hj ((YS _).1 hs)
            · cases hj
          · intro hn
            apply UU;intro hno;refine hn (λj o hj ho hs=>hno ⟨o,?_,ZU hs⟩);exact UE.2 ⟨j,by rw[UA,Uc hj];exact ho⟩
        constructor
        · rintro ⟨_,hap⟩;rw[Ud (λhh=>e.1 hh hap)]
        · intro hn;rw[Uc (e.2 (λhap=>hn ⟨hA,hap⟩))]
      · rw[Ud (by rw[Yj hA];simp)]
        exact ⟨λhh=>absurd hh.1 hA,λ_=>rfl⟩)
    (λ_=>by
      simp only[Zbv,Uf,Uh];congr 2;rw[Km];omega)]
  congr 1;refine ZfQ ?_;rw[YS];by_cases hA:ZfL (Gj c) (λk a=>ZBN c a/\Apart (Gj c) k a)
  · rw[QF hA,Uk];exact ⟨λh=>⟨h,hA⟩,λh=>h.1⟩
  · rw[Qc hA];exact ⟨λh=>(by cases h),λh=>absurd h.2 hA⟩
def Zvd (c:Zl) (k:Int):Prop:=∃ a∈Gj c,Ge a=k
theorem ZfX (c:Zl) (k:Int) (h:Ztr c):Je c k=some (tr (Zvd c k)):=by
  unfold Je;rw[Vj (Qi h.arcs) (λa=>decide (Ge a=k)) (λa _=>rfl),Bq];refine Zch ?_;rw[Kx];simp only[Uk,Zvd]
def ZiW (c:Zl):Prop :=
  (GE c=1/\ZqK (K7 c)=0/\(GH c).length=2 ^ ((K7 c).length-1)/\ZjP (GH c) 0 1)\/
  (GE c=2/\ZqK (K7 c)=1/\(GH c).length=0/\¬Zvd c 1/\(Zvd c 2<->¬Zvd c 3))\/
  (GE c=3/\ZqK (K7 c)=1/\(GH c).length=0/\Zvd c 1/\Zvd c 2/\¬Zvd c 3)
theorem ZA4 {n:Nat} (h:n<=4):(2:Nat) ^ n<=16:=by
  calc (2:Nat) ^ n<=2 ^ 4:=Nat.pow_le_pow_right (by omega) h
    _=16:=rfl
theorem ZFW {m:Nat} (h:m<=4):Wq ((1:Int)*(2:Int) ^ min m (IntKind.bits IntKind.i64))=((2 ^ m:Nat):Int):=by
  have hb:min m (IntKind.bits IntKind.i64)=m:=Nat.min_eq_left (by show m<=64;omega);have e:(1:Int)*(2:Int) ^ m=((2 ^ m:Nat):Int):=by simp
  rw[hb,e];have h16:=ZA4 h;clear hb e;generalize 2 ^ m=g at h16 ⊢;rw[YZ (by omega) (by omega)]
theorem Zqm (c:Zl) (h:Ztr c) (hp:ZmH (K7 c)):Zci c=some (tr (ZiW c)):=by
  unfold Zci;have h2:=hp.1;have h5:=hp.2.1;refine (show Zq (λv=>QI c v.1 v.2.1) ((0:Int),(0:Int),())=_ from YK (l:=K7 c) (ρ:=Bool) (λk=>((((K7 c).take k).countP (λp=>Gg p):Int),(k:Int),())) (step:=λv=>QI c v.1 v.2.1)
    (λk p hx hk=>by
      have hcnt:((K7 c).take k).countP (λp=>Gg p)<=5:=by
        have h1:=List.countP_le_length (p:=λp=>Gg p) (l:=(K7 c).take k);rw[Ui] at h1;omega
      have hnext:((K7 c).take (k+1)).countP (λp=>Gg p)=((K7 c).take k).countP (λp=>Gg p)+if Gg p=true then 1 else 0:=by
        rw[Yu hx,U2];simp[List.countP_cons]
      simp only[QI,show (k:Int)<((K7 c).length:Int) from by omega,Uj,Zm,hx,Bq,hnext];by_cases hc:Gg p=true
      · rw[Uc hc,Uc hc,Y4 (by omega),Y4 (by omega)]
      · rw[Ud hc,Ud hc,Y4 (by omega)];rfl)
    ?_)
  have hout:=Zej c h.pins;simp only[QI,Uf,Uh,Um,hout,Bq,show (((K7 c).length:Int)-1).toNat=(K7 c).length-1 from by omega,ZFW (show (K7 c).length-1<=4 by omega)];have e00:((K7 c).countP (λp=>Gg p):Int)=0<->ZqK (K7 c)=0:=by unfold ZqK;omega
  have e01:((K7 c).countP (λp=>Gg p):Int)=1<->ZqK (K7 c)=1:=by unfold ZqK;omega
  unfold ZiW;by_cases k1:GE c=1
  · simp only[k1,Uj]
    by_cases hc:ZqK (K7 c)=0
    · rw[Uc (e00.2 hc),Zg (by omega)]
      by_cases ht:(GH c).length=2 ^ ((K7 c).length-1)
      · rw[Uc (by rw[ht]),Zdc _ _ _ (Qi h.truth),Bq]
        congr 2;refine (ZqV ?_).symm;rw[ZnP];exact ⟨λhh=>.inl ⟨trivial,hc,ht,hh⟩,λhh=>by grind⟩
      · rw[Ud (by omega),Yj (by grind)]
    · rw[Ud (λhh=>hc (e00.1 hh)),Yj (by grind)]
  by_cases k2:GE c=2
  · simp only[k2,Uj,Int.reduceEq,Uh]
    by_cases hc:ZqK (K7 c)=1
    · rw[Uc (e01.2 hc)]
      by_cases ht:(GH c).length=0
      · rw[Uc (by omega),ZfX c 1 h,Bq]
        by_cases h1:Zvd c 1
        · rw[Uc (ZU h1),Yj (by grind)]
        · rw[Ud (by rw[Yj h1];simp),ZfX c 2 h,ZfX c 3 h]
          simp only[Bq];congr 2;refine (ZqV ?_).symm;by_cases a:Zvd c 2<;>by_cases b:Zvd c 3<;>simp only[ZU,Yj,a,b,not_false_eq_true]<;>grind
      · rw[Ud (by omega),Yj (by grind)]
    · rw[Ud (λhh=>hc (e01.1 hh)),Yj (by grind)]
  by_cases k3:GE c=3
  · simp only[k3,Uj,Int.reduceEq,Uh]
    by_cases hc:ZqK (K7 c)=1
    · rw[Uc (e01.2 hc)]
      by_cases ht:(GH c).length=0
      · rw[Uc (by omega),ZfX c 1 h,Bq]
        by_cases h1:Zvd c 1
        · rw[Uc (ZU h1),ZfX c 2 h,Bq]
          by_cases h2:Zvd c 2
          · rw[Uc (ZU h2),ZfX c 3 h,Bq]
            congr 2;refine (ZqV ?_).symm;rw[UP,<-KL,YS];grind
          · rw[Ud (by rw[Yj h2];simp),Yj (by grind)]
        · rw[Ud (by rw[Yj h1];simp),Yj (by grind)]
      · rw[Ud (by omega),Yj (by grind)]
    · rw[Ud (λhh=>hc (e01.1 hh)),Yj (by grind)]
  · simp only[k1,k2,k3,Uh]
    rw[Yj (by grind)]
def ZFS (c:Zl):Prop:=Zao (GQ c)=true/\ZmH (K7 c)/\((Gj c).length<=8/\ZfL (Gj c) (λk a=>ZBN c a/\Apart (Gj c) k a))/\(0<=G4 c/\G4 c<=100000)/\(0<=G5 c/\G5 c<=100000)/\ZiW c
def ZmC (c:Zl):Prop:=Zao (GQ c)=true/\ZmH (K7 c)/\((Gj c).length<=8/\ZfL (Gj c) (λk a=>ZoP c a/\Apart (Gj c) k a))/\(0<=G4 c/\G4 c<=100000)/\(0<=G5 c/\G5 c<=100000)/\ZiW c
theorem Zyn {l:List YN} {i j:Nat} {p q:YN} (hij:i<j) (hp:l[i]?=some p) (hq:l[j]?=some q) (cp:Gg p=true) (cq:Gg q=true):2<=ZqK l:=by
  unfold ZqK;have e:l.countP (λp=>Gg p)=(l.take j).countP (λp=>Gg p)+(l.drop j).countP (λp=>Gg p):=by rw[<-U2,Ki]
  have h1:0<(l.take j).countP (λp=>Gg p):=KB.2 ⟨p,UE.2 ⟨i,by rw[UA,Uc hij];exact hp⟩,cp⟩;have h2:0<(l.drop j).countP (λp=>Gg p):=KB.2 ⟨q,UE.2 ⟨0,by rw[Kb];exact hq⟩,cq⟩;omega
theorem Ztx {l:List YN} (h:ZqK l<=1) {i:Int} (h0:0<=i):Zt4 l i=true<->i=ZlC l:=by
  unfold ZlC JB Zt4;constructor
  · intro hc
    split at hc
    · rename_i p hp
      split
      · rename_i j hj
        obtain ⟨hj1,hj2,hj3⟩:=Kg.1 hj;have hjg:l[j]?=some l[j]:=Ua hj1;rcases Nat.lt_trichotomy i.toNat j with hlt | heq | hlt
        · have:=Zyn hlt hp hjg hc hj2;omega
        · omega
        · have:=Zyn hlt hjg hp hj2 hc;omega
      · rename_i hn
        rw[List.findIdx?_eq_none_iff] at hn;have:=hn p (Ue hp);rw[hc] at this;cases this
    · cases hc
  · intro hi
    split at hi
    · rename_i j hj
      obtain ⟨hj1,hj2,hj3⟩:=Kg.1 hj;subst hi;rw[Up,Ua hj1];exact hj2
    · omega
theorem ZyP {l:List YN} (h:ZmH l):Zt4 l ((l.length:Int)-1)=false:=by
  have h2:=h.1;have hp:l[l.length-1]?=some l[l.length-1]:=Ua (by omega);have:=((h.2.2.2 _ _ hp).2.1 (by omega)).2.2;unfold Zt4;rw[show ((l.length:Int)-1).toNat=l.length-1 by omega,hp];exact this
theorem ZzQ {c:Zl} (hp:ZmH (K7 c)) (hk:ZqK (K7 c)<=1) (a:ZC):ZBN c a<->ZoP c a:=by
  have h2:=hp.1;have hF:0<=Gi a->(Zt4 (K7 c) (Gi a)=true<->Gi a=ZlC (K7 c)):=λh=>Ztx hk h;have hT:0<=Gn a->(Zt4 (K7 c) (Gn a)=true<->Gn a=ZlC (K7 c)):=λh=>Ztx hk h;have hlast:=ZyP hp;have hfr:∀ i,Zt4 (K7 c) i=true->i<((K7 c).length:Int):=by
    intro i hi;unfold Zt4 at hi;split at hi
    · rename_i p hp'
      have:=(Ub.1 hp').1;omega
    · cases hi
  unfold ZBN ZoP;generalize ZlC (K7 c)=ck at *;constructor
  · rintro (⟨k,s,sl,td,fc,f0,⟨t0,t1⟩,ne⟩ | ⟨k,td,ts,te,⟨f0,f1⟩,hh⟩)
    · have hclk:=(hF f0).2 fc
      have hnl:Gi a≠((K7 c).length:Int)-1:=λe=>by rw[e,hlast] at hclk;cases hclk
      have:=hfr _ hclk;refine ⟨⟨f0,by omega⟩,⟨t0,by omega⟩,.inr (.inr ⟨k,hclk,by omega,?_,s,td,sl⟩)⟩;rw[<-KL];intro hc;exact ne (((hT t0).1 hc).trans fc.symm)
    · refine ⟨⟨f0,f1⟩,⟨by omega,by omega⟩,?_⟩
      rcases hh with ⟨k1,c1,s1⟩ | ⟨k1,c1,s1⟩
      · exact .inl ⟨k1,c1,te,s1,td,ts⟩
      · exact .inr (.inl ⟨k1,c1,te,s1,td,ts⟩)
  · rintro ⟨⟨f0,f1⟩,⟨t0,t1⟩,(⟨k,c1,te,s,td,ts⟩ | ⟨k,c1,te,s,td,ts⟩ | ⟨k,c1,tl,c2,s,td,sl⟩)⟩
    · exact .inr ⟨by omega,td,ts,te,⟨f0,f1⟩,.inl ⟨k,c1,s⟩⟩
    · exact .inr ⟨by omega,td,ts,te,⟨f0,f1⟩,.inr ⟨k,c1,s⟩⟩
    · refine .inl ⟨k,s,sl,td,(hF f0).1 c1,f0,⟨t0,by omega⟩,λe=>?_⟩
      rw[e,c1] at c2;cases c2
theorem ZiW.ZqK {c:Zl} (h:ZiW c):ZqK (K7 c)<=1:=by
  rcases h with h | h | h
  · have:=h.2.1;omega
  · have:=h.2.1;omega
  · have:=h.2.1;omega
theorem ZB3 (c:Zl):ZFS c<->ZmC c:=by
  unfold ZFS ZmC;constructor
  · rintro ⟨a,b,⟨c1,d⟩,e,f,g⟩
    exact ⟨a,b,⟨c1,λk x hx=>⟨(ZzQ b g.ZqK x).1 (d k x hx).1,(d k x hx).2⟩⟩,e,f,g⟩
  · rintro ⟨a,b,⟨c1,d⟩,e,f,g⟩
    exact ⟨a,b,⟨c1,λk x hx=>⟨(ZzQ b g.ZqK x).2 (d k x hx).1,(d k x hx).2⟩⟩,e,f,g⟩
theorem ZsQ (c:Zl) (h:sm QC c):Zkv c=some (tr (ZmC c)):=by
  have hc:=ZBl h;unfold Zkv;refine JA (Xc (by rw[Zgn];exact Zch Iff.rfl) (λ_=>Xc (Zrx _ hc.pins) (λhp=>Xc (Zrw c hc) (λ_=>Xc (VO _ _ _) (λ_=>Xc (VO _ _ _) (λ_=>J4 (Zqm c hc hp))))))) ?_;exact (ZB3 c)
def Zg9 (l:List ZC):List Int:=(List.range 6).map (λ(j:Nat)=>((l.countP (λa=>decide (Ge a=(j:Int))):Nat):Int))
theorem Zen (l:List ZC) {j:Nat} (h:j<6):(Zg9 l)[j]?=some ((l.countP (λa=>decide (Ge a=(j:Int))):Nat):Int):=by
  simp[Zg9,Kh h]
theorem ZqQ (c:Zl) (h:Ztr c) (hk:∀ a∈Gj c,1<=Ge a/\Ge a<=5):Zh3 c=some (Zg9 (Gj c)):=by
  unfold Zh3;have hs:=Zu h.arcs;have h0:List.replicate (Int.toNat (6:Int)) (0:Int)=Zg9 ((Gj c).take 0):=by simp[Zg9];decide
  rw[h0];refine YK (l:=Gj c) (ρ:=List Int) (λk=>((k:Int),Zg9 ((Gj c).take k),())) (step:=λv=>ZbI c v.1 v.2.1)
    (λk a hx hlt=>?_) (by simp only[ZbI,Uf,Uh,Um])
  obtain ⟨k1,k5⟩:=hk a (Ue hx);have hkn:Ge a=(((Ge a).toNat:Nat):Int):=by omega
  have hcnt:∀ j:Nat,((Gj c).take k).countP (λa=>decide (Ge a=(j:Int)))<=1048576:=by
    intro j;have h1:=List.countP_le_length (p:=λa=>decide (Ge a=(j:Int))) (l:=(Gj c).take k);rw[Ui] at h1;omega
  simp only[ZbI,show (k:Int)<((Gj c).length:Int) from by omega,Uj,Zm,hx,Bq];rw[YD (by omega) (Zen _ (show (Ge a).toNat<6 by omega)),Bq,Y4 (hcnt _),Y4 (by omega)];congr 3;rw[Prod.mk.injEq];refine ⟨?_,rfl⟩;apply UD;intro j;by_cases hj:(Ge a).toNat=j
  · subst hj
    rw[Ut (by simp[Zg9];omega),Zen _ (by omega),Yu hx,U2];congr 2;rw[List.countP_cons,List.countP_nil];simp[<-hkn]
  · rw[UH hj]
    by_cases h6:j<6
    · rw[Zen _ h6,Zen _ h6,Yu hx,U2]
      congr 2;rw[List.countP_cons,List.countP_nil];have:¬Ge a=(j:Int):=by omega
      simp[this]
    · rw[UC (by simp[Zg9];omega),UC (by simp[Zg9];omega)]
theorem Zrh (c:Zl) (j:Nat):0<(Gj c).countP (λa=>decide (Ge a=(j:Int)))<->Zvd c j:=by
  rw[KB];simp only[Uk,Zvd]
theorem ZpN (c:Zl) (h:Ztr c) (hp:ZmH (K7 c)) (hk1:GE c=1) :
    Zq (λv=>Zdi c ((ZqK (K7 c):Int),true) v.1) ((0:Int),())=some (.inr (tr (ZiW c))):=by
  have h2:=hp.1;have h5:=hp.2.1;have hs:=Zu h.truth;have e1:Wq (((K7 c).length:Int)-1)=((K7 c).length:Int)-1:=YZ (by omega) (by omega);have e2:IntKind.u64.wrap (((K7 c).length:Int)-1)=((K7 c).length:Int)-1:=IntWalk.u64_in _ (by omega);rw[VL (Qi h.truth) (λk x=>0<=x/\x<=1) (bad:=.inr false) (good:=.inr (tr (ZqK (K7 c)=0/\(GH c).length=2 ^ ((K7 c).length-1))))
    (λk x hx hk _=>by
      simp only[Zdi,show (k:Int)<((GH c).length:Int) from by omega,Uj,Zm,hx,Bq,ZfC,within_iff];exact ⟨λhh=>by rw[Uc hh],λhh=>by rw[Ud hh]⟩)
    (λ_=>by
      simp only[Zdi,Uf,Uh,e1,e2];by_cases hc:ZqK (K7 c)=0
      · rw[Uc (by omega),Zg (by omega),show (((K7 c).length:Int)-1).toNat=(K7 c).length-1 by omega,ZFW (by omega)]
        congr 2;congr 1;refine (ZqV ?_).symm;rw[Uk];constructor
        · intro hh;exact ⟨hc,by omega⟩
        · intro hh;rw[hh.2]
      · rw[Ud (by omega),Yj (λhh=>hc hh.1)])]
  congr 1;by_cases hA:ZfL (GH c) (λk x=>0<=x/\x<=1)
  · rw[QF hA]
    congr 1;refine VE ?_;have hAll:ZjP (GH c) 0 1:=λx hx=>by
      obtain ⟨k,hk⟩:=UE.1 hx;exact hA k x hk
    unfold ZiW;grind
  · rw[Qc hA,Yj]
    intro hh;rcases hh with hh | hh | hh
    · exact hA (λk x hk=>hh.2.2.2 x (Ue hk))
    · have:=hh.1;omega
    · have:=hh.1;omega
theorem Ztg (c:Zl) (hsm:sm QC c):ZkR c=some (tr (ZmC c)):=by
  have h:=ZBl hsm;have hs:=Zu h.arcs;unfold ZkR;rw[Zsr c h.pins,Bq];by_cases hp':¬ZmH (K7 c)
  · rw[Qc hp',Yj (λhh=>hp' hh.2.1)];rfl
  have hp:=Classical.not_not.1 hp';rw[QF hp];simp only[Uj];refine JA (Xc (P:=Zao (GQ c)=true) (by rw[Zbf _ h.name];exact Zch Iff.rfl) (λhn=>Zkm (λh8=>Xc (VW _ _ _) (λhl=>Xc (VW _ _ _) (λhe=>?_))))) (P:=Zao (GQ c)=true/\¬((8:Int)<((Gj c).length:Int))/\(0<=G4 c/\G4 c<=100000)/\(0<=G5 c/\G5 c<=100000)/\(ZfL (Gj c) (λk a=>ZoP c a/\Apart (Gj c) k a)/\ZiW c)) ?_
  · rw[VL (Qi h.arcs) (λk a=>ZoP c a/\Apart (Gj c) k a) (bad:=false) (good:=tr (ZiW c))
      (λk a hx hk _=>by
        obtain ⟨h1,h2⟩:=ZC8 (Zas h.arcs hx);simp only[Zga,show (k:Int)<((Gj c).length:Int) from by omega,Uj,Zm,hx,Bq,Zti c a h.pins h1 h2 hp.1];have inner:Zq (λv=>Zdh c (k:Int) a v.1) ((0:Int),())=some (sel (∀ j,j<k->∀ o,(Gj c)[j]?=some o->¬ZiN o a) (.inl (Wq ((k:Int)+1),())) (.inr false)):=by
          refine Zr3 k (by omega) (λj=>∀ o,(Gj c)[j]?=some o->¬ZiN o a) (λj hj=>?_) (λ_=>by simp only[Zdh,Uf,Uh]);obtain ⟨o,ho⟩:∃ o,(Gj c)[j]?=some o:=⟨_,Ua (by omega)⟩;simp only[Zdh,show (j:Int)<(k:Int) from by omega,Uj,Zm,ho,Bq];have e:(∀ o',some o=some o'->¬ZiN o' a)<->¬ZiN o a:=⟨λhh=>hh o rfl,λhh o' ho'=>by injection ho' with ho';subst ho';exact hh⟩
          rw[e];unfold ZiN;constructor
          · intro hh
            split
            · split
              · split
                · exact absurd ⟨‹_›,‹_›,‹_›⟩ hh
                · rfl
              · rfl
            · rfl
          · intro hh
            have hh:=Classical.not_not.1 hh;rw[Uc hh.1,Uc hh.2.1,Uc hh.2.2]
        have eap:Apart (Gj c) k a<->(∀ j,j<k->∀ o,(Gj c)[j]?=some o->¬ZiN o a):=⟨λhh j hj o ho=>hh j o hj ho,λhh j o hj ho=>hh j hj o ho⟩;by_cases hA:ZoP c a
        · rw[Uc (ZU hA),inner]
          constructor
          · intro hh;rw[QF (eap.1 hh.2)]
          · intro hh;rw[Qc (λh'=>hh ⟨hA,eap.2 h'⟩)]
        · rw[Ud (by rw[Yj hA];simp)]
          exact ⟨λhh=>absurd hh.1 hA,λ_=>rfl⟩)
      (λhA=>by
        have hkinds:=ZqQ c h (λa ha=>by
          obtain ⟨k,hk⟩:=UE.1 ha;exact (hA k a hk).1.kind)
        have g1:atI (Zg9 (Gj c)) (1:Int)=some (((Gj c).countP (λa=>decide (Ge a=((1:Nat):Int))):Nat):Int):=YD (by omega) (Zen _ (by omega));have g2:atI (Zg9 (Gj c)) (2:Int)=some (((Gj c).countP (λa=>decide (Ge a=((2:Nat):Int))):Nat):Int):=YD (by omega) (Zen _ (by omega));have g3:atI (Zg9 (Gj c)) (3:Int)=some (((Gj c).countP (λa=>decide (Ge a=((3:Nat):Int))):Nat):Int):=YD (by omega) (Zen _ (by omega));have c1:=Zrh c 1;have c2:=Zrh c 2;have c3:=Zrh c 3;simp only[Zga,Uf,Uh,hkinds,Bq,g1,g2,g3];generalize (Gj c).countP (λa=>decide (Ge a=((1:Nat):Int)))=n1 at c1 ⊢;generalize (Gj c).countP (λa=>decide (Ge a=((2:Nat):Int)))=n2 at c2 ⊢;generalize (Gj c).countP (λa=>decide (Ge a=((3:Nat):Int)))=n3 at c3 ⊢;by_cases k1:GE c=1
        · rw[Uc k1]
          exact ZpN c h hp k1
        rw[Ud k1];have hgoal:∀ (b:Bool),(b=true<->ZiW c)->(some (.inr b):Option ((Int×Unit) ⊕ Bool))=some (.inr (tr (ZiW c))):=λb hb=>by rw[ZqV hb]
        have c1':Zvd c 1<->0<n1:=c1.symm;have c2':Zvd c 2<->0<n2:=c2.symm;have c3':Zvd c 3<->0<n3:=c3.symm;have hKO:ZiW c<->(GE c=2/\ZqK (K7 c)=1/\(GH c).length=0/\¬0<n1/\(0<n2<->¬0<n3))\/(GE c=3/\ZqK (K7 c)=1/\(GH c).length=0/\0<n1/\0<n2/\¬0<n3):=by
          unfold ZiW;rw[c1',c2',c3'];constructor
          · rintro (hh | hh | hh)
            · exact absurd hh.1 k1
            · exact .inl hh
            · exact .inr hh
          · rintro (hh | hh)
            · exact .inr (.inl hh)
            · exact .inr (.inr hh)
        by_cases k2:GE c=2
        · rw[Uc k2]
          split
          · split
            · split
              · rename_i a b d
                refine hgoal _ ?_;rw[hKO];simp only[Kl,Km] at d;constructor
                · intro hh;cases hh
                · intro hh;omega
              · rename_i a b d
                refine hgoal _ ?_;rw[hKO,Uk];simp only[Kl,Km] at d;omega
            · refine hgoal _ ?_
              rw[hKO];constructor
              · intro hh;cases hh
              · intro hh;omega
          · refine hgoal _ ?_
            rw[hKO];constructor
            · intro hh;cases hh
            · intro hh;omega
        rw[Ud k2];repeat' split
        all_goals
          refine hgoal _ ?_;rw[hKO];first
            | (rw[Uk];omega)
            | (constructor
               · intro hh;cases hh
               · intro hh;omega))]
    congr 1;by_cases hA:ZfL (Gj c) (λk a=>ZoP c a/\Apart (Gj c) k a)
    · rw[QF hA];exact VE ⟨λx=>⟨hA,x⟩,λx=>x.2⟩
    · rw[Qc hA,Yj (λx=>hA x.1)]
  · unfold ZmC
    constructor
    · rintro ⟨a,b,c1,d,e,f⟩
      exact ⟨a,hp,⟨by omega,e⟩,c1,d,f⟩
    · rintro ⟨a,b,⟨c1,d⟩,e,f,g⟩
      exact ⟨a,by omega,e,f,d,g⟩
theorem Zyk {α:Type} {l:List α} {k:Nat} {s:α}:s ∉ l.take k<->∀ (j:Nat) (q:α),j<k->l[j]?=some q->q≠s:=by
  constructor
  · intro h j q hj hq e
    refine h (UE.2 ⟨j,?_⟩);rw[UA,Uc hj,hq,e]
  · intro h hm
    obtain ⟨j,hj⟩:=UE.1 hm;rw[UA] at hj;split at hj
    · rename_i hjk;exact h j s hjk hj rfl
    · cases hj
theorem ZvP {α:Type} (f:α->List UInt8) (l:List α):V4 (l.map f) l.length<->ZfL l (λk x=>Zao (f x)=true/\∀ (j:Nat) (q:α),j<k->l[j]?=some q->f q≠f x):=by
  constructor
  · intro h k x hx
    have hk:=(Ub.1 hx).1;obtain ⟨h1,h2⟩:=h k (f x) hk (by simp[hx]);refine ⟨h1,λj q hj hq=>Zyk.1 h2 j (f q) hj (by simp[hq])⟩
  · intro h j s hj hs
    simp only[UI,KC] at hs;obtain ⟨x,hx,rfl⟩:=hs;obtain ⟨h1,h2⟩:=h j x hx;refine ⟨h1,Zyk.2 (λi q hi hq=>?_)⟩;simp only[UI,KC] at hq;obtain ⟨y,hy,rfl⟩:=hq;exact h2 i y hi hy
def Zj4 (l:List Zl):List (List UInt8):=l.map GQ
def Zvg (a:Zp):Prop:=(K8 a).length<=8/\(∀ c∈K8 a,ZmC c)/\V4 (Zj4 (K8 a)) (K8 a).length
theorem Ztf {a:Zp} (h:sm YV a):sm (.sl QC) (K8 a):=h.1
theorem Zd0 {α:Type} {l:List α} {P:α->Prop}:ZfL l (λ_ x=>P x)<->∀ x∈l,P x:=by
  constructor
  · intro h x hx
    obtain ⟨k,hk⟩:=UE.1 hx;exact h k x hk
  · intro h k x hk
    exact h x (Ue hk)
theorem Zmo {P Q:Prop}:sel P (tr Q) false=tr (P/\Q):=by
  by_cases h:P
  · rw[QF h];exact VE ⟨λq=>⟨h,q⟩,λq=>q.2⟩
  · rw[Qc h,Yj (λq=>h q.1)]
theorem Zo3 (a:Zp) (h:sm YV a):Zgl a=some (tr (Zvg a)):=by
  have hc:=Ztf h;have hs:=Zu hc;unfold Zgl;have:=Zjo (l:=K8 a) (ρ:=Bool) (λk=>((Zj4 (K8 a)).take k,(k:Int),())) (λ_ c=>ZmC c) (step:=λv=>V7 a v.1 v.2.1) (bad:=false) (good:=tr ((K8 a).length<=8/\V4 (Zj4 (K8 a)) (K8 a).length))
    (λk c hx hk _=>by
      have hn:(Zj4 (K8 a))[k]?=some (GQ c):=by simp[Zj4,hx]
      simp only[V7,show (k:Int)<((K8 a).length:Int) from by omega,Uj,Zm,hx,Bq,ZsQ c (Zas hc hx)];rw[Zg (by simp only[Ui,Un,Zj4,UL];omega),Yu hn,Y4 (by omega)];constructor
      · intro hh;rw[Uc (ZU hh)]
      · intro hh;rw[Ud (by rw[Yj hh];simp)])
    (λhA=>by
      have e0:(Zj4 (K8 a)).take (K8 a).length=Zj4 (K8 a):=by rw[show (K8 a).length=(Zj4 (K8 a)).length by simp[Zj4],Um]
      have hlen:(Zj4 (K8 a)).length=(K8 a).length:=by simp[Zj4]
      simp only[V7,Uf,Uh,e0];by_cases h8:(K8 a).length<=8
      · rw[Uc (by omega),ZbS _ (by rw[hlen];omega),Bq,hlen]
        congr 2;exact VE ⟨λq=>⟨h8,q⟩,λq=>q.2⟩
      · rw[Ud (by omega),Yj (λq=>h8 q.1)])
  refine (show Zq (λv=>V7 a v.1 v.2.1) (([]:List (List UInt8)),(0:Int),())=_ from this).trans ?_;rw[Zmo];congr 1;refine VE ?_;rw[Zd0];exact ⟨λq=>⟨q.2.1,q.1,q.2.2⟩,λq=>⟨q.2.1,q.1,q.2.2⟩⟩
theorem ZrC {α ρ:Type} {f:α->List UInt8} {l:List α} {x:α} {k:Nat} (hk:k<=1048576) (hkl:k<=l.length) {step:Int×Unit->Option ((Int×Unit) ⊕ ρ)} {bad good:ρ}
    (hs:∀ (j:Nat) (y:α),j<k->l[j]?=some y->step ((j:Int),())=some (if f y=f x then .inr bad else .inl (Wq ((j:Int)+1),())))
    (hx:step ((k:Int),())=some (.inr good)):Zq step ((0:Int),())=some (sel (∀ (j:Nat) (q:α),j<k->l[j]?=some q->f q≠f x) good bad):=by
  rw[Zr3 k (by omega) (λj=>∀ q,l[j]?=some q->f q≠f x) (bad:=bad) (good:=good) (λj hj=>by
    have hjl:l[j]?=some l[j]:=Ua (by omega);rw[hs j _ hj hjl];constructor
    · intro hh;rw[Ud (hh _ hjl)]
    · intro hh
      rw[Uc];apply UU;intro hne;refine hh (λq hq=>?_);rw[hjl] at hq;injection hq with hq;subst hq;exact hne) (λ_=>hx)]
  congr 1;have e:(∀ j,j<k->∀ q,l[j]?=some q->f q≠f x)<->(∀ (j:Nat) (q:α),j<k->l[j]?=some q->f q≠f x):=⟨λh j q hj hq=>h j hj q hq,λh j hj q hq=>h j q hj hq⟩;rw[propext e]
theorem ZpO (a:Zp) (h:sm YV a):ZgE a=some (tr (Zvg a)):=by
  have hc:=Ztf h;have hs:=Zu hc;unfold ZgE;rw[VL (Qi hc) (λk c=>ZmC c/\∀ (j:Nat) (q:Zl),j<k->(K8 a)[j]?=some q->GQ q≠GQ c) (bad:=false) (good:=tr ((K8 a).length<=8))
    (λk c hx hk _=>by
      simp only[ZdD,show (k:Int)<((K8 a).length:Int) from by omega,Uj,Zm,hx,Bq,Ztg c (Zas hc hx)];by_cases hC:ZmC c
      · rw[Uc (ZU hC),ZrC (f:=GQ) (l:=K8 a) (x:=c) (k:=k) (by omega) (by omega) (bad:=.inr false) (good:=.inl (Wq ((k:Int)+1),()))
          (λj y hj hy=>by
            simp only[ZdC,show (j:Int)<(k:Int) from by omega,Uj,Zm,hy,Bq];split<;>rfl)
          (by simp only[ZdC,Uf,Uh])]
        constructor
        · intro hh;rw[QF hh.2]
        · intro hh;rw[Qc (λq=>hh ⟨hC,q⟩)]
      · rw[Ud (by rw[Yj hC];simp)]
        exact ⟨λhh=>absurd hh.1 hC,λ_=>rfl⟩)
    (λ_=>by
      simp only[ZdD,Uf,Uh];congr 2;exact (ZqV (by rw[Uk];omega)).symm)]
  rw[Zmo];congr 1;refine VE ?_;unfold Zvg;rw[Zj4,ZvP,<-Zd0];constructor
  · rintro ⟨q,q8⟩
    exact ⟨q8,λk x hx=>(q k x hx).1,λk x hx=>⟨(q k x hx).1.1,(q k x hx).2⟩⟩
  · rintro ⟨q8,q1,q2⟩
    exact ⟨λk x hx=>⟨q1 k x hx,(q2 k x hx).2⟩,q8⟩
theorem Zha (l:List (List UInt8)) (hl:l.length<=1048576) (hsm:∀ s∈l,s.length<=4611686018427387904):Zdk l=some (tr (V4 l l.length)):=by
  unfold Zdk;rw[VL (show Len l by show l.length<=4611686018427387904;omega) (λk s=>Zao s=true/\∀ (j:Nat) (q:List UInt8),j<k->l[j]?=some q->id q≠id s) (bad:=false) (good:=true)
    (λk s hx hk _=>by
      simp only[ZeA,show (k:Int)<(l.length:Int) from by omega,Uj,Zm,hx,Bq,Zbf s (hsm s (Ue hx))];by_cases hC:Zao s=true
      · rw[Uc hC,ZrC (f:=id) (l:=l) (x:=s) (k:=k) (by omega) (by omega) (bad:=.inr false) (good:=.inl (Wq ((k:Int)+1),()))
          (λj y hj hy=>by
            simp only[Zez,show (j:Int)<(k:Int) from by omega,Uj,Zm,hy,Bq,id];split<;>rfl)
          (by simp only[Zez,Uf,Uh])]
        constructor
        · intro hh;rw[QF hh.2]
        · intro hh;rw[Qc (λq=>hh ⟨hC,q⟩)]
      · rw[Ud hC]
        exact ⟨λhh=>absurd hh.1 hC,λ_=>rfl⟩)
    (λ_=>by simp only[ZeA,Uf,Uh]),Zlj]
  congr 1;refine VE ?_;have:=ZvP id l;rw[List.map_id] at this;exact this.symm
def Zbo (d:Zb):List (List UInt8):=(K1 d).map Gu
def ZdB (d:Zb):List (List UInt8):=(Ga d).map GO
def ZnO (d:Zb):Prop:=(K1 d).length<=14/\(K6 d).length<=30/\(Ga d).length<=8/\V4 (Zbo d) (Zbo d).length/\V4 (K6 d) (K6 d).length/\V4 (ZdB d) (ZdB d).length
theorem gather {α ρ:Type} {l:List α} (hl:l.length<=1048576) (f:α->List UInt8) {step:List (List UInt8)×Int×Unit->Option ((List (List UInt8)×Int×Unit) ⊕ ρ)} {good:ρ}
    (hs:∀ (k:Nat) (x:α) (o:List (List UInt8)),l[k]?=some x->(k:Int)<(l.length:Int)->o.length=k->step (o,(k:Int),())=Zt ((o.length+[f x].length)*16<=140737488355328) (some (.inl (o++[f x],Wq ((k:Int)+1),()))))
    (hx:step (l.map f,(l.length:Int),())=some (.inr good)):Zq step (([]:List (List UInt8)),(0:Int),())=some good:=by
  refine (show Zq step (([]:List (List UInt8)),(0:Int),())=some good from YK (l:=l) (λk=>((l.map f).take k,(k:Int),())) (λk x hx hk=>?_) ?_)
  · have hn:(l.map f)[k]?=some (f x):=by simp[hx]
    have hlen:((l.map f).take k).length=k:=by rw[Ui,UL];omega
    rw[hs k x _ hx (by omega) hlen,Zg (by rw[hlen];simp;omega),Yu hn,Y4 (by omega)]
  · have e0:(l.map f).take l.length=l.map f:=by rw[show l.length=(l.map f).length by simp,Um]
    simp only[e0];exact hx
end Go.Proofs.YtjepimjoknccmaaGreatDoor
