/-
  Ground of the plain laws: loops by what they come to; small arithmetic.
-/
import Derived.Test.YtjfbeebdhmebpaaGreatDoorSxM
import Derived.IntWalk
import Derived.Test.YtjfbeebdhmebpaaGreatDoorM
import Derived.Test.YtjfbeebdhmebpaaGreatDoorSxBr
namespace Go.Proofs.YtjfbeebdhmebpaaGreatDoor
set_option linter.unusedVariables false
set_option linter.unusedSimpArgs false
open Go Go.Sx
theorem ZdP {n:Int} (h1:-9223372036854775808≤n) (h2:n≤9223372036854775807):Wq n=n:=IntWalk.i64_in n ⟨h1,h2⟩
theorem Zo {α:Type} (l:List α) (k:Nat):atI l (k:Int)=l[k]?:=by simp [atI]
theorem Zbh {α:Type} {l:List α} {i:Int} {x:α} (h0:0≤i) (hx:l[i.toNat]?=some x):atI l i=some x:=by simp [atI,h0,hx]
theorem Zn4 {α:Type} {l:List α} {i:Int} (h0:0≤i) (h1:i<l.length):∃ x,atI l i=some x∧l[i.toNat]?=some x :=
 ⟨l[i.toNat]'(by omega),by simp [atI,h0],List.getElem?_eq_getElem _⟩
theorem Zi {α:Type} {p:Prop} (h:p) (a:Option α):Zu p a=a:=by
 unfold Zu
 exact if_pos h
theorem Qa {τ ρ:Type} {step:τ→Option (τ ⊕ ρ)} (n:Nat) (I:Nat→τ→Prop) (Q:ρ→Prop) {v:τ} (h0:I 0 v)
  (hs:∀ k v,k<n→I k v→(∃ v',step v=some (.inl v')∧I (k+1) v')∨∃ r,step v=some (.inr r)∧Q r)
  (hx:∀ v,I n v→∃ r,step v=some (.inr r)∧Q r):∃ r,Zl step v=some r∧Q r:=by
 have:∀ m k v,k+m=n→I k v→∃ r,Zl step v=some r∧Q r:=by
  intro m
  induction m with
  | zero =>
   intro k v hk hI
   have:k=n:=by omega
   subst this
   obtain ⟨r,e,hq⟩:=hx v hI
   exact ⟨r,ZeU e,hq⟩
  | succ m ih =>
   intro k v hk hI
   rcases hs k v (by omega) hI with ⟨v',e,hI'⟩ | ⟨r,e,hq⟩
   ·obtain ⟨r,h1,h2⟩:=ih (k+1) v' (by omega) hI'
    exact ⟨r,by rw [ZlH e];exact h1,h2⟩
   ·exact ⟨r,ZeU e,hq⟩
 exact this n 0 v (by omega) h0
theorem YS {τ ρ:Type} {step:τ→Option (τ ⊕ ρ)} (n:Nat) (I:Nat→τ→Prop) (R:ρ) {v:τ} (h0:I 0 v)
  (hs:∀ k v,k<n→I k v→(∃ v',step v=some (.inl v')∧I (k+1) v')∨step v=some (.inr R))
  (hx:∀ v,I n v→step v=some (.inr R)):Zl step v=some R:=by
 obtain ⟨r,h1,h2⟩:=Qa n I (fun r=>r=R) h0 (fun k v hk hI=>(hs k v hk hI).elim .inl (fun h=>.inr ⟨R,h,rfl⟩)) (fun v hI=>⟨R,hx v hI,rfl⟩)
 rw [h1,h2]
theorem Zmk {σ ρ:Type} {step:σ→Option (σ ⊕ ρ)} (I:σ→Prop) (μ:σ→Nat) (R:ρ) {v:σ} (h0:I v)
  (hs:∀ v,I v→(∃ v',step v=some (.inl v')∧I v'∧μ v'<μ v)∨step v=some (.inr R)):Zl step v=some R:=by
 obtain ⟨r,h1,h2⟩:=Zj2 I μ (fun r=>r=R) h0 (fun v hI=>(hs v hI).elim .inl (fun h=>.inr ⟨R,h,rfl⟩))
 rw [h1,h2]
theorem Yo {α:Type} {l:List α} {k:Nat} {x:α} (hx:l[k]?=some x):l.take (k+1)=l.take k++[x]:=by
 rw [List.take_add_one,hx];rfl
theorem ZqW {ρ:Type} {g:Nat→Option ρ} {v:ρ} (h:∃ n,g n=some v) (hd:∀ n r,g n=some r→r=v):ZqV g=some v:=by
 obtain ⟨n,hn⟩:=h
 unfold ZqV
 have hx:∃ r n,g n=some r:=⟨v,n,hn⟩
 rw [dif_pos hx]
 obtain ⟨m,hm⟩:=Classical.choose_spec hx
 rw [hd m _ hm]
def sm:(t:Ty)→t.den→Prop
 | .str,s=>(s.length:Int)≤1048576
 | .sl t,l=>(l.length:Int)≤1048576∧∀ x∈l,sm t x
 | .pair a b,d=>sm a d.1∧sm b d.2
 | _,_=>True
def Szd (o:Option Int) (left:Int) (P:Prop):Prop:=∃ n,o=some n∧n≤left∧(0≤n→P)
theorem Szd.mono {o:Option Int} {left:Int} {P Q:Prop} (h:Szd o left P) (hpq:P→Q):Szd o left Q:=by
 obtain ⟨n,a,b,c⟩:=h;exact ⟨n,a,b,fun h=>hpq (c h)⟩
theorem Szd.then {o:Option Int} {left:Int} {P Q:Prop} (h:Szd o left P) (h0:0≤left) (hl:left≤1048576) {F:Int→Option Int} (h2:∀ n,0≤n→n≤1048576→P→Szd (F n) n Q) :
  Szd (o.bind fun n=>if n<0 then some (-1) else F n) left Q:=by
 obtain ⟨n,e,hle,hP⟩:=h
 rw [e,Bq]
 split
 ·rename_i hn
  exact ⟨-1,rfl,by omega,fun h=>by omega⟩
 ·rename_i hn
  obtain ⟨m,e2,h3,h4⟩:=h2 n (by omega) (by omega) (hP (by omega))
  exact ⟨m,e2,by omega,h4⟩
theorem Szd.last {o:Option Int} {left:Int} {P Q:Prop} (h:Szd o left P) (hl:0≤left) (hpq:P→Q):Szd (o.bind fun n=>if n<0 then some (-1) else some n) left Q:=by
 obtain ⟨n,e,hle,hP⟩:=h
 rw [e,Bq]
 split
 ·rename_i hn
  exact ⟨-1,rfl,by omega,fun h=>by omega⟩
 ·exact ⟨n,rfl,hle,fun h=>hpq (hP h)⟩
theorem Szd.len {left n:Int} {Q:Prop} {B:Option Int} (h0:0≤left) (hl:left≤1048576) (hn:0≤n) (hb:n≤9223372036854775807)
  (h2:Wq (left-n)=left-n→0≤left-n→left-n≤1048576→n≤1048576→Szd B (left-n) Q) :
  Szd (if Wq (left-n)<0 then some (-1) else B) left Q:=by
 have hw:=ZdP (n:=left-n) (by omega) (by omega)
 rw [hw]
 split
 ·rename_i hn
  exact ⟨-1,rfl,by omega,fun h=>by omega⟩
 ·rename_i hn
  obtain ⟨m,e2,h3,h4⟩:=h2 hw (by omega) (by omega) (by omega)
  exact ⟨m,e2,by omega,h4⟩
theorem Szd.ret {left:Int} {P:Prop} (h:P):Szd (some left) left P:=⟨left,rfl,Int.le_refl _,fun _=>h⟩
theorem Szd.loop {α:Type} {l:List α} {f:α→Int→Option Int} {P:α→Prop} {step:Int×Int×Unit→Option ((Int×Int×Unit) ⊕ Int)}
  (hf:∀ x∈l,∀ m,0≤m→m≤1048576→Szd (f x m) m (P x))
  (hstep:∀ (k:Nat) (m:Int),step (m,(k:Int),())=if (k:Int)<(l.length:Int) then (atI l (k:Int)).bind fun x=>(f x m).bind fun n=>if n<0 then some (.inr (-1)) else some (.inl (n,Wq ((k:Int)+1),())) else some (.inr m))
  {left:Int} (h0:0≤left) (h1:left≤1048576) (hl:(l.length:Int)≤1048576):Szd (Zl step (left,0,())) left (∀ x∈l,P x):=by
 unfold Szd
 refine Qa l.length (fun k v=>v.2.1=(k:Int)∧0≤v.1∧v.1≤left∧∀ x∈l.take k,P x) (fun n=>n≤left∧(0≤n→∀ x∈l,P x)) ⟨rfl,h0,Int.le_refl _,by simp⟩ ?_ ?_
 ·rintro k ⟨m,i,⟨⟩⟩ hk ⟨hi,hm0,hm1,hP⟩
  simp only at hi hm0 hm1
  subst hi
  have hx:l[k]?=some l[k]:=List.getElem?_eq_getElem hk
  generalize l[k]=x at hx
  rw [hstep,if_pos (by omega),Zo,hx,Bq]
  obtain ⟨n,e,hn,hPx⟩:=hf x (List.mem_of_getElem? hx) m hm0 (by omega)
  rw [e,Bq]
  split
  ·exact .inr ⟨-1,rfl,by omega,fun h=>by omega⟩
  ·rw [ZdP (by omega) (by omega)]
   refine .inl ⟨_,rfl,by simp,by dsimp only;omega,by dsimp only;omega,?_⟩
   rw [Yo hx]
   intro y hy
   rcases List.mem_append.1 hy with hy | hy
   ·exact hP y hy
   ·simp at hy;subst hy;exact hPx (by omega)
 ·rintro ⟨m,i,⟨⟩⟩ ⟨hi,hm0,hm1,hP⟩
  simp only at hi hm0 hm1
  subst hi
  rw [List.take_length] at hP
  rw [hstep,if_neg (by omega)]
  exact ⟨m,rfl,hm1,fun _=>hP⟩
theorem VY {α:Type} {l:List α} {f:α→Option α} {z:α} {step:Int×List α×Unit→Option ((Int×List α×Unit) ⊕ List α)} (hf:∀ x∈l,f x=some x)
  (hstep:∀ (k:Nat) (out:List α),step ((k:Int),out,())=if (k:Int)<(l.length:Int) then (atI l (k:Int)).bind fun x=>(f x).bind fun y=>(atI out (k:Int)).bind fun _=>some (.inl (Wq ((k:Int)+1),List.set out (Int.toNat (k:Int)) y,())) else some (.inr out))
  (hl:(l.length:Int)≤1048576):Zl step (0,List.replicate (Int.toNat (l.length:Int)) z,())=some l:=by
 refine YS l.length (fun k v=>v.1=(k:Int)∧v.2.1.length=l.length∧v.2.1.take k=l.take k) _ ⟨rfl,by simp,by simp⟩ ?_ ?_
 ·rintro k ⟨i,out,⟨⟩⟩ hk ⟨hi,hlen,ht⟩
  simp only at hi hlen ht
  subst hi
  have hx:l[k]?=some l[k]:=List.getElem?_eq_getElem hk
  generalize l[k]=x at hx
  have hy:out[k]?=some (out[k]'(by omega)):=List.getElem?_eq_getElem (by omega)
  rw [hstep,if_pos (by omega),Zo,hx,Bq,hf x (List.mem_of_getElem? hx),Bq,Zo,hy,Bq,ZdP (by omega) (by omega)]
  refine .inl ⟨_,rfl,by simp,by simp [hlen],?_⟩
  have hx2:(out.set k x)[k]?=some x:=by rw [List.getElem?_set_self (by omega)]
  simp only [Int.toNat_natCast]
  rw [Yo hx2,Yo hx,List.take_set,ht]
  rw [List.set_eq_of_length_le (by simp;omega)]
 ·rintro ⟨i,out,⟨⟩⟩ ⟨hi,hlen,ht⟩
  simp only at hi hlen ht
  subst hi
  rw [hstep,if_neg (by omega)]
  rw [List.take_length,List.take_of_length_le (by omega)] at ht
  rw [ht]
theorem ZmA {α:Type} [DecidableEq α] {l:List α} {step:Int×Unit→Option ((Int×Unit) ⊕ Bool)}
  (hstep:∀ (k:Nat),step ((k:Int),())=if (k:Int)<(l.length:Int) then (atI l (k:Int)).bind fun x=>(atI l (k:Int)).bind fun y=>if x=y then some (.inl (Wq ((k:Int)+1),())) else some (.inr false) else some (.inr true))
  (hl:(l.length:Int)≤1048576):Zl step (0,())=some true:=by
 refine YS l.length (fun k v=>v.1=(k:Int)) _ rfl ?_ ?_
 ·rintro k ⟨i,⟨⟩⟩ hk hi
  simp only at hi
  subst hi
  have hx:l[k]?=some l[k]:=List.getElem?_eq_getElem hk
  generalize l[k]=x at hx
  rw [hstep,if_pos (by omega),Zo,hx,Bq,Bq,if_pos rfl,ZdP (by omega) (by omega)]
  exact .inl ⟨_,rfl,by simp⟩
 ·rintro ⟨i,⟨⟩⟩ hi
  simp only at hi
  subst hi
  rw [hstep,if_neg (by omega)]
def Ty.fixed:Ty→Bool
 | .str=>false
 | .sl _=>false
 | .ptr _=>true
 | .fn _ _=>true
 | .pair a b=>Ty.fixed a&&Ty.fixed b
 | _=>true
theorem X8:∀ (t:Ty),Ty.fixed t=true→∀ d:t.den,sm t d
 | .int _,_,_=>trivial
 | .bool,_,_=>trivial
 | .unit,_,_=>trivial
 | .ptr _,_,_=>trivial
 | .fn _ _,_,_=>trivial
 | .nptr _,_,_=>trivial
 | .mp _ _,_,_=>trivial
 | .str,h,_=>by simp [Ty.fixed] at h
 | .sl _,h,_=>by simp [Ty.fixed] at h
 | .pair a b,h,d=>by
  simp only [Ty.fixed,Bool.and_eq_true] at h
  exact ⟨X8 a h.1 d.1,X8 b h.2 d.2⟩
theorem Zeo {α:Type} {l:List α} {f:α→α→Option Bool} {step:Int×Unit→Option ((Int×Unit) ⊕ Bool)} (hf:∀ x∈l,f x x=some true)
  (hstep:∀ (k:Nat),step ((k:Int),())=if (k:Int)<(l.length:Int) then (atI l (k:Int)).bind fun x=>(atI l (k:Int)).bind fun y=>(f x y).bind fun e=>if e=true then some (.inl (Wq ((k:Int)+1),())) else some (.inr false) else some (.inr true))
  (hl:(l.length:Int)≤1048576):Zl step (0,())=some true:=by
 refine YS l.length (fun k v=>v.1=(k:Int)) _ rfl ?_ ?_
 ·rintro k ⟨i,⟨⟩⟩ hk hi
  simp only at hi
  subst hi
  have hx:l[k]?=some l[k]:=List.getElem?_eq_getElem hk
  generalize l[k]=x at hx
  rw [hstep,if_pos (by omega),Zo,hx,Bq,Bq,hf x (List.mem_of_getElem? hx),Bq,if_pos rfl,ZdP (by omega) (by omega)]
  exact .inl ⟨_,rfl,by simp⟩
 ·rintro ⟨i,⟨⟩⟩ hi
  simp only at hi
  subst hi
  rw [hstep,if_neg (by omega)]
noncomputable def tr (p:Prop):Bool:=@decide p (Classical.propDecidable p)
theorem ZjA {p:Prop} {b:Bool} (h:b=true↔p):tr p=b:=by
 unfold tr
 cases b
 ·simp at h;simp [h]
 ·simp at h;simp [h]
theorem YK (p:Prop):tr p=true↔p:=by simp [tr]
theorem Z5 {p:Prop} (h:p):tr p=true:=(YK p).2 h
theorem ZR {p:Prop} (h:¬p):tr p=false:=by simp [tr,h]
/-
  Ground of the plain laws: the usual loops.
-/
def Len {α:Type} (l:List α):Prop:=l.length≤4611686018427387904
theorem Zqh {k:Nat} {α:Type} {l:List α} (hl:Len l) (hk:k≤l.length):Wq ((k:Int)+1)=((k+1:Nat):Int):=by
 have:l.length≤4611686018427387904:=hl
 rw [ZdP (by omega) (by omega)];simp
def Xd {α:Type} (p:α→Bool) (l:List α):Int:=match l.findIdx? p with
 | some i=>i
 | none=>-1
theorem Vn {α:Type} {p:α→Bool} {l:List α}:0≤Xd p l↔l.any p=true:=by
 unfold Xd
 split
 ·rename_i i h
  obtain ⟨h1,h2,_⟩:=List.findIdx?_eq_some_iff_getElem.1 h
  refine ⟨fun _=>List.any_eq_true.2 ⟨_,List.getElem_mem h1,h2⟩,fun _=>by omega⟩
 ·rename_i h
  rw [List.findIdx?_eq_none_iff] at h
  refine ⟨fun h'=>by omega,fun h'=>?_⟩
  obtain ⟨x,hx,hp⟩:=List.any_eq_true.1 h'
  have:=h x hx
  rw [hp] at this;cases this
theorem Vv {α ρ:Type} {l:List α} (hl:Len l) {p:α→Bool} {step:Int×Unit→Option ((Int×Unit) ⊕ ρ)} {out:Int→ρ}
  (hs:∀ (k:Nat) (x:α),l[k]?=some x→step ((k:Int),())=some (if p x=true then .inr (out k) else .inl (Wq ((k:Int)+1),())))
  (hx:step ((l.length:Int),())=some (.inr (out (-1)))):Zl step (0,())=some (out (Xd p l)):=by
 refine YS l.length (fun k v=>v.1=(k:Int)∧∀ x∈l.take k,p x=false) _ ⟨rfl,by simp⟩ ?_ ?_
 ·rintro k ⟨i,⟨⟩⟩ hk ⟨hi,hS⟩
  simp only at hi
  subst hi
  have hx:l[k]?=some l[k]:=List.getElem?_eq_getElem hk
  rw [hs k _ hx,Zqh hl (by omega)]
  split
  ·rename_i hp
   right
   have:l.findIdx? p=some k:=by
    rw [List.findIdx?_eq_some_iff_getElem]
    refine ⟨hk,hp,fun j hj=>?_⟩
    have:=hS l[j] (List.mem_iff_getElem?.2 ⟨j,by rw [List.getElem?_take,if_pos hj];exact List.getElem?_eq_getElem _⟩)
    simp [this]
   unfold Xd
   rw [this]
  ·rename_i hp
   refine .inl ⟨_,rfl,rfl,?_⟩
   rw [Yo hx]
   intro y hy
   rcases List.mem_append.1 hy with hy | hy
   ·exact hS y hy
   ·simp at hy;subst hy;simpa using hp
 ·rintro ⟨i,⟨⟩⟩ ⟨hi,hS⟩
  simp only at hi
  subst hi
  rw [List.take_length] at hS
  have:l.findIdx? p=none:=List.findIdx?_eq_none_iff.2 hS
  rw [hx]
  unfold Xd
  rw [this]
noncomputable def sel {ρ:Type} (P:Prop) (a b:ρ):ρ:=match tr P with
 | true=>a
 | false=>b
theorem Xk {ρ:Type} {P:Prop} (h:P) (a b:ρ):sel P a b=a:=by simp [sel,Z5 h]
theorem YT {ρ:Type} {P:Prop} (h:¬P) (a b:ρ):sel P a b=b:=by simp [sel,ZR h]
theorem ZiO (P:Prop):sel P true false=tr P:=by
 by_cases h:P
 ·rw [Xk h,Z5 h]
 ·rw [YT h,ZR h]
def ZcB {α:Type} (l:List α) (P:Nat→α→Prop):Prop:=∀ (k:Nat) (x:α),l[k]?=some x→P k x
theorem Qz {α ρ:Type} {l:List α} (hl:Len l) (P:Nat→α→Prop) {step:Int×Unit→Option ((Int×Unit) ⊕ ρ)} {bad good:ρ}
  (hs:∀ (k:Nat) (x:α),l[k]?=some x→k<l.length→(∀ (j:Nat) (y:α),j<k→l[j]?=some y→P j y)→(P k x→step ((k:Int),())=some (.inl (Wq ((k:Int)+1),())))∧(¬P k x→step ((k:Int),())=some (.inr bad)))
  (hx:ZcB l P→step ((l.length:Int),())=some (.inr good)):Zl step (0,())=some (sel (ZcB l P) good bad):=by
 refine YS l.length (fun k v=>v.1=(k:Int)∧∀ (j:Nat) (y:α),j<k→l[j]?=some y→P j y) _ ⟨rfl,fun j y hj=>by omega⟩ ?_ ?_
 ·rintro k ⟨i,⟨⟩⟩ hk ⟨hi,hS⟩
  simp only at hi
  subst hi
  have hx:l[k]?=some l[k]:=List.getElem?_eq_getElem hk
  obtain ⟨h1,h2⟩:=hs k _ hx hk hS
  by_cases hP:P k l[k]
  ·rw [h1 hP,Zqh hl (by omega)]
   refine .inl ⟨_,rfl,rfl,fun j y hj hy=>?_⟩
   by_cases hjk:j<k
   ·exact hS j y hjk hy
   ·have:j=k:=by omega
    subst this
    rw [hx] at hy;injection hy with hy;subst hy
    exact hP
  ·right
   rw [h2 hP,YT (fun h=>hP (h k _ hx))]
 ·rintro ⟨i,⟨⟩⟩ ⟨hi,hS⟩
  simp only at hi
  subst hi
  have hA:ZcB l P:=fun k x hk=>hS k x (List.getElem?_eq_some_iff.1 hk).1 hk
  rw [hx hA,Xk hA]
theorem ZmQ {ρ:Type} (m n:Nat) (hmn:m≤n) (hn:n≤4611686018427387904) (P:Nat→Prop) {step:Int×Unit→Option ((Int×Unit) ⊕ ρ)} {bad good:ρ}
  (hs:∀ k:Nat,m≤k→k<n→(∀ j,m≤j→j<k→P j)→(P k→step ((k:Int),())=some (.inl (Wq ((k:Int)+1),())))∧(¬P k→step ((k:Int),())=some (.inr bad)))
  (hx:(∀ j,m≤j→j<n→P j)→step ((n:Int),())=some (.inr good)):Zl step ((m:Int),())=some (sel (∀ j,m≤j→j<n→P j) good bad):=by
 refine YS (n-m) (fun k v=>v.1=((m+k:Nat):Int)∧∀ j,m≤j→j<m+k→P j) _ ⟨by simp,fun j h1 h2=>by omega⟩ ?_ ?_
 ·rintro k ⟨i,⟨⟩⟩ hk ⟨hi,hS⟩
  simp only at hi
  subst hi
  obtain ⟨h1,h2⟩:=hs (m+k) (by omega) (by omega) hS
  by_cases hP:P (m+k)
  ·rw [h1 hP,ZdP (by omega) (by omega)]
   refine .inl ⟨_,rfl,by simp only;omega,fun j ha hb=>?_⟩
   by_cases hj:j<m+k
   ·exact hS j ha hj
   ·have:j=m+k:=by omega
    subst this;exact hP
  ·right
   rw [h2 hP,YT (fun h=>hP (h (m+k) (by omega) (by omega)))]
 ·rintro ⟨i,⟨⟩⟩ ⟨hi,hS⟩
  simp only at hi
  subst hi
  have e:m+(n-m)=n:=by omega
  rw [e] at hS ⊢
  rw [hx hS,Xk hS]
/-
  Plain laws: bounds, names.
-/
def within (n a b:Int):Bool:=decide (a≤n)&&decide (n≤b)
theorem QK (n a b:Int):Yd n a b=some (within n a b):=by
 unfold Yd within;split<;>simp [*]
theorem Zaf (n a b:Int):Z9 n a b=some (within n a b):=by
 unfold Z9 within;split<;>simp [*]
theorem within_iff (n a b:Int):within n a b=true↔a≤n∧n≤b:=by simp [within]
def Zcz (b:UInt8):Bool:=decide (97≤b.toNat)&&decide (b.toNat≤122)
def ZgN (b:UInt8):Bool:=decide (48≤b.toNat)&&decide (b.toNat≤57)
def VD (s:List UInt8):Bool:=decide (1≤s.length)&&decide (s.length≤8)&&s.all (fun b=>Zcz b||ZgN b)&&(match s with
 | b::_=>Zcz b
 | []=>false)
def ZkW (s:List UInt8) (i:Nat):Prop:=∀ (j:Nat) (b:UInt8),j<i→s[j]?=some b→(Zcz b||ZgN b)=true∧(j=0→Zcz b=true)
theorem Zme {s:List UInt8} {i:Nat} {x:UInt8} (h:ZkW s i) (hx:s[i]?=some x) (h1:(Zcz x||ZgN x)=true) (h2:i=0→Zcz x=true):ZkW s (i+1):=by
 intro j b hj hb
 by_cases e:j<i
 ·exact h j b e hb
 ·have:j=i:=by omega
  subst this
  rw [hx] at hb;injection hb with hb;subst hb
  exact ⟨h1,h2⟩
theorem Zkz {s:List UInt8} (h:ZkW s s.length):VD s=(decide (1≤s.length)&&decide (s.length≤8)):=by
 unfold VD
 have h1:s.all (fun b=>Zcz b||ZgN b)=true:=by
  rw [List.all_eq_true]
  intro b hb
  obtain ⟨j,hj⟩:=List.mem_iff_getElem?.1 hb
  exact (h j b (List.getElem?_eq_some_iff.1 hj).1 hj).1
 rw [h1]
 cases s with
 | nil=>rfl
 | cons b r =>
  have:=(h 0 b (by simp) rfl).2 rfl
  simp [this]
theorem Znx {s:List UInt8} {j:Nat} {b:UInt8} (hb:s[j]?=some b) (h:(Zcz b||ZgN b)=false∨j=0∧Zcz b=false):VD s=false:=by
 unfold VD
 rcases h with h | ⟨rfl,h⟩
 ·have:s.all (fun b=>Zcz b||ZgN b)=false:=by
   rw [List.all_eq_false]
   exact ⟨b,List.mem_of_getElem? hb,by simp [h]⟩
  simp [this]
 ·cases s with
  | nil=>simp at hb
  | cons c r=>simp at hb;subst hb;simp [h]
theorem ZbS (s:List UInt8) (hl:s.length≤4611686018427387904):JI s=some (VD s):=by
 unfold JI
 refine YS s.length (fun k v=>v.1=(k:Int)∧ZkW s k) _ ⟨rfl,fun j b hj=>by omega⟩ ?_ ?_
 ·rintro k ⟨i,⟨⟩⟩ hk ⟨rfl,hS⟩
  have hx:s[k]?=some s[k]:=List.getElem?_eq_getElem hk
  generalize s[k]=x at hx
  simp only [Zah,Zo,hx,Bq,show (k:Int)<(s.length:Int) from by omega,if_true,ZdP (show (-9223372036854775808:Int)≤(k:Int)+1 by omega) (by omega)]
  have ok:(Zcz x||ZgN x)=true→(k=0→Zcz x=true)→(((k:Int)+1,()):Int×Unit).1=((k+1:Nat):Int)∧ZkW s (k+1):=fun h1 h2=>⟨by simp,Zme hS hx h1 h2⟩
  have bad:((Zcz x||ZgN x)=false∨k=0∧Zcz x=false)→(some (Sum.inr false):Option (Int×Unit ⊕ Bool))=some (Sum.inr (VD s)):=fun h=>by rw [Znx hx h]
  simp only [Zcz,ZgN] at ok bad
  repeat' split
  all_goals first
   | (left;refine ⟨_,rfl,ok ?_ ?_⟩<;>simp<;>omega)
   | (right;refine bad ?_;first | (left;simp;omega) | (right;simp;omega))
 ·rintro ⟨i,⟨⟩⟩ ⟨rfl,hS⟩
  simp only [Zah,Int.lt_irrefl,if_false]
  rw [Zkz hS]
  split
  ·rename_i h
   have h1:1≤s.length:=by omega
   have h2:decide ((s.length:Int)≤8)=decide (s.length≤8):=by rw [decide_eq_decide];omega
   simp [h1,h2]
  ·have h1:¬1≤s.length:=by omega
   simp [h1]
theorem dropWhile_nil {p:UInt8→Bool}:∀ (m:List UInt8),(∀ x∈m.dropWhile p,p x=true)→∀ x∈m,p x=true
 | [],_=>by simp
 | a::m,h=>by
  by_cases ha:p a=true
  ·rw [List.dropWhile_cons_of_pos ha] at h
   intro x hx
   rcases List.mem_cons.1 hx with rfl | hx
   ·exact ha
   ·exact dropWhile_nil m h x hx
  ·rw [List.dropWhile_cons_of_neg ha] at h
   exact absurd (h a (by simp)) ha
theorem ZfU {p:UInt8→Bool}:∀ (m:List UInt8),m.dropWhile p=[]↔∀ x∈m,p x=true
 | []=>by simp
 | a::m=>by
  by_cases ha:p a=true
  ·rw [List.dropWhile_cons_of_pos ha,ZfU m];simp [ha]
  ·rw [List.dropWhile_cons_of_neg ha];simp [ha]
theorem Zpj (s cs:List UInt8):Lib.trimS s cs=[]↔∀ b∈s,cs.contains b=true:=by
 unfold Lib.trimS Lib.trimLeftS Lib.trimRightS
 rw [ZfU]
 constructor
 ·intro h b hb
  exact dropWhile_nil s.reverse (fun x hx=>h x (List.mem_reverse.2 hx)) b (List.mem_reverse.2 hb)
 ·intro h b hb
  exact h b (List.mem_reverse.1 ((List.dropWhile_sublist _).subset (List.mem_reverse.1 hb)))
def letters:List UInt8:=[97,98,99,100,101,102,103,104,105,106,107,108,109,110,111,112,113,114,115,116,117,118,119,120,121,122]
def Zdz:List UInt8:=letters++[48,49,50,51,52,53,54,55,56,57]
theorem Zqi {p:UInt8→Bool} (h:(List.range 256).all (fun n=>p (UInt8.ofNat n))=true) (b:UInt8):p b=true:=by
 rw [List.all_eq_true] at h
 have:=h b.toNat (List.mem_range.2 b.toNat_lt)
 simpa using this
theorem ZdY (b:UInt8):Zdz.contains b=(Zcz b||ZgN b):=by
 have:=Zqi (p:=fun b=>Zdz.contains b == (Zcz b||ZgN b)) (by decide +kernel) b
 simpa using this
theorem ZlD (s:List UInt8):Lib.trimS s Zdz=[]↔s.all (fun b=>Zcz b||ZgN b)=true:=by
 rw [Zpj,List.all_eq_true]
 simp only [ZdY]
theorem Zko (b:UInt8):decide (0≤(Lib.indexByte letters b:Int))=Zcz b:=by
 have:=Zqi (p:=fun b=>decide (0≤(Lib.indexByte letters b:Int)) == Zcz b) (by decide +kernel) b
 simpa using this
theorem Zfd (s:List UInt8):ZbE s=some (VD s):=by
 unfold ZbE
 rw [QK,Bq]
 split
 ·rename_i h
  rw [within_iff] at h
  rw [Zi (by omega)]
  split
  ·rename_i ht
   have ht':=(ZlD s).1 ht
   cases s with
   | nil=>simp at h
   | cons b r =>
    have e:atI (b::r) (0:Int)=some b:=rfl
    rw [e,Bq]
    have e1:((b.toNat:Int)).toNat.toUInt8=b:=by simp
    rw [e1]
    have h1:1≤(b::r).length:=by simp
    have h2:(b::r).length≤8:=by omega
    have:=Zko b
    unfold letters at this
    rw [this]
    simp only [VD,ht',decide_eq_true h1,decide_eq_true h2,Bool.true_and]
  ·rename_i ht
   have ht':¬s.all (fun b=>Zcz b||ZgN b)=true:=fun e=>ht ((ZlD s).2 e)
   simp only [VD,Bool.eq_false_iff.2 ht',Bool.and_false,Bool.false_and]
 ·rename_i h
  rw [within_iff] at h
  have:¬(1≤s.length∧s.length≤8):=by omega
  rw [eq_comm]
  congr 1
  rw [Bool.eq_false_iff]
  intro hh
  simp only [VD,Bool.and_eq_true,decide_eq_true_eq] at hh
  omega
theorem ZhB (l:List (List UInt8)) (s:List UInt8) (hl:l.length≤4611686018427387904):∃ r,Y6 l s=some r∧(0≤r↔s∈l):=by
 unfold Y6
 refine Qa l.length (fun k v=>v.1=(k:Int)∧s ∉ l.take k) _ ⟨rfl,by simp⟩ ?_ ?_
 ·rintro k ⟨i,⟨⟩⟩ hk ⟨rfl,hS⟩
  have hx:l[k]?=some l[k]:=List.getElem?_eq_getElem hk
  generalize l[k]=x at hx
  simp only [Y7,Zo,hx,Bq,show (k:Int)<(l.length:Int) from by omega,if_true,ZdP (show (-9223372036854775808:Int)≤(k:Int)+1 by omega) (by omega)]
  split
  ·rename_i e;subst e
   exact .inr ⟨_,rfl,fun _=>List.mem_of_getElem? hx,fun _=>by simp⟩
  ·rename_i e
   exact .inl ⟨_,rfl,by simp,by rw [Yo hx];simp [hS,e]⟩
 ·rintro ⟨i,⟨⟩⟩ ⟨rfl,hS⟩
  simp only [Y7,Int.lt_irrefl,if_false]
  refine ⟨_,rfl,fun h=>by omega,fun h=>absurd h (by simpa using hS)⟩
theorem ZfG (l:List (List UInt8)) (s:List UInt8) (hl:l.length≤4611686018427387904):YE l s=some (decide (s∈l)):=by
 obtain ⟨r,h1,h2⟩:=ZhB l s hl
 unfold YE
 rw [h1,Bq]
 simp only [h2]
def Qq (l:List (List UInt8)) (k:Nat):Prop:=∀ (j:Nat) (s:List UInt8),j<k→l[j]?=some s→VD s=true∧s ∉ l.take j
theorem QG (l:List (List UInt8)) (hl:l.length≤4611686018427387904):X3 l=some (tr (Qq l l.length)):=by
 unfold X3
 refine YS l.length (fun k v=>v.1=(k:Int)∧Qq l k) _ ⟨rfl,fun j s hj=>by omega⟩ ?_ ?_
 ·rintro k ⟨i,⟨⟩⟩ hk ⟨rfl,hS⟩
  have hx:l[k]?=some l[k]:=List.getElem?_eq_getElem hk
  generalize l[k]=x at hx
  simp only [Jp,Zo,hx,Bq,show (k:Int)<(l.length:Int) from by omega,if_true,ZdP (show (-9223372036854775808:Int)≤(k:Int)+1 by omega) (by omega),Zfd]
  split
  ·rename_i hn
   rw [Zi (by omega),Zi (by omega)]
   simp only [Int.toNat_natCast,Int.toNat_zero,List.drop_zero,Nat.sub_zero]
   rw [ZfG _ _ (by simp only [List.length_take];omega),Bq]
   split
   ·rename_i hm
    right
    rw [ZR]
    intro hh
    exact (hh k x hk hx).2 (by simpa using hm)
   ·rename_i hm
    refine .inl ⟨_,rfl,by simp,fun j s hj hs=>?_⟩
    by_cases e:j<k
    ·exact hS j s e hs
    ·have:j=k:=by omega
     subst this
     rw [hx] at hs;injection hs with hs;subst hs
     exact ⟨hn,by simpa using hm⟩
  ·rename_i hn
   right
   rw [ZR]
   intro hh
   exact hn (hh k x hk hx).1
 ·rintro ⟨i,⟨⟩⟩ ⟨rfl,hS⟩
  simp only [Jp,Int.lt_irrefl,if_false]
  rw [Z5 hS]
/-
  Plain laws: numbers within bounds.
-/
def allIn (l:List Int) (lo hi:Int):Bool:=l.all (fun n=>within n lo hi)
theorem Vs (l:List Int) (lo hi:Int) (hl:l.length≤4611686018427387904):YJ l lo hi=some (allIn l lo hi):=by
 have h1:∃ r,ZU l (lo,hi,())=some r∧(0≤r↔allIn l lo hi=false):=by
  unfold ZU
  refine Qa l.length (fun k v=>v.1=(k:Int)∧allIn (l.take k) lo hi=true) _ ⟨rfl,rfl⟩ ?_ ?_
  ·rintro k ⟨i,⟨⟩⟩ hk ⟨rfl,hS⟩
   have hx:l[k]?=some l[k]:=List.getElem?_eq_getElem hk
   generalize l[k]=x at hx
   simp only [Z0,Zap,QK,Zo,hx,Bq,show (k:Int)<(l.length:Int) from by omega,if_true,ZdP (show (-9223372036854775808:Int)≤(k:Int)+1 by omega) (by omega)]
   cases hw:within x lo hi
   ·refine .inr ⟨_,rfl,fun _=>?_,fun _=>by simp⟩
    rw [allIn,List.all_eq_false]
    exact ⟨x,List.mem_of_getElem? hx,by simp [hw]⟩
   ·refine .inl ⟨_,rfl,by simp,?_⟩
    rw [Yo hx,allIn,List.all_append]
    simp only [allIn] at hS
    simp [hS,hw]
  ·rintro ⟨i,⟨⟩⟩ ⟨rfl,hS⟩
   rw [List.take_length] at hS
   simp only [Z0,Int.lt_irrefl,if_false]
   exact ⟨_,rfl,fun h=>by omega,fun h=>by rw [hS] at h;cases h⟩
 obtain ⟨r,h1,h2⟩:=h1
 unfold YJ Z7
 rw [h1]
 simp only [Bq,h2]
 cases allIn l lo hi<;>simp
/-
  Plain laws: the instances of functions of package slices. Printed by program (libgen.py).
-/
theorem Y5 {l:List Zq} {f:Bool×Unit} (hl:Len l) (p:Zq→Bool) (hp:∀ x∈l,XH x f.fst=some (p x)):ZF l f=some (Xd p l):=by
 unfold ZF
 refine Vv (out:=fun i=>i) hl (p:=p) (fun k x hx=>?_) ?_
 ·have hk:=(List.getElem?_eq_some_iff.1 hx).1
  simp only [ZM,Zo,hx,Bq,show (k:Int)<(l.length:Int) from by omega,if_true,hp x (List.mem_of_getElem? hx)]
  split<;>rfl
 ·simp only [ZM,Int.lt_irrefl,if_false]
theorem YZ {l:List Zq} {f:Bool×Unit} (hl:Len l) (p:Zq→Bool) (hp:∀ x∈l,XH x f.fst=some (p x)):Zy l f=some (l.any p):=by
 unfold Zy
 rw [Y5 hl p hp,Bq]
 congr 1
 rw [Bool.eq_iff_iff,decide_eq_true_eq,Vn]
theorem Xf {l:List Yf} {f:Unit} (hl:Len l) (p:Yf→Bool) (hp:∀ x∈l,JR x=some (p x)):ZJ l f=some (Xd p l):=by
 unfold ZJ
 refine Vv (out:=fun i=>i) hl (p:=p) (fun k x hx=>?_) ?_
 ·have hk:=(List.getElem?_eq_some_iff.1 hx).1
  simp only [ZQ,Zo,hx,Bq,show (k:Int)<(l.length:Int) from by omega,if_true,hp x (List.mem_of_getElem? hx)]
  split<;>rfl
 ·simp only [ZQ,Int.lt_irrefl,if_false]
theorem Y9 {l:List Zw} {f:Zw×Unit} (hl:Len l) (p:Zw→Bool) (hp:∀ x∈l,Y8 x f.fst=some (p x)):ZG l f=some (Xd p l):=by
 unfold ZG
 refine Vv (out:=fun i=>i) hl (p:=p) (fun k x hx=>?_) ?_
 ·have hk:=(List.getElem?_eq_some_iff.1 hx).1
  simp only [ZO,Zo,hx,Bq,show (k:Int)<(l.length:Int) from by omega,if_true,hp x (List.mem_of_getElem? hx)]
  split<;>rfl
 ·simp only [ZO,Int.lt_irrefl,if_false]
theorem Y1 {l:List Zw} {f:Zw×Unit} (hl:Len l) (p:Zw→Bool) (hp:∀ x∈l,Y8 x f.fst=some (p x)):ZA l f=some (l.any p):=by
 unfold ZA
 rw [Y9 hl p hp,Bq]
 congr 1
 rw [Bool.eq_iff_iff,decide_eq_true_eq,Vn]
theorem Xn {l:List Zw} {f:Int×Unit} (hl:Len l) (p:Zw→Bool) (hp:∀ x∈l,Jc x f.fst=some (p x)):ZK l f=some (Xd p l):=by
 unfold ZK
 refine Vv (out:=fun i=>i) hl (p:=p) (fun k x hx=>?_) ?_
 ·have hk:=(List.getElem?_eq_some_iff.1 hx).1
  simp only [ZV,Zo,hx,Bq,show (k:Int)<(l.length:Int) from by omega,if_true,hp x (List.mem_of_getElem? hx)]
  split<;>rfl
 ·simp only [ZV,Int.lt_irrefl,if_false]
theorem Xb {l:List Zw} {f:Int×Unit} (hl:Len l) (p:Zw→Bool) (hp:∀ x∈l,Jc x f.fst=some (p x)):ZH l f=some (l.any p):=by
 unfold ZH
 rw [Xn hl p hp,Bq]
 congr 1
 rw [Bool.eq_iff_iff,decide_eq_true_eq,Vn]
theorem Xc {l:List Int} {f:Zb×Unit} (hl:Len l) (p:Int→Bool) (hp:∀ x∈l,YI x f.fst=some (p x)):ZI l f=some (Xd p l):=by
 unfold ZI
 refine Vv (out:=fun i=>i) hl (p:=p) (fun k x hx=>?_) ?_
 ·have hk:=(List.getElem?_eq_some_iff.1 hx).1
  simp only [ZP,Zo,hx,Bq,show (k:Int)<(l.length:Int) from by omega,if_true,hp x (List.mem_of_getElem? hx)]
  split<;>rfl
 ·simp only [ZP,Int.lt_irrefl,if_false]
theorem Y3 {l:List Int} {f:Zb×Unit} (hl:Len l) (p:Int→Bool) (hp:∀ x∈l,YI x f.fst=some (p x)):ZC l f=some (l.any p):=by
 unfold ZC
 rw [Xc hl p hp,Bq]
 congr 1
 rw [Bool.eq_iff_iff,decide_eq_true_eq,Vn]
theorem X7 {l:List Int} {f:Unit} (hl:Len l) (p:Int→Bool) (hp:∀ x∈l,Jd x=some (p x)):Z4 l f=some (Xd p l):=by
 unfold Z4
 refine Vv (out:=fun i=>i) hl (p:=p) (fun k x hx=>?_) ?_
 ·have hk:=(List.getElem?_eq_some_iff.1 hx).1
  simp only [Ya,Zo,hx,Bq,show (k:Int)<(l.length:Int) from by omega,if_true,hp x (List.mem_of_getElem? hx)]
  split<;>rfl
 ·simp only [Ya,Int.lt_irrefl,if_false]
theorem XM {l:List Int} {f:Unit} (hl:Len l) (p:Int→Bool) (hp:∀ x∈l,Jd x=some (p x)):ZX l f=some (l.any p):=by
 unfold ZX
 rw [X7 hl p hp,Bq]
 congr 1
 rw [Bool.eq_iff_iff,decide_eq_true_eq,Vn]
theorem Yu {l:List Zk} {f:Unit} (hl:Len l) (p:Zk→Bool) (hp:∀ x∈l,Yj x=some (p x)):Zt l f=some (Xd p l):=by
 unfold Zt
 refine Vv (out:=fun i=>i) hl (p:=p) (fun k x hx=>?_) ?_
 ·have hk:=(List.getElem?_eq_some_iff.1 hx).1
  simp only [Zx,Zo,hx,Bq,show (k:Int)<(l.length:Int) from by omega,if_true,hp x (List.mem_of_getElem? hx)]
  split<;>rfl
 ·simp only [Zx,Int.lt_irrefl,if_false]
theorem Ym {l:List Zk} {f:Unit} (hl:Len l) (p:Zk→Bool) (hp:∀ x∈l,Yj x=some (p x)):Zp l f=some (l.any p):=by
 unfold Zp
 rw [Yu hl p hp,Bq]
 congr 1
 rw [Bool.eq_iff_iff,decide_eq_true_eq,Vn]
/-
  Plain laws: arguments counted, copied, compared. Printed by program (szgen.py).
-/
theorem Zku (a:Yf) (left:Int) (h0:0≤left) (h1:left≤1048576) (hb:bnd (Zef) a):Szd (ZcJ a left) left (sm (Zef) a):=by
 unfold ZcJ
 refine Szd.len h0 h1 (by omega) hb.1 (fun hw a0 b0 s0=>?_)
 rw [hw]
 exact Szd.ret ⟨s0,X8 _ (by rfl) _,X8 _ (by rfl) _,X8 _ (by rfl) _,trivial⟩
theorem Zjm (a:List (Yf)) (left:Int) (h0:0≤left) (h1:left≤1048576) (hb:bnd (.sl (Zef)) a):Szd (Zdw a left) left (sm (.sl (Zef)) a):=by
 unfold Zdw
 refine Szd.len h0 h1 (by omega) hb.1 (fun hw m0 m1 hn=>?_)
 rw [hw]
 exact (Szd.loop (f:=fun x m=>ZcJ x m) (P:=fun x=>sm (Zef) x) (fun x hx m m0 m1=>Zku x m m0 m1 (hb.2 x hx)) (fun k m=>rfl) m0 m1 hn).mono (fun h=>⟨hn,h⟩)
theorem YO (a:List (Int)) (left:Int) (h0:0≤left) (h1:left≤1048576) (hb:bnd (.sl (.int .i64)) a):Szd (YN a left) left (sm (.sl (.int .i64)) a):=by
 unfold YN
 refine Szd.len h0 h1 (by omega) hb.1 (fun hw m0 m1 hn=>?_)
 rw [hw]
 exact Szd.ret ⟨hn,fun x _=>X8 (.int .i64) (by rfl) x⟩
theorem Ziq (a:Zq) (left:Int) (h0:0≤left) (h1:left≤1048576) (hb:bnd (Xa) a):Szd (ZaX a left) left (sm (Xa) a):=by
 unfold ZaX
 refine Szd.then (YO _ _ h0 h1 hb.1) h0 h1 (fun m0 a0 b0 s0=>?_)
 refine Szd.then (YO _ _ a0 b0 hb.2.1) a0 b0 (fun m1 a1 b1 s1=>?_)
 refine Szd.last (YO _ _ a1 b1 hb.2.2.1) a1 (fun s2=>?_)
 exact ⟨s0,s1,s2,trivial⟩
theorem ZdT (a:List (Zq)) (left:Int) (h0:0≤left) (h1:left≤1048576) (hb:bnd (.sl (Xa)) a):Szd (J3 a left) left (sm (.sl (Xa)) a):=by
 unfold J3
 refine Szd.len h0 h1 (by omega) hb.1 (fun hw m0 m1 hn=>?_)
 rw [hw]
 exact (Szd.loop (f:=fun x m=>ZaX x m) (P:=fun x=>sm (Xa) x) (fun x hx m m0 m1=>Ziq x m m0 m1 (hb.2 x hx)) (fun k m=>rfl) m0 m1 hn).mono (fun h=>⟨hn,h⟩)
theorem Zkt (a:Zw) (left:Int) (h0:0≤left) (h1:left≤1048576) (hb:bnd (ZeT) a):Szd (ZcI a left) left (sm (ZeT) a):=by
 unfold ZcI
 refine Szd.then (ZdT _ _ h0 h1 hb.2.2.2.2.1) h0 h1 (fun m0 a0 b0 s0=>?_)
 refine Szd.last (ZdT _ _ a0 b0 hb.2.2.2.2.2.1) a0 (fun s1=>?_)
 exact ⟨X8 _ (by rfl) _,X8 _ (by rfl) _,X8 _ (by rfl) _,X8 _ (by rfl) _,s0,s1,trivial⟩
theorem Zjk (a:List (Zw)) (left:Int) (h0:0≤left) (h1:left≤1048576) (hb:bnd (.sl (ZeT)) a):Szd (Zdv a left) left (sm (.sl (ZeT)) a):=by
 unfold Zdv
 refine Szd.len h0 h1 (by omega) hb.1 (fun hw m0 m1 hn=>?_)
 rw [hw]
 exact (Szd.loop (f:=fun x m=>ZcI x m) (P:=fun x=>sm (ZeT) x) (fun x hx m m0 m1=>Zkt x m m0 m1 (hb.2 x hx)) (fun k m=>rfl) m0 m1 hn).mono (fun h=>⟨hn,h⟩)
theorem Zjl (a:Zf) (left:Int) (h0:0≤left) (h1:left≤1048576) (hb:bnd (QC) a):Szd (ZbK a left) left (sm (QC) a):=by
 unfold ZbK
 refine Szd.len h0 h1 (by omega) hb.1 (fun hw a0 b0 s0=>?_)
 rw [hw]
 refine Szd.then (Zjm _ _ a0 b0 hb.2.2.1) a0 b0 (fun m1 a1 b1 s1=>?_)
 refine Szd.then (Zjk _ _ a1 b1 hb.2.2.2.1) a1 b1 (fun m2 a2 b2 s2=>?_)
 refine Szd.last (YO _ _ a2 b2 hb.2.2.2.2.1) a2 (fun s3=>?_)
 exact ⟨s0,X8 _ (by rfl) _,s1,s2,s3,X8 _ (by rfl) _,X8 _ (by rfl) _,trivial⟩
theorem Zin (a:List (Zf)) (left:Int) (h0:0≤left) (h1:left≤1048576) (hb:bnd (.sl (QC)) a):Szd (Zcf a left) left (sm (.sl (QC)) a):=by
 unfold Zcf
 refine Szd.len h0 h1 (by omega) hb.1 (fun hw m0 m1 hn=>?_)
 rw [hw]
 exact (Szd.loop (f:=fun x m=>ZbK x m) (P:=fun x=>sm (QC) x) (fun x hx m m0 m1=>Zjl x m m0 m1 (hb.2 x hx)) (fun k m=>rfl) m0 m1 hn).mono (fun h=>⟨hn,h⟩)
theorem ZgV (a:Zn) (left:Int) (h0:0≤left) (h1:left≤1048576) (hb:bnd (YR) a):Szd (ZaI a left) left (sm (YR) a):=by
 unfold ZaI
 refine Szd.last (Zin _ _ h0 h1 hb.1) h0 (fun s0=>?_)
 exact ⟨s0,trivial⟩
theorem Zge (a:Zd) (left:Int) (h0:0≤left) (h1:left≤1048576) (hb:bnd (Yn) a):Szd (Q7 a left) left (sm (Yn) a):=by
 unfold Q7
 refine Szd.len h0 h1 (by omega) hb.1 (fun hw a0 b0 s0=>?_)
 rw [hw]
 refine Szd.last (YO _ _ a0 b0 hb.2.2.1) a0 (fun s1=>?_)
 exact ⟨s0,X8 _ (by rfl) _,s1,trivial⟩
theorem Zfx (a:List (Zd)) (left:Int) (h0:0≤left) (h1:left≤1048576) (hb:bnd (.sl (Yn)) a):Szd (Ji a left) left (sm (.sl (Yn)) a):=by
 unfold Ji
 refine Szd.len h0 h1 (by omega) hb.1 (fun hw m0 m1 hn=>?_)
 rw [hw]
 exact (Szd.loop (f:=fun x m=>Q7 x m) (P:=fun x=>sm (Yn) x) (fun x hx m m0 m1=>Zge x m m0 m1 (hb.2 x hx)) (fun k m=>rfl) m0 m1 hn).mono (fun h=>⟨hn,h⟩)
theorem ZgX (a:List (List UInt8)) (left:Int) (h0:0≤left) (h1:left≤1048576) (hb:bnd (.sl (.str)) a):Szd (ZaJ a left) left (sm (.sl (.str)) a):=by
 unfold ZaJ
 refine Szd.len h0 h1 (by omega) hb.1 (fun hw m0 m1 hn=>?_)
 rw [hw]
 exact (Szd.loop (f:=fun x m=>if Wq (m-(x.length:Int))<0 then some (-1) else some (Wq (m-(x.length:Int)))) (P:=fun x=>sm .str x) (fun x hx m m0 m1=>Szd.len m0 m1 (by omega) (hb.2 x hx) (fun hw _ _ hn=>by rw [hw];exact Szd.ret hn)) (fun k m=>by
  show VJ a m (k:Int)=_
  unfold VJ
  congr 1;congr 1;funext x;split<;>simp_all) m0 m1 hn).mono (fun h=>⟨hn,h⟩)
theorem Zjn (a:ZN) (left:Int) (h0:0≤left) (h1:left≤1048576) (hb:bnd (Za4) a):Szd (ZbL a left) left (sm (Za4) a):=by
 unfold ZbL
 refine Szd.len h0 h1 (by omega) hb.1 (fun hw a0 b0 s0=>?_)
 rw [hw]
 exact Szd.ret ⟨s0,X8 _ (by rfl) _,X8 _ (by rfl) _,trivial⟩
theorem Zio (a:List (ZN)) (left:Int) (h0:0≤left) (h1:left≤1048576) (hb:bnd (.sl (Za4)) a):Szd (Zcg a left) left (sm (.sl (Za4)) a):=by
 unfold Zcg
 refine Szd.len h0 h1 (by omega) hb.1 (fun hw m0 m1 hn=>?_)
 rw [hw]
 exact (Szd.loop (f:=fun x m=>ZbL x m) (P:=fun x=>sm (Za4) x) (fun x hx m m0 m1=>Zjn x m m0 m1 (hb.2 x hx)) (fun k m=>rfl) m0 m1 hn).mono (fun h=>⟨hn,h⟩)
theorem Zhw (a:Zb) (left:Int) (h0:0≤left) (h1:left≤1048576) (hb:bnd (Yv) a):Szd (Zbm a left) left (sm (Yv) a):=by
 unfold Zbm
 refine Szd.then (Zfx _ _ h0 h1 hb.1) h0 h1 (fun m0 a0 b0 s0=>?_)
 refine Szd.then (ZgX _ _ a0 b0 hb.2.1) a0 b0 (fun m1 a1 b1 s1=>?_)
 refine Szd.last (Zio _ _ a1 b1 hb.2.2.1) a1 (fun s2=>?_)
 exact ⟨s0,s1,s2,trivial⟩
theorem Zjo (a:Zz) (left:Int) (h0:0≤left) (h1:left≤1048576) (hb:bnd (Zaj) a):Szd (ZbM a left) left (sm (Zaj) a):=by
 unfold ZbM
 refine Szd.then (YO _ _ h0 h1 hb.1) h0 h1 (fun m0 a0 b0 s0=>?_)
 refine Szd.then (YO _ _ a0 b0 hb.2.1) a0 b0 (fun m1 a1 b1 s1=>?_)
 refine Szd.then (YO _ _ a1 b1 hb.2.2.1) a1 b1 (fun m2 a2 b2 s2=>?_)
 refine Szd.last (YO _ _ a2 b2 hb.2.2.2.1) a2 (fun s3=>?_)
 exact ⟨s0,s1,s2,s3,trivial⟩
theorem Zir (a:List (Zz)) (left:Int) (h0:0≤left) (h1:left≤1048576) (hb:bnd (.sl (Zaj)) a):Szd (Zch a left) left (sm (.sl (Zaj)) a):=by
 unfold Zch
 refine Szd.len h0 h1 (by omega) hb.1 (fun hw m0 m1 hn=>?_)
 rw [hw]
 exact (Szd.loop (f:=fun x m=>ZbM x m) (P:=fun x=>sm (Zaj) x) (fun x hx m m0 m1=>Zjo x m m0 m1 (hb.2 x hx)) (fun k m=>rfl) m0 m1 hn).mono (fun h=>⟨hn,h⟩)
theorem Zim (a:Zg) (left:Int) (h0:0≤left) (h1:left≤1048576) (hb:bnd (YG) a):Szd (Zce a left) left (sm (YG) a):=by
 unfold Zce
 refine Szd.then (ZgV _ _ h0 h1 hb.1) h0 h1 (fun m0 a0 b0 s0=>?_)
 refine Szd.then (Zhw _ _ a0 b0 hb.2.1) a0 b0 (fun m1 a1 b1 s1=>?_)
 refine Szd.last (Zir _ _ a1 b1 hb.2.2.1) a1 (fun s2=>?_)
 exact ⟨s0,s1,s2,trivial⟩
theorem Zfw (a:List (Zk)) (left:Int) (h0:0≤left) (h1:left≤1048576) (hb:bnd (.sl (ZE)) a):Szd (Jh a left) left (sm (.sl (ZE)) a):=by
 unfold Jh
 refine Szd.len h0 h1 (by omega) hb.1 (fun hw m0 m1 hn=>?_)
 rw [hw]
 exact Szd.ret ⟨hn,fun x _=>X8 (ZE) (by rfl) x⟩
theorem Zkw (a:Yf) (hs:sm (Zef) a):ZcL a=some a:=by
 unfold ZcL
 all_goals rfl
theorem Zjr (a:List (Yf)) (hs:sm (.sl (Zef)) a):Zdy a=some a:=by
 unfold Zdy
 have h:=hs.1
 rw [Zi (by omega),Zi (by omega),Zi (by omega),Zi (by omega)]
 exact VY (f:=ZcL) (fun x hx=>Zkw x (hs.2 x hx)) (fun k out=>rfl) h
theorem YQ (a:List (Int)) (hs:sm (.sl (.int .i64)) a):YP a=some a:=by
 unfold YP
 have h:=hs.1
 rw [Zi (by omega),Zi (by omega),Zi (by omega),Zi (by omega)]
 exact VY (f:=some) (fun x _=>rfl) (fun k out=>rfl) h
theorem Ziv (a:Zq) (hs:sm (Xa) a):ZaY a=some a:=by
 unfold ZaY
 rw [YQ _ hs.1,Bq,YQ _ hs.2.1,Bq,YQ _ hs.2.2.1,Bq]
 all_goals rfl
theorem ZdU (a:List (Zq)) (hs:sm (.sl (Xa)) a):J5 a=some a:=by
 unfold J5
 have h:=hs.1
 rw [Zi (by omega),Zi (by omega),Zi (by omega),Zi (by omega)]
 exact VY (f:=ZaY) (fun x hx=>Ziv x (hs.2 x hx)) (fun k out=>rfl) h
theorem Zkv (a:Zw) (hs:sm (ZeT) a):ZcK a=some a:=by
 unfold ZcK
 rw [ZdU _ hs.2.2.2.2.1,Bq,ZdU _ hs.2.2.2.2.2.1,Bq]
 all_goals rfl
theorem Zjp (a:List (Zw)) (hs:sm (.sl (ZeT)) a):Zdx a=some a:=by
 unfold Zdx
 have h:=hs.1
 rw [Zi (by omega),Zi (by omega),Zi (by omega),Zi (by omega)]
 exact VY (f:=ZcK) (fun x hx=>Zkv x (hs.2 x hx)) (fun k out=>rfl) h
theorem Zjq (a:Zf) (hs:sm (QC) a):ZbN a=some a:=by
 unfold ZbN
 rw [Zjr _ hs.2.2.1,Bq,Zjp _ hs.2.2.2.1,Bq,YQ _ hs.2.2.2.2.1,Bq]
 all_goals rfl
theorem Zit (a:List (Zf)) (hs:sm (.sl (QC)) a):Zcj a=some a:=by
 unfold Zcj
 have h:=hs.1
 rw [Zi (by omega),Zi (by omega),Zi (by omega),Zi (by omega)]
 exact VY (f:=ZbN) (fun x hx=>Zjq x (hs.2 x hx)) (fun k out=>rfl) h
theorem ZgZ (a:Zn) (hs:sm (YR) a):ZaK a=some a:=by
 unfold ZaK
 rw [Zit _ hs.1,Bq]
 all_goals rfl
theorem Zgk (a:Zd) (hs:sm (Yn) a):Q9 a=some a:=by
 unfold Q9
 rw [YQ _ hs.2.2.1,Bq]
 all_goals rfl
theorem ZfA (a:List (Zd)) (hs:sm (.sl (Yn)) a):Jk a=some a:=by
 unfold Jk
 have h:=hs.1
 rw [Zi (by omega),Zi (by omega),Zi (by omega),Zi (by omega)]
 exact VY (f:=Q9) (fun x hx=>Zgk x (hs.2 x hx)) (fun k out=>rfl) h
theorem Zg1 (a:List (List UInt8)) (hs:sm (.sl (.str)) a):ZaL a=some a:=by
 unfold ZaL
 have h:=hs.1
 rw [Zi (by omega),Zi (by omega),Zi (by omega),Zi (by omega)]
 exact VY (f:=some) (fun x _=>rfl) (fun k out=>rfl) h
theorem Zjs (a:ZN) (hs:sm (Za4) a):ZbO a=some a:=by
 unfold ZbO
 all_goals rfl
theorem Ziu (a:List (ZN)) (hs:sm (.sl (Za4)) a):Zck a=some a:=by
 unfold Zck
 have h:=hs.1
 rw [Zi (by omega),Zi (by omega),Zi (by omega),Zi (by omega)]
 exact VY (f:=ZbO) (fun x hx=>Zjs x (hs.2 x hx)) (fun k out=>rfl) h
theorem Zhx (a:Zb) (hs:sm (Yv) a):Zbn a=some a:=by
 unfold Zbn
 rw [ZfA _ hs.1,Bq,Zg1 _ hs.2.1,Bq,Ziu _ hs.2.2.1,Bq]
 all_goals rfl
theorem Zjt (a:Zz) (hs:sm (Zaj) a):ZbP a=some a:=by
 unfold ZbP
 rw [YQ _ hs.1,Bq,YQ _ hs.2.1,Bq,YQ _ hs.2.2.1,Bq,YQ _ hs.2.2.2.1,Bq]
 all_goals rfl
theorem Ziw (a:List (Zz)) (hs:sm (.sl (Zaj)) a):Zcl a=some a:=by
 unfold Zcl
 have h:=hs.1
 rw [Zi (by omega),Zi (by omega),Zi (by omega),Zi (by omega)]
 exact VY (f:=ZbP) (fun x hx=>Zjt x (hs.2 x hx)) (fun k out=>rfl) h
theorem Zis (a:Zg) (hs:sm (YG) a):Zci a=some a:=by
 unfold Zci
 rw [ZgZ _ hs.1,Bq,Zhx _ hs.2.1,Bq,Ziw _ hs.2.2.1,Bq]
 all_goals rfl
theorem Zgj (a:ZB) (hs:sm (V8) a):J4 a=some a:=by
 unfold J4
 all_goals rfl
theorem Zgh (a:Zk) (hs:sm (ZE) a):Q8 a=some a:=by
 unfold Q8
 rw [Zgj _ hs.1,Bq]
 all_goals rfl
theorem Zfz (a:List (Zk)) (hs:sm (.sl (ZE)) a):Jj a=some a:=by
 unfold Jj
 have h:=hs.1
 rw [Zi (by omega),Zi (by omega),Zi (by omega),Zi (by omega)]
 exact VY (f:=Q8) (fun x hx=>Zgh x (hs.2 x hx)) (fun k out=>rfl) h
theorem Zks (a:Yf) (hs:sm (Zef) a):ZcH a a=some true:=by
 unfold ZcH
 simp
theorem Zjh (a:List (Yf)) (hs:sm (.sl (Zef)) a):Zdu a a=some true:=by
 unfold Zdu
 rw [if_pos rfl]
 exact Zeo (f:=ZcH) (fun x hx=>Zks x (hs.2 x hx)) (fun k=>rfl) hs.1
theorem YM (a:List (Int)) (hs:sm (.sl (.int .i64)) a):YL a a=some true:=by
 unfold YL
 rw [if_pos rfl]
 exact ZmA (fun k=>rfl) hs.1
theorem Zik (a:Zq) (hs:sm (Xa) a):ZaW a a=some true:=by
 unfold ZaW
 simp [YM _ hs.1,YM _ hs.2.1,YM _ hs.2.2.1]
theorem ZdS (a:List (Zq)) (hs:sm (.sl (Xa)) a):J2 a a=some true:=by
 unfold J2
 rw [if_pos rfl]
 exact Zeo (f:=ZaW) (fun x hx=>Zik x (hs.2 x hx)) (fun k=>rfl) hs.1
theorem Zkr (a:Zw) (hs:sm (ZeT) a):ZcG a a=some true:=by
 unfold ZcG
 simp [ZdS _ hs.2.2.2.2.1,ZdS _ hs.2.2.2.2.2.1]
theorem Zjf (a:List (Zw)) (hs:sm (.sl (ZeT)) a):Zdt a a=some true:=by
 unfold Zdt
 rw [if_pos rfl]
 exact Zeo (f:=ZcG) (fun x hx=>Zkr x (hs.2 x hx)) (fun k=>rfl) hs.1
theorem Zjg (a:Zf) (hs:sm (QC) a):ZbH a a=some true:=by
 unfold ZbH
 simp [Zjh _ hs.2.2.1,Zjf _ hs.2.2.2.1,YM _ hs.2.2.2.2.1]
theorem Zii (a:List (Zf)) (hs:sm (.sl (QC)) a):Zcb a a=some true:=by
 unfold Zcb
 rw [if_pos rfl]
 exact Zeo (f:=ZbH) (fun x hx=>Zjg x (hs.2 x hx)) (fun k=>rfl) hs.1
theorem ZgR (a:Zn) (hs:sm (YR) a):ZaG a a=some true:=by
 unfold ZaG
 simp [Zii _ hs.1]
theorem Zga (a:Zd) (hs:sm (Yn) a):Q6 a a=some true:=by
 unfold Q6
 simp [YM _ hs.2.2.1]
theorem Zft (a:List (Zd)) (hs:sm (.sl (Yn)) a):Jg a a=some true:=by
 unfold Jg
 rw [if_pos rfl]
 exact Zeo (f:=Q6) (fun x hx=>Zga x (hs.2 x hx)) (fun k=>rfl) hs.1
theorem ZgT (a:List (List UInt8)) (hs:sm (.sl (.str)) a):ZaH a a=some true:=by
 unfold ZaH
 rw [if_pos rfl]
 exact ZmA (fun k=>rfl) hs.1
theorem Zji (a:ZN) (hs:sm (Za4) a):ZbI a a=some true:=by
 unfold ZbI
 simp
theorem Zij (a:List (ZN)) (hs:sm (.sl (Za4)) a):Zcc a a=some true:=by
 unfold Zcc
 rw [if_pos rfl]
 exact Zeo (f:=ZbI) (fun x hx=>Zji x (hs.2 x hx)) (fun k=>rfl) hs.1
theorem Zhv (a:Zb) (hs:sm (Yv) a):Zbl a a=some true:=by
 unfold Zbl
 simp [Zft _ hs.1,ZgT _ hs.2.1,Zij _ hs.2.2.1]
theorem Zjj (a:Zz) (hs:sm (Zaj) a):ZbJ a a=some true:=by
 unfold ZbJ
 simp [YM _ hs.1,YM _ hs.2.1,YM _ hs.2.2.1,YM _ hs.2.2.2.1]
theorem Zil (a:List (Zz)) (hs:sm (.sl (Zaj)) a):Zcd a a=some true:=by
 unfold Zcd
 rw [if_pos rfl]
 exact Zeo (f:=ZbJ) (fun x hx=>Zjj x (hs.2 x hx)) (fun k=>rfl) hs.1
theorem Zih (a:Zg) (hs:sm (YG) a):Zca a a=some true:=by
 unfold Zca
 simp [ZgR _ hs.1,Zhv _ hs.2.1,Zil _ hs.2.2.1]
theorem Zf9 (a:ZB) (hs:sm (V8) a):JZ a a=some true:=by
 unfold JZ
 simp
theorem Zf7 (a:Zk) (hs:sm (ZE) a):Q5 a a=some true:=by
 unfold Q5
 simp [Zf9 _ hs.1]
theorem Zfs (a:List (Zk)) (hs:sm (.sl (ZE)) a):Jf a a=some true:=by
 unfold Jf
 rw [if_pos rfl]
 exact Zeo (f:=Q5) (fun x hx=>Zf7 x (hs.2 x hx)) (fun k=>rfl) hs.1
end Go.Proofs.YtjfbeebdhmebpaaGreatDoor
