/-
  Ground of the plain laws: loops by what they come to; small arithmetic.
-/
import Derived.Test.YtehkanadahncgaaGreatDoorSxM
import Derived.IntWalk
import Derived.Test.YtehkanadahncgaaGreatDoorM
import Derived.Test.YtehkanadahncgaaGreatDoorSxBr
namespace Go.Proofs.YtehkanadahncgaaGreatDoor
set_option linter.unusedVariables false
set_option linter.unusedSimpArgs false
open Go Go.Sx
theorem Vy {n:Int} (h1:-9223372036854775808≤n) (h2:n≤9223372036854775807):IntKind.i64.wrap n=n:=IntWalk.i64_in n ⟨h1,h2⟩
theorem Zu {α:Type} (l:List α) (k:Nat):atI l (k:Int)=l[k]?:=by simp [atI]
theorem QY {α:Type} {l:List α} {i:Int} {x:α} (h0:0≤i) (hx:l[i.toNat]?=some x):atI l i=some x:=by simp [atI,h0,hx]
theorem Zr0 {α:Type} {l:List α} {i:Int} (h0:0≤i) (h1:i<l.length):∃ x,atI l i=some x∧l[i.toNat]?=some x :=
 ⟨l[i.toNat]'(by omega),by simp [atI,h0],List.getElem?_eq_getElem _⟩
theorem Zi {α:Type} {p:Prop} (h:p) (a:Option α):Zx p a=a:=by
 unfold Zx
 exact if_pos h
theorem Zc5 {τ ρ:Type} {step:τ→Option (τ ⊕ ρ)} (n:Nat) (I:Nat→τ→Prop) (Q:ρ→Prop) {v:τ} (h0:I 0 v)
  (hs:∀ k v,k<n→I k v→(∃ v',step v=some (.inl v')∧I (k+1) v')∨∃ r,step v=some (.inr r)∧Q r)
  (hx:∀ v,I n v→∃ r,step v=some (.inr r)∧Q r):∃ r,Zt step v=some r∧Q r:=by
 have:∀ m k v,k+m=n→I k v→∃ r,Zt step v=some r∧Q r:=by
  intro m
  induction m with
  | zero =>
   intro k v hk hI
   have:k=n:=by omega
   subst this
   obtain ⟨r,e,hq⟩:=hx v hI
   exact ⟨r,ZaG e,hq⟩
  | succ m ih =>
   intro k v hk hI
   rcases hs k v (by omega) hI with ⟨v',e,hI'⟩ | ⟨r,e,hq⟩
   ·obtain ⟨r,h1,h2⟩:=ih (k+1) v' (by omega) hI'
    exact ⟨r,by rw [Zf7 e];exact h1,h2⟩
   ·exact ⟨r,ZaG e,hq⟩
 exact this n 0 v (by omega) h0
theorem X3 {τ ρ:Type} {step:τ→Option (τ ⊕ ρ)} (n:Nat) (I:Nat→τ→Prop) (R:ρ) {v:τ} (h0:I 0 v)
  (hs:∀ k v,k<n→I k v→(∃ v',step v=some (.inl v')∧I (k+1) v')∨step v=some (.inr R))
  (hx:∀ v,I n v→step v=some (.inr R)):Zt step v=some R:=by
 obtain ⟨r,h1,h2⟩:=Zc5 n I (fun r=>r=R) h0 (fun k v hk hI=>(hs k v hk hI).elim .inl (fun h=>.inr ⟨R,h,rfl⟩)) (fun v hI=>⟨R,hx v hI,rfl⟩)
 rw [h1,h2]
theorem YA {α:Type} {l:List α} {k:Nat} {x:α} (hx:l[k]?=some x):l.take (k+1)=l.take k++[x]:=by
 rw [List.take_add_one,hx];rfl
def sm:(t:Ty)→t.den→Prop
 | .str,s=>(s.length:Int)≤1048576
 | .sl t,l=>(l.length:Int)≤1048576∧∀ x∈l,sm t x
 | .pair a b,d=>sm a d.1∧sm b d.2
 | _,_=>True
def Szd (o:Option Int) (left:Int) (P:Prop):Prop:=∃ n,o=some n∧n≤left∧(0≤n→P)
theorem Szd.mono {o:Option Int} {left:Int} {P Q:Prop} (h:Szd o left P) (hpq:P→Q):Szd o left Q:=by
 obtain ⟨n,a,b,c⟩:=h;exact ⟨n,a,b,fun h=>hpq (c h)⟩
theorem Szd.then {o:Option Int} {left:Int} {P Q:Prop} (h:Szd o left P) (h0:0≤left) (hl:left≤1048576) {F:Int→Option Int} (h2:∀ n,0≤n→n≤1048576→P→Szd (F n) n Q) :
  Szd (o.bind fun n=>if n<0 then some (-1) else F n) left Q:=by
 obtain ⟨n,e,hle,hP⟩:=h
 rw [e,Option.bind_some]
 split
 ·rename_i hn
  exact ⟨-1,rfl,by omega,fun h=>by omega⟩
 ·rename_i hn
  obtain ⟨m,e2,h3,h4⟩:=h2 n (by omega) (by omega) (hP (by omega))
  exact ⟨m,e2,by omega,h4⟩
theorem Szd.last {o:Option Int} {left:Int} {P Q:Prop} (h:Szd o left P) (hl:0≤left) (hpq:P→Q):Szd (o.bind fun n=>if n<0 then some (-1) else some n) left Q:=by
 obtain ⟨n,e,hle,hP⟩:=h
 rw [e,Option.bind_some]
 split
 ·rename_i hn
  exact ⟨-1,rfl,by omega,fun h=>by omega⟩
 ·exact ⟨n,rfl,hle,fun h=>hpq (hP h)⟩
theorem Szd.len {left n:Int} {Q:Prop} {B:Option Int} (h0:0≤left) (hl:left≤1048576) (hn:0≤n) (hb:n≤9223372036854775807)
  (h2:IntKind.i64.wrap (left-n)=left-n→0≤left-n→left-n≤1048576→n≤1048576→Szd B (left-n) Q) :
  Szd (if IntKind.i64.wrap (left-n)<0 then some (-1) else B) left Q:=by
 have hw:=Vy (n:=left-n) (by omega) (by omega)
 rw [hw]
 split
 ·rename_i hn
  exact ⟨-1,rfl,by omega,fun h=>by omega⟩
 ·rename_i hn
  obtain ⟨m,e2,h3,h4⟩:=h2 hw (by omega) (by omega) (by omega)
  exact ⟨m,e2,by omega,h4⟩
theorem Szd.ret {left:Int} {P:Prop} (h:P):Szd (some left) left P:=⟨left,rfl,Int.le_refl _,fun _=>h⟩
theorem Szd.loop {α:Type} {l:List α} {f:α→Int→Option Int} {P:α→Prop} {step:Int×Int×Unit→Option ((Int×Int×Unit) ⊕ Int)}
  (hf:∀ x∈l,∀ m,0≤m→m≤1048576→Szd (f x m) m (P x))
  (hstep:∀ (k:Nat) (m:Int),step (m,(k:Int),())=if (k:Int)<(l.length:Int) then (atI l (k:Int)).bind fun x=>(f x m).bind fun n=>if n<0 then some (.inr (-1)) else some (.inl (n,IntKind.i64.wrap ((k:Int)+1),())) else some (.inr m))
  {left:Int} (h0:0≤left) (h1:left≤1048576) (hl:(l.length:Int)≤1048576):Szd (Zt step (left,0,())) left (∀ x∈l,P x):=by
 unfold Szd
 refine Zc5 l.length (fun k v=>v.2.1=(k:Int)∧0≤v.1∧v.1≤left∧∀ x∈l.take k,P x) (fun n=>n≤left∧(0≤n→∀ x∈l,P x)) ⟨rfl,h0,Int.le_refl _,by simp⟩ ?_ ?_
 ·rintro k ⟨m,i,⟨⟩⟩ hk ⟨hi,hm0,hm1,hP⟩
  simp only at hi hm0 hm1
  subst hi
  have hx:l[k]?=some l[k]:=List.getElem?_eq_getElem hk
  generalize l[k]=x at hx
  rw [hstep,if_pos (by omega),Zu,hx,Option.bind_some]
  obtain ⟨n,e,hn,hPx⟩:=hf x (List.mem_of_getElem? hx) m hm0 (by omega)
  rw [e,Option.bind_some]
  split
  ·exact .inr ⟨-1,rfl,by omega,fun h=>by omega⟩
  ·rw [Vy (by omega) (by omega)]
   refine .inl ⟨_,rfl,by simp,by dsimp only;omega,by dsimp only;omega,?_⟩
   rw [YA hx]
   intro y hy
   rcases List.mem_append.1 hy with hy | hy
   ·exact hP y hy
   ·simp at hy;subst hy;exact hPx (by omega)
 ·rintro ⟨m,i,⟨⟩⟩ ⟨hi,hm0,hm1,hP⟩
  simp only at hi hm0 hm1
  subst hi
  rw [List.take_length] at hP
  rw [hstep,if_neg (by omega)]
  exact ⟨m,rfl,hm1,fun _=>hP⟩
theorem ZcD {α:Type} {l:List α} {f:α→Option α} {z:α} {step:Int×List α×Unit→Option ((Int×List α×Unit) ⊕ List α)} (hf:∀ x∈l,f x=some x)
  (hstep:∀ (k:Nat) (out:List α),step ((k:Int),out,())=if (k:Int)<(l.length:Int) then (atI l (k:Int)).bind fun x=>(f x).bind fun y=>(atI out (k:Int)).bind fun _=>some (.inl (IntKind.i64.wrap ((k:Int)+1),List.set out (Int.toNat (k:Int)) y,())) else some (.inr out))
  (hl:(l.length:Int)≤1048576):Zt step (0,List.replicate (Int.toNat (l.length:Int)) z,())=some l:=by
 refine X3 l.length (fun k v=>v.1=(k:Int)∧v.2.1.length=l.length∧v.2.1.take k=l.take k) _ ⟨rfl,by simp,by simp⟩ ?_ ?_
 ·rintro k ⟨i,out,⟨⟩⟩ hk ⟨hi,hlen,ht⟩
  simp only at hi hlen ht
  subst hi
  have hx:l[k]?=some l[k]:=List.getElem?_eq_getElem hk
  generalize l[k]=x at hx
  have hy:out[k]?=some (out[k]'(by omega)):=List.getElem?_eq_getElem (by omega)
  rw [hstep,if_pos (by omega),Zu,hx,Option.bind_some,hf x (List.mem_of_getElem? hx),Option.bind_some,Zu,hy,Option.bind_some,Vy (by omega) (by omega)]
  refine .inl ⟨_,rfl,by simp,by simp [hlen],?_⟩
  have hx2:(out.set k x)[k]?=some x:=by rw [List.getElem?_set_self (by omega)]
  simp only [Int.toNat_natCast]
  rw [YA hx2,YA hx,List.take_set,ht]
  rw [List.set_eq_of_length_le (by simp;omega)]
 ·rintro ⟨i,out,⟨⟩⟩ ⟨hi,hlen,ht⟩
  simp only at hi hlen ht
  subst hi
  rw [hstep,if_neg (by omega)]
  rw [List.take_length,List.take_of_length_le (by omega)] at ht
  rw [ht]
theorem ZqF {α:Type} [DecidableEq α] {l:List α} {step:Int×Unit→Option ((Int×Unit) ⊕ Bool)}
  (hstep:∀ (k:Nat),step ((k:Int),())=if (k:Int)<(l.length:Int) then (atI l (k:Int)).bind fun x=>(atI l (k:Int)).bind fun y=>if x=y then some (.inl (IntKind.i64.wrap ((k:Int)+1),())) else some (.inr false) else some (.inr true))
  (hl:(l.length:Int)≤1048576):Zt step (0,())=some true:=by
 refine X3 l.length (fun k v=>v.1=(k:Int)) _ rfl ?_ ?_
 ·rintro k ⟨i,⟨⟩⟩ hk hi
  simp only at hi
  subst hi
  have hx:l[k]?=some l[k]:=List.getElem?_eq_getElem hk
  generalize l[k]=x at hx
  rw [hstep,if_pos (by omega),Zu,hx,Option.bind_some,Option.bind_some,if_pos rfl,Vy (by omega) (by omega)]
  exact .inl ⟨_,rfl,by simp⟩
 ·rintro ⟨i,⟨⟩⟩ hi
  simp only at hi
  subst hi
  rw [hstep,if_neg (by omega)]
def Ty.fixed:Ty→Bool
 | .str=>false
 | .sl _=>false
 | .ptr _=>true
 | .fn _ _=>true
 | .pair a b=>Ty.fixed a&&Ty.fixed b
 | _=>true
theorem Vl:∀ (t:Ty),Ty.fixed t=true→∀ d:t.den,sm t d
 | .int _,_,_=>trivial
 | .bool,_,_=>trivial
 | .unit,_,_=>trivial
 | .ptr _,_,_=>trivial
 | .fn _ _,_,_=>trivial
 | .nptr _,_,_=>trivial
 | .mp _ _,_,_=>trivial
 | .str,h,_=>by simp [Ty.fixed] at h
 | .sl _,h,_=>by simp [Ty.fixed] at h
 | .pair a b,h,d=>by
  simp only [Ty.fixed,Bool.and_eq_true] at h
  exact ⟨Vl a h.1 d.1,Vl b h.2 d.2⟩
theorem Zhy {α:Type} {l:List α} {f:α→α→Option Bool} {step:Int×Unit→Option ((Int×Unit) ⊕ Bool)} (hf:∀ x∈l,f x x=some true)
  (hstep:∀ (k:Nat),step ((k:Int),())=if (k:Int)<(l.length:Int) then (atI l (k:Int)).bind fun x=>(atI l (k:Int)).bind fun y=>(f x y).bind fun e=>if e=true then some (.inl (IntKind.i64.wrap ((k:Int)+1),())) else some (.inr false) else some (.inr true))
  (hl:(l.length:Int)≤1048576):Zt step (0,())=some true:=by
 refine X3 l.length (fun k v=>v.1=(k:Int)) _ rfl ?_ ?_
 ·rintro k ⟨i,⟨⟩⟩ hk hi
  simp only at hi
  subst hi
  have hx:l[k]?=some l[k]:=List.getElem?_eq_getElem hk
  generalize l[k]=x at hx
  rw [hstep,if_pos (by omega),Zu,hx,Option.bind_some,Option.bind_some,hf x (List.mem_of_getElem? hx),Option.bind_some,if_pos rfl,Vy (by omega) (by omega)]
  exact .inl ⟨_,rfl,by simp⟩
 ·rintro ⟨i,⟨⟩⟩ hi
  simp only at hi
  subst hi
  rw [hstep,if_neg (by omega)]
noncomputable def tr (p:Prop):Bool:=@decide p (Classical.propDecidable p)
theorem Zof {p:Prop} {b:Bool} (h:b=true↔p):tr p=b:=by
 unfold tr
 cases b
 ·simp at h;simp [h]
 ·simp at h;simp [h]
theorem Vi (p:Prop):tr p=true↔p:=by simp [tr]
theorem YQ {p:Prop} (h:p):tr p=true:=(Vi p).2 h
theorem Yn {p:Prop} (h:¬p):tr p=false:=by simp [tr,h]
end Go.Proofs.YtehkanadahncgaaGreatDoor
/-
  Ground of the plain laws: the usual loops.
-/
namespace Go.Proofs.YtehkanadahncgaaGreatDoor
set_option linter.unusedVariables false
set_option linter.unusedSimpArgs false
open Go Go.Sx
def Len {α:Type} (l:List α):Prop:=l.length≤4611686018427387904
theorem ZuP {k:Nat} {α:Type} {l:List α} (hl:Len l) (hk:k≤l.length):IntKind.i64.wrap ((k:Int)+1)=((k+1:Nat):Int):=by
 have:l.length≤4611686018427387904:=hl
 rw [Vy (by omega) (by omega)];simp
def Zbe {α:Type} (p:α→Bool) (l:List α):Int:=match l.findIdx? p with
 | some i=>i
 | none=>-1
theorem Zcb {α:Type} {p:α→Bool} {l:List α}:0≤Zbe p l↔l.any p=true:=by
 unfold Zbe
 split
 ·rename_i i h
  obtain ⟨h1,h2,_⟩:=List.findIdx?_eq_some_iff_getElem.1 h
  refine ⟨fun _=>List.any_eq_true.2 ⟨_,List.getElem_mem h1,h2⟩,fun _=>by omega⟩
 ·rename_i h
  rw [List.findIdx?_eq_none_iff] at h
  refine ⟨fun h'=>by omega,fun h'=>?_⟩
  obtain ⟨x,hx,hp⟩:=List.any_eq_true.1 h'
  have:=h x hx
  rw [hp] at this;cases this
theorem ZaF {α ρ:Type} {l:List α} (hl:Len l) {p:α→Bool} {step:Int×Unit→Option ((Int×Unit) ⊕ ρ)} {out:Int→ρ}
  (hs:∀ (k:Nat) (x:α),l[k]?=some x→step ((k:Int),())=some (if p x=true then .inr (out k) else .inl (IntKind.i64.wrap ((k:Int)+1),())))
  (hx:step ((l.length:Int),())=some (.inr (out (-1)))):Zt step (0,())=some (out (Zbe p l)):=by
 refine X3 l.length (fun k v=>v.1=(k:Int)∧∀ x∈l.take k,p x=false) _ ⟨rfl,by simp⟩ ?_ ?_
 ·rintro k ⟨i,⟨⟩⟩ hk ⟨hi,hS⟩
  simp only at hi
  subst hi
  have hx:l[k]?=some l[k]:=List.getElem?_eq_getElem hk
  rw [hs k _ hx,ZuP hl (by omega)]
  split
  ·rename_i hp
   right
   have:l.findIdx? p=some k:=by
    rw [List.findIdx?_eq_some_iff_getElem]
    refine ⟨hk,hp,fun j hj=>?_⟩
    have:=hS l[j] (List.mem_iff_getElem?.2 ⟨j,by rw [List.getElem?_take,if_pos hj];exact List.getElem?_eq_getElem _⟩)
    simp [this]
   unfold Zbe
   rw [this]
  ·rename_i hp
   refine .inl ⟨_,rfl,rfl,?_⟩
   rw [YA hx]
   intro y hy
   rcases List.mem_append.1 hy with hy | hy
   ·exact hS y hy
   ·simp at hy;subst hy;simpa using hp
 ·rintro ⟨i,⟨⟩⟩ ⟨hi,hS⟩
  simp only at hi
  subst hi
  rw [List.take_length] at hS
  have:l.findIdx? p=none:=List.findIdx?_eq_none_iff.2 hS
  rw [hx]
  unfold Zbe
  rw [this]
noncomputable def sel {ρ:Type} (P:Prop) (a b:ρ):ρ:=match tr P with
 | true=>a
 | false=>b
theorem Vu {ρ:Type} {P:Prop} (h:P) (a b:ρ):sel P a b=a:=by simp [sel,YQ h]
theorem Qs {ρ:Type} {P:Prop} (h:¬P) (a b:ρ):sel P a b=b:=by simp [sel,Yn h]
theorem ZmB (P:Prop):sel P true false=tr P:=by
 by_cases h:P
 ·rw [Vu h,YQ h]
 ·rw [Qs h,Yn h]
def Zgc {α:Type} (l:List α) (P:Nat→α→Prop):Prop:=∀ (k:Nat) (x:α),l[k]?=some x→P k x
theorem Zaz {α ρ:Type} {l:List α} (hl:Len l) (P:Nat→α→Prop) {step:Int×Unit→Option ((Int×Unit) ⊕ ρ)} {bad good:ρ}
  (hs:∀ (k:Nat) (x:α),l[k]?=some x→k<l.length→(∀ (j:Nat) (y:α),j<k→l[j]?=some y→P j y)→(P k x→step ((k:Int),())=some (.inl (IntKind.i64.wrap ((k:Int)+1),())))∧(¬P k x→step ((k:Int),())=some (.inr bad)))
  (hx:Zgc l P→step ((l.length:Int),())=some (.inr good)):Zt step (0,())=some (sel (Zgc l P) good bad):=by
 refine X3 l.length (fun k v=>v.1=(k:Int)∧∀ (j:Nat) (y:α),j<k→l[j]?=some y→P j y) _ ⟨rfl,fun j y hj=>by omega⟩ ?_ ?_
 ·rintro k ⟨i,⟨⟩⟩ hk ⟨hi,hS⟩
  simp only at hi
  subst hi
  have hx:l[k]?=some l[k]:=List.getElem?_eq_getElem hk
  obtain ⟨h1,h2⟩:=hs k _ hx hk hS
  by_cases hP:P k l[k]
  ·rw [h1 hP,ZuP hl (by omega)]
   refine .inl ⟨_,rfl,rfl,fun j y hj hy=>?_⟩
   by_cases hjk:j<k
   ·exact hS j y hjk hy
   ·have:j=k:=by omega
    subst this
    rw [hx] at hy;injection hy with hy;subst hy
    exact hP
  ·right
   rw [h2 hP,Qs (fun h=>hP (h k _ hx))]
 ·rintro ⟨i,⟨⟩⟩ ⟨hi,hS⟩
  simp only at hi
  subst hi
  have hA:Zgc l P:=fun k x hk=>hS k x (List.getElem?_eq_some_iff.1 hk).1 hk
  rw [hx hA,Vu hA]
theorem ZqQ {ρ:Type} (m n:Nat) (hmn:m≤n) (hn:n≤4611686018427387904) (P:Nat→Prop) {step:Int×Unit→Option ((Int×Unit) ⊕ ρ)} {bad good:ρ}
  (hs:∀ k:Nat,m≤k→k<n→(∀ j,m≤j→j<k→P j)→(P k→step ((k:Int),())=some (.inl (IntKind.i64.wrap ((k:Int)+1),())))∧(¬P k→step ((k:Int),())=some (.inr bad)))
  (hx:(∀ j,m≤j→j<n→P j)→step ((n:Int),())=some (.inr good)):Zt step ((m:Int),())=some (sel (∀ j,m≤j→j<n→P j) good bad):=by
 refine X3 (n-m) (fun k v=>v.1=((m+k:Nat):Int)∧∀ j,m≤j→j<m+k→P j) _ ⟨by simp,fun j h1 h2=>by omega⟩ ?_ ?_
 ·rintro k ⟨i,⟨⟩⟩ hk ⟨hi,hS⟩
  simp only at hi
  subst hi
  obtain ⟨h1,h2⟩:=hs (m+k) (by omega) (by omega) hS
  by_cases hP:P (m+k)
  ·rw [h1 hP,Vy (by omega) (by omega)]
   refine .inl ⟨_,rfl,by simp only;omega,fun j ha hb=>?_⟩
   by_cases hj:j<m+k
   ·exact hS j ha hj
   ·have:j=m+k:=by omega
    subst this;exact hP
  ·right
   rw [h2 hP,Qs (fun h=>hP (h (m+k) (by omega) (by omega)))]
 ·rintro ⟨i,⟨⟩⟩ ⟨hi,hS⟩
  simp only at hi
  subst hi
  have e:m+(n-m)=n:=by omega
  rw [e] at hS ⊢
  rw [hx hS,Vu hS]
end Go.Proofs.YtehkanadahncgaaGreatDoor
/-
  Ground of the plain laws: all lengths together; how many numbers there are; marks.
-/
namespace Go.Proofs.YtehkanadahncgaaGreatDoor
set_option linter.unusedVariables false
set_option linter.unusedSimpArgs false
open Go Go.Sx
def tot:(t:Ty)→t.den→Nat
 | .str,s=>s.length
 | .sl t,l=>l.length+(l.map (tot t)).sum
 | .pair a b,d=>tot a d.1+tot b d.2
 | _,_=>0
def Szt (o:Option Int) (left:Int) (T:Nat):Prop:=∀ n,o=some n→0≤n→n+(T:Int)≤left
theorem Szt.mono {o:Option Int} {left:Int} {T T':Nat} (h:Szt o left T) (ht:T'≤T):Szt o left T':=fun n h1 h2=>by
 have:=h n h1 h2
 omega
theorem Szt.then {o:Option Int} {left:Int} {T1 T2:Nat} (h:Szt o left T1) (h0:0≤left) (hl:left≤1048576) {F:Int→Option Int} (h2:∀ n,0≤n→n≤1048576→Szt (F n) n T2) :
  Szt (o.bind fun n=>if n<0 then some (-1) else F n) left (T1+T2):=by
 intro m hm hm0
 cases ho:o with
 | none=>rw [ho] at hm;cases hm
 | some n =>
  rw [ho,Option.bind_some] at hm
  by_cases hn:n<0
  ·rw [if_pos hn] at hm;injection hm;omega
  ·rw [if_neg hn] at hm
   have a:=h n ho (by omega)
   have b:=h2 n (by omega) (by omega) m hm hm0
   omega
theorem Szt.last {o:Option Int} {left:Int} {T:Nat} (h:Szt o left T):Szt (o.bind fun n=>if n<0 then some (-1) else some n) left T:=by
 intro m hm hm0
 cases ho:o with
 | none=>rw [ho] at hm;cases hm
 | some n =>
  rw [ho,Option.bind_some] at hm
  by_cases hn:n<0
  ·rw [if_pos hn] at hm;injection hm;omega
  ·rw [if_neg hn] at hm
   injection hm with hm
   subst hm
   exact h n ho hm0
theorem Szt.len {left n:Int} {T:Nat} {B:Option Int} (h0:0≤left) (hl:left≤1048576) (hn:0≤n) (hb:n≤9223372036854775807)
  (h2:IntKind.i64.wrap (left-n)=left-n→0≤left-n→left-n≤1048576→Szt B (left-n) T) :
  Szt (if IntKind.i64.wrap (left-n)<0 then some (-1) else B) left (n.toNat+T):=by
 have hw:=Vy (n:=left-n) (by omega) (by omega)
 intro m hm hm0
 rw [hw] at hm
 by_cases hneg:left-n<0
 ·rw [if_pos hneg] at hm;injection hm;omega
 ·rw [if_neg hneg] at hm
  have:=h2 hw (by omega) (by omega) m hm hm0
  omega
theorem Szt.ret {left:Int}:Szt (some left) left 0:=fun n h _=>by injection h;omega
theorem Szt.loop {α:Type} {l:List α} {f:α→Int→Option Int} {P:α→Prop} {T:α→Nat} {step:Int×Int×Unit→Option ((Int×Int×Unit) ⊕ Int)}
  (hf:∀ x∈l,∀ m,0≤m→m≤1048576→Szd (f x m) m (P x)) (ht:∀ x∈l,∀ m,0≤m→m≤1048576→Szt (f x m) m (T x))
  (hstep:∀ (k:Nat) (m:Int),step (m,(k:Int),())=if (k:Int)<(l.length:Int) then (atI l (k:Int)).bind fun x=>(f x m).bind fun n=>if n<0 then some (.inr (-1)) else some (.inl (n,IntKind.i64.wrap ((k:Int)+1),())) else some (.inr m))
  {left:Int} (h0:0≤left) (h1:left≤1048576) (hl:(l.length:Int)≤1048576):Szt (Zt step (left,0,())) left (l.map T).sum:=by
 have:∃ r,Zt step (left,0,())=some r∧(0≤r→r+((l.map T).sum:Int)≤left):=by
  refine Zc5 l.length (fun k v=>v.2.1=(k:Int)∧0≤v.1∧v.1+(((l.take k).map T).sum:Int)≤left) _ ⟨rfl,h0,by simp⟩ ?_ ?_
  ·rintro k ⟨m,i,⟨⟩⟩ hk ⟨hi,hm0,hm1⟩
   simp only at hi hm0 hm1
   subst hi
   have hx:l[k]?=some l[k]:=List.getElem?_eq_getElem hk
   generalize l[k]=x at hx
   rw [hstep,if_pos (by omega),Zu,hx,Option.bind_some]
   obtain ⟨n,e,hn,hPx⟩:=hf x (List.mem_of_getElem? hx) m hm0 (by omega)
   rw [e,Option.bind_some]
   split
   ·exact .inr ⟨-1,rfl,fun h=>by omega⟩
   ·rename_i hneg
    have:=ht x (List.mem_of_getElem? hx) m hm0 (by omega) n e (by omega)
    rw [Vy (by omega) (by omega)]
    refine .inl ⟨_,rfl,by simp,by dsimp only;omega,?_⟩
    rw [YA hx,List.map_append,List.sum_append]
    simp only [List.map_cons,List.map_nil,List.sum_cons,List.sum_nil]
    omega
  ·rintro ⟨m,i,⟨⟩⟩ ⟨hi,hm0,hm1⟩
   simp only at hi hm0 hm1
   subst hi
   rw [List.take_length] at hm1
   rw [hstep,if_neg (by omega)]
   exact ⟨m,rfl,fun _=>hm1⟩
 obtain ⟨r,h2,h3⟩:=this
 intro n hn hn0
 rw [h2] at hn
 injection hn with hn
 subst hn
 exact h3 hn0
theorem ZlV:∀ (t:Ty),Ty.fixed t=true→∀ d:t.den,tot t d=0
 | .int _,_,_=>rfl
 | .bool,_,_=>rfl
 | .unit,_,_=>rfl
 | .ptr _,_,_=>rfl
 | .fn _ _,_,_=>rfl
 | .nptr _,_,_=>rfl
 | .mp _ _,_,_=>rfl
 | .str,h,_=>by simp [Ty.fixed] at h
 | .sl _,h,_=>by simp [Ty.fixed] at h
 | .pair a b,h,d=>by
  simp only [Ty.fixed,Bool.and_eq_true] at h
  simp only [tot,ZlV a h.1 d.1,ZlV b h.2 d.2]
theorem Zr9 {t:Ty} (h:Ty.fixed t=true) (l:List t.den):(l.map (tot t)).sum=0:=by
 induction l with
 | nil=>rfl
 | cons x r ih=>simp only [List.map_cons,List.sum_cons,ZlV t h x,ih]
theorem ZdO (a b:Ty) (d:(Ty.pair a b).den):tot (.pair a b) d=tot a d.1+tot b d.2:=rfl
theorem Zil (t:Ty) (l:List t.den):tot (.sl t) l=l.length+(l.map (tot t)).sum:=rfl
theorem ZeT (s:List UInt8):tot .str s=s.length:=rfl
theorem Zfc (k:IntKind) (n:Int):tot (.int k) n=0:=rfl
theorem ZdY (b:Bool):tot .bool b=0:=rfl
theorem ZdA (b:Unit):tot .unit b=0:=rfl
theorem Szt.str (x:List UInt8) (m:Int) (m0:0≤m) (m1:m≤1048576) (hb:(x.length:Int)≤9223372036854775807) :
  Szt (if IntKind.i64.wrap (m-(x.length:Int))<0 then some (-1) else some (IntKind.i64.wrap (m-(x.length:Int)))) m (tot .str x):=by
 have h:Szt (if IntKind.i64.wrap (m-(x.length:Int))<0 then some (-1) else some (IntKind.i64.wrap (m-(x.length:Int)))) m ((x.length:Int).toNat+0) :=
  Szt.len m0 m1 (by omega) hb (fun hw _ _=>by rw [hw];exact Szt.ret)
 refine h.mono ?_
 rw [ZeT]
 omega
theorem Szd.str (x:List UInt8) (m:Int) (m0:0≤m) (m1:m≤1048576) (hb:(x.length:Int)≤9223372036854775807) :
  Szd (if IntKind.i64.wrap (m-(x.length:Int))<0 then some (-1) else some (IntKind.i64.wrap (m-(x.length:Int)))) m (sm .str x) :=
 Szd.len m0 m1 (by omega) hb (fun hw _ _ hn=>by rw [hw];exact Szd.ret hn)
def cnt:(t:Ty)→t.den→Nat
 | .int _,_=>1
 | .bool,_=>1
 | .str,_=>1
 | .sl t,l=>(l.map (cnt t)).sum
 | .pair a b,d=>cnt a d.1+cnt b d.2
 | _,_=>0
theorem Zck (a b:Ty) (d:(Ty.pair a b).den):cnt (.pair a b) d=cnt a d.1+cnt b d.2:=rfl
theorem Zes (s:List UInt8):cnt .str s=1:=rfl
theorem Zdp (k:IntKind) (n:Int):cnt (.int k) n=1:=rfl
theorem Zco (b:Bool):cnt .bool b=1:=rfl
theorem Zb7 (b:Unit):cnt .unit b=0:=rfl
def wid:Ty→Nat
 | .int _=>1
 | .bool=>1
 | .str=>1
 | .pair a b=>wid a+wid b
 | _=>0
def Zd2:Ty→Nat
 | .sl t=>max (wid t) (Zd2 t)
 | .pair a b=>max (Zd2 a) (Zd2 b)
 | _=>0
theorem Zpg:∀ (t:Ty) (d:t.den),cnt t d≤wid t+Zd2 t*tot t d
 | .int _,_=>by simp [cnt,wid]
 | .bool,_=>by simp [cnt,wid]
 | .str,_=>by simp [cnt,wid]
 | .unit,_=>by simp [cnt]
 | .ptr _,_=>by simp [cnt]
 | .fn _ _,_=>by simp [cnt]
 | .nptr _,_=>by simp [cnt]
 | .mp _ _,_=>by simp [cnt]
 | .pair a b,d=>by
  have h1:=Zpg a d.1
  have h2:=Zpg b d.2
  have h3:Zd2 a*tot a d.1≤max (Zd2 a) (Zd2 b)*tot a d.1:=Nat.mul_le_mul_right _ (Nat.le_max_left _ _)
  have h4:Zd2 b*tot b d.2≤max (Zd2 a) (Zd2 b)*tot b d.2:=Nat.mul_le_mul_right _ (Nat.le_max_right _ _)
  simp only [cnt,wid,Zd2,tot,Nat.mul_add]
  omega
 | .sl t,l=>by
  have:(l.map (cnt t)).sum≤wid t*l.length+Zd2 t*(l.map (tot t)).sum:=by
   induction l with
   | nil=>simp
   | cons x r ih =>
    have:=Zpg t x
    simp only [List.map_cons,List.sum_cons,List.length_cons,Nat.mul_add]
    omega
  have h1:wid t*l.length≤max (wid t) (Zd2 t)*l.length:=Nat.mul_le_mul_right _ (Nat.le_max_left _ _)
  have h2:Zd2 t*(l.map (tot t)).sum≤max (wid t) (Zd2 t)*(l.map (tot t)).sum:=Nat.mul_le_mul_right _ (Nat.le_max_right _ _)
  simp only [cnt,wid,Zd2,tot,Nat.mul_add]
  omega
def Mkd {α:Type} (o:Option (Int×α)) (k:Int) (c:Nat):Prop:=∃ a',o=some (k+(c:Int),a')
theorem Zfj {α:Type} {L:List α} {j:Nat} {y:α} (h:j<L.length):atI (List.set L j y) (j:Int)=some y:=by
 rw [Zu,List.getElem?_set_self h]
theorem Mkd.loop {α:Type} {l:List α} {c:α→Nat} {step:Int×Int×List α×Unit→Option ((Int×Int×List α×Unit) ⊕ (Int×List α))} {k:Int}
  (hstep:∀ (j:Nat) (m:Int) (x:α) (L:List α),j<L.length→(j:Int)<(L.length:Int)→L.length=l.length→L[j]?=some x→x∈l→0≤m→m+(c x:Int)≤4611686018427387904→(j:Int)≤1048576→∃ y,step (m,(j:Int),L,())=some (.inl (m+(c x:Int),((j+1:Nat):Int),List.set L j y,())))
  (hend:∀ (m:Int) (L:List α),L.length=l.length→step (m,(L.length:Int),L,())=some (.inr (m,L)))
  (hl:l.length≤1048576) (h0:0≤k) (h1:k+((l.map c).sum:Int)≤4611686018427387904):Mkd (Zt step (k,0,l,())) k (l.map c).sum:=by
 have:∃ r,Zt step (k,0,l,())=some r∧r.1=k+((l.map c).sum:Int):=by
  refine Zc5 l.length (fun j v=>v.1=k+(((l.take j).map c).sum:Int)∧v.2.1=(j:Int)∧v.2.2.1.length=l.length∧∀ i,j≤i→v.2.2.1[i]?=l[i]?) _ ⟨by simp,rfl,rfl,fun i _=>rfl⟩ ?_ ?_
  ·rintro j ⟨m,i,L,⟨⟩⟩ hj ⟨hm,hi,hL,hrest⟩
   simp only at hm hi hL hrest
   subst hi
   have hx:l[j]?=some l[j]:=List.getElem?_eq_getElem hj
   have hsum:(l.map c).sum=((l.take j).map c).sum+(c l[j]+((l.drop (j+1)).map c).sum):=by
    have e:l=l.take j++(l[j]::l.drop (j+1)):=by rw [←List.drop_eq_getElem_cons hj,List.take_append_drop]
    have e2:=congrArg (fun l=>(l.map c).sum) e
    simp only [List.map_append,List.sum_append,List.map_cons,List.sum_cons] at e2
    exact e2
   obtain ⟨y,hy⟩:=hstep j m l[j] L (by omega) (by omega) hL (by rw [hrest j (Nat.le_refl _)];exact hx) (List.mem_of_getElem? hx) (by omega) (by omega) (by omega)
   left
   refine ⟨_,hy,?_,rfl,by simp [hL],fun i hi=>?_⟩
   ·rw [YA hx,List.map_append,List.sum_append]
    simp only [List.map_cons,List.map_nil,List.sum_cons,List.sum_nil]
    omega
   ·simp only
    rw [List.getElem?_set_ne (by omega)]
    exact hrest i (by omega)
  ·rintro ⟨m,i,L,⟨⟩⟩ ⟨hm,hi,hL,_⟩
   simp only at hm hi hL
   subst hi
   rw [List.take_length] at hm
   rw [←hL,hend m L hL]
   exact ⟨_,rfl,hm⟩
 obtain ⟨r,h2,h3⟩:=this
 exact ⟨r.2,by rw [h2,←h3]⟩
end Go.Proofs.YtehkanadahncgaaGreatDoor
/-
  Ground of the plain laws: what marking makes of a value, and that the marks are held.
-/
namespace Go.Proofs.YtehkanadahncgaaGreatDoor
set_option linter.unusedVariables false
set_option linter.unusedSimpArgs false
open Go Go.Sx
def mkL {α:Type} (f:α→Int→α) (c:α→Nat):List α→Int→List α
 | [],_=>[]
 | x::r,k=>f x k::mkL f c r (k+(c x:Int))
def mkA (mt:Int→List UInt8):(t:Ty)→t.den→Int→t.den
 | .int _,_,k=>k
 | .str,_,k=>mt k
 | .bool,_,k=>decide (Int.tmod k 3=0)
 | .pair a b,d,k=>(mkA mt a d.1 k,mkA mt b d.2 (k+(cnt a d.1:Int)))
 | .sl t,l,k=>mkL (mkA mt t) (cnt t) l k
 | .unit,d,_=>d
 | .ptr _,d,_=>d
 | .fn _ _,d,_=>d
 | .nptr _,d,_=>d
 | .mp _ _,d,_=>d
theorem ZfZ {α:Type} (f:α→Int→α) (c:α→Nat):∀ (l:List α) (k:Int),(mkL f c l k).length=l.length
 | [],_=>rfl
 | x::r,k=>by simp only [mkL,List.length_cons,ZfZ f c r]
theorem ZrN {α:Type} (f:α→Int→α) (c:α→Nat):∀ (l:List α) (k:Int) (j:Nat),(mkL f c l k)[j]?=(l[j]?).map (fun x=>f x (k+(((l.take j).map c).sum:Int)))
 | [],k,j=>by simp [mkL]
 | x::r,k,0=>by simp [mkL]
 | x::r,k,j+1=>by
  simp only [mkL,List.getElem?_cons_succ,ZrN f c r,List.take_succ_cons,List.map_cons,List.sum_cons]
  congr 1
  funext y
  congr 1
  omega
theorem Zns {α:Type} (f:α→Int→α) (c:α→Nat):∀ (l r:List α) (k:Int),mkL f c (l++r) k=mkL f c l k++mkL f c r (k+((l.map c).sum:Int))
 | [],r,k=>by simp [mkL]
 | x::l,r,k=>by
  simp only [List.cons_append,mkL,Zns f c l r,List.map_cons,List.sum_cons]
  congr 3
  omega
theorem ZtN {α:Type} {f:α→Int→α} {c:α→Nat} {l:List α} {k:Int} {j:Nat} {x:α} (hx:l[j]?=some x):mkL f c (l.take (j+1)) k=mkL f c (l.take j) k++[f x (k+(((l.take j).map c).sum:Int))]:=by
 rw [YA hx,Zns];rfl
theorem ZuG {α:Type} {l:List α} {f:α→Int→α} {c:α→Nat} {step:Int×Int×List α×Unit→Option ((Int×Int×List α×Unit) ⊕ (Int×List α))} {k:Int}
  (hstep:∀ (j:Nat) (m:Int) (x:α) (L:List α),j<L.length→(j:Int)<(L.length:Int)→L[j]?=some x→x∈l→0≤m→m+(c x:Int)≤4611686018427387904→(j:Int)≤1048576→step (m,(j:Int),L,())=some (.inl (m+(c x:Int),((j+1:Nat):Int),List.set L j (f x m),())))
  (hend:∀ (m:Int) (L:List α),step (m,(L.length:Int),L,())=some (.inr (m,L)))
  (hl:l.length≤1048576) (h0:0≤k) (h1:k+((l.map c).sum:Int)≤4611686018427387904):Zt step (k,0,l,())=some (k+((l.map c).sum:Int),mkL f c l k):=by
 refine X3 l.length (fun j v=>v.1=k+(((l.take j).map c).sum:Int)∧v.2.1=(j:Int)∧v.2.2.1=mkL f c (l.take j) k++l.drop j) _ ⟨by simp,rfl,by simp [mkL]⟩ ?_ ?_
 ·rintro j ⟨m,i,L,⟨⟩⟩ hj ⟨hm,hi,hL⟩
  simp only at hm hi hL
  subst hi
  have hx:l[j]?=some l[j]:=List.getElem?_eq_getElem hj
  generalize hxv:l[j]=x at hx
  have hlen:(mkL f c (l.take j) k).length=j:=by rw [ZfZ,List.length_take];omega
  have hd:l.drop j=x::l.drop (j+1):=by rw [List.drop_eq_getElem_cons hj,hxv]
  have hLl:L.length=l.length:=by rw [hL,List.length_append,hlen,List.length_drop];omega
  have hLx:L[j]?=some x:=by rw [hL,List.getElem?_append_right (by omega),hlen,Nat.sub_self,hd];rfl
  have hsum:(l.map c).sum=((l.take j).map c).sum+(c x+((l.drop (j+1)).map c).sum):=by
   have e:l=l.take j++(x::l.drop (j+1)):=by rw [←hd,List.take_append_drop]
   have e2:=congrArg (fun l=>(l.map c).sum) e
   simp only [List.map_append,List.sum_append,List.map_cons,List.sum_cons] at e2
   exact e2
  left
  refine ⟨_,hstep j m x L (by omega) (by omega) hLx (List.mem_of_getElem? hx) (by omega) (by omega) (by omega),?_,rfl,?_⟩
  ·rw [YA hx,List.map_append,List.sum_append]
   simp only [List.map_cons,List.map_nil,List.sum_cons,List.sum_nil]
   omega
  ·simp only
   rw [hL,ZtN hx,List.set_append,if_neg (by omega),hlen,Nat.sub_self,hd,hm]
   simp
 ·rintro ⟨m,i,L,⟨⟩⟩ ⟨hm,hi,hL⟩
  simp only at hm hi hL
  subst hi
  rw [List.take_length,List.drop_length,List.append_nil] at hL
  rw [List.take_length] at hm
  subst hL
  rw [←ZfZ f c l k,hend,hm]
theorem Zqu {α:Type} {l:List α} {f:α→Int→α} {c:α→Nat} {step:Int×Int×Unit→Option ((Int×Int×Unit) ⊕ Int)} {k:Int}
  (hstep:∀ (j:Nat) (m:Int) (x:α),(j:Int)<((mkL f c l k).length:Int)→(mkL f c l k)[j]?=some (f x m)→x∈l→0≤m→m+(c x:Int)≤4611686018427387904→(j:Int)≤1048576→step (m,(j:Int),())=some (.inl (m+(c x:Int),((j+1:Nat):Int),())))
  (hend:∀ (m:Int),step (m,((mkL f c l k).length:Int),())=some (.inr m))
  (hl:l.length≤1048576) (h0:0≤k) (h1:k+((l.map c).sum:Int)≤4611686018427387904):Zt step (k,0,())=some (k+((l.map c).sum:Int)):=by
 refine X3 l.length (fun j v=>v.1=k+(((l.take j).map c).sum:Int)∧v.2.1=(j:Int)) _ ⟨by simp,rfl⟩ ?_ ?_
 ·rintro j ⟨m,i,⟨⟩⟩ hj ⟨hm,hi⟩
  simp only at hm hi
  subst hi
  have hx:l[j]?=some l[j]:=List.getElem?_eq_getElem hj
  generalize hxv:l[j]=x at hx
  have hsum:(l.map c).sum=((l.take j).map c).sum+(c x+((l.drop (j+1)).map c).sum):=by
   have hd:l.drop j=x::l.drop (j+1):=by rw [List.drop_eq_getElem_cons hj,hxv]
   have e:l=l.take j++(x::l.drop (j+1)):=by rw [←hd,List.take_append_drop]
   have e2:=congrArg (fun l=>(l.map c).sum) e
   simp only [List.map_append,List.sum_append,List.map_cons,List.sum_cons] at e2
   exact e2
  left
  refine ⟨_,hstep j m x (by rw [ZfZ];omega) (by rw [ZrN,hx,hm];rfl) (List.mem_of_getElem? hx) (by omega) (by omega) (by omega),?_,rfl⟩
  rw [YA hx,List.map_append,List.sum_append]
  simp only [List.map_cons,List.map_nil,List.sum_cons,List.sum_nil]
  omega
 ·rintro ⟨m,i,⟨⟩⟩ ⟨hm,hi⟩
  simp only at hm hi
  subst hi
  rw [List.take_length] at hm
  rw [←ZfZ f c l k,hend,hm]
end Go.Proofs.YtehkanadahncgaaGreatDoor
/-
  Plain laws: bounds, names.
-/
namespace Go.Proofs.YtehkanadahncgaaGreatDoor
set_option linter.unusedVariables false
set_option linter.unusedSimpArgs false
open Go Go.Sx
def within (n a b:Int):Bool:=decide (a≤n)&&decide (n≤b)
theorem Zbu (n a b:Int):Yp n a b=some (within n a b):=by
 unfold Yp within;split<;>simp [*]
theorem Zdu (n a b:Int):Yd n a b=some (within n a b):=by
 unfold Yd within;split<;>simp [*]
theorem within_iff (n a b:Int):within n a b=true↔a≤n∧n≤b:=by simp [within]
def ZfO (b:UInt8):Bool:=decide (97≤b.toNat)&&decide (b.toNat≤122)
def Zj0 (b:UInt8):Bool:=decide (48≤b.toNat)&&decide (b.toNat≤57)
def ZaT (s:List UInt8):Bool:=decide (1≤s.length)&&decide (s.length≤8)&&s.all (fun b=>ZfO b||Zj0 b)&&(match s with
 | b::_=>ZfO b
 | []=>false)
def ZoU (s:List UInt8) (i:Nat):Prop:=∀ (j:Nat) (b:UInt8),j<i→s[j]?=some b→(ZfO b||Zj0 b)=true∧(j=0→ZfO b=true)
theorem ZpO {s:List UInt8} {i:Nat} {x:UInt8} (h:ZoU s i) (hx:s[i]?=some x) (h1:(ZfO x||Zj0 x)=true) (h2:i=0→ZfO x=true):ZoU s (i+1):=by
 intro j b hj hb
 by_cases e:j<i
 ·exact h j b e hb
 ·have:j=i:=by omega
  subst this
  rw [hx] at hb;injection hb with hb;subst hb
  exact ⟨h1,h2⟩
theorem Zog {s:List UInt8} (h:ZoU s s.length):ZaT s=(decide (1≤s.length)&&decide (s.length≤8)):=by
 unfold ZaT
 have h1:s.all (fun b=>ZfO b||Zj0 b)=true:=by
  rw [List.all_eq_true]
  intro b hb
  obtain ⟨j,hj⟩:=List.mem_iff_getElem?.1 hb
  exact (h j b (List.getElem?_eq_some_iff.1 hj).1 hj).1
 rw [h1]
 cases s with
 | nil=>rfl
 | cons b r =>
  have:=(h 0 b (by simp) rfl).2 rfl
  simp [this]
theorem Zru {s:List UInt8} {j:Nat} {b:UInt8} (hb:s[j]?=some b) (h:(ZfO b||Zj0 b)=false∨j=0∧ZfO b=false):ZaT s=false:=by
 unfold ZaT
 rcases h with h | ⟨rfl,h⟩
 ·have:s.all (fun b=>ZfO b||Zj0 b)=false:=by
   rw [List.all_eq_false]
   exact ⟨b,List.mem_of_getElem? hb,by simp [h]⟩
  simp [this]
 ·cases s with
  | nil=>simp at hb
  | cons c r=>simp at hb;subst hb;simp [h]
theorem ZdD (s:List UInt8) (hl:s.length≤4611686018427387904):Zai s=some (ZaT s):=by
 unfold Zai
 refine X3 s.length (fun k v=>v.1=(k:Int)∧ZoU s k) _ ⟨rfl,fun j b hj=>by omega⟩ ?_ ?_
 ·rintro k ⟨i,⟨⟩⟩ hk ⟨rfl,hS⟩
  have hx:s[k]?=some s[k]:=List.getElem?_eq_getElem hk
  generalize s[k]=x at hx
  simp only [Zac,Zu,hx,Option.bind_some,show (k:Int)<(s.length:Int) from by omega,if_true,Vy (show (-9223372036854775808:Int)≤(k:Int)+1 by omega) (by omega)]
  have ok:(ZfO x||Zj0 x)=true→(k=0→ZfO x=true)→(((k:Int)+1,()):Int×Unit).1=((k+1:Nat):Int)∧ZoU s (k+1):=fun h1 h2=>⟨by simp,ZpO hS hx h1 h2⟩
  have bad:((ZfO x||Zj0 x)=false∨k=0∧ZfO x=false)→(some (Sum.inr false):Option (Int×Unit ⊕ Bool))=some (Sum.inr (ZaT s)):=fun h=>by rw [Zru hx h]
  simp only [ZfO,Zj0] at ok bad
  repeat' split
  all_goals first
   | (left;refine ⟨_,rfl,ok ?_ ?_⟩<;>simp<;>omega)
   | (right;refine bad ?_;first | (left;simp;omega) | (right;simp;omega))
 ·rintro ⟨i,⟨⟩⟩ ⟨rfl,hS⟩
  simp only [Zac,Int.lt_irrefl,if_false]
  rw [Zog hS]
  split
  ·rename_i h
   have h1:1≤s.length:=by omega
   have h2:decide ((s.length:Int)≤8)=decide (s.length≤8):=by rw [decide_eq_decide];omega
   simp [h1,h2]
  ·have h1:¬1≤s.length:=by omega
   simp [h1]
theorem dropWhile_nil {p:UInt8→Bool}:∀ (m:List UInt8),(∀ x∈m.dropWhile p,p x=true)→∀ x∈m,p x=true
 | [],_=>by simp
 | a::m,h=>by
  by_cases ha:p a=true
  ·rw [List.dropWhile_cons_of_pos ha] at h
   intro x hx
   rcases List.mem_cons.1 hx with rfl | hx
   ·exact ha
   ·exact dropWhile_nil m h x hx
  ·rw [List.dropWhile_cons_of_neg ha] at h
   exact absurd (h a (by simp)) ha
theorem ZjF {p:UInt8→Bool}:∀ (m:List UInt8),m.dropWhile p=[]↔∀ x∈m,p x=true
 | []=>by simp
 | a::m=>by
  by_cases ha:p a=true
  ·rw [List.dropWhile_cons_of_pos ha,ZjF m];simp [ha]
  ·rw [List.dropWhile_cons_of_neg ha];simp [ha]
theorem ZrV (s cs:List UInt8):Lib.trimS s cs=[]↔∀ b∈s,cs.contains b=true:=by
 unfold Lib.trimS Lib.trimLeftS Lib.trimRightS
 rw [ZjF]
 constructor
 ·intro h b hb
  exact dropWhile_nil s.reverse (fun x hx=>h x (List.mem_reverse.2 hx)) b (List.mem_reverse.2 hb)
 ·intro h b hb
  exact h b (List.mem_reverse.1 ((List.dropWhile_sublist _).subset (List.mem_reverse.1 hb)))
def letters:List UInt8:=[97,98,99,100,101,102,103,104,105,106,107,108,109,110,111,112,113,114,115,116,117,118,119,120,121,122]
def ZgP:List UInt8:=letters++[48,49,50,51,52,53,54,55,56,57]
theorem ZuR {p:UInt8→Bool} (h:(List.range 256).all (fun n=>p (UInt8.ofNat n))=true) (b:UInt8):p b=true:=by
 rw [List.all_eq_true] at h
 have:=h b.toNat (List.mem_range.2 b.toNat_lt)
 simpa using this
theorem Zg6 (b:UInt8):ZgP.contains b=(ZfO b||Zj0 b):=by
 have:=ZuR (p:=fun b=>ZgP.contains b == (ZfO b||Zj0 b)) (by decide +kernel) b
 simpa using this
theorem Zph (s:List UInt8):Lib.trimS s ZgP=[]↔s.all (fun b=>ZfO b||Zj0 b)=true:=by
 rw [ZrV,List.all_eq_true]
 simp only [Zg6]
theorem Zoq (b:UInt8):decide (0≤(Lib.indexByte letters b:Int))=ZfO b:=by
 have:=ZuR (p:=fun b=>decide (0≤(Lib.indexByte letters b:Int)) == ZfO b) (by decide +kernel) b
 simpa using this
theorem ZfP (s:List UInt8):ZbR s=some (ZaT s):=by
 unfold ZbR
 rw [Zbu,Option.bind_some]
 split
 ·rename_i h
  rw [within_iff] at h
  rw [Zi (by omega)]
  split
  ·rename_i ht
   have ht':=(Zph s).1 ht
   cases s with
   | nil=>simp at h
   | cons b r =>
    have e:atI (b::r) (0:Int)=some b:=rfl
    rw [e,Option.bind_some]
    have e1:((b.toNat:Int)).toNat.toUInt8=b:=by simp
    rw [e1]
    have h1:1≤(b::r).length:=by simp
    have h2:(b::r).length≤8:=by omega
    have:=Zoq b
    unfold letters at this
    rw [this]
    simp only [ZaT,ht',decide_eq_true h1,decide_eq_true h2,Bool.true_and]
  ·rename_i ht
   have ht':¬s.all (fun b=>ZfO b||Zj0 b)=true:=fun e=>ht ((Zph s).2 e)
   simp only [ZaT,Bool.eq_false_iff.2 ht',Bool.and_false,Bool.false_and]
 ·rename_i h
  rw [within_iff] at h
  have:¬(1≤s.length∧s.length≤8):=by omega
  rw [eq_comm]
  congr 1
  rw [Bool.eq_false_iff]
  intro hh
  simp only [ZaT,Bool.and_eq_true,decide_eq_true_eq] at hh
  omega
theorem Zk1 (l:List (List UInt8)) (s:List UInt8) (hl:l.length≤4611686018427387904):∃ r,Yq l s=some r∧(0≤r↔s∈l):=by
 unfold Yq
 refine Zc5 l.length (fun k v=>v.1=(k:Int)∧s ∉ l.take k) _ ⟨rfl,by simp⟩ ?_ ?_
 ·rintro k ⟨i,⟨⟩⟩ hk ⟨rfl,hS⟩
  have hx:l[k]?=some l[k]:=List.getElem?_eq_getElem hk
  generalize l[k]=x at hx
  simp only [Yo,Zu,hx,Option.bind_some,show (k:Int)<(l.length:Int) from by omega,if_true,Vy (show (-9223372036854775808:Int)≤(k:Int)+1 by omega) (by omega)]
  split
  ·rename_i e;subst e
   exact .inr ⟨_,rfl,fun _=>List.mem_of_getElem? hx,fun _=>by simp⟩
  ·rename_i e
   exact .inl ⟨_,rfl,by simp,by rw [YA hx];simp [hS,e]⟩
 ·rintro ⟨i,⟨⟩⟩ ⟨rfl,hS⟩
  simp only [Yo,Int.lt_irrefl,if_false]
  refine ⟨_,rfl,fun h=>by omega,fun h=>absurd h (by simpa using hS)⟩
theorem ZiF (l:List (List UInt8)) (s:List UInt8) (hl:l.length≤4611686018427387904):YN l s=some (decide (s∈l)):=by
 obtain ⟨r,h1,h2⟩:=Zk1 l s hl
 unfold YN
 rw [h1,Option.bind_some]
 simp only [h2]
def VK (l:List (List UInt8)) (k:Nat):Prop:=∀ (j:Nat) (s:List UInt8),j<k→l[j]?=some s→ZaT s=true∧s ∉ l.take j
theorem Zbh (l:List (List UInt8)) (hl:l.length≤4611686018427387904):Vn l=some (tr (VK l l.length)):=by
 unfold Vn
 refine X3 l.length (fun k v=>v.1=(k:Int)∧VK l k) _ ⟨rfl,fun j s hj=>by omega⟩ ?_ ?_
 ·rintro k ⟨i,⟨⟩⟩ hk ⟨rfl,hS⟩
  have hx:l[k]?=some l[k]:=List.getElem?_eq_getElem hk
  generalize l[k]=x at hx
  simp only [Jy,Zu,hx,Option.bind_some,show (k:Int)<(l.length:Int) from by omega,if_true,Vy (show (-9223372036854775808:Int)≤(k:Int)+1 by omega) (by omega),ZfP]
  split
  ·rename_i hn
   rw [Zi (by omega),Zi (by omega)]
   simp only [Int.toNat_natCast,Int.toNat_zero,List.drop_zero,Nat.sub_zero]
   rw [ZiF _ _ (by simp only [List.length_take];omega),Option.bind_some]
   split
   ·rename_i hm
    right
    rw [Yn]
    intro hh
    exact (hh k x hk hx).2 (by simpa using hm)
   ·rename_i hm
    refine .inl ⟨_,rfl,by simp,fun j s hj hs=>?_⟩
    by_cases e:j<k
    ·exact hS j s e hs
    ·have:j=k:=by omega
     subst this
     rw [hx] at hs;injection hs with hs;subst hs
     exact ⟨hn,by simpa using hm⟩
  ·rename_i hn
   right
   rw [Yn]
   intro hh
   exact hn (hh k x hk hx).1
 ·rintro ⟨i,⟨⟩⟩ ⟨rfl,hS⟩
  simp only [Jy,Int.lt_irrefl,if_false]
  rw [YQ hS]
end Go.Proofs.YtehkanadahncgaaGreatDoor
/-
  Plain laws: numbers within bounds.
-/
namespace Go.Proofs.YtehkanadahncgaaGreatDoor
set_option linter.unusedVariables false
set_option linter.unusedSimpArgs false
open Go Go.Sx
def allIn (l:List Int) (lo hi:Int):Bool:=l.all (fun n=>within n lo hi)
theorem Zcj (l:List Int) (lo hi:Int) (hl:l.length≤4611686018427387904):Xq l lo hi=some (allIn l lo hi):=by
 have h1:∃ r,Z8 l (lo,hi,())=some r∧(0≤r↔allIn l lo hi=false):=by
  unfold Z8
  refine Zc5 l.length (fun k v=>v.1=(k:Int)∧allIn (l.take k) lo hi=true) _ ⟨rfl,rfl⟩ ?_ ?_
  ·rintro k ⟨i,⟨⟩⟩ hk ⟨rfl,hS⟩
   have hx:l[k]?=some l[k]:=List.getElem?_eq_getElem hk
   generalize l[k]=x at hx
   simp only [Z9,ZaI,Zbu,Zu,hx,Option.bind_some,show (k:Int)<(l.length:Int) from by omega,if_true,Vy (show (-9223372036854775808:Int)≤(k:Int)+1 by omega) (by omega)]
   cases hw:within x lo hi
   ·refine .inr ⟨_,rfl,fun _=>?_,fun _=>by simp⟩
    rw [allIn,List.all_eq_false]
    exact ⟨x,List.mem_of_getElem? hx,by simp [hw]⟩
   ·refine .inl ⟨_,rfl,by simp,?_⟩
    rw [YA hx,allIn,List.all_append]
    simp only [allIn] at hS
    simp [hS,hw]
  ·rintro ⟨i,⟨⟩⟩ ⟨rfl,hS⟩
   rw [List.take_length] at hS
   simp only [Z9,Int.lt_irrefl,if_false]
   exact ⟨_,rfl,fun h=>by omega,fun h=>by rw [hS] at h;cases h⟩
 obtain ⟨r,h1,h2⟩:=h1
 unfold Xq Ye
 rw [h1]
 simp only [Option.bind_some,h2]
 cases allIn l lo hi<;>simp
end Go.Proofs.YtehkanadahncgaaGreatDoor
/-
  Plain laws: the instances of functions of package slices. Printed by program (libgen.py).
-/
namespace Go.Proofs.YtehkanadahncgaaGreatDoor
open Go Go.Sx
set_option linter.unusedVariables false
set_option linter.unusedSimpArgs false
theorem ZeI {l:List (List UInt8)} {v:List UInt8} (hl:Len l):Yq l v=some (Zbe (fun x=>decide (v=x)) l):=by
 unfold Yq
 refine ZaF (out:=fun i=>i) hl (fun k x hx=>?_) ?_
 ·have hk:=(List.getElem?_eq_some_iff.1 hx).1
  simp only [Yo,Zu,hx,Option.bind_some,show (k:Int)<(l.length:Int) from by omega,if_true,decide_eq_true_eq]
  split<;>rfl
 ·simp only [Yo,Int.lt_irrefl,if_false]
theorem Qz {l:List Zv} {f:Bool×Unit} (hl:Len l) (p:Zv→Bool) (hp:∀ x∈l,Qb x f.fst=some (p x)):ZJ l f=some (Zbe p l):=by
 unfold ZJ
 refine ZaF (out:=fun i=>i) hl (p:=p) (fun k x hx=>?_) ?_
 ·have hk:=(List.getElem?_eq_some_iff.1 hx).1
  simp only [ZP,Zu,hx,Option.bind_some,show (k:Int)<(l.length:Int) from by omega,if_true,hp x (List.mem_of_getElem? hx)]
  split<;>rfl
 ·simp only [ZP,Int.lt_irrefl,if_false]
theorem Qo {l:List Zv} {f:Bool×Unit} (hl:Len l) (p:Zv→Bool) (hp:∀ x∈l,Qb x f.fst=some (p x)):ZF l f=some (l.any p):=by
 unfold ZF
 rw [Qz hl p hp,Option.bind_some]
 congr 1
 rw [Bool.eq_iff_iff,decide_eq_true_eq,Zcb]
theorem Q6 {l:List YB} {f:Unit} (hl:Len l) (p:YB→Bool) (hp:∀ x∈l,Zap x=some (p x)):ZQ l f=some (Zbe p l):=by
 unfold ZQ
 refine ZaF (out:=fun i=>i) hl (p:=p) (fun k x hx=>?_) ?_
 ·have hk:=(List.getElem?_eq_some_iff.1 hx).1
  simp only [ZY,Zu,hx,Option.bind_some,show (k:Int)<(l.length:Int) from by omega,if_true,hp x (List.mem_of_getElem? hx)]
  split<;>rfl
 ·simp only [ZY,Int.lt_irrefl,if_false]
theorem QS {l:List ZT} {f:ZT×Unit} (hl:Len l) (p:ZT→Bool) (hp:∀ x∈l,Xb x f.fst=some (p x)):ZK l f=some (Zbe p l):=by
 unfold ZK
 refine ZaF (out:=fun i=>i) hl (p:=p) (fun k x hx=>?_) ?_
 ·have hk:=(List.getElem?_eq_some_iff.1 hx).1
  simp only [ZR,Zu,hx,Option.bind_some,show (k:Int)<(l.length:Int) from by omega,if_true,hp x (List.mem_of_getElem? hx)]
  split<;>rfl
 ·simp only [ZR,Int.lt_irrefl,if_false]
theorem Qr {l:List ZT} {f:ZT×Unit} (hl:Len l) (p:ZT→Bool) (hp:∀ x∈l,Xb x f.fst=some (p x)):ZG l f=some (l.any p):=by
 unfold ZG
 rw [QS hl p hp,Option.bind_some]
 congr 1
 rw [Bool.eq_iff_iff,decide_eq_true_eq,Zcb]
theorem Vj {l:List ZT} {f:Int×Unit} (hl:Len l) (p:ZT→Bool) (hp:∀ x∈l,J7 x f.fst=some (p x)):ZW l f=some (Zbe p l):=by
 unfold ZW
 refine ZaF (out:=fun i=>i) hl (p:=p) (fun k x hx=>?_) ?_
 ·have hk:=(List.getElem?_eq_some_iff.1 hx).1
  simp only [Z5,Zu,hx,Option.bind_some,show (k:Int)<(l.length:Int) from by omega,if_true,hp x (List.mem_of_getElem? hx)]
  split<;>rfl
 ·simp only [Z5,Int.lt_irrefl,if_false]
theorem QV {l:List ZT} {f:Int×Unit} (hl:Len l) (p:ZT→Bool) (hp:∀ x∈l,J7 x f.fst=some (p x)):ZO l f=some (l.any p):=by
 unfold ZO
 rw [Vj hl p hp,Option.bind_some]
 congr 1
 rw [Bool.eq_iff_iff,decide_eq_true_eq,Zcb]
theorem QW {l:List Int} {f:Za×Unit} (hl:Len l) (p:Int→Bool) (hp:∀ x∈l,YT x f.fst=some (p x)):ZN l f=some (Zbe p l):=by
 unfold ZN
 refine ZaF (out:=fun i=>i) hl (p:=p) (fun k x hx=>?_) ?_
 ·have hk:=(List.getElem?_eq_some_iff.1 hx).1
  simp only [ZU,Zu,hx,Option.bind_some,show (k:Int)<(l.length:Int) from by omega,if_true,hp x (List.mem_of_getElem? hx)]
  split<;>rfl
 ·simp only [ZU,Int.lt_irrefl,if_false]
theorem Qx {l:List Int} {f:Za×Unit} (hl:Len l) (p:Int→Bool) (hp:∀ x∈l,YT x f.fst=some (p x)):ZI l f=some (l.any p):=by
 unfold ZI
 rw [QW hl p hp,Option.bind_some]
 congr 1
 rw [Bool.eq_iff_iff,decide_eq_true_eq,Zcb]
theorem Zaq {l:List Int} {f:Unit} (hl:Len l) (p:Int→Bool) (hp:∀ x∈l,J9 x=some (p x)):Yf l f=some (Zbe p l):=by
 unfold Yf
 refine ZaF (out:=fun i=>i) hl (p:=p) (fun k x hx=>?_) ?_
 ·have hk:=(List.getElem?_eq_some_iff.1 hx).1
  simp only [Yg,Zu,hx,Option.bind_some,show (k:Int)<(l.length:Int) from by omega,if_true,hp x (List.mem_of_getElem? hx)]
  split<;>rfl
 ·simp only [Yg,Int.lt_irrefl,if_false]
theorem JQ {l:List Int} {f:Unit} (hl:Len l) (p:Int→Bool) (hp:∀ x∈l,J9 x=some (p x)):Ya l f=some (l.any p):=by
 unfold Ya
 rw [Zaq hl p hp,Option.bind_some]
 congr 1
 rw [Bool.eq_iff_iff,decide_eq_true_eq,Zcb]
theorem XA {l:List Zd} {f:List UInt8×Unit} (hl:Len l) (p:Zd→Bool) (hp:∀ x∈l,Vs x f.fst=some (p x)):Zy l f=some (Zbe p l):=by
 unfold Zy
 refine ZaF (out:=fun i=>i) hl (p:=p) (fun k x hx=>?_) ?_
 ·have hk:=(List.getElem?_eq_some_iff.1 hx).1
  simp only [ZB,Zu,hx,Option.bind_some,show (k:Int)<(l.length:Int) from by omega,if_true,hp x (List.mem_of_getElem? hx)]
  split<;>rfl
 ·simp only [ZB,Int.lt_irrefl,if_false]
theorem X4 {l:List Yc} {f:Int×Int×Unit} (hl:Len l) (p:Yc→Bool) (hp:∀ x∈l,XP x f.fst f.snd.fst=some (p x)):ZC l f=some (Zbe p l):=by
 unfold ZC
 refine ZaF (out:=fun i=>i) hl (p:=p) (fun k x hx=>?_) ?_
 ·have hk:=(List.getElem?_eq_some_iff.1 hx).1
  simp only [ZH,Zu,hx,Option.bind_some,show (k:Int)<(l.length:Int) from by omega,if_true,hp x (List.mem_of_getElem? hx)]
  split<;>rfl
 ·simp only [ZH,Int.lt_irrefl,if_false]
end Go.Proofs.YtehkanadahncgaaGreatDoor
/-
  Plain laws: arguments counted, copied, compared. Printed by program (szgen.py).
-/
namespace Go.Proofs.YtehkanadahncgaaGreatDoor
open Go Go.Sx
set_option linter.unusedVariables false
set_option linter.unusedSimpArgs false
theorem Zi5 (a:YB) (left:Int) (h0:0≤left) (h1:left≤1048576) (hb:bnd (ZcH) a):Szd (Zbp a left) left (sm (ZcH) a):=by
 unfold Zbp
 refine Szd.len h0 h1 (by omega) hb.1 (fun hw a0 b0 s0=>?_)
 rw [hw]
 exact Szd.ret ⟨s0,Vl _ (by rfl) _,Vl _ (by rfl) _,Vl _ (by rfl) _,trivial⟩
theorem Znh (a:List (YB)) (left:Int) (h0:0≤left) (h1:left≤1048576) (hb:bnd (.sl (ZcH)) a):Szd (ZbS a left) left (sm (.sl (ZcH)) a):=by
 unfold ZbS
 refine Szd.len h0 h1 (by omega) hb.1 (fun hw m0 m1 hn=>?_)
 rw [hw]
 exact (Szd.loop (f:=fun x m=>Zbp x m) (P:=fun x=>sm (ZcH) x) (fun x hx m m0 m1=>Zi5 x m m0 m1 (hb.2 x hx)) (fun k m=>rfl) m0 m1 hn).mono (fun h=>⟨hn,h⟩)
theorem X5 (a:List (Int)) (left:Int) (h0:0≤left) (h1:left≤1048576) (hb:bnd (.sl (.int .i64)) a):Szd (YX a left) left (sm (.sl (.int .i64)) a):=by
 unfold YX
 refine Szd.len h0 h1 (by omega) hb.1 (fun hw m0 m1 hn=>?_)
 rw [hw]
 exact Szd.ret ⟨hn,fun x _=>Vl (.int .i64) (by rfl) x⟩
theorem ZhP (a:Zv) (left:Int) (h0:0≤left) (h1:left≤1048576) (hb:bnd (YP) a):Szd (Jc a left) left (sm (YP) a):=by
 unfold Jc
 refine Szd.then (X5 _ _ h0 h1 hb.1) h0 h1 (fun m0 a0 b0 s0=>?_)
 refine Szd.then (X5 _ _ a0 b0 hb.2.1) a0 b0 (fun m1 a1 b1 s1=>?_)
 refine Szd.last (X5 _ _ a1 b1 hb.2.2.1) a1 (fun s2=>?_)
 exact ⟨s0,s1,s2,trivial⟩
theorem Zg4 (a:List (Zv)) (left:Int) (h0:0≤left) (h1:left≤1048576) (hb:bnd (.sl (YP)) a):Szd (V8 a left) left (sm (.sl (YP)) a):=by
 unfold V8
 refine Szd.len h0 h1 (by omega) hb.1 (fun hw m0 m1 hn=>?_)
 rw [hw]
 exact (Szd.loop (f:=fun x m=>Jc x m) (P:=fun x=>sm (YP) x) (fun x hx m m0 m1=>ZhP x m m0 m1 (hb.2 x hx)) (fun k m=>rfl) m0 m1 hn).mono (fun h=>⟨hn,h⟩)
theorem Zjy (a:ZT) (left:Int) (h0:0≤left) (h1:left≤1048576) (hb:bnd (ZeP) a):Szd (Zbr a left) left (sm (ZeP) a):=by
 unfold Zbr
 refine Szd.then (Zg4 _ _ h0 h1 hb.2.2.2.2.1) h0 h1 (fun m0 a0 b0 s0=>?_)
 refine Szd.last (Zg4 _ _ a0 b0 hb.2.2.2.2.2.1) a0 (fun s1=>?_)
 exact ⟨Vl _ (by rfl) _,Vl _ (by rfl) _,Vl _ (by rfl) _,Vl _ (by rfl) _,s0,s1,trivial⟩
theorem Znf (a:List (ZT)) (left:Int) (h0:0≤left) (h1:left≤1048576) (hb:bnd (.sl (ZeP)) a):Szd (Zb0 a left) left (sm (.sl (ZeP)) a):=by
 unfold Zb0
 refine Szd.len h0 h1 (by omega) hb.1 (fun hw m0 m1 hn=>?_)
 rw [hw]
 exact (Szd.loop (f:=fun x m=>Zbr x m) (P:=fun x=>sm (ZeP) x) (fun x hx m m0 m1=>Zjy x m m0 m1 (hb.2 x hx)) (fun k m=>rfl) m0 m1 hn).mono (fun h=>⟨hn,h⟩)
theorem ZiC (a:Zh) (left:Int) (h0:0≤left) (h1:left≤1048576) (hb:bnd (XY) a):Szd (Zaw a left) left (sm (XY) a):=by
 unfold Zaw
 refine Szd.len h0 h1 (by omega) hb.1 (fun hw a0 b0 s0=>?_)
 rw [hw]
 refine Szd.then (Znh _ _ a0 b0 hb.2.2.1) a0 b0 (fun m1 a1 b1 s1=>?_)
 refine Szd.then (Znf _ _ a1 b1 hb.2.2.2.1) a1 b1 (fun m2 a2 b2 s2=>?_)
 refine Szd.last (X5 _ _ a2 b2 hb.2.2.2.2.1) a2 (fun s3=>?_)
 exact ⟨s0,Vl _ (by rfl) _,s1,s2,s3,Vl _ (by rfl) _,Vl _ (by rfl) _,trivial⟩
theorem ZmE (a:List (Zh)) (left:Int) (h0:0≤left) (h1:left≤1048576) (hb:bnd (.sl (XY)) a):Szd (ZaU a left) left (sm (.sl (XY)) a):=by
 unfold ZaU
 refine Szd.len h0 h1 (by omega) hb.1 (fun hw m0 m1 hn=>?_)
 rw [hw]
 exact (Szd.loop (f:=fun x m=>Zaw x m) (P:=fun x=>sm (XY) x) (fun x hx m m0 m1=>ZiC x m m0 m1 (hb.2 x hx)) (fun k m=>rfl) m0 m1 hn).mono (fun h=>⟨hn,h⟩)
theorem Zj1 (a:Zk) (left:Int) (h0:0≤left) (h1:left≤1048576) (hb:bnd (YE) a):Szd (Jf a left) left (sm (YE) a):=by
 unfold Jf
 refine Szd.last (ZmE _ _ h0 h1 hb.1) h0 (fun s0=>?_)
 exact ⟨s0,trivial⟩
theorem ZfL (a:Zd) (left:Int) (h0:0≤left) (h1:left≤1048576) (hb:bnd (Z6) a):Szd (XU a left) left (sm (Z6) a):=by
 unfold XU
 refine Szd.len h0 h1 (by omega) hb.1 (fun hw a0 b0 s0=>?_)
 rw [hw]
 refine Szd.last (X5 _ _ a0 b0 hb.2.2.1) a0 (fun s1=>?_)
 exact ⟨s0,Vl _ (by rfl) _,s1,trivial⟩
theorem ZiR (a:List (Zd)) (left:Int) (h0:0≤left) (h1:left≤1048576) (hb:bnd (.sl (Z6)) a):Szd (QU a left) left (sm (.sl (Z6)) a):=by
 unfold QU
 refine Szd.len h0 h1 (by omega) hb.1 (fun hw m0 m1 hn=>?_)
 rw [hw]
 exact (Szd.loop (f:=fun x m=>XU x m) (P:=fun x=>sm (Z6) x) (fun x hx m m0 m1=>ZfL x m m0 m1 (hb.2 x hx)) (fun k m=>rfl) m0 m1 hn).mono (fun h=>⟨hn,h⟩)
theorem Zkj (a:List (List UInt8)) (left:Int) (h0:0≤left) (h1:left≤1048576) (hb:bnd (.sl (.str)) a):Szd (V9 a left) left (sm (.sl (.str)) a):=by
 unfold V9
 refine Szd.len h0 h1 (by omega) hb.1 (fun hw m0 m1 hn=>?_)
 rw [hw]
 exact (Szd.loop (f:=fun x m=>if IntKind.i64.wrap (m-(x.length:Int))<0 then some (-1) else some (IntKind.i64.wrap (m-(x.length:Int)))) (P:=fun x=>sm .str x) (fun x hx m m0 m1=>Szd.len m0 m1 (by omega) (hb.2 x hx) (fun hw _ _ hn=>by rw [hw];exact Szd.ret hn)) (fun k m=>by
  show XG a m (k:Int)=_
  unfold XG
  congr 1;congr 1;funext x;split<;>simp_all) m0 m1 hn).mono (fun h=>⟨hn,h⟩)
theorem Ziv (a:ZL) (left:Int) (h0:0≤left) (h1:left≤1048576) (hb:bnd (Vz) a):Szd (Zav a left) left (sm (Vz) a):=by
 unfold Zav
 refine Szd.len h0 h1 (by omega) hb.1 (fun hw a0 b0 s0=>?_)
 rw [hw]
 exact Szd.ret ⟨s0,Vl _ (by rfl) _,Vl _ (by rfl) _,trivial⟩
theorem ZlF (a:List (ZL)) (left:Int) (h0:0≤left) (h1:left≤1048576) (hb:bnd (.sl (Vz)) a):Szd (ZaY a left) left (sm (.sl (Vz)) a):=by
 unfold ZaY
 refine Szd.len h0 h1 (by omega) hb.1 (fun hw m0 m1 hn=>?_)
 rw [hw]
 exact (Szd.loop (f:=fun x m=>Zav x m) (P:=fun x=>sm (Vz) x) (fun x hx m m0 m1=>Ziv x m m0 m1 (hb.2 x hx)) (fun k m=>rfl) m0 m1 hn).mono (fun h=>⟨hn,h⟩)
theorem ZkZ (a:Za) (left:Int) (h0:0≤left) (h1:left≤1048576) (hb:bnd (Yr) a):Szd (Zak a left) left (sm (Yr) a):=by
 unfold Zak
 refine Szd.then (ZiR _ _ h0 h1 hb.1) h0 h1 (fun m0 a0 b0 s0=>?_)
 refine Szd.then (Zkj _ _ a0 b0 hb.2.1) a0 b0 (fun m1 a1 b1 s1=>?_)
 refine Szd.last (ZlF _ _ a1 b1 hb.2.2.1) a1 (fun s2=>?_)
 exact ⟨s0,s1,s2,trivial⟩
theorem ZfS (a:Zn) (left:Int) (h0:0≤left) (h1:left≤1048576) (hb:bnd (XR) a):Szd (JO a left) left (sm (XR) a):=by
 unfold JO
 refine Szd.then (X5 _ _ h0 h1 hb.1) h0 h1 (fun m0 a0 b0 s0=>?_)
 refine Szd.then (X5 _ _ a0 b0 hb.2.1) a0 b0 (fun m1 a1 b1 s1=>?_)
 refine Szd.then (X5 _ _ a1 b1 hb.2.2.1) a1 b1 (fun m2 a2 b2 s2=>?_)
 refine Szd.last (X5 _ _ a2 b2 hb.2.2.2.1) a2 (fun s3=>?_)
 exact ⟨s0,s1,s2,s3,trivial⟩
theorem Zmw (a:List (Zn)) (left:Int) (h0:0≤left) (h1:left≤1048576) (hb:bnd (.sl (XR)) a):Szd (ZaW a left) left (sm (.sl (XR)) a):=by
 unfold ZaW
 refine Szd.len h0 h1 (by omega) hb.1 (fun hw m0 m1 hn=>?_)
 rw [hw]
 exact (Szd.loop (f:=fun x m=>JO x m) (P:=fun x=>sm (XR) x) (fun x hx m m0 m1=>ZfS x m m0 m1 (hb.2 x hx)) (fun k m=>rfl) m0 m1 hn).mono (fun h=>⟨hn,h⟩)
theorem ZlY (a:Zb) (left:Int) (h0:0≤left) (h1:left≤1048576) (hb:bnd (YL) a):Szd (ZaZ a left) left (sm (YL) a):=by
 unfold ZaZ
 refine Szd.then (Zj1 _ _ h0 h1 hb.1) h0 h1 (fun m0 a0 b0 s0=>?_)
 refine Szd.then (ZkZ _ _ a0 b0 hb.2.1) a0 b0 (fun m1 a1 b1 s1=>?_)
 refine Szd.last (Zmw _ _ a1 b1 hb.2.2.1) a1 (fun s2=>?_)
 exact ⟨s0,s1,s2,trivial⟩
theorem Zij (a:Zf) (left:Int) (h0:0≤left) (h1:left≤1048576) (hb:bnd (Ym) a):Szd (Zas a left) left (sm (Ym) a):=by
 unfold Zas
 refine Szd.len h0 h1 (by omega) hb.2.2.2.2.2.1 (fun hw a0 b0 s0=>?_)
 rw [hw]
 refine Szd.last (ZfS _ _ a0 b0 hb.2.2.2.2.2.2.1) a0 (fun s1=>?_)
 exact ⟨Vl _ (by rfl) _,Vl _ (by rfl) _,Vl _ (by rfl) _,Vl _ (by rfl) _,Vl _ (by rfl) _,s0,s1,trivial⟩
theorem ZlX (a:List (Zf)) (left:Int) (h0:0≤left) (h1:left≤1048576) (hb:bnd (.sl (Ym)) a):Szd (ZaS a left) left (sm (.sl (Ym)) a):=by
 unfold ZaS
 refine Szd.len h0 h1 (by omega) hb.1 (fun hw m0 m1 hn=>?_)
 rw [hw]
 exact (Szd.loop (f:=fun x m=>Zas x m) (P:=fun x=>sm (Ym) x) (fun x hx m m0 m1=>Zij x m m0 m1 (hb.2 x hx)) (fun k m=>rfl) m0 m1 hn).mono (fun h=>⟨hn,h⟩)
theorem Zn7 (a:YB) (hs:sm (ZcH) a):Zeg a=some a:=by
 unfold Zeg
 all_goals rfl
theorem ZmZ (a:List (YB)) (hs:sm (.sl (ZcH)) a):Zew a=some a:=by
 unfold Zew
 have h:=hs.1
 rw [Zi (by omega),Zi (by omega),Zi (by omega),Zi (by omega)]
 exact ZcD (f:=Zeg) (fun x hx=>Zn7 x (hs.2 x hx)) (fun k out=>rfl) h
theorem X0 (a:List (Int)) (hs:sm (.sl (.int .i64)) a):Xe a=some a:=by
 unfold Xe
 have h:=hs.1
 rw [Zi (by omega),Zi (by omega),Zi (by omega),Zi (by omega)]
 exact ZcD (f:=some) (fun x _=>rfl) (fun k out=>rfl) h
theorem ZmH (a:Zv) (hs:sm (YP) a):ZbL a=some a:=by
 unfold ZbL
 rw [X0 _ hs.1,Option.bind_some,X0 _ hs.2.1,Option.bind_some,X0 _ hs.2.2.1,Option.bind_some]
 all_goals rfl
theorem ZgZ (a:List (Zv)) (hs:sm (.sl (YP)) a):Za6 a=some a:=by
 unfold Za6
 have h:=hs.1
 rw [Zi (by omega),Zi (by omega),Zi (by omega),Zi (by omega)]
 exact ZcD (f:=ZbL) (fun x hx=>ZmH x (hs.2 x hx)) (fun k out=>rfl) h
theorem ZoJ (a:ZT) (hs:sm (ZeP) a):Zeb a=some a:=by
 unfold Zeb
 rw [ZgZ _ hs.2.2.2.2.1,Option.bind_some,ZgZ _ hs.2.2.2.2.2.1,Option.bind_some]
 all_goals rfl
theorem Znb (a:List (ZT)) (hs:sm (.sl (ZeP)) a):Zef a=some a:=by
 unfold Zef
 have h:=hs.1
 rw [Zi (by omega),Zi (by omega),Zi (by omega),Zi (by omega)]
 exact ZcD (f:=Zeb) (fun x hx=>ZoJ x (hs.2 x hx)) (fun k out=>rfl) h
theorem Zm9 (a:Zh) (hs:sm (XY) a):ZcP a=some a:=by
 unfold ZcP
 rw [ZmZ _ hs.2.2.1,Option.bind_some,Znb _ hs.2.2.2.1,Option.bind_some,X0 _ hs.2.2.2.2.1,Option.bind_some]
 all_goals rfl
theorem ZlW (a:List (Zh)) (hs:sm (.sl (XY)) a):Zdm a=some a:=by
 unfold Zdm
 have h:=hs.1
 rw [Zi (by omega),Zi (by omega),Zi (by omega),Zi (by omega)]
 exact ZcD (f:=ZcP) (fun x hx=>Zm9 x (hs.2 x hx)) (fun k out=>rfl) h
theorem Zj7 (a:Zk) (hs:sm (YE) a):Zbx a=some a:=by
 unfold Zbx
 rw [ZlW _ hs.1,Option.bind_some]
 all_goals rfl
theorem ZjO (a:Zd) (hs:sm (Z6) a):JK a=some a:=by
 unfold JK
 rw [X0 _ hs.2.2.1,Option.bind_some]
 all_goals rfl
theorem ZiK (a:List (Zd)) (hs:sm (.sl (Z6)) a):Zaa a=some a:=by
 unfold Zaa
 have h:=hs.1
 rw [Zi (by omega),Zi (by omega),Zi (by omega),Zi (by omega)]
 exact ZcD (f:=JK) (fun x hx=>ZjO x (hs.2 x hx)) (fun k out=>rfl) h
theorem Zkr (a:List (List UInt8)) (hs:sm (.sl (.str)) a):Zby a=some a:=by
 unfold Zby
 have h:=hs.1
 rw [Zi (by omega),Zi (by omega),Zi (by omega),Zi (by omega)]
 exact ZcD (f:=some) (fun x _=>rfl) (fun k out=>rfl) h
theorem Zna (a:ZL) (hs:sm (Vz) a):ZcY a=some a:=by
 unfold ZcY
 all_goals rfl
theorem ZlJ (a:List (ZL)) (hs:sm (.sl (Vz)) a):Zde a=some a:=by
 unfold Zde
 have h:=hs.1
 rw [Zi (by omega),Zi (by omega),Zi (by omega),Zi (by omega)]
 exact ZcD (f:=ZcY) (fun x hx=>Zna x (hs.2 x hx)) (fun k out=>rfl) h
theorem Zla (a:Za) (hs:sm (Yr) a):Zce a=some a:=by
 unfold Zce
 rw [ZiK _ hs.1,Option.bind_some,Zkr _ hs.2.1,Option.bind_some,ZlJ _ hs.2.2.1,Option.bind_some]
 all_goals rfl
theorem Zis (a:Zn) (hs:sm (XR) a):ZbP a=some a:=by
 unfold ZbP
 rw [X0 _ hs.1,Option.bind_some,X0 _ hs.2.1,Option.bind_some,X0 _ hs.2.2.1,Option.bind_some,X0 _ hs.2.2.2.1,Option.bind_some]
 all_goals rfl
theorem ZlG (a:List (Zn)) (hs:sm (.sl (XR)) a):Zc6 a=some a:=by
 unfold Zc6
 have h:=hs.1
 rw [Zi (by omega),Zi (by omega),Zi (by omega),Zi (by omega)]
 exact ZcD (f:=ZbP) (fun x hx=>Zis x (hs.2 x hx)) (fun k out=>rfl) h
theorem ZlN (a:Zb) (hs:sm (YL) a):Zdb a=some a:=by
 unfold Zdb
 rw [Zj7 _ hs.1,Option.bind_some,Zla _ hs.2.1,Option.bind_some,ZlG _ hs.2.2.1,Option.bind_some]
 all_goals rfl
theorem ZmQ (a:Zf) (hs:sm (Ym) a):ZcW a=some a:=by
 unfold ZcW
 rw [Zis _ hs.2.2.2.2.2.2.1,Option.bind_some]
 all_goals rfl
theorem Zmp (a:List (Zf)) (hs:sm (.sl (Ym)) a):Zdc a=some a:=by
 unfold Zdc
 have h:=hs.1
 rw [Zi (by omega),Zi (by omega),Zi (by omega),Zi (by omega)]
 exact ZcD (f:=ZcW) (fun x hx=>ZmQ x (hs.2 x hx)) (fun k out=>rfl) h
theorem XZ (a:List (Int)) (hs:sm (.sl (.int .i64)) a):Xg a a=some true:=by
 unfold Xg
 rw [if_pos rfl]
 exact ZqF (fun k=>rfl) hs.1
theorem Zif (a:Zn) (hs:sm (XR) a):ZbY a a=some true:=by
 unfold ZbY
 simp [XZ _ hs.1,XZ _ hs.2.1,XZ _ hs.2.2.1,XZ _ hs.2.2.2.1]
theorem ZmX (a:Zf) (hs:sm (Ym) a):ZcJ a a=some true:=by
 unfold ZcJ
 simp [Zif _ hs.2.2.2.2.2.2.1]
theorem ZhN (a:List (Zf)) (hs:sm (.sl (Ym)) a):ZbU a a=some true:=by
 unfold ZbU
 rw [if_pos rfl]
 exact Zhy (f:=ZcJ) (fun x hx=>ZmX x (hs.2 x hx)) (fun k=>rfl) hs.1
theorem Zoj (a:YB) (hs:sm (ZcH) a):Zet a a=some true:=by
 unfold Zet
 simp
theorem ZmU (a:List (YB)) (hs:sm (.sl (ZcH)) a):Zeu a a=some true:=by
 unfold Zeu
 rw [if_pos rfl]
 exact Zhy (f:=Zet) (fun x hx=>Zoj x (hs.2 x hx)) (fun k=>rfl) hs.1
theorem ZlA (a:Zv) (hs:sm (YP) a):ZbX a a=some true:=by
 unfold ZbX
 simp [XZ _ hs.1,XZ _ hs.2.1,XZ _ hs.2.2.1]
theorem Zg1 (a:List (Zv)) (hs:sm (.sl (YP)) a):Za4 a a=some true:=by
 unfold Za4
 rw [if_pos rfl]
 exact Zhy (f:=ZbX) (fun x hx=>ZlA x (hs.2 x hx)) (fun k=>rfl) hs.1
theorem ZoF (a:ZT) (hs:sm (ZeP) a):Zeo a a=some true:=by
 unfold Zeo
 simp [Zg1 _ hs.2.2.2.2.1,Zg1 _ hs.2.2.2.2.2.1]
theorem ZmS (a:List (ZT)) (hs:sm (.sl (ZeP)) a):Zeq a a=some true:=by
 unfold Zeq
 rw [if_pos rfl]
 exact Zhy (f:=Zeo) (fun x hx=>ZoF x (hs.2 x hx)) (fun k=>rfl) hs.1
theorem Zne (a:Zh) (hs:sm (XY) a):ZcN a a=some true:=by
 unfold ZcN
 simp [ZmU _ hs.2.2.1,ZmS _ hs.2.2.2.1,XZ _ hs.2.2.2.2.1]
theorem Zmm (a:List (Zh)) (hs:sm (.sl (XY)) a):Zdi a a=some true:=by
 unfold Zdi
 rw [if_pos rfl]
 exact Zhy (f:=ZcN) (fun x hx=>Zne x (hs.2 x hx)) (fun k=>rfl) hs.1
theorem Zkv (a:Zk) (hs:sm (YE) a):Zbm a a=some true:=by
 unfold Zbm
 simp [Zmm _ hs.1]
theorem Zjp (a:Zd) (hs:sm (Z6) a):JC a a=some true:=by
 unfold JC
 simp [XZ _ hs.2.2.1]
theorem ZiH (a:List (Zd)) (hs:sm (.sl (Z6)) a):J4 a a=some true:=by
 unfold J4
 rw [if_pos rfl]
 exact Zhy (f:=JC) (fun x hx=>Zjp x (hs.2 x hx)) (fun k=>rfl) hs.1
theorem Zkq (a:List (List UInt8)) (hs:sm (.sl (.str)) a):Zbl a a=some true:=by
 unfold Zbl
 rw [if_pos rfl]
 exact ZqF (fun k=>rfl) hs.1
theorem Znj (a:ZL) (hs:sm (Vz) a):ZcK a a=some true:=by
 unfold ZcK
 simp
theorem ZlB (a:List (ZL)) (hs:sm (.sl (Vz)) a):Zc8 a a=some true:=by
 unfold Zc8
 rw [if_pos rfl]
 exact Zhy (f:=ZcK) (fun x hx=>Znj x (hs.2 x hx)) (fun k=>rfl) hs.1
theorem Zlh (a:Za) (hs:sm (Yr) a):Zci a a=some true:=by
 unfold Zci
 simp [ZiH _ hs.1,Zkq _ hs.2.1,ZlB _ hs.2.2.1]
theorem ZlC (a:List (Zn)) (hs:sm (.sl (XR)) a):Zc2 a a=some true:=by
 unfold Zc2
 rw [if_pos rfl]
 exact Zhy (f:=ZbY) (fun x hx=>Zif x (hs.2 x hx)) (fun k=>rfl) hs.1
theorem Zmg (a:Zb) (hs:sm (YL) a):Zdk a a=some true:=by
 unfold Zdk
 simp [Zkv _ hs.1,Zlh _ hs.2.1,ZlC _ hs.2.2.1]
end Go.Proofs.YtehkanadahncgaaGreatDoor
/-
  Plain laws: all lengths together; marks. Printed by program (totgen.py).
-/
namespace Go.Proofs.YtehkanadahncgaaGreatDoor
open Go Go.Sx
set_option linter.unusedVariables false
set_option linter.unusedSimpArgs false
theorem Zts {α:Type} {L:List α} {j:Nat} {z:α} {A A' B B':Int} (hA:A=A') (hB:B=B'):∃ y,(some (.inl (A,B,List.set L j z,())):Option ((Int×Int×List α×Unit) ⊕ (Int×List α)))=some (.inl (A',B',List.set L j y,())):=⟨z,by rw [hA,hB]⟩
theorem ZcO (k:Int) (h0:0≤k) (h1:k≤4611686018427387904):∃ s,Xf k=some s:=by
 unfold Xf
 split
 ·exact ⟨_,rfl⟩
 ·obtain ⟨r,h,_⟩:=Zrr (step:=fun v=>JH v.1 v.2.1) (fun v:Int×List UInt8×Unit=>0≤v.1∧v.1+(v.2.1.length:Int)≤4611686018427387904) (fun v=>v.1.toNat) (fun _=>True) (v:=(k,([]:List UInt8),())) ⟨h0,by simpa using h1⟩
   (by
    rintro ⟨m,s,⟨⟩⟩ ⟨a,b⟩
    simp only at a b
    simp only [JH]
    by_cases hm:0<m
    ·have e1:Int.tdiv m 10=m / 10:=Int.tdiv_eq_ediv_of_nonneg a
     rw [if_pos hm,e1,Vy (n:=m / 10) (by omega) (by omega),Zi (by simp only [bytesOf,List.length_map,List.length_singleton];omega)]
     refine .inl ⟨_,rfl,⟨by simp only;omega,?_⟩,by simp only;omega⟩
     simp only [List.length_append,bytesOf,List.length_map,List.length_singleton]
     omega
    ·rw [if_neg hm,Zi (by simp only [List.length_singleton];omega)]
     exact .inr ⟨_,rfl,trivial⟩)
  exact ⟨r,h⟩
theorem ZmV (a:YB) (left:Int) (h0:0≤left) (h1:left≤1048576) (hb:bnd (ZcH) a):Szt (Zbp a left) left (tot (ZcH) a):=by
 unfold Zbp
 exact (Szt.len h0 h1 (by omega) hb.1 (fun hw0 a0 b0=>by rw [hw0];exact Szt.ret)).mono (by simp only [ZdO,Zfc,ZdY,ZdA,ZeT];omega)
theorem ZlK (a:List (YB)) (left:Int) (h0:0≤left) (h1:left≤1048576) (hb:bnd (.sl (ZcH)) a):Szt (ZbS a left) left (tot (.sl (ZcH)) a):=by
 unfold ZbS
 refine (Szt.len h0 h1 (by omega) hb.1 (fun hw m0 m1=>(?_:Szt _ _ ((a.map (tot (ZcH))).sum)))).mono (by rw [Zil];omega)
 rw [hw]
 exact Szt.loop (f:=fun x m=>Zbp x m) (P:=fun x=>sm (ZcH) x) (T:=tot (ZcH)) (fun x hx m m0 m1=>Zi5 x m m0 m1 (hb.2 x hx)) (fun x hx m m0 m1=>ZmV x m m0 m1 (hb.2 x hx)) (fun k m=>rfl) m0 m1 (by omega)
theorem Xy (a:List (Int)) (left:Int) (h0:0≤left) (h1:left≤1048576) (hb:bnd (.sl (.int .i64)) a):Szt (YX a left) left (tot (.sl (.int .i64)) a):=by
 unfold YX
 refine (Szt.len h0 h1 (by omega) hb.1 (fun hw m0 m1=>(?_:Szt _ _ ((a.map (tot (.int .i64))).sum)))).mono (by rw [Zil];omega)
 rw [hw]
 exact Szt.ret.mono (by rw [Zr9 (by rfl)];omega)
theorem Zlb (a:Zv) (left:Int) (h0:0≤left) (h1:left≤1048576) (hb:bnd (YP) a):Szt (Jc a left) left (tot (YP) a):=by
 unfold Jc
 exact (Szt.then (Xy a.1 _ h0 h1 hb.1) h0 h1 (fun m0 a0 b0=>Szt.then (Xy a.2.1 _ a0 b0 hb.2.1) a0 b0 (fun m1 a1 b1=>Szt.last (Xy a.2.2.1 _ a1 b1 hb.2.2.1)))).mono (by simp only [ZdO,Zfc,ZdY,ZdA,ZeT];omega)
theorem Zf2 (a:List (Zv)) (left:Int) (h0:0≤left) (h1:left≤1048576) (hb:bnd (.sl (YP)) a):Szt (V8 a left) left (tot (.sl (YP)) a):=by
 unfold V8
 refine (Szt.len h0 h1 (by omega) hb.1 (fun hw m0 m1=>(?_:Szt _ _ ((a.map (tot (YP))).sum)))).mono (by rw [Zil];omega)
 rw [hw]
 exact Szt.loop (f:=fun x m=>Jc x m) (P:=fun x=>sm (YP) x) (T:=tot (YP)) (fun x hx m m0 m1=>ZhP x m m0 m1 (hb.2 x hx)) (fun x hx m m0 m1=>Zlb x m m0 m1 (hb.2 x hx)) (fun k m=>rfl) m0 m1 (by omega)
theorem Znl (a:ZT) (left:Int) (h0:0≤left) (h1:left≤1048576) (hb:bnd (ZeP) a):Szt (Zbr a left) left (tot (ZeP) a):=by
 unfold Zbr
 exact (Szt.then (Zf2 a.2.2.2.2.1 _ h0 h1 hb.2.2.2.2.1) h0 h1 (fun m0 a0 b0=>Szt.last (Zf2 a.2.2.2.2.2.1 _ a0 b0 hb.2.2.2.2.2.1))).mono (by simp only [ZdO,Zfc,ZdY,ZdA,ZeT];omega)
theorem ZmK (a:List (ZT)) (left:Int) (h0:0≤left) (h1:left≤1048576) (hb:bnd (.sl (ZeP)) a):Szt (Zb0 a left) left (tot (.sl (ZeP)) a):=by
 unfold Zb0
 refine (Szt.len h0 h1 (by omega) hb.1 (fun hw m0 m1=>(?_:Szt _ _ ((a.map (tot (ZeP))).sum)))).mono (by rw [Zil];omega)
 rw [hw]
 exact Szt.loop (f:=fun x m=>Zbr x m) (P:=fun x=>sm (ZeP) x) (T:=tot (ZeP)) (fun x hx m m0 m1=>Zjy x m m0 m1 (hb.2 x hx)) (fun x hx m m0 m1=>Znl x m m0 m1 (hb.2 x hx)) (fun k m=>rfl) m0 m1 (by omega)
theorem ZmM (a:Zh) (left:Int) (h0:0≤left) (h1:left≤1048576) (hb:bnd (XY) a):Szt (Zaw a left) left (tot (XY) a):=by
 unfold Zaw
 exact (Szt.len h0 h1 (by omega) hb.1 (fun hw0 a0 b0=>by rw [hw0];exact Szt.then (ZlK a.2.2.1 _ a0 b0 hb.2.2.1) a0 b0 (fun m1 a1 b1=>Szt.then (ZmK a.2.2.2.1 _ a1 b1 hb.2.2.2.1) a1 b1 (fun m2 a2 b2=>Szt.last (Xy a.2.2.2.2.1 _ a2 b2 hb.2.2.2.2.1))))).mono (by simp only [ZdO,Zfc,ZdY,ZdA,ZeT];omega)
theorem Zlj (a:List (Zh)) (left:Int) (h0:0≤left) (h1:left≤1048576) (hb:bnd (.sl (XY)) a):Szt (ZaU a left) left (tot (.sl (XY)) a):=by
 unfold ZaU
 refine (Szt.len h0 h1 (by omega) hb.1 (fun hw m0 m1=>(?_:Szt _ _ ((a.map (tot (XY))).sum)))).mono (by rw [Zil];omega)
 rw [hw]
 exact Szt.loop (f:=fun x m=>Zaw x m) (P:=fun x=>sm (XY) x) (T:=tot (XY)) (fun x hx m m0 m1=>ZiC x m m0 m1 (hb.2 x hx)) (fun x hx m m0 m1=>ZmM x m m0 m1 (hb.2 x hx)) (fun k m=>rfl) m0 m1 (by omega)
theorem ZjN (a:Zk) (left:Int) (h0:0≤left) (h1:left≤1048576) (hb:bnd (YE) a):Szt (Jf a left) left (tot (YE) a):=by
 unfold Jf
 exact (Szt.last (Zlj a.1 _ h0 h1 hb.1)).mono (by simp only [ZdO,Zfc,ZdY,ZdA,ZeT];omega)
theorem ZiX (a:Zd) (left:Int) (h0:0≤left) (h1:left≤1048576) (hb:bnd (Z6) a):Szt (XU a left) left (tot (Z6) a):=by
 unfold XU
 exact (Szt.len h0 h1 (by omega) hb.1 (fun hw0 a0 b0=>by rw [hw0];exact Szt.last (Xy a.2.2.1 _ a0 b0 hb.2.2.1))).mono (by simp only [ZdO,Zfc,ZdY,ZdA,ZeT];omega)
theorem Zh4 (a:List (Zd)) (left:Int) (h0:0≤left) (h1:left≤1048576) (hb:bnd (.sl (Z6)) a):Szt (QU a left) left (tot (.sl (Z6)) a):=by
 unfold QU
 refine (Szt.len h0 h1 (by omega) hb.1 (fun hw m0 m1=>(?_:Szt _ _ ((a.map (tot (Z6))).sum)))).mono (by rw [Zil];omega)
 rw [hw]
 exact Szt.loop (f:=fun x m=>XU x m) (P:=fun x=>sm (Z6) x) (T:=tot (Z6)) (fun x hx m m0 m1=>ZfL x m m0 m1 (hb.2 x hx)) (fun x hx m m0 m1=>ZiX x m m0 m1 (hb.2 x hx)) (fun k m=>rfl) m0 m1 (by omega)
theorem ZjD (a:List (List UInt8)) (left:Int) (h0:0≤left) (h1:left≤1048576) (hb:bnd (.sl (.str)) a):Szt (V9 a left) left (tot (.sl (.str)) a):=by
 unfold V9
 refine (Szt.len h0 h1 (by omega) hb.1 (fun hw m0 m1=>(?_:Szt _ _ ((a.map (tot (.str))).sum)))).mono (by rw [Zil];omega)
 rw [hw]
 exact Szt.loop (l:=a) (α:=List UInt8) (f:=fun (x:List UInt8) (m:Int)=>if IntKind.i64.wrap (m-(x.length:Int))<0 then some (-1) else some (IntKind.i64.wrap (m-(x.length:Int)))) (P:=fun (x:List UInt8)=>sm .str x) (T:=fun (x:List UInt8)=>tot .str x) (fun x hx m m0 m1=>Szd.str x m m0 m1 (hb.2 x hx)) (fun x hx m m0 m1=>Szt.str x m m0 m1 (hb.2 x hx)) (fun k m=>by
  show XG a m (k:Int)=_
  unfold XG
  congr 1;congr 1;funext x;split<;>simp_all) m0 m1 (by omega)
theorem ZlU (a:ZL) (left:Int) (h0:0≤left) (h1:left≤1048576) (hb:bnd (Vz) a):Szt (Zav a left) left (tot (Vz) a):=by
 unfold Zav
 exact (Szt.len h0 h1 (by omega) hb.1 (fun hw0 a0 b0=>by rw [hw0];exact Szt.ret)).mono (by simp only [ZdO,Zfc,ZdY,ZdA,ZeT];omega)
theorem Zlc (a:List (ZL)) (left:Int) (h0:0≤left) (h1:left≤1048576) (hb:bnd (.sl (Vz)) a):Szt (ZaY a left) left (tot (.sl (Vz)) a):=by
 unfold ZaY
 refine (Szt.len h0 h1 (by omega) hb.1 (fun hw m0 m1=>(?_:Szt _ _ ((a.map (tot (Vz))).sum)))).mono (by rw [Zil];omega)
 rw [hw]
 exact Szt.loop (f:=fun x m=>Zav x m) (P:=fun x=>sm (Vz) x) (T:=tot (Vz)) (fun x hx m m0 m1=>Ziv x m m0 m1 (hb.2 x hx)) (fun x hx m m0 m1=>ZlU x m m0 m1 (hb.2 x hx)) (fun k m=>rfl) m0 m1 (by omega)
theorem ZkB (a:Za) (left:Int) (h0:0≤left) (h1:left≤1048576) (hb:bnd (Yr) a):Szt (Zak a left) left (tot (Yr) a):=by
 unfold Zak
 exact (Szt.then (Zh4 a.1 _ h0 h1 hb.1) h0 h1 (fun m0 a0 b0=>Szt.then (ZjD a.2.1 _ a0 b0 hb.2.1) a0 b0 (fun m1 a1 b1=>Szt.last (Zlc a.2.2.1 _ a1 b1 hb.2.2.1)))).mono (by simp only [ZdO,Zfc,ZdY,ZdA,ZeT];omega)
theorem ZhI (a:Zn) (left:Int) (h0:0≤left) (h1:left≤1048576) (hb:bnd (XR) a):Szt (JO a left) left (tot (XR) a):=by
 unfold JO
 exact (Szt.then (Xy a.1 _ h0 h1 hb.1) h0 h1 (fun m0 a0 b0=>Szt.then (Xy a.2.1 _ a0 b0 hb.2.1) a0 b0 (fun m1 a1 b1=>Szt.then (Xy a.2.2.1 _ a1 b1 hb.2.2.1) a1 b1 (fun m2 a2 b2=>Szt.last (Xy a.2.2.2.1 _ a2 b2 hb.2.2.2.1))))).mono (by simp only [ZdO,Zfc,ZdY,ZdA,ZeT];omega)
theorem Zlf (a:List (Zn)) (left:Int) (h0:0≤left) (h1:left≤1048576) (hb:bnd (.sl (XR)) a):Szt (ZaW a left) left (tot (.sl (XR)) a):=by
 unfold ZaW
 refine (Szt.len h0 h1 (by omega) hb.1 (fun hw m0 m1=>(?_:Szt _ _ ((a.map (tot (XR))).sum)))).mono (by rw [Zil];omega)
 rw [hw]
 exact Szt.loop (f:=fun x m=>JO x m) (P:=fun x=>sm (XR) x) (T:=tot (XR)) (fun x hx m m0 m1=>ZfS x m m0 m1 (hb.2 x hx)) (fun x hx m m0 m1=>ZhI x m m0 m1 (hb.2 x hx)) (fun k m=>rfl) m0 m1 (by omega)
theorem Zk2 (a:Zb) (left:Int) (h0:0≤left) (h1:left≤1048576) (hb:bnd (YL) a):Szt (ZaZ a left) left (tot (YL) a):=by
 unfold ZaZ
 exact (Szt.then (ZjN a.1 _ h0 h1 hb.1) h0 h1 (fun m0 a0 b0=>Szt.then (ZkB a.2.1 _ a0 b0 hb.2.1) a0 b0 (fun m1 a1 b1=>Szt.last (Zlf a.2.2.1 _ a1 b1 hb.2.2.1)))).mono (by simp only [ZdO,Zfc,ZdY,ZdA,ZeT];omega)
theorem ZmI (a:Zf) (left:Int) (h0:0≤left) (h1:left≤1048576) (hb:bnd (Ym) a):Szt (Zas a left) left (tot (Ym) a):=by
 unfold Zas
 exact (Szt.len h0 h1 (by omega) hb.2.2.2.2.2.1 (fun hw0 a0 b0=>by rw [hw0];exact Szt.last (ZhI a.2.2.2.2.2.2.1 _ a0 b0 hb.2.2.2.2.2.2.1))).mono (by simp only [ZdO,Zfc,ZdY,ZdA,ZeT];omega)
theorem Zld (a:List (Zf)) (left:Int) (h0:0≤left) (h1:left≤1048576) (hb:bnd (.sl (Ym)) a):Szt (ZaS a left) left (tot (.sl (Ym)) a):=by
 unfold ZaS
 refine (Szt.len h0 h1 (by omega) hb.1 (fun hw m0 m1=>(?_:Szt _ _ ((a.map (tot (Ym))).sum)))).mono (by rw [Zil];omega)
 rw [hw]
 exact Szt.loop (f:=fun x m=>Zas x m) (P:=fun x=>sm (Ym) x) (T:=tot (Ym)) (fun x hx m m0 m1=>Zij x m m0 m1 (hb.2 x hx)) (fun x hx m m0 m1=>ZmI x m m0 m1 (hb.2 x hx)) (fun k m=>rfl) m0 m1 (by omega)
theorem Zk0 (a:List (YB)) (k:Int) (hs:sm (.sl (ZcH)) a) (h0:0≤k) (h1:k+(cnt (.sl (ZcH)) a:Int)≤4611686018427387904):Mkd (Zcs a k) k (cnt (.sl (ZcH)) a):=by
 unfold Zcs
 have hl:a.length≤1048576:=by have:=hs.1;omega
 refine Mkd.loop (l:=a) (c:=cnt (ZcH)) (fun j m x L hj hj' hL hx hxm hm0 hm1 hj2=>?_) (fun m L hL=>?_) hl h0 h1
 ·have hsx:=hs.2 x hxm
  have hc:((cnt (ZcH) x:Nat):Int)=0+1+1+1+1:=by simp only [Zck,Zdp,Zco,Zb7,Zes];omega
  obtain ⟨s0,e0⟩:=ZcO (m) (by omega) (by omega)
  have hx2:atI L (j:Int)=some x:=by rw [Zu];exact hx
  have hb:∀ {β:Type} (y:YB) (F:YB→Option β),(atI (List.set L j y) (j:Int)).bind F=F y:=fun y F=>by rw [Zfj hj];rfl
  simp only [Jv,if_pos hj',Int.toNat_natCast,hx2,↓hb,Option.bind_some,List.set_set,e0]
  refine Zts ?_ ?_
  ·have hc:=hc;simp (disch:=omega) only [Vy];omega
  ·simp (disch:=omega) only [Vy];omega
 ·simp only [Jv,Int.lt_irrefl,if_false]
theorem YF (a:List (Int)) (k:Int) (hs:sm (.sl (.int .i64)) a) (h0:0≤k) (h1:k+(cnt (.sl (.int .i64)) a:Int)≤4611686018427387904):Mkd (Yk a k) k (cnt (.sl (.int .i64)) a):=by
 unfold Yk
 have hl:a.length≤1048576:=by have:=hs.1;omega
 refine Mkd.loop (l:=a) (c:=cnt (.int .i64)) (fun j m x L hj hj' hL hx hxm hm0 hm1 hj2=>?_) (fun m L hL=>?_) hl h0 h1
 ·have hsx:=hs.2 x hxm
  have hc:((cnt (.int .i64) x:Nat):Int)=0+1:=by rfl
  simp (disch:=omega) only [Xo,if_pos hj',Zu,hx,Option.bind_some,Vy,Int.toNat_natCast,Zfj,List.length_set,List.set_set,List.getElem?_set_self]
  refine ⟨_,congrArg some (congrArg Sum.inl (Prod.ext ?_ (Prod.ext ?_ (Prod.ext rfl rfl))))⟩
  ·show _=m+_;rw [hc];omega
  ·simp only;omega
 ·simp only [Xo,Int.lt_irrefl,if_false]
theorem ZfG (a:List (Zv)) (k:Int) (hs:sm (.sl (YP)) a) (h0:0≤k) (h1:k+(cnt (.sl (YP)) a:Int)≤4611686018427387904):Mkd (Jw a k) k (cnt (.sl (YP)) a):=by
 unfold Jw
 have hl:a.length≤1048576:=by have:=hs.1;omega
 refine Mkd.loop (l:=a) (c:=cnt (YP)) (fun j m x L hj hj' hL hx hxm hm0 hm1 hj2=>?_) (fun m L hL=>?_) hl h0 h1
 ·have hsx:=hs.2 x hxm
  have hc:((cnt (YP) x:Nat):Int)=0+((cnt (.sl (.int .i64)) x.1:Nat):Int)+((cnt (.sl (.int .i64)) x.2.1:Nat):Int)+((cnt (.sl (.int .i64)) x.2.2.1:Nat):Int):=by simp only [Zck,Zdp,Zco,Zb7,Zes];omega
  obtain ⟨s0,e0⟩:=YF x.1 (m) hsx.1 (by omega) (by omega)
  obtain ⟨s1,e1⟩:=YF x.2.1 (m+((cnt (.sl (.int .i64)) x.1:Nat):Int)) hsx.2.1 (by omega) (by omega)
  obtain ⟨s2,e2⟩:=YF x.2.2.1 (m+((cnt (.sl (.int .i64)) x.1:Nat):Int)+((cnt (.sl (.int .i64)) x.2.1:Nat):Int)) hsx.2.2.1 (by omega) (by omega)
  simp (disch:=omega) only [Vw,if_pos hj',Zu,hx,Option.bind_some,Vy,Int.toNat_natCast,Zfj,List.length_set,List.set_set,List.getElem?_set_self,e0,e1,e2]
  refine ⟨_,congrArg some (congrArg Sum.inl (Prod.ext ?_ (Prod.ext ?_ (Prod.ext rfl rfl))))⟩
  ·show _=m+_;rw [hc];omega
  ·simp only;omega
 ·simp only [Vw,Int.lt_irrefl,if_false]
theorem Zk5 (a:List (ZT)) (k:Int) (hs:sm (.sl (ZeP)) a) (h0:0≤k) (h1:k+(cnt (.sl (ZeP)) a:Int)≤4611686018427387904):Mkd (Zb8 a k) k (cnt (.sl (ZeP)) a):=by
 unfold Zb8
 have hl:a.length≤1048576:=by have:=hs.1;omega
 refine Mkd.loop (l:=a) (c:=cnt (ZeP)) (fun j m x L hj hj' hL hx hxm hm0 hm1 hj2=>?_) (fun m L hL=>?_) hl h0 h1
 ·have hsx:=hs.2 x hxm
  have hc:((cnt (ZeP) x:Nat):Int)=0+1+1+1+1+((cnt (.sl (YP)) x.2.2.2.2.1:Nat):Int)+((cnt (.sl (YP)) x.2.2.2.2.2.1:Nat):Int):=by simp only [Zck,Zdp,Zco,Zb7,Zes];omega
  obtain ⟨s0,e0⟩:=ZfG x.2.2.2.2.1 (m+1+1+1+1) hsx.2.2.2.2.1 (by omega) (by omega)
  obtain ⟨s1,e1⟩:=ZfG x.2.2.2.2.2.1 (m+1+1+1+1+((cnt (.sl (YP)) x.2.2.2.2.1:Nat):Int)) hsx.2.2.2.2.2.1 (by omega) (by omega)
  simp (disch:=omega) only [JN,if_pos hj',Zu,hx,Option.bind_some,Vy,Int.toNat_natCast,Zfj,List.length_set,List.set_set,List.getElem?_set_self,e0,e1]
  refine ⟨_,congrArg some (congrArg Sum.inl (Prod.ext ?_ (Prod.ext ?_ (Prod.ext rfl rfl))))⟩
  ·show _=m+_;rw [hc];omega
  ·simp only;omega
 ·simp only [JN,Int.lt_irrefl,if_false]
theorem Zko (a:List (Zh)) (k:Int) (hs:sm (.sl (XY)) a) (h0:0≤k) (h1:k+(cnt (.sl (XY)) a:Int)≤4611686018427387904):Mkd (Zbq a k) k (cnt (.sl (XY)) a):=by
 unfold Zbq
 have hl:a.length≤1048576:=by have:=hs.1;omega
 refine Mkd.loop (l:=a) (c:=cnt (XY)) (fun j m x L hj hj' hL hx hxm hm0 hm1 hj2=>?_) (fun m L hL=>?_) hl h0 h1
 ·have hsx:=hs.2 x hxm
  have hc:((cnt (XY) x:Nat):Int)=0+1+1+((cnt (.sl (ZcH)) x.2.2.1:Nat):Int)+((cnt (.sl (ZeP)) x.2.2.2.1:Nat):Int)+((cnt (.sl (.int .i64)) x.2.2.2.2.1:Nat):Int)+1+1:=by simp only [Zck,Zdp,Zco,Zb7,Zes];omega
  obtain ⟨s0,e0⟩:=ZcO (m) (by omega) (by omega)
  obtain ⟨s1,e1⟩:=Zk0 x.2.2.1 (m+1+1) hsx.2.2.1 (by omega) (by omega)
  obtain ⟨s2,e2⟩:=Zk5 x.2.2.2.1 (m+1+1+((cnt (.sl (ZcH)) x.2.2.1:Nat):Int)) hsx.2.2.2.1 (by omega) (by omega)
  obtain ⟨s3,e3⟩:=YF x.2.2.2.2.1 (m+1+1+((cnt (.sl (ZcH)) x.2.2.1:Nat):Int)+((cnt (.sl (ZeP)) x.2.2.2.1:Nat):Int)) hsx.2.2.2.2.1 (by omega) (by omega)
  simp (disch:=omega) only [VP,if_pos hj',Zu,hx,Option.bind_some,Vy,Int.toNat_natCast,Zfj,List.length_set,List.set_set,List.getElem?_set_self,e0,e1,e2,e3]
  refine ⟨_,congrArg some (congrArg Sum.inl (Prod.ext ?_ (Prod.ext ?_ (Prod.ext rfl rfl))))⟩
  ·show _=m+_;rw [hc];omega
  ·simp only;omega
 ·simp only [VP,Int.lt_irrefl,if_false]
theorem ZiD (a:Zk) (k:Int) (hs:sm (YE) a) (h0:0≤k) (h1:k+((cnt (YE) a:Nat):Int)≤4611686018427387904):Mkd (J8 a k) k (cnt (YE) a):=by
 unfold J8
 have hc:((cnt (YE) a:Nat):Int)=0+(((cnt (.sl (XY)) a.1):Nat):Int):=by simp only [Zck,Zdp,Zco,Zb7,Zes];omega
 obtain ⟨s0,e0⟩:=Zko a.1 (k) hs.1 (by omega) (by omega)
 simp only [Option.bind_some,e0]
 exact ⟨_,congrArg some (Prod.ext (by rfl) rfl)⟩
theorem Zhn (a:List (Zd)) (k:Int) (hs:sm (.sl (Z6)) a) (h0:0≤k) (h1:k+(cnt (.sl (Z6)) a:Int)≤4611686018427387904):Mkd (VI a k) k (cnt (.sl (Z6)) a):=by
 unfold VI
 have hl:a.length≤1048576:=by have:=hs.1;omega
 refine Mkd.loop (l:=a) (c:=cnt (Z6)) (fun j m x L hj hj' hL hx hxm hm0 hm1 hj2=>?_) (fun m L hL=>?_) hl h0 h1
 ·have hsx:=hs.2 x hxm
  have hc:((cnt (Z6) x:Nat):Int)=0+1+1+((cnt (.sl (.int .i64)) x.2.2.1:Nat):Int):=by simp only [Zck,Zdp,Zco,Zb7,Zes];omega
  obtain ⟨s0,e0⟩:=ZcO (m) (by omega) (by omega)
  obtain ⟨s1,e1⟩:=YF x.2.2.1 (m+1+1) hsx.2.2.1 (by omega) (by omega)
  simp (disch:=omega) only [Qm,if_pos hj',Zu,hx,Option.bind_some,Vy,Int.toNat_natCast,Zfj,List.length_set,List.set_set,List.getElem?_set_self,e0,e1]
  refine ⟨_,congrArg some (congrArg Sum.inl (Prod.ext ?_ (Prod.ext ?_ (Prod.ext rfl rfl))))⟩
  ·show _=m+_;rw [hc];omega
  ·simp only;omega
 ·simp only [Qm,Int.lt_irrefl,if_false]
theorem ZiW (a:List (List UInt8)) (k:Int) (hs:sm (.sl (.str)) a) (h0:0≤k) (h1:k+(cnt (.sl (.str)) a:Int)≤4611686018427387904):Mkd (Zab a k) k (cnt (.sl (.str)) a):=by
 unfold Zab
 have hl:a.length≤1048576:=by have:=hs.1;omega
 refine Mkd.loop (l:=a) (c:=cnt (.str)) (fun j m x L hj hj' hL hx hxm hm0 hm1 hj2=>?_) (fun m L hL=>?_) hl h0 h1
 ·have hsx:=hs.2 x hxm
  have hc:((cnt (.str) x:Nat):Int)=0+1:=by rfl
  obtain ⟨s0,e0⟩:=ZcO (m) (by omega) (by omega)
  simp (disch:=omega) only [Q0,if_pos hj',Zu,hx,Option.bind_some,Vy,Int.toNat_natCast,Zfj,List.length_set,List.set_set,List.getElem?_set_self,e0]
  refine ⟨_,congrArg some (congrArg Sum.inl (Prod.ext ?_ (Prod.ext ?_ (Prod.ext rfl rfl))))⟩
  ·show _=m+_;rw [hc];omega
  ·simp only;omega
 ·simp only [Q0,Int.lt_irrefl,if_false]
theorem ZjZ (a:List (ZL)) (k:Int) (hs:sm (.sl (Vz)) a) (h0:0≤k) (h1:k+(cnt (.sl (Vz)) a:Int)≤4611686018427387904):Mkd (Zbs a k) k (cnt (.sl (Vz)) a):=by
 unfold Zbs
 have hl:a.length≤1048576:=by have:=hs.1;omega
 refine Mkd.loop (l:=a) (c:=cnt (Vz)) (fun j m x L hj hj' hL hx hxm hm0 hm1 hj2=>?_) (fun m L hL=>?_) hl h0 h1
 ·have hsx:=hs.2 x hxm
  have hc:((cnt (Vz) x:Nat):Int)=0+1+1+1:=by simp only [Zck,Zdp,Zco,Zb7,Zes];omega
  obtain ⟨s0,e0⟩:=ZcO (m) (by omega) (by omega)
  simp (disch:=omega) only [VW,if_pos hj',Zu,hx,Option.bind_some,Vy,Int.toNat_natCast,Zfj,List.length_set,List.set_set,List.getElem?_set_self,e0]
  refine ⟨_,congrArg some (congrArg Sum.inl (Prod.ext ?_ (Prod.ext ?_ (Prod.ext rfl rfl))))⟩
  ·show _=m+_;rw [hc];omega
  ·simp only;omega
 ·simp only [VW,Int.lt_irrefl,if_false]
theorem ZjM (a:Za) (k:Int) (hs:sm (Yr) a) (h0:0≤k) (h1:k+((cnt (Yr) a:Nat):Int)≤4611686018427387904):Mkd (ZaO a k) k (cnt (Yr) a):=by
 unfold ZaO
 have hc:((cnt (Yr) a:Nat):Int)=0+(((cnt (.sl (Z6)) a.1):Nat):Int)+(((cnt (.sl (.str)) a.2.1):Nat):Int)+(((cnt (.sl (Vz)) a.2.2.1):Nat):Int):=by simp only [Zck,Zdp,Zco,Zb7,Zes];omega
 obtain ⟨s0,e0⟩:=Zhn a.1 (k) hs.1 (by omega) (by omega)
 obtain ⟨s1,e1⟩:=ZiW a.2.1 (k+(((cnt (.sl (Z6)) a.1):Nat):Int)) hs.2.1 (by omega) (by omega)
 obtain ⟨s2,e2⟩:=ZjZ a.2.2.1 (k+(((cnt (.sl (Z6)) a.1):Nat):Int)+(((cnt (.sl (.str)) a.2.1):Nat):Int)) hs.2.2.1 (by omega) (by omega)
 simp only [Option.bind_some,e0,e1,e2]
 exact ⟨_,congrArg some (Prod.ext (by show _=k+_;rw [hc];omega) rfl)⟩
theorem ZkF (a:List (Zn)) (k:Int) (hs:sm (.sl (XR)) a) (h0:0≤k) (h1:k+(cnt (.sl (XR)) a:Int)≤4611686018427387904):Mkd (Zbv a k) k (cnt (.sl (XR)) a):=by
 unfold Zbv
 have hl:a.length≤1048576:=by have:=hs.1;omega
 refine Mkd.loop (l:=a) (c:=cnt (XR)) (fun j m x L hj hj' hL hx hxm hm0 hm1 hj2=>?_) (fun m L hL=>?_) hl h0 h1
 ·have hsx:=hs.2 x hxm
  have hc:((cnt (XR) x:Nat):Int)=0+((cnt (.sl (.int .i64)) x.1:Nat):Int)+((cnt (.sl (.int .i64)) x.2.1:Nat):Int)+((cnt (.sl (.int .i64)) x.2.2.1:Nat):Int)+((cnt (.sl (.int .i64)) x.2.2.2.1:Nat):Int):=by simp only [Zck,Zdp,Zco,Zb7,Zes];omega
  obtain ⟨s0,e0⟩:=YF x.1 (m) hsx.1 (by omega) (by omega)
  obtain ⟨s1,e1⟩:=YF x.2.1 (m+((cnt (.sl (.int .i64)) x.1:Nat):Int)) hsx.2.1 (by omega) (by omega)
  obtain ⟨s2,e2⟩:=YF x.2.2.1 (m+((cnt (.sl (.int .i64)) x.1:Nat):Int)+((cnt (.sl (.int .i64)) x.2.1:Nat):Int)) hsx.2.2.1 (by omega) (by omega)
  obtain ⟨s3,e3⟩:=YF x.2.2.2.1 (m+((cnt (.sl (.int .i64)) x.1:Nat):Int)+((cnt (.sl (.int .i64)) x.2.1:Nat):Int)+((cnt (.sl (.int .i64)) x.2.2.1:Nat):Int)) hsx.2.2.2.1 (by omega) (by omega)
  simp (disch:=omega) only [V5,if_pos hj',Zu,hx,Option.bind_some,Vy,Int.toNat_natCast,Zfj,List.length_set,List.set_set,List.getElem?_set_self,e0,e1,e2,e3]
  refine ⟨_,congrArg some (congrArg Sum.inl (Prod.ext ?_ (Prod.ext ?_ (Prod.ext rfl rfl))))⟩
  ·show _=m+_;rw [hc];omega
  ·simp only;omega
 ·simp only [V5,Int.lt_irrefl,if_false]
theorem Zkl (a:Zb) (k:Int) (hs:sm (YL) a) (h0:0≤k) (h1:k+((cnt (YL) a:Nat):Int)≤4611686018427387904):Mkd (Zbt a k) k (cnt (YL) a):=by
 unfold Zbt
 have hc:((cnt (YL) a:Nat):Int)=0+(((cnt (YE) a.1):Nat):Int)+(((cnt (Yr) a.2.1):Nat):Int)+(((cnt (.sl (XR)) a.2.2.1):Nat):Int):=by simp only [Zck,Zdp,Zco,Zb7,Zes];omega
 obtain ⟨s0,e0⟩:=ZiD a.1 (k) hs.1 (by omega) (by omega)
 obtain ⟨s1,e1⟩:=ZjM a.2.1 (k+(((cnt (YE) a.1):Nat):Int)) hs.2.1 (by omega) (by omega)
 obtain ⟨s2,e2⟩:=ZkF a.2.2.1 (k+(((cnt (YE) a.1):Nat):Int)+(((cnt (Yr) a.2.1):Nat):Int)) hs.2.2.1 (by omega) (by omega)
 simp only [Option.bind_some,e0,e1,e2]
 exact ⟨_,congrArg some (Prod.ext (by show _=k+_;rw [hc];omega) rfl)⟩
theorem Zkf (a:List (Zf)) (k:Int) (hs:sm (.sl (Ym)) a) (h0:0≤k) (h1:k+(cnt (.sl (Ym)) a:Int)≤4611686018427387904):Mkd (Vm a k) k (cnt (.sl (Ym)) a):=by
 unfold Vm
 have hl:a.length≤1048576:=by have:=hs.1;omega
 refine Mkd.loop (l:=a) (c:=cnt (Ym)) (fun j m x L hj hj' hL hx hxm hm0 hm1 hj2=>?_) (fun m L hL=>?_) hl h0 h1
 ·have hsx:=hs.2 x hxm
  have hc:((cnt (Ym) x:Nat):Int)=0+1+1+1+1+1+1+((cnt (.sl (.int .i64)) x.2.2.2.2.2.2.1.1:Nat):Int)+((cnt (.sl (.int .i64)) x.2.2.2.2.2.2.1.2.1:Nat):Int)+((cnt (.sl (.int .i64)) x.2.2.2.2.2.2.1.2.2.1:Nat):Int)+((cnt (.sl (.int .i64)) x.2.2.2.2.2.2.1.2.2.2.1:Nat):Int):=by simp only [Zck,Zdp,Zco,Zb7,Zes];omega
  obtain ⟨s0,e0⟩:=ZcO (m+1+1+1+1+1) (by omega) (by omega)
  obtain ⟨s1,e1⟩:=YF x.2.2.2.2.2.2.1.1 (m+1+1+1+1+1+1) hsx.2.2.2.2.2.2.1.1 (by omega) (by omega)
  obtain ⟨s2,e2⟩:=YF x.2.2.2.2.2.2.1.2.1 (m+1+1+1+1+1+1+((cnt (.sl (.int .i64)) x.2.2.2.2.2.2.1.1:Nat):Int)) hsx.2.2.2.2.2.2.1.2.1 (by omega) (by omega)
  obtain ⟨s3,e3⟩:=YF x.2.2.2.2.2.2.1.2.2.1 (m+1+1+1+1+1+1+((cnt (.sl (.int .i64)) x.2.2.2.2.2.2.1.1:Nat):Int)+((cnt (.sl (.int .i64)) x.2.2.2.2.2.2.1.2.1:Nat):Int)) hsx.2.2.2.2.2.2.1.2.2.1 (by omega) (by omega)
  obtain ⟨s4,e4⟩:=YF x.2.2.2.2.2.2.1.2.2.2.1 (m+1+1+1+1+1+1+((cnt (.sl (.int .i64)) x.2.2.2.2.2.2.1.1:Nat):Int)+((cnt (.sl (.int .i64)) x.2.2.2.2.2.2.1.2.1:Nat):Int)+((cnt (.sl (.int .i64)) x.2.2.2.2.2.2.1.2.2.1:Nat):Int)) hsx.2.2.2.2.2.2.1.2.2.2.1 (by omega) (by omega)
  simp (disch:=omega) only [XF,if_pos hj',Zu,hx,Option.bind_some,Vy,Int.toNat_natCast,Zfj,List.length_set,List.set_set,List.getElem?_set_self,e0,e1,e2,e3,e4]
  refine ⟨_,congrArg some (congrArg Sum.inl (Prod.ext ?_ (Prod.ext ?_ (Prod.ext rfl rfl))))⟩
  ·show _=m+_;rw [hc];omega
  ·simp only;omega
 ·simp only [XF,Int.lt_irrefl,if_false]
end Go.Proofs.YtehkanadahncgaaGreatDoor
