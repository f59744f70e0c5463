/-
  Ground of the plain laws: loops by what they come to; small arithmetic.
-/
import Derived.Test.YtdabmnfkcnkkbaaGreatDoorSxM
import Derived.IntWalk
import Derived.Test.YtdabmnfkcnkkbaaGreatDoorM
import Derived.Test.YtdabmnfkcnkkbaaGreatDoorSxBr
namespace Go.Proofs.YtdabmnfkcnkkbaaGreatDoor
set_option linter.unusedVariables false
set_option linter.unusedSimpArgs false
open Go Go.Sx
theorem V4 {n:Int} (h1:-9223372036854775808≤n) (h2:n≤9223372036854775807):IntKind.i64.wrap n=n:=IntWalk.i64_in n ⟨h1,h2⟩
theorem Yd {α:Type} (l:List α) (k:Nat):atI l (k:Int)=l[k]?:=by simp [atI]
theorem Qd {α:Type} {l:List α} {i:Int} {x:α} (h0:0≤i) (hx:l[i.toNat]?=some x):atI l i=some x:=by simp [atI,h0,hx]
theorem ZqM {α:Type} {l:List α} {i:Int} (h0:0≤i) (h1:i<l.length):∃ x,atI l i=some x∧l[i.toNat]?=some x :=
 ⟨l[i.toNat]'(by omega),by simp [atI,h0],List.getElem?_eq_getElem _⟩
theorem Z5 {α:Type} {p:Prop} (h:p) (a:Option α):Yf p a=a:=by
 unfold Yf
 exact if_pos h
theorem ZaM {τ ρ:Type} {step:τ→Option (τ ⊕ ρ)} (n:Nat) (I:Nat→τ→Prop) (Q:ρ→Prop) {v:τ} (h0:I 0 v)
  (hs:∀ k v,k<n→I k v→(∃ v',step v=some (.inl v')∧I (k+1) v')∨∃ r,step v=some (.inr r)∧Q r)
  (hx:∀ v,I n v→∃ r,step v=some (.inr r)∧Q r):∃ r,Yc step v=some r∧Q r:=by
 have:∀ m k v,k+m=n→I k v→∃ r,Yc step v=some r∧Q r:=by
  intro m
  induction m with
  | zero =>
   intro k v hk hI
   have:k=n:=by omega
   subst this
   obtain ⟨r,e,hq⟩:=hx v hI
   exact ⟨r,Zg5 e,hq⟩
  | succ m ih =>
   intro k v hk hI
   rcases hs k v (by omega) hI with ⟨v',e,hI'⟩ | ⟨r,e,hq⟩
   ·obtain ⟨r,h1,h2⟩:=ih (k+1) v' (by omega) hI'
    exact ⟨r,by rw [Zou e];exact h1,h2⟩
   ·exact ⟨r,Zg5 e,hq⟩
 exact this n 0 v (by omega) h0
theorem Ql {τ ρ:Type} {step:τ→Option (τ ⊕ ρ)} (n:Nat) (I:Nat→τ→Prop) (R:ρ) {v:τ} (h0:I 0 v)
  (hs:∀ k v,k<n→I k v→(∃ v',step v=some (.inl v')∧I (k+1) v')∨step v=some (.inr R))
  (hx:∀ v,I n v→step v=some (.inr R)):Yc step v=some R:=by
 obtain ⟨r,h1,h2⟩:=ZaM n I (fun r=>r=R) h0 (fun k v hk hI=>(hs k v hk hI).elim .inl (fun h=>.inr ⟨R,h,rfl⟩)) (fun v hI=>⟨R,hx v hI,rfl⟩)
 rw [h1,h2]
theorem Y7 {α:Type} {l:List α} {k:Nat} {x:α} (hx:l[k]?=some x):l.take (k+1)=l.take k++[x]:=by
 rw [List.take_add_one,hx];rfl
def sm:(t:Ty)→t.den→Prop
 | .str,s=>(s.length:Int)≤1048576
 | .sl t,l=>(l.length:Int)≤1048576∧∀ x∈l,sm t x
 | .pair a b,d=>sm a d.1∧sm b d.2
 | _,_=>True
def Szd (o:Option Int) (left:Int) (P:Prop):Prop:=∃ n,o=some n∧n≤left∧(0≤n→P)
theorem Szd.mono {o:Option Int} {left:Int} {P Q:Prop} (h:Szd o left P) (hpq:P→Q):Szd o left Q:=by
 obtain ⟨n,a,b,c⟩:=h;exact ⟨n,a,b,fun h=>hpq (c h)⟩
theorem Szd.then {o:Option Int} {left:Int} {P Q:Prop} (h:Szd o left P) (h0:0≤left) (hl:left≤1048576) {F:Int→Option Int} (h2:∀ n,0≤n→n≤1048576→P→Szd (F n) n Q) :
  Szd (o.bind fun n=>if n<0 then some (-1) else F n) left Q:=by
 obtain ⟨n,e,hle,hP⟩:=h
 rw [e,Option.bind_some]
 split
 ·rename_i hn
  exact ⟨-1,rfl,by omega,fun h=>by omega⟩
 ·rename_i hn
  obtain ⟨m,e2,h3,h4⟩:=h2 n (by omega) (by omega) (hP (by omega))
  exact ⟨m,e2,by omega,h4⟩
theorem Szd.last {o:Option Int} {left:Int} {P Q:Prop} (h:Szd o left P) (hl:0≤left) (hpq:P→Q):Szd (o.bind fun n=>if n<0 then some (-1) else some n) left Q:=by
 obtain ⟨n,e,hle,hP⟩:=h
 rw [e,Option.bind_some]
 split
 ·rename_i hn
  exact ⟨-1,rfl,by omega,fun h=>by omega⟩
 ·exact ⟨n,rfl,hle,fun h=>hpq (hP h)⟩
theorem Szd.len {left n:Int} {Q:Prop} {B:Option Int} (h0:0≤left) (hl:left≤1048576) (hn:0≤n) (hb:n≤9223372036854775807)
  (h2:IntKind.i64.wrap (left-n)=left-n→0≤left-n→left-n≤1048576→n≤1048576→Szd B (left-n) Q) :
  Szd (if IntKind.i64.wrap (left-n)<0 then some (-1) else B) left Q:=by
 have hw:=V4 (n:=left-n) (by omega) (by omega)
 rw [hw]
 split
 ·rename_i hn
  exact ⟨-1,rfl,by omega,fun h=>by omega⟩
 ·rename_i hn
  obtain ⟨m,e2,h3,h4⟩:=h2 hw (by omega) (by omega) (by omega)
  exact ⟨m,e2,by omega,h4⟩
theorem Szd.ret {left:Int} {P:Prop} (h:P):Szd (some left) left P:=⟨left,rfl,Int.le_refl _,fun _=>h⟩
theorem Szd.loop {α:Type} {l:List α} {f:α→Int→Option Int} {P:α→Prop} {step:Int×Int×Unit→Option ((Int×Int×Unit) ⊕ Int)}
  (hf:∀ x∈l,∀ m,0≤m→m≤1048576→Szd (f x m) m (P x))
  (hstep:∀ (k:Nat) (m:Int),step (m,(k:Int),())=if (k:Int)<(l.length:Int) then (atI l (k:Int)).bind fun x=>(f x m).bind fun n=>if n<0 then some (.inr (-1)) else some (.inl (n,IntKind.i64.wrap ((k:Int)+1),())) else some (.inr m))
  {left:Int} (h0:0≤left) (h1:left≤1048576) (hl:(l.length:Int)≤1048576):Szd (Yc step (left,0,())) left (∀ x∈l,P x):=by
 unfold Szd
 refine ZaM l.length (fun k v=>v.2.1=(k:Int)∧0≤v.1∧v.1≤left∧∀ x∈l.take k,P x) (fun n=>n≤left∧(0≤n→∀ x∈l,P x)) ⟨rfl,h0,Int.le_refl _,by simp⟩ ?_ ?_
 ·rintro k ⟨m,i,⟨⟩⟩ hk ⟨hi,hm0,hm1,hP⟩
  simp only at hi hm0 hm1
  subst hi
  have hx:l[k]?=some l[k]:=List.getElem?_eq_getElem hk
  generalize l[k]=x at hx
  rw [hstep,if_pos (by omega),Yd,hx,Option.bind_some]
  obtain ⟨n,e,hn,hPx⟩:=hf x (List.mem_of_getElem? hx) m hm0 (by omega)
  rw [e,Option.bind_some]
  split
  ·exact .inr ⟨-1,rfl,by omega,fun h=>by omega⟩
  ·rw [V4 (by omega) (by omega)]
   refine .inl ⟨_,rfl,by simp,by dsimp only;omega,by dsimp only;omega,?_⟩
   rw [Y7 hx]
   intro y hy
   rcases List.mem_append.1 hy with hy | hy
   ·exact hP y hy
   ·simp at hy;subst hy;exact hPx (by omega)
 ·rintro ⟨m,i,⟨⟩⟩ ⟨hi,hm0,hm1,hP⟩
  simp only at hi hm0 hm1
  subst hi
  rw [List.take_length] at hP
  rw [hstep,if_neg (by omega)]
  exact ⟨m,rfl,hm1,fun _=>hP⟩
theorem Zcd {α:Type} {l:List α} {f:α→Option α} {z:α} {step:Int×List α×Unit→Option ((Int×List α×Unit) ⊕ List α)} (hf:∀ x∈l,f x=some x)
  (hstep:∀ (k:Nat) (out:List α),step ((k:Int),out,())=if (k:Int)<(l.length:Int) then (atI l (k:Int)).bind fun x=>(f x).bind fun y=>(atI out (k:Int)).bind fun _=>some (.inl (IntKind.i64.wrap ((k:Int)+1),List.set out (Int.toNat (k:Int)) y,())) else some (.inr out))
  (hl:(l.length:Int)≤1048576):Yc step (0,List.replicate (Int.toNat (l.length:Int)) z,())=some l:=by
 refine Ql l.length (fun k v=>v.1=(k:Int)∧v.2.1.length=l.length∧v.2.1.take k=l.take k) _ ⟨rfl,by simp,by simp⟩ ?_ ?_
 ·rintro k ⟨i,out,⟨⟩⟩ hk ⟨hi,hlen,ht⟩
  simp only at hi hlen ht
  subst hi
  have hx:l[k]?=some l[k]:=List.getElem?_eq_getElem hk
  generalize l[k]=x at hx
  have hy:out[k]?=some (out[k]'(by omega)):=List.getElem?_eq_getElem (by omega)
  rw [hstep,if_pos (by omega),Yd,hx,Option.bind_some,hf x (List.mem_of_getElem? hx),Option.bind_some,Yd,hy,Option.bind_some,V4 (by omega) (by omega)]
  refine .inl ⟨_,rfl,by simp,by simp [hlen],?_⟩
  have hx2:(out.set k x)[k]?=some x:=by rw [List.getElem?_set_self (by omega)]
  simp only [Int.toNat_natCast]
  rw [Y7 hx2,Y7 hx,List.take_set,ht]
  rw [List.set_eq_of_length_le (by simp;omega)]
 ·rintro ⟨i,out,⟨⟩⟩ ⟨hi,hlen,ht⟩
  simp only at hi hlen ht
  subst hi
  rw [hstep,if_neg (by omega)]
  rw [List.take_length,List.take_of_length_le (by omega)] at ht
  rw [ht]
theorem Zpr {α:Type} [DecidableEq α] {l:List α} {step:Int×Unit→Option ((Int×Unit) ⊕ Bool)}
  (hstep:∀ (k:Nat),step ((k:Int),())=if (k:Int)<(l.length:Int) then (atI l (k:Int)).bind fun x=>(atI l (k:Int)).bind fun y=>if x=y then some (.inl (IntKind.i64.wrap ((k:Int)+1),())) else some (.inr false) else some (.inr true))
  (hl:(l.length:Int)≤1048576):Yc step (0,())=some true:=by
 refine Ql l.length (fun k v=>v.1=(k:Int)) _ rfl ?_ ?_
 ·rintro k ⟨i,⟨⟩⟩ hk hi
  simp only at hi
  subst hi
  have hx:l[k]?=some l[k]:=List.getElem?_eq_getElem hk
  generalize l[k]=x at hx
  rw [hstep,if_pos (by omega),Yd,hx,Option.bind_some,Option.bind_some,if_pos rfl,V4 (by omega) (by omega)]
  exact .inl ⟨_,rfl,by simp⟩
 ·rintro ⟨i,⟨⟩⟩ hi
  simp only at hi
  subst hi
  rw [hstep,if_neg (by omega)]
def Ty.fixed:Ty→Bool
 | .str=>false
 | .sl _=>false
 | .ptr _=>true
 | .fn _ _=>true
 | .pair a b=>Ty.fixed a&&Ty.fixed b
 | _=>true
theorem QD:∀ (t:Ty),Ty.fixed t=true→∀ d:t.den,sm t d
 | .int _,_,_=>trivial
 | .bool,_,_=>trivial
 | .unit,_,_=>trivial
 | .ptr _,_,_=>trivial
 | .fn _ _,_,_=>trivial
 | .nptr _,_,_=>trivial
 | .mp _ _,_,_=>trivial
 | .str,h,_=>by simp [Ty.fixed] at h
 | .sl _,h,_=>by simp [Ty.fixed] at h
 | .pair a b,h,d=>by
  simp only [Ty.fixed,Bool.and_eq_true] at h
  exact ⟨QD a h.1 d.1,QD b h.2 d.2⟩
theorem ZhO {α:Type} {l:List α} {f:α→α→Option Bool} {step:Int×Unit→Option ((Int×Unit) ⊕ Bool)} (hf:∀ x∈l,f x x=some true)
  (hstep:∀ (k:Nat),step ((k:Int),())=if (k:Int)<(l.length:Int) then (atI l (k:Int)).bind fun x=>(atI l (k:Int)).bind fun y=>(f x y).bind fun e=>if e=true then some (.inl (IntKind.i64.wrap ((k:Int)+1),())) else some (.inr false) else some (.inr true))
  (hl:(l.length:Int)≤1048576):Yc step (0,())=some true:=by
 refine Ql l.length (fun k v=>v.1=(k:Int)) _ rfl ?_ ?_
 ·rintro k ⟨i,⟨⟩⟩ hk hi
  simp only at hi
  subst hi
  have hx:l[k]?=some l[k]:=List.getElem?_eq_getElem hk
  generalize l[k]=x at hx
  rw [hstep,if_pos (by omega),Yd,hx,Option.bind_some,Option.bind_some,hf x (List.mem_of_getElem? hx),Option.bind_some,if_pos rfl,V4 (by omega) (by omega)]
  exact .inl ⟨_,rfl,by simp⟩
 ·rintro ⟨i,⟨⟩⟩ hi
  simp only at hi
  subst hi
  rw [hstep,if_neg (by omega)]
noncomputable def tr (p:Prop):Bool:=@decide p (Classical.propDecidable p)
theorem ZnC {p:Prop} {b:Bool} (h:b=true↔p):tr p=b:=by
 unfold tr
 cases b
 ·simp at h;simp [h]
 ·simp at h;simp [h]
theorem QA (p:Prop):tr p=true↔p:=by simp [tr]
theorem Xh {p:Prop} (h:p):tr p=true:=(QA p).2 h
theorem YL {p:Prop} (h:¬p):tr p=false:=by simp [tr,h]
end Go.Proofs.YtdabmnfkcnkkbaaGreatDoor
/-
  Ground of the plain laws: the usual loops.
-/
namespace Go.Proofs.YtdabmnfkcnkkbaaGreatDoor
set_option linter.unusedVariables false
set_option linter.unusedSimpArgs false
open Go Go.Sx
def Len {α:Type} (l:List α):Prop:=l.length≤4611686018427387904
theorem Zs9 {k:Nat} {α:Type} {l:List α} (hl:Len l) (hk:k≤l.length):IntKind.i64.wrap ((k:Int)+1)=((k+1:Nat):Int):=by
 have:l.length≤4611686018427387904:=hl
 rw [V4 (by omega) (by omega)];simp
def Za9 {α:Type} (p:α→Bool) (l:List α):Int:=match l.findIdx? p with
 | some i=>i
 | none=>-1
theorem VN {α:Type} {p:α→Bool} {l:List α}:0≤Za9 p l↔l.any p=true:=by
 unfold Za9
 split
 ·rename_i i h
  obtain ⟨h1,h2,_⟩:=List.findIdx?_eq_some_iff_getElem.1 h
  refine ⟨fun _=>List.any_eq_true.2 ⟨_,List.getElem_mem h1,h2⟩,fun _=>by omega⟩
 ·rename_i h
  rw [List.findIdx?_eq_none_iff] at h
  refine ⟨fun h'=>by omega,fun h'=>?_⟩
  obtain ⟨x,hx,hp⟩:=List.any_eq_true.1 h'
  have:=h x hx
  rw [hp] at this;cases this
theorem VG {α ρ:Type} {l:List α} (hl:Len l) {p:α→Bool} {step:Int×Unit→Option ((Int×Unit) ⊕ ρ)} {out:Int→ρ}
  (hs:∀ (k:Nat) (x:α),l[k]?=some x→step ((k:Int),())=some (if p x=true then .inr (out k) else .inl (IntKind.i64.wrap ((k:Int)+1),())))
  (hx:step ((l.length:Int),())=some (.inr (out (-1)))):Yc step (0,())=some (out (Za9 p l)):=by
 refine Ql l.length (fun k v=>v.1=(k:Int)∧∀ x∈l.take k,p x=false) _ ⟨rfl,by simp⟩ ?_ ?_
 ·rintro k ⟨i,⟨⟩⟩ hk ⟨hi,hS⟩
  simp only at hi
  subst hi
  have hx:l[k]?=some l[k]:=List.getElem?_eq_getElem hk
  rw [hs k _ hx,Zs9 hl (by omega)]
  split
  ·rename_i hp
   right
   have:l.findIdx? p=some k:=by
    rw [List.findIdx?_eq_some_iff_getElem]
    refine ⟨hk,hp,fun j hj=>?_⟩
    have:=hS l[j] (List.mem_iff_getElem?.2 ⟨j,by rw [List.getElem?_take,if_pos hj];exact List.getElem?_eq_getElem _⟩)
    simp [this]
   unfold Za9
   rw [this]
  ·rename_i hp
   refine .inl ⟨_,rfl,rfl,?_⟩
   rw [Y7 hx]
   intro y hy
   rcases List.mem_append.1 hy with hy | hy
   ·exact hS y hy
   ·simp at hy;subst hy;simpa using hp
 ·rintro ⟨i,⟨⟩⟩ ⟨hi,hS⟩
  simp only at hi
  subst hi
  rw [List.take_length] at hS
  have:l.findIdx? p=none:=List.findIdx?_eq_none_iff.2 hS
  rw [hx]
  unfold Za9
  rw [this]
noncomputable def sel {ρ:Type} (P:Prop) (a b:ρ):ρ:=match tr P with
 | true=>a
 | false=>b
theorem QL {ρ:Type} {P:Prop} (h:P) (a b:ρ):sel P a b=a:=by simp [sel,Xh h]
theorem X8 {ρ:Type} {P:Prop} (h:¬P) (a b:ρ):sel P a b=b:=by simp [sel,YL h]
theorem ZlP (P:Prop):sel P true false=tr P:=by
 by_cases h:P
 ·rw [QL h,Xh h]
 ·rw [X8 h,YL h]
def Zff {α:Type} (l:List α) (P:Nat→α→Prop):Prop:=∀ (k:Nat) (x:α),l[k]?=some x→P k x
theorem Jk {α ρ:Type} {l:List α} (hl:Len l) (P:Nat→α→Prop) {step:Int×Unit→Option ((Int×Unit) ⊕ ρ)} {bad good:ρ}
  (hs:∀ (k:Nat) (x:α),l[k]?=some x→k<l.length→(∀ (j:Nat) (y:α),j<k→l[j]?=some y→P j y)→(P k x→step ((k:Int),())=some (.inl (IntKind.i64.wrap ((k:Int)+1),())))∧(¬P k x→step ((k:Int),())=some (.inr bad)))
  (hx:Zff l P→step ((l.length:Int),())=some (.inr good)):Yc step (0,())=some (sel (Zff l P) good bad):=by
 refine Ql l.length (fun k v=>v.1=(k:Int)∧∀ (j:Nat) (y:α),j<k→l[j]?=some y→P j y) _ ⟨rfl,fun j y hj=>by omega⟩ ?_ ?_
 ·rintro k ⟨i,⟨⟩⟩ hk ⟨hi,hS⟩
  simp only at hi
  subst hi
  have hx:l[k]?=some l[k]:=List.getElem?_eq_getElem hk
  obtain ⟨h1,h2⟩:=hs k _ hx hk hS
  by_cases hP:P k l[k]
  ·rw [h1 hP,Zs9 hl (by omega)]
   refine .inl ⟨_,rfl,rfl,fun j y hj hy=>?_⟩
   by_cases hjk:j<k
   ·exact hS j y hjk hy
   ·have:j=k:=by omega
    subst this
    rw [hx] at hy;injection hy with hy;subst hy
    exact hP
  ·right
   rw [h2 hP,X8 (fun h=>hP (h k _ hx))]
 ·rintro ⟨i,⟨⟩⟩ ⟨hi,hS⟩
  simp only at hi
  subst hi
  have hA:Zff l P:=fun k x hk=>hS k x (List.getElem?_eq_some_iff.1 hk).1 hk
  rw [hx hA,QL hA]
theorem ZpD {ρ:Type} (m n:Nat) (hmn:m≤n) (hn:n≤4611686018427387904) (P:Nat→Prop) {step:Int×Unit→Option ((Int×Unit) ⊕ ρ)} {bad good:ρ}
  (hs:∀ k:Nat,m≤k→k<n→(∀ j,m≤j→j<k→P j)→(P k→step ((k:Int),())=some (.inl (IntKind.i64.wrap ((k:Int)+1),())))∧(¬P k→step ((k:Int),())=some (.inr bad)))
  (hx:(∀ j,m≤j→j<n→P j)→step ((n:Int),())=some (.inr good)):Yc step ((m:Int),())=some (sel (∀ j,m≤j→j<n→P j) good bad):=by
 refine Ql (n-m) (fun k v=>v.1=((m+k:Nat):Int)∧∀ j,m≤j→j<m+k→P j) _ ⟨by simp,fun j h1 h2=>by omega⟩ ?_ ?_
 ·rintro k ⟨i,⟨⟩⟩ hk ⟨hi,hS⟩
  simp only at hi
  subst hi
  obtain ⟨h1,h2⟩:=hs (m+k) (by omega) (by omega) hS
  by_cases hP:P (m+k)
  ·rw [h1 hP,V4 (by omega) (by omega)]
   refine .inl ⟨_,rfl,by simp only;omega,fun j ha hb=>?_⟩
   by_cases hj:j<m+k
   ·exact hS j ha hj
   ·have:j=m+k:=by omega
    subst this;exact hP
  ·right
   rw [h2 hP,X8 (fun h=>hP (h (m+k) (by omega) (by omega)))]
 ·rintro ⟨i,⟨⟩⟩ ⟨hi,hS⟩
  simp only at hi
  subst hi
  have e:m+(n-m)=n:=by omega
  rw [e] at hS ⊢
  rw [hx hS,QL hS]
end Go.Proofs.YtdabmnfkcnkkbaaGreatDoor
/-
  Ground of the plain laws: all lengths together; how many numbers there are; marks.
-/
namespace Go.Proofs.YtdabmnfkcnkkbaaGreatDoor
set_option linter.unusedVariables false
set_option linter.unusedSimpArgs false
open Go Go.Sx
def tot:(t:Ty)→t.den→Nat
 | .str,s=>s.length
 | .sl t,l=>l.length+(l.map (tot t)).sum
 | .pair a b,d=>tot a d.1+tot b d.2
 | _,_=>0
def Szt (o:Option Int) (left:Int) (T:Nat):Prop:=∀ n,o=some n→0≤n→n+(T:Int)≤left
theorem Szt.mono {o:Option Int} {left:Int} {T T':Nat} (h:Szt o left T) (ht:T'≤T):Szt o left T':=fun n h1 h2=>by
 have:=h n h1 h2
 omega
theorem Szt.then {o:Option Int} {left:Int} {T1 T2:Nat} (h:Szt o left T1) (h0:0≤left) (hl:left≤1048576) {F:Int→Option Int} (h2:∀ n,0≤n→n≤1048576→Szt (F n) n T2) :
  Szt (o.bind fun n=>if n<0 then some (-1) else F n) left (T1+T2):=by
 intro m hm hm0
 cases ho:o with
 | none=>rw [ho] at hm;cases hm
 | some n =>
  rw [ho,Option.bind_some] at hm
  by_cases hn:n<0
  ·rw [if_pos hn] at hm;injection hm;omega
  ·rw [if_neg hn] at hm
   have a:=h n ho (by omega)
   have b:=h2 n (by omega) (by omega) m hm hm0
   omega
theorem Szt.last {o:Option Int} {left:Int} {T:Nat} (h:Szt o left T):Szt (o.bind fun n=>if n<0 then some (-1) else some n) left T:=by
 intro m hm hm0
 cases ho:o with
 | none=>rw [ho] at hm;cases hm
 | some n =>
  rw [ho,Option.bind_some] at hm
  by_cases hn:n<0
  ·rw [if_pos hn] at hm;injection hm;omega
  ·rw [if_neg hn] at hm
   injection hm with hm
   subst hm
   exact h n ho hm0
theorem Szt.len {left n:Int} {T:Nat} {B:Option Int} (h0:0≤left) (hl:left≤1048576) (hn:0≤n) (hb:n≤9223372036854775807)
  (h2:IntKind.i64.wrap (left-n)=left-n→0≤left-n→left-n≤1048576→Szt B (left-n) T) :
  Szt (if IntKind.i64.wrap (left-n)<0 then some (-1) else B) left (n.toNat+T):=by
 have hw:=V4 (n:=left-n) (by omega) (by omega)
 intro m hm hm0
 rw [hw] at hm
 by_cases hneg:left-n<0
 ·rw [if_pos hneg] at hm;injection hm;omega
 ·rw [if_neg hneg] at hm
  have:=h2 hw (by omega) (by omega) m hm hm0
  omega
theorem Szt.ret {left:Int}:Szt (some left) left 0:=fun n h _=>by injection h;omega
theorem Szt.loop {α:Type} {l:List α} {f:α→Int→Option Int} {P:α→Prop} {T:α→Nat} {step:Int×Int×Unit→Option ((Int×Int×Unit) ⊕ Int)}
  (hf:∀ x∈l,∀ m,0≤m→m≤1048576→Szd (f x m) m (P x)) (ht:∀ x∈l,∀ m,0≤m→m≤1048576→Szt (f x m) m (T x))
  (hstep:∀ (k:Nat) (m:Int),step (m,(k:Int),())=if (k:Int)<(l.length:Int) then (atI l (k:Int)).bind fun x=>(f x m).bind fun n=>if n<0 then some (.inr (-1)) else some (.inl (n,IntKind.i64.wrap ((k:Int)+1),())) else some (.inr m))
  {left:Int} (h0:0≤left) (h1:left≤1048576) (hl:(l.length:Int)≤1048576):Szt (Yc step (left,0,())) left (l.map T).sum:=by
 have:∃ r,Yc step (left,0,())=some r∧(0≤r→r+((l.map T).sum:Int)≤left):=by
  refine ZaM l.length (fun k v=>v.2.1=(k:Int)∧0≤v.1∧v.1+(((l.take k).map T).sum:Int)≤left) _ ⟨rfl,h0,by simp⟩ ?_ ?_
  ·rintro k ⟨m,i,⟨⟩⟩ hk ⟨hi,hm0,hm1⟩
   simp only at hi hm0 hm1
   subst hi
   have hx:l[k]?=some l[k]:=List.getElem?_eq_getElem hk
   generalize l[k]=x at hx
   rw [hstep,if_pos (by omega),Yd,hx,Option.bind_some]
   obtain ⟨n,e,hn,hPx⟩:=hf x (List.mem_of_getElem? hx) m hm0 (by omega)
   rw [e,Option.bind_some]
   split
   ·exact .inr ⟨-1,rfl,fun h=>by omega⟩
   ·rename_i hneg
    have:=ht x (List.mem_of_getElem? hx) m hm0 (by omega) n e (by omega)
    rw [V4 (by omega) (by omega)]
    refine .inl ⟨_,rfl,by simp,by dsimp only;omega,?_⟩
    rw [Y7 hx,List.map_append,List.sum_append]
    simp only [List.map_cons,List.map_nil,List.sum_cons,List.sum_nil]
    omega
  ·rintro ⟨m,i,⟨⟩⟩ ⟨hi,hm0,hm1⟩
   simp only at hi hm0 hm1
   subst hi
   rw [List.take_length] at hm1
   rw [hstep,if_neg (by omega)]
   exact ⟨m,rfl,fun _=>hm1⟩
 obtain ⟨r,h2,h3⟩:=this
 intro n hn hn0
 rw [h2] at hn
 injection hn with hn
 subst hn
 exact h3 hn0
theorem Zl0:∀ (t:Ty),Ty.fixed t=true→∀ d:t.den,tot t d=0
 | .int _,_,_=>rfl
 | .bool,_,_=>rfl
 | .unit,_,_=>rfl
 | .ptr _,_,_=>rfl
 | .fn _ _,_,_=>rfl
 | .nptr _,_,_=>rfl
 | .mp _ _,_,_=>rfl
 | .str,h,_=>by simp [Ty.fixed] at h
 | .sl _,h,_=>by simp [Ty.fixed] at h
 | .pair a b,h,d=>by
  simp only [Ty.fixed,Bool.and_eq_true] at h
  simp only [tot,Zl0 a h.1 d.1,Zl0 b h.2 d.2]
theorem ZrS {t:Ty} (h:Ty.fixed t=true) (l:List t.den):(l.map (tot t)).sum=0:=by
 induction l with
 | nil=>rfl
 | cons x r ih=>simp only [List.map_cons,List.sum_cons,Zl0 t h x,ih]
theorem ZbG (a b:Ty) (d:(Ty.pair a b).den):tot (.pair a b) d=tot a d.1+tot b d.2:=rfl
theorem Zi5 (t:Ty) (l:List t.den):tot (.sl t) l=l.length+(l.map (tot t)).sum:=rfl
theorem Zc7 (s:List UInt8):tot .str s=s.length:=rfl
theorem ZdJ (k:IntKind) (n:Int):tot (.int k) n=0:=rfl
theorem ZcF (b:Bool):tot .bool b=0:=rfl
theorem ZbH (b:Unit):tot .unit b=0:=rfl
theorem Szt.str (x:List UInt8) (m:Int) (m0:0≤m) (m1:m≤1048576) (hb:(x.length:Int)≤9223372036854775807) :
  Szt (if IntKind.i64.wrap (m-(x.length:Int))<0 then some (-1) else some (IntKind.i64.wrap (m-(x.length:Int)))) m (tot .str x):=by
 have h:Szt (if IntKind.i64.wrap (m-(x.length:Int))<0 then some (-1) else some (IntKind.i64.wrap (m-(x.length:Int)))) m ((x.length:Int).toNat+0) :=
  Szt.len m0 m1 (by omega) hb (fun hw _ _=>by rw [hw];exact Szt.ret)
 refine h.mono ?_
 rw [Zc7]
 omega
theorem Szd.str (x:List UInt8) (m:Int) (m0:0≤m) (m1:m≤1048576) (hb:(x.length:Int)≤9223372036854775807) :
  Szd (if IntKind.i64.wrap (m-(x.length:Int))<0 then some (-1) else some (IntKind.i64.wrap (m-(x.length:Int)))) m (sm .str x) :=
 Szd.len m0 m1 (by omega) hb (fun hw _ _ hn=>by rw [hw];exact Szd.ret hn)
def cnt:(t:Ty)→t.den→Nat
 | .int _,_=>1
 | .bool,_=>1
 | .str,_=>1
 | .sl t,l=>(l.map (cnt t)).sum
 | .pair a b,d=>cnt a d.1+cnt b d.2
 | _,_=>0
theorem Zbv (a b:Ty) (d:(Ty.pair a b).den):cnt (.pair a b) d=cnt a d.1+cnt b d.2:=rfl
theorem ZdC (s:List UInt8):cnt .str s=1:=rfl
theorem ZdB (k:IntKind) (n:Int):cnt (.int k) n=1:=rfl
theorem Zbu (b:Bool):cnt .bool b=1:=rfl
theorem Zbw (b:Unit):cnt .unit b=0:=rfl
def wid:Ty→Nat
 | .int _=>1
 | .bool=>1
 | .str=>1
 | .pair a b=>wid a+wid b
 | _=>0
def ZcK:Ty→Nat
 | .sl t=>max (wid t) (ZcK t)
 | .pair a b=>max (ZcK a) (ZcK b)
 | _=>0
theorem ZnQ:∀ (t:Ty) (d:t.den),cnt t d≤wid t+ZcK t*tot t d
 | .int _,_=>by simp [cnt,wid]
 | .bool,_=>by simp [cnt,wid]
 | .str,_=>by simp [cnt,wid]
 | .unit,_=>by simp [cnt]
 | .ptr _,_=>by simp [cnt]
 | .fn _ _,_=>by simp [cnt]
 | .nptr _,_=>by simp [cnt]
 | .mp _ _,_=>by simp [cnt]
 | .pair a b,d=>by
  have h1:=ZnQ a d.1
  have h2:=ZnQ b d.2
  have h3:ZcK a*tot a d.1≤max (ZcK a) (ZcK b)*tot a d.1:=Nat.mul_le_mul_right _ (Nat.le_max_left _ _)
  have h4:ZcK b*tot b d.2≤max (ZcK a) (ZcK b)*tot b d.2:=Nat.mul_le_mul_right _ (Nat.le_max_right _ _)
  simp only [cnt,wid,ZcK,tot,Nat.mul_add]
  omega
 | .sl t,l=>by
  have:(l.map (cnt t)).sum≤wid t*l.length+ZcK t*(l.map (tot t)).sum:=by
   induction l with
   | nil=>simp
   | cons x r ih =>
    have:=ZnQ t x
    simp only [List.map_cons,List.sum_cons,List.length_cons,Nat.mul_add]
    omega
  have h1:wid t*l.length≤max (wid t) (ZcK t)*l.length:=Nat.mul_le_mul_right _ (Nat.le_max_left _ _)
  have h2:ZcK t*(l.map (tot t)).sum≤max (wid t) (ZcK t)*(l.map (tot t)).sum:=Nat.mul_le_mul_right _ (Nat.le_max_right _ _)
  simp only [cnt,wid,ZcK,tot,Nat.mul_add]
  omega
def Mkd {α:Type} (o:Option (Int×α)) (k:Int) (c:Nat):Prop:=∃ a',o=some (k+(c:Int),a')
theorem ZfC {α:Type} {L:List α} {j:Nat} {y:α} (h:j<L.length):atI (List.set L j y) (j:Int)=some y:=by
 rw [Yd,List.getElem?_set_self h]
theorem Mkd.loop {α:Type} {l:List α} {c:α→Nat} {step:Int×Int×List α×Unit→Option ((Int×Int×List α×Unit) ⊕ (Int×List α))} {k:Int}
  (hstep:∀ (j:Nat) (m:Int) (x:α) (L:List α),j<L.length→(j:Int)<(L.length:Int)→L.length=l.length→L[j]?=some x→x∈l→0≤m→m+(c x:Int)≤4611686018427387904→(j:Int)≤1048576→∃ y,step (m,(j:Int),L,())=some (.inl (m+(c x:Int),((j+1:Nat):Int),List.set L j y,())))
  (hend:∀ (m:Int) (L:List α),L.length=l.length→step (m,(L.length:Int),L,())=some (.inr (m,L)))
  (hl:l.length≤1048576) (h0:0≤k) (h1:k+((l.map c).sum:Int)≤4611686018427387904):Mkd (Yc step (k,0,l,())) k (l.map c).sum:=by
 have:∃ r,Yc step (k,0,l,())=some r∧r.1=k+((l.map c).sum:Int):=by
  refine ZaM l.length (fun j v=>v.1=k+(((l.take j).map c).sum:Int)∧v.2.1=(j:Int)∧v.2.2.1.length=l.length∧∀ i,j≤i→v.2.2.1[i]?=l[i]?) _ ⟨by simp,rfl,rfl,fun i _=>rfl⟩ ?_ ?_
  ·rintro j ⟨m,i,L,⟨⟩⟩ hj ⟨hm,hi,hL,hrest⟩
   simp only at hm hi hL hrest
   subst hi
   have hx:l[j]?=some l[j]:=List.getElem?_eq_getElem hj
   have hsum:(l.map c).sum=((l.take j).map c).sum+(c l[j]+((l.drop (j+1)).map c).sum):=by
    have e:l=l.take j++(l[j]::l.drop (j+1)):=by rw [←List.drop_eq_getElem_cons hj,List.take_append_drop]
    have e2:=congrArg (fun l=>(l.map c).sum) e
    simp only [List.map_append,List.sum_append,List.map_cons,List.sum_cons] at e2
    exact e2
   obtain ⟨y,hy⟩:=hstep j m l[j] L (by omega) (by omega) hL (by rw [hrest j (Nat.le_refl _)];exact hx) (List.mem_of_getElem? hx) (by omega) (by omega) (by omega)
   left
   refine ⟨_,hy,?_,rfl,by simp [hL],fun i hi=>?_⟩
   ·rw [Y7 hx,List.map_append,List.sum_append]
    simp only [List.map_cons,List.map_nil,List.sum_cons,List.sum_nil]
    omega
   ·simp only
    rw [List.getElem?_set_ne (by omega)]
    exact hrest i (by omega)
  ·rintro ⟨m,i,L,⟨⟩⟩ ⟨hm,hi,hL,_⟩
   simp only at hm hi hL
   subst hi
   rw [List.take_length] at hm
   rw [←hL,hend m L hL]
   exact ⟨_,rfl,hm⟩
 obtain ⟨r,h2,h3⟩:=this
 exact ⟨r.2,by rw [h2,←h3]⟩
end Go.Proofs.YtdabmnfkcnkkbaaGreatDoor
/-
  Ground of the plain laws: what marking makes of a value, and that the marks are held.
-/
namespace Go.Proofs.YtdabmnfkcnkkbaaGreatDoor
set_option linter.unusedVariables false
set_option linter.unusedSimpArgs false
open Go Go.Sx
end Go.Proofs.YtdabmnfkcnkkbaaGreatDoor
/-
  Plain laws: bounds, names.
-/
namespace Go.Proofs.YtdabmnfkcnkkbaaGreatDoor
set_option linter.unusedVariables false
set_option linter.unusedSimpArgs false
open Go Go.Sx
def within (n a b:Int):Bool:=decide (a≤n)&&decide (n≤b)
theorem J7 (n a b:Int):YT n a b=some (within n a b):=by
 unfold YT within;split<;>simp [*]
theorem ZcA (n a b:Int):Yv n a b=some (within n a b):=by
 unfold Yv within;split<;>simp [*]
theorem within_iff (n a b:Int):within n a b=true↔a≤n∧n≤b:=by simp [within]
def Zfa (b:UInt8):Bool:=decide (97≤b.toNat)&&decide (b.toNat≤122)
def Zjn (b:UInt8):Bool:=decide (48≤b.toNat)&&decide (b.toNat≤57)
def JA (s:List UInt8):Bool:=decide (1≤s.length)&&decide (s.length≤8)&&s.all (fun b=>Zfa b||Zjn b)&&(match s with
 | b::_=>Zfa b
 | []=>false)
def ZnL (s:List UInt8) (i:Nat):Prop:=∀ (j:Nat) (b:UInt8),j<i→s[j]?=some b→(Zfa b||Zjn b)=true∧(j=0→Zfa b=true)
theorem Zo5 {s:List UInt8} {i:Nat} {x:UInt8} (h:ZnL s i) (hx:s[i]?=some x) (h1:(Zfa x||Zjn x)=true) (h2:i=0→Zfa x=true):ZnL s (i+1):=by
 intro j b hj hb
 by_cases e:j<i
 ·exact h j b e hb
 ·have:j=i:=by omega
  subst this
  rw [hx] at hb;injection hb with hb;subst hb
  exact ⟨h1,h2⟩
theorem Znp {s:List UInt8} (h:ZnL s s.length):JA s=(decide (1≤s.length)&&decide (s.length≤8)):=by
 unfold JA
 have h1:s.all (fun b=>Zfa b||Zjn b)=true:=by
  rw [List.all_eq_true]
  intro b hb
  obtain ⟨j,hj⟩:=List.mem_iff_getElem?.1 hb
  exact (h j b (List.getElem?_eq_some_iff.1 hj).1 hj).1
 rw [h1]
 cases s with
 | nil=>rfl
 | cons b r =>
  have:=(h 0 b (by simp) rfl).2 rfl
  simp [this]
theorem Zqd {s:List UInt8} {j:Nat} {b:UInt8} (hb:s[j]?=some b) (h:(Zfa b||Zjn b)=false∨j=0∧Zfa b=false):JA s=false:=by
 unfold JA
 rcases h with h | ⟨rfl,h⟩
 ·have:s.all (fun b=>Zfa b||Zjn b)=false:=by
   rw [List.all_eq_false]
   exact ⟨b,List.mem_of_getElem? hb,by simp [h]⟩
  simp [this]
 ·cases s with
  | nil=>simp at hb
  | cons c r=>simp at hb;subst hb;simp [h]
theorem ZcC (s:List UInt8) (hl:s.length≤4611686018427387904):ZaJ s=some (JA s):=by
 unfold ZaJ
 refine Ql s.length (fun k v=>v.1=(k:Int)∧ZnL s k) _ ⟨rfl,fun j b hj=>by omega⟩ ?_ ?_
 ·rintro k ⟨i,⟨⟩⟩ hk ⟨rfl,hS⟩
  have hx:s[k]?=some s[k]:=List.getElem?_eq_getElem hk
  generalize s[k]=x at hx
  simp only [ZcD,Yd,hx,Option.bind_some,show (k:Int)<(s.length:Int) from by omega,if_true,V4 (show (-9223372036854775808:Int)≤(k:Int)+1 by omega) (by omega)]
  have ok:(Zfa x||Zjn x)=true→(k=0→Zfa x=true)→(((k:Int)+1,()):Int×Unit).1=((k+1:Nat):Int)∧ZnL s (k+1):=fun h1 h2=>⟨by simp,Zo5 hS hx h1 h2⟩
  have bad:((Zfa x||Zjn x)=false∨k=0∧Zfa x=false)→(some (Sum.inr false):Option (Int×Unit ⊕ Bool))=some (Sum.inr (JA s)):=fun h=>by rw [Zqd hx h]
  simp only [Zfa,Zjn] at ok bad
  repeat' split
  all_goals first
   | (left;refine ⟨_,rfl,ok ?_ ?_⟩<;>simp<;>omega)
   | (right;refine bad ?_;first | (left;simp;omega) | (right;simp;omega))
 ·rintro ⟨i,⟨⟩⟩ ⟨rfl,hS⟩
  simp only [ZcD,Int.lt_irrefl,if_false]
  rw [Znp hS]
  split
  ·rename_i h
   have h1:1≤s.length:=by omega
   have h2:decide ((s.length:Int)≤8)=decide (s.length≤8):=by rw [decide_eq_decide];omega
   simp [h1,h2]
  ·have h1:¬1≤s.length:=by omega
   simp [h1]
theorem dropWhile_nil {p:UInt8→Bool}:∀ (m:List UInt8),(∀ x∈m.dropWhile p,p x=true)→∀ x∈m,p x=true
 | [],_=>by simp
 | a::m,h=>by
  by_cases ha:p a=true
  ·rw [List.dropWhile_cons_of_pos ha] at h
   intro x hx
   rcases List.mem_cons.1 hx with rfl | hx
   ·exact ha
   ·exact dropWhile_nil m h x hx
  ·rw [List.dropWhile_cons_of_neg ha] at h
   exact absurd (h a (by simp)) ha
theorem Zim {p:UInt8→Bool}:∀ (m:List UInt8),m.dropWhile p=[]↔∀ x∈m,p x=true
 | []=>by simp
 | a::m=>by
  by_cases ha:p a=true
  ·rw [List.dropWhile_cons_of_pos ha,Zim m];simp [ha]
  ·rw [List.dropWhile_cons_of_neg ha];simp [ha]
theorem ZrU (s cs:List UInt8):Lib.trimS s cs=[]↔∀ b∈s,cs.contains b=true:=by
 unfold Lib.trimS Lib.trimLeftS Lib.trimRightS
 rw [Zim]
 constructor
 ·intro h b hb
  exact dropWhile_nil s.reverse (fun x hx=>h x (List.mem_reverse.2 hx)) b (List.mem_reverse.2 hb)
 ·intro h b hb
  exact h b (List.mem_reverse.1 ((List.dropWhile_sublist _).subset (List.mem_reverse.1 hb)))
def letters:List UInt8:=[97,98,99,100,101,102,103,104,105,106,107,108,109,110,111,112,113,114,115,116,117,118,119,120,121,122]
def ZfP:List UInt8:=letters++[48,49,50,51,52,53,54,55,56,57]
theorem Zta {p:UInt8→Bool} (h:(List.range 256).all (fun n=>p (UInt8.ofNat n))=true) (b:UInt8):p b=true:=by
 rw [List.all_eq_true] at h
 have:=h b.toNat (List.mem_range.2 b.toNat_lt)
 simpa using this
theorem Zgg (b:UInt8):ZfP.contains b=(Zfa b||Zjn b):=by
 have:=Zta (p:=fun b=>ZfP.contains b == (Zfa b||Zjn b)) (by decide +kernel) b
 simpa using this
theorem Zop (s:List UInt8):Lib.trimS s ZfP=[]↔s.all (fun b=>Zfa b||Zjn b)=true:=by
 rw [ZrU,List.all_eq_true]
 simp only [Zgg]
theorem Zng (b:UInt8):decide (0≤(Lib.indexByte letters b:Int))=Zfa b:=by
 have:=Zta (p:=fun b=>decide (0≤(Lib.indexByte letters b:Int)) == Zfa b) (by decide +kernel) b
 simpa using this
theorem Ze8 (s:List UInt8):ZcR s=some (JA s):=by
 unfold ZcR
 rw [J7,Option.bind_some]
 split
 ·rename_i h
  rw [within_iff] at h
  rw [Z5 (by omega)]
  split
  ·rename_i ht
   have ht':=(Zop s).1 ht
   cases s with
   | nil=>simp at h
   | cons b r =>
    have e:atI (b::r) (0:Int)=some b:=rfl
    rw [e,Option.bind_some]
    have e1:((b.toNat:Int)).toNat.toUInt8=b:=by simp
    rw [e1]
    have h1:1≤(b::r).length:=by simp
    have h2:(b::r).length≤8:=by omega
    have:=Zng b
    unfold letters at this
    rw [this]
    simp only [JA,ht',decide_eq_true h1,decide_eq_true h2,Bool.true_and]
  ·rename_i ht
   have ht':¬s.all (fun b=>Zfa b||Zjn b)=true:=fun e=>ht ((Zop s).2 e)
   simp only [JA,Bool.eq_false_iff.2 ht',Bool.and_false,Bool.false_and]
 ·rename_i h
  rw [within_iff] at h
  have:¬(1≤s.length∧s.length≤8):=by omega
  rw [eq_comm]
  congr 1
  rw [Bool.eq_false_iff]
  intro hh
  simp only [JA,Bool.and_eq_true,decide_eq_true_eq] at hh
  omega
theorem ZkB (l:List (List UInt8)) (s:List UInt8) (hl:l.length≤4611686018427387904):∃ r,Xb l s=some r∧(0≤r↔s∈l):=by
 unfold Xb
 refine ZaM l.length (fun k v=>v.1=(k:Int)∧s ∉ l.take k) _ ⟨rfl,by simp⟩ ?_ ?_
 ·rintro k ⟨i,⟨⟩⟩ hk ⟨rfl,hS⟩
  have hx:l[k]?=some l[k]:=List.getElem?_eq_getElem hk
  generalize l[k]=x at hx
  simp only [Xf,Yd,hx,Option.bind_some,show (k:Int)<(l.length:Int) from by omega,if_true,V4 (show (-9223372036854775808:Int)≤(k:Int)+1 by omega) (by omega)]
  split
  ·rename_i e;subst e
   exact .inr ⟨_,rfl,fun _=>List.mem_of_getElem? hx,fun _=>by simp⟩
  ·rename_i e
   exact .inl ⟨_,rfl,by simp,by rw [Y7 hx];simp [hS,e]⟩
 ·rintro ⟨i,⟨⟩⟩ ⟨rfl,hS⟩
  simp only [Xf,Int.lt_irrefl,if_false]
  refine ⟨_,rfl,fun h=>by omega,fun h=>absurd h (by simpa using hS)⟩
theorem Zh8 (l:List (List UInt8)) (s:List UInt8) (hl:l.length≤4611686018427387904):XM l s=some (decide (s∈l)):=by
 obtain ⟨r,h1,h2⟩:=ZkB l s hl
 unfold XM
 rw [h1,Option.bind_some]
 simp only [h2]
def QW (l:List (List UInt8)) (k:Nat):Prop:=∀ (j:Nat) (s:List UInt8),j<k→l[j]?=some s→JA s=true∧s ∉ l.take j
theorem JW (l:List (List UInt8)) (hl:l.length≤4611686018427387904):VO l=some (tr (QW l l.length)):=by
 unfold VO
 refine Ql l.length (fun k v=>v.1=(k:Int)∧QW l k) _ ⟨rfl,fun j s hj=>by omega⟩ ?_ ?_
 ·rintro k ⟨i,⟨⟩⟩ hk ⟨rfl,hS⟩
  have hx:l[k]?=some l[k]:=List.getElem?_eq_getElem hk
  generalize l[k]=x at hx
  simp only [ZbK,Yd,hx,Option.bind_some,show (k:Int)<(l.length:Int) from by omega,if_true,V4 (show (-9223372036854775808:Int)≤(k:Int)+1 by omega) (by omega),Ze8]
  split
  ·rename_i hn
   rw [Z5 (by omega),Z5 (by omega)]
   simp only [Int.toNat_natCast,Int.toNat_zero,List.drop_zero,Nat.sub_zero]
   rw [Zh8 _ _ (by simp only [List.length_take];omega),Option.bind_some]
   split
   ·rename_i hm
    right
    rw [YL]
    intro hh
    exact (hh k x hk hx).2 (by simpa using hm)
   ·rename_i hm
    refine .inl ⟨_,rfl,by simp,fun j s hj hs=>?_⟩
    by_cases e:j<k
    ·exact hS j s e hs
    ·have:j=k:=by omega
     subst this
     rw [hx] at hs;injection hs with hs;subst hs
     exact ⟨hn,by simpa using hm⟩
  ·rename_i hn
   right
   rw [YL]
   intro hh
   exact hn (hh k x hk hx).1
 ·rintro ⟨i,⟨⟩⟩ ⟨rfl,hS⟩
  simp only [ZbK,Int.lt_irrefl,if_false]
  rw [Xh hS]
end Go.Proofs.YtdabmnfkcnkkbaaGreatDoor
/-
  Plain laws: numbers within bounds.
-/
namespace Go.Proofs.YtdabmnfkcnkkbaaGreatDoor
set_option linter.unusedVariables false
set_option linter.unusedSimpArgs false
open Go Go.Sx
def allIn (l:List Int) (lo hi:Int):Bool:=l.all (fun n=>within n lo hi)
theorem ZaV (l:List Int) (lo hi:Int) (hl:l.length≤4611686018427387904):Qc l lo hi=some (allIn l lo hi):=by
 have h1:∃ r,YN l (lo,hi,())=some r∧(0≤r↔allIn l lo hi=false):=by
  unfold YN
  refine ZaM l.length (fun k v=>v.1=(k:Int)∧allIn (l.take k) lo hi=true) _ ⟨rfl,rfl⟩ ?_ ?_
  ·rintro k ⟨i,⟨⟩⟩ hk ⟨rfl,hS⟩
   have hx:l[k]?=some l[k]:=List.getElem?_eq_getElem hk
   generalize l[k]=x at hx
   simp only [YW,ZcP,J7,Yd,hx,Option.bind_some,show (k:Int)<(l.length:Int) from by omega,if_true,V4 (show (-9223372036854775808:Int)≤(k:Int)+1 by omega) (by omega)]
   cases hw:within x lo hi
   ·refine .inr ⟨_,rfl,fun _=>?_,fun _=>by simp⟩
    rw [allIn,List.all_eq_false]
    exact ⟨x,List.mem_of_getElem? hx,by simp [hw]⟩
   ·refine .inl ⟨_,rfl,by simp,?_⟩
    rw [Y7 hx,allIn,List.all_append]
    simp only [allIn] at hS
    simp [hS,hw]
  ·rintro ⟨i,⟨⟩⟩ ⟨rfl,hS⟩
   rw [List.take_length] at hS
   simp only [YW,Int.lt_irrefl,if_false]
   exact ⟨_,rfl,fun h=>by omega,fun h=>by rw [hS] at h;cases h⟩
 obtain ⟨r,h1,h2⟩:=h1
 unfold Qc Y5
 rw [h1]
 simp only [Option.bind_some,h2]
 cases allIn l lo hi<;>simp
end Go.Proofs.YtdabmnfkcnkkbaaGreatDoor
/-
  Plain laws: the instances of functions of package slices. Printed by program (libgen.py).
-/
namespace Go.Proofs.YtdabmnfkcnkkbaaGreatDoor
open Go Go.Sx
set_option linter.unusedVariables false
set_option linter.unusedSimpArgs false
theorem Zdx {l:List (List UInt8)} {v:List UInt8} (hl:Len l):Xb l v=some (Za9 (fun x=>decide (v=x)) l):=by
 unfold Xb
 refine VG (out:=fun i=>i) hl (fun k x hx=>?_) ?_
 ·have hk:=(List.getElem?_eq_some_iff.1 hx).1
  simp only [Xf,Yd,hx,Option.bind_some,show (k:Int)<(l.length:Int) from by omega,if_true,decide_eq_true_eq]
  split<;>rfl
 ·simp only [Xf,Int.lt_irrefl,if_false]
theorem Qk {l:List Yb} {f:Bool×Unit} (hl:Len l) (p:Yb→Bool) (hp:∀ x∈l,Vj x f.fst=some (p x)):Yx l f=some (Za9 p l):=by
 unfold Yx
 refine VG (out:=fun i=>i) hl (p:=p) (fun k x hx=>?_) ?_
 ·have hk:=(List.getElem?_eq_some_iff.1 hx).1
  simp only [YH,Yd,hx,Option.bind_some,show (k:Int)<(l.length:Int) from by omega,if_true,hp x (List.mem_of_getElem? hx)]
  split<;>rfl
 ·simp only [YH,Int.lt_irrefl,if_false]
theorem X7 {l:List Yb} {f:Bool×Unit} (hl:Len l) (p:Yb→Bool) (hp:∀ x∈l,Vj x f.fst=some (p x)):Yp l f=some (l.any p):=by
 unfold Yp
 rw [Qk hl p hp,Option.bind_some]
 congr 1
 rw [Bool.eq_iff_iff,decide_eq_true_eq,VN]
theorem Qu {l:List YX} {f:Unit} (hl:Len l) (p:YX→Bool) (hp:∀ x∈l,Zck x=some (p x)):YD l f=some (Za9 p l):=by
 unfold YD
 refine VG (out:=fun i=>i) hl (p:=p) (fun k x hx=>?_) ?_
 ·have hk:=(List.getElem?_eq_some_iff.1 hx).1
  simp only [YK,Yd,hx,Option.bind_some,show (k:Int)<(l.length:Int) from by omega,if_true,hp x (List.mem_of_getElem? hx)]
  split<;>rfl
 ·simp only [YK,Int.lt_irrefl,if_false]
theorem Qo {l:List Yi} {f:Yi×Unit} (hl:Len l) (p:Yi→Bool) (hp:∀ x∈l,Qm x f.fst=some (p x)):Yz l f=some (Za9 p l):=by
 unfold Yz
 refine VG (out:=fun i=>i) hl (p:=p) (fun k x hx=>?_) ?_
 ·have hk:=(List.getElem?_eq_some_iff.1 hx).1
  simp only [YI,Yd,hx,Option.bind_some,show (k:Int)<(l.length:Int) from by omega,if_true,hp x (List.mem_of_getElem? hx)]
  split<;>rfl
 ·simp only [YI,Int.lt_irrefl,if_false]
theorem X9 {l:List Yi} {f:Yi×Unit} (hl:Len l) (p:Yi→Bool) (hp:∀ x∈l,Qm x f.fst=some (p x)):Yq l f=some (l.any p):=by
 unfold Yq
 rw [Qo hl p hp,Option.bind_some]
 congr 1
 rw [Bool.eq_iff_iff,decide_eq_true_eq,VN]
theorem QC {l:List Yi} {f:Int×Unit} (hl:Len l) (p:Yi→Bool) (hp:∀ x∈l,Zby x f.fst=some (p x)):YE l f=some (Za9 p l):=by
 unfold YE
 refine VG (out:=fun i=>i) hl (p:=p) (fun k x hx=>?_) ?_
 ·have hk:=(List.getElem?_eq_some_iff.1 hx).1
  simp only [YP,Yd,hx,Option.bind_some,show (k:Int)<(l.length:Int) from by omega,if_true,hp x (List.mem_of_getElem? hx)]
  split<;>rfl
 ·simp only [YP,Int.lt_irrefl,if_false]
theorem Qp {l:List Yi} {f:Int×Unit} (hl:Len l) (p:Yi→Bool) (hp:∀ x∈l,Zby x f.fst=some (p x)):YA l f=some (l.any p):=by
 unfold YA
 rw [QC hl p hp,Option.bind_some]
 congr 1
 rw [Bool.eq_iff_iff,decide_eq_true_eq,VN]
theorem Qq {l:List Int} {f:ZT×Unit} (hl:Len l) (p:Int→Bool) (hp:∀ x∈l,XR x f.fst=some (p x)):YB l f=some (Za9 p l):=by
 unfold YB
 refine VG (out:=fun i=>i) hl (p:=p) (fun k x hx=>?_) ?_
 ·have hk:=(List.getElem?_eq_some_iff.1 hx).1
  simp only [YJ,Yd,hx,Option.bind_some,show (k:Int)<(l.length:Int) from by omega,if_true,hp x (List.mem_of_getElem? hx)]
  split<;>rfl
 ·simp only [YJ,Int.lt_irrefl,if_false]
theorem Qb {l:List Int} {f:ZT×Unit} (hl:Len l) (p:Int→Bool) (hp:∀ x∈l,XR x f.fst=some (p x)):Yu l f=some (l.any p):=by
 unfold Yu
 rw [Qq hl p hp,Option.bind_some]
 congr 1
 rw [Bool.eq_iff_iff,decide_eq_true_eq,VN]
theorem VT {l:List Int} {f:Unit} (hl:Len l) (p:Int→Bool) (hp:∀ x∈l,Zbz x=some (p x)):Y1 l f=some (Za9 p l):=by
 unfold Y1
 refine VG (out:=fun i=>i) hl (p:=p) (fun k x hx=>?_) ?_
 ·have hk:=(List.getElem?_eq_some_iff.1 hx).1
  simp only [Xa,Yd,hx,Option.bind_some,show (k:Int)<(l.length:Int) from by omega,if_true,hp x (List.mem_of_getElem? hx)]
  split<;>rfl
 ·simp only [Xa,Int.lt_irrefl,if_false]
theorem Vr {l:List Int} {f:Unit} (hl:Len l) (p:Int→Bool) (hp:∀ x∈l,Zbz x=some (p x)):YS l f=some (l.any p):=by
 unfold YS
 rw [VT hl p hp,Option.bind_some]
 congr 1
 rw [Bool.eq_iff_iff,decide_eq_true_eq,VN]
theorem XI {l:List ZW} {f:List UInt8×Unit} (hl:Len l) (p:ZW→Bool) (hp:∀ x∈l,Zax x f.fst=some (p x)):Yl l f=some (Za9 p l):=by
 unfold Yl
 refine VG (out:=fun i=>i) hl (p:=p) (fun k x hx=>?_) ?_
 ·have hk:=(List.getElem?_eq_some_iff.1 hx).1
  simp only [Yt,Yd,hx,Option.bind_some,show (k:Int)<(l.length:Int) from by omega,if_true,hp x (List.mem_of_getElem? hx)]
  split<;>rfl
 ·simp only [Yt,Int.lt_irrefl,if_false]
end Go.Proofs.YtdabmnfkcnkkbaaGreatDoor
/-
  Plain laws: arguments counted, copied, compared. Printed by program (szgen.py).
-/
namespace Go.Proofs.YtdabmnfkcnkkbaaGreatDoor
open Go Go.Sx
set_option linter.unusedVariables false
set_option linter.unusedSimpArgs false
theorem ZiI (a:YX) (left:Int) (h0:0≤left) (h1:left≤1048576) (hb:bnd (Zcb) a):Szd (Zb6 a left) left (sm (Zcb) a):=by
 unfold Zb6
 refine Szd.len h0 h1 (by omega) hb.1 (fun hw a0 b0 s0=>?_)
 rw [hw]
 exact Szd.ret ⟨s0,QD _ (by rfl) _,QD _ (by rfl) _,QD _ (by rfl) _,trivial⟩
theorem Zmo (a:List (YX)) (left:Int) (h0:0≤left) (h1:left≤1048576) (hb:bnd (.sl (Zcb)) a):Szd (ZcV a left) left (sm (.sl (Zcb)) a):=by
 unfold ZcV
 refine Szd.len h0 h1 (by omega) hb.1 (fun hw m0 m1 hn=>?_)
 rw [hw]
 exact (Szd.loop (f:=fun x m=>Zb6 x m) (P:=fun x=>sm (Zcb) x) (fun x hx m m0 m1=>ZiI x m m0 m1 (hb.2 x hx)) (fun k m=>rfl) m0 m1 hn).mono (fun h=>⟨hn,h⟩)
theorem XV (a:List (Int)) (left:Int) (h0:0≤left) (h1:left≤1048576) (hb:bnd (.sl (.int .i64)) a):Szd (Xy a left) left (sm (.sl (.int .i64)) a):=by
 unfold Xy
 refine Szd.len h0 h1 (by omega) hb.1 (fun hw m0 m1 hn=>?_)
 rw [hw]
 exact Szd.ret ⟨hn,fun x _=>QD (.int .i64) (by rfl) x⟩
theorem ZgA (a:Yb) (left:Int) (h0:0≤left) (h1:left≤1048576) (hb:bnd (Xc) a):Szd (Jz a left) left (sm (Xc) a):=by
 unfold Jz
 refine Szd.then (XV _ _ h0 h1 hb.1) h0 h1 (fun m0 a0 b0 s0=>?_)
 refine Szd.then (XV _ _ a0 b0 hb.2.1) a0 b0 (fun m1 a1 b1 s1=>?_)
 refine Szd.last (XV _ _ a1 b1 hb.2.2.1) a1 (fun s2=>?_)
 exact ⟨s0,s1,s2,trivial⟩
theorem Zgb (a:List (Yb)) (left:Int) (h0:0≤left) (h1:left≤1048576) (hb:bnd (.sl (Xc)) a):Szd (JK a left) left (sm (.sl (Xc)) a):=by
 unfold JK
 refine Szd.len h0 h1 (by omega) hb.1 (fun hw m0 m1 hn=>?_)
 rw [hw]
 exact (Szd.loop (f:=fun x m=>Jz x m) (P:=fun x=>sm (Xc) x) (fun x hx m m0 m1=>ZgA x m m0 m1 (hb.2 x hx)) (fun k m=>rfl) m0 m1 hn).mono (fun h=>⟨hn,h⟩)
theorem ZiF (a:Yi) (left:Int) (h0:0≤left) (h1:left≤1048576) (hb:bnd (Zdz) a):Szd (Zb3 a left) left (sm (Zdz) a):=by
 unfold Zb3
 refine Szd.then (Zgb _ _ h0 h1 hb.2.2.2.2.1) h0 h1 (fun m0 a0 b0 s0=>?_)
 refine Szd.last (Zgb _ _ a0 b0 hb.2.2.2.2.2.1) a0 (fun s1=>?_)
 exact ⟨QD _ (by rfl) _,QD _ (by rfl) _,QD _ (by rfl) _,QD _ (by rfl) _,s0,s1,trivial⟩
theorem Zml (a:List (Yi)) (left:Int) (h0:0≤left) (h1:left≤1048576) (hb:bnd (.sl (Zdz)) a):Szd (ZcT a left) left (sm (.sl (Zdz)) a):=by
 unfold ZcT
 refine Szd.len h0 h1 (by omega) hb.1 (fun hw m0 m1 hn=>?_)
 rw [hw]
 exact (Szd.loop (f:=fun x m=>Zb3 x m) (P:=fun x=>sm (Zdz) x) (fun x hx m m0 m1=>ZiF x m m0 m1 (hb.2 x hx)) (fun k m=>rfl) m0 m1 hn).mono (fun h=>⟨hn,h⟩)
theorem Zhz (a:Z4) (left:Int) (h0:0≤left) (h1:left≤1048576) (hb:bnd (XZ) a):Szd (ZaD a left) left (sm (XZ) a):=by
 unfold ZaD
 refine Szd.len h0 h1 (by omega) hb.1 (fun hw a0 b0 s0=>?_)
 rw [hw]
 refine Szd.then (Zmo _ _ a0 b0 hb.2.2.1) a0 b0 (fun m1 a1 b1 s1=>?_)
 refine Szd.then (Zml _ _ a1 b1 hb.2.2.2.1) a1 b1 (fun m2 a2 b2 s2=>?_)
 refine Szd.last (XV _ _ a2 b2 hb.2.2.2.2.1) a2 (fun s3=>?_)
 exact ⟨s0,QD _ (by rfl) _,s1,s2,s3,QD _ (by rfl) _,QD _ (by rfl) _,trivial⟩
theorem Zll (a:List (Z4)) (left:Int) (h0:0≤left) (h1:left≤1048576) (hb:bnd (.sl (XZ)) a):Szd (Zb5 a left) left (sm (.sl (XZ)) a):=by
 unfold Zb5
 refine Szd.len h0 h1 (by omega) hb.1 (fun hw m0 m1 hn=>?_)
 rw [hw]
 exact (Szd.loop (f:=fun x m=>ZaD x m) (P:=fun x=>sm (XZ) x) (fun x hx m m0 m1=>Zhz x m m0 m1 (hb.2 x hx)) (fun k m=>rfl) m0 m1 hn).mono (fun h=>⟨hn,h⟩)
theorem Zjz (a:Z7) (left:Int) (h0:0≤left) (h1:left≤1048576) (hb:bnd (Y9) a):Szd (J8 a left) left (sm (Y9) a):=by
 unfold J8
 refine Szd.last (Zll _ _ h0 h1 hb.1) h0 (fun s0=>?_)
 exact ⟨s0,trivial⟩
theorem ZeP (a:ZW) (left:Int) (h0:0≤left) (h1:left≤1048576) (hb:bnd (Yr) a):Szd (QK a left) left (sm (Yr) a):=by
 unfold QK
 refine Szd.len h0 h1 (by omega) hb.1 (fun hw a0 b0 s0=>?_)
 rw [hw]
 refine Szd.last (XV _ _ a0 b0 hb.2.2.1) a0 (fun s1=>?_)
 exact ⟨s0,QD _ (by rfl) _,s1,trivial⟩
theorem ZhY (a:List (ZW)) (left:Int) (h0:0≤left) (h1:left≤1048576) (hb:bnd (.sl (Yr)) a):Szd (VH a left) left (sm (.sl (Yr)) a):=by
 unfold VH
 refine Szd.len h0 h1 (by omega) hb.1 (fun hw m0 m1 hn=>?_)
 rw [hw]
 exact (Szd.loop (f:=fun x m=>QK x m) (P:=fun x=>sm (Yr) x) (fun x hx m m0 m1=>ZeP x m m0 m1 (hb.2 x hx)) (fun k m=>rfl) m0 m1 hn).mono (fun h=>⟨hn,h⟩)
theorem ZjB (a:List (List UInt8)) (left:Int) (h0:0≤left) (h1:left≤1048576) (hb:bnd (.sl (.str)) a):Szd (J9 a left) left (sm (.sl (.str)) a):=by
 unfold J9
 refine Szd.len h0 h1 (by omega) hb.1 (fun hw m0 m1 hn=>?_)
 rw [hw]
 exact (Szd.loop (f:=fun x m=>if IntKind.i64.wrap (m-(x.length:Int))<0 then some (-1) else some (IntKind.i64.wrap (m-(x.length:Int)))) (P:=fun x=>sm .str x) (fun x hx m m0 m1=>Szd.len m0 m1 (by omega) (hb.2 x hx) (fun hw _ _ hn=>by rw [hw];exact Szd.ret hn)) (fun k m=>by
  show Q6 a m (k:Int)=_
  unfold Q6
  congr 1;congr 1;funext x;split<;>simp_all) m0 m1 hn).mono (fun h=>⟨hn,h⟩)
theorem ZhA (a:Ym) (left:Int) (h0:0≤left) (h1:left≤1048576) (hb:bnd (VX) a):Szd (ZaE a left) left (sm (VX) a):=by
 unfold ZaE
 refine Szd.len h0 h1 (by omega) hb.1 (fun hw a0 b0 s0=>?_)
 rw [hw]
 exact Szd.ret ⟨s0,QD _ (by rfl) _,QD _ (by rfl) _,trivial⟩
theorem Zlp (a:List (Ym)) (left:Int) (h0:0≤left) (h1:left≤1048576) (hb:bnd (.sl (VX)) a):Szd (Zb7 a left) left (sm (.sl (VX)) a):=by
 unfold Zb7
 refine Szd.len h0 h1 (by omega) hb.1 (fun hw m0 m1 hn=>?_)
 rw [hw]
 exact (Szd.loop (f:=fun x m=>ZaE x m) (P:=fun x=>sm (VX) x) (fun x hx m m0 m1=>ZhA x m m0 m1 (hb.2 x hx)) (fun k m=>rfl) m0 m1 hn).mono (fun h=>⟨hn,h⟩)
theorem Zkt (a:ZT) (left:Int) (h0:0≤left) (h1:left≤1048576) (hb:bnd (YQ) a):Szd (ZaX a left) left (sm (YQ) a):=by
 unfold ZaX
 refine Szd.then (ZhY _ _ h0 h1 hb.1) h0 h1 (fun m0 a0 b0 s0=>?_)
 refine Szd.then (ZjB _ _ a0 b0 hb.2.1) a0 b0 (fun m1 a1 b1 s1=>?_)
 refine Szd.last (Zlp _ _ a1 b1 hb.2.2.1) a1 (fun s2=>?_)
 exact ⟨s0,s1,s2,trivial⟩
theorem Zfc (a:Z9) (left:Int) (h0:0≤left) (h1:left≤1048576) (hb:bnd (Xr) a):Szd (JL a left) left (sm (Xr) a):=by
 unfold JL
 refine Szd.then (XV _ _ h0 h1 hb.1) h0 h1 (fun m0 a0 b0 s0=>?_)
 refine Szd.then (XV _ _ a0 b0 hb.2.1) a0 b0 (fun m1 a1 b1 s1=>?_)
 refine Szd.then (XV _ _ a1 b1 hb.2.2.1) a1 b1 (fun m2 a2 b2 s2=>?_)
 refine Szd.last (XV _ _ a2 b2 hb.2.2.2.1) a2 (fun s3=>?_)
 exact ⟨s0,s1,s2,s3,trivial⟩
theorem Zlr (a:List (Z9)) (left:Int) (h0:0≤left) (h1:left≤1048576) (hb:bnd (.sl (Xr)) a):Szd (Zb8 a left) left (sm (.sl (Xr)) a):=by
 unfold Zb8
 refine Szd.len h0 h1 (by omega) hb.1 (fun hw m0 m1 hn=>?_)
 rw [hw]
 exact (Szd.loop (f:=fun x m=>JL x m) (P:=fun x=>sm (Xr) x) (fun x hx m m0 m1=>Zfc x m m0 m1 (hb.2 x hx)) (fun k m=>rfl) m0 m1 hn).mono (fun h=>⟨hn,h⟩)
theorem Zlk (a:ZU) (left:Int) (h0:0≤left) (h1:left≤1048576) (hb:bnd (Xg) a):Szd (Zb4 a left) left (sm (Xg) a):=by
 unfold Zb4
 refine Szd.then (Zjz _ _ h0 h1 hb.1) h0 h1 (fun m0 a0 b0 s0=>?_)
 refine Szd.then (Zkt _ _ a0 b0 hb.2.1) a0 b0 (fun m1 a1 b1 s1=>?_)
 refine Szd.last (Zlr _ _ a1 b1 hb.2.2.1) a1 (fun s2=>?_)
 exact ⟨s0,s1,s2,trivial⟩
theorem Zmn (a:ZY) (left:Int) (h0:0≤left) (h1:left≤1048576) (hb:bnd (QZ) a):Szd (ZcU a left) left (sm (QZ) a):=by
 unfold ZcU
 refine Szd.len h0 h1 (by omega) hb.2.2.2.2.2.1 (fun hw a0 b0 s0=>?_)
 rw [hw]
 refine Szd.last (Zfc _ _ a0 b0 hb.2.2.2.2.2.2.1) a0 (fun s1=>?_)
 exact ⟨QD _ (by rfl) _,QD _ (by rfl) _,QD _ (by rfl) _,QD _ (by rfl) _,QD _ (by rfl) _,s0,s1,trivial⟩
theorem Znm (a:YX) (hs:sm (Zcb) a):Zfr a=some a:=by
 unfold Zfr
 all_goals rfl
theorem Zmt (a:List (YX)) (hs:sm (.sl (Zcb)) a):ZfO a=some a:=by
 unfold ZfO
 have h:=hs.1
 rw [Z5 (by omega),Z5 (by omega),Z5 (by omega),Z5 (by omega)]
 exact Zcd (f:=Zfr) (fun x hx=>Znm x (hs.2 x hx)) (fun k out=>rfl) h
theorem XY (a:List (Int)) (hs:sm (.sl (.int .i64)) a):XW a=some a:=by
 unfold XW
 have h:=hs.1
 rw [Z5 (by omega),Z5 (by omega),Z5 (by omega),Z5 (by omega)]
 exact Zcd (f:=some) (fun x _=>rfl) (fun k out=>rfl) h
theorem Zlv (a:Yb) (hs:sm (Xc) a):Zdu a=some a:=by
 unfold Zdu
 rw [XY _ hs.1,Option.bind_some,XY _ hs.2.1,Option.bind_some,XY _ hs.2.2.1,Option.bind_some]
 all_goals rfl
theorem Zgc (a:List (Yb)) (hs:sm (.sl (Xc)) a):Zcs a=some a:=by
 unfold Zcs
 have h:=hs.1
 rw [Z5 (by omega),Z5 (by omega),Z5 (by omega),Z5 (by omega)]
 exact Zcd (f:=Zdu) (fun x hx=>Zlv x (hs.2 x hx)) (fun k out=>rfl) h
theorem Znl (a:Yi) (hs:sm (Zdz) a):Zfq a=some a:=by
 unfold Zfq
 rw [Zgc _ hs.2.2.2.2.1,Option.bind_some,Zgc _ hs.2.2.2.2.2.1,Option.bind_some]
 all_goals rfl
theorem Zmq (a:List (Yi)) (hs:sm (.sl (Zdz)) a):ZfM a=some a:=by
 unfold ZfM
 have h:=hs.1
 rw [Z5 (by omega),Z5 (by omega),Z5 (by omega),Z5 (by omega)]
 exact Zcd (f:=Zfq) (fun x hx=>Znl x (hs.2 x hx)) (fun k out=>rfl) h
theorem Zmr (a:Z4) (hs:sm (XZ) a):Zer a=some a:=by
 unfold Zer
 rw [Zmt _ hs.2.2.1,Option.bind_some,Zmq _ hs.2.2.2.1,Option.bind_some,XY _ hs.2.2.2.2.1,Option.bind_some]
 all_goals rfl
theorem Zlt (a:List (Z4)) (hs:sm (.sl (XZ)) a):ZeR a=some a:=by
 unfold ZeR
 have h:=hs.1
 rw [Z5 (by omega),Z5 (by omega),Z5 (by omega),Z5 (by omega)]
 exact Zcd (f:=Zer) (fun x hx=>Zmr x (hs.2 x hx)) (fun k out=>rfl) h
theorem ZjD (a:Z7) (hs:sm (Y9) a):Zdk a=some a:=by
 unfold Zdk
 rw [Zlt _ hs.1,Option.bind_some]
 all_goals rfl
theorem ZiN (a:ZW) (hs:sm (Yr) a):ZaF a=some a:=by
 unfold ZaF
 rw [XY _ hs.2.2.1,Option.bind_some]
 all_goals rfl
theorem Zh1 (a:List (ZW)) (hs:sm (.sl (Yr)) a):ZbE a=some a:=by
 unfold ZbE
 have h:=hs.1
 rw [Z5 (by omega),Z5 (by omega),Z5 (by omega),Z5 (by omega)]
 exact Zcd (f:=ZaF) (fun x hx=>ZiN x (hs.2 x hx)) (fun k out=>rfl) h
theorem ZjF (a:List (List UInt8)) (hs:sm (.sl (.str)) a):Zdl a=some a:=by
 unfold Zdl
 have h:=hs.1
 rw [Z5 (by omega),Z5 (by omega),Z5 (by omega),Z5 (by omega)]
 exact Zcd (f:=some) (fun x _=>rfl) (fun k out=>rfl) h
theorem Zmu (a:Ym) (hs:sm (VX) a):Zes a=some a:=by
 unfold Zes
 all_goals rfl
theorem Zlu (a:List (Ym)) (hs:sm (.sl (VX)) a):ZeS a=some a:=by
 unfold ZeS
 have h:=hs.1
 rw [Z5 (by omega),Z5 (by omega),Z5 (by omega),Z5 (by omega)]
 exact Zcd (f:=Zes) (fun x hx=>Zmu x (hs.2 x hx)) (fun k out=>rfl) h
theorem Zkx (a:ZT) (hs:sm (YQ) a):ZdZ a=some a:=by
 unfold ZdZ
 rw [Zh1 _ hs.1,Option.bind_some,ZjF _ hs.2.1,Option.bind_some,Zlu _ hs.2.2.1,Option.bind_some]
 all_goals rfl
theorem ZhB (a:Z9) (hs:sm (Xr) a):ZcW a=some a:=by
 unfold ZcW
 rw [XY _ hs.1,Option.bind_some,XY _ hs.2.1,Option.bind_some,XY _ hs.2.2.1,Option.bind_some,XY _ hs.2.2.2.1,Option.bind_some]
 all_goals rfl
theorem Zlw (a:List (Z9)) (hs:sm (.sl (Xr)) a):ZeT a=some a:=by
 unfold ZeT
 have h:=hs.1
 rw [Z5 (by omega),Z5 (by omega),Z5 (by omega),Z5 (by omega)]
 exact Zcd (f:=ZcW) (fun x hx=>ZhB x (hs.2 x hx)) (fun k out=>rfl) h
theorem Zls (a:ZU) (hs:sm (Xg) a):ZeQ a=some a:=by
 unfold ZeQ
 rw [ZjD _ hs.1,Option.bind_some,Zkx _ hs.2.1,Option.bind_some,Zlw _ hs.2.2.1,Option.bind_some]
 all_goals rfl
theorem Zms (a:ZY) (hs:sm (QZ) a):ZfN a=some a:=by
 unfold ZfN
 rw [ZhB _ hs.2.2.2.2.2.2.1,Option.bind_some]
 all_goals rfl
theorem XA (a:List (Int)) (hs:sm (.sl (.int .i64)) a):XD a a=some true:=by
 unfold XD
 rw [if_pos rfl]
 exact Zpr (fun k=>rfl) hs.1
theorem Znk (a:YX) (hs:sm (Zcb) a):Zfo a a=some true:=by
 unfold Zfo
 simp
theorem Zmj (a:List (YX)) (hs:sm (.sl (Zcb)) a):ZfL a a=some true:=by
 unfold ZfL
 rw [if_pos rfl]
 exact ZhO (f:=Zfo) (fun x hx=>Znk x (hs.2 x hx)) (fun k=>rfl) hs.1
theorem Zlh (a:Yb) (hs:sm (Xc) a):Zdt a a=some true:=by
 unfold Zdt
 simp [XA _ hs.1,XA _ hs.2.1,XA _ hs.2.2.1]
theorem Zga (a:List (Yb)) (hs:sm (.sl (Xc)) a):Zcp a a=some true:=by
 unfold Zcp
 rw [if_pos rfl]
 exact ZhO (f:=Zdt) (fun x hx=>Zlh x (hs.2 x hx)) (fun k=>rfl) hs.1
theorem Znj (a:Yi) (hs:sm (Zdz) a):Zfn a a=some true:=by
 unfold Zfn
 simp [Zga _ hs.2.2.2.2.1,Zga _ hs.2.2.2.2.2.1]
theorem Zmg (a:List (Yi)) (hs:sm (.sl (Zdz)) a):ZfJ a a=some true:=by
 unfold ZfJ
 rw [if_pos rfl]
 exact ZhO (f:=Zfn) (fun x hx=>Znj x (hs.2 x hx)) (fun k=>rfl) hs.1
theorem Zmh (a:Z4) (hs:sm (XZ) a):Zep a a=some true:=by
 unfold Zep
 simp [Zmj _ hs.2.2.1,Zmg _ hs.2.2.2.1,XA _ hs.2.2.2.2.1]
theorem Zlf (a:List (Z4)) (hs:sm (.sl (XZ)) a):ZeL a a=some true:=by
 unfold ZeL
 rw [if_pos rfl]
 exact ZhO (f:=Zep) (fun x hx=>Zmh x (hs.2 x hx)) (fun k=>rfl) hs.1
theorem Zjq (a:Z7) (hs:sm (Y9) a):Zde a a=some true:=by
 unfold Zde
 simp [Zlf _ hs.1]
theorem ZiB (a:ZW) (hs:sm (Yr) a):Zaz a a=some true:=by
 unfold Zaz
 simp [XA _ hs.2.2.1]
theorem ZhT (a:List (ZW)) (hs:sm (.sl (Yr)) a):ZbB a a=some true:=by
 unfold ZbB
 rw [if_pos rfl]
 exact ZhO (f:=Zaz) (fun x hx=>ZiB x (hs.2 x hx)) (fun k=>rfl) hs.1
theorem Zjs (a:List (List UInt8)) (hs:sm (.sl (.str)) a):Zdf a a=some true:=by
 unfold Zdf
 rw [if_pos rfl]
 exact Zpr (fun k=>rfl) hs.1
theorem Zmk (a:Ym) (hs:sm (VX) a):Zeq a a=some true:=by
 unfold Zeq
 simp
theorem Zlg (a:List (Ym)) (hs:sm (.sl (VX)) a):ZeM a a=some true:=by
 unfold ZeM
 rw [if_pos rfl]
 exact ZhO (f:=Zeq) (fun x hx=>Zmk x (hs.2 x hx)) (fun k=>rfl) hs.1
theorem Zkm (a:ZT) (hs:sm (YQ) a):ZdU a a=some true:=by
 unfold ZdU
 simp [ZhT _ hs.1,Zjs _ hs.2.1,Zlg _ hs.2.2.1]
theorem Zhy (a:Z9) (hs:sm (Xr) a):ZcS a a=some true:=by
 unfold ZcS
 simp [XA _ hs.1,XA _ hs.2.1,XA _ hs.2.2.1,XA _ hs.2.2.2.1]
theorem Zli (a:List (Z9)) (hs:sm (.sl (Xr)) a):ZeN a a=some true:=by
 unfold ZeN
 rw [if_pos rfl]
 exact ZhO (f:=ZcS) (fun x hx=>Zhy x (hs.2 x hx)) (fun k=>rfl) hs.1
theorem Zle (a:ZU) (hs:sm (Xg) a):ZeK a a=some true:=by
 unfold ZeK
 simp [Zjq _ hs.1,Zkm _ hs.2.1,Zli _ hs.2.2.1]
theorem Zmi (a:ZY) (hs:sm (QZ) a):ZfK a a=some true:=by
 unfold ZfK
 simp [Zhy _ hs.2.2.2.2.2.2.1]
end Go.Proofs.YtdabmnfkcnkkbaaGreatDoor
/-
  Plain laws: all lengths together; marks. Printed by program (totgen.py).
-/
namespace Go.Proofs.YtdabmnfkcnkkbaaGreatDoor
open Go Go.Sx
set_option linter.unusedVariables false
set_option linter.unusedSimpArgs false
theorem ZsH {α:Type} {L:List α} {j:Nat} {z:α} {A A' B B':Int} (hA:A=A') (hB:B=B'):∃ y,(some (.inl (A,B,List.set L j z,())):Option ((Int×Int×List α×Unit) ⊕ (Int×List α)))=some (.inl (A',B',List.set L j y,())):=⟨z,by rw [hA,hB]⟩
theorem Zet (k:Int) (h0:0≤k) (h1:k≤4611686018427387904):∃ s,VQ k=some s:=by
 unfold VQ
 split
 ·exact ⟨_,rfl⟩
 ·obtain ⟨r,h,_⟩:=Zqx (step:=fun v=>ZbO v.1 v.2.1) (fun v:Int×List UInt8×Unit=>0≤v.1∧v.1+(v.2.1.length:Int)≤4611686018427387904) (fun v=>v.1.toNat) (fun _=>True) (v:=(k,([]:List UInt8),())) ⟨h0,by simpa using h1⟩
   (by
    rintro ⟨m,s,⟨⟩⟩ ⟨a,b⟩
    simp only at a b
    simp only [ZbO]
    by_cases hm:0<m
    ·have e1:Int.tdiv m 10=m / 10:=Int.tdiv_eq_ediv_of_nonneg a
     rw [if_pos hm,e1,V4 (n:=m / 10) (by omega) (by omega),Z5 (by simp only [bytesOf,List.length_map,List.length_singleton];omega)]
     refine .inl ⟨_,rfl,⟨by simp only;omega,?_⟩,by simp only;omega⟩
     simp only [List.length_append,bytesOf,List.length_map,List.length_singleton]
     omega
    ·rw [if_neg hm,Z5 (by simp only [List.length_singleton];omega)]
     exact .inr ⟨_,rfl,trivial⟩)
  exact ⟨r,h⟩
theorem Zmp (a:YX) (left:Int) (h0:0≤left) (h1:left≤1048576) (hb:bnd (Zcb) a):Szt (Zb6 a left) left (tot (Zcb) a):=by
 unfold Zb6
 exact (Szt.len h0 h1 (by omega) hb.1 (fun hw0 a0 b0=>by rw [hw0];exact Szt.ret)).mono (by simp only [ZbG,ZdJ,ZcF,ZbH,Zc7];omega)
theorem Zlo (a:List (YX)) (left:Int) (h0:0≤left) (h1:left≤1048576) (hb:bnd (.sl (Zcb)) a):Szt (ZcV a left) left (tot (.sl (Zcb)) a):=by
 unfold ZcV
 refine (Szt.len h0 h1 (by omega) hb.1 (fun hw m0 m1=>(?_:Szt _ _ ((a.map (tot (Zcb))).sum)))).mono (by rw [Zi5];omega)
 rw [hw]
 exact Szt.loop (f:=fun x m=>Zb6 x m) (P:=fun x=>sm (Zcb) x) (T:=tot (Zcb)) (fun x hx m m0 m1=>ZiI x m m0 m1 (hb.2 x hx)) (fun x hx m m0 m1=>Zmp x m m0 m1 (hb.2 x hx)) (fun k m=>rfl) m0 m1 (by omega)
theorem XE (a:List (Int)) (left:Int) (h0:0≤left) (h1:left≤1048576) (hb:bnd (.sl (.int .i64)) a):Szt (Xy a left) left (tot (.sl (.int .i64)) a):=by
 unfold Xy
 refine (Szt.len h0 h1 (by omega) hb.1 (fun hw m0 m1=>(?_:Szt _ _ ((a.map (tot (.int .i64))).sum)))).mono (by rw [Zi5];omega)
 rw [hw]
 exact Szt.ret.mono (by rw [ZrS (by rfl)];omega)
theorem Zkv (a:Yb) (left:Int) (h0:0≤left) (h1:left≤1048576) (hb:bnd (Xc) a):Szt (Jz a left) left (tot (Xc) a):=by
 unfold Jz
 exact (Szt.then (XE a.1 _ h0 h1 hb.1) h0 h1 (fun m0 a0 b0=>Szt.then (XE a.2.1 _ a0 b0 hb.2.1) a0 b0 (fun m1 a1 b1=>Szt.last (XE a.2.2.1 _ a1 b1 hb.2.2.1)))).mono (by simp only [ZbG,ZdJ,ZcF,ZbH,Zc7];omega)
theorem Zfp (a:List (Yb)) (left:Int) (h0:0≤left) (h1:left≤1048576) (hb:bnd (.sl (Xc)) a):Szt (JK a left) left (tot (.sl (Xc)) a):=by
 unfold JK
 refine (Szt.len h0 h1 (by omega) hb.1 (fun hw m0 m1=>(?_:Szt _ _ ((a.map (tot (Xc))).sum)))).mono (by rw [Zi5];omega)
 rw [hw]
 exact Szt.loop (f:=fun x m=>Jz x m) (P:=fun x=>sm (Xc) x) (T:=tot (Xc)) (fun x hx m m0 m1=>ZgA x m m0 m1 (hb.2 x hx)) (fun x hx m m0 m1=>Zkv x m m0 m1 (hb.2 x hx)) (fun k m=>rfl) m0 m1 (by omega)
theorem Zmm (a:Yi) (left:Int) (h0:0≤left) (h1:left≤1048576) (hb:bnd (Zdz) a):Szt (Zb3 a left) left (tot (Zdz) a):=by
 unfold Zb3
 exact (Szt.then (Zfp a.2.2.2.2.1 _ h0 h1 hb.2.2.2.2.1) h0 h1 (fun m0 a0 b0=>Szt.last (Zfp a.2.2.2.2.2.1 _ a0 b0 hb.2.2.2.2.2.1))).mono (by simp only [ZbG,ZdJ,ZcF,ZbH,Zc7];omega)
theorem Zlj (a:List (Yi)) (left:Int) (h0:0≤left) (h1:left≤1048576) (hb:bnd (.sl (Zdz)) a):Szt (ZcT a left) left (tot (.sl (Zdz)) a):=by
 unfold ZcT
 refine (Szt.len h0 h1 (by omega) hb.1 (fun hw m0 m1=>(?_:Szt _ _ ((a.map (tot (Zdz))).sum)))).mono (by rw [Zi5];omega)
 rw [hw]
 exact Szt.loop (f:=fun x m=>Zb3 x m) (P:=fun x=>sm (Zdz) x) (T:=tot (Zdz)) (fun x hx m m0 m1=>ZiF x m m0 m1 (hb.2 x hx)) (fun x hx m m0 m1=>Zmm x m m0 m1 (hb.2 x hx)) (fun k m=>rfl) m0 m1 (by omega)
theorem Zlm (a:Z4) (left:Int) (h0:0≤left) (h1:left≤1048576) (hb:bnd (XZ) a):Szt (ZaD a left) left (tot (XZ) a):=by
 unfold ZaD
 exact (Szt.len h0 h1 (by omega) hb.1 (fun hw0 a0 b0=>by rw [hw0];exact Szt.then (Zlo a.2.2.1 _ a0 b0 hb.2.2.1) a0 b0 (fun m1 a1 b1=>Szt.then (Zlj a.2.2.2.1 _ a1 b1 hb.2.2.2.1) a1 b1 (fun m2 a2 b2=>Szt.last (XE a.2.2.2.2.1 _ a2 b2 hb.2.2.2.2.1))))).mono (by simp only [ZbG,ZdJ,ZcF,ZbH,Zc7];omega)
theorem Zks (a:List (Z4)) (left:Int) (h0:0≤left) (h1:left≤1048576) (hb:bnd (.sl (XZ)) a):Szt (Zb5 a left) left (tot (.sl (XZ)) a):=by
 unfold Zb5
 refine (Szt.len h0 h1 (by omega) hb.1 (fun hw m0 m1=>(?_:Szt _ _ ((a.map (tot (XZ))).sum)))).mono (by rw [Zi5];omega)
 rw [hw]
 exact Szt.loop (f:=fun x m=>ZaD x m) (P:=fun x=>sm (XZ) x) (T:=tot (XZ)) (fun x hx m m0 m1=>Zhz x m m0 m1 (hb.2 x hx)) (fun x hx m m0 m1=>Zlm x m m0 m1 (hb.2 x hx)) (fun k m=>rfl) m0 m1 (by omega)
theorem ZiH (a:Z7) (left:Int) (h0:0≤left) (h1:left≤1048576) (hb:bnd (Y9) a):Szt (J8 a left) left (tot (Y9) a):=by
 unfold J8
 exact (Szt.last (Zks a.1 _ h0 h1 hb.1)).mono (by simp only [ZbG,ZdJ,ZcF,ZbH,Zc7];omega)
theorem ZhZ (a:ZW) (left:Int) (h0:0≤left) (h1:left≤1048576) (hb:bnd (Yr) a):Szt (QK a left) left (tot (Yr) a):=by
 unfold QK
 exact (Szt.len h0 h1 (by omega) hb.1 (fun hw0 a0 b0=>by rw [hw0];exact Szt.last (XE a.2.2.1 _ a0 b0 hb.2.2.1))).mono (by simp only [ZbG,ZdJ,ZcF,ZbH,Zc7];omega)
theorem Zhf (a:List (ZW)) (left:Int) (h0:0≤left) (h1:left≤1048576) (hb:bnd (.sl (Yr)) a):Szt (VH a left) left (tot (.sl (Yr)) a):=by
 unfold VH
 refine (Szt.len h0 h1 (by omega) hb.1 (fun hw m0 m1=>(?_:Szt _ _ ((a.map (tot (Yr))).sum)))).mono (by rw [Zi5];omega)
 rw [hw]
 exact Szt.loop (f:=fun x m=>QK x m) (P:=fun x=>sm (Yr) x) (T:=tot (Yr)) (fun x hx m m0 m1=>ZeP x m m0 m1 (hb.2 x hx)) (fun x hx m m0 m1=>ZhZ x m m0 m1 (hb.2 x hx)) (fun k m=>rfl) m0 m1 (by omega)
theorem ZiK (a:List (List UInt8)) (left:Int) (h0:0≤left) (h1:left≤1048576) (hb:bnd (.sl (.str)) a):Szt (J9 a left) left (tot (.sl (.str)) a):=by
 unfold J9
 refine (Szt.len h0 h1 (by omega) hb.1 (fun hw m0 m1=>(?_:Szt _ _ ((a.map (tot (.str))).sum)))).mono (by rw [Zi5];omega)
 rw [hw]
 exact Szt.loop (l:=a) (α:=List UInt8) (f:=fun (x:List UInt8) (m:Int)=>if IntKind.i64.wrap (m-(x.length:Int))<0 then some (-1) else some (IntKind.i64.wrap (m-(x.length:Int)))) (P:=fun (x:List UInt8)=>sm .str x) (T:=fun (x:List UInt8)=>tot .str x) (fun x hx m m0 m1=>Szd.str x m m0 m1 (hb.2 x hx)) (fun x hx m m0 m1=>Szt.str x m m0 m1 (hb.2 x hx)) (fun k m=>by
  show Q6 a m (k:Int)=_
  unfold Q6
  congr 1;congr 1;funext x;split<;>simp_all) m0 m1 (by omega)
theorem Zlq (a:Ym) (left:Int) (h0:0≤left) (h1:left≤1048576) (hb:bnd (VX) a):Szt (ZaE a left) left (tot (VX) a):=by
 unfold ZaE
 exact (Szt.len h0 h1 (by omega) hb.1 (fun hw0 a0 b0=>by rw [hw0];exact Szt.ret)).mono (by simp only [ZbG,ZdJ,ZcF,ZbH,Zc7];omega)
theorem Zku (a:List (Ym)) (left:Int) (h0:0≤left) (h1:left≤1048576) (hb:bnd (.sl (VX)) a):Szt (Zb7 a left) left (tot (.sl (VX)) a):=by
 unfold Zb7
 refine (Szt.len h0 h1 (by omega) hb.1 (fun hw m0 m1=>(?_:Szt _ _ ((a.map (tot (VX))).sum)))).mono (by rw [Zi5];omega)
 rw [hw]
 exact Szt.loop (f:=fun x m=>ZaE x m) (P:=fun x=>sm (VX) x) (T:=tot (VX)) (fun x hx m m0 m1=>ZhA x m m0 m1 (hb.2 x hx)) (fun x hx m m0 m1=>Zlq x m m0 m1 (hb.2 x hx)) (fun k m=>rfl) m0 m1 (by omega)
theorem Zjy (a:ZT) (left:Int) (h0:0≤left) (h1:left≤1048576) (hb:bnd (YQ) a):Szt (ZaX a left) left (tot (YQ) a):=by
 unfold ZaX
 exact (Szt.then (Zhf a.1 _ h0 h1 hb.1) h0 h1 (fun m0 a0 b0=>Szt.then (ZiK a.2.1 _ a0 b0 hb.2.1) a0 b0 (fun m1 a1 b1=>Szt.last (Zku a.2.2.1 _ a1 b1 hb.2.2.1)))).mono (by simp only [ZbG,ZdJ,ZcF,ZbH,Zc7];omega)
theorem ZgB (a:Z9) (left:Int) (h0:0≤left) (h1:left≤1048576) (hb:bnd (Xr) a):Szt (JL a left) left (tot (Xr) a):=by
 unfold JL
 exact (Szt.then (XE a.1 _ h0 h1 hb.1) h0 h1 (fun m0 a0 b0=>Szt.then (XE a.2.1 _ a0 b0 hb.2.1) a0 b0 (fun m1 a1 b1=>Szt.then (XE a.2.2.1 _ a1 b1 hb.2.2.1) a1 b1 (fun m2 a2 b2=>Szt.last (XE a.2.2.2.1 _ a2 b2 hb.2.2.2.1))))).mono (by simp only [ZbG,ZdJ,ZcF,ZbH,Zc7];omega)
theorem Zkw (a:List (Z9)) (left:Int) (h0:0≤left) (h1:left≤1048576) (hb:bnd (.sl (Xr)) a):Szt (Zb8 a left) left (tot (.sl (Xr)) a):=by
 unfold Zb8
 refine (Szt.len h0 h1 (by omega) hb.1 (fun hw m0 m1=>(?_:Szt _ _ ((a.map (tot (Xr))).sum)))).mono (by rw [Zi5];omega)
 rw [hw]
 exact Szt.loop (f:=fun x m=>JL x m) (P:=fun x=>sm (Xr) x) (T:=tot (Xr)) (fun x hx m m0 m1=>Zfc x m m0 m1 (hb.2 x hx)) (fun x hx m m0 m1=>ZgB x m m0 m1 (hb.2 x hx)) (fun k m=>rfl) m0 m1 (by omega)
theorem Zkr (a:ZU) (left:Int) (h0:0≤left) (h1:left≤1048576) (hb:bnd (Xg) a):Szt (Zb4 a left) left (tot (Xg) a):=by
 unfold Zb4
 exact (Szt.then (ZiH a.1 _ h0 h1 hb.1) h0 h1 (fun m0 a0 b0=>Szt.then (Zjy a.2.1 _ a0 b0 hb.2.1) a0 b0 (fun m1 a1 b1=>Szt.last (Zkw a.2.2.1 _ a1 b1 hb.2.2.1)))).mono (by simp only [ZbG,ZdJ,ZcF,ZbH,Zc7];omega)
theorem Zln (a:ZY) (left:Int) (h0:0≤left) (h1:left≤1048576) (hb:bnd (QZ) a):Szt (ZcU a left) left (tot (QZ) a):=by
 unfold ZcU
 exact (Szt.len h0 h1 (by omega) hb.2.2.2.2.2.1 (fun hw0 a0 b0=>by rw [hw0];exact Szt.last (ZgB a.2.2.2.2.2.2.1 _ a0 b0 hb.2.2.2.2.2.2.1))).mono (by simp only [ZbG,ZdJ,ZcF,ZbH,Zc7];omega)
theorem Zkp (a:List (YX)) (k:Int) (hs:sm (.sl (Zcb)) a) (h0:0≤k) (h1:k+(cnt (.sl (Zcb)) a:Int)≤4611686018427387904):Mkd (ZdX a k) k (cnt (.sl (Zcb)) a):=by
 unfold ZdX
 have hl:a.length≤1048576:=by have:=hs.1;omega
 refine Mkd.loop (l:=a) (c:=cnt (Zcb)) (fun j m x L hj hj' hL hx hxm hm0 hm1 hj2=>?_) (fun m L hL=>?_) hl h0 h1
 ·have hsx:=hs.2 x hxm
  have hc:((cnt (Zcb) x:Nat):Int)=0+1+1+1+1:=by simp only [Zbv,ZdB,Zbu,Zbw,ZdC];omega
  obtain ⟨s0,e0⟩:=Zet (m) (by omega) (by omega)
  have hx2:atI L (j:Int)=some x:=by rw [Yd];exact hx
  have hb:∀ {β:Type} (y:YX) (F:YX→Option β),(atI (List.set L j y) (j:Int)).bind F=F y:=fun y F=>by rw [ZfC hj];rfl
  simp only [ZbN,if_pos hj',Int.toNat_natCast,hx2,↓hb,Option.bind_some,List.set_set,e0]
  refine ZsH ?_ ?_
  ·have hc:=hc;simp (disch:=omega) only [V4];omega
  ·simp (disch:=omega) only [V4];omega
 ·simp only [ZbN,Int.lt_irrefl,if_false]
theorem Y0 (a:List (Int)) (k:Int) (hs:sm (.sl (.int .i64)) a) (h0:0≤k) (h1:k+(cnt (.sl (.int .i64)) a:Int)≤4611686018427387904):Mkd (YG a k) k (cnt (.sl (.int .i64)) a):=by
 unfold YG
 have hl:a.length≤1048576:=by have:=hs.1;omega
 refine Mkd.loop (l:=a) (c:=cnt (.int .i64)) (fun j m x L hj hj' hL hx hxm hm0 hm1 hj2=>?_) (fun m L hL=>?_) hl h0 h1
 ·have hsx:=hs.2 x hxm
  have hc:((cnt (.int .i64) x:Nat):Int)=0+1:=by rfl
  simp (disch:=omega) only [QJ,if_pos hj',Yd,hx,Option.bind_some,V4,Int.toNat_natCast,ZfC,List.length_set,List.set_set,List.getElem?_set_self]
  refine ⟨_,congrArg some (congrArg Sum.inl (Prod.ext ?_ (Prod.ext ?_ (Prod.ext rfl rfl))))⟩
  ·show _=m+_;rw [hc];omega
  ·simp only;omega
 ·simp only [QJ,Int.lt_irrefl,if_false]
theorem ZeO (a:List (Yb)) (k:Int) (hs:sm (.sl (Xc)) a) (h0:0≤k) (h1:k+(cnt (.sl (Xc)) a:Int)≤4611686018427387904):Mkd (ZaB a k) k (cnt (.sl (Xc)) a):=by
 unfold ZaB
 have hl:a.length≤1048576:=by have:=hs.1;omega
 refine Mkd.loop (l:=a) (c:=cnt (Xc)) (fun j m x L hj hj' hL hx hxm hm0 hm1 hj2=>?_) (fun m L hL=>?_) hl h0 h1
 ·have hsx:=hs.2 x hxm
  have hc:((cnt (Xc) x:Nat):Int)=0+((cnt (.sl (.int .i64)) x.1:Nat):Int)+((cnt (.sl (.int .i64)) x.2.1:Nat):Int)+((cnt (.sl (.int .i64)) x.2.2.1:Nat):Int):=by simp only [Zbv,ZdB,Zbu,Zbw,ZdC];omega
  obtain ⟨s0,e0⟩:=Y0 x.1 (m) hsx.1 (by omega) (by omega)
  obtain ⟨s1,e1⟩:=Y0 x.2.1 (m+((cnt (.sl (.int .i64)) x.1:Nat):Int)) hsx.2.1 (by omega) (by omega)
  obtain ⟨s2,e2⟩:=Y0 x.2.2.1 (m+((cnt (.sl (.int .i64)) x.1:Nat):Int)+((cnt (.sl (.int .i64)) x.2.1:Nat):Int)) hsx.2.2.1 (by omega) (by omega)
  simp (disch:=omega) only [ZaC,if_pos hj',Yd,hx,Option.bind_some,V4,Int.toNat_natCast,ZfC,List.length_set,List.set_set,List.getElem?_set_self,e0,e1,e2]
  refine ⟨_,congrArg some (congrArg Sum.inl (Prod.ext ?_ (Prod.ext ?_ (Prod.ext rfl rfl))))⟩
  ·show _=m+_;rw [hc];omega
  ·simp only;omega
 ·simp only [ZaC,Int.lt_irrefl,if_false]
theorem Zkn (a:List (Yi)) (k:Int) (hs:sm (.sl (Zdz)) a) (h0:0≤k) (h1:k+(cnt (.sl (Zdz)) a:Int)≤4611686018427387904):Mkd (ZdV a k) k (cnt (.sl (Zdz)) a):=by
 unfold ZdV
 have hl:a.length≤1048576:=by have:=hs.1;omega
 refine Mkd.loop (l:=a) (c:=cnt (Zdz)) (fun j m x L hj hj' hL hx hxm hm0 hm1 hj2=>?_) (fun m L hL=>?_) hl h0 h1
 ·have hsx:=hs.2 x hxm
  have hc:((cnt (Zdz) x:Nat):Int)=0+1+1+1+1+((cnt (.sl (Xc)) x.2.2.2.2.1:Nat):Int)+((cnt (.sl (Xc)) x.2.2.2.2.2.1:Nat):Int):=by simp only [Zbv,ZdB,Zbu,Zbw,ZdC];omega
  obtain ⟨s0,e0⟩:=ZeO x.2.2.2.2.1 (m+1+1+1+1) hsx.2.2.2.2.1 (by omega) (by omega)
  obtain ⟨s1,e1⟩:=ZeO x.2.2.2.2.2.1 (m+1+1+1+1+((cnt (.sl (Xc)) x.2.2.2.2.1:Nat):Int)) hsx.2.2.2.2.2.1 (by omega) (by omega)
  simp (disch:=omega) only [ZbM,if_pos hj',Yd,hx,Option.bind_some,V4,Int.toNat_natCast,ZfC,List.length_set,List.set_set,List.getElem?_set_self,e0,e1]
  refine ⟨_,congrArg some (congrArg Sum.inl (Prod.ext ?_ (Prod.ext ?_ (Prod.ext rfl rfl))))⟩
  ·show _=m+_;rw [hc];omega
  ·simp only;omega
 ·simp only [ZbM,Int.lt_irrefl,if_false]
theorem Zju (a:List (Z4)) (k:Int) (hs:sm (.sl (XZ)) a) (h0:0≤k) (h1:k+(cnt (.sl (XZ)) a:Int)≤4611686018427387904):Mkd (Zdh a k) k (cnt (.sl (XZ)) a):=by
 unfold Zdh
 have hl:a.length≤1048576:=by have:=hs.1;omega
 refine Mkd.loop (l:=a) (c:=cnt (XZ)) (fun j m x L hj hj' hL hx hxm hm0 hm1 hj2=>?_) (fun m L hL=>?_) hl h0 h1
 ·have hsx:=hs.2 x hxm
  have hc:((cnt (XZ) x:Nat):Int)=0+1+1+((cnt (.sl (Zcb)) x.2.2.1:Nat):Int)+((cnt (.sl (Zdz)) x.2.2.2.1:Nat):Int)+((cnt (.sl (.int .i64)) x.2.2.2.2.1:Nat):Int)+1+1:=by simp only [Zbv,ZdB,Zbu,Zbw,ZdC];omega
  obtain ⟨s0,e0⟩:=Zet (m) (by omega) (by omega)
  obtain ⟨s1,e1⟩:=Zkp x.2.2.1 (m+1+1) hsx.2.2.1 (by omega) (by omega)
  obtain ⟨s2,e2⟩:=Zkn x.2.2.2.1 (m+1+1+((cnt (.sl (Zcb)) x.2.2.1:Nat):Int)) hsx.2.2.2.1 (by omega) (by omega)
  obtain ⟨s3,e3⟩:=Y0 x.2.2.2.2.1 (m+1+1+((cnt (.sl (Zcb)) x.2.2.1:Nat):Int)+((cnt (.sl (Zdz)) x.2.2.2.1:Nat):Int)) hsx.2.2.2.2.1 (by omega) (by omega)
  simp (disch:=omega) only [Zbb,if_pos hj',Yd,hx,Option.bind_some,V4,Int.toNat_natCast,ZfC,List.length_set,List.set_set,List.getElem?_set_self,e0,e1,e2,e3]
  refine ⟨_,congrArg some (congrArg Sum.inl (Prod.ext ?_ (Prod.ext ?_ (Prod.ext rfl rfl))))⟩
  ·show _=m+_;rw [hc];omega
  ·simp only;omega
 ·simp only [Zbb,Int.lt_irrefl,if_false]
theorem ZhW (a:Z7) (k:Int) (hs:sm (Y9) a) (h0:0≤k) (h1:k+((cnt (Y9) a:Nat):Int)≤4611686018427387904):Mkd (ZbC a k) k (cnt (Y9) a):=by
 unfold ZbC
 have hc:((cnt (Y9) a:Nat):Int)=0+(((cnt (.sl (XZ)) a.1):Nat):Int):=by simp only [Zbv,ZdB,Zbu,Zbw,ZdC];omega
 obtain ⟨s0,e0⟩:=Zju a.1 (k) hs.1 (by omega) (by omega)
 simp only [Option.bind_some,e0]
 exact ⟨_,congrArg some (Prod.ext (by rfl) rfl)⟩
theorem Zgz (a:List (ZW)) (k:Int) (hs:sm (.sl (Yr)) a) (h0:0≤k) (h1:k+(cnt (.sl (Yr)) a:Int)≤4611686018427387904):Mkd (Zal a k) k (cnt (.sl (Yr)) a):=by
 unfold Zal
 have hl:a.length≤1048576:=by have:=hs.1;omega
 refine Mkd.loop (l:=a) (c:=cnt (Yr)) (fun j m x L hj hj' hL hx hxm hm0 hm1 hj2=>?_) (fun m L hL=>?_) hl h0 h1
 ·have hsx:=hs.2 x hxm
  have hc:((cnt (Yr) x:Nat):Int)=0+1+1+((cnt (.sl (.int .i64)) x.2.2.1:Nat):Int):=by simp only [Zbv,ZdB,Zbu,Zbw,ZdC];omega
  obtain ⟨s0,e0⟩:=Zet (m) (by omega) (by omega)
  obtain ⟨s1,e1⟩:=Y0 x.2.2.1 (m+1+1) hsx.2.2.1 (by omega) (by omega)
  simp (disch:=omega) only [Jj,if_pos hj',Yd,hx,Option.bind_some,V4,Int.toNat_natCast,ZfC,List.length_set,List.set_set,List.getElem?_set_self,e0,e1]
  refine ⟨_,congrArg some (congrArg Sum.inl (Prod.ext ?_ (Prod.ext ?_ (Prod.ext rfl rfl))))⟩
  ·show _=m+_;rw [hc];omega
  ·simp only;omega
 ·simp only [Jj,Int.lt_irrefl,if_false]
theorem ZhX (a:List (List UInt8)) (k:Int) (hs:sm (.sl (.str)) a) (h0:0≤k) (h1:k+(cnt (.sl (.str)) a:Int)≤4611686018427387904):Mkd (ZbD a k) k (cnt (.sl (.str)) a):=by
 unfold ZbD
 have hl:a.length≤1048576:=by have:=hs.1;omega
 refine Mkd.loop (l:=a) (c:=cnt (.str)) (fun j m x L hj hj' hL hx hxm hm0 hm1 hj2=>?_) (fun m L hL=>?_) hl h0 h1
 ·have hsx:=hs.2 x hxm
  have hc:((cnt (.str) x:Nat):Int)=0+1:=by rfl
  obtain ⟨s0,e0⟩:=Zet (m) (by omega) (by omega)
  simp (disch:=omega) only [Zaf,if_pos hj',Yd,hx,Option.bind_some,V4,Int.toNat_natCast,ZfC,List.length_set,List.set_set,List.getElem?_set_self,e0]
  refine ⟨_,congrArg some (congrArg Sum.inl (Prod.ext ?_ (Prod.ext ?_ (Prod.ext rfl rfl))))⟩
  ·show _=m+_;rw [hc];omega
  ·simp only;omega
 ·simp only [Zaf,Int.lt_irrefl,if_false]
theorem Zjv (a:List (Ym)) (k:Int) (hs:sm (.sl (VX)) a) (h0:0≤k) (h1:k+(cnt (.sl (VX)) a:Int)≤4611686018427387904):Mkd (Zdi a k) k (cnt (.sl (VX)) a):=by
 unfold Zdi
 have hl:a.length≤1048576:=by have:=hs.1;omega
 refine Mkd.loop (l:=a) (c:=cnt (VX)) (fun j m x L hj hj' hL hx hxm hm0 hm1 hj2=>?_) (fun m L hL=>?_) hl h0 h1
 ·have hsx:=hs.2 x hxm
  have hc:((cnt (VX) x:Nat):Int)=0+1+1+1:=by simp only [Zbv,ZdB,Zbu,Zbw,ZdC];omega
  obtain ⟨s0,e0⟩:=Zet (m) (by omega) (by omega)
  simp (disch:=omega) only [Zbc,if_pos hj',Yd,hx,Option.bind_some,V4,Int.toNat_natCast,ZfC,List.length_set,List.set_set,List.getElem?_set_self,e0]
  refine ⟨_,congrArg some (congrArg Sum.inl (Prod.ext ?_ (Prod.ext ?_ (Prod.ext rfl rfl))))⟩
  ·show _=m+_;rw [hc];omega
  ·simp only;omega
 ·simp only [Zbc,Int.lt_irrefl,if_false]
theorem ZiE (a:ZT) (k:Int) (hs:sm (YQ) a) (h0:0≤k) (h1:k+((cnt (YQ) a:Nat):Int)≤4611686018427387904):Mkd (Zcr a k) k (cnt (YQ) a):=by
 unfold Zcr
 have hc:((cnt (YQ) a:Nat):Int)=0+(((cnt (.sl (Yr)) a.1):Nat):Int)+(((cnt (.sl (.str)) a.2.1):Nat):Int)+(((cnt (.sl (VX)) a.2.2.1):Nat):Int):=by simp only [Zbv,ZdB,Zbu,Zbw,ZdC];omega
 obtain ⟨s0,e0⟩:=Zgz a.1 (k) hs.1 (by omega) (by omega)
 obtain ⟨s1,e1⟩:=ZhX a.2.1 (k+(((cnt (.sl (Yr)) a.1):Nat):Int)) hs.2.1 (by omega) (by omega)
 obtain ⟨s2,e2⟩:=Zjv a.2.2.1 (k+(((cnt (.sl (Yr)) a.1):Nat):Int)+(((cnt (.sl (.str)) a.2.1):Nat):Int)) hs.2.2.1 (by omega) (by omega)
 simp only [Option.bind_some,e0,e1,e2]
 exact ⟨_,congrArg some (Prod.ext (by show _=k+_;rw [hc];omega) rfl)⟩
theorem Zjw (a:List (Z9)) (k:Int) (hs:sm (.sl (Xr)) a) (h0:0≤k) (h1:k+(cnt (.sl (Xr)) a:Int)≤4611686018427387904):Mkd (Zdj a k) k (cnt (.sl (Xr)) a):=by
 unfold Zdj
 have hl:a.length≤1048576:=by have:=hs.1;omega
 refine Mkd.loop (l:=a) (c:=cnt (Xr)) (fun j m x L hj hj' hL hx hxm hm0 hm1 hj2=>?_) (fun m L hL=>?_) hl h0 h1
 ·have hsx:=hs.2 x hxm
  have hc:((cnt (Xr) x:Nat):Int)=0+((cnt (.sl (.int .i64)) x.1:Nat):Int)+((cnt (.sl (.int .i64)) x.2.1:Nat):Int)+((cnt (.sl (.int .i64)) x.2.2.1:Nat):Int)+((cnt (.sl (.int .i64)) x.2.2.2.1:Nat):Int):=by simp only [Zbv,ZdB,Zbu,Zbw,ZdC];omega
  obtain ⟨s0,e0⟩:=Y0 x.1 (m) hsx.1 (by omega) (by omega)
  obtain ⟨s1,e1⟩:=Y0 x.2.1 (m+((cnt (.sl (.int .i64)) x.1:Nat):Int)) hsx.2.1 (by omega) (by omega)
  obtain ⟨s2,e2⟩:=Y0 x.2.2.1 (m+((cnt (.sl (.int .i64)) x.1:Nat):Int)+((cnt (.sl (.int .i64)) x.2.1:Nat):Int)) hsx.2.2.1 (by omega) (by omega)
  obtain ⟨s3,e3⟩:=Y0 x.2.2.2.1 (m+((cnt (.sl (.int .i64)) x.1:Nat):Int)+((cnt (.sl (.int .i64)) x.2.1:Nat):Int)+((cnt (.sl (.int .i64)) x.2.2.1:Nat):Int)) hsx.2.2.2.1 (by omega) (by omega)
  simp (disch:=omega) only [Zbd,if_pos hj',Yd,hx,Option.bind_some,V4,Int.toNat_natCast,ZfC,List.length_set,List.set_set,List.getElem?_set_self,e0,e1,e2,e3]
  refine ⟨_,congrArg some (congrArg Sum.inl (Prod.ext ?_ (Prod.ext ?_ (Prod.ext rfl rfl))))⟩
  ·show _=m+_;rw [hc];omega
  ·simp only;omega
 ·simp only [Zbd,Int.lt_irrefl,if_false]
theorem Zjt (a:ZU) (k:Int) (hs:sm (Xg) a) (h0:0≤k) (h1:k+((cnt (Xg) a:Nat):Int)≤4611686018427387904):Mkd (Zdg a k) k (cnt (Xg) a):=by
 unfold Zdg
 have hc:((cnt (Xg) a:Nat):Int)=0+(((cnt (Y9) a.1):Nat):Int)+(((cnt (YQ) a.2.1):Nat):Int)+(((cnt (.sl (Xr)) a.2.2.1):Nat):Int):=by simp only [Zbv,ZdB,Zbu,Zbw,ZdC];omega
 obtain ⟨s0,e0⟩:=ZhW a.1 (k) hs.1 (by omega) (by omega)
 obtain ⟨s1,e1⟩:=ZiE a.2.1 (k+(((cnt (Y9) a.1):Nat):Int)) hs.2.1 (by omega) (by omega)
 obtain ⟨s2,e2⟩:=Zjw a.2.2.1 (k+(((cnt (Y9) a.1):Nat):Int)+(((cnt (YQ) a.2.1):Nat):Int)) hs.2.2.1 (by omega) (by omega)
 simp only [Option.bind_some,e0,e1,e2]
 exact ⟨_,congrArg some (Prod.ext (by show _=k+_;rw [hc];omega) rfl)⟩
theorem Zkq (a:Z9) (k:Int) (hs:sm (Xr) a) (h0:0≤k) (h1:k+((cnt (Xr) a:Nat):Int)≤4611686018427387904):Mkd (ZdY a k) k (cnt (Xr) a):=by
 unfold ZdY
 have hc:((cnt (Xr) a:Nat):Int)=0+(((cnt (.sl (.int .i64)) a.1):Nat):Int)+(((cnt (.sl (.int .i64)) a.2.1):Nat):Int)+(((cnt (.sl (.int .i64)) a.2.2.1):Nat):Int)+(((cnt (.sl (.int .i64)) a.2.2.2.1):Nat):Int):=by simp only [Zbv,ZdB,Zbu,Zbw,ZdC];omega
 obtain ⟨s0,e0⟩:=Y0 a.1 (k) hs.1 (by omega) (by omega)
 obtain ⟨s1,e1⟩:=Y0 a.2.1 (k+(((cnt (.sl (.int .i64)) a.1):Nat):Int)) hs.2.1 (by omega) (by omega)
 obtain ⟨s2,e2⟩:=Y0 a.2.2.1 (k+(((cnt (.sl (.int .i64)) a.1):Nat):Int)+(((cnt (.sl (.int .i64)) a.2.1):Nat):Int)) hs.2.2.1 (by omega) (by omega)
 obtain ⟨s3,e3⟩:=Y0 a.2.2.2.1 (k+(((cnt (.sl (.int .i64)) a.1):Nat):Int)+(((cnt (.sl (.int .i64)) a.2.1):Nat):Int)+(((cnt (.sl (.int .i64)) a.2.2.1):Nat):Int)) hs.2.2.2.1 (by omega) (by omega)
 simp only [Option.bind_some,e0,e1,e2,e3]
 exact ⟨_,congrArg some (Prod.ext (by show _=k+_;rw [hc];omega) rfl)⟩
theorem Zko (a:ZY) (k:Int) (hs:sm (QZ) a) (h0:0≤k) (h1:k+(((cnt (Xr) a.2.2.2.2.2.2.1):Nat):Int)≤4611686018427387904):Mkd (ZdW a k) k ((cnt (Xr) a.2.2.2.2.2.2.1)):=by
 unfold ZdW
 have hc:(((cnt (Xr) a.2.2.2.2.2.2.1):Nat):Int)=0+(((cnt (Xr) a.2.2.2.2.2.2.1):Nat):Int):=by simp only [Zbv,ZdB,Zbu,Zbw,ZdC];omega
 obtain ⟨s6,e6⟩:=Zkq a.2.2.2.2.2.2.1 (k) hs.2.2.2.2.2.2.1 (by omega) (by omega)
 simp only [Option.bind_some,e6]
 exact ⟨_,congrArg some (Prod.ext (by rfl) rfl)⟩
end Go.Proofs.YtdabmnfkcnkkbaaGreatDoor
