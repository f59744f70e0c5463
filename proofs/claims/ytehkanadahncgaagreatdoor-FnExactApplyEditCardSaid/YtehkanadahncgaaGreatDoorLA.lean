/-
  Ground of the plain laws: loops by what they come to; small arithmetic.
-/
import Derived.Test.YtehkanadahncgaaGreatDoorSxM
import Derived.IntWalk
import Derived.Test.YtehkanadahncgaaGreatDoorM
import Derived.Test.YtehkanadahncgaaGreatDoorSxBr
namespace Go.Proofs.YtehkanadahncgaaGreatDoor
set_option linter.unusedVariables false
set_option linter.unusedSimpArgs false
open Go Go.Sx
theorem V8 {n:Int} (h1:-9223372036854775808≤n) (h2:n≤9223372036854775807):IntKind.i64.wrap n=n:=IntWalk.i64_in n ⟨h1,h2⟩
theorem Zu {α:Type} (l:List α) (k:Nat):atI l (k:Int)=l[k]?:=by simp [atI]
theorem VJ {α:Type} {l:List α} {i:Int} {x:α} (h0:0≤i) (hx:l[i.toNat]?=some x):atI l i=some x:=by simp [atI,h0,hx]
theorem ZrZ {α:Type} {l:List α} {i:Int} (h0:0≤i) (h1:i<l.length):∃ x,atI l i=some x∧l[i.toNat]?=some x :=
 ⟨l[i.toNat]'(by omega),by simp [atI,h0],List.getElem?_eq_getElem _⟩
theorem Zi {α:Type} {p:Prop} (h:p) (a:Option α):ZA p a=a:=by
 unfold ZA
 exact if_pos h
theorem Zc0 {τ ρ:Type} {step:τ→Option (τ ⊕ ρ)} (n:Nat) (I:Nat→τ→Prop) (Q:ρ→Prop) {v:τ} (h0:I 0 v)
  (hs:∀ k v,k<n→I k v→(∃ v',step v=some (.inl v')∧I (k+1) v')∨∃ r,step v=some (.inr r)∧Q r)
  (hx:∀ v,I n v→∃ r,step v=some (.inr r)∧Q r):∃ r,Zw step v=some r∧Q r:=by
 have:∀ m k v,k+m=n→I k v→∃ r,Zw step v=some r∧Q r:=by
  intro m
  induction m with
  | zero =>
   intro k v hk hI
   have:k=n:=by omega
   subst this
   obtain ⟨r,e,hq⟩:=hx v hI
   exact ⟨r,Zhl e,hq⟩
  | succ m ih =>
   intro k v hk hI
   rcases hs k v (by omega) hI with ⟨v',e,hI'⟩ | ⟨r,e,hq⟩
   ·obtain ⟨r,h1,h2⟩:=ih (k+1) v' (by omega) hI'
    exact ⟨r,by rw [Zo8 e];exact h1,h2⟩
   ·exact ⟨r,Zhl e,hq⟩
 exact this n 0 v (by omega) h0
theorem X8 {τ ρ:Type} {step:τ→Option (τ ⊕ ρ)} (n:Nat) (I:Nat→τ→Prop) (R:ρ) {v:τ} (h0:I 0 v)
  (hs:∀ k v,k<n→I k v→(∃ v',step v=some (.inl v')∧I (k+1) v')∨step v=some (.inr R))
  (hx:∀ v,I n v→step v=some (.inr R)):Zw step v=some R:=by
 obtain ⟨r,h1,h2⟩:=Zc0 n I (fun r=>r=R) h0 (fun k v hk hI=>(hs k v hk hI).elim .inl (fun h=>.inr ⟨R,h,rfl⟩)) (fun v hI=>⟨R,hx v hI,rfl⟩)
 rw [h1,h2]
theorem Yz {α:Type} {l:List α} {k:Nat} {x:α} (hx:l[k]?=some x):l.take (k+1)=l.take k++[x]:=by
 rw [List.take_add_one,hx];rfl
def sm:(t:Ty)→t.den→Prop
 | .str,s=>(s.length:Int)≤1048576
 | .sl t,l=>(l.length:Int)≤1048576∧∀ x∈l,sm t x
 | .pair a b,d=>sm a d.1∧sm b d.2
 | _,_=>True
def Szd (o:Option Int) (left:Int) (P:Prop):Prop:=∃ n,o=some n∧n≤left∧(0≤n→P)
theorem Szd.mono {o:Option Int} {left:Int} {P Q:Prop} (h:Szd o left P) (hpq:P→Q):Szd o left Q:=by
 obtain ⟨n,a,b,c⟩:=h;exact ⟨n,a,b,fun h=>hpq (c h)⟩
theorem Szd.then {o:Option Int} {left:Int} {P Q:Prop} (h:Szd o left P) (h0:0≤left) (hl:left≤1048576) {F:Int→Option Int} (h2:∀ n,0≤n→n≤1048576→P→Szd (F n) n Q) :
  Szd (o.bind fun n=>if n<0 then some (-1) else F n) left Q:=by
 obtain ⟨n,e,hle,hP⟩:=h
 rw [e,Option.bind_some]
 split
 ·rename_i hn
  exact ⟨-1,rfl,by omega,fun h=>by omega⟩
 ·rename_i hn
  obtain ⟨m,e2,h3,h4⟩:=h2 n (by omega) (by omega) (hP (by omega))
  exact ⟨m,e2,by omega,h4⟩
theorem Szd.last {o:Option Int} {left:Int} {P Q:Prop} (h:Szd o left P) (hl:0≤left) (hpq:P→Q):Szd (o.bind fun n=>if n<0 then some (-1) else some n) left Q:=by
 obtain ⟨n,e,hle,hP⟩:=h
 rw [e,Option.bind_some]
 split
 ·rename_i hn
  exact ⟨-1,rfl,by omega,fun h=>by omega⟩
 ·exact ⟨n,rfl,hle,fun h=>hpq (hP h)⟩
theorem Szd.len {left n:Int} {Q:Prop} {B:Option Int} (h0:0≤left) (hl:left≤1048576) (hn:0≤n) (hb:n≤9223372036854775807)
  (h2:IntKind.i64.wrap (left-n)=left-n→0≤left-n→left-n≤1048576→n≤1048576→Szd B (left-n) Q) :
  Szd (if IntKind.i64.wrap (left-n)<0 then some (-1) else B) left Q:=by
 have hw:=V8 (n:=left-n) (by omega) (by omega)
 rw [hw]
 split
 ·rename_i hn
  exact ⟨-1,rfl,by omega,fun h=>by omega⟩
 ·rename_i hn
  obtain ⟨m,e2,h3,h4⟩:=h2 hw (by omega) (by omega) (by omega)
  exact ⟨m,e2,by omega,h4⟩
theorem Szd.ret {left:Int} {P:Prop} (h:P):Szd (some left) left P:=⟨left,rfl,Int.le_refl _,fun _=>h⟩
theorem Szd.loop {α:Type} {l:List α} {f:α→Int→Option Int} {P:α→Prop} {step:Int×Int×Unit→Option ((Int×Int×Unit) ⊕ Int)}
  (hf:∀ x∈l,∀ m,0≤m→m≤1048576→Szd (f x m) m (P x))
  (hstep:∀ (k:Nat) (m:Int),step (m,(k:Int),())=if (k:Int)<(l.length:Int) then (atI l (k:Int)).bind fun x=>(f x m).bind fun n=>if n<0 then some (.inr (-1)) else some (.inl (n,IntKind.i64.wrap ((k:Int)+1),())) else some (.inr m))
  {left:Int} (h0:0≤left) (h1:left≤1048576) (hl:(l.length:Int)≤1048576):Szd (Zw step (left,0,())) left (∀ x∈l,P x):=by
 unfold Szd
 refine Zc0 l.length (fun k v=>v.2.1=(k:Int)∧0≤v.1∧v.1≤left∧∀ x∈l.take k,P x) (fun n=>n≤left∧(0≤n→∀ x∈l,P x)) ⟨rfl,h0,Int.le_refl _,by simp⟩ ?_ ?_
 ·rintro k ⟨m,i,⟨⟩⟩ hk ⟨hi,hm0,hm1,hP⟩
  simp only at hi hm0 hm1
  subst hi
  have hx:l[k]?=some l[k]:=List.getElem?_eq_getElem hk
  generalize l[k]=x at hx
  rw [hstep,if_pos (by omega),Zu,hx,Option.bind_some]
  obtain ⟨n,e,hn,hPx⟩:=hf x (List.mem_of_getElem? hx) m hm0 (by omega)
  rw [e,Option.bind_some]
  split
  ·exact .inr ⟨-1,rfl,by omega,fun h=>by omega⟩
  ·rw [V8 (by omega) (by omega)]
   refine .inl ⟨_,rfl,by simp,by dsimp only;omega,by dsimp only;omega,?_⟩
   rw [Yz hx]
   intro y hy
   rcases List.mem_append.1 hy with hy | hy
   ·exact hP y hy
   ·simp at hy;subst hy;exact hPx (by omega)
 ·rintro ⟨m,i,⟨⟩⟩ ⟨hi,hm0,hm1,hP⟩
  simp only at hi hm0 hm1
  subst hi
  rw [List.take_length] at hP
  rw [hstep,if_neg (by omega)]
  exact ⟨m,rfl,hm1,fun _=>hP⟩
theorem Zdm {α:Type} {l:List α} {f:α→Option α} {z:α} {step:Int×List α×Unit→Option ((Int×List α×Unit) ⊕ List α)} (hf:∀ x∈l,f x=some x)
  (hstep:∀ (k:Nat) (out:List α),step ((k:Int),out,())=if (k:Int)<(l.length:Int) then (atI l (k:Int)).bind fun x=>(f x).bind fun y=>(atI out (k:Int)).bind fun _=>some (.inl (IntKind.i64.wrap ((k:Int)+1),List.set out (Int.toNat (k:Int)) y,())) else some (.inr out))
  (hl:(l.length:Int)≤1048576):Zw step (0,List.replicate (Int.toNat (l.length:Int)) z,())=some l:=by
 refine X8 l.length (fun k v=>v.1=(k:Int)∧v.2.1.length=l.length∧v.2.1.take k=l.take k) _ ⟨rfl,by simp,by simp⟩ ?_ ?_
 ·rintro k ⟨i,out,⟨⟩⟩ hk ⟨hi,hlen,ht⟩
  simp only at hi hlen ht
  subst hi
  have hx:l[k]?=some l[k]:=List.getElem?_eq_getElem hk
  generalize l[k]=x at hx
  have hy:out[k]?=some (out[k]'(by omega)):=List.getElem?_eq_getElem (by omega)
  rw [hstep,if_pos (by omega),Zu,hx,Option.bind_some,hf x (List.mem_of_getElem? hx),Option.bind_some,Zu,hy,Option.bind_some,V8 (by omega) (by omega)]
  refine .inl ⟨_,rfl,by simp,by simp [hlen],?_⟩
  have hx2:(out.set k x)[k]?=some x:=by rw [List.getElem?_set_self (by omega)]
  simp only [Int.toNat_natCast]
  rw [Yz hx2,Yz hx,List.take_set,ht]
  rw [List.set_eq_of_length_le (by simp;omega)]
 ·rintro ⟨i,out,⟨⟩⟩ ⟨hi,hlen,ht⟩
  simp only at hi hlen ht
  subst hi
  rw [hstep,if_neg (by omega)]
  rw [List.take_length,List.take_of_length_le (by omega)] at ht
  rw [ht]
theorem Zqn {α:Type} [DecidableEq α] {l:List α} {step:Int×Unit→Option ((Int×Unit) ⊕ Bool)}
  (hstep:∀ (k:Nat),step ((k:Int),())=if (k:Int)<(l.length:Int) then (atI l (k:Int)).bind fun x=>(atI l (k:Int)).bind fun y=>if x=y then some (.inl (IntKind.i64.wrap ((k:Int)+1),())) else some (.inr false) else some (.inr true))
  (hl:(l.length:Int)≤1048576):Zw step (0,())=some true:=by
 refine X8 l.length (fun k v=>v.1=(k:Int)) _ rfl ?_ ?_
 ·rintro k ⟨i,⟨⟩⟩ hk hi
  simp only at hi
  subst hi
  have hx:l[k]?=some l[k]:=List.getElem?_eq_getElem hk
  generalize l[k]=x at hx
  rw [hstep,if_pos (by omega),Zu,hx,Option.bind_some,Option.bind_some,if_pos rfl,V8 (by omega) (by omega)]
  exact .inl ⟨_,rfl,by simp⟩
 ·rintro ⟨i,⟨⟩⟩ hi
  simp only at hi
  subst hi
  rw [hstep,if_neg (by omega)]
def Ty.fixed:Ty→Bool
 | .str=>false
 | .sl _=>false
 | .ptr _=>true
 | .fn _ _=>true
 | .pair a b=>Ty.fixed a&&Ty.fixed b
 | _=>true
theorem Vu:∀ (t:Ty),Ty.fixed t=true→∀ d:t.den,sm t d
 | .int _,_,_=>trivial
 | .bool,_,_=>trivial
 | .unit,_,_=>trivial
 | .ptr _,_,_=>trivial
 | .fn _ _,_,_=>trivial
 | .nptr _,_,_=>trivial
 | .mp _ _,_,_=>trivial
 | .str,h,_=>by simp [Ty.fixed] at h
 | .sl _,h,_=>by simp [Ty.fixed] at h
 | .pair a b,h,d=>by
  simp only [Ty.fixed,Bool.and_eq_true] at h
  exact ⟨Vu a h.1 d.1,Vu b h.2 d.2⟩
theorem ZiR {α:Type} {l:List α} {f:α→α→Option Bool} {step:Int×Unit→Option ((Int×Unit) ⊕ Bool)} (hf:∀ x∈l,f x x=some true)
  (hstep:∀ (k:Nat),step ((k:Int),())=if (k:Int)<(l.length:Int) then (atI l (k:Int)).bind fun x=>(atI l (k:Int)).bind fun y=>(f x y).bind fun e=>if e=true then some (.inl (IntKind.i64.wrap ((k:Int)+1),())) else some (.inr false) else some (.inr true))
  (hl:(l.length:Int)≤1048576):Zw step (0,())=some true:=by
 refine X8 l.length (fun k v=>v.1=(k:Int)) _ rfl ?_ ?_
 ·rintro k ⟨i,⟨⟩⟩ hk hi
  simp only at hi
  subst hi
  have hx:l[k]?=some l[k]:=List.getElem?_eq_getElem hk
  generalize l[k]=x at hx
  rw [hstep,if_pos (by omega),Zu,hx,Option.bind_some,Option.bind_some,hf x (List.mem_of_getElem? hx),Option.bind_some,if_pos rfl,V8 (by omega) (by omega)]
  exact .inl ⟨_,rfl,by simp⟩
 ·rintro ⟨i,⟨⟩⟩ hi
  simp only at hi
  subst hi
  rw [hstep,if_neg (by omega)]
noncomputable def tr (p:Prop):Bool:=@decide p (Classical.propDecidable p)
theorem Zol {p:Prop} {b:Bool} (h:b=true↔p):tr p=b:=by
 unfold tr
 cases b
 ·simp at h;simp [h]
 ·simp at h;simp [h]
theorem Vp (p:Prop):tr p=true↔p:=by simp [tr]
theorem YR {p:Prop} (h:p):tr p=true:=(Vp p).2 h
theorem Yp {p:Prop} (h:¬p):tr p=false:=by simp [tr,h]
end Go.Proofs.YtehkanadahncgaaGreatDoor
/-
  Ground of the plain laws: the usual loops.
-/
namespace Go.Proofs.YtehkanadahncgaaGreatDoor
set_option linter.unusedVariables false
set_option linter.unusedSimpArgs false
open Go Go.Sx
def Len {α:Type} (l:List α):Prop:=l.length≤4611686018427387904
theorem Zuy {k:Nat} {α:Type} {l:List α} (hl:Len l) (hk:k≤l.length):IntKind.i64.wrap ((k:Int)+1)=((k+1:Nat):Int):=by
 have:l.length≤4611686018427387904:=hl
 rw [V8 (by omega) (by omega)];simp
def Zcz {α:Type} (p:α→Bool) (l:List α):Int:=match l.findIdx? p with
 | some i=>i
 | none=>-1
theorem Zcc {α:Type} {p:α→Bool} {l:List α}:0≤Zcz p l↔l.any p=true:=by
 unfold Zcz
 split
 ·rename_i i h
  obtain ⟨h1,h2,_⟩:=List.findIdx?_eq_some_iff_getElem.1 h
  refine ⟨fun _=>List.any_eq_true.2 ⟨_,List.getElem_mem h1,h2⟩,fun _=>by omega⟩
 ·rename_i h
  rw [List.findIdx?_eq_none_iff] at h
  refine ⟨fun h'=>by omega,fun h'=>?_⟩
  obtain ⟨x,hx,hp⟩:=List.any_eq_true.1 h'
  have:=h x hx
  rw [hp] at this;cases this
theorem Zbl {α ρ:Type} {l:List α} (hl:Len l) {p:α→Bool} {step:Int×Unit→Option ((Int×Unit) ⊕ ρ)} {out:Int→ρ}
  (hs:∀ (k:Nat) (x:α),l[k]?=some x→step ((k:Int),())=some (if p x=true then .inr (out k) else .inl (IntKind.i64.wrap ((k:Int)+1),())))
  (hx:step ((l.length:Int),())=some (.inr (out (-1)))):Zw step (0,())=some (out (Zcz p l)):=by
 refine X8 l.length (fun k v=>v.1=(k:Int)∧∀ x∈l.take k,p x=false) _ ⟨rfl,by simp⟩ ?_ ?_
 ·rintro k ⟨i,⟨⟩⟩ hk ⟨hi,hS⟩
  simp only at hi
  subst hi
  have hx:l[k]?=some l[k]:=List.getElem?_eq_getElem hk
  rw [hs k _ hx,Zuy hl (by omega)]
  split
  ·rename_i hp
   right
   have:l.findIdx? p=some k:=by
    rw [List.findIdx?_eq_some_iff_getElem]
    refine ⟨hk,hp,fun j hj=>?_⟩
    have:=hS l[j] (List.mem_iff_getElem?.2 ⟨j,by rw [List.getElem?_take,if_pos hj];exact List.getElem?_eq_getElem _⟩)
    simp [this]
   unfold Zcz
   rw [this]
  ·rename_i hp
   refine .inl ⟨_,rfl,rfl,?_⟩
   rw [Yz hx]
   intro y hy
   rcases List.mem_append.1 hy with hy | hy
   ·exact hS y hy
   ·simp at hy;subst hy;simpa using hp
 ·rintro ⟨i,⟨⟩⟩ ⟨hi,hS⟩
  simp only at hi
  subst hi
  rw [List.take_length] at hS
  have:l.findIdx? p=none:=List.findIdx?_eq_none_iff.2 hS
  rw [hx]
  unfold Zcz
  rw [this]
noncomputable def sel {ρ:Type} (P:Prop) (a b:ρ):ρ:=match tr P with
 | true=>a
 | false=>b
theorem VB {ρ:Type} {P:Prop} (h:P) (a b:ρ):sel P a b=a:=by simp [sel,YR h]
theorem Qu {ρ:Type} {P:Prop} (h:¬P) (a b:ρ):sel P a b=b:=by simp [sel,Yp h]
theorem ZlK (P:Prop):sel P true false=tr P:=by
 by_cases h:P
 ·rw [VB h,YR h]
 ·rw [Qu h,Yp h]
def ZfZ {α:Type} (l:List α) (P:Nat→α→Prop):Prop:=∀ (k:Nat) (x:α),l[k]?=some x→P k x
theorem ZaP {α ρ:Type} {l:List α} (hl:Len l) (P:Nat→α→Prop) {step:Int×Unit→Option ((Int×Unit) ⊕ ρ)} {bad good:ρ}
  (hs:∀ (k:Nat) (x:α),l[k]?=some x→k<l.length→(∀ (j:Nat) (y:α),j<k→l[j]?=some y→P j y)→(P k x→step ((k:Int),())=some (.inl (IntKind.i64.wrap ((k:Int)+1),())))∧(¬P k x→step ((k:Int),())=some (.inr bad)))
  (hx:ZfZ l P→step ((l.length:Int),())=some (.inr good)):Zw step (0,())=some (sel (ZfZ l P) good bad):=by
 refine X8 l.length (fun k v=>v.1=(k:Int)∧∀ (j:Nat) (y:α),j<k→l[j]?=some y→P j y) _ ⟨rfl,fun j y hj=>by omega⟩ ?_ ?_
 ·rintro k ⟨i,⟨⟩⟩ hk ⟨hi,hS⟩
  simp only at hi
  subst hi
  have hx:l[k]?=some l[k]:=List.getElem?_eq_getElem hk
  obtain ⟨h1,h2⟩:=hs k _ hx hk hS
  by_cases hP:P k l[k]
  ·rw [h1 hP,Zuy hl (by omega)]
   refine .inl ⟨_,rfl,rfl,fun j y hj hy=>?_⟩
   by_cases hjk:j<k
   ·exact hS j y hjk hy
   ·have:j=k:=by omega
    subst this
    rw [hx] at hy;injection hy with hy;subst hy
    exact hP
  ·right
   rw [h2 hP,Qu (fun h=>hP (h k _ hx))]
 ·rintro ⟨i,⟨⟩⟩ ⟨hi,hS⟩
  simp only at hi
  subst hi
  have hA:ZfZ l P:=fun k x hk=>hS k x (List.getElem?_eq_some_iff.1 hk).1 hk
  rw [hx hA,VB hA]
theorem Zqx {ρ:Type} (m n:Nat) (hmn:m≤n) (hn:n≤4611686018427387904) (P:Nat→Prop) {step:Int×Unit→Option ((Int×Unit) ⊕ ρ)} {bad good:ρ}
  (hs:∀ k:Nat,m≤k→k<n→(∀ j,m≤j→j<k→P j)→(P k→step ((k:Int),())=some (.inl (IntKind.i64.wrap ((k:Int)+1),())))∧(¬P k→step ((k:Int),())=some (.inr bad)))
  (hx:(∀ j,m≤j→j<n→P j)→step ((n:Int),())=some (.inr good)):Zw step ((m:Int),())=some (sel (∀ j,m≤j→j<n→P j) good bad):=by
 refine X8 (n-m) (fun k v=>v.1=((m+k:Nat):Int)∧∀ j,m≤j→j<m+k→P j) _ ⟨by simp,fun j h1 h2=>by omega⟩ ?_ ?_
 ·rintro k ⟨i,⟨⟩⟩ hk ⟨hi,hS⟩
  simp only at hi
  subst hi
  obtain ⟨h1,h2⟩:=hs (m+k) (by omega) (by omega) hS
  by_cases hP:P (m+k)
  ·rw [h1 hP,V8 (by omega) (by omega)]
   refine .inl ⟨_,rfl,by simp only;omega,fun j ha hb=>?_⟩
   by_cases hj:j<m+k
   ·exact hS j ha hj
   ·have:j=m+k:=by omega
    subst this;exact hP
  ·right
   rw [h2 hP,Qu (fun h=>hP (h (m+k) (by omega) (by omega)))]
 ·rintro ⟨i,⟨⟩⟩ ⟨hi,hS⟩
  simp only at hi
  subst hi
  have e:m+(n-m)=n:=by omega
  rw [e] at hS ⊢
  rw [hx hS,VB hS]
end Go.Proofs.YtehkanadahncgaaGreatDoor
/-
  Ground of the plain laws: all lengths together; how many numbers there are; marks.
-/
namespace Go.Proofs.YtehkanadahncgaaGreatDoor
set_option linter.unusedVariables false
set_option linter.unusedSimpArgs false
open Go Go.Sx
def tot:(t:Ty)→t.den→Nat
 | .str,s=>s.length
 | .sl t,l=>l.length+(l.map (tot t)).sum
 | .pair a b,d=>tot a d.1+tot b d.2
 | _,_=>0
def Szt (o:Option Int) (left:Int) (T:Nat):Prop:=∀ n,o=some n→0≤n→n+(T:Int)≤left
theorem Szt.mono {o:Option Int} {left:Int} {T T':Nat} (h:Szt o left T) (ht:T'≤T):Szt o left T':=fun n h1 h2=>by
 have:=h n h1 h2
 omega
theorem Szt.then {o:Option Int} {left:Int} {T1 T2:Nat} (h:Szt o left T1) (h0:0≤left) (hl:left≤1048576) {F:Int→Option Int} (h2:∀ n,0≤n→n≤1048576→Szt (F n) n T2) :
  Szt (o.bind fun n=>if n<0 then some (-1) else F n) left (T1+T2):=by
 intro m hm hm0
 cases ho:o with
 | none=>rw [ho] at hm;cases hm
 | some n =>
  rw [ho,Option.bind_some] at hm
  by_cases hn:n<0
  ·rw [if_pos hn] at hm;injection hm;omega
  ·rw [if_neg hn] at hm
   have a:=h n ho (by omega)
   have b:=h2 n (by omega) (by omega) m hm hm0
   omega
theorem Szt.last {o:Option Int} {left:Int} {T:Nat} (h:Szt o left T):Szt (o.bind fun n=>if n<0 then some (-1) else some n) left T:=by
 intro m hm hm0
 cases ho:o with
 | none=>rw [ho] at hm;cases hm
 | some n =>
  rw [ho,Option.bind_some] at hm
  by_cases hn:n<0
  ·rw [if_pos hn] at hm;injection hm;omega
  ·rw [if_neg hn] at hm
   injection hm with hm
   subst hm
   exact h n ho hm0
theorem Szt.len {left n:Int} {T:Nat} {B:Option Int} (h0:0≤left) (hl:left≤1048576) (hn:0≤n) (hb:n≤9223372036854775807)
  (h2:IntKind.i64.wrap (left-n)=left-n→0≤left-n→left-n≤1048576→Szt B (left-n) T) :
  Szt (if IntKind.i64.wrap (left-n)<0 then some (-1) else B) left (n.toNat+T):=by
 have hw:=V8 (n:=left-n) (by omega) (by omega)
 intro m hm hm0
 rw [hw] at hm
 by_cases hneg:left-n<0
 ·rw [if_pos hneg] at hm;injection hm;omega
 ·rw [if_neg hneg] at hm
  have:=h2 hw (by omega) (by omega) m hm hm0
  omega
theorem Szt.ret {left:Int}:Szt (some left) left 0:=fun n h _=>by injection h;omega
theorem Szt.loop {α:Type} {l:List α} {f:α→Int→Option Int} {P:α→Prop} {T:α→Nat} {step:Int×Int×Unit→Option ((Int×Int×Unit) ⊕ Int)}
  (hf:∀ x∈l,∀ m,0≤m→m≤1048576→Szd (f x m) m (P x)) (ht:∀ x∈l,∀ m,0≤m→m≤1048576→Szt (f x m) m (T x))
  (hstep:∀ (k:Nat) (m:Int),step (m,(k:Int),())=if (k:Int)<(l.length:Int) then (atI l (k:Int)).bind fun x=>(f x m).bind fun n=>if n<0 then some (.inr (-1)) else some (.inl (n,IntKind.i64.wrap ((k:Int)+1),())) else some (.inr m))
  {left:Int} (h0:0≤left) (h1:left≤1048576) (hl:(l.length:Int)≤1048576):Szt (Zw step (left,0,())) left (l.map T).sum:=by
 have:∃ r,Zw step (left,0,())=some r∧(0≤r→r+((l.map T).sum:Int)≤left):=by
  refine Zc0 l.length (fun k v=>v.2.1=(k:Int)∧0≤v.1∧v.1+(((l.take k).map T).sum:Int)≤left) _ ⟨rfl,h0,by simp⟩ ?_ ?_
  ·rintro k ⟨m,i,⟨⟩⟩ hk ⟨hi,hm0,hm1⟩
   simp only at hi hm0 hm1
   subst hi
   have hx:l[k]?=some l[k]:=List.getElem?_eq_getElem hk
   generalize l[k]=x at hx
   rw [hstep,if_pos (by omega),Zu,hx,Option.bind_some]
   obtain ⟨n,e,hn,hPx⟩:=hf x (List.mem_of_getElem? hx) m hm0 (by omega)
   rw [e,Option.bind_some]
   split
   ·exact .inr ⟨-1,rfl,fun h=>by omega⟩
   ·rename_i hneg
    have:=ht x (List.mem_of_getElem? hx) m hm0 (by omega) n e (by omega)
    rw [V8 (by omega) (by omega)]
    refine .inl ⟨_,rfl,by simp,by dsimp only;omega,?_⟩
    rw [Yz hx,List.map_append,List.sum_append]
    simp only [List.map_cons,List.map_nil,List.sum_cons,List.sum_nil]
    omega
  ·rintro ⟨m,i,⟨⟩⟩ ⟨hi,hm0,hm1⟩
   simp only at hi hm0 hm1
   subst hi
   rw [List.take_length] at hm1
   rw [hstep,if_neg (by omega)]
   exact ⟨m,rfl,fun _=>hm1⟩
 obtain ⟨r,h2,h3⟩:=this
 intro n hn hn0
 rw [h2] at hn
 injection hn with hn
 subst hn
 exact h3 hn0
theorem Zl4:∀ (t:Ty),Ty.fixed t=true→∀ d:t.den,tot t d=0
 | .int _,_,_=>rfl
 | .bool,_,_=>rfl
 | .unit,_,_=>rfl
 | .ptr _,_,_=>rfl
 | .fn _ _,_,_=>rfl
 | .nptr _,_,_=>rfl
 | .mp _ _,_,_=>rfl
 | .str,h,_=>by simp [Ty.fixed] at h
 | .sl _,h,_=>by simp [Ty.fixed] at h
 | .pair a b,h,d=>by
  simp only [Ty.fixed,Bool.and_eq_true] at h
  simp only [tot,Zl4 a h.1 d.1,Zl4 b h.2 d.2]
theorem ZsH {t:Ty} (h:Ty.fixed t=true) (l:List t.den):(l.map (tot t)).sum=0:=by
 induction l with
 | nil=>rfl
 | cons x r ih=>simp only [List.map_cons,List.sum_cons,Zl4 t h x,ih]
theorem Zdy (a b:Ty) (d:(Ty.pair a b).den):tot (.pair a b) d=tot a d.1+tot b d.2:=rfl
theorem Zi6 (t:Ty) (l:List t.den):tot (.sl t) l=l.length+(l.map (tot t)).sum:=rfl
theorem ZeO (s:List UInt8):tot .str s=s.length:=rfl
theorem Zfj (k:IntKind) (n:Int):tot (.int k) n=0:=rfl
theorem ZdD (b:Bool):tot .bool b=0:=rfl
theorem ZdN (b:Unit):tot .unit b=0:=rfl
theorem Szt.str (x:List UInt8) (m:Int) (m0:0≤m) (m1:m≤1048576) (hb:(x.length:Int)≤9223372036854775807) :
  Szt (if IntKind.i64.wrap (m-(x.length:Int))<0 then some (-1) else some (IntKind.i64.wrap (m-(x.length:Int)))) m (tot .str x):=by
 have h:Szt (if IntKind.i64.wrap (m-(x.length:Int))<0 then some (-1) else some (IntKind.i64.wrap (m-(x.length:Int)))) m ((x.length:Int).toNat+0) :=
  Szt.len m0 m1 (by omega) hb (fun hw _ _=>by rw [hw];exact Szt.ret)
 refine h.mono ?_
 rw [ZeO]
 omega
theorem Szd.str (x:List UInt8) (m:Int) (m0:0≤m) (m1:m≤1048576) (hb:(x.length:Int)≤9223372036854775807) :
  Szd (if IntKind.i64.wrap (m-(x.length:Int))<0 then some (-1) else some (IntKind.i64.wrap (m-(x.length:Int)))) m (sm .str x) :=
 Szd.len m0 m1 (by omega) hb (fun hw _ _ hn=>by rw [hw];exact Szd.ret hn)
def cnt:(t:Ty)→t.den→Nat
 | .int _,_=>1
 | .bool,_=>1
 | .str,_=>1
 | .sl t,l=>(l.map (cnt t)).sum
 | .pair a b,d=>cnt a d.1+cnt b d.2
 | _,_=>0
theorem Qt (a b:Ty) (d:(Ty.pair a b).den):cnt (.pair a b) d=cnt a d.1+cnt b d.2:=rfl
theorem Jc (s:List UInt8):cnt .str s=1:=rfl
theorem VP (k:IntKind) (n:Int):cnt (.int k) n=1:=rfl
theorem Qs (b:Bool):cnt .bool b=1:=rfl
theorem Qr (b:Unit):cnt .unit b=0:=rfl
def wid:Ty→Nat
 | .int _=>1
 | .bool=>1
 | .str=>1
 | .pair a b=>wid a+wid b
 | _=>0
def ZeD:Ty→Nat
 | .sl t=>max (wid t) (ZeD t)
 | .pair a b=>max (ZeD a) (ZeD b)
 | _=>0
theorem Zqr:∀ (t:Ty) (d:t.den),cnt t d≤wid t+ZeD t*tot t d
 | .int _,_=>by simp [cnt,wid]
 | .bool,_=>by simp [cnt,wid]
 | .str,_=>by simp [cnt,wid]
 | .unit,_=>by simp [cnt]
 | .ptr _,_=>by simp [cnt]
 | .fn _ _,_=>by simp [cnt]
 | .nptr _,_=>by simp [cnt]
 | .mp _ _,_=>by simp [cnt]
 | .pair a b,d=>by
  have h1:=Zqr a d.1
  have h2:=Zqr b d.2
  have h3:ZeD a*tot a d.1≤max (ZeD a) (ZeD b)*tot a d.1:=Nat.mul_le_mul_right _ (Nat.le_max_left _ _)
  have h4:ZeD b*tot b d.2≤max (ZeD a) (ZeD b)*tot b d.2:=Nat.mul_le_mul_right _ (Nat.le_max_right _ _)
  simp only [cnt,wid,ZeD,tot,Nat.mul_add]
  omega
 | .sl t,l=>by
  have:(l.map (cnt t)).sum≤wid t*l.length+ZeD t*(l.map (tot t)).sum:=by
   induction l with
   | nil=>simp
   | cons x r ih =>
    have:=Zqr t x
    simp only [List.map_cons,List.sum_cons,List.length_cons,Nat.mul_add]
    omega
  have h1:wid t*l.length≤max (wid t) (ZeD t)*l.length:=Nat.mul_le_mul_right _ (Nat.le_max_left _ _)
  have h2:ZeD t*(l.map (tot t)).sum≤max (wid t) (ZeD t)*(l.map (tot t)).sum:=Nat.mul_le_mul_right _ (Nat.le_max_right _ _)
  simp only [cnt,wid,ZeD,tot,Nat.mul_add]
  omega
def Mkd {α:Type} (o:Option (Int×α)) (k:Int) (c:Nat):Prop:=∃ a',o=some (k+(c:Int),a')
theorem ZbG {α:Type} {L:List α} {j:Nat} {y:α} (h:j<L.length):atI (List.set L j y) (j:Int)=some y:=by
 rw [Zu,List.getElem?_set_self h]
theorem Mkd.loop {α:Type} {l:List α} {c:α→Nat} {step:Int×Int×List α×Unit→Option ((Int×Int×List α×Unit) ⊕ (Int×List α))} {k:Int}
  (hstep:∀ (j:Nat) (m:Int) (x:α) (L:List α),j<L.length→(j:Int)<(L.length:Int)→L.length=l.length→L[j]?=some x→x∈l→0≤m→m+(c x:Int)≤4611686018427387904→(j:Int)≤1048576→∃ y,step (m,(j:Int),L,())=some (.inl (m+(c x:Int),((j+1:Nat):Int),List.set L j y,())))
  (hend:∀ (m:Int) (L:List α),L.length=l.length→step (m,(L.length:Int),L,())=some (.inr (m,L)))
  (hl:l.length≤1048576) (h0:0≤k) (h1:k+((l.map c).sum:Int)≤4611686018427387904):Mkd (Zw step (k,0,l,())) k (l.map c).sum:=by
 have:∃ r,Zw step (k,0,l,())=some r∧r.1=k+((l.map c).sum:Int):=by
  refine Zc0 l.length (fun j v=>v.1=k+(((l.take j).map c).sum:Int)∧v.2.1=(j:Int)∧v.2.2.1.length=l.length∧∀ i,j≤i→v.2.2.1[i]?=l[i]?) _ ⟨by simp,rfl,rfl,fun i _=>rfl⟩ ?_ ?_
  ·rintro j ⟨m,i,L,⟨⟩⟩ hj ⟨hm,hi,hL,hrest⟩
   simp only at hm hi hL hrest
   subst hi
   have hx:l[j]?=some l[j]:=List.getElem?_eq_getElem hj
   have hsum:(l.map c).sum=((l.take j).map c).sum+(c l[j]+((l.drop (j+1)).map c).sum):=by
    have e:l=l.take j++(l[j]::l.drop (j+1)):=by rw [←List.drop_eq_getElem_cons hj,List.take_append_drop]
    have e2:=congrArg (fun l=>(l.map c).sum) e
    simp only [List.map_append,List.sum_append,List.map_cons,List.sum_cons] at e2
    exact e2
   obtain ⟨y,hy⟩:=hstep j m l[j] L (by omega) (by omega) hL (by rw [hrest j (Nat.le_refl _)];exact hx) (List.mem_of_getElem? hx) (by omega) (by omega) (by omega)
   left
   refine ⟨_,hy,?_,rfl,by simp [hL],fun i hi=>?_⟩
   ·rw [Yz hx,List.map_append,List.sum_append]
    simp only [List.map_cons,List.map_nil,List.sum_cons,List.sum_nil]
    omega
   ·simp only
    rw [List.getElem?_set_ne (by omega)]
    exact hrest i (by omega)
  ·rintro ⟨m,i,L,⟨⟩⟩ ⟨hm,hi,hL,_⟩
   simp only at hm hi hL
   subst hi
   rw [List.take_length] at hm
   rw [←hL,hend m L hL]
   exact ⟨_,rfl,hm⟩
 obtain ⟨r,h2,h3⟩:=this
 exact ⟨r.2,by rw [h2,←h3]⟩
end Go.Proofs.YtehkanadahncgaaGreatDoor
/-
  Ground of the plain laws: what marking makes of a value, and that the marks are held.
-/
namespace Go.Proofs.YtehkanadahncgaaGreatDoor
set_option linter.unusedVariables false
set_option linter.unusedSimpArgs false
open Go Go.Sx
def mkL {α:Type} (f:α→Int→α) (c:α→Nat):List α→Int→List α
 | [],_=>[]
 | x::r,k=>f x k::mkL f c r (k+(c x:Int))
def mkA (mt:Int→List UInt8):(t:Ty)→t.den→Int→t.den
 | .int _,_,k=>k
 | .str,_,k=>mt k
 | .bool,_,k=>decide (Int.tmod k 3=0)
 | .pair a b,d,k=>(mkA mt a d.1 k,mkA mt b d.2 (k+(cnt a d.1:Int)))
 | .sl t,l,k=>mkL (mkA mt t) (cnt t) l k
 | .unit,d,_=>d
 | .ptr _,d,_=>d
 | .fn _ _,d,_=>d
 | .nptr _,d,_=>d
 | .mp _ _,d,_=>d
def Zdj:(t:Ty)→t.den→Nat
 | .pair a b,d=>Zdj a d.1+Zdj b d.2
 | .sl t,l=>cnt (.sl t) l
 | _,_=>0
def mkT (mt:Int→List UInt8):(t:Ty)→t.den→Int→t.den
 | .pair a b,d,k=>(mkT mt a d.1 k,mkT mt b d.2 (k+(Zdj a d.1:Int)))
 | .sl t,l,k=>mkL (mkA mt t) (cnt t) l k
 | .int _,d,_=>d
 | .str,d,_=>d
 | .bool,d,_=>d
 | .unit,d,_=>d
 | .ptr _,d,_=>d
 | .fn _ _,d,_=>d
 | .nptr _,d,_=>d
 | .mp _ _,d,_=>d
theorem ZfY {α:Type} (f:α→Int→α) (c:α→Nat):∀ (l:List α) (k:Int),(mkL f c l k).length=l.length
 | [],_=>rfl
 | x::r,k=>by simp only [mkL,List.length_cons,ZfY f c r]
theorem Zs1 {α:Type} (f:α→Int→α) (c:α→Nat):∀ (l:List α) (k:Int) (j:Nat),(mkL f c l k)[j]?=(l[j]?).map (fun x=>f x (k+(((l.take j).map c).sum:Int)))
 | [],k,j=>by simp [mkL]
 | x::r,k,0=>by simp [mkL]
 | x::r,k,j+1=>by
  simp only [mkL,List.getElem?_cons_succ,Zs1 f c r,List.take_succ_cons,List.map_cons,List.sum_cons]
  congr 1
  funext y
  congr 1
  omega
theorem Znh {α:Type} (f:α→Int→α) (c:α→Nat):∀ (l r:List α) (k:Int),mkL f c (l++r) k=mkL f c l k++mkL f c r (k+((l.map c).sum:Int))
 | [],r,k=>by simp [mkL]
 | x::l,r,k=>by
  simp only [List.cons_append,mkL,Znh f c l r,List.map_cons,List.sum_cons]
  congr 3
  omega
theorem ZtE {α:Type} {f:α→Int→α} {c:α→Nat} {l:List α} {k:Int} {j:Nat} {x:α} (hx:l[j]?=some x):mkL f c (l.take (j+1)) k=mkL f c (l.take j) k++[f x (k+(((l.take j).map c).sum:Int))]:=by
 rw [Yz hx,Znh];rfl
theorem Zja {α:Type} {l:List α} {f:α→Int→α} {c:α→Nat} {step:Int×Int×List α×Unit→Option ((Int×Int×List α×Unit) ⊕ (Int×List α))} {k:Int}
  (hstep:∀ (j:Nat) (m:Int) (x:α) (L:List α),j<L.length→(j:Int)<(L.length:Int)→L[j]?=some x→x∈l→0≤m→m+(c x:Int)≤4611686018427387904→(j:Int)≤1048576→step (m,(j:Int),L,())=some (.inl (m+(c x:Int),((j+1:Nat):Int),List.set L j (f x m),())))
  (hend:∀ (m:Int) (L:List α),step (m,(L.length:Int),L,())=some (.inr (m,L)))
  (hl:l.length≤1048576) (h0:0≤k) (h1:k+((l.map c).sum:Int)≤4611686018427387904):Zw step (k,0,l,())=some (k+((l.map c).sum:Int),mkL f c l k):=by
 refine X8 l.length (fun j v=>v.1=k+(((l.take j).map c).sum:Int)∧v.2.1=(j:Int)∧v.2.2.1=mkL f c (l.take j) k++l.drop j) _ ⟨by simp,rfl,by simp [mkL]⟩ ?_ ?_
 ·rintro j ⟨m,i,L,⟨⟩⟩ hj ⟨hm,hi,hL⟩
  simp only at hm hi hL
  subst hi
  have hx:l[j]?=some l[j]:=List.getElem?_eq_getElem hj
  generalize hxv:l[j]=x at hx
  have hlen:(mkL f c (l.take j) k).length=j:=by rw [ZfY,List.length_take];omega
  have hd:l.drop j=x::l.drop (j+1):=by rw [List.drop_eq_getElem_cons hj,hxv]
  have hLl:L.length=l.length:=by rw [hL,List.length_append,hlen,List.length_drop];omega
  have hLx:L[j]?=some x:=by rw [hL,List.getElem?_append_right (by omega),hlen,Nat.sub_self,hd];rfl
  have hsum:(l.map c).sum=((l.take j).map c).sum+(c x+((l.drop (j+1)).map c).sum):=by
   have e:l=l.take j++(x::l.drop (j+1)):=by rw [←hd,List.take_append_drop]
   have e2:=congrArg (fun l=>(l.map c).sum) e
   simp only [List.map_append,List.sum_append,List.map_cons,List.sum_cons] at e2
   exact e2
  left
  refine ⟨_,hstep j m x L (by omega) (by omega) hLx (List.mem_of_getElem? hx) (by omega) (by omega) (by omega),?_,rfl,?_⟩
  ·rw [Yz hx,List.map_append,List.sum_append]
   simp only [List.map_cons,List.map_nil,List.sum_cons,List.sum_nil]
   omega
  ·simp only
   rw [hL,ZtE hx,List.set_append,if_neg (by omega),hlen,Nat.sub_self,hd,hm]
   simp
 ·rintro ⟨m,i,L,⟨⟩⟩ ⟨hm,hi,hL⟩
  simp only at hm hi hL
  subst hi
  rw [List.take_length,List.drop_length,List.append_nil] at hL
  rw [List.take_length] at hm
  subst hL
  rw [←ZfY f c l k,hend,hm]
theorem ZeR {α:Type} {l:List α} {f:α→Int→α} {c:α→Nat} {step:Int×Int×Unit→Option ((Int×Int×Unit) ⊕ Int)} {k:Int}
  (hstep:∀ (j:Nat) (m:Int) (x:α),(j:Int)<((mkL f c l k).length:Int)→(mkL f c l k)[j]?=some (f x m)→x∈l→0≤m→m+(c x:Int)≤4611686018427387904→(j:Int)≤1048576→step (m,(j:Int),())=some (.inl (m+(c x:Int),((j+1:Nat):Int),())))
  (hend:∀ (m:Int),step (m,((mkL f c l k).length:Int),())=some (.inr m))
  (hl:l.length≤1048576) (h0:0≤k) (h1:k+((l.map c).sum:Int)≤4611686018427387904):Zw step (k,0,())=some (k+((l.map c).sum:Int)):=by
 refine X8 l.length (fun j v=>v.1=k+(((l.take j).map c).sum:Int)∧v.2.1=(j:Int)) _ ⟨by simp,rfl⟩ ?_ ?_
 ·rintro j ⟨m,i,⟨⟩⟩ hj ⟨hm,hi⟩
  simp only at hm hi
  subst hi
  have hx:l[j]?=some l[j]:=List.getElem?_eq_getElem hj
  generalize hxv:l[j]=x at hx
  have hsum:(l.map c).sum=((l.take j).map c).sum+(c x+((l.drop (j+1)).map c).sum):=by
   have hd:l.drop j=x::l.drop (j+1):=by rw [List.drop_eq_getElem_cons hj,hxv]
   have e:l=l.take j++(x::l.drop (j+1)):=by rw [←hd,List.take_append_drop]
   have e2:=congrArg (fun l=>(l.map c).sum) e
   simp only [List.map_append,List.sum_append,List.map_cons,List.sum_cons] at e2
   exact e2
  left
  refine ⟨_,hstep j m x (by rw [ZfY];omega) (by rw [Zs1,hx,hm];rfl) (List.mem_of_getElem? hx) (by omega) (by omega) (by omega),?_,rfl⟩
  rw [Yz hx,List.map_append,List.sum_append]
  simp only [List.map_cons,List.map_nil,List.sum_cons,List.sum_nil]
  omega
 ·rintro ⟨m,i,⟨⟩⟩ ⟨hm,hi⟩
  simp only at hm hi
  subst hi
  rw [List.take_length] at hm
  rw [←ZfY f c l k,hend,hm]
end Go.Proofs.YtehkanadahncgaaGreatDoor
/-
  Plain laws: bounds, names.
-/
namespace Go.Proofs.YtehkanadahncgaaGreatDoor
set_option linter.unusedVariables false
set_option linter.unusedSimpArgs false
open Go Go.Sx
def within (n a b:Int):Bool:=decide (a≤n)&&decide (n≤b)
theorem Zbk (n a b:Int):Yl n a b=some (within n a b):=by
 unfold Yl within;split<;>simp [*]
theorem ZdO (n a b:Int):Yc n a b=some (within n a b):=by
 unfold Yc within;split<;>simp [*]
theorem within_iff (n a b:Int):within n a b=true↔a≤n∧n≤b:=by simp [within]
def ZfN (b:UInt8):Bool:=decide (97≤b.toNat)&&decide (b.toNat≤122)
def Zj3 (b:UInt8):Bool:=decide (48≤b.toNat)&&decide (b.toNat≤57)
def ZaZ (s:List UInt8):Bool:=decide (1≤s.length)&&decide (s.length≤8)&&s.all (fun b=>ZfN b||Zj3 b)&&(match s with
 | b::_=>ZfN b
 | []=>false)
def Zo3 (s:List UInt8) (i:Nat):Prop:=∀ (j:Nat) (b:UInt8),j<i→s[j]?=some b→(ZfN b||Zj3 b)=true∧(j=0→ZfN b=true)
theorem ZpJ {s:List UInt8} {i:Nat} {x:UInt8} (h:Zo3 s i) (hx:s[i]?=some x) (h1:(ZfN x||Zj3 x)=true) (h2:i=0→ZfN x=true):Zo3 s (i+1):=by
 intro j b hj hb
 by_cases e:j<i
 ·exact h j b e hb
 ·have:j=i:=by omega
  subst this
  rw [hx] at hb;injection hb with hb;subst hb
  exact ⟨h1,h2⟩
theorem ZnT {s:List UInt8} (h:Zo3 s s.length):ZaZ s=(decide (1≤s.length)&&decide (s.length≤8)):=by
 unfold ZaZ
 have h1:s.all (fun b=>ZfN b||Zj3 b)=true:=by
  rw [List.all_eq_true]
  intro b hb
  obtain ⟨j,hj⟩:=List.mem_iff_getElem?.1 hb
  exact (h j b (List.getElem?_eq_some_iff.1 hj).1 hj).1
 rw [h1]
 cases s with
 | nil=>rfl
 | cons b r =>
  have:=(h 0 b (by simp) rfl).2 rfl
  simp [this]
theorem Zq2 {s:List UInt8} {j:Nat} {b:UInt8} (hb:s[j]?=some b) (h:(ZfN b||Zj3 b)=false∨j=0∧ZfN b=false):ZaZ s=false:=by
 unfold ZaZ
 rcases h with h | ⟨rfl,h⟩
 ·have:s.all (fun b=>ZfN b||Zj3 b)=false:=by
   rw [List.all_eq_false]
   exact ⟨b,List.mem_of_getElem? hb,by simp [h]⟩
  simp [this]
 ·cases s with
  | nil=>simp at hb
  | cons c r=>simp at hb;subst hb;simp [h]
theorem Zds (s:List UInt8) (hl:s.length≤4611686018427387904):Zag s=some (ZaZ s):=by
 unfold Zag
 refine X8 s.length (fun k v=>v.1=(k:Int)∧Zo3 s k) _ ⟨rfl,fun j b hj=>by omega⟩ ?_ ?_
 ·rintro k ⟨i,⟨⟩⟩ hk ⟨rfl,hS⟩
  have hx:s[k]?=some s[k]:=List.getElem?_eq_getElem hk
  generalize s[k]=x at hx
  simp only [Zam,Zu,hx,Option.bind_some,show (k:Int)<(s.length:Int) from by omega,if_true,V8 (show (-9223372036854775808:Int)≤(k:Int)+1 by omega) (by omega)]
  have ok:(ZfN x||Zj3 x)=true→(k=0→ZfN x=true)→(((k:Int)+1,()):Int×Unit).1=((k+1:Nat):Int)∧Zo3 s (k+1):=fun h1 h2=>⟨by simp,ZpJ hS hx h1 h2⟩
  have bad:((ZfN x||Zj3 x)=false∨k=0∧ZfN x=false)→(some (Sum.inr false):Option (Int×Unit ⊕ Bool))=some (Sum.inr (ZaZ s)):=fun h=>by rw [Zq2 hx h]
  simp only [ZfN,Zj3] at ok bad
  repeat' split
  all_goals first
   | (left;refine ⟨_,rfl,ok ?_ ?_⟩<;>simp<;>omega)
   | (right;refine bad ?_;first | (left;simp;omega) | (right;simp;omega))
 ·rintro ⟨i,⟨⟩⟩ ⟨rfl,hS⟩
  simp only [Zam,Int.lt_irrefl,if_false]
  rw [ZnT hS]
  split
  ·rename_i h
   have h1:1≤s.length:=by omega
   have h2:decide ((s.length:Int)≤8)=decide (s.length≤8):=by rw [decide_eq_decide];omega
   simp [h1,h2]
  ·have h1:¬1≤s.length:=by omega
   simp [h1]
theorem dropWhile_nil {p:UInt8→Bool}:∀ (m:List UInt8),(∀ x∈m.dropWhile p,p x=true)→∀ x∈m,p x=true
 | [],_=>by simp
 | a::m,h=>by
  by_cases ha:p a=true
  ·rw [List.dropWhile_cons_of_pos ha] at h
   intro x hx
   rcases List.mem_cons.1 hx with rfl | hx
   ·exact ha
   ·exact dropWhile_nil m h x hx
  ·rw [List.dropWhile_cons_of_neg ha] at h
   exact absurd (h a (by simp)) ha
theorem Zjv {p:UInt8→Bool}:∀ (m:List UInt8),m.dropWhile p=[]↔∀ x∈m,p x=true
 | []=>by simp
 | a::m=>by
  by_cases ha:p a=true
  ·rw [List.dropWhile_cons_of_pos ha,Zjv m];simp [ha]
  ·rw [List.dropWhile_cons_of_neg ha];simp [ha]
theorem ZsD (s cs:List UInt8):Lib.trimS s cs=[]↔∀ b∈s,cs.contains b=true:=by
 unfold Lib.trimS Lib.trimLeftS Lib.trimRightS
 rw [Zjv]
 constructor
 ·intro h b hb
  exact dropWhile_nil s.reverse (fun x hx=>h x (List.mem_reverse.2 hx)) b (List.mem_reverse.2 hb)
 ·intro h b hb
  exact h b (List.mem_reverse.1 ((List.dropWhile_sublist _).subset (List.mem_reverse.1 hb)))
def letters:List UInt8:=[97,98,99,100,101,102,103,104,105,106,107,108,109,110,111,112,113,114,115,116,117,118,119,120,121,122]
def Zge:List UInt8:=letters++[48,49,50,51,52,53,54,55,56,57]
theorem ZuH {p:UInt8→Bool} (h:(List.range 256).all (fun n=>p (UInt8.ofNat n))=true) (b:UInt8):p b=true:=by
 rw [List.all_eq_true] at h
 have:=h b.toNat (List.mem_range.2 b.toNat_lt)
 simpa using this
theorem ZgG (b:UInt8):Zge.contains b=(ZfN b||Zj3 b):=by
 have:=ZuH (p:=fun b=>Zge.contains b == (ZfN b||Zj3 b)) (by decide +kernel) b
 simpa using this
theorem Zpf (s:List UInt8):Lib.trimS s Zge=[]↔s.all (fun b=>ZfN b||Zj3 b)=true:=by
 rw [ZsD,List.all_eq_true]
 simp only [ZgG]
theorem ZnF (b:UInt8):decide (0≤(Lib.indexByte letters b:Int))=ZfN b:=by
 have:=ZuH (p:=fun b=>decide (0≤(Lib.indexByte letters b:Int)) == ZfN b) (by decide +kernel) b
 simpa using this
theorem ZfL (s:List UInt8):ZbZ s=some (ZaZ s):=by
 unfold ZbZ
 rw [Zbk,Option.bind_some]
 split
 ·rename_i h
  rw [within_iff] at h
  rw [Zi (by omega)]
  split
  ·rename_i ht
   have ht':=(Zpf s).1 ht
   cases s with
   | nil=>simp at h
   | cons b r =>
    have e:atI (b::r) (0:Int)=some b:=rfl
    rw [e,Option.bind_some]
    have e1:((b.toNat:Int)).toNat.toUInt8=b:=by simp
    rw [e1]
    have h1:1≤(b::r).length:=by simp
    have h2:(b::r).length≤8:=by omega
    have:=ZnF b
    unfold letters at this
    rw [this]
    simp only [ZaZ,ht',decide_eq_true h1,decide_eq_true h2,Bool.true_and]
  ·rename_i ht
   have ht':¬s.all (fun b=>ZfN b||Zj3 b)=true:=fun e=>ht ((Zpf s).2 e)
   simp only [ZaZ,Bool.eq_false_iff.2 ht',Bool.and_false,Bool.false_and]
 ·rename_i h
  rw [within_iff] at h
  have:¬(1≤s.length∧s.length≤8):=by omega
  rw [eq_comm]
  congr 1
  rw [Bool.eq_false_iff]
  intro hh
  simp only [ZaZ,Bool.and_eq_true,decide_eq_true_eq] at hh
  omega
theorem Zlm (l:List (List UInt8)) (s:List UInt8) (hl:l.length≤4611686018427387904):∃ r,Yo l s=some r∧(0≤r↔s∈l):=by
 unfold Yo
 refine Zc0 l.length (fun k v=>v.1=(k:Int)∧s ∉ l.take k) _ ⟨rfl,by simp⟩ ?_ ?_
 ·rintro k ⟨i,⟨⟩⟩ hk ⟨rfl,hS⟩
  have hx:l[k]?=some l[k]:=List.getElem?_eq_getElem hk
  generalize l[k]=x at hx
  simp only [Ym,Zu,hx,Option.bind_some,show (k:Int)<(l.length:Int) from by omega,if_true,V8 (show (-9223372036854775808:Int)≤(k:Int)+1 by omega) (by omega)]
  split
  ·rename_i e;subst e
   exact .inr ⟨_,rfl,fun _=>List.mem_of_getElem? hx,fun _=>by simp⟩
  ·rename_i e
   exact .inl ⟨_,rfl,by simp,by rw [Yz hx];simp [hS,e]⟩
 ·rintro ⟨i,⟨⟩⟩ ⟨rfl,hS⟩
  simp only [Ym,Int.lt_irrefl,if_false]
  refine ⟨_,rfl,fun h=>by omega,fun h=>absurd h (by simpa using hS)⟩
theorem ZiD (l:List (List UInt8)) (s:List UInt8) (hl:l.length≤4611686018427387904):YM l s=some (decide (s∈l)):=by
 obtain ⟨r,h1,h2⟩:=Zlm l s hl
 unfold YM
 rw [h1,Option.bind_some]
 simp only [h2]
def VU (l:List (List UInt8)) (k:Nat):Prop:=∀ (j:Nat) (s:List UInt8),j<k→l[j]?=some s→ZaZ s=true∧s ∉ l.take j
theorem Zbb (l:List (List UInt8)) (hl:l.length≤4611686018427387904):Vr l=some (tr (VU l l.length)):=by
 unfold Vr
 refine X8 l.length (fun k v=>v.1=(k:Int)∧VU l k) _ ⟨rfl,fun j s hj=>by omega⟩ ?_ ?_
 ·rintro k ⟨i,⟨⟩⟩ hk ⟨rfl,hS⟩
  have hx:l[k]?=some l[k]:=List.getElem?_eq_getElem hk
  generalize l[k]=x at hx
  simp only [JG,Zu,hx,Option.bind_some,show (k:Int)<(l.length:Int) from by omega,if_true,V8 (show (-9223372036854775808:Int)≤(k:Int)+1 by omega) (by omega),ZfL]
  split
  ·rename_i hn
   rw [Zi (by omega),Zi (by omega)]
   simp only [Int.toNat_natCast,Int.toNat_zero,List.drop_zero,Nat.sub_zero]
   rw [ZiD _ _ (by simp only [List.length_take];omega),Option.bind_some]
   split
   ·rename_i hm
    right
    rw [Yp]
    intro hh
    exact (hh k x hk hx).2 (by simpa using hm)
   ·rename_i hm
    refine .inl ⟨_,rfl,by simp,fun j s hj hs=>?_⟩
    by_cases e:j<k
    ·exact hS j s e hs
    ·have:j=k:=by omega
     subst this
     rw [hx] at hs;injection hs with hs;subst hs
     exact ⟨hn,by simpa using hm⟩
  ·rename_i hn
   right
   rw [Yp]
   intro hh
   exact hn (hh k x hk hx).1
 ·rintro ⟨i,⟨⟩⟩ ⟨rfl,hS⟩
  simp only [JG,Int.lt_irrefl,if_false]
  rw [YR hS]
end Go.Proofs.YtehkanadahncgaaGreatDoor
/-
  Plain laws: numbers within bounds.
-/
namespace Go.Proofs.YtehkanadahncgaaGreatDoor
set_option linter.unusedVariables false
set_option linter.unusedSimpArgs false
open Go Go.Sx
def allIn (l:List Int) (lo hi:Int):Bool:=l.all (fun n=>within n lo hi)
theorem Zcv (l:List Int) (lo hi:Int) (hl:l.length≤4611686018427387904):Xt l lo hi=some (allIn l lo hi):=by
 have h1:∃ r,Z6 l (lo,hi,())=some r∧(0≤r↔allIn l lo hi=false):=by
  unfold Z6
  refine Zc0 l.length (fun k v=>v.1=(k:Int)∧allIn (l.take k) lo hi=true) _ ⟨rfl,rfl⟩ ?_ ?_
  ·rintro k ⟨i,⟨⟩⟩ hk ⟨rfl,hS⟩
   have hx:l[k]?=some l[k]:=List.getElem?_eq_getElem hk
   generalize l[k]=x at hx
   simp only [Z9,ZaK,Zbk,Zu,hx,Option.bind_some,show (k:Int)<(l.length:Int) from by omega,if_true,V8 (show (-9223372036854775808:Int)≤(k:Int)+1 by omega) (by omega)]
   cases hw:within x lo hi
   ·refine .inr ⟨_,rfl,fun _=>?_,fun _=>by simp⟩
    rw [allIn,List.all_eq_false]
    exact ⟨x,List.mem_of_getElem? hx,by simp [hw]⟩
   ·refine .inl ⟨_,rfl,by simp,?_⟩
    rw [Yz hx,allIn,List.all_append]
    simp only [allIn] at hS
    simp [hS,hw]
  ·rintro ⟨i,⟨⟩⟩ ⟨rfl,hS⟩
   rw [List.take_length] at hS
   simp only [Z9,Int.lt_irrefl,if_false]
   exact ⟨_,rfl,fun h=>by omega,fun h=>by rw [hS] at h;cases h⟩
 obtain ⟨r,h1,h2⟩:=h1
 unfold Xt Yd
 rw [h1]
 simp only [Option.bind_some,h2]
 cases allIn l lo hi<;>simp
end Go.Proofs.YtehkanadahncgaaGreatDoor
/-
  Plain laws: the instances of functions of package slices. Printed by program (libgen.py).
-/
namespace Go.Proofs.YtehkanadahncgaaGreatDoor
open Go Go.Sx
set_option linter.unusedVariables false
set_option linter.unusedSimpArgs false
theorem ZeC {l:List (List UInt8)} {v:List UInt8} (hl:Len l):Yo l v=some (Zcz (fun x=>decide (v=x)) l):=by
 unfold Yo
 refine Zbl (out:=fun i=>i) hl (fun k x hx=>?_) ?_
 ·have hk:=(List.getElem?_eq_some_iff.1 hx).1
  simp only [Ym,Zu,hx,Option.bind_some,show (k:Int)<(l.length:Int) from by omega,if_true,decide_eq_true_eq]
  split<;>rfl
 ·simp only [Ym,Int.lt_irrefl,if_false]
theorem QI {l:List Zr} {f:Bool×Unit} (hl:Len l) (p:Zr→Bool) (hp:∀ x∈l,Qi x f.fst=some (p x)):ZI l f=some (Zcz p l):=by
 unfold ZI
 refine Zbl (out:=fun i=>i) hl (p:=p) (fun k x hx=>?_) ?_
 ·have hk:=(List.getElem?_eq_some_iff.1 hx).1
  simp only [ZO,Zu,hx,Option.bind_some,show (k:Int)<(l.length:Int) from by omega,if_true,hp x (List.mem_of_getElem? hx)]
  split<;>rfl
 ·simp only [ZO,Int.lt_irrefl,if_false]
theorem Qh {l:List Zr} {f:Bool×Unit} (hl:Len l) (p:Zr→Bool) (hp:∀ x∈l,Qi x f.fst=some (p x)):ZF l f=some (l.any p):=by
 unfold ZF
 rw [QI hl p hp,Option.bind_some]
 congr 1
 rw [Bool.eq_iff_iff,decide_eq_true_eq,Zcc]
theorem Va {l:List Yu} {f:Unit} (hl:Len l) (p:Yu→Bool) (hp:∀ x∈l,Zao x=some (p x)):ZN l f=some (Zcz p l):=by
 unfold ZN
 refine Zbl (out:=fun i=>i) hl (p:=p) (fun k x hx=>?_) ?_
 ·have hk:=(List.getElem?_eq_some_iff.1 hx).1
  simp only [ZW,Zu,hx,Option.bind_some,show (k:Int)<(l.length:Int) from by omega,if_true,hp x (List.mem_of_getElem? hx)]
  split<;>rfl
 ·simp only [ZW,Int.lt_irrefl,if_false]
theorem QV {l:List ZM} {f:ZM×Unit} (hl:Len l) (p:ZM→Bool) (hp:∀ x∈l,Xb x f.fst=some (p x)):ZJ l f=some (Zcz p l):=by
 unfold ZJ
 refine Zbl (out:=fun i=>i) hl (p:=p) (fun k x hx=>?_) ?_
 ·have hk:=(List.getElem?_eq_some_iff.1 hx).1
  simp only [ZP,Zu,hx,Option.bind_some,show (k:Int)<(l.length:Int) from by omega,if_true,hp x (List.mem_of_getElem? hx)]
  split<;>rfl
 ·simp only [ZP,Int.lt_irrefl,if_false]
theorem Qv {l:List ZM} {f:ZM×Unit} (hl:Len l) (p:ZM→Bool) (hp:∀ x∈l,Xb x f.fst=some (p x)):ZG l f=some (l.any p):=by
 unfold ZG
 rw [QV hl p hp,Option.bind_some]
 congr 1
 rw [Bool.eq_iff_iff,decide_eq_true_eq,Zcc]
theorem Vv {l:List ZM} {f:Int×Unit} (hl:Len l) (p:ZM→Bool) (hp:∀ x∈l,Zaa x f.fst=some (p x)):ZT l f=some (Zcz p l):=by
 unfold ZT
 refine Zbl (out:=fun i=>i) hl (p:=p) (fun k x hx=>?_) ?_
 ·have hk:=(List.getElem?_eq_some_iff.1 hx).1
  simp only [ZX,Zu,hx,Option.bind_some,show (k:Int)<(l.length:Int) from by omega,if_true,hp x (List.mem_of_getElem? hx)]
  split<;>rfl
 ·simp only [ZX,Int.lt_irrefl,if_false]
theorem Q0 {l:List ZM} {f:Int×Unit} (hl:Len l) (p:ZM→Bool) (hp:∀ x∈l,Zaa x f.fst=some (p x)):ZK l f=some (l.any p):=by
 unfold ZK
 rw [Vv hl p hp,Option.bind_some]
 congr 1
 rw [Bool.eq_iff_iff,decide_eq_true_eq,Zcc]
theorem Q5 {l:List Int} {f:Za×Unit} (hl:Len l) (p:Int→Bool) (hp:∀ x∈l,YT x f.fst=some (p x)):ZL l f=some (Zcz p l):=by
 unfold ZL
 refine Zbl (out:=fun i=>i) hl (p:=p) (fun k x hx=>?_) ?_
 ·have hk:=(List.getElem?_eq_some_iff.1 hx).1
  simp only [ZR,Zu,hx,Option.bind_some,show (k:Int)<(l.length:Int) from by omega,if_true,hp x (List.mem_of_getElem? hx)]
  split<;>rfl
 ·simp only [ZR,Int.lt_irrefl,if_false]
theorem Qx {l:List Int} {f:Za×Unit} (hl:Len l) (p:Int→Bool) (hp:∀ x∈l,YT x f.fst=some (p x)):ZH l f=some (l.any p):=by
 unfold ZH
 rw [Q5 hl p hp,Option.bind_some]
 congr 1
 rw [Bool.eq_iff_iff,decide_eq_true_eq,Zcc]
theorem Zaq {l:List Int} {f:Unit} (hl:Len l) (p:Int→Bool) (hp:∀ x∈l,J8 x=some (p x)):Ye l f=some (Zcz p l):=by
 unfold Ye
 refine Zbl (out:=fun i=>i) hl (p:=p) (fun k x hx=>?_) ?_
 ·have hk:=(List.getElem?_eq_some_iff.1 hx).1
  simp only [Yg,Zu,hx,Option.bind_some,show (k:Int)<(l.length:Int) from by omega,if_true,hp x (List.mem_of_getElem? hx)]
  split<;>rfl
 ·simp only [Yg,Int.lt_irrefl,if_false]
theorem JF {l:List Int} {f:Unit} (hl:Len l) (p:Int→Bool) (hp:∀ x∈l,J8 x=some (p x)):Yb l f=some (l.any p):=by
 unfold Yb
 rw [Zaq hl p hp,Option.bind_some]
 congr 1
 rw [Bool.eq_iff_iff,decide_eq_true_eq,Zcc]
theorem XC {l:List Zd} {f:List UInt8×Unit} (hl:Len l) (p:Zd→Bool) (hp:∀ x∈l,VA x f.fst=some (p x)):Zy l f=some (Zcz p l):=by
 unfold Zy
 refine Zbl (out:=fun i=>i) hl (p:=p) (fun k x hx=>?_) ?_
 ·have hk:=(List.getElem?_eq_some_iff.1 hx).1
  simp only [ZC,Zu,hx,Option.bind_some,show (k:Int)<(l.length:Int) from by omega,if_true,hp x (List.mem_of_getElem? hx)]
  split<;>rfl
 ·simp only [ZC,Int.lt_irrefl,if_false]
end Go.Proofs.YtehkanadahncgaaGreatDoor
/-
  Plain laws: arguments counted, copied, compared. Printed by program (szgen.py).
-/
namespace Go.Proofs.YtehkanadahncgaaGreatDoor
open Go Go.Sx
set_option linter.unusedVariables false
set_option linter.unusedSimpArgs false
theorem ZjM (a:Yu) (left:Int) (h0:0≤left) (h1:left≤1048576) (hb:bnd (V9) a):Szd (Zbr a left) left (sm (V9) a):=by
 unfold Zbr
 refine Szd.len h0 h1 (by omega) hb.1 (fun hw a0 b0 s0=>?_)
 rw [hw]
 exact Szd.ret ⟨s0,Vu _ (by rfl) _,Vu _ (by rfl) _,Vu _ (by rfl) _,trivial⟩
theorem ZmW (a:List (Yu)) (left:Int) (h0:0≤left) (h1:left≤1048576) (hb:bnd (.sl (V9)) a):Szd (ZbM a left) left (sm (.sl (V9)) a):=by
 unfold ZbM
 refine Szd.len h0 h1 (by omega) hb.1 (fun hw m0 m1 hn=>?_)
 rw [hw]
 exact (Szd.loop (f:=fun x m=>Zbr x m) (P:=fun x=>sm (V9) x) (fun x hx m m0 m1=>ZjM x m m0 m1 (hb.2 x hx)) (fun k m=>rfl) m0 m1 hn).mono (fun h=>⟨hn,h⟩)
theorem X5 (a:List (Int)) (left:Int) (h0:0≤left) (h1:left≤1048576) (hb:bnd (.sl (.int .i64)) a):Szd (YV a left) left (sm (.sl (.int .i64)) a):=by
 unfold YV
 refine Szd.len h0 h1 (by omega) hb.1 (fun hw m0 m1 hn=>?_)
 rw [hw]
 exact Szd.ret ⟨hn,fun x _=>Vu (.int .i64) (by rfl) x⟩
theorem Zhc (a:Zr) (left:Int) (h0:0≤left) (h1:left≤1048576) (hb:bnd (Yf) a):Szd (Je a left) left (sm (Yf) a):=by
 unfold Je
 refine Szd.then (X5 _ _ h0 h1 hb.1) h0 h1 (fun m0 a0 b0 s0=>?_)
 refine Szd.then (X5 _ _ a0 b0 hb.2.1) a0 b0 (fun m1 a1 b1 s1=>?_)
 refine Szd.last (X5 _ _ a1 b1 hb.2.2.1) a1 (fun s2=>?_)
 exact ⟨s0,s1,s2,trivial⟩
theorem ZgB (a:List (Zr)) (left:Int) (h0:0≤left) (h1:left≤1048576) (hb:bnd (.sl (Yf)) a):Szd (Ja a left) left (sm (.sl (Yf)) a):=by
 unfold Ja
 refine Szd.len h0 h1 (by omega) hb.1 (fun hw m0 m1 hn=>?_)
 rw [hw]
 exact (Szd.loop (f:=fun x m=>Je x m) (P:=fun x=>sm (Yf) x) (fun x hx m m0 m1=>Zhc x m m0 m1 (hb.2 x hx)) (fun k m=>rfl) m0 m1 hn).mono (fun h=>⟨hn,h⟩)
theorem Zjy (a:ZM) (left:Int) (h0:0≤left) (h1:left≤1048576) (hb:bnd (Zaw) a):Szd (Zbw a left) left (sm (Zaw) a):=by
 unfold Zbw
 refine Szd.then (ZgB _ _ h0 h1 hb.2.2.2.2.1) h0 h1 (fun m0 a0 b0 s0=>?_)
 refine Szd.last (ZgB _ _ a0 b0 hb.2.2.2.2.2.1) a0 (fun s1=>?_)
 exact ⟨Vu _ (by rfl) _,Vu _ (by rfl) _,Vu _ (by rfl) _,Vu _ (by rfl) _,s0,s1,trivial⟩
theorem Zm3 (a:List (ZM)) (left:Int) (h0:0≤left) (h1:left≤1048576) (hb:bnd (.sl (Zaw)) a):Szd (ZbU a left) left (sm (.sl (Zaw)) a):=by
 unfold ZbU
 refine Szd.len h0 h1 (by omega) hb.1 (fun hw m0 m1 hn=>?_)
 rw [hw]
 exact (Szd.loop (f:=fun x m=>Zbw x m) (P:=fun x=>sm (Zaw) x) (fun x hx m m0 m1=>Zjy x m m0 m1 (hb.2 x hx)) (fun k m=>rfl) m0 m1 hn).mono (fun h=>⟨hn,h⟩)
theorem Zia (a:Zh) (left:Int) (h0:0≤left) (h1:left≤1048576) (hb:bnd (YL) a):Szd (ZaD a left) left (sm (YL) a):=by
 unfold ZaD
 refine Szd.len h0 h1 (by omega) hb.1 (fun hw a0 b0 s0=>?_)
 rw [hw]
 refine Szd.then (ZmW _ _ a0 b0 hb.2.2.1) a0 b0 (fun m1 a1 b1 s1=>?_)
 refine Szd.then (Zm3 _ _ a1 b1 hb.2.2.2.1) a1 b1 (fun m2 a2 b2 s2=>?_)
 refine Szd.last (X5 _ _ a2 b2 hb.2.2.2.2.1) a2 (fun s3=>?_)
 exact ⟨s0,Vu _ (by rfl) _,s1,s2,s3,Vu _ (by rfl) _,Vu _ (by rfl) _,trivial⟩
theorem ZlC (a:List (Zh)) (left:Int) (h0:0≤left) (h1:left≤1048576) (hb:bnd (.sl (YL)) a):Szd (ZaW a left) left (sm (.sl (YL)) a):=by
 unfold ZaW
 refine Szd.len h0 h1 (by omega) hb.1 (fun hw m0 m1 hn=>?_)
 rw [hw]
 exact (Szd.loop (f:=fun x m=>ZaD x m) (P:=fun x=>sm (YL) x) (fun x hx m m0 m1=>Zia x m m0 m1 (hb.2 x hx)) (fun k m=>rfl) m0 m1 hn).mono (fun h=>⟨hn,h⟩)
theorem Zks (a:Zl) (left:Int) (h0:0≤left) (h1:left≤1048576) (hb:bnd (Z0) a):Szd (Ji a left) left (sm (Z0) a):=by
 unfold Ji
 refine Szd.last (ZlC _ _ h0 h1 hb.1) h0 (fun s0=>?_)
 exact ⟨s0,trivial⟩
theorem Zfx (a:Zd) (left:Int) (h0:0≤left) (h1:left≤1048576) (hb:bnd (Zv) a):Szd (X0 a left) left (sm (Zv) a):=by
 unfold X0
 refine Szd.len h0 h1 (by omega) hb.1 (fun hw a0 b0 s0=>?_)
 rw [hw]
 refine Szd.last (X5 _ _ a0 b0 hb.2.2.1) a0 (fun s1=>?_)
 exact ⟨s0,Vu _ (by rfl) _,s1,trivial⟩
theorem Zim (a:List (Zd)) (left:Int) (h0:0≤left) (h1:left≤1048576) (hb:bnd (.sl (Zv)) a):Szd (QX a left) left (sm (.sl (Zv)) a):=by
 unfold QX
 refine Szd.len h0 h1 (by omega) hb.1 (fun hw m0 m1 hn=>?_)
 rw [hw]
 exact (Szd.loop (f:=fun x m=>X0 x m) (P:=fun x=>sm (Zv) x) (fun x hx m m0 m1=>Zfx x m m0 m1 (hb.2 x hx)) (fun k m=>rfl) m0 m1 hn).mono (fun h=>⟨hn,h⟩)
theorem Zki (a:List (List UInt8)) (left:Int) (h0:0≤left) (h1:left≤1048576) (hb:bnd (.sl (.str)) a):Szd (Jj a left) left (sm (.sl (.str)) a):=by
 unfold Jj
 refine Szd.len h0 h1 (by omega) hb.1 (fun hw m0 m1 hn=>?_)
 rw [hw]
 exact (Szd.loop (f:=fun x m=>if IntKind.i64.wrap (m-(x.length:Int))<0 then some (-1) else some (IntKind.i64.wrap (m-(x.length:Int)))) (P:=fun x=>sm .str x) (fun x hx m m0 m1=>Szd.len m0 m1 (by omega) (hb.2 x hx) (fun hw _ _ hn=>by rw [hw];exact Szd.ret hn)) (fun k m=>by
  show XI a m (k:Int)=_
  unfold XI
  congr 1;congr 1;funext x;split<;>simp_all) m0 m1 hn).mono (fun h=>⟨hn,h⟩)
theorem Zh1 (a:ZU) (left:Int) (h0:0≤left) (h1:left≤1048576) (hb:bnd (Xk) a):Szd (ZaE a left) left (sm (Xk) a):=by
 unfold ZaE
 refine Szd.len h0 h1 (by omega) hb.1 (fun hw a0 b0 s0=>?_)
 rw [hw]
 exact Szd.ret ⟨s0,Vu _ (by rfl) _,Vu _ (by rfl) _,trivial⟩
theorem ZlS (a:List (ZU)) (left:Int) (h0:0≤left) (h1:left≤1048576) (hb:bnd (.sl (Xk)) a):Szd (Za0 a left) left (sm (.sl (Xk)) a):=by
 unfold Za0
 refine Szd.len h0 h1 (by omega) hb.1 (fun hw m0 m1 hn=>?_)
 rw [hw]
 exact (Szd.loop (f:=fun x m=>ZaE x m) (P:=fun x=>sm (Xk) x) (fun x hx m m0 m1=>Zh1 x m m0 m1 (hb.2 x hx)) (fun k m=>rfl) m0 m1 hn).mono (fun h=>⟨hn,h⟩)
theorem Zll (a:Za) (left:Int) (h0:0≤left) (h1:left≤1048576) (hb:bnd (Z8) a):Szd (Zak a left) left (sm (Z8) a):=by
 unfold Zak
 refine Szd.then (Zim _ _ h0 h1 hb.1) h0 h1 (fun m0 a0 b0 s0=>?_)
 refine Szd.then (Zki _ _ a0 b0 hb.2.1) a0 b0 (fun m1 a1 b1 s1=>?_)
 refine Szd.last (ZlS _ _ a1 b1 hb.2.2.1) a1 (fun s2=>?_)
 exact ⟨s0,s1,s2,trivial⟩
theorem ZfM (a:Zn) (left:Int) (h0:0≤left) (h1:left≤1048576) (hb:bnd (YJ) a):Szd (JE a left) left (sm (YJ) a):=by
 unfold JE
 refine Szd.then (X5 _ _ h0 h1 hb.1) h0 h1 (fun m0 a0 b0 s0=>?_)
 refine Szd.then (X5 _ _ a0 b0 hb.2.1) a0 b0 (fun m1 a1 b1 s1=>?_)
 refine Szd.then (X5 _ _ a1 b1 hb.2.2.1) a1 b1 (fun m2 a2 b2 s2=>?_)
 refine Szd.last (X5 _ _ a2 b2 hb.2.2.2.1) a2 (fun s3=>?_)
 exact ⟨s0,s1,s2,s3,trivial⟩
theorem ZmF (a:List (Zn)) (left:Int) (h0:0≤left) (h1:left≤1048576) (hb:bnd (.sl (YJ)) a):Szd (ZaU a left) left (sm (.sl (YJ)) a):=by
 unfold ZaU
 refine Szd.len h0 h1 (by omega) hb.1 (fun hw m0 m1 hn=>?_)
 rw [hw]
 exact (Szd.loop (f:=fun x m=>JE x m) (P:=fun x=>sm (YJ) x) (fun x hx m m0 m1=>ZfM x m m0 m1 (hb.2 x hx)) (fun k m=>rfl) m0 m1 hn).mono (fun h=>⟨hn,h⟩)
theorem Zmx (a:Zb) (left:Int) (h0:0≤left) (h1:left≤1048576) (hb:bnd (Yr) a):Szd (ZaV a left) left (sm (Yr) a):=by
 unfold ZaV
 refine Szd.then (Zks _ _ h0 h1 hb.1) h0 h1 (fun m0 a0 b0 s0=>?_)
 refine Szd.then (Zll _ _ a0 b0 hb.2.1) a0 b0 (fun m1 a1 b1 s1=>?_)
 refine Szd.last (ZmF _ _ a1 b1 hb.2.2.1) a1 (fun s2=>?_)
 exact ⟨s0,s1,s2,trivial⟩
theorem Zm8 (a:Zf) (left:Int) (h0:0≤left) (h1:left≤1048576) (hb:bnd (VT) a):Szd (ZbT a left) left (sm (VT) a):=by
 unfold ZbT
 refine Szd.len h0 h1 (by omega) hb.2.2.2.2.2.1 (fun hw a0 b0 s0=>?_)
 rw [hw]
 refine Szd.last (ZfM _ _ a0 b0 hb.2.2.2.2.2.2.1) a0 (fun s1=>?_)
 exact ⟨Vu _ (by rfl) _,Vu _ (by rfl) _,Vu _ (by rfl) _,Vu _ (by rfl) _,Vu _ (by rfl) _,s0,s1,trivial⟩
theorem ZnJ (a:Yu) (hs:sm (V9) a):Zd0 a=some a:=by
 unfold Zd0
 all_goals rfl
theorem ZmT (a:List (Yu)) (hs:sm (.sl (V9)) a):Zel a=some a:=by
 unfold Zel
 have h:=hs.1
 rw [Zi (by omega),Zi (by omega),Zi (by omega),Zi (by omega)]
 exact Zdm (f:=Zd0) (fun x hx=>ZnJ x (hs.2 x hx)) (fun k out=>rfl) h
theorem X9 (a:List (Int)) (hs:sm (.sl (.int .i64)) a):Xi a=some a:=by
 unfold Xi
 have h:=hs.1
 rw [Zi (by omega),Zi (by omega),Zi (by omega),Zi (by omega)]
 exact Zdm (f:=some) (fun x _=>rfl) (fun k out=>rfl) h
theorem Zmn (a:Zr) (hs:sm (Yf) a):ZbY a=some a:=by
 unfold ZbY
 rw [X9 _ hs.1,Option.bind_some,X9 _ hs.2.1,Option.bind_some,X9 _ hs.2.2.1,Option.bind_some]
 all_goals rfl
theorem Zgx (a:List (Zr)) (hs:sm (.sl (Yf)) a):Za6 a=some a:=by
 unfold Za6
 have h:=hs.1
 rw [Zi (by omega),Zi (by omega),Zi (by omega),Zi (by omega)]
 exact Zdm (f:=ZbY) (fun x hx=>Zmn x (hs.2 x hx)) (fun k out=>rfl) h
theorem ZnP (a:ZM) (hs:sm (Zaw) a):Zd1 a=some a:=by
 unfold Zd1
 rw [Zgx _ hs.2.2.2.2.1,Option.bind_some,Zgx _ hs.2.2.2.2.2.1,Option.bind_some]
 all_goals rfl
theorem Zng (a:List (ZM)) (hs:sm (.sl (Zaw)) a):ZdZ a=some a:=by
 unfold ZdZ
 have h:=hs.1
 rw [Zi (by omega),Zi (by omega),Zi (by omega),Zi (by omega)]
 exact Zdm (f:=Zd1) (fun x hx=>ZnP x (hs.2 x hx)) (fun k out=>rfl) h
theorem Zna (a:Zh) (hs:sm (YL) a):ZcO a=some a:=by
 unfold ZcO
 rw [ZmT _ hs.2.2.1,Option.bind_some,Zng _ hs.2.2.2.1,Option.bind_some,X9 _ hs.2.2.2.2.1,Option.bind_some]
 all_goals rfl
theorem Zl5 (a:List (Zh)) (hs:sm (.sl (YL)) a):Zda a=some a:=by
 unfold Zda
 have h:=hs.1
 rw [Zi (by omega),Zi (by omega),Zi (by omega),Zi (by omega)]
 exact Zdm (f:=ZcO) (fun x hx=>Zna x (hs.2 x hx)) (fun k out=>rfl) h
theorem Zkt (a:Zl) (hs:sm (Z0) a):Zbt a=some a:=by
 unfold Zbt
 rw [Zl5 _ hs.1,Option.bind_some]
 all_goals rfl
theorem ZjH (a:Zd) (hs:sm (Zv) a):JD a=some a:=by
 unfold JD
 rw [X9 _ hs.2.2.1,Option.bind_some]
 all_goals rfl
theorem Zil (a:List (Zd)) (hs:sm (.sl (Zv)) a):J9 a=some a:=by
 unfold J9
 have h:=hs.1
 rw [Zi (by omega),Zi (by omega),Zi (by omega),Zi (by omega)]
 exact Zdm (f:=JD) (fun x hx=>ZjH x (hs.2 x hx)) (fun k out=>rfl) h
theorem ZkE (a:List (List UInt8)) (hs:sm (.sl (.str)) a):Zbq a=some a:=by
 unfold Zbq
 have h:=hs.1
 rw [Zi (by omega),Zi (by omega),Zi (by omega),Zi (by omega)]
 exact Zdm (f:=some) (fun x _=>rfl) (fun k out=>rfl) h
theorem ZmO (a:ZU) (hs:sm (Xk) a):ZcS a=some a:=by
 unfold ZcS
 all_goals rfl
theorem ZlX (a:List (ZU)) (hs:sm (.sl (Xk)) a):Zc7 a=some a:=by
 unfold Zc7
 have h:=hs.1
 rw [Zi (by omega),Zi (by omega),Zi (by omega),Zi (by omega)]
 exact Zdm (f:=ZcS) (fun x hx=>ZmO x (hs.2 x hx)) (fun k out=>rfl) h
theorem ZkY (a:Za) (hs:sm (Z8) a):Zct a=some a:=by
 unfold Zct
 rw [Zil _ hs.1,Option.bind_some,ZkE _ hs.2.1,Option.bind_some,ZlX _ hs.2.2.1,Option.bind_some]
 all_goals rfl
theorem Zh2 (a:Zn) (hs:sm (YJ) a):ZbQ a=some a:=by
 unfold ZbQ
 rw [X9 _ hs.1,Option.bind_some,X9 _ hs.2.1,Option.bind_some,X9 _ hs.2.2.1,Option.bind_some,X9 _ hs.2.2.2.1,Option.bind_some]
 all_goals rfl
theorem ZlP (a:List (Zn)) (hs:sm (.sl (YJ)) a):Zc1 a=some a:=by
 unfold Zc1
 have h:=hs.1
 rw [Zi (by omega),Zi (by omega),Zi (by omega),Zi (by omega)]
 exact Zdm (f:=ZbQ) (fun x hx=>Zh2 x (hs.2 x hx)) (fun k out=>rfl) h
theorem Zmt (a:Zb) (hs:sm (Yr) a):Zdh a=some a:=by
 unfold Zdh
 rw [Zkt _ hs.1,Option.bind_some,ZkY _ hs.2.1,Option.bind_some,ZlP _ hs.2.2.1,Option.bind_some]
 all_goals rfl
theorem ZmP (a:Zf) (hs:sm (VT) a):Zes a=some a:=by
 unfold Zes
 rw [Zh2 _ hs.2.2.2.2.2.2.1,Option.bind_some]
 all_goals rfl
theorem ZoA (a:Yu) (hs:sm (V9) a):Zea a a=some true:=by
 unfold Zea
 simp
theorem ZmV (a:List (Yu)) (hs:sm (.sl (V9)) a):Zeu a a=some true:=by
 unfold Zeu
 rw [if_pos rfl]
 exact ZiR (f:=Zea) (fun x hx=>ZoA x (hs.2 x hx)) (fun k=>rfl) hs.1
theorem X6 (a:List (Int)) (hs:sm (.sl (.int .i64)) a):Xg a a=some true:=by
 unfold Xg
 rw [if_pos rfl]
 exact Zqn (fun k=>rfl) hs.1
theorem Zmw (a:Zr) (hs:sm (Yf) a):ZbR a a=some true:=by
 unfold ZbR
 simp [X6 _ hs.1,X6 _ hs.2.1,X6 _ hs.2.2.1]
theorem Zgz (a:List (Zr)) (hs:sm (.sl (Yf)) a):Za7 a a=some true:=by
 unfold Za7
 rw [if_pos rfl]
 exact ZiR (f:=ZbR) (fun x hx=>Zmw x (hs.2 x hx)) (fun k=>rfl) hs.1
theorem Zou (a:ZM) (hs:sm (Zaw) a):Zer a a=some true:=by
 unfold Zer
 simp [Zgz _ hs.2.2.2.2.1,Zgz _ hs.2.2.2.2.2.1]
theorem ZmM (a:List (ZM)) (hs:sm (.sl (Zaw)) a):Zd6 a a=some true:=by
 unfold Zd6
 rw [if_pos rfl]
 exact ZiR (f:=Zer) (fun x hx=>Zou x (hs.2 x hx)) (fun k=>rfl) hs.1
theorem Zm4 (a:Zh) (hs:sm (YL) a):ZcU a a=some true:=by
 unfold ZcU
 simp [ZmV _ hs.2.2.1,ZmM _ hs.2.2.2.1,X6 _ hs.2.2.2.2.1]
theorem ZlI (a:List (Zh)) (hs:sm (.sl (YL)) a):Zdg a a=some true:=by
 unfold Zdg
 rw [if_pos rfl]
 exact ZiR (f:=ZcU) (fun x hx=>Zm4 x (hs.2 x hx)) (fun k=>rfl) hs.1
theorem ZjV (a:Zl) (hs:sm (Z0) a):Zbn a a=some true:=by
 unfold Zbn
 simp [ZlI _ hs.1]
theorem Zjb (a:Zd) (hs:sm (Zv) a):JZ a a=some true:=by
 unfold JZ
 simp [X6 _ hs.2.2.1]
theorem ZiJ (a:List (Zd)) (hs:sm (.sl (Zv)) a):Zae a a=some true:=by
 unfold Zae
 rw [if_pos rfl]
 exact ZiR (f:=JZ) (fun x hx=>Zjb x (hs.2 x hx)) (fun k=>rfl) hs.1
theorem Zj2 (a:List (List UInt8)) (hs:sm (.sl (.str)) a):Zbx a a=some true:=by
 unfold Zbx
 rw [if_pos rfl]
 exact Zqn (fun k=>rfl) hs.1
theorem ZmR (a:ZU) (hs:sm (Xk) a):ZcQ a a=some true:=by
 unfold ZcQ
 simp
theorem ZlD (a:List (ZU)) (hs:sm (.sl (Xk)) a):Zc9 a a=some true:=by
 unfold Zc9
 rw [if_pos rfl]
 exact ZiR (f:=ZcQ) (fun x hx=>ZmR x (hs.2 x hx)) (fun k=>rfl) hs.1
theorem Zlq (a:Za) (hs:sm (Z8) a):Zcb a a=some true:=by
 unfold Zcb
 simp [ZiJ _ hs.1,Zj2 _ hs.2.1,ZlD _ hs.2.2.1]
theorem Zig (a:Zn) (hs:sm (YJ) a):ZbP a a=some true:=by
 unfold ZbP
 simp [X6 _ hs.1,X6 _ hs.2.1,X6 _ hs.2.2.1,X6 _ hs.2.2.2.1]
theorem Zmj (a:List (Zn)) (hs:sm (.sl (YJ)) a):Zc3 a a=some true:=by
 unfold Zc3
 rw [if_pos rfl]
 exact ZiR (f:=ZbP) (fun x hx=>Zig x (hs.2 x hx)) (fun k=>rfl) hs.1
theorem Zg9 (a:Zb) (hs:sm (Yr) a):Zb0 a a=some true:=by
 unfold Zb0
 simp [ZjV _ hs.1,Zlq _ hs.2.1,Zmj _ hs.2.2.1]
theorem ZmX (a:Zf) (hs:sm (VT) a):Zd7 a a=some true:=by
 unfold Zd7
 simp [Zig _ hs.2.2.2.2.2.2.1]
end Go.Proofs.YtehkanadahncgaaGreatDoor
/-
  Plain laws: all lengths together; marks. Printed by program (totgen.py).
-/
namespace Go.Proofs.YtehkanadahncgaaGreatDoor
open Go Go.Sx
set_option linter.unusedVariables false
set_option linter.unusedSimpArgs false
theorem Zuv {α:Type} {L:List α} {j:Nat} {z:α} {A A' B B':Int} (hA:A=A') (hB:B=B'):∃ y,(some (.inl (A,B,List.set L j z,())):Option ((Int×Int×List α×Unit) ⊕ (Int×List α)))=some (.inl (A',B',List.set L j y,())):=⟨z,by rw [hA,hB]⟩
theorem Zen (k:Int) (h0:0≤k) (h1:k≤4611686018427387904):∃ s,YN k=some s:=by
 unfold YN
 split
 ·exact ⟨_,rfl⟩
 ·obtain ⟨r,h,_⟩:=Zrh (step:=fun v=>JA v.1 v.2.1) (fun v:Int×List UInt8×Unit=>0≤v.1∧v.1+(v.2.1.length:Int)≤4611686018427387904) (fun v=>v.1.toNat) (fun _=>True) (v:=(k,([]:List UInt8),())) ⟨h0,by simpa using h1⟩
   (by
    rintro ⟨m,s,⟨⟩⟩ ⟨a,b⟩
    simp only at a b
    simp only [JA]
    by_cases hm:0<m
    ·have e1:Int.tdiv m 10=m / 10:=Int.tdiv_eq_ediv_of_nonneg a
     rw [if_pos hm,e1,V8 (n:=m / 10) (by omega) (by omega),Zi (by simp only [bytesOf,List.length_map,List.length_singleton];omega)]
     refine .inl ⟨_,rfl,⟨by simp only;omega,?_⟩,by simp only;omega⟩
     simp only [List.length_append,bytesOf,List.length_map,List.length_singleton]
     omega
    ·rw [if_neg hm,Zi (by simp only [List.length_singleton];omega)]
     exact .inr ⟨_,rfl,trivial⟩)
  exact ⟨r,h⟩
theorem ZmY (a:Yu) (left:Int) (h0:0≤left) (h1:left≤1048576) (hb:bnd (V9) a):Szt (Zbr a left) left (tot (V9) a):=by
 unfold Zbr
 exact (Szt.len h0 h1 (by omega) hb.1 (fun hw0 a0 b0=>by rw [hw0];exact Szt.ret)).mono (by simp only [Zdy,Zfj,ZdD,ZdN,ZeO];omega)
theorem ZlQ (a:List (Yu)) (left:Int) (h0:0≤left) (h1:left≤1048576) (hb:bnd (.sl (V9)) a):Szt (ZbM a left) left (tot (.sl (V9)) a):=by
 unfold ZbM
 refine (Szt.len h0 h1 (by omega) hb.1 (fun hw m0 m1=>(?_:Szt _ _ ((a.map (tot (V9))).sum)))).mono (by rw [Zi6];omega)
 rw [hw]
 exact Szt.loop (f:=fun x m=>Zbr x m) (P:=fun x=>sm (V9) x) (T:=tot (V9)) (fun x hx m m0 m1=>ZjM x m m0 m1 (hb.2 x hx)) (fun x hx m m0 m1=>ZmY x m m0 m1 (hb.2 x hx)) (fun k m=>rfl) m0 m1 (by omega)
theorem Xw (a:List (Int)) (left:Int) (h0:0≤left) (h1:left≤1048576) (hb:bnd (.sl (.int .i64)) a):Szt (YV a left) left (tot (.sl (.int .i64)) a):=by
 unfold YV
 refine (Szt.len h0 h1 (by omega) hb.1 (fun hw m0 m1=>(?_:Szt _ _ ((a.map (tot (.int .i64))).sum)))).mono (by rw [Zi6];omega)
 rw [hw]
 exact Szt.ret.mono (by rw [ZsH (by rfl)];omega)
theorem Zlb (a:Zr) (left:Int) (h0:0≤left) (h1:left≤1048576) (hb:bnd (Yf) a):Szt (Je a left) left (tot (Yf) a):=by
 unfold Je
 exact (Szt.then (Xw a.1 _ h0 h1 hb.1) h0 h1 (fun m0 a0 b0=>Szt.then (Xw a.2.1 _ a0 b0 hb.2.1) a0 b0 (fun m1 a1 b1=>Szt.last (Xw a.2.2.1 _ a1 b1 hb.2.2.1)))).mono (by simp only [Zdy,Zfj,ZdD,ZdN,ZeO];omega)
theorem ZfV (a:List (Zr)) (left:Int) (h0:0≤left) (h1:left≤1048576) (hb:bnd (.sl (Yf)) a):Szt (Ja a left) left (tot (.sl (Yf)) a):=by
 unfold Ja
 refine (Szt.len h0 h1 (by omega) hb.1 (fun hw m0 m1=>(?_:Szt _ _ ((a.map (tot (Yf))).sum)))).mono (by rw [Zi6];omega)
 rw [hw]
 exact Szt.loop (f:=fun x m=>Je x m) (P:=fun x=>sm (Yf) x) (T:=tot (Yf)) (fun x hx m m0 m1=>Zhc x m m0 m1 (hb.2 x hx)) (fun x hx m m0 m1=>Zlb x m m0 m1 (hb.2 x hx)) (fun k m=>rfl) m0 m1 (by omega)
theorem ZmU (a:ZM) (left:Int) (h0:0≤left) (h1:left≤1048576) (hb:bnd (Zaw) a):Szt (Zbw a left) left (tot (Zaw) a):=by
 unfold Zbw
 exact (Szt.then (ZfV a.2.2.2.2.1 _ h0 h1 hb.2.2.2.2.1) h0 h1 (fun m0 a0 b0=>Szt.last (ZfV a.2.2.2.2.2.1 _ a0 b0 hb.2.2.2.2.2.1))).mono (by simp only [Zdy,Zfj,ZdD,ZdN,ZeO];omega)
theorem ZmE (a:List (ZM)) (left:Int) (h0:0≤left) (h1:left≤1048576) (hb:bnd (.sl (Zaw)) a):Szt (ZbU a left) left (tot (.sl (Zaw)) a):=by
 unfold ZbU
 refine (Szt.len h0 h1 (by omega) hb.1 (fun hw m0 m1=>(?_:Szt _ _ ((a.map (tot (Zaw))).sum)))).mono (by rw [Zi6];omega)
 rw [hw]
 exact Szt.loop (f:=fun x m=>Zbw x m) (P:=fun x=>sm (Zaw) x) (T:=tot (Zaw)) (fun x hx m m0 m1=>Zjy x m m0 m1 (hb.2 x hx)) (fun x hx m m0 m1=>ZmU x m m0 m1 (hb.2 x hx)) (fun k m=>rfl) m0 m1 (by omega)
theorem ZlF (a:Zh) (left:Int) (h0:0≤left) (h1:left≤1048576) (hb:bnd (YL) a):Szt (ZaD a left) left (tot (YL) a):=by
 unfold ZaD
 exact (Szt.len h0 h1 (by omega) hb.1 (fun hw0 a0 b0=>by rw [hw0];exact Szt.then (ZlQ a.2.2.1 _ a0 b0 hb.2.2.1) a0 b0 (fun m1 a1 b1=>Szt.then (ZmE a.2.2.2.1 _ a1 b1 hb.2.2.2.1) a1 b1 (fun m2 a2 b2=>Szt.last (Xw a.2.2.2.2.1 _ a2 b2 hb.2.2.2.2.1))))).mono (by simp only [Zdy,Zfj,ZdD,ZdN,ZeO];omega)
theorem Zle (a:List (Zh)) (left:Int) (h0:0≤left) (h1:left≤1048576) (hb:bnd (.sl (YL)) a):Szt (ZaW a left) left (tot (.sl (YL)) a):=by
 unfold ZaW
 refine (Szt.len h0 h1 (by omega) hb.1 (fun hw m0 m1=>(?_:Szt _ _ ((a.map (tot (YL))).sum)))).mono (by rw [Zi6];omega)
 rw [hw]
 exact Szt.loop (f:=fun x m=>ZaD x m) (P:=fun x=>sm (YL) x) (T:=tot (YL)) (fun x hx m m0 m1=>Zia x m m0 m1 (hb.2 x hx)) (fun x hx m m0 m1=>ZlF x m m0 m1 (hb.2 x hx)) (fun k m=>rfl) m0 m1 (by omega)
theorem Zjf (a:Zl) (left:Int) (h0:0≤left) (h1:left≤1048576) (hb:bnd (Z0) a):Szt (Ji a left) left (tot (Z0) a):=by
 unfold Ji
 exact (Szt.last (Zle a.1 _ h0 h1 hb.1)).mono (by simp only [Zdy,Zfj,ZdD,ZdN,ZeO];omega)
theorem ZiX (a:Zd) (left:Int) (h0:0≤left) (h1:left≤1048576) (hb:bnd (Zv) a):Szt (X0 a left) left (tot (Zv) a):=by
 unfold X0
 exact (Szt.len h0 h1 (by omega) hb.1 (fun hw0 a0 b0=>by rw [hw0];exact Szt.last (Xw a.2.2.1 _ a0 b0 hb.2.2.1))).mono (by simp only [Zdy,Zfj,ZdD,ZdN,ZeO];omega)
theorem Zhw (a:List (Zd)) (left:Int) (h0:0≤left) (h1:left≤1048576) (hb:bnd (.sl (Zv)) a):Szt (QX a left) left (tot (.sl (Zv)) a):=by
 unfold QX
 refine (Szt.len h0 h1 (by omega) hb.1 (fun hw m0 m1=>(?_:Szt _ _ ((a.map (tot (Zv))).sum)))).mono (by rw [Zi6];omega)
 rw [hw]
 exact Szt.loop (f:=fun x m=>X0 x m) (P:=fun x=>sm (Zv) x) (T:=tot (Zv)) (fun x hx m m0 m1=>Zfx x m m0 m1 (hb.2 x hx)) (fun x hx m m0 m1=>ZiX x m m0 m1 (hb.2 x hx)) (fun k m=>rfl) m0 m1 (by omega)
theorem ZjE (a:List (List UInt8)) (left:Int) (h0:0≤left) (h1:left≤1048576) (hb:bnd (.sl (.str)) a):Szt (Jj a left) left (tot (.sl (.str)) a):=by
 unfold Jj
 refine (Szt.len h0 h1 (by omega) hb.1 (fun hw m0 m1=>(?_:Szt _ _ ((a.map (tot (.str))).sum)))).mono (by rw [Zi6];omega)
 rw [hw]
 exact Szt.loop (l:=a) (α:=List UInt8) (f:=fun (x:List UInt8) (m:Int)=>if IntKind.i64.wrap (m-(x.length:Int))<0 then some (-1) else some (IntKind.i64.wrap (m-(x.length:Int)))) (P:=fun (x:List UInt8)=>sm .str x) (T:=fun (x:List UInt8)=>tot .str x) (fun x hx m m0 m1=>Szd.str x m m0 m1 (hb.2 x hx)) (fun x hx m m0 m1=>Szt.str x m m0 m1 (hb.2 x hx)) (fun k m=>by
  show XI a m (k:Int)=_
  unfold XI
  congr 1;congr 1;funext x;split<;>simp_all) m0 m1 (by omega)
theorem Zmy (a:ZU) (left:Int) (h0:0≤left) (h1:left≤1048576) (hb:bnd (Xk) a):Szt (ZaE a left) left (tot (Xk) a):=by
 unfold ZaE
 exact (Szt.len h0 h1 (by omega) hb.1 (fun hw0 a0 b0=>by rw [hw0];exact Szt.ret)).mono (by simp only [Zdy,Zfj,ZdD,ZdN,ZeO];omega)
theorem Zlo (a:List (ZU)) (left:Int) (h0:0≤left) (h1:left≤1048576) (hb:bnd (.sl (Xk)) a):Szt (Za0 a left) left (tot (.sl (Xk)) a):=by
 unfold Za0
 refine (Szt.len h0 h1 (by omega) hb.1 (fun hw m0 m1=>(?_:Szt _ _ ((a.map (tot (Xk))).sum)))).mono (by rw [Zi6];omega)
 rw [hw]
 exact Szt.loop (f:=fun x m=>ZaE x m) (P:=fun x=>sm (Xk) x) (T:=tot (Xk)) (fun x hx m m0 m1=>Zh1 x m m0 m1 (hb.2 x hx)) (fun x hx m m0 m1=>Zmy x m m0 m1 (hb.2 x hx)) (fun k m=>rfl) m0 m1 (by omega)
theorem Zj4 (a:Za) (left:Int) (h0:0≤left) (h1:left≤1048576) (hb:bnd (Z8) a):Szt (Zak a left) left (tot (Z8) a):=by
 unfold Zak
 exact (Szt.then (Zhw a.1 _ h0 h1 hb.1) h0 h1 (fun m0 a0 b0=>Szt.then (ZjE a.2.1 _ a0 b0 hb.2.1) a0 b0 (fun m1 a1 b1=>Szt.last (Zlo a.2.2.1 _ a1 b1 hb.2.2.1)))).mono (by simp only [Zdy,Zfj,ZdD,ZdN,ZeO];omega)
theorem Zg6 (a:Zn) (left:Int) (h0:0≤left) (h1:left≤1048576) (hb:bnd (YJ) a):Szt (JE a left) left (tot (YJ) a):=by
 unfold JE
 exact (Szt.then (Xw a.1 _ h0 h1 hb.1) h0 h1 (fun m0 a0 b0=>Szt.then (Xw a.2.1 _ a0 b0 hb.2.1) a0 b0 (fun m1 a1 b1=>Szt.then (Xw a.2.2.1 _ a1 b1 hb.2.2.1) a1 b1 (fun m2 a2 b2=>Szt.last (Xw a.2.2.2.1 _ a2 b2 hb.2.2.2.1))))).mono (by simp only [Zdy,Zfj,ZdD,ZdN,ZeO];omega)
theorem ZkZ (a:List (Zn)) (left:Int) (h0:0≤left) (h1:left≤1048576) (hb:bnd (.sl (YJ)) a):Szt (ZaU a left) left (tot (.sl (YJ)) a):=by
 unfold ZaU
 refine (Szt.len h0 h1 (by omega) hb.1 (fun hw m0 m1=>(?_:Szt _ _ ((a.map (tot (YJ))).sum)))).mono (by rw [Zi6];omega)
 rw [hw]
 exact Szt.loop (f:=fun x m=>JE x m) (P:=fun x=>sm (YJ) x) (T:=tot (YJ)) (fun x hx m m0 m1=>ZfM x m m0 m1 (hb.2 x hx)) (fun x hx m m0 m1=>Zg6 x m m0 m1 (hb.2 x hx)) (fun k m=>rfl) m0 m1 (by omega)
theorem ZkV (a:Zb) (left:Int) (h0:0≤left) (h1:left≤1048576) (hb:bnd (Yr) a):Szt (ZaV a left) left (tot (Yr) a):=by
 unfold ZaV
 exact (Szt.then (Zjf a.1 _ h0 h1 hb.1) h0 h1 (fun m0 a0 b0=>Szt.then (Zj4 a.2.1 _ a0 b0 hb.2.1) a0 b0 (fun m1 a1 b1=>Szt.last (ZkZ a.2.2.1 _ a1 b1 hb.2.2.1)))).mono (by simp only [Zdy,Zfj,ZdD,ZdN,ZeO];omega)
theorem ZlG (a:Zf) (left:Int) (h0:0≤left) (h1:left≤1048576) (hb:bnd (VT) a):Szt (ZbT a left) left (tot (VT) a):=by
 unfold ZbT
 exact (Szt.len h0 h1 (by omega) hb.2.2.2.2.2.1 (fun hw0 a0 b0=>by rw [hw0];exact Szt.last (Zg6 a.2.2.2.2.2.2.1 _ a0 b0 hb.2.2.2.2.2.2.1))).mono (by simp only [Zdy,Zfj,ZdD,ZdN,ZeO];omega)
theorem Zli (a:List (Yu)) (k:Int) (hs:sm (.sl (V9)) a) (h0:0≤k) (h1:k+(cnt (.sl (V9)) a:Int)≤4611686018427387904):Mkd (Zas a k) k (cnt (.sl (V9)) a):=by
 unfold Zas
 have hl:a.length≤1048576:=by have:=hs.1;omega
 refine Mkd.loop (l:=a) (c:=cnt (V9)) (fun j m x L hj hj' hL hx hxm hm0 hm1 hj2=>?_) (fun m L hL=>?_) hl h0 h1
 ·have hsx:=hs.2 x hxm
  have hc:((cnt (V9) x:Nat):Int)=0+1+1+1+1:=by simp only [Qt,VP,Qs,Qr,Jc];omega
  obtain ⟨s0,e0⟩:=Zen (m) (by omega) (by omega)
  have hx2:atI L (j:Int)=some x:=by rw [Zu];exact hx
  have hb:∀ {β:Type} (y:Yu) (F:Yu→Option β),(atI (List.set L j y) (j:Int)).bind F=F y:=fun y F=>by rw [ZbG hj];rfl
  simp only [Qd,if_pos hj',Int.toNat_natCast,hx2,↓hb,Option.bind_some,List.set_set,e0]
  refine Zuv ?_ ?_
  ·have hc:=hc;simp (disch:=omega) only [V8];omega
  ·simp (disch:=omega) only [V8];omega
 ·simp only [Qd,Int.lt_irrefl,if_false]
theorem Xj (a:List (Int)) (k:Int) (hs:sm (.sl (.int .i64)) a) (h0:0≤k) (h1:k+(cnt (.sl (.int .i64)) a:Int)≤4611686018427387904):Mkd (Yj a k) k (cnt (.sl (.int .i64)) a):=by
 unfold Yj
 have hl:a.length≤1048576:=by have:=hs.1;omega
 refine Mkd.loop (l:=a) (c:=cnt (.int .i64)) (fun j m x L hj hj' hL hx hxm hm0 hm1 hj2=>?_) (fun m L hL=>?_) hl h0 h1
 ·have hsx:=hs.2 x hxm
  have hc:((cnt (.int .i64) x:Nat):Int)=0+1:=by rfl
  simp (disch:=omega) only [Xp,if_pos hj',Zu,hx,Option.bind_some,V8,Int.toNat_natCast,ZbG,List.length_set,List.set_set,List.getElem?_set_self]
  refine ⟨_,congrArg some (congrArg Sum.inl (Prod.ext ?_ (Prod.ext ?_ (Prod.ext rfl rfl))))⟩
  ·show _=m+_;rw [hc];omega
  ·simp only;omega
 ·simp only [Xp,Int.lt_irrefl,if_false]
theorem ZfA (a:List (Zr)) (k:Int) (hs:sm (.sl (Yf)) a) (h0:0≤k) (h1:k+(cnt (.sl (Yf)) a:Int)≤4611686018427387904):Mkd (QF a k) k (cnt (.sl (Yf)) a):=by
 unfold QF
 have hl:a.length≤1048576:=by have:=hs.1;omega
 refine Mkd.loop (l:=a) (c:=cnt (Yf)) (fun j m x L hj hj' hL hx hxm hm0 hm1 hj2=>?_) (fun m L hL=>?_) hl h0 h1
 ·have hsx:=hs.2 x hxm
  have hc:((cnt (Yf) x:Nat):Int)=0+((cnt (.sl (.int .i64)) x.1:Nat):Int)+((cnt (.sl (.int .i64)) x.2.1:Nat):Int)+((cnt (.sl (.int .i64)) x.2.2.1:Nat):Int):=by simp only [Qt,VP,Qs,Qr,Jc];omega
  obtain ⟨s0,e0⟩:=Xj x.1 (m) hsx.1 (by omega) (by omega)
  obtain ⟨s1,e1⟩:=Xj x.2.1 (m+((cnt (.sl (.int .i64)) x.1:Nat):Int)) hsx.2.1 (by omega) (by omega)
  obtain ⟨s2,e2⟩:=Xj x.2.2.1 (m+((cnt (.sl (.int .i64)) x.1:Nat):Int)+((cnt (.sl (.int .i64)) x.2.1:Nat):Int)) hsx.2.2.1 (by omega) (by omega)
  simp (disch:=omega) only [Xr,if_pos hj',Zu,hx,Option.bind_some,V8,Int.toNat_natCast,ZbG,List.length_set,List.set_set,List.getElem?_set_self,e0,e1,e2]
  refine ⟨_,congrArg some (congrArg Sum.inl (Prod.ext ?_ (Prod.ext ?_ (Prod.ext rfl rfl))))⟩
  ·show _=m+_;rw [hc];omega
  ·simp only;omega
 ·simp only [Xr,Int.lt_irrefl,if_false]
theorem Zlc (a:List (ZM)) (k:Int) (hs:sm (.sl (Zaw)) a) (h0:0≤k) (h1:k+(cnt (.sl (Zaw)) a:Int)≤4611686018427387904):Mkd (Zah a k) k (cnt (.sl (Zaw)) a):=by
 unfold Zah
 have hl:a.length≤1048576:=by have:=hs.1;omega
 refine Mkd.loop (l:=a) (c:=cnt (Zaw)) (fun j m x L hj hj' hL hx hxm hm0 hm1 hj2=>?_) (fun m L hL=>?_) hl h0 h1
 ·have hsx:=hs.2 x hxm
  have hc:((cnt (Zaw) x:Nat):Int)=0+1+1+1+1+((cnt (.sl (Yf)) x.2.2.2.2.1:Nat):Int)+((cnt (.sl (Yf)) x.2.2.2.2.2.1:Nat):Int):=by simp only [Qt,VP,Qs,Qr,Jc];omega
  obtain ⟨s0,e0⟩:=ZfA x.2.2.2.2.1 (m+1+1+1+1) hsx.2.2.2.2.1 (by omega) (by omega)
  obtain ⟨s1,e1⟩:=ZfA x.2.2.2.2.2.1 (m+1+1+1+1+((cnt (.sl (Yf)) x.2.2.2.2.1:Nat):Int)) hsx.2.2.2.2.2.1 (by omega) (by omega)
  simp (disch:=omega) only [Qb,if_pos hj',Zu,hx,Option.bind_some,V8,Int.toNat_natCast,ZbG,List.length_set,List.set_set,List.getElem?_set_self,e0,e1]
  refine ⟨_,congrArg some (congrArg Sum.inl (Prod.ext ?_ (Prod.ext ?_ (Prod.ext rfl rfl))))⟩
  ·show _=m+_;rw [hc];omega
  ·simp only;omega
 ·simp only [Qb,Int.lt_irrefl,if_false]
theorem Zke (a:List (Zh)) (k:Int) (hs:sm (.sl (YL)) a) (h0:0≤k) (h1:k+(cnt (.sl (YL)) a:Int)≤4611686018427387904):Mkd (Jg a k) k (cnt (.sl (YL)) a):=by
 unfold Jg
 have hl:a.length≤1048576:=by have:=hs.1;omega
 refine Mkd.loop (l:=a) (c:=cnt (YL)) (fun j m x L hj hj' hL hx hxm hm0 hm1 hj2=>?_) (fun m L hL=>?_) hl h0 h1
 ·have hsx:=hs.2 x hxm
  have hc:((cnt (YL) x:Nat):Int)=0+1+1+((cnt (.sl (V9)) x.2.2.1:Nat):Int)+((cnt (.sl (Zaw)) x.2.2.2.1:Nat):Int)+((cnt (.sl (.int .i64)) x.2.2.2.2.1:Nat):Int)+1+1:=by simp only [Qt,VP,Qs,Qr,Jc];omega
  obtain ⟨s0,e0⟩:=Zen (m) (by omega) (by omega)
  obtain ⟨s1,e1⟩:=Zli x.2.2.1 (m+1+1) hsx.2.2.1 (by omega) (by omega)
  obtain ⟨s2,e2⟩:=Zlc x.2.2.2.1 (m+1+1+((cnt (.sl (V9)) x.2.2.1:Nat):Int)) hsx.2.2.2.1 (by omega) (by omega)
  obtain ⟨s3,e3⟩:=Xj x.2.2.2.2.1 (m+1+1+((cnt (.sl (V9)) x.2.2.1:Nat):Int)+((cnt (.sl (Zaw)) x.2.2.2.1:Nat):Int)) hsx.2.2.2.2.1 (by omega) (by omega)
  simp (disch:=omega) only [XH,if_pos hj',Zu,hx,Option.bind_some,V8,Int.toNat_natCast,ZbG,List.length_set,List.set_set,List.getElem?_set_self,e0,e1,e2,e3]
  refine ⟨_,congrArg some (congrArg Sum.inl (Prod.ext ?_ (Prod.ext ?_ (Prod.ext rfl rfl))))⟩
  ·show _=m+_;rw [hc];omega
  ·simp only;omega
 ·simp only [XH,Int.lt_irrefl,if_false]
theorem ZiY (a:Zl) (k:Int) (hs:sm (Z0) a) (h0:0≤k) (h1:k+((cnt (Z0) a:Nat):Int)≤4611686018427387904):Mkd (QW a k) k (cnt (Z0) a):=by
 unfold QW
 have hc:((cnt (Z0) a:Nat):Int)=0+(((cnt (.sl (YL)) a.1):Nat):Int):=by simp only [Qt,VP,Qs,Qr,Jc];omega
 obtain ⟨s0,e0⟩:=Zke a.1 (k) hs.1 (by omega) (by omega)
 simp only [Option.bind_some,e0]
 exact ⟨_,congrArg some (Prod.ext (by rfl) rfl)⟩
theorem Zg2 (a:List (Zd)) (k:Int) (hs:sm (.sl (Zv)) a) (h0:0≤k) (h1:k+(cnt (.sl (Zv)) a:Int)≤4611686018427387904):Mkd (XO a k) k (cnt (.sl (Zv)) a):=by
 unfold XO
 have hl:a.length≤1048576:=by have:=hs.1;omega
 refine Mkd.loop (l:=a) (c:=cnt (Zv)) (fun j m x L hj hj' hL hx hxm hm0 hm1 hj2=>?_) (fun m L hL=>?_) hl h0 h1
 ·have hsx:=hs.2 x hxm
  have hc:((cnt (Zv) x:Nat):Int)=0+1+1+((cnt (.sl (.int .i64)) x.2.2.1:Nat):Int):=by simp only [Qt,VP,Qs,Qr,Jc];omega
  obtain ⟨s0,e0⟩:=Zen (m) (by omega) (by omega)
  obtain ⟨s1,e1⟩:=Xj x.2.2.1 (m+1+1) hsx.2.2.1 (by omega) (by omega)
  simp (disch:=omega) only [YW,if_pos hj',Zu,hx,Option.bind_some,V8,Int.toNat_natCast,ZbG,List.length_set,List.set_set,List.getElem?_set_self,e0,e1]
  refine ⟨_,congrArg some (congrArg Sum.inl (Prod.ext ?_ (Prod.ext ?_ (Prod.ext rfl rfl))))⟩
  ·show _=m+_;rw [hc];omega
  ·simp only;omega
 ·simp only [YW,Int.lt_irrefl,if_false]
theorem Ziv (a:List (List UInt8)) (k:Int) (hs:sm (.sl (.str)) a) (h0:0≤k) (h1:k+(cnt (.sl (.str)) a:Int)≤4611686018427387904):Mkd (QY a k) k (cnt (.sl (.str)) a):=by
 unfold QY
 have hl:a.length≤1048576:=by have:=hs.1;omega
 refine Mkd.loop (l:=a) (c:=cnt (.str)) (fun j m x L hj hj' hL hx hxm hm0 hm1 hj2=>?_) (fun m L hL=>?_) hl h0 h1
 ·have hsx:=hs.2 x hxm
  have hc:((cnt (.str) x:Nat):Int)=0+1:=by rfl
  obtain ⟨s0,e0⟩:=Zen (m) (by omega) (by omega)
  simp (disch:=omega) only [Xe,if_pos hj',Zu,hx,Option.bind_some,V8,Int.toNat_natCast,ZbG,List.length_set,List.set_set,List.getElem?_set_self,e0]
  refine ⟨_,congrArg some (congrArg Sum.inl (Prod.ext ?_ (Prod.ext ?_ (Prod.ext rfl rfl))))⟩
  ·show _=m+_;rw [hc];omega
  ·simp only;omega
 ·simp only [Xe,Int.lt_irrefl,if_false]
theorem Zj7 (a:List (ZU)) (k:Int) (hs:sm (.sl (Xk)) a) (h0:0≤k) (h1:k+(cnt (.sl (Xk)) a:Int)≤4611686018427387904):Mkd (Jf a k) k (cnt (.sl (Xk)) a):=by
 unfold Jf
 have hl:a.length≤1048576:=by have:=hs.1;omega
 refine Mkd.loop (l:=a) (c:=cnt (Xk)) (fun j m x L hj hj' hL hx hxm hm0 hm1 hj2=>?_) (fun m L hL=>?_) hl h0 h1
 ·have hsx:=hs.2 x hxm
  have hc:((cnt (Xk) x:Nat):Int)=0+1+1+1:=by simp only [Qt,VP,Qs,Qr,Jc];omega
  obtain ⟨s0,e0⟩:=Zen (m) (by omega) (by omega)
  simp (disch:=omega) only [XJ,if_pos hj',Zu,hx,Option.bind_some,V8,Int.toNat_natCast,ZbG,List.length_set,List.set_set,List.getElem?_set_self,e0]
  refine ⟨_,congrArg some (congrArg Sum.inl (Prod.ext ?_ (Prod.ext ?_ (Prod.ext rfl rfl))))⟩
  ·show _=m+_;rw [hc];omega
  ·simp only;omega
 ·simp only [XJ,Int.lt_irrefl,if_false]
theorem Zjt (a:Za) (k:Int) (hs:sm (Z8) a) (h0:0≤k) (h1:k+((cnt (Z8) a:Nat):Int)≤4611686018427387904):Mkd (Vy a k) k (cnt (Z8) a):=by
 unfold Vy
 have hc:((cnt (Z8) a:Nat):Int)=0+(((cnt (.sl (Zv)) a.1):Nat):Int)+(((cnt (.sl (.str)) a.2.1):Nat):Int)+(((cnt (.sl (Xk)) a.2.2.1):Nat):Int):=by simp only [Qt,VP,Qs,Qr,Jc];omega
 obtain ⟨s0,e0⟩:=Zg2 a.1 (k) hs.1 (by omega) (by omega)
 obtain ⟨s1,e1⟩:=Ziv a.2.1 (k+(((cnt (.sl (Zv)) a.1):Nat):Int)) hs.2.1 (by omega) (by omega)
 obtain ⟨s2,e2⟩:=Zj7 a.2.2.1 (k+(((cnt (.sl (Zv)) a.1):Nat):Int)+(((cnt (.sl (.str)) a.2.1):Nat):Int)) hs.2.2.1 (by omega) (by omega)
 simp only [Option.bind_some,e0,e1,e2]
 exact ⟨_,congrArg some (Prod.ext (by show _=k+_;rw [hc];omega) rfl)⟩
theorem Zj5 (a:List (Zn)) (k:Int) (hs:sm (.sl (YJ)) a) (h0:0≤k) (h1:k+(cnt (.sl (YJ)) a:Int)≤4611686018427387904):Mkd (Jl a k) k (cnt (.sl (YJ)) a):=by
 unfold Jl
 have hl:a.length≤1048576:=by have:=hs.1;omega
 refine Mkd.loop (l:=a) (c:=cnt (YJ)) (fun j m x L hj hj' hL hx hxm hm0 hm1 hj2=>?_) (fun m L hL=>?_) hl h0 h1
 ·have hsx:=hs.2 x hxm
  have hc:((cnt (YJ) x:Nat):Int)=0+((cnt (.sl (.int .i64)) x.1:Nat):Int)+((cnt (.sl (.int .i64)) x.2.1:Nat):Int)+((cnt (.sl (.int .i64)) x.2.2.1:Nat):Int)+((cnt (.sl (.int .i64)) x.2.2.2.1:Nat):Int):=by simp only [Qt,VP,Qs,Qr,Jc];omega
  obtain ⟨s0,e0⟩:=Xj x.1 (m) hsx.1 (by omega) (by omega)
  obtain ⟨s1,e1⟩:=Xj x.2.1 (m+((cnt (.sl (.int .i64)) x.1:Nat):Int)) hsx.2.1 (by omega) (by omega)
  obtain ⟨s2,e2⟩:=Xj x.2.2.1 (m+((cnt (.sl (.int .i64)) x.1:Nat):Int)+((cnt (.sl (.int .i64)) x.2.1:Nat):Int)) hsx.2.2.1 (by omega) (by omega)
  obtain ⟨s3,e3⟩:=Xj x.2.2.2.1 (m+((cnt (.sl (.int .i64)) x.1:Nat):Int)+((cnt (.sl (.int .i64)) x.2.1:Nat):Int)+((cnt (.sl (.int .i64)) x.2.2.1:Nat):Int)) hsx.2.2.2.1 (by omega) (by omega)
  simp (disch:=omega) only [XK,if_pos hj',Zu,hx,Option.bind_some,V8,Int.toNat_natCast,ZbG,List.length_set,List.set_set,List.getElem?_set_self,e0,e1,e2,e3]
  refine ⟨_,congrArg some (congrArg Sum.inl (Prod.ext ?_ (Prod.ext ?_ (Prod.ext rfl rfl))))⟩
  ·show _=m+_;rw [hc];omega
  ·simp only;omega
 ·simp only [XK,Int.lt_irrefl,if_false]
theorem Zky (a:Zb) (k:Int) (hs:sm (Yr) a) (h0:0≤k) (h1:k+((cnt (Yr) a:Nat):Int)≤4611686018427387904):Mkd (Vt a k) k (cnt (Yr) a):=by
 unfold Vt
 have hc:((cnt (Yr) a:Nat):Int)=0+(((cnt (Z0) a.1):Nat):Int)+(((cnt (Z8) a.2.1):Nat):Int)+(((cnt (.sl (YJ)) a.2.2.1):Nat):Int):=by simp only [Qt,VP,Qs,Qr,Jc];omega
 obtain ⟨s0,e0⟩:=ZiY a.1 (k) hs.1 (by omega) (by omega)
 obtain ⟨s1,e1⟩:=Zjt a.2.1 (k+(((cnt (Z0) a.1):Nat):Int)) hs.2.1 (by omega) (by omega)
 obtain ⟨s2,e2⟩:=Zj5 a.2.2.1 (k+(((cnt (Z0) a.1):Nat):Int)+(((cnt (Z8) a.2.1):Nat):Int)) hs.2.2.1 (by omega) (by omega)
 simp only [Option.bind_some,e0,e1,e2]
 exact ⟨_,congrArg some (Prod.ext (by show _=k+_;rw [hc];omega) rfl)⟩
end Go.Proofs.YtehkanadahncgaaGreatDoor
