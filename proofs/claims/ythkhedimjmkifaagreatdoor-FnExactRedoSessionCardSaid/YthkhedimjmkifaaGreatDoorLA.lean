/-
  Ground of the plain laws: loops by what they come to; small arithmetic.
-/
import Derived.Test.YthkhedimjmkifaaGreatDoorSxM
import Derived.IntWalk
import Derived.Test.YthkhedimjmkifaaGreatDoorM
import Derived.Test.YthkhedimjmkifaaGreatDoorSxBr
namespace Go.Proofs.YthkhedimjmkifaaGreatDoor
set_option linter.unusedVariables false
set_option linter.unusedSimpArgs false
open Go Go.Sx
theorem Jr {n:Int} (h1:-9223372036854775808≤n) (h2:n≤9223372036854775807):Wq n=n:=IntWalk.i64_in n ⟨h1,h2⟩
theorem Zu {α:Type} (l:List α) (k:Nat):atI l (k:Int)=l[k]?:=by simp [atI]
theorem XI {α:Type} {l:List α} {i:Int} {x:α} (h0:0≤i) (hx:l[i.toNat]?=some x):atI l i=some x:=by simp [atI,h0,hx]
theorem Zqy {α:Type} {l:List α} {i:Int} (h0:0≤i) (h1:i<l.length):∃ x,atI l i=some x∧l[i.toNat]?=some x :=
 ⟨l[i.toNat]'(by omega),by simp [atI,h0],List.getElem?_eq_getElem _⟩
theorem Zi {α:Type} {p:Prop} (h:p) (a:Option α):Zt p a=a:=by
 unfold Zt
 exact if_pos h
theorem Vn {τ ρ:Type} {step:τ→Option (τ ⊕ ρ)} (n:Nat) (I:Nat→τ→Prop) (Q:ρ→Prop) {v:τ} (h0:I 0 v)
  (hs:∀ k v,k<n→I k v→(∃ v',step v=some (.inl v')∧I (k+1) v')∨∃ r,step v=some (.inr r)∧Q r)
  (hx:∀ v,I n v→∃ r,step v=some (.inr r)∧Q r):∃ r,Zv step v=some r∧Q r:=by
 have:∀ m k v,k+m=n→I k v→∃ r,Zv step v=some r∧Q r:=by
  intro m
  induction m with
  | zero =>
   intro k v hk hI
   have:k=n:=by omega
   subst this
   obtain ⟨r,e,hq⟩:=hx v hI
   exact ⟨r,Vr e,hq⟩
  | succ m ih =>
   intro k v hk hI
   rcases hs k v (by omega) hI with ⟨v',e,hI'⟩ | ⟨r,e,hq⟩
   ·obtain ⟨r,h1,h2⟩:=ih (k+1) v' (by omega) hI'
    exact ⟨r,by rw [Zi7 e];exact h1,h2⟩
   ·exact ⟨r,Vr e,hq⟩
 exact this n 0 v (by omega) h0
theorem Xy {τ ρ:Type} {step:τ→Option (τ ⊕ ρ)} (n:Nat) (I:Nat→τ→Prop) (R:ρ) {v:τ} (h0:I 0 v)
  (hs:∀ k v,k<n→I k v→(∃ v',step v=some (.inl v')∧I (k+1) v')∨step v=some (.inr R))
  (hx:∀ v,I n v→step v=some (.inr R)):Zv step v=some R:=by
 obtain ⟨r,h1,h2⟩:=Vn n I (fun r=>r=R) h0 (fun k v hk hI=>(hs k v hk hI).elim .inl (fun h=>.inr ⟨R,h,rfl⟩)) (fun v hI=>⟨R,hx v hI,rfl⟩)
 rw [h1,h2]
theorem Z8 {α:Type} {l:List α} {k:Nat} {x:α} (hx:l[k]?=some x):l.take (k+1)=l.take k++[x]:=by
 rw [List.take_add_one,hx];rfl
theorem ZvZ {ρ:Type} {g:Nat→Option ρ} {v:ρ} (h:∃ n,g n=some v) (hd:∀ n r,g n=some r→r=v):ZzE g=some v:=by
 obtain ⟨n,hn⟩:=h
 unfold ZzE
 have hx:∃ r n,g n=some r:=⟨v,n,hn⟩
 rw [dif_pos hx]
 obtain ⟨m,hm⟩:=Classical.choose_spec hx
 rw [hd m _ hm]
def sm:(t:Ty)→t.den→Prop
 | .str,s=>(s.length:Int)≤1048576
 | .sl t,l=>(l.length:Int)≤1048576∧∀ x∈l,sm t x
 | .pair a b,d=>sm a d.1∧sm b d.2
 | _,_=>True
def Szd (o:Option Int) (left:Int) (P:Prop):Prop:=∃ n,o=some n∧n≤left∧(0≤n→P)
theorem Szd.mono {o:Option Int} {left:Int} {P Q:Prop} (h:Szd o left P) (hpq:P→Q):Szd o left Q:=by
 obtain ⟨n,a,b,c⟩:=h;exact ⟨n,a,b,fun h=>hpq (c h)⟩
theorem Szd.then {o:Option Int} {left:Int} {P Q:Prop} (h:Szd o left P) (h0:0≤left) (hl:left≤1048576) {F:Int→Option Int} (h2:∀ n,0≤n→n≤1048576→P→Szd (F n) n Q) :
  Szd (o.bind fun n=>if n<0 then some (-1) else F n) left Q:=by
 obtain ⟨n,e,hle,hP⟩:=h
 rw [e,Bq]
 split
 ·rename_i hn
  exact ⟨-1,rfl,by omega,fun h=>by omega⟩
 ·rename_i hn
  obtain ⟨m,e2,h3,h4⟩:=h2 n (by omega) (by omega) (hP (by omega))
  exact ⟨m,e2,by omega,h4⟩
theorem Szd.last {o:Option Int} {left:Int} {P Q:Prop} (h:Szd o left P) (hl:0≤left) (hpq:P→Q):Szd (o.bind fun n=>if n<0 then some (-1) else some n) left Q:=by
 obtain ⟨n,e,hle,hP⟩:=h
 rw [e,Bq]
 split
 ·rename_i hn
  exact ⟨-1,rfl,by omega,fun h=>by omega⟩
 ·exact ⟨n,rfl,hle,fun h=>hpq (hP h)⟩
theorem Szd.len {left n:Int} {Q:Prop} {B:Option Int} (h0:0≤left) (hl:left≤1048576) (hn:0≤n) (hb:n≤9223372036854775807)
  (h2:Wq (left-n)=left-n→0≤left-n→left-n≤1048576→n≤1048576→Szd B (left-n) Q) :
  Szd (if Wq (left-n)<0 then some (-1) else B) left Q:=by
 have hw:=Jr (n:=left-n) (by omega) (by omega)
 rw [hw]
 split
 ·rename_i hn
  exact ⟨-1,rfl,by omega,fun h=>by omega⟩
 ·rename_i hn
  obtain ⟨m,e2,h3,h4⟩:=h2 hw (by omega) (by omega) (by omega)
  exact ⟨m,e2,by omega,h4⟩
theorem Szd.ret {left:Int} {P:Prop} (h:P):Szd (some left) left P:=⟨left,rfl,Int.le_refl _,fun _=>h⟩
theorem Szd.loop {α:Type} {l:List α} {f:α→Int→Option Int} {P:α→Prop} {step:Int×Int×Unit→Option ((Int×Int×Unit) ⊕ Int)}
  (hf:∀ x∈l,∀ m,0≤m→m≤1048576→Szd (f x m) m (P x))
  (hstep:∀ (k:Nat) (m:Int),step (m,(k:Int),())=if (k:Int)<(l.length:Int) then (atI l (k:Int)).bind fun x=>(f x m).bind fun n=>if n<0 then some (.inr (-1)) else some (.inl (n,Wq ((k:Int)+1),())) else some (.inr m))
  {left:Int} (h0:0≤left) (h1:left≤1048576) (hl:(l.length:Int)≤1048576):Szd (Zv step (left,0,())) left (∀ x∈l,P x):=by
 unfold Szd
 refine Vn l.length (fun k v=>v.2.1=(k:Int)∧0≤v.1∧v.1≤left∧∀ x∈l.take k,P x) (fun n=>n≤left∧(0≤n→∀ x∈l,P x)) ⟨rfl,h0,Int.le_refl _,by simp⟩ ?_ ?_
 ·rintro k ⟨m,i,⟨⟩⟩ hk ⟨hi,hm0,hm1,hP⟩
  simp only at hi hm0 hm1
  subst hi
  have hx:l[k]?=some l[k]:=List.getElem?_eq_getElem hk
  generalize l[k]=x at hx
  rw [hstep,if_pos (by omega),Zu,hx,Bq]
  obtain ⟨n,e,hn,hPx⟩:=hf x (List.mem_of_getElem? hx) m hm0 (by omega)
  rw [e,Bq]
  split
  ·exact .inr ⟨-1,rfl,by omega,fun h=>by omega⟩
  ·rw [Jr (by omega) (by omega)]
   refine .inl ⟨_,rfl,by simp,by dsimp only;omega,by dsimp only;omega,?_⟩
   rw [Z8 hx]
   intro y hy
   rcases List.mem_append.1 hy with hy | hy
   ·exact hP y hy
   ·simp at hy;subst hy;exact hPx (by omega)
 ·rintro ⟨m,i,⟨⟩⟩ ⟨hi,hm0,hm1,hP⟩
  simp only at hi hm0 hm1
  subst hi
  rw [List.take_length] at hP
  rw [hstep,if_neg (by omega)]
  exact ⟨m,rfl,hm1,fun _=>hP⟩
theorem Jd {α:Type} {l:List α} {f:α→Option α} {z:α} {step:Int×List α×Unit→Option ((Int×List α×Unit) ⊕ List α)} (hf:∀ x∈l,f x=some x)
  (hstep:∀ (k:Nat) (out:List α),step ((k:Int),out,())=if (k:Int)<(l.length:Int) then (atI l (k:Int)).bind fun x=>(f x).bind fun y=>(atI out (k:Int)).bind fun _=>some (.inl (Wq ((k:Int)+1),List.set out (Int.toNat (k:Int)) y,())) else some (.inr out))
  (hl:(l.length:Int)≤1048576):Zv step (0,List.replicate (Int.toNat (l.length:Int)) z,())=some l:=by
 refine Xy l.length (fun k v=>v.1=(k:Int)∧v.2.1.length=l.length∧v.2.1.take k=l.take k) _ ⟨rfl,by simp,by simp⟩ ?_ ?_
 ·rintro k ⟨i,out,⟨⟩⟩ hk ⟨hi,hlen,ht⟩
  simp only at hi hlen ht
  subst hi
  have hx:l[k]?=some l[k]:=List.getElem?_eq_getElem hk
  generalize l[k]=x at hx
  have hy:out[k]?=some (out[k]'(by omega)):=List.getElem?_eq_getElem (by omega)
  rw [hstep,if_pos (by omega),Zu,hx,Bq,hf x (List.mem_of_getElem? hx),Bq,Zu,hy,Bq,Jr (by omega) (by omega)]
  refine .inl ⟨_,rfl,by simp,by simp [hlen],?_⟩
  have hx2:(out.set k x)[k]?=some x:=by rw [List.getElem?_set_self (by omega)]
  simp only [Int.toNat_natCast]
  rw [Z8 hx2,Z8 hx,List.take_set,ht]
  rw [List.set_eq_of_length_le (by simp;omega)]
 ·rintro ⟨i,out,⟨⟩⟩ ⟨hi,hlen,ht⟩
  simp only at hi hlen ht
  subst hi
  rw [hstep,if_neg (by omega)]
  rw [List.take_length,List.take_of_length_le (by omega)] at ht
  rw [ht]
theorem Zuk {α:Type} [DecidableEq α] {l:List α} {step:Int×Unit→Option ((Int×Unit) ⊕ Bool)}
  (hstep:∀ (k:Nat),step ((k:Int),())=if (k:Int)<(l.length:Int) then (atI l (k:Int)).bind fun x=>(atI l (k:Int)).bind fun y=>if x=y then some (.inl (Wq ((k:Int)+1),())) else some (.inr false) else some (.inr true))
  (hl:(l.length:Int)≤1048576):Zv step (0,())=some true:=by
 refine Xy l.length (fun k v=>v.1=(k:Int)) _ rfl ?_ ?_
 ·rintro k ⟨i,⟨⟩⟩ hk hi
  simp only at hi
  subst hi
  have hx:l[k]?=some l[k]:=List.getElem?_eq_getElem hk
  generalize l[k]=x at hx
  rw [hstep,if_pos (by omega),Zu,hx,Bq,Bq,if_pos rfl,Jr (by omega) (by omega)]
  exact .inl ⟨_,rfl,by simp⟩
 ·rintro ⟨i,⟨⟩⟩ hi
  simp only at hi
  subst hi
  rw [hstep,if_neg (by omega)]
def Ty.fixed:Ty→Bool
 | .str=>false
 | .sl _=>false
 | .ptr _=>true
 | .fn _ _=>true
 | .pair a b=>Ty.fixed a&&Ty.fixed b
 | _=>true
theorem YC:∀ (t:Ty),Ty.fixed t=true→∀ d:t.den,sm t d
 | .int _,_,_=>trivial
 | .bool,_,_=>trivial
 | .unit,_,_=>trivial
 | .ptr _,_,_=>trivial
 | .fn _ _,_,_=>trivial
 | .nptr _,_,_=>trivial
 | .mp _ _,_,_=>trivial
 | .str,h,_=>by simp [Ty.fixed] at h
 | .sl _,h,_=>by simp [Ty.fixed] at h
 | .pair a b,h,d=>by
  simp only [Ty.fixed,Bool.and_eq_true] at h
  exact ⟨YC a h.1 d.1,YC b h.2 d.2⟩
theorem ZeU {α:Type} {l:List α} {f:α→α→Option Bool} {step:Int×Unit→Option ((Int×Unit) ⊕ Bool)} (hf:∀ x∈l,f x x=some true)
  (hstep:∀ (k:Nat),step ((k:Int),())=if (k:Int)<(l.length:Int) then (atI l (k:Int)).bind fun x=>(atI l (k:Int)).bind fun y=>(f x y).bind fun e=>if e=true then some (.inl (Wq ((k:Int)+1),())) else some (.inr false) else some (.inr true))
  (hl:(l.length:Int)≤1048576):Zv step (0,())=some true:=by
 refine Xy l.length (fun k v=>v.1=(k:Int)) _ rfl ?_ ?_
 ·rintro k ⟨i,⟨⟩⟩ hk hi
  simp only at hi
  subst hi
  have hx:l[k]?=some l[k]:=List.getElem?_eq_getElem hk
  generalize l[k]=x at hx
  rw [hstep,if_pos (by omega),Zu,hx,Bq,Bq,hf x (List.mem_of_getElem? hx),Bq,if_pos rfl,Jr (by omega) (by omega)]
  exact .inl ⟨_,rfl,by simp⟩
 ·rintro ⟨i,⟨⟩⟩ hi
  simp only at hi
  subst hi
  rw [hstep,if_neg (by omega)]
noncomputable def tr (p:Prop):Bool:=@decide p (Classical.propDecidable p)
theorem ZlV {p:Prop} {b:Bool} (h:b=true↔p):tr p=b:=by
 unfold tr
 cases b
 ·simp at h;simp [h]
 ·simp at h;simp [h]
theorem Y9 (p:Prop):tr p=true↔p:=by simp [tr]
theorem Yb {p:Prop} (h:p):tr p=true:=(Y9 p).2 h
theorem ZQ {p:Prop} (h:¬p):tr p=false:=by simp [tr,h]
/-
  Ground of the plain laws: the usual loops.
-/
def Len {α:Type} (l:List α):Prop:=l.length≤4611686018427387904
theorem ZzA {k:Nat} {α:Type} {l:List α} (hl:Len l) (hk:k≤l.length):Wq ((k:Int)+1)=((k+1:Nat):Int):=by
 have:l.length≤4611686018427387904:=hl
 rw [Jr (by omega) (by omega)];simp
def Za6 {α:Type} (p:α→Bool) (l:List α):Int:=match l.findIdx? p with
 | some i=>i
 | none=>-1
theorem Jh {α:Type} {p:α→Bool} {l:List α}:0≤Za6 p l↔l.any p=true:=by
 unfold Za6
 split
 ·rename_i i h
  obtain ⟨h1,h2,_⟩:=List.findIdx?_eq_some_iff_getElem.1 h
  refine ⟨fun _=>List.any_eq_true.2 ⟨_,List.getElem_mem h1,h2⟩,fun _=>by omega⟩
 ·rename_i h
  rw [List.findIdx?_eq_none_iff] at h
  refine ⟨fun h'=>by omega,fun h'=>?_⟩
  obtain ⟨x,hx,hp⟩:=List.any_eq_true.1 h'
  have:=h x hx
  rw [hp] at this;cases this
theorem V8 {α ρ:Type} {l:List α} (hl:Len l) {p:α→Bool} {step:Int×Unit→Option ((Int×Unit) ⊕ ρ)} {out:Int→ρ}
  (hs:∀ (k:Nat) (x:α),l[k]?=some x→step ((k:Int),())=some (if p x=true then .inr (out k) else .inl (Wq ((k:Int)+1),())))
  (hx:step ((l.length:Int),())=some (.inr (out (-1)))):Zv step (0,())=some (out (Za6 p l)):=by
 refine Xy l.length (fun k v=>v.1=(k:Int)∧∀ x∈l.take k,p x=false) _ ⟨rfl,by simp⟩ ?_ ?_
 ·rintro k ⟨i,⟨⟩⟩ hk ⟨hi,hS⟩
  simp only at hi
  subst hi
  have hx:l[k]?=some l[k]:=List.getElem?_eq_getElem hk
  rw [hs k _ hx,ZzA hl (by omega)]
  split
  ·rename_i hp
   right
   have:l.findIdx? p=some k:=by
    rw [List.findIdx?_eq_some_iff_getElem]
    refine ⟨hk,hp,fun j hj=>?_⟩
    have:=hS l[j] (List.mem_iff_getElem?.2 ⟨j,by rw [List.getElem?_take,if_pos hj];exact List.getElem?_eq_getElem _⟩)
    simp [this]
   unfold Za6
   rw [this]
  ·rename_i hp
   refine .inl ⟨_,rfl,rfl,?_⟩
   rw [Z8 hx]
   intro y hy
   rcases List.mem_append.1 hy with hy | hy
   ·exact hS y hy
   ·simp at hy;subst hy;simpa using hp
 ·rintro ⟨i,⟨⟩⟩ ⟨hi,hS⟩
  simp only at hi
  subst hi
  rw [List.take_length] at hS
  have:l.findIdx? p=none:=List.findIdx?_eq_none_iff.2 hS
  rw [hx]
  unfold Za6
  rw [this]
noncomputable def sel {ρ:Type} (P:Prop) (a b:ρ):ρ:=match tr P with
 | true=>a
 | false=>b
theorem YS {ρ:Type} {P:Prop} (h:P) (a b:ρ):sel P a b=a:=by simp [sel,Yb h]
theorem YH {ρ:Type} {P:Prop} (h:¬P) (a b:ρ):sel P a b=b:=by simp [sel,ZQ h]
theorem Zl5 (P:Prop):sel P true false=tr P:=by
 by_cases h:P
 ·rw [YS h,Yb h]
 ·rw [YH h,ZQ h]
def ZeY {α:Type} (l:List α) (P:Nat→α→Prop):Prop:=∀ (k:Nat) (x:α),l[k]?=some x→P k x
theorem Qs {α ρ:Type} {l:List α} (hl:Len l) (P:Nat→α→Prop) {step:Int×Unit→Option ((Int×Unit) ⊕ ρ)} {bad good:ρ}
  (hs:∀ (k:Nat) (x:α),l[k]?=some x→k<l.length→(∀ (j:Nat) (y:α),j<k→l[j]?=some y→P j y)→(P k x→step ((k:Int),())=some (.inl (Wq ((k:Int)+1),())))∧(¬P k x→step ((k:Int),())=some (.inr bad)))
  (hx:ZeY l P→step ((l.length:Int),())=some (.inr good)):Zv step (0,())=some (sel (ZeY l P) good bad):=by
 refine Xy l.length (fun k v=>v.1=(k:Int)∧∀ (j:Nat) (y:α),j<k→l[j]?=some y→P j y) _ ⟨rfl,fun j y hj=>by omega⟩ ?_ ?_
 ·rintro k ⟨i,⟨⟩⟩ hk ⟨hi,hS⟩
  simp only at hi
  subst hi
  have hx:l[k]?=some l[k]:=List.getElem?_eq_getElem hk
  obtain ⟨h1,h2⟩:=hs k _ hx hk hS
  by_cases hP:P k l[k]
  ·rw [h1 hP,ZzA hl (by omega)]
   refine .inl ⟨_,rfl,rfl,fun j y hj hy=>?_⟩
   by_cases hjk:j<k
   ·exact hS j y hjk hy
   ·have:j=k:=by omega
    subst this
    rw [hx] at hy;injection hy with hy;subst hy
    exact hP
  ·right
   rw [h2 hP,YH (fun h=>hP (h k _ hx))]
 ·rintro ⟨i,⟨⟩⟩ ⟨hi,hS⟩
  simp only at hi
  subst hi
  have hA:ZeY l P:=fun k x hk=>hS k x (List.getElem?_eq_some_iff.1 hk).1 hk
  rw [hx hA,YS hA]
theorem ZuX {ρ:Type} (m n:Nat) (hmn:m≤n) (hn:n≤4611686018427387904) (P:Nat→Prop) {step:Int×Unit→Option ((Int×Unit) ⊕ ρ)} {bad good:ρ}
  (hs:∀ k:Nat,m≤k→k<n→(∀ j,m≤j→j<k→P j)→(P k→step ((k:Int),())=some (.inl (Wq ((k:Int)+1),())))∧(¬P k→step ((k:Int),())=some (.inr bad)))
  (hx:(∀ j,m≤j→j<n→P j)→step ((n:Int),())=some (.inr good)):Zv step ((m:Int),())=some (sel (∀ j,m≤j→j<n→P j) good bad):=by
 refine Xy (n-m) (fun k v=>v.1=((m+k:Nat):Int)∧∀ j,m≤j→j<m+k→P j) _ ⟨by simp,fun j h1 h2=>by omega⟩ ?_ ?_
 ·rintro k ⟨i,⟨⟩⟩ hk ⟨hi,hS⟩
  simp only at hi
  subst hi
  obtain ⟨h1,h2⟩:=hs (m+k) (by omega) (by omega) hS
  by_cases hP:P (m+k)
  ·rw [h1 hP,Jr (by omega) (by omega)]
   refine .inl ⟨_,rfl,by simp only;omega,fun j ha hb=>?_⟩
   by_cases hj:j<m+k
   ·exact hS j ha hj
   ·have:j=m+k:=by omega
    subst this;exact hP
  ·right
   rw [h2 hP,YH (fun h=>hP (h (m+k) (by omega) (by omega)))]
 ·rintro ⟨i,⟨⟩⟩ ⟨hi,hS⟩
  simp only at hi
  subst hi
  have e:m+(n-m)=n:=by omega
  rw [e] at hS ⊢
  rw [hx hS,YS hS]
/-
  Ground of the plain laws: all lengths together; how many numbers there are; marks.
-/
def tot:(t:Ty)→t.den→Nat
 | .str,s=>s.length
 | .sl t,l=>l.length+(l.map (tot t)).sum
 | .pair a b,d=>tot a d.1+tot b d.2
 | _,_=>0
def Szt (o:Option Int) (left:Int) (T:Nat):Prop:=∀ n,o=some n→0≤n→n+(T:Int)≤left
theorem Szt.mono {o:Option Int} {left:Int} {T T':Nat} (h:Szt o left T) (ht:T'≤T):Szt o left T':=fun n h1 h2=>by
 have:=h n h1 h2
 omega
theorem Szt.then {o:Option Int} {left:Int} {T1 T2:Nat} (h:Szt o left T1) (h0:0≤left) (hl:left≤1048576) {F:Int→Option Int} (h2:∀ n,0≤n→n≤1048576→Szt (F n) n T2) :
  Szt (o.bind fun n=>if n<0 then some (-1) else F n) left (T1+T2):=by
 intro m hm hm0
 cases ho:o with
 | none=>rw [ho] at hm;cases hm
 | some n =>
  rw [ho,Bq] at hm
  by_cases hn:n<0
  ·rw [if_pos hn] at hm;injection hm;omega
  ·rw [if_neg hn] at hm
   have a:=h n ho (by omega)
   have b:=h2 n (by omega) (by omega) m hm hm0
   omega
theorem Szt.last {o:Option Int} {left:Int} {T:Nat} (h:Szt o left T):Szt (o.bind fun n=>if n<0 then some (-1) else some n) left T:=by
 intro m hm hm0
 cases ho:o with
 | none=>rw [ho] at hm;cases hm
 | some n =>
  rw [ho,Bq] at hm
  by_cases hn:n<0
  ·rw [if_pos hn] at hm;injection hm;omega
  ·rw [if_neg hn] at hm
   injection hm with hm
   subst hm
   exact h n ho hm0
theorem Szt.len {left n:Int} {T:Nat} {B:Option Int} (h0:0≤left) (hl:left≤1048576) (hn:0≤n) (hb:n≤9223372036854775807)
  (h2:Wq (left-n)=left-n→0≤left-n→left-n≤1048576→Szt B (left-n) T) :
  Szt (if Wq (left-n)<0 then some (-1) else B) left (n.toNat+T):=by
 have hw:=Jr (n:=left-n) (by omega) (by omega)
 intro m hm hm0
 rw [hw] at hm
 by_cases hneg:left-n<0
 ·rw [if_pos hneg] at hm;injection hm;omega
 ·rw [if_neg hneg] at hm
  have:=h2 hw (by omega) (by omega) m hm hm0
  omega
theorem Szt.ret {left:Int}:Szt (some left) left 0:=fun n h _=>by injection h;omega
theorem Szt.loop {α:Type} {l:List α} {f:α→Int→Option Int} {P:α→Prop} {T:α→Nat} {step:Int×Int×Unit→Option ((Int×Int×Unit) ⊕ Int)}
  (hf:∀ x∈l,∀ m,0≤m→m≤1048576→Szd (f x m) m (P x)) (ht:∀ x∈l,∀ m,0≤m→m≤1048576→Szt (f x m) m (T x))
  (hstep:∀ (k:Nat) (m:Int),step (m,(k:Int),())=if (k:Int)<(l.length:Int) then (atI l (k:Int)).bind fun x=>(f x m).bind fun n=>if n<0 then some (.inr (-1)) else some (.inl (n,Wq ((k:Int)+1),())) else some (.inr m))
  {left:Int} (h0:0≤left) (h1:left≤1048576) (hl:(l.length:Int)≤1048576):Szt (Zv step (left,0,())) left (l.map T).sum:=by
 have:∃ r,Zv step (left,0,())=some r∧(0≤r→r+((l.map T).sum:Int)≤left):=by
  refine Vn l.length (fun k v=>v.2.1=(k:Int)∧0≤v.1∧v.1+(((l.take k).map T).sum:Int)≤left) _ ⟨rfl,h0,by simp⟩ ?_ ?_
  ·rintro k ⟨m,i,⟨⟩⟩ hk ⟨hi,hm0,hm1⟩
   simp only at hi hm0 hm1
   subst hi
   have hx:l[k]?=some l[k]:=List.getElem?_eq_getElem hk
   generalize l[k]=x at hx
   rw [hstep,if_pos (by omega),Zu,hx,Bq]
   obtain ⟨n,e,hn,hPx⟩:=hf x (List.mem_of_getElem? hx) m hm0 (by omega)
   rw [e,Bq]
   split
   ·exact .inr ⟨-1,rfl,fun h=>by omega⟩
   ·rename_i hneg
    have:=ht x (List.mem_of_getElem? hx) m hm0 (by omega) n e (by omega)
    rw [Jr (by omega) (by omega)]
    refine .inl ⟨_,rfl,by simp,by dsimp only;omega,?_⟩
    rw [Z8 hx,List.map_append,List.sum_append]
    simp only [List.map_cons,List.map_nil,List.sum_cons,List.sum_nil]
    omega
  ·rintro ⟨m,i,⟨⟩⟩ ⟨hi,hm0,hm1⟩
   simp only at hi hm0 hm1
   subst hi
   rw [List.take_length] at hm1
   rw [hstep,if_neg (by omega)]
   exact ⟨m,rfl,fun _=>hm1⟩
 obtain ⟨r,h2,h3⟩:=this
 intro n hn hn0
 rw [h2] at hn
 injection hn with hn
 subst hn
 exact h3 hn0
theorem ZOP:∀ (t:Ty),Ty.fixed t=true→∀ d:t.den,tot t d=0
 | .int _,_,_=>rfl
 | .bool,_,_=>rfl
 | .unit,_,_=>rfl
 | .ptr _,_,_=>rfl
 | .fn _ _,_,_=>rfl
 | .nptr _,_,_=>rfl
 | .mp _ _,_,_=>rfl
 | .str,h,_=>by simp [Ty.fixed] at h
 | .sl _,h,_=>by simp [Ty.fixed] at h
 | .pair a b,h,d=>by
  simp only [Ty.fixed,Bool.and_eq_true] at h
  simp only [tot,ZOP a h.1 d.1,ZOP b h.2 d.2]
theorem ZO9 {t:Ty} (h:Ty.fixed t=true) (l:List t.den):(l.map (tot t)).sum=0:=by
 induction l with
 | nil=>rfl
 | cons x r ih=>simp only [List.map_cons,List.sum_cons,ZOP t h x,ih]
theorem ZJA (a b:Ty) (d:(Ty.pair a b).den):tot (.pair a b) d=tot a d.1+tot b d.2:=rfl
theorem ZKU (t:Ty) (l:List t.den):tot (.sl t) l=l.length+(l.map (tot t)).sum:=rfl
theorem ZzH (s:List UInt8):tot .str s=s.length:=rfl
theorem ZJ0 (k:IntKind) (n:Int):tot (.int k) n=0:=rfl
theorem ZJz (b:Bool):tot .bool b=0:=rfl
theorem ZJB (b:Unit):tot .unit b=0:=rfl
theorem Szt.str (x:List UInt8) (m:Int) (m0:0≤m) (m1:m≤1048576) (hb:(x.length:Int)≤9223372036854775807) :
  Szt (if Wq (m-(x.length:Int))<0 then some (-1) else some (Wq (m-(x.length:Int)))) m (tot .str x):=by
 have h:Szt (if Wq (m-(x.length:Int))<0 then some (-1) else some (Wq (m-(x.length:Int)))) m ((x.length:Int).toNat+0) :=
  Szt.len m0 m1 (by omega) hb (fun hw _ _=>by rw [hw];exact Szt.ret)
 refine h.mono ?_
 rw [ZzH]
 omega
theorem Szd.str (x:List UInt8) (m:Int) (m0:0≤m) (m1:m≤1048576) (hb:(x.length:Int)≤9223372036854775807) :
  Szd (if Wq (m-(x.length:Int))<0 then some (-1) else some (Wq (m-(x.length:Int)))) m (sm .str x) :=
 Szd.len m0 m1 (by omega) hb (fun hw _ _ hn=>by rw [hw];exact Szd.ret hn)
def cnt:(t:Ty)→t.den→Nat
 | .int _,_=>1
 | .bool,_=>1
 | .str,_=>1
 | .sl t,l=>(l.map (cnt t)).sum
 | .pair a b,d=>cnt a d.1+cnt b d.2
 | _,_=>0
theorem ZIL (a b:Ty) (d:(Ty.pair a b).den):cnt (.pair a b) d=cnt a d.1+cnt b d.2:=rfl
theorem ZIQ (s:List UInt8):cnt .str s=1:=rfl
theorem ZIO (k:IntKind) (n:Int):cnt (.int k) n=1:=rfl
theorem ZIK (b:Bool):cnt .bool b=1:=rfl
theorem ZIM (b:Unit):cnt .unit b=0:=rfl
def wid:Ty→Nat
 | .int _=>1
 | .bool=>1
 | .str=>1
 | .pair a b=>wid a+wid b
 | _=>0
def ZKp:Ty→Nat
 | .sl t=>max (wid t) (ZKp t)
 | .pair a b=>max (ZKp a) (ZKp b)
 | _=>0
theorem ZOX:∀ (t:Ty) (d:t.den),cnt t d≤wid t+ZKp t*tot t d
 | .int _,_=>by simp [cnt,wid]
 | .bool,_=>by simp [cnt,wid]
 | .str,_=>by simp [cnt,wid]
 | .unit,_=>by simp [cnt]
 | .ptr _,_=>by simp [cnt]
 | .fn _ _,_=>by simp [cnt]
 | .nptr _,_=>by simp [cnt]
 | .mp _ _,_=>by simp [cnt]
 | .pair a b,d=>by
  have h1:=ZOX a d.1
  have h2:=ZOX b d.2
  have h3:ZKp a*tot a d.1≤max (ZKp a) (ZKp b)*tot a d.1:=Nat.mul_le_mul_right _ (Nat.le_max_left _ _)
  have h4:ZKp b*tot b d.2≤max (ZKp a) (ZKp b)*tot b d.2:=Nat.mul_le_mul_right _ (Nat.le_max_right _ _)
  simp only [cnt,wid,ZKp,tot,Nat.mul_add]
  omega
 | .sl t,l=>by
  have:(l.map (cnt t)).sum≤wid t*l.length+ZKp t*(l.map (tot t)).sum:=by
   induction l with
   | nil=>simp
   | cons x r ih =>
    have:=ZOX t x
    simp only [List.map_cons,List.sum_cons,List.length_cons,Nat.mul_add]
    omega
  have h1:wid t*l.length≤max (wid t) (ZKp t)*l.length:=Nat.mul_le_mul_right _ (Nat.le_max_left _ _)
  have h2:ZKp t*(l.map (tot t)).sum≤max (wid t) (ZKp t)*(l.map (tot t)).sum:=Nat.mul_le_mul_right _ (Nat.le_max_right _ _)
  simp only [cnt,wid,ZKp,tot,Nat.mul_add]
  omega
theorem ZrL {α:Type} {L:List α} {j:Nat} {y:α} (h:j<L.length):atI (List.set L j y) (j:Int)=some y:=by
 rw [Zu,List.getElem?_set_self h]
/-
  Ground of the plain laws: what marking makes of a value, and that the marks are held.
-/
def mkL {α:Type} (f:α→Int→α) (c:α→Nat):List α→Int→List α
 | [],_=>[]
 | x::r,k=>f x k::mkL f c r (k+(c x:Int))
def mkA (mt:Int→List UInt8):(t:Ty)→t.den→Int→t.den
 | .int _,_,k=>k
 | .str,_,k=>mt k
 | .bool,_,k=>decide (Int.tmod k 3=0)
 | .pair a b,d,k=>(mkA mt a d.1 k,mkA mt b d.2 (k+(cnt a d.1:Int)))
 | .sl t,l,k=>mkL (mkA mt t) (cnt t) l k
 | .unit,d,_=>d
 | .ptr _,d,_=>d
 | .fn _ _,d,_=>d
 | .nptr _,d,_=>d
 | .mp _ _,d,_=>d
def ZIZ:(t:Ty)→t.den→Nat
 | .pair a b,d=>ZIZ a d.1+ZIZ b d.2
 | .sl t,l=>cnt (.sl t) l
 | _,_=>0
def mkT (mt:Int→List UInt8):(t:Ty)→t.den→Int→t.den
 | .pair a b,d,k=>(mkT mt a d.1 k,mkT mt b d.2 (k+(ZIZ a d.1:Int)))
 | .sl t,l,k=>mkL (mkA mt t) (cnt t) l k
 | .int _,d,_=>d
 | .str,d,_=>d
 | .bool,d,_=>d
 | .unit,d,_=>d
 | .ptr _,d,_=>d
 | .fn _ _,d,_=>d
 | .nptr _,d,_=>d
 | .mp _ _,d,_=>d
theorem ZLl {α:Type} (f:α→Int→α) (c:α→Nat):∀ (l:List α) (k:Int),(mkL f c l k).length=l.length
 | [],_=>rfl
 | x::r,k=>by simp only [mkL,List.length_cons,ZLl f c r]
theorem ZPm {α:Type} (f:α→Int→α) (c:α→Nat):∀ (l:List α) (k:Int) (j:Nat),(mkL f c l k)[j]?=(l[j]?).map (fun x=>f x (k+(((l.take j).map c).sum:Int)))
 | [],k,j=>by simp [mkL]
 | x::r,k,0=>by simp [mkL]
 | x::r,k,j+1=>by
  simp only [mkL,List.getElem?_cons_succ,ZPm f c r,List.take_succ_cons,List.map_cons,List.sum_cons]
  congr 1
  funext y
  congr 1
  omega
theorem ZOZ {α:Type} (f:α→Int→α) (c:α→Nat):∀ (l r:List α) (k:Int),mkL f c (l++r) k=mkL f c l k++mkL f c r (k+((l.map c).sum:Int))
 | [],r,k=>by simp [mkL]
 | x::l,r,k=>by
  simp only [List.cons_append,mkL,ZOZ f c l r,List.map_cons,List.sum_cons]
  congr 3
  omega
theorem ZPr {α:Type} {f:α→Int→α} {c:α→Nat} {l:List α} {k:Int} {j:Nat} {x:α} (hx:l[j]?=some x):mkL f c (l.take (j+1)) k=mkL f c (l.take j) k++[f x (k+(((l.take j).map c).sum:Int))]:=by
 rw [Z8 hx,ZOZ];rfl
theorem ZKS {α:Type} {l:List α} {f:α→Int→α} {c:α→Nat} {step:Int×Int×List α×Unit→Option ((Int×Int×List α×Unit) ⊕ (Int×List α))} {k:Int}
  (hstep:∀ (j:Nat) (m:Int) (x:α) (L:List α),j<L.length→(j:Int)<(L.length:Int)→L[j]?=some x→x∈l→0≤m→m+(c x:Int)≤4611686018427387904→(j:Int)≤1048576→step (m,(j:Int),L,())=some (.inl (m+(c x:Int),((j+1:Nat):Int),List.set L j (f x m),())))
  (hend:∀ (m:Int) (L:List α),step (m,(L.length:Int),L,())=some (.inr (m,L)))
  (hl:l.length≤1048576) (h0:0≤k) (h1:k+((l.map c).sum:Int)≤4611686018427387904):Zv step (k,0,l,())=some (k+((l.map c).sum:Int),mkL f c l k):=by
 refine Xy l.length (fun j v=>v.1=k+(((l.take j).map c).sum:Int)∧v.2.1=(j:Int)∧v.2.2.1=mkL f c (l.take j) k++l.drop j) _ ⟨by simp,rfl,by simp [mkL]⟩ ?_ ?_
 ·rintro j ⟨m,i,L,⟨⟩⟩ hj ⟨hm,hi,hL⟩
  simp only at hm hi hL
  subst hi
  have hx:l[j]?=some l[j]:=List.getElem?_eq_getElem hj
  generalize hxv:l[j]=x at hx
  have hlen:(mkL f c (l.take j) k).length=j:=by rw [ZLl,List.length_take];omega
  have hd:l.drop j=x::l.drop (j+1):=by rw [List.drop_eq_getElem_cons hj,hxv]
  have hLl:L.length=l.length:=by rw [hL,List.length_append,hlen,List.length_drop];omega
  have hLx:L[j]?=some x:=by rw [hL,List.getElem?_append_right (by omega),hlen,Nat.sub_self,hd];rfl
  have hsum:(l.map c).sum=((l.take j).map c).sum+(c x+((l.drop (j+1)).map c).sum):=by
   have e:l=l.take j++(x::l.drop (j+1)):=by rw [←hd,List.take_append_drop]
   have e2:=congrArg (fun l=>(l.map c).sum) e
   simp only [List.map_append,List.sum_append,List.map_cons,List.sum_cons] at e2
   exact e2
  left
  refine ⟨_,hstep j m x L (by omega) (by omega) hLx (List.mem_of_getElem? hx) (by omega) (by omega) (by omega),?_,rfl,?_⟩
  ·rw [Z8 hx,List.map_append,List.sum_append]
   simp only [List.map_cons,List.map_nil,List.sum_cons,List.sum_nil]
   omega
  ·simp only
   rw [hL,ZPr hx,List.set_append,if_neg (by omega),hlen,Nat.sub_self,hd,hm]
   simp
 ·rintro ⟨m,i,L,⟨⟩⟩ ⟨hm,hi,hL⟩
  simp only at hm hi hL
  subst hi
  rw [List.take_length,List.drop_length,List.append_nil] at hL
  rw [List.take_length] at hm
  subst hL
  rw [←ZLl f c l k,hend,hm]
theorem ZJP {α:Type} {l:List α} {f:α→Int→α} {c:α→Nat} {step:Int×Int×Unit→Option ((Int×Int×Unit) ⊕ Int)} {k:Int}
  (hstep:∀ (j:Nat) (m:Int) (x:α),(j:Int)<((mkL f c l k).length:Int)→(mkL f c l k)[j]?=some (f x m)→x∈l→0≤m→m+(c x:Int)≤4611686018427387904→(j:Int)≤1048576→step (m,(j:Int),())=some (.inl (m+(c x:Int),((j+1:Nat):Int),())))
  (hend:∀ (m:Int),step (m,((mkL f c l k).length:Int),())=some (.inr m))
  (hl:l.length≤1048576) (h0:0≤k) (h1:k+((l.map c).sum:Int)≤4611686018427387904):Zv step (k,0,())=some (k+((l.map c).sum:Int)):=by
 refine Xy l.length (fun j v=>v.1=k+(((l.take j).map c).sum:Int)∧v.2.1=(j:Int)) _ ⟨by simp,rfl⟩ ?_ ?_
 ·rintro j ⟨m,i,⟨⟩⟩ hj ⟨hm,hi⟩
  simp only at hm hi
  subst hi
  have hx:l[j]?=some l[j]:=List.getElem?_eq_getElem hj
  generalize hxv:l[j]=x at hx
  have hsum:(l.map c).sum=((l.take j).map c).sum+(c x+((l.drop (j+1)).map c).sum):=by
   have hd:l.drop j=x::l.drop (j+1):=by rw [List.drop_eq_getElem_cons hj,hxv]
   have e:l=l.take j++(x::l.drop (j+1)):=by rw [←hd,List.take_append_drop]
   have e2:=congrArg (fun l=>(l.map c).sum) e
   simp only [List.map_append,List.sum_append,List.map_cons,List.sum_cons] at e2
   exact e2
  left
  refine ⟨_,hstep j m x (by rw [ZLl];omega) (by rw [ZPm,hx,hm];rfl) (List.mem_of_getElem? hx) (by omega) (by omega) (by omega),?_,rfl⟩
  rw [Z8 hx,List.map_append,List.sum_append]
  simp only [List.map_cons,List.map_nil,List.sum_cons,List.sum_nil]
  omega
 ·rintro ⟨m,i,⟨⟩⟩ ⟨hm,hi⟩
  simp only at hm hi
  subst hi
  rw [List.take_length] at hm
  rw [←ZLl f c l k,hend,hm]
theorem ZKV:∀ (t:Ty) (d:t.den),ZIZ t d≤cnt t d
 | .pair a b,d=>Nat.add_le_add (ZKV a d.1) (ZKV b d.2)
 | .sl t,l=>Nat.le_refl _
 | .int _,_=>Nat.zero_le _
 | .bool,_=>Nat.zero_le _
 | .str,_=>Nat.zero_le _
 | .unit,_=>Nat.zero_le _
 | .ptr _,_=>Nat.zero_le _
 | .fn _ _,_=>Nat.zero_le _
 | .nptr _,_=>Nat.zero_le _
 | .mp _ _,_=>Nat.zero_le _
/-
  Plain laws: bounds, names.
-/
def within (n a b:Int):Bool:=decide (a≤n)&&decide (n≤b)
theorem Vo (n a b:Int):ZN n a b=some (within n a b):=by
 unfold ZN within;split<;>simp [*]
theorem Jj (n a b:Int):ZB n a b=some (within n a b):=by
 unfold ZB within;split<;>simp [*]
theorem within_iff (n a b:Int):within n a b=true↔a≤n∧n≤b:=by simp [within]
def Zha (b:UInt8):Bool:=decide (97≤b.toNat)&&decide (b.toNat≤122)
def Zm3 (b:UInt8):Bool:=decide (48≤b.toNat)&&decide (b.toNat≤57)
def VW (s:List UInt8):Bool:=decide (1≤s.length)&&decide (s.length≤8)&&s.all (fun b=>Zha b||Zm3 b)&&(match s with
 | b::_=>Zha b
 | []=>false)
def ZsK (s:List UInt8) (i:Nat):Prop:=∀ (j:Nat) (b:UInt8),j<i→s[j]?=some b→(Zha b||Zm3 b)=true∧(j=0→Zha b=true)
theorem ZtJ {s:List UInt8} {i:Nat} {x:UInt8} (h:ZsK s i) (hx:s[i]?=some x) (h1:(Zha x||Zm3 x)=true) (h2:i=0→Zha x=true):ZsK s (i+1):=by
 intro j b hj hb
 by_cases e:j<i
 ·exact h j b e hb
 ·have:j=i:=by omega
  subst this
  rw [hx] at hb;injection hb with hb;subst hb
  exact ⟨h1,h2⟩
theorem Zsk {s:List UInt8} (h:ZsK s s.length):VW s=(decide (1≤s.length)&&decide (s.length≤8)):=by
 unfold VW
 have h1:s.all (fun b=>Zha b||Zm3 b)=true:=by
  rw [List.all_eq_true]
  intro b hb
  obtain ⟨j,hj⟩:=List.mem_iff_getElem?.1 hb
  exact (h j b (List.getElem?_eq_some_iff.1 hj).1 hj).1
 rw [h1]
 cases s with
 | nil=>rfl
 | cons b r =>
  have:=(h 0 b (by simp) rfl).2 rfl
  simp [this]
theorem Zvp {s:List UInt8} {j:Nat} {b:UInt8} (hb:s[j]?=some b) (h:(Zha b||Zm3 b)=false∨j=0∧Zha b=false):VW s=false:=by
 unfold VW
 rcases h with h | ⟨rfl,h⟩
 ·have:s.all (fun b=>Zha b||Zm3 b)=false:=by
   rw [List.all_eq_false]
   exact ⟨b,List.mem_of_getElem? hb,by simp [h]⟩
  simp [this]
 ·cases s with
  | nil=>simp at hb
  | cons c r=>simp at hb;subst hb;simp [h]
theorem JL (s:List UInt8) (hl:s.length≤4611686018427387904):Jl s=some (VW s):=by
 unfold Jl
 refine Xy s.length (fun k v=>v.1=(k:Int)∧ZsK s k) _ ⟨rfl,fun j b hj=>by omega⟩ ?_ ?_
 ·rintro k ⟨i,⟨⟩⟩ hk ⟨rfl,hS⟩
  have hx:s[k]?=some s[k]:=List.getElem?_eq_getElem hk
  generalize s[k]=x at hx
  simp only [Zc1,Zu,hx,Bq,show (k:Int)<(s.length:Int) from by omega,if_true,Jr (show (-9223372036854775808:Int)≤(k:Int)+1 by omega) (by omega)]
  have ok:(Zha x||Zm3 x)=true→(k=0→Zha x=true)→(((k:Int)+1,()):Int×Unit).1=((k+1:Nat):Int)∧ZsK s (k+1):=fun h1 h2=>⟨by simp,ZtJ hS hx h1 h2⟩
  have bad:((Zha x||Zm3 x)=false∨k=0∧Zha x=false)→(some (Sum.inr false):Option (Int×Unit ⊕ Bool))=some (Sum.inr (VW s)):=fun h=>by rw [Zvp hx h]
  simp only [Zha,Zm3] at ok bad
  repeat' split
  all_goals first
   | (left;refine ⟨_,rfl,ok ?_ ?_⟩<;>simp<;>omega)
   | (right;refine bad ?_;first | (left;simp;omega) | (right;simp;omega))
 ·rintro ⟨i,⟨⟩⟩ ⟨rfl,hS⟩
  simp only [Zc1,Int.lt_irrefl,if_false]
  rw [Zsk hS]
  split
  ·rename_i h
   have h1:1≤s.length:=by omega
   have h2:decide ((s.length:Int)≤8)=decide (s.length≤8):=by rw [decide_eq_decide];omega
   simp [h1,h2]
  ·have h1:¬1≤s.length:=by omega
   simp [h1]
theorem dropWhile_nil {p:UInt8→Bool}:∀ (m:List UInt8),(∀ x∈m.dropWhile p,p x=true)→∀ x∈m,p x=true
 | [],_=>by simp
 | a::m,h=>by
  by_cases ha:p a=true
  ·rw [List.dropWhile_cons_of_pos ha] at h
   intro x hx
   rcases List.mem_cons.1 hx with rfl | hx
   ·exact ha
   ·exact dropWhile_nil m h x hx
  ·rw [List.dropWhile_cons_of_neg ha] at h
   exact absurd (h a (by simp)) ha
theorem ZlK {p:UInt8→Bool}:∀ (m:List UInt8),m.dropWhile p=[]↔∀ x∈m,p x=true
 | []=>by simp
 | a::m=>by
  by_cases ha:p a=true
  ·rw [List.dropWhile_cons_of_pos ha,ZlK m];simp [ha]
  ·rw [List.dropWhile_cons_of_neg ha];simp [ha]
theorem ZwS (s cs:List UInt8):Lib.trimS s cs=[]↔∀ b∈s,cs.contains b=true:=by
 unfold Lib.trimS Lib.trimLeftS Lib.trimRightS
 rw [ZlK]
 constructor
 ·intro h b hb
  exact dropWhile_nil s.reverse (fun x hx=>h x (List.mem_reverse.2 hx)) b (List.mem_reverse.2 hb)
 ·intro h b hb
  exact h b (List.mem_reverse.1 ((List.dropWhile_sublist _).subset (List.mem_reverse.1 hb)))
def letters:List UInt8:=[97,98,99,100,101,102,103,104,105,106,107,108,109,110,111,112,113,114,115,116,117,118,119,120,121,122]
def Ziq:List UInt8:=letters++[48,49,50,51,52,53,54,55,56,57]
theorem Zzw {p:UInt8→Bool} (h:(List.range 256).all (fun n=>p (UInt8.ofNat n))=true) (b:UInt8):p b=true:=by
 rw [List.all_eq_true] at h
 have:=h b.toNat (List.mem_range.2 b.toNat_lt)
 simpa using this
theorem ZiP (b:UInt8):Ziq.contains b=(Zha b||Zm3 b):=by
 have:=Zzw (p:=fun b=>Ziq.contains b == (Zha b||Zm3 b)) (by decide +kernel) b
 simpa using this
theorem Zst (s:List UInt8):Lib.trimS s Ziq=[]↔s.all (fun b=>Zha b||Zm3 b)=true:=by
 rw [ZwS,List.all_eq_true]
 simp only [ZiP]
theorem Zq5 (b:UInt8):decide (0≤(Lib.indexByte letters b:Int))=Zha b:=by
 have:=Zzw (p:=fun b=>decide (0≤(Lib.indexByte letters b:Int)) == Zha b) (by decide +kernel) b
 simpa using this
theorem Zej (s:List UInt8):ZcM s=some (VW s):=by
 unfold ZcM
 rw [Vo,Bq]
 split
 ·rename_i h
  rw [within_iff] at h
  rw [Zi (by omega)]
  split
  ·rename_i ht
   have ht':=(Zst s).1 ht
   cases s with
   | nil=>simp at h
   | cons b r =>
    have e:atI (b::r) (0:Int)=some b:=rfl
    rw [e,Bq]
    have e1:((b.toNat:Int)).toNat.toUInt8=b:=by simp
    rw [e1]
    have h1:1≤(b::r).length:=by simp
    have h2:(b::r).length≤8:=by omega
    have:=Zq5 b
    unfold letters at this
    rw [this]
    simp only [VW,ht',decide_eq_true h1,decide_eq_true h2,Bool.true_and]
  ·rename_i ht
   have ht':¬s.all (fun b=>Zha b||Zm3 b)=true:=fun e=>ht ((Zst s).2 e)
   simp only [VW,Bool.eq_false_iff.2 ht',Bool.and_false,Bool.false_and]
 ·rename_i h
  rw [within_iff] at h
  have:¬(1≤s.length∧s.length≤8):=by omega
  rw [eq_comm]
  congr 1
  rw [Bool.eq_false_iff]
  intro hh
  simp only [VW,Bool.and_eq_true,decide_eq_true_eq] at hh
  omega
theorem Zn1 (l:List (List UInt8)) (s:List UInt8) (hl:l.length≤4611686018427387904):∃ r,YM l s=some r∧(0≤r↔s∈l):=by
 unfold YM
 refine Vn l.length (fun k v=>v.1=(k:Int)∧s ∉ l.take k) _ ⟨rfl,by simp⟩ ?_ ?_
 ·rintro k ⟨i,⟨⟩⟩ hk ⟨rfl,hS⟩
  have hx:l[k]?=some l[k]:=List.getElem?_eq_getElem hk
  generalize l[k]=x at hx
  simp only [YX,Zu,hx,Bq,show (k:Int)<(l.length:Int) from by omega,if_true,Jr (show (-9223372036854775808:Int)≤(k:Int)+1 by omega) (by omega)]
  split
  ·rename_i e;subst e
   exact .inr ⟨_,rfl,fun _=>List.mem_of_getElem? hx,fun _=>by simp⟩
  ·rename_i e
   exact .inl ⟨_,rfl,by simp,by rw [Z8 hx];simp [hS,e]⟩
 ·rintro ⟨i,⟨⟩⟩ ⟨rfl,hS⟩
  simp only [YX,Int.lt_irrefl,if_false]
  refine ⟨_,rfl,fun h=>by omega,fun h=>absurd h (by simpa using hS)⟩
theorem Zls (l:List (List UInt8)) (s:List UInt8) (hl:l.length≤4611686018427387904):XJ l s=some (decide (s∈l)):=by
 obtain ⟨r,h1,h2⟩:=Zn1 l s hl
 unfold XJ
 rw [h1,Bq]
 simp only [h2]
def X7 (l:List (List UInt8)) (k:Nat):Prop:=∀ (j:Nat) (s:List UInt8),j<k→l[j]?=some s→VW s=true∧s ∉ l.take j
theorem QY (l:List (List UInt8)) (hl:l.length≤4611686018427387904):QF l=some (tr (X7 l l.length)):=by
 unfold QF
 refine Xy l.length (fun k v=>v.1=(k:Int)∧X7 l k) _ ⟨rfl,fun j s hj=>by omega⟩ ?_ ?_
 ·rintro k ⟨i,⟨⟩⟩ hk ⟨rfl,hS⟩
  have hx:l[k]?=some l[k]:=List.getElem?_eq_getElem hk
  generalize l[k]=x at hx
  simp only [ZcF,Zu,hx,Bq,show (k:Int)<(l.length:Int) from by omega,if_true,Jr (show (-9223372036854775808:Int)≤(k:Int)+1 by omega) (by omega),Zej]
  split
  ·rename_i hn
   rw [Zi (by omega),Zi (by omega)]
   simp only [Int.toNat_natCast,Int.toNat_zero,List.drop_zero,Nat.sub_zero]
   rw [Zls _ _ (by simp only [List.length_take];omega),Bq]
   split
   ·rename_i hm
    right
    rw [ZQ]
    intro hh
    exact (hh k x hk hx).2 (by simpa using hm)
   ·rename_i hm
    refine .inl ⟨_,rfl,by simp,fun j s hj hs=>?_⟩
    by_cases e:j<k
    ·exact hS j s e hs
    ·have:j=k:=by omega
     subst this
     rw [hx] at hs;injection hs with hs;subst hs
     exact ⟨hn,by simpa using hm⟩
  ·rename_i hn
   right
   rw [ZQ]
   intro hh
   exact hn (hh k x hk hx).1
 ·rintro ⟨i,⟨⟩⟩ ⟨rfl,hS⟩
  simp only [ZcF,Int.lt_irrefl,if_false]
  rw [Yb hS]
/-
  Plain laws: numbers within bounds.
-/
def allIn (l:List Int) (lo hi:Int):Bool:=l.all (fun n=>within n lo hi)
theorem ZbS (l:List Int) (lo hi:Int) (hl:l.length≤4611686018427387904):XO l lo hi=some (allIn l lo hi):=by
 have h1:∃ r,Yp l (lo,hi,())=some r∧(0≤r↔allIn l lo hi=false):=by
  unfold Yp
  refine Vn l.length (fun k v=>v.1=(k:Int)∧allIn (l.take k) lo hi=true) _ ⟨rfl,rfl⟩ ?_ ?_
  ·rintro k ⟨i,⟨⟩⟩ hk ⟨rfl,hS⟩
   have hx:l[k]?=some l[k]:=List.getElem?_eq_getElem hk
   generalize l[k]=x at hx
   simp only [Yy,ZdT,Vo,Zu,hx,Bq,show (k:Int)<(l.length:Int) from by omega,if_true,Jr (show (-9223372036854775808:Int)≤(k:Int)+1 by omega) (by omega)]
   cases hw:within x lo hi
   ·refine .inr ⟨_,rfl,fun _=>?_,fun _=>by simp⟩
    rw [allIn,List.all_eq_false]
    exact ⟨x,List.mem_of_getElem? hx,by simp [hw]⟩
   ·refine .inl ⟨_,rfl,by simp,?_⟩
    rw [Z8 hx,allIn,List.all_append]
    simp only [allIn] at hS
    simp [hS,hw]
  ·rintro ⟨i,⟨⟩⟩ ⟨rfl,hS⟩
   rw [List.take_length] at hS
   simp only [Yy,Int.lt_irrefl,if_false]
   exact ⟨_,rfl,fun h=>by omega,fun h=>by rw [hS] at h;cases h⟩
 obtain ⟨r,h1,h2⟩:=h1
 unfold XO YI
 rw [h1]
 simp only [Bq,h2]
 cases allIn l lo hi<;>simp
/-
  Plain laws: the instances of functions of package slices. Printed by program (libgen.py).
-/
theorem ZeL {l:List (List UInt8)} {v:List UInt8} (hl:Len l):YM l v=some (Za6 (fun x=>decide (v=x)) l):=by
 unfold YM
 refine V8 (out:=fun i=>i) hl (fun k x hx=>?_) ?_
 ·have hk:=(List.getElem?_eq_some_iff.1 hx).1
  simp only [YX,Zu,hx,Bq,show (k:Int)<(l.length:Int) from by omega,if_true,decide_eq_true_eq]
  split<;>rfl
 ·simp only [YX,Int.lt_irrefl,if_false]
theorem Qk {l:List ZA} {f:Bool×Unit} (hl:Len l) (p:ZA→Bool) (hp:∀ x∈l,Vy x f.fst=some (p x)):Z5 l f=some (Za6 p l):=by
 unfold Z5
 refine V8 (out:=fun i=>i) hl (p:=p) (fun k x hx=>?_) ?_
 ·have hk:=(List.getElem?_eq_some_iff.1 hx).1
  simp only [Yi,Zu,hx,Bq,show (k:Int)<(l.length:Int) from by omega,if_true,hp x (List.mem_of_getElem? hx)]
  split<;>rfl
 ·simp only [Yi,Int.lt_irrefl,if_false]
theorem X0 {l:List ZA} {f:Bool×Unit} (hl:Len l) (p:ZA→Bool) (hp:∀ x∈l,Vy x f.fst=some (p x)):ZV l f=some (l.any p):=by
 unfold ZV
 rw [Qk hl p hp,Bq]
 congr 1
 rw [Bool.eq_iff_iff,decide_eq_true_eq,Jh]
theorem Qw {l:List YP} {f:Unit} (hl:Len l) (p:YP→Bool) (hp:∀ x∈l,Zdi x=some (p x)):Yc l f=some (Za6 p l):=by
 unfold Yc
 refine V8 (out:=fun i=>i) hl (p:=p) (fun k x hx=>?_) ?_
 ·have hk:=(List.getElem?_eq_some_iff.1 hx).1
  simp only [Ym,Zu,hx,Bq,show (k:Int)<(l.length:Int) from by omega,if_true,hp x (List.mem_of_getElem? hx)]
  split<;>rfl
 ·simp only [Ym,Int.lt_irrefl,if_false]
theorem Qp {l:List ZJ} {f:ZJ×Unit} (hl:Len l) (p:ZJ→Bool) (hp:∀ x∈l,Qo x f.fst=some (p x)):Z7 l f=some (Za6 p l):=by
 unfold Z7
 refine V8 (out:=fun i=>i) hl (p:=p) (fun k x hx=>?_) ?_
 ·have hk:=(List.getElem?_eq_some_iff.1 hx).1
  simp only [Yj,Zu,hx,Bq,show (k:Int)<(l.length:Int) from by omega,if_true,hp x (List.mem_of_getElem? hx)]
  split<;>rfl
 ·simp only [Yj,Int.lt_irrefl,if_false]
theorem X8 {l:List ZJ} {f:ZJ×Unit} (hl:Len l) (p:ZJ→Bool) (hp:∀ x∈l,Qo x f.fst=some (p x)):ZX l f=some (l.any p):=by
 unfold ZX
 rw [Qp hl p hp,Bq]
 congr 1
 rw [Bool.eq_iff_iff,decide_eq_true_eq,Jh]
theorem QH {l:List ZJ} {f:Int×Unit} (hl:Len l) (p:ZJ→Bool) (hp:∀ x∈l,Zcu x f.fst=some (p x)):Ye l f=some (Za6 p l):=by
 unfold Ye
 refine V8 (out:=fun i=>i) hl (p:=p) (fun k x hx=>?_) ?_
 ·have hk:=(List.getElem?_eq_some_iff.1 hx).1
  simp only [Yr,Zu,hx,Bq,show (k:Int)<(l.length:Int) from by omega,if_true,hp x (List.mem_of_getElem? hx)]
  split<;>rfl
 ·simp only [Yr,Int.lt_irrefl,if_false]
theorem Qq {l:List ZJ} {f:Int×Unit} (hl:Len l) (p:ZJ→Bool) (hp:∀ x∈l,Zcu x f.fst=some (p x)):Ya l f=some (l.any p):=by
 unfold Ya
 rw [QH hl p hp,Bq]
 congr 1
 rw [Bool.eq_iff_iff,decide_eq_true_eq,Jh]
theorem Qr {l:List Int} {f:Zb×Unit} (hl:Len l) (p:Int→Bool) (hp:∀ x∈l,XR x f.fst=some (p x)):Z9 l f=some (Za6 p l):=by
 unfold Z9
 refine V8 (out:=fun i=>i) hl (p:=p) (fun k x hx=>?_) ?_
 ·have hk:=(List.getElem?_eq_some_iff.1 hx).1
  simp only [Yl,Zu,hx,Bq,show (k:Int)<(l.length:Int) from by omega,if_true,hp x (List.mem_of_getElem? hx)]
  split<;>rfl
 ·simp only [Yl,Int.lt_irrefl,if_false]
theorem Qa {l:List Int} {f:Zb×Unit} (hl:Len l) (p:Int→Bool) (hp:∀ x∈l,XR x f.fst=some (p x)):Z0 l f=some (l.any p):=by
 unfold Z0
 rw [Qr hl p hp,Bq]
 congr 1
 rw [Bool.eq_iff_iff,decide_eq_true_eq,Jh]
theorem Jm {l:List Int} {f:Unit} (hl:Len l) (p:Int→Bool) (hp:∀ x∈l,Zcp x=some (p x)):YD l f=some (Za6 p l):=by
 unfold YD
 refine V8 (out:=fun i=>i) hl (p:=p) (fun k x hx=>?_) ?_
 ·have hk:=(List.getElem?_eq_some_iff.1 hx).1
  simp only [YN,Zu,hx,Bq,show (k:Int)<(l.length:Int) from by omega,if_true,hp x (List.mem_of_getElem? hx)]
  split<;>rfl
 ·simp only [YN,Int.lt_irrefl,if_false]
theorem VG {l:List Int} {f:Unit} (hl:Len l) (p:Int→Bool) (hp:∀ x∈l,Zcp x=some (p x)):Yt l f=some (l.any p):=by
 unfold Yt
 rw [Jm hl p hp,Bq]
 congr 1
 rw [Bool.eq_iff_iff,decide_eq_true_eq,Jh]
theorem X4 {l:List Zl} {f:Xj×Unit} (hl:Len l) (p:Zl→Bool) (hp:∀ x∈l,Ve x f.fst=some (p x)):ZU l f=some (Za6 p l):=by
 unfold ZU
 refine V8 (out:=fun i=>i) hl (p:=p) (fun k x hx=>?_) ?_
 ·have hk:=(List.getElem?_eq_some_iff.1 hx).1
  simp only [Yd,Zu,hx,Bq,show (k:Int)<(l.length:Int) from by omega,if_true,hp x (List.mem_of_getElem? hx)]
  split<;>rfl
 ·simp only [Yd,Int.lt_irrefl,if_false]
theorem XP {l:List Zl} {f:Xj×Unit} (hl:Len l) (p:Zl→Bool) (hp:∀ x∈l,Ve x f.fst=some (p x)):ZT l f=some (l.any p):=by
 unfold ZT
 rw [X4 hl p hp,Bq]
 congr 1
 rw [Bool.eq_iff_iff,decide_eq_true_eq,Jh]
theorem Xw {l:List Zg} {f:Xj×Unit} (hl:Len l) (p:Zg→Bool) (hp:∀ x∈l,Va x f.fst=some (p x)):ZO l f=some (Za6 p l):=by
 unfold ZO
 refine V8 (out:=fun i=>i) hl (p:=p) (fun k x hx=>?_) ?_
 ·have hk:=(List.getElem?_eq_some_iff.1 hx).1
  simp only [ZW,Zu,hx,Bq,show (k:Int)<(l.length:Int) from by omega,if_true,hp x (List.mem_of_getElem? hx)]
  split<;>rfl
 ·simp only [ZW,Int.lt_irrefl,if_false]
theorem Xt {l:List Zg} {f:Xj×Unit} (hl:Len l) (p:Zg→Bool) (hp:∀ x∈l,Va x f.fst=some (p x)):ZM l f=some (l.any p):=by
 unfold ZM
 rw [Xw hl p hp,Bq]
 congr 1
 rw [Bool.eq_iff_iff,decide_eq_true_eq,Jh]
theorem XA {l:List Ze} {f:List UInt8×Unit} (hl:Len l) (p:Ze→Bool) (hp:∀ x∈l,Zbd x f.fst=some (p x)):ZP l f=some (Za6 p l):=by
 unfold ZP
 refine V8 (out:=fun i=>i) hl (p:=p) (fun k x hx=>?_) ?_
 ·have hk:=(List.getElem?_eq_some_iff.1 hx).1
  simp only [ZY,Zu,hx,Bq,show (k:Int)<(l.length:Int) from by omega,if_true,hp x (List.mem_of_getElem? hx)]
  split<;>rfl
 ·simp only [ZY,Int.lt_irrefl,if_false]
theorem ZIR {l:List ZL} {f:Int×Int×Unit} (hl:Len l) (p:ZL→Bool) (hp:∀ x∈l,ZJg x f.fst f.snd.fst=some (p x)):ZID l f=some (Za6 p l):=by
 unfold ZID
 refine V8 (out:=fun i=>i) hl (p:=p) (fun k x hx=>?_) ?_
 ·have hk:=(List.getElem?_eq_some_iff.1 hx).1
  simp only [ZIE,Zu,hx,Bq,show (k:Int)<(l.length:Int) from by omega,if_true,hp x (List.mem_of_getElem? hx)]
  split<;>rfl
 ·simp only [ZIE,Int.lt_irrefl,if_false]
/-
  Plain laws: arguments counted, copied, compared. Printed by program (szgen.py).
-/
theorem Zry (a:YP) (left:Int) (h0:0≤left) (h1:left≤1048576) (hb:bnd (ZgP) a):Szd (Zhz a left) left (sm (ZgP) a):=by
 unfold Zhz
 refine Szd.len h0 h1 (by omega) hb.1 (fun hw a0 b0 s0=>?_)
 rw [hw]
 exact Szd.ret ⟨s0,YC _ (by rfl) _,YC _ (by rfl) _,YC _ (by rfl) _,trivial⟩
theorem Zqo (a:List (YP)) (left:Int) (h0:0≤left) (h1:left≤1048576) (hb:bnd (.sl (ZgP)) a):Szd (Zh2 a left) left (sm (.sl (ZgP)) a):=by
 unfold Zh2
 refine Szd.len h0 h1 (by omega) hb.1 (fun hw m0 m1 hn=>?_)
 rw [hw]
 exact (Szd.loop (f:=fun x m=>Zhz x m) (P:=fun x=>sm (ZgP) x) (fun x hx m m0 m1=>Zry x m m0 m1 (hb.2 x hx)) (fun k m=>rfl) m0 m1 hn).mono (fun h=>⟨hn,h⟩)
theorem Y5 (a:List (Int)) (left:Int) (h0:0≤left) (h1:left≤1048576) (hb:bnd (.sl (.int .i64)) a):Szd (Xd a left) left (sm (.sl (.int .i64)) a):=by
 unfold Xd
 refine Szd.len h0 h1 (by omega) hb.1 (fun hw m0 m1 hn=>?_)
 rw [hw]
 exact Szd.ret ⟨hn,fun x _=>YC (.int .i64) (by rfl) x⟩
theorem Zpi (a:ZA) (left:Int) (h0:0≤left) (h1:left≤1048576) (hb:bnd (XE) a):Szd (ZeJ a left) left (sm (XE) a):=by
 unfold ZeJ
 refine Szd.then (Y5 _ _ h0 h1 hb.1) h0 h1 (fun m0 a0 b0 s0=>?_)
 refine Szd.then (Y5 _ _ a0 b0 hb.2.1) a0 b0 (fun m1 a1 b1 s1=>?_)
 refine Szd.last (Y5 _ _ a1 b1 hb.2.2.1) a1 (fun s2=>?_)
 exact ⟨s0,s1,s2,trivial⟩
theorem ZiD (a:List (ZA)) (left:Int) (h0:0≤left) (h1:left≤1048576) (hb:bnd (.sl (XE)) a):Szd (ZdC a left) left (sm (.sl (XE)) a):=by
 unfold ZdC
 refine Szd.len h0 h1 (by omega) hb.1 (fun hw m0 m1 hn=>?_)
 rw [hw]
 exact (Szd.loop (f:=fun x m=>ZeJ x m) (P:=fun x=>sm (XE) x) (fun x hx m m0 m1=>Zpi x m m0 m1 (hb.2 x hx)) (fun k m=>rfl) m0 m1 hn).mono (fun h=>⟨hn,h⟩)
theorem ZrK (a:ZJ) (left:Int) (h0:0≤left) (h1:left≤1048576) (hb:bnd (Zib) a):Szd (Zht a left) left (sm (Zib) a):=by
 unfold Zht
 refine Szd.then (ZiD _ _ h0 h1 hb.2.2.2.2.1) h0 h1 (fun m0 a0 b0 s0=>?_)
 refine Szd.last (ZiD _ _ a0 b0 hb.2.2.2.2.2.1) a0 (fun s1=>?_)
 exact ⟨YC _ (by rfl) _,YC _ (by rfl) _,YC _ (by rfl) _,YC _ (by rfl) _,s0,s1,trivial⟩
theorem Zp9 (a:List (ZJ)) (left:Int) (h0:0≤left) (h1:left≤1048576) (hb:bnd (.sl (Zib)) a):Szd (Zih a left) left (sm (.sl (Zib)) a):=by
 unfold Zih
 refine Szd.len h0 h1 (by omega) hb.1 (fun hw m0 m1 hn=>?_)
 rw [hw]
 exact (Szd.loop (f:=fun x m=>Zht x m) (P:=fun x=>sm (Zib) x) (fun x hx m m0 m1=>ZrK x m m0 m1 (hb.2 x hx)) (fun k m=>rfl) m0 m1 hn).mono (fun h=>⟨hn,h⟩)
theorem Zp7 (a:Zm) (left:Int) (h0:0≤left) (h1:left≤1048576) (hb:bnd (QL) a):Szd (ZfG a left) left (sm (QL) a):=by
 unfold ZfG
 refine Szd.len h0 h1 (by omega) hb.1 (fun hw a0 b0 s0=>?_)
 rw [hw]
 refine Szd.then (Zqo _ _ a0 b0 hb.2.2.1) a0 b0 (fun m1 a1 b1 s1=>?_)
 refine Szd.then (Zp9 _ _ a1 b1 hb.2.2.2.1) a1 b1 (fun m2 a2 b2 s2=>?_)
 refine Szd.last (Y5 _ _ a2 b2 hb.2.2.2.2.1) a2 (fun s3=>?_)
 exact ⟨s0,YC _ (by rfl) _,s1,s2,s3,YC _ (by rfl) _,YC _ (by rfl) _,trivial⟩
theorem Zow (a:List (Zm)) (left:Int) (h0:0≤left) (h1:left≤1048576) (hb:bnd (.sl (QL)) a):Szd (ZgV a left) left (sm (.sl (QL)) a):=by
 unfold ZgV
 refine Szd.len h0 h1 (by omega) hb.1 (fun hw m0 m1 hn=>?_)
 rw [hw]
 exact (Szd.loop (f:=fun x m=>ZfG x m) (P:=fun x=>sm (QL) x) (fun x hx m m0 m1=>Zp7 x m m0 m1 (hb.2 x hx)) (fun k m=>rfl) m0 m1 hn).mono (fun h=>⟨hn,h⟩)
theorem Zm5 (a:Zo) (left:Int) (h0:0≤left) (h1:left≤1048576) (hb:bnd (Xh) a):Szd (Zew a left) left (sm (Xh) a):=by
 unfold Zew
 refine Szd.last (Zow _ _ h0 h1 hb.1) h0 (fun s0=>?_)
 exact ⟨s0,trivial⟩
theorem ZlN (a:Ze) (left:Int) (h0:0≤left) (h1:left≤1048576) (hb:bnd (Yq) a):Szd (Zbm a left) left (sm (Yq) a):=by
 unfold Zbm
 refine Szd.len h0 h1 (by omega) hb.1 (fun hw a0 b0 s0=>?_)
 rw [hw]
 refine Szd.last (Y5 _ _ a0 b0 hb.2.2.1) a0 (fun s1=>?_)
 exact ⟨s0,YC _ (by rfl) _,s1,trivial⟩
theorem Zlu (a:List (Ze)) (left:Int) (h0:0≤left) (h1:left≤1048576) (hb:bnd (.sl (Yq)) a):Szd (Zcv a left) left (sm (.sl (Yq)) a):=by
 unfold Zcv
 refine Szd.len h0 h1 (by omega) hb.1 (fun hw m0 m1 hn=>?_)
 rw [hw]
 exact (Szd.loop (f:=fun x m=>Zbm x m) (P:=fun x=>sm (Yq) x) (fun x hx m m0 m1=>ZlN x m m0 m1 (hb.2 x hx)) (fun k m=>rfl) m0 m1 hn).mono (fun h=>⟨hn,h⟩)
theorem Znq (a:List (List UInt8)) (left:Int) (h0:0≤left) (h1:left≤1048576) (hb:bnd (.sl (.str)) a):Szd (Zev a left) left (sm (.sl (.str)) a):=by
 unfold Zev
 refine Szd.len h0 h1 (by omega) hb.1 (fun hw m0 m1 hn=>?_)
 rw [hw]
 exact (Szd.loop (f:=fun x m=>if Wq (m-(x.length:Int))<0 then some (-1) else some (Wq (m-(x.length:Int)))) (P:=fun x=>sm .str x) (fun x hx m m0 m1=>Szd.len m0 m1 (by omega) (hb.2 x hx) (fun hw _ _ hn=>by rw [hw];exact Szd.ret hn)) (fun k m=>by
  show Zb4 a m (k:Int)=_
  unfold Zb4
  congr 1;congr 1;funext x;split<;>simp_all) m0 m1 hn).mono (fun h=>⟨hn,h⟩)
theorem ZpW (a:ZR) (left:Int) (h0:0≤left) (h1:left≤1048576) (hb:bnd (Zcd) a):Szd (Zgr a left) left (sm (Zcd) a):=by
 unfold Zgr
 refine Szd.len h0 h1 (by omega) hb.1 (fun hw a0 b0 s0=>?_)
 rw [hw]
 exact Szd.ret ⟨s0,YC _ (by rfl) _,YC _ (by rfl) _,trivial⟩
theorem ZoZ (a:List (ZR)) (left:Int) (h0:0≤left) (h1:left≤1048576) (hb:bnd (.sl (Zcd)) a):Szd (Zg3 a left) left (sm (.sl (Zcd)) a):=by
 unfold Zg3
 refine Szd.len h0 h1 (by omega) hb.1 (fun hw m0 m1 hn=>?_)
 rw [hw]
 exact (Szd.loop (f:=fun x m=>Zgr x m) (P:=fun x=>sm (Zcd) x) (fun x hx m m0 m1=>ZpW x m m0 m1 (hb.2 x hx)) (fun k m=>rfl) m0 m1 hn).mono (fun h=>⟨hn,h⟩)
theorem ZnQ (a:Zb) (left:Int) (h0:0≤left) (h1:left≤1048576) (hb:bnd (YG) a):Szd (Zfx a left) left (sm (YG) a):=by
 unfold Zfx
 refine Szd.then (Zlu _ _ h0 h1 hb.1) h0 h1 (fun m0 a0 b0 s0=>?_)
 refine Szd.then (Znq _ _ a0 b0 hb.2.1) a0 b0 (fun m1 a1 b1 s1=>?_)
 refine Szd.last (ZoZ _ _ a1 b1 hb.2.2.1) a1 (fun s2=>?_)
 exact ⟨s0,s1,s2,trivial⟩
theorem Zkt (a:Zr) (left:Int) (h0:0≤left) (h1:left≤1048576) (hb:bnd (Vv) a):Szd (Zd6 a left) left (sm (Vv) a):=by
 unfold Zd6
 refine Szd.then (Y5 _ _ h0 h1 hb.1) h0 h1 (fun m0 a0 b0 s0=>?_)
 refine Szd.then (Y5 _ _ a0 b0 hb.2.1) a0 b0 (fun m1 a1 b1 s1=>?_)
 refine Szd.then (Y5 _ _ a1 b1 hb.2.2.1) a1 b1 (fun m2 a2 b2 s2=>?_)
 refine Szd.last (Y5 _ _ a2 b2 hb.2.2.2.1) a2 (fun s3=>?_)
 exact ⟨s0,s1,s2,s3,trivial⟩
theorem Zox (a:List (Zr)) (left:Int) (h0:0≤left) (h1:left≤1048576) (hb:bnd (.sl (Vv)) a):Szd (ZgK a left) left (sm (.sl (Vv)) a):=by
 unfold ZgK
 refine Szd.len h0 h1 (by omega) hb.1 (fun hw m0 m1 hn=>?_)
 rw [hw]
 exact (Szd.loop (f:=fun x m=>Zd6 x m) (P:=fun x=>sm (Vv) x) (fun x hx m m0 m1=>Zkt x m m0 m1 (hb.2 x hx)) (fun k m=>rfl) m0 m1 hn).mono (fun h=>⟨hn,h⟩)
theorem ZpO (a:Za) (left:Int) (h0:0≤left) (h1:left≤1048576) (hb:bnd (Y3) a):Szd (ZgR a left) left (sm (Y3) a):=by
 unfold ZgR
 refine Szd.then (Zm5 _ _ h0 h1 hb.1) h0 h1 (fun m0 a0 b0 s0=>?_)
 refine Szd.then (ZnQ _ _ a0 b0 hb.2.1) a0 b0 (fun m1 a1 b1 s1=>?_)
 refine Szd.last (Zox _ _ a1 b1 hb.2.2.1) a1 (fun s2=>?_)
 exact ⟨s0,s1,s2,trivial⟩
theorem Zpm (a:Zl) (left:Int) (h0:0≤left) (h1:left≤1048576) (hb:bnd (XF) a):Szd (ZeB a left) left (sm (XF) a):=by
 unfold ZeB
 refine Szd.len h0 h1 (by omega) hb.1 (fun hw a0 b0 s0=>?_)
 rw [hw]
 exact Szd.ret ⟨s0,YC _ (by rfl) _,YC _ (by rfl) _,YC _ (by rfl) _,YC _ (by rfl) _,YC _ (by rfl) _,YC _ (by rfl) _,YC _ (by rfl) _,YC _ (by rfl) _,YC _ (by rfl) _,YC _ (by rfl) _,trivial⟩
theorem Zn8 (a:List (Zl)) (left:Int) (h0:0≤left) (h1:left≤1048576) (hb:bnd (.sl (XF)) a):Szd (Zfc a left) left (sm (.sl (XF)) a):=by
 unfold Zfc
 refine Szd.len h0 h1 (by omega) hb.1 (fun hw m0 m1 hn=>?_)
 rw [hw]
 exact (Szd.loop (f:=fun x m=>ZeB x m) (P:=fun x=>sm (XF) x) (fun x hx m m0 m1=>Zpm x m m0 m1 (hb.2 x hx)) (fun k m=>rfl) m0 m1 hn).mono (fun h=>⟨hn,h⟩)
theorem Zf5 (a:List (Zj)) (left:Int) (h0:0≤left) (h1:left≤1048576) (hb:bnd (.sl (Yg)) a):Szd (ZaE a left) left (sm (.sl (Yg)) a):=by
 unfold ZaE
 refine Szd.len h0 h1 (by omega) hb.1 (fun hw m0 m1 hn=>?_)
 rw [hw]
 exact Szd.ret ⟨hn,fun x _=>YC (Yg) (by rfl) x⟩
theorem Zlo (a:Zg) (left:Int) (h0:0≤left) (h1:left≤1048576) (hb:bnd (Yn) a):Szd (ZaA a left) left (sm (Yn) a):=by
 unfold ZaA
 refine Szd.then (Y5 _ _ h0 h1 hb.2.2.1) h0 h1 (fun m0 a0 b0 s0=>?_)
 refine Szd.then (Y5 _ _ a0 b0 hb.2.2.2.1) a0 b0 (fun m1 a1 b1 s1=>?_)
 refine Szd.last (Y5 _ _ a1 b1 hb.2.2.2.2.1) a1 (fun s2=>?_)
 exact ⟨YC _ (by rfl) _,YC _ (by rfl) _,s0,s1,s2,trivial⟩
theorem ZjE (a:List (Zg)) (left:Int) (h0:0≤left) (h1:left≤1048576) (hb:bnd (.sl (Yn)) a):Szd (ZbB a left) left (sm (.sl (Yn)) a):=by
 unfold ZbB
 refine Szd.len h0 h1 (by omega) hb.1 (fun hw m0 m1 hn=>?_)
 rw [hw]
 exact (Szd.loop (f:=fun x m=>ZaA x m) (P:=fun x=>sm (Yn) x) (fun x hx m m0 m1=>Zlo x m m0 m1 (hb.2 x hx)) (fun k m=>rfl) m0 m1 hn).mono (fun h=>⟨hn,h⟩)
theorem ZnY (a:Zy) (left:Int) (h0:0≤left) (h1:left≤1048576) (hb:bnd (Xf) a):Szd (Zds a left) left (sm (Xf) a):=by
 unfold Zds
 refine Szd.len h0 h1 (by omega) hb.1 (fun hw a0 b0 s0=>?_)
 rw [hw]
 exact Szd.ret ⟨s0,YC _ (by rfl) _,YC _ (by rfl) _,YC _ (by rfl) _,YC _ (by rfl) _,trivial⟩
theorem Zm9 (a:List (Zy)) (left:Int) (h0:0≤left) (h1:left≤1048576) (hb:bnd (.sl (Xf)) a):Szd (Zem a left) left (sm (.sl (Xf)) a):=by
 unfold Zem
 refine Szd.len h0 h1 (by omega) hb.1 (fun hw m0 m1 hn=>?_)
 rw [hw]
 exact (Szd.loop (f:=fun x m=>Zds x m) (P:=fun x=>sm (Xf) x) (fun x hx m m0 m1=>ZnY x m m0 m1 (hb.2 x hx)) (fun k m=>rfl) m0 m1 hn).mono (fun h=>⟨hn,h⟩)
theorem Zpk (a:Zn) (left:Int) (h0:0≤left) (h1:left≤1048576) (hb:bnd (QX) a):Szd (ZgA a left) left (sm (QX) a):=by
 unfold ZgA
 refine Szd.then (Zn8 _ _ h0 h1 hb.1) h0 h1 (fun m0 a0 b0 s0=>?_)
 refine Szd.then (Zf5 _ _ a0 b0 hb.2.1) a0 b0 (fun m1 a1 b1 s1=>?_)
 refine Szd.then (Zf5 _ _ a1 b1 hb.2.2.1) a1 b1 (fun m2 a2 b2 s2=>?_)
 refine Szd.then (ZjE _ _ a2 b2 hb.2.2.2.1) a2 b2 (fun m3 a3 b3 s3=>?_)
 refine Szd.last (Zm9 _ _ a3 b3 hb.2.2.2.2.1) a3 (fun s4=>?_)
 exact ⟨s0,s1,s2,s3,s4,trivial⟩
theorem Zp2 (a:Zh) (left:Int) (h0:0≤left) (h1:left≤1048576) (hb:bnd (XL) a):Szd (Zgj a left) left (sm (XL) a):=by
 unfold Zgj
 refine Szd.len h0 h1 (by omega) hb.2.2.2.2.2.1 (fun hw a0 b0 s0=>?_)
 rw [hw]
 refine Szd.last (Zkt _ _ a0 b0 hb.2.2.2.2.2.2.1) a0 (fun s1=>?_)
 exact ⟨YC _ (by rfl) _,YC _ (by rfl) _,YC _ (by rfl) _,YC _ (by rfl) _,YC _ (by rfl) _,s0,s1,trivial⟩
theorem ZiR (a:List (Zh)) (left:Int) (h0:0≤left) (h1:left≤1048576) (hb:bnd (.sl (XL)) a):Szd (ZeA a left) left (sm (.sl (XL)) a):=by
 unfold ZeA
 refine Szd.len h0 h1 (by omega) hb.1 (fun hw m0 m1 hn=>?_)
 rw [hw]
 exact (Szd.loop (f:=fun x m=>Zgj x m) (P:=fun x=>sm (XL) x) (fun x hx m m0 m1=>Zp2 x m m0 m1 (hb.2 x hx)) (fun k m=>rfl) m0 m1 hn).mono (fun h=>⟨hn,h⟩)
theorem ZmB (a:ZH) (left:Int) (h0:0≤left) (h1:left≤1048576) (hb:bnd (Jy) a):Szd (Zel a left) left (sm (Jy) a):=by
 unfold Zel
 refine Szd.then (ZpO _ _ h0 h1 hb.1) h0 h1 (fun m0 a0 b0 s0=>?_)
 refine Szd.then (Zpk _ _ a0 b0 hb.2.1) a0 b0 (fun m1 a1 b1 s1=>?_)
 refine Szd.then (ZiR _ _ a1 b1 hb.2.2.1) a1 b1 (fun m2 a2 b2 s2=>?_)
 refine Szd.last (ZiR _ _ a2 b2 hb.2.2.2.1) a2 (fun s3=>?_)
 exact ⟨s0,s1,s2,s3,trivial⟩
theorem ZrE (a:YP) (hs:sm (ZgP) a):Zhc a=some a:=by
 unfold Zhc
 all_goals rfl
theorem Zp6 (a:List (YP)) (hs:sm (.sl (ZgP)) a):ZhN a=some a:=by
 unfold ZhN
 have h:=hs.1
 rw [Zi (by omega),Zi (by omega),Zi (by omega),Zi (by omega)]
 exact Jd (f:=Zhc) (fun x hx=>ZrE x (hs.2 x hx)) (fun k out=>rfl) h
theorem Y4 (a:List (Int)) (hs:sm (.sl (.int .i64)) a):Xc a=some a:=by
 unfold Xc
 have h:=hs.1
 rw [Zi (by omega),Zi (by omega),Zi (by omega),Zi (by omega)]
 exact Jd (f:=some) (fun x _=>rfl) (fun k out=>rfl) h
theorem ZoT (a:ZA) (hs:sm (XE) a):ZeM a=some a:=by
 unfold ZeM
 rw [Y4 _ hs.1,Bq,Y4 _ hs.2.1,Bq,Y4 _ hs.2.2.1,Bq]
 all_goals rfl
theorem Ziz (a:List (ZA)) (hs:sm (.sl (XE)) a):Zc7 a=some a:=by
 unfold Zc7
 have h:=hs.1
 rw [Zi (by omega),Zi (by omega),Zi (by omega),Zi (by omega)]
 exact Jd (f:=ZeM) (fun x hx=>ZoT x (hs.2 x hx)) (fun k out=>rfl) h
theorem Zq9 (a:ZJ) (hs:sm (Zib) a):Zhy a=some a:=by
 unfold Zhy
 rw [Ziz _ hs.2.2.2.2.1,Bq,Ziz _ hs.2.2.2.2.2.1,Bq]
 all_goals rfl
theorem Zqh (a:List (ZJ)) (hs:sm (.sl (Zib)) a):Zif a=some a:=by
 unfold Zif
 have h:=hs.1
 rw [Zi (by omega),Zi (by omega),Zi (by omega),Zi (by omega)]
 exact Jd (f:=Zhy) (fun x hx=>Zq9 x (hs.2 x hx)) (fun k out=>rfl) h
theorem Zqj (a:Zm) (hs:sm (QL) a):Zgb a=some a:=by
 unfold Zgb
 rw [Zp6 _ hs.2.2.1,Bq,Zqh _ hs.2.2.2.1,Bq,Y4 _ hs.2.2.2.2.1,Bq]
 all_goals rfl
theorem Zo3 (a:List (Zm)) (hs:sm (.sl (QL)) a):ZgM a=some a:=by
 unfold ZgM
 have h:=hs.1
 rw [Zi (by omega),Zi (by omega),Zi (by omega),Zi (by omega)]
 exact Jd (f:=Zgb) (fun x hx=>Zqj x (hs.2 x hx)) (fun k out=>rfl) h
theorem ZmV (a:Zo) (hs:sm (Xh) a):Zeg a=some a:=by
 unfold Zeg
 rw [Zo3 _ hs.1,Bq]
 all_goals rfl
theorem Zl8 (a:Ze) (hs:sm (Yq) a):Zbu a=some a:=by
 unfold Zbu
 rw [Y4 _ hs.2.2.1,Bq]
 all_goals rfl
theorem ZkS (a:List (Ze)) (hs:sm (.sl (Yq)) a):Zcw a=some a:=by
 unfold Zcw
 have h:=hs.1
 rw [Zi (by omega),Zi (by omega),Zi (by omega),Zi (by omega)]
 exact Jd (f:=Zbu) (fun x hx=>Zl8 x (hs.2 x hx)) (fun k out=>rfl) h
theorem ZmP (a:List (List UInt8)) (hs:sm (.sl (.str)) a):Zee a=some a:=by
 unfold Zee
 have h:=hs.1
 rw [Zi (by omega),Zi (by omega),Zi (by omega),Zi (by omega)]
 exact Jd (f:=some) (fun x _=>rfl) (fun k out=>rfl) h
theorem Zqp (a:ZR) (hs:sm (Zcd) a):ZfI a=some a:=by
 unfold ZfI
 all_goals rfl
theorem ZoO (a:List (ZR)) (hs:sm (.sl (Zcd)) a):Zg5 a=some a:=by
 unfold Zg5
 have h:=hs.1
 rw [Zi (by omega),Zi (by omega),Zi (by omega),Zi (by omega)]
 exact Jd (f:=ZfI) (fun x hx=>Zqp x (hs.2 x hx)) (fun k out=>rfl) h
theorem ZnW (a:Zb) (hs:sm (YG) a):Zfm a=some a:=by
 unfold Zfm
 rw [ZkS _ hs.1,Bq,ZmP _ hs.2.1,Bq,ZoO _ hs.2.2.1,Bq]
 all_goals rfl
theorem Zki (a:Zr) (hs:sm (Vv) a):ZdP a=some a:=by
 unfold ZdP
 rw [Y4 _ hs.1,Bq,Y4 _ hs.2.1,Bq,Y4 _ hs.2.2.1,Bq,Y4 _ hs.2.2.2.1,Bq]
 all_goals rfl
theorem Zps (a:List (Zr)) (hs:sm (.sl (Vv)) a):ZgH a=some a:=by
 unfold ZgH
 have h:=hs.1
 rw [Zi (by omega),Zi (by omega),Zi (by omega),Zi (by omega)]
 exact Jd (f:=ZdP) (fun x hx=>Zki x (hs.2 x hx)) (fun k out=>rfl) h
theorem ZpL (a:Za) (hs:sm (Y3) a):ZgL a=some a:=by
 unfold ZgL
 rw [ZmV _ hs.1,Bq,ZnW _ hs.2.1,Bq,Zps _ hs.2.2.1,Bq]
 all_goals rfl
theorem ZoL (a:Zl) (hs:sm (XF) a):ZeE a=some a:=by
 unfold ZeE
 all_goals rfl
theorem ZnP (a:List (Zl)) (hs:sm (.sl (XF)) a):Zfz a=some a:=by
 unfold Zfz
 have h:=hs.1
 rw [Zi (by omega),Zi (by omega),Zi (by omega),Zi (by omega)]
 exact Jd (f:=ZeE) (fun x hx=>ZoL x (hs.2 x hx)) (fun k out=>rfl) h
theorem Zku (a:YQ) (hs:sm (Zmy) a):Zgg a=some a:=by
 unfold Zgg
 all_goals rfl
theorem Zmp (a:Zj) (hs:sm (Yg) a):Zbk a=some a:=by
 unfold Zbk
 rw [Zku _ hs.2.2.1,Bq,Zku _ hs.2.2.2.1,Bq]
 all_goals rfl
theorem Zgi (a:List (Zj)) (hs:sm (.sl (Yg)) a):ZaB a=some a:=by
 unfold ZaB
 have h:=hs.1
 rw [Zi (by omega),Zi (by omega),Zi (by omega),Zi (by omega)]
 exact Jd (f:=Zbk) (fun x hx=>Zmp x (hs.2 x hx)) (fun k out=>rfl) h
theorem Zld (a:Zg) (hs:sm (Yn) a):Zaw a=some a:=by
 unfold Zaw
 rw [Y4 _ hs.2.2.1,Bq,Y4 _ hs.2.2.2.1,Bq,Y4 _ hs.2.2.2.2.1,Bq]
 all_goals rfl
theorem ZjJ (a:List (Zg)) (hs:sm (.sl (Yn)) a):ZbE a=some a:=by
 unfold ZbE
 have h:=hs.1
 rw [Zi (by omega),Zi (by omega),Zi (by omega),Zi (by omega)]
 exact Jd (f:=Zaw) (fun x hx=>Zld x (hs.2 x hx)) (fun k out=>rfl) h
theorem Zn6 (a:Zy) (hs:sm (Xf) a):Zdu a=some a:=by
 unfold Zdu
 all_goals rfl
theorem ZmG (a:List (Zy)) (hs:sm (.sl (Xf)) a):Zek a=some a:=by
 unfold Zek
 have h:=hs.1
 rw [Zi (by omega),Zi (by omega),Zi (by omega),Zi (by omega)]
 exact Jd (f:=Zdu) (fun x hx=>Zn6 x (hs.2 x hx)) (fun k out=>rfl) h
theorem ZoU (a:Zn) (hs:sm (QX) a):Zg0 a=some a:=by
 unfold Zg0
 rw [ZnP _ hs.1,Bq,Zgi _ hs.2.1,Bq,Zgi _ hs.2.2.1,Bq,ZjJ _ hs.2.2.2.1,Bq,ZmG _ hs.2.2.2.2.1,Bq]
 all_goals rfl
theorem Zqm (a:Zh) (hs:sm (XL) a):ZfX a=some a:=by
 unfold ZfX
 rw [Zki _ hs.2.2.2.2.2.2.1,Bq]
 all_goals rfl
theorem Zji (a:List (Zh)) (hs:sm (.sl (XL)) a):ZeO a=some a:=by
 unfold ZeO
 have h:=hs.1
 rw [Zi (by omega),Zi (by omega),Zi (by omega),Zi (by omega)]
 exact Jd (f:=ZfX) (fun x hx=>Zqm x (hs.2 x hx)) (fun k out=>rfl) h
theorem Zno (a:ZH) (hs:sm (Jy) a):Zeu a=some a:=by
 unfold Zeu
 rw [ZpL _ hs.1,Bq,ZoU _ hs.2.1,Bq,Zji _ hs.2.2.1,Bq,Zji _ hs.2.2.2.1,Bq]
 all_goals rfl
theorem ZrG (a:YP) (hs:sm (ZgP) a):Zhm a a=some true:=by
 unfold Zhm
 simp
theorem ZpX (a:List (YP)) (hs:sm (.sl (ZgP)) a):Zii a a=some true:=by
 unfold Zii
 rw [if_pos rfl]
 exact ZeU (f:=Zhm) (fun x hx=>ZrG x (hs.2 x hx)) (fun k=>rfl) hs.1
theorem Y6 (a:List (Int)) (hs:sm (.sl (.int .i64)) a):Xb a a=some true:=by
 unfold Xb
 rw [if_pos rfl]
 exact Zuk (fun k=>rfl) hs.1
theorem ZpK (a:ZA) (hs:sm (XE) a):Zez a a=some true:=by
 unfold Zez
 simp [Y6 _ hs.1,Y6 _ hs.2.1,Y6 _ hs.2.2.1]
theorem Zix (a:List (ZA)) (hs:sm (.sl (XE)) a):ZdA a a=some true:=by
 unfold ZdA
 rw [if_pos rfl]
 exact ZeU (f:=Zez) (fun x hx=>ZpK x (hs.2 x hx)) (fun k=>rfl) hs.1
theorem Zrl (a:ZJ) (hs:sm (Zib) a):Zhb a a=some true:=by
 unfold Zhb
 simp [Zix _ hs.2.2.2.2.1,Zix _ hs.2.2.2.2.2.1]
theorem Zqf (a:List (ZJ)) (hs:sm (.sl (Zib)) a):ZhO a a=some true:=by
 unfold ZhO
 rw [if_pos rfl]
 exact ZeU (f:=Zhb) (fun x hx=>Zrl x (hs.2 x hx)) (fun k=>rfl) hs.1
theorem Zqb (a:Zm) (hs:sm (QL) a):ZfH a a=some true:=by
 unfold ZfH
 simp [ZpX _ hs.2.2.1,Zqf _ hs.2.2.2.1,Y6 _ hs.2.2.2.2.1]
theorem Zpx (a:List (Zm)) (hs:sm (.sl (QL)) a):Zgt a a=some true:=by
 unfold Zgt
 rw [if_pos rfl]
 exact ZeU (f:=ZfH) (fun x hx=>Zqb x (hs.2 x hx)) (fun k=>rfl) hs.1
theorem Znb (a:Zo) (hs:sm (Xh) a):Zef a a=some true:=by
 unfold Zef
 simp [Zpx _ hs.1]
theorem ZlP (a:Ze) (hs:sm (Yq) a):Zbn a a=some true:=by
 unfold Zbn
 simp [Y6 _ hs.2.2.1]
theorem Zlc (a:List (Ze)) (hs:sm (.sl (Yq)) a):Zcn a a=some true:=by
 unfold Zcn
 rw [if_pos rfl]
 exact ZeU (f:=Zbn) (fun x hx=>ZlP x (hs.2 x hx)) (fun k=>rfl) hs.1
theorem ZmR (a:List (List UInt8)) (hs:sm (.sl (.str)) a):Zex a a=some true:=by
 unfold Zex
 rw [if_pos rfl]
 exact Zuk (fun k=>rfl) hs.1
theorem Zqi (a:ZR) (hs:sm (Zcd) a):Zgp a a=some true:=by
 unfold Zgp
 simp
theorem ZoC (a:List (ZR)) (hs:sm (.sl (Zcd)) a):ZgN a a=some true:=by
 unfold ZgN
 rw [if_pos rfl]
 exact ZeU (f:=Zgp) (fun x hx=>Zqi x (hs.2 x hx)) (fun k=>rfl) hs.1
theorem Zoe (a:Zb) (hs:sm (YG) a):Zfl a a=some true:=by
 unfold Zfl
 simp [Zlc _ hs.1,ZmR _ hs.2.1,ZoC _ hs.2.2.1]
theorem ZkA (a:Zr) (hs:sm (Vv) a):Zd3 a a=some true:=by
 unfold Zd3
 simp [Y6 _ hs.1,Y6 _ hs.2.1,Y6 _ hs.2.2.1,Y6 _ hs.2.2.2.1]
theorem ZoK (a:List (Zr)) (hs:sm (.sl (Vv)) a):ZgX a a=some true:=by
 unfold ZgX
 rw [if_pos rfl]
 exact ZeU (f:=Zd3) (fun x hx=>ZkA x (hs.2 x hx)) (fun k=>rfl) hs.1
theorem Zpd (a:Za) (hs:sm (Y3) a):Zg4 a a=some true:=by
 unfold Zg4
 simp [Znb _ hs.1,Zoe _ hs.2.1,ZoK _ hs.2.2.1]
theorem ZoS (a:Zl) (hs:sm (XF) a):ZeC a a=some true:=by
 unfold ZeC
 simp
theorem ZnT (a:List (Zl)) (hs:sm (.sl (XF)) a):Zfh a a=some true:=by
 unfold Zfh
 rw [if_pos rfl]
 exact ZeU (f:=ZeC) (fun x hx=>ZoS x (hs.2 x hx)) (fun k=>rfl) hs.1
theorem Zko (a:YQ) (hs:sm (Zmy) a):Zf0 a a=some true:=by
 unfold Zf0
 simp
theorem Zma (a:Zj) (hs:sm (Yg) a):Zbq a a=some true:=by
 unfold Zbq
 simp [Zko _ hs.2.2.1,Zko _ hs.2.2.2.1]
theorem ZfU (a:List (Zj)) (hs:sm (.sl (Yg)) a):ZaF a a=some true:=by
 unfold ZaF
 rw [if_pos rfl]
 exact ZeU (f:=Zbq) (fun x hx=>Zma x (hs.2 x hx)) (fun k=>rfl) hs.1
theorem ZkQ (a:Zg) (hs:sm (Yn) a):ZaD a a=some true:=by
 unfold ZaD
 simp [Y6 _ hs.2.2.1,Y6 _ hs.2.2.2.1,Y6 _ hs.2.2.2.2.1]
theorem ZjR (a:List (Zg)) (hs:sm (.sl (Yn)) a):ZbA a a=some true:=by
 unfold ZbA
 rw [if_pos rfl]
 exact ZeU (f:=ZaD) (fun x hx=>ZkQ x (hs.2 x hx)) (fun k=>rfl) hs.1
theorem Zn3 (a:Zy) (hs:sm (Xf) a):Zdr a a=some true:=by
 unfold Zdr
 simp
theorem Znj (a:List (Zy)) (hs:sm (.sl (Xf)) a):Zeb a a=some true:=by
 unfold Zeb
 rw [if_pos rfl]
 exact ZeU (f:=Zdr) (fun x hx=>Zn3 x (hs.2 x hx)) (fun k=>rfl) hs.1
theorem Zpt (a:Zn) (hs:sm (QX) a):ZgO a a=some true:=by
 unfold ZgO
 simp [ZnT _ hs.1,ZfU _ hs.2.1,ZfU _ hs.2.2.1,ZjR _ hs.2.2.2.1,Znj _ hs.2.2.2.2.1]
theorem Zp8 (a:Zh) (hs:sm (XL) a):Zgo a a=some true:=by
 unfold Zgo
 simp [ZkA _ hs.2.2.2.2.2.2.1]
theorem Zi1 (a:List (Zh)) (hs:sm (.sl (XL)) a):ZeQ a a=some true:=by
 unfold ZeQ
 rw [if_pos rfl]
 exact ZeU (f:=Zgo) (fun x hx=>Zp8 x (hs.2 x hx)) (fun k=>rfl) hs.1
theorem Znf (a:ZH) (hs:sm (Jy) a):Zep a a=some true:=by
 unfold Zep
 simp [Zpd _ hs.1,Zpt _ hs.2.1,Zi1 _ hs.2.2.1,Zi1 _ hs.2.2.2.1]
/-
  Plain laws: all lengths together; marks. Printed by program (totgen.py).
-/
theorem ZKq (k:Int) (h0:0≤k) (h1:k≤4611686018427387904):∃ s,ZII k=some s:=by
 unfold ZII
 split
 ·exact ⟨_,rfl⟩
 ·obtain ⟨r,h,_⟩:=Zvj (step:=fun v=>ZKk v.1 v.2.1) (fun v:Int×List UInt8×Unit=>0≤v.1∧v.1+(v.2.1.length:Int)≤4611686018427387904) (fun v=>v.1.toNat) (fun _=>True) (v:=(k,([]:List UInt8),())) ⟨h0,by simpa using h1⟩
   (by
    rintro ⟨m,s,⟨⟩⟩ ⟨a,b⟩
    simp only at a b
    simp only [ZKk]
    by_cases hm:0<m
    ·have e1:Int.tdiv m 10=m / 10:=Int.tdiv_eq_ediv_of_nonneg a
     rw [if_pos hm,e1,Jr (n:=m / 10) (by omega) (by omega),Zi (by simp only [bytesOf,List.length_map,List.length_singleton];omega)]
     refine .inl ⟨_,rfl,⟨by simp only;omega,?_⟩,by simp only;omega⟩
     simp only [List.length_append,bytesOf,List.length_map,List.length_singleton]
     omega
    ·rw [if_neg hm,Zi (by simp only [List.length_singleton];omega)]
     exact .inr ⟨_,rfl,trivial⟩)
  exact ⟨r,h⟩
theorem ZOS (a:YP) (left:Int) (h0:0≤left) (h1:left≤1048576) (hb:bnd (ZgP) a):Szt (Zhz a left) left (tot (ZgP) a):=by
 unfold Zhz
 exact (Szt.len h0 h1 (by omega) hb.1 (fun hw0 a0 b0=>by rw [hw0];exact Szt.ret)).mono (by simp only [ZJA,ZJ0,ZJz,ZJB,ZzH];omega)
theorem ZOM (a:List (YP)) (left:Int) (h0:0≤left) (h1:left≤1048576) (hb:bnd (.sl (ZgP)) a):Szt (Zh2 a left) left (tot (.sl (ZgP)) a):=by
 unfold Zh2
 refine (Szt.len h0 h1 (by omega) hb.1 (fun hw m0 m1=>(?_:Szt _ _ ((a.map (tot (ZgP))).sum)))).mono (by rw [ZKU];omega)
 rw [hw]
 exact Szt.loop (f:=fun x m=>Zhz x m) (P:=fun x=>sm (ZgP) x) (T:=tot (ZgP)) (fun x hx m m0 m1=>Zry x m m0 m1 (hb.2 x hx)) (fun x hx m m0 m1=>ZOS x m m0 m1 (hb.2 x hx)) (fun k m=>rfl) m0 m1 (by omega)
theorem ZIJ (a:List (Int)) (left:Int) (h0:0≤left) (h1:left≤1048576) (hb:bnd (.sl (.int .i64)) a):Szt (Xd a left) left (tot (.sl (.int .i64)) a):=by
 unfold Xd
 refine (Szt.len h0 h1 (by omega) hb.1 (fun hw m0 m1=>(?_:Szt _ _ ((a.map (tot (.int .i64))).sum)))).mono (by rw [ZKU];omega)
 rw [hw]
 exact Szt.ret.mono (by rw [ZO9 (by rfl)];omega)
theorem ZOF (a:ZA) (left:Int) (h0:0≤left) (h1:left≤1048576) (hb:bnd (XE) a):Szt (ZeJ a left) left (tot (XE) a):=by
 unfold ZeJ
 exact (Szt.then (ZIJ a.1 _ h0 h1 hb.1) h0 h1 (fun m0 a0 b0=>Szt.then (ZIJ a.2.1 _ a0 b0 hb.2.1) a0 b0 (fun m1 a1 b1=>Szt.last (ZIJ a.2.2.1 _ a1 b1 hb.2.2.1)))).mono (by simp only [ZJA,ZJ0,ZJz,ZJB,ZzH];omega)
theorem ZLk (a:List (ZA)) (left:Int) (h0:0≤left) (h1:left≤1048576) (hb:bnd (.sl (XE)) a):Szt (ZdC a left) left (tot (.sl (XE)) a):=by
 unfold ZdC
 refine (Szt.len h0 h1 (by omega) hb.1 (fun hw m0 m1=>(?_:Szt _ _ ((a.map (tot (XE))).sum)))).mono (by rw [ZKU];omega)
 rw [hw]
 exact Szt.loop (f:=fun x m=>ZeJ x m) (P:=fun x=>sm (XE) x) (T:=tot (XE)) (fun x hx m m0 m1=>Zpi x m m0 m1 (hb.2 x hx)) (fun x hx m m0 m1=>ZOF x m m0 m1 (hb.2 x hx)) (fun k m=>rfl) m0 m1 (by omega)
theorem ZOR (a:ZJ) (left:Int) (h0:0≤left) (h1:left≤1048576) (hb:bnd (Zib) a):Szt (Zht a left) left (tot (Zib) a):=by
 unfold Zht
 exact (Szt.then (ZLk a.2.2.2.2.1 _ h0 h1 hb.2.2.2.2.1) h0 h1 (fun m0 a0 b0=>Szt.last (ZLk a.2.2.2.2.2.1 _ a0 b0 hb.2.2.2.2.2.1))).mono (by simp only [ZJA,ZJ0,ZJz,ZJB,ZzH];omega)
theorem ZOJ (a:List (ZJ)) (left:Int) (h0:0≤left) (h1:left≤1048576) (hb:bnd (.sl (Zib)) a):Szt (Zih a left) left (tot (.sl (Zib)) a):=by
 unfold Zih
 refine (Szt.len h0 h1 (by omega) hb.1 (fun hw m0 m1=>(?_:Szt _ _ ((a.map (tot (Zib))).sum)))).mono (by rw [ZKU];omega)
 rw [hw]
 exact Szt.loop (f:=fun x m=>Zht x m) (P:=fun x=>sm (Zib) x) (T:=tot (Zib)) (fun x hx m m0 m1=>ZrK x m m0 m1 (hb.2 x hx)) (fun x hx m m0 m1=>ZOR x m m0 m1 (hb.2 x hx)) (fun k m=>rfl) m0 m1 (by omega)
theorem ZOK (a:Zm) (left:Int) (h0:0≤left) (h1:left≤1048576) (hb:bnd (QL) a):Szt (ZfG a left) left (tot (QL) a):=by
 unfold ZfG
 exact (Szt.len h0 h1 (by omega) hb.1 (fun hw0 a0 b0=>by rw [hw0];exact Szt.then (ZOM a.2.2.1 _ a0 b0 hb.2.2.1) a0 b0 (fun m1 a1 b1=>Szt.then (ZOJ a.2.2.2.1 _ a1 b1 hb.2.2.2.1) a1 b1 (fun m2 a2 b2=>Szt.last (ZIJ a.2.2.2.2.1 _ a2 b2 hb.2.2.2.2.1))))).mono (by simp only [ZJA,ZJ0,ZJz,ZJB,ZzH];omega)
theorem ZOC (a:List (Zm)) (left:Int) (h0:0≤left) (h1:left≤1048576) (hb:bnd (.sl (QL)) a):Szt (ZgV a left) left (tot (.sl (QL)) a):=by
 unfold ZgV
 refine (Szt.len h0 h1 (by omega) hb.1 (fun hw m0 m1=>(?_:Szt _ _ ((a.map (tot (QL))).sum)))).mono (by rw [ZKU];omega)
 rw [hw]
 exact Szt.loop (f:=fun x m=>ZfG x m) (P:=fun x=>sm (QL) x) (T:=tot (QL)) (fun x hx m m0 m1=>Zp7 x m m0 m1 (hb.2 x hx)) (fun x hx m m0 m1=>ZOK x m m0 m1 (hb.2 x hx)) (fun k m=>rfl) m0 m1 (by omega)
theorem ZOa (a:Zo) (left:Int) (h0:0≤left) (h1:left≤1048576) (hb:bnd (Xh) a):Szt (Zew a left) left (tot (Xh) a):=by
 unfold Zew
 exact (Szt.last (ZOC a.1 _ h0 h1 hb.1)).mono (by simp only [ZJA,ZJ0,ZJz,ZJB,ZzH];omega)
theorem ZN3 (a:Ze) (left:Int) (h0:0≤left) (h1:left≤1048576) (hb:bnd (Yq) a):Szt (Zbm a left) left (tot (Yq) a):=by
 unfold Zbm
 exact (Szt.len h0 h1 (by omega) hb.1 (fun hw0 a0 b0=>by rw [hw0];exact Szt.last (ZIJ a.2.2.1 _ a0 b0 hb.2.2.1))).mono (by simp only [ZJA,ZJ0,ZJz,ZJB,ZzH];omega)
theorem ZNT (a:List (Ze)) (left:Int) (h0:0≤left) (h1:left≤1048576) (hb:bnd (.sl (Yq)) a):Szt (Zcv a left) left (tot (.sl (Yq)) a):=by
 unfold Zcv
 refine (Szt.len h0 h1 (by omega) hb.1 (fun hw m0 m1=>(?_:Szt _ _ ((a.map (tot (Yq))).sum)))).mono (by rw [ZKU];omega)
 rw [hw]
 exact Szt.loop (f:=fun x m=>Zbm x m) (P:=fun x=>sm (Yq) x) (T:=tot (Yq)) (fun x hx m m0 m1=>ZlN x m m0 m1 (hb.2 x hx)) (fun x hx m m0 m1=>ZN3 x m m0 m1 (hb.2 x hx)) (fun k m=>rfl) m0 m1 (by omega)
theorem ZOb (a:List (List UInt8)) (left:Int) (h0:0≤left) (h1:left≤1048576) (hb:bnd (.sl (.str)) a):Szt (Zev a left) left (tot (.sl (.str)) a):=by
 unfold Zev
 refine (Szt.len h0 h1 (by omega) hb.1 (fun hw m0 m1=>(?_:Szt _ _ ((a.map (tot (.str))).sum)))).mono (by rw [ZKU];omega)
 rw [hw]
 exact Szt.loop (l:=a) (α:=List UInt8) (f:=fun (x:List UInt8) (m:Int)=>if Wq (m-(x.length:Int))<0 then some (-1) else some (Wq (m-(x.length:Int)))) (P:=fun (x:List UInt8)=>sm .str x) (T:=fun (x:List UInt8)=>tot .str x) (fun x hx m m0 m1=>Szd.str x m m0 m1 (hb.2 x hx)) (fun x hx m m0 m1=>Szt.str x m m0 m1 (hb.2 x hx)) (fun k m=>by
  show Zb4 a m (k:Int)=_
  unfold Zb4
  congr 1;congr 1;funext x;split<;>simp_all) m0 m1 (by omega)
theorem ZON (a:ZR) (left:Int) (h0:0≤left) (h1:left≤1048576) (hb:bnd (Zcd) a):Szt (Zgr a left) left (tot (Zcd) a):=by
 unfold Zgr
 exact (Szt.len h0 h1 (by omega) hb.1 (fun hw0 a0 b0=>by rw [hw0];exact Szt.ret)).mono (by simp only [ZJA,ZJ0,ZJz,ZJB,ZzH];omega)
theorem ZOE (a:List (ZR)) (left:Int) (h0:0≤left) (h1:left≤1048576) (hb:bnd (.sl (Zcd)) a):Szt (Zg3 a left) left (tot (.sl (Zcd)) a):=by
 unfold Zg3
 refine (Szt.len h0 h1 (by omega) hb.1 (fun hw m0 m1=>(?_:Szt _ _ ((a.map (tot (Zcd))).sum)))).mono (by rw [ZKU];omega)
 rw [hw]
 exact Szt.loop (f:=fun x m=>Zgr x m) (P:=fun x=>sm (Zcd) x) (T:=tot (Zcd)) (fun x hx m m0 m1=>ZpW x m m0 m1 (hb.2 x hx)) (fun x hx m m0 m1=>ZON x m m0 m1 (hb.2 x hx)) (fun k m=>rfl) m0 m1 (by omega)
theorem ZOs (a:Zb) (left:Int) (h0:0≤left) (h1:left≤1048576) (hb:bnd (YG) a):Szt (Zfx a left) left (tot (YG) a):=by
 unfold Zfx
 exact (Szt.then (ZNT a.1 _ h0 h1 hb.1) h0 h1 (fun m0 a0 b0=>Szt.then (ZOb a.2.1 _ a0 b0 hb.2.1) a0 b0 (fun m1 a1 b1=>Szt.last (ZOE a.2.2.1 _ a1 b1 hb.2.2.1)))).mono (by simp only [ZJA,ZJ0,ZJz,ZJB,ZzH];omega)
theorem ZNR (a:Zr) (left:Int) (h0:0≤left) (h1:left≤1048576) (hb:bnd (Vv) a):Szt (Zd6 a left) left (tot (Vv) a):=by
 unfold Zd6
 exact (Szt.then (ZIJ a.1 _ h0 h1 hb.1) h0 h1 (fun m0 a0 b0=>Szt.then (ZIJ a.2.1 _ a0 b0 hb.2.1) a0 b0 (fun m1 a1 b1=>Szt.then (ZIJ a.2.2.1 _ a1 b1 hb.2.2.1) a1 b1 (fun m2 a2 b2=>Szt.last (ZIJ a.2.2.2.1 _ a2 b2 hb.2.2.2.1))))).mono (by simp only [ZJA,ZJ0,ZJz,ZJB,ZzH];omega)
theorem ZOG (a:List (Zr)) (left:Int) (h0:0≤left) (h1:left≤1048576) (hb:bnd (.sl (Vv)) a):Szt (ZgK a left) left (tot (.sl (Vv)) a):=by
 unfold ZgK
 refine (Szt.len h0 h1 (by omega) hb.1 (fun hw m0 m1=>(?_:Szt _ _ ((a.map (tot (Vv))).sum)))).mono (by rw [ZKU];omega)
 rw [hw]
 exact Szt.loop (f:=fun x m=>Zd6 x m) (P:=fun x=>sm (Vv) x) (T:=tot (Vv)) (fun x hx m m0 m1=>Zkt x m m0 m1 (hb.2 x hx)) (fun x hx m m0 m1=>ZNR x m m0 m1 (hb.2 x hx)) (fun k m=>rfl) m0 m1 (by omega)
theorem ZLv (a:Za) (left:Int) (h0:0≤left) (h1:left≤1048576) (hb:bnd (Y3) a):Szt (ZgR a left) left (tot (Y3) a):=by
 unfold ZgR
 exact (Szt.then (ZOa a.1 _ h0 h1 hb.1) h0 h1 (fun m0 a0 b0=>Szt.then (ZOs a.2.1 _ a0 b0 hb.2.1) a0 b0 (fun m1 a1 b1=>Szt.last (ZOG a.2.2.1 _ a1 b1 hb.2.2.1)))).mono (by simp only [ZJA,ZJ0,ZJz,ZJB,ZzH];omega)
theorem ZOD (a:Zl) (left:Int) (h0:0≤left) (h1:left≤1048576) (hb:bnd (XF) a):Szt (ZeB a left) left (tot (XF) a):=by
 unfold ZeB
 exact (Szt.len h0 h1 (by omega) hb.1 (fun hw0 a0 b0=>by rw [hw0];exact Szt.ret)).mono (by simp only [ZJA,ZJ0,ZJz,ZJB,ZzH];omega)
theorem ZOq (a:List (Zl)) (left:Int) (h0:0≤left) (h1:left≤1048576) (hb:bnd (.sl (XF)) a):Szt (Zfc a left) left (tot (.sl (XF)) a):=by
 unfold Zfc
 refine (Szt.len h0 h1 (by omega) hb.1 (fun hw m0 m1=>(?_:Szt _ _ ((a.map (tot (XF))).sum)))).mono (by rw [ZKU];omega)
 rw [hw]
 exact Szt.loop (f:=fun x m=>ZeB x m) (P:=fun x=>sm (XF) x) (T:=tot (XF)) (fun x hx m m0 m1=>Zpm x m m0 m1 (hb.2 x hx)) (fun x hx m m0 m1=>ZOD x m m0 m1 (hb.2 x hx)) (fun k m=>rfl) m0 m1 (by omega)
theorem ZKA (a:List (Zj)) (left:Int) (h0:0≤left) (h1:left≤1048576) (hb:bnd (.sl (Yg)) a):Szt (ZaE a left) left (tot (.sl (Yg)) a):=by
 unfold ZaE
 refine (Szt.len h0 h1 (by omega) hb.1 (fun hw m0 m1=>(?_:Szt _ _ ((a.map (tot (Yg))).sum)))).mono (by rw [ZKU];omega)
 rw [hw]
 exact Szt.ret.mono (by rw [ZO9 (by rfl)];omega)
theorem ZNS (a:Zg) (left:Int) (h0:0≤left) (h1:left≤1048576) (hb:bnd (Yn) a):Szt (ZaA a left) left (tot (Yn) a):=by
 unfold ZaA
 exact (Szt.then (ZIJ a.2.2.1 _ h0 h1 hb.2.2.1) h0 h1 (fun m0 a0 b0=>Szt.then (ZIJ a.2.2.2.1 _ a0 b0 hb.2.2.2.1) a0 b0 (fun m1 a1 b1=>Szt.last (ZIJ a.2.2.2.2.1 _ a1 b1 hb.2.2.2.2.1)))).mono (by simp only [ZJA,ZJ0,ZJz,ZJB,ZzH];omega)
theorem ZNQ (a:List (Zg)) (left:Int) (h0:0≤left) (h1:left≤1048576) (hb:bnd (.sl (Yn)) a):Szt (ZbB a left) left (tot (.sl (Yn)) a):=by
 unfold ZbB
 refine (Szt.len h0 h1 (by omega) hb.1 (fun hw m0 m1=>(?_:Szt _ _ ((a.map (tot (Yn))).sum)))).mono (by rw [ZKU];omega)
 rw [hw]
 exact Szt.loop (f:=fun x m=>ZaA x m) (P:=fun x=>sm (Yn) x) (T:=tot (Yn)) (fun x hx m m0 m1=>Zlo x m m0 m1 (hb.2 x hx)) (fun x hx m m0 m1=>ZNS x m m0 m1 (hb.2 x hx)) (fun k m=>rfl) m0 m1 (by omega)
theorem ZOr (a:Zy) (left:Int) (h0:0≤left) (h1:left≤1048576) (hb:bnd (Xf) a):Szt (Zds a left) left (tot (Xf) a):=by
 unfold Zds
 exact (Szt.len h0 h1 (by omega) hb.1 (fun hw0 a0 b0=>by rw [hw0];exact Szt.ret)).mono (by simp only [ZJA,ZJ0,ZJz,ZJB,ZzH];omega)
theorem ZN9 (a:List (Zy)) (left:Int) (h0:0≤left) (h1:left≤1048576) (hb:bnd (.sl (Xf)) a):Szt (Zem a left) left (tot (.sl (Xf)) a):=by
 unfold Zem
 refine (Szt.len h0 h1 (by omega) hb.1 (fun hw m0 m1=>(?_:Szt _ _ ((a.map (tot (Xf))).sum)))).mono (by rw [ZKU];omega)
 rw [hw]
 exact Szt.loop (f:=fun x m=>Zds x m) (P:=fun x=>sm (Xf) x) (T:=tot (Xf)) (fun x hx m m0 m1=>ZnY x m m0 m1 (hb.2 x hx)) (fun x hx m m0 m1=>ZOr x m m0 m1 (hb.2 x hx)) (fun k m=>rfl) m0 m1 (by omega)
theorem ZLx (a:Zn) (left:Int) (h0:0≤left) (h1:left≤1048576) (hb:bnd (QX) a):Szt (ZgA a left) left (tot (QX) a):=by
 unfold ZgA
 exact (Szt.then (ZOq a.1 _ h0 h1 hb.1) h0 h1 (fun m0 a0 b0=>Szt.then (ZKA a.2.1 _ a0 b0 hb.2.1) a0 b0 (fun m1 a1 b1=>Szt.then (ZKA a.2.2.1 _ a1 b1 hb.2.2.1) a1 b1 (fun m2 a2 b2=>Szt.then (ZNQ a.2.2.2.1 _ a2 b2 hb.2.2.2.1) a2 b2 (fun m3 a3 b3=>Szt.last (ZN9 a.2.2.2.2.1 _ a3 b3 hb.2.2.2.2.1)))))).mono (by simp only [ZJA,ZJ0,ZJz,ZJB,ZzH];omega)
theorem ZOL (a:Zh) (left:Int) (h0:0≤left) (h1:left≤1048576) (hb:bnd (XL) a):Szt (Zgj a left) left (tot (XL) a):=by
 unfold Zgj
 exact (Szt.len h0 h1 (by omega) hb.2.2.2.2.2.1 (fun hw0 a0 b0=>by rw [hw0];exact Szt.last (ZNR a.2.2.2.2.2.2.1 _ a0 b0 hb.2.2.2.2.2.2.1))).mono (by simp only [ZJA,ZJ0,ZJz,ZJB,ZzH];omega)
theorem ZLw (a:List (Zh)) (left:Int) (h0:0≤left) (h1:left≤1048576) (hb:bnd (.sl (XL)) a):Szt (ZeA a left) left (tot (.sl (XL)) a):=by
 unfold ZeA
 refine (Szt.len h0 h1 (by omega) hb.1 (fun hw m0 m1=>(?_:Szt _ _ ((a.map (tot (XL))).sum)))).mono (by rw [ZKU];omega)
 rw [hw]
 exact Szt.loop (f:=fun x m=>Zgj x m) (P:=fun x=>sm (XL) x) (T:=tot (XL)) (fun x hx m m0 m1=>Zp2 x m m0 m1 (hb.2 x hx)) (fun x hx m m0 m1=>ZOL x m m0 m1 (hb.2 x hx)) (fun k m=>rfl) m0 m1 (by omega)
theorem ZKo (a:ZH) (left:Int) (h0:0≤left) (h1:left≤1048576) (hb:bnd (Jy) a):Szt (Zel a left) left (tot (Jy) a):=by
 unfold Zel
 exact (Szt.then (ZLv a.1 _ h0 h1 hb.1) h0 h1 (fun m0 a0 b0=>Szt.then (ZLx a.2.1 _ a0 b0 hb.2.1) a0 b0 (fun m1 a1 b1=>Szt.then (ZLw a.2.2.1 _ a1 b1 hb.2.2.1) a1 b1 (fun m2 a2 b2=>Szt.last (ZLw a.2.2.2.1 _ a2 b2 hb.2.2.2.1))))).mono (by simp only [ZJA,ZJ0,ZJz,ZJB,ZzH];omega)
end Go.Proofs.YthkhedimjmkifaaGreatDoor
