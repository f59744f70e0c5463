/-
  Ground of the plain laws: loops by what they come to; small arithmetic.
-/
import Derived.Test.YtfndhpjedmopdaaGreatDoorSxM
import Derived.IntWalk
import Derived.Test.YtfndhpjedmopdaaGreatDoorM
import Derived.Test.YtfndhpjedmopdaaGreatDoorSxBr
namespace Go.Proofs.YtfndhpjedmopdaaGreatDoor
set_option linter.unusedVariables false
set_option linter.unusedSimpArgs false
open Go Go.Sx
theorem Jd {n:Int} (h1:-9223372036854775808≤n) (h2:n≤9223372036854775807):IntKind.i64.wrap n=n:=IntWalk.i64_in n ⟨h1,h2⟩
theorem Zr {α:Type} (l:List α) (k:Nat):atI l (k:Int)=l[k]?:=by simp [atI]
theorem VK {α:Type} {l:List α} {i:Int} {x:α} (h0:0≤i) (hx:l[i.toNat]?=some x):atI l i=some x:=by simp [atI,h0,hx]
theorem ZsH {α:Type} {l:List α} {i:Int} (h0:0≤i) (h1:i<l.length):∃ x,atI l i=some x∧l[i.toNat]?=some x :=
 ⟨l[i.toNat]'(by omega),by simp [atI,h0],List.getElem?_eq_getElem _⟩
theorem Zi {α:Type} {p:Prop} (h:p) (a:Option α):Zz p a=a:=by
 unfold Zz
 exact if_pos h
theorem Zdi {τ ρ:Type} {step:τ→Option (τ ⊕ ρ)} (n:Nat) (I:Nat→τ→Prop) (Q:ρ→Prop) {v:τ} (h0:I 0 v)
  (hs:∀ k v,k<n→I k v→(∃ v',step v=some (.inl v')∧I (k+1) v')∨∃ r,step v=some (.inr r)∧Q r)
  (hx:∀ v,I n v→∃ r,step v=some (.inr r)∧Q r):∃ r,Zu step v=some r∧Q r:=by
 have:∀ m k v,k+m=n→I k v→∃ r,Zu step v=some r∧Q r:=by
  intro m
  induction m with
  | zero =>
   intro k v hk hI
   have:k=n:=by omega
   subst this
   obtain ⟨r,e,hq⟩:=hx v hI
   exact ⟨r,ZdA e,hq⟩
  | succ m ih =>
   intro k v hk hI
   rcases hs k v (by omega) hI with ⟨v',e,hI'⟩ | ⟨r,e,hq⟩
   ·obtain ⟨r,h1,h2⟩:=ih (k+1) v' (by omega) hI'
    exact ⟨r,by rw [Zkh e];exact h1,h2⟩
   ·exact ⟨r,ZdA e,hq⟩
 exact this n 0 v (by omega) h0
theorem Qj {τ ρ:Type} {step:τ→Option (τ ⊕ ρ)} (n:Nat) (I:Nat→τ→Prop) (R:ρ) {v:τ} (h0:I 0 v)
  (hs:∀ k v,k<n→I k v→(∃ v',step v=some (.inl v')∧I (k+1) v')∨step v=some (.inr R))
  (hx:∀ v,I n v→step v=some (.inr R)):Zu step v=some R:=by
 obtain ⟨r,h1,h2⟩:=Zdi n I (fun r=>r=R) h0 (fun k v hk hI=>(hs k v hk hI).elim .inl (fun h=>.inr ⟨R,h,rfl⟩)) (fun v hI=>⟨R,hx v hI,rfl⟩)
 rw [h1,h2]
theorem YD {α:Type} {l:List α} {k:Nat} {x:α} (hx:l[k]?=some x):l.take (k+1)=l.take k++[x]:=by
 rw [List.take_add_one,hx];rfl
def sm:(t:Ty)→t.den→Prop
 | .str,s=>(s.length:Int)≤1048576
 | .sl t,l=>(l.length:Int)≤1048576∧∀ x∈l,sm t x
 | .pair a b,d=>sm a d.1∧sm b d.2
 | _,_=>True
def Szd (o:Option Int) (left:Int) (P:Prop):Prop:=∃ n,o=some n∧n≤left∧(0≤n→P)
theorem Szd.mono {o:Option Int} {left:Int} {P Q:Prop} (h:Szd o left P) (hpq:P→Q):Szd o left Q:=by
 obtain ⟨n,a,b,c⟩:=h;exact ⟨n,a,b,fun h=>hpq (c h)⟩
theorem Szd.then {o:Option Int} {left:Int} {P Q:Prop} (h:Szd o left P) (h0:0≤left) (hl:left≤1048576) {F:Int→Option Int} (h2:∀ n,0≤n→n≤1048576→P→Szd (F n) n Q) :
  Szd (o.bind fun n=>if n<0 then some (-1) else F n) left Q:=by
 obtain ⟨n,e,hle,hP⟩:=h
 rw [e,Option.bind_some]
 split
 ·rename_i hn
  exact ⟨-1,rfl,by omega,fun h=>by omega⟩
 ·rename_i hn
  obtain ⟨m,e2,h3,h4⟩:=h2 n (by omega) (by omega) (hP (by omega))
  exact ⟨m,e2,by omega,h4⟩
theorem Szd.last {o:Option Int} {left:Int} {P Q:Prop} (h:Szd o left P) (hl:0≤left) (hpq:P→Q):Szd (o.bind fun n=>if n<0 then some (-1) else some n) left Q:=by
 obtain ⟨n,e,hle,hP⟩:=h
 rw [e,Option.bind_some]
 split
 ·rename_i hn
  exact ⟨-1,rfl,by omega,fun h=>by omega⟩
 ·exact ⟨n,rfl,hle,fun h=>hpq (hP h)⟩
theorem Szd.len {left n:Int} {Q:Prop} {B:Option Int} (h0:0≤left) (hl:left≤1048576) (hn:0≤n) (hb:n≤9223372036854775807)
  (h2:IntKind.i64.wrap (left-n)=left-n→0≤left-n→left-n≤1048576→n≤1048576→Szd B (left-n) Q) :
  Szd (if IntKind.i64.wrap (left-n)<0 then some (-1) else B) left Q:=by
 have hw:=Jd (n:=left-n) (by omega) (by omega)
 rw [hw]
 split
 ·rename_i hn
  exact ⟨-1,rfl,by omega,fun h=>by omega⟩
 ·rename_i hn
  obtain ⟨m,e2,h3,h4⟩:=h2 hw (by omega) (by omega) (by omega)
  exact ⟨m,e2,by omega,h4⟩
theorem Szd.ret {left:Int} {P:Prop} (h:P):Szd (some left) left P:=⟨left,rfl,Int.le_refl _,fun _=>h⟩
theorem Szd.loop {α:Type} {l:List α} {f:α→Int→Option Int} {P:α→Prop} {step:Int×Int×Unit→Option ((Int×Int×Unit) ⊕ Int)}
  (hf:∀ x∈l,∀ m,0≤m→m≤1048576→Szd (f x m) m (P x))
  (hstep:∀ (k:Nat) (m:Int),step (m,(k:Int),())=if (k:Int)<(l.length:Int) then (atI l (k:Int)).bind fun x=>(f x m).bind fun n=>if n<0 then some (.inr (-1)) else some (.inl (n,IntKind.i64.wrap ((k:Int)+1),())) else some (.inr m))
  {left:Int} (h0:0≤left) (h1:left≤1048576) (hl:(l.length:Int)≤1048576):Szd (Zu step (left,0,())) left (∀ x∈l,P x):=by
 unfold Szd
 refine Zdi l.length (fun k v=>v.2.1=(k:Int)∧0≤v.1∧v.1≤left∧∀ x∈l.take k,P x) (fun n=>n≤left∧(0≤n→∀ x∈l,P x)) ⟨rfl,h0,Int.le_refl _,by simp⟩ ?_ ?_
 ·rintro k ⟨m,i,⟨⟩⟩ hk ⟨hi,hm0,hm1,hP⟩
  simp only at hi hm0 hm1
  subst hi
  have hx:l[k]?=some l[k]:=List.getElem?_eq_getElem hk
  generalize l[k]=x at hx
  rw [hstep,if_pos (by omega),Zr,hx,Option.bind_some]
  obtain ⟨n,e,hn,hPx⟩:=hf x (List.mem_of_getElem? hx) m hm0 (by omega)
  rw [e,Option.bind_some]
  split
  ·exact .inr ⟨-1,rfl,by omega,fun h=>by omega⟩
  ·rw [Jd (by omega) (by omega)]
   refine .inl ⟨_,rfl,by simp,by dsimp only;omega,by dsimp only;omega,?_⟩
   rw [YD hx]
   intro y hy
   rcases List.mem_append.1 hy with hy | hy
   ·exact hP y hy
   ·simp at hy;subst hy;exact hPx (by omega)
 ·rintro ⟨m,i,⟨⟩⟩ ⟨hi,hm0,hm1,hP⟩
  simp only at hi hm0 hm1
  subst hi
  rw [List.take_length] at hP
  rw [hstep,if_neg (by omega)]
  exact ⟨m,rfl,hm1,fun _=>hP⟩
theorem ZcW {α:Type} {l:List α} {f:α→Option α} {z:α} {step:Int×List α×Unit→Option ((Int×List α×Unit) ⊕ List α)} (hf:∀ x∈l,f x=some x)
  (hstep:∀ (k:Nat) (out:List α),step ((k:Int),out,())=if (k:Int)<(l.length:Int) then (atI l (k:Int)).bind fun x=>(f x).bind fun y=>(atI out (k:Int)).bind fun _=>some (.inl (IntKind.i64.wrap ((k:Int)+1),List.set out (Int.toNat (k:Int)) y,())) else some (.inr out))
  (hl:(l.length:Int)≤1048576):Zu step (0,List.replicate (Int.toNat (l.length:Int)) z,())=some l:=by
 refine Qj l.length (fun k v=>v.1=(k:Int)∧v.2.1.length=l.length∧v.2.1.take k=l.take k) _ ⟨rfl,by simp,by simp⟩ ?_ ?_
 ·rintro k ⟨i,out,⟨⟩⟩ hk ⟨hi,hlen,ht⟩
  simp only at hi hlen ht
  subst hi
  have hx:l[k]?=some l[k]:=List.getElem?_eq_getElem hk
  generalize l[k]=x at hx
  have hy:out[k]?=some (out[k]'(by omega)):=List.getElem?_eq_getElem (by omega)
  rw [hstep,if_pos (by omega),Zr,hx,Option.bind_some,hf x (List.mem_of_getElem? hx),Option.bind_some,Zr,hy,Option.bind_some,Jd (by omega) (by omega)]
  refine .inl ⟨_,rfl,by simp,by simp [hlen],?_⟩
  have hx2:(out.set k x)[k]?=some x:=by rw [List.getElem?_set_self (by omega)]
  simp only [Int.toNat_natCast]
  rw [YD hx2,YD hx,List.take_set,ht]
  rw [List.set_eq_of_length_le (by simp;omega)]
 ·rintro ⟨i,out,⟨⟩⟩ ⟨hi,hlen,ht⟩
  simp only at hi hlen ht
  subst hi
  rw [hstep,if_neg (by omega)]
  rw [List.take_length,List.take_of_length_le (by omega)] at ht
  rw [ht]
theorem Zrm {α:Type} [DecidableEq α] {l:List α} {step:Int×Unit→Option ((Int×Unit) ⊕ Bool)}
  (hstep:∀ (k:Nat),step ((k:Int),())=if (k:Int)<(l.length:Int) then (atI l (k:Int)).bind fun x=>(atI l (k:Int)).bind fun y=>if x=y then some (.inl (IntKind.i64.wrap ((k:Int)+1),())) else some (.inr false) else some (.inr true))
  (hl:(l.length:Int)≤1048576):Zu step (0,())=some true:=by
 refine Qj l.length (fun k v=>v.1=(k:Int)) _ rfl ?_ ?_
 ·rintro k ⟨i,⟨⟩⟩ hk hi
  simp only at hi
  subst hi
  have hx:l[k]?=some l[k]:=List.getElem?_eq_getElem hk
  generalize l[k]=x at hx
  rw [hstep,if_pos (by omega),Zr,hx,Option.bind_some,Option.bind_some,if_pos rfl,Jd (by omega) (by omega)]
  exact .inl ⟨_,rfl,by simp⟩
 ·rintro ⟨i,⟨⟩⟩ hi
  simp only at hi
  subst hi
  rw [hstep,if_neg (by omega)]
def Ty.fixed:Ty→Bool
 | .str=>false
 | .sl _=>false
 | .ptr _=>true
 | .fn _ _=>true
 | .pair a b=>Ty.fixed a&&Ty.fixed b
 | _=>true
theorem VI:∀ (t:Ty),Ty.fixed t=true→∀ d:t.den,sm t d
 | .int _,_,_=>trivial
 | .bool,_,_=>trivial
 | .unit,_,_=>trivial
 | .ptr _,_,_=>trivial
 | .fn _ _,_,_=>trivial
 | .nptr _,_,_=>trivial
 | .mp _ _,_,_=>trivial
 | .str,h,_=>by simp [Ty.fixed] at h
 | .sl _,h,_=>by simp [Ty.fixed] at h
 | .pair a b,h,d=>by
  simp only [Ty.fixed,Bool.and_eq_true] at h
  exact ⟨VI a h.1 d.1,VI b h.2 d.2⟩
theorem Zhz {α:Type} {l:List α} {f:α→α→Option Bool} {step:Int×Unit→Option ((Int×Unit) ⊕ Bool)} (hf:∀ x∈l,f x x=some true)
  (hstep:∀ (k:Nat),step ((k:Int),())=if (k:Int)<(l.length:Int) then (atI l (k:Int)).bind fun x=>(atI l (k:Int)).bind fun y=>(f x y).bind fun e=>if e=true then some (.inl (IntKind.i64.wrap ((k:Int)+1),())) else some (.inr false) else some (.inr true))
  (hl:(l.length:Int)≤1048576):Zu step (0,())=some true:=by
 refine Qj l.length (fun k v=>v.1=(k:Int)) _ rfl ?_ ?_
 ·rintro k ⟨i,⟨⟩⟩ hk hi
  simp only at hi
  subst hi
  have hx:l[k]?=some l[k]:=List.getElem?_eq_getElem hk
  generalize l[k]=x at hx
  rw [hstep,if_pos (by omega),Zr,hx,Option.bind_some,Option.bind_some,hf x (List.mem_of_getElem? hx),Option.bind_some,if_pos rfl,Jd (by omega) (by omega)]
  exact .inl ⟨_,rfl,by simp⟩
 ·rintro ⟨i,⟨⟩⟩ hi
  simp only at hi
  subst hi
  rw [hstep,if_neg (by omega)]
noncomputable def tr (p:Prop):Bool:=@decide p (Classical.propDecidable p)
theorem Zon {p:Prop} {b:Bool} (h:b=true↔p):tr p=b:=by
 unfold tr
 cases b
 ·simp at h;simp [h]
 ·simp at h;simp [h]
theorem VE (p:Prop):tr p=true↔p:=by simp [tr]
theorem YS {p:Prop} (h:p):tr p=true:=(VE p).2 h
theorem Yr {p:Prop} (h:¬p):tr p=false:=by simp [tr,h]
end Go.Proofs.YtfndhpjedmopdaaGreatDoor
/-
  Ground of the plain laws: the usual loops.
-/
namespace Go.Proofs.YtfndhpjedmopdaaGreatDoor
set_option linter.unusedVariables false
set_option linter.unusedSimpArgs false
open Go Go.Sx
def Len {α:Type} (l:List α):Prop:=l.length≤4611686018427387904
theorem Zvp {k:Nat} {α:Type} {l:List α} (hl:Len l) (hk:k≤l.length):IntKind.i64.wrap ((k:Int)+1)=((k+1:Nat):Int):=by
 have:l.length≤4611686018427387904:=hl
 rw [Jd (by omega) (by omega)];simp
def Zbx {α:Type} (p:α→Bool) (l:List α):Int:=match l.findIdx? p with
 | some i=>i
 | none=>-1
theorem ZcF {α:Type} {p:α→Bool} {l:List α}:0≤Zbx p l↔l.any p=true:=by
 unfold Zbx
 split
 ·rename_i i h
  obtain ⟨h1,h2,_⟩:=List.findIdx?_eq_some_iff_getElem.1 h
  refine ⟨fun _=>List.any_eq_true.2 ⟨_,List.getElem_mem h1,h2⟩,fun _=>by omega⟩
 ·rename_i h
  rw [List.findIdx?_eq_none_iff] at h
  refine ⟨fun h'=>by omega,fun h'=>?_⟩
  obtain ⟨x,hx,hp⟩:=List.any_eq_true.1 h'
  have:=h x hx
  rw [hp] at this;cases this
theorem Za0 {α ρ:Type} {l:List α} (hl:Len l) {p:α→Bool} {step:Int×Unit→Option ((Int×Unit) ⊕ ρ)} {out:Int→ρ}
  (hs:∀ (k:Nat) (x:α),l[k]?=some x→step ((k:Int),())=some (if p x=true then .inr (out k) else .inl (IntKind.i64.wrap ((k:Int)+1),())))
  (hx:step ((l.length:Int),())=some (.inr (out (-1)))):Zu step (0,())=some (out (Zbx p l)):=by
 refine Qj l.length (fun k v=>v.1=(k:Int)∧∀ x∈l.take k,p x=false) _ ⟨rfl,by simp⟩ ?_ ?_
 ·rintro k ⟨i,⟨⟩⟩ hk ⟨hi,hS⟩
  simp only at hi
  subst hi
  have hx:l[k]?=some l[k]:=List.getElem?_eq_getElem hk
  rw [hs k _ hx,Zvp hl (by omega)]
  split
  ·rename_i hp
   right
   have:l.findIdx? p=some k:=by
    rw [List.findIdx?_eq_some_iff_getElem]
    refine ⟨hk,hp,fun j hj=>?_⟩
    have:=hS l[j] (List.mem_iff_getElem?.2 ⟨j,by rw [List.getElem?_take,if_pos hj];exact List.getElem?_eq_getElem _⟩)
    simp [this]
   unfold Zbx
   rw [this]
  ·rename_i hp
   refine .inl ⟨_,rfl,rfl,?_⟩
   rw [YD hx]
   intro y hy
   rcases List.mem_append.1 hy with hy | hy
   ·exact hS y hy
   ·simp at hy;subst hy;simpa using hp
 ·rintro ⟨i,⟨⟩⟩ ⟨hi,hS⟩
  simp only at hi
  subst hi
  rw [List.take_length] at hS
  have:l.findIdx? p=none:=List.findIdx?_eq_none_iff.2 hS
  rw [hx]
  unfold Zbx
  rw [this]
noncomputable def sel {ρ:Type} (P:Prop) (a b:ρ):ρ:=match tr P with
 | true=>a
 | false=>b
theorem VP {ρ:Type} {P:Prop} (h:P) (a b:ρ):sel P a b=a:=by simp [sel,YS h]
theorem QF {ρ:Type} {P:Prop} (h:¬P) (a b:ρ):sel P a b=b:=by simp [sel,Yr h]
theorem ZmW (P:Prop):sel P true false=tr P:=by
 by_cases h:P
 ·rw [VP h,YS h]
 ·rw [QF h,Yr h]
def Zgm {α:Type} (l:List α) (P:Nat→α→Prop):Prop:=∀ (k:Nat) (x:α),l[k]?=some x→P k x
theorem ZaU {α ρ:Type} {l:List α} (hl:Len l) (P:Nat→α→Prop) {step:Int×Unit→Option ((Int×Unit) ⊕ ρ)} {bad good:ρ}
  (hs:∀ (k:Nat) (x:α),l[k]?=some x→k<l.length→(∀ (j:Nat) (y:α),j<k→l[j]?=some y→P j y)→(P k x→step ((k:Int),())=some (.inl (IntKind.i64.wrap ((k:Int)+1),())))∧(¬P k x→step ((k:Int),())=some (.inr bad)))
  (hx:Zgm l P→step ((l.length:Int),())=some (.inr good)):Zu step (0,())=some (sel (Zgm l P) good bad):=by
 refine Qj l.length (fun k v=>v.1=(k:Int)∧∀ (j:Nat) (y:α),j<k→l[j]?=some y→P j y) _ ⟨rfl,fun j y hj=>by omega⟩ ?_ ?_
 ·rintro k ⟨i,⟨⟩⟩ hk ⟨hi,hS⟩
  simp only at hi
  subst hi
  have hx:l[k]?=some l[k]:=List.getElem?_eq_getElem hk
  obtain ⟨h1,h2⟩:=hs k _ hx hk hS
  by_cases hP:P k l[k]
  ·rw [h1 hP,Zvp hl (by omega)]
   refine .inl ⟨_,rfl,rfl,fun j y hj hy=>?_⟩
   by_cases hjk:j<k
   ·exact hS j y hjk hy
   ·have:j=k:=by omega
    subst this
    rw [hx] at hy;injection hy with hy;subst hy
    exact hP
  ·right
   rw [h2 hP,QF (fun h=>hP (h k _ hx))]
 ·rintro ⟨i,⟨⟩⟩ ⟨hi,hS⟩
  simp only at hi
  subst hi
  have hA:Zgm l P:=fun k x hk=>hS k x (List.getElem?_eq_some_iff.1 hk).1 hk
  rw [hx hA,VP hA]
theorem Zq9 {ρ:Type} (m n:Nat) (hmn:m≤n) (hn:n≤4611686018427387904) (P:Nat→Prop) {step:Int×Unit→Option ((Int×Unit) ⊕ ρ)} {bad good:ρ}
  (hs:∀ k:Nat,m≤k→k<n→(∀ j,m≤j→j<k→P j)→(P k→step ((k:Int),())=some (.inl (IntKind.i64.wrap ((k:Int)+1),())))∧(¬P k→step ((k:Int),())=some (.inr bad)))
  (hx:(∀ j,m≤j→j<n→P j)→step ((n:Int),())=some (.inr good)):Zu step ((m:Int),())=some (sel (∀ j,m≤j→j<n→P j) good bad):=by
 refine Qj (n-m) (fun k v=>v.1=((m+k:Nat):Int)∧∀ j,m≤j→j<m+k→P j) _ ⟨by simp,fun j h1 h2=>by omega⟩ ?_ ?_
 ·rintro k ⟨i,⟨⟩⟩ hk ⟨hi,hS⟩
  simp only at hi
  subst hi
  obtain ⟨h1,h2⟩:=hs (m+k) (by omega) (by omega) hS
  by_cases hP:P (m+k)
  ·rw [h1 hP,Jd (by omega) (by omega)]
   refine .inl ⟨_,rfl,by simp only;omega,fun j ha hb=>?_⟩
   by_cases hj:j<m+k
   ·exact hS j ha hj
   ·have:j=m+k:=by omega
    subst this;exact hP
  ·right
   rw [h2 hP,QF (fun h=>hP (h (m+k) (by omega) (by omega)))]
 ·rintro ⟨i,⟨⟩⟩ ⟨hi,hS⟩
  simp only at hi
  subst hi
  have e:m+(n-m)=n:=by omega
  rw [e] at hS ⊢
  rw [hx hS,VP hS]
end Go.Proofs.YtfndhpjedmopdaaGreatDoor
/-
  Ground of the plain laws: all lengths together; how many numbers there are; marks.
-/
namespace Go.Proofs.YtfndhpjedmopdaaGreatDoor
set_option linter.unusedVariables false
set_option linter.unusedSimpArgs false
open Go Go.Sx
def tot:(t:Ty)→t.den→Nat
 | .str,s=>s.length
 | .sl t,l=>l.length+(l.map (tot t)).sum
 | .pair a b,d=>tot a d.1+tot b d.2
 | _,_=>0
def Szt (o:Option Int) (left:Int) (T:Nat):Prop:=∀ n,o=some n→0≤n→n+(T:Int)≤left
theorem Szt.mono {o:Option Int} {left:Int} {T T':Nat} (h:Szt o left T) (ht:T'≤T):Szt o left T':=fun n h1 h2=>by
 have:=h n h1 h2
 omega
theorem Szt.then {o:Option Int} {left:Int} {T1 T2:Nat} (h:Szt o left T1) (h0:0≤left) (hl:left≤1048576) {F:Int→Option Int} (h2:∀ n,0≤n→n≤1048576→Szt (F n) n T2) :
  Szt (o.bind fun n=>if n<0 then some (-1) else F n) left (T1+T2):=by
 intro m hm hm0
 cases ho:o with
 | none=>rw [ho] at hm;cases hm
 | some n =>
  rw [ho,Option.bind_some] at hm
  by_cases hn:n<0
  ·rw [if_pos hn] at hm;injection hm;omega
  ·rw [if_neg hn] at hm
   have a:=h n ho (by omega)
   have b:=h2 n (by omega) (by omega) m hm hm0
   omega
theorem Szt.last {o:Option Int} {left:Int} {T:Nat} (h:Szt o left T):Szt (o.bind fun n=>if n<0 then some (-1) else some n) left T:=by
 intro m hm hm0
 cases ho:o with
 | none=>rw [ho] at hm;cases hm
 | some n =>
  rw [ho,Option.bind_some] at hm
  by_cases hn:n<0
  ·rw [if_pos hn] at hm;injection hm;omega
  ·rw [if_neg hn] at hm
   injection hm with hm
   subst hm
   exact h n ho hm0
theorem Szt.len {left n:Int} {T:Nat} {B:Option Int} (h0:0≤left) (hl:left≤1048576) (hn:0≤n) (hb:n≤9223372036854775807)
  (h2:IntKind.i64.wrap (left-n)=left-n→0≤left-n→left-n≤1048576→Szt B (left-n) T) :
  Szt (if IntKind.i64.wrap (left-n)<0 then some (-1) else B) left (n.toNat+T):=by
 have hw:=Jd (n:=left-n) (by omega) (by omega)
 intro m hm hm0
 rw [hw] at hm
 by_cases hneg:left-n<0
 ·rw [if_pos hneg] at hm;injection hm;omega
 ·rw [if_neg hneg] at hm
  have:=h2 hw (by omega) (by omega) m hm hm0
  omega
theorem Szt.ret {left:Int}:Szt (some left) left 0:=fun n h _=>by injection h;omega
theorem Szt.loop {α:Type} {l:List α} {f:α→Int→Option Int} {P:α→Prop} {T:α→Nat} {step:Int×Int×Unit→Option ((Int×Int×Unit) ⊕ Int)}
  (hf:∀ x∈l,∀ m,0≤m→m≤1048576→Szd (f x m) m (P x)) (ht:∀ x∈l,∀ m,0≤m→m≤1048576→Szt (f x m) m (T x))
  (hstep:∀ (k:Nat) (m:Int),step (m,(k:Int),())=if (k:Int)<(l.length:Int) then (atI l (k:Int)).bind fun x=>(f x m).bind fun n=>if n<0 then some (.inr (-1)) else some (.inl (n,IntKind.i64.wrap ((k:Int)+1),())) else some (.inr m))
  {left:Int} (h0:0≤left) (h1:left≤1048576) (hl:(l.length:Int)≤1048576):Szt (Zu step (left,0,())) left (l.map T).sum:=by
 have:∃ r,Zu step (left,0,())=some r∧(0≤r→r+((l.map T).sum:Int)≤left):=by
  refine Zdi l.length (fun k v=>v.2.1=(k:Int)∧0≤v.1∧v.1+(((l.take k).map T).sum:Int)≤left) _ ⟨rfl,h0,by simp⟩ ?_ ?_
  ·rintro k ⟨m,i,⟨⟩⟩ hk ⟨hi,hm0,hm1⟩
   simp only at hi hm0 hm1
   subst hi
   have hx:l[k]?=some l[k]:=List.getElem?_eq_getElem hk
   generalize l[k]=x at hx
   rw [hstep,if_pos (by omega),Zr,hx,Option.bind_some]
   obtain ⟨n,e,hn,hPx⟩:=hf x (List.mem_of_getElem? hx) m hm0 (by omega)
   rw [e,Option.bind_some]
   split
   ·exact .inr ⟨-1,rfl,fun h=>by omega⟩
   ·rename_i hneg
    have:=ht x (List.mem_of_getElem? hx) m hm0 (by omega) n e (by omega)
    rw [Jd (by omega) (by omega)]
    refine .inl ⟨_,rfl,by simp,by dsimp only;omega,?_⟩
    rw [YD hx,List.map_append,List.sum_append]
    simp only [List.map_cons,List.map_nil,List.sum_cons,List.sum_nil]
    omega
  ·rintro ⟨m,i,⟨⟩⟩ ⟨hi,hm0,hm1⟩
   simp only at hi hm0 hm1
   subst hi
   rw [List.take_length] at hm1
   rw [hstep,if_neg (by omega)]
   exact ⟨m,rfl,fun _=>hm1⟩
 obtain ⟨r,h2,h3⟩:=this
 intro n hn hn0
 rw [h2] at hn
 injection hn with hn
 subst hn
 exact h3 hn0
theorem Zm8:∀ (t:Ty),Ty.fixed t=true→∀ d:t.den,tot t d=0
 | .int _,_,_=>rfl
 | .bool,_,_=>rfl
 | .unit,_,_=>rfl
 | .ptr _,_,_=>rfl
 | .fn _ _,_,_=>rfl
 | .nptr _,_,_=>rfl
 | .mp _ _,_,_=>rfl
 | .str,h,_=>by simp [Ty.fixed] at h
 | .sl _,h,_=>by simp [Ty.fixed] at h
 | .pair a b,h,d=>by
  simp only [Ty.fixed,Bool.and_eq_true] at h
  simp only [tot,Zm8 a h.1 d.1,Zm8 b h.2 d.2]
theorem ZsP {t:Ty} (h:Ty.fixed t=true) (l:List t.den):(l.map (tot t)).sum=0:=by
 induction l with
 | nil=>rfl
 | cons x r ih=>simp only [List.map_cons,List.sum_cons,Zm8 t h x,ih]
theorem ZdZ (a b:Ty) (d:(Ty.pair a b).den):tot (.pair a b) d=tot a d.1+tot b d.2:=rfl
theorem ZiJ (t:Ty) (l:List t.den):tot (.sl t) l=l.length+(l.map (tot t)).sum:=rfl
theorem Ze7 (s:List UInt8):tot .str s=s.length:=rfl
theorem Zfu (k:IntKind) (n:Int):tot (.int k) n=0:=rfl
theorem Zef (b:Bool):tot .bool b=0:=rfl
theorem Zeb (b:Unit):tot .unit b=0:=rfl
theorem Szt.str (x:List UInt8) (m:Int) (m0:0≤m) (m1:m≤1048576) (hb:(x.length:Int)≤9223372036854775807) :
  Szt (if IntKind.i64.wrap (m-(x.length:Int))<0 then some (-1) else some (IntKind.i64.wrap (m-(x.length:Int)))) m (tot .str x):=by
 have h:Szt (if IntKind.i64.wrap (m-(x.length:Int))<0 then some (-1) else some (IntKind.i64.wrap (m-(x.length:Int)))) m ((x.length:Int).toNat+0) :=
  Szt.len m0 m1 (by omega) hb (fun hw _ _=>by rw [hw];exact Szt.ret)
 refine h.mono ?_
 rw [Ze7]
 omega
theorem Szd.str (x:List UInt8) (m:Int) (m0:0≤m) (m1:m≤1048576) (hb:(x.length:Int)≤9223372036854775807) :
  Szd (if IntKind.i64.wrap (m-(x.length:Int))<0 then some (-1) else some (IntKind.i64.wrap (m-(x.length:Int)))) m (sm .str x) :=
 Szd.len m0 m1 (by omega) hb (fun hw _ _ hn=>by rw [hw];exact Szd.ret hn)
def cnt:(t:Ty)→t.den→Nat
 | .int _,_=>1
 | .bool,_=>1
 | .str,_=>1
 | .sl t,l=>(l.map (cnt t)).sum
 | .pair a b,d=>cnt a d.1+cnt b d.2
 | _,_=>0
theorem Qi (a b:Ty) (d:(Ty.pair a b).den):cnt (.pair a b) d=cnt a d.1+cnt b d.2:=rfl
theorem V9 (s:List UInt8):cnt .str s=1:=rfl
theorem VR (k:IntKind) (n:Int):cnt (.int k) n=1:=rfl
theorem Qg (b:Bool):cnt .bool b=1:=rfl
theorem Qh (b:Unit):cnt .unit b=0:=rfl
def wid:Ty→Nat
 | .int _=>1
 | .bool=>1
 | .str=>1
 | .pair a b=>wid a+wid b
 | _=>0
def Zei:Ty→Nat
 | .sl t=>max (wid t) (Zei t)
 | .pair a b=>max (Zei a) (Zei b)
 | _=>0
theorem Zp0:∀ (t:Ty) (d:t.den),cnt t d≤wid t+Zei t*tot t d
 | .int _,_=>by simp [cnt,wid]
 | .bool,_=>by simp [cnt,wid]
 | .str,_=>by simp [cnt,wid]
 | .unit,_=>by simp [cnt]
 | .ptr _,_=>by simp [cnt]
 | .fn _ _,_=>by simp [cnt]
 | .nptr _,_=>by simp [cnt]
 | .mp _ _,_=>by simp [cnt]
 | .pair a b,d=>by
  have h1:=Zp0 a d.1
  have h2:=Zp0 b d.2
  have h3:Zei a*tot a d.1≤max (Zei a) (Zei b)*tot a d.1:=Nat.mul_le_mul_right _ (Nat.le_max_left _ _)
  have h4:Zei b*tot b d.2≤max (Zei a) (Zei b)*tot b d.2:=Nat.mul_le_mul_right _ (Nat.le_max_right _ _)
  simp only [cnt,wid,Zei,tot,Nat.mul_add]
  omega
 | .sl t,l=>by
  have:(l.map (cnt t)).sum≤wid t*l.length+Zei t*(l.map (tot t)).sum:=by
   induction l with
   | nil=>simp
   | cons x r ih =>
    have:=Zp0 t x
    simp only [List.map_cons,List.sum_cons,List.length_cons,Nat.mul_add]
    omega
  have h1:wid t*l.length≤max (wid t) (Zei t)*l.length:=Nat.mul_le_mul_right _ (Nat.le_max_left _ _)
  have h2:Zei t*(l.map (tot t)).sum≤max (wid t) (Zei t)*(l.map (tot t)).sum:=Nat.mul_le_mul_right _ (Nat.le_max_right _ _)
  simp only [cnt,wid,Zei,tot,Nat.mul_add]
  omega
def Mkd {α:Type} (o:Option (Int×α)) (k:Int) (c:Nat):Prop:=∃ a',o=some (k+(c:Int),a')
theorem Zbt {α:Type} {L:List α} {j:Nat} {y:α} (h:j<L.length):atI (List.set L j y) (j:Int)=some y:=by
 rw [Zr,List.getElem?_set_self h]
theorem Mkd.loop {α:Type} {l:List α} {c:α→Nat} {step:Int×Int×List α×Unit→Option ((Int×Int×List α×Unit) ⊕ (Int×List α))} {k:Int}
  (hstep:∀ (j:Nat) (m:Int) (x:α) (L:List α),j<L.length→(j:Int)<(L.length:Int)→L.length=l.length→L[j]?=some x→x∈l→0≤m→m+(c x:Int)≤4611686018427387904→(j:Int)≤1048576→∃ y,step (m,(j:Int),L,())=some (.inl (m+(c x:Int),((j+1:Nat):Int),List.set L j y,())))
  (hend:∀ (m:Int) (L:List α),L.length=l.length→step (m,(L.length:Int),L,())=some (.inr (m,L)))
  (hl:l.length≤1048576) (h0:0≤k) (h1:k+((l.map c).sum:Int)≤4611686018427387904):Mkd (Zu step (k,0,l,())) k (l.map c).sum:=by
 have:∃ r,Zu step (k,0,l,())=some r∧r.1=k+((l.map c).sum:Int):=by
  refine Zdi l.length (fun j v=>v.1=k+(((l.take j).map c).sum:Int)∧v.2.1=(j:Int)∧v.2.2.1.length=l.length∧∀ i,j≤i→v.2.2.1[i]?=l[i]?) _ ⟨by simp,rfl,rfl,fun i _=>rfl⟩ ?_ ?_
  ·rintro j ⟨m,i,L,⟨⟩⟩ hj ⟨hm,hi,hL,hrest⟩
   simp only at hm hi hL hrest
   subst hi
   have hx:l[j]?=some l[j]:=List.getElem?_eq_getElem hj
   have hsum:(l.map c).sum=((l.take j).map c).sum+(c l[j]+((l.drop (j+1)).map c).sum):=by
    have e:l=l.take j++(l[j]::l.drop (j+1)):=by rw [←List.drop_eq_getElem_cons hj,List.take_append_drop]
    have e2:=congrArg (fun l=>(l.map c).sum) e
    simp only [List.map_append,List.sum_append,List.map_cons,List.sum_cons] at e2
    exact e2
   obtain ⟨y,hy⟩:=hstep j m l[j] L (by omega) (by omega) hL (by rw [hrest j (Nat.le_refl _)];exact hx) (List.mem_of_getElem? hx) (by omega) (by omega) (by omega)
   left
   refine ⟨_,hy,?_,rfl,by simp [hL],fun i hi=>?_⟩
   ·rw [YD hx,List.map_append,List.sum_append]
    simp only [List.map_cons,List.map_nil,List.sum_cons,List.sum_nil]
    omega
   ·simp only
    rw [List.getElem?_set_ne (by omega)]
    exact hrest i (by omega)
  ·rintro ⟨m,i,L,⟨⟩⟩ ⟨hm,hi,hL,_⟩
   simp only at hm hi hL
   subst hi
   rw [List.take_length] at hm
   rw [←hL,hend m L hL]
   exact ⟨_,rfl,hm⟩
 obtain ⟨r,h2,h3⟩:=this
 exact ⟨r.2,by rw [h2,←h3]⟩
end Go.Proofs.YtfndhpjedmopdaaGreatDoor
/-
  Ground of the plain laws: what marking makes of a value, and that the marks are held.
-/
namespace Go.Proofs.YtfndhpjedmopdaaGreatDoor
set_option linter.unusedVariables false
set_option linter.unusedSimpArgs false
open Go Go.Sx
def mkL {α:Type} (f:α→Int→α) (c:α→Nat):List α→Int→List α
 | [],_=>[]
 | x::r,k=>f x k::mkL f c r (k+(c x:Int))
def mkA (mt:Int→List UInt8):(t:Ty)→t.den→Int→t.den
 | .int _,_,k=>k
 | .str,_,k=>mt k
 | .bool,_,k=>decide (Int.tmod k 3=0)
 | .pair a b,d,k=>(mkA mt a d.1 k,mkA mt b d.2 (k+(cnt a d.1:Int)))
 | .sl t,l,k=>mkL (mkA mt t) (cnt t) l k
 | .unit,d,_=>d
 | .ptr _,d,_=>d
 | .fn _ _,d,_=>d
 | .nptr _,d,_=>d
 | .mp _ _,d,_=>d
def Zfn:(t:Ty)→t.den→Nat
 | .pair a b,d=>Zfn a d.1+Zfn b d.2
 | .sl t,l=>cnt (.sl t) l
 | _,_=>0
def mkT (mt:Int→List UInt8):(t:Ty)→t.den→Int→t.den
 | .pair a b,d,k=>(mkT mt a d.1 k,mkT mt b d.2 (k+(Zfn a d.1:Int)))
 | .sl t,l,k=>mkL (mkA mt t) (cnt t) l k
 | .int _,d,_=>d
 | .str,d,_=>d
 | .bool,d,_=>d
 | .unit,d,_=>d
 | .ptr _,d,_=>d
 | .fn _ _,d,_=>d
 | .nptr _,d,_=>d
 | .mp _ _,d,_=>d
theorem Zgc {α:Type} (f:α→Int→α) (c:α→Nat):∀ (l:List α) (k:Int),(mkL f c l k).length=l.length
 | [],_=>rfl
 | x::r,k=>by simp only [mkL,List.length_cons,Zgc f c r]
theorem Zsu {α:Type} (f:α→Int→α) (c:α→Nat):∀ (l:List α) (k:Int) (j:Nat),(mkL f c l k)[j]?=(l[j]?).map (fun x=>f x (k+(((l.take j).map c).sum:Int)))
 | [],k,j=>by simp [mkL]
 | x::r,k,0=>by simp [mkL]
 | x::r,k,j+1=>by
  simp only [mkL,List.getElem?_cons_succ,Zsu f c r,List.take_succ_cons,List.map_cons,List.sum_cons]
  congr 1
  funext y
  congr 1
  omega
theorem Zok {α:Type} (f:α→Int→α) (c:α→Nat):∀ (l r:List α) (k:Int),mkL f c (l++r) k=mkL f c l k++mkL f c r (k+((l.map c).sum:Int))
 | [],r,k=>by simp [mkL]
 | x::l,r,k=>by
  simp only [List.cons_append,mkL,Zok f c l r,List.map_cons,List.sum_cons]
  congr 3
  omega
theorem Zu5 {α:Type} {f:α→Int→α} {c:α→Nat} {l:List α} {k:Int} {j:Nat} {x:α} (hx:l[j]?=some x):mkL f c (l.take (j+1)) k=mkL f c (l.take j) k++[f x (k+(((l.take j).map c).sum:Int))]:=by
 rw [YD hx,Zok];rfl
theorem ZjR {α:Type} {l:List α} {f:α→Int→α} {c:α→Nat} {step:Int×Int×List α×Unit→Option ((Int×Int×List α×Unit) ⊕ (Int×List α))} {k:Int}
  (hstep:∀ (j:Nat) (m:Int) (x:α) (L:List α),j<L.length→(j:Int)<(L.length:Int)→L[j]?=some x→x∈l→0≤m→m+(c x:Int)≤4611686018427387904→(j:Int)≤1048576→step (m,(j:Int),L,())=some (.inl (m+(c x:Int),((j+1:Nat):Int),List.set L j (f x m),())))
  (hend:∀ (m:Int) (L:List α),step (m,(L.length:Int),L,())=some (.inr (m,L)))
  (hl:l.length≤1048576) (h0:0≤k) (h1:k+((l.map c).sum:Int)≤4611686018427387904):Zu step (k,0,l,())=some (k+((l.map c).sum:Int),mkL f c l k):=by
 refine Qj l.length (fun j v=>v.1=k+(((l.take j).map c).sum:Int)∧v.2.1=(j:Int)∧v.2.2.1=mkL f c (l.take j) k++l.drop j) _ ⟨by simp,rfl,by simp [mkL]⟩ ?_ ?_
 ·rintro j ⟨m,i,L,⟨⟩⟩ hj ⟨hm,hi,hL⟩
  simp only at hm hi hL
  subst hi
  have hx:l[j]?=some l[j]:=List.getElem?_eq_getElem hj
  generalize hxv:l[j]=x at hx
  have hlen:(mkL f c (l.take j) k).length=j:=by rw [Zgc,List.length_take];omega
  have hd:l.drop j=x::l.drop (j+1):=by rw [List.drop_eq_getElem_cons hj,hxv]
  have hLl:L.length=l.length:=by rw [hL,List.length_append,hlen,List.length_drop];omega
  have hLx:L[j]?=some x:=by rw [hL,List.getElem?_append_right (by omega),hlen,Nat.sub_self,hd];rfl
  have hsum:(l.map c).sum=((l.take j).map c).sum+(c x+((l.drop (j+1)).map c).sum):=by
   have e:l=l.take j++(x::l.drop (j+1)):=by rw [←hd,List.take_append_drop]
   have e2:=congrArg (fun l=>(l.map c).sum) e
   simp only [List.map_append,List.sum_append,List.map_cons,List.sum_cons] at e2
   exact e2
  left
  refine ⟨_,hstep j m x L (by omega) (by omega) hLx (List.mem_of_getElem? hx) (by omega) (by omega) (by omega),?_,rfl,?_⟩
  ·rw [YD hx,List.map_append,List.sum_append]
   simp only [List.map_cons,List.map_nil,List.sum_cons,List.sum_nil]
   omega
  ·simp only
   rw [hL,Zu5 hx,List.set_append,if_neg (by omega),hlen,Nat.sub_self,hd,hm]
   simp
 ·rintro ⟨m,i,L,⟨⟩⟩ ⟨hm,hi,hL⟩
  simp only at hm hi hL
  subst hi
  rw [List.take_length,List.drop_length,List.append_nil] at hL
  rw [List.take_length] at hm
  subst hL
  rw [←Zgc f c l k,hend,hm]
theorem Zff {α:Type} {l:List α} {f:α→Int→α} {c:α→Nat} {step:Int×Int×Unit→Option ((Int×Int×Unit) ⊕ Int)} {k:Int}
  (hstep:∀ (j:Nat) (m:Int) (x:α),(j:Int)<((mkL f c l k).length:Int)→(mkL f c l k)[j]?=some (f x m)→x∈l→0≤m→m+(c x:Int)≤4611686018427387904→(j:Int)≤1048576→step (m,(j:Int),())=some (.inl (m+(c x:Int),((j+1:Nat):Int),())))
  (hend:∀ (m:Int),step (m,((mkL f c l k).length:Int),())=some (.inr m))
  (hl:l.length≤1048576) (h0:0≤k) (h1:k+((l.map c).sum:Int)≤4611686018427387904):Zu step (k,0,())=some (k+((l.map c).sum:Int)):=by
 refine Qj l.length (fun j v=>v.1=k+(((l.take j).map c).sum:Int)∧v.2.1=(j:Int)) _ ⟨by simp,rfl⟩ ?_ ?_
 ·rintro j ⟨m,i,⟨⟩⟩ hj ⟨hm,hi⟩
  simp only at hm hi
  subst hi
  have hx:l[j]?=some l[j]:=List.getElem?_eq_getElem hj
  generalize hxv:l[j]=x at hx
  have hsum:(l.map c).sum=((l.take j).map c).sum+(c x+((l.drop (j+1)).map c).sum):=by
   have hd:l.drop j=x::l.drop (j+1):=by rw [List.drop_eq_getElem_cons hj,hxv]
   have e:l=l.take j++(x::l.drop (j+1)):=by rw [←hd,List.take_append_drop]
   have e2:=congrArg (fun l=>(l.map c).sum) e
   simp only [List.map_append,List.sum_append,List.map_cons,List.sum_cons] at e2
   exact e2
  left
  refine ⟨_,hstep j m x (by rw [Zgc];omega) (by rw [Zsu,hx,hm];rfl) (List.mem_of_getElem? hx) (by omega) (by omega) (by omega),?_,rfl⟩
  rw [YD hx,List.map_append,List.sum_append]
  simp only [List.map_cons,List.map_nil,List.sum_cons,List.sum_nil]
  omega
 ·rintro ⟨m,i,⟨⟩⟩ ⟨hm,hi⟩
  simp only at hm hi
  subst hi
  rw [List.take_length] at hm
  rw [←Zgc f c l k,hend,hm]
theorem ZqI:∀ (t:Ty) (d:t.den),Zfn t d≤cnt t d
 | .pair a b,d=>Nat.add_le_add (ZqI a d.1) (ZqI b d.2)
 | .sl t,l=>Nat.le_refl _
 | .int _,_=>Nat.zero_le _
 | .bool,_=>Nat.zero_le _
 | .str,_=>Nat.zero_le _
 | .unit,_=>Nat.zero_le _
 | .ptr _,_=>Nat.zero_le _
 | .fn _ _,_=>Nat.zero_le _
 | .nptr _,_=>Nat.zero_le _
 | .mp _ _,_=>Nat.zero_le _
end Go.Proofs.YtfndhpjedmopdaaGreatDoor
/-
  Plain laws: bounds, names.
-/
namespace Go.Proofs.YtfndhpjedmopdaaGreatDoor
set_option linter.unusedVariables false
set_option linter.unusedSimpArgs false
open Go Go.Sx
def within (n a b:Int):Bool:=decide (a≤n)&&decide (n≤b)
theorem ZbQ (n a b:Int):Yo n a b=some (within n a b):=by
 unfold Yo within;split<;>simp [*]
theorem Zd0 (n a b:Int):Ye n a b=some (within n a b):=by
 unfold Ye within;split<;>simp [*]
theorem within_iff (n a b:Int):within n a b=true↔a≤n∧n≤b:=by simp [within]
def Zf4 (b:UInt8):Bool:=decide (97≤b.toNat)&&decide (b.toNat≤122)
def ZkN (b:UInt8):Bool:=decide (48≤b.toNat)&&decide (b.toNat≤57)
def Zbf (s:List UInt8):Bool:=decide (1≤s.length)&&decide (s.length≤8)&&s.all (fun b=>Zf4 b||ZkN b)&&(match s with
 | b::_=>Zf4 b
 | []=>false)
def Zp7 (s:List UInt8) (i:Nat):Prop:=∀ (j:Nat) (b:UInt8),j<i→s[j]?=some b→(Zf4 b||ZkN b)=true∧(j=0→Zf4 b=true)
theorem Zqn {s:List UInt8} {i:Nat} {x:UInt8} (h:Zp7 s i) (hx:s[i]?=some x) (h1:(Zf4 x||ZkN x)=true) (h2:i=0→Zf4 x=true):Zp7 s (i+1):=by
 intro j b hj hb
 by_cases e:j<i
 ·exact h j b e hb
 ·have:j=i:=by omega
  subst this
  rw [hx] at hb;injection hb with hb;subst hb
  exact ⟨h1,h2⟩
theorem Zo1 {s:List UInt8} (h:Zp7 s s.length):Zbf s=(decide (1≤s.length)&&decide (s.length≤8)):=by
 unfold Zbf
 have h1:s.all (fun b=>Zf4 b||ZkN b)=true:=by
  rw [List.all_eq_true]
  intro b hb
  obtain ⟨j,hj⟩:=List.mem_iff_getElem?.1 hb
  exact (h j b (List.getElem?_eq_some_iff.1 hj).1 hj).1
 rw [h1]
 cases s with
 | nil=>rfl
 | cons b r =>
  have:=(h 0 b (by simp) rfl).2 rfl
  simp [this]
theorem Zr5 {s:List UInt8} {j:Nat} {b:UInt8} (hb:s[j]?=some b) (h:(Zf4 b||ZkN b)=false∨j=0∧Zf4 b=false):Zbf s=false:=by
 unfold Zbf
 rcases h with h | ⟨rfl,h⟩
 ·have:s.all (fun b=>Zf4 b||ZkN b)=false:=by
   rw [List.all_eq_false]
   exact ⟨b,List.mem_of_getElem? hb,by simp [h]⟩
  simp [this]
 ·cases s with
  | nil=>simp at hb
  | cons c r=>simp at hb;subst hb;simp [h]
theorem ZdJ (s:List UInt8) (hl:s.length≤4611686018427387904):ZaI s=some (Zbf s):=by
 unfold ZaI
 refine Qj s.length (fun k v=>v.1=(k:Int)∧Zp7 s k) _ ⟨rfl,fun j b hj=>by omega⟩ ?_ ?_
 ·rintro k ⟨i,⟨⟩⟩ hk ⟨rfl,hS⟩
  have hx:s[k]?=some s[k]:=List.getElem?_eq_getElem hk
  generalize s[k]=x at hx
  simp only [Zav,Zr,hx,Option.bind_some,show (k:Int)<(s.length:Int) from by omega,if_true,Jd (show (-9223372036854775808:Int)≤(k:Int)+1 by omega) (by omega)]
  have ok:(Zf4 x||ZkN x)=true→(k=0→Zf4 x=true)→(((k:Int)+1,()):Int×Unit).1=((k+1:Nat):Int)∧Zp7 s (k+1):=fun h1 h2=>⟨by simp,Zqn hS hx h1 h2⟩
  have bad:((Zf4 x||ZkN x)=false∨k=0∧Zf4 x=false)→(some (Sum.inr false):Option (Int×Unit ⊕ Bool))=some (Sum.inr (Zbf s)):=fun h=>by rw [Zr5 hx h]
  simp only [Zf4,ZkN] at ok bad
  repeat' split
  all_goals first
   | (left;refine ⟨_,rfl,ok ?_ ?_⟩<;>simp<;>omega)
   | (right;refine bad ?_;first | (left;simp;omega) | (right;simp;omega))
 ·rintro ⟨i,⟨⟩⟩ ⟨rfl,hS⟩
  simp only [Zav,Int.lt_irrefl,if_false]
  rw [Zo1 hS]
  split
  ·rename_i h
   have h1:1≤s.length:=by omega
   have h2:decide ((s.length:Int)≤8)=decide (s.length≤8):=by rw [decide_eq_decide];omega
   simp [h1,h2]
  ·have h1:¬1≤s.length:=by omega
   simp [h1]
theorem dropWhile_nil {p:UInt8→Bool}:∀ (m:List UInt8),(∀ x∈m.dropWhile p,p x=true)→∀ x∈m,p x=true
 | [],_=>by simp
 | a::m,h=>by
  by_cases ha:p a=true
  ·rw [List.dropWhile_cons_of_pos ha] at h
   intro x hx
   rcases List.mem_cons.1 hx with rfl | hx
   ·exact ha
   ·exact dropWhile_nil m h x hx
  ·rw [List.dropWhile_cons_of_neg ha] at h
   exact absurd (h a (by simp)) ha
theorem Zke {p:UInt8→Bool}:∀ (m:List UInt8),m.dropWhile p=[]↔∀ x∈m,p x=true
 | []=>by simp
 | a::m=>by
  by_cases ha:p a=true
  ·rw [List.dropWhile_cons_of_pos ha,Zke m];simp [ha]
  ·rw [List.dropWhile_cons_of_neg ha];simp [ha]
theorem Zsz (s cs:List UInt8):Lib.trimS s cs=[]↔∀ b∈s,cs.contains b=true:=by
 unfold Lib.trimS Lib.trimLeftS Lib.trimRightS
 rw [Zke]
 constructor
 ·intro h b hb
  exact dropWhile_nil s.reverse (fun x hx=>h x (List.mem_reverse.2 hx)) b (List.mem_reverse.2 hb)
 ·intro h b hb
  exact h b (List.mem_reverse.1 ((List.dropWhile_sublist _).subset (List.mem_reverse.1 hb)))
def letters:List UInt8:=[97,98,99,100,101,102,103,104,105,106,107,108,109,110,111,112,113,114,115,116,117,118,119,120,121,122]
def ZgQ:List UInt8:=letters++[48,49,50,51,52,53,54,55,56,57]
theorem Zvo {p:UInt8→Bool} (h:(List.range 256).all (fun n=>p (UInt8.ofNat n))=true) (b:UInt8):p b=true:=by
 rw [List.all_eq_true] at h
 have:=h b.toNat (List.mem_range.2 b.toNat_lt)
 simpa using this
theorem ZgY (b:UInt8):ZgQ.contains b=(Zf4 b||ZkN b):=by
 have:=Zvo (p:=fun b=>ZgQ.contains b == (Zf4 b||ZkN b)) (by decide +kernel) b
 simpa using this
theorem ZpZ (s:List UInt8):Lib.trimS s ZgQ=[]↔s.all (fun b=>Zf4 b||ZkN b)=true:=by
 rw [Zsz,List.all_eq_true]
 simp only [ZgY]
theorem ZoL (b:UInt8):decide (0≤(Lib.indexByte letters b:Int))=Zf4 b:=by
 have:=Zvo (p:=fun b=>decide (0≤(Lib.indexByte letters b:Int)) == Zf4 b) (by decide +kernel) b
 simpa using this
theorem Zf3 (s:List UInt8):Zb4 s=some (Zbf s):=by
 unfold Zb4
 rw [ZbQ,Option.bind_some]
 split
 ·rename_i h
  rw [within_iff] at h
  rw [Zi (by omega)]
  split
  ·rename_i ht
   have ht':=(ZpZ s).1 ht
   cases s with
   | nil=>simp at h
   | cons b r =>
    have e:atI (b::r) (0:Int)=some b:=rfl
    rw [e,Option.bind_some]
    have e1:((b.toNat:Int)).toNat.toUInt8=b:=by simp
    rw [e1]
    have h1:1≤(b::r).length:=by simp
    have h2:(b::r).length≤8:=by omega
    have:=ZoL b
    unfold letters at this
    rw [this]
    simp only [Zbf,ht',decide_eq_true h1,decide_eq_true h2,Bool.true_and]
  ·rename_i ht
   have ht':¬s.all (fun b=>Zf4 b||ZkN b)=true:=fun e=>ht ((ZpZ s).2 e)
   simp only [Zbf,Bool.eq_false_iff.2 ht',Bool.and_false,Bool.false_and]
 ·rename_i h
  rw [within_iff] at h
  have:¬(1≤s.length∧s.length≤8):=by omega
  rw [eq_comm]
  congr 1
  rw [Bool.eq_false_iff]
  intro hh
  simp only [Zbf,Bool.and_eq_true,decide_eq_true_eq] at hh
  omega
theorem ZlR (l:List (List UInt8)) (s:List UInt8) (hl:l.length≤4611686018427387904):∃ r,Yp l s=some r∧(0≤r↔s∈l):=by
 unfold Yp
 refine Zdi l.length (fun k v=>v.1=(k:Int)∧s ∉ l.take k) _ ⟨rfl,by simp⟩ ?_ ?_
 ·rintro k ⟨i,⟨⟩⟩ hk ⟨rfl,hS⟩
  have hx:l[k]?=some l[k]:=List.getElem?_eq_getElem hk
  generalize l[k]=x at hx
  simp only [Yq,Zr,hx,Option.bind_some,show (k:Int)<(l.length:Int) from by omega,if_true,Jd (show (-9223372036854775808:Int)≤(k:Int)+1 by omega) (by omega)]
  split
  ·rename_i e;subst e
   exact .inr ⟨_,rfl,fun _=>List.mem_of_getElem? hx,fun _=>by simp⟩
  ·rename_i e
   exact .inl ⟨_,rfl,by simp,by rw [YD hx];simp [hS,e]⟩
 ·rintro ⟨i,⟨⟩⟩ ⟨rfl,hS⟩
  simp only [Yq,Int.lt_irrefl,if_false]
  refine ⟨_,rfl,fun h=>by omega,fun h=>absurd h (by simpa using hS)⟩
theorem ZiV (l:List (List UInt8)) (s:List UInt8) (hl:l.length≤4611686018427387904):YO l s=some (decide (s∈l)):=by
 obtain ⟨r,h1,h2⟩:=ZlR l s hl
 unfold YO
 rw [h1,Option.bind_some]
 simp only [h2]
def Jb (l:List (List UInt8)) (k:Nat):Prop:=∀ (j:Nat) (s:List UInt8),j<k→l[j]?=some s→Zbf s=true∧s ∉ l.take j
theorem ZbC (l:List (List UInt8)) (hl:l.length≤4611686018427387904):VG l=some (tr (Jb l l.length)):=by
 unfold VG
 refine Qj l.length (fun k v=>v.1=(k:Int)∧Jb l k) _ ⟨rfl,fun j s hj=>by omega⟩ ?_ ?_
 ·rintro k ⟨i,⟨⟩⟩ hk ⟨rfl,hS⟩
  have hx:l[k]?=some l[k]:=List.getElem?_eq_getElem hk
  generalize l[k]=x at hx
  simp only [J5,Zr,hx,Option.bind_some,show (k:Int)<(l.length:Int) from by omega,if_true,Jd (show (-9223372036854775808:Int)≤(k:Int)+1 by omega) (by omega),Zf3]
  split
  ·rename_i hn
   rw [Zi (by omega),Zi (by omega)]
   simp only [Int.toNat_natCast,Int.toNat_zero,List.drop_zero,Nat.sub_zero]
   rw [ZiV _ _ (by simp only [List.length_take];omega),Option.bind_some]
   split
   ·rename_i hm
    right
    rw [Yr]
    intro hh
    exact (hh k x hk hx).2 (by simpa using hm)
   ·rename_i hm
    refine .inl ⟨_,rfl,by simp,fun j s hj hs=>?_⟩
    by_cases e:j<k
    ·exact hS j s e hs
    ·have:j=k:=by omega
     subst this
     rw [hx] at hs;injection hs with hs;subst hs
     exact ⟨hn,by simpa using hm⟩
  ·rename_i hn
   right
   rw [Yr]
   intro hh
   exact hn (hh k x hk hx).1
 ·rintro ⟨i,⟨⟩⟩ ⟨rfl,hS⟩
  simp only [J5,Int.lt_irrefl,if_false]
  rw [YS hS]
end Go.Proofs.YtfndhpjedmopdaaGreatDoor
/-
  Plain laws: numbers within bounds.
-/
namespace Go.Proofs.YtfndhpjedmopdaaGreatDoor
set_option linter.unusedVariables false
set_option linter.unusedSimpArgs false
open Go Go.Sx
def allIn (l:List Int) (lo hi:Int):Bool:=l.all (fun n=>within n lo hi)
theorem Zcp (l:List Int) (lo hi:Int) (hl:l.length≤4611686018427387904):Xz l lo hi=some (allIn l lo hi):=by
 have h1:∃ r,Z8 l (lo,hi,())=some r∧(0≤r↔allIn l lo hi=false):=by
  unfold Z8
  refine Zdi l.length (fun k v=>v.1=(k:Int)∧allIn (l.take k) lo hi=true) _ ⟨rfl,rfl⟩ ?_ ?_
  ·rintro k ⟨i,⟨⟩⟩ hk ⟨rfl,hS⟩
   have hx:l[k]?=some l[k]:=List.getElem?_eq_getElem hk
   generalize l[k]=x at hx
   simp only [Yb,Za7,ZbQ,Zr,hx,Option.bind_some,show (k:Int)<(l.length:Int) from by omega,if_true,Jd (show (-9223372036854775808:Int)≤(k:Int)+1 by omega) (by omega)]
   cases hw:within x lo hi
   ·refine .inr ⟨_,rfl,fun _=>?_,fun _=>by simp⟩
    rw [allIn,List.all_eq_false]
    exact ⟨x,List.mem_of_getElem? hx,by simp [hw]⟩
   ·refine .inl ⟨_,rfl,by simp,?_⟩
    rw [YD hx,allIn,List.all_append]
    simp only [allIn] at hS
    simp [hS,hw]
  ·rintro ⟨i,⟨⟩⟩ ⟨rfl,hS⟩
   rw [List.take_length] at hS
   simp only [Yb,Int.lt_irrefl,if_false]
   exact ⟨_,rfl,fun h=>by omega,fun h=>by rw [hS] at h;cases h⟩
 obtain ⟨r,h1,h2⟩:=h1
 unfold Xz Yf
 rw [h1]
 simp only [Option.bind_some,h2]
 cases allIn l lo hi<;>simp
end Go.Proofs.YtfndhpjedmopdaaGreatDoor
/-
  Plain laws: the instances of functions of package slices. Printed by program (libgen.py).
-/
namespace Go.Proofs.YtfndhpjedmopdaaGreatDoor
open Go Go.Sx
set_option linter.unusedVariables false
set_option linter.unusedSimpArgs false
theorem ZeX {l:List (List UInt8)} {v:List UInt8} (hl:Len l):Yp l v=some (Zbx (fun x=>decide (v=x)) l):=by
 unfold Yp
 refine Za0 (out:=fun i=>i) hl (fun k x hx=>?_) ?_
 ·have hk:=(List.getElem?_eq_some_iff.1 hx).1
  simp only [Yq,Zr,hx,Option.bind_some,show (k:Int)<(l.length:Int) from by omega,if_true,decide_eq_true_eq]
  split<;>rfl
 ·simp only [Yq,Int.lt_irrefl,if_false]
theorem QO {l:List Zt} {f:Bool×Unit} (hl:Len l) (p:Zt→Bool) (hp:∀ x∈l,QE x f.fst=some (p x)):ZK l f=some (Zbx p l):=by
 unfold ZK
 refine Za0 (out:=fun i=>i) hl (p:=p) (fun k x hx=>?_) ?_
 ·have hk:=(List.getElem?_eq_some_iff.1 hx).1
  simp only [ZR,Zr,hx,Option.bind_some,show (k:Int)<(l.length:Int) from by omega,if_true,hp x (List.mem_of_getElem? hx)]
  split<;>rfl
 ·simp only [ZR,Int.lt_irrefl,if_false]
theorem QC {l:List Zt} {f:Bool×Unit} (hl:Len l) (p:Zt→Bool) (hp:∀ x∈l,QE x f.fst=some (p x)):ZF l f=some (l.any p):=by
 unfold ZF
 rw [QO hl p hp,Option.bind_some]
 congr 1
 rw [Bool.eq_iff_iff,decide_eq_true_eq,ZcF]
theorem Vm {l:List Yv} {f:Unit} (hl:Len l) (p:Yv→Bool) (hp:∀ x∈l,ZaD x=some (p x)):ZQ l f=some (Zbx p l):=by
 unfold ZQ
 refine Za0 (out:=fun i=>i) hl (p:=p) (fun k x hx=>?_) ?_
 ·have hk:=(List.getElem?_eq_some_iff.1 hx).1
  simp only [ZX,Zr,hx,Option.bind_some,show (k:Int)<(l.length:Int) from by omega,if_true,hp x (List.mem_of_getElem? hx)]
  split<;>rfl
 ·simp only [ZX,Int.lt_irrefl,if_false]
theorem Ve {l:List ZM} {f:ZM×Unit} (hl:Len l) (p:ZM→Bool) (hp:∀ x∈l,Xe x f.fst=some (p x)):ZL l f=some (Zbx p l):=by
 unfold ZL
 refine Za0 (out:=fun i=>i) hl (p:=p) (fun k x hx=>?_) ?_
 ·have hk:=(List.getElem?_eq_some_iff.1 hx).1
  simp only [ZT,Zr,hx,Option.bind_some,show (k:Int)<(l.length:Int) from by omega,if_true,hp x (List.mem_of_getElem? hx)]
  split<;>rfl
 ·simp only [ZT,Int.lt_irrefl,if_false]
theorem QG {l:List ZM} {f:ZM×Unit} (hl:Len l) (p:ZM→Bool) (hp:∀ x∈l,Xe x f.fst=some (p x)):ZG l f=some (l.any p):=by
 unfold ZG
 rw [Ve hl p hp,Option.bind_some]
 congr 1
 rw [Bool.eq_iff_iff,decide_eq_true_eq,ZcF]
theorem VL {l:List ZM} {f:Int×Unit} (hl:Len l) (p:ZM→Bool) (hp:∀ x∈l,Zao x f.fst=some (p x)):ZW l f=some (Zbx p l):=by
 unfold ZW
 refine Za0 (out:=fun i=>i) hl (p:=p) (fun k x hx=>?_) ?_
 ·have hk:=(List.getElem?_eq_some_iff.1 hx).1
  simp only [Z4,Zr,hx,Option.bind_some,show (k:Int)<(l.length:Int) from by omega,if_true,hp x (List.mem_of_getElem? hx)]
  split<;>rfl
 ·simp only [Z4,Int.lt_irrefl,if_false]
theorem Vk {l:List ZM} {f:Int×Unit} (hl:Len l) (p:ZM→Bool) (hp:∀ x∈l,Zao x f.fst=some (p x)):ZO l f=some (l.any p):=by
 unfold ZO
 rw [VL hl p hp,Option.bind_some]
 congr 1
 rw [Bool.eq_iff_iff,decide_eq_true_eq,ZcF]
theorem Vj {l:List Int} {f:Za×Unit} (hl:Len l) (p:Int→Bool) (hp:∀ x∈l,YV x f.fst=some (p x)):ZN l f=some (Zbx p l):=by
 unfold ZN
 refine Za0 (out:=fun i=>i) hl (p:=p) (fun k x hx=>?_) ?_
 ·have hk:=(List.getElem?_eq_some_iff.1 hx).1
  simp only [ZV,Zr,hx,Option.bind_some,show (k:Int)<(l.length:Int) from by omega,if_true,hp x (List.mem_of_getElem? hx)]
  split<;>rfl
 ·simp only [ZV,Int.lt_irrefl,if_false]
theorem QK {l:List Int} {f:Za×Unit} (hl:Len l) (p:Int→Bool) (hp:∀ x∈l,YV x f.fst=some (p x)):ZJ l f=some (l.any p):=by
 unfold ZJ
 rw [Vj hl p hp,Option.bind_some]
 congr 1
 rw [Bool.eq_iff_iff,decide_eq_true_eq,ZcF]
theorem Zaw {l:List Int} {f:Unit} (hl:Len l) (p:Int→Bool) (hp:∀ x∈l,Zaq x=some (p x)):Yg l f=some (Zbx p l):=by
 unfold Yg
 refine Za0 (out:=fun i=>i) hl (p:=p) (fun k x hx=>?_) ?_
 ·have hk:=(List.getElem?_eq_some_iff.1 hx).1
  simp only [Yi,Zr,hx,Option.bind_some,show (k:Int)<(l.length:Int) from by omega,if_true,hp x (List.mem_of_getElem? hx)]
  split<;>rfl
 ·simp only [Yi,Int.lt_irrefl,if_false]
theorem J7 {l:List Int} {f:Unit} (hl:Len l) (p:Int→Bool) (hp:∀ x∈l,Zaq x=some (p x)):Yc l f=some (l.any p):=by
 unfold Yc
 rw [Zaw hl p hp,Option.bind_some]
 congr 1
 rw [Bool.eq_iff_iff,decide_eq_true_eq,ZcF]
theorem XD {l:List Zd} {f:List UInt8×Unit} (hl:Len l) (p:Zd→Bool) (hp:∀ x∈l,VW x f.fst=some (p x)):ZA l f=some (Zbx p l):=by
 unfold ZA
 refine Za0 (out:=fun i=>i) hl (p:=p) (fun k x hx=>?_) ?_
 ·have hk:=(List.getElem?_eq_some_iff.1 hx).1
  simp only [ZB,Zr,hx,Option.bind_some,show (k:Int)<(l.length:Int) from by omega,if_true,hp x (List.mem_of_getElem? hx)]
  split<;>rfl
 ·simp only [ZB,Int.lt_irrefl,if_false]
theorem Qb {l:List Yd} {f:Int×Int×Unit} (hl:Len l) (p:Yd→Bool) (hp:∀ x∈l,XZ x f.fst f.snd.fst=some (p x)):ZC l f=some (Zbx p l):=by
 unfold ZC
 refine Za0 (out:=fun i=>i) hl (p:=p) (fun k x hx=>?_) ?_
 ·have hk:=(List.getElem?_eq_some_iff.1 hx).1
  simp only [ZH,Zr,hx,Option.bind_some,show (k:Int)<(l.length:Int) from by omega,if_true,hp x (List.mem_of_getElem? hx)]
  split<;>rfl
 ·simp only [ZH,Int.lt_irrefl,if_false]
end Go.Proofs.YtfndhpjedmopdaaGreatDoor
/-
  Plain laws: arguments counted, copied, compared. Printed by program (szgen.py).
-/
namespace Go.Proofs.YtfndhpjedmopdaaGreatDoor
open Go Go.Sx
set_option linter.unusedVariables false
set_option linter.unusedSimpArgs false
theorem Zj1 (a:Yv) (left:Int) (h0:0≤left) (h1:left≤1048576) (hb:bnd (Je) a):Szd (ZbG a left) left (sm (Je) a):=by
 unfold ZbG
 refine Szd.len h0 h1 (by omega) hb.1 (fun hw a0 b0 s0=>?_)
 rw [hw]
 exact Szd.ret ⟨s0,VI _ (by rfl) _,VI _ (by rfl) _,VI _ (by rfl) _,trivial⟩
theorem ZnQ (a:List (Yv)) (left:Int) (h0:0≤left) (h1:left≤1048576) (hb:bnd (.sl (Je)) a):Szd (Zcc a left) left (sm (.sl (Je)) a):=by
 unfold Zcc
 refine Szd.len h0 h1 (by omega) hb.1 (fun hw m0 m1 hn=>?_)
 rw [hw]
 exact (Szd.loop (f:=fun x m=>ZbG x m) (P:=fun x=>sm (Je) x) (fun x hx m m0 m1=>Zj1 x m m0 m1 (hb.2 x hx)) (fun k m=>rfl) m0 m1 hn).mono (fun h=>⟨hn,h⟩)
theorem Qf (a:List (Int)) (left:Int) (h0:0≤left) (h1:left≤1048576) (hb:bnd (.sl (.int .i64)) a):Szd (YX a left) left (sm (.sl (.int .i64)) a):=by
 unfold YX
 refine Szd.len h0 h1 (by omega) hb.1 (fun hw m0 m1 hn=>?_)
 rw [hw]
 exact Szd.ret ⟨hn,fun x _=>VI (.int .i64) (by rfl) x⟩
theorem Zhr (a:Zt) (left:Int) (h0:0≤left) (h1:left≤1048576) (hb:bnd (Yh) a):Szd (Ju a left) left (sm (Yh) a):=by
 unfold Ju
 refine Szd.then (Qf _ _ h0 h1 hb.1) h0 h1 (fun m0 a0 b0 s0=>?_)
 refine Szd.then (Qf _ _ a0 b0 hb.2.1) a0 b0 (fun m1 a1 b1 s1=>?_)
 refine Szd.last (Qf _ _ a1 b1 hb.2.2.1) a1 (fun s2=>?_)
 exact ⟨s0,s1,s2,trivial⟩
theorem ZgU (a:List (Zt)) (left:Int) (h0:0≤left) (h1:left≤1048576) (hb:bnd (.sl (Yh)) a):Szd (Jr a left) left (sm (.sl (Yh)) a):=by
 unfold Jr
 refine Szd.len h0 h1 (by omega) hb.1 (fun hw m0 m1 hn=>?_)
 rw [hw]
 exact (Szd.loop (f:=fun x m=>Ju x m) (P:=fun x=>sm (Yh) x) (fun x hx m m0 m1=>Zhr x m m0 m1 (hb.2 x hx)) (fun k m=>rfl) m0 m1 hn).mono (fun h=>⟨hn,h⟩)
theorem ZjP (a:ZM) (left:Int) (h0:0≤left) (h1:left≤1048576) (hb:bnd (ZaK) a):Szd (ZbI a left) left (sm (ZaK) a):=by
 unfold ZbI
 refine Szd.then (ZgU _ _ h0 h1 hb.2.2.2.2.1) h0 h1 (fun m0 a0 b0 s0=>?_)
 refine Szd.last (ZgU _ _ a0 b0 hb.2.2.2.2.2.1) a0 (fun s1=>?_)
 exact ⟨VI _ (by rfl) _,VI _ (by rfl) _,VI _ (by rfl) _,VI _ (by rfl) _,s0,s1,trivial⟩
theorem ZnO (a:List (ZM)) (left:Int) (h0:0≤left) (h1:left≤1048576) (hb:bnd (.sl (ZaK)) a):Szd (Zb7 a left) left (sm (.sl (ZaK)) a):=by
 unfold Zb7
 refine Szd.len h0 h1 (by omega) hb.1 (fun hw m0 m1 hn=>?_)
 rw [hw]
 exact (Szd.loop (f:=fun x m=>ZbI x m) (P:=fun x=>sm (ZaK) x) (fun x hx m m0 m1=>ZjP x m m0 m1 (hb.2 x hx)) (fun k m=>rfl) m0 m1 hn).mono (fun h=>⟨hn,h⟩)
theorem Zix (a:Zh) (left:Int) (h0:0≤left) (h1:left≤1048576) (hb:bnd (YL) a):Szd (ZaN a left) left (sm (YL) a):=by
 unfold ZaN
 refine Szd.len h0 h1 (by omega) hb.1 (fun hw a0 b0 s0=>?_)
 rw [hw]
 refine Szd.then (ZnQ _ _ a0 b0 hb.2.2.1) a0 b0 (fun m1 a1 b1 s1=>?_)
 refine Szd.then (ZnO _ _ a1 b1 hb.2.2.2.1) a1 b1 (fun m2 a2 b2 s2=>?_)
 refine Szd.last (Qf _ _ a2 b2 hb.2.2.2.2.1) a2 (fun s3=>?_)
 exact ⟨s0,VI _ (by rfl) _,s1,s2,s3,VI _ (by rfl) _,VI _ (by rfl) _,trivial⟩
theorem Zni (a:List (Zh)) (left:Int) (h0:0≤left) (h1:left≤1048576) (hb:bnd (.sl (YL)) a):Szd (Zbi a left) left (sm (.sl (YL)) a):=by
 unfold Zbi
 refine Szd.len h0 h1 (by omega) hb.1 (fun hw m0 m1 hn=>?_)
 rw [hw]
 exact (Szd.loop (f:=fun x m=>ZaN x m) (P:=fun x=>sm (YL) x) (fun x hx m m0 m1=>Zix x m m0 m1 (hb.2 x hx)) (fun k m=>rfl) m0 m1 hn).mono (fun h=>⟨hn,h⟩)
theorem Zk1 (a:Zl) (left:Int) (h0:0≤left) (h1:left≤1048576) (hb:bnd (Z6) a):Szd (JB a left) left (sm (Z6) a):=by
 unfold JB
 refine Szd.last (Zni _ _ h0 h1 hb.1) h0 (fun s0=>?_)
 exact ⟨s0,trivial⟩
theorem ZfY (a:Zd) (left:Int) (h0:0≤left) (h1:left≤1048576) (hb:bnd (Zw) a):Szd (X9 a left) left (sm (Zw) a):=by
 unfold X9
 refine Szd.len h0 h1 (by omega) hb.1 (fun hw a0 b0 s0=>?_)
 rw [hw]
 refine Szd.last (Qf _ _ a0 b0 hb.2.2.1) a0 (fun s1=>?_)
 exact ⟨s0,VI _ (by rfl) _,s1,trivial⟩
theorem Zi5 (a:List (Zd)) (left:Int) (h0:0≤left) (h1:left≤1048576) (hb:bnd (.sl (Zw)) a):Szd (Vg a left) left (sm (.sl (Zw)) a):=by
 unfold Vg
 refine Szd.len h0 h1 (by omega) hb.1 (fun hw m0 m1 hn=>?_)
 rw [hw]
 exact (Szd.loop (f:=fun x m=>X9 x m) (P:=fun x=>sm (Zw) x) (fun x hx m m0 m1=>ZfY x m m0 m1 (hb.2 x hx)) (fun k m=>rfl) m0 m1 hn).mono (fun h=>⟨hn,h⟩)
theorem ZkF (a:List (List UInt8)) (left:Int) (h0:0≤left) (h1:left≤1048576) (hb:bnd (.sl (.str)) a):Szd (Jy a left) left (sm (.sl (.str)) a):=by
 unfold Jy
 refine Szd.len h0 h1 (by omega) hb.1 (fun hw m0 m1 hn=>?_)
 rw [hw]
 exact (Szd.loop (f:=fun x m=>if IntKind.i64.wrap (m-(x.length:Int))<0 then some (-1) else some (IntKind.i64.wrap (m-(x.length:Int)))) (P:=fun x=>sm .str x) (fun x hx m m0 m1=>Szd.len m0 m1 (by omega) (hb.2 x hx) (fun hw _ _ hn=>by rw [hw];exact Szd.ret hn)) (fun k m=>by
  show XL a m (k:Int)=_
  unfold XL
  congr 1;congr 1;funext x;split<;>simp_all) m0 m1 hn).mono (fun h=>⟨hn,h⟩)
theorem ZiK (a:ZI) (left:Int) (h0:0≤left) (h1:left≤1048576) (hb:bnd (Xa) a):Szd (ZaO a left) left (sm (Xa) a):=by
 unfold ZaO
 refine Szd.len h0 h1 (by omega) hb.1 (fun hw a0 b0 s0=>?_)
 rw [hw]
 exact Szd.ret ⟨s0,VI _ (by rfl) _,VI _ (by rfl) _,trivial⟩
theorem Zmi (a:List (ZI)) (left:Int) (h0:0≤left) (h1:left≤1048576) (hb:bnd (.sl (Xa)) a):Szd (Zbg a left) left (sm (.sl (Xa)) a):=by
 unfold Zbg
 refine Szd.len h0 h1 (by omega) hb.1 (fun hw m0 m1 hn=>?_)
 rw [hw]
 exact (Szd.loop (f:=fun x m=>ZaO x m) (P:=fun x=>sm (Xa) x) (fun x hx m m0 m1=>ZiK x m m0 m1 (hb.2 x hx)) (fun k m=>rfl) m0 m1 hn).mono (fun h=>⟨hn,h⟩)
theorem ZlZ (a:Za) (left:Int) (h0:0≤left) (h1:left≤1048576) (hb:bnd (Z9) a):Szd (ZaF a left) left (sm (Z9) a):=by
 unfold ZaF
 refine Szd.then (Zi5 _ _ h0 h1 hb.1) h0 h1 (fun m0 a0 b0 s0=>?_)
 refine Szd.then (ZkF _ _ a0 b0 hb.2.1) a0 b0 (fun m1 a1 b1 s1=>?_)
 refine Szd.last (Zmi _ _ a1 b1 hb.2.2.1) a1 (fun s2=>?_)
 exact ⟨s0,s1,s2,trivial⟩
theorem Zf5 (a:Zn) (left:Int) (h0:0≤left) (h1:left≤1048576) (hb:bnd (YP) a):Szd (JR a left) left (sm (YP) a):=by
 unfold JR
 refine Szd.then (Qf _ _ h0 h1 hb.1) h0 h1 (fun m0 a0 b0 s0=>?_)
 refine Szd.then (Qf _ _ a0 b0 hb.2.1) a0 b0 (fun m1 a1 b1 s1=>?_)
 refine Szd.then (Qf _ _ a1 b1 hb.2.2.1) a1 b1 (fun m2 a2 b2 s2=>?_)
 refine Szd.last (Qf _ _ a2 b2 hb.2.2.2.1) a2 (fun s3=>?_)
 exact ⟨s0,s1,s2,s3,trivial⟩
theorem Zmp (a:List (Zn)) (left:Int) (h0:0≤left) (h1:left≤1048576) (hb:bnd (.sl (YP)) a):Szd (Zbh a left) left (sm (.sl (YP)) a):=by
 unfold Zbh
 refine Szd.len h0 h1 (by omega) hb.1 (fun hw m0 m1 hn=>?_)
 rw [hw]
 exact (Szd.loop (f:=fun x m=>JR x m) (P:=fun x=>sm (YP) x) (fun x hx m m0 m1=>Zf5 x m m0 m1 (hb.2 x hx)) (fun k m=>rfl) m0 m1 hn).mono (fun h=>⟨hn,h⟩)
theorem ZmI (a:Zb) (left:Int) (h0:0≤left) (h1:left≤1048576) (hb:bnd (Yt) a):Szd (Zbe a left) left (sm (Yt) a):=by
 unfold Zbe
 refine Szd.then (Zk1 _ _ h0 h1 hb.1) h0 h1 (fun m0 a0 b0 s0=>?_)
 refine Szd.then (ZlZ _ _ a0 b0 hb.2.1) a0 b0 (fun m1 a1 b1 s1=>?_)
 refine Szd.last (Zmp _ _ a1 b1 hb.2.2.1) a1 (fun s2=>?_)
 exact ⟨s0,s1,s2,trivial⟩
theorem ZiB (a:Zf) (left:Int) (h0:0≤left) (h1:left≤1048576) (hb:bnd (Y9) a):Szd (ZaP a left) left (sm (Y9) a):=by
 unfold ZaP
 refine Szd.len h0 h1 (by omega) hb.2.2.2.2.2.1 (fun hw a0 b0 s0=>?_)
 rw [hw]
 refine Szd.last (Zf5 _ _ a0 b0 hb.2.2.2.2.2.2.1) a0 (fun s1=>?_)
 exact ⟨VI _ (by rfl) _,VI _ (by rfl) _,VI _ (by rfl) _,VI _ (by rfl) _,VI _ (by rfl) _,s0,s1,trivial⟩
theorem Zm1 (a:List (Zf)) (left:Int) (h0:0≤left) (h1:left≤1048576) (hb:bnd (.sl (Y9)) a):Szd (Zbd a left) left (sm (.sl (Y9)) a):=by
 unfold Zbd
 refine Szd.len h0 h1 (by omega) hb.1 (fun hw m0 m1 hn=>?_)
 rw [hw]
 exact (Szd.loop (f:=fun x m=>ZaP x m) (P:=fun x=>sm (Y9) x) (fun x hx m m0 m1=>ZiB x m m0 m1 (hb.2 x hx)) (fun k m=>rfl) m0 m1 hn).mono (fun h=>⟨hn,h⟩)
theorem ZoY (a:Yv) (hs:sm (Je) a):Zeu a=some a:=by
 unfold Zeu
 all_goals rfl
theorem ZnK (a:List (Yv)) (hs:sm (.sl (Je)) a):ZeA a=some a:=by
 unfold ZeA
 have h:=hs.1
 rw [Zi (by omega),Zi (by omega),Zi (by omega),Zi (by omega)]
 exact ZcW (f:=Zeu) (fun x hx=>ZoY x (hs.2 x hx)) (fun k out=>rfl) h
theorem Qd (a:List (Int)) (hs:sm (.sl (.int .i64)) a):Xl a=some a:=by
 unfold Xl
 have h:=hs.1
 rw [Zi (by omega),Zi (by omega),Zi (by omega),Zi (by omega)]
 exact ZcW (f:=some) (fun x _=>rfl) (fun k out=>rfl) h
theorem Zms (a:Zt) (hs:sm (Yh) a):Zch a=some a:=by
 unfold Zch
 rw [Qd _ hs.1,Option.bind_some,Qd _ hs.2.1,Option.bind_some,Qd _ hs.2.2.1,Option.bind_some]
 all_goals rfl
theorem ZgX (a:List (Zt)) (hs:sm (.sl (Yh)) a):Zbr a=some a:=by
 unfold Zbr
 have h:=hs.1
 rw [Zi (by omega),Zi (by omega),Zi (by omega),Zi (by omega)]
 exact ZcW (f:=Zch) (fun x hx=>Zms x (hs.2 x hx)) (fun k out=>rfl) h
theorem Zox (a:ZM) (hs:sm (ZaK) a):ZeM a=some a:=by
 unfold ZeM
 rw [ZgX _ hs.2.2.2.2.1,Option.bind_some,ZgX _ hs.2.2.2.2.2.1,Option.bind_some]
 all_goals rfl
theorem ZnE (a:List (ZM)) (hs:sm (.sl (ZaK)) a):Zes a=some a:=by
 unfold Zes
 have h:=hs.1
 rw [Zi (by omega),Zi (by omega),Zi (by omega),Zi (by omega)]
 exact ZcW (f:=ZeM) (fun x hx=>Zox x (hs.2 x hx)) (fun k out=>rfl) h
theorem ZnC (a:Zh) (hs:sm (YL) a):Zc0 a=some a:=by
 unfold Zc0
 rw [ZnK _ hs.2.2.1,Option.bind_some,ZnE _ hs.2.2.2.1,Option.bind_some,Qd _ hs.2.2.2.2.1,Option.bind_some]
 all_goals rfl
theorem Zmk (a:List (Zh)) (hs:sm (.sl (YL)) a):Zdt a=some a:=by
 unfold Zdt
 have h:=hs.1
 rw [Zi (by omega),Zi (by omega),Zi (by omega),Zi (by omega)]
 exact ZcW (f:=Zc0) (fun x hx=>ZnC x (hs.2 x hx)) (fun k out=>rfl) h
theorem ZkW (a:Zl) (hs:sm (Z6) a):ZbN a=some a:=by
 unfold ZbN
 rw [Zmk _ hs.1,Option.bind_some]
 all_goals rfl
theorem Zkb (a:Zd) (hs:sm (Zw) a):JZ a=some a:=by
 unfold JZ
 rw [Qd _ hs.2.2.1,Option.bind_some]
 all_goals rfl
theorem Zi6 (a:List (Zd)) (hs:sm (.sl (Zw)) a):Zap a=some a:=by
 unfold Zap
 have h:=hs.1
 rw [Zi (by omega),Zi (by omega),Zi (by omega),Zi (by omega)]
 exact ZcW (f:=JZ) (fun x hx=>Zkb x (hs.2 x hx)) (fun k out=>rfl) h
theorem Zk6 (a:List (List UInt8)) (hs:sm (.sl (.str)) a):ZbP a=some a:=by
 unfold ZbP
 have h:=hs.1
 rw [Zi (by omega),Zi (by omega),Zi (by omega),Zi (by omega)]
 exact ZcW (f:=some) (fun x _=>rfl) (fun k out=>rfl) h
theorem ZnH (a:ZI) (hs:sm (Xa) a):ZcZ a=some a:=by
 unfold ZcZ
 all_goals rfl
theorem ZmX (a:List (ZI)) (hs:sm (.sl (Xa)) a):Zdn a=some a:=by
 unfold Zdn
 have h:=hs.1
 rw [Zi (by omega),Zi (by omega),Zi (by omega),Zi (by omega)]
 exact ZcW (f:=ZcZ) (fun x hx=>ZnH x (hs.2 x hx)) (fun k out=>rfl) h
theorem ZlA (a:Za) (hs:sm (Z9) a):Zcx a=some a:=by
 unfold Zcx
 rw [Zi6 _ hs.1,Option.bind_some,Zk6 _ hs.2.1,Option.bind_some,ZmX _ hs.2.2.1,Option.bind_some]
 all_goals rfl
theorem Ziv (a:Zn) (hs:sm (YP) a):Zb8 a=some a:=by
 unfold Zb8
 rw [Qd _ hs.1,Option.bind_some,Qd _ hs.2.1,Option.bind_some,Qd _ hs.2.2.1,Option.bind_some,Qd _ hs.2.2.2.1,Option.bind_some]
 all_goals rfl
theorem ZmG (a:List (Zn)) (hs:sm (.sl (YP)) a):Zdo a=some a:=by
 unfold Zdo
 have h:=hs.1
 rw [Zi (by omega),Zi (by omega),Zi (by omega),Zi (by omega)]
 exact ZcW (f:=Zb8) (fun x hx=>Ziv x (hs.2 x hx)) (fun k out=>rfl) h
theorem Zm0 (a:Zb) (hs:sm (Yt) a):Zdv a=some a:=by
 unfold Zdv
 rw [ZkW _ hs.1,Option.bind_some,ZlA _ hs.2.1,Option.bind_some,ZmG _ hs.2.2.1,Option.bind_some]
 all_goals rfl
theorem Znz (a:Zf) (hs:sm (Y9) a):Zdd a=some a:=by
 unfold Zdd
 rw [Ziv _ hs.2.2.2.2.2.2.1,Option.bind_some]
 all_goals rfl
theorem Zmb (a:List (Zf)) (hs:sm (.sl (Y9)) a):Zds a=some a:=by
 unfold Zds
 have h:=hs.1
 rw [Zi (by omega),Zi (by omega),Zi (by omega),Zi (by omega)]
 exact ZcW (f:=Zdd) (fun x hx=>Znz x (hs.2 x hx)) (fun k out=>rfl) h
theorem Zo8 (a:Yv) (hs:sm (Je) a):Zeo a a=some true:=by
 unfold Zeo
 simp
theorem ZnS (a:List (Yv)) (hs:sm (.sl (Je)) a):ZeN a a=some true:=by
 unfold ZeN
 rw [if_pos rfl]
 exact Zhz (f:=Zeo) (fun x hx=>Zo8 x (hs.2 x hx)) (fun k=>rfl) hs.1
theorem Qc (a:List (Int)) (hs:sm (.sl (.int .i64)) a):Xo a a=some true:=by
 unfold Xo
 rw [if_pos rfl]
 exact Zrm (fun k=>rfl) hs.1
theorem Zne (a:Zt) (hs:sm (Yh) a):Zb6 a a=some true:=by
 unfold Zb6
 simp [Qc _ hs.1,Qc _ hs.2.1,Qc _ hs.2.2.1]
theorem ZgV (a:List (Zt)) (hs:sm (.sl (Yh)) a):Zbl a a=some true:=by
 unfold Zbl
 rw [if_pos rfl]
 exact Zhz (f:=Zb6) (fun x hx=>Zne x (hs.2 x hx)) (fun k=>rfl) hs.1
theorem ZoQ (a:ZM) (hs:sm (ZaK) a):Zel a a=some true:=by
 unfold Zel
 simp [ZgV _ hs.2.2.2.2.1,ZgV _ hs.2.2.2.2.2.1]
theorem ZnB (a:List (ZM)) (hs:sm (.sl (ZaK)) a):ZeI a a=some true:=by
 unfold ZeI
 rw [if_pos rfl]
 exact Zhz (f:=Zel) (fun x hx=>ZoQ x (hs.2 x hx)) (fun k=>rfl) hs.1
theorem ZnX (a:Zh) (hs:sm (YL) a):Zdf a a=some true:=by
 unfold Zdf
 simp [ZnS _ hs.2.2.1,ZnB _ hs.2.2.2.1,Qc _ hs.2.2.2.2.1]
theorem Zmd (a:List (Zh)) (hs:sm (.sl (YL)) a):Zdw a a=some true:=by
 unfold Zdw
 rw [if_pos rfl]
 exact Zhz (f:=Zdf) (fun x hx=>ZnX x (hs.2 x hx)) (fun k=>rfl) hs.1
theorem Zkm (a:Zl) (hs:sm (Z6) a):ZbL a a=some true:=by
 unfold ZbL
 simp [Zmd _ hs.1]
theorem ZjB (a:Zd) (hs:sm (Zw) a):J9 a a=some true:=by
 unfold J9
 simp [Qc _ hs.2.2.1]
theorem Zjl (a:List (Zd)) (hs:sm (.sl (Zw)) a):Zam a a=some true:=by
 unfold Zam
 rw [if_pos rfl]
 exact Zhz (f:=J9) (fun x hx=>ZjB x (hs.2 x hx)) (fun k=>rfl) hs.1
theorem ZkV (a:List (List UInt8)) (hs:sm (.sl (.str)) a):ZbE a a=some true:=by
 unfold ZbE
 rw [if_pos rfl]
 exact Zrm (fun k=>rfl) hs.1
theorem ZnT (a:ZI) (hs:sm (Xa) a):Zdg a a=some true:=by
 unfold Zdg
 simp
theorem Zmc (a:List (ZI)) (hs:sm (.sl (Xa)) a):Zdh a a=some true:=by
 unfold Zdh
 rw [if_pos rfl]
 exact Zhz (f:=Zdg) (fun x hx=>ZnT x (hs.2 x hx)) (fun k=>rfl) hs.1
theorem ZlM (a:Za) (hs:sm (Z9) a):ZcK a a=some true:=by
 unfold ZcK
 simp [Zjl _ hs.1,ZkV _ hs.2.1,Zmc _ hs.2.2.1]
theorem ZiN (a:Zn) (hs:sm (YP) a):Zcb a a=some true:=by
 unfold Zcb
 simp [Qc _ hs.1,Qc _ hs.2.1,Qc _ hs.2.2.1,Qc _ hs.2.2.2.1]
theorem Zmu (a:List (Zn)) (hs:sm (.sl (YP)) a):ZdB a a=some true:=by
 unfold ZdB
 rw [if_pos rfl]
 exact Zhz (f:=Zcb) (fun x hx=>ZiN x (hs.2 x hx)) (fun k=>rfl) hs.1
theorem ZhV (a:Zb) (hs:sm (Yt) a):Zce a a=some true:=by
 unfold Zce
 simp [Zkm _ hs.1,ZlM _ hs.2.1,Zmu _ hs.2.2.1]
theorem ZnI (a:Zf) (hs:sm (Y9) a):Zdb a a=some true:=by
 unfold Zdb
 simp [ZiN _ hs.2.2.2.2.2.2.1]
theorem Znr (a:List (Zf)) (hs:sm (.sl (Y9)) a):Zdu a a=some true:=by
 unfold Zdu
 rw [if_pos rfl]
 exact Zhz (f:=Zdb) (fun x hx=>ZnI x (hs.2 x hx)) (fun k=>rfl) hs.1
end Go.Proofs.YtfndhpjedmopdaaGreatDoor
/-
  Plain laws: all lengths together; marks. Printed by program (totgen.py).
-/
namespace Go.Proofs.YtfndhpjedmopdaaGreatDoor
open Go Go.Sx
set_option linter.unusedVariables false
set_option linter.unusedSimpArgs false
theorem ZuP {α:Type} {L:List α} {j:Nat} {z:α} {A A' B B':Int} (hA:A=A') (hB:B=B'):∃ y,(some (.inl (A,B,List.set L j z,())):Option ((Int×Int×List α×Unit) ⊕ (Int×List α)))=some (.inl (A',B',List.set L j y,())):=⟨z,by rw [hA,hB]⟩
theorem ZcX (k:Int) (h0:0≤k) (h1:k≤4611686018427387904):∃ s,YM k=some s:=by
 unfold YM
 split
 ·exact ⟨_,rfl⟩
 ·obtain ⟨r,h,_⟩:=ZrP (step:=fun v=>J2 v.1 v.2.1) (fun v:Int×List UInt8×Unit=>0≤v.1∧v.1+(v.2.1.length:Int)≤4611686018427387904) (fun v=>v.1.toNat) (fun _=>True) (v:=(k,([]:List UInt8),())) ⟨h0,by simpa using h1⟩
   (by
    rintro ⟨m,s,⟨⟩⟩ ⟨a,b⟩
    simp only at a b
    simp only [J2]
    by_cases hm:0<m
    ·have e1:Int.tdiv m 10=m / 10:=Int.tdiv_eq_ediv_of_nonneg a
     rw [if_pos hm,e1,Jd (n:=m / 10) (by omega) (by omega),Zi (by simp only [bytesOf,List.length_map,List.length_singleton];omega)]
     refine .inl ⟨_,rfl,⟨by simp only;omega,?_⟩,by simp only;omega⟩
     simp only [List.length_append,bytesOf,List.length_map,List.length_singleton]
     omega
    ·rw [if_neg hm,Zi (by simp only [List.length_singleton];omega)]
     exact .inr ⟨_,rfl,trivial⟩)
  exact ⟨r,h⟩
theorem Znu (a:Yv) (left:Int) (h0:0≤left) (h1:left≤1048576) (hb:bnd (Je) a):Szt (ZbG a left) left (tot (Je) a):=by
 unfold ZbG
 exact (Szt.len h0 h1 (by omega) hb.1 (fun hw0 a0 b0=>by rw [hw0];exact Szt.ret)).mono (by simp only [ZdZ,Zfu,Zef,Zeb,Ze7];omega)
theorem Zmn (a:List (Yv)) (left:Int) (h0:0≤left) (h1:left≤1048576) (hb:bnd (.sl (Je)) a):Szt (Zcc a left) left (tot (.sl (Je)) a):=by
 unfold Zcc
 refine (Szt.len h0 h1 (by omega) hb.1 (fun hw m0 m1=>(?_:Szt _ _ ((a.map (tot (Je))).sum)))).mono (by rw [ZiJ];omega)
 rw [hw]
 exact Szt.loop (f:=fun x m=>ZbG x m) (P:=fun x=>sm (Je) x) (T:=tot (Je)) (fun x hx m m0 m1=>Zj1 x m m0 m1 (hb.2 x hx)) (fun x hx m m0 m1=>Znu x m m0 m1 (hb.2 x hx)) (fun k m=>rfl) m0 m1 (by omega)
theorem XC (a:List (Int)) (left:Int) (h0:0≤left) (h1:left≤1048576) (hb:bnd (.sl (.int .i64)) a):Szt (YX a left) left (tot (.sl (.int .i64)) a):=by
 unfold YX
 refine (Szt.len h0 h1 (by omega) hb.1 (fun hw m0 m1=>(?_:Szt _ _ ((a.map (tot (.int .i64))).sum)))).mono (by rw [ZiJ];omega)
 rw [hw]
 exact Szt.ret.mono (by rw [ZsP (by rfl)];omega)
theorem Zly (a:Zt) (left:Int) (h0:0≤left) (h1:left≤1048576) (hb:bnd (Yh) a):Szt (Ju a left) left (tot (Yh) a):=by
 unfold Ju
 exact (Szt.then (XC a.1 _ h0 h1 hb.1) h0 h1 (fun m0 a0 b0=>Szt.then (XC a.2.1 _ a0 b0 hb.2.1) a0 b0 (fun m1 a1 b1=>Szt.last (XC a.2.2.1 _ a1 b1 hb.2.2.1)))).mono (by simp only [ZdZ,Zfu,Zef,Zeb,Ze7];omega)
theorem Zga (a:List (Zt)) (left:Int) (h0:0≤left) (h1:left≤1048576) (hb:bnd (.sl (Yh)) a):Szt (Jr a left) left (tot (.sl (Yh)) a):=by
 unfold Jr
 refine (Szt.len h0 h1 (by omega) hb.1 (fun hw m0 m1=>(?_:Szt _ _ ((a.map (tot (Yh))).sum)))).mono (by rw [ZiJ];omega)
 rw [hw]
 exact Szt.loop (f:=fun x m=>Ju x m) (P:=fun x=>sm (Yh) x) (T:=tot (Yh)) (fun x hx m m0 m1=>Zhr x m m0 m1 (hb.2 x hx)) (fun x hx m m0 m1=>Zly x m m0 m1 (hb.2 x hx)) (fun k m=>rfl) m0 m1 (by omega)
theorem ZnG (a:ZM) (left:Int) (h0:0≤left) (h1:left≤1048576) (hb:bnd (ZaK) a):Szt (ZbI a left) left (tot (ZaK) a):=by
 unfold ZbI
 exact (Szt.then (Zga a.2.2.2.2.1 _ h0 h1 hb.2.2.2.2.1) h0 h1 (fun m0 a0 b0=>Szt.last (Zga a.2.2.2.2.2.1 _ a0 b0 hb.2.2.2.2.2.1))).mono (by simp only [ZdZ,Zfu,Zef,Zeb,Ze7];omega)
theorem Zmm (a:List (ZM)) (left:Int) (h0:0≤left) (h1:left≤1048576) (hb:bnd (.sl (ZaK)) a):Szt (Zb7 a left) left (tot (.sl (ZaK)) a):=by
 unfold Zb7
 refine (Szt.len h0 h1 (by omega) hb.1 (fun hw m0 m1=>(?_:Szt _ _ ((a.map (tot (ZaK))).sum)))).mono (by rw [ZiJ];omega)
 rw [hw]
 exact Szt.loop (f:=fun x m=>ZbI x m) (P:=fun x=>sm (ZaK) x) (T:=tot (ZaK)) (fun x hx m m0 m1=>ZjP x m m0 m1 (hb.2 x hx)) (fun x hx m m0 m1=>ZnG x m m0 m1 (hb.2 x hx)) (fun k m=>rfl) m0 m1 (by omega)
theorem Zmz (a:Zh) (left:Int) (h0:0≤left) (h1:left≤1048576) (hb:bnd (YL) a):Szt (ZaN a left) left (tot (YL) a):=by
 unfold ZaN
 exact (Szt.len h0 h1 (by omega) hb.1 (fun hw0 a0 b0=>by rw [hw0];exact Szt.then (Zmn a.2.2.1 _ a0 b0 hb.2.2.1) a0 b0 (fun m1 a1 b1=>Szt.then (Zmm a.2.2.2.1 _ a1 b1 hb.2.2.2.1) a1 b1 (fun m2 a2 b2=>Szt.last (XC a.2.2.2.2.1 _ a2 b2 hb.2.2.2.2.1))))).mono (by simp only [ZdZ,Zfu,Zef,Zeb,Ze7];omega)
theorem Zlw (a:List (Zh)) (left:Int) (h0:0≤left) (h1:left≤1048576) (hb:bnd (.sl (YL)) a):Szt (Zbi a left) left (tot (.sl (YL)) a):=by
 unfold Zbi
 refine (Szt.len h0 h1 (by omega) hb.1 (fun hw m0 m1=>(?_:Szt _ _ ((a.map (tot (YL))).sum)))).mono (by rw [ZiJ];omega)
 rw [hw]
 exact Szt.loop (f:=fun x m=>ZaN x m) (P:=fun x=>sm (YL) x) (T:=tot (YL)) (fun x hx m m0 m1=>Zix x m m0 m1 (hb.2 x hx)) (fun x hx m m0 m1=>Zmz x m m0 m1 (hb.2 x hx)) (fun k m=>rfl) m0 m1 (by omega)
theorem ZjK (a:Zl) (left:Int) (h0:0≤left) (h1:left≤1048576) (hb:bnd (Z6) a):Szt (JB a left) left (tot (Z6) a):=by
 unfold JB
 exact (Szt.last (Zlw a.1 _ h0 h1 hb.1)).mono (by simp only [ZdZ,Zfu,Zef,Zeb,Ze7];omega)
theorem Zjn (a:Zd) (left:Int) (h0:0≤left) (h1:left≤1048576) (hb:bnd (Zw) a):Szt (X9 a left) left (tot (Zw) a):=by
 unfold X9
 exact (Szt.len h0 h1 (by omega) hb.1 (fun hw0 a0 b0=>by rw [hw0];exact Szt.last (XC a.2.2.1 _ a0 b0 hb.2.2.1))).mono (by simp only [ZdZ,Zfu,Zef,Zeb,Ze7];omega)
theorem Zig (a:List (Zd)) (left:Int) (h0:0≤left) (h1:left≤1048576) (hb:bnd (.sl (Zw)) a):Szt (Vg a left) left (tot (.sl (Zw)) a):=by
 unfold Vg
 refine (Szt.len h0 h1 (by omega) hb.1 (fun hw m0 m1=>(?_:Szt _ _ ((a.map (tot (Zw))).sum)))).mono (by rw [ZiJ];omega)
 rw [hw]
 exact Szt.loop (f:=fun x m=>X9 x m) (P:=fun x=>sm (Zw) x) (T:=tot (Zw)) (fun x hx m m0 m1=>ZfY x m m0 m1 (hb.2 x hx)) (fun x hx m m0 m1=>Zjn x m m0 m1 (hb.2 x hx)) (fun k m=>rfl) m0 m1 (by omega)
theorem Zkj (a:List (List UInt8)) (left:Int) (h0:0≤left) (h1:left≤1048576) (hb:bnd (.sl (.str)) a):Szt (Jy a left) left (tot (.sl (.str)) a):=by
 unfold Jy
 refine (Szt.len h0 h1 (by omega) hb.1 (fun hw m0 m1=>(?_:Szt _ _ ((a.map (tot (.str))).sum)))).mono (by rw [ZiJ];omega)
 rw [hw]
 exact Szt.loop (l:=a) (α:=List UInt8) (f:=fun (x:List UInt8) (m:Int)=>if IntKind.i64.wrap (m-(x.length:Int))<0 then some (-1) else some (IntKind.i64.wrap (m-(x.length:Int)))) (P:=fun (x:List UInt8)=>sm .str x) (T:=fun (x:List UInt8)=>tot .str x) (fun x hx m m0 m1=>Szd.str x m m0 m1 (hb.2 x hx)) (fun x hx m m0 m1=>Szt.str x m m0 m1 (hb.2 x hx)) (fun k m=>by
  show XL a m (k:Int)=_
  unfold XL
  congr 1;congr 1;funext x;split<;>simp_all) m0 m1 (by omega)
theorem Zmr (a:ZI) (left:Int) (h0:0≤left) (h1:left≤1048576) (hb:bnd (Xa) a):Szt (ZaO a left) left (tot (Xa) a):=by
 unfold ZaO
 exact (Szt.len h0 h1 (by omega) hb.1 (fun hw0 a0 b0=>by rw [hw0];exact Szt.ret)).mono (by simp only [ZdZ,Zfu,Zef,Zeb,Ze7];omega)
theorem ZlE (a:List (ZI)) (left:Int) (h0:0≤left) (h1:left≤1048576) (hb:bnd (.sl (Xa)) a):Szt (Zbg a left) left (tot (.sl (Xa)) a):=by
 unfold Zbg
 refine (Szt.len h0 h1 (by omega) hb.1 (fun hw m0 m1=>(?_:Szt _ _ ((a.map (tot (Xa))).sum)))).mono (by rw [ZiJ];omega)
 rw [hw]
 exact Szt.loop (f:=fun x m=>ZaO x m) (P:=fun x=>sm (Xa) x) (T:=tot (Xa)) (fun x hx m m0 m1=>ZiK x m m0 m1 (hb.2 x hx)) (fun x hx m m0 m1=>Zmr x m m0 m1 (hb.2 x hx)) (fun k m=>rfl) m0 m1 (by omega)
theorem Zkx (a:Za) (left:Int) (h0:0≤left) (h1:left≤1048576) (hb:bnd (Z9) a):Szt (ZaF a left) left (tot (Z9) a):=by
 unfold ZaF
 exact (Szt.then (Zig a.1 _ h0 h1 hb.1) h0 h1 (fun m0 a0 b0=>Szt.then (Zkj a.2.1 _ a0 b0 hb.2.1) a0 b0 (fun m1 a1 b1=>Szt.last (ZlE a.2.2.1 _ a1 b1 hb.2.2.1)))).mono (by simp only [ZdZ,Zfu,Zef,Zeb,Ze7];omega)
theorem ZhG (a:Zn) (left:Int) (h0:0≤left) (h1:left≤1048576) (hb:bnd (YP) a):Szt (JR a left) left (tot (YP) a):=by
 unfold JR
 exact (Szt.then (XC a.1 _ h0 h1 hb.1) h0 h1 (fun m0 a0 b0=>Szt.then (XC a.2.1 _ a0 b0 hb.2.1) a0 b0 (fun m1 a1 b1=>Szt.then (XC a.2.2.1 _ a1 b1 hb.2.2.1) a1 b1 (fun m2 a2 b2=>Szt.last (XC a.2.2.2.1 _ a2 b2 hb.2.2.2.1))))).mono (by simp only [ZdZ,Zfu,Zef,Zeb,Ze7];omega)
theorem Zl1 (a:List (Zn)) (left:Int) (h0:0≤left) (h1:left≤1048576) (hb:bnd (.sl (YP)) a):Szt (Zbh a left) left (tot (.sl (YP)) a):=by
 unfold Zbh
 refine (Szt.len h0 h1 (by omega) hb.1 (fun hw m0 m1=>(?_:Szt _ _ ((a.map (tot (YP))).sum)))).mono (by rw [ZiJ];omega)
 rw [hw]
 exact Szt.loop (f:=fun x m=>JR x m) (P:=fun x=>sm (YP) x) (T:=tot (YP)) (fun x hx m m0 m1=>Zf5 x m m0 m1 (hb.2 x hx)) (fun x hx m m0 m1=>ZhG x m m0 m1 (hb.2 x hx)) (fun k m=>rfl) m0 m1 (by omega)
theorem ZlB (a:Zb) (left:Int) (h0:0≤left) (h1:left≤1048576) (hb:bnd (Yt) a):Szt (Zbe a left) left (tot (Yt) a):=by
 unfold Zbe
 exact (Szt.then (ZjK a.1 _ h0 h1 hb.1) h0 h1 (fun m0 a0 b0=>Szt.then (Zkx a.2.1 _ a0 b0 hb.2.1) a0 b0 (fun m1 a1 b1=>Szt.last (Zl1 a.2.2.1 _ a1 b1 hb.2.2.1)))).mono (by simp only [ZdZ,Zfu,Zef,Zeb,Ze7];omega)
theorem Zna (a:Zf) (left:Int) (h0:0≤left) (h1:left≤1048576) (hb:bnd (Y9) a):Szt (ZaP a left) left (tot (Y9) a):=by
 unfold ZaP
 exact (Szt.len h0 h1 (by omega) hb.2.2.2.2.2.1 (fun hw0 a0 b0=>by rw [hw0];exact Szt.last (ZhG a.2.2.2.2.2.2.1 _ a0 b0 hb.2.2.2.2.2.2.1))).mono (by simp only [ZdZ,Zfu,Zef,Zeb,Ze7];omega)
theorem ZlP (a:List (Zf)) (left:Int) (h0:0≤left) (h1:left≤1048576) (hb:bnd (.sl (Y9)) a):Szt (Zbd a left) left (tot (.sl (Y9)) a):=by
 unfold Zbd
 refine (Szt.len h0 h1 (by omega) hb.1 (fun hw m0 m1=>(?_:Szt _ _ ((a.map (tot (Y9))).sum)))).mono (by rw [ZiJ];omega)
 rw [hw]
 exact Szt.loop (f:=fun x m=>ZaP x m) (P:=fun x=>sm (Y9) x) (T:=tot (Y9)) (fun x hx m m0 m1=>ZiB x m m0 m1 (hb.2 x hx)) (fun x hx m m0 m1=>Zna x m m0 m1 (hb.2 x hx)) (fun k m=>rfl) m0 m1 (by omega)
theorem Zl0 (a:List (Yv)) (k:Int) (hs:sm (.sl (Je)) a) (h0:0≤k) (h1:k+(cnt (.sl (Je)) a:Int)≤4611686018427387904):Mkd (ZaH a k) k (cnt (.sl (Je)) a):=by
 unfold ZaH
 have hl:a.length≤1048576:=by have:=hs.1;omega
 refine Mkd.loop (l:=a) (c:=cnt (Je)) (fun j m x L hj hj' hL hx hxm hm0 hm1 hj2=>?_) (fun m L hL=>?_) hl h0 h1
 ·have hsx:=hs.2 x hxm
  have hc:((cnt (Je) x:Nat):Int)=0+1+1+1+1:=by simp only [Qi,VR,Qg,Qh,V9];omega
  obtain ⟨s0,e0⟩:=ZcX (m) (by omega) (by omega)
  have hx2:atI L (j:Int)=some x:=by rw [Zr];exact hx
  have hb:∀ {β:Type} (y:Yv) (F:Yv→Option β),(atI (List.set L j y) (j:Int)).bind F=F y:=fun y F=>by rw [Zbt hj];rfl
  simp only [Qn,if_pos hj',Int.toNat_natCast,hx2,↓hb,Option.bind_some,List.set_set,e0]
  refine ZuP ?_ ?_
  ·have hc:=hc;simp (disch:=omega) only [Jd];omega
  ·simp (disch:=omega) only [Jd];omega
 ·simp only [Qn,Int.lt_irrefl,if_false]
theorem YF (a:List (Int)) (k:Int) (hs:sm (.sl (.int .i64)) a) (h0:0≤k) (h1:k+(cnt (.sl (.int .i64)) a:Int)≤4611686018427387904):Mkd (Ym a k) k (cnt (.sl (.int .i64)) a):=by
 unfold Ym
 have hl:a.length≤1048576:=by have:=hs.1;omega
 refine Mkd.loop (l:=a) (c:=cnt (.int .i64)) (fun j m x L hj hj' hL hx hxm hm0 hm1 hj2=>?_) (fun m L hL=>?_) hl h0 h1
 ·have hsx:=hs.2 x hxm
  have hc:((cnt (.int .i64) x:Nat):Int)=0+1:=by rfl
  simp (disch:=omega) only [Xw,if_pos hj',Zr,hx,Option.bind_some,Jd,Int.toNat_natCast,Zbt,List.length_set,List.set_set,List.getElem?_set_self]
  refine ⟨_,congrArg some (congrArg Sum.inl (Prod.ext ?_ (Prod.ext ?_ (Prod.ext rfl rfl))))⟩
  ·show _=m+_;rw [hc];omega
  ·simp only;omega
 ·simp only [Xw,Int.lt_irrefl,if_false]
theorem ZfS (a:List (Zt)) (k:Int) (hs:sm (.sl (Yh)) a) (h0:0≤k) (h1:k+(cnt (.sl (Yh)) a:Int)≤4611686018427387904):Mkd (Q0 a k) k (cnt (.sl (Yh)) a):=by
 unfold Q0
 have hl:a.length≤1048576:=by have:=hs.1;omega
 refine Mkd.loop (l:=a) (c:=cnt (Yh)) (fun j m x L hj hj' hL hx hxm hm0 hm1 hj2=>?_) (fun m L hL=>?_) hl h0 h1
 ·have hsx:=hs.2 x hxm
  have hc:((cnt (Yh) x:Nat):Int)=0+((cnt (.sl (.int .i64)) x.1:Nat):Int)+((cnt (.sl (.int .i64)) x.2.1:Nat):Int)+((cnt (.sl (.int .i64)) x.2.2.1:Nat):Int):=by simp only [Qi,VR,Qg,Qh,V9];omega
  obtain ⟨s0,e0⟩:=YF x.1 (m) hsx.1 (by omega) (by omega)
  obtain ⟨s1,e1⟩:=YF x.2.1 (m+((cnt (.sl (.int .i64)) x.1:Nat):Int)) hsx.2.1 (by omega) (by omega)
  obtain ⟨s2,e2⟩:=YF x.2.2.1 (m+((cnt (.sl (.int .i64)) x.1:Nat):Int)+((cnt (.sl (.int .i64)) x.2.1:Nat):Int)) hsx.2.2.1 (by omega) (by omega)
  simp (disch:=omega) only [Xx,if_pos hj',Zr,hx,Option.bind_some,Jd,Int.toNat_natCast,Zbt,List.length_set,List.set_set,List.getElem?_set_self,e0,e1,e2]
  refine ⟨_,congrArg some (congrArg Sum.inl (Prod.ext ?_ (Prod.ext ?_ (Prod.ext rfl rfl))))⟩
  ·show _=m+_;rw [hc];omega
  ·simp only;omega
 ·simp only [Xx,Int.lt_irrefl,if_false]
theorem Zl2 (a:List (ZM)) (k:Int) (hs:sm (.sl (ZaK)) a) (h0:0≤k) (h1:k+(cnt (.sl (ZaK)) a:Int)≤4611686018427387904):Mkd (Zat a k) k (cnt (.sl (ZaK)) a):=by
 unfold Zat
 have hl:a.length≤1048576:=by have:=hs.1;omega
 refine Mkd.loop (l:=a) (c:=cnt (ZaK)) (fun j m x L hj hj' hL hx hxm hm0 hm1 hj2=>?_) (fun m L hL=>?_) hl h0 h1
 ·have hsx:=hs.2 x hxm
  have hc:((cnt (ZaK) x:Nat):Int)=0+1+1+1+1+((cnt (.sl (Yh)) x.2.2.2.2.1:Nat):Int)+((cnt (.sl (Yh)) x.2.2.2.2.2.1:Nat):Int):=by simp only [Qi,VR,Qg,Qh,V9];omega
  obtain ⟨s0,e0⟩:=ZfS x.2.2.2.2.1 (m+1+1+1+1) hsx.2.2.2.2.1 (by omega) (by omega)
  obtain ⟨s1,e1⟩:=ZfS x.2.2.2.2.2.1 (m+1+1+1+1+((cnt (.sl (Yh)) x.2.2.2.2.1:Nat):Int)) hsx.2.2.2.2.2.1 (by omega) (by omega)
  simp (disch:=omega) only [Qq,if_pos hj',Zr,hx,Option.bind_some,Jd,Int.toNat_natCast,Zbt,List.length_set,List.set_set,List.getElem?_set_self,e0,e1]
  refine ⟨_,congrArg some (congrArg Sum.inl (Prod.ext ?_ (Prod.ext ?_ (Prod.ext rfl rfl))))⟩
  ·show _=m+_;rw [hc];omega
  ·simp only;omega
 ·simp only [Qq,Int.lt_irrefl,if_false]
theorem Zks (a:List (Zh)) (k:Int) (hs:sm (.sl (YL)) a) (h0:0≤k) (h1:k+(cnt (.sl (YL)) a:Int)≤4611686018427387904):Mkd (Jv a k) k (cnt (.sl (YL)) a):=by
 unfold Jv
 have hl:a.length≤1048576:=by have:=hs.1;omega
 refine Mkd.loop (l:=a) (c:=cnt (YL)) (fun j m x L hj hj' hL hx hxm hm0 hm1 hj2=>?_) (fun m L hL=>?_) hl h0 h1
 ·have hsx:=hs.2 x hxm
  have hc:((cnt (YL) x:Nat):Int)=0+1+1+((cnt (.sl (Je)) x.2.2.1:Nat):Int)+((cnt (.sl (ZaK)) x.2.2.2.1:Nat):Int)+((cnt (.sl (.int .i64)) x.2.2.2.2.1:Nat):Int)+1+1:=by simp only [Qi,VR,Qg,Qh,V9];omega
  obtain ⟨s0,e0⟩:=ZcX (m) (by omega) (by omega)
  obtain ⟨s1,e1⟩:=Zl0 x.2.2.1 (m+1+1) hsx.2.2.1 (by omega) (by omega)
  obtain ⟨s2,e2⟩:=Zl2 x.2.2.2.1 (m+1+1+((cnt (.sl (Je)) x.2.2.1:Nat):Int)) hsx.2.2.2.1 (by omega) (by omega)
  obtain ⟨s3,e3⟩:=YF x.2.2.2.2.1 (m+1+1+((cnt (.sl (Je)) x.2.2.1:Nat):Int)+((cnt (.sl (ZaK)) x.2.2.2.1:Nat):Int)) hsx.2.2.2.2.1 (by omega) (by omega)
  simp (disch:=omega) only [XO,if_pos hj',Zr,hx,Option.bind_some,Jd,Int.toNat_natCast,Zbt,List.length_set,List.set_set,List.getElem?_set_self,e0,e1,e2,e3]
  refine ⟨_,congrArg some (congrArg Sum.inl (Prod.ext ?_ (Prod.ext ?_ (Prod.ext rfl rfl))))⟩
  ·show _=m+_;rw [hc];omega
  ·simp only;omega
 ·simp only [XO,Int.lt_irrefl,if_false]
theorem ZiZ (a:Zl) (k:Int) (hs:sm (Z6) a) (h0:0≤k) (h1:k+((cnt (Z6) a:Nat):Int)≤4611686018427387904):Mkd (Vf a k) k (cnt (Z6) a):=by
 unfold Vf
 have hc:((cnt (Z6) a:Nat):Int)=0+(((cnt (.sl (YL)) a.1):Nat):Int):=by simp only [Qi,VR,Qg,Qh,V9];omega
 obtain ⟨s0,e0⟩:=Zks a.1 (k) hs.1 (by omega) (by omega)
 simp only [Option.bind_some,e0]
 exact ⟨_,congrArg some (Prod.ext (by rfl) rfl)⟩
theorem Zhw (a:List (Zd)) (k:Int) (hs:sm (.sl (Zw)) a) (h0:0≤k) (h1:k+(cnt (.sl (Zw)) a:Int)≤4611686018427387904):Mkd (XV a k) k (cnt (.sl (Zw)) a):=by
 unfold XV
 have hl:a.length≤1048576:=by have:=hs.1;omega
 refine Mkd.loop (l:=a) (c:=cnt (Zw)) (fun j m x L hj hj' hL hx hxm hm0 hm1 hj2=>?_) (fun m L hL=>?_) hl h0 h1
 ·have hsx:=hs.2 x hxm
  have hc:((cnt (Zw) x:Nat):Int)=0+1+1+((cnt (.sl (.int .i64)) x.2.2.1:Nat):Int):=by simp only [Qi,VR,Qg,Qh,V9];omega
  obtain ⟨s0,e0⟩:=ZcX (m) (by omega) (by omega)
  obtain ⟨s1,e1⟩:=YF x.2.2.1 (m+1+1) hsx.2.2.1 (by omega) (by omega)
  simp (disch:=omega) only [Y0,if_pos hj',Zr,hx,Option.bind_some,Jd,Int.toNat_natCast,Zbt,List.length_set,List.set_set,List.getElem?_set_self,e0,e1]
  refine ⟨_,congrArg some (congrArg Sum.inl (Prod.ext ?_ (Prod.ext ?_ (Prod.ext rfl rfl))))⟩
  ·show _=m+_;rw [hc];omega
  ·simp only;omega
 ·simp only [Y0,Int.lt_irrefl,if_false]
theorem Zjd (a:List (List UInt8)) (k:Int) (hs:sm (.sl (.str)) a) (h0:0≤k) (h1:k+(cnt (.sl (.str)) a:Int)≤4611686018427387904):Mkd (Vh a k) k (cnt (.sl (.str)) a):=by
 unfold Vh
 have hl:a.length≤1048576:=by have:=hs.1;omega
 refine Mkd.loop (l:=a) (c:=cnt (.str)) (fun j m x L hj hj' hL hx hxm hm0 hm1 hj2=>?_) (fun m L hL=>?_) hl h0 h1
 ·have hsx:=hs.2 x hxm
  have hc:((cnt (.str) x:Nat):Int)=0+1:=by rfl
  obtain ⟨s0,e0⟩:=ZcX (m) (by omega) (by omega)
  simp (disch:=omega) only [Xi,if_pos hj',Zr,hx,Option.bind_some,Jd,Int.toNat_natCast,Zbt,List.length_set,List.set_set,List.getElem?_set_self,e0]
  refine ⟨_,congrArg some (congrArg Sum.inl (Prod.ext ?_ (Prod.ext ?_ (Prod.ext rfl rfl))))⟩
  ·show _=m+_;rw [hc];omega
  ·simp only;omega
 ·simp only [Xi,Int.lt_irrefl,if_false]
theorem Zkn (a:List (ZI)) (k:Int) (hs:sm (.sl (Xa)) a) (h0:0≤k) (h1:k+(cnt (.sl (Xa)) a:Int)≤4611686018427387904):Mkd (Jz a k) k (cnt (.sl (Xa)) a):=by
 unfold Jz
 have hl:a.length≤1048576:=by have:=hs.1;omega
 refine Mkd.loop (l:=a) (c:=cnt (Xa)) (fun j m x L hj hj' hL hx hxm hm0 hm1 hj2=>?_) (fun m L hL=>?_) hl h0 h1
 ·have hsx:=hs.2 x hxm
  have hc:((cnt (Xa) x:Nat):Int)=0+1+1+1:=by simp only [Qi,VR,Qg,Qh,V9];omega
  obtain ⟨s0,e0⟩:=ZcX (m) (by omega) (by omega)
  simp (disch:=omega) only [XM,if_pos hj',Zr,hx,Option.bind_some,Jd,Int.toNat_natCast,Zbt,List.length_set,List.set_set,List.getElem?_set_self,e0]
  refine ⟨_,congrArg some (congrArg Sum.inl (Prod.ext ?_ (Prod.ext ?_ (Prod.ext rfl rfl))))⟩
  ·show _=m+_;rw [hc];omega
  ·simp only;omega
 ·simp only [XM,Int.lt_irrefl,if_false]
theorem ZjV (a:Za) (k:Int) (hs:sm (Z9) a) (h0:0≤k) (h1:k+((cnt (Z9) a:Nat):Int)≤4611686018427387904):Mkd (VO a k) k (cnt (Z9) a):=by
 unfold VO
 have hc:((cnt (Z9) a:Nat):Int)=0+(((cnt (.sl (Zw)) a.1):Nat):Int)+(((cnt (.sl (.str)) a.2.1):Nat):Int)+(((cnt (.sl (Xa)) a.2.2.1):Nat):Int):=by simp only [Qi,VR,Qg,Qh,V9];omega
 obtain ⟨s0,e0⟩:=Zhw a.1 (k) hs.1 (by omega) (by omega)
 obtain ⟨s1,e1⟩:=Zjd a.2.1 (k+(((cnt (.sl (Zw)) a.1):Nat):Int)) hs.2.1 (by omega) (by omega)
 obtain ⟨s2,e2⟩:=Zkn a.2.2.1 (k+(((cnt (.sl (Zw)) a.1):Nat):Int)+(((cnt (.sl (.str)) a.2.1):Nat):Int)) hs.2.2.1 (by omega) (by omega)
 simp only [Option.bind_some,e0,e1,e2]
 exact ⟨_,congrArg some (Prod.ext (by show _=k+_;rw [hc];omega) rfl)⟩
theorem ZkX (a:List (Zn)) (k:Int) (hs:sm (.sl (YP)) a) (h0:0≤k) (h1:k+(cnt (.sl (YP)) a:Int)≤4611686018427387904):Mkd (Jt a k) k (cnt (.sl (YP)) a):=by
 unfold Jt
 have hl:a.length≤1048576:=by have:=hs.1;omega
 refine Mkd.loop (l:=a) (c:=cnt (YP)) (fun j m x L hj hj' hL hx hxm hm0 hm1 hj2=>?_) (fun m L hL=>?_) hl h0 h1
 ·have hsx:=hs.2 x hxm
  have hc:((cnt (YP) x:Nat):Int)=0+((cnt (.sl (.int .i64)) x.1:Nat):Int)+((cnt (.sl (.int .i64)) x.2.1:Nat):Int)+((cnt (.sl (.int .i64)) x.2.2.1:Nat):Int)+((cnt (.sl (.int .i64)) x.2.2.2.1:Nat):Int):=by simp only [Qi,VR,Qg,Qh,V9];omega
  obtain ⟨s0,e0⟩:=YF x.1 (m) hsx.1 (by omega) (by omega)
  obtain ⟨s1,e1⟩:=YF x.2.1 (m+((cnt (.sl (.int .i64)) x.1:Nat):Int)) hsx.2.1 (by omega) (by omega)
  obtain ⟨s2,e2⟩:=YF x.2.2.1 (m+((cnt (.sl (.int .i64)) x.1:Nat):Int)+((cnt (.sl (.int .i64)) x.2.1:Nat):Int)) hsx.2.2.1 (by omega) (by omega)
  obtain ⟨s3,e3⟩:=YF x.2.2.2.1 (m+((cnt (.sl (.int .i64)) x.1:Nat):Int)+((cnt (.sl (.int .i64)) x.2.1:Nat):Int)+((cnt (.sl (.int .i64)) x.2.2.1:Nat):Int)) hsx.2.2.2.1 (by omega) (by omega)
  simp (disch:=omega) only [XR,if_pos hj',Zr,hx,Option.bind_some,Jd,Int.toNat_natCast,Zbt,List.length_set,List.set_set,List.getElem?_set_self,e0,e1,e2,e3]
  refine ⟨_,congrArg some (congrArg Sum.inl (Prod.ext ?_ (Prod.ext ?_ (Prod.ext rfl rfl))))⟩
  ·show _=m+_;rw [hc];omega
  ·simp only;omega
 ·simp only [XR,Int.lt_irrefl,if_false]
theorem Zkq (a:Zb) (k:Int) (hs:sm (Yt) a) (h0:0≤k) (h1:k+((cnt (Yt) a:Nat):Int)≤4611686018427387904):Mkd (VH a k) k (cnt (Yt) a):=by
 unfold VH
 have hc:((cnt (Yt) a:Nat):Int)=0+(((cnt (Z6) a.1):Nat):Int)+(((cnt (Z9) a.2.1):Nat):Int)+(((cnt (.sl (YP)) a.2.2.1):Nat):Int):=by simp only [Qi,VR,Qg,Qh,V9];omega
 obtain ⟨s0,e0⟩:=ZiZ a.1 (k) hs.1 (by omega) (by omega)
 obtain ⟨s1,e1⟩:=ZjV a.2.1 (k+(((cnt (Z6) a.1):Nat):Int)) hs.2.1 (by omega) (by omega)
 obtain ⟨s2,e2⟩:=ZkX a.2.2.1 (k+(((cnt (Z6) a.1):Nat):Int)+(((cnt (Z9) a.2.1):Nat):Int)) hs.2.2.1 (by omega) (by omega)
 simp only [Option.bind_some,e0,e1,e2]
 exact ⟨_,congrArg some (Prod.ext (by show _=k+_;rw [hc];omega) rfl)⟩
theorem Zk5 (a:List (Zf)) (k:Int) (hs:sm (.sl (Y9)) a) (h0:0≤k) (h1:k+(cnt (.sl (Y9)) a:Int)≤4611686018427387904):Mkd (ZbD a k) k (cnt (.sl (Y9)) a):=by
 unfold ZbD
 have hl:a.length≤1048576:=by have:=hs.1;omega
 refine Mkd.loop (l:=a) (c:=cnt (Y9)) (fun j m x L hj hj' hL hx hxm hm0 hm1 hj2=>?_) (fun m L hL=>?_) hl h0 h1
 ·have hsx:=hs.2 x hxm
  have hc:((cnt (Y9) x:Nat):Int)=0+1+1+1+1+1+1+((cnt (.sl (.int .i64)) x.2.2.2.2.2.2.1.1:Nat):Int)+((cnt (.sl (.int .i64)) x.2.2.2.2.2.2.1.2.1:Nat):Int)+((cnt (.sl (.int .i64)) x.2.2.2.2.2.2.1.2.2.1:Nat):Int)+((cnt (.sl (.int .i64)) x.2.2.2.2.2.2.1.2.2.2.1:Nat):Int):=by simp only [Qi,VR,Qg,Qh,V9];omega
  obtain ⟨s0,e0⟩:=ZcX (m+1+1+1+1+1) (by omega) (by omega)
  obtain ⟨s1,e1⟩:=YF x.2.2.2.2.2.2.1.1 (m+1+1+1+1+1+1) hsx.2.2.2.2.2.2.1.1 (by omega) (by omega)
  obtain ⟨s2,e2⟩:=YF x.2.2.2.2.2.2.1.2.1 (m+1+1+1+1+1+1+((cnt (.sl (.int .i64)) x.2.2.2.2.2.2.1.1:Nat):Int)) hsx.2.2.2.2.2.2.1.2.1 (by omega) (by omega)
  obtain ⟨s3,e3⟩:=YF x.2.2.2.2.2.2.1.2.2.1 (m+1+1+1+1+1+1+((cnt (.sl (.int .i64)) x.2.2.2.2.2.2.1.1:Nat):Int)+((cnt (.sl (.int .i64)) x.2.2.2.2.2.2.1.2.1:Nat):Int)) hsx.2.2.2.2.2.2.1.2.2.1 (by omega) (by omega)
  obtain ⟨s4,e4⟩:=YF x.2.2.2.2.2.2.1.2.2.2.1 (m+1+1+1+1+1+1+((cnt (.sl (.int .i64)) x.2.2.2.2.2.2.1.1:Nat):Int)+((cnt (.sl (.int .i64)) x.2.2.2.2.2.2.1.2.1:Nat):Int)+((cnt (.sl (.int .i64)) x.2.2.2.2.2.2.1.2.2.1:Nat):Int)) hsx.2.2.2.2.2.2.1.2.2.2.1 (by omega) (by omega)
  simp (disch:=omega) only [Jj,if_pos hj',Zr,hx,Option.bind_some,Jd,Int.toNat_natCast,Zbt,List.length_set,List.set_set,List.getElem?_set_self,e0,e1,e2,e3,e4]
  refine ⟨_,congrArg some (congrArg Sum.inl (Prod.ext ?_ (Prod.ext ?_ (Prod.ext rfl rfl))))⟩
  ·show _=m+_;rw [hc];omega
  ·simp only;omega
 ·simp only [Jj,Int.lt_irrefl,if_false]
end Go.Proofs.YtfndhpjedmopdaaGreatDoor
