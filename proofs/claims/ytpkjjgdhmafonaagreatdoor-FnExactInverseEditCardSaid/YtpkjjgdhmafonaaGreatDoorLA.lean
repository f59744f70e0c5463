/-
  Ground of the plain laws: loops by what they come to; small arithmetic.
-/
import Derived.Test.YtpkjjgdhmafonaaGreatDoorSxM
import Derived.IntWalk
import Derived.Test.YtpkjjgdhmafonaaGreatDoorM
import Derived.Test.YtpkjjgdhmafonaaGreatDoorSxBr
namespace Go.Proofs.YtpkjjgdhmafonaaGreatDoor
set_option linter.unusedVariables false
set_option linter.unusedSimpArgs false
open Go Go.Sx
theorem W_in {n:Int} (h1:-9223372036854775808≤n) (h2:n≤9223372036854775807):IntKind.i64.wrap n=n:=IntWalk.i64_in n ⟨h1,h2⟩
theorem atI_nat {α:Type} (l:List α) (k:Nat):atI l (k:Int)=l[k]?:=by simp [atI]
theorem atI_some {α:Type} {l:List α} {i:Int} {x:α} (h0:0≤i) (hx:l[i.toNat]?=some x):atI l i=some x:=by simp [atI,h0,hx]
theorem atI_ex {α:Type} {l:List α} {i:Int} (h0:0≤i) (h1:i<l.length):∃ x,atI l i=some x∧l[i.toNat]?=some x :=
 ⟨l[i.toNat]'(by omega),by simp [atI,h0],List.getElem?_eq_getElem _⟩
theorem guardO_pos {α:Type} {p:Prop} (h:p) (a:Option α):guardO p a=a:=by
 unfold guardO
 exact if_pos h
theorem whileM_range {τ ρ:Type} {step:τ→Option (τ ⊕ ρ)} (n:Nat) (I:Nat→τ→Prop) (Q:ρ→Prop) {v:τ} (h0:I 0 v)
  (hs:∀ k v,k<n→I k v→(∃ v',step v=some (.inl v')∧I (k+1) v')∨∃ r,step v=some (.inr r)∧Q r)
  (hx:∀ v,I n v→∃ r,step v=some (.inr r)∧Q r):∃ r,whileM step v=some r∧Q r:=by
 have:∀ m k v,k+m=n→I k v→∃ r,whileM step v=some r∧Q r:=by
  intro m
  induction m with
  | zero =>
   intro k v hk hI
   have:k=n:=by omega
   subst this
   obtain ⟨r,e,hq⟩:=hx v hI
   exact ⟨r,whileM_out e,hq⟩
  | succ m ih =>
   intro k v hk hI
   rcases hs k v (by omega) hI with ⟨v',e,hI'⟩ | ⟨r,e,hq⟩
   ·obtain ⟨r,h1,h2⟩:=ih (k+1) v' (by omega) hI'
    exact ⟨r,by rw [whileM_in e];exact h1,h2⟩
   ·exact ⟨r,whileM_out e,hq⟩
 exact this n 0 v (by omega) h0
theorem whileM_rangeE {τ ρ:Type} {step:τ→Option (τ ⊕ ρ)} (n:Nat) (I:Nat→τ→Prop) (R:ρ) {v:τ} (h0:I 0 v)
  (hs:∀ k v,k<n→I k v→(∃ v',step v=some (.inl v')∧I (k+1) v')∨step v=some (.inr R))
  (hx:∀ v,I n v→step v=some (.inr R)):whileM step v=some R:=by
 obtain ⟨r,h1,h2⟩:=whileM_range n I (fun r=>r=R) h0 (fun k v hk hI=>(hs k v hk hI).elim .inl (fun h=>.inr ⟨R,h,rfl⟩)) (fun v hI=>⟨R,hx v hI,rfl⟩)
 rw [h1,h2]
theorem take_snoc {α:Type} {l:List α} {k:Nat} {x:α} (hx:l[k]?=some x):l.take (k+1)=l.take k++[x]:=by
 rw [List.take_add_one,hx];rfl
def sm:(t:Ty)→t.den→Prop
 | .str,s=>(s.length:Int)≤1048576
 | .sl t,l=>(l.length:Int)≤1048576∧∀ x∈l,sm t x
 | .pair a b,d=>sm a d.1∧sm b d.2
 | _,_=>True
def Szd (o:Option Int) (left:Int) (P:Prop):Prop:=∃ n,o=some n∧n≤left∧(0≤n→P)
theorem Szd.mono {o:Option Int} {left:Int} {P Q:Prop} (h:Szd o left P) (hpq:P→Q):Szd o left Q:=by
 obtain ⟨n,a,b,c⟩:=h;exact ⟨n,a,b,fun h=>hpq (c h)⟩
theorem Szd.then {o:Option Int} {left:Int} {P Q:Prop} (h:Szd o left P) (h0:0≤left) (hl:left≤1048576) {F:Int→Option Int} (h2:∀ n,0≤n→n≤1048576→P→Szd (F n) n Q) :
  Szd (o.bind fun n=>if n<0 then some (-1) else F n) left Q:=by
 obtain ⟨n,e,hle,hP⟩:=h
 rw [e,Option.bind_some]
 split
 ·rename_i hn
  exact ⟨-1,rfl,by omega,fun h=>by omega⟩
 ·rename_i hn
  obtain ⟨m,e2,h3,h4⟩:=h2 n (by omega) (by omega) (hP (by omega))
  exact ⟨m,e2,by omega,h4⟩
theorem Szd.last {o:Option Int} {left:Int} {P Q:Prop} (h:Szd o left P) (hl:0≤left) (hpq:P→Q):Szd (o.bind fun n=>if n<0 then some (-1) else some n) left Q:=by
 obtain ⟨n,e,hle,hP⟩:=h
 rw [e,Option.bind_some]
 split
 ·rename_i hn
  exact ⟨-1,rfl,by omega,fun h=>by omega⟩
 ·exact ⟨n,rfl,hle,fun h=>hpq (hP h)⟩
theorem Szd.len {left n:Int} {Q:Prop} {B:Option Int} (h0:0≤left) (hl:left≤1048576) (hn:0≤n) (hb:n≤9223372036854775807)
  (h2:IntKind.i64.wrap (left-n)=left-n→0≤left-n→left-n≤1048576→n≤1048576→Szd B (left-n) Q) :
  Szd (if IntKind.i64.wrap (left-n)<0 then some (-1) else B) left Q:=by
 have hw:=W_in (n:=left-n) (by omega) (by omega)
 rw [hw]
 split
 ·rename_i hn
  exact ⟨-1,rfl,by omega,fun h=>by omega⟩
 ·rename_i hn
  obtain ⟨m,e2,h3,h4⟩:=h2 hw (by omega) (by omega) (by omega)
  exact ⟨m,e2,by omega,h4⟩
theorem Szd.ret {left:Int} {P:Prop} (h:P):Szd (some left) left P:=⟨left,rfl,Int.le_refl _,fun _=>h⟩
theorem Szd.loop {α:Type} {l:List α} {f:α→Int→Option Int} {P:α→Prop} {step:Int×Int×Unit→Option ((Int×Int×Unit) ⊕ Int)}
  (hf:∀ x∈l,∀ m,0≤m→m≤1048576→Szd (f x m) m (P x))
  (hstep:∀ (k:Nat) (m:Int),step (m,(k:Int),())=if (k:Int)<(l.length:Int) then (atI l (k:Int)).bind fun x=>(f x m).bind fun n=>if n<0 then some (.inr (-1)) else some (.inl (n,IntKind.i64.wrap ((k:Int)+1),())) else some (.inr m))
  {left:Int} (h0:0≤left) (h1:left≤1048576) (hl:(l.length:Int)≤1048576):Szd (whileM step (left,0,())) left (∀ x∈l,P x):=by
 unfold Szd
 refine whileM_range l.length (fun k v=>v.2.1=(k:Int)∧0≤v.1∧v.1≤left∧∀ x∈l.take k,P x) (fun n=>n≤left∧(0≤n→∀ x∈l,P x)) ⟨rfl,h0,Int.le_refl _,by simp⟩ ?_ ?_
 ·rintro k ⟨m,i,⟨⟩⟩ hk ⟨hi,hm0,hm1,hP⟩
  simp only at hi hm0 hm1
  subst hi
  have hx:l[k]?=some l[k]:=List.getElem?_eq_getElem hk
  generalize l[k]=x at hx
  rw [hstep,if_pos (by omega),atI_nat,hx,Option.bind_some]
  obtain ⟨n,e,hn,hPx⟩:=hf x (List.mem_of_getElem? hx) m hm0 (by omega)
  rw [e,Option.bind_some]
  split
  ·exact .inr ⟨-1,rfl,by omega,fun h=>by omega⟩
  ·rw [W_in (by omega) (by omega)]
   refine .inl ⟨_,rfl,by simp,by dsimp only;omega,by dsimp only;omega,?_⟩
   rw [take_snoc hx]
   intro y hy
   rcases List.mem_append.1 hy with hy | hy
   ·exact hP y hy
   ·simp at hy;subst hy;exact hPx (by omega)
 ·rintro ⟨m,i,⟨⟩⟩ ⟨hi,hm0,hm1,hP⟩
  simp only at hi hm0 hm1
  subst hi
  rw [List.take_length] at hP
  rw [hstep,if_neg (by omega)]
  exact ⟨m,rfl,hm1,fun _=>hP⟩
theorem copy_loop {α:Type} {l:List α} {f:α→Option α} {z:α} {step:Int×List α×Unit→Option ((Int×List α×Unit) ⊕ List α)} (hf:∀ x∈l,f x=some x)
  (hstep:∀ (k:Nat) (out:List α),step ((k:Int),out,())=if (k:Int)<(l.length:Int) then (atI l (k:Int)).bind fun x=>(f x).bind fun y=>(atI out (k:Int)).bind fun _=>some (.inl (IntKind.i64.wrap ((k:Int)+1),List.set out (Int.toNat (k:Int)) y,())) else some (.inr out))
  (hl:(l.length:Int)≤1048576):whileM step (0,List.replicate (Int.toNat (l.length:Int)) z,())=some l:=by
 refine whileM_rangeE l.length (fun k v=>v.1=(k:Int)∧v.2.1.length=l.length∧v.2.1.take k=l.take k) _ ⟨rfl,by simp,by simp⟩ ?_ ?_
 ·rintro k ⟨i,out,⟨⟩⟩ hk ⟨hi,hlen,ht⟩
  simp only at hi hlen ht
  subst hi
  have hx:l[k]?=some l[k]:=List.getElem?_eq_getElem hk
  generalize l[k]=x at hx
  have hy:out[k]?=some (out[k]'(by omega)):=List.getElem?_eq_getElem (by omega)
  rw [hstep,if_pos (by omega),atI_nat,hx,Option.bind_some,hf x (List.mem_of_getElem? hx),Option.bind_some,atI_nat,hy,Option.bind_some,W_in (by omega) (by omega)]
  refine .inl ⟨_,rfl,by simp,by simp [hlen],?_⟩
  have hx2:(out.set k x)[k]?=some x:=by rw [List.getElem?_set_self (by omega)]
  simp only [Int.toNat_natCast]
  rw [take_snoc hx2,take_snoc hx,List.take_set,ht]
  rw [List.set_eq_of_length_le (by simp;omega)]
 ·rintro ⟨i,out,⟨⟩⟩ ⟨hi,hlen,ht⟩
  simp only at hi hlen ht
  subst hi
  rw [hstep,if_neg (by omega)]
  rw [List.take_length,List.take_of_length_le (by omega)] at ht
  rw [ht]
theorem eq_loopP {α:Type} [DecidableEq α] {l:List α} {step:Int×Unit→Option ((Int×Unit) ⊕ Bool)}
  (hstep:∀ (k:Nat),step ((k:Int),())=if (k:Int)<(l.length:Int) then (atI l (k:Int)).bind fun x=>(atI l (k:Int)).bind fun y=>if x=y then some (.inl (IntKind.i64.wrap ((k:Int)+1),())) else some (.inr false) else some (.inr true))
  (hl:(l.length:Int)≤1048576):whileM step (0,())=some true:=by
 refine whileM_rangeE l.length (fun k v=>v.1=(k:Int)) _ rfl ?_ ?_
 ·rintro k ⟨i,⟨⟩⟩ hk hi
  simp only at hi
  subst hi
  have hx:l[k]?=some l[k]:=List.getElem?_eq_getElem hk
  generalize l[k]=x at hx
  rw [hstep,if_pos (by omega),atI_nat,hx,Option.bind_some,Option.bind_some,if_pos rfl,W_in (by omega) (by omega)]
  exact .inl ⟨_,rfl,by simp⟩
 ·rintro ⟨i,⟨⟩⟩ hi
  simp only at hi
  subst hi
  rw [hstep,if_neg (by omega)]
def Ty.fixed:Ty→Bool
 | .str=>false
 | .sl _=>false
 | .ptr _=>true
 | .fn _ _=>true
 | .pair a b=>Ty.fixed a&&Ty.fixed b
 | _=>true
theorem sm_fixed:∀ (t:Ty),Ty.fixed t=true→∀ d:t.den,sm t d
 | .int _,_,_=>trivial
 | .bool,_,_=>trivial
 | .unit,_,_=>trivial
 | .ptr _,_,_=>trivial
 | .fn _ _,_,_=>trivial
 | .nptr _,_,_=>trivial
 | .mp _ _,_,_=>trivial
 | .str,h,_=>by simp [Ty.fixed] at h
 | .sl _,h,_=>by simp [Ty.fixed] at h
 | .pair a b,h,d=>by
  simp only [Ty.fixed,Bool.and_eq_true] at h
  exact ⟨sm_fixed a h.1 d.1,sm_fixed b h.2 d.2⟩
theorem eq_loop {α:Type} {l:List α} {f:α→α→Option Bool} {step:Int×Unit→Option ((Int×Unit) ⊕ Bool)} (hf:∀ x∈l,f x x=some true)
  (hstep:∀ (k:Nat),step ((k:Int),())=if (k:Int)<(l.length:Int) then (atI l (k:Int)).bind fun x=>(atI l (k:Int)).bind fun y=>(f x y).bind fun e=>if e=true then some (.inl (IntKind.i64.wrap ((k:Int)+1),())) else some (.inr false) else some (.inr true))
  (hl:(l.length:Int)≤1048576):whileM step (0,())=some true:=by
 refine whileM_rangeE l.length (fun k v=>v.1=(k:Int)) _ rfl ?_ ?_
 ·rintro k ⟨i,⟨⟩⟩ hk hi
  simp only at hi
  subst hi
  have hx:l[k]?=some l[k]:=List.getElem?_eq_getElem hk
  generalize l[k]=x at hx
  rw [hstep,if_pos (by omega),atI_nat,hx,Option.bind_some,Option.bind_some,hf x (List.mem_of_getElem? hx),Option.bind_some,if_pos rfl,W_in (by omega) (by omega)]
  exact .inl ⟨_,rfl,by simp⟩
 ·rintro ⟨i,⟨⟩⟩ hi
  simp only at hi
  subst hi
  rw [hstep,if_neg (by omega)]
noncomputable def tr (p:Prop):Bool:=@decide p (Classical.propDecidable p)
theorem tr_eq {p:Prop} {b:Bool} (h:b=true↔p):tr p=b:=by
 unfold tr
 cases b
 ·simp at h;simp [h]
 ·simp at h;simp [h]
theorem tr_iff (p:Prop):tr p=true↔p:=by simp [tr]
theorem tr_pos {p:Prop} (h:p):tr p=true:=(tr_iff p).2 h
theorem tr_neg {p:Prop} (h:¬p):tr p=false:=by simp [tr,h]
end Go.Proofs.YtpkjjgdhmafonaaGreatDoor
/-
  Ground of the plain laws: the usual loops.
-/
namespace Go.Proofs.YtpkjjgdhmafonaaGreatDoor
set_option linter.unusedVariables false
set_option linter.unusedSimpArgs false
open Go Go.Sx
def Len {α:Type} (l:List α):Prop:=l.length≤4611686018427387904
theorem W_succ {k:Nat} {α:Type} {l:List α} (hl:Len l) (hk:k≤l.length):IntKind.i64.wrap ((k:Int)+1)=((k+1:Nat):Int):=by
 have:l.length≤4611686018427387904:=hl
 rw [W_in (by omega) (by omega)];simp
def findIx {α:Type} (p:α→Bool) (l:List α):Int:=match l.findIdx? p with
 | some i=>i
 | none=>-1
theorem findIx_nonneg {α:Type} {p:α→Bool} {l:List α}:0≤findIx p l↔l.any p=true:=by
 unfold findIx
 split
 ·rename_i i h
  obtain ⟨h1,h2,_⟩:=List.findIdx?_eq_some_iff_getElem.1 h
  refine ⟨fun _=>List.any_eq_true.2 ⟨_,List.getElem_mem h1,h2⟩,fun _=>by omega⟩
 ·rename_i h
  rw [List.findIdx?_eq_none_iff] at h
  refine ⟨fun h'=>by omega,fun h'=>?_⟩
  obtain ⟨x,hx,hp⟩:=List.any_eq_true.1 h'
  have:=h x hx
  rw [hp] at this;cases this
theorem index_loop {α ρ:Type} {l:List α} (hl:Len l) {p:α→Bool} {step:Int×Unit→Option ((Int×Unit) ⊕ ρ)} {out:Int→ρ}
  (hs:∀ (k:Nat) (x:α),l[k]?=some x→step ((k:Int),())=some (if p x=true then .inr (out k) else .inl (IntKind.i64.wrap ((k:Int)+1),())))
  (hx:step ((l.length:Int),())=some (.inr (out (-1)))):whileM step (0,())=some (out (findIx p l)):=by
 refine whileM_rangeE l.length (fun k v=>v.1=(k:Int)∧∀ x∈l.take k,p x=false) _ ⟨rfl,by simp⟩ ?_ ?_
 ·rintro k ⟨i,⟨⟩⟩ hk ⟨hi,hS⟩
  simp only at hi
  subst hi
  have hx:l[k]?=some l[k]:=List.getElem?_eq_getElem hk
  rw [hs k _ hx,W_succ hl (by omega)]
  split
  ·rename_i hp
   right
   have:l.findIdx? p=some k:=by
    rw [List.findIdx?_eq_some_iff_getElem]
    refine ⟨hk,hp,fun j hj=>?_⟩
    have:=hS l[j] (List.mem_iff_getElem?.2 ⟨j,by rw [List.getElem?_take,if_pos hj];exact List.getElem?_eq_getElem _⟩)
    simp [this]
   unfold findIx
   rw [this]
  ·rename_i hp
   refine .inl ⟨_,rfl,rfl,?_⟩
   rw [take_snoc hx]
   intro y hy
   rcases List.mem_append.1 hy with hy | hy
   ·exact hS y hy
   ·simp at hy;subst hy;simpa using hp
 ·rintro ⟨i,⟨⟩⟩ ⟨hi,hS⟩
  simp only at hi
  subst hi
  rw [List.take_length] at hS
  have:l.findIdx? p=none:=List.findIdx?_eq_none_iff.2 hS
  rw [hx]
  unfold findIx
  rw [this]
noncomputable def sel {ρ:Type} (P:Prop) (a b:ρ):ρ:=match tr P with
 | true=>a
 | false=>b
theorem sel_pos {ρ:Type} {P:Prop} (h:P) (a b:ρ):sel P a b=a:=by simp [sel,tr_pos h]
theorem sel_neg {ρ:Type} {P:Prop} (h:¬P) (a b:ρ):sel P a b=b:=by simp [sel,tr_neg h]
theorem sel_tr (P:Prop):sel P true false=tr P:=by
 by_cases h:P
 ·rw [sel_pos h,tr_pos h]
 ·rw [sel_neg h,tr_neg h]
def AllE {α:Type} (l:List α) (P:Nat→α→Prop):Prop:=∀ (k:Nat) (x:α),l[k]?=some x→P k x
theorem loopAll {α ρ:Type} {l:List α} (hl:Len l) (P:Nat→α→Prop) {step:Int×Unit→Option ((Int×Unit) ⊕ ρ)} {bad good:ρ}
  (hs:∀ (k:Nat) (x:α),l[k]?=some x→k<l.length→(∀ (j:Nat) (y:α),j<k→l[j]?=some y→P j y)→(P k x→step ((k:Int),())=some (.inl (IntKind.i64.wrap ((k:Int)+1),())))∧(¬P k x→step ((k:Int),())=some (.inr bad)))
  (hx:AllE l P→step ((l.length:Int),())=some (.inr good)):whileM step (0,())=some (sel (AllE l P) good bad):=by
 refine whileM_rangeE l.length (fun k v=>v.1=(k:Int)∧∀ (j:Nat) (y:α),j<k→l[j]?=some y→P j y) _ ⟨rfl,fun j y hj=>by omega⟩ ?_ ?_
 ·rintro k ⟨i,⟨⟩⟩ hk ⟨hi,hS⟩
  simp only at hi
  subst hi
  have hx:l[k]?=some l[k]:=List.getElem?_eq_getElem hk
  obtain ⟨h1,h2⟩:=hs k _ hx hk hS
  by_cases hP:P k l[k]
  ·rw [h1 hP,W_succ hl (by omega)]
   refine .inl ⟨_,rfl,rfl,fun j y hj hy=>?_⟩
   by_cases hjk:j<k
   ·exact hS j y hjk hy
   ·have:j=k:=by omega
    subst this
    rw [hx] at hy;injection hy with hy;subst hy
    exact hP
  ·right
   rw [h2 hP,sel_neg (fun h=>hP (h k _ hx))]
 ·rintro ⟨i,⟨⟩⟩ ⟨hi,hS⟩
  simp only at hi
  subst hi
  have hA:AllE l P:=fun k x hk=>hS k x (List.getElem?_eq_some_iff.1 hk).1 hk
  rw [hx hA,sel_pos hA]
theorem loopAllN {ρ:Type} (m n:Nat) (hmn:m≤n) (hn:n≤4611686018427387904) (P:Nat→Prop) {step:Int×Unit→Option ((Int×Unit) ⊕ ρ)} {bad good:ρ}
  (hs:∀ k:Nat,m≤k→k<n→(∀ j,m≤j→j<k→P j)→(P k→step ((k:Int),())=some (.inl (IntKind.i64.wrap ((k:Int)+1),())))∧(¬P k→step ((k:Int),())=some (.inr bad)))
  (hx:(∀ j,m≤j→j<n→P j)→step ((n:Int),())=some (.inr good)):whileM step ((m:Int),())=some (sel (∀ j,m≤j→j<n→P j) good bad):=by
 refine whileM_rangeE (n-m) (fun k v=>v.1=((m+k:Nat):Int)∧∀ j,m≤j→j<m+k→P j) _ ⟨by simp,fun j h1 h2=>by omega⟩ ?_ ?_
 ·rintro k ⟨i,⟨⟩⟩ hk ⟨hi,hS⟩
  simp only at hi
  subst hi
  obtain ⟨h1,h2⟩:=hs (m+k) (by omega) (by omega) hS
  by_cases hP:P (m+k)
  ·rw [h1 hP,W_in (by omega) (by omega)]
   refine .inl ⟨_,rfl,by simp only;omega,fun j ha hb=>?_⟩
   by_cases hj:j<m+k
   ·exact hS j ha hj
   ·have:j=m+k:=by omega
    subst this;exact hP
  ·right
   rw [h2 hP,sel_neg (fun h=>hP (h (m+k) (by omega) (by omega)))]
 ·rintro ⟨i,⟨⟩⟩ ⟨hi,hS⟩
  simp only at hi
  subst hi
  have e:m+(n-m)=n:=by omega
  rw [e] at hS ⊢
  rw [hx hS,sel_pos hS]
end Go.Proofs.YtpkjjgdhmafonaaGreatDoor
/-
  Ground of the plain laws: all lengths together; how many numbers there are; marks.
-/
namespace Go.Proofs.YtpkjjgdhmafonaaGreatDoor
set_option linter.unusedVariables false
set_option linter.unusedSimpArgs false
open Go Go.Sx
def tot:(t:Ty)→t.den→Nat
 | .str,s=>s.length
 | .sl t,l=>l.length+(l.map (tot t)).sum
 | .pair a b,d=>tot a d.1+tot b d.2
 | _,_=>0
def Szt (o:Option Int) (left:Int) (T:Nat):Prop:=∀ n,o=some n→0≤n→n+(T:Int)≤left
theorem Szt.mono {o:Option Int} {left:Int} {T T':Nat} (h:Szt o left T) (ht:T'≤T):Szt o left T':=fun n h1 h2=>by
 have:=h n h1 h2
 omega
theorem Szt.then {o:Option Int} {left:Int} {T1 T2:Nat} (h:Szt o left T1) (h0:0≤left) (hl:left≤1048576) {F:Int→Option Int} (h2:∀ n,0≤n→n≤1048576→Szt (F n) n T2) :
  Szt (o.bind fun n=>if n<0 then some (-1) else F n) left (T1+T2):=by
 intro m hm hm0
 cases ho:o with
 | none=>rw [ho] at hm;cases hm
 | some n =>
  rw [ho,Option.bind_some] at hm
  by_cases hn:n<0
  ·rw [if_pos hn] at hm;injection hm;omega
  ·rw [if_neg hn] at hm
   have a:=h n ho (by omega)
   have b:=h2 n (by omega) (by omega) m hm hm0
   omega
theorem Szt.last {o:Option Int} {left:Int} {T:Nat} (h:Szt o left T):Szt (o.bind fun n=>if n<0 then some (-1) else some n) left T:=by
 intro m hm hm0
 cases ho:o with
 | none=>rw [ho] at hm;cases hm
 | some n =>
  rw [ho,Option.bind_some] at hm
  by_cases hn:n<0
  ·rw [if_pos hn] at hm;injection hm;omega
  ·rw [if_neg hn] at hm
   injection hm with hm
   subst hm
   exact h n ho hm0
theorem Szt.len {left n:Int} {T:Nat} {B:Option Int} (h0:0≤left) (hl:left≤1048576) (hn:0≤n) (hb:n≤9223372036854775807)
  (h2:IntKind.i64.wrap (left-n)=left-n→0≤left-n→left-n≤1048576→Szt B (left-n) T) :
  Szt (if IntKind.i64.wrap (left-n)<0 then some (-1) else B) left (n.toNat+T):=by
 have hw:=W_in (n:=left-n) (by omega) (by omega)
 intro m hm hm0
 rw [hw] at hm
 by_cases hneg:left-n<0
 ·rw [if_pos hneg] at hm;injection hm;omega
 ·rw [if_neg hneg] at hm
  have:=h2 hw (by omega) (by omega) m hm hm0
  omega
theorem Szt.ret {left:Int}:Szt (some left) left 0:=fun n h _=>by injection h;omega
theorem Szt.loop {α:Type} {l:List α} {f:α→Int→Option Int} {P:α→Prop} {T:α→Nat} {step:Int×Int×Unit→Option ((Int×Int×Unit) ⊕ Int)}
  (hf:∀ x∈l,∀ m,0≤m→m≤1048576→Szd (f x m) m (P x)) (ht:∀ x∈l,∀ m,0≤m→m≤1048576→Szt (f x m) m (T x))
  (hstep:∀ (k:Nat) (m:Int),step (m,(k:Int),())=if (k:Int)<(l.length:Int) then (atI l (k:Int)).bind fun x=>(f x m).bind fun n=>if n<0 then some (.inr (-1)) else some (.inl (n,IntKind.i64.wrap ((k:Int)+1),())) else some (.inr m))
  {left:Int} (h0:0≤left) (h1:left≤1048576) (hl:(l.length:Int)≤1048576):Szt (whileM step (left,0,())) left (l.map T).sum:=by
 have:∃ r,whileM step (left,0,())=some r∧(0≤r→r+((l.map T).sum:Int)≤left):=by
  refine whileM_range l.length (fun k v=>v.2.1=(k:Int)∧0≤v.1∧v.1+(((l.take k).map T).sum:Int)≤left) _ ⟨rfl,h0,by simp⟩ ?_ ?_
  ·rintro k ⟨m,i,⟨⟩⟩ hk ⟨hi,hm0,hm1⟩
   simp only at hi hm0 hm1
   subst hi
   have hx:l[k]?=some l[k]:=List.getElem?_eq_getElem hk
   generalize l[k]=x at hx
   rw [hstep,if_pos (by omega),atI_nat,hx,Option.bind_some]
   obtain ⟨n,e,hn,hPx⟩:=hf x (List.mem_of_getElem? hx) m hm0 (by omega)
   rw [e,Option.bind_some]
   split
   ·exact .inr ⟨-1,rfl,fun h=>by omega⟩
   ·rename_i hneg
    have:=ht x (List.mem_of_getElem? hx) m hm0 (by omega) n e (by omega)
    rw [W_in (by omega) (by omega)]
    refine .inl ⟨_,rfl,by simp,by dsimp only;omega,?_⟩
    rw [take_snoc hx,List.map_append,List.sum_append]
    simp only [List.map_cons,List.map_nil,List.sum_cons,List.sum_nil]
    omega
  ·rintro ⟨m,i,⟨⟩⟩ ⟨hi,hm0,hm1⟩
   simp only at hi hm0 hm1
   subst hi
   rw [List.take_length] at hm1
   rw [hstep,if_neg (by omega)]
   exact ⟨m,rfl,fun _=>hm1⟩
 obtain ⟨r,h2,h3⟩:=this
 intro n hn hn0
 rw [h2] at hn
 injection hn with hn
 subst hn
 exact h3 hn0
theorem tot_fixed:∀ (t:Ty),Ty.fixed t=true→∀ d:t.den,tot t d=0
 | .int _,_,_=>rfl
 | .bool,_,_=>rfl
 | .unit,_,_=>rfl
 | .ptr _,_,_=>rfl
 | .fn _ _,_,_=>rfl
 | .nptr _,_,_=>rfl
 | .mp _ _,_,_=>rfl
 | .str,h,_=>by simp [Ty.fixed] at h
 | .sl _,h,_=>by simp [Ty.fixed] at h
 | .pair a b,h,d=>by
  simp only [Ty.fixed,Bool.and_eq_true] at h
  simp only [tot,tot_fixed a h.1 d.1,tot_fixed b h.2 d.2]
theorem sum_fixed {t:Ty} (h:Ty.fixed t=true) (l:List t.den):(l.map (tot t)).sum=0:=by
 induction l with
 | nil=>rfl
 | cons x r ih=>simp only [List.map_cons,List.sum_cons,tot_fixed t h x,ih]
theorem tot_pair (a b:Ty) (d:(Ty.pair a b).den):tot (.pair a b) d=tot a d.1+tot b d.2:=rfl
theorem tot_sl (t:Ty) (l:List t.den):tot (.sl t) l=l.length+(l.map (tot t)).sum:=rfl
theorem tot_str (s:List UInt8):tot .str s=s.length:=rfl
theorem tot_int (k:IntKind) (n:Int):tot (.int k) n=0:=rfl
theorem tot_bool (b:Bool):tot .bool b=0:=rfl
theorem tot_unit (b:Unit):tot .unit b=0:=rfl
theorem Szt.str (x:List UInt8) (m:Int) (m0:0≤m) (m1:m≤1048576) (hb:(x.length:Int)≤9223372036854775807) :
  Szt (if IntKind.i64.wrap (m-(x.length:Int))<0 then some (-1) else some (IntKind.i64.wrap (m-(x.length:Int)))) m (tot .str x):=by
 have h:Szt (if IntKind.i64.wrap (m-(x.length:Int))<0 then some (-1) else some (IntKind.i64.wrap (m-(x.length:Int)))) m ((x.length:Int).toNat+0) :=
  Szt.len m0 m1 (by omega) hb (fun hw _ _=>by rw [hw];exact Szt.ret)
 refine h.mono ?_
 rw [tot_str]
 omega
theorem Szd.str (x:List UInt8) (m:Int) (m0:0≤m) (m1:m≤1048576) (hb:(x.length:Int)≤9223372036854775807) :
  Szd (if IntKind.i64.wrap (m-(x.length:Int))<0 then some (-1) else some (IntKind.i64.wrap (m-(x.length:Int)))) m (sm .str x) :=
 Szd.len m0 m1 (by omega) hb (fun hw _ _ hn=>by rw [hw];exact Szd.ret hn)
def cnt:(t:Ty)→t.den→Nat
 | .int _,_=>1
 | .bool,_=>1
 | .str,_=>1
 | .sl t,l=>(l.map (cnt t)).sum
 | .pair a b,d=>cnt a d.1+cnt b d.2
 | _,_=>0
theorem cnt_pair (a b:Ty) (d:(Ty.pair a b).den):cnt (.pair a b) d=cnt a d.1+cnt b d.2:=rfl
theorem cnt_str (s:List UInt8):cnt .str s=1:=rfl
theorem cnt_int (k:IntKind) (n:Int):cnt (.int k) n=1:=rfl
theorem cnt_bool (b:Bool):cnt .bool b=1:=rfl
theorem cnt_unit (b:Unit):cnt .unit b=0:=rfl
def wid:Ty→Nat
 | .int _=>1
 | .bool=>1
 | .str=>1
 | .pair a b=>wid a+wid b
 | _=>0
def widest:Ty→Nat
 | .sl t=>max (wid t) (widest t)
 | .pair a b=>max (widest a) (widest b)
 | _=>0
theorem cnt_le:∀ (t:Ty) (d:t.den),cnt t d≤wid t+widest t*tot t d
 | .int _,_=>by simp [cnt,wid]
 | .bool,_=>by simp [cnt,wid]
 | .str,_=>by simp [cnt,wid]
 | .unit,_=>by simp [cnt]
 | .ptr _,_=>by simp [cnt]
 | .fn _ _,_=>by simp [cnt]
 | .nptr _,_=>by simp [cnt]
 | .mp _ _,_=>by simp [cnt]
 | .pair a b,d=>by
  have h1:=cnt_le a d.1
  have h2:=cnt_le b d.2
  have h3:widest a*tot a d.1≤max (widest a) (widest b)*tot a d.1:=Nat.mul_le_mul_right _ (Nat.le_max_left _ _)
  have h4:widest b*tot b d.2≤max (widest a) (widest b)*tot b d.2:=Nat.mul_le_mul_right _ (Nat.le_max_right _ _)
  simp only [cnt,wid,widest,tot,Nat.mul_add]
  omega
 | .sl t,l=>by
  have:(l.map (cnt t)).sum≤wid t*l.length+widest t*(l.map (tot t)).sum:=by
   induction l with
   | nil=>simp
   | cons x r ih =>
    have:=cnt_le t x
    simp only [List.map_cons,List.sum_cons,List.length_cons,Nat.mul_add]
    omega
  have h1:wid t*l.length≤max (wid t) (widest t)*l.length:=Nat.mul_le_mul_right _ (Nat.le_max_left _ _)
  have h2:widest t*(l.map (tot t)).sum≤max (wid t) (widest t)*(l.map (tot t)).sum:=Nat.mul_le_mul_right _ (Nat.le_max_right _ _)
  simp only [cnt,wid,widest,tot,Nat.mul_add]
  omega
def Mkd {α:Type} (o:Option (Int×α)) (k:Int) (c:Nat):Prop:=∃ a',o=some (k+(c:Int),a')
theorem atI_set {α:Type} {L:List α} {j:Nat} {y:α} (h:j<L.length):atI (List.set L j y) (j:Int)=some y:=by
 rw [atI_nat,List.getElem?_set_self h]
theorem Mkd.loop {α:Type} {l:List α} {c:α→Nat} {step:Int×Int×List α×Unit→Option ((Int×Int×List α×Unit) ⊕ (Int×List α))} {k:Int}
  (hstep:∀ (j:Nat) (m:Int) (x:α) (L:List α),j<L.length→(j:Int)<(L.length:Int)→L.length=l.length→L[j]?=some x→x∈l→0≤m→m+(c x:Int)≤4611686018427387904→(j:Int)≤1048576→∃ y,step (m,(j:Int),L,())=some (.inl (m+(c x:Int),((j+1:Nat):Int),List.set L j y,())))
  (hend:∀ (m:Int) (L:List α),L.length=l.length→step (m,(L.length:Int),L,())=some (.inr (m,L)))
  (hl:l.length≤1048576) (h0:0≤k) (h1:k+((l.map c).sum:Int)≤4611686018427387904):Mkd (whileM step (k,0,l,())) k (l.map c).sum:=by
 have:∃ r,whileM step (k,0,l,())=some r∧r.1=k+((l.map c).sum:Int):=by
  refine whileM_range l.length (fun j v=>v.1=k+(((l.take j).map c).sum:Int)∧v.2.1=(j:Int)∧v.2.2.1.length=l.length∧∀ i,j≤i→v.2.2.1[i]?=l[i]?) _ ⟨by simp,rfl,rfl,fun i _=>rfl⟩ ?_ ?_
  ·rintro j ⟨m,i,L,⟨⟩⟩ hj ⟨hm,hi,hL,hrest⟩
   simp only at hm hi hL hrest
   subst hi
   have hx:l[j]?=some l[j]:=List.getElem?_eq_getElem hj
   have hsum:(l.map c).sum=((l.take j).map c).sum+(c l[j]+((l.drop (j+1)).map c).sum):=by
    have e:l=l.take j++(l[j]::l.drop (j+1)):=by rw [←List.drop_eq_getElem_cons hj,List.take_append_drop]
    have e2:=congrArg (fun l=>(l.map c).sum) e
    simp only [List.map_append,List.sum_append,List.map_cons,List.sum_cons] at e2
    exact e2
   obtain ⟨y,hy⟩:=hstep j m l[j] L (by omega) (by omega) hL (by rw [hrest j (Nat.le_refl _)];exact hx) (List.mem_of_getElem? hx) (by omega) (by omega) (by omega)
   left
   refine ⟨_,hy,?_,rfl,by simp [hL],fun i hi=>?_⟩
   ·rw [take_snoc hx,List.map_append,List.sum_append]
    simp only [List.map_cons,List.map_nil,List.sum_cons,List.sum_nil]
    omega
   ·simp only
    rw [List.getElem?_set_ne (by omega)]
    exact hrest i (by omega)
  ·rintro ⟨m,i,L,⟨⟩⟩ ⟨hm,hi,hL,_⟩
   simp only at hm hi hL
   subst hi
   rw [List.take_length] at hm
   rw [←hL,hend m L hL]
   exact ⟨_,rfl,hm⟩
 obtain ⟨r,h2,h3⟩:=this
 exact ⟨r.2,by rw [h2,←h3]⟩
end Go.Proofs.YtpkjjgdhmafonaaGreatDoor
/-
  Ground of the plain laws: what marking makes of a value, and that the marks are held.
-/
namespace Go.Proofs.YtpkjjgdhmafonaaGreatDoor
set_option linter.unusedVariables false
set_option linter.unusedSimpArgs false
open Go Go.Sx
def mkL {α:Type} (f:α→Int→α) (c:α→Nat):List α→Int→List α
 | [],_=>[]
 | x::r,k=>f x k::mkL f c r (k+(c x:Int))
def mkA (mt:Int→List UInt8):(t:Ty)→t.den→Int→t.den
 | .int _,_,k=>k
 | .str,_,k=>mt k
 | .bool,_,k=>decide (Int.tmod k 3=0)
 | .pair a b,d,k=>(mkA mt a d.1 k,mkA mt b d.2 (k+(cnt a d.1:Int)))
 | .sl t,l,k=>mkL (mkA mt t) (cnt t) l k
 | .unit,d,_=>d
 | .ptr _,d,_=>d
 | .fn _ _,d,_=>d
 | .nptr _,d,_=>d
 | .mp _ _,d,_=>d
def cntT:(t:Ty)→t.den→Nat
 | .pair a b,d=>cntT a d.1+cntT b d.2
 | .sl t,l=>cnt (.sl t) l
 | _,_=>0
def mkT (mt:Int→List UInt8):(t:Ty)→t.den→Int→t.den
 | .pair a b,d,k=>(mkT mt a d.1 k,mkT mt b d.2 (k+(cntT a d.1:Int)))
 | .sl t,l,k=>mkL (mkA mt t) (cnt t) l k
 | .int _,d,_=>d
 | .str,d,_=>d
 | .bool,d,_=>d
 | .unit,d,_=>d
 | .ptr _,d,_=>d
 | .fn _ _,d,_=>d
 | .nptr _,d,_=>d
 | .mp _ _,d,_=>d
theorem mkL_length {α:Type} (f:α→Int→α) (c:α→Nat):∀ (l:List α) (k:Int),(mkL f c l k).length=l.length
 | [],_=>rfl
 | x::r,k=>by simp only [mkL,List.length_cons,mkL_length f c r]
theorem mkL_get {α:Type} (f:α→Int→α) (c:α→Nat):∀ (l:List α) (k:Int) (j:Nat),(mkL f c l k)[j]?=(l[j]?).map (fun x=>f x (k+(((l.take j).map c).sum:Int)))
 | [],k,j=>by simp [mkL]
 | x::r,k,0=>by simp [mkL]
 | x::r,k,j+1=>by
  simp only [mkL,List.getElem?_cons_succ,mkL_get f c r,List.take_succ_cons,List.map_cons,List.sum_cons]
  congr 1
  funext y
  congr 1
  omega
theorem mkL_append {α:Type} (f:α→Int→α) (c:α→Nat):∀ (l r:List α) (k:Int),mkL f c (l++r) k=mkL f c l k++mkL f c r (k+((l.map c).sum:Int))
 | [],r,k=>by simp [mkL]
 | x::l,r,k=>by
  simp only [List.cons_append,mkL,mkL_append f c l r,List.map_cons,List.sum_cons]
  congr 3
  omega
theorem mkL_snoc {α:Type} {f:α→Int→α} {c:α→Nat} {l:List α} {k:Int} {j:Nat} {x:α} (hx:l[j]?=some x):mkL f c (l.take (j+1)) k=mkL f c (l.take j) k++[f x (k+(((l.take j).map c).sum:Int))]:=by
 rw [take_snoc hx,mkL_append];rfl
theorem mkLoop {α:Type} {l:List α} {f:α→Int→α} {c:α→Nat} {step:Int×Int×List α×Unit→Option ((Int×Int×List α×Unit) ⊕ (Int×List α))} {k:Int}
  (hstep:∀ (j:Nat) (m:Int) (x:α) (L:List α),j<L.length→(j:Int)<(L.length:Int)→L[j]?=some x→x∈l→0≤m→m+(c x:Int)≤4611686018427387904→(j:Int)≤1048576→step (m,(j:Int),L,())=some (.inl (m+(c x:Int),((j+1:Nat):Int),List.set L j (f x m),())))
  (hend:∀ (m:Int) (L:List α),step (m,(L.length:Int),L,())=some (.inr (m,L)))
  (hl:l.length≤1048576) (h0:0≤k) (h1:k+((l.map c).sum:Int)≤4611686018427387904):whileM step (k,0,l,())=some (k+((l.map c).sum:Int),mkL f c l k):=by
 refine whileM_rangeE l.length (fun j v=>v.1=k+(((l.take j).map c).sum:Int)∧v.2.1=(j:Int)∧v.2.2.1=mkL f c (l.take j) k++l.drop j) _ ⟨by simp,rfl,by simp [mkL]⟩ ?_ ?_
 ·rintro j ⟨m,i,L,⟨⟩⟩ hj ⟨hm,hi,hL⟩
  simp only at hm hi hL
  subst hi
  have hx:l[j]?=some l[j]:=List.getElem?_eq_getElem hj
  generalize hxv:l[j]=x at hx
  have hlen:(mkL f c (l.take j) k).length=j:=by rw [mkL_length,List.length_take];omega
  have hd:l.drop j=x::l.drop (j+1):=by rw [List.drop_eq_getElem_cons hj,hxv]
  have hLl:L.length=l.length:=by rw [hL,List.length_append,hlen,List.length_drop];omega
  have hLx:L[j]?=some x:=by rw [hL,List.getElem?_append_right (by omega),hlen,Nat.sub_self,hd];rfl
  have hsum:(l.map c).sum=((l.take j).map c).sum+(c x+((l.drop (j+1)).map c).sum):=by
   have e:l=l.take j++(x::l.drop (j+1)):=by rw [←hd,List.take_append_drop]
   have e2:=congrArg (fun l=>(l.map c).sum) e
   simp only [List.map_append,List.sum_append,List.map_cons,List.sum_cons] at e2
   exact e2
  left
  refine ⟨_,hstep j m x L (by omega) (by omega) hLx (List.mem_of_getElem? hx) (by omega) (by omega) (by omega),?_,rfl,?_⟩
  ·rw [take_snoc hx,List.map_append,List.sum_append]
   simp only [List.map_cons,List.map_nil,List.sum_cons,List.sum_nil]
   omega
  ·simp only
   rw [hL,mkL_snoc hx,List.set_append,if_neg (by omega),hlen,Nat.sub_self,hd,hm]
   simp
 ·rintro ⟨m,i,L,⟨⟩⟩ ⟨hm,hi,hL⟩
  simp only at hm hi hL
  subst hi
  rw [List.take_length,List.drop_length,List.append_nil] at hL
  rw [List.take_length] at hm
  subst hL
  rw [←mkL_length f c l k,hend,hm]
theorem heldLoop {α:Type} {l:List α} {f:α→Int→α} {c:α→Nat} {step:Int×Int×Unit→Option ((Int×Int×Unit) ⊕ Int)} {k:Int}
  (hstep:∀ (j:Nat) (m:Int) (x:α),(j:Int)<((mkL f c l k).length:Int)→(mkL f c l k)[j]?=some (f x m)→x∈l→0≤m→m+(c x:Int)≤4611686018427387904→(j:Int)≤1048576→step (m,(j:Int),())=some (.inl (m+(c x:Int),((j+1:Nat):Int),())))
  (hend:∀ (m:Int),step (m,((mkL f c l k).length:Int),())=some (.inr m))
  (hl:l.length≤1048576) (h0:0≤k) (h1:k+((l.map c).sum:Int)≤4611686018427387904):whileM step (k,0,())=some (k+((l.map c).sum:Int)):=by
 refine whileM_rangeE l.length (fun j v=>v.1=k+(((l.take j).map c).sum:Int)∧v.2.1=(j:Int)) _ ⟨by simp,rfl⟩ ?_ ?_
 ·rintro j ⟨m,i,⟨⟩⟩ hj ⟨hm,hi⟩
  simp only at hm hi
  subst hi
  have hx:l[j]?=some l[j]:=List.getElem?_eq_getElem hj
  generalize hxv:l[j]=x at hx
  have hsum:(l.map c).sum=((l.take j).map c).sum+(c x+((l.drop (j+1)).map c).sum):=by
   have hd:l.drop j=x::l.drop (j+1):=by rw [List.drop_eq_getElem_cons hj,hxv]
   have e:l=l.take j++(x::l.drop (j+1)):=by rw [←hd,List.take_append_drop]
   have e2:=congrArg (fun l=>(l.map c).sum) e
   simp only [List.map_append,List.sum_append,List.map_cons,List.sum_cons] at e2
   exact e2
  left
  refine ⟨_,hstep j m x (by rw [mkL_length];omega) (by rw [mkL_get,hx,hm];rfl) (List.mem_of_getElem? hx) (by omega) (by omega) (by omega),?_,rfl⟩
  rw [take_snoc hx,List.map_append,List.sum_append]
  simp only [List.map_cons,List.map_nil,List.sum_cons,List.sum_nil]
  omega
 ·rintro ⟨m,i,⟨⟩⟩ ⟨hm,hi⟩
  simp only at hm hi
  subst hi
  rw [List.take_length] at hm
  rw [←mkL_length f c l k,hend,hm]
end Go.Proofs.YtpkjjgdhmafonaaGreatDoor
/-
  Plain laws: bounds, names.
-/
namespace Go.Proofs.YtpkjjgdhmafonaaGreatDoor
set_option linter.unusedVariables false
set_option linter.unusedSimpArgs false
open Go Go.Sx
def within (n a b:Int):Bool:=decide (a≤n)&&decide (n≤b)
theorem impl_within_eq (n a b:Int):impl_within n a b=some (within n a b):=by
 unfold impl_within within;split<;>simp [*]
theorem spec_l01In_eq (n a b:Int):spec_l01In n a b=some (within n a b):=by
 unfold spec_l01In within;split<;>simp [*]
theorem within_iff (n a b:Int):within n a b=true↔a≤n∧n≤b:=by simp [within]
def isLow (b:UInt8):Bool:=decide (97≤b.toNat)&&decide (b.toNat≤122)
def isDig (b:UInt8):Bool:=decide (48≤b.toNat)&&decide (b.toNat≤57)
def nameOk (s:List UInt8):Bool:=decide (1≤s.length)&&decide (s.length≤8)&&s.all (fun b=>isLow b||isDig b)&&(match s with
 | b::_=>isLow b
 | []=>false)
def Served (s:List UInt8) (i:Nat):Prop:=∀ (j:Nat) (b:UInt8),j<i→s[j]?=some b→(isLow b||isDig b)=true∧(j=0→isLow b=true)
theorem served_succ {s:List UInt8} {i:Nat} {x:UInt8} (h:Served s i) (hx:s[i]?=some x) (h1:(isLow x||isDig x)=true) (h2:i=0→isLow x=true):Served s (i+1):=by
 intro j b hj hb
 by_cases e:j<i
 ·exact h j b e hb
 ·have:j=i:=by omega
  subst this
  rw [hx] at hb;injection hb with hb;subst hb
  exact ⟨h1,h2⟩
theorem nameOk_served {s:List UInt8} (h:Served s s.length):nameOk s=(decide (1≤s.length)&&decide (s.length≤8)):=by
 unfold nameOk
 have h1:s.all (fun b=>isLow b||isDig b)=true:=by
  rw [List.all_eq_true]
  intro b hb
  obtain ⟨j,hj⟩:=List.mem_iff_getElem?.1 hb
  exact (h j b (List.getElem?_eq_some_iff.1 hj).1 hj).1
 rw [h1]
 cases s with
 | nil=>rfl
 | cons b r =>
  have:=(h 0 b (by simp) rfl).2 rfl
  simp [this]
theorem nameOk_bad {s:List UInt8} {j:Nat} {b:UInt8} (hb:s[j]?=some b) (h:(isLow b||isDig b)=false∨j=0∧isLow b=false):nameOk s=false:=by
 unfold nameOk
 rcases h with h | ⟨rfl,h⟩
 ·have:s.all (fun b=>isLow b||isDig b)=false:=by
   rw [List.all_eq_false]
   exact ⟨b,List.mem_of_getElem? hb,by simp [h]⟩
  simp [this]
 ·cases s with
  | nil=>simp at hb
  | cons c r=>simp at hb;subst hb;simp [h]
theorem spec_l03Name_eq (s:List UInt8) (hl:s.length≤4611686018427387904):spec_l03Name s=some (nameOk s):=by
 unfold spec_l03Name
 refine whileM_rangeE s.length (fun k v=>v.1=(k:Int)∧Served s k) _ ⟨rfl,fun j b hj=>by omega⟩ ?_ ?_
 ·rintro k ⟨i,⟨⟩⟩ hk ⟨rfl,hS⟩
  have hx:s[k]?=some s[k]:=List.getElem?_eq_getElem hk
  generalize s[k]=x at hx
  simp only [spec_l03Name_loop0,atI_nat,hx,Option.bind_some,show (k:Int)<(s.length:Int) from by omega,if_true,W_in (show (-9223372036854775808:Int)≤(k:Int)+1 by omega) (by omega)]
  have ok:(isLow x||isDig x)=true→(k=0→isLow x=true)→(((k:Int)+1,()):Int×Unit).1=((k+1:Nat):Int)∧Served s (k+1):=fun h1 h2=>⟨by simp,served_succ hS hx h1 h2⟩
  have bad:((isLow x||isDig x)=false∨k=0∧isLow x=false)→(some (Sum.inr false):Option (Int×Unit ⊕ Bool))=some (Sum.inr (nameOk s)):=fun h=>by rw [nameOk_bad hx h]
  simp only [isLow,isDig] at ok bad
  repeat' split
  all_goals first
   | (left;refine ⟨_,rfl,ok ?_ ?_⟩<;>simp<;>omega)
   | (right;refine bad ?_;first | (left;simp;omega) | (right;simp;omega))
 ·rintro ⟨i,⟨⟩⟩ ⟨rfl,hS⟩
  simp only [spec_l03Name_loop0,Int.lt_irrefl,if_false]
  rw [nameOk_served hS]
  split
  ·rename_i h
   have h1:1≤s.length:=by omega
   have h2:decide ((s.length:Int)≤8)=decide (s.length≤8):=by rw [decide_eq_decide];omega
   simp [h1,h2]
  ·have h1:¬1≤s.length:=by omega
   simp [h1]
theorem dropWhile_nil {p:UInt8→Bool}:∀ (m:List UInt8),(∀ x∈m.dropWhile p,p x=true)→∀ x∈m,p x=true
 | [],_=>by simp
 | a::m,h=>by
  by_cases ha:p a=true
  ·rw [List.dropWhile_cons_of_pos ha] at h
   intro x hx
   rcases List.mem_cons.1 hx with rfl | hx
   ·exact ha
   ·exact dropWhile_nil m h x hx
  ·rw [List.dropWhile_cons_of_neg ha] at h
   exact absurd (h a (by simp)) ha
theorem dropWhile_all {p:UInt8→Bool}:∀ (m:List UInt8),m.dropWhile p=[]↔∀ x∈m,p x=true
 | []=>by simp
 | a::m=>by
  by_cases ha:p a=true
  ·rw [List.dropWhile_cons_of_pos ha,dropWhile_all m];simp [ha]
  ·rw [List.dropWhile_cons_of_neg ha];simp [ha]
theorem trimS_nil (s cs:List UInt8):Lib.trimS s cs=[]↔∀ b∈s,cs.contains b=true:=by
 unfold Lib.trimS Lib.trimLeftS Lib.trimRightS
 rw [dropWhile_all]
 constructor
 ·intro h b hb
  exact dropWhile_nil s.reverse (fun x hx=>h x (List.mem_reverse.2 hx)) b (List.mem_reverse.2 hb)
 ·intro h b hb
  exact h b (List.mem_reverse.1 ((List.dropWhile_sublist _).subset (List.mem_reverse.1 hb)))
def letters:List UInt8:=[97,98,99,100,101,102,103,104,105,106,107,108,109,110,111,112,113,114,115,116,117,118,119,120,121,122]
def lettersDigits:List UInt8:=letters++[48,49,50,51,52,53,54,55,56,57]
theorem all_u8 {p:UInt8→Bool} (h:(List.range 256).all (fun n=>p (UInt8.ofNat n))=true) (b:UInt8):p b=true:=by
 rw [List.all_eq_true] at h
 have:=h b.toNat (List.mem_range.2 b.toNat_lt)
 simpa using this
theorem contains_lettersDigits (b:UInt8):lettersDigits.contains b=(isLow b||isDig b):=by
 have:=all_u8 (p:=fun b=>lettersDigits.contains b == (isLow b||isDig b)) (by decide +kernel) b
 simpa using this
theorem trim_name (s:List UInt8):Lib.trimS s lettersDigits=[]↔s.all (fun b=>isLow b||isDig b)=true:=by
 rw [trimS_nil,List.all_eq_true]
 simp only [contains_lettersDigits]
theorem index_letters (b:UInt8):decide (0≤(Lib.indexByte letters b:Int))=isLow b:=by
 have:=all_u8 (p:=fun b=>decide (0≤(Lib.indexByte letters b:Int)) == isLow b) (by decide +kernel) b
 simpa using this
theorem impl_isName_eq (s:List UInt8):impl_isName s=some (nameOk s):=by
 unfold impl_isName
 rw [impl_within_eq,Option.bind_some]
 split
 ·rename_i h
  rw [within_iff] at h
  rw [guardO_pos (by omega)]
  split
  ·rename_i ht
   have ht':=(trim_name s).1 ht
   cases s with
   | nil=>simp at h
   | cons b r =>
    have e:atI (b::r) (0:Int)=some b:=rfl
    rw [e,Option.bind_some]
    have e1:((b.toNat:Int)).toNat.toUInt8=b:=by simp
    rw [e1]
    have h1:1≤(b::r).length:=by simp
    have h2:(b::r).length≤8:=by omega
    have:=index_letters b
    unfold letters at this
    rw [this]
    simp only [nameOk,ht',decide_eq_true h1,decide_eq_true h2,Bool.true_and]
  ·rename_i ht
   have ht':¬s.all (fun b=>isLow b||isDig b)=true:=fun e=>ht ((trim_name s).2 e)
   simp only [nameOk,Bool.eq_false_iff.2 ht',Bool.and_false,Bool.false_and]
 ·rename_i h
  rw [within_iff] at h
  have:¬(1≤s.length∧s.length≤8):=by omega
  rw [eq_comm]
  congr 1
  rw [Bool.eq_false_iff]
  intro hh
  simp only [nameOk,Bool.and_eq_true,decide_eq_true_eq] at hh
  omega
theorem slices_IndexS_eq (l:List (List UInt8)) (s:List UInt8) (hl:l.length≤4611686018427387904):∃ r,slices_Index_Sstring_string l s=some r∧(0≤r↔s∈l):=by
 unfold slices_Index_Sstring_string
 refine whileM_range l.length (fun k v=>v.1=(k:Int)∧s ∉ l.take k) _ ⟨rfl,by simp⟩ ?_ ?_
 ·rintro k ⟨i,⟨⟩⟩ hk ⟨rfl,hS⟩
  have hx:l[k]?=some l[k]:=List.getElem?_eq_getElem hk
  generalize l[k]=x at hx
  simp only [slices_Index_Sstring_string_loop0,atI_nat,hx,Option.bind_some,show (k:Int)<(l.length:Int) from by omega,if_true,W_in (show (-9223372036854775808:Int)≤(k:Int)+1 by omega) (by omega)]
  split
  ·rename_i e;subst e
   exact .inr ⟨_,rfl,fun _=>List.mem_of_getElem? hx,fun _=>by simp⟩
  ·rename_i e
   exact .inl ⟨_,rfl,by simp,by rw [take_snoc hx];simp [hS,e]⟩
 ·rintro ⟨i,⟨⟩⟩ ⟨rfl,hS⟩
  simp only [slices_Index_Sstring_string_loop0,Int.lt_irrefl,if_false]
  refine ⟨_,rfl,fun h=>by omega,fun h=>absurd h (by simpa using hS)⟩
theorem slices_ContainsS_eq (l:List (List UInt8)) (s:List UInt8) (hl:l.length≤4611686018427387904):slices_Contains_Sstring_string l s=some (decide (s∈l)):=by
 obtain ⟨r,h1,h2⟩:=slices_IndexS_eq l s hl
 unfold slices_Contains_Sstring_string
 rw [h1,Option.bind_some]
 simp only [h2]
def NamesOk (l:List (List UInt8)) (k:Nat):Prop:=∀ (j:Nat) (s:List UInt8),j<k→l[j]?=some s→nameOk s=true∧s ∉ l.take j
theorem impl_areNames_eq (l:List (List UInt8)) (hl:l.length≤4611686018427387904):impl_areNames l=some (tr (NamesOk l l.length)):=by
 unfold impl_areNames
 refine whileM_rangeE l.length (fun k v=>v.1=(k:Int)∧NamesOk l k) _ ⟨rfl,fun j s hj=>by omega⟩ ?_ ?_
 ·rintro k ⟨i,⟨⟩⟩ hk ⟨rfl,hS⟩
  have hx:l[k]?=some l[k]:=List.getElem?_eq_getElem hk
  generalize l[k]=x at hx
  simp only [impl_areNames_loop0,atI_nat,hx,Option.bind_some,show (k:Int)<(l.length:Int) from by omega,if_true,W_in (show (-9223372036854775808:Int)≤(k:Int)+1 by omega) (by omega),impl_isName_eq]
  split
  ·rename_i hn
   rw [guardO_pos (by omega),guardO_pos (by omega)]
   simp only [Int.toNat_natCast,Int.toNat_zero,List.drop_zero,Nat.sub_zero]
   rw [slices_ContainsS_eq _ _ (by simp only [List.length_take];omega),Option.bind_some]
   split
   ·rename_i hm
    right
    rw [tr_neg]
    intro hh
    exact (hh k x hk hx).2 (by simpa using hm)
   ·rename_i hm
    refine .inl ⟨_,rfl,by simp,fun j s hj hs=>?_⟩
    by_cases e:j<k
    ·exact hS j s e hs
    ·have:j=k:=by omega
     subst this
     rw [hx] at hs;injection hs with hs;subst hs
     exact ⟨hn,by simpa using hm⟩
  ·rename_i hn
   right
   rw [tr_neg]
   intro hh
   exact hn (hh k x hk hx).1
 ·rintro ⟨i,⟨⟩⟩ ⟨rfl,hS⟩
  simp only [impl_areNames_loop0,Int.lt_irrefl,if_false]
  rw [tr_pos hS]
end Go.Proofs.YtpkjjgdhmafonaaGreatDoor
/-
  Plain laws: numbers within bounds.
-/
namespace Go.Proofs.YtpkjjgdhmafonaaGreatDoor
set_option linter.unusedVariables false
set_option linter.unusedSimpArgs false
open Go Go.Sx
def allIn (l:List Int) (lo hi:Int):Bool:=l.all (fun n=>within n lo hi)
theorem impl_areWithin_eq (l:List Int) (lo hi:Int) (hl:l.length≤4611686018427387904):impl_areWithin l lo hi=some (allIn l lo hi):=by
 have h1:∃ r,slices_IndexFunc_Sint64_int64_at_impl_areWithin_c1 l (lo,hi,())=some r∧(0≤r↔allIn l lo hi=false):=by
  unfold slices_IndexFunc_Sint64_int64_at_impl_areWithin_c1
  refine whileM_range l.length (fun k v=>v.1=(k:Int)∧allIn (l.take k) lo hi=true) _ ⟨rfl,rfl⟩ ?_ ?_
  ·rintro k ⟨i,⟨⟩⟩ hk ⟨rfl,hS⟩
   have hx:l[k]?=some l[k]:=List.getElem?_eq_getElem hk
   generalize l[k]=x at hx
   simp only [slices_IndexFunc_Sint64_int64_at_impl_areWithin_c1_loop0,impl_areWithin_c1,impl_within_eq,atI_nat,hx,Option.bind_some,show (k:Int)<(l.length:Int) from by omega,if_true,W_in (show (-9223372036854775808:Int)≤(k:Int)+1 by omega) (by omega)]
   cases hw:within x lo hi
   ·refine .inr ⟨_,rfl,fun _=>?_,fun _=>by simp⟩
    rw [allIn,List.all_eq_false]
    exact ⟨x,List.mem_of_getElem? hx,by simp [hw]⟩
   ·refine .inl ⟨_,rfl,by simp,?_⟩
    rw [take_snoc hx,allIn,List.all_append]
    simp only [allIn] at hS
    simp [hS,hw]
  ·rintro ⟨i,⟨⟩⟩ ⟨rfl,hS⟩
   rw [List.take_length] at hS
   simp only [slices_IndexFunc_Sint64_int64_at_impl_areWithin_c1_loop0,Int.lt_irrefl,if_false]
   exact ⟨_,rfl,fun h=>by omega,fun h=>by rw [hS] at h;cases h⟩
 obtain ⟨r,h1,h2⟩:=h1
 unfold impl_areWithin slices_ContainsFunc_Sint64_int64_at_impl_areWithin_c1
 rw [h1]
 simp only [Option.bind_some,h2]
 cases allIn l lo hi<;>simp
end Go.Proofs.YtpkjjgdhmafonaaGreatDoor
/-
  Plain laws: the instances of functions of package slices. Printed by program (libgen.py).
-/
namespace Go.Proofs.YtpkjjgdhmafonaaGreatDoor
open Go Go.Sx
set_option linter.unusedVariables false
set_option linter.unusedSimpArgs false
theorem slices_Index_Sstring_string_eq {l:List (List UInt8)} {v:List UInt8} (hl:Len l):slices_Index_Sstring_string l v=some (findIx (fun x=>decide (v=x)) l):=by
 unfold slices_Index_Sstring_string
 refine index_loop (out:=fun i=>i) hl (fun k x hx=>?_) ?_
 ·have hk:=(List.getElem?_eq_some_iff.1 hx).1
  simp only [slices_Index_Sstring_string_loop0,atI_nat,hx,Option.bind_some,show (k:Int)<(l.length:Int) from by omega,if_true,decide_eq_true_eq]
  split<;>rfl
 ·simp only [slices_Index_Sstring_string_loop0,Int.lt_irrefl,if_false]
theorem slices_IndexFunc_Simpl_Table_impl_Table_at_impl_areTables_c1_eq {l:List TTable} {f:Bool×Unit} (hl:Len l) (p:TTable→Bool) (hp:∀ x∈l,impl_areTables_c1 x f.fst=some (p x)):slices_IndexFunc_Simpl_Table_impl_Table_at_impl_areTables_c1 l f=some (findIx p l):=by
 unfold slices_IndexFunc_Simpl_Table_impl_Table_at_impl_areTables_c1
 refine index_loop (out:=fun i=>i) hl (p:=p) (fun k x hx=>?_) ?_
 ·have hk:=(List.getElem?_eq_some_iff.1 hx).1
  simp only [slices_IndexFunc_Simpl_Table_impl_Table_at_impl_areTables_c1_loop0,atI_nat,hx,Option.bind_some,show (k:Int)<(l.length:Int) from by omega,if_true,hp x (List.mem_of_getElem? hx)]
  split<;>rfl
 ·simp only [slices_IndexFunc_Simpl_Table_impl_Table_at_impl_areTables_c1_loop0,Int.lt_irrefl,if_false]
theorem slices_ContainsFunc_Simpl_Table_impl_Table_at_impl_areTables_c1_eq {l:List TTable} {f:Bool×Unit} (hl:Len l) (p:TTable→Bool) (hp:∀ x∈l,impl_areTables_c1 x f.fst=some (p x)):slices_ContainsFunc_Simpl_Table_impl_Table_at_impl_areTables_c1 l f=some (l.any p):=by
 unfold slices_ContainsFunc_Simpl_Table_impl_Table_at_impl_areTables_c1
 rw [slices_IndexFunc_Simpl_Table_impl_Table_at_impl_areTables_c1_eq hl p hp,Option.bind_some]
 congr 1
 rw [Bool.eq_iff_iff,decide_eq_true_eq,findIx_nonneg]
theorem slices_IndexFunc_Simpl_Pin_impl_Pin_at_impl_Cell_clock_c1_eq {l:List TPin} {f:Unit} (hl:Len l) (p:TPin→Bool) (hp:∀ x∈l,impl_Cell_clock_c1 x=some (p x)):slices_IndexFunc_Simpl_Pin_impl_Pin_at_impl_Cell_clock_c1 l f=some (findIx p l):=by
 unfold slices_IndexFunc_Simpl_Pin_impl_Pin_at_impl_Cell_clock_c1
 refine index_loop (out:=fun i=>i) hl (p:=p) (fun k x hx=>?_) ?_
 ·have hk:=(List.getElem?_eq_some_iff.1 hx).1
  simp only [slices_IndexFunc_Simpl_Pin_impl_Pin_at_impl_Cell_clock_c1_loop0,atI_nat,hx,Option.bind_some,show (k:Int)<(l.length:Int) from by omega,if_true,hp x (List.mem_of_getElem? hx)]
  split<;>rfl
 ·simp only [slices_IndexFunc_Simpl_Pin_impl_Pin_at_impl_Cell_clock_c1_loop0,Int.lt_irrefl,if_false]
theorem slices_IndexFunc_Simpl_Arc_impl_Arc_at_impl_Cell_areArcs_c1_eq {l:List TArc} {f:TArc×Unit} (hl:Len l) (p:TArc→Bool) (hp:∀ x∈l,impl_Cell_areArcs_c1 x f.fst=some (p x)):slices_IndexFunc_Simpl_Arc_impl_Arc_at_impl_Cell_areArcs_c1 l f=some (findIx p l):=by
 unfold slices_IndexFunc_Simpl_Arc_impl_Arc_at_impl_Cell_areArcs_c1
 refine index_loop (out:=fun i=>i) hl (p:=p) (fun k x hx=>?_) ?_
 ·have hk:=(List.getElem?_eq_some_iff.1 hx).1
  simp only [slices_IndexFunc_Simpl_Arc_impl_Arc_at_impl_Cell_areArcs_c1_loop0,atI_nat,hx,Option.bind_some,show (k:Int)<(l.length:Int) from by omega,if_true,hp x (List.mem_of_getElem? hx)]
  split<;>rfl
 ·simp only [slices_IndexFunc_Simpl_Arc_impl_Arc_at_impl_Cell_areArcs_c1_loop0,Int.lt_irrefl,if_false]
theorem slices_ContainsFunc_Simpl_Arc_impl_Arc_at_impl_Cell_areArcs_c1_eq {l:List TArc} {f:TArc×Unit} (hl:Len l) (p:TArc→Bool) (hp:∀ x∈l,impl_Cell_areArcs_c1 x f.fst=some (p x)):slices_ContainsFunc_Simpl_Arc_impl_Arc_at_impl_Cell_areArcs_c1 l f=some (l.any p):=by
 unfold slices_ContainsFunc_Simpl_Arc_impl_Arc_at_impl_Cell_areArcs_c1
 rw [slices_IndexFunc_Simpl_Arc_impl_Arc_at_impl_Cell_areArcs_c1_eq hl p hp,Option.bind_some]
 congr 1
 rw [Bool.eq_iff_iff,decide_eq_true_eq,findIx_nonneg]
theorem slices_IndexFunc_Simpl_Arc_impl_Arc_at_impl_Cell_has_c1_eq {l:List TArc} {f:Int×Unit} (hl:Len l) (p:TArc→Bool) (hp:∀ x∈l,impl_Cell_has_c1 x f.fst=some (p x)):slices_IndexFunc_Simpl_Arc_impl_Arc_at_impl_Cell_has_c1 l f=some (findIx p l):=by
 unfold slices_IndexFunc_Simpl_Arc_impl_Arc_at_impl_Cell_has_c1
 refine index_loop (out:=fun i=>i) hl (p:=p) (fun k x hx=>?_) ?_
 ·have hk:=(List.getElem?_eq_some_iff.1 hx).1
  simp only [slices_IndexFunc_Simpl_Arc_impl_Arc_at_impl_Cell_has_c1_loop0,atI_nat,hx,Option.bind_some,show (k:Int)<(l.length:Int) from by omega,if_true,hp x (List.mem_of_getElem? hx)]
  split<;>rfl
 ·simp only [slices_IndexFunc_Simpl_Arc_impl_Arc_at_impl_Cell_has_c1_loop0,Int.lt_irrefl,if_false]
theorem slices_ContainsFunc_Simpl_Arc_impl_Arc_at_impl_Cell_has_c1_eq {l:List TArc} {f:Int×Unit} (hl:Len l) (p:TArc→Bool) (hp:∀ x∈l,impl_Cell_has_c1 x f.fst=some (p x)):slices_ContainsFunc_Simpl_Arc_impl_Arc_at_impl_Cell_has_c1 l f=some (l.any p):=by
 unfold slices_ContainsFunc_Simpl_Arc_impl_Arc_at_impl_Cell_has_c1
 rw [slices_IndexFunc_Simpl_Arc_impl_Arc_at_impl_Cell_has_c1_eq hl p hp,Option.bind_some]
 congr 1
 rw [Bool.eq_iff_iff,decide_eq_true_eq,findIx_nonneg]
theorem slices_IndexFunc_Sint64_int64_at_impl_Design_isInstance_c1_eq {l:List Int} {f:TDesign×Unit} (hl:Len l) (p:Int→Bool) (hp:∀ x∈l,impl_Design_isInstance_c1 x f.fst=some (p x)):slices_IndexFunc_Sint64_int64_at_impl_Design_isInstance_c1 l f=some (findIx p l):=by
 unfold slices_IndexFunc_Sint64_int64_at_impl_Design_isInstance_c1
 refine index_loop (out:=fun i=>i) hl (p:=p) (fun k x hx=>?_) ?_
 ·have hk:=(List.getElem?_eq_some_iff.1 hx).1
  simp only [slices_IndexFunc_Sint64_int64_at_impl_Design_isInstance_c1_loop0,atI_nat,hx,Option.bind_some,show (k:Int)<(l.length:Int) from by omega,if_true,hp x (List.mem_of_getElem? hx)]
  split<;>rfl
 ·simp only [slices_IndexFunc_Sint64_int64_at_impl_Design_isInstance_c1_loop0,Int.lt_irrefl,if_false]
theorem slices_ContainsFunc_Sint64_int64_at_impl_Design_isInstance_c1_eq {l:List Int} {f:TDesign×Unit} (hl:Len l) (p:Int→Bool) (hp:∀ x∈l,impl_Design_isInstance_c1 x f.fst=some (p x)):slices_ContainsFunc_Sint64_int64_at_impl_Design_isInstance_c1 l f=some (l.any p):=by
 unfold slices_ContainsFunc_Sint64_int64_at_impl_Design_isInstance_c1
 rw [slices_IndexFunc_Sint64_int64_at_impl_Design_isInstance_c1_eq hl p hp,Option.bind_some]
 congr 1
 rw [Bool.eq_iff_iff,decide_eq_true_eq,findIx_nonneg]
theorem slices_IndexFunc_Sint_int_at_impl_IsDesign_c1_eq {l:List Int} {f:Unit} (hl:Len l) (p:Int→Bool) (hp:∀ x∈l,impl_IsDesign_c1 x=some (p x)):slices_IndexFunc_Sint_int_at_impl_IsDesign_c1 l f=some (findIx p l):=by
 unfold slices_IndexFunc_Sint_int_at_impl_IsDesign_c1
 refine index_loop (out:=fun i=>i) hl (p:=p) (fun k x hx=>?_) ?_
 ·have hk:=(List.getElem?_eq_some_iff.1 hx).1
  simp only [slices_IndexFunc_Sint_int_at_impl_IsDesign_c1_loop0,atI_nat,hx,Option.bind_some,show (k:Int)<(l.length:Int) from by omega,if_true,hp x (List.mem_of_getElem? hx)]
  split<;>rfl
 ·simp only [slices_IndexFunc_Sint_int_at_impl_IsDesign_c1_loop0,Int.lt_irrefl,if_false]
theorem slices_ContainsFunc_Sint_int_at_impl_IsDesign_c1_eq {l:List Int} {f:Unit} (hl:Len l) (p:Int→Bool) (hp:∀ x∈l,impl_IsDesign_c1 x=some (p x)):slices_ContainsFunc_Sint_int_at_impl_IsDesign_c1 l f=some (l.any p):=by
 unfold slices_ContainsFunc_Sint_int_at_impl_IsDesign_c1
 rw [slices_IndexFunc_Sint_int_at_impl_IsDesign_c1_eq hl p hp,Option.bind_some]
 congr 1
 rw [Bool.eq_iff_iff,decide_eq_true_eq,findIx_nonneg]
theorem slices_IndexFunc_Simpl_Instance_impl_Instance_at_impl_InstanceNamed_c1_eq {l:List TInstance} {f:List UInt8×Unit} (hl:Len l) (p:TInstance→Bool) (hp:∀ x∈l,impl_InstanceNamed_c1 x f.fst=some (p x)):slices_IndexFunc_Simpl_Instance_impl_Instance_at_impl_InstanceNamed_c1 l f=some (findIx p l):=by
 unfold slices_IndexFunc_Simpl_Instance_impl_Instance_at_impl_InstanceNamed_c1
 refine index_loop (out:=fun i=>i) hl (p:=p) (fun k x hx=>?_) ?_
 ·have hk:=(List.getElem?_eq_some_iff.1 hx).1
  simp only [slices_IndexFunc_Simpl_Instance_impl_Instance_at_impl_InstanceNamed_c1_loop0,atI_nat,hx,Option.bind_some,show (k:Int)<(l.length:Int) from by omega,if_true,hp x (List.mem_of_getElem? hx)]
  split<;>rfl
 ·simp only [slices_IndexFunc_Simpl_Instance_impl_Instance_at_impl_InstanceNamed_c1_loop0,Int.lt_irrefl,if_false]
theorem slices_IndexFunc_Simpl_place_impl_place_at_impl_Design_placeOf_c1_eq {l:List Tplace} {f:Int×Int×Unit} (hl:Len l) (p:Tplace→Bool) (hp:∀ x∈l,impl_Design_placeOf_c1 x f.fst f.snd.fst=some (p x)):slices_IndexFunc_Simpl_place_impl_place_at_impl_Design_placeOf_c1 l f=some (findIx p l):=by
 unfold slices_IndexFunc_Simpl_place_impl_place_at_impl_Design_placeOf_c1
 refine index_loop (out:=fun i=>i) hl (p:=p) (fun k x hx=>?_) ?_
 ·have hk:=(List.getElem?_eq_some_iff.1 hx).1
  simp only [slices_IndexFunc_Simpl_place_impl_place_at_impl_Design_placeOf_c1_loop0,atI_nat,hx,Option.bind_some,show (k:Int)<(l.length:Int) from by omega,if_true,hp x (List.mem_of_getElem? hx)]
  split<;>rfl
 ·simp only [slices_IndexFunc_Simpl_place_impl_place_at_impl_Design_placeOf_c1_loop0,Int.lt_irrefl,if_false]
end Go.Proofs.YtpkjjgdhmafonaaGreatDoor
/-
  Plain laws: arguments counted, copied, compared. Printed by program (szgen.py).
-/
namespace Go.Proofs.YtpkjjgdhmafonaaGreatDoor
open Go Go.Sx
set_option linter.unusedVariables false
set_option linter.unusedSimpArgs false
theorem laws_szPin_ok (a:TPin) (left:Int) (h0:0≤left) (h1:left≤1048576) (hb:bnd (tPin) a):Szd (laws_szPin a left) left (sm (tPin) a):=by
 unfold laws_szPin
 refine Szd.len h0 h1 (by omega) hb.1 (fun hw a0 b0 s0=>?_)
 rw [hw]
 exact Szd.ret ⟨s0,sm_fixed _ (by rfl) _,sm_fixed _ (by rfl) _,sm_fixed _ (by rfl) _,trivial⟩
theorem laws_szPinS_ok (a:List (TPin)) (left:Int) (h0:0≤left) (h1:left≤1048576) (hb:bnd (.sl (tPin)) a):Szd (laws_szPinS a left) left (sm (.sl (tPin)) a):=by
 unfold laws_szPinS
 refine Szd.len h0 h1 (by omega) hb.1 (fun hw m0 m1 hn=>?_)
 rw [hw]
 exact (Szd.loop (f:=fun x m=>laws_szPin x m) (P:=fun x=>sm (tPin) x) (fun x hx m m0 m1=>laws_szPin_ok x m m0 m1 (hb.2 x hx)) (fun k m=>rfl) m0 m1 hn).mono (fun h=>⟨hn,h⟩)
theorem laws_szInt64S_ok (a:List (Int)) (left:Int) (h0:0≤left) (h1:left≤1048576) (hb:bnd (.sl (.int .i64)) a):Szd (laws_szInt64S a left) left (sm (.sl (.int .i64)) a):=by
 unfold laws_szInt64S
 refine Szd.len h0 h1 (by omega) hb.1 (fun hw m0 m1 hn=>?_)
 rw [hw]
 exact Szd.ret ⟨hn,fun x _=>sm_fixed (.int .i64) (by rfl) x⟩
theorem laws_szTable_ok (a:TTable) (left:Int) (h0:0≤left) (h1:left≤1048576) (hb:bnd (tTable) a):Szd (laws_szTable a left) left (sm (tTable) a):=by
 unfold laws_szTable
 refine Szd.then (laws_szInt64S_ok _ _ h0 h1 hb.1) h0 h1 (fun m0 a0 b0 s0=>?_)
 refine Szd.then (laws_szInt64S_ok _ _ a0 b0 hb.2.1) a0 b0 (fun m1 a1 b1 s1=>?_)
 refine Szd.last (laws_szInt64S_ok _ _ a1 b1 hb.2.2.1) a1 (fun s2=>?_)
 exact ⟨s0,s1,s2,trivial⟩
theorem laws_szTableS_ok (a:List (TTable)) (left:Int) (h0:0≤left) (h1:left≤1048576) (hb:bnd (.sl (tTable)) a):Szd (laws_szTableS a left) left (sm (.sl (tTable)) a):=by
 unfold laws_szTableS
 refine Szd.len h0 h1 (by omega) hb.1 (fun hw m0 m1 hn=>?_)
 rw [hw]
 exact (Szd.loop (f:=fun x m=>laws_szTable x m) (P:=fun x=>sm (tTable) x) (fun x hx m m0 m1=>laws_szTable_ok x m m0 m1 (hb.2 x hx)) (fun k m=>rfl) m0 m1 hn).mono (fun h=>⟨hn,h⟩)
theorem laws_szArc_ok (a:TArc) (left:Int) (h0:0≤left) (h1:left≤1048576) (hb:bnd (tArc) a):Szd (laws_szArc a left) left (sm (tArc) a):=by
 unfold laws_szArc
 refine Szd.then (laws_szTableS_ok _ _ h0 h1 hb.2.2.2.2.1) h0 h1 (fun m0 a0 b0 s0=>?_)
 refine Szd.last (laws_szTableS_ok _ _ a0 b0 hb.2.2.2.2.2.1) a0 (fun s1=>?_)
 exact ⟨sm_fixed _ (by rfl) _,sm_fixed _ (by rfl) _,sm_fixed _ (by rfl) _,sm_fixed _ (by rfl) _,s0,s1,trivial⟩
theorem laws_szArcS_ok (a:List (TArc)) (left:Int) (h0:0≤left) (h1:left≤1048576) (hb:bnd (.sl (tArc)) a):Szd (laws_szArcS a left) left (sm (.sl (tArc)) a):=by
 unfold laws_szArcS
 refine Szd.len h0 h1 (by omega) hb.1 (fun hw m0 m1 hn=>?_)
 rw [hw]
 exact (Szd.loop (f:=fun x m=>laws_szArc x m) (P:=fun x=>sm (tArc) x) (fun x hx m m0 m1=>laws_szArc_ok x m m0 m1 (hb.2 x hx)) (fun k m=>rfl) m0 m1 hn).mono (fun h=>⟨hn,h⟩)
theorem laws_szCell_ok (a:TCell) (left:Int) (h0:0≤left) (h1:left≤1048576) (hb:bnd (tCell) a):Szd (laws_szCell a left) left (sm (tCell) a):=by
 unfold laws_szCell
 refine Szd.len h0 h1 (by omega) hb.1 (fun hw a0 b0 s0=>?_)
 rw [hw]
 refine Szd.then (laws_szPinS_ok _ _ a0 b0 hb.2.2.1) a0 b0 (fun m1 a1 b1 s1=>?_)
 refine Szd.then (laws_szArcS_ok _ _ a1 b1 hb.2.2.2.1) a1 b1 (fun m2 a2 b2 s2=>?_)
 refine Szd.last (laws_szInt64S_ok _ _ a2 b2 hb.2.2.2.2.1) a2 (fun s3=>?_)
 exact ⟨s0,sm_fixed _ (by rfl) _,s1,s2,s3,sm_fixed _ (by rfl) _,sm_fixed _ (by rfl) _,trivial⟩
theorem laws_szCellS_ok (a:List (TCell)) (left:Int) (h0:0≤left) (h1:left≤1048576) (hb:bnd (.sl (tCell)) a):Szd (laws_szCellS a left) left (sm (.sl (tCell)) a):=by
 unfold laws_szCellS
 refine Szd.len h0 h1 (by omega) hb.1 (fun hw m0 m1 hn=>?_)
 rw [hw]
 exact (Szd.loop (f:=fun x m=>laws_szCell x m) (P:=fun x=>sm (tCell) x) (fun x hx m m0 m1=>laws_szCell_ok x m m0 m1 (hb.2 x hx)) (fun k m=>rfl) m0 m1 hn).mono (fun h=>⟨hn,h⟩)
theorem laws_szLibrary_ok (a:TLibrary) (left:Int) (h0:0≤left) (h1:left≤1048576) (hb:bnd (tLibrary) a):Szd (laws_szLibrary a left) left (sm (tLibrary) a):=by
 unfold laws_szLibrary
 refine Szd.last (laws_szCellS_ok _ _ h0 h1 hb.1) h0 (fun s0=>?_)
 exact ⟨s0,trivial⟩
theorem laws_szInstance_ok (a:TInstance) (left:Int) (h0:0≤left) (h1:left≤1048576) (hb:bnd (tInstance) a):Szd (laws_szInstance a left) left (sm (tInstance) a):=by
 unfold laws_szInstance
 refine Szd.len h0 h1 (by omega) hb.1 (fun hw a0 b0 s0=>?_)
 rw [hw]
 refine Szd.last (laws_szInt64S_ok _ _ a0 b0 hb.2.2.1) a0 (fun s1=>?_)
 exact ⟨s0,sm_fixed _ (by rfl) _,s1,trivial⟩
theorem laws_szInstanceS_ok (a:List (TInstance)) (left:Int) (h0:0≤left) (h1:left≤1048576) (hb:bnd (.sl (tInstance)) a):Szd (laws_szInstanceS a left) left (sm (.sl (tInstance)) a):=by
 unfold laws_szInstanceS
 refine Szd.len h0 h1 (by omega) hb.1 (fun hw m0 m1 hn=>?_)
 rw [hw]
 exact (Szd.loop (f:=fun x m=>laws_szInstance x m) (P:=fun x=>sm (tInstance) x) (fun x hx m m0 m1=>laws_szInstance_ok x m m0 m1 (hb.2 x hx)) (fun k m=>rfl) m0 m1 hn).mono (fun h=>⟨hn,h⟩)
theorem laws_szStringS_ok (a:List (List UInt8)) (left:Int) (h0:0≤left) (h1:left≤1048576) (hb:bnd (.sl (.str)) a):Szd (laws_szStringS a left) left (sm (.sl (.str)) a):=by
 unfold laws_szStringS
 refine Szd.len h0 h1 (by omega) hb.1 (fun hw m0 m1 hn=>?_)
 rw [hw]
 exact (Szd.loop (f:=fun x m=>if IntKind.i64.wrap (m-(x.length:Int))<0 then some (-1) else some (IntKind.i64.wrap (m-(x.length:Int)))) (P:=fun x=>sm .str x) (fun x hx m m0 m1=>Szd.len m0 m1 (by omega) (hb.2 x hx) (fun hw _ _ hn=>by rw [hw];exact Szd.ret hn)) (fun k m=>by
  show laws_szStringS_loop0 a m (k:Int)=_
  unfold laws_szStringS_loop0
  congr 1;congr 1;funext x;split<;>simp_all) m0 m1 hn).mono (fun h=>⟨hn,h⟩)
theorem laws_szPort_ok (a:TPort) (left:Int) (h0:0≤left) (h1:left≤1048576) (hb:bnd (tPort) a):Szd (laws_szPort a left) left (sm (tPort) a):=by
 unfold laws_szPort
 refine Szd.len h0 h1 (by omega) hb.1 (fun hw a0 b0 s0=>?_)
 rw [hw]
 exact Szd.ret ⟨s0,sm_fixed _ (by rfl) _,sm_fixed _ (by rfl) _,trivial⟩
theorem laws_szPortS_ok (a:List (TPort)) (left:Int) (h0:0≤left) (h1:left≤1048576) (hb:bnd (.sl (tPort)) a):Szd (laws_szPortS a left) left (sm (.sl (tPort)) a):=by
 unfold laws_szPortS
 refine Szd.len h0 h1 (by omega) hb.1 (fun hw m0 m1 hn=>?_)
 rw [hw]
 exact (Szd.loop (f:=fun x m=>laws_szPort x m) (P:=fun x=>sm (tPort) x) (fun x hx m m0 m1=>laws_szPort_ok x m m0 m1 (hb.2 x hx)) (fun k m=>rfl) m0 m1 hn).mono (fun h=>⟨hn,h⟩)
theorem laws_szDesign_ok (a:TDesign) (left:Int) (h0:0≤left) (h1:left≤1048576) (hb:bnd (tDesign) a):Szd (laws_szDesign a left) left (sm (tDesign) a):=by
 unfold laws_szDesign
 refine Szd.then (laws_szInstanceS_ok _ _ h0 h1 hb.1) h0 h1 (fun m0 a0 b0 s0=>?_)
 refine Szd.then (laws_szStringS_ok _ _ a0 b0 hb.2.1) a0 b0 (fun m1 a1 b1 s1=>?_)
 refine Szd.last (laws_szPortS_ok _ _ a1 b1 hb.2.2.1) a1 (fun s2=>?_)
 exact ⟨s0,s1,s2,trivial⟩
theorem laws_szWire_ok (a:TWire) (left:Int) (h0:0≤left) (h1:left≤1048576) (hb:bnd (tWire) a):Szd (laws_szWire a left) left (sm (tWire) a):=by
 unfold laws_szWire
 refine Szd.then (laws_szInt64S_ok _ _ h0 h1 hb.1) h0 h1 (fun m0 a0 b0 s0=>?_)
 refine Szd.then (laws_szInt64S_ok _ _ a0 b0 hb.2.1) a0 b0 (fun m1 a1 b1 s1=>?_)
 refine Szd.then (laws_szInt64S_ok _ _ a1 b1 hb.2.2.1) a1 b1 (fun m2 a2 b2 s2=>?_)
 refine Szd.last (laws_szInt64S_ok _ _ a2 b2 hb.2.2.2.1) a2 (fun s3=>?_)
 exact ⟨s0,s1,s2,s3,trivial⟩
theorem laws_szWireS_ok (a:List (TWire)) (left:Int) (h0:0≤left) (h1:left≤1048576) (hb:bnd (.sl (tWire)) a):Szd (laws_szWireS a left) left (sm (.sl (tWire)) a):=by
 unfold laws_szWireS
 refine Szd.len h0 h1 (by omega) hb.1 (fun hw m0 m1 hn=>?_)
 rw [hw]
 exact (Szd.loop (f:=fun x m=>laws_szWire x m) (P:=fun x=>sm (tWire) x) (fun x hx m m0 m1=>laws_szWire_ok x m m0 m1 (hb.2 x hx)) (fun k m=>rfl) m0 m1 hn).mono (fun h=>⟨hn,h⟩)
theorem laws_szBlock_ok (a:TBlock) (left:Int) (h0:0≤left) (h1:left≤1048576) (hb:bnd (tBlock) a):Szd (laws_szBlock a left) left (sm (tBlock) a):=by
 unfold laws_szBlock
 refine Szd.then (laws_szLibrary_ok _ _ h0 h1 hb.1) h0 h1 (fun m0 a0 b0 s0=>?_)
 refine Szd.then (laws_szDesign_ok _ _ a0 b0 hb.2.1) a0 b0 (fun m1 a1 b1 s1=>?_)
 refine Szd.last (laws_szWireS_ok _ _ a1 b1 hb.2.2.1) a1 (fun s2=>?_)
 exact ⟨s0,s1,s2,trivial⟩
theorem laws_szEdit_ok (a:TEdit) (left:Int) (h0:0≤left) (h1:left≤1048576) (hb:bnd (tEdit) a):Szd (laws_szEdit a left) left (sm (tEdit) a):=by
 unfold laws_szEdit
 refine Szd.len h0 h1 (by omega) hb.2.2.2.2.2.1 (fun hw a0 b0 s0=>?_)
 rw [hw]
 refine Szd.last (laws_szWire_ok _ _ a0 b0 hb.2.2.2.2.2.2.1) a0 (fun s1=>?_)
 exact ⟨sm_fixed _ (by rfl) _,sm_fixed _ (by rfl) _,sm_fixed _ (by rfl) _,sm_fixed _ (by rfl) _,sm_fixed _ (by rfl) _,s0,s1,trivial⟩
theorem laws_toPin_ok (a:TPin) (hs:sm (tPin) a):laws_toPin a=some a:=by
 unfold laws_toPin
 all_goals rfl
theorem laws_toPinS_ok (a:List (TPin)) (hs:sm (.sl (tPin)) a):laws_toPinS a=some a:=by
 unfold laws_toPinS
 have h:=hs.1
 rw [guardO_pos (by omega),guardO_pos (by omega),guardO_pos (by omega),guardO_pos (by omega)]
 exact copy_loop (f:=laws_toPin) (fun x hx=>laws_toPin_ok x (hs.2 x hx)) (fun k out=>rfl) h
theorem laws_toInt64S_ok (a:List (Int)) (hs:sm (.sl (.int .i64)) a):laws_toInt64S a=some a:=by
 unfold laws_toInt64S
 have h:=hs.1
 rw [guardO_pos (by omega),guardO_pos (by omega),guardO_pos (by omega),guardO_pos (by omega)]
 exact copy_loop (f:=some) (fun x _=>rfl) (fun k out=>rfl) h
theorem laws_toTable_ok (a:TTable) (hs:sm (tTable) a):laws_toTable a=some a:=by
 unfold laws_toTable
 rw [laws_toInt64S_ok _ hs.1,Option.bind_some,laws_toInt64S_ok _ hs.2.1,Option.bind_some,laws_toInt64S_ok _ hs.2.2.1,Option.bind_some]
 all_goals rfl
theorem laws_toTableS_ok (a:List (TTable)) (hs:sm (.sl (tTable)) a):laws_toTableS a=some a:=by
 unfold laws_toTableS
 have h:=hs.1
 rw [guardO_pos (by omega),guardO_pos (by omega),guardO_pos (by omega),guardO_pos (by omega)]
 exact copy_loop (f:=laws_toTable) (fun x hx=>laws_toTable_ok x (hs.2 x hx)) (fun k out=>rfl) h
theorem laws_toArc_ok (a:TArc) (hs:sm (tArc) a):laws_toArc a=some a:=by
 unfold laws_toArc
 rw [laws_toTableS_ok _ hs.2.2.2.2.1,Option.bind_some,laws_toTableS_ok _ hs.2.2.2.2.2.1,Option.bind_some]
 all_goals rfl
theorem laws_toArcS_ok (a:List (TArc)) (hs:sm (.sl (tArc)) a):laws_toArcS a=some a:=by
 unfold laws_toArcS
 have h:=hs.1
 rw [guardO_pos (by omega),guardO_pos (by omega),guardO_pos (by omega),guardO_pos (by omega)]
 exact copy_loop (f:=laws_toArc) (fun x hx=>laws_toArc_ok x (hs.2 x hx)) (fun k out=>rfl) h
theorem laws_toCell_ok (a:TCell) (hs:sm (tCell) a):laws_toCell a=some a:=by
 unfold laws_toCell
 rw [laws_toPinS_ok _ hs.2.2.1,Option.bind_some,laws_toArcS_ok _ hs.2.2.2.1,Option.bind_some,laws_toInt64S_ok _ hs.2.2.2.2.1,Option.bind_some]
 all_goals rfl
theorem laws_toCellS_ok (a:List (TCell)) (hs:sm (.sl (tCell)) a):laws_toCellS a=some a:=by
 unfold laws_toCellS
 have h:=hs.1
 rw [guardO_pos (by omega),guardO_pos (by omega),guardO_pos (by omega),guardO_pos (by omega)]
 exact copy_loop (f:=laws_toCell) (fun x hx=>laws_toCell_ok x (hs.2 x hx)) (fun k out=>rfl) h
theorem laws_toLibrary_ok (a:TLibrary) (hs:sm (tLibrary) a):laws_toLibrary a=some a:=by
 unfold laws_toLibrary
 rw [laws_toCellS_ok _ hs.1,Option.bind_some]
 all_goals rfl
theorem laws_toInstance_ok (a:TInstance) (hs:sm (tInstance) a):laws_toInstance a=some a:=by
 unfold laws_toInstance
 rw [laws_toInt64S_ok _ hs.2.2.1,Option.bind_some]
 all_goals rfl
theorem laws_toInstanceS_ok (a:List (TInstance)) (hs:sm (.sl (tInstance)) a):laws_toInstanceS a=some a:=by
 unfold laws_toInstanceS
 have h:=hs.1
 rw [guardO_pos (by omega),guardO_pos (by omega),guardO_pos (by omega),guardO_pos (by omega)]
 exact copy_loop (f:=laws_toInstance) (fun x hx=>laws_toInstance_ok x (hs.2 x hx)) (fun k out=>rfl) h
theorem laws_toStringS_ok (a:List (List UInt8)) (hs:sm (.sl (.str)) a):laws_toStringS a=some a:=by
 unfold laws_toStringS
 have h:=hs.1
 rw [guardO_pos (by omega),guardO_pos (by omega),guardO_pos (by omega),guardO_pos (by omega)]
 exact copy_loop (f:=some) (fun x _=>rfl) (fun k out=>rfl) h
theorem laws_toPort_ok (a:TPort) (hs:sm (tPort) a):laws_toPort a=some a:=by
 unfold laws_toPort
 all_goals rfl
theorem laws_toPortS_ok (a:List (TPort)) (hs:sm (.sl (tPort)) a):laws_toPortS a=some a:=by
 unfold laws_toPortS
 have h:=hs.1
 rw [guardO_pos (by omega),guardO_pos (by omega),guardO_pos (by omega),guardO_pos (by omega)]
 exact copy_loop (f:=laws_toPort) (fun x hx=>laws_toPort_ok x (hs.2 x hx)) (fun k out=>rfl) h
theorem laws_toDesign_ok (a:TDesign) (hs:sm (tDesign) a):laws_toDesign a=some a:=by
 unfold laws_toDesign
 rw [laws_toInstanceS_ok _ hs.1,Option.bind_some,laws_toStringS_ok _ hs.2.1,Option.bind_some,laws_toPortS_ok _ hs.2.2.1,Option.bind_some]
 all_goals rfl
theorem laws_toWire_ok (a:TWire) (hs:sm (tWire) a):laws_toWire a=some a:=by
 unfold laws_toWire
 rw [laws_toInt64S_ok _ hs.1,Option.bind_some,laws_toInt64S_ok _ hs.2.1,Option.bind_some,laws_toInt64S_ok _ hs.2.2.1,Option.bind_some,laws_toInt64S_ok _ hs.2.2.2.1,Option.bind_some]
 all_goals rfl
theorem laws_toWireS_ok (a:List (TWire)) (hs:sm (.sl (tWire)) a):laws_toWireS a=some a:=by
 unfold laws_toWireS
 have h:=hs.1
 rw [guardO_pos (by omega),guardO_pos (by omega),guardO_pos (by omega),guardO_pos (by omega)]
 exact copy_loop (f:=laws_toWire) (fun x hx=>laws_toWire_ok x (hs.2 x hx)) (fun k out=>rfl) h
theorem laws_toBlock_ok (a:TBlock) (hs:sm (tBlock) a):laws_toBlock a=some a:=by
 unfold laws_toBlock
 rw [laws_toLibrary_ok _ hs.1,Option.bind_some,laws_toDesign_ok _ hs.2.1,Option.bind_some,laws_toWireS_ok _ hs.2.2.1,Option.bind_some]
 all_goals rfl
theorem laws_toEdit_ok (a:TEdit) (hs:sm (tEdit) a):laws_toEdit a=some a:=by
 unfold laws_toEdit
 rw [laws_toWire_ok _ hs.2.2.2.2.2.2.1,Option.bind_some]
 all_goals rfl
theorem laws_eqInt64S_ok (a:List (Int)) (hs:sm (.sl (.int .i64)) a):laws_eqInt64S a a=some true:=by
 unfold laws_eqInt64S
 rw [if_pos rfl]
 exact eq_loopP (fun k=>rfl) hs.1
theorem laws_eqWire_ok (a:TWire) (hs:sm (tWire) a):laws_eqWire a a=some true:=by
 unfold laws_eqWire
 simp [laws_eqInt64S_ok _ hs.1,laws_eqInt64S_ok _ hs.2.1,laws_eqInt64S_ok _ hs.2.2.1,laws_eqInt64S_ok _ hs.2.2.2.1]
theorem laws_eqEdit_ok (a:TEdit) (hs:sm (tEdit) a):laws_eqEdit a a=some true:=by
 unfold laws_eqEdit
 simp [laws_eqWire_ok _ hs.2.2.2.2.2.2.1]
theorem laws_eqPin_ok (a:TPin) (hs:sm (tPin) a):laws_eqPin a a=some true:=by
 unfold laws_eqPin
 simp
theorem laws_eqPinS_ok (a:List (TPin)) (hs:sm (.sl (tPin)) a):laws_eqPinS a a=some true:=by
 unfold laws_eqPinS
 rw [if_pos rfl]
 exact eq_loop (f:=laws_eqPin) (fun x hx=>laws_eqPin_ok x (hs.2 x hx)) (fun k=>rfl) hs.1
theorem laws_eqTable_ok (a:TTable) (hs:sm (tTable) a):laws_eqTable a a=some true:=by
 unfold laws_eqTable
 simp [laws_eqInt64S_ok _ hs.1,laws_eqInt64S_ok _ hs.2.1,laws_eqInt64S_ok _ hs.2.2.1]
theorem laws_eqTableS_ok (a:List (TTable)) (hs:sm (.sl (tTable)) a):laws_eqTableS a a=some true:=by
 unfold laws_eqTableS
 rw [if_pos rfl]
 exact eq_loop (f:=laws_eqTable) (fun x hx=>laws_eqTable_ok x (hs.2 x hx)) (fun k=>rfl) hs.1
theorem laws_eqArc_ok (a:TArc) (hs:sm (tArc) a):laws_eqArc a a=some true:=by
 unfold laws_eqArc
 simp [laws_eqTableS_ok _ hs.2.2.2.2.1,laws_eqTableS_ok _ hs.2.2.2.2.2.1]
theorem laws_eqArcS_ok (a:List (TArc)) (hs:sm (.sl (tArc)) a):laws_eqArcS a a=some true:=by
 unfold laws_eqArcS
 rw [if_pos rfl]
 exact eq_loop (f:=laws_eqArc) (fun x hx=>laws_eqArc_ok x (hs.2 x hx)) (fun k=>rfl) hs.1
theorem laws_eqCell_ok (a:TCell) (hs:sm (tCell) a):laws_eqCell a a=some true:=by
 unfold laws_eqCell
 simp [laws_eqPinS_ok _ hs.2.2.1,laws_eqArcS_ok _ hs.2.2.2.1,laws_eqInt64S_ok _ hs.2.2.2.2.1]
theorem laws_eqCellS_ok (a:List (TCell)) (hs:sm (.sl (tCell)) a):laws_eqCellS a a=some true:=by
 unfold laws_eqCellS
 rw [if_pos rfl]
 exact eq_loop (f:=laws_eqCell) (fun x hx=>laws_eqCell_ok x (hs.2 x hx)) (fun k=>rfl) hs.1
theorem laws_eqLibrary_ok (a:TLibrary) (hs:sm (tLibrary) a):laws_eqLibrary a a=some true:=by
 unfold laws_eqLibrary
 simp [laws_eqCellS_ok _ hs.1]
theorem laws_eqInstance_ok (a:TInstance) (hs:sm (tInstance) a):laws_eqInstance a a=some true:=by
 unfold laws_eqInstance
 simp [laws_eqInt64S_ok _ hs.2.2.1]
theorem laws_eqInstanceS_ok (a:List (TInstance)) (hs:sm (.sl (tInstance)) a):laws_eqInstanceS a a=some true:=by
 unfold laws_eqInstanceS
 rw [if_pos rfl]
 exact eq_loop (f:=laws_eqInstance) (fun x hx=>laws_eqInstance_ok x (hs.2 x hx)) (fun k=>rfl) hs.1
theorem laws_eqStringS_ok (a:List (List UInt8)) (hs:sm (.sl (.str)) a):laws_eqStringS a a=some true:=by
 unfold laws_eqStringS
 rw [if_pos rfl]
 exact eq_loopP (fun k=>rfl) hs.1
theorem laws_eqPort_ok (a:TPort) (hs:sm (tPort) a):laws_eqPort a a=some true:=by
 unfold laws_eqPort
 simp
theorem laws_eqPortS_ok (a:List (TPort)) (hs:sm (.sl (tPort)) a):laws_eqPortS a a=some true:=by
 unfold laws_eqPortS
 rw [if_pos rfl]
 exact eq_loop (f:=laws_eqPort) (fun x hx=>laws_eqPort_ok x (hs.2 x hx)) (fun k=>rfl) hs.1
theorem laws_eqDesign_ok (a:TDesign) (hs:sm (tDesign) a):laws_eqDesign a a=some true:=by
 unfold laws_eqDesign
 simp [laws_eqInstanceS_ok _ hs.1,laws_eqStringS_ok _ hs.2.1,laws_eqPortS_ok _ hs.2.2.1]
theorem laws_eqWireS_ok (a:List (TWire)) (hs:sm (.sl (tWire)) a):laws_eqWireS a a=some true:=by
 unfold laws_eqWireS
 rw [if_pos rfl]
 exact eq_loop (f:=laws_eqWire) (fun x hx=>laws_eqWire_ok x (hs.2 x hx)) (fun k=>rfl) hs.1
theorem laws_eqBlock_ok (a:TBlock) (hs:sm (tBlock) a):laws_eqBlock a a=some true:=by
 unfold laws_eqBlock
 simp [laws_eqLibrary_ok _ hs.1,laws_eqDesign_ok _ hs.2.1,laws_eqWireS_ok _ hs.2.2.1]
end Go.Proofs.YtpkjjgdhmafonaaGreatDoor
/-
  Plain laws: all lengths together; marks. Printed by program (totgen.py).
-/
namespace Go.Proofs.YtpkjjgdhmafonaaGreatDoor
open Go Go.Sx
set_option linter.unusedVariables false
set_option linter.unusedSimpArgs false
theorem markStep {α:Type} {L:List α} {j:Nat} {z:α} {A A' B B':Int} (hA:A=A') (hB:B=B'):∃ y,(some (.inl (A,B,List.set L j z,())):Option ((Int×Int×List α×Unit) ⊕ (Int×List α)))=some (.inl (A',B',List.set L j y,())):=⟨z,by rw [hA,hB]⟩
theorem markText_ok (k:Int) (h0:0≤k) (h1:k≤4611686018427387904):∃ s,laws_markText k=some s:=by
 unfold laws_markText
 split
 ·exact ⟨_,rfl⟩
 ·obtain ⟨r,h,_⟩:=whileM_inv (step:=fun v=>laws_markText_loop0 v.1 v.2.1) (fun v:Int×List UInt8×Unit=>0≤v.1∧v.1+(v.2.1.length:Int)≤4611686018427387904) (fun v=>v.1.toNat) (fun _=>True) (v:=(k,([]:List UInt8),())) ⟨h0,by simpa using h1⟩
   (by
    rintro ⟨m,s,⟨⟩⟩ ⟨a,b⟩
    simp only at a b
    simp only [laws_markText_loop0]
    by_cases hm:0<m
    ·have e1:Int.tdiv m 10=m / 10:=Int.tdiv_eq_ediv_of_nonneg a
     rw [if_pos hm,e1,W_in (n:=m / 10) (by omega) (by omega),guardO_pos (by simp only [bytesOf,List.length_map,List.length_singleton];omega)]
     refine .inl ⟨_,rfl,⟨by simp only;omega,?_⟩,by simp only;omega⟩
     simp only [List.length_append,bytesOf,List.length_map,List.length_singleton]
     omega
    ·rw [if_neg hm,guardO_pos (by simp only [List.length_singleton];omega)]
     exact .inr ⟨_,rfl,trivial⟩)
  exact ⟨r,h⟩
theorem laws_szPin_tot (a:TPin) (left:Int) (h0:0≤left) (h1:left≤1048576) (hb:bnd (tPin) a):Szt (laws_szPin a left) left (tot (tPin) a):=by
 unfold laws_szPin
 exact (Szt.len h0 h1 (by omega) hb.1 (fun hw0 a0 b0=>by rw [hw0];exact Szt.ret)).mono (by simp only [tot_pair,tot_int,tot_bool,tot_unit,tot_str];omega)
theorem laws_szPinS_tot (a:List (TPin)) (left:Int) (h0:0≤left) (h1:left≤1048576) (hb:bnd (.sl (tPin)) a):Szt (laws_szPinS a left) left (tot (.sl (tPin)) a):=by
 unfold laws_szPinS
 refine (Szt.len h0 h1 (by omega) hb.1 (fun hw m0 m1=>(?_:Szt _ _ ((a.map (tot (tPin))).sum)))).mono (by rw [tot_sl];omega)
 rw [hw]
 exact Szt.loop (f:=fun x m=>laws_szPin x m) (P:=fun x=>sm (tPin) x) (T:=tot (tPin)) (fun x hx m m0 m1=>laws_szPin_ok x m m0 m1 (hb.2 x hx)) (fun x hx m m0 m1=>laws_szPin_tot x m m0 m1 (hb.2 x hx)) (fun k m=>rfl) m0 m1 (by omega)
theorem laws_szInt64S_tot (a:List (Int)) (left:Int) (h0:0≤left) (h1:left≤1048576) (hb:bnd (.sl (.int .i64)) a):Szt (laws_szInt64S a left) left (tot (.sl (.int .i64)) a):=by
 unfold laws_szInt64S
 refine (Szt.len h0 h1 (by omega) hb.1 (fun hw m0 m1=>(?_:Szt _ _ ((a.map (tot (.int .i64))).sum)))).mono (by rw [tot_sl];omega)
 rw [hw]
 exact Szt.ret.mono (by rw [sum_fixed (by rfl)];omega)
theorem laws_szTable_tot (a:TTable) (left:Int) (h0:0≤left) (h1:left≤1048576) (hb:bnd (tTable) a):Szt (laws_szTable a left) left (tot (tTable) a):=by
 unfold laws_szTable
 exact (Szt.then (laws_szInt64S_tot a.1 _ h0 h1 hb.1) h0 h1 (fun m0 a0 b0=>Szt.then (laws_szInt64S_tot a.2.1 _ a0 b0 hb.2.1) a0 b0 (fun m1 a1 b1=>Szt.last (laws_szInt64S_tot a.2.2.1 _ a1 b1 hb.2.2.1)))).mono (by simp only [tot_pair,tot_int,tot_bool,tot_unit,tot_str];omega)
theorem laws_szTableS_tot (a:List (TTable)) (left:Int) (h0:0≤left) (h1:left≤1048576) (hb:bnd (.sl (tTable)) a):Szt (laws_szTableS a left) left (tot (.sl (tTable)) a):=by
 unfold laws_szTableS
 refine (Szt.len h0 h1 (by omega) hb.1 (fun hw m0 m1=>(?_:Szt _ _ ((a.map (tot (tTable))).sum)))).mono (by rw [tot_sl];omega)
 rw [hw]
 exact Szt.loop (f:=fun x m=>laws_szTable x m) (P:=fun x=>sm (tTable) x) (T:=tot (tTable)) (fun x hx m m0 m1=>laws_szTable_ok x m m0 m1 (hb.2 x hx)) (fun x hx m m0 m1=>laws_szTable_tot x m m0 m1 (hb.2 x hx)) (fun k m=>rfl) m0 m1 (by omega)
theorem laws_szArc_tot (a:TArc) (left:Int) (h0:0≤left) (h1:left≤1048576) (hb:bnd (tArc) a):Szt (laws_szArc a left) left (tot (tArc) a):=by
 unfold laws_szArc
 exact (Szt.then (laws_szTableS_tot a.2.2.2.2.1 _ h0 h1 hb.2.2.2.2.1) h0 h1 (fun m0 a0 b0=>Szt.last (laws_szTableS_tot a.2.2.2.2.2.1 _ a0 b0 hb.2.2.2.2.2.1))).mono (by simp only [tot_pair,tot_int,tot_bool,tot_unit,tot_str];omega)
theorem laws_szArcS_tot (a:List (TArc)) (left:Int) (h0:0≤left) (h1:left≤1048576) (hb:bnd (.sl (tArc)) a):Szt (laws_szArcS a left) left (tot (.sl (tArc)) a):=by
 unfold laws_szArcS
 refine (Szt.len h0 h1 (by omega) hb.1 (fun hw m0 m1=>(?_:Szt _ _ ((a.map (tot (tArc))).sum)))).mono (by rw [tot_sl];omega)
 rw [hw]
 exact Szt.loop (f:=fun x m=>laws_szArc x m) (P:=fun x=>sm (tArc) x) (T:=tot (tArc)) (fun x hx m m0 m1=>laws_szArc_ok x m m0 m1 (hb.2 x hx)) (fun x hx m m0 m1=>laws_szArc_tot x m m0 m1 (hb.2 x hx)) (fun k m=>rfl) m0 m1 (by omega)
theorem laws_szCell_tot (a:TCell) (left:Int) (h0:0≤left) (h1:left≤1048576) (hb:bnd (tCell) a):Szt (laws_szCell a left) left (tot (tCell) a):=by
 unfold laws_szCell
 exact (Szt.len h0 h1 (by omega) hb.1 (fun hw0 a0 b0=>by rw [hw0];exact Szt.then (laws_szPinS_tot a.2.2.1 _ a0 b0 hb.2.2.1) a0 b0 (fun m1 a1 b1=>Szt.then (laws_szArcS_tot a.2.2.2.1 _ a1 b1 hb.2.2.2.1) a1 b1 (fun m2 a2 b2=>Szt.last (laws_szInt64S_tot a.2.2.2.2.1 _ a2 b2 hb.2.2.2.2.1))))).mono (by simp only [tot_pair,tot_int,tot_bool,tot_unit,tot_str];omega)
theorem laws_szCellS_tot (a:List (TCell)) (left:Int) (h0:0≤left) (h1:left≤1048576) (hb:bnd (.sl (tCell)) a):Szt (laws_szCellS a left) left (tot (.sl (tCell)) a):=by
 unfold laws_szCellS
 refine (Szt.len h0 h1 (by omega) hb.1 (fun hw m0 m1=>(?_:Szt _ _ ((a.map (tot (tCell))).sum)))).mono (by rw [tot_sl];omega)
 rw [hw]
 exact Szt.loop (f:=fun x m=>laws_szCell x m) (P:=fun x=>sm (tCell) x) (T:=tot (tCell)) (fun x hx m m0 m1=>laws_szCell_ok x m m0 m1 (hb.2 x hx)) (fun x hx m m0 m1=>laws_szCell_tot x m m0 m1 (hb.2 x hx)) (fun k m=>rfl) m0 m1 (by omega)
theorem laws_szLibrary_tot (a:TLibrary) (left:Int) (h0:0≤left) (h1:left≤1048576) (hb:bnd (tLibrary) a):Szt (laws_szLibrary a left) left (tot (tLibrary) a):=by
 unfold laws_szLibrary
 exact (Szt.last (laws_szCellS_tot a.1 _ h0 h1 hb.1)).mono (by simp only [tot_pair,tot_int,tot_bool,tot_unit,tot_str];omega)
theorem laws_szInstance_tot (a:TInstance) (left:Int) (h0:0≤left) (h1:left≤1048576) (hb:bnd (tInstance) a):Szt (laws_szInstance a left) left (tot (tInstance) a):=by
 unfold laws_szInstance
 exact (Szt.len h0 h1 (by omega) hb.1 (fun hw0 a0 b0=>by rw [hw0];exact Szt.last (laws_szInt64S_tot a.2.2.1 _ a0 b0 hb.2.2.1))).mono (by simp only [tot_pair,tot_int,tot_bool,tot_unit,tot_str];omega)
theorem laws_szInstanceS_tot (a:List (TInstance)) (left:Int) (h0:0≤left) (h1:left≤1048576) (hb:bnd (.sl (tInstance)) a):Szt (laws_szInstanceS a left) left (tot (.sl (tInstance)) a):=by
 unfold laws_szInstanceS
 refine (Szt.len h0 h1 (by omega) hb.1 (fun hw m0 m1=>(?_:Szt _ _ ((a.map (tot (tInstance))).sum)))).mono (by rw [tot_sl];omega)
 rw [hw]
 exact Szt.loop (f:=fun x m=>laws_szInstance x m) (P:=fun x=>sm (tInstance) x) (T:=tot (tInstance)) (fun x hx m m0 m1=>laws_szInstance_ok x m m0 m1 (hb.2 x hx)) (fun x hx m m0 m1=>laws_szInstance_tot x m m0 m1 (hb.2 x hx)) (fun k m=>rfl) m0 m1 (by omega)
theorem laws_szStringS_tot (a:List (List UInt8)) (left:Int) (h0:0≤left) (h1:left≤1048576) (hb:bnd (.sl (.str)) a):Szt (laws_szStringS a left) left (tot (.sl (.str)) a):=by
 unfold laws_szStringS
 refine (Szt.len h0 h1 (by omega) hb.1 (fun hw m0 m1=>(?_:Szt _ _ ((a.map (tot (.str))).sum)))).mono (by rw [tot_sl];omega)
 rw [hw]
 exact Szt.loop (l:=a) (α:=List UInt8) (f:=fun (x:List UInt8) (m:Int)=>if IntKind.i64.wrap (m-(x.length:Int))<0 then some (-1) else some (IntKind.i64.wrap (m-(x.length:Int)))) (P:=fun (x:List UInt8)=>sm .str x) (T:=fun (x:List UInt8)=>tot .str x) (fun x hx m m0 m1=>Szd.str x m m0 m1 (hb.2 x hx)) (fun x hx m m0 m1=>Szt.str x m m0 m1 (hb.2 x hx)) (fun k m=>by
  show laws_szStringS_loop0 a m (k:Int)=_
  unfold laws_szStringS_loop0
  congr 1;congr 1;funext x;split<;>simp_all) m0 m1 (by omega)
theorem laws_szPort_tot (a:TPort) (left:Int) (h0:0≤left) (h1:left≤1048576) (hb:bnd (tPort) a):Szt (laws_szPort a left) left (tot (tPort) a):=by
 unfold laws_szPort
 exact (Szt.len h0 h1 (by omega) hb.1 (fun hw0 a0 b0=>by rw [hw0];exact Szt.ret)).mono (by simp only [tot_pair,tot_int,tot_bool,tot_unit,tot_str];omega)
theorem laws_szPortS_tot (a:List (TPort)) (left:Int) (h0:0≤left) (h1:left≤1048576) (hb:bnd (.sl (tPort)) a):Szt (laws_szPortS a left) left (tot (.sl (tPort)) a):=by
 unfold laws_szPortS
 refine (Szt.len h0 h1 (by omega) hb.1 (fun hw m0 m1=>(?_:Szt _ _ ((a.map (tot (tPort))).sum)))).mono (by rw [tot_sl];omega)
 rw [hw]
 exact Szt.loop (f:=fun x m=>laws_szPort x m) (P:=fun x=>sm (tPort) x) (T:=tot (tPort)) (fun x hx m m0 m1=>laws_szPort_ok x m m0 m1 (hb.2 x hx)) (fun x hx m m0 m1=>laws_szPort_tot x m m0 m1 (hb.2 x hx)) (fun k m=>rfl) m0 m1 (by omega)
theorem laws_szDesign_tot (a:TDesign) (left:Int) (h0:0≤left) (h1:left≤1048576) (hb:bnd (tDesign) a):Szt (laws_szDesign a left) left (tot (tDesign) a):=by
 unfold laws_szDesign
 exact (Szt.then (laws_szInstanceS_tot a.1 _ h0 h1 hb.1) h0 h1 (fun m0 a0 b0=>Szt.then (laws_szStringS_tot a.2.1 _ a0 b0 hb.2.1) a0 b0 (fun m1 a1 b1=>Szt.last (laws_szPortS_tot a.2.2.1 _ a1 b1 hb.2.2.1)))).mono (by simp only [tot_pair,tot_int,tot_bool,tot_unit,tot_str];omega)
theorem laws_szWire_tot (a:TWire) (left:Int) (h0:0≤left) (h1:left≤1048576) (hb:bnd (tWire) a):Szt (laws_szWire a left) left (tot (tWire) a):=by
 unfold laws_szWire
 exact (Szt.then (laws_szInt64S_tot a.1 _ h0 h1 hb.1) h0 h1 (fun m0 a0 b0=>Szt.then (laws_szInt64S_tot a.2.1 _ a0 b0 hb.2.1) a0 b0 (fun m1 a1 b1=>Szt.then (laws_szInt64S_tot a.2.2.1 _ a1 b1 hb.2.2.1) a1 b1 (fun m2 a2 b2=>Szt.last (laws_szInt64S_tot a.2.2.2.1 _ a2 b2 hb.2.2.2.1))))).mono (by simp only [tot_pair,tot_int,tot_bool,tot_unit,tot_str];omega)
theorem laws_szWireS_tot (a:List (TWire)) (left:Int) (h0:0≤left) (h1:left≤1048576) (hb:bnd (.sl (tWire)) a):Szt (laws_szWireS a left) left (tot (.sl (tWire)) a):=by
 unfold laws_szWireS
 refine (Szt.len h0 h1 (by omega) hb.1 (fun hw m0 m1=>(?_:Szt _ _ ((a.map (tot (tWire))).sum)))).mono (by rw [tot_sl];omega)
 rw [hw]
 exact Szt.loop (f:=fun x m=>laws_szWire x m) (P:=fun x=>sm (tWire) x) (T:=tot (tWire)) (fun x hx m m0 m1=>laws_szWire_ok x m m0 m1 (hb.2 x hx)) (fun x hx m m0 m1=>laws_szWire_tot x m m0 m1 (hb.2 x hx)) (fun k m=>rfl) m0 m1 (by omega)
theorem laws_szBlock_tot (a:TBlock) (left:Int) (h0:0≤left) (h1:left≤1048576) (hb:bnd (tBlock) a):Szt (laws_szBlock a left) left (tot (tBlock) a):=by
 unfold laws_szBlock
 exact (Szt.then (laws_szLibrary_tot a.1 _ h0 h1 hb.1) h0 h1 (fun m0 a0 b0=>Szt.then (laws_szDesign_tot a.2.1 _ a0 b0 hb.2.1) a0 b0 (fun m1 a1 b1=>Szt.last (laws_szWireS_tot a.2.2.1 _ a1 b1 hb.2.2.1)))).mono (by simp only [tot_pair,tot_int,tot_bool,tot_unit,tot_str];omega)
theorem laws_szEdit_tot (a:TEdit) (left:Int) (h0:0≤left) (h1:left≤1048576) (hb:bnd (tEdit) a):Szt (laws_szEdit a left) left (tot (tEdit) a):=by
 unfold laws_szEdit
 exact (Szt.len h0 h1 (by omega) hb.2.2.2.2.2.1 (fun hw0 a0 b0=>by rw [hw0];exact Szt.last (laws_szWire_tot a.2.2.2.2.2.2.1 _ a0 b0 hb.2.2.2.2.2.2.1))).mono (by simp only [tot_pair,tot_int,tot_bool,tot_unit,tot_str];omega)
theorem laws_markPinS_mk (a:List (TPin)) (k:Int) (hs:sm (.sl (tPin)) a) (h0:0≤k) (h1:k+(cnt (.sl (tPin)) a:Int)≤4611686018427387904):Mkd (laws_markPinS a k) k (cnt (.sl (tPin)) a):=by
 unfold laws_markPinS
 have hl:a.length≤1048576:=by have:=hs.1;omega
 refine Mkd.loop (l:=a) (c:=cnt (tPin)) (fun j m x L hj hj' hL hx hxm hm0 hm1 hj2=>?_) (fun m L hL=>?_) hl h0 h1
 ·have hsx:=hs.2 x hxm
  have hc:((cnt (tPin) x:Nat):Int)=0+1+1+1+1:=by simp only [cnt_pair,cnt_int,cnt_bool,cnt_unit,cnt_str];omega
  obtain ⟨s0,e0⟩:=markText_ok (m) (by omega) (by omega)
  have hx2:atI L (j:Int)=some x:=by rw [atI_nat];exact hx
  have hb:∀ {β:Type} (y:TPin) (F:TPin→Option β),(atI (List.set L j y) (j:Int)).bind F=F y:=fun y F=>by rw [atI_set hj];rfl
  simp only [laws_markPinS_loop0,if_pos hj',Int.toNat_natCast,hx2,↓hb,Option.bind_some,List.set_set,e0]
  refine markStep ?_ ?_
  ·have hc:=hc;simp (disch:=omega) only [W_in];omega
  ·simp (disch:=omega) only [W_in];omega
 ·simp only [laws_markPinS_loop0,Int.lt_irrefl,if_false]
theorem laws_markInt64S_mk (a:List (Int)) (k:Int) (hs:sm (.sl (.int .i64)) a) (h0:0≤k) (h1:k+(cnt (.sl (.int .i64)) a:Int)≤4611686018427387904):Mkd (laws_markInt64S a k) k (cnt (.sl (.int .i64)) a):=by
 unfold laws_markInt64S
 have hl:a.length≤1048576:=by have:=hs.1;omega
 refine Mkd.loop (l:=a) (c:=cnt (.int .i64)) (fun j m x L hj hj' hL hx hxm hm0 hm1 hj2=>?_) (fun m L hL=>?_) hl h0 h1
 ·have hsx:=hs.2 x hxm
  have hc:((cnt (.int .i64) x:Nat):Int)=0+1:=by rfl
  simp (disch:=omega) only [laws_markInt64S_loop0,if_pos hj',atI_nat,hx,Option.bind_some,W_in,Int.toNat_natCast,atI_set,List.length_set,List.set_set,List.getElem?_set_self]
  refine ⟨_,congrArg some (congrArg Sum.inl (Prod.ext ?_ (Prod.ext ?_ (Prod.ext rfl rfl))))⟩
  ·show _=m+_;rw [hc];omega
  ·simp only;omega
 ·simp only [laws_markInt64S_loop0,Int.lt_irrefl,if_false]
theorem laws_markTableS_mk (a:List (TTable)) (k:Int) (hs:sm (.sl (tTable)) a) (h0:0≤k) (h1:k+(cnt (.sl (tTable)) a:Int)≤4611686018427387904):Mkd (laws_markTableS a k) k (cnt (.sl (tTable)) a):=by
 unfold laws_markTableS
 have hl:a.length≤1048576:=by have:=hs.1;omega
 refine Mkd.loop (l:=a) (c:=cnt (tTable)) (fun j m x L hj hj' hL hx hxm hm0 hm1 hj2=>?_) (fun m L hL=>?_) hl h0 h1
 ·have hsx:=hs.2 x hxm
  have hc:((cnt (tTable) x:Nat):Int)=0+((cnt (.sl (.int .i64)) x.1:Nat):Int)+((cnt (.sl (.int .i64)) x.2.1:Nat):Int)+((cnt (.sl (.int .i64)) x.2.2.1:Nat):Int):=by simp only [cnt_pair,cnt_int,cnt_bool,cnt_unit,cnt_str];omega
  obtain ⟨s0,e0⟩:=laws_markInt64S_mk x.1 (m) hsx.1 (by omega) (by omega)
  obtain ⟨s1,e1⟩:=laws_markInt64S_mk x.2.1 (m+((cnt (.sl (.int .i64)) x.1:Nat):Int)) hsx.2.1 (by omega) (by omega)
  obtain ⟨s2,e2⟩:=laws_markInt64S_mk x.2.2.1 (m+((cnt (.sl (.int .i64)) x.1:Nat):Int)+((cnt (.sl (.int .i64)) x.2.1:Nat):Int)) hsx.2.2.1 (by omega) (by omega)
  simp (disch:=omega) only [laws_markTableS_loop0,if_pos hj',atI_nat,hx,Option.bind_some,W_in,Int.toNat_natCast,atI_set,List.length_set,List.set_set,List.getElem?_set_self,e0,e1,e2]
  refine ⟨_,congrArg some (congrArg Sum.inl (Prod.ext ?_ (Prod.ext ?_ (Prod.ext rfl rfl))))⟩
  ·show _=m+_;rw [hc];omega
  ·simp only;omega
 ·simp only [laws_markTableS_loop0,Int.lt_irrefl,if_false]
theorem laws_markArcS_mk (a:List (TArc)) (k:Int) (hs:sm (.sl (tArc)) a) (h0:0≤k) (h1:k+(cnt (.sl (tArc)) a:Int)≤4611686018427387904):Mkd (laws_markArcS a k) k (cnt (.sl (tArc)) a):=by
 unfold laws_markArcS
 have hl:a.length≤1048576:=by have:=hs.1;omega
 refine Mkd.loop (l:=a) (c:=cnt (tArc)) (fun j m x L hj hj' hL hx hxm hm0 hm1 hj2=>?_) (fun m L hL=>?_) hl h0 h1
 ·have hsx:=hs.2 x hxm
  have hc:((cnt (tArc) x:Nat):Int)=0+1+1+1+1+((cnt (.sl (tTable)) x.2.2.2.2.1:Nat):Int)+((cnt (.sl (tTable)) x.2.2.2.2.2.1:Nat):Int):=by simp only [cnt_pair,cnt_int,cnt_bool,cnt_unit,cnt_str];omega
  obtain ⟨s0,e0⟩:=laws_markTableS_mk x.2.2.2.2.1 (m+1+1+1+1) hsx.2.2.2.2.1 (by omega) (by omega)
  obtain ⟨s1,e1⟩:=laws_markTableS_mk x.2.2.2.2.2.1 (m+1+1+1+1+((cnt (.sl (tTable)) x.2.2.2.2.1:Nat):Int)) hsx.2.2.2.2.2.1 (by omega) (by omega)
  simp (disch:=omega) only [laws_markArcS_loop0,if_pos hj',atI_nat,hx,Option.bind_some,W_in,Int.toNat_natCast,atI_set,List.length_set,List.set_set,List.getElem?_set_self,e0,e1]
  refine ⟨_,congrArg some (congrArg Sum.inl (Prod.ext ?_ (Prod.ext ?_ (Prod.ext rfl rfl))))⟩
  ·show _=m+_;rw [hc];omega
  ·simp only;omega
 ·simp only [laws_markArcS_loop0,Int.lt_irrefl,if_false]
theorem laws_markCellS_mk (a:List (TCell)) (k:Int) (hs:sm (.sl (tCell)) a) (h0:0≤k) (h1:k+(cnt (.sl (tCell)) a:Int)≤4611686018427387904):Mkd (laws_markCellS a k) k (cnt (.sl (tCell)) a):=by
 unfold laws_markCellS
 have hl:a.length≤1048576:=by have:=hs.1;omega
 refine Mkd.loop (l:=a) (c:=cnt (tCell)) (fun j m x L hj hj' hL hx hxm hm0 hm1 hj2=>?_) (fun m L hL=>?_) hl h0 h1
 ·have hsx:=hs.2 x hxm
  have hc:((cnt (tCell) x:Nat):Int)=0+1+1+((cnt (.sl (tPin)) x.2.2.1:Nat):Int)+((cnt (.sl (tArc)) x.2.2.2.1:Nat):Int)+((cnt (.sl (.int .i64)) x.2.2.2.2.1:Nat):Int)+1+1:=by simp only [cnt_pair,cnt_int,cnt_bool,cnt_unit,cnt_str];omega
  obtain ⟨s0,e0⟩:=markText_ok (m) (by omega) (by omega)
  obtain ⟨s1,e1⟩:=laws_markPinS_mk x.2.2.1 (m+1+1) hsx.2.2.1 (by omega) (by omega)
  obtain ⟨s2,e2⟩:=laws_markArcS_mk x.2.2.2.1 (m+1+1+((cnt (.sl (tPin)) x.2.2.1:Nat):Int)) hsx.2.2.2.1 (by omega) (by omega)
  obtain ⟨s3,e3⟩:=laws_markInt64S_mk x.2.2.2.2.1 (m+1+1+((cnt (.sl (tPin)) x.2.2.1:Nat):Int)+((cnt (.sl (tArc)) x.2.2.2.1:Nat):Int)) hsx.2.2.2.2.1 (by omega) (by omega)
  simp (disch:=omega) only [laws_markCellS_loop0,if_pos hj',atI_nat,hx,Option.bind_some,W_in,Int.toNat_natCast,atI_set,List.length_set,List.set_set,List.getElem?_set_self,e0,e1,e2,e3]
  refine ⟨_,congrArg some (congrArg Sum.inl (Prod.ext ?_ (Prod.ext ?_ (Prod.ext rfl rfl))))⟩
  ·show _=m+_;rw [hc];omega
  ·simp only;omega
 ·simp only [laws_markCellS_loop0,Int.lt_irrefl,if_false]
theorem laws_markLibrary_mk (a:TLibrary) (k:Int) (hs:sm (tLibrary) a) (h0:0≤k) (h1:k+((cnt (tLibrary) a:Nat):Int)≤4611686018427387904):Mkd (laws_markLibrary a k) k (cnt (tLibrary) a):=by
 unfold laws_markLibrary
 have hc:((cnt (tLibrary) a:Nat):Int)=0+(((cnt (.sl (tCell)) a.1):Nat):Int):=by simp only [cnt_pair,cnt_int,cnt_bool,cnt_unit,cnt_str];omega
 obtain ⟨s0,e0⟩:=laws_markCellS_mk a.1 (k) hs.1 (by omega) (by omega)
 simp only [Option.bind_some,e0]
 exact ⟨_,congrArg some (Prod.ext (by rfl) rfl)⟩
theorem laws_markInstanceS_mk (a:List (TInstance)) (k:Int) (hs:sm (.sl (tInstance)) a) (h0:0≤k) (h1:k+(cnt (.sl (tInstance)) a:Int)≤4611686018427387904):Mkd (laws_markInstanceS a k) k (cnt (.sl (tInstance)) a):=by
 unfold laws_markInstanceS
 have hl:a.length≤1048576:=by have:=hs.1;omega
 refine Mkd.loop (l:=a) (c:=cnt (tInstance)) (fun j m x L hj hj' hL hx hxm hm0 hm1 hj2=>?_) (fun m L hL=>?_) hl h0 h1
 ·have hsx:=hs.2 x hxm
  have hc:((cnt (tInstance) x:Nat):Int)=0+1+1+((cnt (.sl (.int .i64)) x.2.2.1:Nat):Int):=by simp only [cnt_pair,cnt_int,cnt_bool,cnt_unit,cnt_str];omega
  obtain ⟨s0,e0⟩:=markText_ok (m) (by omega) (by omega)
  obtain ⟨s1,e1⟩:=laws_markInt64S_mk x.2.2.1 (m+1+1) hsx.2.2.1 (by omega) (by omega)
  simp (disch:=omega) only [laws_markInstanceS_loop0,if_pos hj',atI_nat,hx,Option.bind_some,W_in,Int.toNat_natCast,atI_set,List.length_set,List.set_set,List.getElem?_set_self,e0,e1]
  refine ⟨_,congrArg some (congrArg Sum.inl (Prod.ext ?_ (Prod.ext ?_ (Prod.ext rfl rfl))))⟩
  ·show _=m+_;rw [hc];omega
  ·simp only;omega
 ·simp only [laws_markInstanceS_loop0,Int.lt_irrefl,if_false]
theorem laws_markStringS_mk (a:List (List UInt8)) (k:Int) (hs:sm (.sl (.str)) a) (h0:0≤k) (h1:k+(cnt (.sl (.str)) a:Int)≤4611686018427387904):Mkd (laws_markStringS a k) k (cnt (.sl (.str)) a):=by
 unfold laws_markStringS
 have hl:a.length≤1048576:=by have:=hs.1;omega
 refine Mkd.loop (l:=a) (c:=cnt (.str)) (fun j m x L hj hj' hL hx hxm hm0 hm1 hj2=>?_) (fun m L hL=>?_) hl h0 h1
 ·have hsx:=hs.2 x hxm
  have hc:((cnt (.str) x:Nat):Int)=0+1:=by rfl
  obtain ⟨s0,e0⟩:=markText_ok (m) (by omega) (by omega)
  simp (disch:=omega) only [laws_markStringS_loop0,if_pos hj',atI_nat,hx,Option.bind_some,W_in,Int.toNat_natCast,atI_set,List.length_set,List.set_set,List.getElem?_set_self,e0]
  refine ⟨_,congrArg some (congrArg Sum.inl (Prod.ext ?_ (Prod.ext ?_ (Prod.ext rfl rfl))))⟩
  ·show _=m+_;rw [hc];omega
  ·simp only;omega
 ·simp only [laws_markStringS_loop0,Int.lt_irrefl,if_false]
theorem laws_markPortS_mk (a:List (TPort)) (k:Int) (hs:sm (.sl (tPort)) a) (h0:0≤k) (h1:k+(cnt (.sl (tPort)) a:Int)≤4611686018427387904):Mkd (laws_markPortS a k) k (cnt (.sl (tPort)) a):=by
 unfold laws_markPortS
 have hl:a.length≤1048576:=by have:=hs.1;omega
 refine Mkd.loop (l:=a) (c:=cnt (tPort)) (fun j m x L hj hj' hL hx hxm hm0 hm1 hj2=>?_) (fun m L hL=>?_) hl h0 h1
 ·have hsx:=hs.2 x hxm
  have hc:((cnt (tPort) x:Nat):Int)=0+1+1+1:=by simp only [cnt_pair,cnt_int,cnt_bool,cnt_unit,cnt_str];omega
  obtain ⟨s0,e0⟩:=markText_ok (m) (by omega) (by omega)
  simp (disch:=omega) only [laws_markPortS_loop0,if_pos hj',atI_nat,hx,Option.bind_some,W_in,Int.toNat_natCast,atI_set,List.length_set,List.set_set,List.getElem?_set_self,e0]
  refine ⟨_,congrArg some (congrArg Sum.inl (Prod.ext ?_ (Prod.ext ?_ (Prod.ext rfl rfl))))⟩
  ·show _=m+_;rw [hc];omega
  ·simp only;omega
 ·simp only [laws_markPortS_loop0,Int.lt_irrefl,if_false]
theorem laws_markDesign_mk (a:TDesign) (k:Int) (hs:sm (tDesign) a) (h0:0≤k) (h1:k+((cnt (tDesign) a:Nat):Int)≤4611686018427387904):Mkd (laws_markDesign a k) k (cnt (tDesign) a):=by
 unfold laws_markDesign
 have hc:((cnt (tDesign) a:Nat):Int)=0+(((cnt (.sl (tInstance)) a.1):Nat):Int)+(((cnt (.sl (.str)) a.2.1):Nat):Int)+(((cnt (.sl (tPort)) a.2.2.1):Nat):Int):=by simp only [cnt_pair,cnt_int,cnt_bool,cnt_unit,cnt_str];omega
 obtain ⟨s0,e0⟩:=laws_markInstanceS_mk a.1 (k) hs.1 (by omega) (by omega)
 obtain ⟨s1,e1⟩:=laws_markStringS_mk a.2.1 (k+(((cnt (.sl (tInstance)) a.1):Nat):Int)) hs.2.1 (by omega) (by omega)
 obtain ⟨s2,e2⟩:=laws_markPortS_mk a.2.2.1 (k+(((cnt (.sl (tInstance)) a.1):Nat):Int)+(((cnt (.sl (.str)) a.2.1):Nat):Int)) hs.2.2.1 (by omega) (by omega)
 simp only [Option.bind_some,e0,e1,e2]
 exact ⟨_,congrArg some (Prod.ext (by show _=k+_;rw [hc];omega) rfl)⟩
theorem laws_markWireS_mk (a:List (TWire)) (k:Int) (hs:sm (.sl (tWire)) a) (h0:0≤k) (h1:k+(cnt (.sl (tWire)) a:Int)≤4611686018427387904):Mkd (laws_markWireS a k) k (cnt (.sl (tWire)) a):=by
 unfold laws_markWireS
 have hl:a.length≤1048576:=by have:=hs.1;omega
 refine Mkd.loop (l:=a) (c:=cnt (tWire)) (fun j m x L hj hj' hL hx hxm hm0 hm1 hj2=>?_) (fun m L hL=>?_) hl h0 h1
 ·have hsx:=hs.2 x hxm
  have hc:((cnt (tWire) x:Nat):Int)=0+((cnt (.sl (.int .i64)) x.1:Nat):Int)+((cnt (.sl (.int .i64)) x.2.1:Nat):Int)+((cnt (.sl (.int .i64)) x.2.2.1:Nat):Int)+((cnt (.sl (.int .i64)) x.2.2.2.1:Nat):Int):=by simp only [cnt_pair,cnt_int,cnt_bool,cnt_unit,cnt_str];omega
  obtain ⟨s0,e0⟩:=laws_markInt64S_mk x.1 (m) hsx.1 (by omega) (by omega)
  obtain ⟨s1,e1⟩:=laws_markInt64S_mk x.2.1 (m+((cnt (.sl (.int .i64)) x.1:Nat):Int)) hsx.2.1 (by omega) (by omega)
  obtain ⟨s2,e2⟩:=laws_markInt64S_mk x.2.2.1 (m+((cnt (.sl (.int .i64)) x.1:Nat):Int)+((cnt (.sl (.int .i64)) x.2.1:Nat):Int)) hsx.2.2.1 (by omega) (by omega)
  obtain ⟨s3,e3⟩:=laws_markInt64S_mk x.2.2.2.1 (m+((cnt (.sl (.int .i64)) x.1:Nat):Int)+((cnt (.sl (.int .i64)) x.2.1:Nat):Int)+((cnt (.sl (.int .i64)) x.2.2.1:Nat):Int)) hsx.2.2.2.1 (by omega) (by omega)
  simp (disch:=omega) only [laws_markWireS_loop0,if_pos hj',atI_nat,hx,Option.bind_some,W_in,Int.toNat_natCast,atI_set,List.length_set,List.set_set,List.getElem?_set_self,e0,e1,e2,e3]
  refine ⟨_,congrArg some (congrArg Sum.inl (Prod.ext ?_ (Prod.ext ?_ (Prod.ext rfl rfl))))⟩
  ·show _=m+_;rw [hc];omega
  ·simp only;omega
 ·simp only [laws_markWireS_loop0,Int.lt_irrefl,if_false]
theorem laws_markBlock_mk (a:TBlock) (k:Int) (hs:sm (tBlock) a) (h0:0≤k) (h1:k+((cnt (tBlock) a:Nat):Int)≤4611686018427387904):Mkd (laws_markBlock a k) k (cnt (tBlock) a):=by
 unfold laws_markBlock
 have hc:((cnt (tBlock) a:Nat):Int)=0+(((cnt (tLibrary) a.1):Nat):Int)+(((cnt (tDesign) a.2.1):Nat):Int)+(((cnt (.sl (tWire)) a.2.2.1):Nat):Int):=by simp only [cnt_pair,cnt_int,cnt_bool,cnt_unit,cnt_str];omega
 obtain ⟨s0,e0⟩:=laws_markLibrary_mk a.1 (k) hs.1 (by omega) (by omega)
 obtain ⟨s1,e1⟩:=laws_markDesign_mk a.2.1 (k+(((cnt (tLibrary) a.1):Nat):Int)) hs.2.1 (by omega) (by omega)
 obtain ⟨s2,e2⟩:=laws_markWireS_mk a.2.2.1 (k+(((cnt (tLibrary) a.1):Nat):Int)+(((cnt (tDesign) a.2.1):Nat):Int)) hs.2.2.1 (by omega) (by omega)
 simp only [Option.bind_some,e0,e1,e2]
 exact ⟨_,congrArg some (Prod.ext (by show _=k+_;rw [hc];omega) rfl)⟩
end Go.Proofs.YtpkjjgdhmafonaaGreatDoor
