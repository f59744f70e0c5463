/-
  Ground of the plain laws: loops by what they come to; small arithmetic.
-/
import Derived.Test.YtoefbkmllkpkkaaGreatDoorSxM
import Derived.IntWalk
import Derived.Test.YtoefbkmllkpkkaaGreatDoorM
import Derived.Test.YtoefbkmllkpkkaaGreatDoorSxBr
namespace Go.Proofs.YtoefbkmllkpkkaaGreatDoor
set_option linter.unusedVariables false
set_option linter.unusedSimpArgs false
open Go Go.Sx
theorem Qc {n:Int} (h1:-9223372036854775808≤n) (h2:n≤9223372036854775807):IntKind.i64.wrap n=n:=IntWalk.i64_in n ⟨h1,h2⟩
theorem Zt {α:Type} (l:List α) (k:Nat):atI l (k:Int)=l[k]?:=by simp [atI]
theorem Qa {α:Type} {l:List α} {i:Int} {x:α} (h0:0≤i) (hx:l[i.toNat]?=some x):atI l i=some x:=by simp [atI,h0,hx]
theorem Zsq {α:Type} {l:List α} {i:Int} (h0:0≤i) (h1:i<l.length):∃ x,atI l i=some x∧l[i.toNat]?=some x :=
 ⟨l[i.toNat]'(by omega),by simp [atI,h0],List.getElem?_eq_getElem _⟩
theorem Zj {α:Type} {p:Prop} (h:p) (a:Option α):Zw p a=a:=by
 unfold Zw
 exact if_pos h
theorem Vz {τ ρ:Type} {step:τ→Option (τ ⊕ ρ)} (n:Nat) (I:Nat→τ→Prop) (Q:ρ→Prop) {v:τ} (h0:I 0 v)
  (hs:∀ k v,k<n→I k v→(∃ v',step v=some (.inl v')∧I (k+1) v')∨∃ r,step v=some (.inr r)∧Q r)
  (hx:∀ v,I n v→∃ r,step v=some (.inr r)∧Q r):∃ r,Zv step v=some r∧Q r:=by
 have:∀ m k v,k+m=n→I k v→∃ r,Zv step v=some r∧Q r:=by
  intro m
  induction m with
  | zero =>
   intro k v hk hI
   have:k=n:=by omega
   subst this
   obtain ⟨r,e,hq⟩:=hx v hI
   exact ⟨r,ZkG e,hq⟩
  | succ m ih =>
   intro k v hk hI
   rcases hs k v (by omega) hI with ⟨v',e,hI'⟩ | ⟨r,e,hq⟩
   ·obtain ⟨r,h1,h2⟩:=ih (k+1) v' (by omega) hI'
    exact ⟨r,by rw [Zui e];exact h1,h2⟩
   ·exact ⟨r,ZkG e,hq⟩
 exact this n 0 v (by omega) h0
theorem Xi {τ ρ:Type} {step:τ→Option (τ ⊕ ρ)} (n:Nat) (I:Nat→τ→Prop) (R:ρ) {v:τ} (h0:I 0 v)
  (hs:∀ k v,k<n→I k v→(∃ v',step v=some (.inl v')∧I (k+1) v')∨step v=some (.inr R))
  (hx:∀ v,I n v→step v=some (.inr R)):Zv step v=some R:=by
 obtain ⟨r,h1,h2⟩:=Vz n I (fun r=>r=R) h0 (fun k v hk hI=>(hs k v hk hI).elim .inl (fun h=>.inr ⟨R,h,rfl⟩)) (fun v hI=>⟨R,hx v hI,rfl⟩)
 rw [h1,h2]
theorem Z6 {α:Type} {l:List α} {k:Nat} {x:α} (hx:l[k]?=some x):l.take (k+1)=l.take k++[x]:=by
 rw [List.take_add_one,hx];rfl
theorem Zyd {ρ:Type} {g:Nat→Option ρ} {v:ρ} (h:∃ n,g n=some v) (hd:∀ n r,g n=some r→r=v):ZA8 g=some v:=by
 obtain ⟨n,hn⟩:=h
 unfold ZA8
 have hx:∃ r n,g n=some r:=⟨v,n,hn⟩
 rw [dif_pos hx]
 obtain ⟨m,hm⟩:=Classical.choose_spec hx
 rw [hd m _ hm]
def sm:(t:Ty)→t.den→Prop
 | .str,s=>(s.length:Int)≤1048576
 | .sl t,l=>(l.length:Int)≤1048576∧∀ x∈l,sm t x
 | .pair a b,d=>sm a d.1∧sm b d.2
 | _,_=>True
def Szd (o:Option Int) (left:Int) (P:Prop):Prop:=∃ n,o=some n∧n≤left∧(0≤n→P)
theorem Szd.mono {o:Option Int} {left:Int} {P Q:Prop} (h:Szd o left P) (hpq:P→Q):Szd o left Q:=by
 obtain ⟨n,a,b,c⟩:=h;exact ⟨n,a,b,fun h=>hpq (c h)⟩
theorem Szd.then {o:Option Int} {left:Int} {P Q:Prop} (h:Szd o left P) (h0:0≤left) (hl:left≤1048576) {F:Int→Option Int} (h2:∀ n,0≤n→n≤1048576→P→Szd (F n) n Q) :
  Szd (o.bind fun n=>if n<0 then some (-1) else F n) left Q:=by
 obtain ⟨n,e,hle,hP⟩:=h
 rw [e,Option.bind_some]
 split
 ·rename_i hn
  exact ⟨-1,rfl,by omega,fun h=>by omega⟩
 ·rename_i hn
  obtain ⟨m,e2,h3,h4⟩:=h2 n (by omega) (by omega) (hP (by omega))
  exact ⟨m,e2,by omega,h4⟩
theorem Szd.last {o:Option Int} {left:Int} {P Q:Prop} (h:Szd o left P) (hl:0≤left) (hpq:P→Q):Szd (o.bind fun n=>if n<0 then some (-1) else some n) left Q:=by
 obtain ⟨n,e,hle,hP⟩:=h
 rw [e,Option.bind_some]
 split
 ·rename_i hn
  exact ⟨-1,rfl,by omega,fun h=>by omega⟩
 ·exact ⟨n,rfl,hle,fun h=>hpq (hP h)⟩
theorem Szd.len {left n:Int} {Q:Prop} {B:Option Int} (h0:0≤left) (hl:left≤1048576) (hn:0≤n) (hb:n≤9223372036854775807)
  (h2:IntKind.i64.wrap (left-n)=left-n→0≤left-n→left-n≤1048576→n≤1048576→Szd B (left-n) Q) :
  Szd (if IntKind.i64.wrap (left-n)<0 then some (-1) else B) left Q:=by
 have hw:=Qc (n:=left-n) (by omega) (by omega)
 rw [hw]
 split
 ·rename_i hn
  exact ⟨-1,rfl,by omega,fun h=>by omega⟩
 ·rename_i hn
  obtain ⟨m,e2,h3,h4⟩:=h2 hw (by omega) (by omega) (by omega)
  exact ⟨m,e2,by omega,h4⟩
theorem Szd.ret {left:Int} {P:Prop} (h:P):Szd (some left) left P:=⟨left,rfl,Int.le_refl _,fun _=>h⟩
theorem Szd.loop {α:Type} {l:List α} {f:α→Int→Option Int} {P:α→Prop} {step:Int×Int×Unit→Option ((Int×Int×Unit) ⊕ Int)}
  (hf:∀ x∈l,∀ m,0≤m→m≤1048576→Szd (f x m) m (P x))
  (hstep:∀ (k:Nat) (m:Int),step (m,(k:Int),())=if (k:Int)<(l.length:Int) then (atI l (k:Int)).bind fun x=>(f x m).bind fun n=>if n<0 then some (.inr (-1)) else some (.inl (n,IntKind.i64.wrap ((k:Int)+1),())) else some (.inr m))
  {left:Int} (h0:0≤left) (h1:left≤1048576) (hl:(l.length:Int)≤1048576):Szd (Zv step (left,0,())) left (∀ x∈l,P x):=by
 unfold Szd
 refine Vz l.length (fun k v=>v.2.1=(k:Int)∧0≤v.1∧v.1≤left∧∀ x∈l.take k,P x) (fun n=>n≤left∧(0≤n→∀ x∈l,P x)) ⟨rfl,h0,Int.le_refl _,by simp⟩ ?_ ?_
 ·rintro k ⟨m,i,⟨⟩⟩ hk ⟨hi,hm0,hm1,hP⟩
  simp only at hi hm0 hm1
  subst hi
  have hx:l[k]?=some l[k]:=List.getElem?_eq_getElem hk
  generalize l[k]=x at hx
  rw [hstep,if_pos (by omega),Zt,hx,Option.bind_some]
  obtain ⟨n,e,hn,hPx⟩:=hf x (List.mem_of_getElem? hx) m hm0 (by omega)
  rw [e,Option.bind_some]
  split
  ·exact .inr ⟨-1,rfl,by omega,fun h=>by omega⟩
  ·rw [Qc (by omega) (by omega)]
   refine .inl ⟨_,rfl,by simp,by dsimp only;omega,by dsimp only;omega,?_⟩
   rw [Z6 hx]
   intro y hy
   rcases List.mem_append.1 hy with hy | hy
   ·exact hP y hy
   ·simp at hy;subst hy;exact hPx (by omega)
 ·rintro ⟨m,i,⟨⟩⟩ ⟨hi,hm0,hm1,hP⟩
  simp only at hi hm0 hm1
  subst hi
  rw [List.take_length] at hP
  rw [hstep,if_neg (by omega)]
  exact ⟨m,rfl,hm1,fun _=>hP⟩
theorem Zac {α:Type} {l:List α} {f:α→Option α} {z:α} {step:Int×List α×Unit→Option ((Int×List α×Unit) ⊕ List α)} (hf:∀ x∈l,f x=some x)
  (hstep:∀ (k:Nat) (out:List α),step ((k:Int),out,())=if (k:Int)<(l.length:Int) then (atI l (k:Int)).bind fun x=>(f x).bind fun y=>(atI out (k:Int)).bind fun _=>some (.inl (IntKind.i64.wrap ((k:Int)+1),List.set out (Int.toNat (k:Int)) y,())) else some (.inr out))
  (hl:(l.length:Int)≤1048576):Zv step (0,List.replicate (Int.toNat (l.length:Int)) z,())=some l:=by
 refine Xi l.length (fun k v=>v.1=(k:Int)∧v.2.1.length=l.length∧v.2.1.take k=l.take k) _ ⟨rfl,by simp,by simp⟩ ?_ ?_
 ·rintro k ⟨i,out,⟨⟩⟩ hk ⟨hi,hlen,ht⟩
  simp only at hi hlen ht
  subst hi
  have hx:l[k]?=some l[k]:=List.getElem?_eq_getElem hk
  generalize l[k]=x at hx
  have hy:out[k]?=some (out[k]'(by omega)):=List.getElem?_eq_getElem (by omega)
  rw [hstep,if_pos (by omega),Zt,hx,Option.bind_some,hf x (List.mem_of_getElem? hx),Option.bind_some,Zt,hy,Option.bind_some,Qc (by omega) (by omega)]
  refine .inl ⟨_,rfl,by simp,by simp [hlen],?_⟩
  have hx2:(out.set k x)[k]?=some x:=by rw [List.getElem?_set_self (by omega)]
  simp only [Int.toNat_natCast]
  rw [Z6 hx2,Z6 hx,List.take_set,ht]
  rw [List.set_eq_of_length_le (by simp;omega)]
 ·rintro ⟨i,out,⟨⟩⟩ ⟨hi,hlen,ht⟩
  simp only at hi hlen ht
  subst hi
  rw [hstep,if_neg (by omega)]
  rw [List.take_length,List.take_of_length_le (by omega)] at ht
  rw [ht]
theorem Zwg {α:Type} [DecidableEq α] {l:List α} {step:Int×Unit→Option ((Int×Unit) ⊕ Bool)}
  (hstep:∀ (k:Nat),step ((k:Int),())=if (k:Int)<(l.length:Int) then (atI l (k:Int)).bind fun x=>(atI l (k:Int)).bind fun y=>if x=y then some (.inl (IntKind.i64.wrap ((k:Int)+1),())) else some (.inr false) else some (.inr true))
  (hl:(l.length:Int)≤1048576):Zv step (0,())=some true:=by
 refine Xi l.length (fun k v=>v.1=(k:Int)) _ rfl ?_ ?_
 ·rintro k ⟨i,⟨⟩⟩ hk hi
  simp only at hi
  subst hi
  have hx:l[k]?=some l[k]:=List.getElem?_eq_getElem hk
  generalize l[k]=x at hx
  rw [hstep,if_pos (by omega),Zt,hx,Option.bind_some,Option.bind_some,if_pos rfl,Qc (by omega) (by omega)]
  exact .inl ⟨_,rfl,by simp⟩
 ·rintro ⟨i,⟨⟩⟩ hi
  simp only at hi
  subst hi
  rw [hstep,if_neg (by omega)]
def Ty.fixed:Ty→Bool
 | .str=>false
 | .sl _=>false
 | .ptr _=>true
 | .fn _ _=>true
 | .pair a b=>Ty.fixed a&&Ty.fixed b
 | _=>true
theorem YJ:∀ (t:Ty),Ty.fixed t=true→∀ d:t.den,sm t d
 | .int _,_,_=>trivial
 | .bool,_,_=>trivial
 | .unit,_,_=>trivial
 | .ptr _,_,_=>trivial
 | .fn _ _,_,_=>trivial
 | .nptr _,_,_=>trivial
 | .mp _ _,_,_=>trivial
 | .str,h,_=>by simp [Ty.fixed] at h
 | .sl _,h,_=>by simp [Ty.fixed] at h
 | .pair a b,h,d=>by
  simp only [Ty.fixed,Bool.and_eq_true] at h
  exact ⟨YJ a h.1 d.1,YJ b h.2 d.2⟩
theorem Zg2 {α:Type} {l:List α} {f:α→α→Option Bool} {step:Int×Unit→Option ((Int×Unit) ⊕ Bool)} (hf:∀ x∈l,f x x=some true)
  (hstep:∀ (k:Nat),step ((k:Int),())=if (k:Int)<(l.length:Int) then (atI l (k:Int)).bind fun x=>(atI l (k:Int)).bind fun y=>(f x y).bind fun e=>if e=true then some (.inl (IntKind.i64.wrap ((k:Int)+1),())) else some (.inr false) else some (.inr true))
  (hl:(l.length:Int)≤1048576):Zv step (0,())=some true:=by
 refine Xi l.length (fun k v=>v.1=(k:Int)) _ rfl ?_ ?_
 ·rintro k ⟨i,⟨⟩⟩ hk hi
  simp only at hi
  subst hi
  have hx:l[k]?=some l[k]:=List.getElem?_eq_getElem hk
  generalize l[k]=x at hx
  rw [hstep,if_pos (by omega),Zt,hx,Option.bind_some,Option.bind_some,hf x (List.mem_of_getElem? hx),Option.bind_some,if_pos rfl,Qc (by omega) (by omega)]
  exact .inl ⟨_,rfl,by simp⟩
 ·rintro ⟨i,⟨⟩⟩ hi
  simp only at hi
  subst hi
  rw [hstep,if_neg (by omega)]
noncomputable def tr (p:Prop):Bool:=@decide p (Classical.propDecidable p)
theorem Zm2 {p:Prop} {b:Bool} (h:b=true↔p):tr p=b:=by
 unfold tr
 cases b
 ·simp at h;simp [h]
 ·simp at h;simp [h]
theorem Xa (p:Prop):tr p=true↔p:=by simp [tr]
theorem Ye {p:Prop} (h:p):tr p=true:=(Xa p).2 h
theorem ZR {p:Prop} (h:¬p):tr p=false:=by simp [tr,h]
end Go.Proofs.YtoefbkmllkpkkaaGreatDoor
/-
  Ground of the plain laws: the usual loops.
-/
namespace Go.Proofs.YtoefbkmllkpkkaaGreatDoor
set_option linter.unusedVariables false
set_option linter.unusedSimpArgs false
open Go Go.Sx
def Len {α:Type} (l:List α):Prop:=l.length≤4611686018427387904
theorem ZBb {k:Nat} {α:Type} {l:List α} (hl:Len l) (hk:k≤l.length):IntKind.i64.wrap ((k:Int)+1)=((k+1:Nat):Int):=by
 have:l.length≤4611686018427387904:=hl
 rw [Qc (by omega) (by omega)];simp
def ZbF {α:Type} (p:α→Bool) (l:List α):Int:=match l.findIdx? p with
 | some i=>i
 | none=>-1
theorem JM {α:Type} {p:α→Bool} {l:List α}:0≤ZbF p l↔l.any p=true:=by
 unfold ZbF
 split
 ·rename_i i h
  obtain ⟨h1,h2,_⟩:=List.findIdx?_eq_some_iff_getElem.1 h
  refine ⟨fun _=>List.any_eq_true.2 ⟨_,List.getElem_mem h1,h2⟩,fun _=>by omega⟩
 ·rename_i h
  rw [List.findIdx?_eq_none_iff] at h
  refine ⟨fun h'=>by omega,fun h'=>?_⟩
  obtain ⟨x,hx,hp⟩:=List.any_eq_true.1 h'
  have:=h x hx
  rw [hp] at this;cases this
theorem Jq {α ρ:Type} {l:List α} (hl:Len l) {p:α→Bool} {step:Int×Unit→Option ((Int×Unit) ⊕ ρ)} {out:Int→ρ}
  (hs:∀ (k:Nat) (x:α),l[k]?=some x→step ((k:Int),())=some (if p x=true then .inr (out k) else .inl (IntKind.i64.wrap ((k:Int)+1),())))
  (hx:step ((l.length:Int),())=some (.inr (out (-1)))):Zv step (0,())=some (out (ZbF p l)):=by
 refine Xi l.length (fun k v=>v.1=(k:Int)∧∀ x∈l.take k,p x=false) _ ⟨rfl,by simp⟩ ?_ ?_
 ·rintro k ⟨i,⟨⟩⟩ hk ⟨hi,hS⟩
  simp only at hi
  subst hi
  have hx:l[k]?=some l[k]:=List.getElem?_eq_getElem hk
  rw [hs k _ hx,ZBb hl (by omega)]
  split
  ·rename_i hp
   right
   have:l.findIdx? p=some k:=by
    rw [List.findIdx?_eq_some_iff_getElem]
    refine ⟨hk,hp,fun j hj=>?_⟩
    have:=hS l[j] (List.mem_iff_getElem?.2 ⟨j,by rw [List.getElem?_take,if_pos hj];exact List.getElem?_eq_getElem _⟩)
    simp [this]
   unfold ZbF
   rw [this]
  ·rename_i hp
   refine .inl ⟨_,rfl,rfl,?_⟩
   rw [Z6 hx]
   intro y hy
   rcases List.mem_append.1 hy with hy | hy
   ·exact hS y hy
   ·simp at hy;subst hy;simpa using hp
 ·rintro ⟨i,⟨⟩⟩ ⟨hi,hS⟩
  simp only at hi
  subst hi
  rw [List.take_length] at hS
  have:l.findIdx? p=none:=List.findIdx?_eq_none_iff.2 hS
  rw [hx]
  unfold ZbF
  rw [this]
noncomputable def sel {ρ:Type} (P:Prop) (a b:ρ):ρ:=match tr P with
 | true=>a
 | false=>b
theorem YX {ρ:Type} {P:Prop} (h:P) (a b:ρ):sel P a b=a:=by simp [sel,Ye h]
theorem YM {ρ:Type} {P:Prop} (h:¬P) (a b:ρ):sel P a b=b:=by simp [sel,ZR h]
theorem Zm3 (P:Prop):sel P true false=tr P:=by
 by_cases h:P
 ·rw [YX h,Ye h]
 ·rw [YM h,ZR h]
def ZfU {α:Type} (l:List α) (P:Nat→α→Prop):Prop:=∀ (k:Nat) (x:α),l[k]?=some x→P k x
theorem QA {α ρ:Type} {l:List α} (hl:Len l) (P:Nat→α→Prop) {step:Int×Unit→Option ((Int×Unit) ⊕ ρ)} {bad good:ρ}
  (hs:∀ (k:Nat) (x:α),l[k]?=some x→k<l.length→(∀ (j:Nat) (y:α),j<k→l[j]?=some y→P j y)→(P k x→step ((k:Int),())=some (.inl (IntKind.i64.wrap ((k:Int)+1),())))∧(¬P k x→step ((k:Int),())=some (.inr bad)))
  (hx:ZfU l P→step ((l.length:Int),())=some (.inr good)):Zv step (0,())=some (sel (ZfU l P) good bad):=by
 refine Xi l.length (fun k v=>v.1=(k:Int)∧∀ (j:Nat) (y:α),j<k→l[j]?=some y→P j y) _ ⟨rfl,fun j y hj=>by omega⟩ ?_ ?_
 ·rintro k ⟨i,⟨⟩⟩ hk ⟨hi,hS⟩
  simp only at hi
  subst hi
  have hx:l[k]?=some l[k]:=List.getElem?_eq_getElem hk
  obtain ⟨h1,h2⟩:=hs k _ hx hk hS
  by_cases hP:P k l[k]
  ·rw [h1 hP,ZBb hl (by omega)]
   refine .inl ⟨_,rfl,rfl,fun j y hj hy=>?_⟩
   by_cases hjk:j<k
   ·exact hS j y hjk hy
   ·have:j=k:=by omega
    subst this
    rw [hx] at hy;injection hy with hy;subst hy
    exact hP
  ·right
   rw [h2 hP,YM (fun h=>hP (h k _ hx))]
 ·rintro ⟨i,⟨⟩⟩ ⟨hi,hS⟩
  simp only at hi
  subst hi
  have hA:ZfU l P:=fun k x hk=>hS k x (List.getElem?_eq_some_iff.1 hk).1 hk
  rw [hx hA,YX hA]
theorem Zwj {ρ:Type} (m n:Nat) (hmn:m≤n) (hn:n≤4611686018427387904) (P:Nat→Prop) {step:Int×Unit→Option ((Int×Unit) ⊕ ρ)} {bad good:ρ}
  (hs:∀ k:Nat,m≤k→k<n→(∀ j,m≤j→j<k→P j)→(P k→step ((k:Int),())=some (.inl (IntKind.i64.wrap ((k:Int)+1),())))∧(¬P k→step ((k:Int),())=some (.inr bad)))
  (hx:(∀ j,m≤j→j<n→P j)→step ((n:Int),())=some (.inr good)):Zv step ((m:Int),())=some (sel (∀ j,m≤j→j<n→P j) good bad):=by
 refine Xi (n-m) (fun k v=>v.1=((m+k:Nat):Int)∧∀ j,m≤j→j<m+k→P j) _ ⟨by simp,fun j h1 h2=>by omega⟩ ?_ ?_
 ·rintro k ⟨i,⟨⟩⟩ hk ⟨hi,hS⟩
  simp only at hi
  subst hi
  obtain ⟨h1,h2⟩:=hs (m+k) (by omega) (by omega) hS
  by_cases hP:P (m+k)
  ·rw [h1 hP,Qc (by omega) (by omega)]
   refine .inl ⟨_,rfl,by simp only;omega,fun j ha hb=>?_⟩
   by_cases hj:j<m+k
   ·exact hS j ha hj
   ·have:j=m+k:=by omega
    subst this;exact hP
  ·right
   rw [h2 hP,YM (fun h=>hP (h (m+k) (by omega) (by omega)))]
 ·rintro ⟨i,⟨⟩⟩ ⟨hi,hS⟩
  simp only at hi
  subst hi
  have e:m+(n-m)=n:=by omega
  rw [e] at hS ⊢
  rw [hx hS,YX hS]
end Go.Proofs.YtoefbkmllkpkkaaGreatDoor
/-
  Ground of the plain laws: all lengths together; how many numbers there are; marks.
-/
namespace Go.Proofs.YtoefbkmllkpkkaaGreatDoor
set_option linter.unusedVariables false
set_option linter.unusedSimpArgs false
open Go Go.Sx
def tot:(t:Ty)→t.den→Nat
 | .str,s=>s.length
 | .sl t,l=>l.length+(l.map (tot t)).sum
 | .pair a b,d=>tot a d.1+tot b d.2
 | _,_=>0
def Szt (o:Option Int) (left:Int) (T:Nat):Prop:=∀ n,o=some n→0≤n→n+(T:Int)≤left
theorem Szt.mono {o:Option Int} {left:Int} {T T':Nat} (h:Szt o left T) (ht:T'≤T):Szt o left T':=fun n h1 h2=>by
 have:=h n h1 h2
 omega
theorem Szt.then {o:Option Int} {left:Int} {T1 T2:Nat} (h:Szt o left T1) (h0:0≤left) (hl:left≤1048576) {F:Int→Option Int} (h2:∀ n,0≤n→n≤1048576→Szt (F n) n T2) :
  Szt (o.bind fun n=>if n<0 then some (-1) else F n) left (T1+T2):=by
 intro m hm hm0
 cases ho:o with
 | none=>rw [ho] at hm;cases hm
 | some n =>
  rw [ho,Option.bind_some] at hm
  by_cases hn:n<0
  ·rw [if_pos hn] at hm;injection hm;omega
  ·rw [if_neg hn] at hm
   have a:=h n ho (by omega)
   have b:=h2 n (by omega) (by omega) m hm hm0
   omega
theorem Szt.last {o:Option Int} {left:Int} {T:Nat} (h:Szt o left T):Szt (o.bind fun n=>if n<0 then some (-1) else some n) left T:=by
 intro m hm hm0
 cases ho:o with
 | none=>rw [ho] at hm;cases hm
 | some n =>
  rw [ho,Option.bind_some] at hm
  by_cases hn:n<0
  ·rw [if_pos hn] at hm;injection hm;omega
  ·rw [if_neg hn] at hm
   injection hm with hm
   subst hm
   exact h n ho hm0
theorem Szt.len {left n:Int} {T:Nat} {B:Option Int} (h0:0≤left) (hl:left≤1048576) (hn:0≤n) (hb:n≤9223372036854775807)
  (h2:IntKind.i64.wrap (left-n)=left-n→0≤left-n→left-n≤1048576→Szt B (left-n) T) :
  Szt (if IntKind.i64.wrap (left-n)<0 then some (-1) else B) left (n.toNat+T):=by
 have hw:=Qc (n:=left-n) (by omega) (by omega)
 intro m hm hm0
 rw [hw] at hm
 by_cases hneg:left-n<0
 ·rw [if_pos hneg] at hm;injection hm;omega
 ·rw [if_neg hneg] at hm
  have:=h2 hw (by omega) (by omega) m hm hm0
  omega
theorem Szt.ret {left:Int}:Szt (some left) left 0:=fun n h _=>by injection h;omega
theorem Szt.loop {α:Type} {l:List α} {f:α→Int→Option Int} {P:α→Prop} {T:α→Nat} {step:Int×Int×Unit→Option ((Int×Int×Unit) ⊕ Int)}
  (hf:∀ x∈l,∀ m,0≤m→m≤1048576→Szd (f x m) m (P x)) (ht:∀ x∈l,∀ m,0≤m→m≤1048576→Szt (f x m) m (T x))
  (hstep:∀ (k:Nat) (m:Int),step (m,(k:Int),())=if (k:Int)<(l.length:Int) then (atI l (k:Int)).bind fun x=>(f x m).bind fun n=>if n<0 then some (.inr (-1)) else some (.inl (n,IntKind.i64.wrap ((k:Int)+1),())) else some (.inr m))
  {left:Int} (h0:0≤left) (h1:left≤1048576) (hl:(l.length:Int)≤1048576):Szt (Zv step (left,0,())) left (l.map T).sum:=by
 have:∃ r,Zv step (left,0,())=some r∧(0≤r→r+((l.map T).sum:Int)≤left):=by
  refine Vz l.length (fun k v=>v.2.1=(k:Int)∧0≤v.1∧v.1+(((l.take k).map T).sum:Int)≤left) _ ⟨rfl,h0,by simp⟩ ?_ ?_
  ·rintro k ⟨m,i,⟨⟩⟩ hk ⟨hi,hm0,hm1⟩
   simp only at hi hm0 hm1
   subst hi
   have hx:l[k]?=some l[k]:=List.getElem?_eq_getElem hk
   generalize l[k]=x at hx
   rw [hstep,if_pos (by omega),Zt,hx,Option.bind_some]
   obtain ⟨n,e,hn,hPx⟩:=hf x (List.mem_of_getElem? hx) m hm0 (by omega)
   rw [e,Option.bind_some]
   split
   ·exact .inr ⟨-1,rfl,fun h=>by omega⟩
   ·rename_i hneg
    have:=ht x (List.mem_of_getElem? hx) m hm0 (by omega) n e (by omega)
    rw [Qc (by omega) (by omega)]
    refine .inl ⟨_,rfl,by simp,by dsimp only;omega,?_⟩
    rw [Z6 hx,List.map_append,List.sum_append]
    simp only [List.map_cons,List.map_nil,List.sum_cons,List.sum_nil]
    omega
  ·rintro ⟨m,i,⟨⟩⟩ ⟨hi,hm0,hm1⟩
   simp only at hi hm0 hm1
   subst hi
   rw [List.take_length] at hm1
   rw [hstep,if_neg (by omega)]
   exact ⟨m,rfl,fun _=>hm1⟩
 obtain ⟨r,h2,h3⟩:=this
 intro n hn hn0
 rw [h2] at hn
 injection hn with hn
 subst hn
 exact h3 hn0
theorem Zqj:∀ (t:Ty),Ty.fixed t=true→∀ d:t.den,tot t d=0
 | .int _,_,_=>rfl
 | .bool,_,_=>rfl
 | .unit,_,_=>rfl
 | .ptr _,_,_=>rfl
 | .fn _ _,_,_=>rfl
 | .nptr _,_,_=>rfl
 | .mp _ _,_,_=>rfl
 | .str,h,_=>by simp [Ty.fixed] at h
 | .sl _,h,_=>by simp [Ty.fixed] at h
 | .pair a b,h,d=>by
  simp only [Ty.fixed,Bool.and_eq_true] at h
  simp only [tot,Zqj a h.1 d.1,Zqj b h.2 d.2]
theorem ZtZ {t:Ty} (h:Ty.fixed t=true) (l:List t.den):(l.map (tot t)).sum=0:=by
 induction l with
 | nil=>rfl
 | cons x r ih=>simp only [List.map_cons,List.sum_cons,Zqj t h x,ih]
theorem ZaJ (a b:Ty) (d:(Ty.pair a b).den):tot (.pair a b) d=tot a d.1+tot b d.2:=rfl
theorem Zin (t:Ty) (l:List t.den):tot (.sl t) l=l.length+(l.map (tot t)).sum:=rfl
theorem ZcX (s:List UInt8):tot .str s=s.length:=rfl
theorem ZdF (k:IntKind) (n:Int):tot (.int k) n=0:=rfl
theorem ZaO (b:Bool):tot .bool b=0:=rfl
theorem Za7 (b:Unit):tot .unit b=0:=rfl
theorem Szt.str (x:List UInt8) (m:Int) (m0:0≤m) (m1:m≤1048576) (hb:(x.length:Int)≤9223372036854775807) :
  Szt (if IntKind.i64.wrap (m-(x.length:Int))<0 then some (-1) else some (IntKind.i64.wrap (m-(x.length:Int)))) m (tot .str x):=by
 have h:Szt (if IntKind.i64.wrap (m-(x.length:Int))<0 then some (-1) else some (IntKind.i64.wrap (m-(x.length:Int)))) m ((x.length:Int).toNat+0) :=
  Szt.len m0 m1 (by omega) hb (fun hw _ _=>by rw [hw];exact Szt.ret)
 refine h.mono ?_
 rw [ZcX]
 omega
theorem Szd.str (x:List UInt8) (m:Int) (m0:0≤m) (m1:m≤1048576) (hb:(x.length:Int)≤9223372036854775807) :
  Szd (if IntKind.i64.wrap (m-(x.length:Int))<0 then some (-1) else some (IntKind.i64.wrap (m-(x.length:Int)))) m (sm .str x) :=
 Szd.len m0 m1 (by omega) hb (fun hw _ _ hn=>by rw [hw];exact Szd.ret hn)
def cnt:(t:Ty)→t.den→Nat
 | .int _,_=>1
 | .bool,_=>1
 | .str,_=>1
 | .sl t,l=>(l.map (cnt t)).sum
 | .pair a b,d=>cnt a d.1+cnt b d.2
 | _,_=>0
theorem V4 (a b:Ty) (d:(Ty.pair a b).den):cnt (.pair a b) d=cnt a d.1+cnt b d.2:=rfl
theorem ZbC (s:List UInt8):cnt .str s=1:=rfl
theorem ZaL (k:IntKind) (n:Int):cnt (.int k) n=1:=rfl
theorem V9 (b:Bool):cnt .bool b=1:=rfl
theorem V3 (b:Unit):cnt .unit b=0:=rfl
def wid:Ty→Nat
 | .int _=>1
 | .bool=>1
 | .str=>1
 | .pair a b=>wid a+wid b
 | _=>0
def ZeH:Ty→Nat
 | .sl t=>max (wid t) (ZeH t)
 | .pair a b=>max (ZeH a) (ZeH b)
 | _=>0
theorem ZuG:∀ (t:Ty) (d:t.den),cnt t d≤wid t+ZeH t*tot t d
 | .int _,_=>by simp [cnt,wid]
 | .bool,_=>by simp [cnt,wid]
 | .str,_=>by simp [cnt,wid]
 | .unit,_=>by simp [cnt]
 | .ptr _,_=>by simp [cnt]
 | .fn _ _,_=>by simp [cnt]
 | .nptr _,_=>by simp [cnt]
 | .mp _ _,_=>by simp [cnt]
 | .pair a b,d=>by
  have h1:=ZuG a d.1
  have h2:=ZuG b d.2
  have h3:ZeH a*tot a d.1≤max (ZeH a) (ZeH b)*tot a d.1:=Nat.mul_le_mul_right _ (Nat.le_max_left _ _)
  have h4:ZeH b*tot b d.2≤max (ZeH a) (ZeH b)*tot b d.2:=Nat.mul_le_mul_right _ (Nat.le_max_right _ _)
  simp only [cnt,wid,ZeH,tot,Nat.mul_add]
  omega
 | .sl t,l=>by
  have:(l.map (cnt t)).sum≤wid t*l.length+ZeH t*(l.map (tot t)).sum:=by
   induction l with
   | nil=>simp
   | cons x r ih =>
    have:=ZuG t x
    simp only [List.map_cons,List.sum_cons,List.length_cons,Nat.mul_add]
    omega
  have h1:wid t*l.length≤max (wid t) (ZeH t)*l.length:=Nat.mul_le_mul_right _ (Nat.le_max_left _ _)
  have h2:ZeH t*(l.map (tot t)).sum≤max (wid t) (ZeH t)*(l.map (tot t)).sum:=Nat.mul_le_mul_right _ (Nat.le_max_right _ _)
  simp only [cnt,wid,ZeH,tot,Nat.mul_add]
  omega
def Mkd {α:Type} (o:Option (Int×α)) (k:Int) (c:Nat):Prop:=∃ a',o=some (k+(c:Int),a')
theorem ZbA {α:Type} {L:List α} {j:Nat} {y:α} (h:j<L.length):atI (List.set L j y) (j:Int)=some y:=by
 rw [Zt,List.getElem?_set_self h]
theorem Mkd.loop {α:Type} {l:List α} {c:α→Nat} {step:Int×Int×List α×Unit→Option ((Int×Int×List α×Unit) ⊕ (Int×List α))} {k:Int}
  (hstep:∀ (j:Nat) (m:Int) (x:α) (L:List α),j<L.length→(j:Int)<(L.length:Int)→L.length=l.length→L[j]?=some x→x∈l→0≤m→m+(c x:Int)≤4611686018427387904→(j:Int)≤1048576→∃ y,step (m,(j:Int),L,())=some (.inl (m+(c x:Int),((j+1:Nat):Int),List.set L j y,())))
  (hend:∀ (m:Int) (L:List α),L.length=l.length→step (m,(L.length:Int),L,())=some (.inr (m,L)))
  (hl:l.length≤1048576) (h0:0≤k) (h1:k+((l.map c).sum:Int)≤4611686018427387904):Mkd (Zv step (k,0,l,())) k (l.map c).sum:=by
 have:∃ r,Zv step (k,0,l,())=some r∧r.1=k+((l.map c).sum:Int):=by
  refine Vz l.length (fun j v=>v.1=k+(((l.take j).map c).sum:Int)∧v.2.1=(j:Int)∧v.2.2.1.length=l.length∧∀ i,j≤i→v.2.2.1[i]?=l[i]?) _ ⟨by simp,rfl,rfl,fun i _=>rfl⟩ ?_ ?_
  ·rintro j ⟨m,i,L,⟨⟩⟩ hj ⟨hm,hi,hL,hrest⟩
   simp only at hm hi hL hrest
   subst hi
   have hx:l[j]?=some l[j]:=List.getElem?_eq_getElem hj
   have hsum:(l.map c).sum=((l.take j).map c).sum+(c l[j]+((l.drop (j+1)).map c).sum):=by
    have e:l=l.take j++(l[j]::l.drop (j+1)):=by rw [←List.drop_eq_getElem_cons hj,List.take_append_drop]
    have e2:=congrArg (fun l=>(l.map c).sum) e
    simp only [List.map_append,List.sum_append,List.map_cons,List.sum_cons] at e2
    exact e2
   obtain ⟨y,hy⟩:=hstep j m l[j] L (by omega) (by omega) hL (by rw [hrest j (Nat.le_refl _)];exact hx) (List.mem_of_getElem? hx) (by omega) (by omega) (by omega)
   left
   refine ⟨_,hy,?_,rfl,by simp [hL],fun i hi=>?_⟩
   ·rw [Z6 hx,List.map_append,List.sum_append]
    simp only [List.map_cons,List.map_nil,List.sum_cons,List.sum_nil]
    omega
   ·simp only
    rw [List.getElem?_set_ne (by omega)]
    exact hrest i (by omega)
  ·rintro ⟨m,i,L,⟨⟩⟩ ⟨hm,hi,hL,_⟩
   simp only at hm hi hL
   subst hi
   rw [List.take_length] at hm
   rw [←hL,hend m L hL]
   exact ⟨_,rfl,hm⟩
 obtain ⟨r,h2,h3⟩:=this
 exact ⟨r.2,by rw [h2,←h3]⟩
end Go.Proofs.YtoefbkmllkpkkaaGreatDoor
/-
  Ground of the plain laws: what marking makes of a value, and that the marks are held.
-/
namespace Go.Proofs.YtoefbkmllkpkkaaGreatDoor
set_option linter.unusedVariables false
set_option linter.unusedSimpArgs false
open Go Go.Sx
def mkL {α:Type} (f:α→Int→α) (c:α→Nat):List α→Int→List α
 | [],_=>[]
 | x::r,k=>f x k::mkL f c r (k+(c x:Int))
def mkA (mt:Int→List UInt8):(t:Ty)→t.den→Int→t.den
 | .int _,_,k=>k
 | .str,_,k=>mt k
 | .bool,_,k=>decide (Int.tmod k 3=0)
 | .pair a b,d,k=>(mkA mt a d.1 k,mkA mt b d.2 (k+(cnt a d.1:Int)))
 | .sl t,l,k=>mkL (mkA mt t) (cnt t) l k
 | .unit,d,_=>d
 | .ptr _,d,_=>d
 | .fn _ _,d,_=>d
 | .nptr _,d,_=>d
 | .mp _ _,d,_=>d
def Zm5:(t:Ty)→t.den→Nat
 | .pair a b,d=>Zm5 a d.1+Zm5 b d.2
 | .sl t,l=>cnt (.sl t) l
 | _,_=>0
def mkT (mt:Int→List UInt8):(t:Ty)→t.den→Int→t.den
 | .pair a b,d,k=>(mkT mt a d.1 k,mkT mt b d.2 (k+(Zm5 a d.1:Int)))
 | .sl t,l,k=>mkL (mkA mt t) (cnt t) l k
 | .int _,d,_=>d
 | .str,d,_=>d
 | .bool,d,_=>d
 | .unit,d,_=>d
 | .ptr _,d,_=>d
 | .fn _ _,d,_=>d
 | .nptr _,d,_=>d
 | .mp _ _,d,_=>d
theorem Ziv {α:Type} (f:α→Int→α) (c:α→Nat):∀ (l:List α) (k:Int),(mkL f c l k).length=l.length
 | [],_=>rfl
 | x::r,k=>by simp only [mkL,List.length_cons,Ziv f c r]
theorem Zyq {α:Type} (f:α→Int→α) (c:α→Nat):∀ (l:List α) (k:Int) (j:Nat),(mkL f c l k)[j]?=(l[j]?).map (fun x=>f x (k+(((l.take j).map c).sum:Int)))
 | [],k,j=>by simp [mkL]
 | x::r,k,0=>by simp [mkL]
 | x::r,k,j+1=>by
  simp only [mkL,List.getElem?_cons_succ,Zyq f c r,List.take_succ_cons,List.map_cons,List.sum_cons]
  congr 1
  funext y
  congr 1
  omega
theorem Zsg {α:Type} (f:α→Int→α) (c:α→Nat):∀ (l r:List α) (k:Int),mkL f c (l++r) k=mkL f c l k++mkL f c r (k+((l.map c).sum:Int))
 | [],r,k=>by simp [mkL]
 | x::l,r,k=>by
  simp only [List.cons_append,mkL,Zsg f c l r,List.map_cons,List.sum_cons]
  congr 3
  omega
theorem Zzp {α:Type} {f:α→Int→α} {c:α→Nat} {l:List α} {k:Int} {j:Nat} {x:α} (hx:l[j]?=some x):mkL f c (l.take (j+1)) k=mkL f c (l.take j) k++[f x (k+(((l.take j).map c).sum:Int))]:=by
 rw [Z6 hx,Zsg];rfl
theorem Zud {α:Type} {l:List α} {f:α→Int→α} {c:α→Nat} {step:Int×Int×List α×Unit→Option ((Int×Int×List α×Unit) ⊕ (Int×List α))} {k:Int}
  (hstep:∀ (j:Nat) (m:Int) (x:α) (L:List α),j<L.length→(j:Int)<(L.length:Int)→L[j]?=some x→x∈l→0≤m→m+(c x:Int)≤4611686018427387904→(j:Int)≤1048576→step (m,(j:Int),L,())=some (.inl (m+(c x:Int),((j+1:Nat):Int),List.set L j (f x m),())))
  (hend:∀ (m:Int) (L:List α),step (m,(L.length:Int),L,())=some (.inr (m,L)))
  (hl:l.length≤1048576) (h0:0≤k) (h1:k+((l.map c).sum:Int)≤4611686018427387904):Zv step (k,0,l,())=some (k+((l.map c).sum:Int),mkL f c l k):=by
 refine Xi l.length (fun j v=>v.1=k+(((l.take j).map c).sum:Int)∧v.2.1=(j:Int)∧v.2.2.1=mkL f c (l.take j) k++l.drop j) _ ⟨by simp,rfl,by simp [mkL]⟩ ?_ ?_
 ·rintro j ⟨m,i,L,⟨⟩⟩ hj ⟨hm,hi,hL⟩
  simp only at hm hi hL
  subst hi
  have hx:l[j]?=some l[j]:=List.getElem?_eq_getElem hj
  generalize hxv:l[j]=x at hx
  have hlen:(mkL f c (l.take j) k).length=j:=by rw [Ziv,List.length_take];omega
  have hd:l.drop j=x::l.drop (j+1):=by rw [List.drop_eq_getElem_cons hj,hxv]
  have hLl:L.length=l.length:=by rw [hL,List.length_append,hlen,List.length_drop];omega
  have hLx:L[j]?=some x:=by rw [hL,List.getElem?_append_right (by omega),hlen,Nat.sub_self,hd];rfl
  have hsum:(l.map c).sum=((l.take j).map c).sum+(c x+((l.drop (j+1)).map c).sum):=by
   have e:l=l.take j++(x::l.drop (j+1)):=by rw [←hd,List.take_append_drop]
   have e2:=congrArg (fun l=>(l.map c).sum) e
   simp only [List.map_append,List.sum_append,List.map_cons,List.sum_cons] at e2
   exact e2
  left
  refine ⟨_,hstep j m x L (by omega) (by omega) hLx (List.mem_of_getElem? hx) (by omega) (by omega) (by omega),?_,rfl,?_⟩
  ·rw [Z6 hx,List.map_append,List.sum_append]
   simp only [List.map_cons,List.map_nil,List.sum_cons,List.sum_nil]
   omega
  ·simp only
   rw [hL,Zzp hx,List.set_append,if_neg (by omega),hlen,Nat.sub_self,hd,hm]
   simp
 ·rintro ⟨m,i,L,⟨⟩⟩ ⟨hm,hi,hL⟩
  simp only at hm hi hL
  subst hi
  rw [List.take_length,List.drop_length,List.append_nil] at hL
  rw [List.take_length] at hm
  subst hL
  rw [←Ziv f c l k,hend,hm]
theorem Znu {α:Type} {l:List α} {f:α→Int→α} {c:α→Nat} {step:Int×Int×Unit→Option ((Int×Int×Unit) ⊕ Int)} {k:Int}
  (hstep:∀ (j:Nat) (m:Int) (x:α),(j:Int)<((mkL f c l k).length:Int)→(mkL f c l k)[j]?=some (f x m)→x∈l→0≤m→m+(c x:Int)≤4611686018427387904→(j:Int)≤1048576→step (m,(j:Int),())=some (.inl (m+(c x:Int),((j+1:Nat):Int),())))
  (hend:∀ (m:Int),step (m,((mkL f c l k).length:Int),())=some (.inr m))
  (hl:l.length≤1048576) (h0:0≤k) (h1:k+((l.map c).sum:Int)≤4611686018427387904):Zv step (k,0,())=some (k+((l.map c).sum:Int)):=by
 refine Xi l.length (fun j v=>v.1=k+(((l.take j).map c).sum:Int)∧v.2.1=(j:Int)) _ ⟨by simp,rfl⟩ ?_ ?_
 ·rintro j ⟨m,i,⟨⟩⟩ hj ⟨hm,hi⟩
  simp only at hm hi
  subst hi
  have hx:l[j]?=some l[j]:=List.getElem?_eq_getElem hj
  generalize hxv:l[j]=x at hx
  have hsum:(l.map c).sum=((l.take j).map c).sum+(c x+((l.drop (j+1)).map c).sum):=by
   have hd:l.drop j=x::l.drop (j+1):=by rw [List.drop_eq_getElem_cons hj,hxv]
   have e:l=l.take j++(x::l.drop (j+1)):=by rw [←hd,List.take_append_drop]
   have e2:=congrArg (fun l=>(l.map c).sum) e
   simp only [List.map_append,List.sum_append,List.map_cons,List.sum_cons] at e2
   exact e2
  left
  refine ⟨_,hstep j m x (by rw [Ziv];omega) (by rw [Zyq,hx,hm];rfl) (List.mem_of_getElem? hx) (by omega) (by omega) (by omega),?_,rfl⟩
  rw [Z6 hx,List.map_append,List.sum_append]
  simp only [List.map_cons,List.map_nil,List.sum_cons,List.sum_nil]
  omega
 ·rintro ⟨m,i,⟨⟩⟩ ⟨hm,hi⟩
  simp only at hm hi
  subst hi
  rw [List.take_length] at hm
  rw [←Ziv f c l k,hend,hm]
theorem Ztj:∀ (t:Ty) (d:t.den),Zm5 t d≤cnt t d
 | .pair a b,d=>Nat.add_le_add (Ztj a d.1) (Ztj b d.2)
 | .sl t,l=>Nat.le_refl _
 | .int _,_=>Nat.zero_le _
 | .bool,_=>Nat.zero_le _
 | .str,_=>Nat.zero_le _
 | .unit,_=>Nat.zero_le _
 | .ptr _,_=>Nat.zero_le _
 | .fn _ _,_=>Nat.zero_le _
 | .nptr _,_=>Nat.zero_le _
 | .mp _ _,_=>Nat.zero_le _
end Go.Proofs.YtoefbkmllkpkkaaGreatDoor
/-
  Plain laws: bounds, names.
-/
namespace Go.Proofs.YtoefbkmllkpkkaaGreatDoor
set_option linter.unusedVariables false
set_option linter.unusedSimpArgs false
open Go Go.Sx
def within (n a b:Int):Bool:=decide (a≤n)&&decide (n≤b)
theorem Vy (n a b:Int):ZO n a b=some (within n a b):=by
 unfold ZO within;split<;>simp [*]
theorem JC (n a b:Int):ZE n a b=some (within n a b):=by
 unfold ZE within;split<;>simp [*]
theorem within_iff (n a b:Int):within n a b=true↔a≤n∧n≤b:=by simp [within]
def ZhX (b:UInt8):Bool:=decide (97≤b.toNat)&&decide (b.toNat≤122)
def Zoe (b:UInt8):Bool:=decide (48≤b.toNat)&&decide (b.toNat≤57)
def Jc (s:List UInt8):Bool:=decide (1≤s.length)&&decide (s.length≤8)&&s.all (fun b=>ZhX b||Zoe b)&&(match s with
 | b::_=>ZhX b
 | []=>false)
def Zug (s:List UInt8) (i:Nat):Prop:=∀ (j:Nat) (b:UInt8),j<i→s[j]?=some b→(ZhX b||Zoe b)=true∧(j=0→ZhX b=true)
theorem ZvM {s:List UInt8} {i:Nat} {x:UInt8} (h:Zug s i) (hx:s[i]?=some x) (h1:(ZhX x||Zoe x)=true) (h2:i=0→ZhX x=true):Zug s (i+1):=by
 intro j b hj hb
 by_cases e:j<i
 ·exact h j b e hb
 ·have:j=i:=by omega
  subst this
  rw [hx] at hb;injection hb with hb;subst hb
  exact ⟨h1,h2⟩
theorem ZtT {s:List UInt8} (h:Zug s s.length):Jc s=(decide (1≤s.length)&&decide (s.length≤8)):=by
 unfold Jc
 have h1:s.all (fun b=>ZhX b||Zoe b)=true:=by
  rw [List.all_eq_true]
  intro b hb
  obtain ⟨j,hj⟩:=List.mem_iff_getElem?.1 hb
  exact (h j b (List.getElem?_eq_some_iff.1 hj).1 hj).1
 rw [h1]
 cases s with
 | nil=>rfl
 | cons b r =>
  have:=(h 0 b (by simp) rfl).2 rfl
  simp [this]
theorem Zw0 {s:List UInt8} {j:Nat} {b:UInt8} (hb:s[j]?=some b) (h:(ZhX b||Zoe b)=false∨j=0∧ZhX b=false):Jc s=false:=by
 unfold Jc
 rcases h with h | ⟨rfl,h⟩
 ·have:s.all (fun b=>ZhX b||Zoe b)=false:=by
   rw [List.all_eq_false]
   exact ⟨b,List.mem_of_getElem? hb,by simp [h]⟩
  simp [this]
 ·cases s with
  | nil=>simp at hb
  | cons c r=>simp at hb;subst hb;simp [h]
theorem Zaf (s:List UInt8) (hl:s.length≤4611686018427387904):Jr s=some (Jc s):=by
 unfold Jr
 refine Xi s.length (fun k v=>v.1=(k:Int)∧Zug s k) _ ⟨rfl,fun j b hj=>by omega⟩ ?_ ?_
 ·rintro k ⟨i,⟨⟩⟩ hk ⟨rfl,hS⟩
  have hx:s[k]?=some s[k]:=List.getElem?_eq_getElem hk
  generalize s[k]=x at hx
  simp only [Zeq,Zt,hx,Option.bind_some,show (k:Int)<(s.length:Int) from by omega,if_true,Qc (show (-9223372036854775808:Int)≤(k:Int)+1 by omega) (by omega)]
  have ok:(ZhX x||Zoe x)=true→(k=0→ZhX x=true)→(((k:Int)+1,()):Int×Unit).1=((k+1:Nat):Int)∧Zug s (k+1):=fun h1 h2=>⟨by simp,ZvM hS hx h1 h2⟩
  have bad:((ZhX x||Zoe x)=false∨k=0∧ZhX x=false)→(some (Sum.inr false):Option (Int×Unit ⊕ Bool))=some (Sum.inr (Jc s)):=fun h=>by rw [Zw0 hx h]
  simp only [ZhX,Zoe] at ok bad
  repeat' split
  all_goals first
   | (left;refine ⟨_,rfl,ok ?_ ?_⟩<;>simp<;>omega)
   | (right;refine bad ?_;first | (left;simp;omega) | (right;simp;omega))
 ·rintro ⟨i,⟨⟩⟩ ⟨rfl,hS⟩
  simp only [Zeq,Int.lt_irrefl,if_false]
  rw [ZtT hS]
  split
  ·rename_i h
   have h1:1≤s.length:=by omega
   have h2:decide ((s.length:Int)≤8)=decide (s.length≤8):=by rw [decide_eq_decide];omega
   simp [h1,h2]
  ·have h1:¬1≤s.length:=by omega
   simp [h1]
theorem dropWhile_nil {p:UInt8→Bool}:∀ (m:List UInt8),(∀ x∈m.dropWhile p,p x=true)→∀ x∈m,p x=true
 | [],_=>by simp
 | a::m,h=>by
  by_cases ha:p a=true
  ·rw [List.dropWhile_cons_of_pos ha] at h
   intro x hx
   rcases List.mem_cons.1 hx with rfl | hx
   ·exact ha
   ·exact dropWhile_nil m h x hx
  ·rw [List.dropWhile_cons_of_neg ha] at h
   exact absurd (h a (by simp)) ha
theorem ZmU {p:UInt8→Bool}:∀ (m:List UInt8),m.dropWhile p=[]↔∀ x∈m,p x=true
 | []=>by simp
 | a::m=>by
  by_cases ha:p a=true
  ·rw [List.dropWhile_cons_of_pos ha,ZmU m];simp [ha]
  ·rw [List.dropWhile_cons_of_neg ha];simp [ha]
theorem ZyW (s cs:List UInt8):Lib.trimS s cs=[]↔∀ b∈s,cs.contains b=true:=by
 unfold Lib.trimS Lib.trimLeftS Lib.trimRightS
 rw [ZmU]
 constructor
 ·intro h b hb
  exact dropWhile_nil s.reverse (fun x hx=>h x (List.mem_reverse.2 hx)) b (List.mem_reverse.2 hb)
 ·intro h b hb
  exact h b (List.mem_reverse.1 ((List.dropWhile_sublist _).subset (List.mem_reverse.1 hb)))
def letters:List UInt8:=[97,98,99,100,101,102,103,104,105,106,107,108,109,110,111,112,113,114,115,116,117,118,119,120,121,122]
def ZiJ:List UInt8:=letters++[48,49,50,51,52,53,54,55,56,57]
theorem ZA7 {p:UInt8→Bool} (h:(List.range 256).all (fun n=>p (UInt8.ofNat n))=true) (b:UInt8):p b=true:=by
 rw [List.all_eq_true] at h
 have:=h b.toNat (List.mem_range.2 b.toNat_lt)
 simpa using this
theorem ZjC (b:UInt8):ZiJ.contains b=(ZhX b||Zoe b):=by
 have:=ZA7 (p:=fun b=>ZiJ.contains b == (ZhX b||Zoe b)) (by decide +kernel) b
 simpa using this
theorem Zuy (s:List UInt8):Lib.trimS s ZiJ=[]↔s.all (fun b=>ZhX b||Zoe b)=true:=by
 rw [ZyW,List.all_eq_true]
 simp only [ZjC]
theorem Ztl (b:UInt8):decide (0≤(Lib.indexByte letters b:Int))=ZhX b:=by
 have:=ZA7 (p:=fun b=>decide (0≤(Lib.indexByte letters b:Int)) == ZhX b) (by decide +kernel) b
 simpa using this
theorem Zfd (s:List UInt8):Zdr s=some (Jc s):=by
 unfold Zdr
 rw [Vy,Option.bind_some]
 split
 ·rename_i h
  rw [within_iff] at h
  rw [Zj (by omega)]
  split
  ·rename_i ht
   have ht':=(Zuy s).1 ht
   cases s with
   | nil=>simp at h
   | cons b r =>
    have e:atI (b::r) (0:Int)=some b:=rfl
    rw [e,Option.bind_some]
    have e1:((b.toNat:Int)).toNat.toUInt8=b:=by simp
    rw [e1]
    have h1:1≤(b::r).length:=by simp
    have h2:(b::r).length≤8:=by omega
    have:=Ztl b
    unfold letters at this
    rw [this]
    simp only [Jc,ht',decide_eq_true h1,decide_eq_true h2,Bool.true_and]
  ·rename_i ht
   have ht':¬s.all (fun b=>ZhX b||Zoe b)=true:=fun e=>ht ((Zuy s).2 e)
   simp only [Jc,Bool.eq_false_iff.2 ht',Bool.and_false,Bool.false_and]
 ·rename_i h
  rw [within_iff] at h
  have:¬(1≤s.length∧s.length≤8):=by omega
  rw [eq_comm]
  congr 1
  rw [Bool.eq_false_iff]
  intro hh
  simp only [Jc,Bool.and_eq_true,decide_eq_true_eq] at hh
  omega
theorem Zpl (l:List (List UInt8)) (s:List UInt8) (hl:l.length≤4611686018427387904):∃ r,YU l s=some r∧(0≤r↔s∈l):=by
 unfold YU
 refine Vz l.length (fun k v=>v.1=(k:Int)∧s ∉ l.take k) _ ⟨rfl,by simp⟩ ?_ ?_
 ·rintro k ⟨i,⟨⟩⟩ hk ⟨rfl,hS⟩
  have hx:l[k]?=some l[k]:=List.getElem?_eq_getElem hk
  generalize l[k]=x at hx
  simp only [Y5,Zt,hx,Option.bind_some,show (k:Int)<(l.length:Int) from by omega,if_true,Qc (show (-9223372036854775808:Int)≤(k:Int)+1 by omega) (by omega)]
  split
  ·rename_i e;subst e
   exact .inr ⟨_,rfl,fun _=>List.mem_of_getElem? hx,fun _=>by simp⟩
  ·rename_i e
   exact .inl ⟨_,rfl,by simp,by rw [Z6 hx];simp [hS,e]⟩
 ·rintro ⟨i,⟨⟩⟩ ⟨rfl,hS⟩
  simp only [Y5,Int.lt_irrefl,if_false]
  refine ⟨_,rfl,fun h=>by omega,fun h=>absurd h (by simpa using hS)⟩
theorem ZmB (l:List (List UInt8)) (s:List UInt8) (hl:l.length≤4611686018427387904):XP l s=some (decide (s∈l)):=by
 obtain ⟨r,h1,h2⟩:=Zpl l s hl
 unfold XP
 rw [h1,Option.bind_some]
 simp only [h2]
def Qd (l:List (List UInt8)) (k:Nat):Prop:=∀ (j:Nat) (s:List UInt8),j<k→l[j]?=some s→Jc s=true∧s ∉ l.take j
theorem Vh (l:List (List UInt8)) (hl:l.length≤4611686018427387904):QO l=some (tr (Qd l l.length)):=by
 unfold QO
 refine Xi l.length (fun k v=>v.1=(k:Int)∧Qd l k) _ ⟨rfl,fun j s hj=>by omega⟩ ?_ ?_
 ·rintro k ⟨i,⟨⟩⟩ hk ⟨rfl,hS⟩
  have hx:l[k]?=some l[k]:=List.getElem?_eq_getElem hk
  generalize l[k]=x at hx
  simp only [Zdz,Zt,hx,Option.bind_some,show (k:Int)<(l.length:Int) from by omega,if_true,Qc (show (-9223372036854775808:Int)≤(k:Int)+1 by omega) (by omega),Zfd]
  split
  ·rename_i hn
   rw [Zj (by omega),Zj (by omega)]
   simp only [Int.toNat_natCast,Int.toNat_zero,List.drop_zero,Nat.sub_zero]
   rw [ZmB _ _ (by simp only [List.length_take];omega),Option.bind_some]
   split
   ·rename_i hm
    right
    rw [ZR]
    intro hh
    exact (hh k x hk hx).2 (by simpa using hm)
   ·rename_i hm
    refine .inl ⟨_,rfl,by simp,fun j s hj hs=>?_⟩
    by_cases e:j<k
    ·exact hS j s e hs
    ·have:j=k:=by omega
     subst this
     rw [hx] at hs;injection hs with hs;subst hs
     exact ⟨hn,by simpa using hm⟩
  ·rename_i hn
   right
   rw [ZR]
   intro hh
   exact hn (hh k x hk hx).1
 ·rintro ⟨i,⟨⟩⟩ ⟨rfl,hS⟩
  simp only [Zdz,Int.lt_irrefl,if_false]
  rw [Ye hS]
end Go.Proofs.YtoefbkmllkpkkaaGreatDoor
/-
  Plain laws: numbers within bounds.
-/
namespace Go.Proofs.YtoefbkmllkpkkaaGreatDoor
set_option linter.unusedVariables false
set_option linter.unusedSimpArgs false
open Go Go.Sx
def allIn (l:List Int) (lo hi:Int):Bool:=l.all (fun n=>within n lo hi)
theorem Zcq (l:List Int) (lo hi:Int) (hl:l.length≤4611686018427387904):XV l lo hi=some (allIn l lo hi):=by
 have h1:∃ r,Yt l (lo,hi,())=some r∧(0≤r↔allIn l lo hi=false):=by
  unfold Yt
  refine Vz l.length (fun k v=>v.1=(k:Int)∧allIn (l.take k) lo hi=true) _ ⟨rfl,rfl⟩ ?_ ?_
  ·rintro k ⟨i,⟨⟩⟩ hk ⟨rfl,hS⟩
   have hx:l[k]?=some l[k]:=List.getElem?_eq_getElem hk
   generalize l[k]=x at hx
   simp only [YH,ZeT,Vy,Zt,hx,Option.bind_some,show (k:Int)<(l.length:Int) from by omega,if_true,Qc (show (-9223372036854775808:Int)≤(k:Int)+1 by omega) (by omega)]
   cases hw:within x lo hi
   ·refine .inr ⟨_,rfl,fun _=>?_,fun _=>by simp⟩
    rw [allIn,List.all_eq_false]
    exact ⟨x,List.mem_of_getElem? hx,by simp [hw]⟩
   ·refine .inl ⟨_,rfl,by simp,?_⟩
    rw [Z6 hx,allIn,List.all_append]
    simp only [allIn] at hS
    simp [hS,hw]
  ·rintro ⟨i,⟨⟩⟩ ⟨rfl,hS⟩
   rw [List.take_length] at hS
   simp only [YH,Int.lt_irrefl,if_false]
   exact ⟨_,rfl,fun h=>by omega,fun h=>by rw [hS] at h;cases h⟩
 obtain ⟨r,h1,h2⟩:=h1
 unfold XV YP
 rw [h1]
 simp only [Option.bind_some,h2]
 cases allIn l lo hi<;>simp
end Go.Proofs.YtoefbkmllkpkkaaGreatDoor
/-
  Plain laws: the instances of functions of package slices. Printed by program (libgen.py).
-/
namespace Go.Proofs.YtoefbkmllkpkkaaGreatDoor
open Go Go.Sx
set_option linter.unusedVariables false
set_option linter.unusedSimpArgs false
theorem ZfP {l:List (List UInt8)} {v:List UInt8} (hl:Len l):YU l v=some (ZbF (fun x=>decide (v=x)) l):=by
 unfold YU
 refine Jq (out:=fun i=>i) hl (fun k x hx=>?_) ?_
 ·have hk:=(List.getElem?_eq_some_iff.1 hx).1
  simp only [Y5,Zt,hx,Option.bind_some,show (k:Int)<(l.length:Int) from by omega,if_true,decide_eq_true_eq]
  split<;>rfl
 ·simp only [Y5,Int.lt_irrefl,if_false]
theorem Qr {l:List ZB} {f:Bool×Unit} (hl:Len l) (p:ZB→Bool) (hp:∀ x∈l,VI x f.fst=some (p x)):Z9 l f=some (ZbF p l):=by
 unfold Z9
 refine Jq (out:=fun i=>i) hl (p:=p) (fun k x hx=>?_) ?_
 ·have hk:=(List.getElem?_eq_some_iff.1 hx).1
  simp only [Ym,Zt,hx,Option.bind_some,show (k:Int)<(l.length:Int) from by omega,if_true,hp x (List.mem_of_getElem? hx)]
  split<;>rfl
 ·simp only [Ym,Int.lt_irrefl,if_false]
theorem X5 {l:List ZB} {f:Bool×Unit} (hl:Len l) (p:ZB→Bool) (hp:∀ x∈l,VI x f.fst=some (p x)):Z0 l f=some (l.any p):=by
 unfold Z0
 rw [Qr hl p hp,Option.bind_some]
 congr 1
 rw [Bool.eq_iff_iff,decide_eq_true_eq,JM]
theorem QE {l:List YE} {f:Unit} (hl:Len l) (p:YE→Bool) (hp:∀ x∈l,Zeh x=some (p x)):Yf l f=some (ZbF p l):=by
 unfold Yf
 refine Jq (out:=fun i=>i) hl (p:=p) (fun k x hx=>?_) ?_
 ·have hk:=(List.getElem?_eq_some_iff.1 hx).1
  simp only [Yq,Zt,hx,Option.bind_some,show (k:Int)<(l.length:Int) from by omega,if_true,hp x (List.mem_of_getElem? hx)]
  split<;>rfl
 ·simp only [Yq,Int.lt_irrefl,if_false]
theorem Qu {l:List ZH} {f:ZH×Unit} (hl:Len l) (p:ZH→Bool) (hp:∀ x∈l,Qt x f.fst=some (p x)):Yb l f=some (ZbF p l):=by
 unfold Yb
 refine Jq (out:=fun i=>i) hl (p:=p) (fun k x hx=>?_) ?_
 ·have hk:=(List.getElem?_eq_some_iff.1 hx).1
  simp only [Yn,Zt,hx,Option.bind_some,show (k:Int)<(l.length:Int) from by omega,if_true,hp x (List.mem_of_getElem? hx)]
  split<;>rfl
 ·simp only [Yn,Int.lt_irrefl,if_false]
theorem Qb {l:List ZH} {f:ZH×Unit} (hl:Len l) (p:ZH→Bool) (hp:∀ x∈l,Qt x f.fst=some (p x)):Z5 l f=some (l.any p):=by
 unfold Z5
 rw [Qu hl p hp,Option.bind_some]
 congr 1
 rw [Bool.eq_iff_iff,decide_eq_true_eq,JM]
theorem QW {l:List ZH} {f:Int×Unit} (hl:Len l) (p:ZH→Bool) (hp:∀ x∈l,Zdi x f.fst=some (p x)):Yi l f=some (ZbF p l):=by
 unfold Yi
 refine Jq (out:=fun i=>i) hl (p:=p) (fun k x hx=>?_) ?_
 ·have hk:=(List.getElem?_eq_some_iff.1 hx).1
  simp only [Yw,Zt,hx,Option.bind_some,show (k:Int)<(l.length:Int) from by omega,if_true,hp x (List.mem_of_getElem? hx)]
  split<;>rfl
 ·simp only [Yw,Int.lt_irrefl,if_false]
theorem Qy {l:List ZH} {f:Int×Unit} (hl:Len l) (p:ZH→Bool) (hp:∀ x∈l,Zdi x f.fst=some (p x)):Yd l f=some (l.any p):=by
 unfold Yd
 rw [QW hl p hp,Option.bind_some]
 congr 1
 rw [Bool.eq_iff_iff,decide_eq_true_eq,JM]
theorem Qz {l:List Int} {f:Zb×Unit} (hl:Len l) (p:Int→Bool) (hp:∀ x∈l,XU x f.fst=some (p x)):Yc l f=some (ZbF p l):=by
 unfold Yc
 refine Jq (out:=fun i=>i) hl (p:=p) (fun k x hx=>?_) ?_
 ·have hk:=(List.getElem?_eq_some_iff.1 hx).1
  simp only [Yp,Zt,hx,Option.bind_some,show (k:Int)<(l.length:Int) from by omega,if_true,hp x (List.mem_of_getElem? hx)]
  split<;>rfl
 ·simp only [Yp,Int.lt_irrefl,if_false]
theorem Qf {l:List Int} {f:Zb×Unit} (hl:Len l) (p:Int→Bool) (hp:∀ x∈l,XU x f.fst=some (p x)):Z8 l f=some (l.any p):=by
 unfold Z8
 rw [Qz hl p hp,Option.bind_some]
 congr 1
 rw [Bool.eq_iff_iff,decide_eq_true_eq,JM]
theorem JI {l:List Int} {f:Unit} (hl:Len l) (p:Int→Bool) (hp:∀ x∈l,Zdl x=some (p x)):YK l f=some (ZbF p l):=by
 unfold YK
 refine Jq (out:=fun i=>i) hl (p:=p) (fun k x hx=>?_) ?_
 ·have hk:=(List.getElem?_eq_some_iff.1 hx).1
  simp only [YV,Zt,hx,Option.bind_some,show (k:Int)<(l.length:Int) from by omega,if_true,hp x (List.mem_of_getElem? hx)]
  split<;>rfl
 ·simp only [YV,Int.lt_irrefl,if_false]
theorem VR {l:List Int} {f:Unit} (hl:Len l) (p:Int→Bool) (hp:∀ x∈l,Zdl x=some (p x)):Yx l f=some (l.any p):=by
 unfold Yx
 rw [JI hl p hp,Option.bind_some]
 congr 1
 rw [Bool.eq_iff_iff,decide_eq_true_eq,JM]
theorem XH {l:List Ze} {f:List UInt8×Unit} (hl:Len l) (p:Ze→Bool) (hp:∀ x∈l,Zb5 x f.fst=some (p x)):ZQ l f=some (ZbF p l):=by
 unfold ZQ
 refine Jq (out:=fun i=>i) hl (p:=p) (fun k x hx=>?_) ?_
 ·have hk:=(List.getElem?_eq_some_iff.1 hx).1
  simp only [Z7,Zt,hx,Option.bind_some,show (k:Int)<(l.length:Int) from by omega,if_true,hp x (List.mem_of_getElem? hx)]
  split<;>rfl
 ·simp only [Z7,Int.lt_irrefl,if_false]
theorem X8 {l:List Zf} {f:Xo×Unit} (hl:Len l) (p:Zf→Bool) (hp:∀ x∈l,Vk x f.fst=some (p x)):ZY l f=some (ZbF p l):=by
 unfold ZY
 refine Jq (out:=fun i=>i) hl (p:=p) (fun k x hx=>?_) ?_
 ·have hk:=(List.getElem?_eq_some_iff.1 hx).1
  simp only [Yg,Zt,hx,Option.bind_some,show (k:Int)<(l.length:Int) from by omega,if_true,hp x (List.mem_of_getElem? hx)]
  split<;>rfl
 ·simp only [Yg,Int.lt_irrefl,if_false]
theorem XT {l:List Zf} {f:Xo×Unit} (hl:Len l) (p:Zf→Bool) (hp:∀ x∈l,Vk x f.fst=some (p x)):ZV l f=some (l.any p):=by
 unfold ZV
 rw [X8 hl p hp,Option.bind_some]
 congr 1
 rw [Bool.eq_iff_iff,decide_eq_true_eq,JM]
theorem XE {l:List Zg} {f:Xo×Unit} (hl:Len l) (p:Zg→Bool) (hp:∀ x∈l,Vo x f.fst=some (p x)):ZP l f=some (ZbF p l):=by
 unfold ZP
 refine Jq (out:=fun i=>i) hl (p:=p) (fun k x hx=>?_) ?_
 ·have hk:=(List.getElem?_eq_some_iff.1 hx).1
  simp only [Z4,Zt,hx,Option.bind_some,show (k:Int)<(l.length:Int) from by omega,if_true,hp x (List.mem_of_getElem? hx)]
  split<;>rfl
 ·simp only [Z4,Int.lt_irrefl,if_false]
theorem XA {l:List Zg} {f:Xo×Unit} (hl:Len l) (p:Zg→Bool) (hp:∀ x∈l,Vo x f.fst=some (p x)):ZL l f=some (l.any p):=by
 unfold ZL
 rw [XE hl p hp,Option.bind_some]
 congr 1
 rw [Bool.eq_iff_iff,decide_eq_true_eq,JM]
end Go.Proofs.YtoefbkmllkpkkaaGreatDoor
/-
  Plain laws: arguments counted, copied, compared. Printed by program (szgen.py).
-/
namespace Go.Proofs.YtoefbkmllkpkkaaGreatDoor
open Go Go.Sx
set_option linter.unusedVariables false
set_option linter.unusedSimpArgs false
theorem ZmW (a:YE) (left:Int) (h0:0≤left) (h1:left≤1048576) (hb:bnd (ZdU) a):Szd (ZdN a left) left (sm (ZdU) a):=by
 unfold ZdN
 refine Szd.len h0 h1 (by omega) hb.1 (fun hw a0 b0 s0=>?_)
 rw [hw]
 exact Szd.ret ⟨s0,YJ _ (by rfl) _,YJ _ (by rfl) _,YJ _ (by rfl) _,trivial⟩
theorem ZrS (a:List (YE)) (left:Int) (h0:0≤left) (h1:left≤1048576) (hb:bnd (.sl (ZdU)) a):Szd (ZeY a left) left (sm (.sl (ZdU)) a):=by
 unfold ZeY
 refine Szd.len h0 h1 (by omega) hb.1 (fun hw m0 m1 hn=>?_)
 rw [hw]
 exact (Szd.loop (f:=fun x m=>ZdN x m) (P:=fun x=>sm (ZdU) x) (fun x hx m m0 m1=>ZmW x m m0 m1 (hb.2 x hx)) (fun k m=>rfl) m0 m1 hn).mono (fun h=>⟨hn,h⟩)
theorem Xc (a:List (Int)) (left:Int) (h0:0≤left) (h1:left≤1048576) (hb:bnd (.sl (.int .i64)) a):Szd (Y4 a left) left (sm (.sl (.int .i64)) a):=by
 unfold Y4
 refine Szd.len h0 h1 (by omega) hb.1 (fun hw m0 m1 hn=>?_)
 rw [hw]
 exact Szd.ret ⟨hn,fun x _=>YJ (.int .i64) (by rfl) x⟩
theorem Zkw (a:ZB) (left:Int) (h0:0≤left) (h1:left≤1048576) (hb:bnd (YZ) a):Szd (ZaC a left) left (sm (YZ) a):=by
 unfold ZaC
 refine Szd.then (Xc _ _ h0 h1 hb.1) h0 h1 (fun m0 a0 b0 s0=>?_)
 refine Szd.then (Xc _ _ a0 b0 hb.2.1) a0 b0 (fun m1 a1 b1 s1=>?_)
 refine Szd.last (Xc _ _ a1 b1 hb.2.2.1) a1 (fun s2=>?_)
 exact ⟨s0,s1,s2,trivial⟩
theorem Zjw (a:List (ZB)) (left:Int) (h0:0≤left) (h1:left≤1048576) (hb:bnd (.sl (YZ)) a):Szd (ZaK a left) left (sm (.sl (YZ)) a):=by
 unfold ZaK
 refine Szd.len h0 h1 (by omega) hb.1 (fun hw m0 m1 hn=>?_)
 rw [hw]
 exact (Szd.loop (f:=fun x m=>ZaC x m) (P:=fun x=>sm (YZ) x) (fun x hx m m0 m1=>Zkw x m m0 m1 (hb.2 x hx)) (fun k m=>rfl) m0 m1 hn).mono (fun h=>⟨hn,h⟩)
theorem Znx (a:ZH) (left:Int) (h0:0≤left) (h1:left≤1048576) (hb:bnd (ZfF) a):Szd (ZdW a left) left (sm (ZfF) a):=by
 unfold ZdW
 refine Szd.then (Zjw _ _ h0 h1 hb.2.2.2.2.1) h0 h1 (fun m0 a0 b0 s0=>?_)
 refine Szd.last (Zjw _ _ a0 b0 hb.2.2.2.2.2.1) a0 (fun s1=>?_)
 exact ⟨YJ _ (by rfl) _,YJ _ (by rfl) _,YJ _ (by rfl) _,YJ _ (by rfl) _,s0,s1,trivial⟩
theorem ZrQ (a:List (ZH)) (left:Int) (h0:0≤left) (h1:left≤1048576) (hb:bnd (.sl (ZfF)) a):Szd (Ze2 a left) left (sm (.sl (ZfF)) a):=by
 unfold Ze2
 refine Szd.len h0 h1 (by omega) hb.1 (fun hw m0 m1 hn=>?_)
 rw [hw]
 exact (Szd.loop (f:=fun x m=>ZdW x m) (P:=fun x=>sm (ZfF) x) (fun x hx m m0 m1=>Znx x m m0 m1 (hb.2 x hx)) (fun k m=>rfl) m0 m1 hn).mono (fun h=>⟨hn,h⟩)
theorem ZlQ (a:Zm) (left:Int) (h0:0≤left) (h1:left≤1048576) (hb:bnd (XY) a):Szd (Zb3 a left) left (sm (XY) a):=by
 unfold Zb3
 refine Szd.len h0 h1 (by omega) hb.1 (fun hw a0 b0 s0=>?_)
 rw [hw]
 refine Szd.then (ZrS _ _ a0 b0 hb.2.2.1) a0 b0 (fun m1 a1 b1 s1=>?_)
 refine Szd.then (ZrQ _ _ a1 b1 hb.2.2.2.1) a1 b1 (fun m2 a2 b2 s2=>?_)
 refine Szd.last (Xc _ _ a2 b2 hb.2.2.2.2.1) a2 (fun s3=>?_)
 exact ⟨s0,YJ _ (by rfl) _,s1,s2,s3,YJ _ (by rfl) _,YJ _ (by rfl) _,trivial⟩
theorem Zqa (a:List (Zm)) (left:Int) (h0:0≤left) (h1:left≤1048576) (hb:bnd (.sl (XY)) a):Szd (ZdO a left) left (sm (.sl (XY)) a):=by
 unfold ZdO
 refine Szd.len h0 h1 (by omega) hb.1 (fun hw m0 m1 hn=>?_)
 rw [hw]
 exact (Szd.loop (f:=fun x m=>Zb3 x m) (P:=fun x=>sm (XY) x) (fun x hx m m0 m1=>ZlQ x m m0 m1 (hb.2 x hx)) (fun k m=>rfl) m0 m1 hn).mono (fun h=>⟨hn,h⟩)
theorem Zoh (a:Zp) (left:Int) (h0:0≤left) (h1:left≤1048576) (hb:bnd (YN) a):Szd (Zbn a left) left (sm (YN) a):=by
 unfold Zbn
 refine Szd.last (Zqa _ _ h0 h1 hb.1) h0 (fun s0=>?_)
 exact ⟨s0,trivial⟩
theorem ZhO (a:Ze) (left:Int) (h0:0≤left) (h1:left≤1048576) (hb:bnd (ZX) a):Szd (Q0 a left) left (sm (ZX) a):=by
 unfold Q0
 refine Szd.len h0 h1 (by omega) hb.1 (fun hw a0 b0 s0=>?_)
 rw [hw]
 refine Szd.last (Xc _ _ a0 b0 hb.2.2.1) a0 (fun s1=>?_)
 exact ⟨s0,YJ _ (by rfl) _,s1,trivial⟩
theorem Zmv (a:List (Ze)) (left:Int) (h0:0≤left) (h1:left≤1048576) (hb:bnd (.sl (ZX)) a):Szd (Jp a left) left (sm (.sl (ZX)) a):=by
 unfold Jp
 refine Szd.len h0 h1 (by omega) hb.1 (fun hw m0 m1 hn=>?_)
 rw [hw]
 exact (Szd.loop (f:=fun x m=>Q0 x m) (P:=fun x=>sm (ZX) x) (fun x hx m m0 m1=>ZhO x m m0 m1 (hb.2 x hx)) (fun k m=>rfl) m0 m1 hn).mono (fun h=>⟨hn,h⟩)
theorem Zn1 (a:List (List UInt8)) (left:Int) (h0:0≤left) (h1:left≤1048576) (hb:bnd (.sl (.str)) a):Szd (Zbo a left) left (sm (.sl (.str)) a):=by
 unfold Zbo
 refine Szd.len h0 h1 (by omega) hb.1 (fun hw m0 m1 hn=>?_)
 rw [hw]
 exact (Szd.loop (f:=fun x m=>if IntKind.i64.wrap (m-(x.length:Int))<0 then some (-1) else some (IntKind.i64.wrap (m-(x.length:Int)))) (P:=fun x=>sm .str x) (fun x hx m m0 m1=>Szd.len m0 m1 (by omega) (hb.2 x hx) (fun hw _ _ hn=>by rw [hw];exact Szd.ret hn)) (fun k m=>by
  show Vl a m (k:Int)=_
  unfold Vl
  congr 1;congr 1;funext x;split<;>simp_all) m0 m1 hn).mono (fun h=>⟨hn,h⟩)
theorem ZlJ (a:ZT) (left:Int) (h0:0≤left) (h1:left≤1048576) (hb:bnd (Jf) a):Szd (Zcc a left) left (sm (Jf) a):=by
 unfold Zcc
 refine Szd.len h0 h1 (by omega) hb.1 (fun hw a0 b0 s0=>?_)
 rw [hw]
 exact Szd.ret ⟨s0,YJ _ (by rfl) _,YJ _ (by rfl) _,trivial⟩
theorem Zri (a:List (ZT)) (left:Int) (h0:0≤left) (h1:left≤1048576) (hb:bnd (.sl (Jf)) a):Szd (ZdV a left) left (sm (.sl (Jf)) a):=by
 unfold ZdV
 refine Szd.len h0 h1 (by omega) hb.1 (fun hw m0 m1 hn=>?_)
 rw [hw]
 exact (Szd.loop (f:=fun x m=>Zcc x m) (P:=fun x=>sm (Jf) x) (fun x hx m m0 m1=>ZlJ x m m0 m1 (hb.2 x hx)) (fun k m=>rfl) m0 m1 hn).mono (fun h=>⟨hn,h⟩)
theorem ZpB (a:Zb) (left:Int) (h0:0≤left) (h1:left≤1048576) (hb:bnd (Yr) a):Szd (Zcv a left) left (sm (Yr) a):=by
 unfold Zcv
 refine Szd.then (Zmv _ _ h0 h1 hb.1) h0 h1 (fun m0 a0 b0 s0=>?_)
 refine Szd.then (Zn1 _ _ a0 b0 hb.2.1) a0 b0 (fun m1 a1 b1 s1=>?_)
 refine Szd.last (Zri _ _ a1 b1 hb.2.2.1) a1 (fun s2=>?_)
 exact ⟨s0,s1,s2,trivial⟩
theorem Zh3 (a:Zr) (left:Int) (h0:0≤left) (h1:left≤1048576) (hb:bnd (XZ) a):Szd (Za1 a left) left (sm (XZ) a):=by
 unfold Za1
 refine Szd.then (Xc _ _ h0 h1 hb.1) h0 h1 (fun m0 a0 b0 s0=>?_)
 refine Szd.then (Xc _ _ a0 b0 hb.2.1) a0 b0 (fun m1 a1 b1 s1=>?_)
 refine Szd.then (Xc _ _ a1 b1 hb.2.2.1) a1 b1 (fun m2 a2 b2 s2=>?_)
 refine Szd.last (Xc _ _ a2 b2 hb.2.2.2.1) a2 (fun s3=>?_)
 exact ⟨s0,s1,s2,s3,trivial⟩
theorem ZqY (a:List (Zr)) (left:Int) (h0:0≤left) (h1:left≤1048576) (hb:bnd (.sl (XZ)) a):Szd (ZdQ a left) left (sm (.sl (XZ)) a):=by
 unfold ZdQ
 refine Szd.len h0 h1 (by omega) hb.1 (fun hw m0 m1 hn=>?_)
 rw [hw]
 exact (Szd.loop (f:=fun x m=>Za1 x m) (P:=fun x=>sm (XZ) x) (fun x hx m m0 m1=>Zh3 x m m0 m1 (hb.2 x hx)) (fun k m=>rfl) m0 m1 hn).mono (fun h=>⟨hn,h⟩)
theorem ZqJ (a:Za) (left:Int) (h0:0≤left) (h1:left≤1048576) (hb:bnd (YB) a):Szd (ZdS a left) left (sm (YB) a):=by
 unfold ZdS
 refine Szd.then (Zoh _ _ h0 h1 hb.1) h0 h1 (fun m0 a0 b0 s0=>?_)
 refine Szd.then (ZpB _ _ a0 b0 hb.2.1) a0 b0 (fun m1 a1 b1 s1=>?_)
 refine Szd.last (ZqY _ _ a1 b1 hb.2.2.1) a1 (fun s2=>?_)
 exact ⟨s0,s1,s2,trivial⟩
theorem ZrO (a:Zk) (left:Int) (h0:0≤left) (h1:left≤1048576) (hb:bnd (Qv) a):Szd (ZeM a left) left (sm (Qv) a):=by
 unfold ZeM
 refine Szd.len h0 h1 (by omega) hb.2.2.2.2.2.1 (fun hw a0 b0 s0=>?_)
 rw [hw]
 refine Szd.last (Zh3 _ _ a0 b0 hb.2.2.2.2.2.2.1) a0 (fun s1=>?_)
 exact ⟨YJ _ (by rfl) _,YJ _ (by rfl) _,YJ _ (by rfl) _,YJ _ (by rfl) _,YJ _ (by rfl) _,s0,s1,trivial⟩
theorem Zkl (a:Zf) (left:Int) (h0:0≤left) (h1:left≤1048576) (hb:bnd (ZU) a):Szd (ZaF a left) left (sm (ZU) a):=by
 unfold ZaF
 refine Szd.len h0 h1 (by omega) hb.1 (fun hw a0 b0 s0=>?_)
 rw [hw]
 exact Szd.ret ⟨s0,YJ _ (by rfl) _,YJ _ (by rfl) _,YJ _ (by rfl) _,YJ _ (by rfl) _,YJ _ (by rfl) _,YJ _ (by rfl) _,YJ _ (by rfl) _,YJ _ (by rfl) _,YJ _ (by rfl) _,YJ _ (by rfl) _,trivial⟩
theorem ZpI (a:List (Zf)) (left:Int) (h0:0≤left) (h1:left≤1048576) (hb:bnd (.sl (ZU)) a):Szd (Zcp a left) left (sm (.sl (ZU)) a):=by
 unfold Zcp
 refine Szd.len h0 h1 (by omega) hb.1 (fun hw m0 m1 hn=>?_)
 rw [hw]
 exact (Szd.loop (f:=fun x m=>ZaF x m) (P:=fun x=>sm (ZU) x) (fun x hx m m0 m1=>Zkl x m m0 m1 (hb.2 x hx)) (fun k m=>rfl) m0 m1 hn).mono (fun h=>⟨hn,h⟩)
theorem ZgT (a:List (Zh)) (left:Int) (h0:0≤left) (h1:left≤1048576) (hb:bnd (.sl (Zx)) a):Szd (Ve a left) left (sm (.sl (Zx)) a):=by
 unfold Ve
 refine Szd.len h0 h1 (by omega) hb.1 (fun hw m0 m1 hn=>?_)
 rw [hw]
 exact Szd.ret ⟨hn,fun x _=>YJ (Zx) (by rfl) x⟩
theorem Zg0 (a:Zg) (left:Int) (h0:0≤left) (h1:left≤1048576) (hb:bnd (ZA) a):Szd (Qx a left) left (sm (ZA) a):=by
 unfold Qx
 refine Szd.then (Xc _ _ h0 h1 hb.2.2.1) h0 h1 (fun m0 a0 b0 s0=>?_)
 refine Szd.then (Xc _ _ a0 b0 hb.2.2.2.1) a0 b0 (fun m1 a1 b1 s1=>?_)
 refine Szd.last (Xc _ _ a1 b1 hb.2.2.2.2.1) a1 (fun s2=>?_)
 exact ⟨YJ _ (by rfl) _,YJ _ (by rfl) _,s0,s1,s2,trivial⟩
theorem Zlj (a:List (Zg)) (left:Int) (h0:0≤left) (h1:left≤1048576) (hb:bnd (.sl (ZA)) a):Szd (VG a left) left (sm (.sl (ZA)) a):=by
 unfold VG
 refine Szd.len h0 h1 (by omega) hb.1 (fun hw m0 m1 hn=>?_)
 rw [hw]
 exact (Szd.loop (f:=fun x m=>Qx x m) (P:=fun x=>sm (ZA) x) (fun x hx m m0 m1=>Zg0 x m m0 m1 (hb.2 x hx)) (fun k m=>rfl) m0 m1 hn).mono (fun h=>⟨hn,h⟩)
theorem Zjs (a:Zu) (left:Int) (h0:0≤left) (h1:left≤1048576) (hb:bnd (ZW) a):Szd (JG a left) left (sm (ZW) a):=by
 unfold JG
 refine Szd.len h0 h1 (by omega) hb.1 (fun hw a0 b0 s0=>?_)
 rw [hw]
 exact Szd.ret ⟨s0,YJ _ (by rfl) _,YJ _ (by rfl) _,YJ _ (by rfl) _,YJ _ (by rfl) _,trivial⟩
theorem ZoB (a:List (Zu)) (left:Int) (h0:0≤left) (h1:left≤1048576) (hb:bnd (.sl (ZW)) a):Szd (Zbj a left) left (sm (.sl (ZW)) a):=by
 unfold Zbj
 refine Szd.len h0 h1 (by omega) hb.1 (fun hw m0 m1 hn=>?_)
 rw [hw]
 exact (Szd.loop (f:=fun x m=>JG x m) (P:=fun x=>sm (ZW) x) (fun x hx m m0 m1=>Zjs x m m0 m1 (hb.2 x hx)) (fun k m=>rfl) m0 m1 hn).mono (fun h=>⟨hn,h⟩)
theorem ZqD (a:Zn) (left:Int) (h0:0≤left) (h1:left≤1048576) (hb:bnd (YR) a):Szd (ZdZ a left) left (sm (YR) a):=by
 unfold ZdZ
 refine Szd.then (ZpI _ _ h0 h1 hb.1) h0 h1 (fun m0 a0 b0 s0=>?_)
 refine Szd.then (ZgT _ _ a0 b0 hb.2.1) a0 b0 (fun m1 a1 b1 s1=>?_)
 refine Szd.then (ZgT _ _ a1 b1 hb.2.2.1) a1 b1 (fun m2 a2 b2 s2=>?_)
 refine Szd.then (Zlj _ _ a2 b2 hb.2.2.2.1) a2 b2 (fun m3 a3 b3 s3=>?_)
 refine Szd.last (ZoB _ _ a3 b3 hb.2.2.2.2.1) a3 (fun s4=>?_)
 exact ⟨s0,s1,s2,s3,s4,trivial⟩
theorem ZtJ (a:YE) (hs:sm (ZdU) a):Zh5 a=some a:=by
 unfold Zh5
 all_goals rfl
theorem Zrx (a:List (YE)) (hs:sm (.sl (ZdU)) a):Zjg a=some a:=by
 unfold Zjg
 have h:=hs.1
 rw [Zj (by omega),Zj (by omega),Zj (by omega),Zj (by omega)]
 exact Zac (f:=Zh5) (fun x hx=>ZtJ x (hs.2 x hx)) (fun k out=>rfl) h
theorem Xb (a:List (Int)) (hs:sm (.sl (.int .i64)) a):Xk a=some a:=by
 unfold Xk
 have h:=hs.1
 rw [Zj (by omega),Zj (by omega),Zj (by omega),Zj (by omega)]
 exact Zac (f:=some) (fun x _=>rfl) (fun k out=>rfl) h
theorem ZqQ (a:ZB) (hs:sm (YZ) a):Zfw a=some a:=by
 unfold Zfw
 rw [Xb _ hs.1,Option.bind_some,Xb _ hs.2.1,Option.bind_some,Xb _ hs.2.2.1,Option.bind_some]
 all_goals rfl
theorem Zjv (a:List (ZB)) (hs:sm (.sl (YZ)) a):Zd1 a=some a:=by
 unfold Zd1
 have h:=hs.1
 rw [Zj (by omega),Zj (by omega),Zj (by omega),Zj (by omega)]
 exact Zac (f:=Zfw) (fun x hx=>ZqQ x (hs.2 x hx)) (fun k out=>rfl) h
theorem ZsW (a:ZH) (hs:sm (ZfF) a):Zh8 a=some a:=by
 unfold Zh8
 rw [Zjv _ hs.2.2.2.2.1,Option.bind_some,Zjv _ hs.2.2.2.2.2.1,Option.bind_some]
 all_goals rfl
theorem Zrs (a:List (ZH)) (hs:sm (.sl (ZfF)) a):ZiB a=some a:=by
 unfold ZiB
 have h:=hs.1
 rw [Zj (by omega),Zj (by omega),Zj (by omega),Zj (by omega)]
 exact Zac (f:=Zh8) (fun x hx=>ZsW x (hs.2 x hx)) (fun k out=>rfl) h
theorem ZrE (a:Zm) (hs:sm (XY) a):Zg9 a=some a:=by
 unfold Zg9
 rw [Zrx _ hs.2.2.1,Option.bind_some,Zrs _ hs.2.2.2.1,Option.bind_some,Xb _ hs.2.2.2.2.1,Option.bind_some]
 all_goals rfl
theorem Zqp (a:List (Zm)) (hs:sm (.sl (XY)) a):Zhs a=some a:=by
 unfold Zhs
 have h:=hs.1
 rw [Zj (by omega),Zj (by omega),Zj (by omega),Zj (by omega)]
 exact Zac (f:=Zg9) (fun x hx=>ZrE x (hs.2 x hx)) (fun k out=>rfl) h
theorem ZoL (a:Zp) (hs:sm (YN) a):Zfs a=some a:=by
 unfold Zfs
 rw [Zqp _ hs.1,Option.bind_some]
 all_goals rfl
theorem Zm1 (a:Ze) (hs:sm (ZX) a):Zcb a=some a:=by
 unfold Zcb
 rw [Xb _ hs.2.2.1,Option.bind_some]
 all_goals rfl
theorem ZmF (a:List (Ze)) (hs:sm (.sl (ZX)) a):Zc8 a=some a:=by
 unfold Zc8
 have h:=hs.1
 rw [Zj (by omega),Zj (by omega),Zj (by omega),Zj (by omega)]
 exact Zac (f:=Zcb) (fun x hx=>Zm1 x (hs.2 x hx)) (fun k out=>rfl) h
theorem Zop (a:List (List UInt8)) (hs:sm (.sl (.str)) a):Zfr a=some a:=by
 unfold Zfr
 have h:=hs.1
 rw [Zj (by omega),Zj (by omega),Zj (by omega),Zj (by omega)]
 exact Zac (f:=some) (fun x _=>rfl) (fun k out=>rfl) h
theorem Zrz (a:ZT) (hs:sm (Jf) a):Zha a=some a:=by
 unfold Zha
 all_goals rfl
theorem ZqH (a:List (ZT)) (hs:sm (.sl (Jf)) a):Zhx a=some a:=by
 unfold Zhx
 have h:=hs.1
 rw [Zj (by omega),Zj (by omega),Zj (by omega),Zj (by omega)]
 exact Zac (f:=Zha) (fun x hx=>Zrz x (hs.2 x hx)) (fun k out=>rfl) h
theorem Zpc (a:Zb) (hs:sm (Yr) a):Zgj a=some a:=by
 unfold Zgj
 rw [ZmF _ hs.1,Option.bind_some,Zop _ hs.2.1,Option.bind_some,ZqH _ hs.2.2.1,Option.bind_some]
 all_goals rfl
theorem Zlz (a:Zr) (hs:sm (XZ) a):Ze0 a=some a:=by
 unfold Ze0
 rw [Xb _ hs.1,Option.bind_some,Xb _ hs.2.1,Option.bind_some,Xb _ hs.2.2.1,Option.bind_some,Xb _ hs.2.2.2.1,Option.bind_some]
 all_goals rfl
theorem ZqC (a:List (Zr)) (hs:sm (.sl (XZ)) a):ZhC a=some a:=by
 unfold ZhC
 have h:=hs.1
 rw [Zj (by omega),Zj (by omega),Zj (by omega),Zj (by omega)]
 exact Zac (f:=Ze0) (fun x hx=>Zlz x (hs.2 x hx)) (fun k out=>rfl) h
theorem Zrd (a:Za) (hs:sm (YB) a):Zhq a=some a:=by
 unfold Zhq
 rw [ZoL _ hs.1,Option.bind_some,Zpc _ hs.2.1,Option.bind_some,ZqC _ hs.2.2.1,Option.bind_some]
 all_goals rfl
theorem Zrt (a:Zk) (hs:sm (Qv) a):ZiV a=some a:=by
 unfold ZiV
 rw [Zlz _ hs.2.2.2.2.2.2.1,Option.bind_some]
 all_goals rfl
theorem ZqV (a:Zf) (hs:sm (ZU) a):ZfK a=some a:=by
 unfold ZfK
 all_goals rfl
theorem ZpG (a:List (Zf)) (hs:sm (.sl (ZU)) a):Zgb a=some a:=by
 unfold Zgb
 have h:=hs.1
 rw [Zj (by omega),Zj (by omega),Zj (by omega),Zj (by omega)]
 exact Zac (f:=ZfK) (fun x hx=>ZqV x (hs.2 x hx)) (fun k out=>rfl) h
theorem Zlt (a:YG) (hs:sm (ZnX) a):Zg8 a=some a:=by
 unfold Zg8
 all_goals rfl
theorem ZnN (a:Zh) (hs:sm (Zx) a):Zcg a=some a:=by
 unfold Zcg
 rw [Zlt _ hs.2.2.1,Option.bind_some,Zlt _ hs.2.2.2.1,Option.bind_some]
 all_goals rfl
theorem Zhk (a:List (Zh)) (hs:sm (.sl (Zx)) a):Zbd a=some a:=by
 unfold Zbd
 have h:=hs.1
 rw [Zj (by omega),Zj (by omega),Zj (by omega),Zj (by omega)]
 exact Zac (f:=Zcg) (fun x hx=>ZnN x (hs.2 x hx)) (fun k out=>rfl) h
theorem ZlV (a:Zg) (hs:sm (ZA) a):Zbe a=some a:=by
 unfold Zbe
 rw [Xb _ hs.2.2.1,Option.bind_some,Xb _ hs.2.2.2.1,Option.bind_some,Xb _ hs.2.2.2.2.1,Option.bind_some]
 all_goals rfl
theorem Zlo (a:List (Zg)) (hs:sm (.sl (ZA)) a):Zcn a=some a:=by
 unfold Zcn
 have h:=hs.1
 rw [Zj (by omega),Zj (by omega),Zj (by omega),Zj (by omega)]
 exact Zac (f:=Zbe) (fun x hx=>ZlV x (hs.2 x hx)) (fun k out=>rfl) h
theorem Zpj (a:Zu) (hs:sm (ZW) a):Zd3 a=some a:=by
 unfold Zd3
 all_goals rfl
theorem Zov (a:List (Zu)) (hs:sm (.sl (ZW)) a):Zfh a=some a:=by
 unfold Zfh
 have h:=hs.1
 rw [Zj (by omega),Zj (by omega),Zj (by omega),Zj (by omega)]
 exact Zac (f:=Zd3) (fun x hx=>Zpj x (hs.2 x hx)) (fun k out=>rfl) h
theorem Zrn (a:Zn) (hs:sm (YR) a):ZhW a=some a:=by
 unfold ZhW
 rw [ZpG _ hs.1,Option.bind_some,Zhk _ hs.2.1,Option.bind_some,Zhk _ hs.2.2.1,Option.bind_some,Zlo _ hs.2.2.2.1,Option.bind_some,Zov _ hs.2.2.2.2.1,Option.bind_some]
 all_goals rfl
theorem Zrk (a:Zf) (hs:sm (ZU) a):ZfG a a=some true:=by
 unfold ZfG
 simp
theorem Zpb (a:List (Zf)) (hs:sm (.sl (ZU)) a):ZgB a a=some true:=by
 unfold ZgB
 rw [if_pos rfl]
 exact Zg2 (f:=ZfG) (fun x hx=>Zrk x (hs.2 x hx)) (fun k=>rfl) hs.1
theorem ZlG (a:YG) (hs:sm (ZnX) a):ZgV a a=some true:=by
 unfold ZgV
 simp
theorem ZmX (a:Zh) (hs:sm (Zx) a):ZbS a a=some true:=by
 unfold ZbS
 simp [ZlG _ hs.2.2.1,ZlG _ hs.2.2.2.1]
theorem ZgH (a:List (Zh)) (hs:sm (.sl (Zx)) a):Zbc a a=some true:=by
 unfold Zbc
 rw [if_pos rfl]
 exact Zg2 (f:=ZbS) (fun x hx=>ZmX x (hs.2 x hx)) (fun k=>rfl) hs.1
theorem Xd (a:List (Int)) (hs:sm (.sl (.int .i64)) a):Xj a a=some true:=by
 unfold Xj
 rw [if_pos rfl]
 exact Zwg (fun k=>rfl) hs.1
theorem Zl1 (a:Zg) (hs:sm (ZA) a):Zbb a a=some true:=by
 unfold Zbb
 simp [Xd _ hs.2.2.1,Xd _ hs.2.2.2.1,Xd _ hs.2.2.2.2.1]
theorem Zla (a:List (Zg)) (hs:sm (.sl (ZA)) a):ZcE a a=some true:=by
 unfold ZcE
 rw [if_pos rfl]
 exact Zg2 (f:=Zbb) (fun x hx=>Zl1 x (hs.2 x hx)) (fun k=>rfl) hs.1
theorem Zpm (a:Zu) (hs:sm (ZW) a):Zeo a a=some true:=by
 unfold Zeo
 simp
theorem Zn3 (a:List (Zu)) (hs:sm (.sl (ZW)) a):Zfi a a=some true:=by
 unfold Zfi
 rw [if_pos rfl]
 exact Zg2 (f:=Zeo) (fun x hx=>Zpm x (hs.2 x hx)) (fun k=>rfl) hs.1
theorem Zj2 (a:Zn) (hs:sm (YR) a):Zfz a a=some true:=by
 unfold Zfz
 simp [Zpb _ hs.1,ZgH _ hs.2.1,ZgH _ hs.2.2.1,Zla _ hs.2.2.2.1,Zn3 _ hs.2.2.2.2.1]
theorem ZsF (a:YE) (hs:sm (ZdU) a):Zih a a=some true:=by
 unfold Zih
 simp
theorem ZrR (a:List (YE)) (hs:sm (.sl (ZdU)) a):ZiA a a=some true:=by
 unfold ZiA
 rw [if_pos rfl]
 exact Zg2 (f:=Zih) (fun x hx=>ZsF x (hs.2 x hx)) (fun k=>rfl) hs.1
theorem Zqr (a:ZB) (hs:sm (YZ) a):Zfx a a=some true:=by
 unfold Zfx
 simp [Xd _ hs.1,Xd _ hs.2.1,Xd _ hs.2.2.1]
theorem Zju (a:List (ZB)) (hs:sm (.sl (YZ)) a):ZeD a a=some true:=by
 unfold ZeD
 rw [if_pos rfl]
 exact Zg2 (f:=Zfx) (fun x hx=>Zqr x (hs.2 x hx)) (fun k=>rfl) hs.1
theorem ZtC (a:ZH) (hs:sm (ZfF) a):Zig a a=some true:=by
 unfold Zig
 simp [Zju _ hs.2.2.2.2.1,Zju _ hs.2.2.2.2.2.1]
theorem ZrF (a:List (ZH)) (hs:sm (.sl (ZfF)) a):ZiG a a=some true:=by
 unfold ZiG
 rw [if_pos rfl]
 exact Zg2 (f:=Zig) (fun x hx=>ZtC x (hs.2 x hx)) (fun k=>rfl) hs.1
theorem ZrH (a:Zm) (hs:sm (XY) a):Zg5 a a=some true:=by
 unfold Zg5
 simp [ZrR _ hs.2.2.1,ZrF _ hs.2.2.2.1,Xd _ hs.2.2.2.2.1]
theorem Zp9 (a:List (Zm)) (hs:sm (.sl (XY)) a):ZhP a a=some true:=by
 unfold ZhP
 rw [if_pos rfl]
 exact Zg2 (f:=Zg5) (fun x hx=>ZrH x (hs.2 x hx)) (fun k=>rfl) hs.1
theorem ZoE (a:Zp) (hs:sm (YN) a):Zfc a a=some true:=by
 unfold Zfc
 simp [Zp9 _ hs.1]
theorem Znv (a:Ze) (hs:sm (ZX) a):Zb9 a a=some true:=by
 unfold Zb9
 simp [Xd _ hs.2.2.1]
theorem Zmd (a:List (Ze)) (hs:sm (.sl (ZX)) a):Zda a a=some true:=by
 unfold Zda
 rw [if_pos rfl]
 exact Zg2 (f:=Zb9) (fun x hx=>Znv x (hs.2 x hx)) (fun k=>rfl) hs.1
theorem Zoy (a:List (List UInt8)) (hs:sm (.sl (.str)) a):Zfm a a=some true:=by
 unfold Zfm
 rw [if_pos rfl]
 exact Zwg (fun k=>rfl) hs.1
theorem ZrJ (a:ZT) (hs:sm (Jf) a):Zhc a a=some true:=by
 unfold Zhc
 simp
theorem ZqK (a:List (ZT)) (hs:sm (.sl (Jf)) a):ZhU a a=some true:=by
 unfold ZhU
 rw [if_pos rfl]
 exact Zg2 (f:=Zhc) (fun x hx=>ZrJ x (hs.2 x hx)) (fun k=>rfl) hs.1
theorem ZpQ (a:Zb) (hs:sm (Yr) a):ZgC a a=some true:=by
 unfold ZgC
 simp [Zmd _ hs.1,Zoy _ hs.2.1,ZqK _ hs.2.2.1]
theorem Zlw (a:Zr) (hs:sm (XZ) a):Zfa a a=some true:=by
 unfold Zfa
 simp [Xd _ hs.1,Xd _ hs.2.1,Xd _ hs.2.2.1,Xd _ hs.2.2.2.1]
theorem Zq9 (a:List (Zr)) (hs:sm (.sl (XZ)) a):ZhM a a=some true:=by
 unfold ZhM
 rw [if_pos rfl]
 exact Zg2 (f:=Zfa) (fun x hx=>Zlw x (hs.2 x hx)) (fun k=>rfl) hs.1
theorem Zqd (a:Za) (hs:sm (YB) a):ZhN a a=some true:=by
 unfold ZhN
 simp [ZoE _ hs.1,ZpQ _ hs.2.1,Zq9 _ hs.2.2.1]
theorem Zru (a:Zk) (hs:sm (Qv) a):Zi0 a a=some true:=by
 unfold Zi0
 simp [Zlw _ hs.2.2.2.2.2.2.1]
end Go.Proofs.YtoefbkmllkpkkaaGreatDoor
/-
  Plain laws: all lengths together; marks. Printed by program (totgen.py).
-/
namespace Go.Proofs.YtoefbkmllkpkkaaGreatDoor
open Go Go.Sx
set_option linter.unusedVariables false
set_option linter.unusedSimpArgs false
theorem ZzS {α:Type} {L:List α} {j:Nat} {z:α} {A A' B B':Int} (hA:A=A') (hB:B=B'):∃ y,(some (.inl (A,B,List.set L j z,())):Option ((Int×Int×List α×Unit) ⊕ (Int×List α)))=some (.inl (A',B',List.set L j y,())):=⟨z,by rw [hA,hB]⟩
theorem ZeX (k:Int) (h0:0≤k) (h1:k≤4611686018427387904):∃ s,Xz k=some s:=by
 unfold Xz
 split
 ·exact ⟨_,rfl⟩
 ·obtain ⟨r,h,_⟩:=Zsf (step:=fun v=>Zds v.1 v.2.1) (fun v:Int×List UInt8×Unit=>0≤v.1∧v.1+(v.2.1.length:Int)≤4611686018427387904) (fun v=>v.1.toNat) (fun _=>True) (v:=(k,([]:List UInt8),())) ⟨h0,by simpa using h1⟩
   (by
    rintro ⟨m,s,⟨⟩⟩ ⟨a,b⟩
    simp only at a b
    simp only [Zds]
    by_cases hm:0<m
    ·have e1:Int.tdiv m 10=m / 10:=Int.tdiv_eq_ediv_of_nonneg a
     rw [if_pos hm,e1,Qc (n:=m / 10) (by omega) (by omega),Zj (by simp only [bytesOf,List.length_map,List.length_singleton];omega)]
     refine .inl ⟨_,rfl,⟨by simp only;omega,?_⟩,by simp only;omega⟩
     simp only [List.length_append,bytesOf,List.length_map,List.length_singleton]
     omega
    ·rw [if_neg hm,Zj (by simp only [List.length_singleton];omega)]
     exact .inr ⟨_,rfl,trivial⟩)
  exact ⟨r,h⟩
theorem ZrW (a:YE) (left:Int) (h0:0≤left) (h1:left≤1048576) (hb:bnd (ZdU) a):Szt (ZdN a left) left (tot (ZdU) a):=by
 unfold ZdN
 exact (Szt.len h0 h1 (by omega) hb.1 (fun hw0 a0 b0=>by rw [hw0];exact Szt.ret)).mono (by simp only [ZaJ,ZdF,ZaO,Za7,ZcX];omega)
theorem Zq6 (a:List (YE)) (left:Int) (h0:0≤left) (h1:left≤1048576) (hb:bnd (.sl (ZdU)) a):Szt (ZeY a left) left (tot (.sl (ZdU)) a):=by
 unfold ZeY
 refine (Szt.len h0 h1 (by omega) hb.1 (fun hw m0 m1=>(?_:Szt _ _ ((a.map (tot (ZdU))).sum)))).mono (by rw [Zin];omega)
 rw [hw]
 exact Szt.loop (f:=fun x m=>ZdN x m) (P:=fun x=>sm (ZdU) x) (T:=tot (ZdU)) (fun x hx m m0 m1=>ZmW x m m0 m1 (hb.2 x hx)) (fun x hx m m0 m1=>ZrW x m m0 m1 (hb.2 x hx)) (fun k m=>rfl) m0 m1 (by omega)
theorem Y2 (a:List (Int)) (left:Int) (h0:0≤left) (h1:left≤1048576) (hb:bnd (.sl (.int .i64)) a):Szt (Y4 a left) left (tot (.sl (.int .i64)) a):=by
 unfold Y4
 refine (Szt.len h0 h1 (by omega) hb.1 (fun hw m0 m1=>(?_:Szt _ _ ((a.map (tot (.int .i64))).sum)))).mono (by rw [Zin];omega)
 rw [hw]
 exact Szt.ret.mono (by rw [ZtZ (by rfl)];omega)
theorem ZpE (a:ZB) (left:Int) (h0:0≤left) (h1:left≤1048576) (hb:bnd (YZ) a):Szt (ZaC a left) left (tot (YZ) a):=by
 unfold ZaC
 exact (Szt.then (Y2 a.1 _ h0 h1 hb.1) h0 h1 (fun m0 a0 b0=>Szt.then (Y2 a.2.1 _ a0 b0 hb.2.1) a0 b0 (fun m1 a1 b1=>Szt.last (Y2 a.2.2.1 _ a1 b1 hb.2.2.1)))).mono (by simp only [ZaJ,ZdF,ZaO,Za7,ZcX];omega)
theorem Zid (a:List (ZB)) (left:Int) (h0:0≤left) (h1:left≤1048576) (hb:bnd (.sl (YZ)) a):Szt (ZaK a left) left (tot (.sl (YZ)) a):=by
 unfold ZaK
 refine (Szt.len h0 h1 (by omega) hb.1 (fun hw m0 m1=>(?_:Szt _ _ ((a.map (tot (YZ))).sum)))).mono (by rw [Zin];omega)
 rw [hw]
 exact Szt.loop (f:=fun x m=>ZaC x m) (P:=fun x=>sm (YZ) x) (T:=tot (YZ)) (fun x hx m m0 m1=>Zkw x m m0 m1 (hb.2 x hx)) (fun x hx m m0 m1=>ZpE x m m0 m1 (hb.2 x hx)) (fun k m=>rfl) m0 m1 (by omega)
theorem Zrr (a:ZH) (left:Int) (h0:0≤left) (h1:left≤1048576) (hb:bnd (ZfF) a):Szt (ZdW a left) left (tot (ZfF) a):=by
 unfold ZdW
 exact (Szt.then (Zid a.2.2.2.2.1 _ h0 h1 hb.2.2.2.2.1) h0 h1 (fun m0 a0 b0=>Szt.last (Zid a.2.2.2.2.2.1 _ a0 b0 hb.2.2.2.2.2.1))).mono (by simp only [ZaJ,ZdF,ZaO,Za7,ZcX];omega)
theorem Zrh (a:List (ZH)) (left:Int) (h0:0≤left) (h1:left≤1048576) (hb:bnd (.sl (ZfF)) a):Szt (Ze2 a left) left (tot (.sl (ZfF)) a):=by
 unfold Ze2
 refine (Szt.len h0 h1 (by omega) hb.1 (fun hw m0 m1=>(?_:Szt _ _ ((a.map (tot (ZfF))).sum)))).mono (by rw [Zin];omega)
 rw [hw]
 exact Szt.loop (f:=fun x m=>ZdW x m) (P:=fun x=>sm (ZfF) x) (T:=tot (ZfF)) (fun x hx m m0 m1=>Znx x m m0 m1 (hb.2 x hx)) (fun x hx m m0 m1=>Zrr x m m0 m1 (hb.2 x hx)) (fun k m=>rfl) m0 m1 (by omega)
theorem Zqw (a:Zm) (left:Int) (h0:0≤left) (h1:left≤1048576) (hb:bnd (XY) a):Szt (Zb3 a left) left (tot (XY) a):=by
 unfold Zb3
 exact (Szt.len h0 h1 (by omega) hb.1 (fun hw0 a0 b0=>by rw [hw0];exact Szt.then (Zq6 a.2.2.1 _ a0 b0 hb.2.2.1) a0 b0 (fun m1 a1 b1=>Szt.then (Zrh a.2.2.2.1 _ a1 b1 hb.2.2.2.1) a1 b1 (fun m2 a2 b2=>Szt.last (Y2 a.2.2.2.2.1 _ a2 b2 hb.2.2.2.2.1))))).mono (by simp only [ZaJ,ZdF,ZaO,Za7,ZcX];omega)
theorem Zpg (a:List (Zm)) (left:Int) (h0:0≤left) (h1:left≤1048576) (hb:bnd (.sl (XY)) a):Szt (ZdO a left) left (tot (.sl (XY)) a):=by
 unfold ZdO
 refine (Szt.len h0 h1 (by omega) hb.1 (fun hw m0 m1=>(?_:Szt _ _ ((a.map (tot (XY))).sum)))).mono (by rw [Zin];omega)
 rw [hw]
 exact Szt.loop (f:=fun x m=>Zb3 x m) (P:=fun x=>sm (XY) x) (T:=tot (XY)) (fun x hx m m0 m1=>ZlQ x m m0 m1 (hb.2 x hx)) (fun x hx m m0 m1=>Zqw x m m0 m1 (hb.2 x hx)) (fun k m=>rfl) m0 m1 (by omega)
theorem ZmJ (a:Zp) (left:Int) (h0:0≤left) (h1:left≤1048576) (hb:bnd (YN) a):Szt (Zbn a left) left (tot (YN) a):=by
 unfold Zbn
 exact (Szt.last (Zpg a.1 _ h0 h1 hb.1)).mono (by simp only [ZaJ,ZdF,ZaO,Za7,ZcX];omega)
theorem Zmt (a:Ze) (left:Int) (h0:0≤left) (h1:left≤1048576) (hb:bnd (ZX) a):Szt (Q0 a left) left (tot (ZX) a):=by
 unfold Q0
 exact (Szt.len h0 h1 (by omega) hb.1 (fun hw0 a0 b0=>by rw [hw0];exact Szt.last (Y2 a.2.2.1 _ a0 b0 hb.2.2.1))).mono (by simp only [ZaJ,ZdF,ZaO,Za7,ZcX];omega)
theorem Zk4 (a:List (Ze)) (left:Int) (h0:0≤left) (h1:left≤1048576) (hb:bnd (.sl (ZX)) a):Szt (Jp a left) left (tot (.sl (ZX)) a):=by
 unfold Jp
 refine (Szt.len h0 h1 (by omega) hb.1 (fun hw m0 m1=>(?_:Szt _ _ ((a.map (tot (ZX))).sum)))).mono (by rw [Zin];omega)
 rw [hw]
 exact Szt.loop (f:=fun x m=>Q0 x m) (P:=fun x=>sm (ZX) x) (T:=tot (ZX)) (fun x hx m m0 m1=>ZhO x m m0 m1 (hb.2 x hx)) (fun x hx m m0 m1=>Zmt x m m0 m1 (hb.2 x hx)) (fun k m=>rfl) m0 m1 (by omega)
theorem ZnJ (a:List (List UInt8)) (left:Int) (h0:0≤left) (h1:left≤1048576) (hb:bnd (.sl (.str)) a):Szt (Zbo a left) left (tot (.sl (.str)) a):=by
 unfold Zbo
 refine (Szt.len h0 h1 (by omega) hb.1 (fun hw m0 m1=>(?_:Szt _ _ ((a.map (tot (.str))).sum)))).mono (by rw [Zin];omega)
 rw [hw]
 exact Szt.loop (l:=a) (α:=List UInt8) (f:=fun (x:List UInt8) (m:Int)=>if IntKind.i64.wrap (m-(x.length:Int))<0 then some (-1) else some (IntKind.i64.wrap (m-(x.length:Int)))) (P:=fun (x:List UInt8)=>sm .str x) (T:=fun (x:List UInt8)=>tot .str x) (fun x hx m m0 m1=>Szd.str x m m0 m1 (hb.2 x hx)) (fun x hx m m0 m1=>Szt.str x m m0 m1 (hb.2 x hx)) (fun k m=>by
  show Vl a m (k:Int)=_
  unfold Vl
  congr 1;congr 1;funext x;split<;>simp_all) m0 m1 (by omega)
theorem Zql (a:ZT) (left:Int) (h0:0≤left) (h1:left≤1048576) (hb:bnd (Jf) a):Szt (Zcc a left) left (tot (Jf) a):=by
 unfold Zcc
 exact (Szt.len h0 h1 (by omega) hb.1 (fun hw0 a0 b0=>by rw [hw0];exact Szt.ret)).mono (by simp only [ZaJ,ZdF,ZaO,Za7,ZcX];omega)
theorem ZpO (a:List (ZT)) (left:Int) (h0:0≤left) (h1:left≤1048576) (hb:bnd (.sl (Jf)) a):Szt (ZdV a left) left (tot (.sl (Jf)) a):=by
 unfold ZdV
 refine (Szt.len h0 h1 (by omega) hb.1 (fun hw m0 m1=>(?_:Szt _ _ ((a.map (tot (Jf))).sum)))).mono (by rw [Zin];omega)
 rw [hw]
 exact Szt.loop (f:=fun x m=>Zcc x m) (P:=fun x=>sm (Jf) x) (T:=tot (Jf)) (fun x hx m m0 m1=>ZlJ x m m0 m1 (hb.2 x hx)) (fun x hx m m0 m1=>Zql x m m0 m1 (hb.2 x hx)) (fun k m=>rfl) m0 m1 (by omega)
theorem ZoQ (a:Zb) (left:Int) (h0:0≤left) (h1:left≤1048576) (hb:bnd (Yr) a):Szt (Zcv a left) left (tot (Yr) a):=by
 unfold Zcv
 exact (Szt.then (Zk4 a.1 _ h0 h1 hb.1) h0 h1 (fun m0 a0 b0=>Szt.then (ZnJ a.2.1 _ a0 b0 hb.2.1) a0 b0 (fun m1 a1 b1=>Szt.last (ZpO a.2.2.1 _ a1 b1 hb.2.2.1)))).mono (by simp only [ZaJ,ZdF,ZaO,Za7,ZcX];omega)
theorem Zks (a:Zr) (left:Int) (h0:0≤left) (h1:left≤1048576) (hb:bnd (XZ) a):Szt (Za1 a left) left (tot (XZ) a):=by
 unfold Za1
 exact (Szt.then (Y2 a.1 _ h0 h1 hb.1) h0 h1 (fun m0 a0 b0=>Szt.then (Y2 a.2.1 _ a0 b0 hb.2.1) a0 b0 (fun m1 a1 b1=>Szt.then (Y2 a.2.2.1 _ a1 b1 hb.2.2.1) a1 b1 (fun m2 a2 b2=>Szt.last (Y2 a.2.2.2.1 _ a2 b2 hb.2.2.2.1))))).mono (by simp only [ZaJ,ZdF,ZaO,Za7,ZcX];omega)
theorem Zpw (a:List (Zr)) (left:Int) (h0:0≤left) (h1:left≤1048576) (hb:bnd (.sl (XZ)) a):Szt (ZdQ a left) left (tot (.sl (XZ)) a):=by
 unfold ZdQ
 refine (Szt.len h0 h1 (by omega) hb.1 (fun hw m0 m1=>(?_:Szt _ _ ((a.map (tot (XZ))).sum)))).mono (by rw [Zin];omega)
 rw [hw]
 exact Szt.loop (f:=fun x m=>Za1 x m) (P:=fun x=>sm (XZ) x) (T:=tot (XZ)) (fun x hx m m0 m1=>Zh3 x m m0 m1 (hb.2 x hx)) (fun x hx m m0 m1=>Zks x m m0 m1 (hb.2 x hx)) (fun k m=>rfl) m0 m1 (by omega)
theorem ZpK (a:Za) (left:Int) (h0:0≤left) (h1:left≤1048576) (hb:bnd (YB) a):Szt (ZdS a left) left (tot (YB) a):=by
 unfold ZdS
 exact (Szt.then (ZmJ a.1 _ h0 h1 hb.1) h0 h1 (fun m0 a0 b0=>Szt.then (ZoQ a.2.1 _ a0 b0 hb.2.1) a0 b0 (fun m1 a1 b1=>Szt.last (Zpw a.2.2.1 _ a1 b1 hb.2.2.1)))).mono (by simp only [ZaJ,ZdF,ZaO,Za7,ZcX];omega)
theorem ZqT (a:Zk) (left:Int) (h0:0≤left) (h1:left≤1048576) (hb:bnd (Qv) a):Szt (ZeM a left) left (tot (Qv) a):=by
 unfold ZeM
 exact (Szt.len h0 h1 (by omega) hb.2.2.2.2.2.1 (fun hw0 a0 b0=>by rw [hw0];exact Szt.last (Zks a.2.2.2.2.2.2.1 _ a0 b0 hb.2.2.2.2.2.2.1))).mono (by simp only [ZaJ,ZdF,ZaO,Za7,ZcX];omega)
theorem Zpx (a:Zf) (left:Int) (h0:0≤left) (h1:left≤1048576) (hb:bnd (ZU) a):Szt (ZaF a left) left (tot (ZU) a):=by
 unfold ZaF
 exact (Szt.len h0 h1 (by omega) hb.1 (fun hw0 a0 b0=>by rw [hw0];exact Szt.ret)).mono (by simp only [ZaJ,ZdF,ZaO,Za7,ZcX];omega)
theorem Zoi (a:List (Zf)) (left:Int) (h0:0≤left) (h1:left≤1048576) (hb:bnd (.sl (ZU)) a):Szt (Zcp a left) left (tot (.sl (ZU)) a):=by
 unfold Zcp
 refine (Szt.len h0 h1 (by omega) hb.1 (fun hw m0 m1=>(?_:Szt _ _ ((a.map (tot (ZU))).sum)))).mono (by rw [Zin];omega)
 rw [hw]
 exact Szt.loop (f:=fun x m=>ZaF x m) (P:=fun x=>sm (ZU) x) (T:=tot (ZU)) (fun x hx m m0 m1=>Zkl x m m0 m1 (hb.2 x hx)) (fun x hx m m0 m1=>Zpx x m m0 m1 (hb.2 x hx)) (fun k m=>rfl) m0 m1 (by omega)
theorem Zf3 (a:List (Zh)) (left:Int) (h0:0≤left) (h1:left≤1048576) (hb:bnd (.sl (Zx)) a):Szt (Ve a left) left (tot (.sl (Zx)) a):=by
 unfold Ve
 refine (Szt.len h0 h1 (by omega) hb.1 (fun hw m0 m1=>(?_:Szt _ _ ((a.map (tot (Zx))).sum)))).mono (by rw [Zin];omega)
 rw [hw]
 exact Szt.ret.mono (by rw [ZtZ (by rfl)];omega)
theorem Zlh (a:Zg) (left:Int) (h0:0≤left) (h1:left≤1048576) (hb:bnd (ZA) a):Szt (Qx a left) left (tot (ZA) a):=by
 unfold Qx
 exact (Szt.then (Y2 a.2.2.1 _ h0 h1 hb.2.2.1) h0 h1 (fun m0 a0 b0=>Szt.then (Y2 a.2.2.2.1 _ a0 b0 hb.2.2.2.1) a0 b0 (fun m1 a1 b1=>Szt.last (Y2 a.2.2.2.2.1 _ a1 b1 hb.2.2.2.2.1)))).mono (by simp only [ZaJ,ZdF,ZaO,Za7,ZcX];omega)
theorem ZjT (a:List (Zg)) (left:Int) (h0:0≤left) (h1:left≤1048576) (hb:bnd (.sl (ZA)) a):Szt (VG a left) left (tot (.sl (ZA)) a):=by
 unfold VG
 refine (Szt.len h0 h1 (by omega) hb.1 (fun hw m0 m1=>(?_:Szt _ _ ((a.map (tot (ZA))).sum)))).mono (by rw [Zin];omega)
 rw [hw]
 exact Szt.loop (f:=fun x m=>Qx x m) (P:=fun x=>sm (ZA) x) (T:=tot (ZA)) (fun x hx m m0 m1=>Zg0 x m m0 m1 (hb.2 x hx)) (fun x hx m m0 m1=>Zlh x m m0 m1 (hb.2 x hx)) (fun k m=>rfl) m0 m1 (by omega)
theorem Zod (a:Zu) (left:Int) (h0:0≤left) (h1:left≤1048576) (hb:bnd (ZW) a):Szt (JG a left) left (tot (ZW) a):=by
 unfold JG
 exact (Szt.len h0 h1 (by omega) hb.1 (fun hw0 a0 b0=>by rw [hw0];exact Szt.ret)).mono (by simp only [ZaJ,ZdF,ZaO,Za7,ZcX];omega)
theorem Zm8 (a:List (Zu)) (left:Int) (h0:0≤left) (h1:left≤1048576) (hb:bnd (.sl (ZW)) a):Szt (Zbj a left) left (tot (.sl (ZW)) a):=by
 unfold Zbj
 refine (Szt.len h0 h1 (by omega) hb.1 (fun hw m0 m1=>(?_:Szt _ _ ((a.map (tot (ZW))).sum)))).mono (by rw [Zin];omega)
 rw [hw]
 exact Szt.loop (f:=fun x m=>JG x m) (P:=fun x=>sm (ZW) x) (T:=tot (ZW)) (fun x hx m m0 m1=>Zjs x m m0 m1 (hb.2 x hx)) (fun x hx m m0 m1=>Zod x m m0 m1 (hb.2 x hx)) (fun k m=>rfl) m0 m1 (by omega)
theorem ZpU (a:Zn) (left:Int) (h0:0≤left) (h1:left≤1048576) (hb:bnd (YR) a):Szt (ZdZ a left) left (tot (YR) a):=by
 unfold ZdZ
 exact (Szt.then (Zoi a.1 _ h0 h1 hb.1) h0 h1 (fun m0 a0 b0=>Szt.then (Zf3 a.2.1 _ a0 b0 hb.2.1) a0 b0 (fun m1 a1 b1=>Szt.then (Zf3 a.2.2.1 _ a1 b1 hb.2.2.1) a1 b1 (fun m2 a2 b2=>Szt.then (ZjT a.2.2.2.1 _ a2 b2 hb.2.2.2.1) a2 b2 (fun m3 a3 b3=>Szt.last (Zm8 a.2.2.2.2.1 _ a3 b3 hb.2.2.2.2.1)))))).mono (by simp only [ZaJ,ZdF,ZaO,Za7,ZcX];omega)
theorem Zpn (a:List (YE)) (k:Int) (hs:sm (.sl (ZdU)) a) (h0:0≤k) (h1:k+(cnt (.sl (ZdU)) a:Int)≤4611686018427387904):Mkd (Zgo a k) k (cnt (.sl (ZdU)) a):=by
 unfold Zgo
 have hl:a.length≤1048576:=by have:=hs.1;omega
 refine Mkd.loop (l:=a) (c:=cnt (ZdU)) (fun j m x L hj hj' hL hx hxm hm0 hm1 hj2=>?_) (fun m L hL=>?_) hl h0 h1
 ·have hsx:=hs.2 x hxm
  have hc:((cnt (ZdU) x:Nat):Int)=0+1+1+1+1:=by simp only [V4,ZaL,V9,V3,ZbC];omega
  obtain ⟨s0,e0⟩:=ZeX (m) (by omega) (by omega)
  have hx2:atI L (j:Int)=some x:=by rw [Zt];exact hx
  have hb:∀ {β:Type} (y:YE) (F:YE→Option β),(atI (List.set L j y) (j:Int)).bind F=F y:=fun y F=>by rw [ZbA hj];rfl
  simp only [ZdA,if_pos hj',Int.toNat_natCast,hx2,↓hb,Option.bind_some,List.set_set,e0]
  refine ZzS ?_ ?_
  ·have hc:=hc;simp (disch:=omega) only [Qc];omega
  ·simp (disch:=omega) only [Qc];omega
 ·simp only [ZdA,Int.lt_irrefl,if_false]
theorem Xy (a:List (Int)) (k:Int) (hs:sm (.sl (.int .i64)) a) (h0:0≤k) (h1:k+(cnt (.sl (.int .i64)) a:Int)≤4611686018427387904):Mkd (Yh a k) k (cnt (.sl (.int .i64)) a):=by
 unfold Yh
 have hl:a.length≤1048576:=by have:=hs.1;omega
 refine Mkd.loop (l:=a) (c:=cnt (.int .i64)) (fun j m x L hj hj' hL hx hxm hm0 hm1 hj2=>?_) (fun m L hL=>?_) hl h0 h1
 ·have hsx:=hs.2 x hxm
  have hc:((cnt (.int .i64) x:Nat):Int)=0+1:=by rfl
  simp (disch:=omega) only [QY,if_pos hj',Zt,hx,Option.bind_some,Qc,Int.toNat_natCast,ZbA,List.length_set,List.set_set,List.getElem?_set_self]
  refine ⟨_,congrArg some (congrArg Sum.inl (Prod.ext ?_ (Prod.ext ?_ (Prod.ext rfl rfl))))⟩
  ·show _=m+_;rw [hc];omega
  ·simp only;omega
 ·simp only [QY,Int.lt_irrefl,if_false]
theorem ZhL (a:List (ZB)) (k:Int) (hs:sm (.sl (YZ)) a) (h0:0≤k) (h1:k+(cnt (.sl (YZ)) a:Int)≤4611686018427387904):Mkd (Zb1 a k) k (cnt (.sl (YZ)) a):=by
 unfold Zb1
 have hl:a.length≤1048576:=by have:=hs.1;omega
 refine Mkd.loop (l:=a) (c:=cnt (YZ)) (fun j m x L hj hj' hL hx hxm hm0 hm1 hj2=>?_) (fun m L hL=>?_) hl h0 h1
 ·have hsx:=hs.2 x hxm
  have hc:((cnt (YZ) x:Nat):Int)=0+((cnt (.sl (.int .i64)) x.1:Nat):Int)+((cnt (.sl (.int .i64)) x.2.1:Nat):Int)+((cnt (.sl (.int .i64)) x.2.2.1:Nat):Int):=by simp only [V4,ZaL,V9,V3,ZbC];omega
  obtain ⟨s0,e0⟩:=Xy x.1 (m) hsx.1 (by omega) (by omega)
  obtain ⟨s1,e1⟩:=Xy x.2.1 (m+((cnt (.sl (.int .i64)) x.1:Nat):Int)) hsx.2.1 (by omega) (by omega)
  obtain ⟨s2,e2⟩:=Xy x.2.2.1 (m+((cnt (.sl (.int .i64)) x.1:Nat):Int)+((cnt (.sl (.int .i64)) x.2.1:Nat):Int)) hsx.2.2.1 (by omega) (by omega)
  simp (disch:=omega) only [ZbT,if_pos hj',Zt,hx,Option.bind_some,Qc,Int.toNat_natCast,ZbA,List.length_set,List.set_set,List.getElem?_set_self,e0,e1,e2]
  refine ⟨_,congrArg some (congrArg Sum.inl (Prod.ext ?_ (Prod.ext ?_ (Prod.ext rfl rfl))))⟩
  ·show _=m+_;rw [hc];omega
  ·simp only;omega
 ·simp only [ZbT,Int.lt_irrefl,if_false]
theorem ZpW (a:List (ZH)) (k:Int) (hs:sm (.sl (ZfF)) a) (h0:0≤k) (h1:k+(cnt (.sl (ZfF)) a:Int)≤4611686018427387904):Mkd (Zgg a k) k (cnt (.sl (ZfF)) a):=by
 unfold Zgg
 have hl:a.length≤1048576:=by have:=hs.1;omega
 refine Mkd.loop (l:=a) (c:=cnt (ZfF)) (fun j m x L hj hj' hL hx hxm hm0 hm1 hj2=>?_) (fun m L hL=>?_) hl h0 h1
 ·have hsx:=hs.2 x hxm
  have hc:((cnt (ZfF) x:Nat):Int)=0+1+1+1+1+((cnt (.sl (YZ)) x.2.2.2.2.1:Nat):Int)+((cnt (.sl (YZ)) x.2.2.2.2.2.1:Nat):Int):=by simp only [V4,ZaL,V9,V3,ZbC];omega
  obtain ⟨s0,e0⟩:=ZhL x.2.2.2.2.1 (m+1+1+1+1) hsx.2.2.2.2.1 (by omega) (by omega)
  obtain ⟨s1,e1⟩:=ZhL x.2.2.2.2.2.1 (m+1+1+1+1+((cnt (.sl (YZ)) x.2.2.2.2.1:Nat):Int)) hsx.2.2.2.2.2.1 (by omega) (by omega)
  simp (disch:=omega) only [ZdG,if_pos hj',Zt,hx,Option.bind_some,Qc,Int.toNat_natCast,ZbA,List.length_set,List.set_set,List.getElem?_set_self,e0,e1]
  refine ⟨_,congrArg some (congrArg Sum.inl (Prod.ext ?_ (Prod.ext ?_ (Prod.ext rfl rfl))))⟩
  ·show _=m+_;rw [hc];omega
  ·simp only;omega
 ·simp only [ZdG,Int.lt_irrefl,if_false]
theorem Zos (a:List (Zm)) (k:Int) (hs:sm (.sl (XY)) a) (h0:0≤k) (h1:k+(cnt (.sl (XY)) a:Int)≤4611686018427387904):Mkd (Zfj a k) k (cnt (.sl (XY)) a):=by
 unfold Zfj
 have hl:a.length≤1048576:=by have:=hs.1;omega
 refine Mkd.loop (l:=a) (c:=cnt (XY)) (fun j m x L hj hj' hL hx hxm hm0 hm1 hj2=>?_) (fun m L hL=>?_) hl h0 h1
 ·have hsx:=hs.2 x hxm
  have hc:((cnt (XY) x:Nat):Int)=0+1+1+((cnt (.sl (ZdU)) x.2.2.1:Nat):Int)+((cnt (.sl (ZfF)) x.2.2.2.1:Nat):Int)+((cnt (.sl (.int .i64)) x.2.2.2.2.1:Nat):Int)+1+1:=by simp only [V4,ZaL,V9,V3,ZbC];omega
  obtain ⟨s0,e0⟩:=ZeX (m) (by omega) (by omega)
  obtain ⟨s1,e1⟩:=Zpn x.2.2.1 (m+1+1) hsx.2.2.1 (by omega) (by omega)
  obtain ⟨s2,e2⟩:=ZpW x.2.2.2.1 (m+1+1+((cnt (.sl (ZdU)) x.2.2.1:Nat):Int)) hsx.2.2.2.1 (by omega) (by omega)
  obtain ⟨s3,e3⟩:=Xy x.2.2.2.2.1 (m+1+1+((cnt (.sl (ZdU)) x.2.2.1:Nat):Int)+((cnt (.sl (ZfF)) x.2.2.2.1:Nat):Int)) hsx.2.2.2.2.1 (by omega) (by omega)
  simp (disch:=omega) only [ZcK,if_pos hj',Zt,hx,Option.bind_some,Qc,Int.toNat_natCast,ZbA,List.length_set,List.set_set,List.getElem?_set_self,e0,e1,e2,e3]
  refine ⟨_,congrArg some (congrArg Sum.inl (Prod.ext ?_ (Prod.ext ?_ (Prod.ext rfl rfl))))⟩
  ·show _=m+_;rw [hc];omega
  ·simp only;omega
 ·simp only [ZcK,Int.lt_irrefl,if_false]
theorem Zma (a:Zp) (k:Int) (hs:sm (YN) a) (h0:0≤k) (h1:k+((cnt (YN) a:Nat):Int)≤4611686018427387904):Mkd (Zdg a k) k (cnt (YN) a):=by
 unfold Zdg
 have hc:((cnt (YN) a:Nat):Int)=0+(((cnt (.sl (XY)) a.1):Nat):Int):=by simp only [V4,ZaL,V9,V3,ZbC];omega
 obtain ⟨s0,e0⟩:=Zos a.1 (k) hs.1 (by omega) (by omega)
 simp only [Option.bind_some,e0]
 exact ⟨_,congrArg some (Prod.ext (by rfl) rfl)⟩
theorem ZjV (a:List (Ze)) (k:Int) (hs:sm (.sl (ZX)) a) (h0:0≤k) (h1:k+(cnt (.sl (ZX)) a:Int)≤4611686018427387904):Mkd (ZbI a k) k (cnt (.sl (ZX)) a):=by
 unfold ZbI
 have hl:a.length≤1048576:=by have:=hs.1;omega
 refine Mkd.loop (l:=a) (c:=cnt (ZX)) (fun j m x L hj hj' hL hx hxm hm0 hm1 hj2=>?_) (fun m L hL=>?_) hl h0 h1
 ·have hsx:=hs.2 x hxm
  have hc:((cnt (ZX) x:Nat):Int)=0+1+1+((cnt (.sl (.int .i64)) x.2.2.1:Nat):Int):=by simp only [V4,ZaL,V9,V3,ZbC];omega
  obtain ⟨s0,e0⟩:=ZeX (m) (by omega) (by omega)
  obtain ⟨s1,e1⟩:=Xy x.2.2.1 (m+1+1) hsx.2.2.1 (by omega) (by omega)
  simp (disch:=omega) only [Zas,if_pos hj',Zt,hx,Option.bind_some,Qc,Int.toNat_natCast,ZbA,List.length_set,List.set_set,List.getElem?_set_self,e0,e1]
  refine ⟨_,congrArg some (congrArg Sum.inl (Prod.ext ?_ (Prod.ext ?_ (Prod.ext rfl rfl))))⟩
  ·show _=m+_;rw [hc];omega
  ·simp only;omega
 ·simp only [Zas,Int.lt_irrefl,if_false]
theorem ZlZ (a:List (List UInt8)) (k:Int) (hs:sm (.sl (.str)) a) (h0:0≤k) (h1:k+(cnt (.sl (.str)) a:Int)≤4611686018427387904):Mkd (Zdh a k) k (cnt (.sl (.str)) a):=by
 unfold Zdh
 have hl:a.length≤1048576:=by have:=hs.1;omega
 refine Mkd.loop (l:=a) (c:=cnt (.str)) (fun j m x L hj hj' hL hx hxm hm0 hm1 hj2=>?_) (fun m L hL=>?_) hl h0 h1
 ·have hsx:=hs.2 x hxm
  have hc:((cnt (.str) x:Nat):Int)=0+1:=by rfl
  obtain ⟨s0,e0⟩:=ZeX (m) (by omega) (by omega)
  simp (disch:=omega) only [Zbz,if_pos hj',Zt,hx,Option.bind_some,Qc,Int.toNat_natCast,ZbA,List.length_set,List.set_set,List.getElem?_set_self,e0]
  refine ⟨_,congrArg some (congrArg Sum.inl (Prod.ext ?_ (Prod.ext ?_ (Prod.ext rfl rfl))))⟩
  ·show _=m+_;rw [hc];omega
  ·simp only;omega
 ·simp only [Zbz,Int.lt_irrefl,if_false]
theorem Zon (a:List (ZT)) (k:Int) (hs:sm (.sl (Jf)) a) (h0:0≤k) (h1:k+(cnt (.sl (Jf)) a:Int)≤4611686018427387904):Mkd (Zfn a k) k (cnt (.sl (Jf)) a):=by
 unfold Zfn
 have hl:a.length≤1048576:=by have:=hs.1;omega
 refine Mkd.loop (l:=a) (c:=cnt (Jf)) (fun j m x L hj hj' hL hx hxm hm0 hm1 hj2=>?_) (fun m L hL=>?_) hl h0 h1
 ·have hsx:=hs.2 x hxm
  have hc:((cnt (Jf) x:Nat):Int)=0+1+1+1:=by simp only [V4,ZaL,V9,V3,ZbC];omega
  obtain ⟨s0,e0⟩:=ZeX (m) (by omega) (by omega)
  simp (disch:=omega) only [ZcL,if_pos hj',Zt,hx,Option.bind_some,Qc,Int.toNat_natCast,ZbA,List.length_set,List.set_set,List.getElem?_set_self,e0]
  refine ⟨_,congrArg some (congrArg Sum.inl (Prod.ext ?_ (Prod.ext ?_ (Prod.ext rfl rfl))))⟩
  ·show _=m+_;rw [hc];omega
  ·simp only;omega
 ·simp only [ZcL,Int.lt_irrefl,if_false]
theorem ZnD (a:Zb) (k:Int) (hs:sm (Yr) a) (h0:0≤k) (h1:k+((cnt (Yr) a:Nat):Int)≤4611686018427387904):Mkd (Zel a k) k (cnt (Yr) a):=by
 unfold Zel
 have hc:((cnt (Yr) a:Nat):Int)=0+(((cnt (.sl (ZX)) a.1):Nat):Int)+(((cnt (.sl (.str)) a.2.1):Nat):Int)+(((cnt (.sl (Jf)) a.2.2.1):Nat):Int):=by simp only [V4,ZaL,V9,V3,ZbC];omega
 obtain ⟨s0,e0⟩:=ZjV a.1 (k) hs.1 (by omega) (by omega)
 obtain ⟨s1,e1⟩:=ZlZ a.2.1 (k+(((cnt (.sl (ZX)) a.1):Nat):Int)) hs.2.1 (by omega) (by omega)
 obtain ⟨s2,e2⟩:=Zon a.2.2.1 (k+(((cnt (.sl (ZX)) a.1):Nat):Int)+(((cnt (.sl (.str)) a.2.1):Nat):Int)) hs.2.2.1 (by omega) (by omega)
 simp only [Option.bind_some,e0,e1,e2]
 exact ⟨_,congrArg some (Prod.ext (by show _=k+_;rw [hc];omega) rfl)⟩
theorem Zoc (a:List (Zr)) (k:Int) (hs:sm (.sl (XZ)) a) (h0:0≤k) (h1:k+(cnt (.sl (XZ)) a:Int)≤4611686018427387904):Mkd (Zfv a k) k (cnt (.sl (XZ)) a):=by
 unfold Zfv
 have hl:a.length≤1048576:=by have:=hs.1;omega
 refine Mkd.loop (l:=a) (c:=cnt (XZ)) (fun j m x L hj hj' hL hx hxm hm0 hm1 hj2=>?_) (fun m L hL=>?_) hl h0 h1
 ·have hsx:=hs.2 x hxm
  have hc:((cnt (XZ) x:Nat):Int)=0+((cnt (.sl (.int .i64)) x.1:Nat):Int)+((cnt (.sl (.int .i64)) x.2.1:Nat):Int)+((cnt (.sl (.int .i64)) x.2.2.1:Nat):Int)+((cnt (.sl (.int .i64)) x.2.2.2.1:Nat):Int):=by simp only [V4,ZaL,V9,V3,ZbC];omega
  obtain ⟨s0,e0⟩:=Xy x.1 (m) hsx.1 (by omega) (by omega)
  obtain ⟨s1,e1⟩:=Xy x.2.1 (m+((cnt (.sl (.int .i64)) x.1:Nat):Int)) hsx.2.1 (by omega) (by omega)
  obtain ⟨s2,e2⟩:=Xy x.2.2.1 (m+((cnt (.sl (.int .i64)) x.1:Nat):Int)+((cnt (.sl (.int .i64)) x.2.1:Nat):Int)) hsx.2.2.1 (by omega) (by omega)
  obtain ⟨s3,e3⟩:=Xy x.2.2.2.1 (m+((cnt (.sl (.int .i64)) x.1:Nat):Int)+((cnt (.sl (.int .i64)) x.2.1:Nat):Int)+((cnt (.sl (.int .i64)) x.2.2.1:Nat):Int)) hsx.2.2.2.1 (by omega) (by omega)
  simp (disch:=omega) only [ZcQ,if_pos hj',Zt,hx,Option.bind_some,Qc,Int.toNat_natCast,ZbA,List.length_set,List.set_set,List.getElem?_set_self,e0,e1,e2,e3]
  refine ⟨_,congrArg some (congrArg Sum.inl (Prod.ext ?_ (Prod.ext ?_ (Prod.ext rfl rfl))))⟩
  ·show _=m+_;rw [hc];omega
  ·simp only;omega
 ·simp only [ZcQ,Int.lt_irrefl,if_false]
theorem Zou (a:Za) (k:Int) (hs:sm (YB) a) (h0:0≤k) (h1:k+((cnt (YB) a:Nat):Int)≤4611686018427387904):Mkd (Zff a k) k (cnt (YB) a):=by
 unfold Zff
 have hc:((cnt (YB) a:Nat):Int)=0+(((cnt (YN) a.1):Nat):Int)+(((cnt (Yr) a.2.1):Nat):Int)+(((cnt (.sl (XZ)) a.2.2.1):Nat):Int):=by simp only [V4,ZaL,V9,V3,ZbC];omega
 obtain ⟨s0,e0⟩:=Zma a.1 (k) hs.1 (by omega) (by omega)
 obtain ⟨s1,e1⟩:=ZnD a.2.1 (k+(((cnt (YN) a.1):Nat):Int)) hs.2.1 (by omega) (by omega)
 obtain ⟨s2,e2⟩:=Zoc a.2.2.1 (k+(((cnt (YN) a.1):Nat):Int)+(((cnt (Yr) a.2.1):Nat):Int)) hs.2.2.1 (by omega) (by omega)
 simp only [Option.bind_some,e0,e1,e2]
 exact ⟨_,congrArg some (Prod.ext (by show _=k+_;rw [hc];omega) rfl)⟩
end Go.Proofs.YtoefbkmllkpkkaaGreatDoor
