/-
  Ground of the plain laws: loops by what they come to; small arithmetic.
-/
import Derived.Test.YtpiemlnhjobopaaGreatDoorSxM
import Derived.IntWalk
import Derived.Test.YtpiemlnhjobopaaGreatDoorM
import Derived.Test.YtpiemlnhjobopaaGreatDoorSxBr
namespace Go.Proofs.YtpiemlnhjobopaaGreatDoor
set_option linter.unusedVariables false
set_option linter.unusedSimpArgs false
open Go Go.Sx
theorem Vq {n:Int} (h1:-9223372036854775808≤n) (h2:n≤9223372036854775807):Wq n=n:=IntWalk.i64_in n ⟨h1,h2⟩
theorem Zt {α:Type} (l:List α) (k:Nat):atI l (k:Int)=l[k]?:=by simp [atI]
theorem ZeC {α:Type} {l:List α} {i:Int} {x:α} (h0:0≤i) (hx:l[i.toNat]?=some x):atI l i=some x:=by simp [atI,h0,hx]
theorem ZlV {α:Type} {l:List α} {i:Int} (h0:0≤i) (h1:i<l.length):∃ x,atI l i=some x∧l[i.toNat]?=some x :=
 ⟨l[i.toNat]'(by omega),by simp [atI,h0],List.getElem?_eq_getElem _⟩
theorem Zj {α:Type} {p:Prop} (h:p) (a:Option α):Zv p a=a:=by
 unfold Zv
 exact if_pos h
theorem Qy {τ ρ:Type} {step:τ→Option (τ ⊕ ρ)} (n:Nat) (I:Nat→τ→Prop) (Q:ρ→Prop) {v:τ} (h0:I 0 v)
  (hs:∀ k v,k<n→I k v→(∃ v',step v=some (.inl v')∧I (k+1) v')∨∃ r,step v=some (.inr r)∧Q r)
  (hx:∀ v,I n v→∃ r,step v=some (.inr r)∧Q r):∃ r,Zr step v=some r∧Q r:=by
 have:∀ m k v,k+m=n→I k v→∃ r,Zr step v=some r∧Q r:=by
  intro m
  induction m with
  | zero =>
   intro k v hk hI
   have:k=n:=by omega
   subst this
   obtain ⟨r,e,hq⟩:=hx v hI
   exact ⟨r,ZfC e,hq⟩
  | succ m ih =>
   intro k v hk hI
   rcases hs k v (by omega) hI with ⟨v',e,hI'⟩ | ⟨r,e,hq⟩
   ·obtain ⟨r,h1,h2⟩:=ih (k+1) v' (by omega) hI'
    exact ⟨r,by rw [ZjR e];exact h1,h2⟩
   ·exact ⟨r,ZfC e,hq⟩
 exact this n 0 v (by omega) h0
theorem YJ {τ ρ:Type} {step:τ→Option (τ ⊕ ρ)} (n:Nat) (I:Nat→τ→Prop) (R:ρ) {v:τ} (h0:I 0 v)
  (hs:∀ k v,k<n→I k v→(∃ v',step v=some (.inl v')∧I (k+1) v')∨step v=some (.inr R))
  (hx:∀ v,I n v→step v=some (.inr R)):Zr step v=some R:=by
 obtain ⟨r,h1,h2⟩:=Qy n I (fun r=>r=R) h0 (fun k v hk hI=>(hs k v hk hI).elim .inl (fun h=>.inr ⟨R,h,rfl⟩)) (fun v hI=>⟨R,hx v hI,rfl⟩)
 rw [h1,h2]
theorem YP {α:Type} {l:List α} {k:Nat} {x:α} (hx:l[k]?=some x):l.take (k+1)=l.take k++[x]:=by
 rw [List.take_add_one,hx];rfl
theorem Zsx {ρ:Type} {g:Nat→Option ρ} {v:ρ} (h:∃ n,g n=some v) (hd:∀ n r,g n=some r→r=v):ZtW g=some v:=by
 obtain ⟨n,hn⟩:=h
 unfold ZtW
 have hx:∃ r n,g n=some r:=⟨v,n,hn⟩
 rw [dif_pos hx]
 obtain ⟨m,hm⟩:=Classical.choose_spec hx
 rw [hd m _ hm]
def sm:(t:Ty)→t.den→Prop
 | .str,s=>(s.length:Int)≤1048576
 | .sl t,l=>(l.length:Int)≤1048576∧∀ x∈l,sm t x
 | .pair a b,d=>sm a d.1∧sm b d.2
 | _,_=>True
def Szd (o:Option Int) (left:Int) (P:Prop):Prop:=∃ n,o=some n∧n≤left∧(0≤n→P)
theorem Szd.mono {o:Option Int} {left:Int} {P Q:Prop} (h:Szd o left P) (hpq:P→Q):Szd o left Q:=by
 obtain ⟨n,a,b,c⟩:=h;exact ⟨n,a,b,fun h=>hpq (c h)⟩
theorem Szd.then {o:Option Int} {left:Int} {P Q:Prop} (h:Szd o left P) (h0:0≤left) (hl:left≤1048576) {F:Int→Option Int} (h2:∀ n,0≤n→n≤1048576→P→Szd (F n) n Q) :
  Szd (o.bind fun n=>if n<0 then some (-1) else F n) left Q:=by
 obtain ⟨n,e,hle,hP⟩:=h
 rw [e,Bq]
 split
 ·rename_i hn
  exact ⟨-1,rfl,by omega,fun h=>by omega⟩
 ·rename_i hn
  obtain ⟨m,e2,h3,h4⟩:=h2 n (by omega) (by omega) (hP (by omega))
  exact ⟨m,e2,by omega,h4⟩
theorem Szd.last {o:Option Int} {left:Int} {P Q:Prop} (h:Szd o left P) (hl:0≤left) (hpq:P→Q):Szd (o.bind fun n=>if n<0 then some (-1) else some n) left Q:=by
 obtain ⟨n,e,hle,hP⟩:=h
 rw [e,Bq]
 split
 ·rename_i hn
  exact ⟨-1,rfl,by omega,fun h=>by omega⟩
 ·exact ⟨n,rfl,hle,fun h=>hpq (hP h)⟩
theorem Szd.len {left n:Int} {Q:Prop} {B:Option Int} (h0:0≤left) (hl:left≤1048576) (hn:0≤n) (hb:n≤9223372036854775807)
  (h2:Wq (left-n)=left-n→0≤left-n→left-n≤1048576→n≤1048576→Szd B (left-n) Q) :
  Szd (if Wq (left-n)<0 then some (-1) else B) left Q:=by
 have hw:=Vq (n:=left-n) (by omega) (by omega)
 rw [hw]
 split
 ·rename_i hn
  exact ⟨-1,rfl,by omega,fun h=>by omega⟩
 ·rename_i hn
  obtain ⟨m,e2,h3,h4⟩:=h2 hw (by omega) (by omega) (by omega)
  exact ⟨m,e2,by omega,h4⟩
theorem Szd.ret {left:Int} {P:Prop} (h:P):Szd (some left) left P:=⟨left,rfl,Int.le_refl _,fun _=>h⟩
theorem Szd.loop {α:Type} {l:List α} {f:α→Int→Option Int} {P:α→Prop} {step:Int×Int×Unit→Option ((Int×Int×Unit) ⊕ Int)}
  (hf:∀ x∈l,∀ m,0≤m→m≤1048576→Szd (f x m) m (P x))
  (hstep:∀ (k:Nat) (m:Int),step (m,(k:Int),())=if (k:Int)<(l.length:Int) then (atI l (k:Int)).bind fun x=>(f x m).bind fun n=>if n<0 then some (.inr (-1)) else some (.inl (n,Wq ((k:Int)+1),())) else some (.inr m))
  {left:Int} (h0:0≤left) (h1:left≤1048576) (hl:(l.length:Int)≤1048576):Szd (Zr step (left,0,())) left (∀ x∈l,P x):=by
 unfold Szd
 refine Qy l.length (fun k v=>v.2.1=(k:Int)∧0≤v.1∧v.1≤left∧∀ x∈l.take k,P x) (fun n=>n≤left∧(0≤n→∀ x∈l,P x)) ⟨rfl,h0,Int.le_refl _,by simp⟩ ?_ ?_
 ·rintro k ⟨m,i,⟨⟩⟩ hk ⟨hi,hm0,hm1,hP⟩
  simp only at hi hm0 hm1
  subst hi
  have hx:l[k]?=some l[k]:=List.getElem?_eq_getElem hk
  generalize l[k]=x at hx
  rw [hstep,if_pos (by omega),Zt,hx,Bq]
  obtain ⟨n,e,hn,hPx⟩:=hf x (List.mem_of_getElem? hx) m hm0 (by omega)
  rw [e,Bq]
  split
  ·exact .inr ⟨-1,rfl,by omega,fun h=>by omega⟩
  ·rw [Vq (by omega) (by omega)]
   refine .inl ⟨_,rfl,by simp,by dsimp only;omega,by dsimp only;omega,?_⟩
   rw [YP hx]
   intro y hy
   rcases List.mem_append.1 hy with hy | hy
   ·exact hP y hy
   ·simp at hy;subst hy;exact hPx (by omega)
 ·rintro ⟨m,i,⟨⟩⟩ ⟨hi,hm0,hm1,hP⟩
  simp only at hi hm0 hm1
  subst hi
  rw [List.take_length] at hP
  rw [hstep,if_neg (by omega)]
  exact ⟨m,rfl,hm1,fun _=>hP⟩
theorem Vy {α:Type} {l:List α} {f:α→Option α} {z:α} {step:Int×List α×Unit→Option ((Int×List α×Unit) ⊕ List α)} (hf:∀ x∈l,f x=some x)
  (hstep:∀ (k:Nat) (out:List α),step ((k:Int),out,())=if (k:Int)<(l.length:Int) then (atI l (k:Int)).bind fun x=>(f x).bind fun y=>(atI out (k:Int)).bind fun _=>some (.inl (Wq ((k:Int)+1),List.set out (Int.toNat (k:Int)) y,())) else some (.inr out))
  (hl:(l.length:Int)≤1048576):Zr step (0,List.replicate (Int.toNat (l.length:Int)) z,())=some l:=by
 refine YJ l.length (fun k v=>v.1=(k:Int)∧v.2.1.length=l.length∧v.2.1.take k=l.take k) _ ⟨rfl,by simp,by simp⟩ ?_ ?_
 ·rintro k ⟨i,out,⟨⟩⟩ hk ⟨hi,hlen,ht⟩
  simp only at hi hlen ht
  subst hi
  have hx:l[k]?=some l[k]:=List.getElem?_eq_getElem hk
  generalize l[k]=x at hx
  have hy:out[k]?=some (out[k]'(by omega)):=List.getElem?_eq_getElem (by omega)
  rw [hstep,if_pos (by omega),Zt,hx,Bq,hf x (List.mem_of_getElem? hx),Bq,Zt,hy,Bq,Vq (by omega) (by omega)]
  refine .inl ⟨_,rfl,by simp,by simp [hlen],?_⟩
  have hx2:(out.set k x)[k]?=some x:=by rw [List.getElem?_set_self (by omega)]
  simp only [Int.toNat_natCast]
  rw [YP hx2,YP hx,List.take_set,ht]
  rw [List.set_eq_of_length_le (by simp;omega)]
 ·rintro ⟨i,out,⟨⟩⟩ ⟨hi,hlen,ht⟩
  simp only at hi hlen ht
  subst hi
  rw [hstep,if_neg (by omega)]
  rw [List.take_length,List.take_of_length_le (by omega)] at ht
  rw [ht]
theorem Zqo {α:Type} [DecidableEq α] {l:List α} {step:Int×Unit→Option ((Int×Unit) ⊕ Bool)}
  (hstep:∀ (k:Nat),step ((k:Int),())=if (k:Int)<(l.length:Int) then (atI l (k:Int)).bind fun x=>(atI l (k:Int)).bind fun y=>if x=y then some (.inl (Wq ((k:Int)+1),())) else some (.inr false) else some (.inr true))
  (hl:(l.length:Int)≤1048576):Zr step (0,())=some true:=by
 refine YJ l.length (fun k v=>v.1=(k:Int)) _ rfl ?_ ?_
 ·rintro k ⟨i,⟨⟩⟩ hk hi
  simp only at hi
  subst hi
  have hx:l[k]?=some l[k]:=List.getElem?_eq_getElem hk
  generalize l[k]=x at hx
  rw [hstep,if_pos (by omega),Zt,hx,Bq,Bq,if_pos rfl,Vq (by omega) (by omega)]
  exact .inl ⟨_,rfl,by simp⟩
 ·rintro ⟨i,⟨⟩⟩ hi
  simp only at hi
  subst hi
  rw [hstep,if_neg (by omega)]
def Ty.fixed:Ty→Bool
 | .str=>false
 | .sl _=>false
 | .ptr _=>true
 | .fn _ _=>true
 | .pair a b=>Ty.fixed a&&Ty.fixed b
 | _=>true
theorem YC:∀ (t:Ty),Ty.fixed t=true→∀ d:t.den,sm t d
 | .int _,_,_=>trivial
 | .bool,_,_=>trivial
 | .unit,_,_=>trivial
 | .ptr _,_,_=>trivial
 | .fn _ _,_,_=>trivial
 | .nptr _,_,_=>trivial
 | .mp _ _,_,_=>trivial
 | .str,h,_=>by simp [Ty.fixed] at h
 | .sl _,h,_=>by simp [Ty.fixed] at h
 | .pair a b,h,d=>by
  simp only [Ty.fixed,Bool.and_eq_true] at h
  exact ⟨YC a h.1 d.1,YC b h.2 d.2⟩
theorem Zdp {α:Type} {l:List α} {f:α→α→Option Bool} {step:Int×Unit→Option ((Int×Unit) ⊕ Bool)} (hf:∀ x∈l,f x x=some true)
  (hstep:∀ (k:Nat),step ((k:Int),())=if (k:Int)<(l.length:Int) then (atI l (k:Int)).bind fun x=>(atI l (k:Int)).bind fun y=>(f x y).bind fun e=>if e=true then some (.inl (Wq ((k:Int)+1),())) else some (.inr false) else some (.inr true))
  (hl:(l.length:Int)≤1048576):Zr step (0,())=some true:=by
 refine YJ l.length (fun k v=>v.1=(k:Int)) _ rfl ?_ ?_
 ·rintro k ⟨i,⟨⟩⟩ hk hi
  simp only at hi
  subst hi
  have hx:l[k]?=some l[k]:=List.getElem?_eq_getElem hk
  generalize l[k]=x at hx
  rw [hstep,if_pos (by omega),Zt,hx,Bq,Bq,hf x (List.mem_of_getElem? hx),Bq,if_pos rfl,Vq (by omega) (by omega)]
  exact .inl ⟨_,rfl,by simp⟩
 ·rintro ⟨i,⟨⟩⟩ hi
  simp only at hi
  subst hi
  rw [hstep,if_neg (by omega)]
noncomputable def tr (p:Prop):Bool:=@decide p (Classical.propDecidable p)
theorem ZlF {p:Prop} {b:Bool} (h:b=true↔p):tr p=b:=by
 unfold tr
 cases b
 ·simp at h;simp [h]
 ·simp at h;simp [h]
theorem Qx (p:Prop):tr p=true↔p:=by simp [tr]
theorem Yl {p:Prop} (h:p):tr p=true:=(Qx p).2 h
theorem ZK {p:Prop} (h:¬p):tr p=false:=by simp [tr,h]
/-
  Ground of the plain laws: the usual loops.
-/
def Len {α:Type} (l:List α):Prop:=l.length≤4611686018427387904
theorem Zrw {k:Nat} {α:Type} {l:List α} (hl:Len l) (hk:k≤l.length):Wq ((k:Int)+1)=((k+1:Nat):Int):=by
 have:l.length≤4611686018427387904:=hl
 rw [Vq (by omega) (by omega)];simp
def ZbS {α:Type} (p:α→Bool) (l:List α):Int:=match l.findIdx? p with
 | some i=>i
 | none=>-1
theorem Zr1 {α:Type} {p:α→Bool} {l:List α}:ZbS p l<l.length:=by
 unfold ZbS
 split
 ·rename_i i h
  have:=(List.findIdx?_eq_some_iff_getElem.1 h).1
  omega
 ·omega
theorem Va {α:Type} {p:α→Bool} {l:List α}:0≤ZbS p l↔l.any p=true:=by
 unfold ZbS
 split
 ·rename_i i h
  obtain ⟨h1,h2,_⟩:=List.findIdx?_eq_some_iff_getElem.1 h
  refine ⟨fun _=>List.any_eq_true.2 ⟨_,List.getElem_mem h1,h2⟩,fun _=>by omega⟩
 ·rename_i h
  rw [List.findIdx?_eq_none_iff] at h
  refine ⟨fun h'=>by omega,fun h'=>?_⟩
  obtain ⟨x,hx,hp⟩:=List.any_eq_true.1 h'
  have:=h x hx
  rw [hp] at this;cases this
theorem Zat {α ρ:Type} {l:List α} (hl:Len l) {p:α→Bool} {step:Int×Unit→Option ((Int×Unit) ⊕ ρ)} {out:Int→ρ}
  (hs:∀ (k:Nat) (x:α),l[k]?=some x→step ((k:Int),())=some (if p x=true then .inr (out k) else .inl (Wq ((k:Int)+1),())))
  (hx:step ((l.length:Int),())=some (.inr (out (-1)))):Zr step (0,())=some (out (ZbS p l)):=by
 refine YJ l.length (fun k v=>v.1=(k:Int)∧∀ x∈l.take k,p x=false) _ ⟨rfl,by simp⟩ ?_ ?_
 ·rintro k ⟨i,⟨⟩⟩ hk ⟨hi,hS⟩
  simp only at hi
  subst hi
  have hx:l[k]?=some l[k]:=List.getElem?_eq_getElem hk
  rw [hs k _ hx,Zrw hl (by omega)]
  split
  ·rename_i hp
   right
   have:l.findIdx? p=some k:=by
    rw [List.findIdx?_eq_some_iff_getElem]
    refine ⟨hk,hp,fun j hj=>?_⟩
    have:=hS l[j] (List.mem_iff_getElem?.2 ⟨j,by rw [List.getElem?_take,if_pos hj];exact List.getElem?_eq_getElem _⟩)
    simp [this]
   unfold ZbS
   rw [this]
  ·rename_i hp
   refine .inl ⟨_,rfl,rfl,?_⟩
   rw [YP hx]
   intro y hy
   rcases List.mem_append.1 hy with hy | hy
   ·exact hS y hy
   ·simp at hy;subst hy;simpa using hp
 ·rintro ⟨i,⟨⟩⟩ ⟨hi,hS⟩
  simp only at hi
  subst hi
  rw [List.take_length] at hS
  have:l.findIdx? p=none:=List.findIdx?_eq_none_iff.2 hS
  rw [hx]
  unfold ZbS
  rw [this]
def foldI {α σ:Type} (f:Nat→α→σ→σ):Nat→List α→σ→σ
 | _,[],s=>s
 | k,x::r,s=>foldI f (k+1) r (f k x s)
theorem ZkS {α σ:Type} (f:Nat→α→σ→σ):∀ (l r:List α) (m:Nat) (s:σ),foldI f m (l++r) s=foldI f (m+l.length) r (foldI f m l s)
 | [],r,m,s=>by simp [foldI]
 | x::l,r,m,s=>by
  simp only [List.cons_append,foldI,List.length_cons,ZkS f l r]
  rw [show m+1+l.length=m+(l.length+1) by omega]
theorem ZnS {α σ:Type} {f:Nat→α→σ→σ} {l:List α} {k:Nat} {x:α} (hx:l[k]?=some x) (s:σ):foldI f 0 (l.take (k+1)) s=f k x (foldI f 0 (l.take k) s):=by
 have hk:=(List.getElem?_eq_some_iff.1 hx).1
 rw [YP hx,ZkS]
 simp only [foldI,Nat.zero_add,List.length_take]
 rw [show min k l.length=k by omega]
theorem ZhE {α σ τ ρ:Type} {l:List α} (hl:Len l) (pack:σ→Int→τ) {f:Nat→α→σ→σ} {step:τ→Option (τ ⊕ ρ)} {s0:σ} {R:ρ} (I:Nat→σ→Prop) (h0:I 0 s0)
  (hs:∀ (k:Nat) (x:α) (s:σ),l[k]?=some x→I k s→s=foldI f 0 (l.take k) s0→step (pack s (k:Int))=some (.inl (pack (f k x s) (Wq ((k:Int)+1))))∧I (k+1) (f k x s))
  (hx:∀ s,I l.length s→s=foldI f 0 l s0→step (pack s (l.length:Int))=some (.inr R)):Zr step (pack s0 0)=some R:=by
 refine YJ l.length (fun k v=>v=pack (foldI f 0 (l.take k) s0) (k:Int)∧I k (foldI f 0 (l.take k) s0)) _ ⟨rfl,h0⟩ ?_ ?_
 ·rintro k _ hk ⟨rfl,hI⟩
  have hx:l[k]?=some l[k]:=List.getElem?_eq_getElem hk
  obtain ⟨h1,h2⟩:=hs k _ _ hx hI rfl
  rw [h1,Zrw hl (by omega)]
  exact .inl ⟨_,rfl,by rw [ZnS hx],by rw [ZnS hx];exact h2⟩
 ·rintro _ ⟨rfl,hI⟩
  rw [List.take_length] at hI ⊢
  exact hx _ hI rfl
noncomputable def sel {ρ:Type} (P:Prop) (a b:ρ):ρ:=match tr P with
 | true=>a
 | false=>b
theorem Y3 {ρ:Type} {P:Prop} (h:P) (a b:ρ):sel P a b=a:=by simp [sel,Yl h]
theorem YH {ρ:Type} {P:Prop} (h:¬P) (a b:ρ):sel P a b=b:=by simp [sel,ZK h]
theorem Zk1 (P:Prop):sel P true false=tr P:=by
 by_cases h:P
 ·rw [Y3 h,Yl h]
 ·rw [YH h,ZK h]
def Zev {α:Type} (l:List α) (P:Nat→α→Prop):Prop:=∀ (k:Nat) (x:α),l[k]?=some x→P k x
theorem Qc {α ρ:Type} {l:List α} (hl:Len l) (P:Nat→α→Prop) {step:Int×Unit→Option ((Int×Unit) ⊕ ρ)} {bad good:ρ}
  (hs:∀ (k:Nat) (x:α),l[k]?=some x→k<l.length→(∀ (j:Nat) (y:α),j<k→l[j]?=some y→P j y)→(P k x→step ((k:Int),())=some (.inl (Wq ((k:Int)+1),())))∧(¬P k x→step ((k:Int),())=some (.inr bad)))
  (hx:Zev l P→step ((l.length:Int),())=some (.inr good)):Zr step (0,())=some (sel (Zev l P) good bad):=by
 refine YJ l.length (fun k v=>v.1=(k:Int)∧∀ (j:Nat) (y:α),j<k→l[j]?=some y→P j y) _ ⟨rfl,fun j y hj=>by omega⟩ ?_ ?_
 ·rintro k ⟨i,⟨⟩⟩ hk ⟨hi,hS⟩
  simp only at hi
  subst hi
  have hx:l[k]?=some l[k]:=List.getElem?_eq_getElem hk
  obtain ⟨h1,h2⟩:=hs k _ hx hk hS
  by_cases hP:P k l[k]
  ·rw [h1 hP,Zrw hl (by omega)]
   refine .inl ⟨_,rfl,rfl,fun j y hj hy=>?_⟩
   by_cases hjk:j<k
   ·exact hS j y hjk hy
   ·have:j=k:=by omega
    subst this
    rw [hx] at hy;injection hy with hy;subst hy
    exact hP
  ·right
   rw [h2 hP,YH (fun h=>hP (h k _ hx))]
 ·rintro ⟨i,⟨⟩⟩ ⟨hi,hS⟩
  simp only at hi
  subst hi
  have hA:Zev l P:=fun k x hk=>hS k x (List.getElem?_eq_some_iff.1 hk).1 hk
  rw [hx hA,Y3 hA]
theorem Zqy {ρ:Type} (m n:Nat) (hmn:m≤n) (hn:n≤4611686018427387904) (P:Nat→Prop) {step:Int×Unit→Option ((Int×Unit) ⊕ ρ)} {bad good:ρ}
  (hs:∀ k:Nat,m≤k→k<n→(∀ j,m≤j→j<k→P j)→(P k→step ((k:Int),())=some (.inl (Wq ((k:Int)+1),())))∧(¬P k→step ((k:Int),())=some (.inr bad)))
  (hx:(∀ j,m≤j→j<n→P j)→step ((n:Int),())=some (.inr good)):Zr step ((m:Int),())=some (sel (∀ j,m≤j→j<n→P j) good bad):=by
 refine YJ (n-m) (fun k v=>v.1=((m+k:Nat):Int)∧∀ j,m≤j→j<m+k→P j) _ ⟨by simp,fun j h1 h2=>by omega⟩ ?_ ?_
 ·rintro k ⟨i,⟨⟩⟩ hk ⟨hi,hS⟩
  simp only at hi
  subst hi
  obtain ⟨h1,h2⟩:=hs (m+k) (by omega) (by omega) hS
  by_cases hP:P (m+k)
  ·rw [h1 hP,Vq (by omega) (by omega)]
   refine .inl ⟨_,rfl,by simp only;omega,fun j ha hb=>?_⟩
   by_cases hj:j<m+k
   ·exact hS j ha hj
   ·have:j=m+k:=by omega
    subst this;exact hP
  ·right
   rw [h2 hP,YH (fun h=>hP (h (m+k) (by omega) (by omega)))]
 ·rintro ⟨i,⟨⟩⟩ ⟨hi,hS⟩
  simp only at hi
  subst hi
  have e:m+(n-m)=n:=by omega
  rw [e] at hS ⊢
  rw [hx hS,Y3 hS]
/-
  Ground of the plain laws: all lengths together; how many numbers there are; marks.
-/
def tot:(t:Ty)→t.den→Nat
 | .str,s=>s.length
 | .sl t,l=>l.length+(l.map (tot t)).sum
 | .pair a b,d=>tot a d.1+tot b d.2
 | _,_=>0
def Szt (o:Option Int) (left:Int) (T:Nat):Prop:=∀ n,o=some n→0≤n→n+(T:Int)≤left
theorem Szt.mono {o:Option Int} {left:Int} {T T':Nat} (h:Szt o left T) (ht:T'≤T):Szt o left T':=fun n h1 h2=>by
 have:=h n h1 h2
 omega
theorem Szt.then {o:Option Int} {left:Int} {T1 T2:Nat} (h:Szt o left T1) (h0:0≤left) (hl:left≤1048576) {F:Int→Option Int} (h2:∀ n,0≤n→n≤1048576→Szt (F n) n T2) :
  Szt (o.bind fun n=>if n<0 then some (-1) else F n) left (T1+T2):=by
 intro m hm hm0
 cases ho:o with
 | none=>rw [ho] at hm;cases hm
 | some n =>
  rw [ho,Bq] at hm
  by_cases hn:n<0
  ·rw [if_pos hn] at hm;injection hm;omega
  ·rw [if_neg hn] at hm
   have a:=h n ho (by omega)
   have b:=h2 n (by omega) (by omega) m hm hm0
   omega
theorem Szt.last {o:Option Int} {left:Int} {T:Nat} (h:Szt o left T):Szt (o.bind fun n=>if n<0 then some (-1) else some n) left T:=by
 intro m hm hm0
 cases ho:o with
 | none=>rw [ho] at hm;cases hm
 | some n =>
  rw [ho,Bq] at hm
  by_cases hn:n<0
  ·rw [if_pos hn] at hm;injection hm;omega
  ·rw [if_neg hn] at hm
   injection hm with hm
   subst hm
   exact h n ho hm0
theorem Szt.len {left n:Int} {T:Nat} {B:Option Int} (h0:0≤left) (hl:left≤1048576) (hn:0≤n) (hb:n≤9223372036854775807)
  (h2:Wq (left-n)=left-n→0≤left-n→left-n≤1048576→Szt B (left-n) T) :
  Szt (if Wq (left-n)<0 then some (-1) else B) left (n.toNat+T):=by
 have hw:=Vq (n:=left-n) (by omega) (by omega)
 intro m hm hm0
 rw [hw] at hm
 by_cases hneg:left-n<0
 ·rw [if_pos hneg] at hm;injection hm;omega
 ·rw [if_neg hneg] at hm
  have:=h2 hw (by omega) (by omega) m hm hm0
  omega
theorem Szt.ret {left:Int}:Szt (some left) left 0:=fun n h _=>by injection h;omega
theorem Szt.loop {α:Type} {l:List α} {f:α→Int→Option Int} {P:α→Prop} {T:α→Nat} {step:Int×Int×Unit→Option ((Int×Int×Unit) ⊕ Int)}
  (hf:∀ x∈l,∀ m,0≤m→m≤1048576→Szd (f x m) m (P x)) (ht:∀ x∈l,∀ m,0≤m→m≤1048576→Szt (f x m) m (T x))
  (hstep:∀ (k:Nat) (m:Int),step (m,(k:Int),())=if (k:Int)<(l.length:Int) then (atI l (k:Int)).bind fun x=>(f x m).bind fun n=>if n<0 then some (.inr (-1)) else some (.inl (n,Wq ((k:Int)+1),())) else some (.inr m))
  {left:Int} (h0:0≤left) (h1:left≤1048576) (hl:(l.length:Int)≤1048576):Szt (Zr step (left,0,())) left (l.map T).sum:=by
 have:∃ r,Zr step (left,0,())=some r∧(0≤r→r+((l.map T).sum:Int)≤left):=by
  refine Qy l.length (fun k v=>v.2.1=(k:Int)∧0≤v.1∧v.1+(((l.take k).map T).sum:Int)≤left) _ ⟨rfl,h0,by simp⟩ ?_ ?_
  ·rintro k ⟨m,i,⟨⟩⟩ hk ⟨hi,hm0,hm1⟩
   simp only at hi hm0 hm1
   subst hi
   have hx:l[k]?=some l[k]:=List.getElem?_eq_getElem hk
   generalize l[k]=x at hx
   rw [hstep,if_pos (by omega),Zt,hx,Bq]
   obtain ⟨n,e,hn,hPx⟩:=hf x (List.mem_of_getElem? hx) m hm0 (by omega)
   rw [e,Bq]
   split
   ·exact .inr ⟨-1,rfl,fun h=>by omega⟩
   ·rename_i hneg
    have:=ht x (List.mem_of_getElem? hx) m hm0 (by omega) n e (by omega)
    rw [Vq (by omega) (by omega)]
    refine .inl ⟨_,rfl,by simp,by dsimp only;omega,?_⟩
    rw [YP hx,List.map_append,List.sum_append]
    simp only [List.map_cons,List.map_nil,List.sum_cons,List.sum_nil]
    omega
  ·rintro ⟨m,i,⟨⟩⟩ ⟨hi,hm0,hm1⟩
   simp only at hi hm0 hm1
   subst hi
   rw [List.take_length] at hm1
   rw [hstep,if_neg (by omega)]
   exact ⟨m,rfl,fun _=>hm1⟩
 obtain ⟨r,h2,h3⟩:=this
 intro n hn hn0
 rw [h2] at hn
 injection hn with hn
 subst hn
 exact h3 hn0
theorem Zm6:∀ (t:Ty),Ty.fixed t=true→∀ d:t.den,tot t d=0
 | .int _,_,_=>rfl
 | .bool,_,_=>rfl
 | .unit,_,_=>rfl
 | .ptr _,_,_=>rfl
 | .fn _ _,_,_=>rfl
 | .nptr _,_,_=>rfl
 | .mp _ _,_,_=>rfl
 | .str,h,_=>by simp [Ty.fixed] at h
 | .sl _,h,_=>by simp [Ty.fixed] at h
 | .pair a b,h,d=>by
  simp only [Ty.fixed,Bool.and_eq_true] at h
  simp only [tot,Zm6 a h.1 d.1,Zm6 b h.2 d.2]
theorem Zpw {t:Ty} (h:Ty.fixed t=true) (l:List t.den):(l.map (tot t)).sum=0:=by
 induction l with
 | nil=>rfl
 | cons x r ih=>simp only [List.map_cons,List.sum_cons,Zm6 t h x,ih]
theorem JI (a b:Ty) (d:(Ty.pair a b).den):tot (.pair a b) d=tot a d.1+tot b d.2:=rfl
theorem ZfB (t:Ty) (l:List t.den):tot (.sl t) l=l.length+(l.map (tot t)).sum:=rfl
theorem ZbB (s:List UInt8):tot .str s=s.length:=rfl
theorem Zcq (k:IntKind) (n:Int):tot (.int k) n=0:=rfl
theorem JH (b:Bool):tot .bool b=0:=rfl
theorem JJ (b:Unit):tot .unit b=0:=rfl
theorem Szt.str (x:List UInt8) (m:Int) (m0:0≤m) (m1:m≤1048576) (hb:(x.length:Int)≤9223372036854775807) :
  Szt (if Wq (m-(x.length:Int))<0 then some (-1) else some (Wq (m-(x.length:Int)))) m (tot .str x):=by
 have h:Szt (if Wq (m-(x.length:Int))<0 then some (-1) else some (Wq (m-(x.length:Int)))) m ((x.length:Int).toNat+0) :=
  Szt.len m0 m1 (by omega) hb (fun hw _ _=>by rw [hw];exact Szt.ret)
 refine h.mono ?_
 rw [ZbB]
 omega
theorem Szd.str (x:List UInt8) (m:Int) (m0:0≤m) (m1:m≤1048576) (hb:(x.length:Int)≤9223372036854775807) :
  Szd (if Wq (m-(x.length:Int))<0 then some (-1) else some (Wq (m-(x.length:Int)))) m (sm .str x) :=
 Szd.len m0 m1 (by omega) hb (fun hw _ _ hn=>by rw [hw];exact Szd.ret hn)
def cnt:(t:Ty)→t.den→Nat
 | .int _,_=>1
 | .bool,_=>1
 | .str,_=>1
 | .sl t,l=>(l.map (cnt t)).sum
 | .pair a b,d=>cnt a d.1+cnt b d.2
 | _,_=>0
theorem VT (a b:Ty) (d:(Ty.pair a b).den):cnt (.pair a b) d=cnt a d.1+cnt b d.2:=rfl
theorem Zbe (s:List UInt8):cnt .str s=1:=rfl
theorem Zbd (k:IntKind) (n:Int):cnt (.int k) n=1:=rfl
theorem VR (b:Bool):cnt .bool b=1:=rfl
theorem VU (b:Unit):cnt .unit b=0:=rfl
def wid:Ty→Nat
 | .int _=>1
 | .bool=>1
 | .str=>1
 | .pair a b=>wid a+wid b
 | _=>0
def Zcs:Ty→Nat
 | .sl t=>max (wid t) (Zcs t)
 | .pair a b=>max (Zcs a) (Zcs b)
 | _=>0
theorem ZoY:∀ (t:Ty) (d:t.den),cnt t d≤wid t+Zcs t*tot t d
 | .int _,_=>by simp [cnt,wid]
 | .bool,_=>by simp [cnt,wid]
 | .str,_=>by simp [cnt,wid]
 | .unit,_=>by simp [cnt]
 | .ptr _,_=>by simp [cnt]
 | .fn _ _,_=>by simp [cnt]
 | .nptr _,_=>by simp [cnt]
 | .mp _ _,_=>by simp [cnt]
 | .pair a b,d=>by
  have h1:=ZoY a d.1
  have h2:=ZoY b d.2
  have h3:Zcs a*tot a d.1≤max (Zcs a) (Zcs b)*tot a d.1:=Nat.mul_le_mul_right _ (Nat.le_max_left _ _)
  have h4:Zcs b*tot b d.2≤max (Zcs a) (Zcs b)*tot b d.2:=Nat.mul_le_mul_right _ (Nat.le_max_right _ _)
  simp only [cnt,wid,Zcs,tot,Nat.mul_add]
  omega
 | .sl t,l=>by
  have:(l.map (cnt t)).sum≤wid t*l.length+Zcs t*(l.map (tot t)).sum:=by
   induction l with
   | nil=>simp
   | cons x r ih =>
    have:=ZoY t x
    simp only [List.map_cons,List.sum_cons,List.length_cons,Nat.mul_add]
    omega
  have h1:wid t*l.length≤max (wid t) (Zcs t)*l.length:=Nat.mul_le_mul_right _ (Nat.le_max_left _ _)
  have h2:Zcs t*(l.map (tot t)).sum≤max (wid t) (Zcs t)*(l.map (tot t)).sum:=Nat.mul_le_mul_right _ (Nat.le_max_right _ _)
  simp only [cnt,wid,Zcs,tot,Nat.mul_add]
  omega
def Mkd {α:Type} (o:Option (Int×α)) (k:Int) (c:Nat):Prop:=∃ a',o=some (k+(c:Int),a')
theorem ZbN {α:Type} {L:List α} {j:Nat} {y:α} (h:j<L.length):atI (List.set L j y) (j:Int)=some y:=by
 rw [Zt,List.getElem?_set_self h]
theorem Mkd.loop {α:Type} {l:List α} {c:α→Nat} {step:Int×Int×List α×Unit→Option ((Int×Int×List α×Unit) ⊕ (Int×List α))} {k:Int}
  (hstep:∀ (j:Nat) (m:Int) (x:α) (L:List α),j<L.length→(j:Int)<(L.length:Int)→L.length=l.length→L[j]?=some x→x∈l→0≤m→m+(c x:Int)≤4611686018427387904→(j:Int)≤1048576→∃ y,step (m,(j:Int),L,())=some (.inl (m+(c x:Int),((j+1:Nat):Int),List.set L j y,())))
  (hend:∀ (m:Int) (L:List α),L.length=l.length→step (m,(L.length:Int),L,())=some (.inr (m,L)))
  (hl:l.length≤1048576) (h0:0≤k) (h1:k+((l.map c).sum:Int)≤4611686018427387904):Mkd (Zr step (k,0,l,())) k (l.map c).sum:=by
 have:∃ r,Zr step (k,0,l,())=some r∧r.1=k+((l.map c).sum:Int):=by
  refine Qy l.length (fun j v=>v.1=k+(((l.take j).map c).sum:Int)∧v.2.1=(j:Int)∧v.2.2.1.length=l.length∧∀ i,j≤i→v.2.2.1[i]?=l[i]?) _ ⟨by simp,rfl,rfl,fun i _=>rfl⟩ ?_ ?_
  ·rintro j ⟨m,i,L,⟨⟩⟩ hj ⟨hm,hi,hL,hrest⟩
   simp only at hm hi hL hrest
   subst hi
   have hx:l[j]?=some l[j]:=List.getElem?_eq_getElem hj
   have hsum:(l.map c).sum=((l.take j).map c).sum+(c l[j]+((l.drop (j+1)).map c).sum):=by
    have e:l=l.take j++(l[j]::l.drop (j+1)):=by rw [←List.drop_eq_getElem_cons hj,List.take_append_drop]
    have e2:=congrArg (fun l=>(l.map c).sum) e
    simp only [List.map_append,List.sum_append,List.map_cons,List.sum_cons] at e2
    exact e2
   obtain ⟨y,hy⟩:=hstep j m l[j] L (by omega) (by omega) hL (by rw [hrest j (Nat.le_refl _)];exact hx) (List.mem_of_getElem? hx) (by omega) (by omega) (by omega)
   left
   refine ⟨_,hy,?_,rfl,by simp [hL],fun i hi=>?_⟩
   ·rw [YP hx,List.map_append,List.sum_append]
    simp only [List.map_cons,List.map_nil,List.sum_cons,List.sum_nil]
    omega
   ·simp only
    rw [List.getElem?_set_ne (by omega)]
    exact hrest i (by omega)
  ·rintro ⟨m,i,L,⟨⟩⟩ ⟨hm,hi,hL,_⟩
   simp only at hm hi hL
   subst hi
   rw [List.take_length] at hm
   rw [←hL,hend m L hL]
   exact ⟨_,rfl,hm⟩
 obtain ⟨r,h2,h3⟩:=this
 exact ⟨r.2,by rw [h2,←h3]⟩
/-
  Ground of the plain laws: what marking makes of a value, and that the marks are held.
-/
/-
  Plain laws: bounds, names.
-/
def within (n a b:Int):Bool:=decide (a≤n)&&decide (n≤b)
theorem Qu (n a b:Int):ZW n a b=some (within n a b):=by
 unfold ZW within;split<;>simp [*]
theorem Vj (n a b:Int):ZV n a b=some (within n a b):=by
 unfold ZV within;split<;>simp [*]
theorem within_iff (n a b:Int):within n a b=true↔a≤n∧n≤b:=by simp [within]
def Zfg (b:UInt8):Bool:=decide (97≤b.toNat)&&decide (b.toNat≤122)
def Zj7 (b:UInt8):Bool:=decide (48≤b.toNat)&&decide (b.toNat≤57)
def VO (s:List UInt8):Bool:=decide (1≤s.length)&&decide (s.length≤8)&&s.all (fun b=>Zfg b||Zj7 b)&&(match s with
 | b::_=>Zfg b
 | []=>false)
def ZoU (s:List UInt8) (i:Nat):Prop:=∀ (j:Nat) (b:UInt8),j<i→s[j]?=some b→(Zfg b||Zj7 b)=true∧(j=0→Zfg b=true)
theorem Zp4 {s:List UInt8} {i:Nat} {x:UInt8} (h:ZoU s i) (hx:s[i]?=some x) (h1:(Zfg x||Zj7 x)=true) (h2:i=0→Zfg x=true):ZoU s (i+1):=by
 intro j b hj hb
 by_cases e:j<i
 ·exact h j b e hb
 ·have:j=i:=by omega
  subst this
  rw [hx] at hb;injection hb with hb;subst hb
  exact ⟨h1,h2⟩
theorem ZoD {s:List UInt8} (h:ZoU s s.length):VO s=(decide (1≤s.length)&&decide (s.length≤8)):=by
 unfold VO
 have h1:s.all (fun b=>Zfg b||Zj7 b)=true:=by
  rw [List.all_eq_true]
  intro b hb
  obtain ⟨j,hj⟩:=List.mem_iff_getElem?.1 hb
  exact (h j b (List.getElem?_eq_some_iff.1 hj).1 hj).1
 rw [h1]
 cases s with
 | nil=>rfl
 | cons b r =>
  have:=(h 0 b (by simp) rfl).2 rfl
  simp [this]
theorem Zq8 {s:List UInt8} {j:Nat} {b:UInt8} (hb:s[j]?=some b) (h:(Zfg b||Zj7 b)=false∨j=0∧Zfg b=false):VO s=false:=by
 unfold VO
 rcases h with h | ⟨rfl,h⟩
 ·have:s.all (fun b=>Zfg b||Zj7 b)=false:=by
   rw [List.all_eq_false]
   exact ⟨b,List.mem_of_getElem? hb,by simp [h]⟩
  simp [this]
 ·cases s with
  | nil=>simp at hb
  | cons c r=>simp at hb;subst hb;simp [h]
theorem Zaa (s:List UInt8) (hl:s.length≤4611686018427387904):VP s=some (VO s):=by
 unfold VP
 refine YJ s.length (fun k v=>v.1=(k:Int)∧ZoU s k) _ ⟨rfl,fun j b hj=>by omega⟩ ?_ ?_
 ·rintro k ⟨i,⟨⟩⟩ hk ⟨rfl,hS⟩
  have hx:s[k]?=some s[k]:=List.getElem?_eq_getElem hk
  generalize s[k]=x at hx
  simp only [Zcl,Zt,hx,Bq,show (k:Int)<(s.length:Int) from by omega,if_true,Vq (show (-9223372036854775808:Int)≤(k:Int)+1 by omega) (by omega)]
  have ok:(Zfg x||Zj7 x)=true→(k=0→Zfg x=true)→(((k:Int)+1,()):Int×Unit).1=((k+1:Nat):Int)∧ZoU s (k+1):=fun h1 h2=>⟨by simp,Zp4 hS hx h1 h2⟩
  have bad:((Zfg x||Zj7 x)=false∨k=0∧Zfg x=false)→(some (Sum.inr false):Option (Int×Unit ⊕ Bool))=some (Sum.inr (VO s)):=fun h=>by rw [Zq8 hx h]
  simp only [Zfg,Zj7] at ok bad
  repeat' split
  all_goals first
   | (left;refine ⟨_,rfl,ok ?_ ?_⟩<;>simp<;>omega)
   | (right;refine bad ?_;first | (left;simp;omega) | (right;simp;omega))
 ·rintro ⟨i,⟨⟩⟩ ⟨rfl,hS⟩
  simp only [Zcl,Int.lt_irrefl,if_false]
  rw [ZoD hS]
  split
  ·rename_i h
   have h1:1≤s.length:=by omega
   have h2:decide ((s.length:Int)≤8)=decide (s.length≤8):=by rw [decide_eq_decide];omega
   simp [h1,h2]
  ·have h1:¬1≤s.length:=by omega
   simp [h1]
theorem dropWhile_nil {p:UInt8→Bool}:∀ (m:List UInt8),(∀ x∈m.dropWhile p,p x=true)→∀ x∈m,p x=true
 | [],_=>by simp
 | a::m,h=>by
  by_cases ha:p a=true
  ·rw [List.dropWhile_cons_of_pos ha] at h
   intro x hx
   rcases List.mem_cons.1 hx with rfl | hx
   ·exact ha
   ·exact dropWhile_nil m h x hx
  ·rw [List.dropWhile_cons_of_neg ha] at h
   exact absurd (h a (by simp)) ha
theorem Zi5 {p:UInt8→Bool}:∀ (m:List UInt8),m.dropWhile p=[]↔∀ x∈m,p x=true
 | []=>by simp
 | a::m=>by
  by_cases ha:p a=true
  ·rw [List.dropWhile_cons_of_pos ha,Zi5 m];simp [ha]
  ·rw [List.dropWhile_cons_of_neg ha];simp [ha]
theorem ZsO (s cs:List UInt8):Lib.trimS s cs=[]↔∀ b∈s,cs.contains b=true:=by
 unfold Lib.trimS Lib.trimLeftS Lib.trimRightS
 rw [Zi5]
 constructor
 ·intro h b hb
  exact dropWhile_nil s.reverse (fun x hx=>h x (List.mem_reverse.2 hx)) b (List.mem_reverse.2 hb)
 ·intro h b hb
  exact h b (List.mem_reverse.1 ((List.dropWhile_sublist _).subset (List.mem_reverse.1 hb)))
def letters:List UInt8:=[97,98,99,100,101,102,103,104,105,106,107,108,109,110,111,112,113,114,115,116,117,118,119,120,121,122]
def Zgl:List UInt8:=letters++[48,49,50,51,52,53,54,55,56,57]
theorem ZtQ {p:UInt8→Bool} (h:(List.range 256).all (fun n=>p (UInt8.ofNat n))=true) (b:UInt8):p b=true:=by
 rw [List.all_eq_true] at h
 have:=h b.toNat (List.mem_range.2 b.toNat_lt)
 simpa using this
theorem ZgN (b:UInt8):Zgl.contains b=(Zfg b||Zj7 b):=by
 have:=ZtQ (p:=fun b=>Zgl.contains b == (Zfg b||Zj7 b)) (by decide +kernel) b
 simpa using this
theorem Zpx (s:List UInt8):Lib.trimS s Zgl=[]↔s.all (fun b=>Zfg b||Zj7 b)=true:=by
 rw [ZsO,List.all_eq_true]
 simp only [ZgN]
theorem Zov (b:UInt8):decide (0≤(Lib.indexByte letters b:Int))=Zfg b:=by
 have:=ZtQ (p:=fun b=>decide (0≤(Lib.indexByte letters b:Int)) == Zfg b) (by decide +kernel) b
 simpa using this
theorem Zfe (s:List UInt8):ZcC s=some (VO s):=by
 unfold ZcC
 rw [Qu,Bq]
 split
 ·rename_i h
  rw [within_iff] at h
  rw [Zj (by omega)]
  split
  ·rename_i ht
   have ht':=(Zpx s).1 ht
   cases s with
   | nil=>simp at h
   | cons b r =>
    have e:atI (b::r) (0:Int)=some b:=rfl
    rw [e,Bq]
    have e1:((b.toNat:Int)).toNat.toUInt8=b:=by simp
    rw [e1]
    have h1:1≤(b::r).length:=by simp
    have h2:(b::r).length≤8:=by omega
    have:=Zov b
    unfold letters at this
    rw [this]
    simp only [VO,ht',decide_eq_true h1,decide_eq_true h2,Bool.true_and]
  ·rename_i ht
   have ht':¬s.all (fun b=>Zfg b||Zj7 b)=true:=fun e=>ht ((Zpx s).2 e)
   simp only [VO,Bool.eq_false_iff.2 ht',Bool.and_false,Bool.false_and]
 ·rename_i h
  rw [within_iff] at h
  have:¬(1≤s.length∧s.length≤8):=by omega
  rw [eq_comm]
  congr 1
  rw [Bool.eq_false_iff]
  intro hh
  simp only [VO,Bool.and_eq_true,decide_eq_true_eq] at hh
  omega
theorem Zlx (l:List (List UInt8)) (s:List UInt8) (hl:l.length≤4611686018427387904):∃ r,XA l s=some r∧(0≤r↔s∈l):=by
 unfold XA
 refine Qy l.length (fun k v=>v.1=(k:Int)∧s ∉ l.take k) _ ⟨rfl,by simp⟩ ?_ ?_
 ·rintro k ⟨i,⟨⟩⟩ hk ⟨rfl,hS⟩
  have hx:l[k]?=some l[k]:=List.getElem?_eq_getElem hk
  generalize l[k]=x at hx
  simp only [XB,Zt,hx,Bq,show (k:Int)<(l.length:Int) from by omega,if_true,Vq (show (-9223372036854775808:Int)≤(k:Int)+1 by omega) (by omega)]
  split
  ·rename_i e;subst e
   exact .inr ⟨_,rfl,fun _=>List.mem_of_getElem? hx,fun _=>by simp⟩
  ·rename_i e
   exact .inl ⟨_,rfl,by simp,by rw [YP hx];simp [hS,e]⟩
 ·rintro ⟨i,⟨⟩⟩ ⟨rfl,hS⟩
  simp only [XB,Int.lt_irrefl,if_false]
  refine ⟨_,rfl,fun h=>by omega,fun h=>absurd h (by simpa using hS)⟩
theorem ZiR (l:List (List UInt8)) (s:List UInt8) (hl:l.length≤4611686018427387904):Xd l s=some (decide (s∈l)):=by
 obtain ⟨r,h1,h2⟩:=Zlx l s hl
 unfold Xd
 rw [h1,Bq]
 simp only [h2]
def Qp (l:List (List UInt8)) (k:Nat):Prop:=∀ (j:Nat) (s:List UInt8),j<k→l[j]?=some s→VO s=true∧s ∉ l.take j
theorem Qa (l:List (List UInt8)) (hl:l.length≤4611686018427387904):XV l=some (tr (Qp l l.length)):=by
 unfold XV
 refine YJ l.length (fun k v=>v.1=(k:Int)∧Qp l k) _ ⟨rfl,fun j s hj=>by omega⟩ ?_ ?_
 ·rintro k ⟨i,⟨⟩⟩ hk ⟨rfl,hS⟩
  have hx:l[k]?=some l[k]:=List.getElem?_eq_getElem hk
  generalize l[k]=x at hx
  simp only [Zbh,Zt,hx,Bq,show (k:Int)<(l.length:Int) from by omega,if_true,Vq (show (-9223372036854775808:Int)≤(k:Int)+1 by omega) (by omega),Zfe]
  split
  ·rename_i hn
   rw [Zj (by omega),Zj (by omega)]
   simp only [Int.toNat_natCast,Int.toNat_zero,List.drop_zero,Nat.sub_zero]
   rw [ZiR _ _ (by simp only [List.length_take];omega),Bq]
   split
   ·rename_i hm
    right
    rw [ZK]
    intro hh
    exact (hh k x hk hx).2 (by simpa using hm)
   ·rename_i hm
    refine .inl ⟨_,rfl,by simp,fun j s hj hs=>?_⟩
    by_cases e:j<k
    ·exact hS j s e hs
    ·have:j=k:=by omega
     subst this
     rw [hx] at hs;injection hs with hs;subst hs
     exact ⟨hn,by simpa using hm⟩
  ·rename_i hn
   right
   rw [ZK]
   intro hh
   exact hn (hh k x hk hx).1
 ·rintro ⟨i,⟨⟩⟩ ⟨rfl,hS⟩
  simp only [Zbh,Int.lt_irrefl,if_false]
  rw [Yl hS]
/-
  Plain laws: numbers within bounds.
-/
def allIn (l:List Int) (lo hi:Int):Bool:=l.all (fun n=>within n lo hi)
theorem Zaq (l:List Int) (lo hi:Int) (hl:l.length≤4611686018427387904):Xh l lo hi=some (allIn l lo hi):=by
 have h1:∃ r,Yd l (lo,hi,())=some r∧(0≤r↔allIn l lo hi=false):=by
  unfold Yd
  refine Qy l.length (fun k v=>v.1=(k:Int)∧allIn (l.take k) lo hi=true) _ ⟨rfl,rfl⟩ ?_ ?_
  ·rintro k ⟨i,⟨⟩⟩ hk ⟨rfl,hS⟩
   have hx:l[k]?=some l[k]:=List.getElem?_eq_getElem hk
   generalize l[k]=x at hx
   simp only [Yi,ZcA,Qu,Zt,hx,Bq,show (k:Int)<(l.length:Int) from by omega,if_true,Vq (show (-9223372036854775808:Int)≤(k:Int)+1 by omega) (by omega)]
   cases hw:within x lo hi
   ·refine .inr ⟨_,rfl,fun _=>?_,fun _=>by simp⟩
    rw [allIn,List.all_eq_false]
    exact ⟨x,List.mem_of_getElem? hx,by simp [hw]⟩
   ·refine .inl ⟨_,rfl,by simp,?_⟩
    rw [YP hx,allIn,List.all_append]
    simp only [allIn] at hS
    simp [hS,hw]
  ·rintro ⟨i,⟨⟩⟩ ⟨rfl,hS⟩
   rw [List.take_length] at hS
   simp only [Yi,Int.lt_irrefl,if_false]
   exact ⟨_,rfl,fun h=>by omega,fun h=>by rw [hS] at h;cases h⟩
 obtain ⟨r,h1,h2⟩:=h1
 unfold Xh Yn
 rw [h1]
 simp only [Bq,h2]
 cases allIn l lo hi<;>simp
/-
  Plain laws: the instances of functions of package slices. Printed by program (libgen.py).
-/
theorem Xz {l:List Zx} {f:Bool×Unit} (hl:Len l) (p:Zx→Bool) (hp:∀ x∈l,QA x f.fst=some (p x)):ZP l f=some (ZbS p l):=by
 unfold ZP
 refine Zat (out:=fun i=>i) hl (p:=p) (fun k x hx=>?_) ?_
 ·have hk:=(List.getElem?_eq_some_iff.1 hx).1
  simp only [Z6,Zt,hx,Bq,show (k:Int)<(l.length:Int) from by omega,if_true,hp x (List.mem_of_getElem? hx)]
  split<;>rfl
 ·simp only [Z6,Int.lt_irrefl,if_false]
theorem Xo {l:List Zx} {f:Bool×Unit} (hl:Len l) (p:Zx→Bool) (hp:∀ x∈l,QA x f.fst=some (p x)):ZI l f=some (l.any p):=by
 unfold ZI
 rw [Xz hl p hp,Bq]
 congr 1
 rw [Bool.eq_iff_iff,decide_eq_true_eq,Va]
theorem XP {l:List Yq} {f:Unit} (hl:Len l) (p:Yq→Bool) (hp:∀ x∈l,ZbV x=some (p x)):ZX l f=some (ZbS p l):=by
 unfold ZX
 refine Zat (out:=fun i=>i) hl (p:=p) (fun k x hx=>?_) ?_
 ·have hk:=(List.getElem?_eq_some_iff.1 hx).1
  simp only [Yb,Zt,hx,Bq,show (k:Int)<(l.length:Int) from by omega,if_true,hp x (List.mem_of_getElem? hx)]
  split<;>rfl
 ·simp only [Yb,Int.lt_irrefl,if_false]
theorem XE {l:List ZB} {f:ZB×Unit} (hl:Len l) (p:ZB→Bool) (hp:∀ x∈l,XD x f.fst=some (p x)):ZR l f=some (ZbS p l):=by
 unfold ZR
 refine Zat (out:=fun i=>i) hl (p:=p) (fun k x hx=>?_) ?_
 ·have hk:=(List.getElem?_eq_some_iff.1 hx).1
  simp only [Z8,Zt,hx,Bq,show (k:Int)<(l.length:Int) from by omega,if_true,hp x (List.mem_of_getElem? hx)]
  split<;>rfl
 ·simp only [Z8,Int.lt_irrefl,if_false]
theorem Xq {l:List ZB} {f:ZB×Unit} (hl:Len l) (p:ZB→Bool) (hp:∀ x∈l,XD x f.fst=some (p x)):ZM l f=some (l.any p):=by
 unfold ZM
 rw [XE hl p hp,Bq]
 congr 1
 rw [Bool.eq_iff_iff,decide_eq_true_eq,Va]
theorem XY {l:List ZB} {f:Int×Unit} (hl:Len l) (p:ZB→Bool) (hp:∀ x∈l,ZaZ x f.fst=some (p x)):Z4 l f=some (ZbS p l):=by
 unfold Z4
 refine Zat (out:=fun i=>i) hl (p:=p) (fun k x hx=>?_) ?_
 ·have hk:=(List.getElem?_eq_some_iff.1 hx).1
  simp only [Ye,Zt,hx,Bq,show (k:Int)<(l.length:Int) from by omega,if_true,hp x (List.mem_of_getElem? hx)]
  split<;>rfl
 ·simp only [Ye,Int.lt_irrefl,if_false]
theorem XH {l:List ZB} {f:Int×Unit} (hl:Len l) (p:ZB→Bool) (hp:∀ x∈l,ZaZ x f.fst=some (p x)):ZT l f=some (l.any p):=by
 unfold ZT
 rw [XY hl p hp,Bq]
 congr 1
 rw [Bool.eq_iff_iff,decide_eq_true_eq,Va]
theorem XI {l:List Int} {f:Zf×Unit} (hl:Len l) (p:Int→Bool) (hp:∀ x∈l,Xg x f.fst=some (p x)):ZU l f=some (ZbS p l):=by
 unfold ZU
 refine Zat (out:=fun i=>i) hl (p:=p) (fun k x hx=>?_) ?_
 ·have hk:=(List.getElem?_eq_some_iff.1 hx).1
  simp only [Z9,Zt,hx,Bq,show (k:Int)<(l.length:Int) from by omega,if_true,hp x (List.mem_of_getElem? hx)]
  split<;>rfl
 ·simp only [Z9,Int.lt_irrefl,if_false]
theorem Xt {l:List Int} {f:Zf×Unit} (hl:Len l) (p:Int→Bool) (hp:∀ x∈l,Xg x f.fst=some (p x)):ZN l f=some (l.any p):=by
 unfold ZN
 rw [XI hl p hp,Bq]
 congr 1
 rw [Bool.eq_iff_iff,decide_eq_true_eq,Va]
theorem Vi {l:List Int} {f:Unit} (hl:Len l) (p:Int→Bool) (hp:∀ x∈l,Za0 x=some (p x)):Yj l f=some (ZbS p l):=by
 unfold Yj
 refine Zat (out:=fun i=>i) hl (p:=p) (fun k x hx=>?_) ?_
 ·have hk:=(List.getElem?_eq_some_iff.1 hx).1
  simp only [Yu,Zt,hx,Bq,show (k:Int)<(l.length:Int) from by omega,if_true,hp x (List.mem_of_getElem? hx)]
  split<;>rfl
 ·simp only [Yu,Int.lt_irrefl,if_false]
theorem QJ {l:List Int} {f:Unit} (hl:Len l) (p:Int→Bool) (hp:∀ x∈l,Za0 x=some (p x)):Yg l f=some (l.any p):=by
 unfold Yg
 rw [Vi hl p hp,Bq]
 congr 1
 rw [Bool.eq_iff_iff,decide_eq_true_eq,Va]
theorem Xp {l:List Zb} {f:YT×Unit} (hl:Len l) (p:Zb→Bool) (hp:∀ x∈l,Qk x f.fst=some (p x)):ZJ l f=some (ZbS p l):=by
 unfold ZJ
 refine Zat (out:=fun i=>i) hl (p:=p) (fun k x hx=>?_) ?_
 ·have hk:=(List.getElem?_eq_some_iff.1 hx).1
  simp only [ZY,Zt,hx,Bq,show (k:Int)<(l.length:Int) from by omega,if_true,hp x (List.mem_of_getElem? hx)]
  split<;>rfl
 ·simp only [ZY,Int.lt_irrefl,if_false]
theorem Xi {l:List Zb} {f:YT×Unit} (hl:Len l) (p:Zb→Bool) (hp:∀ x∈l,Qk x f.fst=some (p x)):ZF l f=some (l.any p):=by
 unfold ZF
 rw [Xp hl p hp,Bq]
 congr 1
 rw [Bool.eq_iff_iff,decide_eq_true_eq,Va]
theorem Y6 {l:List Zh} {f:YT×Unit} (hl:Len l) (p:Zh→Bool) (hp:∀ x∈l,Ql x f.fst=some (p x)):ZC l f=some (ZbS p l):=by
 unfold ZC
 refine Zat (out:=fun i=>i) hl (p:=p) (fun k x hx=>?_) ?_
 ·have hk:=(List.getElem?_eq_some_iff.1 hx).1
  simp only [ZL,Zt,hx,Bq,show (k:Int)<(l.length:Int) from by omega,if_true,hp x (List.mem_of_getElem? hx)]
  split<;>rfl
 ·simp only [ZL,Int.lt_irrefl,if_false]
theorem Y4 {l:List Zh} {f:YT×Unit} (hl:Len l) (p:Zh→Bool) (hp:∀ x∈l,Ql x f.fst=some (p x)):ZA l f=some (l.any p):=by
 unfold ZA
 rw [Y6 hl p hp,Bq]
 congr 1
 rw [Bool.eq_iff_iff,decide_eq_true_eq,Va]
theorem Xu {l:List Zl} {f:Int×Unit} (hl:Len l) (p:Zl→Bool) (hp:∀ x∈l,Zdq x f.fst=some (p x)):ZO l f=some (ZbS p l):=by
 unfold ZO
 refine Zat (out:=fun i=>i) hl (p:=p) (fun k x hx=>?_) ?_
 ·have hk:=(List.getElem?_eq_some_iff.1 hx).1
  simp only [Z5,Zt,hx,Bq,show (k:Int)<(l.length:Int) from by omega,if_true,hp x (List.mem_of_getElem? hx)]
  split<;>rfl
 ·simp only [Z5,Int.lt_irrefl,if_false]
/-
  Plain laws: arguments counted, copied, compared. Printed by program (szgen.py).
-/
theorem Zjt (a:Yq) (left:Int) (h0:0≤left) (h1:left≤1048576) (hb:bnd (Zdb) a):Szd (ZbG a left) left (sm (Zdb) a):=by
 unfold ZbG
 refine Szd.len h0 h1 (by omega) hb.1 (fun hw a0 b0 s0=>?_)
 rw [hw]
 exact Szd.ret ⟨s0,YC _ (by rfl) _,YC _ (by rfl) _,YC _ (by rfl) _,trivial⟩
theorem Zns (a:List (Yq)) (left:Int) (h0:0≤left) (h1:left≤1048576) (hb:bnd (.sl (Zdb)) a):Szd (ZcF a left) left (sm (.sl (Zdb)) a):=by
 unfold ZcF
 refine Szd.len h0 h1 (by omega) hb.1 (fun hw m0 m1 hn=>?_)
 rw [hw]
 exact (Szd.loop (f:=fun x m=>ZbG x m) (P:=fun x=>sm (Zdb) x) (fun x hx m m0 m1=>Zjt x m m0 m1 (hb.2 x hx)) (fun k m=>rfl) m0 m1 hn).mono (fun h=>⟨hn,h⟩)
theorem YL (a:List (Int)) (left:Int) (h0:0≤left) (h1:left≤1048576) (hb:bnd (.sl (.int .i64)) a):Szd (Yz a left) left (sm (.sl (.int .i64)) a):=by
 unfold Yz
 refine Szd.len h0 h1 (by omega) hb.1 (fun hw m0 m1 hn=>?_)
 rw [hw]
 exact Szd.ret ⟨hn,fun x _=>YC (.int .i64) (by rfl) x⟩
theorem Zhn (a:Zx) (left:Int) (h0:0≤left) (h1:left≤1048576) (hb:bnd (YO) a):Szd (VN a left) left (sm (YO) a):=by
 unfold VN
 refine Szd.then (YL _ _ h0 h1 hb.1) h0 h1 (fun m0 a0 b0 s0=>?_)
 refine Szd.then (YL _ _ a0 b0 hb.2.1) a0 b0 (fun m1 a1 b1 s1=>?_)
 refine Szd.last (YL _ _ a1 b1 hb.2.2.1) a1 (fun s2=>?_)
 exact ⟨s0,s1,s2,trivial⟩
theorem ZgJ (a:List (Zx)) (left:Int) (h0:0≤left) (h1:left≤1048576) (hb:bnd (.sl (YO)) a):Szd (V8 a left) left (sm (.sl (YO)) a):=by
 unfold V8
 refine Szd.len h0 h1 (by omega) hb.1 (fun hw m0 m1 hn=>?_)
 rw [hw]
 exact (Szd.loop (f:=fun x m=>VN x m) (P:=fun x=>sm (YO) x) (fun x hx m m0 m1=>Zhn x m m0 m1 (hb.2 x hx)) (fun k m=>rfl) m0 m1 hn).mono (fun h=>⟨hn,h⟩)
theorem Zjp (a:ZB) (left:Int) (h0:0≤left) (h1:left≤1048576) (hb:bnd (ZdY) a):Szd (ZbD a left) left (sm (ZdY) a):=by
 unfold ZbD
 refine Szd.then (ZgJ _ _ h0 h1 hb.2.2.2.2.1) h0 h1 (fun m0 a0 b0 s0=>?_)
 refine Szd.last (ZgJ _ _ a0 b0 hb.2.2.2.2.2.1) a0 (fun s1=>?_)
 exact ⟨YC _ (by rfl) _,YC _ (by rfl) _,YC _ (by rfl) _,YC _ (by rfl) _,s0,s1,trivial⟩
theorem Znq (a:List (ZB)) (left:Int) (h0:0≤left) (h1:left≤1048576) (hb:bnd (.sl (ZdY)) a):Szd (ZcE a left) left (sm (.sl (ZdY)) a):=by
 unfold ZcE
 refine Szd.len h0 h1 (by omega) hb.1 (fun hw m0 m1 hn=>?_)
 rw [hw]
 exact (Szd.loop (f:=fun x m=>ZbD x m) (P:=fun x=>sm (ZdY) x) (fun x hx m m0 m1=>Zjp x m m0 m1 (hb.2 x hx)) (fun k m=>rfl) m0 m1 hn).mono (fun h=>⟨hn,h⟩)
theorem Zid (a:Zi) (left:Int) (h0:0≤left) (h1:left≤1048576) (hb:bnd (Qf) a):Szd (JZ a left) left (sm (Qf) a):=by
 unfold JZ
 refine Szd.len h0 h1 (by omega) hb.1 (fun hw a0 b0 s0=>?_)
 rw [hw]
 refine Szd.then (Zns _ _ a0 b0 hb.2.2.1) a0 b0 (fun m1 a1 b1 s1=>?_)
 refine Szd.then (Znq _ _ a1 b1 hb.2.2.2.1) a1 b1 (fun m2 a2 b2 s2=>?_)
 refine Szd.last (YL _ _ a2 b2 hb.2.2.2.2.1) a2 (fun s3=>?_)
 exact ⟨s0,YC _ (by rfl) _,s1,s2,s3,YC _ (by rfl) _,YC _ (by rfl) _,trivial⟩
theorem Zmq (a:List (Zi)) (left:Int) (h0:0≤left) (h1:left≤1048576) (hb:bnd (.sl (Qf)) a):Szd (ZbF a left) left (sm (.sl (Qf)) a):=by
 unfold ZbF
 refine Szd.len h0 h1 (by omega) hb.1 (fun hw m0 m1 hn=>?_)
 rw [hw]
 exact (Szd.loop (f:=fun x m=>JZ x m) (P:=fun x=>sm (Qf) x) (fun x hx m m0 m1=>Zid x m m0 m1 (hb.2 x hx)) (fun k m=>rfl) m0 m1 hn).mono (fun h=>⟨hn,h⟩)
theorem Zkp (a:Zu) (left:Int) (h0:0≤left) (h1:left≤1048576) (hb:bnd (YD) a):Szd (Jp a left) left (sm (YD) a):=by
 unfold Jp
 refine Szd.last (Zmq _ _ h0 h1 hb.1) h0 (fun s0=>?_)
 exact ⟨s0,trivial⟩
theorem ZeT (a:Zk) (left:Int) (h0:0≤left) (h1:left≤1048576) (hb:bnd (Z7) a):Szd (X4 a left) left (sm (Z7) a):=by
 unfold X4
 refine Szd.len h0 h1 (by omega) hb.1 (fun hw a0 b0 s0=>?_)
 rw [hw]
 refine Szd.last (YL _ _ a0 b0 hb.2.2.1) a0 (fun s1=>?_)
 exact ⟨s0,YC _ (by rfl) _,s1,trivial⟩
theorem ZiE (a:List (Zk)) (left:Int) (h0:0≤left) (h1:left≤1048576) (hb:bnd (.sl (Z7)) a):Szd (Q5 a left) left (sm (.sl (Z7)) a):=by
 unfold Q5
 refine Szd.len h0 h1 (by omega) hb.1 (fun hw m0 m1 hn=>?_)
 rw [hw]
 exact (Szd.loop (f:=fun x m=>X4 x m) (P:=fun x=>sm (Z7) x) (fun x hx m m0 m1=>ZeT x m m0 m1 (hb.2 x hx)) (fun k m=>rfl) m0 m1 hn).mono (fun h=>⟨hn,h⟩)
theorem Zkr (a:List (List UInt8)) (left:Int) (h0:0≤left) (h1:left≤1048576) (hb:bnd (.sl (.str)) a):Szd (Jq a left) left (sm (.sl (.str)) a):=by
 unfold Jq
 refine Szd.len h0 h1 (by omega) hb.1 (fun hw m0 m1 hn=>?_)
 rw [hw]
 exact (Szd.loop (f:=fun x m=>if Wq (m-(x.length:Int))<0 then some (-1) else some (Wq (m-(x.length:Int)))) (P:=fun x=>sm .str x) (fun x hx m m0 m1=>Szd.len m0 m1 (by omega) (hb.2 x hx) (fun hw _ _ hn=>by rw [hw];exact Szd.ret hn)) (fun k m=>by
  show Qn a m (k:Int)=_
  unfold Qn
  congr 1;congr 1;funext x;split<;>simp_all) m0 m1 hn).mono (fun h=>⟨hn,h⟩)
theorem Zie (a:Ya) (left:Int) (h0:0≤left) (h1:left≤1048576) (hb:bnd (VH) a):Szd (J2 a left) left (sm (VH) a):=by
 unfold J2
 refine Szd.len h0 h1 (by omega) hb.1 (fun hw a0 b0 s0=>?_)
 rw [hw]
 exact Szd.ret ⟨s0,YC _ (by rfl) _,YC _ (by rfl) _,trivial⟩
theorem Zmt (a:List (Ya)) (left:Int) (h0:0≤left) (h1:left≤1048576) (hb:bnd (.sl (VH)) a):Szd (ZbH a left) left (sm (.sl (VH)) a):=by
 unfold ZbH
 refine Szd.len h0 h1 (by omega) hb.1 (fun hw m0 m1 hn=>?_)
 rw [hw]
 exact (Szd.loop (f:=fun x m=>J2 x m) (P:=fun x=>sm (VH) x) (fun x hx m m0 m1=>Zie x m m0 m1 (hb.2 x hx)) (fun k m=>rfl) m0 m1 hn).mono (fun h=>⟨hn,h⟩)
theorem Zlm (a:Zf) (left:Int) (h0:0≤left) (h1:left≤1048576) (hb:bnd (YN) a):Szd (Zaw a left) left (sm (YN) a):=by
 unfold Zaw
 refine Szd.then (ZiE _ _ h0 h1 hb.1) h0 h1 (fun m0 a0 b0 s0=>?_)
 refine Szd.then (Zkr _ _ a0 b0 hb.2.1) a0 b0 (fun m1 a1 b1 s1=>?_)
 refine Szd.last (Zmt _ _ a1 b1 hb.2.2.1) a1 (fun s2=>?_)
 exact ⟨s0,s1,s2,trivial⟩
theorem Zif (a:Zy) (left:Int) (h0:0≤left) (h1:left≤1048576) (hb:bnd (Vr) a):Szd (J3 a left) left (sm (Vr) a):=by
 unfold J3
 refine Szd.then (YL _ _ h0 h1 hb.1) h0 h1 (fun m0 a0 b0 s0=>?_)
 refine Szd.then (YL _ _ a0 b0 hb.2.1) a0 b0 (fun m1 a1 b1 s1=>?_)
 refine Szd.then (YL _ _ a1 b1 hb.2.2.1) a1 b1 (fun m2 a2 b2 s2=>?_)
 refine Szd.last (YL _ _ a2 b2 hb.2.2.2.1) a2 (fun s3=>?_)
 exact ⟨s0,s1,s2,s3,trivial⟩
theorem Zmw (a:List (Zy)) (left:Int) (h0:0≤left) (h1:left≤1048576) (hb:bnd (.sl (Vr)) a):Szd (ZbJ a left) left (sm (.sl (Vr)) a):=by
 unfold ZbJ
 refine Szd.len h0 h1 (by omega) hb.1 (fun hw m0 m1 hn=>?_)
 rw [hw]
 exact (Szd.loop (f:=fun x m=>J3 x m) (P:=fun x=>sm (Vr) x) (fun x hx m m0 m1=>Zif x m m0 m1 (hb.2 x hx)) (fun k m=>rfl) m0 m1 hn).mono (fun h=>⟨hn,h⟩)
theorem Zmp (a:Zn) (left:Int) (h0:0≤left) (h1:left≤1048576) (hb:bnd (Y2) a):Szd (ZbE a left) left (sm (Y2) a):=by
 unfold ZbE
 refine Szd.then (Zkp _ _ h0 h1 hb.1) h0 h1 (fun m0 a0 b0 s0=>?_)
 refine Szd.then (Zlm _ _ a0 b0 hb.2.1) a0 b0 (fun m1 a1 b1 s1=>?_)
 refine Szd.last (Zmw _ _ a1 b1 hb.2.2.1) a1 (fun s2=>?_)
 exact ⟨s0,s1,s2,trivial⟩
theorem Zhl (a:Zb) (left:Int) (h0:0≤left) (h1:left≤1048576) (hb:bnd (YA) a):Szd (VL a left) left (sm (YA) a):=by
 unfold VL
 refine Szd.len h0 h1 (by omega) hb.1 (fun hw a0 b0 s0=>?_)
 rw [hw]
 exact Szd.ret ⟨s0,YC _ (by rfl) _,YC _ (by rfl) _,YC _ (by rfl) _,YC _ (by rfl) _,YC _ (by rfl) _,YC _ (by rfl) _,YC _ (by rfl) _,YC _ (by rfl) _,YC _ (by rfl) _,YC _ (by rfl) _,trivial⟩
theorem Zlk (a:List (Zb)) (left:Int) (h0:0≤left) (h1:left≤1048576) (hb:bnd (.sl (YA)) a):Szd (Zav a left) left (sm (.sl (YA)) a):=by
 unfold Zav
 refine Szd.len h0 h1 (by omega) hb.1 (fun hw m0 m1 hn=>?_)
 rw [hw]
 exact (Szd.loop (f:=fun x m=>VL x m) (P:=fun x=>sm (YA) x) (fun x hx m m0 m1=>Zhl x m m0 m1 (hb.2 x hx)) (fun k m=>rfl) m0 m1 hn).mono (fun h=>⟨hn,h⟩)
theorem Zel (a:List (Zd)) (left:Int) (h0:0≤left) (h1:left≤1048576) (hb:bnd (.sl (ZQ)) a):Szd (Qb a left) left (sm (.sl (ZQ)) a):=by
 unfold Qb
 refine Szd.len h0 h1 (by omega) hb.1 (fun hw m0 m1 hn=>?_)
 rw [hw]
 exact Szd.ret ⟨hn,fun x _=>YC (ZQ) (by rfl) x⟩
theorem Zek (a:Zh) (left:Int) (h0:0≤left) (h1:left≤1048576) (hb:bnd (ZG) a):Szd (XF a left) left (sm (ZG) a):=by
 unfold XF
 refine Szd.then (YL _ _ h0 h1 hb.2.2.1) h0 h1 (fun m0 a0 b0 s0=>?_)
 refine Szd.then (YL _ _ a0 b0 hb.2.2.2.1) a0 b0 (fun m1 a1 b1 s1=>?_)
 refine Szd.last (YL _ _ a1 b1 hb.2.2.2.2.1) a1 (fun s2=>?_)
 exact ⟨YC _ (by rfl) _,YC _ (by rfl) _,s0,s1,s2,trivial⟩
theorem ZhV (a:List (Zh)) (left:Int) (h0:0≤left) (h1:left≤1048576) (hb:bnd (.sl (ZG)) a):Szd (QD a left) left (sm (.sl (ZG)) a):=by
 unfold QD
 refine Szd.len h0 h1 (by omega) hb.1 (fun hw m0 m1 hn=>?_)
 rw [hw]
 exact (Szd.loop (f:=fun x m=>XF x m) (P:=fun x=>sm (ZG) x) (fun x hx m m0 m1=>Zek x m m0 m1 (hb.2 x hx)) (fun k m=>rfl) m0 m1 hn).mono (fun h=>⟨hn,h⟩)
theorem ZgI (a:Zq) (left:Int) (h0:0≤left) (h1:left≤1048576) (hb:bnd (Yo) a):Szd (Vg a left) left (sm (Yo) a):=by
 unfold Vg
 refine Szd.len h0 h1 (by omega) hb.1 (fun hw a0 b0 s0=>?_)
 rw [hw]
 exact Szd.ret ⟨s0,YC _ (by rfl) _,YC _ (by rfl) _,YC _ (by rfl) _,YC _ (by rfl) _,trivial⟩
theorem Zkm (a:List (Zq)) (left:Int) (h0:0≤left) (h1:left≤1048576) (hb:bnd (.sl (Yo)) a):Szd (Jo a left) left (sm (.sl (Yo)) a):=by
 unfold Jo
 refine Szd.len h0 h1 (by omega) hb.1 (fun hw m0 m1 hn=>?_)
 rw [hw]
 exact (Szd.loop (f:=fun x m=>Vg x m) (P:=fun x=>sm (Yo) x) (fun x hx m m0 m1=>ZgI x m m0 m1 (hb.2 x hx)) (fun k m=>rfl) m0 m1 hn).mono (fun h=>⟨hn,h⟩)
theorem Zmv (a:Zm) (left:Int) (h0:0≤left) (h1:left≤1048576) (hb:bnd (XG) a):Szd (ZbI a left) left (sm (XG) a):=by
 unfold ZbI
 refine Szd.then (Zlk _ _ h0 h1 hb.1) h0 h1 (fun m0 a0 b0 s0=>?_)
 refine Szd.then (Zel _ _ a0 b0 hb.2.1) a0 b0 (fun m1 a1 b1 s1=>?_)
 refine Szd.then (Zel _ _ a1 b1 hb.2.2.1) a1 b1 (fun m2 a2 b2 s2=>?_)
 refine Szd.then (ZhV _ _ a2 b2 hb.2.2.2.1) a2 b2 (fun m3 a3 b3 s3=>?_)
 refine Szd.last (Zkm _ _ a3 b3 hb.2.2.2.2.1) a3 (fun s4=>?_)
 exact ⟨s0,s1,s2,s3,s4,trivial⟩
theorem ZoA (a:Yq) (hs:sm (Zdb) a):Zft a=some a:=by
 unfold Zft
 all_goals rfl
theorem Znw (a:List (Yq)) (hs:sm (.sl (Zdb)) a):Zgk a=some a:=by
 unfold Zgk
 have h:=hs.1
 rw [Zj (by omega),Zj (by omega),Zj (by omega),Zj (by omega)]
 exact Vy (f:=Zft) (fun x hx=>ZoA x (hs.2 x hx)) (fun k out=>rfl) h
theorem YM (a:List (Int)) (hs:sm (.sl (.int .i64)) a):YS a=some a:=by
 unfold YS
 have h:=hs.1
 rw [Zj (by omega),Zj (by omega),Zj (by omega),Zj (by omega)]
 exact Vy (f:=some) (fun x _=>rfl) (fun k out=>rfl) h
theorem ZmD (a:Zx) (hs:sm (YO) a):Zdj a=some a:=by
 unfold Zdj
 rw [YM _ hs.1,Bq,YM _ hs.2.1,Bq,YM _ hs.2.2.1,Bq]
 all_goals rfl
theorem ZgK (a:List (Zx)) (hs:sm (.sl (YO)) a):Zb9 a=some a:=by
 unfold Zb9
 have h:=hs.1
 rw [Zj (by omega),Zj (by omega),Zj (by omega),Zj (by omega)]
 exact Vy (f:=Zdj) (fun x hx=>ZmD x (hs.2 x hx)) (fun k out=>rfl) h
theorem Zoz (a:ZB) (hs:sm (ZdY) a):Zfs a=some a:=by
 unfold Zfs
 rw [ZgK _ hs.2.2.2.2.1,Bq,ZgK _ hs.2.2.2.2.2.1,Bq]
 all_goals rfl
theorem Znu (a:List (ZB)) (hs:sm (.sl (ZdY)) a):Zgi a=some a:=by
 unfold Zgi
 have h:=hs.1
 rw [Zj (by omega),Zj (by omega),Zj (by omega),Zj (by omega)]
 exact Vy (f:=Zfs) (fun x hx=>Zoz x (hs.2 x hx)) (fun k out=>rfl) h
theorem Znv (a:Zi) (hs:sm (Qf) a):Zem a=some a:=by
 unfold Zem
 rw [Znw _ hs.2.2.1,Bq,Znu _ hs.2.2.2.1,Bq,YM _ hs.2.2.2.2.1,Bq]
 all_goals rfl
theorem Zmz (a:List (Zi)) (hs:sm (.sl (Qf)) a):ZeV a=some a:=by
 unfold ZeV
 have h:=hs.1
 rw [Zj (by omega),Zj (by omega),Zj (by omega),Zj (by omega)]
 exact Vy (f:=Zem) (fun x hx=>Znv x (hs.2 x hx)) (fun k out=>rfl) h
theorem Zku (a:Zu) (hs:sm (YD) a):Zc7 a=some a:=by
 unfold Zc7
 rw [Zmz _ hs.1,Bq]
 all_goals rfl
theorem Zjz (a:Zk) (hs:sm (Z7) a):J5 a=some a:=by
 unfold J5
 rw [YM _ hs.2.2.1,Bq]
 all_goals rfl
theorem ZiJ (a:List (Zk)) (hs:sm (.sl (Z7)) a):Za6 a=some a:=by
 unfold Za6
 have h:=hs.1
 rw [Zj (by omega),Zj (by omega),Zj (by omega),Zj (by omega)]
 exact Vy (f:=J5) (fun x hx=>Zjz x (hs.2 x hx)) (fun k out=>rfl) h
theorem Zkw (a:List (List UInt8)) (hs:sm (.sl (.str)) a):Zc8 a=some a:=by
 unfold Zc8
 have h:=hs.1
 rw [Zj (by omega),Zj (by omega),Zj (by omega),Zj (by omega)]
 exact Vy (f:=some) (fun x _=>rfl) (fun k out=>rfl) h
theorem Znx (a:Ya) (hs:sm (VH) a):Zeo a=some a:=by
 unfold Zeo
 all_goals rfl
theorem ZmB (a:List (Ya)) (hs:sm (.sl (VH)) a):ZeW a=some a:=by
 unfold ZeW
 have h:=hs.1
 rw [Zj (by omega),Zj (by omega),Zj (by omega),Zj (by omega)]
 exact Vy (f:=Zeo) (fun x hx=>Znx x (hs.2 x hx)) (fun k out=>rfl) h
theorem Zlt (a:Zf) (hs:sm (YN) a):ZdP a=some a:=by
 unfold ZdP
 rw [ZiJ _ hs.1,Bq,Zkw _ hs.2.1,Bq,ZmB _ hs.2.2.1,Bq]
 all_goals rfl
theorem Zny (a:Zy) (hs:sm (Vr) a):Zeq a=some a:=by
 unfold Zeq
 rw [YM _ hs.1,Bq,YM _ hs.2.1,Bq,YM _ hs.2.2.1,Bq,YM _ hs.2.2.2.1,Bq]
 all_goals rfl
theorem ZmE (a:List (Zy)) (hs:sm (.sl (Vr)) a):ZeY a=some a:=by
 unfold ZeY
 have h:=hs.1
 rw [Zj (by omega),Zj (by omega),Zj (by omega),Zj (by omega)]
 exact Vy (f:=Zeq) (fun x hx=>Zny x (hs.2 x hx)) (fun k out=>rfl) h
theorem Zmy (a:Zn) (hs:sm (Y2) a):ZeU a=some a:=by
 unfold ZeU
 rw [Zku _ hs.1,Bq,Zlt _ hs.2.1,Bq,ZmE _ hs.2.2.1,Bq]
 all_goals rfl
theorem ZmA (a:Zb) (hs:sm (YA) a):Zdi a=some a:=by
 unfold Zdi
 all_goals rfl
theorem Zlr (a:List (Zb)) (hs:sm (.sl (YA)) a):ZdO a=some a:=by
 unfold ZdO
 have h:=hs.1
 rw [Zj (by omega),Zj (by omega),Zj (by omega),Zj (by omega)]
 exact Vy (f:=Zdi) (fun x hx=>ZmA x (hs.2 x hx)) (fun k out=>rfl) h
theorem Zig (a:ZH) (hs:sm (Zgy) a):Zep a=some a:=by
 unfold Zep
 all_goals rfl
theorem Zjy (a:Zd) (hs:sm (ZQ) a):J4 a=some a:=by
 unfold J4
 rw [Zig _ hs.2.2.1,Bq,Zig _ hs.2.2.2.1,Bq]
 all_goals rfl
theorem Zen (a:List (Zd)) (hs:sm (.sl (ZQ)) a):Jj a=some a:=by
 unfold Jj
 have h:=hs.1
 rw [Zj (by omega),Zj (by omega),Zj (by omega),Zj (by omega)]
 exact Vy (f:=J4) (fun x hx=>Zjy x (hs.2 x hx)) (fun k out=>rfl) h
theorem ZiI (a:Zh) (hs:sm (ZG) a):Ji a=some a:=by
 unfold Ji
 rw [YM _ hs.2.2.1,Bq,YM _ hs.2.2.2.1,Bq,YM _ hs.2.2.2.2.1,Bq]
 all_goals rfl
theorem ZhZ (a:List (Zh)) (hs:sm (.sl (ZG)) a):Zax a=some a:=by
 unfold Zax
 have h:=hs.1
 rw [Zj (by omega),Zj (by omega),Zj (by omega),Zj (by omega)]
 exact Vy (f:=Ji) (fun x hx=>ZiI x (hs.2 x hx)) (fun k out=>rfl) h
theorem Zls (a:Zq) (hs:sm (Yo) a):Zb8 a=some a:=by
 unfold Zb8
 all_goals rfl
theorem Zkt (a:List (Zq)) (hs:sm (.sl (Yo)) a):Zc6 a=some a:=by
 unfold Zc6
 have h:=hs.1
 rw [Zj (by omega),Zj (by omega),Zj (by omega),Zj (by omega)]
 exact Vy (f:=Zb8) (fun x hx=>Zls x (hs.2 x hx)) (fun k out=>rfl) h
theorem ZmC (a:Zm) (hs:sm (XG) a):ZeX a=some a:=by
 unfold ZeX
 rw [Zlr _ hs.1,Bq,Zen _ hs.2.1,Bq,Zen _ hs.2.2.1,Bq,ZhZ _ hs.2.2.2.1,Bq,Zkt _ hs.2.2.2.2.1,Bq]
 all_goals rfl
theorem ZcZ (a:ZH) (hs:sm (Zgy) a):Zbj a a=some true:=by
 unfold Zbj
 simp
theorem Zlf (a:Zl) (hs:sm (Y5) a):Zb4 a a=some true:=by
 unfold Zb4
 simp [ZcZ _ hs.2.1,ZcZ _ hs.2.2.1]
theorem Zkd (a:List (Zl)) (hs:sm (.sl (Y5)) a):ZcY a a=some true:=by
 unfold ZcY
 rw [if_pos rfl]
 exact Zdp (f:=Zb4) (fun x hx=>Zlf x (hs.2 x hx)) (fun k=>rfl) hs.1
theorem Zoy (a:Yq) (hs:sm (Zdb) a):Zfq a a=some true:=by
 unfold Zfq
 simp
theorem Znn (a:List (Yq)) (hs:sm (.sl (Zdb)) a):Zgg a a=some true:=by
 unfold Zgg
 rw [if_pos rfl]
 exact Zdp (f:=Zfq) (fun x hx=>Zoy x (hs.2 x hx)) (fun k=>rfl) hs.1
theorem YK (a:List (Int)) (hs:sm (.sl (.int .i64)) a):YR a a=some true:=by
 unfold YR
 rw [if_pos rfl]
 exact Zqo (fun k=>rfl) hs.1
theorem Zmm (a:Zx) (hs:sm (YO) a):Zdg a a=some true:=by
 unfold Zdg
 simp [YK _ hs.1,YK _ hs.2.1,YK _ hs.2.2.1]
theorem ZgH (a:List (Zx)) (hs:sm (.sl (YO)) a):Zb5 a a=some true:=by
 unfold Zb5
 rw [if_pos rfl]
 exact Zdp (f:=Zdg) (fun x hx=>Zmm x (hs.2 x hx)) (fun k=>rfl) hs.1
theorem Zox (a:ZB) (hs:sm (ZdY) a):Zfp a a=some true:=by
 unfold Zfp
 simp [ZgH _ hs.2.2.2.2.1,ZgH _ hs.2.2.2.2.2.1]
theorem Znl (a:List (ZB)) (hs:sm (.sl (ZdY)) a):Zge a a=some true:=by
 unfold Zge
 rw [if_pos rfl]
 exact Zdp (f:=Zfp) (fun x hx=>Zox x (hs.2 x hx)) (fun k=>rfl) hs.1
theorem Znm (a:Zi) (hs:sm (Qf) a):Zeg a a=some true:=by
 unfold Zeg
 simp [Znn _ hs.2.2.1,Znl _ hs.2.2.2.1,YK _ hs.2.2.2.2.1]
theorem Zmi (a:List (Zi)) (hs:sm (.sl (Qf)) a):ZeO a a=some true:=by
 unfold ZeO
 rw [if_pos rfl]
 exact Zdp (f:=Zeg) (fun x hx=>Znm x (hs.2 x hx)) (fun k=>rfl) hs.1
theorem Zkb (a:Zu) (hs:sm (YD) a):ZcX a a=some true:=by
 unfold ZcX
 simp [Zmi _ hs.1]
theorem Zjk (a:Zk) (hs:sm (Z7) a):JU a a=some true:=by
 unfold JU
 simp [YK _ hs.2.2.1]
theorem Zix (a:List (Zk)) (hs:sm (.sl (Z7)) a):Za2 a a=some true:=by
 unfold Za2
 rw [if_pos rfl]
 exact Zdp (f:=JU) (fun x hx=>Zjk x (hs.2 x hx)) (fun k=>rfl) hs.1
theorem Zke (a:List (List UInt8)) (hs:sm (.sl (.str)) a):Zc0 a a=some true:=by
 unfold Zc0
 rw [if_pos rfl]
 exact Zqo (fun k=>rfl) hs.1
theorem Zno (a:Ya) (hs:sm (VH) a):Zei a a=some true:=by
 unfold Zei
 simp
theorem Zmk (a:List (Ya)) (hs:sm (.sl (VH)) a):ZeP a a=some true:=by
 unfold ZeP
 rw [if_pos rfl]
 exact Zdp (f:=Zei) (fun x hx=>Zno x (hs.2 x hx)) (fun k=>rfl) hs.1
theorem Zle (a:Zf) (hs:sm (YN) a):ZdL a a=some true:=by
 unfold ZdL
 simp [Zix _ hs.1,Zke _ hs.2.1,Zmk _ hs.2.2.1]
theorem Znp (a:Zy) (hs:sm (Vr) a):Zej a a=some true:=by
 unfold Zej
 simp [YK _ hs.1,YK _ hs.2.1,YK _ hs.2.2.1,YK _ hs.2.2.2.1]
theorem Zmn (a:List (Zy)) (hs:sm (.sl (Vr)) a):ZeR a a=some true:=by
 unfold ZeR
 rw [if_pos rfl]
 exact Zdp (f:=Zej) (fun x hx=>Znp x (hs.2 x hx)) (fun k=>rfl) hs.1
theorem Zmh (a:Zn) (hs:sm (Y2) a):ZeN a a=some true:=by
 unfold ZeN
 simp [Zkb _ hs.1,Zle _ hs.2.1,Zmn _ hs.2.2.1]
theorem Zmj (a:Zb) (hs:sm (YA) a):Zdf a a=some true:=by
 unfold Zdf
 simp
theorem Zlc (a:List (Zb)) (hs:sm (.sl (YA)) a):ZdK a a=some true:=by
 unfold ZdK
 rw [if_pos rfl]
 exact Zdp (f:=Zdf) (fun x hx=>Zmj x (hs.2 x hx)) (fun k=>rfl) hs.1
theorem Zjj (a:Zd) (hs:sm (ZQ) a):JR a a=some true:=by
 unfold JR
 simp [ZcZ _ hs.2.2.1,ZcZ _ hs.2.2.2.1]
theorem Zeh (a:List (Zd)) (hs:sm (.sl (ZQ)) a):Jh a a=some true:=by
 unfold Jh
 rw [if_pos rfl]
 exact Zdp (f:=JR) (fun x hx=>Zjj x (hs.2 x hx)) (fun k=>rfl) hs.1
theorem Ziw (a:Zh) (hs:sm (ZG) a):Jg a a=some true:=by
 unfold Jg
 simp [YK _ hs.2.2.1,YK _ hs.2.2.2.1,YK _ hs.2.2.2.2.1]
theorem ZhR (a:List (Zh)) (hs:sm (.sl (ZG)) a):Zau a a=some true:=by
 unfold Zau
 rw [if_pos rfl]
 exact Zdp (f:=Jg) (fun x hx=>Ziw x (hs.2 x hx)) (fun k=>rfl) hs.1
theorem Zld (a:Zq) (hs:sm (Yo) a):Zb3 a a=some true:=by
 unfold Zb3
 simp
theorem Zka (a:List (Zq)) (hs:sm (.sl (Yo)) a):ZcW a a=some true:=by
 unfold ZcW
 rw [if_pos rfl]
 exact Zdp (f:=Zb3) (fun x hx=>Zld x (hs.2 x hx)) (fun k=>rfl) hs.1
theorem Zml (a:Zm) (hs:sm (XG) a):ZeQ a a=some true:=by
 unfold ZeQ
 simp [Zlc _ hs.1,Zeh _ hs.2.1,Zeh _ hs.2.2.1,ZhR _ hs.2.2.2.1,Zka _ hs.2.2.2.2.1]
/-
  Plain laws: all lengths together; marks. Printed by program (totgen.py).
-/
theorem ZlL {α:Type} {L:List α} {j:Nat} {z:α} {A A' B B':Int} (hA:A=A') (hB:B=B'):∃ y,(some (.inl (A,B,List.set L j z,())):Option ((Int×Int×List α×Unit) ⊕ (Int×List α)))=some (.inl (A',B',List.set L j y,())):=⟨z,by rw [hA,hB]⟩
theorem Zbn (k:Int) (h0:0≤k) (h1:k≤4611686018427387904):∃ s,XW k=some s:=by
 unfold XW
 split
 ·exact ⟨_,rfl⟩
 ·obtain ⟨r,h,_⟩:=Zn6 (step:=fun v=>Zbm v.1 v.2.1) (fun v:Int×List UInt8×Unit=>0≤v.1∧v.1+(v.2.1.length:Int)≤4611686018427387904) (fun v=>v.1.toNat) (fun _=>True) (v:=(k,([]:List UInt8),())) ⟨h0,by simpa using h1⟩
   (by
    rintro ⟨m,s,⟨⟩⟩ ⟨a,b⟩
    simp only at a b
    simp only [Zbm]
    by_cases hm:0<m
    ·have e1:Int.tdiv m 10=m / 10:=Int.tdiv_eq_ediv_of_nonneg a
     rw [if_pos hm,e1,Vq (n:=m / 10) (by omega) (by omega),Zj (by simp only [bytesOf,List.length_map,List.length_singleton];omega)]
     refine .inl ⟨_,rfl,⟨by simp only;omega,?_⟩,by simp only;omega⟩
     simp only [List.length_append,bytesOf,List.length_map,List.length_singleton]
     omega
    ·rw [if_neg hm,Zj (by simp only [List.length_singleton];omega)]
     exact .inr ⟨_,rfl,trivial⟩)
  exact ⟨r,h⟩
theorem Znt (a:Yq) (left:Int) (h0:0≤left) (h1:left≤1048576) (hb:bnd (Zdb) a):Szt (ZbG a left) left (tot (Zdb) a):=by
 unfold ZbG
 exact (Szt.len h0 h1 (by omega) hb.1 (fun hw0 a0 b0=>by rw [hw0];exact Szt.ret)).mono (by simp only [JI,Zcq,JH,JJ,ZbB];omega)
theorem Zms (a:List (Yq)) (left:Int) (h0:0≤left) (h1:left≤1048576) (hb:bnd (.sl (Zdb)) a):Szt (ZcF a left) left (tot (.sl (Zdb)) a):=by
 unfold ZcF
 refine (Szt.len h0 h1 (by omega) hb.1 (fun hw m0 m1=>(?_:Szt _ _ ((a.map (tot (Zdb))).sum)))).mono (by rw [ZfB];omega)
 rw [hw]
 exact Szt.loop (f:=fun x m=>ZbG x m) (P:=fun x=>sm (Zdb) x) (T:=tot (Zdb)) (fun x hx m m0 m1=>Zjt x m m0 m1 (hb.2 x hx)) (fun x hx m m0 m1=>Znt x m m0 m1 (hb.2 x hx)) (fun k m=>rfl) m0 m1 (by omega)
theorem Yy (a:List (Int)) (left:Int) (h0:0≤left) (h1:left≤1048576) (hb:bnd (.sl (.int .i64)) a):Szt (Yz a left) left (tot (.sl (.int .i64)) a):=by
 unfold Yz
 refine (Szt.len h0 h1 (by omega) hb.1 (fun hw m0 m1=>(?_:Szt _ _ ((a.map (tot (.int .i64))).sum)))).mono (by rw [ZfB];omega)
 rw [hw]
 exact Szt.ret.mono (by rw [Zpw (by rfl)];omega)
theorem Zlp (a:Zx) (left:Int) (h0:0≤left) (h1:left≤1048576) (hb:bnd (YO) a):Szt (VN a left) left (tot (YO) a):=by
 unfold VN
 exact (Szt.then (Yy a.1 _ h0 h1 hb.1) h0 h1 (fun m0 a0 b0=>Szt.then (Yy a.2.1 _ a0 b0 hb.2.1) a0 b0 (fun m1 a1 b1=>Szt.last (Yy a.2.2.1 _ a1 b1 hb.2.2.1)))).mono (by simp only [JI,Zcq,JH,JJ,ZbB];omega)
theorem Zfr (a:List (Zx)) (left:Int) (h0:0≤left) (h1:left≤1048576) (hb:bnd (.sl (YO)) a):Szt (V8 a left) left (tot (.sl (YO)) a):=by
 unfold V8
 refine (Szt.len h0 h1 (by omega) hb.1 (fun hw m0 m1=>(?_:Szt _ _ ((a.map (tot (YO))).sum)))).mono (by rw [ZfB];omega)
 rw [hw]
 exact Szt.loop (f:=fun x m=>VN x m) (P:=fun x=>sm (YO) x) (T:=tot (YO)) (fun x hx m m0 m1=>Zhn x m m0 m1 (hb.2 x hx)) (fun x hx m m0 m1=>Zlp x m m0 m1 (hb.2 x hx)) (fun k m=>rfl) m0 m1 (by omega)
theorem Znr (a:ZB) (left:Int) (h0:0≤left) (h1:left≤1048576) (hb:bnd (ZdY) a):Szt (ZbD a left) left (tot (ZdY) a):=by
 unfold ZbD
 exact (Szt.then (Zfr a.2.2.2.2.1 _ h0 h1 hb.2.2.2.2.1) h0 h1 (fun m0 a0 b0=>Szt.last (Zfr a.2.2.2.2.2.1 _ a0 b0 hb.2.2.2.2.2.1))).mono (by simp only [JI,Zcq,JH,JJ,ZbB];omega)
theorem Zmo (a:List (ZB)) (left:Int) (h0:0≤left) (h1:left≤1048576) (hb:bnd (.sl (ZdY)) a):Szt (ZcE a left) left (tot (.sl (ZdY)) a):=by
 unfold ZcE
 refine (Szt.len h0 h1 (by omega) hb.1 (fun hw m0 m1=>(?_:Szt _ _ ((a.map (tot (ZdY))).sum)))).mono (by rw [ZfB];omega)
 rw [hw]
 exact Szt.loop (f:=fun x m=>ZbD x m) (P:=fun x=>sm (ZdY) x) (T:=tot (ZdY)) (fun x hx m m0 m1=>Zjp x m m0 m1 (hb.2 x hx)) (fun x hx m m0 m1=>Znr x m m0 m1 (hb.2 x hx)) (fun k m=>rfl) m0 m1 (by omega)
theorem Zmr (a:Zi) (left:Int) (h0:0≤left) (h1:left≤1048576) (hb:bnd (Qf) a):Szt (JZ a left) left (tot (Qf) a):=by
 unfold JZ
 exact (Szt.len h0 h1 (by omega) hb.1 (fun hw0 a0 b0=>by rw [hw0];exact Szt.then (Zms a.2.2.1 _ a0 b0 hb.2.2.1) a0 b0 (fun m1 a1 b1=>Szt.then (Zmo a.2.2.2.1 _ a1 b1 hb.2.2.2.1) a1 b1 (fun m2 a2 b2=>Szt.last (Yy a.2.2.2.2.1 _ a2 b2 hb.2.2.2.2.1))))).mono (by simp only [JI,Zcq,JH,JJ,ZbB];omega)
theorem Zlj (a:List (Zi)) (left:Int) (h0:0≤left) (h1:left≤1048576) (hb:bnd (.sl (Qf)) a):Szt (ZbF a left) left (tot (.sl (Qf)) a):=by
 unfold ZbF
 refine (Szt.len h0 h1 (by omega) hb.1 (fun hw m0 m1=>(?_:Szt _ _ ((a.map (tot (Qf))).sum)))).mono (by rw [ZfB];omega)
 rw [hw]
 exact Szt.loop (f:=fun x m=>JZ x m) (P:=fun x=>sm (Qf) x) (T:=tot (Qf)) (fun x hx m m0 m1=>Zid x m m0 m1 (hb.2 x hx)) (fun x hx m m0 m1=>Zmr x m m0 m1 (hb.2 x hx)) (fun k m=>rfl) m0 m1 (by omega)
theorem Zjs (a:Zu) (left:Int) (h0:0≤left) (h1:left≤1048576) (hb:bnd (YD) a):Szt (Jp a left) left (tot (YD) a):=by
 unfold Jp
 exact (Szt.last (Zlj a.1 _ h0 h1 hb.1)).mono (by simp only [JI,Zcq,JH,JJ,ZbB];omega)
theorem ZiF (a:Zk) (left:Int) (h0:0≤left) (h1:left≤1048576) (hb:bnd (Z7) a):Szt (X4 a left) left (tot (Z7) a):=by
 unfold X4
 exact (Szt.len h0 h1 (by omega) hb.1 (fun hw0 a0 b0=>by rw [hw0];exact Szt.last (Yy a.2.2.1 _ a0 b0 hb.2.2.1))).mono (by simp only [JI,Zcq,JH,JJ,ZbB];omega)
theorem ZhX (a:List (Zk)) (left:Int) (h0:0≤left) (h1:left≤1048576) (hb:bnd (.sl (Z7)) a):Szt (Q5 a left) left (tot (.sl (Z7)) a):=by
 unfold Q5
 refine (Szt.len h0 h1 (by omega) hb.1 (fun hw m0 m1=>(?_:Szt _ _ ((a.map (tot (Z7))).sum)))).mono (by rw [ZfB];omega)
 rw [hw]
 exact Szt.loop (f:=fun x m=>X4 x m) (P:=fun x=>sm (Z7) x) (T:=tot (Z7)) (fun x hx m m0 m1=>ZeT x m m0 m1 (hb.2 x hx)) (fun x hx m m0 m1=>ZiF x m m0 m1 (hb.2 x hx)) (fun k m=>rfl) m0 m1 (by omega)
theorem Zjv (a:List (List UInt8)) (left:Int) (h0:0≤left) (h1:left≤1048576) (hb:bnd (.sl (.str)) a):Szt (Jq a left) left (tot (.sl (.str)) a):=by
 unfold Jq
 refine (Szt.len h0 h1 (by omega) hb.1 (fun hw m0 m1=>(?_:Szt _ _ ((a.map (tot (.str))).sum)))).mono (by rw [ZfB];omega)
 rw [hw]
 exact Szt.loop (l:=a) (α:=List UInt8) (f:=fun (x:List UInt8) (m:Int)=>if Wq (m-(x.length:Int))<0 then some (-1) else some (Wq (m-(x.length:Int)))) (P:=fun (x:List UInt8)=>sm .str x) (T:=fun (x:List UInt8)=>tot .str x) (fun x hx m m0 m1=>Szd.str x m m0 m1 (hb.2 x hx)) (fun x hx m m0 m1=>Szt.str x m m0 m1 (hb.2 x hx)) (fun k m=>by
  show Qn a m (k:Int)=_
  unfold Qn
  congr 1;congr 1;funext x;split<;>simp_all) m0 m1 (by omega)
theorem Zmu (a:Ya) (left:Int) (h0:0≤left) (h1:left≤1048576) (hb:bnd (VH) a):Szt (J2 a left) left (tot (VH) a):=by
 unfold J2
 exact (Szt.len h0 h1 (by omega) hb.1 (fun hw0 a0 b0=>by rw [hw0];exact Szt.ret)).mono (by simp only [JI,Zcq,JH,JJ,ZbB];omega)
theorem Zln (a:List (Ya)) (left:Int) (h0:0≤left) (h1:left≤1048576) (hb:bnd (.sl (VH)) a):Szt (ZbH a left) left (tot (.sl (VH)) a):=by
 unfold ZbH
 refine (Szt.len h0 h1 (by omega) hb.1 (fun hw m0 m1=>(?_:Szt _ _ ((a.map (tot (VH))).sum)))).mono (by rw [ZfB];omega)
 rw [hw]
 exact Szt.loop (f:=fun x m=>J2 x m) (P:=fun x=>sm (VH) x) (T:=tot (VH)) (fun x hx m m0 m1=>Zie x m m0 m1 (hb.2 x hx)) (fun x hx m m0 m1=>Zmu x m m0 m1 (hb.2 x hx)) (fun k m=>rfl) m0 m1 (by omega)
theorem Zko (a:Zf) (left:Int) (h0:0≤left) (h1:left≤1048576) (hb:bnd (YN) a):Szt (Zaw a left) left (tot (YN) a):=by
 unfold Zaw
 exact (Szt.then (ZhX a.1 _ h0 h1 hb.1) h0 h1 (fun m0 a0 b0=>Szt.then (Zjv a.2.1 _ a0 b0 hb.2.1) a0 b0 (fun m1 a1 b1=>Szt.last (Zln a.2.2.1 _ a1 b1 hb.2.2.1)))).mono (by simp only [JI,Zcq,JH,JJ,ZbB];omega)
theorem Zmx (a:Zy) (left:Int) (h0:0≤left) (h1:left≤1048576) (hb:bnd (Vr) a):Szt (J3 a left) left (tot (Vr) a):=by
 unfold J3
 exact (Szt.then (Yy a.1 _ h0 h1 hb.1) h0 h1 (fun m0 a0 b0=>Szt.then (Yy a.2.1 _ a0 b0 hb.2.1) a0 b0 (fun m1 a1 b1=>Szt.then (Yy a.2.2.1 _ a1 b1 hb.2.2.1) a1 b1 (fun m2 a2 b2=>Szt.last (Yy a.2.2.2.1 _ a2 b2 hb.2.2.2.1))))).mono (by simp only [JI,Zcq,JH,JJ,ZbB];omega)
theorem Zlq (a:List (Zy)) (left:Int) (h0:0≤left) (h1:left≤1048576) (hb:bnd (.sl (Vr)) a):Szt (ZbJ a left) left (tot (.sl (Vr)) a):=by
 unfold ZbJ
 refine (Szt.len h0 h1 (by omega) hb.1 (fun hw m0 m1=>(?_:Szt _ _ ((a.map (tot (Vr))).sum)))).mono (by rw [ZfB];omega)
 rw [hw]
 exact Szt.loop (f:=fun x m=>J3 x m) (P:=fun x=>sm (Vr) x) (T:=tot (Vr)) (fun x hx m m0 m1=>Zif x m m0 m1 (hb.2 x hx)) (fun x hx m m0 m1=>Zmx x m m0 m1 (hb.2 x hx)) (fun k m=>rfl) m0 m1 (by omega)
theorem Zli (a:Zn) (left:Int) (h0:0≤left) (h1:left≤1048576) (hb:bnd (Y2) a):Szt (ZbE a left) left (tot (Y2) a):=by
 unfold ZbE
 exact (Szt.then (Zjs a.1 _ h0 h1 hb.1) h0 h1 (fun m0 a0 b0=>Szt.then (Zko a.2.1 _ a0 b0 hb.2.1) a0 b0 (fun m1 a1 b1=>Szt.last (Zlq a.2.2.1 _ a1 b1 hb.2.2.1)))).mono (by simp only [JI,Zcq,JH,JJ,ZbB];omega)
theorem Zll (a:Zb) (left:Int) (h0:0≤left) (h1:left≤1048576) (hb:bnd (YA) a):Szt (VL a left) left (tot (YA) a):=by
 unfold VL
 exact (Szt.len h0 h1 (by omega) hb.1 (fun hw0 a0 b0=>by rw [hw0];exact Szt.ret)).mono (by simp only [JI,Zcq,JH,JJ,ZbB];omega)
theorem Zkl (a:List (Zb)) (left:Int) (h0:0≤left) (h1:left≤1048576) (hb:bnd (.sl (YA)) a):Szt (Zav a left) left (tot (.sl (YA)) a):=by
 unfold Zav
 refine (Szt.len h0 h1 (by omega) hb.1 (fun hw m0 m1=>(?_:Szt _ _ ((a.map (tot (YA))).sum)))).mono (by rw [ZfB];omega)
 rw [hw]
 exact Szt.loop (f:=fun x m=>VL x m) (P:=fun x=>sm (YA) x) (T:=tot (YA)) (fun x hx m m0 m1=>Zhl x m m0 m1 (hb.2 x hx)) (fun x hx m m0 m1=>Zll x m m0 m1 (hb.2 x hx)) (fun k m=>rfl) m0 m1 (by omega)
theorem ZdD (a:List (Zd)) (left:Int) (h0:0≤left) (h1:left≤1048576) (hb:bnd (.sl (ZQ)) a):Szt (Qb a left) left (tot (.sl (ZQ)) a):=by
 unfold Qb
 refine (Szt.len h0 h1 (by omega) hb.1 (fun hw m0 m1=>(?_:Szt _ _ ((a.map (tot (ZQ))).sum)))).mono (by rw [ZfB];omega)
 rw [hw]
 exact Szt.ret.mono (by rw [Zpw (by rfl)];omega)
theorem ZhW (a:Zh) (left:Int) (h0:0≤left) (h1:left≤1048576) (hb:bnd (ZG) a):Szt (XF a left) left (tot (ZG) a):=by
 unfold XF
 exact (Szt.then (Yy a.2.2.1 _ h0 h1 hb.2.2.1) h0 h1 (fun m0 a0 b0=>Szt.then (Yy a.2.2.2.1 _ a0 b0 hb.2.2.2.1) a0 b0 (fun m1 a1 b1=>Szt.last (Yy a.2.2.2.2.1 _ a1 b1 hb.2.2.2.2.1)))).mono (by simp only [JI,Zcq,JH,JJ,ZbB];omega)
theorem Zhm (a:List (Zh)) (left:Int) (h0:0≤left) (h1:left≤1048576) (hb:bnd (.sl (ZG)) a):Szt (QD a left) left (tot (.sl (ZG)) a):=by
 unfold QD
 refine (Szt.len h0 h1 (by omega) hb.1 (fun hw m0 m1=>(?_:Szt _ _ ((a.map (tot (ZG))).sum)))).mono (by rw [ZfB];omega)
 rw [hw]
 exact Szt.loop (f:=fun x m=>XF x m) (P:=fun x=>sm (ZG) x) (T:=tot (ZG)) (fun x hx m m0 m1=>Zek x m m0 m1 (hb.2 x hx)) (fun x hx m m0 m1=>ZhW x m m0 m1 (hb.2 x hx)) (fun k m=>rfl) m0 m1 (by omega)
theorem Zkn (a:Zq) (left:Int) (h0:0≤left) (h1:left≤1048576) (hb:bnd (Yo) a):Szt (Vg a left) left (tot (Yo) a):=by
 unfold Vg
 exact (Szt.len h0 h1 (by omega) hb.1 (fun hw0 a0 b0=>by rw [hw0];exact Szt.ret)).mono (by simp only [JI,Zcq,JH,JJ,ZbB];omega)
theorem Zjr (a:List (Zq)) (left:Int) (h0:0≤left) (h1:left≤1048576) (hb:bnd (.sl (Yo)) a):Szt (Jo a left) left (tot (.sl (Yo)) a):=by
 unfold Jo
 refine (Szt.len h0 h1 (by omega) hb.1 (fun hw m0 m1=>(?_:Szt _ _ ((a.map (tot (Yo))).sum)))).mono (by rw [ZfB];omega)
 rw [hw]
 exact Szt.loop (f:=fun x m=>Vg x m) (P:=fun x=>sm (Yo) x) (T:=tot (Yo)) (fun x hx m m0 m1=>ZgI x m m0 m1 (hb.2 x hx)) (fun x hx m m0 m1=>Zkn x m m0 m1 (hb.2 x hx)) (fun k m=>rfl) m0 m1 (by omega)
theorem Zlo (a:Zm) (left:Int) (h0:0≤left) (h1:left≤1048576) (hb:bnd (XG) a):Szt (ZbI a left) left (tot (XG) a):=by
 unfold ZbI
 exact (Szt.then (Zkl a.1 _ h0 h1 hb.1) h0 h1 (fun m0 a0 b0=>Szt.then (ZdD a.2.1 _ a0 b0 hb.2.1) a0 b0 (fun m1 a1 b1=>Szt.then (ZdD a.2.2.1 _ a1 b1 hb.2.2.1) a1 b1 (fun m2 a2 b2=>Szt.then (Zhm a.2.2.2.1 _ a2 b2 hb.2.2.2.1) a2 b2 (fun m3 a3 b3=>Szt.last (Zjr a.2.2.2.2.1 _ a3 b3 hb.2.2.2.2.1)))))).mono (by simp only [JI,Zcq,JH,JJ,ZbB];omega)
theorem Zlh (a:List (Yq)) (k:Int) (hs:sm (.sl (Zdb)) a) (h0:0≤k) (h1:k+(cnt (.sl (Zdb)) a:Int)≤4611686018427387904):Mkd (ZdN a k) k (cnt (.sl (Zdb)) a):=by
 unfold ZdN
 have hl:a.length≤1048576:=by have:=hs.1;omega
 refine Mkd.loop (l:=a) (c:=cnt (Zdb)) (fun j m x L hj hj' hL hx hxm hm0 hm1 hj2=>?_) (fun m L hL=>?_) hl h0 h1
 ·have hsx:=hs.2 x hxm
  have hc:((cnt (Zdb) x:Nat):Int)=0+1+1+1+1:=by simp only [VT,Zbd,VR,VU,Zbe];omega
  obtain ⟨s0,e0⟩:=Zbn (m) (by omega) (by omega)
  have hx2:atI L (j:Int)=some x:=by rw [Zt];exact hx
  have hb:∀ {β:Type} (y:Yq) (F:Yq→Option β),(atI (List.set L j y) (j:Int)).bind F=F y:=fun y F=>by rw [ZbN hj];rfl
  simp only [Zbl,if_pos hj',Int.toNat_natCast,hx2,↓hb,Bq,List.set_set,e0]
  refine ZlL ?_ ?_
  ·have hc:=hc;simp (disch:=omega) only [Vq];omega
  ·simp (disch:=omega) only [Vq];omega
 ·simp only [Zbl,Int.lt_irrefl,if_false]
theorem Yr (a:List (Int)) (k:Int) (hs:sm (.sl (.int .i64)) a) (h0:0≤k) (h1:k+(cnt (.sl (.int .i64)) a:Int)≤4611686018427387904):Mkd (Yt a k) k (cnt (.sl (.int .i64)) a):=by
 unfold Yt
 have hl:a.length≤1048576:=by have:=hs.1;omega
 refine Mkd.loop (l:=a) (c:=cnt (.int .i64)) (fun j m x L hj hj' hL hx hxm hm0 hm1 hj2=>?_) (fun m L hL=>?_) hl h0 h1
 ·have hsx:=hs.2 x hxm
  have hc:((cnt (.int .i64) x:Nat):Int)=0+1:=by rfl
  simp (disch:=omega) only [JW,if_pos hj',Zt,hx,Bq,Vq,Int.toNat_natCast,ZbN,List.length_set,List.set_set,List.getElem?_set_self]
  refine ⟨_,congrArg some (congrArg Sum.inl (Prod.ext ?_ (Prod.ext ?_ (Prod.ext rfl rfl))))⟩
  ·show _=m+_;rw [hc];omega
  ·simp only;omega
 ·simp only [JW,Int.lt_irrefl,if_false]
theorem ZeS (a:List (Zx)) (k:Int) (hs:sm (.sl (YO)) a) (h0:0≤k) (h1:k+(cnt (.sl (YO)) a:Int)≤4611686018427387904):Mkd (JX a k) k (cnt (.sl (YO)) a):=by
 unfold JX
 have hl:a.length≤1048576:=by have:=hs.1;omega
 refine Mkd.loop (l:=a) (c:=cnt (YO)) (fun j m x L hj hj' hL hx hxm hm0 hm1 hj2=>?_) (fun m L hL=>?_) hl h0 h1
 ·have hsx:=hs.2 x hxm
  have hc:((cnt (YO) x:Nat):Int)=0+((cnt (.sl (.int .i64)) x.1:Nat):Int)+((cnt (.sl (.int .i64)) x.2.1:Nat):Int)+((cnt (.sl (.int .i64)) x.2.2.1:Nat):Int):=by simp only [VT,Zbd,VR,VU,Zbe];omega
  obtain ⟨s0,e0⟩:=Yr x.1 (m) hsx.1 (by omega) (by omega)
  obtain ⟨s1,e1⟩:=Yr x.2.1 (m+((cnt (.sl (.int .i64)) x.1:Nat):Int)) hsx.2.1 (by omega) (by omega)
  obtain ⟨s2,e2⟩:=Yr x.2.2.1 (m+((cnt (.sl (.int .i64)) x.1:Nat):Int)+((cnt (.sl (.int .i64)) x.2.1:Nat):Int)) hsx.2.2.1 (by omega) (by omega)
  simp (disch:=omega) only [JY,if_pos hj',Zt,hx,Bq,Vq,Int.toNat_natCast,ZbN,List.length_set,List.set_set,List.getElem?_set_self,e0,e1,e2]
  refine ⟨_,congrArg some (congrArg Sum.inl (Prod.ext ?_ (Prod.ext ?_ (Prod.ext rfl rfl))))⟩
  ·show _=m+_;rw [hc];omega
  ·simp only;omega
 ·simp only [JY,Int.lt_irrefl,if_false]
theorem Zlg (a:List (ZB)) (k:Int) (hs:sm (.sl (ZdY)) a) (h0:0≤k) (h1:k+(cnt (.sl (ZdY)) a:Int)≤4611686018427387904):Mkd (ZdM a k) k (cnt (.sl (ZdY)) a):=by
 unfold ZdM
 have hl:a.length≤1048576:=by have:=hs.1;omega
 refine Mkd.loop (l:=a) (c:=cnt (ZdY)) (fun j m x L hj hj' hL hx hxm hm0 hm1 hj2=>?_) (fun m L hL=>?_) hl h0 h1
 ·have hsx:=hs.2 x hxm
  have hc:((cnt (ZdY) x:Nat):Int)=0+1+1+1+1+((cnt (.sl (YO)) x.2.2.2.2.1:Nat):Int)+((cnt (.sl (YO)) x.2.2.2.2.2.1:Nat):Int):=by simp only [VT,Zbd,VR,VU,Zbe];omega
  obtain ⟨s0,e0⟩:=ZeS x.2.2.2.2.1 (m+1+1+1+1) hsx.2.2.2.2.1 (by omega) (by omega)
  obtain ⟨s1,e1⟩:=ZeS x.2.2.2.2.2.1 (m+1+1+1+1+((cnt (.sl (YO)) x.2.2.2.2.1:Nat):Int)) hsx.2.2.2.2.2.1 (by omega) (by omega)
  simp (disch:=omega) only [Zbk,if_pos hj',Zt,hx,Bq,Vq,Int.toNat_natCast,ZbN,List.length_set,List.set_set,List.getElem?_set_self,e0,e1]
  refine ⟨_,congrArg some (congrArg Sum.inl (Prod.ext ?_ (Prod.ext ?_ (Prod.ext rfl rfl))))⟩
  ·show _=m+_;rw [hc];omega
  ·simp only;omega
 ·simp only [Zbk,Int.lt_irrefl,if_false]
theorem Zkg (a:List (Zi)) (k:Int) (hs:sm (.sl (Qf)) a) (h0:0≤k) (h1:k+(cnt (.sl (Qf)) a:Int)≤4611686018427387904):Mkd (Zc2 a k) k (cnt (.sl (Qf)) a):=by
 unfold Zc2
 have hl:a.length≤1048576:=by have:=hs.1;omega
 refine Mkd.loop (l:=a) (c:=cnt (Qf)) (fun j m x L hj hj' hL hx hxm hm0 hm1 hj2=>?_) (fun m L hL=>?_) hl h0 h1
 ·have hsx:=hs.2 x hxm
  have hc:((cnt (Qf) x:Nat):Int)=0+1+1+((cnt (.sl (Zdb)) x.2.2.1:Nat):Int)+((cnt (.sl (ZdY)) x.2.2.2.1:Nat):Int)+((cnt (.sl (.int .i64)) x.2.2.2.2.1:Nat):Int)+1+1:=by simp only [VT,Zbd,VR,VU,Zbe];omega
  obtain ⟨s0,e0⟩:=Zbn (m) (by omega) (by omega)
  obtain ⟨s1,e1⟩:=Zlh x.2.2.1 (m+1+1) hsx.2.2.1 (by omega) (by omega)
  obtain ⟨s2,e2⟩:=Zlg x.2.2.2.1 (m+1+1+((cnt (.sl (Zdb)) x.2.2.1:Nat):Int)) hsx.2.2.2.1 (by omega) (by omega)
  obtain ⟨s3,e3⟩:=Yr x.2.2.2.2.1 (m+1+1+((cnt (.sl (Zdb)) x.2.2.1:Nat):Int)+((cnt (.sl (ZdY)) x.2.2.2.1:Nat):Int)) hsx.2.2.2.2.1 (by omega) (by omega)
  simp (disch:=omega) only [ZaI,if_pos hj',Zt,hx,Bq,Vq,Int.toNat_natCast,ZbN,List.length_set,List.set_set,List.getElem?_set_self,e0,e1,e2,e3]
  refine ⟨_,congrArg some (congrArg Sum.inl (Prod.ext ?_ (Prod.ext ?_ (Prod.ext rfl rfl))))⟩
  ·show _=m+_;rw [hc];omega
  ·simp only;omega
 ·simp only [ZaI,Int.lt_irrefl,if_false]
theorem ZiB (a:Zu) (k:Int) (hs:sm (YD) a) (h0:0≤k) (h1:k+((cnt (YD) a:Nat):Int)≤4611686018427387904):Mkd (Za4 a k) k (cnt (YD) a):=by
 unfold Za4
 have hc:((cnt (YD) a:Nat):Int)=0+(((cnt (.sl (Qf)) a.1):Nat):Int):=by simp only [VT,Zbd,VR,VU,Zbe];omega
 obtain ⟨s0,e0⟩:=Zkg a.1 (k) hs.1 (by omega) (by omega)
 simp only [Bq,e0]
 exact ⟨_,congrArg some (Prod.ext (by rfl) rfl)⟩
theorem Zhk (a:List (Zk)) (k:Int) (hs:sm (.sl (Z7)) a) (h0:0≤k) (h1:k+(cnt (.sl (Z7)) a:Int)≤4611686018427387904):Mkd (JG a k) k (cnt (.sl (Z7)) a):=by
 unfold JG
 have hl:a.length≤1048576:=by have:=hs.1;omega
 refine Mkd.loop (l:=a) (c:=cnt (Z7)) (fun j m x L hj hj' hL hx hxm hm0 hm1 hj2=>?_) (fun m L hL=>?_) hl h0 h1
 ·have hsx:=hs.2 x hxm
  have hc:((cnt (Z7) x:Nat):Int)=0+1+1+((cnt (.sl (.int .i64)) x.2.2.1:Nat):Int):=by simp only [VT,Zbd,VR,VU,Zbe];omega
  obtain ⟨s0,e0⟩:=Zbn (m) (by omega) (by omega)
  obtain ⟨s1,e1⟩:=Yr x.2.2.1 (m+1+1) hsx.2.2.1 (by omega) (by omega)
  simp (disch:=omega) only [VF,if_pos hj',Zt,hx,Bq,Vq,Int.toNat_natCast,ZbN,List.length_set,List.set_set,List.getElem?_set_self,e0,e1]
  refine ⟨_,congrArg some (congrArg Sum.inl (Prod.ext ?_ (Prod.ext ?_ (Prod.ext rfl rfl))))⟩
  ·show _=m+_;rw [hc];omega
  ·simp only;omega
 ·simp only [VF,Int.lt_irrefl,if_false]
theorem ZiC (a:List (List UInt8)) (k:Int) (hs:sm (.sl (.str)) a) (h0:0≤k) (h1:k+(cnt (.sl (.str)) a:Int)≤4611686018427387904):Mkd (Za5 a k) k (cnt (.sl (.str)) a):=by
 unfold Za5
 have hl:a.length≤1048576:=by have:=hs.1;omega
 refine Mkd.loop (l:=a) (c:=cnt (.str)) (fun j m x L hj hj' hL hx hxm hm0 hm1 hj2=>?_) (fun m L hL=>?_) hl h0 h1
 ·have hsx:=hs.2 x hxm
  have hc:((cnt (.str) x:Nat):Int)=0+1:=by rfl
  obtain ⟨s0,e0⟩:=Zbn (m) (by omega) (by omega)
  simp (disch:=omega) only [Jw,if_pos hj',Zt,hx,Bq,Vq,Int.toNat_natCast,ZbN,List.length_set,List.set_set,List.getElem?_set_self,e0]
  refine ⟨_,congrArg some (congrArg Sum.inl (Prod.ext ?_ (Prod.ext ?_ (Prod.ext rfl rfl))))⟩
  ·show _=m+_;rw [hc];omega
  ·simp only;omega
 ·simp only [Jw,Int.lt_irrefl,if_false]
theorem Zkh (a:List (Ya)) (k:Int) (hs:sm (.sl (VH)) a) (h0:0≤k) (h1:k+(cnt (.sl (VH)) a:Int)≤4611686018427387904):Mkd (Zc3 a k) k (cnt (.sl (VH)) a):=by
 unfold Zc3
 have hl:a.length≤1048576:=by have:=hs.1;omega
 refine Mkd.loop (l:=a) (c:=cnt (VH)) (fun j m x L hj hj' hL hx hxm hm0 hm1 hj2=>?_) (fun m L hL=>?_) hl h0 h1
 ·have hsx:=hs.2 x hxm
  have hc:((cnt (VH) x:Nat):Int)=0+1+1+1:=by simp only [VT,Zbd,VR,VU,Zbe];omega
  obtain ⟨s0,e0⟩:=Zbn (m) (by omega) (by omega)
  simp (disch:=omega) only [ZaJ,if_pos hj',Zt,hx,Bq,Vq,Int.toNat_natCast,ZbN,List.length_set,List.set_set,List.getElem?_set_self,e0]
  refine ⟨_,congrArg some (congrArg Sum.inl (Prod.ext ?_ (Prod.ext ?_ (Prod.ext rfl rfl))))⟩
  ·show _=m+_;rw [hc];omega
  ·simp only;omega
 ·simp only [ZaJ,Int.lt_irrefl,if_false]
theorem Zjo (a:Zf) (k:Int) (hs:sm (YN) a) (h0:0≤k) (h1:k+((cnt (YN) a:Nat):Int)≤4611686018427387904):Mkd (Zb7 a k) k (cnt (YN) a):=by
 unfold Zb7
 have hc:((cnt (YN) a:Nat):Int)=0+(((cnt (.sl (Z7)) a.1):Nat):Int)+(((cnt (.sl (.str)) a.2.1):Nat):Int)+(((cnt (.sl (VH)) a.2.2.1):Nat):Int):=by simp only [VT,Zbd,VR,VU,Zbe];omega
 obtain ⟨s0,e0⟩:=Zhk a.1 (k) hs.1 (by omega) (by omega)
 obtain ⟨s1,e1⟩:=ZiC a.2.1 (k+(((cnt (.sl (Z7)) a.1):Nat):Int)) hs.2.1 (by omega) (by omega)
 obtain ⟨s2,e2⟩:=Zkh a.2.2.1 (k+(((cnt (.sl (Z7)) a.1):Nat):Int)+(((cnt (.sl (.str)) a.2.1):Nat):Int)) hs.2.2.1 (by omega) (by omega)
 simp only [Bq,e0,e1,e2]
 exact ⟨_,congrArg some (Prod.ext (by show _=k+_;rw [hc];omega) rfl)⟩
theorem Zkj (a:List (Zy)) (k:Int) (hs:sm (.sl (Vr)) a) (h0:0≤k) (h1:k+(cnt (.sl (Vr)) a:Int)≤4611686018427387904):Mkd (Zc5 a k) k (cnt (.sl (Vr)) a):=by
 unfold Zc5
 have hl:a.length≤1048576:=by have:=hs.1;omega
 refine Mkd.loop (l:=a) (c:=cnt (Vr)) (fun j m x L hj hj' hL hx hxm hm0 hm1 hj2=>?_) (fun m L hL=>?_) hl h0 h1
 ·have hsx:=hs.2 x hxm
  have hc:((cnt (Vr) x:Nat):Int)=0+((cnt (.sl (.int .i64)) x.1:Nat):Int)+((cnt (.sl (.int .i64)) x.2.1:Nat):Int)+((cnt (.sl (.int .i64)) x.2.2.1:Nat):Int)+((cnt (.sl (.int .i64)) x.2.2.2.1:Nat):Int):=by simp only [VT,Zbd,VR,VU,Zbe];omega
  obtain ⟨s0,e0⟩:=Yr x.1 (m) hsx.1 (by omega) (by omega)
  obtain ⟨s1,e1⟩:=Yr x.2.1 (m+((cnt (.sl (.int .i64)) x.1:Nat):Int)) hsx.2.1 (by omega) (by omega)
  obtain ⟨s2,e2⟩:=Yr x.2.2.1 (m+((cnt (.sl (.int .i64)) x.1:Nat):Int)+((cnt (.sl (.int .i64)) x.2.1:Nat):Int)) hsx.2.2.1 (by omega) (by omega)
  obtain ⟨s3,e3⟩:=Yr x.2.2.2.1 (m+((cnt (.sl (.int .i64)) x.1:Nat):Int)+((cnt (.sl (.int .i64)) x.2.1:Nat):Int)+((cnt (.sl (.int .i64)) x.2.2.1:Nat):Int)) hsx.2.2.2.1 (by omega) (by omega)
  simp (disch:=omega) only [ZaK,if_pos hj',Zt,hx,Bq,Vq,Int.toNat_natCast,ZbN,List.length_set,List.set_set,List.getElem?_set_self,e0,e1,e2,e3]
  refine ⟨_,congrArg some (congrArg Sum.inl (Prod.ext ?_ (Prod.ext ?_ (Prod.ext rfl rfl))))⟩
  ·show _=m+_;rw [hc];omega
  ·simp only;omega
 ·simp only [ZaK,Int.lt_irrefl,if_false]
theorem Zkf (a:Zn) (k:Int) (hs:sm (Y2) a) (h0:0≤k) (h1:k+((cnt (Y2) a:Nat):Int)≤4611686018427387904):Mkd (Zc1 a k) k (cnt (Y2) a):=by
 unfold Zc1
 have hc:((cnt (Y2) a:Nat):Int)=0+(((cnt (YD) a.1):Nat):Int)+(((cnt (YN) a.2.1):Nat):Int)+(((cnt (.sl (Vr)) a.2.2.1):Nat):Int):=by simp only [VT,Zbd,VR,VU,Zbe];omega
 obtain ⟨s0,e0⟩:=ZiB a.1 (k) hs.1 (by omega) (by omega)
 obtain ⟨s1,e1⟩:=Zjo a.2.1 (k+(((cnt (YD) a.1):Nat):Int)) hs.2.1 (by omega) (by omega)
 obtain ⟨s2,e2⟩:=Zkj a.2.2.1 (k+(((cnt (YD) a.1):Nat):Int)+(((cnt (YN) a.2.1):Nat):Int)) hs.2.2.1 (by omega) (by omega)
 simp only [Bq,e0,e1,e2]
 exact ⟨_,congrArg some (Prod.ext (by show _=k+_;rw [hc];omega) rfl)⟩
theorem Zjn (a:List (Zb)) (k:Int) (hs:sm (.sl (YA)) a) (h0:0≤k) (h1:k+(cnt (.sl (YA)) a:Int)≤4611686018427387904):Mkd (Zb6 a k) k (cnt (.sl (YA)) a):=by
 unfold Zb6
 have hl:a.length≤1048576:=by have:=hs.1;omega
 refine Mkd.loop (l:=a) (c:=cnt (YA)) (fun j m x L hj hj' hL hx hxm hm0 hm1 hj2=>?_) (fun m L hL=>?_) hl h0 h1
 ·have hsx:=hs.2 x hxm
  have hc:((cnt (YA) x:Nat):Int)=0+1+1+1+1+1+1+1+1+1+1+1:=by simp only [VT,Zbd,VR,VU,Zbe];omega
  obtain ⟨s0,e0⟩:=Zbn (m) (by omega) (by omega)
  have hx2:atI L (j:Int)=some x:=by rw [Zt];exact hx
  have hb:∀ {β:Type} (y:Zb) (F:Zb→Option β),(atI (List.set L j y) (j:Int)).bind F=F y:=fun y F=>by rw [ZbN hj];rfl
  simp only [JV,if_pos hj',Int.toNat_natCast,hx2,↓hb,Bq,List.set_set,e0]
  refine ZlL ?_ ?_
  ·have hc:=hc;simp (disch:=omega) only [Vq];omega
  ·simp (disch:=omega) only [Vq];omega
 ·simp only [JV,Int.lt_irrefl,if_false]
theorem Zdh (a:List (Zd)) (k:Int) (hs:sm (.sl (ZQ)) a) (h0:0≤k) (h1:k+(cnt (.sl (ZQ)) a:Int)≤4611686018427387904):Mkd (Vf a k) k (cnt (.sl (ZQ)) a):=by
 unfold Vf
 have hl:a.length≤1048576:=by have:=hs.1;omega
 refine Mkd.loop (l:=a) (c:=cnt (ZQ)) (fun j m x L hj hj' hL hx hxm hm0 hm1 hj2=>?_) (fun m L hL=>?_) hl h0 h1
 ·have hsx:=hs.2 x hxm
  have hc:((cnt (ZQ) x:Nat):Int)=0+1+1+1+1+1+1:=by simp only [VT,Zbd,VR,VU,Zbe];omega
  have hx2:atI L (j:Int)=some x:=by rw [Zt];exact hx
  have hb:∀ {β:Type} (y:Zd) (F:Zd→Option β),(atI (List.set L j y) (j:Int)).bind F=F y:=fun y F=>by rw [ZbN hj];rfl
  simp only [VE,if_pos hj',Int.toNat_natCast,hx2,↓hb,Bq,List.set_set]
  refine ZlL ?_ ?_
  ·have hc:=hc;simp (disch:=omega) only [Vq];omega
  ·simp (disch:=omega) only [Vq];omega
 ·simp only [VE,Int.lt_irrefl,if_false]
theorem Zg1 (a:List (Zh)) (k:Int) (hs:sm (.sl (ZG)) a) (h0:0≤k) (h1:k+(cnt (.sl (ZG)) a:Int)≤4611686018427387904):Mkd (V7 a k) k (cnt (.sl (ZG)) a):=by
 unfold V7
 have hl:a.length≤1048576:=by have:=hs.1;omega
 refine Mkd.loop (l:=a) (c:=cnt (ZG)) (fun j m x L hj hj' hL hx hxm hm0 hm1 hj2=>?_) (fun m L hL=>?_) hl h0 h1
 ·have hsx:=hs.2 x hxm
  have hc:((cnt (ZG) x:Nat):Int)=0+1+1+((cnt (.sl (.int .i64)) x.2.2.1:Nat):Int)+((cnt (.sl (.int .i64)) x.2.2.2.1:Nat):Int)+((cnt (.sl (.int .i64)) x.2.2.2.2.1:Nat):Int):=by simp only [VT,Zbd,VR,VU,Zbe];omega
  obtain ⟨s0,e0⟩:=Yr x.2.2.1 (m+1+1) hsx.2.2.1 (by omega) (by omega)
  obtain ⟨s1,e1⟩:=Yr x.2.2.2.1 (m+1+1+((cnt (.sl (.int .i64)) x.2.2.1:Nat):Int)) hsx.2.2.2.1 (by omega) (by omega)
  obtain ⟨s2,e2⟩:=Yr x.2.2.2.2.1 (m+1+1+((cnt (.sl (.int .i64)) x.2.2.1:Nat):Int)+((cnt (.sl (.int .i64)) x.2.2.2.1:Nat):Int)) hsx.2.2.2.2.1 (by omega) (by omega)
  simp (disch:=omega) only [Vm,if_pos hj',Zt,hx,Bq,Vq,Int.toNat_natCast,ZbN,List.length_set,List.set_set,List.getElem?_set_self,e0,e1,e2]
  refine ⟨_,congrArg some (congrArg Sum.inl (Prod.ext ?_ (Prod.ext ?_ (Prod.ext rfl rfl))))⟩
  ·show _=m+_;rw [hc];omega
  ·simp only;omega
 ·simp only [Vm,Int.lt_irrefl,if_false]
theorem ZiA (a:List (Zq)) (k:Int) (hs:sm (.sl (Yo)) a) (h0:0≤k) (h1:k+(cnt (.sl (Yo)) a:Int)≤4611686018427387904):Mkd (Za3 a k) k (cnt (.sl (Yo)) a):=by
 unfold Za3
 have hl:a.length≤1048576:=by have:=hs.1;omega
 refine Mkd.loop (l:=a) (c:=cnt (Yo)) (fun j m x L hj hj' hL hx hxm hm0 hm1 hj2=>?_) (fun m L hL=>?_) hl h0 h1
 ·have hsx:=hs.2 x hxm
  have hc:((cnt (Yo) x:Nat):Int)=0+1+1+1+1+1:=by simp only [VT,Zbd,VR,VU,Zbe];omega
  obtain ⟨s0,e0⟩:=Zbn (m) (by omega) (by omega)
  have hx2:atI L (j:Int)=some x:=by rw [Zt];exact hx
  have hb:∀ {β:Type} (y:Zq) (F:Zq→Option β),(atI (List.set L j y) (j:Int)).bind F=F y:=fun y F=>by rw [ZbN hj];rfl
  simp only [Jv,if_pos hj',Int.toNat_natCast,hx2,↓hb,Bq,List.set_set,e0]
  refine ZlL ?_ ?_
  ·have hc:=hc;simp (disch:=omega) only [Vq];omega
  ·simp (disch:=omega) only [Vq];omega
 ·simp only [Jv,Int.lt_irrefl,if_false]
theorem Zki (a:Zm) (k:Int) (hs:sm (XG) a) (h0:0≤k) (h1:k+((cnt (XG) a:Nat):Int)≤4611686018427387904):Mkd (Zc4 a k) k (cnt (XG) a):=by
 unfold Zc4
 have hc:((cnt (XG) a:Nat):Int)=0+(((cnt (.sl (YA)) a.1):Nat):Int)+(((cnt (.sl (ZQ)) a.2.1):Nat):Int)+(((cnt (.sl (ZQ)) a.2.2.1):Nat):Int)+(((cnt (.sl (ZG)) a.2.2.2.1):Nat):Int)+(((cnt (.sl (Yo)) a.2.2.2.2.1):Nat):Int):=by simp only [VT,Zbd,VR,VU,Zbe];omega
 obtain ⟨s0,e0⟩:=Zjn a.1 (k) hs.1 (by omega) (by omega)
 obtain ⟨s1,e1⟩:=Zdh a.2.1 (k+(((cnt (.sl (YA)) a.1):Nat):Int)) hs.2.1 (by omega) (by omega)
 obtain ⟨s2,e2⟩:=Zdh a.2.2.1 (k+(((cnt (.sl (YA)) a.1):Nat):Int)+(((cnt (.sl (ZQ)) a.2.1):Nat):Int)) hs.2.2.1 (by omega) (by omega)
 obtain ⟨s3,e3⟩:=Zg1 a.2.2.2.1 (k+(((cnt (.sl (YA)) a.1):Nat):Int)+(((cnt (.sl (ZQ)) a.2.1):Nat):Int)+(((cnt (.sl (ZQ)) a.2.2.1):Nat):Int)) hs.2.2.2.1 (by omega) (by omega)
 obtain ⟨s4,e4⟩:=ZiA a.2.2.2.2.1 (k+(((cnt (.sl (YA)) a.1):Nat):Int)+(((cnt (.sl (ZQ)) a.2.1):Nat):Int)+(((cnt (.sl (ZQ)) a.2.2.1):Nat):Int)+(((cnt (.sl (ZG)) a.2.2.2.1):Nat):Int)) hs.2.2.2.2.1 (by omega) (by omega)
 simp only [Bq,e0,e1,e2,e3,e4]
 exact ⟨_,congrArg some (Prod.ext (by show _=k+_;rw [hc];omega) rfl)⟩
end Go.Proofs.YtpiemlnhjobopaaGreatDoor
