/-
  Ground of the plain laws: loops by what they come to; small arithmetic.
-/
import Derived.Test.YtfndhpjedmopdaaGreatDoorSxM
import Derived.IntWalk
import Derived.Test.YtfndhpjedmopdaaGreatDoorM
import Derived.Test.YtfndhpjedmopdaaGreatDoorSxBr
namespace Go.Proofs.YtfndhpjedmopdaaGreatDoor
set_option linter.unusedVariables false
set_option linter.unusedSimpArgs false
open Go Go.Sx
theorem V7 {n:Int} (h1:-9223372036854775808≤n) (h2:n≤9223372036854775807):IntKind.i64.wrap n=n:=IntWalk.i64_in n ⟨h1,h2⟩
theorem Zu {α:Type} (l:List α) (k:Nat):atI l (k:Int)=l[k]?:=by simp [atI]
theorem Qu {α:Type} {l:List α} {i:Int} {x:α} (h0:0≤i) (hx:l[i.toNat]?=some x):atI l i=some x:=by simp [atI,h0,hx]
theorem ZsL {α:Type} {l:List α} {i:Int} (h0:0≤i) (h1:i<l.length):∃ x,atI l i=some x∧l[i.toNat]?=some x :=
 ⟨l[i.toNat]'(by omega),by simp [atI,h0],List.getElem?_eq_getElem _⟩
theorem Zh {α:Type} {p:Prop} (h:p) (a:Option α):Zp p a=a:=by
 unfold Zp
 exact if_pos h
theorem Zan {τ ρ:Type} {step:τ→Option (τ ⊕ ρ)} (n:Nat) (I:Nat→τ→Prop) (Q:ρ→Prop) {v:τ} (h0:I 0 v)
  (hs:∀ k v,k<n→I k v→(∃ v',step v=some (.inl v')∧I (k+1) v')∨∃ r,step v=some (.inr r)∧Q r)
  (hx:∀ v,I n v→∃ r,step v=some (.inr r)∧Q r):∃ r,Zt step v=some r∧Q r:=by
 have:∀ m k v,k+m=n→I k v→∃ r,Zt step v=some r∧Q r:=by
  intro m
  induction m with
  | zero =>
   intro k v hk hI
   have:k=n:=by omega
   subst this
   obtain ⟨r,e,hq⟩:=hx v hI
   exact ⟨r,ZiK e,hq⟩
  | succ m ih =>
   intro k v hk hI
   rcases hs k v (by omega) hI with ⟨v',e,hI'⟩ | ⟨r,e,hq⟩
   ·obtain ⟨r,h1,h2⟩:=ih (k+1) v' (by omega) hI'
    exact ⟨r,by rw [Zq7 e];exact h1,h2⟩
   ·exact ⟨r,ZiK e,hq⟩
 exact this n 0 v (by omega) h0
theorem Xo {τ ρ:Type} {step:τ→Option (τ ⊕ ρ)} (n:Nat) (I:Nat→τ→Prop) (R:ρ) {v:τ} (h0:I 0 v)
  (hs:∀ k v,k<n→I k v→(∃ v',step v=some (.inl v')∧I (k+1) v')∨step v=some (.inr R))
  (hx:∀ v,I n v→step v=some (.inr R)):Zt step v=some R:=by
 obtain ⟨r,h1,h2⟩:=Zan n I (fun r=>r=R) h0 (fun k v hk hI=>(hs k v hk hI).elim .inl (fun h=>.inr ⟨R,h,rfl⟩)) (fun v hI=>⟨R,hx v hI,rfl⟩)
 rw [h1,h2]
theorem Yt {α:Type} {l:List α} {k:Nat} {x:α} (hx:l[k]?=some x):l.take (k+1)=l.take k++[x]:=by
 rw [List.take_add_one,hx];rfl
def sm:(t:Ty)→t.den→Prop
 | .str,s=>(s.length:Int)≤1048576
 | .sl t,l=>(l.length:Int)≤1048576∧∀ x∈l,sm t x
 | .pair a b,d=>sm a d.1∧sm b d.2
 | _,_=>True
def Szd (o:Option Int) (left:Int) (P:Prop):Prop:=∃ n,o=some n∧n≤left∧(0≤n→P)
theorem Szd.mono {o:Option Int} {left:Int} {P Q:Prop} (h:Szd o left P) (hpq:P→Q):Szd o left Q:=by
 obtain ⟨n,a,b,c⟩:=h;exact ⟨n,a,b,fun h=>hpq (c h)⟩
theorem Szd.then {o:Option Int} {left:Int} {P Q:Prop} (h:Szd o left P) (h0:0≤left) (hl:left≤1048576) {F:Int→Option Int} (h2:∀ n,0≤n→n≤1048576→P→Szd (F n) n Q) :
  Szd (o.bind fun n=>if n<0 then some (-1) else F n) left Q:=by
 obtain ⟨n,e,hle,hP⟩:=h
 rw [e,Option.bind_some]
 split
 ·rename_i hn
  exact ⟨-1,rfl,by omega,fun h=>by omega⟩
 ·rename_i hn
  obtain ⟨m,e2,h3,h4⟩:=h2 n (by omega) (by omega) (hP (by omega))
  exact ⟨m,e2,by omega,h4⟩
theorem Szd.last {o:Option Int} {left:Int} {P Q:Prop} (h:Szd o left P) (hl:0≤left) (hpq:P→Q):Szd (o.bind fun n=>if n<0 then some (-1) else some n) left Q:=by
 obtain ⟨n,e,hle,hP⟩:=h
 rw [e,Option.bind_some]
 split
 ·rename_i hn
  exact ⟨-1,rfl,by omega,fun h=>by omega⟩
 ·exact ⟨n,rfl,hle,fun h=>hpq (hP h)⟩
theorem Szd.len {left n:Int} {Q:Prop} {B:Option Int} (h0:0≤left) (hl:left≤1048576) (hn:0≤n) (hb:n≤9223372036854775807)
  (h2:IntKind.i64.wrap (left-n)=left-n→0≤left-n→left-n≤1048576→n≤1048576→Szd B (left-n) Q) :
  Szd (if IntKind.i64.wrap (left-n)<0 then some (-1) else B) left Q:=by
 have hw:=V7 (n:=left-n) (by omega) (by omega)
 rw [hw]
 split
 ·rename_i hn
  exact ⟨-1,rfl,by omega,fun h=>by omega⟩
 ·rename_i hn
  obtain ⟨m,e2,h3,h4⟩:=h2 hw (by omega) (by omega) (by omega)
  exact ⟨m,e2,by omega,h4⟩
theorem Szd.ret {left:Int} {P:Prop} (h:P):Szd (some left) left P:=⟨left,rfl,Int.le_refl _,fun _=>h⟩
theorem Szd.loop {α:Type} {l:List α} {f:α→Int→Option Int} {P:α→Prop} {step:Int×Int×Unit→Option ((Int×Int×Unit) ⊕ Int)}
  (hf:∀ x∈l,∀ m,0≤m→m≤1048576→Szd (f x m) m (P x))
  (hstep:∀ (k:Nat) (m:Int),step (m,(k:Int),())=if (k:Int)<(l.length:Int) then (atI l (k:Int)).bind fun x=>(f x m).bind fun n=>if n<0 then some (.inr (-1)) else some (.inl (n,IntKind.i64.wrap ((k:Int)+1),())) else some (.inr m))
  {left:Int} (h0:0≤left) (h1:left≤1048576) (hl:(l.length:Int)≤1048576):Szd (Zt step (left,0,())) left (∀ x∈l,P x):=by
 unfold Szd
 refine Zan l.length (fun k v=>v.2.1=(k:Int)∧0≤v.1∧v.1≤left∧∀ x∈l.take k,P x) (fun n=>n≤left∧(0≤n→∀ x∈l,P x)) ⟨rfl,h0,Int.le_refl _,by simp⟩ ?_ ?_
 ·rintro k ⟨m,i,⟨⟩⟩ hk ⟨hi,hm0,hm1,hP⟩
  simp only at hi hm0 hm1
  subst hi
  have hx:l[k]?=some l[k]:=List.getElem?_eq_getElem hk
  generalize l[k]=x at hx
  rw [hstep,if_pos (by omega),Zu,hx,Option.bind_some]
  obtain ⟨n,e,hn,hPx⟩:=hf x (List.mem_of_getElem? hx) m hm0 (by omega)
  rw [e,Option.bind_some]
  split
  ·exact .inr ⟨-1,rfl,by omega,fun h=>by omega⟩
  ·rw [V7 (by omega) (by omega)]
   refine .inl ⟨_,rfl,by simp,by dsimp only;omega,by dsimp only;omega,?_⟩
   rw [Yt hx]
   intro y hy
   rcases List.mem_append.1 hy with hy | hy
   ·exact hP y hy
   ·simp at hy;subst hy;exact hPx (by omega)
 ·rintro ⟨m,i,⟨⟩⟩ ⟨hi,hm0,hm1,hP⟩
  simp only at hi hm0 hm1
  subst hi
  rw [List.take_length] at hP
  rw [hstep,if_neg (by omega)]
  exact ⟨m,rfl,hm1,fun _=>hP⟩
theorem Zcf {α:Type} {l:List α} {f:α→Option α} {z:α} {step:Int×List α×Unit→Option ((Int×List α×Unit) ⊕ List α)} (hf:∀ x∈l,f x=some x)
  (hstep:∀ (k:Nat) (out:List α),step ((k:Int),out,())=if (k:Int)<(l.length:Int) then (atI l (k:Int)).bind fun x=>(f x).bind fun y=>(atI out (k:Int)).bind fun _=>some (.inl (IntKind.i64.wrap ((k:Int)+1),List.set out (Int.toNat (k:Int)) y,())) else some (.inr out))
  (hl:(l.length:Int)≤1048576):Zt step (0,List.replicate (Int.toNat (l.length:Int)) z,())=some l:=by
 refine Xo l.length (fun k v=>v.1=(k:Int)∧v.2.1.length=l.length∧v.2.1.take k=l.take k) _ ⟨rfl,by simp,by simp⟩ ?_ ?_
 ·rintro k ⟨i,out,⟨⟩⟩ hk ⟨hi,hlen,ht⟩
  simp only at hi hlen ht
  subst hi
  have hx:l[k]?=some l[k]:=List.getElem?_eq_getElem hk
  generalize l[k]=x at hx
  have hy:out[k]?=some (out[k]'(by omega)):=List.getElem?_eq_getElem (by omega)
  rw [hstep,if_pos (by omega),Zu,hx,Option.bind_some,hf x (List.mem_of_getElem? hx),Option.bind_some,Zu,hy,Option.bind_some,V7 (by omega) (by omega)]
  refine .inl ⟨_,rfl,by simp,by simp [hlen],?_⟩
  have hx2:(out.set k x)[k]?=some x:=by rw [List.getElem?_set_self (by omega)]
  simp only [Int.toNat_natCast]
  rw [Yt hx2,Yt hx,List.take_set,ht]
  rw [List.set_eq_of_length_le (by simp;omega)]
 ·rintro ⟨i,out,⟨⟩⟩ ⟨hi,hlen,ht⟩
  simp only at hi hlen ht
  subst hi
  rw [hstep,if_neg (by omega)]
  rw [List.take_length,List.take_of_length_le (by omega)] at ht
  rw [ht]
theorem ZsD {α:Type} [DecidableEq α] {l:List α} {step:Int×Unit→Option ((Int×Unit) ⊕ Bool)}
  (hstep:∀ (k:Nat),step ((k:Int),())=if (k:Int)<(l.length:Int) then (atI l (k:Int)).bind fun x=>(atI l (k:Int)).bind fun y=>if x=y then some (.inl (IntKind.i64.wrap ((k:Int)+1),())) else some (.inr false) else some (.inr true))
  (hl:(l.length:Int)≤1048576):Zt step (0,())=some true:=by
 refine Xo l.length (fun k v=>v.1=(k:Int)) _ rfl ?_ ?_
 ·rintro k ⟨i,⟨⟩⟩ hk hi
  simp only at hi
  subst hi
  have hx:l[k]?=some l[k]:=List.getElem?_eq_getElem hk
  generalize l[k]=x at hx
  rw [hstep,if_pos (by omega),Zu,hx,Option.bind_some,Option.bind_some,if_pos rfl,V7 (by omega) (by omega)]
  exact .inl ⟨_,rfl,by simp⟩
 ·rintro ⟨i,⟨⟩⟩ hi
  simp only at hi
  subst hi
  rw [hstep,if_neg (by omega)]
theorem ZvZ {l:List Bool} {step:Int×Unit→Option ((Int×Unit) ⊕ Bool)}
  (hstep:∀ (k:Nat),step ((k:Int),())=if (k:Int)<(l.length:Int) then (atI l (k:Int)).bind fun x=>(atI l (k:Int)).bind fun y=>if (x == y)=true then some (.inl (IntKind.i64.wrap ((k:Int)+1),())) else some (.inr false) else some (.inr true))
  (hl:(l.length:Int)≤1048576):Zt step (0,())=some true:=by
 refine Xo l.length (fun k v=>v.1=(k:Int)) _ rfl ?_ ?_
 ·rintro k ⟨i,⟨⟩⟩ hk hi
  simp only at hi
  subst hi
  have hx:l[k]?=some l[k]:=List.getElem?_eq_getElem hk
  generalize l[k]=x at hx
  rw [hstep,if_pos (by omega),Zu,hx,Option.bind_some,Option.bind_some,if_pos (by simp),V7 (by omega) (by omega)]
  exact .inl ⟨_,rfl,by simp⟩
 ·rintro ⟨i,⟨⟩⟩ hi
  simp only at hi
  subst hi
  rw [hstep,if_neg (by omega)]
def Ty.fixed:Ty→Bool
 | .str=>false
 | .sl _=>false
 | .ptr _=>true
 | .fn _ _=>true
 | .pair a b=>Ty.fixed a&&Ty.fixed b
 | _=>true
theorem XP:∀ (t:Ty),Ty.fixed t=true→∀ d:t.den,sm t d
 | .int _,_,_=>trivial
 | .bool,_,_=>trivial
 | .unit,_,_=>trivial
 | .ptr _,_,_=>trivial
 | .fn _ _,_,_=>trivial
 | .nptr _,_,_=>trivial
 | .mp _ _,_,_=>trivial
 | .str,h,_=>by simp [Ty.fixed] at h
 | .sl _,h,_=>by simp [Ty.fixed] at h
 | .pair a b,h,d=>by
  simp only [Ty.fixed,Bool.and_eq_true] at h
  exact ⟨XP a h.1 d.1,XP b h.2 d.2⟩
theorem ZhZ {α:Type} {l:List α} {f:α→α→Option Bool} {step:Int×Unit→Option ((Int×Unit) ⊕ Bool)} (hf:∀ x∈l,f x x=some true)
  (hstep:∀ (k:Nat),step ((k:Int),())=if (k:Int)<(l.length:Int) then (atI l (k:Int)).bind fun x=>(atI l (k:Int)).bind fun y=>(f x y).bind fun e=>if e=true then some (.inl (IntKind.i64.wrap ((k:Int)+1),())) else some (.inr false) else some (.inr true))
  (hl:(l.length:Int)≤1048576):Zt step (0,())=some true:=by
 refine Xo l.length (fun k v=>v.1=(k:Int)) _ rfl ?_ ?_
 ·rintro k ⟨i,⟨⟩⟩ hk hi
  simp only at hi
  subst hi
  have hx:l[k]?=some l[k]:=List.getElem?_eq_getElem hk
  generalize l[k]=x at hx
  rw [hstep,if_pos (by omega),Zu,hx,Option.bind_some,Option.bind_some,hf x (List.mem_of_getElem? hx),Option.bind_some,if_pos rfl,V7 (by omega) (by omega)]
  exact .inl ⟨_,rfl,by simp⟩
 ·rintro ⟨i,⟨⟩⟩ hi
  simp only at hi
  subst hi
  rw [hstep,if_neg (by omega)]
noncomputable def tr (p:Prop):Bool:=@decide p (Classical.propDecidable p)
theorem Zqe {p:Prop} {b:Bool} (h:b=true↔p):tr p=b:=by
 unfold tr
 cases b
 ·simp at h;simp [h]
 ·simp at h;simp [h]
theorem Qs (p:Prop):tr p=true↔p:=by simp [tr]
theorem YL {p:Prop} (h:p):tr p=true:=(Qs p).2 h
theorem Yk {p:Prop} (h:¬p):tr p=false:=by simp [tr,h]
end Go.Proofs.YtfndhpjedmopdaaGreatDoor
/-
  Ground of the plain laws: the usual loops.
-/
namespace Go.Proofs.YtfndhpjedmopdaaGreatDoor
set_option linter.unusedVariables false
set_option linter.unusedSimpArgs false
open Go Go.Sx
def Len {α:Type} (l:List α):Prop:=l.length≤4611686018427387904
theorem ZtG {k:Nat} {α:Type} {l:List α} (hl:Len l) (hk:k≤l.length):IntKind.i64.wrap ((k:Int)+1)=((k+1:Nat):Int):=by
 have:l.length≤4611686018427387904:=hl
 rw [V7 (by omega) (by omega)];simp
def ZcQ {α:Type} (p:α→Bool) (l:List α):Int:=match l.findIdx? p with
 | some i=>i
 | none=>-1
theorem ZcE {α:Type} {p:α→Bool} {l:List α}:0≤ZcQ p l↔l.any p=true:=by
 unfold ZcQ
 split
 ·rename_i i h
  obtain ⟨h1,h2,_⟩:=List.findIdx?_eq_some_iff_getElem.1 h
  refine ⟨fun _=>List.any_eq_true.2 ⟨_,List.getElem_mem h1,h2⟩,fun _=>by omega⟩
 ·rename_i h
  rw [List.findIdx?_eq_none_iff] at h
  refine ⟨fun h'=>by omega,fun h'=>?_⟩
  obtain ⟨x,hx,hp⟩:=List.any_eq_true.1 h'
  have:=h x hx
  rw [hp] at this;cases this
theorem ZbE {α ρ:Type} {l:List α} (hl:Len l) {p:α→Bool} {step:Int×Unit→Option ((Int×Unit) ⊕ ρ)} {out:Int→ρ}
  (hs:∀ (k:Nat) (x:α),l[k]?=some x→step ((k:Int),())=some (if p x=true then .inr (out k) else .inl (IntKind.i64.wrap ((k:Int)+1),())))
  (hx:step ((l.length:Int),())=some (.inr (out (-1)))):Zt step (0,())=some (out (ZcQ p l)):=by
 refine Xo l.length (fun k v=>v.1=(k:Int)∧∀ x∈l.take k,p x=false) _ ⟨rfl,by simp⟩ ?_ ?_
 ·rintro k ⟨i,⟨⟩⟩ hk ⟨hi,hS⟩
  simp only at hi
  subst hi
  have hx:l[k]?=some l[k]:=List.getElem?_eq_getElem hk
  rw [hs k _ hx,ZtG hl (by omega)]
  split
  ·rename_i hp
   right
   have:l.findIdx? p=some k:=by
    rw [List.findIdx?_eq_some_iff_getElem]
    refine ⟨hk,hp,fun j hj=>?_⟩
    have:=hS l[j] (List.mem_iff_getElem?.2 ⟨j,by rw [List.getElem?_take,if_pos hj];exact List.getElem?_eq_getElem _⟩)
    simp [this]
   unfold ZcQ
   rw [this]
  ·rename_i hp
   refine .inl ⟨_,rfl,rfl,?_⟩
   rw [Yt hx]
   intro y hy
   rcases List.mem_append.1 hy with hy | hy
   ·exact hS y hy
   ·simp at hy;subst hy;simpa using hp
 ·rintro ⟨i,⟨⟩⟩ ⟨hi,hS⟩
  simp only at hi
  subst hi
  rw [List.take_length] at hS
  have:l.findIdx? p=none:=List.findIdx?_eq_none_iff.2 hS
  rw [hx]
  unfold ZcQ
  rw [this]
def foldI {α σ:Type} (f:Nat→α→σ→σ):Nat→List α→σ→σ
 | _,[],s=>s
 | k,x::r,s=>foldI f (k+1) r (f k x s)
theorem ZlU {α σ:Type} (f:Nat→α→σ→σ):∀ (l r:List α) (m:Nat) (s:σ),foldI f m (l++r) s=foldI f (m+l.length) r (foldI f m l s)
 | [],r,m,s=>by simp [foldI]
 | x::l,r,m,s=>by
  simp only [List.cons_append,foldI,List.length_cons,ZlU f l r]
  rw [show m+1+l.length=m+(l.length+1) by omega]
theorem ZoY {α σ:Type} {f:Nat→α→σ→σ} {l:List α} {k:Nat} {x:α} (hx:l[k]?=some x) (s:σ):foldI f 0 (l.take (k+1)) s=f k x (foldI f 0 (l.take k) s):=by
 have hk:=(List.getElem?_eq_some_iff.1 hx).1
 rw [Yt hx,ZlU]
 simp only [foldI,Nat.zero_add,List.length_take]
 rw [show min k l.length=k by omega]
theorem Zo5 {α σ τ ρ:Type} {l:List α} (hl:Len l) (pack:σ→Int→τ) {f:Nat→α→σ→σ} {step:τ→Option (τ ⊕ ρ)} {s0:σ} {R:ρ} (I:Nat→σ→Prop) (h0:I 0 s0)
  (hs:∀ (k:Nat) (x:α) (s:σ),l[k]?=some x→I k s→s=foldI f 0 (l.take k) s0→step (pack s (k:Int))=some (.inl (pack (f k x s) (IntKind.i64.wrap ((k:Int)+1))))∧I (k+1) (f k x s))
  (hx:∀ s,I l.length s→s=foldI f 0 l s0→step (pack s (l.length:Int))=some (.inr R)):Zt step (pack s0 0)=some R:=by
 refine Xo l.length (fun k v=>v=pack (foldI f 0 (l.take k) s0) (k:Int)∧I k (foldI f 0 (l.take k) s0)) _ ⟨rfl,h0⟩ ?_ ?_
 ·rintro k _ hk ⟨rfl,hI⟩
  have hx:l[k]?=some l[k]:=List.getElem?_eq_getElem hk
  obtain ⟨h1,h2⟩:=hs k _ _ hx hI rfl
  rw [h1,ZtG hl (by omega)]
  exact .inl ⟨_,rfl,by rw [ZoY hx],by rw [ZoY hx];exact h2⟩
 ·rintro _ ⟨rfl,hI⟩
  rw [List.take_length] at hI ⊢
  exact hx _ hI rfl
noncomputable def sel {ρ:Type} (P:Prop) (a b:ρ):ρ:=match tr P with
 | true=>a
 | false=>b
theorem Vq {ρ:Type} {P:Prop} (h:P) (a b:ρ):sel P a b=a:=by simp [sel,YL h]
theorem Qq {ρ:Type} {P:Prop} (h:¬P) (a b:ρ):sel P a b=b:=by simp [sel,Yk h]
theorem Zkv (P:Prop):sel P true false=tr P:=by
 by_cases h:P
 ·rw [Vq h,YL h]
 ·rw [Qq h,Yk h]
def Zgw {α:Type} (l:List α) (P:Nat→α→Prop):Prop:=∀ (k:Nat) (x:α),l[k]?=some x→P k x
theorem J4 {α ρ:Type} {l:List α} (hl:Len l) (P:Nat→α→Prop) {step:Int×Unit→Option ((Int×Unit) ⊕ ρ)} {bad good:ρ}
  (hs:∀ (k:Nat) (x:α),l[k]?=some x→k<l.length→(∀ (j:Nat) (y:α),j<k→l[j]?=some y→P j y)→(P k x→step ((k:Int),())=some (.inl (IntKind.i64.wrap ((k:Int)+1),())))∧(¬P k x→step ((k:Int),())=some (.inr bad)))
  (hx:Zgw l P→step ((l.length:Int),())=some (.inr good)):Zt step (0,())=some (sel (Zgw l P) good bad):=by
 refine Xo l.length (fun k v=>v.1=(k:Int)∧∀ (j:Nat) (y:α),j<k→l[j]?=some y→P j y) _ ⟨rfl,fun j y hj=>by omega⟩ ?_ ?_
 ·rintro k ⟨i,⟨⟩⟩ hk ⟨hi,hS⟩
  simp only at hi
  subst hi
  have hx:l[k]?=some l[k]:=List.getElem?_eq_getElem hk
  obtain ⟨h1,h2⟩:=hs k _ hx hk hS
  by_cases hP:P k l[k]
  ·rw [h1 hP,ZtG hl (by omega)]
   refine .inl ⟨_,rfl,rfl,fun j y hj hy=>?_⟩
   by_cases hjk:j<k
   ·exact hS j y hjk hy
   ·have:j=k:=by omega
    subst this
    rw [hx] at hy;injection hy with hy;subst hy
    exact hP
  ·right
   rw [h2 hP,Qq (fun h=>hP (h k _ hx))]
 ·rintro ⟨i,⟨⟩⟩ ⟨hi,hS⟩
  simp only at hi
  subst hi
  have hA:Zgw l P:=fun k x hk=>hS k x (List.getElem?_eq_some_iff.1 hk).1 hk
  rw [hx hA,Vq hA]
theorem ZsI {ρ:Type} (m n:Nat) (hmn:m≤n) (hn:n≤4611686018427387904) (P:Nat→Prop) {step:Int×Unit→Option ((Int×Unit) ⊕ ρ)} {bad good:ρ}
  (hs:∀ k:Nat,m≤k→k<n→(∀ j,m≤j→j<k→P j)→(P k→step ((k:Int),())=some (.inl (IntKind.i64.wrap ((k:Int)+1),())))∧(¬P k→step ((k:Int),())=some (.inr bad)))
  (hx:(∀ j,m≤j→j<n→P j)→step ((n:Int),())=some (.inr good)):Zt step ((m:Int),())=some (sel (∀ j,m≤j→j<n→P j) good bad):=by
 refine Xo (n-m) (fun k v=>v.1=((m+k:Nat):Int)∧∀ j,m≤j→j<m+k→P j) _ ⟨by simp,fun j h1 h2=>by omega⟩ ?_ ?_
 ·rintro k ⟨i,⟨⟩⟩ hk ⟨hi,hS⟩
  simp only at hi
  subst hi
  obtain ⟨h1,h2⟩:=hs (m+k) (by omega) (by omega) hS
  by_cases hP:P (m+k)
  ·rw [h1 hP,V7 (by omega) (by omega)]
   refine .inl ⟨_,rfl,by simp only;omega,fun j ha hb=>?_⟩
   by_cases hj:j<m+k
   ·exact hS j ha hj
   ·have:j=m+k:=by omega
    subst this;exact hP
  ·right
   rw [h2 hP,Qq (fun h=>hP (h (m+k) (by omega) (by omega)))]
 ·rintro ⟨i,⟨⟩⟩ ⟨hi,hS⟩
  simp only at hi
  subst hi
  have e:m+(n-m)=n:=by omega
  rw [e] at hS ⊢
  rw [hx hS,Vq hS]
end Go.Proofs.YtfndhpjedmopdaaGreatDoor
/-
  Ground of the plain laws: all lengths together; how many numbers there are; marks.
-/
namespace Go.Proofs.YtfndhpjedmopdaaGreatDoor
set_option linter.unusedVariables false
set_option linter.unusedSimpArgs false
open Go Go.Sx
def tot:(t:Ty)→t.den→Nat
 | .str,s=>s.length
 | .sl t,l=>l.length+(l.map (tot t)).sum
 | .pair a b,d=>tot a d.1+tot b d.2
 | _,_=>0
def Szt (o:Option Int) (left:Int) (T:Nat):Prop:=∀ n,o=some n→0≤n→n+(T:Int)≤left
theorem Szt.mono {o:Option Int} {left:Int} {T T':Nat} (h:Szt o left T) (ht:T'≤T):Szt o left T':=fun n h1 h2=>by
 have:=h n h1 h2
 omega
theorem Szt.then {o:Option Int} {left:Int} {T1 T2:Nat} (h:Szt o left T1) (h0:0≤left) (hl:left≤1048576) {F:Int→Option Int} (h2:∀ n,0≤n→n≤1048576→Szt (F n) n T2) :
  Szt (o.bind fun n=>if n<0 then some (-1) else F n) left (T1+T2):=by
 intro m hm hm0
 cases ho:o with
 | none=>rw [ho] at hm;cases hm
 | some n =>
  rw [ho,Option.bind_some] at hm
  by_cases hn:n<0
  ·rw [if_pos hn] at hm;injection hm;omega
  ·rw [if_neg hn] at hm
   have a:=h n ho (by omega)
   have b:=h2 n (by omega) (by omega) m hm hm0
   omega
theorem Szt.last {o:Option Int} {left:Int} {T:Nat} (h:Szt o left T):Szt (o.bind fun n=>if n<0 then some (-1) else some n) left T:=by
 intro m hm hm0
 cases ho:o with
 | none=>rw [ho] at hm;cases hm
 | some n =>
  rw [ho,Option.bind_some] at hm
  by_cases hn:n<0
  ·rw [if_pos hn] at hm;injection hm;omega
  ·rw [if_neg hn] at hm
   injection hm with hm
   subst hm
   exact h n ho hm0
theorem Szt.len {left n:Int} {T:Nat} {B:Option Int} (h0:0≤left) (hl:left≤1048576) (hn:0≤n) (hb:n≤9223372036854775807)
  (h2:IntKind.i64.wrap (left-n)=left-n→0≤left-n→left-n≤1048576→Szt B (left-n) T) :
  Szt (if IntKind.i64.wrap (left-n)<0 then some (-1) else B) left (n.toNat+T):=by
 have hw:=V7 (n:=left-n) (by omega) (by omega)
 intro m hm hm0
 rw [hw] at hm
 by_cases hneg:left-n<0
 ·rw [if_pos hneg] at hm;injection hm;omega
 ·rw [if_neg hneg] at hm
  have:=h2 hw (by omega) (by omega) m hm hm0
  omega
theorem Szt.ret {left:Int}:Szt (some left) left 0:=fun n h _=>by injection h;omega
theorem Szt.loop {α:Type} {l:List α} {f:α→Int→Option Int} {P:α→Prop} {T:α→Nat} {step:Int×Int×Unit→Option ((Int×Int×Unit) ⊕ Int)}
  (hf:∀ x∈l,∀ m,0≤m→m≤1048576→Szd (f x m) m (P x)) (ht:∀ x∈l,∀ m,0≤m→m≤1048576→Szt (f x m) m (T x))
  (hstep:∀ (k:Nat) (m:Int),step (m,(k:Int),())=if (k:Int)<(l.length:Int) then (atI l (k:Int)).bind fun x=>(f x m).bind fun n=>if n<0 then some (.inr (-1)) else some (.inl (n,IntKind.i64.wrap ((k:Int)+1),())) else some (.inr m))
  {left:Int} (h0:0≤left) (h1:left≤1048576) (hl:(l.length:Int)≤1048576):Szt (Zt step (left,0,())) left (l.map T).sum:=by
 have:∃ r,Zt step (left,0,())=some r∧(0≤r→r+((l.map T).sum:Int)≤left):=by
  refine Zan l.length (fun k v=>v.2.1=(k:Int)∧0≤v.1∧v.1+(((l.take k).map T).sum:Int)≤left) _ ⟨rfl,h0,by simp⟩ ?_ ?_
  ·rintro k ⟨m,i,⟨⟩⟩ hk ⟨hi,hm0,hm1⟩
   simp only at hi hm0 hm1
   subst hi
   have hx:l[k]?=some l[k]:=List.getElem?_eq_getElem hk
   generalize l[k]=x at hx
   rw [hstep,if_pos (by omega),Zu,hx,Option.bind_some]
   obtain ⟨n,e,hn,hPx⟩:=hf x (List.mem_of_getElem? hx) m hm0 (by omega)
   rw [e,Option.bind_some]
   split
   ·exact .inr ⟨-1,rfl,fun h=>by omega⟩
   ·rename_i hneg
    have:=ht x (List.mem_of_getElem? hx) m hm0 (by omega) n e (by omega)
    rw [V7 (by omega) (by omega)]
    refine .inl ⟨_,rfl,by simp,by dsimp only;omega,?_⟩
    rw [Yt hx,List.map_append,List.sum_append]
    simp only [List.map_cons,List.map_nil,List.sum_cons,List.sum_nil]
    omega
  ·rintro ⟨m,i,⟨⟩⟩ ⟨hi,hm0,hm1⟩
   simp only at hi hm0 hm1
   subst hi
   rw [List.take_length] at hm1
   rw [hstep,if_neg (by omega)]
   exact ⟨m,rfl,fun _=>hm1⟩
 obtain ⟨r,h2,h3⟩:=this
 intro n hn hn0
 rw [h2] at hn
 injection hn with hn
 subst hn
 exact h3 hn0
theorem Znt:∀ (t:Ty),Ty.fixed t=true→∀ d:t.den,tot t d=0
 | .int _,_,_=>rfl
 | .bool,_,_=>rfl
 | .unit,_,_=>rfl
 | .ptr _,_,_=>rfl
 | .fn _ _,_,_=>rfl
 | .nptr _,_,_=>rfl
 | .mp _ _,_,_=>rfl
 | .str,h,_=>by simp [Ty.fixed] at h
 | .sl _,h,_=>by simp [Ty.fixed] at h
 | .pair a b,h,d=>by
  simp only [Ty.fixed,Bool.and_eq_true] at h
  simp only [tot,Znt a h.1 d.1,Znt b h.2 d.2]
theorem Zkr {t:Ty} (h:Ty.fixed t=true) (l:List t.den):(l.map (tot t)).sum=0:=by
 induction l with
 | nil=>rfl
 | cons x r ih=>simp only [List.map_cons,List.sum_cons,Znt t h x,ih]
theorem Zc7 (a b:Ty) (d:(Ty.pair a b).den):tot (.pair a b) d=tot a d.1+tot b d.2:=rfl
theorem Zho (t:Ty) (l:List t.den):tot (.sl t) l=l.length+(l.map (tot t)).sum:=rfl
theorem Zez (s:List UInt8):tot .str s=s.length:=rfl
theorem Zfp (k:IntKind) (n:Int):tot (.int k) n=0:=rfl
theorem Zde (b:Bool):tot .bool b=0:=rfl
theorem Zdd (b:Unit):tot .unit b=0:=rfl
theorem Szt.str (x:List UInt8) (m:Int) (m0:0≤m) (m1:m≤1048576) (hb:(x.length:Int)≤9223372036854775807) :
  Szt (if IntKind.i64.wrap (m-(x.length:Int))<0 then some (-1) else some (IntKind.i64.wrap (m-(x.length:Int)))) m (tot .str x):=by
 have h:Szt (if IntKind.i64.wrap (m-(x.length:Int))<0 then some (-1) else some (IntKind.i64.wrap (m-(x.length:Int)))) m ((x.length:Int).toNat+0) :=
  Szt.len m0 m1 (by omega) hb (fun hw _ _=>by rw [hw];exact Szt.ret)
 refine h.mono ?_
 rw [Zez]
 omega
theorem Szd.str (x:List UInt8) (m:Int) (m0:0≤m) (m1:m≤1048576) (hb:(x.length:Int)≤9223372036854775807) :
  Szd (if IntKind.i64.wrap (m-(x.length:Int))<0 then some (-1) else some (IntKind.i64.wrap (m-(x.length:Int)))) m (sm .str x) :=
 Szd.len m0 m1 (by omega) hb (fun hw _ _ hn=>by rw [hw];exact Szd.ret hn)
def cnt:(t:Ty)→t.den→Nat
 | .int _,_=>1
 | .bool,_=>1
 | .str,_=>1
 | .sl t,l=>(l.map (cnt t)).sum
 | .pair a b,d=>cnt a d.1+cnt b d.2
 | _,_=>0
theorem Zdc (a b:Ty) (d:(Ty.pair a b).den):cnt (.pair a b) d=cnt a d.1+cnt b d.2:=rfl
theorem Zfk (s:List UInt8):cnt .str s=1:=rfl
theorem Zev (k:IntKind) (n:Int):cnt (.int k) n=1:=rfl
theorem Zda (b:Bool):cnt .bool b=1:=rfl
theorem Zc9 (b:Unit):cnt .unit b=0:=rfl
def wid:Ty→Nat
 | .int _=>1
 | .bool=>1
 | .str=>1
 | .pair a b=>wid a+wid b
 | _=>0
def ZdZ:Ty→Nat
 | .sl t=>max (wid t) (ZdZ t)
 | .pair a b=>max (ZdZ a) (ZdZ b)
 | _=>0
theorem ZoQ:∀ (t:Ty) (d:t.den),cnt t d≤wid t+ZdZ t*tot t d
 | .int _,_=>by simp [cnt,wid]
 | .bool,_=>by simp [cnt,wid]
 | .str,_=>by simp [cnt,wid]
 | .unit,_=>by simp [cnt]
 | .ptr _,_=>by simp [cnt]
 | .fn _ _,_=>by simp [cnt]
 | .nptr _,_=>by simp [cnt]
 | .mp _ _,_=>by simp [cnt]
 | .pair a b,d=>by
  have h1:=ZoQ a d.1
  have h2:=ZoQ b d.2
  have h3:ZdZ a*tot a d.1≤max (ZdZ a) (ZdZ b)*tot a d.1:=Nat.mul_le_mul_right _ (Nat.le_max_left _ _)
  have h4:ZdZ b*tot b d.2≤max (ZdZ a) (ZdZ b)*tot b d.2:=Nat.mul_le_mul_right _ (Nat.le_max_right _ _)
  simp only [cnt,wid,ZdZ,tot,Nat.mul_add]
  omega
 | .sl t,l=>by
  have:(l.map (cnt t)).sum≤wid t*l.length+ZdZ t*(l.map (tot t)).sum:=by
   induction l with
   | nil=>simp
   | cons x r ih =>
    have:=ZoQ t x
    simp only [List.map_cons,List.sum_cons,List.length_cons,Nat.mul_add]
    omega
  have h1:wid t*l.length≤max (wid t) (ZdZ t)*l.length:=Nat.mul_le_mul_right _ (Nat.le_max_left _ _)
  have h2:ZdZ t*(l.map (tot t)).sum≤max (wid t) (ZdZ t)*(l.map (tot t)).sum:=Nat.mul_le_mul_right _ (Nat.le_max_right _ _)
  simp only [cnt,wid,ZdZ,tot,Nat.mul_add]
  omega
def Mkd {α:Type} (o:Option (Int×α)) (k:Int) (c:Nat):Prop:=∃ a',o=some (k+(c:Int),a')
theorem Zfo {α:Type} {L:List α} {j:Nat} {y:α} (h:j<L.length):atI (List.set L j y) (j:Int)=some y:=by
 rw [Zu,List.getElem?_set_self h]
theorem Mkd.loop {α:Type} {l:List α} {c:α→Nat} {step:Int×Int×List α×Unit→Option ((Int×Int×List α×Unit) ⊕ (Int×List α))} {k:Int}
  (hstep:∀ (j:Nat) (m:Int) (x:α) (L:List α),j<L.length→(j:Int)<(L.length:Int)→L.length=l.length→L[j]?=some x→x∈l→0≤m→m+(c x:Int)≤4611686018427387904→(j:Int)≤1048576→∃ y,step (m,(j:Int),L,())=some (.inl (m+(c x:Int),((j+1:Nat):Int),List.set L j y,())))
  (hend:∀ (m:Int) (L:List α),L.length=l.length→step (m,(L.length:Int),L,())=some (.inr (m,L)))
  (hl:l.length≤1048576) (h0:0≤k) (h1:k+((l.map c).sum:Int)≤4611686018427387904):Mkd (Zt step (k,0,l,())) k (l.map c).sum:=by
 have:∃ r,Zt step (k,0,l,())=some r∧r.1=k+((l.map c).sum:Int):=by
  refine Zan l.length (fun j v=>v.1=k+(((l.take j).map c).sum:Int)∧v.2.1=(j:Int)∧v.2.2.1.length=l.length∧∀ i,j≤i→v.2.2.1[i]?=l[i]?) _ ⟨by simp,rfl,rfl,fun i _=>rfl⟩ ?_ ?_
  ·rintro j ⟨m,i,L,⟨⟩⟩ hj ⟨hm,hi,hL,hrest⟩
   simp only at hm hi hL hrest
   subst hi
   have hx:l[j]?=some l[j]:=List.getElem?_eq_getElem hj
   have hsum:(l.map c).sum=((l.take j).map c).sum+(c l[j]+((l.drop (j+1)).map c).sum):=by
    have e:l=l.take j++(l[j]::l.drop (j+1)):=by rw [←List.drop_eq_getElem_cons hj,List.take_append_drop]
    have e2:=congrArg (fun l=>(l.map c).sum) e
    simp only [List.map_append,List.sum_append,List.map_cons,List.sum_cons] at e2
    exact e2
   obtain ⟨y,hy⟩:=hstep j m l[j] L (by omega) (by omega) hL (by rw [hrest j (Nat.le_refl _)];exact hx) (List.mem_of_getElem? hx) (by omega) (by omega) (by omega)
   left
   refine ⟨_,hy,?_,rfl,by simp [hL],fun i hi=>?_⟩
   ·rw [Yt hx,List.map_append,List.sum_append]
    simp only [List.map_cons,List.map_nil,List.sum_cons,List.sum_nil]
    omega
   ·simp only
    rw [List.getElem?_set_ne (by omega)]
    exact hrest i (by omega)
  ·rintro ⟨m,i,L,⟨⟩⟩ ⟨hm,hi,hL,_⟩
   simp only at hm hi hL
   subst hi
   rw [List.take_length] at hm
   rw [←hL,hend m L hL]
   exact ⟨_,rfl,hm⟩
 obtain ⟨r,h2,h3⟩:=this
 exact ⟨r.2,by rw [h2,←h3]⟩
end Go.Proofs.YtfndhpjedmopdaaGreatDoor
/-
  Ground of the plain laws: what marking makes of a value, and that the marks are held.
-/
namespace Go.Proofs.YtfndhpjedmopdaaGreatDoor
set_option linter.unusedVariables false
set_option linter.unusedSimpArgs false
open Go Go.Sx
def mkL {α:Type} (f:α→Int→α) (c:α→Nat):List α→Int→List α
 | [],_=>[]
 | x::r,k=>f x k::mkL f c r (k+(c x:Int))
def mkA (mt:Int→List UInt8):(t:Ty)→t.den→Int→t.den
 | .int _,_,k=>k
 | .str,_,k=>mt k
 | .bool,_,k=>decide (Int.tmod k 3=0)
 | .pair a b,d,k=>(mkA mt a d.1 k,mkA mt b d.2 (k+(cnt a d.1:Int)))
 | .sl t,l,k=>mkL (mkA mt t) (cnt t) l k
 | .unit,d,_=>d
 | .ptr _,d,_=>d
 | .fn _ _,d,_=>d
 | .nptr _,d,_=>d
 | .mp _ _,d,_=>d
def Zj0:(t:Ty)→t.den→Nat
 | .pair a b,d=>Zj0 a d.1+Zj0 b d.2
 | .sl t,l=>cnt (.sl t) l
 | _,_=>0
def mkT (mt:Int→List UInt8):(t:Ty)→t.den→Int→t.den
 | .pair a b,d,k=>(mkT mt a d.1 k,mkT mt b d.2 (k+(Zj0 a d.1:Int)))
 | .sl t,l,k=>mkL (mkA mt t) (cnt t) l k
 | .int _,d,_=>d
 | .str,d,_=>d
 | .bool,d,_=>d
 | .unit,d,_=>d
 | .ptr _,d,_=>d
 | .fn _ _,d,_=>d
 | .nptr _,d,_=>d
 | .mp _ _,d,_=>d
theorem ZgA {α:Type} (f:α→Int→α) (c:α→Nat):∀ (l:List α) (k:Int),(mkL f c l k).length=l.length
 | [],_=>rfl
 | x::r,k=>by simp only [mkL,List.length_cons,ZgA f c r]
theorem ZuW {α:Type} (f:α→Int→α) (c:α→Nat):∀ (l:List α) (k:Int) (j:Nat),(mkL f c l k)[j]?=(l[j]?).map (fun x=>f x (k+(((l.take j).map c).sum:Int)))
 | [],k,j=>by simp [mkL]
 | x::r,k,0=>by simp [mkL]
 | x::r,k,j+1=>by
  simp only [mkL,List.getElem?_cons_succ,ZuW f c r,List.take_succ_cons,List.map_cons,List.sum_cons]
  congr 1
  funext y
  congr 1
  omega
theorem ZoM {α:Type} (f:α→Int→α) (c:α→Nat):∀ (l r:List α) (k:Int),mkL f c (l++r) k=mkL f c l k++mkL f c r (k+((l.map c).sum:Int))
 | [],r,k=>by simp [mkL]
 | x::l,r,k=>by
  simp only [List.cons_append,mkL,ZoM f c l r,List.map_cons,List.sum_cons]
  congr 3
  omega
theorem ZvK {α:Type} {f:α→Int→α} {c:α→Nat} {l:List α} {k:Int} {j:Nat} {x:α} (hx:l[j]?=some x):mkL f c (l.take (j+1)) k=mkL f c (l.take j) k++[f x (k+(((l.take j).map c).sum:Int))]:=by
 rw [Yt hx,ZoM];rfl
theorem ZtQ {α:Type} {l:List α} {f:α→Int→α} {c:α→Nat} {step:Int×Int×List α×Unit→Option ((Int×Int×List α×Unit) ⊕ (Int×List α))} {k:Int}
  (hstep:∀ (j:Nat) (m:Int) (x:α) (L:List α),j<L.length→(j:Int)<(L.length:Int)→L[j]?=some x→x∈l→0≤m→m+(c x:Int)≤4611686018427387904→(j:Int)≤1048576→step (m,(j:Int),L,())=some (.inl (m+(c x:Int),((j+1:Nat):Int),List.set L j (f x m),())))
  (hend:∀ (m:Int) (L:List α),step (m,(L.length:Int),L,())=some (.inr (m,L)))
  (hl:l.length≤1048576) (h0:0≤k) (h1:k+((l.map c).sum:Int)≤4611686018427387904):Zt step (k,0,l,())=some (k+((l.map c).sum:Int),mkL f c l k):=by
 refine Xo l.length (fun j v=>v.1=k+(((l.take j).map c).sum:Int)∧v.2.1=(j:Int)∧v.2.2.1=mkL f c (l.take j) k++l.drop j) _ ⟨by simp,rfl,by simp [mkL]⟩ ?_ ?_
 ·rintro j ⟨m,i,L,⟨⟩⟩ hj ⟨hm,hi,hL⟩
  simp only at hm hi hL
  subst hi
  have hx:l[j]?=some l[j]:=List.getElem?_eq_getElem hj
  generalize hxv:l[j]=x at hx
  have hlen:(mkL f c (l.take j) k).length=j:=by rw [ZgA,List.length_take];omega
  have hd:l.drop j=x::l.drop (j+1):=by rw [List.drop_eq_getElem_cons hj,hxv]
  have hLl:L.length=l.length:=by rw [hL,List.length_append,hlen,List.length_drop];omega
  have hLx:L[j]?=some x:=by rw [hL,List.getElem?_append_right (by omega),hlen,Nat.sub_self,hd];rfl
  have hsum:(l.map c).sum=((l.take j).map c).sum+(c x+((l.drop (j+1)).map c).sum):=by
   have e:l=l.take j++(x::l.drop (j+1)):=by rw [←hd,List.take_append_drop]
   have e2:=congrArg (fun l=>(l.map c).sum) e
   simp only [List.map_append,List.sum_append,List.map_cons,List.sum_cons] at e2
   exact e2
  left
  refine ⟨_,hstep j m x L (by omega) (by omega) hLx (List.mem_of_getElem? hx) (by omega) (by omega) (by omega),?_,rfl,?_⟩
  ·rw [Yt hx,List.map_append,List.sum_append]
   simp only [List.map_cons,List.map_nil,List.sum_cons,List.sum_nil]
   omega
  ·simp only
   rw [hL,ZvK hx,List.set_append,if_neg (by omega),hlen,Nat.sub_self,hd,hm]
   simp
 ·rintro ⟨m,i,L,⟨⟩⟩ ⟨hm,hi,hL⟩
  simp only at hm hi hL
  subst hi
  rw [List.take_length,List.drop_length,List.append_nil] at hL
  rw [List.take_length] at hm
  subst hL
  rw [←ZgA f c l k,hend,hm]
theorem ZsV {α:Type} {l:List α} {f:α→Int→α} {c:α→Nat} {step:Int×Int×Unit→Option ((Int×Int×Unit) ⊕ Int)} {k:Int}
  (hstep:∀ (j:Nat) (m:Int) (x:α),(j:Int)<((mkL f c l k).length:Int)→(mkL f c l k)[j]?=some (f x m)→x∈l→0≤m→m+(c x:Int)≤4611686018427387904→(j:Int)≤1048576→step (m,(j:Int),())=some (.inl (m+(c x:Int),((j+1:Nat):Int),())))
  (hend:∀ (m:Int),step (m,((mkL f c l k).length:Int),())=some (.inr m))
  (hl:l.length≤1048576) (h0:0≤k) (h1:k+((l.map c).sum:Int)≤4611686018427387904):Zt step (k,0,())=some (k+((l.map c).sum:Int)):=by
 refine Xo l.length (fun j v=>v.1=k+(((l.take j).map c).sum:Int)∧v.2.1=(j:Int)) _ ⟨by simp,rfl⟩ ?_ ?_
 ·rintro j ⟨m,i,⟨⟩⟩ hj ⟨hm,hi⟩
  simp only at hm hi
  subst hi
  have hx:l[j]?=some l[j]:=List.getElem?_eq_getElem hj
  generalize hxv:l[j]=x at hx
  have hsum:(l.map c).sum=((l.take j).map c).sum+(c x+((l.drop (j+1)).map c).sum):=by
   have hd:l.drop j=x::l.drop (j+1):=by rw [List.drop_eq_getElem_cons hj,hxv]
   have e:l=l.take j++(x::l.drop (j+1)):=by rw [←hd,List.take_append_drop]
   have e2:=congrArg (fun l=>(l.map c).sum) e
   simp only [List.map_append,List.sum_append,List.map_cons,List.sum_cons] at e2
   exact e2
  left
  refine ⟨_,hstep j m x (by rw [ZgA];omega) (by rw [ZuW,hx,hm];rfl) (List.mem_of_getElem? hx) (by omega) (by omega) (by omega),?_,rfl⟩
  rw [Yt hx,List.map_append,List.sum_append]
  simp only [List.map_cons,List.map_nil,List.sum_cons,List.sum_nil]
  omega
 ·rintro ⟨m,i,⟨⟩⟩ ⟨hm,hi⟩
  simp only at hm hi
  subst hi
  rw [List.take_length] at hm
  rw [←ZgA f c l k,hend,hm]
theorem ZpG:∀ (t:Ty) (d:t.den),Zj0 t d≤cnt t d
 | .pair a b,d=>Nat.add_le_add (ZpG a d.1) (ZpG b d.2)
 | .sl t,l=>Nat.le_refl _
 | .int _,_=>Nat.zero_le _
 | .bool,_=>Nat.zero_le _
 | .str,_=>Nat.zero_le _
 | .unit,_=>Nat.zero_le _
 | .ptr _,_=>Nat.zero_le _
 | .fn _ _,_=>Nat.zero_le _
 | .nptr _,_=>Nat.zero_le _
 | .mp _ _,_=>Nat.zero_le _
end Go.Proofs.YtfndhpjedmopdaaGreatDoor
/-
  Plain laws: bounds, names.
-/
namespace Go.Proofs.YtfndhpjedmopdaaGreatDoor
set_option linter.unusedVariables false
set_option linter.unusedSimpArgs false
open Go Go.Sx
def within (n a b:Int):Bool:=decide (a≤n)&&decide (n≤b)
theorem Zbz (n a b:Int):Yd n a b=some (within n a b):=by
 unfold Yd within;split<;>simp [*]
theorem ZdS (n a b:Int):ZX n a b=some (within n a b):=by
 unfold ZX within;split<;>simp [*]
theorem within_iff (n a b:Int):within n a b=true↔a≤n∧n≤b:=by simp [within]
def Zgs (b:UInt8):Bool:=decide (97≤b.toNat)&&decide (b.toNat≤122)
def ZlA (b:UInt8):Bool:=decide (48≤b.toNat)&&decide (b.toNat≤57)
def Za6 (s:List UInt8):Bool:=decide (1≤s.length)&&decide (s.length≤8)&&s.all (fun b=>Zgs b||ZlA b)&&(match s with
 | b::_=>Zgs b
 | []=>false)
def ZqQ (s:List UInt8) (i:Nat):Prop:=∀ (j:Nat) (b:UInt8),j<i→s[j]?=some b→(Zgs b||ZlA b)=true∧(j=0→Zgs b=true)
theorem ZrJ {s:List UInt8} {i:Nat} {x:UInt8} (h:ZqQ s i) (hx:s[i]?=some x) (h1:(Zgs x||ZlA x)=true) (h2:i=0→Zgs x=true):ZqQ s (i+1):=by
 intro j b hj hb
 by_cases e:j<i
 ·exact h j b e hb
 ·have:j=i:=by omega
  subst this
  rw [hx] at hb;injection hb with hb;subst hb
  exact ⟨h1,h2⟩
theorem Zqj {s:List UInt8} (h:ZqQ s s.length):Za6 s=(decide (1≤s.length)&&decide (s.length≤8)):=by
 unfold Za6
 have h1:s.all (fun b=>Zgs b||ZlA b)=true:=by
  rw [List.all_eq_true]
  intro b hb
  obtain ⟨j,hj⟩:=List.mem_iff_getElem?.1 hb
  exact (h j b (List.getElem?_eq_some_iff.1 hj).1 hj).1
 rw [h1]
 cases s with
 | nil=>rfl
 | cons b r =>
  have:=(h 0 b (by simp) rfl).2 rfl
  simp [this]
theorem Ztn {s:List UInt8} {j:Nat} {b:UInt8} (hb:s[j]?=some b) (h:(Zgs b||ZlA b)=false∨j=0∧Zgs b=false):Za6 s=false:=by
 unfold Za6
 rcases h with h | ⟨rfl,h⟩
 ·have:s.all (fun b=>Zgs b||ZlA b)=false:=by
   rw [List.all_eq_false]
   exact ⟨b,List.mem_of_getElem? hb,by simp [h]⟩
  simp [this]
 ·cases s with
  | nil=>simp at hb
  | cons c r=>simp at hb;subst hb;simp [h]
theorem Zek (s:List UInt8) (hl:s.length≤4611686018427387904):ZaA s=some (Za6 s):=by
 unfold ZaA
 refine Xo s.length (fun k v=>v.1=(k:Int)∧ZqQ s k) _ ⟨rfl,fun j b hj=>by omega⟩ ?_ ?_
 ·rintro k ⟨i,⟨⟩⟩ hk ⟨rfl,hS⟩
  have hx:s[k]?=some s[k]:=List.getElem?_eq_getElem hk
  generalize s[k]=x at hx
  simp only [Zau,Zu,hx,Option.bind_some,show (k:Int)<(s.length:Int) from by omega,if_true,V7 (show (-9223372036854775808:Int)≤(k:Int)+1 by omega) (by omega)]
  have ok:(Zgs x||ZlA x)=true→(k=0→Zgs x=true)→(((k:Int)+1,()):Int×Unit).1=((k+1:Nat):Int)∧ZqQ s (k+1):=fun h1 h2=>⟨by simp,ZrJ hS hx h1 h2⟩
  have bad:((Zgs x||ZlA x)=false∨k=0∧Zgs x=false)→(some (Sum.inr false):Option (Int×Unit ⊕ Bool))=some (Sum.inr (Za6 s)):=fun h=>by rw [Ztn hx h]
  simp only [Zgs,ZlA] at ok bad
  repeat' split
  all_goals first
   | (left;refine ⟨_,rfl,ok ?_ ?_⟩<;>simp<;>omega)
   | (right;refine bad ?_;first | (left;simp;omega) | (right;simp;omega))
 ·rintro ⟨i,⟨⟩⟩ ⟨rfl,hS⟩
  simp only [Zau,Int.lt_irrefl,if_false]
  rw [Zqj hS]
  split
  ·rename_i h
   have h1:1≤s.length:=by omega
   have h2:decide ((s.length:Int)≤8)=decide (s.length≤8):=by rw [decide_eq_decide];omega
   simp [h1,h2]
  ·have h1:¬1≤s.length:=by omega
   simp [h1]
theorem dropWhile_nil {p:UInt8→Bool}:∀ (m:List UInt8),(∀ x∈m.dropWhile p,p x=true)→∀ x∈m,p x=true
 | [],_=>by simp
 | a::m,h=>by
  by_cases ha:p a=true
  ·rw [List.dropWhile_cons_of_pos ha] at h
   intro x hx
   rcases List.mem_cons.1 hx with rfl | hx
   ·exact ha
   ·exact dropWhile_nil m h x hx
  ·rw [List.dropWhile_cons_of_neg ha] at h
   exact absurd (h a (by simp)) ha
theorem Zkx {p:UInt8→Bool}:∀ (m:List UInt8),m.dropWhile p=[]↔∀ x∈m,p x=true
 | []=>by simp
 | a::m=>by
  by_cases ha:p a=true
  ·rw [List.dropWhile_cons_of_pos ha,Zkx m];simp [ha]
  ·rw [List.dropWhile_cons_of_neg ha];simp [ha]
theorem Zvj (s cs:List UInt8):Lib.trimS s cs=[]↔∀ b∈s,cs.contains b=true:=by
 unfold Lib.trimS Lib.trimLeftS Lib.trimRightS
 rw [Zkx]
 constructor
 ·intro h b hb
  exact dropWhile_nil s.reverse (fun x hx=>h x (List.mem_reverse.2 hx)) b (List.mem_reverse.2 hb)
 ·intro h b hb
  exact h b (List.mem_reverse.1 ((List.dropWhile_sublist _).subset (List.mem_reverse.1 hb)))
def letters:List UInt8:=[97,98,99,100,101,102,103,104,105,106,107,108,109,110,111,112,113,114,115,116,117,118,119,120,121,122]
def ZgW:List UInt8:=letters++[48,49,50,51,52,53,54,55,56,57]
theorem Zw1 {p:UInt8→Bool} (h:(List.range 256).all (fun n=>p (UInt8.ofNat n))=true) (b:UInt8):p b=true:=by
 rw [List.all_eq_true] at h
 have:=h b.toNat (List.mem_range.2 b.toNat_lt)
 simpa using this
theorem ZhC (b:UInt8):ZgW.contains b=(Zgs b||ZlA b):=by
 have:=Zw1 (p:=fun b=>ZgW.contains b == (Zgs b||ZlA b)) (by decide +kernel) b
 simpa using this
theorem ZqJ (s:List UInt8):Lib.trimS s ZgW=[]↔s.all (fun b=>Zgs b||ZlA b)=true:=by
 rw [Zvj,List.all_eq_true]
 simp only [ZhC]
theorem ZpM (b:UInt8):decide (0≤(Lib.indexByte letters b:Int))=Zgs b:=by
 have:=Zw1 (p:=fun b=>decide (0≤(Lib.indexByte letters b:Int)) == Zgs b) (by decide +kernel) b
 simpa using this
theorem Zgp (s:List UInt8):Zcb s=some (Za6 s):=by
 unfold Zcb
 rw [Zbz,Option.bind_some]
 split
 ·rename_i h
  rw [within_iff] at h
  rw [Zh (by omega)]
  split
  ·rename_i ht
   have ht':=(ZqJ s).1 ht
   cases s with
   | nil=>simp at h
   | cons b r =>
    have e:atI (b::r) (0:Int)=some b:=rfl
    rw [e,Option.bind_some]
    have e1:((b.toNat:Int)).toNat.toUInt8=b:=by simp
    rw [e1]
    have h1:1≤(b::r).length:=by simp
    have h2:(b::r).length≤8:=by omega
    have:=ZpM b
    unfold letters at this
    rw [this]
    simp only [Za6,ht',decide_eq_true h1,decide_eq_true h2,Bool.true_and]
  ·rename_i ht
   have ht':¬s.all (fun b=>Zgs b||ZlA b)=true:=fun e=>ht ((ZqJ s).2 e)
   simp only [Za6,Bool.eq_false_iff.2 ht',Bool.and_false,Bool.false_and]
 ·rename_i h
  rw [within_iff] at h
  have:¬(1≤s.length∧s.length≤8):=by omega
  rw [eq_comm]
  congr 1
  rw [Bool.eq_false_iff]
  intro hh
  simp only [Za6,Bool.and_eq_true,decide_eq_true_eq] at hh
  omega
theorem Zl9 (l:List (List UInt8)) (s:List UInt8) (hl:l.length≤4611686018427387904):∃ r,Yi l s=some r∧(0≤r↔s∈l):=by
 unfold Yi
 refine Zan l.length (fun k v=>v.1=(k:Int)∧s ∉ l.take k) _ ⟨rfl,by simp⟩ ?_ ?_
 ·rintro k ⟨i,⟨⟩⟩ hk ⟨rfl,hS⟩
  have hx:l[k]?=some l[k]:=List.getElem?_eq_getElem hk
  generalize l[k]=x at hx
  simp only [Ym,Zu,hx,Option.bind_some,show (k:Int)<(l.length:Int) from by omega,if_true,V7 (show (-9223372036854775808:Int)≤(k:Int)+1 by omega) (by omega)]
  split
  ·rename_i e;subst e
   exact .inr ⟨_,rfl,fun _=>List.mem_of_getElem? hx,fun _=>by simp⟩
  ·rename_i e
   exact .inl ⟨_,rfl,by simp,by rw [Yt hx];simp [hS,e]⟩
 ·rintro ⟨i,⟨⟩⟩ ⟨rfl,hS⟩
  simp only [Ym,Int.lt_irrefl,if_false]
  refine ⟨_,rfl,fun h=>by omega,fun h=>absurd h (by simpa using hS)⟩
theorem ZjA (l:List (List UInt8)) (s:List UInt8) (hl:l.length≤4611686018427387904):YM l s=some (decide (s∈l)):=by
 obtain ⟨r,h1,h2⟩:=Zl9 l s hl
 unfold YM
 rw [h1,Option.bind_some]
 simp only [h2]
def VK (l:List (List UInt8)) (k:Nat):Prop:=∀ (j:Nat) (s:List UInt8),j<k→l[j]?=some s→Za6 s=true∧s ∉ l.take j
theorem Zbr (l:List (List UInt8)) (hl:l.length≤4611686018427387904):Vm l=some (tr (VK l l.length)):=by
 unfold Vm
 refine Xo l.length (fun k v=>v.1=(k:Int)∧VK l k) _ ⟨rfl,fun j s hj=>by omega⟩ ?_ ?_
 ·rintro k ⟨i,⟨⟩⟩ hk ⟨rfl,hS⟩
  have hx:l[k]?=some l[k]:=List.getElem?_eq_getElem hk
  generalize l[k]=x at hx
  simp only [JB,Zu,hx,Option.bind_some,show (k:Int)<(l.length:Int) from by omega,if_true,V7 (show (-9223372036854775808:Int)≤(k:Int)+1 by omega) (by omega),Zgp]
  split
  ·rename_i hn
   rw [Zh (by omega),Zh (by omega)]
   simp only [Int.toNat_natCast,Int.toNat_zero,List.drop_zero,Nat.sub_zero]
   rw [ZjA _ _ (by simp only [List.length_take];omega),Option.bind_some]
   split
   ·rename_i hm
    right
    rw [Yk]
    intro hh
    exact (hh k x hk hx).2 (by simpa using hm)
   ·rename_i hm
    refine .inl ⟨_,rfl,by simp,fun j s hj hs=>?_⟩
    by_cases e:j<k
    ·exact hS j s e hs
    ·have:j=k:=by omega
     subst this
     rw [hx] at hs;injection hs with hs;subst hs
     exact ⟨hn,by simpa using hm⟩
  ·rename_i hn
   right
   rw [Yk]
   intro hh
   exact hn (hh k x hk hx).1
 ·rintro ⟨i,⟨⟩⟩ ⟨rfl,hS⟩
  simp only [JB,Int.lt_irrefl,if_false]
  rw [YL hS]
end Go.Proofs.YtfndhpjedmopdaaGreatDoor
/-
  Plain laws: numbers within bounds.
-/
namespace Go.Proofs.YtfndhpjedmopdaaGreatDoor
set_option linter.unusedVariables false
set_option linter.unusedSimpArgs false
open Go Go.Sx
def allIn (l:List Int) (lo hi:Int):Bool:=l.all (fun n=>within n lo hi)
theorem ZcL (l:List Int) (lo hi:Int) (hl:l.length≤4611686018427387904):Xv l lo hi=some (allIn l lo hi):=by
 have h1:∃ r,Yo l (lo,hi,())=some r∧(0≤r↔allIn l lo hi=false):=by
  unfold Yo
  refine Zan l.length (fun k v=>v.1=(k:Int)∧allIn (l.take k) lo hi=true) _ ⟨rfl,rfl⟩ ?_ ?_
  ·rintro k ⟨i,⟨⟩⟩ hk ⟨rfl,hS⟩
   have hx:l[k]?=some l[k]:=List.getElem?_eq_getElem hk
   generalize l[k]=x at hx
   simp only [YA,ZaT,Zbz,Zu,hx,Option.bind_some,show (k:Int)<(l.length:Int) from by omega,if_true,V7 (show (-9223372036854775808:Int)≤(k:Int)+1 by omega) (by omega)]
   cases hw:within x lo hi
   ·refine .inr ⟨_,rfl,fun _=>?_,fun _=>by simp⟩
    rw [allIn,List.all_eq_false]
    exact ⟨x,List.mem_of_getElem? hx,by simp [hw]⟩
   ·refine .inl ⟨_,rfl,by simp,?_⟩
    rw [Yt hx,allIn,List.all_append]
    simp only [allIn] at hS
    simp [hS,hw]
  ·rintro ⟨i,⟨⟩⟩ ⟨rfl,hS⟩
   rw [List.take_length] at hS
   simp only [YA,Int.lt_irrefl,if_false]
   exact ⟨_,rfl,fun h=>by omega,fun h=>by rw [hS] at h;cases h⟩
 obtain ⟨r,h1,h2⟩:=h1
 unfold Xv Z4
 rw [h1]
 simp only [Option.bind_some,h2]
 cases allIn l lo hi<;>simp
end Go.Proofs.YtfndhpjedmopdaaGreatDoor
/-
  Plain laws: the instances of functions of package slices. Printed by program (libgen.py).
-/
namespace Go.Proofs.YtfndhpjedmopdaaGreatDoor
open Go Go.Sx
set_option linter.unusedVariables false
set_option linter.unusedSimpArgs false
theorem Ze8 {l:List (List UInt8)} {v:List UInt8} (hl:Len l):Yi l v=some (ZcQ (fun x=>decide (v=x)) l):=by
 unfold Yi
 refine ZbE (out:=fun i=>i) hl (fun k x hx=>?_) ?_
 ·have hk:=(List.getElem?_eq_some_iff.1 hx).1
  simp only [Ym,Zu,hx,Option.bind_some,show (k:Int)<(l.length:Int) from by omega,if_true,decide_eq_true_eq]
  split<;>rfl
 ·simp only [Ym,Int.lt_irrefl,if_false]
theorem Qz {l:List Zx} {f:Bool×Unit} (hl:Len l) (p:Zx→Bool) (hp:∀ x∈l,Qd x f.fst=some (p x)):Z8 l f=some (ZcQ p l):=by
 unfold Z8
 refine ZbE (out:=fun i=>i) hl (p:=p) (fun k x hx=>?_) ?_
 ·have hk:=(List.getElem?_eq_some_iff.1 hx).1
  simp only [Yf,Zu,hx,Option.bind_some,show (k:Int)<(l.length:Int) from by omega,if_true,hp x (List.mem_of_getElem? hx)]
  split<;>rfl
 ·simp only [Yf,Int.lt_irrefl,if_false]
theorem Qh {l:List Zx} {f:Bool×Unit} (hl:Len l) (p:Zx→Bool) (hp:∀ x∈l,Qd x f.fst=some (p x)):ZA l f=some (l.any p):=by
 unfold ZA
 rw [Qz hl p hp,Option.bind_some]
 congr 1
 rw [Bool.eq_iff_iff,decide_eq_true_eq,ZcE]
theorem Q0 {l:List Yz} {f:Unit} (hl:Len l) (p:Yz→Bool) (hp:∀ x∈l,Zar x=some (p x)):Yb l f=some (ZcQ p l):=by
 unfold Yb
 refine ZbE (out:=fun i=>i) hl (p:=p) (fun k x hx=>?_) ?_
 ·have hk:=(List.getElem?_eq_some_iff.1 hx).1
  simp only [Yl,Zu,hx,Option.bind_some,show (k:Int)<(l.length:Int) from by omega,if_true,hp x (List.mem_of_getElem? hx)]
  split<;>rfl
 ·simp only [Yl,Int.lt_irrefl,if_false]
theorem QX {l:List ZJ} {f:ZJ×Unit} (hl:Len l) (p:ZJ→Bool) (hp:∀ x∈l,Xi x f.fst=some (p x)):ZG l f=some (ZcQ p l):=by
 unfold ZG
 refine ZbE (out:=fun i=>i) hl (p:=p) (fun k x hx=>?_) ?_
 ·have hk:=(List.getElem?_eq_some_iff.1 hx).1
  simp only [ZL,Zu,hx,Option.bind_some,show (k:Int)<(l.length:Int) from by omega,if_true,hp x (List.mem_of_getElem? hx)]
  split<;>rfl
 ·simp only [ZL,Int.lt_irrefl,if_false]
theorem Qp {l:List ZJ} {f:ZJ×Unit} (hl:Len l) (p:ZJ→Bool) (hp:∀ x∈l,Xi x f.fst=some (p x)):ZE l f=some (l.any p):=by
 unfold ZE
 rw [QX hl p hp,Option.bind_some]
 congr 1
 rw [Bool.eq_iff_iff,decide_eq_true_eq,ZcE]
theorem Vk {l:List ZJ} {f:Int×Unit} (hl:Len l) (p:ZJ→Bool) (hp:∀ x∈l,Zaa x f.fst=some (p x)):ZP l f=some (ZcQ p l):=by
 unfold ZP
 refine ZbE (out:=fun i=>i) hl (p:=p) (fun k x hx=>?_) ?_
 ·have hk:=(List.getElem?_eq_some_iff.1 hx).1
  simp only [ZT,Zu,hx,Option.bind_some,show (k:Int)<(l.length:Int) from by omega,if_true,hp x (List.mem_of_getElem? hx)]
  split<;>rfl
 ·simp only [ZT,Int.lt_irrefl,if_false]
theorem QY {l:List ZJ} {f:Int×Unit} (hl:Len l) (p:ZJ→Bool) (hp:∀ x∈l,Zaa x f.fst=some (p x)):ZH l f=some (l.any p):=by
 unfold ZH
 rw [Vk hl p hp,Option.bind_some]
 congr 1
 rw [Bool.eq_iff_iff,decide_eq_true_eq,ZcE]
theorem QZ {l:List Int} {f:Zb×Unit} (hl:Len l) (p:Int→Bool) (hp:∀ x∈l,YT x f.fst=some (p x)):ZI l f=some (ZcQ p l):=by
 unfold ZI
 refine ZbE (out:=fun i=>i) hl (p:=p) (fun k x hx=>?_) ?_
 ·have hk:=(List.getElem?_eq_some_iff.1 hx).1
  simp only [ZN,Zu,hx,Option.bind_some,show (k:Int)<(l.length:Int) from by omega,if_true,hp x (List.mem_of_getElem? hx)]
  split<;>rfl
 ·simp only [ZN,Int.lt_irrefl,if_false]
theorem Qt {l:List Int} {f:Zb×Unit} (hl:Len l) (p:Int→Bool) (hp:∀ x∈l,YT x f.fst=some (p x)):ZF l f=some (l.any p):=by
 unfold ZF
 rw [QZ hl p hp,Option.bind_some]
 congr 1
 rw [Bool.eq_iff_iff,decide_eq_true_eq,ZcE]
theorem Zao {l:List Int} {f:Unit} (hl:Len l) (p:Int→Bool) (hp:∀ x∈l,J9 x=some (p x)):Z5 l f=some (ZcQ p l):=by
 unfold Z5
 refine ZbE (out:=fun i=>i) hl (p:=p) (fun k x hx=>?_) ?_
 ·have hk:=(List.getElem?_eq_some_iff.1 hx).1
  simp only [Z7,Zu,hx,Option.bind_some,show (k:Int)<(l.length:Int) from by omega,if_true,hp x (List.mem_of_getElem? hx)]
  split<;>rfl
 ·simp only [Z7,Int.lt_irrefl,if_false]
theorem Jy {l:List Int} {f:Unit} (hl:Len l) (p:Int→Bool) (hp:∀ x∈l,J9 x=some (p x)):ZY l f=some (l.any p):=by
 unfold ZY
 rw [Zao hl p hp,Option.bind_some]
 congr 1
 rw [Bool.eq_iff_iff,decide_eq_true_eq,ZcE]
theorem XA {l:List Zd} {f:List UInt8×Unit} (hl:Len l) (p:Zd→Bool) (hp:∀ x∈l,Vo x f.fst=some (p x)):ZU l f=some (ZcQ p l):=by
 unfold ZU
 refine ZbE (out:=fun i=>i) hl (p:=p) (fun k x hx=>?_) ?_
 ·have hk:=(List.getElem?_eq_some_iff.1 hx).1
  simp only [Z6,Zu,hx,Option.bind_some,show (k:Int)<(l.length:Int) from by omega,if_true,hp x (List.mem_of_getElem? hx)]
  split<;>rfl
 ·simp only [Z6,Int.lt_irrefl,if_false]
end Go.Proofs.YtfndhpjedmopdaaGreatDoor
/-
  Plain laws: arguments counted, copied, compared. Printed by program (szgen.py).
-/
namespace Go.Proofs.YtfndhpjedmopdaaGreatDoor
open Go Go.Sx
set_option linter.unusedVariables false
set_option linter.unusedSimpArgs false
theorem Zkj (a:Yz) (left:Int) (h0:0≤left) (h1:left≤1048576) (hb:bnd (ZdO) a):Szd (ZbG a left) left (sm (ZdO) a):=by
 unfold ZbG
 refine Szd.len h0 h1 (by omega) hb.1 (fun hw a0 b0 s0=>?_)
 rw [hw]
 exact Szd.ret ⟨s0,XP _ (by rfl) _,XP _ (by rfl) _,XP _ (by rfl) _,trivial⟩
theorem Zok (a:List (Yz)) (left:Int) (h0:0≤left) (h1:left≤1048576) (hb:bnd (.sl (ZdO)) a):Szd (Zcg a left) left (sm (.sl (ZdO)) a):=by
 unfold Zcg
 refine Szd.len h0 h1 (by omega) hb.1 (fun hw m0 m1 hn=>?_)
 rw [hw]
 exact (Szd.loop (f:=fun x m=>ZbG x m) (P:=fun x=>sm (ZdO) x) (fun x hx m m0 m1=>Zkj x m m0 m1 (hb.2 x hx)) (fun k m=>rfl) m0 m1 hn).mono (fun h=>⟨hn,h⟩)
theorem X4 (a:List (Int)) (left:Int) (h0:0≤left) (h1:left≤1048576) (hb:bnd (.sl (.int .i64)) a):Szd (YZ a left) left (sm (.sl (.int .i64)) a):=by
 unfold YZ
 refine Szd.len h0 h1 (by omega) hb.1 (fun hw m0 m1 hn=>?_)
 rw [hw]
 exact Szd.ret ⟨hn,fun x _=>XP (.int .i64) (by rfl) x⟩
theorem Ziy (a:Zx) (left:Int) (h0:0≤left) (h1:left≤1048576) (hb:bnd (YP) a):Szd (Jb a left) left (sm (YP) a):=by
 unfold Jb
 refine Szd.then (X4 _ _ h0 h1 hb.1) h0 h1 (fun m0 a0 b0 s0=>?_)
 refine Szd.then (X4 _ _ a0 b0 hb.2.1) a0 b0 (fun m1 a1 b1 s1=>?_)
 refine Szd.last (X4 _ _ a1 b1 hb.2.2.1) a1 (fun s2=>?_)
 exact ⟨s0,s1,s2,trivial⟩
theorem Zhq (a:List (Zx)) (left:Int) (h0:0≤left) (h1:left≤1048576) (hb:bnd (.sl (YP)) a):Szd (V8 a left) left (sm (.sl (YP)) a):=by
 unfold V8
 refine Szd.len h0 h1 (by omega) hb.1 (fun hw m0 m1 hn=>?_)
 rw [hw]
 exact (Szd.loop (f:=fun x m=>Jb x m) (P:=fun x=>sm (YP) x) (fun x hx m m0 m1=>Ziy x m m0 m1 (hb.2 x hx)) (fun k m=>rfl) m0 m1 hn).mono (fun h=>⟨hn,h⟩)
theorem ZkI (a:ZJ) (left:Int) (h0:0≤left) (h1:left≤1048576) (hb:bnd (Zfc) a):Szd (Zbw a left) left (sm (Zfc) a):=by
 unfold Zbw
 refine Szd.then (Zhq _ _ h0 h1 hb.2.2.2.2.1) h0 h1 (fun m0 a0 b0 s0=>?_)
 refine Szd.last (Zhq _ _ a0 b0 hb.2.2.2.2.2.1) a0 (fun s1=>?_)
 exact ⟨XP _ (by rfl) _,XP _ (by rfl) _,XP _ (by rfl) _,XP _ (by rfl) _,s0,s1,trivial⟩
theorem Zoj (a:List (ZJ)) (left:Int) (h0:0≤left) (h1:left≤1048576) (hb:bnd (.sl (Zfc)) a):Szd (ZeV a left) left (sm (.sl (Zfc)) a):=by
 unfold ZeV
 refine Szd.len h0 h1 (by omega) hb.1 (fun hw m0 m1 hn=>?_)
 rw [hw]
 exact (Szd.loop (f:=fun x m=>Zbw x m) (P:=fun x=>sm (Zfc) x) (fun x hx m m0 m1=>ZkI x m m0 m1 (hb.2 x hx)) (fun k m=>rfl) m0 m1 hn).mono (fun h=>⟨hn,h⟩)
theorem Zjg (a:Zi) (left:Int) (h0:0≤left) (h1:left≤1048576) (hb:bnd (X3) a):Szd (Zb3 a left) left (sm (X3) a):=by
 unfold Zb3
 refine Szd.len h0 h1 (by omega) hb.1 (fun hw a0 b0 s0=>?_)
 rw [hw]
 refine Szd.then (Zok _ _ a0 b0 hb.2.2.1) a0 b0 (fun m1 a1 b1 s1=>?_)
 refine Szd.then (Zoj _ _ a1 b1 hb.2.2.2.1) a1 b1 (fun m2 a2 b2 s2=>?_)
 refine Szd.last (X4 _ _ a2 b2 hb.2.2.2.2.1) a2 (fun s3=>?_)
 exact ⟨s0,XP _ (by rfl) _,s1,s2,s3,XP _ (by rfl) _,XP _ (by rfl) _,trivial⟩
theorem Znh (a:List (Zi)) (left:Int) (h0:0≤left) (h1:left≤1048576) (hb:bnd (.sl (X3)) a):Szd (Za5 a left) left (sm (.sl (X3)) a):=by
 unfold Za5
 refine Szd.len h0 h1 (by omega) hb.1 (fun hw m0 m1 hn=>?_)
 rw [hw]
 exact (Szd.loop (f:=fun x m=>Zb3 x m) (P:=fun x=>sm (X3) x) (fun x hx m m0 m1=>Zjg x m m0 m1 (hb.2 x hx)) (fun k m=>rfl) m0 m1 hn).mono (fun h=>⟨hn,h⟩)
theorem Zlj (a:Zk) (left:Int) (h0:0≤left) (h1:left≤1048576) (hb:bnd (YH) a):Szd (Je a left) left (sm (YH) a):=by
 unfold Je
 refine Szd.last (Znh _ _ h0 h1 hb.1) h0 (fun s0=>?_)
 exact ⟨s0,trivial⟩
theorem Zf7 (a:Zd) (left:Int) (h0:0≤left) (h1:left≤1048576) (hb:bnd (Z0) a):Szd (XW a left) left (sm (Z0) a):=by
 unfold XW
 refine Szd.len h0 h1 (by omega) hb.1 (fun hw a0 b0 s0=>?_)
 rw [hw]
 refine Szd.last (X4 _ _ a0 b0 hb.2.2.1) a0 (fun s1=>?_)
 exact ⟨s0,XP _ (by rfl) _,s1,trivial⟩
theorem ZjJ (a:List (Zd)) (left:Int) (h0:0≤left) (h1:left≤1048576) (hb:bnd (.sl (Z0)) a):Szd (Zae a left) left (sm (.sl (Z0)) a):=by
 unfold Zae
 refine Szd.len h0 h1 (by omega) hb.1 (fun hw m0 m1 hn=>?_)
 rw [hw]
 exact (Szd.loop (f:=fun x m=>XW x m) (P:=fun x=>sm (Z0) x) (fun x hx m m0 m1=>Zf7 x m m0 m1 (hb.2 x hx)) (fun k m=>rfl) m0 m1 hn).mono (fun h=>⟨hn,h⟩)
theorem Zlt (a:List (List UInt8)) (left:Int) (h0:0≤left) (h1:left≤1048576) (hb:bnd (.sl (.str)) a):Szd (Jd a left) left (sm (.sl (.str)) a):=by
 unfold Jd
 refine Szd.len h0 h1 (by omega) hb.1 (fun hw m0 m1 hn=>?_)
 rw [hw]
 exact (Szd.loop (f:=fun x m=>if IntKind.i64.wrap (m-(x.length:Int))<0 then some (-1) else some (IntKind.i64.wrap (m-(x.length:Int)))) (P:=fun x=>sm .str x) (fun x hx m m0 m1=>Szd.len m0 m1 (by omega) (hb.2 x hx) (fun hw _ _ hn=>by rw [hw];exact Szd.ret hn)) (fun k m=>by
  show XL a m (k:Int)=_
  unfold XL
  congr 1;congr 1;funext x;split<;>simp_all) m0 m1 hn).mono (fun h=>⟨hn,h⟩)
theorem Zju (a:ZV) (left:Int) (h0:0≤left) (h1:left≤1048576) (hb:bnd (J5) a):Szd (ZaH a left) left (sm (J5) a):=by
 unfold ZaH
 refine Szd.len h0 h1 (by omega) hb.1 (fun hw a0 b0 s0=>?_)
 rw [hw]
 exact Szd.ret ⟨s0,XP _ (by rfl) _,XP _ (by rfl) _,trivial⟩
theorem Zm4 (a:List (ZV)) (left:Int) (h0:0≤left) (h1:left≤1048576) (hb:bnd (.sl (J5)) a):Szd (ZdG a left) left (sm (.sl (J5)) a):=by
 unfold ZdG
 refine Szd.len h0 h1 (by omega) hb.1 (fun hw m0 m1 hn=>?_)
 rw [hw]
 exact (Szd.loop (f:=fun x m=>ZaH x m) (P:=fun x=>sm (J5) x) (fun x hx m m0 m1=>Zju x m m0 m1 (hb.2 x hx)) (fun k m=>rfl) m0 m1 hn).mono (fun h=>⟨hn,h⟩)
theorem ZmI (a:Zb) (left:Int) (h0:0≤left) (h1:left≤1048576) (hb:bnd (Yn) a):Szd (Zam a left) left (sm (Yn) a):=by
 unfold Zam
 refine Szd.then (ZjJ _ _ h0 h1 hb.1) h0 h1 (fun m0 a0 b0 s0=>?_)
 refine Szd.then (Zlt _ _ a0 b0 hb.2.1) a0 b0 (fun m1 a1 b1 s1=>?_)
 refine Szd.last (Zm4 _ _ a1 b1 hb.2.2.1) a1 (fun s2=>?_)
 exact ⟨s0,s1,s2,trivial⟩
theorem Zgv (a:Zo) (left:Int) (h0:0≤left) (h1:left≤1048576) (hb:bnd (X6) a):Szd (JI a left) left (sm (X6) a):=by
 unfold JI
 refine Szd.then (X4 _ _ h0 h1 hb.1) h0 h1 (fun m0 a0 b0 s0=>?_)
 refine Szd.then (X4 _ _ a0 b0 hb.2.1) a0 b0 (fun m1 a1 b1 s1=>?_)
 refine Szd.then (X4 _ _ a1 b1 hb.2.2.1) a1 b1 (fun m2 a2 b2 s2=>?_)
 refine Szd.last (X4 _ _ a2 b2 hb.2.2.2.1) a2 (fun s3=>?_)
 exact ⟨s0,s1,s2,s3,trivial⟩
theorem ZnG (a:List (Zo)) (left:Int) (h0:0≤left) (h1:left≤1048576) (hb:bnd (.sl (X6)) a):Szd (Za3 a left) left (sm (.sl (X6)) a):=by
 unfold Za3
 refine Szd.len h0 h1 (by omega) hb.1 (fun hw m0 m1 hn=>?_)
 rw [hw]
 exact (Szd.loop (f:=fun x m=>JI x m) (P:=fun x=>sm (X6) x) (fun x hx m m0 m1=>Zgv x m m0 m1 (hb.2 x hx)) (fun k m=>rfl) m0 m1 hn).mono (fun h=>⟨hn,h⟩)
theorem Znm (a:Za) (left:Int) (h0:0≤left) (h1:left≤1048576) (hb:bnd (YG) a):Szd (Za8 a left) left (sm (YG) a):=by
 unfold Za8
 refine Szd.then (Zlj _ _ h0 h1 hb.1) h0 h1 (fun m0 a0 b0 s0=>?_)
 refine Szd.then (ZmI _ _ a0 b0 hb.2.1) a0 b0 (fun m1 a1 b1 s1=>?_)
 refine Szd.last (ZnG _ _ a1 b1 hb.2.2.1) a1 (fun s2=>?_)
 exact ⟨s0,s1,s2,trivial⟩
theorem Zos (a:Zg) (left:Int) (h0:0≤left) (h1:left≤1048576) (hb:bnd (QW) a):Szd (Zb5 a left) left (sm (QW) a):=by
 unfold Zb5
 refine Szd.len h0 h1 (by omega) hb.2.2.2.2.2.1 (fun hw a0 b0 s0=>?_)
 rw [hw]
 refine Szd.last (Zgv _ _ a0 b0 hb.2.2.2.2.2.2.1) a0 (fun s1=>?_)
 exact ⟨XP _ (by rfl) _,XP _ (by rfl) _,XP _ (by rfl) _,XP _ (by rfl) _,XP _ (by rfl) _,s0,s1,trivial⟩
theorem ZnJ (a:List (Bool)) (left:Int) (h0:0≤left) (h1:left≤1048576) (hb:bnd (.sl (.bool)) a):Szd (Za9 a left) left (sm (.sl (.bool)) a):=by
 unfold Za9
 refine Szd.len h0 h1 (by omega) hb.1 (fun hw m0 m1 hn=>?_)
 rw [hw]
 exact Szd.ret ⟨hn,fun x _=>XP (.bool) (by rfl) x⟩
theorem Zim (a:List (Yh)) (left:Int) (h0:0≤left) (h1:left≤1048576) (hb:bnd (.sl (Xj)) a):Szd (Zaj a left) left (sm (.sl (Xj)) a):=by
 unfold Zaj
 refine Szd.len h0 h1 (by omega) hb.1 (fun hw m0 m1 hn=>?_)
 rw [hw]
 exact Szd.ret ⟨hn,fun x _=>XP (Xj) (by rfl) x⟩
theorem Zmb (a:Zn) (left:Int) (h0:0≤left) (h1:left≤1048576) (hb:bnd (YB) a):Szd (Zax a left) left (sm (YB) a):=by
 unfold Zax
 refine Szd.then (ZnJ _ _ h0 h1 hb.1) h0 h1 (fun m0 a0 b0 s0=>?_)
 refine Szd.then (Zim _ _ a0 b0 hb.2.1) a0 b0 (fun m1 a1 b1 s1=>?_)
 refine Szd.last (Zim _ _ a1 b1 hb.2.2.1) a1 (fun s2=>?_)
 exact ⟨s0,s1,s2,trivial⟩
theorem Zqm (a:Yz) (hs:sm (ZdO) a):ZeS a=some a:=by
 unfold ZeS
 all_goals rfl
theorem Zox (a:List (Yz)) (hs:sm (.sl (ZdO)) a):ZeM a=some a:=by
 unfold ZeM
 have h:=hs.1
 rw [Zh (by omega),Zh (by omega),Zh (by omega),Zh (by omega)]
 exact Zcf (f:=ZeS) (fun x hx=>Zqm x (hs.2 x hx)) (fun k out=>rfl) h
theorem X8 (a:List (Int)) (hs:sm (.sl (.int .i64)) a):Xn a=some a:=by
 unfold Xn
 have h:=hs.1
 rw [Zh (by omega),Zh (by omega),Zh (by omega),Zh (by omega)]
 exact Zcf (f:=some) (fun x _=>rfl) (fun k out=>rfl) h
theorem ZnN (a:Zx) (hs:sm (YP) a):Zb1 a=some a:=by
 unfold Zb1
 rw [X8 _ hs.1,Option.bind_some,X8 _ hs.2.1,Option.bind_some,X8 _ hs.2.2.1,Option.bind_some]
 all_goals rfl
theorem Zhu (a:List (Zx)) (hs:sm (.sl (YP)) a):Zbb a=some a:=by
 unfold Zbb
 have h:=hs.1
 rw [Zh (by omega),Zh (by omega),Zh (by omega),Zh (by omega)]
 exact Zcf (f:=Zb1) (fun x hx=>ZnN x (hs.2 x hx)) (fun k out=>rfl) h
theorem ZpP (a:ZJ) (hs:sm (Zfc) a):ZeK a=some a:=by
 unfold ZeK
 rw [Zhu _ hs.2.2.2.2.1,Option.bind_some,Zhu _ hs.2.2.2.2.2.1,Option.bind_some]
 all_goals rfl
theorem ZoH (a:List (ZJ)) (hs:sm (.sl (Zfc)) a):ZeU a=some a:=by
 unfold ZeU
 have h:=hs.1
 rw [Zh (by omega),Zh (by omega),Zh (by omega),Zh (by omega)]
 exact Zcf (f:=ZeK) (fun x hx=>ZpP x (hs.2 x hx)) (fun k out=>rfl) h
theorem Zob (a:Zi) (hs:sm (X3) a):Zdt a=some a:=by
 unfold Zdt
 rw [Zox _ hs.2.2.1,Option.bind_some,ZoH _ hs.2.2.2.1,Option.bind_some,X8 _ hs.2.2.2.2.1,Option.bind_some]
 all_goals rfl
theorem Zm9 (a:List (Zi)) (hs:sm (.sl (X3)) a):ZdI a=some a:=by
 unfold ZdI
 have h:=hs.1
 rw [Zh (by omega),Zh (by omega),Zh (by omega),Zh (by omega)]
 exact Zcf (f:=Zdt) (fun x hx=>Zob x (hs.2 x hx)) (fun k out=>rfl) h
theorem ZkX (a:Zk) (hs:sm (YH) a):Zbv a=some a:=by
 unfold Zbv
 rw [Zm9 _ hs.1,Option.bind_some]
 all_goals rfl
theorem Zj1 (a:Zd) (hs:sm (Z0) a):JE a=some a:=by
 unfold JE
 rw [X8 _ hs.2.2.1,Option.bind_some]
 all_goals rfl
theorem ZjX (a:List (Zd)) (hs:sm (.sl (Z0)) a):Zab a=some a:=by
 unfold Zab
 have h:=hs.1
 rw [Zh (by omega),Zh (by omega),Zh (by omega),Zh (by omega)]
 exact Zcf (f:=JE) (fun x hx=>Zj1 x (hs.2 x hx)) (fun k out=>rfl) h
theorem Zlb (a:List (List UInt8)) (hs:sm (.sl (.str)) a):ZbJ a=some a:=by
 unfold ZbJ
 have h:=hs.1
 rw [Zh (by omega),Zh (by omega),Zh (by omega),Zh (by omega)]
 exact Zcf (f:=some) (fun x _=>rfl) (fun k out=>rfl) h
theorem Zoi (a:ZV) (hs:sm (J5) a):Zdp a=some a:=by
 unfold Zdp
 all_goals rfl
theorem Zno (a:List (ZV)) (hs:sm (.sl (J5)) a):ZdH a=some a:=by
 unfold ZdH
 have h:=hs.1
 rw [Zh (by omega),Zh (by omega),Zh (by omega),Zh (by omega)]
 exact Zcf (f:=Zdp) (fun x hx=>Zoi x (hs.2 x hx)) (fun k out=>rfl) h
theorem Zmr (a:Zb) (hs:sm (Yn) a):ZcH a=some a:=by
 unfold ZcH
 rw [ZjX _ hs.1,Option.bind_some,Zlb _ hs.2.1,Option.bind_some,Zno _ hs.2.2.1,Option.bind_some]
 all_goals rfl
theorem Zjq (a:Zo) (hs:sm (X6) a):ZbY a=some a:=by
 unfold ZbY
 rw [X8 _ hs.1,Option.bind_some,X8 _ hs.2.1,Option.bind_some,X8 _ hs.2.2.1,Option.bind_some,X8 _ hs.2.2.2.1,Option.bind_some]
 all_goals rfl
theorem ZmY (a:List (Zo)) (hs:sm (.sl (X6)) a):ZdE a=some a:=by
 unfold ZdE
 have h:=hs.1
 rw [Zh (by omega),Zh (by omega),Zh (by omega),Zh (by omega)]
 exact Zcf (f:=ZbY) (fun x hx=>Zjq x (hs.2 x hx)) (fun k out=>rfl) h
theorem ZmW (a:Za) (hs:sm (YG) a):ZdK a=some a:=by
 unfold ZdK
 rw [ZkX _ hs.1,Option.bind_some,Zmr _ hs.2.1,Option.bind_some,ZmY _ hs.2.2.1,Option.bind_some]
 all_goals rfl
theorem Zop (a:Zg) (hs:sm (QW) a):Zer a=some a:=by
 unfold Zer
 rw [Zjq _ hs.2.2.2.2.2.2.1,Option.bind_some]
 all_goals rfl
theorem Zn1 (a:List (Bool)) (hs:sm (.sl (.bool)) a):ZdM a=some a:=by
 unfold ZdM
 have h:=hs.1
 rw [Zh (by omega),Zh (by omega),Zh (by omega),Zh (by omega)]
 exact Zcf (f:=some) (fun x _=>rfl) (fun k out=>rfl) h
theorem Zoo (a:Yh) (hs:sm (Xj) a):Zdn a=some a:=by
 unfold Zdn
 all_goals rfl
theorem Zin (a:List (Yh)) (hs:sm (.sl (Xj)) a):Zb9 a=some a:=by
 unfold Zb9
 have h:=hs.1
 rw [Zh (by omega),Zh (by omega),Zh (by omega),Zh (by omega)]
 exact Zcf (f:=Zdn) (fun x hx=>Zoo x (hs.2 x hx)) (fun k out=>rfl) h
theorem Zmy (a:Zn) (hs:sm (YB) a):Zci a=some a:=by
 unfold Zci
 rw [Zn1 _ hs.1,Option.bind_some,Zin _ hs.2.1,Option.bind_some,Zin _ hs.2.2.1,Option.bind_some]
 all_goals rfl
theorem ZmV (a:List (Bool)) (hs:sm (.sl (.bool)) a):Zga a a=some true:=by
 unfold Zga
 rw [if_pos rfl]
 exact ZvZ (fun k=>rfl) hs.1
theorem Zoy (a:Yh) (hs:sm (Xj) a):Zdj a a=some true:=by
 unfold Zdj
 simp
theorem Zh2 (a:List (Yh)) (hs:sm (.sl (Xj)) a):Zff a a=some true:=by
 unfold Zff
 rw [if_pos rfl]
 exact ZhZ (f:=Zdj) (fun x hx=>Zoy x (hs.2 x hx)) (fun k=>rfl) hs.1
theorem Zhp (a:Zn) (hs:sm (YB) a):Zbf a a=some true:=by
 unfold Zbf
 simp [ZmV _ hs.1,Zh2 _ hs.2.1,Zh2 _ hs.2.2.1]
theorem ZpI (a:Yz) (hs:sm (ZdO) a):ZeG a a=some true:=by
 unfold ZeG
 simp
theorem ZoG (a:List (Yz)) (hs:sm (.sl (ZdO)) a):Zha a a=some true:=by
 unfold Zha
 rw [if_pos rfl]
 exact ZhZ (f:=ZeG) (fun x hx=>ZpI x (hs.2 x hx)) (fun k=>rfl) hs.1
theorem X5 (a:List (Int)) (hs:sm (.sl (.int .i64)) a):X7 a a=some true:=by
 unfold X7
 rw [if_pos rfl]
 exact ZsD (fun k=>rfl) hs.1
theorem Znb (a:Zx) (hs:sm (YP) a):Zca a a=some true:=by
 unfold Zca
 simp [X5 _ hs.1,X5 _ hs.2.1,X5 _ hs.2.2.1]
theorem Zhm (a:List (Zx)) (hs:sm (.sl (YP)) a):Zba a a=some true:=by
 unfold Zba
 rw [if_pos rfl]
 exact ZhZ (f:=Zca) (fun x hx=>Znb x (hs.2 x hx)) (fun k=>rfl) hs.1
theorem ZpE (a:ZJ) (hs:sm (Zfc) a):ZgP a a=some true:=by
 unfold ZgP
 simp [Zhm _ hs.2.2.2.2.1,Zhm _ hs.2.2.2.2.2.1]
theorem Zof (a:List (ZJ)) (hs:sm (.sl (Zfc)) a):Zex a a=some true:=by
 unfold Zex
 rw [if_pos rfl]
 exact ZhZ (f:=ZgP) (fun x hx=>ZpE x (hs.2 x hx)) (fun k=>rfl) hs.1
theorem ZoD (a:Zi) (hs:sm (X3) a):Zdg a a=some true:=by
 unfold Zdg
 simp [ZoG _ hs.2.2.1,Zof _ hs.2.2.2.1,X5 _ hs.2.2.2.2.1]
theorem ZnC (a:List (Zi)) (hs:sm (.sl (X3)) a):ZdD a a=some true:=by
 unfold ZdD
 rw [if_pos rfl]
 exact ZhZ (f:=Zdg) (fun x hx=>ZoD x (hs.2 x hx)) (fun k=>rfl) hs.1
theorem Zlw (a:Zk) (hs:sm (YH) a):ZbK a a=some true:=by
 unfold ZbK
 simp [ZnC _ hs.1]
theorem Zke (a:Zd) (hs:sm (Z0) a):Jz a a=some true:=by
 unfold Jz
 simp [X5 _ hs.2.2.1]
theorem ZjN (a:List (Zd)) (hs:sm (.sl (Z0)) a):Zdb a a=some true:=by
 unfold Zdb
 rw [if_pos rfl]
 exact ZhZ (f:=Jz) (fun x hx=>Zke x (hs.2 x hx)) (fun k=>rfl) hs.1
theorem ZlB (a:List (List UInt8)) (hs:sm (.sl (.str)) a):Ze1 a a=some true:=by
 unfold Ze1
 rw [if_pos rfl]
 exact ZsD (fun k=>rfl) hs.1
theorem Zod (a:ZV) (hs:sm (J5) a):Zdl a a=some true:=by
 unfold Zdl
 simp
theorem Zn2 (a:List (ZV)) (hs:sm (.sl (J5)) a):Zdz a a=some true:=by
 unfold Zdz
 rw [if_pos rfl]
 exact ZhZ (f:=Zdl) (fun x hx=>Zod x (hs.2 x hx)) (fun k=>rfl) hs.1
theorem ZmA (a:Zb) (hs:sm (Yn) a):ZcC a a=some true:=by
 unfold ZcC
 simp [ZjN _ hs.1,ZlB _ hs.2.1,Zn2 _ hs.2.2.1]
theorem Zjf (a:Zo) (hs:sm (X6) a):Zcd a a=some true:=by
 unfold Zcd
 simp [X5 _ hs.1,X5 _ hs.2.1,X5 _ hs.2.2.1,X5 _ hs.2.2.2.1]
theorem ZnW (a:List (Zo)) (hs:sm (.sl (X6)) a):ZdB a a=some true:=by
 unfold ZdB
 rw [if_pos rfl]
 exact ZhZ (f:=Zcd) (fun x hx=>Zjf x (hs.2 x hx)) (fun k=>rfl) hs.1
theorem Znv (a:Za) (hs:sm (YG) a):ZdJ a a=some true:=by
 unfold ZdJ
 simp [Zlw _ hs.1,ZmA _ hs.2.1,ZnW _ hs.2.2.1]
theorem Zoh (a:Zg) (hs:sm (QW) a):Zhd a a=some true:=by
 unfold Zhd
 simp [Zjf _ hs.2.2.2.2.2.2.1]
end Go.Proofs.YtfndhpjedmopdaaGreatDoor
/-
  Plain laws: all lengths together; marks. Printed by program (totgen.py).
-/
namespace Go.Proofs.YtfndhpjedmopdaaGreatDoor
open Go Go.Sx
set_option linter.unusedVariables false
set_option linter.unusedSimpArgs false
theorem Zv5 {α:Type} {L:List α} {j:Nat} {z:α} {A A' B B':Int} (hA:A=A') (hB:B=B'):∃ y,(some (.inl (A,B,List.set L j z,())):Option ((Int×Int×List α×Unit) ⊕ (Int×List α)))=some (.inl (A',B',List.set L j y,())):=⟨z,by rw [hA,hB]⟩
theorem ZfM (k:Int) (h0:0≤k) (h1:k≤4611686018427387904):∃ s,Qv k=some s:=by
 unfold Qv
 split
 ·exact ⟨_,rfl⟩
 ·obtain ⟨r,h,_⟩:=Zo7 (step:=fun v=>JO v.1 v.2.1) (fun v:Int×List UInt8×Unit=>0≤v.1∧v.1+(v.2.1.length:Int)≤4611686018427387904) (fun v=>v.1.toNat) (fun _=>True) (v:=(k,([]:List UInt8),())) ⟨h0,by simpa using h1⟩
   (by
    rintro ⟨m,s,⟨⟩⟩ ⟨a,b⟩
    simp only at a b
    simp only [JO]
    by_cases hm:0<m
    ·have e1:Int.tdiv m 10=m / 10:=Int.tdiv_eq_ediv_of_nonneg a
     rw [if_pos hm,e1,V7 (n:=m / 10) (by omega) (by omega),Zh (by simp only [bytesOf,List.length_map,List.length_singleton];omega)]
     refine .inl ⟨_,rfl,⟨by simp only;omega,?_⟩,by simp only;omega⟩
     simp only [List.length_append,bytesOf,List.length_map,List.length_singleton]
     omega
    ·rw [if_neg hm,Zh (by simp only [List.length_singleton];omega)]
     exact .inr ⟨_,rfl,trivial⟩)
  exact ⟨r,h⟩
theorem ZoC (a:Yz) (left:Int) (h0:0≤left) (h1:left≤1048576) (hb:bnd (ZdO) a):Szt (ZbG a left) left (tot (ZdO) a):=by
 unfold ZbG
 exact (Szt.len h0 h1 (by omega) hb.1 (fun hw0 a0 b0=>by rw [hw0];exact Szt.ret)).mono (by simp only [Zc7,Zfp,Zde,Zdd,Zez];omega)
theorem ZmU (a:List (Yz)) (left:Int) (h0:0≤left) (h1:left≤1048576) (hb:bnd (.sl (ZdO)) a):Szt (Zcg a left) left (tot (.sl (ZdO)) a):=by
 unfold Zcg
 refine (Szt.len h0 h1 (by omega) hb.1 (fun hw m0 m1=>(?_:Szt _ _ ((a.map (tot (ZdO))).sum)))).mono (by rw [Zho];omega)
 rw [hw]
 exact Szt.loop (f:=fun x m=>ZbG x m) (P:=fun x=>sm (ZdO) x) (T:=tot (ZdO)) (fun x hx m m0 m1=>Zkj x m m0 m1 (hb.2 x hx)) (fun x hx m m0 m1=>ZoC x m m0 m1 (hb.2 x hx)) (fun k m=>rfl) m0 m1 (by omega)
theorem Xz (a:List (Int)) (left:Int) (h0:0≤left) (h1:left≤1048576) (hb:bnd (.sl (.int .i64)) a):Szt (YZ a left) left (tot (.sl (.int .i64)) a):=by
 unfold YZ
 refine (Szt.len h0 h1 (by omega) hb.1 (fun hw m0 m1=>(?_:Szt _ _ ((a.map (tot (.int .i64))).sum)))).mono (by rw [Zho];omega)
 rw [hw]
 exact Szt.ret.mono (by rw [Zkr (by rfl)];omega)
theorem Zmf (a:Zx) (left:Int) (h0:0≤left) (h1:left≤1048576) (hb:bnd (YP) a):Szt (Jb a left) left (tot (YP) a):=by
 unfold Jb
 exact (Szt.then (Xz a.1 _ h0 h1 hb.1) h0 h1 (fun m0 a0 b0=>Szt.then (Xz a.2.1 _ a0 b0 hb.2.1) a0 b0 (fun m1 a1 b1=>Szt.last (Xz a.2.2.1 _ a1 b1 hb.2.2.1)))).mono (by simp only [Zc7,Zfp,Zde,Zdd,Zez];omega)
theorem ZgJ (a:List (Zx)) (left:Int) (h0:0≤left) (h1:left≤1048576) (hb:bnd (.sl (YP)) a):Szt (V8 a left) left (tot (.sl (YP)) a):=by
 unfold V8
 refine (Szt.len h0 h1 (by omega) hb.1 (fun hw m0 m1=>(?_:Szt _ _ ((a.map (tot (YP))).sum)))).mono (by rw [Zho];omega)
 rw [hw]
 exact Szt.loop (f:=fun x m=>Jb x m) (P:=fun x=>sm (YP) x) (T:=tot (YP)) (fun x hx m m0 m1=>Ziy x m m0 m1 (hb.2 x hx)) (fun x hx m m0 m1=>Zmf x m m0 m1 (hb.2 x hx)) (fun k m=>rfl) m0 m1 (by omega)
theorem Zoa (a:ZJ) (left:Int) (h0:0≤left) (h1:left≤1048576) (hb:bnd (Zfc) a):Szt (Zbw a left) left (tot (Zfc) a):=by
 unfold Zbw
 exact (Szt.then (ZgJ a.2.2.2.2.1 _ h0 h1 hb.2.2.2.2.1) h0 h1 (fun m0 a0 b0=>Szt.last (ZgJ a.2.2.2.2.2.1 _ a0 b0 hb.2.2.2.2.2.1))).mono (by simp only [Zc7,Zfp,Zde,Zdd,Zez];omega)
theorem ZmS (a:List (ZJ)) (left:Int) (h0:0≤left) (h1:left≤1048576) (hb:bnd (.sl (Zfc)) a):Szt (ZeV a left) left (tot (.sl (Zfc)) a):=by
 unfold ZeV
 refine (Szt.len h0 h1 (by omega) hb.1 (fun hw m0 m1=>(?_:Szt _ _ ((a.map (tot (Zfc))).sum)))).mono (by rw [Zho];omega)
 rw [hw]
 exact Szt.loop (f:=fun x m=>Zbw x m) (P:=fun x=>sm (Zfc) x) (T:=tot (Zfc)) (fun x hx m m0 m1=>ZkI x m m0 m1 (hb.2 x hx)) (fun x hx m m0 m1=>Zoa x m m0 m1 (hb.2 x hx)) (fun k m=>rfl) m0 m1 (by omega)
theorem ZnQ (a:Zi) (left:Int) (h0:0≤left) (h1:left≤1048576) (hb:bnd (X3) a):Szt (Zb3 a left) left (tot (X3) a):=by
 unfold Zb3
 exact (Szt.len h0 h1 (by omega) hb.1 (fun hw0 a0 b0=>by rw [hw0];exact Szt.then (ZmU a.2.2.1 _ a0 b0 hb.2.2.1) a0 b0 (fun m1 a1 b1=>Szt.then (ZmS a.2.2.2.1 _ a1 b1 hb.2.2.2.1) a1 b1 (fun m2 a2 b2=>Szt.last (Xz a.2.2.2.2.1 _ a2 b2 hb.2.2.2.2.1))))).mono (by simp only [Zc7,Zfp,Zde,Zdd,Zez];omega)
theorem Zmu (a:List (Zi)) (left:Int) (h0:0≤left) (h1:left≤1048576) (hb:bnd (.sl (X3)) a):Szt (Za5 a left) left (tot (.sl (X3)) a):=by
 unfold Za5
 refine (Szt.len h0 h1 (by omega) hb.1 (fun hw m0 m1=>(?_:Szt _ _ ((a.map (tot (X3))).sum)))).mono (by rw [Zho];omega)
 rw [hw]
 exact Szt.loop (f:=fun x m=>Zb3 x m) (P:=fun x=>sm (X3) x) (T:=tot (X3)) (fun x hx m m0 m1=>Zjg x m m0 m1 (hb.2 x hx)) (fun x hx m m0 m1=>ZnQ x m m0 m1 (hb.2 x hx)) (fun k m=>rfl) m0 m1 (by omega)
theorem Zkz (a:Zk) (left:Int) (h0:0≤left) (h1:left≤1048576) (hb:bnd (YH) a):Szt (Je a left) left (tot (YH) a):=by
 unfold Je
 exact (Szt.last (Zmu a.1 _ h0 h1 hb.1)).mono (by simp only [Zc7,Zfp,Zde,Zdd,Zez];omega)
theorem ZjL (a:Zd) (left:Int) (h0:0≤left) (h1:left≤1048576) (hb:bnd (Z0) a):Szt (XW a left) left (tot (Z0) a):=by
 unfold XW
 exact (Szt.len h0 h1 (by omega) hb.1 (fun hw0 a0 b0=>by rw [hw0];exact Szt.last (Xz a.2.2.1 _ a0 b0 hb.2.2.1))).mono (by simp only [Zc7,Zfp,Zde,Zdd,Zez];omega)
theorem Zi2 (a:List (Zd)) (left:Int) (h0:0≤left) (h1:left≤1048576) (hb:bnd (.sl (Z0)) a):Szt (Zae a left) left (tot (.sl (Z0)) a):=by
 unfold Zae
 refine (Szt.len h0 h1 (by omega) hb.1 (fun hw m0 m1=>(?_:Szt _ _ ((a.map (tot (Z0))).sum)))).mono (by rw [Zho];omega)
 rw [hw]
 exact Szt.loop (f:=fun x m=>XW x m) (P:=fun x=>sm (Z0) x) (T:=tot (Z0)) (fun x hx m m0 m1=>Zf7 x m m0 m1 (hb.2 x hx)) (fun x hx m m0 m1=>ZjL x m m0 m1 (hb.2 x hx)) (fun k m=>rfl) m0 m1 (by omega)
theorem ZkG (a:List (List UInt8)) (left:Int) (h0:0≤left) (h1:left≤1048576) (hb:bnd (.sl (.str)) a):Szt (Jd a left) left (tot (.sl (.str)) a):=by
 unfold Jd
 refine (Szt.len h0 h1 (by omega) hb.1 (fun hw m0 m1=>(?_:Szt _ _ ((a.map (tot (.str))).sum)))).mono (by rw [Zho];omega)
 rw [hw]
 exact Szt.loop (l:=a) (α:=List UInt8) (f:=fun (x:List UInt8) (m:Int)=>if IntKind.i64.wrap (m-(x.length:Int))<0 then some (-1) else some (IntKind.i64.wrap (m-(x.length:Int)))) (P:=fun (x:List UInt8)=>sm .str x) (T:=fun (x:List UInt8)=>tot .str x) (fun x hx m m0 m1=>Szd.str x m m0 m1 (hb.2 x hx)) (fun x hx m m0 m1=>Szt.str x m m0 m1 (hb.2 x hx)) (fun k m=>by
  show XL a m (k:Int)=_
  unfold XL
  congr 1;congr 1;funext x;split<;>simp_all) m0 m1 (by omega)
theorem ZnX (a:ZV) (left:Int) (h0:0≤left) (h1:left≤1048576) (hb:bnd (J5) a):Szt (ZaH a left) left (tot (J5) a):=by
 unfold ZaH
 exact (Szt.len h0 h1 (by omega) hb.1 (fun hw0 a0 b0=>by rw [hw0];exact Szt.ret)).mono (by simp only [Zc7,Zfp,Zde,Zdd,Zez];omega)
theorem Zmc (a:List (ZV)) (left:Int) (h0:0≤left) (h1:left≤1048576) (hb:bnd (.sl (J5)) a):Szt (ZdG a left) left (tot (.sl (J5)) a):=by
 unfold ZdG
 refine (Szt.len h0 h1 (by omega) hb.1 (fun hw m0 m1=>(?_:Szt _ _ ((a.map (tot (J5))).sum)))).mono (by rw [Zho];omega)
 rw [hw]
 exact Szt.loop (f:=fun x m=>ZaH x m) (P:=fun x=>sm (J5) x) (T:=tot (J5)) (fun x hx m m0 m1=>Zju x m m0 m1 (hb.2 x hx)) (fun x hx m m0 m1=>ZnX x m m0 m1 (hb.2 x hx)) (fun k m=>rfl) m0 m1 (by omega)
theorem ZlJ (a:Zb) (left:Int) (h0:0≤left) (h1:left≤1048576) (hb:bnd (Yn) a):Szt (Zam a left) left (tot (Yn) a):=by
 unfold Zam
 exact (Szt.then (Zi2 a.1 _ h0 h1 hb.1) h0 h1 (fun m0 a0 b0=>Szt.then (ZkG a.2.1 _ a0 b0 hb.2.1) a0 b0 (fun m1 a1 b1=>Szt.last (Zmc a.2.2.1 _ a1 b1 hb.2.2.1)))).mono (by simp only [Zc7,Zfp,Zde,Zdd,Zez];omega)
theorem Ziz (a:Zo) (left:Int) (h0:0≤left) (h1:left≤1048576) (hb:bnd (X6) a):Szt (JI a left) left (tot (X6) a):=by
 unfold JI
 exact (Szt.then (Xz a.1 _ h0 h1 hb.1) h0 h1 (fun m0 a0 b0=>Szt.then (Xz a.2.1 _ a0 b0 hb.2.1) a0 b0 (fun m1 a1 b1=>Szt.then (Xz a.2.2.1 _ a1 b1 hb.2.2.1) a1 b1 (fun m2 a2 b2=>Szt.last (Xz a.2.2.2.1 _ a2 b2 hb.2.2.2.1))))).mono (by simp only [Zc7,Zfp,Zde,Zdd,Zez];omega)
theorem ZmH (a:List (Zo)) (left:Int) (h0:0≤left) (h1:left≤1048576) (hb:bnd (.sl (X6)) a):Szt (Za3 a left) left (tot (.sl (X6)) a):=by
 unfold Za3
 refine (Szt.len h0 h1 (by omega) hb.1 (fun hw m0 m1=>(?_:Szt _ _ ((a.map (tot (X6))).sum)))).mono (by rw [Zho];omega)
 rw [hw]
 exact Szt.loop (f:=fun x m=>JI x m) (P:=fun x=>sm (X6) x) (T:=tot (X6)) (fun x hx m m0 m1=>Zgv x m m0 m1 (hb.2 x hx)) (fun x hx m m0 m1=>Ziz x m m0 m1 (hb.2 x hx)) (fun k m=>rfl) m0 m1 (by omega)
theorem Zmw (a:Za) (left:Int) (h0:0≤left) (h1:left≤1048576) (hb:bnd (YG) a):Szt (Za8 a left) left (tot (YG) a):=by
 unfold Za8
 exact (Szt.then (Zkz a.1 _ h0 h1 hb.1) h0 h1 (fun m0 a0 b0=>Szt.then (ZlJ a.2.1 _ a0 b0 hb.2.1) a0 b0 (fun m1 a1 b1=>Szt.last (ZmH a.2.2.1 _ a1 b1 hb.2.2.1)))).mono (by simp only [Zc7,Zfp,Zde,Zdd,Zez];omega)
theorem Zm3 (a:Zg) (left:Int) (h0:0≤left) (h1:left≤1048576) (hb:bnd (QW) a):Szt (Zb5 a left) left (tot (QW) a):=by
 unfold Zb5
 exact (Szt.len h0 h1 (by omega) hb.2.2.2.2.2.1 (fun hw0 a0 b0=>by rw [hw0];exact Szt.last (Ziz a.2.2.2.2.2.2.1 _ a0 b0 hb.2.2.2.2.2.2.1))).mono (by simp only [Zc7,Zfp,Zde,Zdd,Zez];omega)
theorem Zma (a:List (Bool)) (left:Int) (h0:0≤left) (h1:left≤1048576) (hb:bnd (.sl (.bool)) a):Szt (Za9 a left) left (tot (.sl (.bool)) a):=by
 unfold Za9
 refine (Szt.len h0 h1 (by omega) hb.1 (fun hw m0 m1=>(?_:Szt _ _ ((a.map (tot (.bool))).sum)))).mono (by rw [Zho];omega)
 rw [hw]
 exact Szt.ret.mono (by rw [Zkr (by rfl)];omega)
theorem Zht (a:List (Yh)) (left:Int) (h0:0≤left) (h1:left≤1048576) (hb:bnd (.sl (Xj)) a):Szt (Zaj a left) left (tot (.sl (Xj)) a):=by
 unfold Zaj
 refine (Szt.len h0 h1 (by omega) hb.1 (fun hw m0 m1=>(?_:Szt _ _ ((a.map (tot (Xj))).sum)))).mono (by rw [Zho];omega)
 rw [hw]
 exact Szt.ret.mono (by rw [Zkr (by rfl)];omega)
theorem ZlE (a:Zn) (left:Int) (h0:0≤left) (h1:left≤1048576) (hb:bnd (YB) a):Szt (Zax a left) left (tot (YB) a):=by
 unfold Zax
 exact (Szt.then (Zma a.1 _ h0 h1 hb.1) h0 h1 (fun m0 a0 b0=>Szt.then (Zht a.2.1 _ a0 b0 hb.2.1) a0 b0 (fun m1 a1 b1=>Szt.last (Zht a.2.2.1 _ a1 b1 hb.2.2.1)))).mono (by simp only [Zc7,Zfp,Zde,Zdd,Zez];omega)
theorem ZmG (a:List (Yz)) (k:Int) (hs:sm (.sl (ZdO)) a) (h0:0≤k) (h1:k+(cnt (.sl (ZdO)) a:Int)≤4611686018427387904):Mkd (ZcM a k) k (cnt (.sl (ZdO)) a):=by
 unfold ZcM
 have hl:a.length≤1048576:=by have:=hs.1;omega
 refine Mkd.loop (l:=a) (c:=cnt (ZdO)) (fun j m x L hj hj' hL hx hxm hm0 hm1 hj2=>?_) (fun m L hL=>?_) hl h0 h1
 ·have hsx:=hs.2 x hxm
  have hc:((cnt (ZdO) x:Nat):Int)=0+1+1+1+1:=by simp only [Zdc,Zev,Zda,Zc9,Zfk];omega
  obtain ⟨s0,e0⟩:=ZfM (m) (by omega) (by omega)
  have hx2:atI L (j:Int)=some x:=by rw [Zu];exact hx
  have hb:∀ {β:Type} (y:Yz) (F:Yz→Option β),(atI (List.set L j y) (j:Int)).bind F=F y:=fun y F=>by rw [Zfo hj];rfl
  simp only [Jt,if_pos hj',Int.toNat_natCast,hx2,↓hb,Option.bind_some,List.set_set,e0]
  refine Zv5 ?_ ?_
  ·have hc:=hc;simp (disch:=omega) only [V7];omega
  ·simp (disch:=omega) only [V7];omega
 ·simp only [Jt,Int.lt_irrefl,if_false]
theorem Xm (a:List (Int)) (k:Int) (hs:sm (.sl (.int .i64)) a) (h0:0≤k) (h1:k+(cnt (.sl (.int .i64)) a:Int)≤4611686018427387904):Mkd (Yg a k) k (cnt (.sl (.int .i64)) a):=by
 unfold Yg
 have hl:a.length≤1048576:=by have:=hs.1;omega
 refine Mkd.loop (l:=a) (c:=cnt (.int .i64)) (fun j m x L hj hj' hL hx hxm hm0 hm1 hj2=>?_) (fun m L hL=>?_) hl h0 h1
 ·have hsx:=hs.2 x hxm
  have hc:((cnt (.int .i64) x:Nat):Int)=0+1:=by rfl
  simp (disch:=omega) only [Xu,if_pos hj',Zu,hx,Option.bind_some,V7,Int.toNat_natCast,Zfo,List.length_set,List.set_set,List.getElem?_set_self]
  refine ⟨_,congrArg some (congrArg Sum.inl (Prod.ext ?_ (Prod.ext ?_ (Prod.ext rfl rfl))))⟩
  ·show _=m+_;rw [hc];omega
  ·simp only;omega
 ·simp only [Xu,Int.lt_irrefl,if_false]
theorem Zgh (a:List (Zx)) (k:Int) (hs:sm (.sl (YP)) a) (h0:0≤k) (h1:k+(cnt (.sl (YP)) a:Int)≤4611686018427387904):Mkd (Zb8 a k) k (cnt (.sl (YP)) a):=by
 unfold Zb8
 have hl:a.length≤1048576:=by have:=hs.1;omega
 refine Mkd.loop (l:=a) (c:=cnt (YP)) (fun j m x L hj hj' hL hx hxm hm0 hm1 hj2=>?_) (fun m L hL=>?_) hl h0 h1
 ·have hsx:=hs.2 x hxm
  have hc:((cnt (YP) x:Nat):Int)=0+((cnt (.sl (.int .i64)) x.1:Nat):Int)+((cnt (.sl (.int .i64)) x.2.1:Nat):Int)+((cnt (.sl (.int .i64)) x.2.2.1:Nat):Int):=by simp only [Zdc,Zev,Zda,Zc9,Zfk];omega
  obtain ⟨s0,e0⟩:=Xm x.1 (m) hsx.1 (by omega) (by omega)
  obtain ⟨s1,e1⟩:=Xm x.2.1 (m+((cnt (.sl (.int .i64)) x.1:Nat):Int)) hsx.2.1 (by omega) (by omega)
  obtain ⟨s2,e2⟩:=Xm x.2.2.1 (m+((cnt (.sl (.int .i64)) x.1:Nat):Int)+((cnt (.sl (.int .i64)) x.2.1:Nat):Int)) hsx.2.2.1 (by omega) (by omega)
  simp (disch:=omega) only [ZbW,if_pos hj',Zu,hx,Option.bind_some,V7,Int.toNat_natCast,Zfo,List.length_set,List.set_set,List.getElem?_set_self,e0,e1,e2]
  refine ⟨_,congrArg some (congrArg Sum.inl (Prod.ext ?_ (Prod.ext ?_ (Prod.ext rfl rfl))))⟩
  ·show _=m+_;rw [hc];omega
  ·simp only;omega
 ·simp only [ZbW,Int.lt_irrefl,if_false]
theorem ZmF (a:List (ZJ)) (k:Int) (hs:sm (.sl (Zfc)) a) (h0:0≤k) (h1:k+(cnt (.sl (Zfc)) a:Int)≤4611686018427387904):Mkd (ZcD a k) k (cnt (.sl (Zfc)) a):=by
 unfold ZcD
 have hl:a.length≤1048576:=by have:=hs.1;omega
 refine Mkd.loop (l:=a) (c:=cnt (Zfc)) (fun j m x L hj hj' hL hx hxm hm0 hm1 hj2=>?_) (fun m L hL=>?_) hl h0 h1
 ·have hsx:=hs.2 x hxm
  have hc:((cnt (Zfc) x:Nat):Int)=0+1+1+1+1+((cnt (.sl (YP)) x.2.2.2.2.1:Nat):Int)+((cnt (.sl (YP)) x.2.2.2.2.2.1:Nat):Int):=by simp only [Zdc,Zev,Zda,Zc9,Zfk];omega
  obtain ⟨s0,e0⟩:=Zgh x.2.2.2.2.1 (m+1+1+1+1) hsx.2.2.2.2.1 (by omega) (by omega)
  obtain ⟨s1,e1⟩:=Zgh x.2.2.2.2.2.1 (m+1+1+1+1+((cnt (.sl (YP)) x.2.2.2.2.1:Nat):Int)) hsx.2.2.2.2.2.1 (by omega) (by omega)
  simp (disch:=omega) only [JD,if_pos hj',Zu,hx,Option.bind_some,V7,Int.toNat_natCast,Zfo,List.length_set,List.set_set,List.getElem?_set_self,e0,e1]
  refine ⟨_,congrArg some (congrArg Sum.inl (Prod.ext ?_ (Prod.ext ?_ (Prod.ext rfl rfl))))⟩
  ·show _=m+_;rw [hc];omega
  ·simp only;omega
 ·simp only [JD,Int.lt_irrefl,if_false]
theorem ZlL (a:List (Zi)) (k:Int) (hs:sm (.sl (X3)) a) (h0:0≤k) (h1:k+(cnt (.sl (X3)) a:Int)≤4611686018427387904):Mkd (ZeY a k) k (cnt (.sl (X3)) a):=by
 unfold ZeY
 have hl:a.length≤1048576:=by have:=hs.1;omega
 refine Mkd.loop (l:=a) (c:=cnt (X3)) (fun j m x L hj hj' hL hx hxm hm0 hm1 hj2=>?_) (fun m L hL=>?_) hl h0 h1
 ·have hsx:=hs.2 x hxm
  have hc:((cnt (X3) x:Nat):Int)=0+1+1+((cnt (.sl (ZdO)) x.2.2.1:Nat):Int)+((cnt (.sl (Zfc)) x.2.2.2.1:Nat):Int)+((cnt (.sl (.int .i64)) x.2.2.2.2.1:Nat):Int)+1+1:=by simp only [Zdc,Zev,Zda,Zc9,Zfk];omega
  obtain ⟨s0,e0⟩:=ZfM (m) (by omega) (by omega)
  obtain ⟨s1,e1⟩:=ZmG x.2.2.1 (m+1+1) hsx.2.2.1 (by omega) (by omega)
  obtain ⟨s2,e2⟩:=ZmF x.2.2.2.1 (m+1+1+((cnt (.sl (ZdO)) x.2.2.1:Nat):Int)) hsx.2.2.2.1 (by omega) (by omega)
  obtain ⟨s3,e3⟩:=Xm x.2.2.2.2.1 (m+1+1+((cnt (.sl (ZdO)) x.2.2.1:Nat):Int)+((cnt (.sl (Zfc)) x.2.2.2.1:Nat):Int)) hsx.2.2.2.2.1 (by omega) (by omega)
  simp (disch:=omega) only [ZcY,if_pos hj',Zu,hx,Option.bind_some,V7,Int.toNat_natCast,Zfo,List.length_set,List.set_set,List.getElem?_set_self,e0,e1,e2,e3]
  refine ⟨_,congrArg some (congrArg Sum.inl (Prod.ext ?_ (Prod.ext ?_ (Prod.ext rfl rfl))))⟩
  ·show _=m+_;rw [hc];omega
  ·simp only;omega
 ·simp only [ZcY,Int.lt_irrefl,if_false]
theorem ZjF (a:Zk) (k:Int) (hs:sm (YH) a) (h0:0≤k) (h1:k+((cnt (YH) a:Nat):Int)≤4611686018427387904):Mkd (Zac a k) k (cnt (YH) a):=by
 unfold Zac
 have hc:((cnt (YH) a:Nat):Int)=0+(((cnt (.sl (X3)) a.1):Nat):Int):=by simp only [Zdc,Zev,Zda,Zc9,Zfk];omega
 obtain ⟨s0,e0⟩:=ZlL a.1 (k) hs.1 (by omega) (by omega)
 simp only [Option.bind_some,e0]
 exact ⟨_,congrArg some (Prod.ext (by rfl) rfl)⟩
theorem Zis (a:List (Zd)) (k:Int) (hs:sm (.sl (Z0)) a) (h0:0≤k) (h1:k+(cnt (.sl (Z0)) a:Int)≤4611686018427387904):Mkd (VA a k) k (cnt (.sl (Z0)) a):=by
 unfold VA
 have hl:a.length≤1048576:=by have:=hs.1;omega
 refine Mkd.loop (l:=a) (c:=cnt (Z0)) (fun j m x L hj hj' hL hx hxm hm0 hm1 hj2=>?_) (fun m L hL=>?_) hl h0 h1
 ·have hsx:=hs.2 x hxm
  have hc:((cnt (Z0) x:Nat):Int)=0+1+1+((cnt (.sl (.int .i64)) x.2.2.1:Nat):Int):=by simp only [Zdc,Zev,Zda,Zc9,Zfk];omega
  obtain ⟨s0,e0⟩:=ZfM (m) (by omega) (by omega)
  obtain ⟨s1,e1⟩:=Xm x.2.2.1 (m+1+1) hsx.2.2.1 (by omega) (by omega)
  simp (disch:=omega) only [Qf,if_pos hj',Zu,hx,Option.bind_some,V7,Int.toNat_natCast,Zfo,List.length_set,List.set_set,List.getElem?_set_self,e0,e1]
  refine ⟨_,congrArg some (congrArg Sum.inl (Prod.ext ?_ (Prod.ext ?_ (Prod.ext rfl rfl))))⟩
  ·show _=m+_;rw [hc];omega
  ·simp only;omega
 ·simp only [Qf,Int.lt_irrefl,if_false]
theorem ZjZ (a:List (List UInt8)) (k:Int) (hs:sm (.sl (.str)) a) (h0:0≤k) (h1:k+(cnt (.sl (.str)) a:Int)≤4611686018427387904):Mkd (J6 a k) k (cnt (.sl (.str)) a):=by
 unfold J6
 have hl:a.length≤1048576:=by have:=hs.1;omega
 refine Mkd.loop (l:=a) (c:=cnt (.str)) (fun j m x L hj hj' hL hx hxm hm0 hm1 hj2=>?_) (fun m L hL=>?_) hl h0 h1
 ·have hsx:=hs.2 x hxm
  have hc:((cnt (.str) x:Nat):Int)=0+1:=by rfl
  obtain ⟨s0,e0⟩:=ZfM (m) (by omega) (by omega)
  simp (disch:=omega) only [Q7,if_pos hj',Zu,hx,Option.bind_some,V7,Int.toNat_natCast,Zfo,List.length_set,List.set_set,List.getElem?_set_self,e0]
  refine ⟨_,congrArg some (congrArg Sum.inl (Prod.ext ?_ (Prod.ext ?_ (Prod.ext rfl rfl))))⟩
  ·show _=m+_;rw [hc];omega
  ·simp only;omega
 ·simp only [Q7,Int.lt_irrefl,if_false]
theorem Zlm (a:List (ZV)) (k:Int) (hs:sm (.sl (J5)) a) (h0:0≤k) (h1:k+(cnt (.sl (J5)) a:Int)≤4611686018427387904):Mkd (ZbA a k) k (cnt (.sl (J5)) a):=by
 unfold ZbA
 have hl:a.length≤1048576:=by have:=hs.1;omega
 refine Mkd.loop (l:=a) (c:=cnt (J5)) (fun j m x L hj hj' hL hx hxm hm0 hm1 hj2=>?_) (fun m L hL=>?_) hl h0 h1
 ·have hsx:=hs.2 x hxm
  have hc:((cnt (J5) x:Nat):Int)=0+1+1+1:=by simp only [Zdc,Zev,Zda,Zc9,Zfk];omega
  obtain ⟨s0,e0⟩:=ZfM (m) (by omega) (by omega)
  simp (disch:=omega) only [VO,if_pos hj',Zu,hx,Option.bind_some,V7,Int.toNat_natCast,Zfo,List.length_set,List.set_set,List.getElem?_set_self,e0]
  refine ⟨_,congrArg some (congrArg Sum.inl (Prod.ext ?_ (Prod.ext ?_ (Prod.ext rfl rfl))))⟩
  ·show _=m+_;rw [hc];omega
  ·simp only;omega
 ·simp only [VO,Int.lt_irrefl,if_false]
theorem ZkB (a:Zb) (k:Int) (hs:sm (Yn) a) (h0:0≤k) (h1:k+((cnt (Yn) a:Nat):Int)≤4611686018427387904):Mkd (ZaR a k) k (cnt (Yn) a):=by
 unfold ZaR
 have hc:((cnt (Yn) a:Nat):Int)=0+(((cnt (.sl (Z0)) a.1):Nat):Int)+(((cnt (.sl (.str)) a.2.1):Nat):Int)+(((cnt (.sl (J5)) a.2.2.1):Nat):Int):=by simp only [Zdc,Zev,Zda,Zc9,Zfk];omega
 obtain ⟨s0,e0⟩:=Zis a.1 (k) hs.1 (by omega) (by omega)
 obtain ⟨s1,e1⟩:=ZjZ a.2.1 (k+(((cnt (.sl (Z0)) a.1):Nat):Int)) hs.2.1 (by omega) (by omega)
 obtain ⟨s2,e2⟩:=Zlm a.2.2.1 (k+(((cnt (.sl (Z0)) a.1):Nat):Int)+(((cnt (.sl (.str)) a.2.1):Nat):Int)) hs.2.2.1 (by omega) (by omega)
 simp only [Option.bind_some,e0,e1,e2]
 exact ⟨_,congrArg some (Prod.ext (by show _=k+_;rw [hc];omega) rfl)⟩
theorem ZlN (a:List (Zo)) (k:Int) (hs:sm (.sl (X6)) a) (h0:0≤k) (h1:k+(cnt (.sl (X6)) a:Int)≤4611686018427387904):Mkd (Ze0 a k) k (cnt (.sl (X6)) a):=by
 unfold Ze0
 have hl:a.length≤1048576:=by have:=hs.1;omega
 refine Mkd.loop (l:=a) (c:=cnt (X6)) (fun j m x L hj hj' hL hx hxm hm0 hm1 hj2=>?_) (fun m L hL=>?_) hl h0 h1
 ·have hsx:=hs.2 x hxm
  have hc:((cnt (X6) x:Nat):Int)=0+((cnt (.sl (.int .i64)) x.1:Nat):Int)+((cnt (.sl (.int .i64)) x.2.1:Nat):Int)+((cnt (.sl (.int .i64)) x.2.2.1:Nat):Int)+((cnt (.sl (.int .i64)) x.2.2.2.1:Nat):Int):=by simp only [Zdc,Zev,Zda,Zc9,Zfk];omega
  obtain ⟨s0,e0⟩:=Xm x.1 (m) hsx.1 (by omega) (by omega)
  obtain ⟨s1,e1⟩:=Xm x.2.1 (m+((cnt (.sl (.int .i64)) x.1:Nat):Int)) hsx.2.1 (by omega) (by omega)
  obtain ⟨s2,e2⟩:=Xm x.2.2.1 (m+((cnt (.sl (.int .i64)) x.1:Nat):Int)+((cnt (.sl (.int .i64)) x.2.1:Nat):Int)) hsx.2.2.1 (by omega) (by omega)
  obtain ⟨s3,e3⟩:=Xm x.2.2.2.1 (m+((cnt (.sl (.int .i64)) x.1:Nat):Int)+((cnt (.sl (.int .i64)) x.2.1:Nat):Int)+((cnt (.sl (.int .i64)) x.2.2.1:Nat):Int)) hsx.2.2.2.1 (by omega) (by omega)
  simp (disch:=omega) only [ZcU,if_pos hj',Zu,hx,Option.bind_some,V7,Int.toNat_natCast,Zfo,List.length_set,List.set_set,List.getElem?_set_self,e0,e1,e2,e3]
  refine ⟨_,congrArg some (congrArg Sum.inl (Prod.ext ?_ (Prod.ext ?_ (Prod.ext rfl rfl))))⟩
  ·show _=m+_;rw [hc];omega
  ·simp only;omega
 ·simp only [ZcU,Int.lt_irrefl,if_false]
theorem Zlc (a:Za) (k:Int) (hs:sm (YG) a) (h0:0≤k) (h1:k+((cnt (YG) a:Nat):Int)≤4611686018427387904):Mkd (Zby a k) k (cnt (YG) a):=by
 unfold Zby
 have hc:((cnt (YG) a:Nat):Int)=0+(((cnt (YH) a.1):Nat):Int)+(((cnt (Yn) a.2.1):Nat):Int)+(((cnt (.sl (X6)) a.2.2.1):Nat):Int):=by simp only [Zdc,Zev,Zda,Zc9,Zfk];omega
 obtain ⟨s0,e0⟩:=ZjF a.1 (k) hs.1 (by omega) (by omega)
 obtain ⟨s1,e1⟩:=ZkB a.2.1 (k+(((cnt (YH) a.1):Nat):Int)) hs.2.1 (by omega) (by omega)
 obtain ⟨s2,e2⟩:=ZlN a.2.2.1 (k+(((cnt (YH) a.1):Nat):Int)+(((cnt (Yn) a.2.1):Nat):Int)) hs.2.2.1 (by omega) (by omega)
 simp only [Option.bind_some,e0,e1,e2]
 exact ⟨_,congrArg some (Prod.ext (by show _=k+_;rw [hc];omega) rfl)⟩
end Go.Proofs.YtfndhpjedmopdaaGreatDoor
