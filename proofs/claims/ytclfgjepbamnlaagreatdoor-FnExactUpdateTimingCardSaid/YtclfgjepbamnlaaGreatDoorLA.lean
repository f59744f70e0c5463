/-
  Ground of the plain laws: loops by what they come to; small arithmetic.
-/
import Derived.Test.YtclfgjepbamnlaaGreatDoorSxM
import Derived.IntWalk
import Derived.Test.YtclfgjepbamnlaaGreatDoorM
import Derived.Test.YtclfgjepbamnlaaGreatDoorSxBr
namespace Go.Proofs.YtclfgjepbamnlaaGreatDoor
set_option linter.unusedVariables false
set_option linter.unusedSimpArgs false
open Go Go.Sx
theorem YZ {n:Int} (h1:-9223372036854775808≤n) (h2:n≤9223372036854775807):Wq n=n:=IntWalk.i64_in n ⟨h1,h2⟩
theorem Zn {α:Type} (l:List α) (k:Nat):atI l (k:Int)=l[k]?:=by simp [atI]
theorem Qj {α:Type} {l:List α} {i:Int} {x:α} (h0:0≤i) (hx:l[i.toNat]?=some x):atI l i=some x:=by simp [atI,h0,hx]
theorem Zpq {α:Type} {l:List α} {i:Int} (h0:0≤i) (h1:i<l.length):∃ x,atI l i=some x∧l[i.toNat]?=some x :=
 ⟨l[i.toNat]'(by omega),by simp [atI,h0],List.getElem?_eq_getElem _⟩
theorem Zh {α:Type} {p:Prop} (h:p) (a:Option α):Zy p a=a:=by
 unfold Zy
 exact if_pos h
theorem VE {τ ρ:Type} {step:τ→Option (τ ⊕ ρ)} (n:Nat) (I:Nat→τ→Prop) (Q:ρ→Prop) {v:τ} (h0:I 0 v)
  (hs:∀ k v,k<n→I k v→(∃ v',step v=some (.inl v')∧I (k+1) v')∨∃ r,step v=some (.inr r)∧Q r)
  (hx:∀ v,I n v→∃ r,step v=some (.inr r)∧Q r):∃ r,Zm step v=some r∧Q r:=by
 have:∀ m k v,k+m=n→I k v→∃ r,Zm step v=some r∧Q r:=by
  intro m
  induction m with
  | zero =>
   intro k v hk hI
   have:k=n:=by omega
   subst this
   obtain ⟨r,e,hq⟩:=hx v hI
   exact ⟨r,Xe e,hq⟩
  | succ m ih =>
   intro k v hk hI
   rcases hs k v (by omega) hI with ⟨v',e,hI'⟩ | ⟨r,e,hq⟩
   ·obtain ⟨r,h1,h2⟩:=ih (k+1) v' (by omega) hI'
    exact ⟨r,by rw [Xh e];exact h1,h2⟩
   ·exact ⟨r,Xe e,hq⟩
 exact this n 0 v (by omega) h0
theorem ZY {τ ρ:Type} {step:τ→Option (τ ⊕ ρ)} (n:Nat) (I:Nat→τ→Prop) (R:ρ) {v:τ} (h0:I 0 v)
  (hs:∀ k v,k<n→I k v→(∃ v',step v=some (.inl v')∧I (k+1) v')∨step v=some (.inr R))
  (hx:∀ v,I n v→step v=some (.inr R)):Zm step v=some R:=by
 obtain ⟨r,h1,h2⟩:=VE n I (fun r=>r=R) h0 (fun k v hk hI=>(hs k v hk hI).elim .inl (fun h=>.inr ⟨R,h,rfl⟩)) (fun v hI=>⟨R,hx v hI,rfl⟩)
 rw [h1,h2]
theorem YP {α:Type} {l:List α} {k:Nat} {x:α} (hx:l[k]?=some x):l.take (k+1)=l.take k++[x]:=by
 rw [List.take_add_one,hx];rfl
def sm:(t:Ty)→t.den→Prop
 | .str,s=>(s.length:Int)≤1048576
 | .sl t,l=>(l.length:Int)≤1048576∧∀ x∈l,sm t x
 | .pair a b,d=>sm a d.1∧sm b d.2
 | _,_=>True
def Szd (o:Option Int) (left:Int) (P:Prop):Prop:=∃ n,o=some n∧n≤left∧(0≤n→P)
theorem Szd.mono {o:Option Int} {left:Int} {P Q:Prop} (h:Szd o left P) (hpq:P→Q):Szd o left Q:=by
 obtain ⟨n,a,b,c⟩:=h;exact ⟨n,a,b,fun h=>hpq (c h)⟩
theorem Szd.then {o:Option Int} {left:Int} {P Q:Prop} (h:Szd o left P) (h0:0≤left) (hl:left≤1048576) {F:Int→Option Int} (h2:∀ n,0≤n→n≤1048576→P→Szd (F n) n Q) :
  Szd (o.bind fun n=>if n<0 then some (-1) else F n) left Q:=by
 obtain ⟨n,e,hle,hP⟩:=h
 rw [e,Bq]
 split
 ·rename_i hn
  exact ⟨-1,rfl,by omega,fun h=>by omega⟩
 ·rename_i hn
  obtain ⟨m,e2,h3,h4⟩:=h2 n (by omega) (by omega) (hP (by omega))
  exact ⟨m,e2,by omega,h4⟩
theorem Szd.last {o:Option Int} {left:Int} {P Q:Prop} (h:Szd o left P) (hl:0≤left) (hpq:P→Q):Szd (o.bind fun n=>if n<0 then some (-1) else some n) left Q:=by
 obtain ⟨n,e,hle,hP⟩:=h
 rw [e,Bq]
 split
 ·rename_i hn
  exact ⟨-1,rfl,by omega,fun h=>by omega⟩
 ·exact ⟨n,rfl,hle,fun h=>hpq (hP h)⟩
theorem Szd.len {left n:Int} {Q:Prop} {B:Option Int} (h0:0≤left) (hl:left≤1048576) (hn:0≤n) (hb:n≤9223372036854775807)
  (h2:Wq (left-n)=left-n→0≤left-n→left-n≤1048576→n≤1048576→Szd B (left-n) Q) :
  Szd (if Wq (left-n)<0 then some (-1) else B) left Q:=by
 have hw:=YZ (n:=left-n) (by omega) (by omega)
 rw [hw]
 split
 ·rename_i hn
  exact ⟨-1,rfl,by omega,fun h=>by omega⟩
 ·rename_i hn
  obtain ⟨m,e2,h3,h4⟩:=h2 hw (by omega) (by omega) (by omega)
  exact ⟨m,e2,by omega,h4⟩
theorem Szd.ret {left:Int} {P:Prop} (h:P):Szd (some left) left P:=⟨left,rfl,Int.le_refl _,fun _=>h⟩
theorem Szd.loop {α:Type} {l:List α} {f:α→Int→Option Int} {P:α→Prop} {step:Int×Int×Unit→Option ((Int×Int×Unit) ⊕ Int)}
  (hf:∀ x∈l,∀ m,0≤m→m≤1048576→Szd (f x m) m (P x))
  (hstep:∀ (k:Nat) (m:Int),step (m,(k:Int),())=if (k:Int)<(l.length:Int) then (atI l (k:Int)).bind fun x=>(f x m).bind fun n=>if n<0 then some (.inr (-1)) else some (.inl (n,Wq ((k:Int)+1),())) else some (.inr m))
  {left:Int} (h0:0≤left) (h1:left≤1048576) (hl:(l.length:Int)≤1048576):Szd (Zm step (left,0,())) left (∀ x∈l,P x):=by
 unfold Szd
 refine VE l.length (fun k v=>v.2.1=(k:Int)∧0≤v.1∧v.1≤left∧∀ x∈l.take k,P x) (fun n=>n≤left∧(0≤n→∀ x∈l,P x)) ⟨rfl,h0,Int.le_refl _,by simp⟩ ?_ ?_
 ·rintro k ⟨m,i,⟨⟩⟩ hk ⟨hi,hm0,hm1,hP⟩
  simp only at hi hm0 hm1
  subst hi
  have hx:l[k]?=some l[k]:=List.getElem?_eq_getElem hk
  generalize l[k]=x at hx
  rw [hstep,if_pos (by omega),Zn,hx,Bq]
  obtain ⟨n,e,hn,hPx⟩:=hf x (List.mem_of_getElem? hx) m hm0 (by omega)
  rw [e,Bq]
  split
  ·exact .inr ⟨-1,rfl,by omega,fun h=>by omega⟩
  ·rw [YZ (by omega) (by omega)]
   refine .inl ⟨_,rfl,by simp,by dsimp only;omega,by dsimp only;omega,?_⟩
   rw [YP hx]
   intro y hy
   rcases List.mem_append.1 hy with hy | hy
   ·exact hP y hy
   ·simp at hy;subst hy;exact hPx (by omega)
 ·rintro ⟨m,i,⟨⟩⟩ ⟨hi,hm0,hm1,hP⟩
  simp only at hi hm0 hm1
  subst hi
  rw [List.take_length] at hP
  rw [hstep,if_neg (by omega)]
  exact ⟨m,rfl,hm1,fun _=>hP⟩
theorem Jr {α:Type} {l:List α} {f:α→Option α} {z:α} {step:Int×List α×Unit→Option ((Int×List α×Unit) ⊕ List α)} (hf:∀ x∈l,f x=some x)
  (hstep:∀ (k:Nat) (out:List α),step ((k:Int),out,())=if (k:Int)<(l.length:Int) then (atI l (k:Int)).bind fun x=>(f x).bind fun y=>(atI out (k:Int)).bind fun _=>some (.inl (Wq ((k:Int)+1),List.set out (Int.toNat (k:Int)) y,())) else some (.inr out))
  (hl:(l.length:Int)≤1048576):Zm step (0,List.replicate (Int.toNat (l.length:Int)) z,())=some l:=by
 refine ZY l.length (fun k v=>v.1=(k:Int)∧v.2.1.length=l.length∧v.2.1.take k=l.take k) _ ⟨rfl,by simp,by simp⟩ ?_ ?_
 ·rintro k ⟨i,out,⟨⟩⟩ hk ⟨hi,hlen,ht⟩
  simp only at hi hlen ht
  subst hi
  have hx:l[k]?=some l[k]:=List.getElem?_eq_getElem hk
  generalize l[k]=x at hx
  have hy:out[k]?=some (out[k]'(by omega)):=List.getElem?_eq_getElem (by omega)
  rw [hstep,if_pos (by omega),Zn,hx,Bq,hf x (List.mem_of_getElem? hx),Bq,Zn,hy,Bq,YZ (by omega) (by omega)]
  refine .inl ⟨_,rfl,by simp,by simp [hlen],?_⟩
  have hx2:(out.set k x)[k]?=some x:=by rw [List.getElem?_set_self (by omega)]
  simp only [Int.toNat_natCast]
  rw [YP hx2,YP hx,List.take_set,ht]
  rw [List.set_eq_of_length_le (by simp;omega)]
 ·rintro ⟨i,out,⟨⟩⟩ ⟨hi,hlen,ht⟩
  simp only at hi hlen ht
  subst hi
  rw [hstep,if_neg (by omega)]
  rw [List.take_length,List.take_of_length_le (by omega)] at ht
  rw [ht]
theorem Zrh {α:Type} [DecidableEq α] {l:List α} {step:Int×Unit→Option ((Int×Unit) ⊕ Bool)}
  (hstep:∀ (k:Nat),step ((k:Int),())=if (k:Int)<(l.length:Int) then (atI l (k:Int)).bind fun x=>(atI l (k:Int)).bind fun y=>if x=y then some (.inl (Wq ((k:Int)+1),())) else some (.inr false) else some (.inr true))
  (hl:(l.length:Int)≤1048576):Zm step (0,())=some true:=by
 refine ZY l.length (fun k v=>v.1=(k:Int)) _ rfl ?_ ?_
 ·rintro k ⟨i,⟨⟩⟩ hk hi
  simp only at hi
  subst hi
  have hx:l[k]?=some l[k]:=List.getElem?_eq_getElem hk
  generalize l[k]=x at hx
  rw [hstep,if_pos (by omega),Zn,hx,Bq,Bq,if_pos rfl,YZ (by omega) (by omega)]
  exact .inl ⟨_,rfl,by simp⟩
 ·rintro ⟨i,⟨⟩⟩ hi
  simp only at hi
  subst hi
  rw [hstep,if_neg (by omega)]
theorem ZuH {l:List Bool} {step:Int×Unit→Option ((Int×Unit) ⊕ Bool)}
  (hstep:∀ (k:Nat),step ((k:Int),())=if (k:Int)<(l.length:Int) then (atI l (k:Int)).bind fun x=>(atI l (k:Int)).bind fun y=>if (x == y)=true then some (.inl (Wq ((k:Int)+1),())) else some (.inr false) else some (.inr true))
  (hl:(l.length:Int)≤1048576):Zm step (0,())=some true:=by
 refine ZY l.length (fun k v=>v.1=(k:Int)) _ rfl ?_ ?_
 ·rintro k ⟨i,⟨⟩⟩ hk hi
  simp only at hi
  subst hi
  have hx:l[k]?=some l[k]:=List.getElem?_eq_getElem hk
  generalize l[k]=x at hx
  rw [hstep,if_pos (by omega),Zn,hx,Bq,Bq,if_pos (by simp),YZ (by omega) (by omega)]
  exact .inl ⟨_,rfl,by simp⟩
 ·rintro ⟨i,⟨⟩⟩ hi
  simp only at hi
  subst hi
  rw [hstep,if_neg (by omega)]
def Ty.fixed:Ty→Bool
 | .str=>false
 | .sl _=>false
 | .ptr _=>true
 | .fn _ _=>true
 | .pair a b=>Ty.fixed a&&Ty.fixed b
 | _=>true
theorem XZ:∀ (t:Ty),Ty.fixed t=true→∀ d:t.den,sm t d
 | .int _,_,_=>trivial
 | .bool,_,_=>trivial
 | .unit,_,_=>trivial
 | .ptr _,_,_=>trivial
 | .fn _ _,_,_=>trivial
 | .nptr _,_,_=>trivial
 | .mp _ _,_,_=>trivial
 | .str,h,_=>by simp [Ty.fixed] at h
 | .sl _,h,_=>by simp [Ty.fixed] at h
 | .pair a b,h,d=>by
  simp only [Ty.fixed,Bool.and_eq_true] at h
  exact ⟨XZ a h.1 d.1,XZ b h.2 d.2⟩
theorem Zf8 {α:Type} {l:List α} {f:α→α→Option Bool} {step:Int×Unit→Option ((Int×Unit) ⊕ Bool)} (hf:∀ x∈l,f x x=some true)
  (hstep:∀ (k:Nat),step ((k:Int),())=if (k:Int)<(l.length:Int) then (atI l (k:Int)).bind fun x=>(atI l (k:Int)).bind fun y=>(f x y).bind fun e=>if e=true then some (.inl (Wq ((k:Int)+1),())) else some (.inr false) else some (.inr true))
  (hl:(l.length:Int)≤1048576):Zm step (0,())=some true:=by
 refine ZY l.length (fun k v=>v.1=(k:Int)) _ rfl ?_ ?_
 ·rintro k ⟨i,⟨⟩⟩ hk hi
  simp only at hi
  subst hi
  have hx:l[k]?=some l[k]:=List.getElem?_eq_getElem hk
  generalize l[k]=x at hx
  rw [hstep,if_pos (by omega),Zn,hx,Bq,Bq,hf x (List.mem_of_getElem? hx),Bq,if_pos rfl,YZ (by omega) (by omega)]
  exact .inl ⟨_,rfl,by simp⟩
 ·rintro ⟨i,⟨⟩⟩ hi
  simp only at hi
  subst hi
  rw [hstep,if_neg (by omega)]
noncomputable def tr (p:Prop):Bool:=@decide p (Classical.propDecidable p)
theorem ZnX {p:Prop} {b:Bool} (h:b=true↔p):tr p=b:=by
 unfold tr
 cases b
 ·simp at h;simp [h]
 ·simp at h;simp [h]
theorem Xx (p:Prop):tr p=true↔p:=by simp [tr]
theorem Yc {p:Prop} (h:p):tr p=true:=(Xx p).2 h
theorem Z7 {p:Prop} (h:¬p):tr p=false:=by simp [tr,h]
/-
  Ground of the plain laws: the usual loops.
-/
def Len {α:Type} (l:List α):Prop:=l.length≤4611686018427387904
theorem ZsM {k:Nat} {α:Type} {l:List α} (hl:Len l) (hk:k≤l.length):Wq ((k:Int)+1)=((k+1:Nat):Int):=by
 have:l.length≤4611686018427387904:=hl
 rw [YZ (by omega) (by omega)];simp
def ZbR {α:Type} (p:α→Bool) (l:List α):Int:=match l.findIdx? p with
 | some i=>i
 | none=>-1
theorem Zay {α:Type} {p:α→Bool} {l:List α}:0≤ZbR p l↔l.any p=true:=by
 unfold ZbR
 split
 ·rename_i i h
  obtain ⟨h1,h2,_⟩:=List.findIdx?_eq_some_iff_getElem.1 h
  refine ⟨fun _=>List.any_eq_true.2 ⟨_,List.getElem_mem h1,h2⟩,fun _=>by omega⟩
 ·rename_i h
  rw [List.findIdx?_eq_none_iff] at h
  refine ⟨fun h'=>by omega,fun h'=>?_⟩
  obtain ⟨x,hx,hp⟩:=List.any_eq_true.1 h'
  have:=h x hx
  rw [hp] at this;cases this
theorem JC {α ρ:Type} {l:List α} (hl:Len l) {p:α→Bool} {step:Int×Unit→Option ((Int×Unit) ⊕ ρ)} {out:Int→ρ}
  (hs:∀ (k:Nat) (x:α),l[k]?=some x→step ((k:Int),())=some (if p x=true then .inr (out k) else .inl (Wq ((k:Int)+1),())))
  (hx:step ((l.length:Int),())=some (.inr (out (-1)))):Zm step (0,())=some (out (ZbR p l)):=by
 refine ZY l.length (fun k v=>v.1=(k:Int)∧∀ x∈l.take k,p x=false) _ ⟨rfl,by simp⟩ ?_ ?_
 ·rintro k ⟨i,⟨⟩⟩ hk ⟨hi,hS⟩
  simp only at hi
  subst hi
  have hx:l[k]?=some l[k]:=List.getElem?_eq_getElem hk
  rw [hs k _ hx,ZsM hl (by omega)]
  split
  ·rename_i hp
   right
   have:l.findIdx? p=some k:=by
    rw [List.findIdx?_eq_some_iff_getElem]
    refine ⟨hk,hp,fun j hj=>?_⟩
    have:=hS l[j] (List.mem_iff_getElem?.2 ⟨j,by rw [List.getElem?_take,if_pos hj];exact List.getElem?_eq_getElem _⟩)
    simp [this]
   unfold ZbR
   rw [this]
  ·rename_i hp
   refine .inl ⟨_,rfl,rfl,?_⟩
   rw [YP hx]
   intro y hy
   rcases List.mem_append.1 hy with hy | hy
   ·exact hS y hy
   ·simp at hy;subst hy;simpa using hp
 ·rintro ⟨i,⟨⟩⟩ ⟨hi,hS⟩
  simp only at hi
  subst hi
  rw [List.take_length] at hS
  have:l.findIdx? p=none:=List.findIdx?_eq_none_iff.2 hS
  rw [hx]
  unfold ZbR
  rw [this]
def foldI {α σ:Type} (f:Nat→α→σ→σ):Nat→List α→σ→σ
 | _,[],s=>s
 | k,x::r,s=>foldI f (k+1) r (f k x s)
theorem Ze0 {α σ:Type} (f:Nat→α→σ→σ):∀ (l r:List α) (m:Nat) (s:σ),foldI f m (l++r) s=foldI f (m+l.length) r (foldI f m l s)
 | [],r,m,s=>by simp [foldI]
 | x::l,r,m,s=>by
  simp only [List.cons_append,foldI,List.length_cons,Ze0 f l r]
  rw [show m+1+l.length=m+(l.length+1) by omega]
theorem Zes {α σ:Type} {f:Nat→α→σ→σ} {l:List α} {k:Nat} {x:α} (hx:l[k]?=some x) (s:σ):foldI f 0 (l.take (k+1)) s=f k x (foldI f 0 (l.take k) s):=by
 have hk:=(List.getElem?_eq_some_iff.1 hx).1
 rw [YP hx,Ze0]
 simp only [foldI,Nat.zero_add,List.length_take]
 rw [show min k l.length=k by omega]
theorem Zet {α σ τ ρ:Type} {l:List α} (hl:Len l) (pack:σ→Int→τ) {f:Nat→α→σ→σ} {step:τ→Option (τ ⊕ ρ)} {s0:σ} {R:ρ} (I:Nat→σ→Prop) (h0:I 0 s0)
  (hs:∀ (k:Nat) (x:α) (s:σ),l[k]?=some x→I k s→s=foldI f 0 (l.take k) s0→step (pack s (k:Int))=some (.inl (pack (f k x s) (Wq ((k:Int)+1))))∧I (k+1) (f k x s))
  (hx:∀ s,I l.length s→s=foldI f 0 l s0→step (pack s (l.length:Int))=some (.inr R)):Zm step (pack s0 0)=some R:=by
 refine ZY l.length (fun k v=>v=pack (foldI f 0 (l.take k) s0) (k:Int)∧I k (foldI f 0 (l.take k) s0)) _ ⟨rfl,h0⟩ ?_ ?_
 ·rintro k _ hk ⟨rfl,hI⟩
  have hx:l[k]?=some l[k]:=List.getElem?_eq_getElem hk
  obtain ⟨h1,h2⟩:=hs k _ _ hx hI rfl
  rw [h1,ZsM hl (by omega)]
  exact .inl ⟨_,rfl,by rw [Zes hx],by rw [Zes hx];exact h2⟩
 ·rintro _ ⟨rfl,hI⟩
  rw [List.take_length] at hI ⊢
  exact hx _ hI rfl
theorem Zme {α β:Type} (g:α→β):∀ (l:List α) (m:Nat) (acc:List β),foldI (fun _ x s=>s++[g x]) m l acc=acc++l.map g
 | [],_,_=>by simp [foldI]
 | x::l,m,acc=>by simp [foldI,Zme g l]
theorem Zrz {α β τ ρ:Type} {l:List α} (hl:Len l) (pack:List β→Int→τ) {g:α→β} {step:τ→Option (τ ⊕ ρ)} {s0:List β} {R:ρ}
  (hs:∀ (k:Nat) (x:α),l[k]?=some x→∀ s,s=s0++(l.take k).map g→step (pack s (k:Int))=some (.inl (pack (s++[g x]) (Wq ((k:Int)+1)))))
  (hx:step (pack (s0++l.map g) (l.length:Int))=some (.inr R)):Zm step (pack s0 0)=some R:=by
 refine Zet hl pack (f:=fun _ x s=>s++[g x]) (fun _ _=>True) trivial (fun k x s hk _ he=>⟨hs k x hk s (by rw [he,Zme]),trivial⟩) (fun s _ he=>?_)
 rw [he,Zme];exact hx
noncomputable def sel {ρ:Type} (P:Prop) (a b:ρ):ρ:=match tr P with
 | true=>a
 | false=>b
theorem XU {ρ:Type} {P:Prop} (h:P) (a b:ρ):sel P a b=a:=by simp [sel,Yc h]
theorem Xu {ρ:Type} {P:Prop} (h:¬P) (a b:ρ):sel P a b=b:=by simp [sel,Z7 h]
theorem ZhM (P:Prop):sel P true false=tr P:=by
 by_cases h:P
 ·rw [XU h,Yc h]
 ·rw [Xu h,Z7 h]
def Zeq {α:Type} (l:List α) (P:Nat→α→Prop):Prop:=∀ (k:Nat) (x:α),l[k]?=some x→P k x
theorem QX {α ρ:Type} {l:List α} (hl:Len l) (P:Nat→α→Prop) {step:Int×Unit→Option ((Int×Unit) ⊕ ρ)} {bad good:ρ}
  (hs:∀ (k:Nat) (x:α),l[k]?=some x→k<l.length→(∀ (j:Nat) (y:α),j<k→l[j]?=some y→P j y)→(P k x→step ((k:Int),())=some (.inl (Wq ((k:Int)+1),())))∧(¬P k x→step ((k:Int),())=some (.inr bad)))
  (hx:Zeq l P→step ((l.length:Int),())=some (.inr good)):Zm step (0,())=some (sel (Zeq l P) good bad):=by
 refine ZY l.length (fun k v=>v.1=(k:Int)∧∀ (j:Nat) (y:α),j<k→l[j]?=some y→P j y) _ ⟨rfl,fun j y hj=>by omega⟩ ?_ ?_
 ·rintro k ⟨i,⟨⟩⟩ hk ⟨hi,hS⟩
  simp only at hi
  subst hi
  have hx:l[k]?=some l[k]:=List.getElem?_eq_getElem hk
  obtain ⟨h1,h2⟩:=hs k _ hx hk hS
  by_cases hP:P k l[k]
  ·rw [h1 hP,ZsM hl (by omega)]
   refine .inl ⟨_,rfl,rfl,fun j y hj hy=>?_⟩
   by_cases hjk:j<k
   ·exact hS j y hjk hy
   ·have:j=k:=by omega
    subst this
    rw [hx] at hy;injection hy with hy;subst hy
    exact hP
  ·right
   rw [h2 hP,Xu (fun h=>hP (h k _ hx))]
 ·rintro ⟨i,⟨⟩⟩ ⟨hi,hS⟩
  simp only at hi
  subst hi
  have hA:Zeq l P:=fun k x hk=>hS k x (List.getElem?_eq_some_iff.1 hk).1 hk
  rw [hx hA,XU hA]
theorem Zrx {ρ:Type} (m n:Nat) (hmn:m≤n) (hn:n≤4611686018427387904) (P:Nat→Prop) {step:Int×Unit→Option ((Int×Unit) ⊕ ρ)} {bad good:ρ}
  (hs:∀ k:Nat,m≤k→k<n→(∀ j,m≤j→j<k→P j)→(P k→step ((k:Int),())=some (.inl (Wq ((k:Int)+1),())))∧(¬P k→step ((k:Int),())=some (.inr bad)))
  (hx:(∀ j,m≤j→j<n→P j)→step ((n:Int),())=some (.inr good)):Zm step ((m:Int),())=some (sel (∀ j,m≤j→j<n→P j) good bad):=by
 refine ZY (n-m) (fun k v=>v.1=((m+k:Nat):Int)∧∀ j,m≤j→j<m+k→P j) _ ⟨by simp,fun j h1 h2=>by omega⟩ ?_ ?_
 ·rintro k ⟨i,⟨⟩⟩ hk ⟨hi,hS⟩
  simp only at hi
  subst hi
  obtain ⟨h1,h2⟩:=hs (m+k) (by omega) (by omega) hS
  by_cases hP:P (m+k)
  ·rw [h1 hP,YZ (by omega) (by omega)]
   refine .inl ⟨_,rfl,by simp only;omega,fun j ha hb=>?_⟩
   by_cases hj:j<m+k
   ·exact hS j ha hj
   ·have:j=m+k:=by omega
    subst this;exact hP
  ·right
   rw [h2 hP,Xu (fun h=>hP (h (m+k) (by omega) (by omega)))]
 ·rintro ⟨i,⟨⟩⟩ ⟨hi,hS⟩
  simp only at hi
  subst hi
  have e:m+(n-m)=n:=by omega
  rw [e] at hS ⊢
  rw [hx hS,XU hS]
/-
  Ground of the plain laws: all lengths together; how many numbers there are; marks.
-/
def tot:(t:Ty)→t.den→Nat
 | .str,s=>s.length
 | .sl t,l=>l.length+(l.map (tot t)).sum
 | .pair a b,d=>tot a d.1+tot b d.2
 | _,_=>0
def Szt (o:Option Int) (left:Int) (T:Nat):Prop:=∀ n,o=some n→0≤n→n+(T:Int)≤left
theorem Szt.mono {o:Option Int} {left:Int} {T T':Nat} (h:Szt o left T) (ht:T'≤T):Szt o left T':=fun n h1 h2=>by
 have:=h n h1 h2
 omega
theorem Szt.then {o:Option Int} {left:Int} {T1 T2:Nat} (h:Szt o left T1) (h0:0≤left) (hl:left≤1048576) {F:Int→Option Int} (h2:∀ n,0≤n→n≤1048576→Szt (F n) n T2) :
  Szt (o.bind fun n=>if n<0 then some (-1) else F n) left (T1+T2):=by
 intro m hm hm0
 cases ho:o with
 | none=>rw [ho] at hm;cases hm
 | some n =>
  rw [ho,Bq] at hm
  by_cases hn:n<0
  ·rw [if_pos hn] at hm;injection hm;omega
  ·rw [if_neg hn] at hm
   have a:=h n ho (by omega)
   have b:=h2 n (by omega) (by omega) m hm hm0
   omega
theorem Szt.last {o:Option Int} {left:Int} {T:Nat} (h:Szt o left T):Szt (o.bind fun n=>if n<0 then some (-1) else some n) left T:=by
 intro m hm hm0
 cases ho:o with
 | none=>rw [ho] at hm;cases hm
 | some n =>
  rw [ho,Bq] at hm
  by_cases hn:n<0
  ·rw [if_pos hn] at hm;injection hm;omega
  ·rw [if_neg hn] at hm
   injection hm with hm
   subst hm
   exact h n ho hm0
theorem Szt.len {left n:Int} {T:Nat} {B:Option Int} (h0:0≤left) (hl:left≤1048576) (hn:0≤n) (hb:n≤9223372036854775807)
  (h2:Wq (left-n)=left-n→0≤left-n→left-n≤1048576→Szt B (left-n) T) :
  Szt (if Wq (left-n)<0 then some (-1) else B) left (n.toNat+T):=by
 have hw:=YZ (n:=left-n) (by omega) (by omega)
 intro m hm hm0
 rw [hw] at hm
 by_cases hneg:left-n<0
 ·rw [if_pos hneg] at hm;injection hm;omega
 ·rw [if_neg hneg] at hm
  have:=h2 hw (by omega) (by omega) m hm hm0
  omega
theorem Szt.ret {left:Int}:Szt (some left) left 0:=fun n h _=>by injection h;omega
theorem Szt.loop {α:Type} {l:List α} {f:α→Int→Option Int} {P:α→Prop} {T:α→Nat} {step:Int×Int×Unit→Option ((Int×Int×Unit) ⊕ Int)}
  (hf:∀ x∈l,∀ m,0≤m→m≤1048576→Szd (f x m) m (P x)) (ht:∀ x∈l,∀ m,0≤m→m≤1048576→Szt (f x m) m (T x))
  (hstep:∀ (k:Nat) (m:Int),step (m,(k:Int),())=if (k:Int)<(l.length:Int) then (atI l (k:Int)).bind fun x=>(f x m).bind fun n=>if n<0 then some (.inr (-1)) else some (.inl (n,Wq ((k:Int)+1),())) else some (.inr m))
  {left:Int} (h0:0≤left) (h1:left≤1048576) (hl:(l.length:Int)≤1048576):Szt (Zm step (left,0,())) left (l.map T).sum:=by
 have:∃ r,Zm step (left,0,())=some r∧(0≤r→r+((l.map T).sum:Int)≤left):=by
  refine VE l.length (fun k v=>v.2.1=(k:Int)∧0≤v.1∧v.1+(((l.take k).map T).sum:Int)≤left) _ ⟨rfl,h0,by simp⟩ ?_ ?_
  ·rintro k ⟨m,i,⟨⟩⟩ hk ⟨hi,hm0,hm1⟩
   simp only at hi hm0 hm1
   subst hi
   have hx:l[k]?=some l[k]:=List.getElem?_eq_getElem hk
   generalize l[k]=x at hx
   rw [hstep,if_pos (by omega),Zn,hx,Bq]
   obtain ⟨n,e,hn,hPx⟩:=hf x (List.mem_of_getElem? hx) m hm0 (by omega)
   rw [e,Bq]
   split
   ·exact .inr ⟨-1,rfl,fun h=>by omega⟩
   ·rename_i hneg
    have:=ht x (List.mem_of_getElem? hx) m hm0 (by omega) n e (by omega)
    rw [YZ (by omega) (by omega)]
    refine .inl ⟨_,rfl,by simp,by dsimp only;omega,?_⟩
    rw [YP hx,List.map_append,List.sum_append]
    simp only [List.map_cons,List.map_nil,List.sum_cons,List.sum_nil]
    omega
  ·rintro ⟨m,i,⟨⟩⟩ ⟨hi,hm0,hm1⟩
   simp only at hi hm0 hm1
   subst hi
   rw [List.take_length] at hm1
   rw [hstep,if_neg (by omega)]
   exact ⟨m,rfl,fun _=>hm1⟩
 obtain ⟨r,h2,h3⟩:=this
 intro n hn hn0
 rw [h2] at hn
 injection hn with hn
 subst hn
 exact h3 hn0
theorem Zne:∀ (t:Ty),Ty.fixed t=true→∀ d:t.den,tot t d=0
 | .int _,_,_=>rfl
 | .bool,_,_=>rfl
 | .unit,_,_=>rfl
 | .ptr _,_,_=>rfl
 | .fn _ _,_,_=>rfl
 | .nptr _,_,_=>rfl
 | .mp _ _,_,_=>rfl
 | .str,h,_=>by simp [Ty.fixed] at h
 | .sl _,h,_=>by simp [Ty.fixed] at h
 | .pair a b,h,d=>by
  simp only [Ty.fixed,Bool.and_eq_true] at h
  simp only [tot,Zne a h.1 d.1,Zne b h.2 d.2]
theorem Zke {t:Ty} (h:Ty.fixed t=true) (l:List t.den):(l.map (tot t)).sum=0:=by
 induction l with
 | nil=>rfl
 | cons x r ih=>simp only [List.map_cons,List.sum_cons,Zne t h x,ih]
theorem ZcM (a b:Ty) (d:(Ty.pair a b).den):tot (.pair a b) d=tot a d.1+tot b d.2:=rfl
theorem ZgR (t:Ty) (l:List t.den):tot (.sl t) l=l.length+(l.map (tot t)).sum:=rfl
theorem ZdZ (s:List UInt8):tot .str s=s.length:=rfl
theorem ZeR (k:IntKind) (n:Int):tot (.int k) n=0:=rfl
theorem ZcL (b:Bool):tot .bool b=0:=rfl
theorem ZcN (b:Unit):tot .unit b=0:=rfl
theorem Szt.str (x:List UInt8) (m:Int) (m0:0≤m) (m1:m≤1048576) (hb:(x.length:Int)≤9223372036854775807) :
  Szt (if Wq (m-(x.length:Int))<0 then some (-1) else some (Wq (m-(x.length:Int)))) m (tot .str x):=by
 have h:Szt (if Wq (m-(x.length:Int))<0 then some (-1) else some (Wq (m-(x.length:Int)))) m ((x.length:Int).toNat+0) :=
  Szt.len m0 m1 (by omega) hb (fun hw _ _=>by rw [hw];exact Szt.ret)
 refine h.mono ?_
 rw [ZdZ]
 omega
theorem Szd.str (x:List UInt8) (m:Int) (m0:0≤m) (m1:m≤1048576) (hb:(x.length:Int)≤9223372036854775807) :
  Szd (if Wq (m-(x.length:Int))<0 then some (-1) else some (Wq (m-(x.length:Int)))) m (sm .str x) :=
 Szd.len m0 m1 (by omega) hb (fun hw _ _ hn=>by rw [hw];exact Szd.ret hn)
def cnt:(t:Ty)→t.den→Nat
 | .int _,_=>1
 | .bool,_=>1
 | .str,_=>1
 | .sl t,l=>(l.map (cnt t)).sum
 | .pair a b,d=>cnt a d.1+cnt b d.2
 | _,_=>0
theorem Zav (a b:Ty) (d:(Ty.pair a b).den):cnt (.pair a b) d=cnt a d.1+cnt b d.2:=rfl
theorem ZcT (s:List UInt8):cnt .str s=1:=rfl
theorem Zb6 (k:IntKind) (n:Int):cnt (.int k) n=1:=rfl
theorem Zau (b:Bool):cnt .bool b=1:=rfl
theorem Zaw (b:Unit):cnt .unit b=0:=rfl
def wid:Ty→Nat
 | .int _=>1
 | .bool=>1
 | .str=>1
 | .pair a b=>wid a+wid b
 | _=>0
def ZcO:Ty→Nat
 | .sl t=>max (wid t) (ZcO t)
 | .pair a b=>max (ZcO a) (ZcO b)
 | _=>0
theorem Zn6:∀ (t:Ty) (d:t.den),cnt t d≤wid t+ZcO t*tot t d
 | .int _,_=>by simp [cnt,wid]
 | .bool,_=>by simp [cnt,wid]
 | .str,_=>by simp [cnt,wid]
 | .unit,_=>by simp [cnt]
 | .ptr _,_=>by simp [cnt]
 | .fn _ _,_=>by simp [cnt]
 | .nptr _,_=>by simp [cnt]
 | .mp _ _,_=>by simp [cnt]
 | .pair a b,d=>by
  have h1:=Zn6 a d.1
  have h2:=Zn6 b d.2
  have h3:ZcO a*tot a d.1≤max (ZcO a) (ZcO b)*tot a d.1:=Nat.mul_le_mul_right _ (Nat.le_max_left _ _)
  have h4:ZcO b*tot b d.2≤max (ZcO a) (ZcO b)*tot b d.2:=Nat.mul_le_mul_right _ (Nat.le_max_right _ _)
  simp only [cnt,wid,ZcO,tot,Nat.mul_add]
  omega
 | .sl t,l=>by
  have:(l.map (cnt t)).sum≤wid t*l.length+ZcO t*(l.map (tot t)).sum:=by
   induction l with
   | nil=>simp
   | cons x r ih =>
    have:=Zn6 t x
    simp only [List.map_cons,List.sum_cons,List.length_cons,Nat.mul_add]
    omega
  have h1:wid t*l.length≤max (wid t) (ZcO t)*l.length:=Nat.mul_le_mul_right _ (Nat.le_max_left _ _)
  have h2:ZcO t*(l.map (tot t)).sum≤max (wid t) (ZcO t)*(l.map (tot t)).sum:=Nat.mul_le_mul_right _ (Nat.le_max_right _ _)
  simp only [cnt,wid,ZcO,tot,Nat.mul_add]
  omega
def Mkd {α:Type} (o:Option (Int×α)) (k:Int) (c:Nat):Prop:=∃ a',o=some (k+(c:Int),a')
theorem ZdQ {α:Type} {L:List α} {j:Nat} {y:α} (h:j<L.length):atI (List.set L j y) (j:Int)=some y:=by
 rw [Zn,List.getElem?_set_self h]
theorem Mkd.loop {α:Type} {l:List α} {c:α→Nat} {step:Int×Int×List α×Unit→Option ((Int×Int×List α×Unit) ⊕ (Int×List α))} {k:Int}
  (hstep:∀ (j:Nat) (m:Int) (x:α) (L:List α),j<L.length→(j:Int)<(L.length:Int)→L.length=l.length→L[j]?=some x→x∈l→0≤m→m+(c x:Int)≤4611686018427387904→(j:Int)≤1048576→∃ y,step (m,(j:Int),L,())=some (.inl (m+(c x:Int),((j+1:Nat):Int),List.set L j y,())))
  (hend:∀ (m:Int) (L:List α),L.length=l.length→step (m,(L.length:Int),L,())=some (.inr (m,L)))
  (hl:l.length≤1048576) (h0:0≤k) (h1:k+((l.map c).sum:Int)≤4611686018427387904):Mkd (Zm step (k,0,l,())) k (l.map c).sum:=by
 have:∃ r,Zm step (k,0,l,())=some r∧r.1=k+((l.map c).sum:Int):=by
  refine VE l.length (fun j v=>v.1=k+(((l.take j).map c).sum:Int)∧v.2.1=(j:Int)∧v.2.2.1.length=l.length∧∀ i,j≤i→v.2.2.1[i]?=l[i]?) _ ⟨by simp,rfl,rfl,fun i _=>rfl⟩ ?_ ?_
  ·rintro j ⟨m,i,L,⟨⟩⟩ hj ⟨hm,hi,hL,hrest⟩
   simp only at hm hi hL hrest
   subst hi
   have hx:l[j]?=some l[j]:=List.getElem?_eq_getElem hj
   have hsum:(l.map c).sum=((l.take j).map c).sum+(c l[j]+((l.drop (j+1)).map c).sum):=by
    have e:l=l.take j++(l[j]::l.drop (j+1)):=by rw [←List.drop_eq_getElem_cons hj,List.take_append_drop]
    have e2:=congrArg (fun l=>(l.map c).sum) e
    simp only [List.map_append,List.sum_append,List.map_cons,List.sum_cons] at e2
    exact e2
   obtain ⟨y,hy⟩:=hstep j m l[j] L (by omega) (by omega) hL (by rw [hrest j (Nat.le_refl _)];exact hx) (List.mem_of_getElem? hx) (by omega) (by omega) (by omega)
   left
   refine ⟨_,hy,?_,rfl,by simp [hL],fun i hi=>?_⟩
   ·rw [YP hx,List.map_append,List.sum_append]
    simp only [List.map_cons,List.map_nil,List.sum_cons,List.sum_nil]
    omega
   ·simp only
    rw [List.getElem?_set_ne (by omega)]
    exact hrest i (by omega)
  ·rintro ⟨m,i,L,⟨⟩⟩ ⟨hm,hi,hL,_⟩
   simp only at hm hi hL
   subst hi
   rw [List.take_length] at hm
   rw [←hL,hend m L hL]
   exact ⟨_,rfl,hm⟩
 obtain ⟨r,h2,h3⟩:=this
 exact ⟨r.2,by rw [h2,←h3]⟩
/-
  Ground of the plain laws: what marking makes of a value, and that the marks are held.
-/
def mkL {α:Type} (f:α→Int→α) (c:α→Nat):List α→Int→List α
 | [],_=>[]
 | x::r,k=>f x k::mkL f c r (k+(c x:Int))
def mkA (mt:Int→List UInt8):(t:Ty)→t.den→Int→t.den
 | .int _,_,k=>k
 | .str,_,k=>mt k
 | .bool,_,k=>decide (Int.tmod k 3=0)
 | .pair a b,d,k=>(mkA mt a d.1 k,mkA mt b d.2 (k+(cnt a d.1:Int)))
 | .sl t,l,k=>mkL (mkA mt t) (cnt t) l k
 | .unit,d,_=>d
 | .ptr _,d,_=>d
 | .fn _ _,d,_=>d
 | .nptr _,d,_=>d
 | .mp _ _,d,_=>d
def ZFD:(t:Ty)→t.den→Nat
 | .pair a b,d=>ZFD a d.1+ZFD b d.2
 | .sl t,l=>cnt (.sl t) l
 | _,_=>0
def mkT (mt:Int→List UInt8):(t:Ty)→t.den→Int→t.den
 | .pair a b,d,k=>(mkT mt a d.1 k,mkT mt b d.2 (k+(ZFD a d.1:Int)))
 | .sl t,l,k=>mkL (mkA mt t) (cnt t) l k
 | .int _,d,_=>d
 | .str,d,_=>d
 | .bool,d,_=>d
 | .unit,d,_=>d
 | .ptr _,d,_=>d
 | .fn _ _,d,_=>d
 | .nptr _,d,_=>d
 | .mp _ _,d,_=>d
theorem ZEN {α:Type} (f:α→Int→α) (c:α→Nat):∀ (l:List α) (k:Int),(mkL f c l k).length=l.length
 | [],_=>rfl
 | x::r,k=>by simp only [mkL,List.length_cons,ZEN f c r]
theorem ZFR {α:Type} (f:α→Int→α) (c:α→Nat):∀ (l:List α) (k:Int) (j:Nat),(mkL f c l k)[j]?=(l[j]?).map (fun x=>f x (k+(((l.take j).map c).sum:Int)))
 | [],k,j=>by simp [mkL]
 | x::r,k,0=>by simp [mkL]
 | x::r,k,j+1=>by
  simp only [mkL,List.getElem?_cons_succ,ZFR f c r,List.take_succ_cons,List.map_cons,List.sum_cons]
  congr 1
  funext y
  congr 1
  omega
theorem ZFv {α:Type} (f:α→Int→α) (c:α→Nat):∀ (l r:List α) (k:Int),mkL f c (l++r) k=mkL f c l k++mkL f c r (k+((l.map c).sum:Int))
 | [],r,k=>by simp [mkL]
 | x::l,r,k=>by
  simp only [List.cons_append,mkL,ZFv f c l r,List.map_cons,List.sum_cons]
  congr 3
  omega
theorem ZF3 {α:Type} {f:α→Int→α} {c:α→Nat} {l:List α} {k:Int} {j:Nat} {x:α} (hx:l[j]?=some x):mkL f c (l.take (j+1)) k=mkL f c (l.take j) k++[f x (k+(((l.take j).map c).sum:Int))]:=by
 rw [YP hx,ZFv];rfl
theorem ZFS {α:Type} {l:List α} {f:α→Int→α} {c:α→Nat} {step:Int×Int×List α×Unit→Option ((Int×Int×List α×Unit) ⊕ (Int×List α))} {k:Int}
  (hstep:∀ (j:Nat) (m:Int) (x:α) (L:List α),j<L.length→(j:Int)<(L.length:Int)→L[j]?=some x→x∈l→0≤m→m+(c x:Int)≤4611686018427387904→(j:Int)≤1048576→step (m,(j:Int),L,())=some (.inl (m+(c x:Int),((j+1:Nat):Int),List.set L j (f x m),())))
  (hend:∀ (m:Int) (L:List α),step (m,(L.length:Int),L,())=some (.inr (m,L)))
  (hl:l.length≤1048576) (h0:0≤k) (h1:k+((l.map c).sum:Int)≤4611686018427387904):Zm step (k,0,l,())=some (k+((l.map c).sum:Int),mkL f c l k):=by
 refine ZY l.length (fun j v=>v.1=k+(((l.take j).map c).sum:Int)∧v.2.1=(j:Int)∧v.2.2.1=mkL f c (l.take j) k++l.drop j) _ ⟨by simp,rfl,by simp [mkL]⟩ ?_ ?_
 ·rintro j ⟨m,i,L,⟨⟩⟩ hj ⟨hm,hi,hL⟩
  simp only at hm hi hL
  subst hi
  have hx:l[j]?=some l[j]:=List.getElem?_eq_getElem hj
  generalize hxv:l[j]=x at hx
  have hlen:(mkL f c (l.take j) k).length=j:=by rw [ZEN,List.length_take];omega
  have hd:l.drop j=x::l.drop (j+1):=by rw [List.drop_eq_getElem_cons hj,hxv]
  have hLl:L.length=l.length:=by rw [hL,List.length_append,hlen,List.length_drop];omega
  have hLx:L[j]?=some x:=by rw [hL,List.getElem?_append_right (by omega),hlen,Nat.sub_self,hd];rfl
  have hsum:(l.map c).sum=((l.take j).map c).sum+(c x+((l.drop (j+1)).map c).sum):=by
   have e:l=l.take j++(x::l.drop (j+1)):=by rw [←hd,List.take_append_drop]
   have e2:=congrArg (fun l=>(l.map c).sum) e
   simp only [List.map_append,List.sum_append,List.map_cons,List.sum_cons] at e2
   exact e2
  left
  refine ⟨_,hstep j m x L (by omega) (by omega) hLx (List.mem_of_getElem? hx) (by omega) (by omega) (by omega),?_,rfl,?_⟩
  ·rw [YP hx,List.map_append,List.sum_append]
   simp only [List.map_cons,List.map_nil,List.sum_cons,List.sum_nil]
   omega
  ·simp only
   rw [hL,ZF3 hx,List.set_append,if_neg (by omega),hlen,Nat.sub_self,hd,hm]
   simp
 ·rintro ⟨m,i,L,⟨⟩⟩ ⟨hm,hi,hL⟩
  simp only at hm hi hL
  subst hi
  rw [List.take_length,List.drop_length,List.append_nil] at hL
  rw [List.take_length] at hm
  subst hL
  rw [←ZEN f c l k,hend,hm]
theorem ZFy {α:Type} {l:List α} {f:α→Int→α} {c:α→Nat} {step:Int×Int×Unit→Option ((Int×Int×Unit) ⊕ Int)} {k:Int}
  (hstep:∀ (j:Nat) (m:Int) (x:α),(j:Int)<((mkL f c l k).length:Int)→(mkL f c l k)[j]?=some (f x m)→x∈l→0≤m→m+(c x:Int)≤4611686018427387904→(j:Int)≤1048576→step (m,(j:Int),())=some (.inl (m+(c x:Int),((j+1:Nat):Int),())))
  (hend:∀ (m:Int),step (m,((mkL f c l k).length:Int),())=some (.inr m))
  (hl:l.length≤1048576) (h0:0≤k) (h1:k+((l.map c).sum:Int)≤4611686018427387904):Zm step (k,0,())=some (k+((l.map c).sum:Int)):=by
 refine ZY l.length (fun j v=>v.1=k+(((l.take j).map c).sum:Int)∧v.2.1=(j:Int)) _ ⟨by simp,rfl⟩ ?_ ?_
 ·rintro j ⟨m,i,⟨⟩⟩ hj ⟨hm,hi⟩
  simp only at hm hi
  subst hi
  have hx:l[j]?=some l[j]:=List.getElem?_eq_getElem hj
  generalize hxv:l[j]=x at hx
  have hsum:(l.map c).sum=((l.take j).map c).sum+(c x+((l.drop (j+1)).map c).sum):=by
   have hd:l.drop j=x::l.drop (j+1):=by rw [List.drop_eq_getElem_cons hj,hxv]
   have e:l=l.take j++(x::l.drop (j+1)):=by rw [←hd,List.take_append_drop]
   have e2:=congrArg (fun l=>(l.map c).sum) e
   simp only [List.map_append,List.sum_append,List.map_cons,List.sum_cons] at e2
   exact e2
  left
  refine ⟨_,hstep j m x (by rw [ZEN];omega) (by rw [ZFR,hx,hm];rfl) (List.mem_of_getElem? hx) (by omega) (by omega) (by omega),?_,rfl⟩
  rw [YP hx,List.map_append,List.sum_append]
  simp only [List.map_cons,List.map_nil,List.sum_cons,List.sum_nil]
  omega
 ·rintro ⟨m,i,⟨⟩⟩ ⟨hm,hi⟩
  simp only at hm hi
  subst hi
  rw [List.take_length] at hm
  rw [←ZEN f c l k,hend,hm]
theorem ZFx:∀ (t:Ty) (d:t.den),ZFD t d≤cnt t d
 | .pair a b,d=>Nat.add_le_add (ZFx a d.1) (ZFx b d.2)
 | .sl t,l=>Nat.le_refl _
 | .int _,_=>Nat.zero_le _
 | .bool,_=>Nat.zero_le _
 | .str,_=>Nat.zero_le _
 | .unit,_=>Nat.zero_le _
 | .ptr _,_=>Nat.zero_le _
 | .fn _ _,_=>Nat.zero_le _
 | .nptr _,_=>Nat.zero_le _
 | .mp _ _,_=>Nat.zero_le _
/-
  Plain laws: bounds, names.
-/
def within (n a b:Int):Bool:=decide (a≤n)&&decide (n≤b)
theorem JB (n a b:Int):YB n a b=some (within n a b):=by
 unfold YB within;split<;>simp [*]
theorem ZcD (n a b:Int):Yo n a b=some (within n a b):=by
 unfold Yo within;split<;>simp [*]
theorem within_iff (n a b:Int):within n a b=true↔a≤n∧n≤b:=by simp [within]
def Zfy (b:UInt8):Bool:=decide (97≤b.toNat)&&decide (b.toNat≤122)
def Zkv (b:UInt8):Bool:=decide (48≤b.toNat)&&decide (b.toNat≤57)
def Jv (s:List UInt8):Bool:=decide (1≤s.length)&&decide (s.length≤8)&&s.all (fun b=>Zfy b||Zkv b)&&(match s with
 | b::_=>Zfy b
 | []=>false)
def Zpn (s:List UInt8) (i:Nat):Prop:=∀ (j:Nat) (b:UInt8),j<i→s[j]?=some b→(Zfy b||Zkv b)=true∧(j=0→Zfy b=true)
theorem ZqT {s:List UInt8} {i:Nat} {x:UInt8} (h:Zpn s i) (hx:s[i]?=some x) (h1:(Zfy x||Zkv x)=true) (h2:i=0→Zfy x=true):Zpn s (i+1):=by
 intro j b hj hb
 by_cases e:j<i
 ·exact h j b e hb
 ·have:j=i:=by omega
  subst this
  rw [hx] at hb;injection hb with hb;subst hb
  exact ⟨h1,h2⟩
theorem Zo1 {s:List UInt8} (h:Zpn s s.length):Jv s=(decide (1≤s.length)&&decide (s.length≤8)):=by
 unfold Jv
 have h1:s.all (fun b=>Zfy b||Zkv b)=true:=by
  rw [List.all_eq_true]
  intro b hb
  obtain ⟨j,hj⟩:=List.mem_iff_getElem?.1 hb
  exact (h j b (List.getElem?_eq_some_iff.1 hj).1 hj).1
 rw [h1]
 cases s with
 | nil=>rfl
 | cons b r =>
  have:=(h 0 b (by simp) rfl).2 rfl
  simp [this]
theorem Zso {s:List UInt8} {j:Nat} {b:UInt8} (hb:s[j]?=some b) (h:(Zfy b||Zkv b)=false∨j=0∧Zfy b=false):Jv s=false:=by
 unfold Jv
 rcases h with h | ⟨rfl,h⟩
 ·have:s.all (fun b=>Zfy b||Zkv b)=false:=by
   rw [List.all_eq_false]
   exact ⟨b,List.mem_of_getElem? hb,by simp [h]⟩
  simp [this]
 ·cases s with
  | nil=>simp at hb
  | cons c r=>simp at hb;subst hb;simp [h]
theorem ZcF (s:List UInt8) (hl:s.length≤4611686018427387904):Zaq s=some (Jv s):=by
 unfold Zaq
 refine ZY s.length (fun k v=>v.1=(k:Int)∧Zpn s k) _ ⟨rfl,fun j b hj=>by omega⟩ ?_ ?_
 ·rintro k ⟨i,⟨⟩⟩ hk ⟨rfl,hS⟩
  have hx:s[k]?=some s[k]:=List.getElem?_eq_getElem hk
  generalize s[k]=x at hx
  simp only [ZcG,Zn,hx,Bq,show (k:Int)<(s.length:Int) from by omega,if_true,YZ (show (-9223372036854775808:Int)≤(k:Int)+1 by omega) (by omega)]
  have ok:(Zfy x||Zkv x)=true→(k=0→Zfy x=true)→(((k:Int)+1,()):Int×Unit).1=((k+1:Nat):Int)∧Zpn s (k+1):=fun h1 h2=>⟨by simp,ZqT hS hx h1 h2⟩
  have bad:((Zfy x||Zkv x)=false∨k=0∧Zfy x=false)→(some (Sum.inr false):Option (Int×Unit ⊕ Bool))=some (Sum.inr (Jv s)):=fun h=>by rw [Zso hx h]
  simp only [Zfy,Zkv] at ok bad
  repeat' split
  all_goals first
   | (left;refine ⟨_,rfl,ok ?_ ?_⟩<;>simp<;>omega)
   | (right;refine bad ?_;first | (left;simp;omega) | (right;simp;omega))
 ·rintro ⟨i,⟨⟩⟩ ⟨rfl,hS⟩
  simp only [ZcG,Int.lt_irrefl,if_false]
  rw [Zo1 hS]
  split
  ·rename_i h
   have h1:1≤s.length:=by omega
   have h2:decide ((s.length:Int)≤8)=decide (s.length≤8):=by rw [decide_eq_decide];omega
   simp [h1,h2]
  ·have h1:¬1≤s.length:=by omega
   simp [h1]
theorem dropWhile_nil {p:UInt8→Bool}:∀ (m:List UInt8),(∀ x∈m.dropWhile p,p x=true)→∀ x∈m,p x=true
 | [],_=>by simp
 | a::m,h=>by
  by_cases ha:p a=true
  ·rw [List.dropWhile_cons_of_pos ha] at h
   intro x hx
   rcases List.mem_cons.1 hx with rfl | hx
   ·exact ha
   ·exact dropWhile_nil m h x hx
  ·rw [List.dropWhile_cons_of_neg ha] at h
   exact absurd (h a (by simp)) ha
theorem Zjq {p:UInt8→Bool}:∀ (m:List UInt8),m.dropWhile p=[]↔∀ x∈m,p x=true
 | []=>by simp
 | a::m=>by
  by_cases ha:p a=true
  ·rw [List.dropWhile_cons_of_pos ha,Zjq m];simp [ha]
  ·rw [List.dropWhile_cons_of_neg ha];simp [ha]
theorem Zt8 (s cs:List UInt8):Lib.trimS s cs=[]↔∀ b∈s,cs.contains b=true:=by
 unfold Lib.trimS Lib.trimLeftS Lib.trimRightS
 rw [Zjq]
 constructor
 ·intro h b hb
  exact dropWhile_nil s.reverse (fun x hx=>h x (List.mem_reverse.2 hx)) b (List.mem_reverse.2 hb)
 ·intro h b hb
  exact h b (List.mem_reverse.1 ((List.dropWhile_sublist _).subset (List.mem_reverse.1 hb)))
def letters:List UInt8:=[97,98,99,100,101,102,103,104,105,106,107,108,109,110,111,112,113,114,115,116,117,118,119,120,121,122]
def Zgm:List UInt8:=letters++[48,49,50,51,52,53,54,55,56,57]
theorem Zvm {p:UInt8→Bool} (h:(List.range 256).all (fun n=>p (UInt8.ofNat n))=true) (b:UInt8):p b=true:=by
 rw [List.all_eq_true] at h
 have:=h b.toNat (List.mem_range.2 b.toNat_lt)
 simpa using this
theorem ZgT (b:UInt8):Zgm.contains b=(Zfy b||Zkv b):=by
 have:=Zvm (p:=fun b=>Zgm.contains b == (Zfy b||Zkv b)) (by decide +kernel) b
 simpa using this
theorem Zqf (s:List UInt8):Lib.trimS s Zgm=[]↔s.all (fun b=>Zfy b||Zkv b)=true:=by
 rw [Zt8,List.all_eq_true]
 simp only [ZgT]
theorem ZoP (b:UInt8):decide (0≤(Lib.indexByte letters b:Int))=Zfy b:=by
 have:=Zvm (p:=fun b=>decide (0≤(Lib.indexByte letters b:Int)) == Zfy b) (by decide +kernel) b
 simpa using this
theorem Zfx (s:List UInt8):ZcY s=some (Jv s):=by
 unfold ZcY
 rw [JB,Bq]
 split
 ·rename_i h
  rw [within_iff] at h
  rw [Zh (by omega)]
  split
  ·rename_i ht
   have ht':=(Zqf s).1 ht
   cases s with
   | nil=>simp at h
   | cons b r =>
    have e:atI (b::r) (0:Int)=some b:=rfl
    rw [e,Bq]
    have e1:((b.toNat:Int)).toNat.toUInt8=b:=by simp
    rw [e1]
    have h1:1≤(b::r).length:=by simp
    have h2:(b::r).length≤8:=by omega
    have:=ZoP b
    unfold letters at this
    rw [this]
    simp only [Jv,ht',decide_eq_true h1,decide_eq_true h2,Bool.true_and]
  ·rename_i ht
   have ht':¬s.all (fun b=>Zfy b||Zkv b)=true:=fun e=>ht ((Zqf s).2 e)
   simp only [Jv,Bool.eq_false_iff.2 ht',Bool.and_false,Bool.false_and]
 ·rename_i h
  rw [within_iff] at h
  have:¬(1≤s.length∧s.length≤8):=by omega
  rw [eq_comm]
  congr 1
  rw [Bool.eq_false_iff]
  intro hh
  simp only [Jv,Bool.and_eq_true,decide_eq_true_eq] at hh
  omega
theorem ZlT (l:List (List UInt8)) (s:List UInt8) (hl:l.length≤4611686018427387904):∃ r,XW l s=some r∧(0≤r↔s∈l):=by
 unfold XW
 refine VE l.length (fun k v=>v.1=(k:Int)∧s ∉ l.take k) _ ⟨rfl,by simp⟩ ?_ ?_
 ·rintro k ⟨i,⟨⟩⟩ hk ⟨rfl,hS⟩
  have hx:l[k]?=some l[k]:=List.getElem?_eq_getElem hk
  generalize l[k]=x at hx
  simp only [XY,Zn,hx,Bq,show (k:Int)<(l.length:Int) from by omega,if_true,YZ (show (-9223372036854775808:Int)≤(k:Int)+1 by omega) (by omega)]
  split
  ·rename_i e;subst e
   exact .inr ⟨_,rfl,fun _=>List.mem_of_getElem? hx,fun _=>by simp⟩
  ·rename_i e
   exact .inl ⟨_,rfl,by simp,by rw [YP hx];simp [hS,e]⟩
 ·rintro ⟨i,⟨⟩⟩ ⟨rfl,hS⟩
  simp only [XY,Int.lt_irrefl,if_false]
  refine ⟨_,rfl,fun h=>by omega,fun h=>absurd h (by simpa using hS)⟩
theorem Zi8 (l:List (List UInt8)) (s:List UInt8) (hl:l.length≤4611686018427387904):Xl l s=some (decide (s∈l)):=by
 obtain ⟨r,h1,h2⟩:=ZlT l s hl
 unfold Xl
 rw [h1,Bq]
 simp only [h2]
def Ja (l:List (List UInt8)) (k:Nat):Prop:=∀ (j:Nat) (s:List UInt8),j<k→l[j]?=some s→Jv s=true∧s ∉ l.take j
theorem Jt (l:List (List UInt8)) (hl:l.length≤4611686018427387904):Vn l=some (tr (Ja l l.length)):=by
 unfold Vn
 refine ZY l.length (fun k v=>v.1=(k:Int)∧Ja l k) _ ⟨rfl,fun j s hj=>by omega⟩ ?_ ?_
 ·rintro k ⟨i,⟨⟩⟩ hk ⟨rfl,hS⟩
  have hx:l[k]?=some l[k]:=List.getElem?_eq_getElem hk
  generalize l[k]=x at hx
  simp only [Zbt,Zn,hx,Bq,show (k:Int)<(l.length:Int) from by omega,if_true,YZ (show (-9223372036854775808:Int)≤(k:Int)+1 by omega) (by omega),Zfx]
  split
  ·rename_i hn
   rw [Zh (by omega),Zh (by omega)]
   simp only [Int.toNat_natCast,Int.toNat_zero,List.drop_zero,Nat.sub_zero]
   rw [Zi8 _ _ (by simp only [List.length_take];omega),Bq]
   split
   ·rename_i hm
    right
    rw [Z7]
    intro hh
    exact (hh k x hk hx).2 (by simpa using hm)
   ·rename_i hm
    refine .inl ⟨_,rfl,by simp,fun j s hj hs=>?_⟩
    by_cases e:j<k
    ·exact hS j s e hs
    ·have:j=k:=by omega
     subst this
     rw [hx] at hs;injection hs with hs;subst hs
     exact ⟨hn,by simpa using hm⟩
  ·rename_i hn
   right
   rw [Z7]
   intro hh
   exact hn (hh k x hk hx).1
 ·rintro ⟨i,⟨⟩⟩ ⟨rfl,hS⟩
  simp only [Zbt,Int.lt_irrefl,if_false]
  rw [Yc hS]
/-
  Plain laws: numbers within bounds.
-/
def allIn (l:List Int) (lo hi:Int):Bool:=l.all (fun n=>within n lo hi)
theorem ZaC (l:List Int) (lo hi:Int) (hl:l.length≤4611686018427387904):Y4 l lo hi=some (allIn l lo hi):=by
 have h1:∃ r,Z4 l (lo,hi,())=some r∧(0≤r↔allIn l lo hi=false):=by
  unfold Z4
  refine VE l.length (fun k v=>v.1=(k:Int)∧allIn (l.take k) lo hi=true) _ ⟨rfl,rfl⟩ ?_ ?_
  ·rintro k ⟨i,⟨⟩⟩ hk ⟨rfl,hS⟩
   have hx:l[k]?=some l[k]:=List.getElem?_eq_getElem hk
   generalize l[k]=x at hx
   simp only [Ye,ZcW,JB,Zn,hx,Bq,show (k:Int)<(l.length:Int) from by omega,if_true,YZ (show (-9223372036854775808:Int)≤(k:Int)+1 by omega) (by omega)]
   cases hw:within x lo hi
   ·refine .inr ⟨_,rfl,fun _=>?_,fun _=>by simp⟩
    rw [allIn,List.all_eq_false]
    exact ⟨x,List.mem_of_getElem? hx,by simp [hw]⟩
   ·refine .inl ⟨_,rfl,by simp,?_⟩
    rw [YP hx,allIn,List.all_append]
    simp only [allIn] at hS
    simp [hS,hw]
  ·rintro ⟨i,⟨⟩⟩ ⟨rfl,hS⟩
   rw [List.take_length] at hS
   simp only [Ye,Int.lt_irrefl,if_false]
   exact ⟨_,rfl,fun h=>by omega,fun h=>by rw [hS] at h;cases h⟩
 obtain ⟨r,h1,h2⟩:=h1
 unfold Y4 Yl
 rw [h1]
 simp only [Bq,h2]
 cases allIn l lo hi<;>simp
/-
  Plain laws: the instances of functions of package slices. Printed by program (libgen.py).
-/
theorem XV {l:List Zo} {f:Bool×Unit} (hl:Len l) (p:Zo→Bool) (hp:∀ x∈l,QM x f.fst=some (p x)):ZI l f=some (ZbR p l):=by
 unfold ZI
 refine JC (out:=fun i=>i) hl (p:=p) (fun k x hx=>?_) ?_
 ·have hk:=(List.getElem?_eq_some_iff.1 hx).1
  simp only [ZR,Zn,hx,Bq,show (k:Int)<(l.length:Int) from by omega,if_true,hp x (List.mem_of_getElem? hx)]
  split<;>rfl
 ·simp only [ZR,Int.lt_irrefl,if_false]
theorem XF {l:List Zo} {f:Bool×Unit} (hl:Len l) (p:Zo→Bool) (hp:∀ x∈l,QM x f.fst=some (p x)):ZC l f=some (l.any p):=by
 unfold ZC
 rw [XV hl p hp,Bq]
 congr 1
 rw [Bool.eq_iff_iff,decide_eq_true_eq,Zay]
theorem Qe {l:List Yn} {f:Unit} (hl:Len l) (p:Yn→Bool) (hp:∀ x∈l,Zcd x=some (p x)):ZM l f=some (ZbR p l):=by
 unfold ZM
 refine JC (out:=fun i=>i) hl (p:=p) (fun k x hx=>?_) ?_
 ·have hk:=(List.getElem?_eq_some_iff.1 hx).1
  simp only [ZX,Zn,hx,Bq,show (k:Int)<(l.length:Int) from by omega,if_true,hp x (List.mem_of_getElem? hx)]
  split<;>rfl
 ·simp only [ZX,Int.lt_irrefl,if_false]
theorem X6 {l:List Zw} {f:Zw×Unit} (hl:Len l) (p:Zw→Bool) (hp:∀ x∈l,X4 x f.fst=some (p x)):ZJ l f=some (ZbR p l):=by
 unfold ZJ
 refine JC (out:=fun i=>i) hl (p:=p) (fun k x hx=>?_) ?_
 ·have hk:=(List.getElem?_eq_some_iff.1 hx).1
  simp only [ZU,Zn,hx,Bq,show (k:Int)<(l.length:Int) from by omega,if_true,hp x (List.mem_of_getElem? hx)]
  split<;>rfl
 ·simp only [ZU,Int.lt_irrefl,if_false]
theorem XI {l:List Zw} {f:Zw×Unit} (hl:Len l) (p:Zw→Bool) (hp:∀ x∈l,X4 x f.fst=some (p x)):ZF l f=some (l.any p):=by
 unfold ZF
 rw [X6 hl p hp,Bq]
 congr 1
 rw [Bool.eq_iff_iff,decide_eq_true_eq,Zay]
theorem Qk {l:List Zw} {f:Int×Unit} (hl:Len l) (p:Zw→Bool) (hp:∀ x∈l,Zbh x f.fst=some (p x)):ZO l f=some (ZbR p l):=by
 unfold ZO
 refine JC (out:=fun i=>i) hl (p:=p) (fun k x hx=>?_) ?_
 ·have hk:=(List.getElem?_eq_some_iff.1 hx).1
  simp only [Z5,Zn,hx,Bq,show (k:Int)<(l.length:Int) from by omega,if_true,hp x (List.mem_of_getElem? hx)]
  split<;>rfl
 ·simp only [Z5,Int.lt_irrefl,if_false]
theorem X8 {l:List Zw} {f:Int×Unit} (hl:Len l) (p:Zw→Bool) (hp:∀ x∈l,Zbh x f.fst=some (p x)):ZK l f=some (l.any p):=by
 unfold ZK
 rw [Qk hl p hp,Bq]
 congr 1
 rw [Bool.eq_iff_iff,decide_eq_true_eq,Zay]
theorem X9 {l:List Int} {f:Zc×Unit} (hl:Len l) (p:Int→Bool) (hp:∀ x∈l,Xt x f.fst=some (p x)):ZL l f=some (ZbR p l):=by
 unfold ZL
 refine JC (out:=fun i=>i) hl (p:=p) (fun k x hx=>?_) ?_
 ·have hk:=(List.getElem?_eq_some_iff.1 hx).1
  simp only [ZV,Zn,hx,Bq,show (k:Int)<(l.length:Int) from by omega,if_true,hp x (List.mem_of_getElem? hx)]
  split<;>rfl
 ·simp only [ZV,Int.lt_irrefl,if_false]
theorem XM {l:List Int} {f:Zc×Unit} (hl:Len l) (p:Int→Bool) (hp:∀ x∈l,Xt x f.fst=some (p x)):ZG l f=some (l.any p):=by
 unfold ZG
 rw [X9 hl p hp,Bq]
 congr 1
 rw [Bool.eq_iff_iff,decide_eq_true_eq,Zay]
theorem Vt {l:List Int} {f:Unit} (hl:Len l) (p:Int→Bool) (hp:∀ x∈l,Zbi x=some (p x)):Yg l f=some (ZbR p l):=by
 unfold Yg
 refine JC (out:=fun i=>i) hl (p:=p) (fun k x hx=>?_) ?_
 ·have hk:=(List.getElem?_eq_some_iff.1 hx).1
  simp only [Yq,Zn,hx,Bq,show (k:Int)<(l.length:Int) from by omega,if_true,hp x (List.mem_of_getElem? hx)]
  split<;>rfl
 ·simp only [Yq,Int.lt_irrefl,if_false]
theorem QZ {l:List Int} {f:Unit} (hl:Len l) (p:Int→Bool) (hp:∀ x∈l,Zbi x=some (p x)):Z9 l f=some (l.any p):=by
 unfold Z9
 rw [Vt hl p hp,Bq]
 congr 1
 rw [Bool.eq_iff_iff,decide_eq_true_eq,Zay]
theorem ZEy {l:List Int} {v:Int} (hl:Len l):ZEb l v=some (ZbR (fun x=>decide (v=x)) l):=by
 unfold ZEb
 refine JC (out:=fun i=>i) hl (fun k x hx=>?_) ?_
 ·have hk:=(List.getElem?_eq_some_iff.1 hx).1
  simp only [ZD9,Zn,hx,Bq,show (k:Int)<(l.length:Int) from by omega,if_true,decide_eq_true_eq]
  split<;>rfl
 ·simp only [ZD9,Int.lt_irrefl,if_false]
theorem ZEv {l:List Int} {v:Int} (hl:Len l):ZD8 l v=some (decide (v∈l)):=by
 unfold ZD8
 rw [ZEy hl,Bq]
 congr 1
 rw [Bool.eq_iff_iff,decide_eq_true_eq,decide_eq_true_eq,Zay,List.any_eq_true]
 simp
theorem ZEi {l:List Int} {f:List Bool×Yp×Unit} (hl:Len l) (p:Int→Bool) (hp:∀ x∈l,ZEf x f.fst f.snd.fst=some (p x)):ZD6 l f=some (ZbR p l):=by
 unfold ZD6
 refine JC (out:=fun i=>i) hl (p:=p) (fun k x hx=>?_) ?_
 ·have hk:=(List.getElem?_eq_some_iff.1 hx).1
  simp only [ZD7,Zn,hx,Bq,show (k:Int)<(l.length:Int) from by omega,if_true,hp x (List.mem_of_getElem? hx)]
  split<;>rfl
 ·simp only [ZD7,Int.lt_irrefl,if_false]
theorem ZEh {l:List Int} {f:List Bool×Yp×Unit} (hl:Len l) (p:Int→Bool) (hp:∀ x∈l,ZEf x f.fst f.snd.fst=some (p x)):ZD5 l f=some (l.any p):=by
 unfold ZD5
 rw [ZEi hl p hp,Bq]
 congr 1
 rw [Bool.eq_iff_iff,decide_eq_true_eq,Zay]
theorem XO {l:List Zj} {f:Int×Unit} (hl:Len l) (p:Zj→Bool) (hp:∀ x∈l,ZdT x f.fst=some (p x)):ZH l f=some (ZbR p l):=by
 unfold ZH
 refine JC (out:=fun i=>i) hl (p:=p) (fun k x hx=>?_) ?_
 ·have hk:=(List.getElem?_eq_some_iff.1 hx).1
  simp only [ZQ,Zn,hx,Bq,show (k:Int)<(l.length:Int) from by omega,if_true,hp x (List.mem_of_getElem? hx)]
  split<;>rfl
 ·simp only [ZQ,Int.lt_irrefl,if_false]
/-
  Plain laws: arguments counted, copied, compared. Printed by program (szgen.py).
-/
theorem ZjQ (a:Yn) (left:Int) (h0:0≤left) (h1:left≤1048576) (hb:bnd (Zdx) a):Szd (ZbW a left) left (sm (Zdx) a):=by
 unfold ZbW
 refine Szd.len h0 h1 (by omega) hb.1 (fun hw a0 b0 s0=>?_)
 rw [hw]
 exact Szd.ret ⟨s0,XZ _ (by rfl) _,XZ _ (by rfl) _,XZ _ (by rfl) _,trivial⟩
theorem ZnG (a:List (Yn)) (left:Int) (h0:0≤left) (h1:left≤1048576) (hb:bnd (.sl (Zdx)) a):Szd (Zc0 a left) left (sm (.sl (Zdx)) a):=by
 unfold Zc0
 refine Szd.len h0 h1 (by omega) hb.1 (fun hw m0 m1 hn=>?_)
 rw [hw]
 exact (Szd.loop (f:=fun x m=>ZbW x m) (P:=fun x=>sm (Zdx) x) (fun x hx m m0 m1=>ZjQ x m m0 m1 (hb.2 x hx)) (fun k m=>rfl) m0 m1 hn).mono (fun h=>⟨hn,h⟩)
theorem Xw (a:List (Int)) (left:Int) (h0:0≤left) (h1:left≤1048576) (hb:bnd (.sl (.int .i64)) a):Szd (YX a left) left (sm (.sl (.int .i64)) a):=by
 unfold YX
 refine Szd.len h0 h1 (by omega) hb.1 (fun hw m0 m1 hn=>?_)
 rw [hw]
 exact Szd.ret ⟨hn,fun x _=>XZ (.int .i64) (by rfl) x⟩
theorem ZhE (a:Zo) (left:Int) (h0:0≤left) (h1:left≤1048576) (hb:bnd (YE) a):Szd (V9 a left) left (sm (YE) a):=by
 unfold V9
 refine Szd.then (Xw _ _ h0 h1 hb.1) h0 h1 (fun m0 a0 b0 s0=>?_)
 refine Szd.then (Xw _ _ a0 b0 hb.2.1) a0 b0 (fun m1 a1 b1 s1=>?_)
 refine Szd.last (Xw _ _ a1 b1 hb.2.2.1) a1 (fun s2=>?_)
 exact ⟨s0,s1,s2,trivial⟩
theorem ZgK (a:List (Zo)) (left:Int) (h0:0≤left) (h1:left≤1048576) (hb:bnd (.sl (YE)) a):Szd (Jj a left) left (sm (.sl (YE)) a):=by
 unfold Jj
 refine Szd.len h0 h1 (by omega) hb.1 (fun hw m0 m1 hn=>?_)
 rw [hw]
 exact (Szd.loop (f:=fun x m=>V9 x m) (P:=fun x=>sm (YE) x) (fun x hx m m0 m1=>ZhE x m m0 m1 (hb.2 x hx)) (fun k m=>rfl) m0 m1 hn).mono (fun h=>⟨hn,h⟩)
theorem ZjN (a:Zw) (left:Int) (h0:0≤left) (h1:left≤1048576) (hb:bnd (ZdP) a):Szd (ZbS a left) left (sm (ZdP) a):=by
 unfold ZbS
 refine Szd.then (ZgK _ _ h0 h1 hb.2.2.2.2.1) h0 h1 (fun m0 a0 b0 s0=>?_)
 refine Szd.last (ZgK _ _ a0 b0 hb.2.2.2.2.2.1) a0 (fun s1=>?_)
 exact ⟨XZ _ (by rfl) _,XZ _ (by rfl) _,XZ _ (by rfl) _,XZ _ (by rfl) _,s0,s1,trivial⟩
theorem ZnE (a:List (Zw)) (left:Int) (h0:0≤left) (h1:left≤1048576) (hb:bnd (.sl (ZdP)) a):Szd (ZcZ a left) left (sm (.sl (ZdP)) a):=by
 unfold ZcZ
 refine Szd.len h0 h1 (by omega) hb.1 (fun hw m0 m1 hn=>?_)
 rw [hw]
 exact (Szd.loop (f:=fun x m=>ZbS x m) (P:=fun x=>sm (ZdP) x) (fun x hx m m0 m1=>ZjN x m m0 m1 (hb.2 x hx)) (fun k m=>rfl) m0 m1 hn).mono (fun h=>⟨hn,h⟩)
theorem ZiC (a:Zi) (left:Int) (h0:0≤left) (h1:left≤1048576) (hb:bnd (Qz) a):Szd (Zag a left) left (sm (Qz) a):=by
 unfold Zag
 refine Szd.len h0 h1 (by omega) hb.1 (fun hw a0 b0 s0=>?_)
 rw [hw]
 refine Szd.then (ZnG _ _ a0 b0 hb.2.2.1) a0 b0 (fun m1 a1 b1 s1=>?_)
 refine Szd.then (ZnE _ _ a1 b1 hb.2.2.2.1) a1 b1 (fun m2 a2 b2 s2=>?_)
 refine Szd.last (Xw _ _ a2 b2 hb.2.2.2.2.1) a2 (fun s3=>?_)
 exact ⟨s0,XZ _ (by rfl) _,s1,s2,s3,XZ _ (by rfl) _,XZ _ (by rfl) _,trivial⟩
theorem ZmD (a:List (Zi)) (left:Int) (h0:0≤left) (h1:left≤1048576) (hb:bnd (.sl (Qz)) a):Szd (ZbV a left) left (sm (.sl (Qz)) a):=by
 unfold ZbV
 refine Szd.len h0 h1 (by omega) hb.1 (fun hw m0 m1 hn=>?_)
 rw [hw]
 exact (Szd.loop (f:=fun x m=>Zag x m) (P:=fun x=>sm (Qz) x) (fun x hx m m0 m1=>ZiC x m m0 m1 (hb.2 x hx)) (fun k m=>rfl) m0 m1 hn).mono (fun h=>⟨hn,h⟩)
theorem ZkK (a:Zt) (left:Int) (h0:0≤left) (h1:left≤1048576) (hb:bnd (Yz) a):Szd (JD a left) left (sm (Yz) a):=by
 unfold JD
 refine Szd.last (ZmD _ _ h0 h1 hb.1) h0 (fun s0=>?_)
 exact ⟨s0,trivial⟩
theorem Zfc (a:Zg) (left:Int) (h0:0≤left) (h1:left≤1048576) (hb:bnd (ZT) a):Szd (Qp a left) left (sm (ZT) a):=by
 unfold Qp
 refine Szd.len h0 h1 (by omega) hb.1 (fun hw a0 b0 s0=>?_)
 rw [hw]
 refine Szd.last (Xw _ _ a0 b0 hb.2.2.1) a0 (fun s1=>?_)
 exact ⟨s0,XZ _ (by rfl) _,s1,trivial⟩
theorem ZiY (a:List (Zg)) (left:Int) (h0:0≤left) (h1:left≤1048576) (hb:bnd (.sl (ZT)) a):Szd (Vh a left) left (sm (.sl (ZT)) a):=by
 unfold Vh
 refine Szd.len h0 h1 (by omega) hb.1 (fun hw m0 m1 hn=>?_)
 rw [hw]
 exact (Szd.loop (f:=fun x m=>Qp x m) (P:=fun x=>sm (ZT) x) (fun x hx m m0 m1=>Zfc x m m0 m1 (hb.2 x hx)) (fun k m=>rfl) m0 m1 hn).mono (fun h=>⟨hn,h⟩)
theorem ZkN (a:List (List UInt8)) (left:Int) (h0:0≤left) (h1:left≤1048576) (hb:bnd (.sl (.str)) a):Szd (JF a left) left (sm (.sl (.str)) a):=by
 unfold JF
 refine Szd.len h0 h1 (by omega) hb.1 (fun hw m0 m1 hn=>?_)
 rw [hw]
 exact (Szd.loop (f:=fun x m=>if Wq (m-(x.length:Int))<0 then some (-1) else some (Wq (m-(x.length:Int)))) (P:=fun x=>sm .str x) (fun x hx m m0 m1=>Szd.len m0 m1 (by omega) (hb.2 x hx) (fun hw _ _ hn=>by rw [hw];exact Szd.ret hn)) (fun k m=>by
  show QD a m (k:Int)=_
  unfold QD
  congr 1;congr 1;funext x;split<;>simp_all) m0 m1 hn).mono (fun h=>⟨hn,h⟩)
theorem ZiD (a:ZP) (left:Int) (h0:0≤left) (h1:left≤1048576) (hb:bnd (V6) a):Szd (Zah a left) left (sm (V6) a):=by
 unfold Zah
 refine Szd.len h0 h1 (by omega) hb.1 (fun hw a0 b0 s0=>?_)
 rw [hw]
 exact Szd.ret ⟨s0,XZ _ (by rfl) _,XZ _ (by rfl) _,trivial⟩
theorem ZmG (a:List (ZP)) (left:Int) (h0:0≤left) (h1:left≤1048576) (hb:bnd (.sl (V6)) a):Szd (ZbX a left) left (sm (.sl (V6)) a):=by
 unfold ZbX
 refine Szd.len h0 h1 (by omega) hb.1 (fun hw m0 m1 hn=>?_)
 rw [hw]
 exact (Szd.loop (f:=fun x m=>Zah x m) (P:=fun x=>sm (V6) x) (fun x hx m m0 m1=>ZiD x m m0 m1 (hb.2 x hx)) (fun k m=>rfl) m0 m1 hn).mono (fun h=>⟨hn,h⟩)
theorem ZlH (a:Zc) (left:Int) (h0:0≤left) (h1:left≤1048576) (hb:bnd (Yu) a):Szd (ZaE a left) left (sm (Yu) a):=by
 unfold ZaE
 refine Szd.then (ZiY _ _ h0 h1 hb.1) h0 h1 (fun m0 a0 b0 s0=>?_)
 refine Szd.then (ZkN _ _ a0 b0 hb.2.1) a0 b0 (fun m1 a1 b1 s1=>?_)
 refine Szd.last (ZmG _ _ a1 b1 hb.2.2.1) a1 (fun s2=>?_)
 exact ⟨s0,s1,s2,trivial⟩
theorem ZiE (a:Zp) (left:Int) (h0:0≤left) (h1:left≤1048576) (hb:bnd (VG) a):Szd (Zaj a left) left (sm (VG) a):=by
 unfold Zaj
 refine Szd.then (Xw _ _ h0 h1 hb.1) h0 h1 (fun m0 a0 b0 s0=>?_)
 refine Szd.then (Xw _ _ a0 b0 hb.2.1) a0 b0 (fun m1 a1 b1 s1=>?_)
 refine Szd.then (Xw _ _ a1 b1 hb.2.2.1) a1 b1 (fun m2 a2 b2 s2=>?_)
 refine Szd.last (Xw _ _ a2 b2 hb.2.2.2.1) a2 (fun s3=>?_)
 exact ⟨s0,s1,s2,s3,trivial⟩
theorem ZmI (a:List (Zp)) (left:Int) (h0:0≤left) (h1:left≤1048576) (hb:bnd (.sl (VG)) a):Szd (ZbY a left) left (sm (.sl (VG)) a):=by
 unfold ZbY
 refine Szd.len h0 h1 (by omega) hb.1 (fun hw m0 m1 hn=>?_)
 rw [hw]
 exact (Szd.loop (f:=fun x m=>Zaj x m) (P:=fun x=>sm (VG) x) (fun x hx m m0 m1=>ZiE x m m0 m1 (hb.2 x hx)) (fun k m=>rfl) m0 m1 hn).mono (fun h=>⟨hn,h⟩)
theorem ZmB (a:Zd) (left:Int) (h0:0≤left) (h1:left≤1048576) (hb:bnd (Yt) a):Szd (ZbT a left) left (sm (Yt) a):=by
 unfold ZbT
 refine Szd.then (ZkK _ _ h0 h1 hb.1) h0 h1 (fun m0 a0 b0 s0=>?_)
 refine Szd.then (ZlH _ _ a0 b0 hb.2.1) a0 b0 (fun m1 a1 b1 s1=>?_)
 refine Szd.last (ZmI _ _ a1 b1 hb.2.2.1) a1 (fun s2=>?_)
 exact ⟨s0,s1,s2,trivial⟩
theorem ZlG (a:Zv) (left:Int) (h0:0≤left) (h1:left≤1048576) (hb:bnd (X3) a):Szd (Zeg a left) left (sm (X3) a):=by
 unfold Zeg
 refine Szd.len h0 h1 (by omega) hb.1 (fun hw a0 b0 s0=>?_)
 rw [hw]
 exact Szd.ret ⟨s0,XZ _ (by rfl) _,XZ _ (by rfl) _,XZ _ (by rfl) _,XZ _ (by rfl) _,trivial⟩
theorem ZkM (a:List (Zj)) (left:Int) (h0:0≤left) (h1:left≤1048576) (hb:bnd (.sl (Z6)) a):Szd (JE a left) left (sm (.sl (Z6)) a):=by
 unfold JE
 refine Szd.len h0 h1 (by omega) hb.1 (fun hw m0 m1 hn=>?_)
 rw [hw]
 exact Szd.ret ⟨hn,fun x _=>XZ (Z6) (by rfl) x⟩
theorem ZmC (a:List (Bool)) (left:Int) (h0:0≤left) (h1:left≤1048576) (hb:bnd (.sl (.bool)) a):Szd (ZbU a left) left (sm (.sl (.bool)) a):=by
 unfold ZbU
 refine Szd.len h0 h1 (by omega) hb.1 (fun hw m0 m1 hn=>?_)
 rw [hw]
 exact Szd.ret ⟨hn,fun x _=>XZ (.bool) (by rfl) x⟩
theorem ZhD (a:List (Zu)) (left:Int) (h0:0≤left) (h1:left≤1048576) (hb:bnd (.sl (XJ)) a):Szd (Zai a left) left (sm (.sl (XJ)) a):=by
 unfold Zai
 refine Szd.len h0 h1 (by omega) hb.1 (fun hw m0 m1 hn=>?_)
 rw [hw]
 exact Szd.ret ⟨hn,fun x _=>XZ (XJ) (by rfl) x⟩
theorem ZlK (a:Zk) (left:Int) (h0:0≤left) (h1:left≤1048576) (hb:bnd (Xd) a):Szd (ZaF a left) left (sm (Xd) a):=by
 unfold ZaF
 refine Szd.then (ZmC _ _ h0 h1 hb.1) h0 h1 (fun m0 a0 b0 s0=>?_)
 refine Szd.then (ZhD _ _ a0 b0 hb.2.1) a0 b0 (fun m1 a1 b1 s1=>?_)
 refine Szd.last (ZhD _ _ a1 b1 hb.2.2.1) a1 (fun s2=>?_)
 exact ⟨s0,s1,s2,trivial⟩
theorem ZoW (a:Yn) (hs:sm (Zdx) a):ZfP a=some a:=by
 unfold ZfP
 all_goals rfl
theorem ZnK (a:List (Yn)) (hs:sm (.sl (Zdx)) a):Zgl a=some a:=by
 unfold Zgl
 have h:=hs.1
 rw [Zh (by omega),Zh (by omega),Zh (by omega),Zh (by omega)]
 exact Jr (f:=ZfP) (fun x hx=>ZoW x (hs.2 x hx)) (fun k out=>rfl) h
theorem Y5 (a:List (Int)) (hs:sm (.sl (.int .i64)) a):Y8 a=some a:=by
 unfold Y8
 have h:=hs.1
 rw [Zh (by omega),Zh (by omega),Zh (by omega),Zh (by omega)]
 exact Jr (f:=some) (fun x _=>rfl) (fun k out=>rfl) h
theorem ZmO (a:Zo) (hs:sm (YE) a):ZdF a=some a:=by
 unfold ZdF
 rw [Y5 _ hs.1,Bq,Y5 _ hs.2.1,Bq,Y5 _ hs.2.2.1,Bq]
 all_goals rfl
theorem ZgL (a:List (Zo)) (hs:sm (.sl (YE)) a):Zcu a=some a:=by
 unfold Zcu
 have h:=hs.1
 rw [Zh (by omega),Zh (by omega),Zh (by omega),Zh (by omega)]
 exact Jr (f:=ZdF) (fun x hx=>ZmO x (hs.2 x hx)) (fun k out=>rfl) h
theorem ZoV (a:Zw) (hs:sm (ZdP) a):ZfO a=some a:=by
 unfold ZfO
 rw [ZgL _ hs.2.2.2.2.1,Bq,ZgL _ hs.2.2.2.2.2.1,Bq]
 all_goals rfl
theorem ZnI (a:List (Zw)) (hs:sm (.sl (ZdP)) a):Zgk a=some a:=by
 unfold Zgk
 have h:=hs.1
 rw [Zh (by omega),Zh (by omega),Zh (by omega),Zh (by omega)]
 exact Jr (f:=ZfO) (fun x hx=>ZoV x (hs.2 x hx)) (fun k out=>rfl) h
theorem ZnJ (a:Zi) (hs:sm (Qz) a):ZeF a=some a:=by
 unfold ZeF
 rw [ZnK _ hs.2.2.1,Bq,ZnI _ hs.2.2.2.1,Bq,Y5 _ hs.2.2.2.2.1,Bq]
 all_goals rfl
theorem ZmM (a:List (Zi)) (hs:sm (.sl (Qz)) a):Zff a=some a:=by
 unfold Zff
 have h:=hs.1
 rw [Zh (by omega),Zh (by omega),Zh (by omega),Zh (by omega)]
 exact Jr (f:=ZeF) (fun x hx=>ZnJ x (hs.2 x hx)) (fun k out=>rfl) h
theorem ZkQ (a:Zt) (hs:sm (Yz) a):Zdn a=some a:=by
 unfold Zdn
 rw [ZmM _ hs.1,Bq]
 all_goals rfl
theorem ZjX (a:Zg) (hs:sm (ZT) a):Zak a=some a:=by
 unfold Zak
 rw [Y5 _ hs.2.2.1,Bq]
 all_goals rfl
theorem Zi1 (a:List (Zg)) (hs:sm (.sl (ZT)) a):Zbp a=some a:=by
 unfold Zbp
 have h:=hs.1
 rw [Zh (by omega),Zh (by omega),Zh (by omega),Zh (by omega)]
 exact Jr (f:=Zak) (fun x hx=>ZjX x (hs.2 x hx)) (fun k out=>rfl) h
theorem ZkT (a:List (List UInt8)) (hs:sm (.sl (.str)) a):Zdp a=some a:=by
 unfold Zdp
 have h:=hs.1
 rw [Zh (by omega),Zh (by omega),Zh (by omega),Zh (by omega)]
 exact Jr (f:=some) (fun x _=>rfl) (fun k out=>rfl) h
theorem ZnL (a:ZP) (hs:sm (V6) a):ZeG a=some a:=by
 unfold ZeG
 all_goals rfl
theorem ZmN (a:List (ZP)) (hs:sm (.sl (V6)) a):Zfg a=some a:=by
 unfold Zfg
 have h:=hs.1
 rw [Zh (by omega),Zh (by omega),Zh (by omega),Zh (by omega)]
 exact Jr (f:=ZeG) (fun x hx=>ZnL x (hs.2 x hx)) (fun k out=>rfl) h
theorem ZlN (a:Zc) (hs:sm (Yu) a):Zei a=some a:=by
 unfold Zei
 rw [Zi1 _ hs.1,Bq,ZkT _ hs.2.1,Bq,ZmN _ hs.2.2.1,Bq]
 all_goals rfl
theorem ZnM (a:Zp) (hs:sm (VG) a):ZeH a=some a:=by
 unfold ZeH
 rw [Y5 _ hs.1,Bq,Y5 _ hs.2.1,Bq,Y5 _ hs.2.2.1,Bq,Y5 _ hs.2.2.2.1,Bq]
 all_goals rfl
theorem ZmP (a:List (Zp)) (hs:sm (.sl (VG)) a):Zfh a=some a:=by
 unfold Zfh
 have h:=hs.1
 rw [Zh (by omega),Zh (by omega),Zh (by omega),Zh (by omega)]
 exact Jr (f:=ZeH) (fun x hx=>ZnM x (hs.2 x hx)) (fun k out=>rfl) h
theorem ZmK (a:Zd) (hs:sm (Yt) a):Zfd a=some a:=by
 unfold Zfd
 rw [ZkQ _ hs.1,Bq,ZlN _ hs.2.1,Bq,ZmP _ hs.2.2.1,Bq]
 all_goals rfl
theorem ZlM (a:Zv) (hs:sm (X3) a):Zeh a=some a:=by
 unfold Zeh
 all_goals rfl
theorem ZfB (a:Zu) (hs:sm (XJ) a):ZbA a=some a:=by
 unfold ZbA
 all_goals rfl
theorem ZlO (a:Zj) (hs:sm (Z6) a):Zct a=some a:=by
 unfold Zct
 rw [ZfB _ hs.2.1,Bq,ZfB _ hs.2.2.1,Bq]
 all_goals rfl
theorem ZkS (a:List (Zj)) (hs:sm (.sl (Z6)) a):Zdo a=some a:=by
 unfold Zdo
 have h:=hs.1
 rw [Zh (by omega),Zh (by omega),Zh (by omega),Zh (by omega)]
 exact Jr (f:=Zct) (fun x hx=>ZlO x (hs.2 x hx)) (fun k out=>rfl) h
theorem ZmL (a:List (Bool)) (hs:sm (.sl (.bool)) a):Zfe a=some a:=by
 unfold Zfe
 have h:=hs.1
 rw [Zh (by omega),Zh (by omega),Zh (by omega),Zh (by omega)]
 exact Jr (f:=some) (fun x _=>rfl) (fun k out=>rfl) h
theorem ZhF (a:List (Zu)) (hs:sm (.sl (XJ)) a):ZdE a=some a:=by
 unfold ZdE
 have h:=hs.1
 rw [Zh (by omega),Zh (by omega),Zh (by omega),Zh (by omega)]
 exact Jr (f:=ZbA) (fun x hx=>ZfB x (hs.2 x hx)) (fun k out=>rfl) h
theorem ZlP (a:Zk) (hs:sm (Xd) a):Zej a=some a:=by
 unfold Zej
 rw [ZmL _ hs.1,Bq,ZhF _ hs.2.1,Bq,ZhF _ hs.2.2.1,Bq]
 all_goals rfl
theorem Zmv (a:List (Bool)) (hs:sm (.sl (.bool)) a):Ze7 a a=some true:=by
 unfold Ze7
 rw [if_pos rfl]
 exact ZuH (fun k=>rfl) hs.1
theorem ZfA (a:Zu) (hs:sm (XJ) a):Zbw a a=some true:=by
 unfold Zbw
 simp
theorem ZhB (a:List (Zu)) (hs:sm (.sl (XJ)) a):ZdC a a=some true:=by
 unfold ZdC
 rw [if_pos rfl]
 exact Zf8 (f:=Zbw) (fun x hx=>ZfA x (hs.2 x hx)) (fun k=>rfl) hs.1
theorem ZlA (a:Zk) (hs:sm (Xd) a):Zed a a=some true:=by
 unfold Zed
 simp [Zmv _ hs.1,ZhB _ hs.2.1,ZhB _ hs.2.2.1]
theorem YN (a:List (Int)) (hs:sm (.sl (.int .i64)) a):YW a a=some true:=by
 unfold YW
 rw [if_pos rfl]
 exact Zrh (fun k=>rfl) hs.1
theorem ZoU (a:Yn) (hs:sm (Zdx) a):ZfL a a=some true:=by
 unfold ZfL
 simp
theorem ZnB (a:List (Yn)) (hs:sm (.sl (Zdx)) a):Zgj a a=some true:=by
 unfold Zgj
 rw [if_pos rfl]
 exact Zf8 (f:=ZfL) (fun x hx=>ZoU x (hs.2 x hx)) (fun k=>rfl) hs.1
theorem Zmy (a:Zo) (hs:sm (YE) a):ZdD a a=some true:=by
 unfold ZdD
 simp [YN _ hs.1,YN _ hs.2.1,YN _ hs.2.2.1]
theorem ZgI (a:List (Zo)) (hs:sm (.sl (YE)) a):Zcp a a=some true:=by
 unfold Zcp
 rw [if_pos rfl]
 exact Zf8 (f:=ZdD) (fun x hx=>Zmy x (hs.2 x hx)) (fun k=>rfl) hs.1
theorem ZoT (a:Zw) (hs:sm (ZdP) a):ZfK a a=some true:=by
 unfold ZfK
 simp [ZgI _ hs.2.2.2.2.1,ZgI _ hs.2.2.2.2.2.1]
theorem Znz (a:List (Zw)) (hs:sm (.sl (ZdP)) a):Zgi a a=some true:=by
 unfold Zgi
 rw [if_pos rfl]
 exact Zf8 (f:=ZfK) (fun x hx=>ZoT x (hs.2 x hx)) (fun k=>rfl) hs.1
theorem ZnA (a:Zi) (hs:sm (Qz) a):ZeC a a=some true:=by
 unfold ZeC
 simp [ZnB _ hs.2.2.1,Znz _ hs.2.2.2.1,YN _ hs.2.2.2.2.1]
theorem Zmw (a:List (Zi)) (hs:sm (.sl (Qz)) a):Ze8 a a=some true:=by
 unfold Ze8
 rw [if_pos rfl]
 exact Zf8 (f:=ZeC) (fun x hx=>ZnA x (hs.2 x hx)) (fun k=>rfl) hs.1
theorem Zkz (a:Zt) (hs:sm (Yz) a):Zdf a a=some true:=by
 unfold Zdf
 simp [Zmw _ hs.1]
theorem ZjH (a:Zg) (hs:sm (ZT) a):Zac a a=some true:=by
 unfold Zac
 simp [YN _ hs.2.2.1]
theorem ZiS (a:List (Zg)) (hs:sm (.sl (ZT)) a):Zbl a a=some true:=by
 unfold Zbl
 rw [if_pos rfl]
 exact Zf8 (f:=Zac) (fun x hx=>ZjH x (hs.2 x hx)) (fun k=>rfl) hs.1
theorem ZkC (a:List (List UInt8)) (hs:sm (.sl (.str)) a):Zdh a a=some true:=by
 unfold Zdh
 rw [if_pos rfl]
 exact Zrh (fun k=>rfl) hs.1
theorem ZnC (a:ZP) (hs:sm (V6) a):ZeD a a=some true:=by
 unfold ZeD
 simp
theorem Zmx (a:List (ZP)) (hs:sm (.sl (V6)) a):Ze9 a a=some true:=by
 unfold Ze9
 rw [if_pos rfl]
 exact Zf8 (f:=ZeD) (fun x hx=>ZnC x (hs.2 x hx)) (fun k=>rfl) hs.1
theorem Zly (a:Zc) (hs:sm (Yu) a):Zec a a=some true:=by
 unfold Zec
 simp [ZiS _ hs.1,ZkC _ hs.2.1,Zmx _ hs.2.2.1]
theorem ZnD (a:Zp) (hs:sm (VG) a):ZeE a a=some true:=by
 unfold ZeE
 simp [YN _ hs.1,YN _ hs.2.1,YN _ hs.2.2.1,YN _ hs.2.2.2.1]
theorem Zmz (a:List (Zp)) (hs:sm (.sl (VG)) a):Zfa a a=some true:=by
 unfold Zfa
 rw [if_pos rfl]
 exact Zf8 (f:=ZeE) (fun x hx=>ZnD x (hs.2 x hx)) (fun k=>rfl) hs.1
theorem Zmu (a:Zd) (hs:sm (Yt) a):Ze6 a a=some true:=by
 unfold Ze6
 simp [Zkz _ hs.1,Zly _ hs.2.1,Zmz _ hs.2.2.1]
theorem Zlz (a:Zj) (hs:sm (Z6) a):Zco a a=some true:=by
 unfold Zco
 simp [ZfA _ hs.2.1,ZfA _ hs.2.2.1]
theorem ZkB (a:List (Zj)) (hs:sm (.sl (Z6)) a):Zdg a a=some true:=by
 unfold Zdg
 rw [if_pos rfl]
 exact Zf8 (f:=Zco) (fun x hx=>Zlz x (hs.2 x hx)) (fun k=>rfl) hs.1
/-
  Plain laws: all lengths together; marks. Printed by program (totgen.py).
-/
theorem ZrA {α:Type} {L:List α} {j:Nat} {z:α} {A A' B B':Int} (hA:A=A') (hB:B=B'):∃ y,(some (.inl (A,B,List.set L j z,())):Option ((Int×Int×List α×Unit) ⊕ (Int×List α)))=some (.inl (A',B',List.set L j y,())):=⟨z,by rw [hA,hB]⟩
theorem ZeI (k:Int) (h0:0≤k) (h1:k≤4611686018427387904):∃ s,Vr k=some s:=by
 unfold Vr
 split
 ·exact ⟨_,rfl⟩
 ·obtain ⟨r,h,_⟩:=ZfW (step:=fun v=>Zbz v.1 v.2.1) (fun v:Int×List UInt8×Unit=>0≤v.1∧v.1+(v.2.1.length:Int)≤4611686018427387904) (fun v=>v.1.toNat) (fun _=>True) (v:=(k,([]:List UInt8),())) ⟨h0,by simpa using h1⟩
   (by
    rintro ⟨m,s,⟨⟩⟩ ⟨a,b⟩
    simp only at a b
    simp only [Zbz]
    by_cases hm:0<m
    ·have e1:Int.tdiv m 10=m / 10:=Int.tdiv_eq_ediv_of_nonneg a
     rw [if_pos hm,e1,YZ (n:=m / 10) (by omega) (by omega),Zh (by simp only [bytesOf,List.length_map,List.length_singleton];omega)]
     refine .inl ⟨_,rfl,⟨by simp only;omega,?_⟩,by simp only;omega⟩
     simp only [List.length_append,bytesOf,List.length_map,List.length_singleton]
     omega
    ·rw [if_neg hm,Zh (by simp only [List.length_singleton];omega)]
     exact .inr ⟨_,rfl,trivial⟩)
  exact ⟨r,h⟩
theorem ZnH (a:Yn) (left:Int) (h0:0≤left) (h1:left≤1048576) (hb:bnd (Zdx) a):Szt (ZbW a left) left (tot (Zdx) a):=by
 unfold ZbW
 exact (Szt.len h0 h1 (by omega) hb.1 (fun hw0 a0 b0=>by rw [hw0];exact Szt.ret)).mono (by simp only [ZcM,ZeR,ZcL,ZcN,ZdZ];omega)
theorem ZmF (a:List (Yn)) (left:Int) (h0:0≤left) (h1:left≤1048576) (hb:bnd (.sl (Zdx)) a):Szt (Zc0 a left) left (tot (.sl (Zdx)) a):=by
 unfold Zc0
 refine (Szt.len h0 h1 (by omega) hb.1 (fun hw m0 m1=>(?_:Szt _ _ ((a.map (tot (Zdx))).sum)))).mono (by rw [ZgR];omega)
 rw [hw]
 exact Szt.loop (f:=fun x m=>ZbW x m) (P:=fun x=>sm (Zdx) x) (T:=tot (Zdx)) (fun x hx m m0 m1=>ZjQ x m m0 m1 (hb.2 x hx)) (fun x hx m m0 m1=>ZnH x m m0 m1 (hb.2 x hx)) (fun k m=>rfl) m0 m1 (by omega)
theorem Y7 (a:List (Int)) (left:Int) (h0:0≤left) (h1:left≤1048576) (hb:bnd (.sl (.int .i64)) a):Szt (YX a left) left (tot (.sl (.int .i64)) a):=by
 unfold YX
 refine (Szt.len h0 h1 (by omega) hb.1 (fun hw m0 m1=>(?_:Szt _ _ ((a.map (tot (.int .i64))).sum)))).mono (by rw [ZgR];omega)
 rw [hw]
 exact Szt.ret.mono (by rw [Zke (by rfl)];omega)
theorem ZlJ (a:Zo) (left:Int) (h0:0≤left) (h1:left≤1048576) (hb:bnd (YE) a):Szt (V9 a left) left (tot (YE) a):=by
 unfold V9
 exact (Szt.then (Y7 a.1 _ h0 h1 hb.1) h0 h1 (fun m0 a0 b0=>Szt.then (Y7 a.2.1 _ a0 b0 hb.2.1) a0 b0 (fun m1 a1 b1=>Szt.last (Y7 a.2.2.1 _ a1 b1 hb.2.2.1)))).mono (by simp only [ZcM,ZeR,ZcL,ZcN,ZdZ];omega)
theorem ZfN (a:List (Zo)) (left:Int) (h0:0≤left) (h1:left≤1048576) (hb:bnd (.sl (YE)) a):Szt (Jj a left) left (tot (.sl (YE)) a):=by
 unfold Jj
 refine (Szt.len h0 h1 (by omega) hb.1 (fun hw m0 m1=>(?_:Szt _ _ ((a.map (tot (YE))).sum)))).mono (by rw [ZgR];omega)
 rw [hw]
 exact Szt.loop (f:=fun x m=>V9 x m) (P:=fun x=>sm (YE) x) (T:=tot (YE)) (fun x hx m m0 m1=>ZhE x m m0 m1 (hb.2 x hx)) (fun x hx m m0 m1=>ZlJ x m m0 m1 (hb.2 x hx)) (fun k m=>rfl) m0 m1 (by omega)
theorem ZnF (a:Zw) (left:Int) (h0:0≤left) (h1:left≤1048576) (hb:bnd (ZdP) a):Szt (ZbS a left) left (tot (ZdP) a):=by
 unfold ZbS
 exact (Szt.then (ZfN a.2.2.2.2.1 _ h0 h1 hb.2.2.2.2.1) h0 h1 (fun m0 a0 b0=>Szt.last (ZfN a.2.2.2.2.2.1 _ a0 b0 hb.2.2.2.2.2.1))).mono (by simp only [ZcM,ZeR,ZcL,ZcN,ZdZ];omega)
theorem ZmA (a:List (Zw)) (left:Int) (h0:0≤left) (h1:left≤1048576) (hb:bnd (.sl (ZdP)) a):Szt (ZcZ a left) left (tot (.sl (ZdP)) a):=by
 unfold ZcZ
 refine (Szt.len h0 h1 (by omega) hb.1 (fun hw m0 m1=>(?_:Szt _ _ ((a.map (tot (ZdP))).sum)))).mono (by rw [ZgR];omega)
 rw [hw]
 exact Szt.loop (f:=fun x m=>ZbS x m) (P:=fun x=>sm (ZdP) x) (T:=tot (ZdP)) (fun x hx m m0 m1=>ZjN x m m0 m1 (hb.2 x hx)) (fun x hx m m0 m1=>ZnF x m m0 m1 (hb.2 x hx)) (fun k m=>rfl) m0 m1 (by omega)
theorem ZmE (a:Zi) (left:Int) (h0:0≤left) (h1:left≤1048576) (hb:bnd (Qz) a):Szt (Zag a left) left (tot (Qz) a):=by
 unfold Zag
 exact (Szt.len h0 h1 (by omega) hb.1 (fun hw0 a0 b0=>by rw [hw0];exact Szt.then (ZmF a.2.2.1 _ a0 b0 hb.2.2.1) a0 b0 (fun m1 a1 b1=>Szt.then (ZmA a.2.2.2.1 _ a1 b1 hb.2.2.2.1) a1 b1 (fun m2 a2 b2=>Szt.last (Y7 a.2.2.2.2.1 _ a2 b2 hb.2.2.2.2.1))))).mono (by simp only [ZcM,ZeR,ZcL,ZcN,ZdZ];omega)
theorem ZlF (a:List (Zi)) (left:Int) (h0:0≤left) (h1:left≤1048576) (hb:bnd (.sl (Qz)) a):Szt (ZbV a left) left (tot (.sl (Qz)) a):=by
 unfold ZbV
 refine (Szt.len h0 h1 (by omega) hb.1 (fun hw m0 m1=>(?_:Szt _ _ ((a.map (tot (Qz))).sum)))).mono (by rw [ZgR];omega)
 rw [hw]
 exact Szt.loop (f:=fun x m=>Zag x m) (P:=fun x=>sm (Qz) x) (T:=tot (Qz)) (fun x hx m m0 m1=>ZiC x m m0 m1 (hb.2 x hx)) (fun x hx m m0 m1=>ZmE x m m0 m1 (hb.2 x hx)) (fun k m=>rfl) m0 m1 (by omega)
theorem ZjP (a:Zt) (left:Int) (h0:0≤left) (h1:left≤1048576) (hb:bnd (Yz) a):Szt (JD a left) left (tot (Yz) a):=by
 unfold JD
 exact (Szt.last (ZlF a.1 _ h0 h1 hb.1)).mono (by simp only [ZcM,ZeR,ZcL,ZcN,ZdZ];omega)
theorem ZiZ (a:Zg) (left:Int) (h0:0≤left) (h1:left≤1048576) (hb:bnd (ZT) a):Szt (Qp a left) left (tot (ZT) a):=by
 unfold Qp
 exact (Szt.len h0 h1 (by omega) hb.1 (fun hw0 a0 b0=>by rw [hw0];exact Szt.last (Y7 a.2.2.1 _ a0 b0 hb.2.2.1))).mono (by simp only [ZcM,ZeR,ZcL,ZcN,ZdZ];omega)
theorem Zil (a:List (Zg)) (left:Int) (h0:0≤left) (h1:left≤1048576) (hb:bnd (.sl (ZT)) a):Szt (Vh a left) left (tot (.sl (ZT)) a):=by
 unfold Vh
 refine (Szt.len h0 h1 (by omega) hb.1 (fun hw m0 m1=>(?_:Szt _ _ ((a.map (tot (ZT))).sum)))).mono (by rw [ZgR];omega)
 rw [hw]
 exact Szt.loop (f:=fun x m=>Qp x m) (P:=fun x=>sm (ZT) x) (T:=tot (ZT)) (fun x hx m m0 m1=>Zfc x m m0 m1 (hb.2 x hx)) (fun x hx m m0 m1=>ZiZ x m m0 m1 (hb.2 x hx)) (fun k m=>rfl) m0 m1 (by omega)
theorem ZjT (a:List (List UInt8)) (left:Int) (h0:0≤left) (h1:left≤1048576) (hb:bnd (.sl (.str)) a):Szt (JF a left) left (tot (.sl (.str)) a):=by
 unfold JF
 refine (Szt.len h0 h1 (by omega) hb.1 (fun hw m0 m1=>(?_:Szt _ _ ((a.map (tot (.str))).sum)))).mono (by rw [ZgR];omega)
 rw [hw]
 exact Szt.loop (l:=a) (α:=List UInt8) (f:=fun (x:List UInt8) (m:Int)=>if Wq (m-(x.length:Int))<0 then some (-1) else some (Wq (m-(x.length:Int)))) (P:=fun (x:List UInt8)=>sm .str x) (T:=fun (x:List UInt8)=>tot .str x) (fun x hx m m0 m1=>Szd.str x m m0 m1 (hb.2 x hx)) (fun x hx m m0 m1=>Szt.str x m m0 m1 (hb.2 x hx)) (fun k m=>by
  show QD a m (k:Int)=_
  unfold QD
  congr 1;congr 1;funext x;split<;>simp_all) m0 m1 (by omega)
theorem ZmH (a:ZP) (left:Int) (h0:0≤left) (h1:left≤1048576) (hb:bnd (V6) a):Szt (Zah a left) left (tot (V6) a):=by
 unfold Zah
 exact (Szt.len h0 h1 (by omega) hb.1 (fun hw0 a0 b0=>by rw [hw0];exact Szt.ret)).mono (by simp only [ZcM,ZeR,ZcL,ZcN,ZdZ];omega)
theorem ZlI (a:List (ZP)) (left:Int) (h0:0≤left) (h1:left≤1048576) (hb:bnd (.sl (V6)) a):Szt (ZbX a left) left (tot (.sl (V6)) a):=by
 unfold ZbX
 refine (Szt.len h0 h1 (by omega) hb.1 (fun hw m0 m1=>(?_:Szt _ _ ((a.map (tot (V6))).sum)))).mono (by rw [ZgR];omega)
 rw [hw]
 exact Szt.loop (f:=fun x m=>Zah x m) (P:=fun x=>sm (V6) x) (T:=tot (V6)) (fun x hx m m0 m1=>ZiD x m m0 m1 (hb.2 x hx)) (fun x hx m m0 m1=>ZmH x m m0 m1 (hb.2 x hx)) (fun k m=>rfl) m0 m1 (by omega)
theorem ZkJ (a:Zc) (left:Int) (h0:0≤left) (h1:left≤1048576) (hb:bnd (Yu) a):Szt (ZaE a left) left (tot (Yu) a):=by
 unfold ZaE
 exact (Szt.then (Zil a.1 _ h0 h1 hb.1) h0 h1 (fun m0 a0 b0=>Szt.then (ZjT a.2.1 _ a0 b0 hb.2.1) a0 b0 (fun m1 a1 b1=>Szt.last (ZlI a.2.2.1 _ a1 b1 hb.2.2.1)))).mono (by simp only [ZcM,ZeR,ZcL,ZcN,ZdZ];omega)
theorem ZmJ (a:Zp) (left:Int) (h0:0≤left) (h1:left≤1048576) (hb:bnd (VG) a):Szt (Zaj a left) left (tot (VG) a):=by
 unfold Zaj
 exact (Szt.then (Y7 a.1 _ h0 h1 hb.1) h0 h1 (fun m0 a0 b0=>Szt.then (Y7 a.2.1 _ a0 b0 hb.2.1) a0 b0 (fun m1 a1 b1=>Szt.then (Y7 a.2.2.1 _ a1 b1 hb.2.2.1) a1 b1 (fun m2 a2 b2=>Szt.last (Y7 a.2.2.2.1 _ a2 b2 hb.2.2.2.1))))).mono (by simp only [ZcM,ZeR,ZcL,ZcN,ZdZ];omega)
theorem ZlL (a:List (Zp)) (left:Int) (h0:0≤left) (h1:left≤1048576) (hb:bnd (.sl (VG)) a):Szt (ZbY a left) left (tot (.sl (VG)) a):=by
 unfold ZbY
 refine (Szt.len h0 h1 (by omega) hb.1 (fun hw m0 m1=>(?_:Szt _ _ ((a.map (tot (VG))).sum)))).mono (by rw [ZgR];omega)
 rw [hw]
 exact Szt.loop (f:=fun x m=>Zaj x m) (P:=fun x=>sm (VG) x) (T:=tot (VG)) (fun x hx m m0 m1=>ZiE x m m0 m1 (hb.2 x hx)) (fun x hx m m0 m1=>ZmJ x m m0 m1 (hb.2 x hx)) (fun k m=>rfl) m0 m1 (by omega)
theorem ZlD (a:Zd) (left:Int) (h0:0≤left) (h1:left≤1048576) (hb:bnd (Yt) a):Szt (ZbT a left) left (tot (Yt) a):=by
 unfold ZbT
 exact (Szt.then (ZjP a.1 _ h0 h1 hb.1) h0 h1 (fun m0 a0 b0=>Szt.then (ZkJ a.2.1 _ a0 b0 hb.2.1) a0 b0 (fun m1 a1 b1=>Szt.last (ZlL a.2.2.1 _ a1 b1 hb.2.2.1)))).mono (by simp only [ZcM,ZeR,ZcL,ZcN,ZdZ];omega)
theorem ZjS (a:List (Zj)) (left:Int) (h0:0≤left) (h1:left≤1048576) (hb:bnd (.sl (Z6)) a):Szt (JE a left) left (tot (.sl (Z6)) a):=by
 unfold JE
 refine (Szt.len h0 h1 (by omega) hb.1 (fun hw m0 m1=>(?_:Szt _ _ ((a.map (tot (Z6))).sum)))).mono (by rw [ZgR];omega)
 rw [hw]
 exact Szt.ret.mono (by rw [Zke (by rfl)];omega)
theorem ZlE (a:List (Bool)) (left:Int) (h0:0≤left) (h1:left≤1048576) (hb:bnd (.sl (.bool)) a):Szt (ZbU a left) left (tot (.sl (.bool)) a):=by
 unfold ZbU
 refine (Szt.len h0 h1 (by omega) hb.1 (fun hw m0 m1=>(?_:Szt _ _ ((a.map (tot (.bool))).sum)))).mono (by rw [ZgR];omega)
 rw [hw]
 exact Szt.ret.mono (by rw [Zke (by rfl)];omega)
theorem ZgJ (a:List (Zu)) (left:Int) (h0:0≤left) (h1:left≤1048576) (hb:bnd (.sl (XJ)) a):Szt (Zai a left) left (tot (.sl (XJ)) a):=by
 unfold Zai
 refine (Szt.len h0 h1 (by omega) hb.1 (fun hw m0 m1=>(?_:Szt _ _ ((a.map (tot (XJ))).sum)))).mono (by rw [ZgR];omega)
 rw [hw]
 exact Szt.ret.mono (by rw [Zke (by rfl)];omega)
theorem ZkO (a:Zk) (left:Int) (h0:0≤left) (h1:left≤1048576) (hb:bnd (Xd) a):Szt (ZaF a left) left (tot (Xd) a):=by
 unfold ZaF
 exact (Szt.then (ZlE a.1 _ h0 h1 hb.1) h0 h1 (fun m0 a0 b0=>Szt.then (ZgJ a.2.1 _ a0 b0 hb.2.1) a0 b0 (fun m1 a1 b1=>Szt.last (ZgJ a.2.2.1 _ a1 b1 hb.2.2.1)))).mono (by simp only [ZcM,ZeR,ZcL,ZcN,ZdZ];omega)
theorem ZlC (a:List (Yn)) (k:Int) (hs:sm (.sl (Zdx)) a) (h0:0≤k) (h1:k+(cnt (.sl (Zdx)) a:Int)≤4611686018427387904):Mkd (Zef a k) k (cnt (.sl (Zdx)) a):=by
 unfold Zef
 have hl:a.length≤1048576:=by have:=hs.1;omega
 refine Mkd.loop (l:=a) (c:=cnt (Zdx)) (fun j m x L hj hj' hL hx hxm hm0 hm1 hj2=>?_) (fun m L hL=>?_) hl h0 h1
 ·have hsx:=hs.2 x hxm
  have hc:((cnt (Zdx) x:Nat):Int)=0+1+1+1+1:=by simp only [Zav,Zb6,Zau,Zaw,ZcT];omega
  obtain ⟨s0,e0⟩:=ZeI (m) (by omega) (by omega)
  have hx2:atI L (j:Int)=some x:=by rw [Zn];exact hx
  have hb:∀ {β:Type} (y:Yn) (F:Yn→Option β),(atI (List.set L j y) (j:Int)).bind F=F y:=fun y F=>by rw [ZdQ hj];rfl
  simp only [Zby,if_pos hj',Int.toNat_natCast,hx2,↓hb,Bq,List.set_set,e0]
  refine ZrA ?_ ?_
  ·have hc:=hc;simp (disch:=omega) only [YZ];omega
  ·simp (disch:=omega) only [YZ];omega
 ·simp only [Zby,Int.lt_irrefl,if_false]
theorem YF (a:List (Int)) (k:Int) (hs:sm (.sl (.int .i64)) a) (h0:0≤k) (h1:k+(cnt (.sl (.int .i64)) a:Int)≤4611686018427387904):Mkd (Ya a k) k (cnt (.sl (.int .i64)) a):=by
 unfold Ya
 have hl:a.length≤1048576:=by have:=hs.1;omega
 refine Mkd.loop (l:=a) (c:=cnt (.int .i64)) (fun j m x L hj hj' hL hx hxm hm0 hm1 hj2=>?_) (fun m L hL=>?_) hl h0 h1
 ·have hsx:=hs.2 x hxm
  have hc:((cnt (.int .i64) x:Nat):Int)=0+1:=by rfl
  simp (disch:=omega) only [Qo,if_pos hj',Zn,hx,Bq,YZ,Int.toNat_natCast,ZdQ,List.length_set,List.set_set,List.getElem?_set_self]
  refine ⟨_,congrArg some (congrArg Sum.inl (Prod.ext ?_ (Prod.ext ?_ (Prod.ext rfl rfl))))⟩
  ·show _=m+_;rw [hc];omega
  ·simp only;omega
 ·simp only [Qo,Int.lt_irrefl,if_false]
theorem Zfb (a:List (Zo)) (k:Int) (hs:sm (.sl (YE)) a) (h0:0≤k) (h1:k+(cnt (.sl (YE)) a:Int)≤4611686018427387904):Mkd (Zae a k) k (cnt (.sl (YE)) a):=by
 unfold Zae
 have hl:a.length≤1048576:=by have:=hs.1;omega
 refine Mkd.loop (l:=a) (c:=cnt (YE)) (fun j m x L hj hj' hL hx hxm hm0 hm1 hj2=>?_) (fun m L hL=>?_) hl h0 h1
 ·have hsx:=hs.2 x hxm
  have hc:((cnt (YE) x:Nat):Int)=0+((cnt (.sl (.int .i64)) x.1:Nat):Int)+((cnt (.sl (.int .i64)) x.2.1:Nat):Int)+((cnt (.sl (.int .i64)) x.2.2.1:Nat):Int):=by simp only [Zav,Zb6,Zau,Zaw,ZcT];omega
  obtain ⟨s0,e0⟩:=YF x.1 (m) hsx.1 (by omega) (by omega)
  obtain ⟨s1,e1⟩:=YF x.2.1 (m+((cnt (.sl (.int .i64)) x.1:Nat):Int)) hsx.2.1 (by omega) (by omega)
  obtain ⟨s2,e2⟩:=YF x.2.2.1 (m+((cnt (.sl (.int .i64)) x.1:Nat):Int)+((cnt (.sl (.int .i64)) x.2.1:Nat):Int)) hsx.2.2.1 (by omega) (by omega)
  simp (disch:=omega) only [Zaf,if_pos hj',Zn,hx,Bq,YZ,Int.toNat_natCast,ZdQ,List.length_set,List.set_set,List.getElem?_set_self,e0,e1,e2]
  refine ⟨_,congrArg some (congrArg Sum.inl (Prod.ext ?_ (Prod.ext ?_ (Prod.ext rfl rfl))))⟩
  ·show _=m+_;rw [hc];omega
  ·simp only;omega
 ·simp only [Zaf,Int.lt_irrefl,if_false]
theorem ZlB (a:List (Zw)) (k:Int) (hs:sm (.sl (ZdP)) a) (h0:0≤k) (h1:k+(cnt (.sl (ZdP)) a:Int)≤4611686018427387904):Mkd (Zee a k) k (cnt (.sl (ZdP)) a):=by
 unfold Zee
 have hl:a.length≤1048576:=by have:=hs.1;omega
 refine Mkd.loop (l:=a) (c:=cnt (ZdP)) (fun j m x L hj hj' hL hx hxm hm0 hm1 hj2=>?_) (fun m L hL=>?_) hl h0 h1
 ·have hsx:=hs.2 x hxm
  have hc:((cnt (ZdP) x:Nat):Int)=0+1+1+1+1+((cnt (.sl (YE)) x.2.2.2.2.1:Nat):Int)+((cnt (.sl (YE)) x.2.2.2.2.2.1:Nat):Int):=by simp only [Zav,Zb6,Zau,Zaw,ZcT];omega
  obtain ⟨s0,e0⟩:=Zfb x.2.2.2.2.1 (m+1+1+1+1) hsx.2.2.2.2.1 (by omega) (by omega)
  obtain ⟨s1,e1⟩:=Zfb x.2.2.2.2.2.1 (m+1+1+1+1+((cnt (.sl (YE)) x.2.2.2.2.1:Nat):Int)) hsx.2.2.2.2.2.1 (by omega) (by omega)
  simp (disch:=omega) only [Zbx,if_pos hj',Zn,hx,Bq,YZ,Int.toNat_natCast,ZdQ,List.length_set,List.set_set,List.getElem?_set_self,e0,e1]
  refine ⟨_,congrArg some (congrArg Sum.inl (Prod.ext ?_ (Prod.ext ?_ (Prod.ext rfl rfl))))⟩
  ·show _=m+_;rw [hc];omega
  ·simp only;omega
 ·simp only [Zbx,Int.lt_irrefl,if_false]
theorem ZkF (a:List (Zi)) (k:Int) (hs:sm (.sl (Qz)) a) (h0:0≤k) (h1:k+(cnt (.sl (Qz)) a:Int)≤4611686018427387904):Mkd (Zdk a k) k (cnt (.sl (Qz)) a):=by
 unfold Zdk
 have hl:a.length≤1048576:=by have:=hs.1;omega
 refine Mkd.loop (l:=a) (c:=cnt (Qz)) (fun j m x L hj hj' hL hx hxm hm0 hm1 hj2=>?_) (fun m L hL=>?_) hl h0 h1
 ·have hsx:=hs.2 x hxm
  have hc:((cnt (Qz) x:Nat):Int)=0+1+1+((cnt (.sl (Zdx)) x.2.2.1:Nat):Int)+((cnt (.sl (ZdP)) x.2.2.2.1:Nat):Int)+((cnt (.sl (.int .i64)) x.2.2.2.2.1:Nat):Int)+1+1:=by simp only [Zav,Zb6,Zau,Zaw,ZcT];omega
  obtain ⟨s0,e0⟩:=ZeI (m) (by omega) (by omega)
  obtain ⟨s1,e1⟩:=ZlC x.2.2.1 (m+1+1) hsx.2.2.1 (by omega) (by omega)
  obtain ⟨s2,e2⟩:=ZlB x.2.2.2.1 (m+1+1+((cnt (.sl (Zdx)) x.2.2.1:Nat):Int)) hsx.2.2.2.1 (by omega) (by omega)
  obtain ⟨s3,e3⟩:=YF x.2.2.2.2.1 (m+1+1+((cnt (.sl (Zdx)) x.2.2.1:Nat):Int)+((cnt (.sl (ZdP)) x.2.2.2.1:Nat):Int)) hsx.2.2.2.2.1 (by omega) (by omega)
  simp (disch:=omega) only [ZaR,if_pos hj',Zn,hx,Bq,YZ,Int.toNat_natCast,ZdQ,List.length_set,List.set_set,List.getElem?_set_self,e0,e1,e2,e3]
  refine ⟨_,congrArg some (congrArg Sum.inl (Prod.ext ?_ (Prod.ext ?_ (Prod.ext rfl rfl))))⟩
  ·show _=m+_;rw [hc];omega
  ·simp only;omega
 ·simp only [ZaR,Int.lt_irrefl,if_false]
theorem ZiV (a:Zt) (k:Int) (hs:sm (Yz) a) (h0:0≤k) (h1:k+((cnt (Yz) a:Nat):Int)≤4611686018427387904):Mkd (Zbm a k) k (cnt (Yz) a):=by
 unfold Zbm
 have hc:((cnt (Yz) a:Nat):Int)=0+(((cnt (.sl (Qz)) a.1):Nat):Int):=by simp only [Zav,Zb6,Zau,Zaw,ZcT];omega
 obtain ⟨s0,e0⟩:=ZkF a.1 (k) hs.1 (by omega) (by omega)
 simp only [Bq,e0]
 exact ⟨_,congrArg some (Prod.ext (by rfl) rfl)⟩
theorem ZhC (a:List (Zg)) (k:Int) (hs:sm (.sl (ZT)) a) (h0:0≤k) (h1:k+(cnt (.sl (ZT)) a:Int)≤4611686018427387904):Mkd (JW a k) k (cnt (.sl (ZT)) a):=by
 unfold JW
 have hl:a.length≤1048576:=by have:=hs.1;omega
 refine Mkd.loop (l:=a) (c:=cnt (ZT)) (fun j m x L hj hj' hL hx hxm hm0 hm1 hj2=>?_) (fun m L hL=>?_) hl h0 h1
 ·have hsx:=hs.2 x hxm
  have hc:((cnt (ZT) x:Nat):Int)=0+1+1+((cnt (.sl (.int .i64)) x.2.2.1:Nat):Int):=by simp only [Zav,Zb6,Zau,Zaw,ZcT];omega
  obtain ⟨s0,e0⟩:=ZeI (m) (by omega) (by omega)
  obtain ⟨s1,e1⟩:=YF x.2.2.1 (m+1+1) hsx.2.2.1 (by omega) (by omega)
  simp (disch:=omega) only [V3,if_pos hj',Zn,hx,Bq,YZ,Int.toNat_natCast,ZdQ,List.length_set,List.set_set,List.getElem?_set_self,e0,e1]
  refine ⟨_,congrArg some (congrArg Sum.inl (Prod.ext ?_ (Prod.ext ?_ (Prod.ext rfl rfl))))⟩
  ·show _=m+_;rw [hc];omega
  ·simp only;omega
 ·simp only [V3,Int.lt_irrefl,if_false]
theorem ZiX (a:List (List UInt8)) (k:Int) (hs:sm (.sl (.str)) a) (h0:0≤k) (h1:k+(cnt (.sl (.str)) a:Int)≤4611686018427387904):Mkd (Zbo a k) k (cnt (.sl (.str)) a):=by
 unfold Zbo
 have hl:a.length≤1048576:=by have:=hs.1;omega
 refine Mkd.loop (l:=a) (c:=cnt (.str)) (fun j m x L hj hj' hL hx hxm hm0 hm1 hj2=>?_) (fun m L hL=>?_) hl h0 h1
 ·have hsx:=hs.2 x hxm
  have hc:((cnt (.str) x:Nat):Int)=0+1:=by rfl
  obtain ⟨s0,e0⟩:=ZeI (m) (by omega) (by omega)
  simp (disch:=omega) only [JJ,if_pos hj',Zn,hx,Bq,YZ,Int.toNat_natCast,ZdQ,List.length_set,List.set_set,List.getElem?_set_self,e0]
  refine ⟨_,congrArg some (congrArg Sum.inl (Prod.ext ?_ (Prod.ext ?_ (Prod.ext rfl rfl))))⟩
  ·show _=m+_;rw [hc];omega
  ·simp only;omega
 ·simp only [JJ,Int.lt_irrefl,if_false]
theorem ZkG (a:List (ZP)) (k:Int) (hs:sm (.sl (V6)) a) (h0:0≤k) (h1:k+(cnt (.sl (V6)) a:Int)≤4611686018427387904):Mkd (Zdl a k) k (cnt (.sl (V6)) a):=by
 unfold Zdl
 have hl:a.length≤1048576:=by have:=hs.1;omega
 refine Mkd.loop (l:=a) (c:=cnt (V6)) (fun j m x L hj hj' hL hx hxm hm0 hm1 hj2=>?_) (fun m L hL=>?_) hl h0 h1
 ·have hsx:=hs.2 x hxm
  have hc:((cnt (V6) x:Nat):Int)=0+1+1+1:=by simp only [Zav,Zb6,Zau,Zaw,ZcT];omega
  obtain ⟨s0,e0⟩:=ZeI (m) (by omega) (by omega)
  simp (disch:=omega) only [ZaS,if_pos hj',Zn,hx,Bq,YZ,Int.toNat_natCast,ZdQ,List.length_set,List.set_set,List.getElem?_set_self,e0]
  refine ⟨_,congrArg some (congrArg Sum.inl (Prod.ext ?_ (Prod.ext ?_ (Prod.ext rfl rfl))))⟩
  ·show _=m+_;rw [hc];omega
  ·simp only;omega
 ·simp only [ZaS,Int.lt_irrefl,if_false]
theorem ZjL (a:Zc) (k:Int) (hs:sm (Yu) a) (h0:0≤k) (h1:k+((cnt (Yu) a:Nat):Int)≤4611686018427387904):Mkd (Zcr a k) k (cnt (Yu) a):=by
 unfold Zcr
 have hc:((cnt (Yu) a:Nat):Int)=0+(((cnt (.sl (ZT)) a.1):Nat):Int)+(((cnt (.sl (.str)) a.2.1):Nat):Int)+(((cnt (.sl (V6)) a.2.2.1):Nat):Int):=by simp only [Zav,Zb6,Zau,Zaw,ZcT];omega
 obtain ⟨s0,e0⟩:=ZhC a.1 (k) hs.1 (by omega) (by omega)
 obtain ⟨s1,e1⟩:=ZiX a.2.1 (k+(((cnt (.sl (ZT)) a.1):Nat):Int)) hs.2.1 (by omega) (by omega)
 obtain ⟨s2,e2⟩:=ZkG a.2.2.1 (k+(((cnt (.sl (ZT)) a.1):Nat):Int)+(((cnt (.sl (.str)) a.2.1):Nat):Int)) hs.2.2.1 (by omega) (by omega)
 simp only [Bq,e0,e1,e2]
 exact ⟨_,congrArg some (Prod.ext (by show _=k+_;rw [hc];omega) rfl)⟩
theorem ZkH (a:List (Zp)) (k:Int) (hs:sm (.sl (VG)) a) (h0:0≤k) (h1:k+(cnt (.sl (VG)) a:Int)≤4611686018427387904):Mkd (Zdm a k) k (cnt (.sl (VG)) a):=by
 unfold Zdm
 have hl:a.length≤1048576:=by have:=hs.1;omega
 refine Mkd.loop (l:=a) (c:=cnt (VG)) (fun j m x L hj hj' hL hx hxm hm0 hm1 hj2=>?_) (fun m L hL=>?_) hl h0 h1
 ·have hsx:=hs.2 x hxm
  have hc:((cnt (VG) x:Nat):Int)=0+((cnt (.sl (.int .i64)) x.1:Nat):Int)+((cnt (.sl (.int .i64)) x.2.1:Nat):Int)+((cnt (.sl (.int .i64)) x.2.2.1:Nat):Int)+((cnt (.sl (.int .i64)) x.2.2.2.1:Nat):Int):=by simp only [Zav,Zb6,Zau,Zaw,ZcT];omega
  obtain ⟨s0,e0⟩:=YF x.1 (m) hsx.1 (by omega) (by omega)
  obtain ⟨s1,e1⟩:=YF x.2.1 (m+((cnt (.sl (.int .i64)) x.1:Nat):Int)) hsx.2.1 (by omega) (by omega)
  obtain ⟨s2,e2⟩:=YF x.2.2.1 (m+((cnt (.sl (.int .i64)) x.1:Nat):Int)+((cnt (.sl (.int .i64)) x.2.1:Nat):Int)) hsx.2.2.1 (by omega) (by omega)
  obtain ⟨s3,e3⟩:=YF x.2.2.2.1 (m+((cnt (.sl (.int .i64)) x.1:Nat):Int)+((cnt (.sl (.int .i64)) x.2.1:Nat):Int)+((cnt (.sl (.int .i64)) x.2.2.1:Nat):Int)) hsx.2.2.2.1 (by omega) (by omega)
  simp (disch:=omega) only [ZaU,if_pos hj',Zn,hx,Bq,YZ,Int.toNat_natCast,ZdQ,List.length_set,List.set_set,List.getElem?_set_self,e0,e1,e2,e3]
  refine ⟨_,congrArg some (congrArg Sum.inl (Prod.ext ?_ (Prod.ext ?_ (Prod.ext rfl rfl))))⟩
  ·show _=m+_;rw [hc];omega
  ·simp only;omega
 ·simp only [ZaU,Int.lt_irrefl,if_false]
theorem ZkD (a:Zd) (k:Int) (hs:sm (Yt) a) (h0:0≤k) (h1:k+((cnt (Yt) a:Nat):Int)≤4611686018427387904):Mkd (Zdi a k) k (cnt (Yt) a):=by
 unfold Zdi
 have hc:((cnt (Yt) a:Nat):Int)=0+(((cnt (Yz) a.1):Nat):Int)+(((cnt (Yu) a.2.1):Nat):Int)+(((cnt (.sl (VG)) a.2.2.1):Nat):Int):=by simp only [Zav,Zb6,Zau,Zaw,ZcT];omega
 obtain ⟨s0,e0⟩:=ZiV a.1 (k) hs.1 (by omega) (by omega)
 obtain ⟨s1,e1⟩:=ZjL a.2.1 (k+(((cnt (Yz) a.1):Nat):Int)) hs.2.1 (by omega) (by omega)
 obtain ⟨s2,e2⟩:=ZkH a.2.2.1 (k+(((cnt (Yz) a.1):Nat):Int)+(((cnt (Yu) a.2.1):Nat):Int)) hs.2.2.1 (by omega) (by omega)
 simp only [Bq,e0,e1,e2]
 exact ⟨_,congrArg some (Prod.ext (by show _=k+_;rw [hc];omega) rfl)⟩
theorem ZiW (a:List (Zj)) (k:Int) (hs:sm (.sl (Z6)) a) (h0:0≤k) (h1:k+(cnt (.sl (Z6)) a:Int)≤4611686018427387904):Mkd (Zbn a k) k (cnt (.sl (Z6)) a):=by
 unfold Zbn
 have hl:a.length≤1048576:=by have:=hs.1;omega
 refine Mkd.loop (l:=a) (c:=cnt (Z6)) (fun j m x L hj hj' hL hx hxm hm0 hm1 hj2=>?_) (fun m L hL=>?_) hl h0 h1
 ·have hsx:=hs.2 x hxm
  have hc:((cnt (Z6) x:Nat):Int)=0+1+1+1+1+1:=by simp only [Zav,Zb6,Zau,Zaw,ZcT];omega
  have hx2:atI L (j:Int)=some x:=by rw [Zn];exact hx
  have hb:∀ {β:Type} (y:Zj) (F:Zj→Option β),(atI (List.set L j y) (j:Int)).bind F=F y:=fun y F=>by rw [ZdQ hj];rfl
  simp only [JI,if_pos hj',Int.toNat_natCast,hx2,↓hb,Bq,List.set_set]
  refine ZrA ?_ ?_
  ·have hc:=hc;simp (disch:=omega) only [YZ];omega
  ·simp (disch:=omega) only [YZ];omega
 ·simp only [JI,Int.lt_irrefl,if_false]
end Go.Proofs.YtclfgjepbamnlaaGreatDoor
