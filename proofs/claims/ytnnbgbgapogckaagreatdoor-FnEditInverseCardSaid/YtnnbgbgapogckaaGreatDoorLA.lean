/-
  Ground of the plain laws: loops by what they come to; small arithmetic.
-/
import Derived.Test.YtnnbgbgapogckaaGreatDoorSxM
import Derived.IntWalk
import Derived.Test.YtnnbgbgapogckaaGreatDoorM
namespace Go.Proofs.YtnnbgbgapogckaaGreatDoor
set_option linter.unusedVariables false
set_option linter.unusedSimpArgs false
open Go Go.Sx
theorem XD {n:Int} (h1:-9223372036854775808≤n) (h2:n≤9223372036854775807):Wq n=n:=IntWalk.i64_in n ⟨h1,h2⟩
theorem VU {α:Type} (l:List α) (k:Nat):atI l (k:Int)=l[k]?:=by simp [atI]
theorem Zkf {α:Type} {l:List α} {i:Int} {x:α} (h0:0≤i) (hx:l[i.toNat]?=some x):atI l i=some x:=by simp [atI,h0,hx]
theorem Zbn {α:Type} {l:List α} {i:Int} (h0:0≤i) (h1:i<l.length):∃ x,atI l i=some x∧l[i.toNat]?=some x :=
 ⟨l[i.toNat]'(by omega),by simp [atI,h0],List.getElem?_eq_getElem _⟩
theorem ZB {α:Type} {p:Prop} (h:p) (a:Option α):Zj p a=a:=by
 unfold Zj
 exact if_pos h
theorem ZaD {τ ρ:Type} {step:τ→Option (τ ⊕ ρ)} (n:Nat) (I:Nat→τ→Prop) (Q:ρ→Prop) {v:τ} (h0:I 0 v)
  (hs:∀ k v,k<n→I k v→(∃ v',step v=some (.inl v')∧I (k+1) v')∨∃ r,step v=some (.inr r)∧Q r)
  (hx:∀ v,I n v→∃ r,step v=some (.inr r)∧Q r):∃ r,ZA step v=some r∧Q r:=by
 have:∀ m k v,k+m=n→I k v→∃ r,ZA step v=some r∧Q r:=by
  intro m
  induction m with
  | zero =>
   intro k v hk hI
   have:k=n:=by omega
   subst this
   obtain ⟨r,e,hq⟩:=hx v hI
   exact ⟨r,Zct e,hq⟩
  | succ m ih =>
   intro k v hk hI
   rcases hs k v (by omega) hI with ⟨v',e,hI'⟩ | ⟨r,e,hq⟩
   ·obtain ⟨r,h1,h2⟩:=ih (k+1) v' (by omega) hI'
    exact ⟨r,by rw [ZgA e];exact h1,h2⟩
   ·exact ⟨r,Zct e,hq⟩
 exact this n 0 v (by omega) h0
theorem XC {τ ρ:Type} {step:τ→Option (τ ⊕ ρ)} (n:Nat) (I:Nat→τ→Prop) (R:ρ) {v:τ} (h0:I 0 v)
  (hs:∀ k v,k<n→I k v→(∃ v',step v=some (.inl v')∧I (k+1) v')∨step v=some (.inr R))
  (hx:∀ v,I n v→step v=some (.inr R)):ZA step v=some R:=by
 obtain ⟨r,h1,h2⟩:=ZaD n I (fun r=>r=R) h0 (fun k v hk hI=>(hs k v hk hI).elim .inl (fun h=>.inr ⟨R,h,rfl⟩)) (fun v hI=>⟨R,hx v hI,rfl⟩)
 rw [h1,h2]
theorem JI {α:Type} {l:List α} {k:Nat} {x:α} (hx:l[k]?=some x):l.take (k+1)=l.take k++[x]:=by
 rw [List.take_add_one,hx];rfl
theorem Zfz {ρ:Type} {g:Nat→Option ρ} {v:ρ} (h:∃ n,g n=some v) (hd:∀ n r,g n=some r→r=v):ZkQ g=some v:=by
 obtain ⟨n,hn⟩:=h
 unfold ZkQ
 have hx:∃ r n,g n=some r:=⟨v,n,hn⟩
 rw [dif_pos hx]
 obtain ⟨m,hm⟩:=Classical.choose_spec hx
 rw [hd m _ hm]
def sm:(t:Ty)→t.den→Prop
 | .str,s=>(s.length:Int)≤1048576
 | .sl t,l=>(l.length:Int)≤1048576∧∀ x∈l,sm t x
 | .pair a b,d=>sm a d.1∧sm b d.2
 | _,_=>True
noncomputable def tr (p:Prop):Bool:=@decide p (Classical.propDecidable p)
theorem Zya {p:Prop} {b:Bool} (h:b=true↔p):tr p=b:=by
 unfold tr
 cases b
 ·simp at h;simp [h]
 ·simp at h;simp [h]
theorem Zgv (p:Prop):tr p=true↔p:=by simp [tr]
theorem ZcF {p:Prop} (h:p):tr p=true:=(Zgv p).2 h
theorem Zag {p:Prop} (h:¬p):tr p=false:=by simp [tr,h]
/-
  Ground of the plain laws: the usual loops.
-/
def Len {α:Type} (l:List α):Prop:=l.length≤4611686018427387904
theorem ZAe {k:Nat} {α:Type} {l:List α} (hl:Len l) (hk:k≤l.length):Wq ((k:Int)+1)=((k+1:Nat):Int):=by
 have:l.length≤4611686018427387904:=hl
 rw [XD (by omega) (by omega)];simp
def Zrm {α:Type} (p:α→Bool) (l:List α):Int:=match l.findIdx? p with
 | some i=>i
 | none=>-1
theorem ZrE {α:Type} {p:α→Bool} {l:List α}:0≤Zrm p l↔l.any p=true:=by
 unfold Zrm
 split
 ·rename_i i h
  obtain ⟨h1,h2,_⟩:=List.findIdx?_eq_some_iff_getElem.1 h
  refine ⟨fun _=>List.any_eq_true.2 ⟨_,List.getElem_mem h1,h2⟩,fun _=>by omega⟩
 ·rename_i h
  rw [List.findIdx?_eq_none_iff] at h
  refine ⟨fun h'=>by omega,fun h'=>?_⟩
  obtain ⟨x,hx,hp⟩:=List.any_eq_true.1 h'
  have:=h x hx
  rw [hp] at this;cases this
theorem Zru {α ρ:Type} {l:List α} (hl:Len l) {p:α→Bool} {step:Int×Unit→Option ((Int×Unit) ⊕ ρ)} {out:Int→ρ}
  (hs:∀ (k:Nat) (x:α),l[k]?=some x→step ((k:Int),())=some (if p x=true then .inr (out k) else .inl (Wq ((k:Int)+1),())))
  (hx:step ((l.length:Int),())=some (.inr (out (-1)))):ZA step (0,())=some (out (Zrm p l)):=by
 refine XC l.length (fun k v=>v.1=(k:Int)∧∀ x∈l.take k,p x=false) _ ⟨rfl,by simp⟩ ?_ ?_
 ·rintro k ⟨i,⟨⟩⟩ hk ⟨hi,hS⟩
  simp only at hi
  subst hi
  have hx:l[k]?=some l[k]:=List.getElem?_eq_getElem hk
  rw [hs k _ hx,ZAe hl (by omega)]
  split
  ·rename_i hp
   right
   have:l.findIdx? p=some k:=by
    rw [List.findIdx?_eq_some_iff_getElem]
    refine ⟨hk,hp,fun j hj=>?_⟩
    have:=hS l[j] (List.mem_iff_getElem?.2 ⟨j,by rw [List.getElem?_take,if_pos hj];exact List.getElem?_eq_getElem _⟩)
    simp [this]
   unfold Zrm
   rw [this]
  ·rename_i hp
   refine .inl ⟨_,rfl,rfl,?_⟩
   rw [JI hx]
   intro y hy
   rcases List.mem_append.1 hy with hy | hy
   ·exact hS y hy
   ·simp at hy;subst hy;simpa using hp
 ·rintro ⟨i,⟨⟩⟩ ⟨hi,hS⟩
  simp only at hi
  subst hi
  rw [List.take_length] at hS
  have:l.findIdx? p=none:=List.findIdx?_eq_none_iff.2 hS
  rw [hx]
  unfold Zrm
  rw [this]
noncomputable def sel {ρ:Type} (P:Prop) (a b:ρ):ρ:=match tr P with
 | true=>a
 | false=>b
theorem ZjL {ρ:Type} {P:Prop} (h:P) (a b:ρ):sel P a b=a:=by simp [sel,ZcF h]
theorem Zl6 {ρ:Type} {P:Prop} (h:¬P) (a b:ρ):sel P a b=b:=by simp [sel,Zag h]
theorem Zxw (P:Prop):sel P true false=tr P:=by
 by_cases h:P
 ·rw [ZjL h,ZcF h]
 ·rw [Zl6 h,Zag h]
def Zna {α:Type} (l:List α) (P:Nat→α→Prop):Prop:=∀ (k:Nat) (x:α),l[k]?=some x→P k x
theorem Zrc {α ρ:Type} {l:List α} (hl:Len l) (P:Nat→α→Prop) {step:Int×Unit→Option ((Int×Unit) ⊕ ρ)} {bad good:ρ}
  (hs:∀ (k:Nat) (x:α),l[k]?=some x→k<l.length→(∀ (j:Nat) (y:α),j<k→l[j]?=some y→P j y)→(P k x→step ((k:Int),())=some (.inl (Wq ((k:Int)+1),())))∧(¬P k x→step ((k:Int),())=some (.inr bad)))
  (hx:Zna l P→step ((l.length:Int),())=some (.inr good)):ZA step (0,())=some (sel (Zna l P) good bad):=by
 refine XC l.length (fun k v=>v.1=(k:Int)∧∀ (j:Nat) (y:α),j<k→l[j]?=some y→P j y) _ ⟨rfl,fun j y hj=>by omega⟩ ?_ ?_
 ·rintro k ⟨i,⟨⟩⟩ hk ⟨hi,hS⟩
  simp only at hi
  subst hi
  have hx:l[k]?=some l[k]:=List.getElem?_eq_getElem hk
  obtain ⟨h1,h2⟩:=hs k _ hx hk hS
  by_cases hP:P k l[k]
  ·rw [h1 hP,ZAe hl (by omega)]
   refine .inl ⟨_,rfl,rfl,fun j y hj hy=>?_⟩
   by_cases hjk:j<k
   ·exact hS j y hjk hy
   ·have:j=k:=by omega
    subst this
    rw [hx] at hy;injection hy with hy;subst hy
    exact hP
  ·right
   rw [h2 hP,Zl6 (fun h=>hP (h k _ hx))]
 ·rintro ⟨i,⟨⟩⟩ ⟨hi,hS⟩
  simp only at hi
  subst hi
  have hA:Zna l P:=fun k x hk=>hS k x (List.getElem?_eq_some_iff.1 hk).1 hk
  rw [hx hA,ZjL hA]
theorem ZyS {ρ:Type} (m n:Nat) (hmn:m≤n) (hn:n≤4611686018427387904) (P:Nat→Prop) {step:Int×Unit→Option ((Int×Unit) ⊕ ρ)} {bad good:ρ}
  (hs:∀ k:Nat,m≤k→k<n→(∀ j,m≤j→j<k→P j)→(P k→step ((k:Int),())=some (.inl (Wq ((k:Int)+1),())))∧(¬P k→step ((k:Int),())=some (.inr bad)))
  (hx:(∀ j,m≤j→j<n→P j)→step ((n:Int),())=some (.inr good)):ZA step ((m:Int),())=some (sel (∀ j,m≤j→j<n→P j) good bad):=by
 refine XC (n-m) (fun k v=>v.1=((m+k:Nat):Int)∧∀ j,m≤j→j<m+k→P j) _ ⟨by simp,fun j h1 h2=>by omega⟩ ?_ ?_
 ·rintro k ⟨i,⟨⟩⟩ hk ⟨hi,hS⟩
  simp only at hi
  subst hi
  obtain ⟨h1,h2⟩:=hs (m+k) (by omega) (by omega) hS
  by_cases hP:P (m+k)
  ·rw [h1 hP,XD (by omega) (by omega)]
   refine .inl ⟨_,rfl,by simp only;omega,fun j ha hb=>?_⟩
   by_cases hj:j<m+k
   ·exact hS j ha hj
   ·have:j=m+k:=by omega
    subst this;exact hP
  ·right
   rw [h2 hP,Zl6 (fun h=>hP (h (m+k) (by omega) (by omega)))]
 ·rintro ⟨i,⟨⟩⟩ ⟨hi,hS⟩
  simp only at hi
  subst hi
  have e:m+(n-m)=n:=by omega
  rw [e] at hS ⊢
  rw [hx hS,ZjL hS]
/-
  Plain laws: bounds, names.
-/
def within (n a b:Int):Bool:=decide (a≤n)&&decide (n≤b)
theorem VP (n a b:Int):YA n a b=some (within n a b):=by
 unfold YA within;split<;>simp [*]
theorem Vx (n a b:Int):Yd n a b=some (within n a b):=by
 unfold Yd within;split<;>simp [*]
theorem within_iff (n a b:Int):within n a b=true↔a≤n∧n≤b:=by simp [within]
def Jw (b:UInt8):Bool:=decide (97≤b.toNat)&&decide (b.toNat≤122)
def Zce (b:UInt8):Bool:=decide (48≤b.toNat)&&decide (b.toNat≤57)
def Zad (s:List UInt8):Bool:=decide (1≤s.length)&&decide (s.length≤8)&&s.all (fun b=>Jw b||Zce b)&&(match s with
 | b::_=>Jw b
 | []=>false)
def ZfR (s:List UInt8) (i:Nat):Prop:=∀ (j:Nat) (b:UInt8),j<i→s[j]?=some b→(Jw b||Zce b)=true∧(j=0→Jw b=true)
theorem Zg7 {s:List UInt8} {i:Nat} {x:UInt8} (h:ZfR s i) (hx:s[i]?=some x) (h1:(Jw x||Zce x)=true) (h2:i=0→Jw x=true):ZfR s (i+1):=by
 intro j b hj hb
 by_cases e:j<i
 ·exact h j b e hb
 ·have:j=i:=by omega
  subst this
  rw [hx] at hb;injection hb with hb;subst hb
  exact ⟨h1,h2⟩
theorem Zfv {s:List UInt8} (h:ZfR s s.length):Zad s=(decide (1≤s.length)&&decide (s.length≤8)):=by
 unfold Zad
 have h1:s.all (fun b=>Jw b||Zce b)=true:=by
  rw [List.all_eq_true]
  intro b hb
  obtain ⟨j,hj⟩:=List.mem_iff_getElem?.1 hb
  exact (h j b (List.getElem?_eq_some_iff.1 hj).1 hj).1
 rw [h1]
 cases s with
 | nil=>rfl
 | cons b r =>
  have:=(h 0 b (by simp) rfl).2 rfl
  simp [this]
theorem Zh9 {s:List UInt8} {j:Nat} {b:UInt8} (hb:s[j]?=some b) (h:(Jw b||Zce b)=false∨j=0∧Jw b=false):Zad s=false:=by
 unfold Zad
 rcases h with h | ⟨rfl,h⟩
 ·have:s.all (fun b=>Jw b||Zce b)=false:=by
   rw [List.all_eq_false]
   exact ⟨b,List.mem_of_getElem? hb,by simp [h]⟩
  simp [this]
 ·cases s with
  | nil=>simp at hb
  | cons c r=>simp at hb;subst hb;simp [h]
theorem ZdJ (s:List UInt8) (hl:s.length≤4611686018427387904):Vg s=some (Zad s):=by
 unfold Vg
 refine XC s.length (fun k v=>v.1=(k:Int)∧ZfR s k) _ ⟨rfl,fun j b hj=>by omega⟩ ?_ ?_
 ·rintro k ⟨i,⟨⟩⟩ hk ⟨rfl,hS⟩
  have hx:s[k]?=some s[k]:=List.getElem?_eq_getElem hk
  generalize s[k]=x at hx
  simp only [Xu,VU,hx,Bq,show (k:Int)<(s.length:Int) from by omega,if_true,XD (show (-9223372036854775808:Int)≤(k:Int)+1 by omega) (by omega)]
  have ok:(Jw x||Zce x)=true→(k=0→Jw x=true)→(((k:Int)+1,()):Int×Unit).1=((k+1:Nat):Int)∧ZfR s (k+1):=fun h1 h2=>⟨by simp,Zg7 hS hx h1 h2⟩
  have bad:((Jw x||Zce x)=false∨k=0∧Jw x=false)→(some (Sum.inr false):Option (Int×Unit ⊕ Bool))=some (Sum.inr (Zad s)):=fun h=>by rw [Zh9 hx h]
  simp only [Jw,Zce] at ok bad
  repeat' split
  all_goals first
   | (left;refine ⟨_,rfl,ok ?_ ?_⟩<;>simp<;>omega)
   | (right;refine bad ?_;first | (left;simp;omega) | (right;simp;omega))
 ·rintro ⟨i,⟨⟩⟩ ⟨rfl,hS⟩
  simp only [Xu,Int.lt_irrefl,if_false]
  rw [Zfv hS]
  split
  ·rename_i h
   have h1:1≤s.length:=by omega
   have h2:decide ((s.length:Int)≤8)=decide (s.length≤8):=by rw [decide_eq_decide];omega
   simp [h1,h2]
  ·have h1:¬1≤s.length:=by omega
   simp [h1]
theorem dropWhile_nil {p:UInt8→Bool}:∀ (m:List UInt8),(∀ x∈m.dropWhile p,p x=true)→∀ x∈m,p x=true
 | [],_=>by simp
 | a::m,h=>by
  by_cases ha:p a=true
  ·rw [List.dropWhile_cons_of_pos ha] at h
   intro x hx
   rcases List.mem_cons.1 hx with rfl | hx
   ·exact ha
   ·exact dropWhile_nil m h x hx
  ·rw [List.dropWhile_cons_of_neg ha] at h
   exact absurd (h a (by simp)) ha
theorem Zbs {p:UInt8→Bool}:∀ (m:List UInt8),m.dropWhile p=[]↔∀ x∈m,p x=true
 | []=>by simp
 | a::m=>by
  by_cases ha:p a=true
  ·rw [List.dropWhile_cons_of_pos ha,Zbs m];simp [ha]
  ·rw [List.dropWhile_cons_of_neg ha];simp [ha]
theorem Zj0 (s cs:List UInt8):Lib.trimS s cs=[]↔∀ b∈s,cs.contains b=true:=by
 unfold Lib.trimS Lib.trimLeftS Lib.trimRightS
 rw [Zbs]
 constructor
 ·intro h b hb
  exact dropWhile_nil s.reverse (fun x hx=>h x (List.mem_reverse.2 hx)) b (List.mem_reverse.2 hb)
 ·intro h b hb
  exact h b (List.mem_reverse.1 ((List.dropWhile_sublist _).subset (List.mem_reverse.1 hb)))
def letters:List UInt8:=[97,98,99,100,101,102,103,104,105,106,107,108,109,110,111,112,113,114,115,116,117,118,119,120,121,122]
def JR:List UInt8:=letters++[48,49,50,51,52,53,54,55,56,57]
theorem Zlp {p:UInt8→Bool} (h:(List.range 256).all (fun n=>p (UInt8.ofNat n))=true) (b:UInt8):p b=true:=by
 rw [List.all_eq_true] at h
 have:=h b.toNat (List.mem_range.2 b.toNat_lt)
 simpa using this
theorem Zaj (b:UInt8):JR.contains b=(Jw b||Zce b):=by
 have:=Zlp (p:=fun b=>JR.contains b == (Jw b||Zce b)) (by decide +kernel) b
 simpa using this
theorem Zgw (s:List UInt8):Lib.trimS s JR=[]↔s.all (fun b=>Jw b||Zce b)=true:=by
 rw [Zj0,List.all_eq_true]
 simp only [Zaj]
theorem Zfq (b:UInt8):decide (0≤(Lib.indexByte letters b:Int))=Jw b:=by
 have:=Zlp (p:=fun b=>decide (0≤(Lib.indexByte letters b:Int)) == Jw b) (by decide +kernel) b
 simpa using this
theorem Zep (s:List UInt8):VD s=some (Zad s):=by
 unfold VD
 rw [VP,Bq]
 split
 ·rename_i h
  rw [within_iff] at h
  rw [ZB (by omega)]
  split
  ·rename_i ht
   have ht':=(Zgw s).1 ht
   cases s with
   | nil=>simp at h
   | cons b r =>
    have e:atI (b::r) (0:Int)=some b:=rfl
    rw [e,Bq]
    have e1:((b.toNat:Int)).toNat.toUInt8=b:=by simp
    rw [e1]
    have h1:1≤(b::r).length:=by simp
    have h2:(b::r).length≤8:=by omega
    have:=Zfq b
    unfold letters at this
    rw [this]
    simp only [Zad,ht',decide_eq_true h1,decide_eq_true h2,Bool.true_and]
  ·rename_i ht
   have ht':¬s.all (fun b=>Jw b||Zce b)=true:=fun e=>ht ((Zgw s).2 e)
   simp only [Zad,Bool.eq_false_iff.2 ht',Bool.and_false,Bool.false_and]
 ·rename_i h
  rw [within_iff] at h
  have:¬(1≤s.length∧s.length≤8):=by omega
  rw [eq_comm]
  congr 1
  rw [Bool.eq_false_iff]
  intro hh
  simp only [Zad,Bool.and_eq_true,decide_eq_true_eq] at hh
  omega
theorem ZcS (l:List (List UInt8)) (s:List UInt8) (hl:l.length≤4611686018427387904):∃ r,ZP l s=some r∧(0≤r↔s∈l):=by
 unfold ZP
 refine ZaD l.length (fun k v=>v.1=(k:Int)∧s ∉ l.take k) _ ⟨rfl,by simp⟩ ?_ ?_
 ·rintro k ⟨i,⟨⟩⟩ hk ⟨rfl,hS⟩
  have hx:l[k]?=some l[k]:=List.getElem?_eq_getElem hk
  generalize l[k]=x at hx
  simp only [ZM,VU,hx,Bq,show (k:Int)<(l.length:Int) from by omega,if_true,XD (show (-9223372036854775808:Int)≤(k:Int)+1 by omega) (by omega)]
  split
  ·rename_i e;subst e
   exact .inr ⟨_,rfl,fun _=>List.mem_of_getElem? hx,fun _=>by simp⟩
  ·rename_i e
   exact .inl ⟨_,rfl,by simp,by rw [JI hx];simp [hS,e]⟩
 ·rintro ⟨i,⟨⟩⟩ ⟨rfl,hS⟩
  simp only [ZM,Int.lt_irrefl,if_false]
  refine ⟨_,rfl,fun h=>by omega,fun h=>absurd h (by simpa using hS)⟩
theorem Zbd (l:List (List UInt8)) (s:List UInt8) (hl:l.length≤4611686018427387904):ZJ l s=some (decide (s∈l)):=by
 obtain ⟨r,h1,h2⟩:=ZcS l s hl
 unfold ZJ
 rw [h1,Bq]
 simp only [h2]
def Zc6 (l:List (List UInt8)) (k:Nat):Prop:=∀ (j:Nat) (s:List UInt8),j<k→l[j]?=some s→Zad s=true∧s ∉ l.take j
theorem ZcN (l:List (List UInt8)) (hl:l.length≤4611686018427387904):QO l=some (tr (Zc6 l l.length)):=by
 unfold QO
 refine XC l.length (fun k v=>v.1=(k:Int)∧Zc6 l k) _ ⟨rfl,fun j s hj=>by omega⟩ ?_ ?_
 ·rintro k ⟨i,⟨⟩⟩ hk ⟨rfl,hS⟩
  have hx:l[k]?=some l[k]:=List.getElem?_eq_getElem hk
  generalize l[k]=x at hx
  simp only [Y7,VU,hx,Bq,show (k:Int)<(l.length:Int) from by omega,if_true,XD (show (-9223372036854775808:Int)≤(k:Int)+1 by omega) (by omega),Zep]
  split
  ·rename_i hn
   rw [ZB (by omega),ZB (by omega)]
   simp only [Int.toNat_natCast,Int.toNat_zero,List.drop_zero,Nat.sub_zero]
   rw [Zbd _ _ (by simp only [List.length_take];omega),Bq]
   split
   ·rename_i hm
    right
    rw [Zag]
    intro hh
    exact (hh k x hk hx).2 (by simpa using hm)
   ·rename_i hm
    refine .inl ⟨_,rfl,by simp,fun j s hj hs=>?_⟩
    by_cases e:j<k
    ·exact hS j s e hs
    ·have:j=k:=by omega
     subst this
     rw [hx] at hs;injection hs with hs;subst hs
     exact ⟨hn,by simpa using hm⟩
  ·rename_i hn
   right
   rw [Zag]
   intro hh
   exact hn (hh k x hk hx).1
 ·rintro ⟨i,⟨⟩⟩ ⟨rfl,hS⟩
  simp only [Y7,Int.lt_irrefl,if_false]
  rw [ZcF hS]
/-
  Plain laws: numbers within bounds.
-/
def allIn (l:List Int) (lo hi:Int):Bool:=l.all (fun n=>within n lo hi)
theorem Zcb (l:List Int) (lo hi:Int) (hl:l.length≤4611686018427387904):Qf l lo hi=some (allIn l lo hi):=by
 have h1:∃ r,Zq l (lo,hi,())=some r∧(0≤r↔allIn l lo hi=false):=by
  unfold Zq
  refine ZaD l.length (fun k v=>v.1=(k:Int)∧allIn (l.take k) lo hi=true) _ ⟨rfl,rfl⟩ ?_ ?_
  ·rintro k ⟨i,⟨⟩⟩ hk ⟨rfl,hS⟩
   have hx:l[k]?=some l[k]:=List.getElem?_eq_getElem hk
   generalize l[k]=x at hx
   simp only [Zr,XH,VP,VU,hx,Bq,show (k:Int)<(l.length:Int) from by omega,if_true,XD (show (-9223372036854775808:Int)≤(k:Int)+1 by omega) (by omega)]
   cases hw:within x lo hi
   ·refine .inr ⟨_,rfl,fun _=>?_,fun _=>by simp⟩
    rw [allIn,List.all_eq_false]
    exact ⟨x,List.mem_of_getElem? hx,by simp [hw]⟩
   ·refine .inl ⟨_,rfl,by simp,?_⟩
    rw [JI hx,allIn,List.all_append]
    simp only [allIn] at hS
    simp [hS,hw]
  ·rintro ⟨i,⟨⟩⟩ ⟨rfl,hS⟩
   rw [List.take_length] at hS
   simp only [Zr,Int.lt_irrefl,if_false]
   exact ⟨_,rfl,fun h=>by omega,fun h=>by rw [hS] at h;cases h⟩
 obtain ⟨r,h1,h2⟩:=h1
 unfold Qf Zt
 rw [h1]
 simp only [Bq,h2]
 cases allIn l lo hi<;>simp
/-
  Plain laws: the instances of functions of package slices. Printed by program (libgen.py).
-/
theorem ZtF {l:List (List UInt8)} {v:List UInt8} (hl:Len l):ZP l v=some (Zrm (fun x=>decide (v=x)) l):=by
 unfold ZP
 refine Zru (out:=fun i=>i) hl (fun k x hx=>?_) ?_
 ·have hk:=(List.getElem?_eq_some_iff.1 hx).1
  simp only [ZM,VU,hx,Bq,show (k:Int)<(l.length:Int) from by omega,if_true,decide_eq_true_eq]
  split<;>rfl
 ·simp only [ZM,Int.lt_irrefl,if_false]
theorem Zqh {l:List Jy} {f:Bool×Unit} (hl:Len l) (p:Jy→Bool) (hp:∀ x∈l,ZqM x f.fst=some (p x)):Zpl l f=some (Zrm p l):=by
 unfold Zpl
 refine Zru (out:=fun i=>i) hl (p:=p) (fun k x hx=>?_) ?_
 ·have hk:=(List.getElem?_eq_some_iff.1 hx).1
  simp only [Zpu,VU,hx,Bq,show (k:Int)<(l.length:Int) from by omega,if_true,hp x (List.mem_of_getElem? hx)]
  split<;>rfl
 ·simp only [Zpu,Int.lt_irrefl,if_false]
theorem Zp8 {l:List Jy} {f:Bool×Unit} (hl:Len l) (p:Jy→Bool) (hp:∀ x∈l,ZqM x f.fst=some (p x)):Zpe l f=some (l.any p):=by
 unfold Zpe
 rw [Zqh hl p hp,Bq]
 congr 1
 rw [Bool.eq_iff_iff,decide_eq_true_eq,ZrE]
theorem Zqn {l:List ZhU} {f:Unit} (hl:Len l) (p:ZhU→Bool) (hp:∀ x∈l,Zs8 x=some (p x)):Zpr l f=some (Zrm p l):=by
 unfold Zpr
 refine Zru (out:=fun i=>i) hl (p:=p) (fun k x hx=>?_) ?_
 ·have hk:=(List.getElem?_eq_some_iff.1 hx).1
  simp only [ZpA,VU,hx,Bq,show (k:Int)<(l.length:Int) from by omega,if_true,hp x (List.mem_of_getElem? hx)]
  split<;>rfl
 ·simp only [ZpA,Int.lt_irrefl,if_false]
theorem Zqj {l:List ZfN} {f:ZfN×Unit} (hl:Len l) (p:ZfN→Bool) (hp:∀ x∈l,Zqi x f.fst=some (p x)):Zpn l f=some (Zrm p l):=by
 unfold Zpn
 refine Zru (out:=fun i=>i) hl (p:=p) (fun k x hx=>?_) ?_
 ·have hk:=(List.getElem?_eq_some_iff.1 hx).1
  simp only [Zpv,VU,hx,Bq,show (k:Int)<(l.length:Int) from by omega,if_true,hp x (List.mem_of_getElem? hx)]
  split<;>rfl
 ·simp only [Zpv,Int.lt_irrefl,if_false]
theorem Zp9 {l:List ZfN} {f:ZfN×Unit} (hl:Len l) (p:ZfN→Bool) (hp:∀ x∈l,Zqi x f.fst=some (p x)):Zpf l f=some (l.any p):=by
 unfold Zpf
 rw [Zqj hl p hp,Bq]
 congr 1
 rw [Bool.eq_iff_iff,decide_eq_true_eq,ZrE]
theorem Zqt {l:List ZfN} {f:Int×Unit} (hl:Len l) (p:ZfN→Bool) (hp:∀ x∈l,ZsC x f.fst=some (p x)):Zps l f=some (Zrm p l):=by
 unfold Zps
 refine Zru (out:=fun i=>i) hl (p:=p) (fun k x hx=>?_) ?_
 ·have hk:=(List.getElem?_eq_some_iff.1 hx).1
  simp only [ZpB,VU,hx,Bq,show (k:Int)<(l.length:Int) from by omega,if_true,hp x (List.mem_of_getElem? hx)]
  split<;>rfl
 ·simp only [ZpB,Int.lt_irrefl,if_false]
theorem Zqk {l:List ZfN} {f:Int×Unit} (hl:Len l) (p:ZfN→Bool) (hp:∀ x∈l,ZsC x f.fst=some (p x)):Zpo l f=some (l.any p):=by
 unfold Zpo
 rw [Zqt hl p hp,Bq]
 congr 1
 rw [Bool.eq_iff_iff,decide_eq_true_eq,ZrE]
theorem Zql {l:List Int} {f:Zp×Unit} (hl:Len l) (p:Int→Bool) (hp:∀ x∈l,ZpX x f.fst=some (p x)):Zpp l f=some (Zrm p l):=by
 unfold Zpp
 refine Zru (out:=fun i=>i) hl (p:=p) (fun k x hx=>?_) ?_
 ·have hk:=(List.getElem?_eq_some_iff.1 hx).1
  simp only [Zpw,VU,hx,Bq,show (k:Int)<(l.length:Int) from by omega,if_true,hp x (List.mem_of_getElem? hx)]
  split<;>rfl
 ·simp only [Zpw,Int.lt_irrefl,if_false]
theorem Zqa {l:List Int} {f:Zp×Unit} (hl:Len l) (p:Int→Bool) (hp:∀ x∈l,ZpX x f.fst=some (p x)):Zpi l f=some (l.any p):=by
 unfold Zpi
 rw [Zql hl p hp,Bq]
 congr 1
 rw [Bool.eq_iff_iff,decide_eq_true_eq,ZrE]
theorem Zq8 {l:List Int} {f:Unit} (hl:Len l) (p:Int→Bool) (hp:∀ x∈l,ZsD x=some (p x)):ZpE l f=some (Zrm p l):=by
 unfold ZpE
 refine Zru (out:=fun i=>i) hl (p:=p) (fun k x hx=>?_) ?_
 ·have hk:=(List.getElem?_eq_some_iff.1 hx).1
  simp only [ZpI,VU,hx,Bq,show (k:Int)<(l.length:Int) from by omega,if_true,hp x (List.mem_of_getElem? hx)]
  split<;>rfl
 ·simp only [ZpI,Int.lt_irrefl,if_false]
theorem ZqS {l:List Int} {f:Unit} (hl:Len l) (p:Int→Bool) (hp:∀ x∈l,ZsD x=some (p x)):ZpD l f=some (l.any p):=by
 unfold ZpD
 rw [Zq8 hl p hp,Bq]
 congr 1
 rw [Bool.eq_iff_iff,decide_eq_true_eq,ZrE]
theorem ZpV {l:List Zz} {f:List UInt8×Unit} (hl:Len l) (p:Zz→Bool) (hp:∀ x∈l,Zr8 x f.fst=some (p x)):Zpc l f=some (Zrm p l):=by
 unfold Zpc
 refine Zru (out:=fun i=>i) hl (p:=p) (fun k x hx=>?_) ?_
 ·have hk:=(List.getElem?_eq_some_iff.1 hx).1
  simp only [Zph,VU,hx,Bq,show (k:Int)<(l.length:Int) from by omega,if_true,hp x (List.mem_of_getElem? hx)]
  split<;>rfl
 ·simp only [Zph,Int.lt_irrefl,if_false]
theorem Zp2 {l:List Zbl} {f:Int×Int×Unit} (hl:Len l) (p:Zbl→Bool) (hp:∀ x∈l,ZqY x f.fst f.snd.fst=some (p x)):Zpd l f=some (Zrm p l):=by
 unfold Zpd
 refine Zru (out:=fun i=>i) hl (p:=p) (fun k x hx=>?_) ?_
 ·have hk:=(List.getElem?_eq_some_iff.1 hx).1
  simp only [Zpq,VU,hx,Bq,show (k:Int)<(l.length:Int) from by omega,if_true,hp x (List.mem_of_getElem? hx)]
  split<;>rfl
 ·simp only [Zpq,Int.lt_irrefl,if_false]
end Go.Proofs.YtnnbgbgapogckaaGreatDoor
