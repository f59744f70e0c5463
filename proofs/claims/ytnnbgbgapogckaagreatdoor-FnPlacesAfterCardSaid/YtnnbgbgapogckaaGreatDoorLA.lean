/-
  Ground of the plain laws: loops by what they come to; small arithmetic.
-/
import Derived.Test.YtnnbgbgapogckaaGreatDoorSxM
import Derived.IntWalk
import Derived.Test.YtnnbgbgapogckaaGreatDoorM
namespace Go.Proofs.YtnnbgbgapogckaaGreatDoor
set_option linter.unusedVariables false
set_option linter.unusedSimpArgs false
open Go Go.Sx
theorem XD {n:Int} (h1:-9223372036854775808≤n) (h2:n≤9223372036854775807):Wq n=n:=IntWalk.i64_in n ⟨h1,h2⟩
theorem VU {α:Type} (l:List α) (k:Nat):atI l (k:Int)=l[k]?:=by simp [atI]
theorem Zkf {α:Type} {l:List α} {i:Int} {x:α} (h0:0≤i) (hx:l[i.toNat]?=some x):atI l i=some x:=by simp [atI,h0,hx]
theorem Zbn {α:Type} {l:List α} {i:Int} (h0:0≤i) (h1:i<l.length):∃ x,atI l i=some x∧l[i.toNat]?=some x :=
  ⟨l[i.toNat]'(by omega),by simp [atI,h0],List.getElem?_eq_getElem _⟩
theorem ZB {α:Type} {p:Prop} (h:p) (a:Option α):Zj p a=a:=by
  unfold Zj
  exact if_pos h
theorem ZaD {τ ρ:Type} {step:τ→Option (τ ⊕ ρ)} (n:Nat) (I:Nat→τ→Prop) (Q:ρ→Prop) {v:τ} (h0:I 0 v)
    (hs:∀ k v,k<n→I k v→(∃ v',step v=some (.inl v')∧I (k+1) v')∨∃ r,step v=some (.inr r)∧Q r)
    (hx:∀ v,I n v→∃ r,step v=some (.inr r)∧Q r):∃ r,ZA step v=some r∧Q r:=by
  have:∀ m k v,k+m=n→I k v→∃ r,ZA step v=some r∧Q r:=by
    intro m
    induction m with
    | zero =>
      intro k v hk hI
      have:k=n:=by omega
      subst this
      obtain ⟨r,e,hq⟩:=hx v hI
      exact ⟨r,Zct e,hq⟩
    | succ m ih =>
      intro k v hk hI
      rcases hs k v (by omega) hI with ⟨v',e,hI'⟩ | ⟨r,e,hq⟩
      · obtain ⟨r,h1,h2⟩:=ih (k+1) v' (by omega) hI'
        exact ⟨r,by rw [ZgA e];exact h1,h2⟩
      · exact ⟨r,Zct e,hq⟩
  exact this n 0 v (by omega) h0
theorem XC {τ ρ:Type} {step:τ→Option (τ ⊕ ρ)} (n:Nat) (I:Nat→τ→Prop) (R:ρ) {v:τ} (h0:I 0 v)
    (hs:∀ k v,k<n→I k v→(∃ v',step v=some (.inl v')∧I (k+1) v')∨step v=some (.inr R))
    (hx:∀ v,I n v→step v=some (.inr R)):ZA step v=some R:=by
  obtain ⟨r,h1,h2⟩:=ZaD n I (fun r=>r=R) h0 (fun k v hk hI=>(hs k v hk hI).elim .inl (fun h=>.inr ⟨R,h,rfl⟩)) (fun v hI=>⟨R,hx v hI,rfl⟩)
  rw [h1,h2]
theorem JI {α:Type} {l:List α} {k:Nat} {x:α} (hx:l[k]?=some x):l.take (k+1)=l.take k++[x]:=by
  rw [List.take_add_one,hx];rfl
theorem Zfz {ρ:Type} {g:Nat→Option ρ} {v:ρ} (h:∃ n,g n=some v) (hd:∀ n r,g n=some r→r=v):ZkQ g=some v:=by
  obtain ⟨n,hn⟩:=h
  unfold ZkQ
  have hx:∃ r n,g n=some r:=⟨v,n,hn⟩
  rw [dif_pos hx]
  obtain ⟨m,hm⟩:=Classical.choose_spec hx
  rw [hd m _ hm]
def sm:(t:Ty)→t.den→Prop
  | .str,s=>(s.length:Int)≤1048576
  | .sl t,l=>(l.length:Int)≤1048576∧∀ x∈l,sm t x
  | .pair a b,d=>sm a d.1∧sm b d.2
  | _,_=>True
noncomputable def tr (p:Prop):Bool:=@decide p (Classical.propDecidable p)
theorem Zya {p:Prop} {b:Bool} (h:b=true↔p):tr p=b:=by
  unfold tr
  cases b
  · simp at h;simp [h]
  · simp at h;simp [h]
theorem Zgv (p:Prop):tr p=true↔p:=by simp [tr]
theorem ZcF {p:Prop} (h:p):tr p=true:=(Zgv p).2 h
theorem Zag {p:Prop} (h:¬p):tr p=false:=by simp [tr,h]
/-
  Ground of the plain laws: the usual loops.
-/
def Len {α:Type} (l:List α):Prop:=l.length≤4611686018427387904
theorem ZAe {k:Nat} {α:Type} {l:List α} (hl:Len l) (hk:k≤l.length):Wq ((k:Int)+1)=((k+1:Nat):Int):=by
  have:l.length≤4611686018427387904:=hl
  rw [XD (by omega) (by omega)];simp
def Zrm {α:Type} (p:α→Bool) (l:List α):Int:=match l.findIdx? p with
  | some i=>i
  | none=>-1
theorem ZrE {α:Type} {p:α→Bool} {l:List α}:0≤Zrm p l↔l.any p=true:=by
  unfold Zrm
  split
  · rename_i i h
    obtain ⟨h1,h2,_⟩:=List.findIdx?_eq_some_iff_getElem.1 h
    refine ⟨fun _=>List.any_eq_true.2 ⟨_,List.getElem_mem h1,h2⟩,fun _=>by omega⟩
  · rename_i h
    rw [List.findIdx?_eq_none_iff] at h
    refine ⟨fun h'=>by omega,fun h'=>?_⟩
    obtain ⟨x,hx,hp⟩:=List.any_eq_true.1 h'
    have:=h x hx
    rw [hp] at this;cases this
theorem Zru {α ρ:Type} {l:List α} (hl:Len l) {p:α→Bool} {step:Int×Unit→Option ((Int×Unit) ⊕ ρ)} {out:Int→ρ}
    (hs:∀ (k:Nat) (x:α),l[k]?=some x→step ((k:Int),())=some (if p x=true then .inr (out k) else .inl (Wq ((k:Int)+1),())))
    (hx:step ((l.length:Int),())=some (.inr (out (-1)))):ZA step (0,())=some (out (Zrm p l)):=by
  refine XC l.length (fun k v=>v.1=(k:Int)∧∀ x∈l.take k,p x=false) _ ⟨rfl,by simp⟩ ?_ ?_
  · rintro k ⟨i,⟨⟩⟩ hk ⟨hi,hS⟩
    simp only at hi
    subst hi
    have hx:l[k]?=some l[k]:=List.getElem?_eq_getElem hk
    rw [hs k _ hx,ZAe hl (by omega)]
    split
    · rename_i hp
      right
      have:l.findIdx? p=some k:=by
        rw [List.findIdx?_eq_some_iff_getElem]
        refine ⟨hk,hp,fun j hj=>?_⟩
        have:=hS l[j] (List.mem_iff_getElem?.2 ⟨j,by rw [List.getElem?_take,if_pos hj];exact List.getElem?_eq_getElem _⟩)
        simp [this]
      unfold Zrm
      rw [this]
    · rename_i hp
      refine .inl ⟨_,rfl,rfl,?_⟩
      rw [JI hx]
      intro y hy
      rcases List.mem_append.1 hy with hy | hy
      · exact hS y hy
      · simp at hy;subst hy;simpa using hp
  · rintro ⟨i,⟨⟩⟩ ⟨hi,hS⟩
    simp only at hi
    subst hi
    rw [List.take_length] at hS
    have:l.findIdx? p=none:=List.findIdx?_eq_none_iff.2 hS
    rw [hx]
    unfold Zrm
    rw [this]
noncomputable def sel {ρ:Type} (P:Prop) (a b:ρ):ρ:=match tr P with
  | true=>a
  | false=>b
theorem ZjL {ρ:Type} {P:Prop} (h:P) (a b:ρ):sel P a b=a:=by simp [sel,ZcF h]
theorem Zl6 {ρ:Type} {P:Prop} (h:¬P) (a b:ρ):sel P a b=b:=by simp [sel,Zag h]
theorem Zxw (P:Prop):sel P true false=tr P:=by
  by_cases h:P
  · rw [ZjL h,ZcF h]
  · rw [Zl6 h,Zag h]
def Zna {α:Type} (l:List α) (P:Nat→α→Prop):Prop:=∀ (k:Nat) (x:α),l[k]?=some x→P k x
theorem Zrc {α ρ:Type} {l:List α} (hl:Len l) (P:Nat→α→Prop) {step:Int×Unit→Option ((Int×Unit) ⊕ ρ)} {bad good:ρ}
    (hs:∀ (k:Nat) (x:α),l[k]?=some x→k<l.length→(∀ (j:Nat) (y:α),j<k→l[j]?=some y→P j y)→(P k x→step ((k:Int),())=some (.inl (Wq ((k:Int)+1),())))∧(¬P k x→step ((k:Int),())=some (.inr bad)))
    (hx:Zna l P→step ((l.length:Int),())=some (.inr good)):ZA step (0,())=some (sel (Zna l P) good bad):=by
  refine XC l.length (fun k v=>v.1=(k:Int)∧∀ (j:Nat) (y:α),j<k→l[j]?=some y→P j y) _ ⟨rfl,fun j y hj=>by omega⟩ ?_ ?_
  · rintro k ⟨i,⟨⟩⟩ hk ⟨hi,hS⟩
    simp only at hi
    subst hi
    have hx:l[k]?=some l[k]:=List.getElem?_eq_getElem hk
    obtain ⟨h1,h2⟩:=hs k _ hx hk hS
    by_cases hP:P k l[k]
    · rw [h1 hP,ZAe hl (by omega)]
      refine .inl ⟨_,rfl,rfl,fun j y hj hy=>?_⟩
      by_cases hjk:j<k
      · exact hS j y hjk hy
      · have:j=k:=by omega
        subst this
        rw [hx] at hy;injection hy with hy;subst hy
        exact hP
    · right
      rw [h2 hP,Zl6 (fun h=>hP (h k _ hx))]
  · rintro ⟨i,⟨⟩⟩ ⟨hi,hS⟩
    simp only at hi
    subst hi
    have hA:Zna l P:=fun k x hk=>hS k x (List.getElem?_eq_some_iff.1 hk).1 hk
    rw [hx hA,ZjL hA]
theorem ZyS {ρ:Type} (m n:Nat) (hmn:m≤n) (hn:n≤4611686018427387904) (P:Nat→Prop) {step:Int×Unit→Option ((Int×Unit) ⊕ ρ)} {bad good:ρ}
    (hs:∀ k:Nat,m≤k→k<n→(∀ j,m≤j→j<k→P j)→(P k→step ((k:Int),())=some (.inl (Wq ((k:Int)+1),())))∧(¬P k→step ((k:Int),())=some (.inr bad)))
    (hx:(∀ j,m≤j→j<n→P j)→step ((n:Int),())=some (.inr good)):ZA step ((m:Int),())=some (sel (∀ j,m≤j→j<n→P j) good bad):=by
  refine XC (n-m) (fun k v=>v.1=((m+k:Nat):Int)∧∀ j,m≤j→j<m+k→P j) _ ⟨by simp,fun j h1 h2=>by omega⟩ ?_ ?_
  · rintro k ⟨i,⟨⟩⟩ hk ⟨hi,hS⟩
    simp only at hi
    subst hi
    obtain ⟨h1,h2⟩:=hs (m+k) (by omega) (by omega) hS
    by_cases hP:P (m+k)
    · rw [h1 hP,XD (by omega) (by omega)]
      refine .inl ⟨_,rfl,by simp only;omega,fun j ha hb=>?_⟩
      by_cases hj:j<m+k
      · exact hS j ha hj
      · have:j=m+k:=by omega
        subst this;exact hP
    · right
      rw [h2 hP,Zl6 (fun h=>hP (h (m+k) (by omega) (by omega)))]
  · rintro ⟨i,⟨⟩⟩ ⟨hi,hS⟩
    simp only at hi
    subst hi
    have e:m+(n-m)=n:=by omega
    rw [e] at hS ⊢
    rw [hx hS,ZjL hS]
/-
  Plain laws: bounds, names.
-/
def within (n a b:Int):Bool:=decide (a≤n)&&decide (n≤b)
theorem VP (n a b:Int):YA n a b=some (within n a b):=by
  unfold YA within;split<;>simp [*]
theorem Vx (n a b:Int):Yd n a b=some (within n a b):=by
  unfold Yd within;split<;>simp [*]
theorem within_iff (n a b:Int):within n a b=true↔a≤n∧n≤b:=by simp [within]
def Jw (b:UInt8):Bool:=decide (97≤b.toNat)&&decide (b.toNat≤122)
def Zce (b:UInt8):Bool:=decide (48≤b.toNat)&&decide (b.toNat≤57)
def Zad (s:List UInt8):Bool:=decide (1≤s.length)&&decide (s.length≤8)&&s.all (fun b=>Jw b||Zce b)&&(match s with
  | b::_=>Jw b
  | []=>false)
def ZfR (s:List UInt8) (i:Nat):Prop:=∀ (j:Nat) (b:UInt8),j<i→s[j]?=some b→(Jw b||Zce b)=true∧(j=0→Jw b=true)
theorem Zg7 {s:List UInt8} {i:Nat} {x:UInt8} (h:ZfR s i) (hx:s[i]?=some x) (h1:(Jw x||Zce x)=true) (h2:i=0→Jw x=true):ZfR s (i+1):=by
  intro j b hj hb
  by_cases e:j<i
  · exact h j b e hb
  · have:j=i:=by omega
    subst this
    rw [hx] at hb;injection hb with hb;subst hb
    exact ⟨h1,h2⟩
theorem Zfv {s:List UInt8} (h:ZfR s s.length):Zad s=(decide (1≤s.length)&&decide (s.length≤8)):=by
  unfold Zad
  have h1:s.all (fun b=>Jw b||Zce b)=true:=by
    rw [List.all_eq_true]
    intro b hb
    obtain ⟨j,hj⟩:=List.mem_iff_getElem?.1 hb
    exact (h j b (List.getElem?_eq_some_iff.1 hj).1 hj).1
  rw [h1]
  cases s with
  | nil=>rfl
  | cons b r =>
    have:=(h 0 b (by simp) rfl).2 rfl
    simp [this]
theorem Zh9 {s:List UInt8} {j:Nat} {b:UInt8} (hb:s[j]?=some b) (h:(Jw b||Zce b)=false∨j=0∧Jw b=false):Zad s=false:=by
  unfold Zad
  rcases h with h | ⟨rfl,h⟩
  · have:s.all (fun b=>Jw b||Zce b)=false:=by
      rw [List.all_eq_false]
      exact ⟨b,List.mem_of_getElem? hb,by simp [h]⟩
    simp [this]
  · cases s with
    | nil=>simp at hb
    | cons c r=>simp at hb;subst hb;simp [h]
theorem ZdJ (s:List UInt8) (hl:s.length≤4611686018427387904):Vg s=some (Zad s):=by
  unfold Vg
  refine XC s.length (fun k v=>v.1=(k:Int)∧ZfR s k) _ ⟨rfl,fun j b hj=>by omega⟩ ?_ ?_
  · rintro k ⟨i,⟨⟩⟩ hk ⟨rfl,hS⟩
    have hx:s[k]?=some s[k]:=List.getElem?_eq_getElem hk
    generalize s[k]=x at hx
    simp only [Xu,VU,hx,Bq,show (k:Int)<(s.length:Int) from by omega,if_true,XD (show (-9223372036854775808:Int)≤(k:Int)+1 by omega) (by omega)]
    have ok:(Jw x||Zce x)=true→(k=0→Jw x=true)→(((k:Int)+1,()):Int×Unit).1=((k+1:Nat):Int)∧ZfR s (k+1):=fun h1 h2=>⟨by simp,Zg7 hS hx h1 h2⟩
    have bad:((Jw x||Zce x)=false∨k=0∧Jw x=false)→(some (Sum.inr false):Option (Int×Unit ⊕ Bool))=some (Sum.inr (Zad s)):=fun h=>by rw [Zh9 hx h]
    simp only [Jw,Zce] at ok bad
    repeat' split
    all_goals first
      | (left;refine ⟨_,rfl,ok ?_ ?_⟩<;>simp<;>omega)
      | (right;refine bad ?_;first | (left;simp;omega) | (right;simp;omega))
  · rintro ⟨i,⟨⟩⟩ ⟨rfl,hS⟩
    simp only [Xu,Int.lt_irrefl,if_false]
    rw [Zfv hS]
    split
    · rename_i h
      have h1:1≤s.length:=by omega
      have h2:decide ((s.length:Int)≤8)=decide (s.length≤8):=by rw [decide_eq_decide];omega
      simp [h1,h2]
    · have h1:¬1≤s.length:=by omega
      simp [h1]
theorem dropWhile_nil {p:UInt8→Bool}:∀ (m:List UInt8),(∀ x∈m.dropWhile p,p x=true)→∀ x∈m,p x=true
  | [],_=>by simp
  | a::m,h=>by
    by_cases ha:p a=true
    · rw [List.dropWhile_cons_of_pos ha] at h
      intro x hx
      rcases List.mem_cons.1 hx with rfl | hx
      · exact ha
      · exact dropWhile_nil m h x hx
    · rw [List.dropWhile_cons_of_neg ha] at h
      exact absurd (h a (by simp)) ha
theorem Zbs {p:UInt8→Bool}:∀ (m:List UInt8),m.dropWhile p=[]↔∀ x∈m,p x=true
  | []=>by simp
  | a::m=>by
    by_cases ha:p a=true
    · rw [List.dropWhile_cons_of_pos ha,Zbs m];simp [ha]
    · rw [List.dropWhile_cons_of_neg ha];simp [ha]
theorem Zj0 (s cs:List UInt8):Lib.trimS s cs=[]↔∀ b∈s,cs.contains b=true:=by
  unfold Lib.trimS Lib.trimLeftS Lib.trimRightS
  rw [Zbs]
  constructor
  · intro h b hb
    exact dropWhile_nil s.reverse (fun x hx=>h x (List.mem_reverse.2 hx)) b (List.mem_reverse.2 hb)
  · intro h b hb
    exact h b (List.mem_reverse.1 ((List.dropWhile_sublist _).subset (List.mem_reverse.1 hb)))
def letters:List UInt8:=[97,98,99,100,101,102,103,104,105,106,107,108,109,110,111,112,113,114,115,116,117,118,119,120,121,122]
def JR:List UInt8:=letters++[48,49,50,51,52,53,54,55,56,57]
theorem Zlp {p:UInt8→Bool} (h:(List.range 256).all (fun n=>p (UInt8.ofNat n))=true) (b:UInt8):p b=true:=by
  rw [List.all_eq_true] at h
  have:=h b.toNat (List.mem_range.2 b.toNat_lt)
  simpa using this
theorem Zaj (b:UInt8):JR.contains b=(Jw b||Zce b):=by
  have:=Zlp (p:=fun b=>JR.contains b == (Jw b||Zce b)) (by decide +kernel) b
  simpa using this
theorem Zgw (s:List UInt8):Lib.trimS s JR=[]↔s.all (fun b=>Jw b||Zce b)=true:=by
  rw [Zj0,List.all_eq_true]
  simp only [Zaj]
theorem Zfq (b:UInt8):decide (0≤(Lib.indexByte letters b:Int))=Jw b:=by
  have:=Zlp (p:=fun b=>decide (0≤(Lib.indexByte letters b:Int)) == Jw b) (by decide +kernel) b
  simpa using this
theorem Zep (s:List UInt8):VD s=some (Zad s):=by
  unfold VD
  rw [VP,Bq]
  split
  · rename_i h
    rw [within_iff] at h
    rw [ZB (by omega)]
    split
    · rename_i ht
      have ht':=(Zgw s).1 ht
      cases s with
      | nil=>simp at h
      | cons b r =>
        have e:atI (b::r) (0:Int)=some b:=rfl
        rw [e,Bq]
        have e1:((b.toNat:Int)).toNat.toUInt8=b:=by simp
        rw [e1]
        have h1:1≤(b::r).length:=by simp
        have h2:(b::r).length≤8:=by omega
        have:=Zfq b
        unfold letters at this
        rw [this]
        simp only [Zad,ht',decide_eq_true h1,decide_eq_true h2,Bool.true_and]
    · rename_i ht
      have ht':¬s.all (fun b=>Jw b||Zce b)=true:=fun e=>ht ((Zgw s).2 e)
      simp only [Zad,Bool.eq_false_iff.2 ht',Bool.and_false,Bool.false_and]
  · rename_i h
    rw [within_iff] at h
    have:¬(1≤s.length∧s.length≤8):=by omega
    rw [eq_comm]
    congr 1
    rw [Bool.eq_false_iff]
    intro hh
    simp only [Zad,Bool.and_eq_true,decide_eq_true_eq] at hh
    omega
theorem ZcS (l:List (List UInt8)) (s:List UInt8) (hl:l.length≤4611686018427387904):∃ r,ZP l s=some r∧(0≤r↔s∈l):=by
  unfold ZP
  refine ZaD l.length (fun k v=>v.1=(k:Int)∧s ∉ l.take k) _ ⟨rfl,by simp⟩ ?_ ?_
  · rintro k ⟨i,⟨⟩⟩ hk ⟨rfl,hS⟩
    have hx:l[k]?=some l[k]:=List.getElem?_eq_getElem hk
    generalize l[k]=x at hx
    simp only [ZM,VU,hx,Bq,show (k:Int)<(l.length:Int) from by omega,if_true,XD (show (-9223372036854775808:Int)≤(k:Int)+1 by omega) (by omega)]
    split
    · rename_i e;subst e
      exact .inr ⟨_,rfl,fun _=>List.mem_of_getElem? hx,fun _=>by simp⟩
    · rename_i e
      exact .inl ⟨_,rfl,by simp,by rw [JI hx];simp [hS,e]⟩
  · rintro ⟨i,⟨⟩⟩ ⟨rfl,hS⟩
    simp only [ZM,Int.lt_irrefl,if_false]
    refine ⟨_,rfl,fun h=>by omega,fun h=>absurd h (by simpa using hS)⟩
theorem Zbd (l:List (List UInt8)) (s:List UInt8) (hl:l.length≤4611686018427387904):ZJ l s=some (decide (s∈l)):=by
  obtain ⟨r,h1,h2⟩:=ZcS l s hl
  unfold ZJ
  rw [h1,Bq]
  simp only [h2]
def Zc6 (l:List (List UInt8)) (k:Nat):Prop:=∀ (j:Nat) (s:List UInt8),j<k→l[j]?=some s→Zad s=true∧s ∉ l.take j
theorem ZcN (l:List (List UInt8)) (hl:l.length≤4611686018427387904):QO l=some (tr (Zc6 l l.length)):=by
  unfold QO
  refine XC l.length (fun k v=>v.1=(k:Int)∧Zc6 l k) _ ⟨rfl,fun j s hj=>by omega⟩ ?_ ?_
  · rintro k ⟨i,⟨⟩⟩ hk ⟨rfl,hS⟩
    have hx:l[k]?=some l[k]:=List.getElem?_eq_getElem hk
    generalize l[k]=x at hx
    simp only [Y7,VU,hx,Bq,show (k:Int)<(l.length:Int) from by omega,if_true,XD (show (-9223372036854775808:Int)≤(k:Int)+1 by omega) (by omega),Zep]
    split
    · rename_i hn
      rw [ZB (by omega),ZB (by omega)]
      simp only [Int.toNat_natCast,Int.toNat_zero,List.drop_zero,Nat.sub_zero]
      rw [Zbd _ _ (by simp only [List.length_take];omega),Bq]
      split
      · rename_i hm
        right
        rw [Zag]
        intro hh
        exact (hh k x hk hx).2 (by simpa using hm)
      · rename_i hm
        refine .inl ⟨_,rfl,by simp,fun j s hj hs=>?_⟩
        by_cases e:j<k
        · exact hS j s e hs
        · have:j=k:=by omega
          subst this
          rw [hx] at hs;injection hs with hs;subst hs
          exact ⟨hn,by simpa using hm⟩
    · rename_i hn
      right
      rw [Zag]
      intro hh
      exact hn (hh k x hk hx).1
  · rintro ⟨i,⟨⟩⟩ ⟨rfl,hS⟩
    simp only [Y7,Int.lt_irrefl,if_false]
    rw [ZcF hS]
/-
  Plain laws: numbers within bounds.
-/
def allIn (l:List Int) (lo hi:Int):Bool:=l.all (fun n=>within n lo hi)
theorem Zcb (l:List Int) (lo hi:Int) (hl:l.length≤4611686018427387904):Qf l lo hi=some (allIn l lo hi):=by
  have h1:∃ r,Zq l (lo,hi,())=some r∧(0≤r↔allIn l lo hi=false):=by
    unfold Zq
    refine ZaD l.length (fun k v=>v.1=(k:Int)∧allIn (l.take k) lo hi=true) _ ⟨rfl,rfl⟩ ?_ ?_
    · rintro k ⟨i,⟨⟩⟩ hk ⟨rfl,hS⟩
      have hx:l[k]?=some l[k]:=List.getElem?_eq_getElem hk
      generalize l[k]=x at hx
      simp only [Zr,XH,VP,VU,hx,Bq,show (k:Int)<(l.length:Int) from by omega,if_true,XD (show (-9223372036854775808:Int)≤(k:Int)+1 by omega) (by omega)]
      cases hw:within x lo hi
      · refine .inr ⟨_,rfl,fun _=>?_,fun _=>by simp⟩
        rw [allIn,List.all_eq_false]
        exact ⟨x,List.mem_of_getElem? hx,by simp [hw]⟩
      · refine .inl ⟨_,rfl,by simp,?_⟩
        rw [JI hx,allIn,List.all_append]
        simp only [allIn] at hS
        simp [hS,hw]
    · rintro ⟨i,⟨⟩⟩ ⟨rfl,hS⟩
      rw [List.take_length] at hS
      simp only [Zr,Int.lt_irrefl,if_false]
      exact ⟨_,rfl,fun h=>by omega,fun h=>by rw [hS] at h;cases h⟩
  obtain ⟨r,h1,h2⟩:=h1
  unfold Qf Zt
  rw [h1]
  simp only [Bq,h2]
  cases allIn l lo hi<;>simp
/-
  Plain laws: the instances of functions of package slices. Printed by program (libgen.py).
-/
theorem ZtF {l:List (List UInt8)} {v:List UInt8} (hl:Len l):ZP l v=some (Zrm (fun x=>decide (v=x)) l):=by
  unfold ZP
  refine Zru (out:=fun i=>i) hl (fun k x hx=>?_) ?_
  · have hk:=(List.getElem?_eq_some_iff.1 hx).1
    simp only [ZM,VU,hx,Bq,show (k:Int)<(l.length:Int) from by omega,if_true,decide_eq_true_eq]
    split<;>rfl
  · simp only [ZM,Int.lt_irrefl,if_false]
theorem Zqh {l:List Jy} {f:Bool×Unit} (hl:Len l) (p:Jy→Bool) (hp:∀ x∈l,ZqM x f.fst=some (p x)):Zpl l f=some (Zrm p l):=by
  unfold Zpl
  refine Zru (out:=fun i=>i) hl (p:=p) (fun k x hx=>?_) ?_
  · have hk:=(List.getElem?_eq_some_iff.1 hx).1
    simp only [Zpu,VU,hx,Bq,show (k:Int)<(l.length:Int) from by omega,if_true,hp x (List.mem_of_getElem? hx)]
    split<;>rfl
  · simp only [Zpu,Int.lt_irrefl,if_false]
theorem Zp8 {l:List Jy} {f:Bool×Unit} (hl:Len l) (p:Jy→Bool) (hp:∀ x∈l,ZqM x f.fst=some (p x)):Zpe l f=some (l.any p):=by
  unfold Zpe
  rw [Zqh hl p hp,Bq]
  congr 1
  rw [Bool.eq_iff_iff,decide_eq_true_eq,ZrE]
theorem Zqn {l:List ZhU} {f:Unit} (hl:Len l) (p:ZhU→Bool) (hp:∀ x∈l,Zs8 x=some (p x)):Zpr l f=some (Zrm p l):=by
  unfold Zpr
  refine Zru (out:=fun i=>i) hl (p:=p) (fun k x hx=>?_) ?_
  · have hk:=(List.getElem?_eq_some_iff.1 hx).1
    simp only [ZpA,VU,hx,Bq,show (k:Int)<(l.length:Int) from by omega,if_true,hp x (List.mem_of_getElem? hx)]
    split<;>rfl
  · simp only [ZpA,Int.lt_irrefl,if_false]
theorem Zqj {l:List ZfN} {f:ZfN×Unit} (hl:Len l) (p:ZfN→Bool) (hp:∀ x∈l,Zqi x f.fst=some (p x)):Zpn l f=some (Zrm p l):=by
  unfold Zpn
  refine Zru (out:=fun i=>i) hl (p:=p) (fun k x hx=>?_) ?_
  · have hk:=(List.getElem?_eq_some_iff.1 hx).1
    simp only [Zpv,VU,hx,Bq,show (k:Int)<(l.length:Int) from by omega,if_true,hp x (List.mem_of_getElem? hx)]
    split<;>rfl
  · simp only [Zpv,Int.lt_irrefl,if_false]
theorem Zp9 {l:List ZfN} {f:ZfN×Unit} (hl:Len l) (p:ZfN→Bool) (hp:∀ x∈l,Zqi x f.fst=some (p x)):Zpf l f=some (l.any p):=by
  unfold Zpf
  rw [Zqj hl p hp,Bq]
  congr 1
  rw [Bool.eq_iff_iff,decide_eq_true_eq,ZrE]
theorem Zqt {l:List ZfN} {f:Int×Unit} (hl:Len l) (p:ZfN→Bool) (hp:∀ x∈l,ZsC x f.fst=some (p x)):Zps l f=some (Zrm p l):=by
  unfold Zps
  refine Zru (out:=fun i=>i) hl (p:=p) (fun k x hx=>?_) ?_
  · have hk:=(List.getElem?_eq_some_iff.1 hx).1
    simp only [ZpB,VU,hx,Bq,show (k:Int)<(l.length:Int) from by omega,if_true,hp x (List.mem_of_getElem? hx)]
    split<;>rfl
  · simp only [ZpB,Int.lt_irrefl,if_false]
theorem Zqk {l:List ZfN} {f:Int×Unit} (hl:Len l) (p:ZfN→Bool) (hp:∀ x∈l,ZsC x f.fst=some (p x)):Zpo l f=some (l.any p):=by
  unfold Zpo
  rw [Zqt hl p hp,Bq]
  congr 1
  rw [Bool.eq_iff_iff,decide_eq_true_eq,ZrE]
theorem Zql {l:List Int} {f:Zp×Unit} (hl:Len l) (p:Int→Bool) (hp:∀ x∈l,ZpX x f.fst=some (p x)):Zpp l f=some (Zrm p l):=by
  unfold Zpp
  refine Zru (out:=fun i=>i) hl (p:=p) (fun k x hx=>?_) ?_
  · have hk:=(List.getElem?_eq_some_iff.1 hx).1
    simp only [Zpw,VU,hx,Bq,show (k:Int)<(l.length:Int) from by omega,if_true,hp x (List.mem_of_getElem? hx)]
    split<;>rfl
  · simp only [Zpw,Int.lt_irrefl,if_false]
theorem Zqa {l:List Int} {f:Zp×Unit} (hl:Len l) (p:Int→Bool) (hp:∀ x∈l,ZpX x f.fst=some (p x)):Zpi l f=some (l.any p):=by
  unfold Zpi
  rw [Zql hl p hp,Bq]
  congr 1
  rw [Bool.eq_iff_iff,decide_eq_true_eq,ZrE]
theorem Zq8 {l:List Int} {f:Unit} (hl:Len l) (p:Int→Bool) (hp:∀ x∈l,ZsD x=some (p x)):ZpE l f=some (Zrm p l):=by
  unfold ZpE
  refine Zru (out:=fun i=>i) hl (p:=p) (fun k x hx=>?_) ?_
  · have hk:=(List.getElem?_eq_some_iff.1 hx).1
    simp only [ZpI,VU,hx,Bq,show (k:Int)<(l.length:Int) from by omega,if_true,hp x (List.mem_of_getElem? hx)]
    split<;>rfl
  · simp only [ZpI,Int.lt_irrefl,if_false]
theorem ZqS {l:List Int} {f:Unit} (hl:Len l) (p:Int→Bool) (hp:∀ x∈l,ZsD x=some (p x)):ZpD l f=some (l.any p):=by
  unfold ZpD
  rw [Zq8 hl p hp,Bq]
  congr 1
  rw [Bool.eq_iff_iff,decide_eq_true_eq,ZrE]
theorem ZpV {l:List Zz} {f:List UInt8×Unit} (hl:Len l) (p:Zz→Bool) (hp:∀ x∈l,Zr8 x f.fst=some (p x)):Zpc l f=some (Zrm p l):=by
  unfold Zpc
  refine Zru (out:=fun i=>i) hl (p:=p) (fun k x hx=>?_) ?_
  · have hk:=(List.getElem?_eq_some_iff.1 hx).1
    simp only [Zph,VU,hx,Bq,show (k:Int)<(l.length:Int) from by omega,if_true,hp x (List.mem_of_getElem? hx)]
    split<;>rfl
  · simp only [Zph,Int.lt_irrefl,if_false]
/-
  Plain laws: lists of numbers, tables.
-/
theorem Ztn {a b:Bool} (h:a=true↔b=true):a=b:=by cases a<;>cases b<;>simp_all
theorem ZqI {P Q:Prop} (h:P↔Q):tr P=tr Q:=by rw [propext h]
def Inc (l:List Int):Prop:=∀ (k:Nat) (x y:Int),l[k]?=some x→l[k+1]?=some y→x<y
def ZuY (l:List Int) (lo hi:Int):Prop:=∀ x∈l,lo≤x∧x≤hi
theorem ZvP (l:List Int) (lo hi:Int):allIn l lo hi=true↔ZuY l lo hi:=by
  unfold allIn ZuY
  rw [List.all_eq_true]
  simp only [within_iff]
theorem Zrj (l:List Int):ZpM l=some (l.length:Int):=rfl
theorem Zvq (l:List Int) (hl:Len l):Zsi l=some (tr (Inc l)):=by
  unfold Zsi
  have h4:l.length≤4611686018427387904:=hl
  by_cases h0:l.length=0
  · have:l=[]:=List.eq_nil_of_length_eq_zero h0
    subst this
    rw [Zct (r:=true) (by rfl)]
    have h0:Inc []:=fun k x y h=>by simp at h
    rw [ZcF h0]
  have:=ZyS (ρ:=Bool) 1 l.length (by omega) h4 (fun k=>∀ x y,l[k-1]?=some x→l[k]?=some y→x<y) (step:=fun v=>Zqf l v.1) (bad:=false) (good:=true)
    (fun k h1 h2 _=>by
      obtain ⟨x,hx⟩:∃ x,l[k-1]?=some x:=⟨_,List.getElem?_eq_getElem (by omega)⟩
      obtain ⟨y,hy⟩:∃ y,l[k]?=some y:=⟨_,List.getElem?_eq_getElem h2⟩
      have e1:Wq ((k:Int)-1)=((k-1:Nat):Int):=by rw [XD (by omega) (by omega)];omega
      simp only [Zqf,show (k:Int)<(l.length:Int) from by omega,if_true,e1,VU,hx,hy,Bq]
      refine ⟨fun h=>?_,fun h=>?_⟩
      · have:=h x y rfl rfl
        rw [if_neg (by omega)]
      · rw [if_pos]
        rcases Int.lt_or_le x y with h' | h'
        · exact absurd (fun a b ha hb=>by injection ha with ha;injection hb with hb;subst ha;subst hb;exact h') h
        · exact h')
    (fun _=>by simp only [Zqf,Int.lt_irrefl,if_false])
  refine (show ZA (fun v=>Zqf l v.1) ((1:Int),())=_ from this).trans ?_
  rw [Zxw]
  congr 1
  refine ZqI ⟨fun h k x y hx hy=>?_,fun h j h1 h2 x y hx hy=>?_⟩
  · exact h (k+1) (by omega) (List.getElem?_eq_some_iff.1 hy).1 x y (by simpa using hx) hy
  · exact h (j-1) x y hx (by rw [show j-1+1=j by omega];exact hy)
def Zt5 (l:List Int):Prop:=1≤l.length∧l.length≤4∧ZuY l 0 100000∧Inc l
theorem Zvz (l:List Int) (hl:Len l):Zue l=some (tr (Zt5 l)):=by
  unfold Zue
  rw [Zrj,Bq,VP,Bq,Zcb l _ _ hl,Bq,Zvq l hl,Bq]
  have e:tr (Zt5 l)=(within (l.length:Int) 1 4&&allIn l 0 100000&&tr (Inc l)):=by
    refine Zya ?_
    simp only [Bool.and_eq_true,within_iff,ZvP,Zgv,Zt5]
    exact ⟨fun ⟨⟨⟨a,b⟩,c⟩,d⟩=>⟨by omega,by omega,c,d⟩,fun ⟨a,b,c,d⟩=>⟨⟨⟨by omega,by omega⟩,c⟩,d⟩⟩
  rw [e]
  cases within (l.length:Int) 1 4<;>cases allIn l 0 100000<;>cases tr (Inc l)<;>rfl
theorem Zvc (l:List Int) (hl:Len l):ZtG l=some (tr (Zt5 l)):=by
  unfold ZtG
  have h4:l.length≤4611686018427387904:=hl
  rw [Zrc hl (fun k x=>(0≤x∧x≤100000)∧(0<k→∀ y,l[k-1]?=some y→y<x)) (bad:=false) (good:=decide (1≤l.length∧l.length≤4))
    (fun k x hx hk _=>by
      simp only [Zti,show (k:Int)<(l.length:Int) from by omega,if_true,VU,hx,Bq,Vx]
      by_cases hw:within x 0 100000=true
      · rw [if_pos hw]
        by_cases h0:0<k
        · obtain ⟨y,hy⟩:∃ y,l[k-1]?=some y:=⟨_,List.getElem?_eq_getElem (by omega)⟩
          have e1:Wq ((k:Int)-1)=((k-1:Nat):Int):=by rw [XD (by omega) (by omega)];omega
          rw [if_pos (by omega),e1,VU,hy,Bq]
          refine ⟨fun h=>?_,fun h=>?_⟩
          · rw [if_neg (by have:=h.2 h0 y rfl;omega)]
          · rw [if_pos]
            rcases Int.lt_or_le y x with h' | h'
            · exact absurd ⟨(within_iff _ _ _).1 hw,fun _ z hz=>by injection hz with hz;subst hz;exact h'⟩ h
            · exact h'
        · rw [if_neg (by omega)]
          exact ⟨fun _=>rfl,fun h=>absurd ⟨(within_iff _ _ _).1 hw,fun h'=>absurd h' h0⟩ h⟩
      · rw [if_neg hw]
        exact ⟨fun h=>absurd ((within_iff _ _ _).2 h.1) hw,fun _=>rfl⟩)
    (fun _=>by
      simp only [Zti,Int.lt_irrefl,if_false]
      by_cases h1:1≤l.length
      · rw [if_pos (by omega)]
        congr 2
        rw [decide_eq_decide];omega
      · rw [if_neg (by omega)]
        simp [h1])]
  congr 1
  refine Ztn ?_
  rw [Zgv]
  by_cases h:Zna l (fun k x=>(0≤x∧x≤100000)∧(0<k→∀ y,l[k-1]?=some y→y<x))
  · rw [ZjL h,decide_eq_true_eq]
    constructor
    · rintro ⟨h1,h2⟩
      refine ⟨h1,h2,fun x hx=>?_,fun k x y hx hy=>?_⟩
      · obtain ⟨k,hk⟩:=List.mem_iff_getElem?.1 hx
        exact (h k x hk).1
      · exact (h (k+1) y hy).2 (by omega) x (by simpa using hx)
    · intro hh
      exact ⟨hh.1,hh.2.1⟩
  · rw [Zl6 h]
    constructor
    · intro hh;cases hh
    · intro hh
      refine absurd ?_ h
      intro k x hk
      refine ⟨hh.2.2.1 x (List.mem_of_getElem? hk),fun h0 y hy=>?_⟩
      exact hh.2.2.2 (k-1) y x hy (by rw [show k-1+1=k by omega];exact hk)
def Ztm (t:Jy):Prop:=Zt5 (Jy.ZoG t)∧Zt5 (Jy.Loads t)∧(Jy.Values t).length=(Jy.ZoG t).length*(Jy.Loads t).length∧ZuY (Jy.Values t) (-1000000) 1000000
def ZAu (t:Jy):Prop:=Len (Jy.ZoG t)∧Len (Jy.Loads t)∧Len (Jy.Values t)
theorem Zt5.mul {a b:List Int} (ha:Zt5 a) (hb:Zt5 b):a.length*b.length≤16:=by
  have h1:=ha.2.1
  have h2:=hb.2.1
  calc a.length*b.length≤4*4:=Nat.mul_le_mul h1 h2
    _=16:=rfl
theorem ZyV {a b:List Int} (ha:Zt5 a) (hb:Zt5 b):Wq ((a.length:Int)*(b.length:Int))=((a.length*b.length:Nat):Int):=by
  have:=ha.mul hb
  have e:(a.length:Int)*(b.length:Int)=((a.length*b.length:Nat):Int):=by simp
  rw [e,XD (by omega) (by omega)]
theorem Zxj (t:Jy) (h:ZAu t):Zuo t=some (tr (Ztm t)):=by
  unfold Zuo
  rw [Zvz _ h.1,Bq]
  by_cases h1:Zt5 (Jy.ZoG t)
  · rw [if_pos (ZcF h1),Zvz _ h.2.1,Bq]
    by_cases h2:Zt5 (Jy.Loads t)
    · rw [if_pos (ZcF h2),ZyV h1 h2]
      by_cases h3:(Jy.Values t).length=(Jy.ZoG t).length*(Jy.Loads t).length
      · rw [if_pos (by rw [h3]),Zcb _ _ _ h.2.2,Bq]
        congr 1
        refine Ztn ?_
        rw [ZvP,Zgv]
        exact ⟨fun h4=>⟨h1,h2,h3,h4⟩,fun h4=>h4.2.2.2⟩
      · rw [if_neg (by omega),Zag (fun hh=>h3 hh.2.2.1)]
    · rw [if_neg (by rw [Zag h2];simp),Zag (fun hh=>h2 hh.2.1)]
  · rw [if_neg (by rw [Zag h1];simp),Zag (fun hh=>h1 hh.1)]
theorem ZxC (t:Jy) (h:ZAu t):Zus t=some (tr (Ztm t)):=by
  unfold Zus
  rw [Zvc _ h.1,Bq]
  by_cases h1:Zt5 (Jy.ZoG t)
  · rw [if_pos (ZcF h1),Zvc _ h.2.1,Bq]
    by_cases h2:Zt5 (Jy.Loads t)
    · rw [if_pos (ZcF h2),ZyV h1 h2]
      by_cases h3:(Jy.Values t).length=(Jy.ZoG t).length*(Jy.Loads t).length
      · rw [if_pos (by rw [h3]),Zrc h.2.2 (fun k x=>-1000000≤x∧x≤1000000) (bad:=false) (good:=true)
          (fun k x hx hk _=>by
            simp only [Zth,show (k:Int)<((Jy.Values t).length:Int) from by omega,if_true,VU,hx,Bq,Vx,within_iff]
            exact ⟨fun hh=>by rw [if_pos hh],fun hh=>by rw [if_neg hh]⟩)
          (fun _=>by simp only [Zth,Int.lt_irrefl,if_false]),Zxw]
        congr 1
        refine ZqI ⟨fun h4=>⟨h1,h2,h3,fun x hx=>?_⟩,fun h4 k x hx=>h4.2.2.2 x (List.mem_of_getElem? hx)⟩
        obtain ⟨k,hk⟩:=List.mem_iff_getElem?.1 hx
        exact h4 k x hk
      · rw [if_neg (by omega),Zag (fun hh=>h3 hh.2.2.1)]
    · rw [if_neg (by rw [Zag h2];simp),Zag (fun hh=>h2 hh.2.1)]
  · rw [if_neg (by rw [Zag h1];simp),Zag (fun hh=>h1 hh.1)]
theorem Zx8 (x:Int) (l:List Int) (hl:Len (x::l)):ZqG (x::l)=some (l.foldl min x):=by
  unfold ZqG
  have h4:(x::l).length≤4611686018427387904:=hl
  have e1:¬(((x::l).length:Int)<1):=by simp only [List.length_cons];omega
  have e2:atI (x::l) (0:Int)=some x:=rfl
  rw [if_neg e1,e2,Bq]
  refine XC l.length (fun k v=>v.1=(l.take k).foldl min x∧v.2.1=(((k+1:Nat)):Int)) _ ⟨by simp,rfl⟩ ?_ ?_
  · rintro k ⟨m,i,⟨⟩⟩ hk ⟨hm,hi⟩
    simp only at hm hi
    subst hm;subst hi
    have hx:l[k]?=some l[k]:=List.getElem?_eq_getElem hk
    have hx1:(x::l)[k+1]?=some l[k]:=by simp
    simp only [ZqA,VU,hx1,Bq,show ((k+1:Nat):Int)<((x::l).length:Int) from by simp;omega,if_true]
    refine .inl ⟨_,rfl,?_,?_⟩
    · rw [JI hx,List.foldl_append];rfl
    · simp only [List.length_cons] at h4
      show Wq (((k+1:Nat):Int)+1)=((k+1+1:Nat):Int)
      rw [XD (by omega) (by omega)];omega
  · rintro ⟨m,i,⟨⟩⟩ ⟨hm,hi⟩
    simp only at hm hi
    subst hm;subst hi
    rw [List.take_length]
    simp only [ZqA,show ¬(((l.length+1:Nat):Int)<((x::l).length:Int)) from by simp,if_false]
theorem ZvV (x:Int) (l:List Int):l.foldl min x<0↔x<0∨∃ y∈l,y<0:=by
  induction l generalizing x with
  | nil=>simp
  | cons y r ih =>
    simp only [List.foldl_cons,ih,List.mem_cons,exists_eq_or_imp]
    rw [show min x y<0↔x<0∨y<0 by omega,or_assoc]
def ZtB (l:List Jy) (pos:Bool):Prop:=l.length=2∧∀ t∈l,Ztm t∧(pos=true→∀ v∈Jy.Values t,0≤v)
theorem Ztm.some {t:Jy} (h:Ztm t):∃ x l,Jy.Values t=x::l:=by
  have h1:=h.1.1
  have h2:=h.2.1.1
  have h3:=h.2.2.1
  have:1*1≤(Jy.ZoG t).length*(Jy.Loads t).length:=Nat.mul_le_mul h1 h2
  cases hv:Jy.Values t with
  | nil=>rw [hv] at h3;simp at h3;omega
  | cons x l=>exact ⟨x,l,rfl⟩
theorem Zvo (t:Jy) (pos:Bool) (h:ZAu t):ZqM t pos=some (! tr (Ztm t∧(pos=true→∀ v∈Jy.Values t,0≤v))):=by
  unfold ZqM
  rw [Zxj _ h,Bq]
  by_cases h1:Ztm t
  · rw [if_pos (ZcF h1)]
    cases pos
    · rw [if_neg (by simp),ZcF ⟨h1,fun e=>by cases e⟩];rfl
    · obtain ⟨x,l,hv⟩:=h1.some
      have hlen:=h.2.2
      rw [if_pos rfl,hv]
      rw [hv] at hlen
      rw [Zx8 x l hlen,Bq]
      congr 1
      refine Ztn ?_
      rw [decide_eq_true_eq,ZvV,Bool.not_eq_true',←Bool.not_eq_true,Zgv]
      constructor
      · rintro (hh | ⟨y,hy,hh⟩) ⟨_,hall⟩
        · have:=hall rfl x (by simp);omega
        · have:=hall rfl y (by simp [hy]);omega
      · intro hh
        apply Classical.byContradiction
        intro hn
        refine hh ⟨h1,fun _ v hvm=>?_⟩
        rcases List.mem_cons.1 hvm with rfl | hvm
        · exact Int.not_lt.1 fun hlt=>hn (.inl hlt)
        · exact Int.not_lt.1 fun hlt=>hn (.inr ⟨v,hvm,hlt⟩)
  · rw [if_neg (by rw [Zag h1];simp),Zag (fun hh=>h1 hh.1)];rfl
def ZAi (l:List Jy):Prop:=Len l∧∀ t∈l,ZAu t
theorem Ztp (l:List Jy) (pos:Bool) (h:ZAi l):ZrS l pos=some (tr (ZtB l pos)):=by
  unfold ZrS
  by_cases h2:l.length=2
  · rw [if_pos (by omega),Zp8 h.1 (fun t=>! tr (Ztm t∧(pos=true→∀ v∈Jy.Values t,0≤v))) (fun t ht=>Zvo t pos (h.2 t ht)),Bq]
    congr 1
    refine Ztn ?_
    rw [Bool.not_eq_true',List.any_eq_false,Zgv]
    simp only [Bool.not_eq_true',Bool.not_eq_false,Zgv,Bool.not_eq_true]
    exact ⟨fun hh=>⟨h2,hh⟩,fun hh=>hh.2⟩
  · rw [if_neg (by omega),Zag (fun hh=>h2 hh.1)]
/-
  Plain laws: pins, arcs, cells.
-/
theorem ZkH {α τ ρ:Type} {l:List α} (pk:Nat→τ) (P:Nat→α→Prop) {step:τ→Option (τ ⊕ ρ)} {bad good:ρ}
    (hs:∀ (k:Nat) (x:α),l[k]?=some x→k<l.length→(∀ (j:Nat) (y:α),j<k→l[j]?=some y→P j y)→(P k x→step (pk k)=some (.inl (pk (k+1))))∧(¬P k x→step (pk k)=some (.inr bad)))
    (hx:Zna l P→step (pk l.length)=some (.inr good)):ZA step (pk 0)=some (sel (Zna l P) good bad):=by
  refine XC l.length (fun k v=>v=pk k∧∀ (j:Nat) (y:α),j<k→l[j]?=some y→P j y) _ ⟨rfl,fun j y hj=>by omega⟩ ?_ ?_
  · rintro k v hk ⟨rfl,hS⟩
    have hx:l[k]?=some l[k]:=List.getElem?_eq_getElem hk
    obtain ⟨h1,h2⟩:=hs k _ hx hk hS
    by_cases hP:P k l[k]
    · refine .inl ⟨_,h1 hP,rfl,fun j y hj hy=>?_⟩
      by_cases hjk:j<k
      · exact hS j y hjk hy
      · have:j=k:=by omega
        subst this
        rw [hx] at hy;injection hy with hy;subst hy
        exact hP
    · right
      rw [h2 hP,Zl6 (fun h=>hP (h k _ hx))]
  · rintro v ⟨rfl,hS⟩
    have hA:Zna l P:=fun k x hk=>hS k x (List.getElem?_eq_some_iff.1 hk).1 hk
    rw [hx hA,ZjL hA]
theorem ZgW {α τ ρ:Type} {l:List α} (pk:Nat→τ) {step:τ→Option (τ ⊕ ρ)} {good:ρ}
    (hs:∀ (k:Nat) (x:α),l[k]?=some x→k<l.length→step (pk k)=some (.inl (pk (k+1)))) (hx:step (pk l.length)=some (.inr good)):ZA step (pk 0)=some good:=by
  have:=ZkH (l:=l) pk (fun _ _=>True) (step:=step) (bad:=good) (good:=good) (fun k x h1 h2 _=>⟨fun _=>hs k x h1 h2,fun h=>absurd trivial h⟩) (fun _=>hx)
  rw [this,ZjL (show Zna l (fun _ _=>True) from fun _ _ _=>trivial)]
theorem Zxp {ρ:Type} (n:Nat) (hn:n≤4611686018427387904) (P:Nat→Prop) {step:Int×Unit→Option ((Int×Unit) ⊕ ρ)} {bad good:ρ}
    (hs:∀ k:Nat,k<n→(P k→step ((k:Int),())=some (.inl (Wq ((k:Int)+1),())))∧(¬P k→step ((k:Int),())=some (.inr bad)))
    (hx:(∀ j,j<n→P j)→step ((n:Int),())=some (.inr good)):ZA step ((0:Int),())=some (sel (∀ j,j<n→P j) good bad):=by
  have:=ZyS (ρ:=ρ) 0 n (by omega) hn P (step:=step) (bad:=bad) (good:=good) (fun k _ h _=>hs k h) (fun h=>hx (fun j hj=>h j (by omega) hj))
  refine (show ZA step ((0:Int),())=_ from this).trans ?_
  congr 1
  have e:(∀ j,0≤j→j<n→P j)↔(∀ j,j<n→P j):=⟨fun h j hj=>h j (by omega) hj,fun h j _ hj=>h j hj⟩
  rw [propext e]
theorem ZpW {t:Ty} {l:List t.den} (h:sm (.sl t) l):Len l:=by
  have h1:(l.length:Int)≤1048576:=h.1
  show l.length≤4611686018427387904
  omega
theorem Zve {s:List UInt8} (h:sm .str s):s.length≤4611686018427387904:=by
  have h1:(s.length:Int)≤1048576:=h
  omega
theorem Zy3 {t:Ty} {l:List t.den} (h:sm (.sl t) l) {x:t.den} (hx:x∈l):sm t x:=h.2 x hx
theorem ZqC {t:Ty} {l:List t.den} (h:sm (.sl t) l) {k:Nat} {x:t.den} (hx:l[k]?=some x):sm t x:=h.2 x (List.mem_of_getElem? hx)
theorem Zo9 {t:Ty} {l:List t.den} (h:sm (.sl t) l):l.length≤1048576:=by
  have h1:(l.length:Int)≤1048576:=h.1
  omega
theorem Zzf {t:Jy} (h:sm ZdQ t):ZAu t:=⟨ZpW (t:=.int .i64) h.1,ZpW (t:=.int .i64) h.2.1,ZpW (t:=.int .i64) h.2.2.1⟩
theorem ZuT {l:List Jy} (h:sm (.sl ZdQ) l):ZAi l:=⟨ZpW h,fun t ht=>Zzf (Zy3 h ht)⟩
theorem ZvK (t:Jy) (h:ZAu t):∃ r,ZsF t=some r∧(Ztm t→r.2=0∧(r.1.1<0↔∃ v∈Jy.Values t,v<0))∧(¬Ztm t→r.2=1):=by
  unfold ZsF
  rw [ZxC _ h,Bq]
  by_cases h1:Ztm t
  · rw [if_pos (ZcF h1)]
    obtain ⟨x,l,hv⟩:=h1.some
    have h4:(x::l).length≤4611686018427387904:=by rw [←hv];exact h.2.2
    have e2:atI (Jy.Values t) (0:Int)=some x:=by rw [hv];rfl
    rw [e2,Bq]
    have:=ZgW (l:=l) (ρ:=Vz×Int) (fun k=>((((k+1:Nat)):Int),(l.take k).foldl min x,(l.take k).foldl max x,())) (step:=fun v=>Zq0 t v.1 v.2.1 v.2.2.1) (good:=((l.foldl min x,l.foldl max x,()),0))
      (fun k y hy hk=>by
        have hx1:(x::l)[k+1]?=some y:=by simpa using hy
        simp only [List.length_cons] at h4
        simp only [Zq0,hv,VU,hx1,Bq,show ((k+1:Nat):Int)<((x::l).length:Int) from by simp;omega,if_true]
        rw [JI hy,List.foldl_append,List.foldl_append,XD (by omega) (by omega)]
        rfl)
      (by
        simp only [Zq0,hv,List.take_length,show ¬(((l.length+1:Nat):Int)<((x::l).length:Int)) from by simp,if_false])
    refine ⟨_,this,fun _=>⟨rfl,?_⟩,fun hn=>absurd h1 hn⟩
    rw [hv]
    refine (ZvV x l).trans ?_
    simp
  · rw [if_neg (by rw [Zag h1];simp)]
    exact ⟨_,rfl,fun hn=>absurd hn h1,fun _=>rfl⟩
theorem Ztv (l:List Jy) (pos:Bool) (h:ZAi l):ZpG l pos=some (tr (ZtB l pos)):=by
  unfold ZpG
  by_cases h2:l.length=2
  · rw [if_pos (by omega),Zrc h.1 (fun k t=>Ztm t∧(pos=true→∀ v∈Jy.Values t,0≤v)) (bad:=false) (good:=true)
      (fun k t hx hk _=>by
        obtain ⟨r,hr,hr1,hr2⟩:=ZvK t (h.2 t (List.mem_of_getElem? hx))
        simp only [Zsy,show (k:Int)<2 from by omega,if_true,VU,hx,Bq,hr]
        by_cases ht:Ztm t
        · obtain ⟨e1,e2⟩:=hr1 ht
          rw [if_pos e1]
          cases pos
          · simp only [Bool.false_eq_true,if_false]
            exact ⟨fun _=>trivial,fun hn=>absurd ⟨ht,fun e=>by cases e⟩ hn⟩
          · simp only [if_true]
            refine ⟨fun hh=>?_,fun hn=>?_⟩
            · rw [if_neg]
              intro hlt
              obtain ⟨v,hv,hv0⟩:=e2.1 hlt
              have:=hh.2 trivial v hv
              omega
            · rw [if_pos]
              apply Classical.byContradiction
              intro hlt
              refine hn ⟨ht,fun _ v hv=>?_⟩
              exact Int.not_lt.1 fun hv0=>hlt (e2.2 ⟨v,hv,hv0⟩)
        · have e1:=hr2 ht
          rw [if_neg (by rw [e1];decide)]
          exact ⟨fun hh=>absurd hh.1 ht,fun _=>rfl⟩)
      (fun _=>by simp only [Zsy,h2];rfl),Zxw]
    congr 1
    refine ZqI ⟨fun hh=>⟨h2,fun t ht=>?_⟩,fun hh k t hk=>hh.2 t (List.mem_of_getElem? hk)⟩
    obtain ⟨k,hk⟩:=List.mem_iff_getElem?.1 ht
    exact hh k t hk
  · rw [if_neg (by omega),Zag (fun hh=>h2 hh.1)]
def ZtE (l:List ZhU):List (List UInt8):=l.map ZhU.Name
def Zw0 (l:List ZhU):Nat:=l.countP (fun p=>ZhU.Clock p)
def Zyg (n k:Nat) (p:ZhU):Prop:=(0≤ZhU.Cap p∧ZhU.Cap p≤500)∧(k+1=n→ZhU.Dir p=2∧ZhU.Cap p=0∧ZhU.Clock p=false)∧(k+1<n→ZhU.Dir p=1)
def Zvu (l:List ZhU):Prop:=2≤l.length∧l.length≤5∧Zc6 (ZtE l) l.length∧Zna l (Zyg l.length)
theorem Zxl (l:List ZhU) (h:sm (.sl Zl9) l):Zup l=some (tr (Zvu l)):=by
  unfold Zup
  have hs:=Zo9 h
  have:=ZkH (l:=l) (ρ:=Bool) (fun k=>((ZtE l).take k,(k:Int),())) (Zyg l.length) (step:=fun v=>Zq5 l v.1 v.2.1) (bad:=false) (good:=tr (2≤l.length∧l.length≤5∧Zc6 (ZtE l) l.length))
    (fun k p hx hk _=>by
      have hn:(ZtE l)[k]?=some (ZhU.Name p):=by simp [ZtE,hx]
      have e1:Wq ((l.length:Int)-1)=((l.length-1:Nat):Int):=by rw [XD (by omega) (by omega)];omega
      simp only [Zq5,show (k:Int)<(l.length:Int) from by omega,if_true,VU,hx,Bq,e1]
      rw [ZB (by simp only [List.length_take,List.length_singleton,ZtE,List.length_map];omega),JI hn,XD (by omega) (by omega)]
      unfold Zyg
      by_cases hlast:(k:Int)=((l.length-1:Nat):Int)
      · rw [if_pos hlast]
        have hk1:k+1=l.length:=by omega
        constructor
        · rintro ⟨_,h2,_⟩
          obtain ⟨a,b,c⟩:=h2 hk1
          rw [if_pos a,if_pos b,if_neg (by rw [c];simp)]
          rfl
        · intro hh
          split
          · split
            · split
              · rfl
              · rename_i a b c
                exact absurd ⟨by omega,fun _=>⟨a,b,by simpa using c⟩,fun h'=>by omega⟩ hh
            · rfl
          · rfl
      · rw [if_neg hlast,VP]
        have hk1:k+1<l.length:=by omega
        simp only [Bq,within_iff]
        constructor
        · rintro ⟨h1,_,h3⟩
          rw [if_pos (h3 hk1),if_pos h1]
          rfl
        · intro hh
          split
          · split
            · rename_i a b
              exact absurd ⟨b,fun h'=>by omega,fun _=>a⟩ hh
            · rfl
          · rfl)
    (fun hA=>by
      have e0:(ZtE l).take l.length=ZtE l:=by rw [show l.length=(ZtE l).length by simp [ZtE],List.take_length]
      simp only [Zq5,Int.lt_irrefl,if_false,e0,VP,Bq,show Zri l=some (l.length:Int) from rfl]
      have hlen:(ZtE l).length=l.length:=by simp [ZtE]
      by_cases hw:within (l.length:Int) 2 5=true
      · rw [if_pos hw,ZcN _ (by rw [hlen];omega),Bq,hlen]
        rw [within_iff] at hw
        congr 2
        exact ZqI ⟨fun hh=>⟨by omega,by omega,hh⟩,fun hh=>hh.2.2⟩
      · rw [if_neg hw,Zag]
        intro hh
        exact hw ((within_iff _ _ _).2 (by omega)))
  refine (show ZA (fun v=>Zq5 l v.1 v.2.1) (([]:List (List UInt8)),(0:Int),())=_ from this).trans ?_
  congr 1
  refine Ztn ?_
  rw [Zgv]
  by_cases hA:Zna l (Zyg l.length)
  · rw [ZjL hA,Zgv]
    exact ⟨fun hh=>⟨hh.1,hh.2.1,hh.2.2,hA⟩,fun hh=>⟨hh.1,hh.2.1,hh.2.2.1⟩⟩
  · rw [Zl6 hA]
    exact ⟨fun hh=>(by cases hh),fun hh=>absurd hh.2.2.2 hA⟩
/-
  Plain laws: pins by the reference; arcs.
-/
theorem ZAd {n:Nat} (h:n≤1048576) (h1:1≤n):Wq ((n:Int)-1)=((n-1:Nat):Int):=by rw [XD (by omega) (by omega)];omega
theorem Zkd {n:Nat} (h:n≤1048576):Wq ((n:Int)+1)=((n+1:Nat):Int):=by rw [XD (by omega) (by omega)];omega
theorem ZvA {l:List ZhU} {k:Nat} {s:List UInt8}:s ∉ (ZtE l).take k↔∀ (j:Nat) (q:ZhU),j<k→l[j]?=some q→ZhU.Name q≠s:=by
  constructor
  · intro h j q hj hq e
    refine h (List.mem_iff_getElem?.2 ⟨j,?_⟩)
    rw [List.getElem?_take,if_pos hj]
    simp [ZtE,hq,e]
  · intro h hm
    obtain ⟨j,hj⟩:=List.mem_iff_getElem?.1 hm
    rw [List.getElem?_take] at hj
    split at hj
    · rename_i hjk
      simp only [ZtE,List.getElem?_map,Option.map_eq_some_iff] at hj
      obtain ⟨q,hq,e⟩:=hj
      exact h j q hjk hq e
    · cases hj
theorem ZxE (c:QG) (h:sm (.sl Zl9) (QG.ZoY c)):Zut c=some (sel (Zvu (QG.ZoY c)) ((Zw0 (QG.ZoY c):Int),true) ((0:Int),false)):=by
  unfold Zut
  have hs:=Zo9 h
  by_cases h2:((QG.ZoY c).length:Int)<2
  · rw [if_pos h2,Zl6 (fun hh=>by have:=hh.1;omega)]
  by_cases h5:(5:Int)<((QG.ZoY c).length:Int)
  · rw [if_neg h2,if_pos h5,Zl6 (fun hh=>by have:=hh.2.1;omega)]
  rw [if_neg h2,if_neg h5]
  have e1:Wq (((QG.ZoY c).length:Int)-1)=(((QG.ZoY c).length-1:Nat):Int):=ZAd hs (by omega)
  have:=ZkH (l:=QG.ZoY c) (ρ:=Int×Bool) (fun k=>((((QG.ZoY c).take k).countP (fun p=>ZhU.Clock p):Int),(k:Int),()))
    (fun k p=>(Zad (ZhU.Name p)=true∧∀ (j:Nat) (q:ZhU),j<k→(QG.ZoY c)[j]?=some q→ZhU.Name q≠ZhU.Name p)∧Zyg (QG.ZoY c).length k p) (step:=fun v=>Zq9 c v.1 v.2.1) (bad:=((0:Int),false)) (good:=((Zw0 (QG.ZoY c):Int),true))
    (fun k p hx hk _=>by
      have hcnt:((QG.ZoY c).take k).countP (fun p=>ZhU.Clock p)≤5:=by
        have h1:=List.countP_le_length (p:=fun p=>ZhU.Clock p) (l:=(QG.ZoY c).take k)
        rw [List.length_take] at h1;omega
      have hnext:((QG.ZoY c).take (k+1)).countP (fun p=>ZhU.Clock p)=((QG.ZoY c).take k).countP (fun p=>ZhU.Clock p)+if ZhU.Clock p=true then 1 else 0:=by
        rw [JI hx,List.countP_append];simp [List.countP_cons]
      have hname:(ZhU.Name p).length≤4611686018427387904:=Zve (ZqC h hx).1
      have rest:∀ (v:Int),Zqz c v (k:Int) p (k:Int)=sel (Zad (ZhU.Name p)=true∧Zyg (QG.ZoY c).length k p) (some (Sum.inr (Sum.inl (if ZhU.Clock p=true then Wq (v+1) else v,((k+1:Nat):Int),())))) (some (Sum.inr (Sum.inr (0,false)))):=by
        intro v
        simp only [Zqz,Int.lt_irrefl,if_false,ZdJ _ hname,Vx,Bq,e1,Zkd (show k≤1048576 by omega),within_iff]
        unfold Zyg
        by_cases hn:Zad (ZhU.Name p)=true
        · by_cases hcap:0≤ZhU.Cap p∧ZhU.Cap p≤500
          · by_cases hlast:k+1=(QG.ZoY c).length
            · have e2:(k:Int)=(((QG.ZoY c).length-1:Nat):Int):=by omega
              have e3:¬((k:Int)<(((QG.ZoY c).length-1:Nat):Int)):=by omega
              have e4:¬(k+1<(QG.ZoY c).length):=by omega
              rw [if_pos hn,if_pos hcap,if_pos e2]
              by_cases a:ZhU.Dir p=2
              · by_cases b:ZhU.Cap p=0
                · by_cases d:ZhU.Clock p=true
                  · rw [if_pos a,if_pos b,if_pos d,Zl6]
                    rintro ⟨_,_,h',_⟩
                    have:=(h' hlast).2.2
                    rw [d] at this;cases this
                  · rw [if_pos a,if_pos b,if_neg d,if_neg e3,if_neg d,ZjL ⟨hn,hcap,fun _=>⟨a,b,by simpa using d⟩,fun h'=>absurd h' e4⟩]
                    simp [d]
                · rw [if_pos a,if_neg b,Zl6]
                  rintro ⟨_,_,h',_⟩
                  exact b (h' hlast).2.1
              · rw [if_neg a,Zl6]
                rintro ⟨_,_,h',_⟩
                exact a (h' hlast).1
            · have e2:¬(k:Int)=(((QG.ZoY c).length-1:Nat):Int):=by omega
              have e3:(k:Int)<(((QG.ZoY c).length-1:Nat):Int):=by omega
              have e4:k+1<(QG.ZoY c).length:=by omega
              rw [if_pos hn,if_pos hcap,if_neg e2,if_pos e3]
              by_cases a:ZhU.Dir p=1
              · rw [if_pos a,ZjL ⟨hn,hcap,fun h'=>absurd h' hlast,fun _=>a⟩]
                by_cases d:ZhU.Clock p=true
                · rw [if_pos d,if_pos d]
                · rw [if_neg d,if_neg d]
              · rw [if_neg a,Zl6]
                rintro ⟨_,_,_,h'⟩
                exact a (h' e4)
          · rw [if_pos hn,if_neg hcap,Zl6 (fun hh=>hcap hh.2.1)]
        · rw [if_neg hn,Zl6 (fun hh=>hn hh.1)]
      have inner:∀ (v:Int) (good:(Int×Int×Unit) ⊕ (Int×Bool)),((∀ (j:Nat) (q:ZhU),j<k→(QG.ZoY c)[j]?=some q→ZhU.Name q≠ZhU.Name p)→Zqz c v (k:Int) p (k:Int)=some (.inr good))→
          ZA (fun v'=>Zqz c v (k:Int) p v'.1) ((0:Int),())=some (sel (∀ j,j<k→∀ q,(QG.ZoY c)[j]?=some q→ZhU.Name q≠ZhU.Name p) good (.inr (0,false))):=by
        intro v good hg
        refine Zxp k (by omega) (fun j=>∀ q,(QG.ZoY c)[j]?=some q→ZhU.Name q≠ZhU.Name p) (fun j hj=>?_) (fun hh=>hg (fun j q hj hq=>hh j hj q hq))
        obtain ⟨q,hq⟩:∃ q,(QG.ZoY c)[j]?=some q:=⟨_,List.getElem?_eq_getElem (by omega)⟩
        simp only [Zqz,show (j:Int)<(k:Int) from by omega,if_true,VU,hq,Bq]
        refine ⟨fun hh=>by rw [if_neg (hh q rfl)],fun hh=>?_⟩
        rw [if_pos]
        apply Classical.byContradiction
        intro hne
        exact hh (fun q' hq'=>by injection hq' with hq';subst hq';exact hne)
      simp only [Zq9,show (k:Int)<((QG.ZoY c).length:Int) from by omega,if_true,VU,hx,Bq]
      constructor
      · rintro ⟨⟨a,b⟩,d⟩
        rw [inner _ (.inl (((((QG.ZoY c).take (k+1)).countP (fun p=>ZhU.Clock p):Nat):Int),((k+1:Nat):Int),())) (fun _=>by
          rw [rest,ZjL ⟨a,d⟩,hnext]
          by_cases hc:ZhU.Clock p=true
          · rw [if_pos hc,if_pos hc,Zkd (by omega)]
          · rw [if_neg hc,if_neg hc];rfl),ZjL (fun j hj q hq=>b j q hj hq)]
      · intro hh
        rw [inner _ (.inr (0,false)) (fun hn=>by
          rw [rest,Zl6 (fun h'=>hh ⟨⟨h'.1,hn⟩,h'.2⟩)])]
        by_cases hP:∀ j,j<k→∀ q,(QG.ZoY c)[j]?=some q→ZhU.Name q≠ZhU.Name p
        · rw [ZjL hP]
        · rw [Zl6 hP])
    (fun _=>by simp only [Zq9,Int.lt_irrefl,if_false,List.take_length];rfl)
  refine (show ZA (fun v=>Zq9 c v.1 v.2.1) ((0:Int),(0:Int),())=_ from this).trans ?_
  congr 1
  have e:Zna (QG.ZoY c) (fun k p=>(Zad (ZhU.Name p)=true∧∀ (j:Nat) (q:ZhU),j<k→(QG.ZoY c)[j]?=some q→ZhU.Name q≠ZhU.Name p)∧Zyg (QG.ZoY c).length k p)↔Zvu (QG.ZoY c):=by
    constructor
    · intro hA
      refine ⟨by omega,by omega,fun j s hj hs'=>?_,fun k p hp=>(hA k p hp).2⟩
      simp only [ZtE,List.getElem?_map,Option.map_eq_some_iff] at hs'
      obtain ⟨q,hq,rfl⟩:=hs'
      exact ⟨(hA j q hq).1.1,ZvA.2 (hA j q hq).1.2⟩
    · intro hh k p hp
      have hk:=(List.getElem?_eq_some_iff.1 hp).1
      have hn:=hh.2.2.1 k (ZhU.Name p) hk (by simp [ZtE,hp])
      exact ⟨⟨hn.1,ZvA.1 hn.2⟩,hh.2.2.2 k p hp⟩
  rw [propext e]
/-
  Plain laws: arcs.
-/
def ZxY (l:List ZhU) (i:Int):Bool:=match l[i.toNat]? with
  | some p=>ZhU.Clock p
  | none=>false
def Zv6 (c:QG) (a:ZfN):Prop :=
  (0≤ZfN.From a∧ZfN.From a≤((QG.ZoY c).length:Int)-2)∧(0≤ZfN.To a∧ZfN.To a≤((QG.ZoY c).length:Int)-1)∧
  ((ZfN.Kind a=1∧ZxY (QG.ZoY c) (ZfN.From a)=false∧ZfN.To a=((QG.ZoY c).length:Int)-1∧(1≤ZfN.ZoE a∧ZfN.ZoE a≤3)∧ZtB (ZfN.Delay a) true∧ZtB (ZfN.Znd a) true)∨
   ((ZfN.Kind a=2∨ZfN.Kind a=3)∧ZxY (QG.ZoY c) (ZfN.From a)=true∧ZfN.To a=((QG.ZoY c).length:Int)-1∧ZfN.ZoE a=0∧ZtB (ZfN.Delay a) true∧ZtB (ZfN.Znd a) true)∨
   ((ZfN.Kind a=4∨ZfN.Kind a=5)∧ZxY (QG.ZoY c) (ZfN.From a)=true∧ZfN.To a<((QG.ZoY c).length:Int)-1∧ZxY (QG.ZoY c) (ZfN.To a)=false∧ZfN.ZoE a=0∧ZtB (ZfN.Delay a) false∧(ZfN.Znd a).length=0))
theorem Zv6.kind {c:QG} {a:ZfN} (h:Zv6 c a):1≤ZfN.Kind a∧ZfN.Kind a≤5:=by
  rcases h.2.2 with h | h | h
  · have:=h.1;omega
  · have:=h.1;omega
  · have:=h.1;omega
theorem ZAA {P Q:Prop} {m:Option Bool} (hm:m=some (tr Q)):(if tr P=true then m else some false)=some (tr (P∧Q)):=by
  by_cases h:P
  · rw [if_pos (ZcF h),hm];congr 1;exact ZqI ⟨fun q=>⟨h,q⟩,fun q=>q.2⟩
  · rw [if_neg (by rw [Zag h];simp),Zag (fun q=>h q.1)]
theorem ZpF {P Q:Prop} {_:Decidable P} {m:Option Bool} (hm:P→m=some (tr Q)):(if P then m else some false)=some (tr (P∧Q)):=by
  by_cases h:P
  · rw [if_pos h,hm h];congr 1;exact ZqI ⟨fun q=>⟨h,q⟩,fun q=>q.2⟩
  · rw [if_neg h,Zag (fun q=>h q.1)]
theorem ZuI {P Q:Prop} {_:Decidable P} {m:Option Bool} (hm:¬P→m=some (tr Q)):(if P then some false else m)=some (tr (¬P∧Q)):=by
  by_cases h:P
  · rw [if_pos h,Zag (fun q=>q.1 h)]
  · rw [if_neg h,hm h];congr 1;exact ZqI ⟨fun q=>⟨h,q⟩,fun q=>q.2⟩
theorem Zs6 {P:Prop} {b:Bool} (h:b=true↔P):some b=some (tr P):=by rw [Zya h]
theorem Zq1 {m:Option Bool} {P Q:Prop} (h:m=some (tr P)) (hpq:P↔Q):m=some (tr Q):=by rw [h,propext hpq]
theorem ZwC {Q:Prop} (h:¬Q):(some false:Option Bool)=some (tr Q):=by rw [Zag h]
theorem Zs4 {P:Prop} {m:Option Bool} (h:m=some (tr P)):(m.bind fun b=>some b)=some (tr P):=by rw [h];rfl
theorem ZpR {P Q:Prop} {m m2:Option Bool} (h:m=some (tr P)) (h2:P→m2=some (tr Q)):(m.bind fun b=>if b=true then m2 else some false)=some (tr (P∧Q)):=by
  rw [h,Bq]
  by_cases hp:P
  · rw [if_pos (ZcF hp),h2 hp];congr 1;exact ZqI ⟨fun q=>⟨hp,q⟩,fun q=>q.2⟩
  · rw [if_neg (by rw [Zag hp];simp),Zag (fun q=>hp q.1)]
theorem ZrJ (n a b:Int):Yd n a b=some (tr (a≤n∧n≤b)):=by rw [Vx];exact Zs6 (within_iff _ _ _)
theorem ZrR (n a b:Int):YA n a b=some (tr (a≤n∧n≤b)):=by rw [VP];exact Zs6 (within_iff _ _ _)
theorem ZzC {l:List ZhU} {i:Int} (h0:0≤i) (h1:i<l.length):∃ p,atI l i=some p∧ZxY l i=ZhU.Clock p:=by
  obtain ⟨p,h2,h3⟩:=Zbn h0 h1
  exact ⟨p,h2,by simp [ZxY,h3]⟩
theorem ZxP (c:QG) (a:ZfN) (hp:sm (.sl Zl9) (QG.ZoY c)) (hd:sm (.sl ZdQ) (ZfN.Delay a)) (hw:sm (.sl ZdQ) (ZfN.Znd a)) (h2:2≤(QG.ZoY c).length):ZuP c a=some (tr (Zv6 c a)):=by
  unfold ZuP
  have hs:=Zo9 hp
  have e1:Wq (((QG.ZoY c).length:Int)-1)=((QG.ZoY c).length:Int)-1:=XD (by omega) (by omega)
  have e2:Wq (((QG.ZoY c).length:Int)-1-1)=((QG.ZoY c).length:Int)-2:=by rw [XD (by omega) (by omega)];omega
  rw [e1,e2]
  refine Zq1 (ZpR (ZrJ _ _ _) (fun hF=>ZpR (ZrJ _ _ _) (fun hT=>?_))) (Q:=Zv6 c a) (P:=(0≤ZfN.From a∧ZfN.From a≤((QG.ZoY c).length:Int)-2)∧(0≤ZfN.To a∧ZfN.To a≤((QG.ZoY c).length:Int)-1)∧Zv6 c a) ⟨fun hh=>hh.2.2,fun hh=>⟨hh.1,hh.2.1,hh⟩⟩
  obtain ⟨p,hp1,hp2⟩:=ZzC (l:=QG.ZoY c) hF.1 (by omega)
  rw [hp1,Bq]
  have hdl:=ZuT hd
  have hsl:=ZuT hw
  have tt:∀ b,(ZpG (ZfN.Delay a) b).bind (fun x=>if x=true then (ZpG (ZfN.Znd a) b).bind (fun y=>some y) else some false)=some (tr (ZtB (ZfN.Delay a) b∧ZtB (ZfN.Znd a) b)):=fun b=>ZpR (Ztv _ _ hdl) (fun _=>Zs4 (Ztv _ _ hsl))
  have tz:(ZpG (ZfN.Delay a) false).bind (fun x=>if x=true then some (Decidable.decide (((ZfN.Znd a).length:Int)=(0:Int))) else some false)=some (tr (ZtB (ZfN.Delay a) false∧(ZfN.Znd a).length=0)):=ZpR (Ztv _ _ hdl) (fun _=>Zs6 (by rw [decide_eq_true_eq];omega))
  unfold Zv6
  rw [hp2]
  by_cases k1:ZfN.Kind a=1
  · simp only [k1,if_true]
    refine Zq1 (ZuI (fun hc=>ZpF (fun hl=>ZpR (ZrJ _ _ _) (fun _=>tt true)))) ?_
    grind
  by_cases k2:ZfN.Kind a=2
  · simp only [k2,if_true,Int.reduceEq,if_false]
    refine Zq1 (ZpF (fun hc=>ZpF (fun hl=>ZpF (fun _=>tt true)))) ?_
    grind
  by_cases k3:ZfN.Kind a=3
  · simp only [k3,if_true,Int.reduceEq,if_false]
    refine Zq1 (ZpF (fun hc=>ZpF (fun hl=>ZpF (fun _=>tt true)))) ?_
    grind
  have chk:(if ZhU.Clock p=true then (if ZfN.To a<((QG.ZoY c).length:Int)-1 then (atI (QG.ZoY c) (ZfN.To a)).bind (fun x1=>if ZhU.Clock x1=true then some false else if ZfN.ZoE a=0 then (ZpG (ZfN.Delay a) false).bind (fun x=>if x=true then some (Decidable.decide (((ZfN.Znd a).length:Int)=(0:Int))) else some false) else some false) else some false) else some false) =
      some (tr (ZhU.Clock p=true∧ZfN.To a<((QG.ZoY c).length:Int)-1∧ZxY (QG.ZoY c) (ZfN.To a)=false∧ZfN.ZoE a=0∧ZtB (ZfN.Delay a) false∧(ZfN.Znd a).length=0)):=by
    refine ZpF (fun _=>ZpF (fun hl=>?_))
    obtain ⟨q,hq1,hq2⟩:=ZzC (l:=QG.ZoY c) hT.1 (by omega)
    rw [hq1,Bq,hq2]
    refine Zq1 (ZuI (fun _=>ZpF (fun _=>tz))) ?_
    simp only [Bool.not_eq_true]
  by_cases k4:ZfN.Kind a=4
  · simp only [k4,if_true,Int.reduceEq,if_false]
    refine Zq1 chk ?_
    grind
  by_cases k5:ZfN.Kind a=5
  · simp only [k5,if_true,Int.reduceEq,if_false]
    refine Zq1 chk ?_
    grind
  · simp only [k1,k2,k3,k4,k5,if_false]
    refine ZwC ?_
    grind
def Zu1 (l:List ZhU):Int:=Zrm (fun p=>ZhU.Clock p) l
theorem ZvW (c:QG) (h:sm (.sl Zl9) (QG.ZoY c)):Zs7 c=some (Zu1 (QG.ZoY c)):=by
  unfold Zs7
  rw [Zqn (ZpW h) (fun p=>ZhU.Clock p) (fun p _=>rfl),Bq]
  rfl
theorem ZsH (c:QG) (h:sm (.sl Zl9) (QG.ZoY c)):ZrN c=some (((QG.ZoY c).length:Int)-1):=by
  have hs:=Zo9 h
  show some (Wq (((QG.ZoY c).length:Int)-1))=_
  rw [XD (by omega) (by omega)]
theorem ZtP (c:QG) (i:Int) (h:sm (.sl Zl9) (QG.ZoY c)):Zrp c i=some (tr (0≤i∧i≤((QG.ZoY c).length:Int)-2)):=by
  have hs:=Zo9 h
  unfold Zrp
  rw [ZsH c h,Bq,XD (by omega) (by omega)]
  refine Zq1 (Zs4 (ZrR _ _ _)) ?_
  omega
def ZzK (c:QG) (a:ZfN):Prop :=
  ((ZfN.Kind a=4∨ZfN.Kind a=5)∧ZfN.ZoE a=0∧(ZfN.Znd a).length=0∧ZtB (ZfN.Delay a) false∧ZfN.From a=Zu1 (QG.ZoY c)∧0≤ZfN.From a∧(0≤ZfN.To a∧ZfN.To a≤((QG.ZoY c).length:Int)-2)∧ZfN.To a≠ZfN.From a)∨
  (¬(ZfN.Kind a=4∨ZfN.Kind a=5)∧ZtB (ZfN.Delay a) true∧ZtB (ZfN.Znd a) true∧ZfN.To a=((QG.ZoY c).length:Int)-1∧(0≤ZfN.From a∧ZfN.From a≤((QG.ZoY c).length:Int)-2)∧
    ((ZfN.Kind a=1∧ZxY (QG.ZoY c) (ZfN.From a)=false∧(1≤ZfN.ZoE a∧ZfN.ZoE a≤3))∨((ZfN.Kind a=2∨ZfN.Kind a=3)∧ZxY (QG.ZoY c) (ZfN.From a)=true∧ZfN.ZoE a=0)))
theorem Zxm (k:Int):Zuq k=some (tr (k=4∨k=5)):=by
  unfold Zuq
  split
  · rename_i h;rw [ZcF (.inl h)]
  · rename_i h
    exact Zs6 (by rw [decide_eq_true_eq];omega)
theorem Zx1 (c:QG) (a:ZfN) (hp:sm (.sl Zl9) (QG.ZoY c)) (hd:sm (.sl ZdQ) (ZfN.Delay a)) (hw:sm (.sl ZdQ) (ZfN.Znd a)):Zs9 c a=some (tr (ZzK c a)):=by
  unfold Zs9
  have hdl:=ZuT hd
  have hsl:=ZuT hw
  rw [Zxm,Bq]
  by_cases hk:ZfN.Kind a=4∨ZfN.Kind a=5
  · rw [if_pos (ZcF hk)]
    refine Zq1 (ZpF (fun _=>ZpF (fun _=>ZpR (Ztp _ _ hdl) (fun _=>?_)))) (P:=ZfN.ZoE a=0∧((ZfN.Znd a).length:Int)=0∧ZtB (ZfN.Delay a) false∧(ZfN.From a=Zu1 (QG.ZoY c)∧0≤ZfN.From a∧(0≤ZfN.To a∧ZfN.To a≤((QG.ZoY c).length:Int)-2)∧ZfN.To a≠ZfN.From a)) ?_
    · rw [ZvW c hp,Bq]
      refine ZpF (fun _=>ZpF (fun _=>ZpR (ZtP c _ hp) (fun _=>Zs6 ?_)))
      rw [Bool.not_eq_true',decide_eq_false_iff_not]
    · unfold ZzK
      constructor
      · rintro ⟨x1,x2,x3,x4⟩
        exact .inl ⟨hk,x1,by omega,x3,x4⟩
      · rintro (⟨_,x1,x2,x3,x4⟩ | ⟨x,_⟩)
        · exact ⟨x1,by omega,x3,x4⟩
        · exact absurd hk x
  · rw [if_neg (by rw [Zag hk];simp)]
    refine Zq1 (ZpR (Ztp _ _ hdl) (fun _=>ZpR (Ztp _ _ hsl) (fun _=>?_))) (P:=ZtB (ZfN.Delay a) true∧ZtB (ZfN.Znd a) true∧(ZfN.To a=((QG.ZoY c).length:Int)-1∧(0≤ZfN.From a∧ZfN.From a≤((QG.ZoY c).length:Int)-2)∧
      ((ZfN.Kind a=1∧ZxY (QG.ZoY c) (ZfN.From a)=false∧(1≤ZfN.ZoE a∧ZfN.ZoE a≤3))∨((ZfN.Kind a=2∨ZfN.Kind a=3)∧ZxY (QG.ZoY c) (ZfN.From a)=true∧ZfN.ZoE a=0)))) ?_
    · rw [ZsH c hp,Bq]
      refine ZpF (fun _=>ZpR (ZtP c _ hp) (fun hF=>?_))
      obtain ⟨p,hp1,hp2⟩:=ZzC (l:=QG.ZoY c) hF.1 (by omega)
      rw [hp1,hp2]
      simp only [Bq]
      by_cases k1:ZfN.Kind a=1
      · simp only [k1,if_true]
        refine Zq1 (ZuI (fun _=>Zs4 (ZrR _ _ _))) ?_
        grind
      by_cases k2:ZfN.Kind a=2
      · simp only [k2,if_true,Int.reduceEq,if_false]
        refine Zq1 (ZpF (fun _=>Zs6 (decide_eq_true_iff))) ?_
        grind
      by_cases k3:ZfN.Kind a=3
      · simp only [k3,if_true,Int.reduceEq,if_false]
        refine Zq1 (ZpF (fun _=>Zs6 (decide_eq_true_iff))) ?_
        grind
      · simp only [k1,k2,k3,if_false]
        refine ZwC ?_
        grind
    · unfold ZzK
      constructor
      · intro x;exact .inr ⟨hk,x⟩
      · rintro (⟨x,_⟩ | ⟨_,x⟩)
        · exact absurd x hk
        · exact x
/-
  Plain laws: cells and libraries.
-/
def Zuh (o a:ZfN):Prop:=ZfN.Kind o=ZfN.Kind a∧ZfN.From o=ZfN.From a∧ZfN.To o=ZfN.To a
def Apart (l:List ZfN) (k:Nat) (a:ZfN):Prop:=∀ (j:Nat) (o:ZfN),j<k→l[j]?=some o→¬Zuh o a
structure ZxQ (c:QG):Prop where
  name:(QG.Name c).length≤4611686018427387904
  pins:sm (.sl Zl9) (QG.ZoY c)
  arcs:sm (.sl Zmv) (QG.ZoW c)
  truth:sm (.sl (.int .i64)) (QG.Truth c)
theorem Zy2 {c:QG} (h:sm Zin c):ZxQ c:=⟨Zve h.1,h.2.2.1,h.2.2.2.1,h.2.2.2.2.1⟩
theorem Zz1 {a:ZfN} (h:sm Zmv a):sm (.sl ZdQ) (ZfN.Delay a)∧sm (.sl ZdQ) (ZfN.Znd a):=⟨h.2.2.2.2.1,h.2.2.2.2.2.1⟩
theorem ZvX (o a:ZfN):Zqi o a=some (tr (Zuh o a)):=by
  unfold Zqi Zuh
  exact ZpF (fun _=>ZpF (fun _=>Zs6 decide_eq_true_iff))
theorem Zxk (c:QG) (h:ZxQ c):Zsg c=some (tr ((QG.ZoW c).length≤8∧Zna (QG.ZoW c) (fun k a=>ZzK c a∧Apart (QG.ZoW c) k a))):=by
  unfold Zsg
  have hs:=Zo9 h.arcs
  rw [Zrc (ZpW h.arcs) (fun k a=>ZzK c a∧Apart (QG.ZoW c) k a) (bad:=false) (good:=decide ((QG.ZoW c).length≤8))
    (fun k a hx hk _=>by
      obtain ⟨h1,h2⟩:=Zz1 (ZqC h.arcs hx)
      simp only [ZrF,show (k:Int)<((QG.ZoW c).length:Int) from by omega,if_true,VU,hx,Bq,Zx1 c a h.pins h1 h2]
      by_cases hA:ZzK c a
      · rw [if_pos (ZcF hA),ZB (by omega),ZB (by omega)]
        simp only [Int.toNat_natCast,Int.toNat_zero,List.drop_zero,Nat.sub_zero]
        rw [Zp9 (by show ((QG.ZoW c).take k).length≤4611686018427387904;rw [List.length_take];omega) (fun o=>tr (Zuh o a)) (fun o _=>ZvX o a),Bq]
        have e:((QG.ZoW c).take k).any (fun o=>tr (Zuh o a))=true↔¬Apart (QG.ZoW c) k a:=by
          rw [List.any_eq_true]
          constructor
          · rintro ⟨o,ho,hs⟩ hap
            obtain ⟨j,hj⟩:=List.mem_iff_getElem?.1 ho
            rw [List.getElem?_take] at hj
            split at hj
            · rename_i hjk;exact hap j o hjk hj ((Zgv _).1 hs)
            · cases hj
          · intro hn
            apply Classical.byContradiction
            intro hno
            refine hn (fun j o hj ho hs=>hno ⟨o,?_,ZcF hs⟩)
            exact List.mem_iff_getElem?.2 ⟨j,by rw [List.getElem?_take,if_pos hj];exact ho⟩
        constructor
        · rintro ⟨_,hap⟩;rw [if_neg (fun hh=>e.1 hh hap)]
        · intro hn;rw [if_pos (e.2 (fun hap=>hn ⟨hA,hap⟩))]
      · rw [if_neg (by rw [Zag hA];simp)]
        exact ⟨fun hh=>absurd hh.1 hA,fun _=>rfl⟩)
    (fun _=>by
      simp only [ZrF,Int.lt_irrefl,if_false]
      congr 2
      rw [decide_eq_decide];omega)]
  congr 1
  refine Ztn ?_
  rw [Zgv]
  by_cases hA:Zna (QG.ZoW c) (fun k a=>ZzK c a∧Apart (QG.ZoW c) k a)
  · rw [ZjL hA,decide_eq_true_eq];exact ⟨fun h=>⟨h,hA⟩,fun h=>h.1⟩
  · rw [Zl6 hA];exact ⟨fun h=>(by cases h),fun h=>absurd h.2 hA⟩
def Zyf (c:QG) (k:Int):Prop:=∃ a∈QG.ZoW c,ZfN.Kind a=k
theorem Ztq (c:QG) (k:Int) (h:ZxQ c):ZqD c k=some (tr (Zyf c k)):=by
  unfold ZqD
  rw [Zqk (ZpW h.arcs) (fun a=>decide (ZfN.Kind a=k)) (fun a _=>rfl),Bq]
  refine Zs6 ?_
  rw [List.any_eq_true]
  simp only [decide_eq_true_eq,Zyf]
def Zun (c:QG):Prop :=
  (QG.Kind c=1∧Zw0 (QG.ZoY c)=0∧(QG.Truth c).length=2 ^ ((QG.ZoY c).length-1)∧ZuY (QG.Truth c) 0 1)∨
  (QG.Kind c=2∧Zw0 (QG.ZoY c)=1∧(QG.Truth c).length=0∧¬Zyf c 1∧(Zyf c 2↔¬Zyf c 3))∨
  (QG.Kind c=3∧Zw0 (QG.ZoY c)=1∧(QG.Truth c).length=0∧Zyf c 1∧Zyf c 2∧¬Zyf c 3)
theorem ZzD {n:Nat} (h:n≤4):(2:Nat) ^ n≤16:=by
  calc (2:Nat) ^ n≤2 ^ 4:=Nat.pow_le_pow_right (by omega) h
    _=16:=rfl
theorem ZAy {m:Nat} (h:m≤4):Wq ((1:Int)*(2:Int) ^ min m (IntKind.bits IntKind.i64))=((2 ^ m:Nat):Int):=by
  have hb:min m (IntKind.bits IntKind.i64)=m:=Nat.min_eq_left (by show m≤64;omega)
  have e:(1:Int)*(2:Int) ^ m=((2 ^ m:Nat):Int):=by simp
  rw [hb,e]
  have h16:=ZzD h
  clear hb e
  generalize 2 ^ m=g at h16 ⊢
  rw [XD (by omega) (by omega)]
theorem ZwY (c:QG) (h:ZxQ c) (hp:Zvu (QG.ZoY c)):ZrZ c=some (tr (Zun c)):=by
  unfold ZrZ
  have h2:=hp.1
  have h5:=hp.2.1
  refine (show ZA (fun v=>Zp6 c v.1 v.2.1) ((0:Int),(0:Int),())=_ from ZgW (l:=QG.ZoY c) (ρ:=Bool) (fun k=>((((QG.ZoY c).take k).countP (fun p=>ZhU.Clock p):Int),(k:Int),())) (step:=fun v=>Zp6 c v.1 v.2.1)
    (fun k p hx hk=>by
      have hcnt:((QG.ZoY c).take k).countP (fun p=>ZhU.Clock p)≤5:=by
        have h1:=List.countP_le_length (p:=fun p=>ZhU.Clock p) (l:=(QG.ZoY c).take k)
        rw [List.length_take] at h1;omega
      have hnext:((QG.ZoY c).take (k+1)).countP (fun p=>ZhU.Clock p)=((QG.ZoY c).take k).countP (fun p=>ZhU.Clock p)+if ZhU.Clock p=true then 1 else 0:=by
        rw [JI hx,List.countP_append];simp [List.countP_cons]
      simp only [Zp6,show (k:Int)<((QG.ZoY c).length:Int) from by omega,if_true,VU,hx,Bq,hnext]
      by_cases hc:ZhU.Clock p=true
      · rw [if_pos hc,if_pos hc,Zkd (by omega),Zkd (by omega)]
      · rw [if_neg hc,if_neg hc,Zkd (by omega)];rfl)
    ?_)
  have hout:=ZsH c h.pins
  simp only [Zp6,Int.lt_irrefl,if_false,List.take_length,hout,Bq,show (((QG.ZoY c).length:Int)-1).toNat=(QG.ZoY c).length-1 from by omega,ZAy (show (QG.ZoY c).length-1≤4 by omega)]
  have e00:((QG.ZoY c).countP (fun p=>ZhU.Clock p):Int)=0↔Zw0 (QG.ZoY c)=0:=by unfold Zw0;omega
  have e01:((QG.ZoY c).countP (fun p=>ZhU.Clock p):Int)=1↔Zw0 (QG.ZoY c)=1:=by unfold Zw0;omega
  unfold Zun
  by_cases k1:QG.Kind c=1
  · simp only [k1,if_true]
    by_cases hc:Zw0 (QG.ZoY c)=0
    · rw [if_pos (e00.2 hc),ZB (by omega)]
      by_cases ht:(QG.Truth c).length=2 ^ ((QG.ZoY c).length-1)
      · rw [if_pos (by rw [ht]),Zcb _ _ _ (ZpW h.truth),Bq]
        congr 2
        refine (Zya ?_).symm
        rw [ZvP]
        exact ⟨fun hh=>.inl ⟨trivial,hc,ht,hh⟩,fun hh=>by grind⟩
      · rw [if_neg (by omega),Zag (by grind)]
    · rw [if_neg (fun hh=>hc (e00.1 hh)),Zag (by grind)]
  by_cases k2:QG.Kind c=2
  · simp only [k2,if_true,Int.reduceEq,if_false]
    by_cases hc:Zw0 (QG.ZoY c)=1
    · rw [if_pos (e01.2 hc)]
      by_cases ht:(QG.Truth c).length=0
      · rw [if_pos (by omega),Ztq c 1 h,Bq]
        by_cases h1:Zyf c 1
        · rw [if_pos (ZcF h1),Zag (by grind)]
        · rw [if_neg (by rw [Zag h1];simp),Ztq c 2 h,Ztq c 3 h]
          simp only [Bq]
          congr 2
          refine (Zya ?_).symm
          by_cases a:Zyf c 2<;>by_cases b:Zyf c 3<;>simp only [ZcF,Zag,a,b,not_false_eq_true]<;>grind
      · rw [if_neg (by omega),Zag (by grind)]
    · rw [if_neg (fun hh=>hc (e01.1 hh)),Zag (by grind)]
  by_cases k3:QG.Kind c=3
  · simp only [k3,if_true,Int.reduceEq,if_false]
    by_cases hc:Zw0 (QG.ZoY c)=1
    · rw [if_pos (e01.2 hc)]
      by_cases ht:(QG.Truth c).length=0
      · rw [if_pos (by omega),Ztq c 1 h,Bq]
        by_cases h1:Zyf c 1
        · rw [if_pos (ZcF h1),Ztq c 2 h,Bq]
          by_cases h2:Zyf c 2
          · rw [if_pos (ZcF h2),Ztq c 3 h,Bq]
            congr 2
            refine (Zya ?_).symm
            rw [Bool.not_eq_true',←Bool.not_eq_true,Zgv]
            grind
          · rw [if_neg (by rw [Zag h2];simp),Zag (by grind)]
        · rw [if_neg (by rw [Zag h1];simp),Zag (by grind)]
      · rw [if_neg (by omega),Zag (by grind)]
    · rw [if_neg (fun hh=>hc (e01.1 hh)),Zag (by grind)]
  · simp only [k1,k2,k3,if_false]
    rw [Zag (by grind)]
def ZAx (c:QG):Prop:=Zad (QG.Name c)=true∧Zvu (QG.ZoY c)∧((QG.ZoW c).length≤8∧Zna (QG.ZoW c) (fun k a=>ZzK c a∧Apart (QG.ZoW c) k a))∧(0≤QG.ZoX c∧QG.ZoX c≤100000)∧(0≤QG.Zon c∧QG.Zon c≤100000)∧Zun c
def ZvM (c:QG):Prop:=Zad (QG.Name c)=true∧Zvu (QG.ZoY c)∧((QG.ZoW c).length≤8∧Zna (QG.ZoW c) (fun k a=>Zv6 c a∧Apart (QG.ZoW c) k a))∧(0≤QG.ZoX c∧QG.ZoX c≤100000)∧(0≤QG.Zon c∧QG.Zon c≤100000)∧Zun c
theorem ZyX {l:List ZhU} {i j:Nat} {p q:ZhU} (hij:i<j) (hp:l[i]?=some p) (hq:l[j]?=some q) (cp:ZhU.Clock p=true) (cq:ZhU.Clock q=true):2≤Zw0 l:=by
  unfold Zw0
  have e:l.countP (fun p=>ZhU.Clock p)=(l.take j).countP (fun p=>ZhU.Clock p)+(l.drop j).countP (fun p=>ZhU.Clock p):=by rw [←List.countP_append,List.take_append_drop]
  have h1:0<(l.take j).countP (fun p=>ZhU.Clock p):=List.countP_pos_iff.2 ⟨p,List.mem_iff_getElem?.2 ⟨i,by rw [List.getElem?_take,if_pos hij];exact hp⟩,cp⟩
  have h2:0<(l.drop j).countP (fun p=>ZhU.Clock p):=List.countP_pos_iff.2 ⟨q,List.mem_iff_getElem?.2 ⟨0,by rw [List.getElem?_drop];exact hq⟩,cq⟩
  omega
theorem ZxR {l:List ZhU} (h:Zw0 l≤1) {i:Int} (h0:0≤i):ZxY l i=true↔i=Zu1 l:=by
  unfold Zu1 Zrm ZxY
  constructor
  · intro hc
    split at hc
    · rename_i p hp
      split
      · rename_i j hj
        obtain ⟨hj1,hj2,hj3⟩:=List.findIdx?_eq_some_iff_getElem.1 hj
        have hjg:l[j]?=some l[j]:=List.getElem?_eq_getElem hj1
        rcases Nat.lt_trichotomy i.toNat j with hlt | heq | hlt
        · have:=ZyX hlt hp hjg hc hj2;omega
        · omega
        · have:=ZyX hlt hjg hp hj2 hc;omega
      · rename_i hn
        rw [List.findIdx?_eq_none_iff] at hn
        have:=hn p (List.mem_of_getElem? hp)
        rw [hc] at this;cases this
    · cases hc
  · intro hi
    split at hi
    · rename_i j hj
      obtain ⟨hj1,hj2,hj3⟩:=List.findIdx?_eq_some_iff_getElem.1 hj
      subst hi
      rw [Int.toNat_natCast,List.getElem?_eq_getElem hj1]
      exact hj2
    · omega
theorem Zy8 {l:List ZhU} (h:Zvu l):ZxY l ((l.length:Int)-1)=false:=by
  have h2:=h.1
  have hp:l[l.length-1]?=some l[l.length-1]:=List.getElem?_eq_getElem (by omega)
  have:=((h.2.2.2 _ _ hp).2.1 (by omega)).2.2
  unfold ZxY
  rw [show ((l.length:Int)-1).toNat=l.length-1 by omega,hp]
  exact this
theorem Zzl {c:QG} (hp:Zvu (QG.ZoY c)) (hk:Zw0 (QG.ZoY c)≤1) (a:ZfN):ZzK c a↔Zv6 c a:=by
  have h2:=hp.1
  have hF:0≤ZfN.From a→(ZxY (QG.ZoY c) (ZfN.From a)=true↔ZfN.From a=Zu1 (QG.ZoY c)):=fun h=>ZxR hk h
  have hT:0≤ZfN.To a→(ZxY (QG.ZoY c) (ZfN.To a)=true↔ZfN.To a=Zu1 (QG.ZoY c)):=fun h=>ZxR hk h
  have hlast:=Zy8 hp
  have hfr:∀ i,ZxY (QG.ZoY c) i=true→i<((QG.ZoY c).length:Int):=by
    intro i hi
    unfold ZxY at hi
    split at hi
    · rename_i p hp'
      have:=(List.getElem?_eq_some_iff.1 hp').1
      omega
    · cases hi
  unfold ZzK Zv6
  generalize Zu1 (QG.ZoY c)=ck at *
  constructor
  · rintro (⟨k,s,sl,td,fc,f0,⟨t0,t1⟩,ne⟩ | ⟨k,td,ts,te,⟨f0,f1⟩,hh⟩)
    · have hclk:=(hF f0).2 fc
      have hnl:ZfN.From a≠((QG.ZoY c).length:Int)-1:=fun e=>by rw [e,hlast] at hclk;cases hclk
      have:=hfr _ hclk
      refine ⟨⟨f0,by omega⟩,⟨t0,by omega⟩,.inr (.inr ⟨k,hclk,by omega,?_,s,td,sl⟩)⟩
      rw [←Bool.not_eq_true]
      intro hc
      exact ne (((hT t0).1 hc).trans fc.symm)
    · refine ⟨⟨f0,f1⟩,⟨by omega,by omega⟩,?_⟩
      rcases hh with ⟨k1,c1,s1⟩ | ⟨k1,c1,s1⟩
      · exact .inl ⟨k1,c1,te,s1,td,ts⟩
      · exact .inr (.inl ⟨k1,c1,te,s1,td,ts⟩)
  · rintro ⟨⟨f0,f1⟩,⟨t0,t1⟩,(⟨k,c1,te,s,td,ts⟩ | ⟨k,c1,te,s,td,ts⟩ | ⟨k,c1,tl,c2,s,td,sl⟩)⟩
    · exact .inr ⟨by omega,td,ts,te,⟨f0,f1⟩,.inl ⟨k,c1,s⟩⟩
    · exact .inr ⟨by omega,td,ts,te,⟨f0,f1⟩,.inr ⟨k,c1,s⟩⟩
    · refine .inl ⟨k,s,sl,td,(hF f0).1 c1,f0,⟨t0,by omega⟩,fun e=>?_⟩
      rw [e,c1] at c2;cases c2
theorem Zun.Zw0 {c:QG} (h:Zun c):Zw0 (QG.ZoY c)≤1:=by
  rcases h with h | h | h
  · have:=h.2.1;omega
  · have:=h.2.1;omega
  · have:=h.2.1;omega
theorem ZzP (c:QG):ZAx c↔ZvM c:=by
  unfold ZAx ZvM
  constructor
  · rintro ⟨a,b,⟨c1,d⟩,e,f,g⟩
    exact ⟨a,b,⟨c1,fun k x hx=>⟨(Zzl b g.Zw0 x).1 (d k x hx).1,(d k x hx).2⟩⟩,e,f,g⟩
  · rintro ⟨a,b,⟨c1,d⟩,e,f,g⟩
    exact ⟨a,b,⟨c1,fun k x hx=>⟨(Zzl b g.Zw0 x).2 (d k x hx).1,(d k x hx).2⟩⟩,e,f,g⟩
theorem ZxL (c:QG) (h:sm Zin c):ZuL c=some (tr (ZvM c)):=by
  have hc:=Zy2 h
  unfold ZuL
  refine Zq1 (ZpR (by rw [Zep];exact Zs6 Iff.rfl) (fun _=>ZpR (Zxl _ hc.pins) (fun hp=>ZpR (Zxk c hc) (fun _=>ZpR (ZrR _ _ _) (fun _=>ZpR (ZrR _ _ _) (fun _=>Zs4 (ZwY c hc hp))))))) ?_
  exact (ZzP c)
/-
  Plain laws: cells by the reference; libraries.
-/
def ZtK (l:List ZfN):List Int:=(List.range 6).map (fun (j:Nat)=>((l.countP (fun a=>decide (ZfN.Kind a=(j:Int))):Nat):Int))
theorem ZsI (l:List ZfN) {j:Nat} (h:j<6):(ZtK l)[j]?=some ((l.countP (fun a=>decide (ZfN.Kind a=(j:Int))):Nat):Int):=by
  simp [ZtK,List.getElem?_range h]
theorem Zw3 (c:QG) (h:ZxQ c) (hk:∀ a∈QG.ZoW c,1≤ZfN.Kind a∧ZfN.Kind a≤5):ZtY c=some (ZtK (QG.ZoW c)):=by
  unfold ZtY
  have hs:=Zo9 h.arcs
  have h0:List.replicate (Int.toNat (6:Int)) (0:Int)=ZtK ((QG.ZoW c).take 0):=by simp [ZtK];decide
  rw [h0]
  refine ZgW (l:=QG.ZoW c) (ρ:=List Int) (fun k=>((k:Int),ZtK ((QG.ZoW c).take k),())) (step:=fun v=>ZrK c v.1 v.2.1)
    (fun k a hx hlt=>?_) (by simp only [ZrK,Int.lt_irrefl,if_false,List.take_length])
  obtain ⟨k1,k5⟩:=hk a (List.mem_of_getElem? hx)
  have hkn:ZfN.Kind a=(((ZfN.Kind a).toNat:Nat):Int):=by omega
  have hcnt:∀ j:Nat,((QG.ZoW c).take k).countP (fun a=>decide (ZfN.Kind a=(j:Int)))≤1048576:=by
    intro j
    have h1:=List.countP_le_length (p:=fun a=>decide (ZfN.Kind a=(j:Int))) (l:=(QG.ZoW c).take k)
    rw [List.length_take] at h1;omega
  simp only [ZrK,show (k:Int)<((QG.ZoW c).length:Int) from by omega,if_true,VU,hx,Bq]
  rw [Zkf (by omega) (ZsI _ (show (ZfN.Kind a).toNat<6 by omega)),Bq,Zkd (hcnt _),Zkd (by omega)]
  congr 3
  rw [Prod.mk.injEq]
  refine ⟨?_,rfl⟩
  apply List.ext_getElem?
  intro j
  by_cases hj:(ZfN.Kind a).toNat=j
  · subst hj
    rw [List.getElem?_set_self (by simp [ZtK];omega),ZsI _ (by omega),JI hx,List.countP_append]
    congr 2
    rw [List.countP_cons,List.countP_nil]
    simp [←hkn]
  · rw [List.getElem?_set_ne hj]
    by_cases h6:j<6
    · rw [ZsI _ h6,ZsI _ h6,JI hx,List.countP_append]
      congr 2
      rw [List.countP_cons,List.countP_nil]
      have:¬ZfN.Kind a=(j:Int):=by omega
      simp [this]
    · rw [List.getElem?_eq_none (by simp [ZtK];omega),List.getElem?_eq_none (by simp [ZtK];omega)]
theorem Zxc (c:QG) (j:Nat):0<(QG.ZoW c).countP (fun a=>decide (ZfN.Kind a=(j:Int)))↔Zyf c j:=by
  rw [List.countP_pos_iff]
  simp only [decide_eq_true_eq,Zyf]
theorem ZwD (c:QG) (h:ZxQ c) (hp:Zvu (QG.ZoY c)) (hk1:QG.Kind c=1) :
    ZA (fun v=>Zsm c ((Zw0 (QG.ZoY c):Int),true) v.1) ((0:Int),())=some (.inr (tr (Zun c))):=by
  have h2:=hp.1
  have h5:=hp.2.1
  have hs:=Zo9 h.truth
  have e1:Wq (((QG.ZoY c).length:Int)-1)=((QG.ZoY c).length:Int)-1:=XD (by omega) (by omega)
  have e2:IntKind.u64.wrap (((QG.ZoY c).length:Int)-1)=((QG.ZoY c).length:Int)-1:=IntWalk.u64_in _ (by omega)
  rw [Zrc (ZpW h.truth) (fun k x=>0≤x∧x≤1) (bad:=.inr false) (good:=.inr (tr (Zw0 (QG.ZoY c)=0∧(QG.Truth c).length=2 ^ ((QG.ZoY c).length-1))))
    (fun k x hx hk _=>by
      simp only [Zsm,show (k:Int)<((QG.Truth c).length:Int) from by omega,if_true,VU,hx,Bq,Vx,within_iff]
      exact ⟨fun hh=>by rw [if_pos hh],fun hh=>by rw [if_neg hh]⟩)
    (fun _=>by
      simp only [Zsm,Int.lt_irrefl,if_false,e1,e2]
      by_cases hc:Zw0 (QG.ZoY c)=0
      · rw [if_pos (by omega),ZB (by omega),show (((QG.ZoY c).length:Int)-1).toNat=(QG.ZoY c).length-1 by omega,ZAy (by omega)]
        congr 2
        congr 1
        refine (Zya ?_).symm
        rw [decide_eq_true_eq]
        constructor
        · intro hh;exact ⟨hc,by omega⟩
        · intro hh;rw [hh.2]
      · rw [if_neg (by omega),Zag (fun hh=>hc hh.1)])]
  congr 1
  by_cases hA:Zna (QG.Truth c) (fun k x=>0≤x∧x≤1)
  · rw [ZjL hA]
    congr 1
    refine ZqI ?_
    have hAll:ZuY (QG.Truth c) 0 1:=fun x hx=>by
      obtain ⟨k,hk⟩:=List.mem_iff_getElem?.1 hx
      exact hA k x hk
    unfold Zun
    grind
  · rw [Zl6 hA,Zag]
    intro hh
    rcases hh with hh | hh | hh
    · exact hA (fun k x hk=>hh.2.2.2 x (List.mem_of_getElem? hk))
    · have:=hh.1;omega
    · have:=hh.1;omega
theorem ZxN (c:QG) (hsm:sm Zin c):ZuN c=some (tr (ZvM c)):=by
  have h:=Zy2 hsm
  have hs:=Zo9 h.arcs
  unfold ZuN
  rw [ZxE c h.pins,Bq]
  by_cases hp':¬Zvu (QG.ZoY c)
  · rw [Zl6 hp',Zag (fun hh=>hp' hh.2.1)];rfl
  have hp:=Classical.not_not.1 hp'
  rw [ZjL hp]
  simp only [if_true]
  refine Zq1 (ZpR (P:=Zad (QG.Name c)=true) (by rw [ZdJ _ h.name];exact Zs6 Iff.rfl) (fun hn=>ZuI (fun h8=>ZpR (ZrJ _ _ _) (fun hl=>ZpR (ZrJ _ _ _) (fun he=>?_))))) (P:=Zad (QG.Name c)=true∧¬((8:Int)<((QG.ZoW c).length:Int))∧(0≤QG.ZoX c∧QG.ZoX c≤100000)∧(0≤QG.Zon c∧QG.Zon c≤100000)∧(Zna (QG.ZoW c) (fun k a=>Zv6 c a∧Apart (QG.ZoW c) k a)∧Zun c)) ?_
  · rw [Zrc (ZpW h.arcs) (fun k a=>Zv6 c a∧Apart (QG.ZoW c) k a) (bad:=false) (good:=tr (Zun c))
      (fun k a hx hk _=>by
        obtain ⟨h1,h2⟩:=Zz1 (ZqC h.arcs hx)
        simp only [Zts,show (k:Int)<((QG.ZoW c).length:Int) from by omega,if_true,VU,hx,Bq,ZxP c a h.pins h1 h2 hp.1]
        have inner:ZA (fun v=>Zsl c (k:Int) a v.1) ((0:Int),())=some (sel (∀ j,j<k→∀ o,(QG.ZoW c)[j]?=some o→¬Zuh o a) (.inl (Wq ((k:Int)+1),())) (.inr false)):=by
          refine Zxp k (by omega) (fun j=>∀ o,(QG.ZoW c)[j]?=some o→¬Zuh o a) (fun j hj=>?_) (fun _=>by simp only [Zsl,Int.lt_irrefl,if_false])
          obtain ⟨o,ho⟩:∃ o,(QG.ZoW c)[j]?=some o:=⟨_,List.getElem?_eq_getElem (by omega)⟩
          simp only [Zsl,show (j:Int)<(k:Int) from by omega,if_true,VU,ho,Bq]
          have e:(∀ o',some o=some o'→¬Zuh o' a)↔¬Zuh o a:=⟨fun hh=>hh o rfl,fun hh o' ho'=>by injection ho' with ho';subst ho';exact hh⟩
          rw [e]
          unfold Zuh
          constructor
          · intro hh
            split
            · split
              · split
                · exact absurd ⟨‹_›,‹_›,‹_›⟩ hh
                · rfl
              · rfl
            · rfl
          · intro hh
            have hh:=Classical.not_not.1 hh
            rw [if_pos hh.1,if_pos hh.2.1,if_pos hh.2.2]
        have eap:Apart (QG.ZoW c) k a↔(∀ j,j<k→∀ o,(QG.ZoW c)[j]?=some o→¬Zuh o a):=⟨fun hh j hj o ho=>hh j o hj ho,fun hh j o hj ho=>hh j hj o ho⟩
        by_cases hA:Zv6 c a
        · rw [if_pos (ZcF hA),inner]
          constructor
          · intro hh;rw [ZjL (eap.1 hh.2)]
          · intro hh;rw [Zl6 (fun h'=>hh ⟨hA,eap.2 h'⟩)]
        · rw [if_neg (by rw [Zag hA];simp)]
          exact ⟨fun hh=>absurd hh.1 hA,fun _=>rfl⟩)
      (fun hA=>by
        have hkinds:=Zw3 c h (fun a ha=>by
          obtain ⟨k,hk⟩:=List.mem_iff_getElem?.1 ha
          exact (hA k a hk).1.kind)
        have g1:atI (ZtK (QG.ZoW c)) (1:Int)=some (((QG.ZoW c).countP (fun a=>decide (ZfN.Kind a=((1:Nat):Int))):Nat):Int):=Zkf (by omega) (ZsI _ (by omega))
        have g2:atI (ZtK (QG.ZoW c)) (2:Int)=some (((QG.ZoW c).countP (fun a=>decide (ZfN.Kind a=((2:Nat):Int))):Nat):Int):=Zkf (by omega) (ZsI _ (by omega))
        have g3:atI (ZtK (QG.ZoW c)) (3:Int)=some (((QG.ZoW c).countP (fun a=>decide (ZfN.Kind a=((3:Nat):Int))):Nat):Int):=Zkf (by omega) (ZsI _ (by omega))
        have c1:=Zxc c 1
        have c2:=Zxc c 2
        have c3:=Zxc c 3
        simp only [Zts,Int.lt_irrefl,if_false,hkinds,Bq,g1,g2,g3]
        generalize (QG.ZoW c).countP (fun a=>decide (ZfN.Kind a=((1:Nat):Int)))=n1 at c1 ⊢
        generalize (QG.ZoW c).countP (fun a=>decide (ZfN.Kind a=((2:Nat):Int)))=n2 at c2 ⊢
        generalize (QG.ZoW c).countP (fun a=>decide (ZfN.Kind a=((3:Nat):Int)))=n3 at c3 ⊢
        by_cases k1:QG.Kind c=1
        · rw [if_pos k1]
          exact ZwD c h hp k1
        rw [if_neg k1]
        have hgoal:∀ (b:Bool),(b=true↔Zun c)→(some (.inr b):Option ((Int×Unit) ⊕ Bool))=some (.inr (tr (Zun c))):=fun b hb=>by rw [Zya hb]
        have c1':Zyf c 1↔0<n1:=c1.symm
        have c2':Zyf c 2↔0<n2:=c2.symm
        have c3':Zyf c 3↔0<n3:=c3.symm
        have hKO:Zun c↔(QG.Kind c=2∧Zw0 (QG.ZoY c)=1∧(QG.Truth c).length=0∧¬0<n1∧(0<n2↔¬0<n3))∨(QG.Kind c=3∧Zw0 (QG.ZoY c)=1∧(QG.Truth c).length=0∧0<n1∧0<n2∧¬0<n3):=by
          unfold Zun
          rw [c1',c2',c3']
          constructor
          · rintro (hh | hh | hh)
            · exact absurd hh.1 k1
            · exact .inl hh
            · exact .inr hh
          · rintro (hh | hh)
            · exact .inr (.inl hh)
            · exact .inr (.inr hh)
        by_cases k2:QG.Kind c=2
        · rw [if_pos k2]
          split
          · split
            · split
              · rename_i a b d
                refine hgoal _ ?_
                rw [hKO]
                simp only [beq_iff_eq,decide_eq_decide] at d
                constructor
                · intro hh;cases hh
                · intro hh;omega
              · rename_i a b d
                refine hgoal _ ?_
                rw [hKO,decide_eq_true_eq]
                simp only [beq_iff_eq,decide_eq_decide] at d
                omega
            · refine hgoal _ ?_
              rw [hKO]
              constructor
              · intro hh;cases hh
              · intro hh;omega
          · refine hgoal _ ?_
            rw [hKO]
            constructor
            · intro hh;cases hh
            · intro hh;omega
        rw [if_neg k2]
        repeat' split
        all_goals
          refine hgoal _ ?_
          rw [hKO]
          first
            | (rw [decide_eq_true_eq];omega)
            | (constructor
               · intro hh;cases hh
               · intro hh;omega))]
    congr 1
    by_cases hA:Zna (QG.ZoW c) (fun k a=>Zv6 c a∧Apart (QG.ZoW c) k a)
    · rw [ZjL hA];exact ZqI ⟨fun x=>⟨hA,x⟩,fun x=>x.2⟩
    · rw [Zl6 hA,Zag (fun x=>hA x.1)]
  · unfold ZvM
    constructor
    · rintro ⟨a,b,c1,d,e,f⟩
      exact ⟨a,hp,⟨by omega,e⟩,c1,d,f⟩
    · rintro ⟨a,b,⟨c1,d⟩,e,f,g⟩
      exact ⟨a,by omega,e,f,d,g⟩
/-
  Plain laws: libraries; names of a design.
-/
theorem ZyT {α:Type} {l:List α} {k:Nat} {s:α}:s ∉ l.take k↔∀ (j:Nat) (q:α),j<k→l[j]?=some q→q≠s:=by
  constructor
  · intro h j q hj hq e
    refine h (List.mem_iff_getElem?.2 ⟨j,?_⟩)
    rw [List.getElem?_take,if_pos hj,hq,e]
  · intro h hm
    obtain ⟨j,hj⟩:=List.mem_iff_getElem?.1 hm
    rw [List.getElem?_take] at hj
    split at hj
    · rename_i hjk;exact h j s hjk hj rfl
    · cases hj
theorem Zym {α:Type} (f:α→List UInt8) (l:List α):Zc6 (l.map f) l.length↔Zna l (fun k x=>Zad (f x)=true∧∀ (j:Nat) (q:α),j<k→l[j]?=some q→f q≠f x):=by
  constructor
  · intro h k x hx
    have hk:=(List.getElem?_eq_some_iff.1 hx).1
    obtain ⟨h1,h2⟩:=h k (f x) hk (by simp [hx])
    refine ⟨h1,fun j q hj hq=>ZyT.1 h2 j (f q) hj (by simp [hq])⟩
  · intro h j s hj hs
    simp only [List.getElem?_map,Option.map_eq_some_iff] at hs
    obtain ⟨x,hx,rfl⟩:=hs
    obtain ⟨h1,h2⟩:=h j x hx
    refine ⟨h1,ZyT.2 (fun i q hi hq=>?_)⟩
    simp only [List.getElem?_map,Option.map_eq_some_iff] at hq
    obtain ⟨y,hy,rfl⟩:=hq
    exact h2 i y hi hy
def ZuC (l:List QG):List (List UInt8):=l.map QG.Name
def Zyz (a:ZaF):Prop:=(ZaF.Cells a).length≤8∧(∀ c∈ZaF.Cells a,ZvM c)∧Zc6 (ZuC (ZaF.Cells a)) (ZaF.Cells a).length
theorem Zw1 {a:ZaF} (h:sm Zc3 a):sm (.sl Zin) (ZaF.Cells a):=h.1
theorem Ztw {α:Type} {l:List α} {P:α→Prop}:Zna l (fun _ x=>P x)↔∀ x∈l,P x:=by
  constructor
  · intro h x hx
    obtain ⟨k,hk⟩:=List.mem_iff_getElem?.1 hx
    exact h k x hk
  · intro h k x hk
    exact h x (List.mem_of_getElem? hk)
theorem Zv1 {P Q:Prop}:sel P (tr Q) false=tr (P∧Q):=by
  by_cases h:P
  · rw [ZjL h];exact ZqI ⟨fun q=>⟨h,q⟩,fun q=>q.2⟩
  · rw [Zl6 h,Zag (fun q=>h q.1)]
theorem Zwx (a:ZaF) (h:sm Zc3 a):Ztx a=some (tr (Zyz a)):=by
  have hc:=Zw1 h
  have hs:=Zo9 hc
  unfold Ztx
  have:=ZkH (l:=ZaF.Cells a) (ρ:=Bool) (fun k=>((ZuC (ZaF.Cells a)).take k,(k:Int),())) (fun _ c=>ZvM c) (step:=fun v=>ZqB a v.1 v.2.1) (bad:=false) (good:=tr ((ZaF.Cells a).length≤8∧Zc6 (ZuC (ZaF.Cells a)) (ZaF.Cells a).length))
    (fun k c hx hk _=>by
      have hn:(ZuC (ZaF.Cells a))[k]?=some (QG.Name c):=by simp [ZuC,hx]
      simp only [ZqB,show (k:Int)<((ZaF.Cells a).length:Int) from by omega,if_true,VU,hx,Bq,ZxL c (ZqC hc hx)]
      rw [ZB (by simp only [List.length_take,List.length_singleton,ZuC,List.length_map];omega),JI hn,Zkd (by omega)]
      constructor
      · intro hh;rw [if_pos (ZcF hh)]
      · intro hh;rw [if_neg (by rw [Zag hh];simp)])
    (fun hA=>by
      have e0:(ZuC (ZaF.Cells a)).take (ZaF.Cells a).length=ZuC (ZaF.Cells a):=by rw [show (ZaF.Cells a).length=(ZuC (ZaF.Cells a)).length by simp [ZuC],List.take_length]
      have hlen:(ZuC (ZaF.Cells a)).length=(ZaF.Cells a).length:=by simp [ZuC]
      simp only [ZqB,Int.lt_irrefl,if_false,e0]
      by_cases h8:(ZaF.Cells a).length≤8
      · rw [if_pos (by omega),ZcN _ (by rw [hlen];omega),Bq,hlen]
        congr 2
        exact ZqI ⟨fun q=>⟨h8,q⟩,fun q=>q.2⟩
      · rw [if_neg (by omega),Zag (fun q=>h8 q.1)])
  refine (show ZA (fun v=>ZqB a v.1 v.2.1) (([]:List (List UInt8)),(0:Int),())=_ from this).trans ?_
  rw [Zv1]
  congr 1
  refine ZqI ?_
  rw [Ztw]
  exact ⟨fun q=>⟨q.2.1,q.1,q.2.2⟩,fun q=>⟨q.2.1,q.1,q.2.2⟩⟩
theorem Zxo {α ρ:Type} {f:α→List UInt8} {l:List α} {x:α} {k:Nat} (hk:k≤1048576) (hkl:k≤l.length) {step:Int×Unit→Option ((Int×Unit) ⊕ ρ)} {bad good:ρ}
    (hs:∀ (j:Nat) (y:α),j<k→l[j]?=some y→step ((j:Int),())=some (if f y=f x then .inr bad else .inl (Wq ((j:Int)+1),())))
    (hx:step ((k:Int),())=some (.inr good)):ZA step ((0:Int),())=some (sel (∀ (j:Nat) (q:α),j<k→l[j]?=some q→f q≠f x) good bad):=by
  rw [Zxp k (by omega) (fun j=>∀ q,l[j]?=some q→f q≠f x) (bad:=bad) (good:=good) (fun j hj=>by
    have hjl:l[j]?=some l[j]:=List.getElem?_eq_getElem (by omega)
    rw [hs j _ hj hjl]
    constructor
    · intro hh;rw [if_neg (hh _ hjl)]
    · intro hh
      rw [if_pos]
      apply Classical.byContradiction
      intro hne
      refine hh (fun q hq=>?_)
      rw [hjl] at hq;injection hq with hq;subst hq;exact hne) (fun _=>hx)]
  congr 1
  have e:(∀ j,j<k→∀ q,l[j]?=some q→f q≠f x)↔(∀ (j:Nat) (q:α),j<k→l[j]?=some q→f q≠f x):=⟨fun h j q hj hq=>h j hj q hq,fun h j hj q hq=>h j q hj hq⟩
  rw [propext e]
theorem ZwE (a:ZaF) (h:sm Zc3 a):Ztz a=some (tr (Zyz a)):=by
  have hc:=Zw1 h
  have hs:=Zo9 hc
  unfold Ztz
  rw [Zrc (ZpW hc) (fun k c=>ZvM c∧∀ (j:Nat) (q:QG),j<k→(ZaF.Cells a)[j]?=some q→QG.Name q≠QG.Name c) (bad:=false) (good:=tr ((ZaF.Cells a).length≤8))
    (fun k c hx hk _=>by
      simp only [Zsx,show (k:Int)<((ZaF.Cells a).length:Int) from by omega,if_true,VU,hx,Bq,ZxN c (ZqC hc hx)]
      by_cases hC:ZvM c
      · rw [if_pos (ZcF hC),Zxo (f:=QG.Name) (l:=ZaF.Cells a) (x:=c) (k:=k) (by omega) (by omega) (bad:=.inr false) (good:=.inl (Wq ((k:Int)+1),()))
          (fun j y hj hy=>by
            simp only [Zsw,show (j:Int)<(k:Int) from by omega,if_true,VU,hy,Bq]
            split<;>rfl)
          (by simp only [Zsw,Int.lt_irrefl,if_false])]
        constructor
        · intro hh;rw [ZjL hh.2]
        · intro hh;rw [Zl6 (fun q=>hh ⟨hC,q⟩)]
      · rw [if_neg (by rw [Zag hC];simp)]
        exact ⟨fun hh=>absurd hh.1 hC,fun _=>rfl⟩)
    (fun _=>by
      simp only [Zsx,Int.lt_irrefl,if_false]
      congr 2
      exact (Zya (by rw [decide_eq_true_eq];omega)).symm)]
  rw [Zv1]
  congr 1
  refine ZqI ?_
  unfold Zyz
  rw [ZuC,Zym,←Ztw]
  constructor
  · rintro ⟨q,q8⟩
    exact ⟨q8,fun k x hx=>(q k x hx).1,fun k x hx=>⟨(q k x hx).1.1,(q k x hx).2⟩⟩
  · rintro ⟨q8,q1,q2⟩
    exact ⟨fun k x hx=>⟨q1 k x hx,(q2 k x hx).2⟩,q8⟩
theorem ZtL (l:List (List UInt8)) (hl:l.length≤1048576) (hsm:∀ s∈l,s.length≤4611686018427387904):Zso l=some (tr (Zc6 l l.length)):=by
  unfold Zso
  rw [Zrc (show Len l by show l.length≤4611686018427387904;omega) (fun k s=>Zad s=true∧∀ (j:Nat) (q:List UInt8),j<k→l[j]?=some q→id q≠id s) (bad:=false) (good:=true)
    (fun k s hx hk _=>by
      simp only [ZsS,show (k:Int)<(l.length:Int) from by omega,if_true,VU,hx,Bq,ZdJ s (hsm s (List.mem_of_getElem? hx))]
      by_cases hC:Zad s=true
      · rw [if_pos hC,Zxo (f:=id) (l:=l) (x:=s) (k:=k) (by omega) (by omega) (bad:=.inr false) (good:=.inl (Wq ((k:Int)+1),()))
          (fun j y hj hy=>by
            simp only [ZsR,show (j:Int)<(k:Int) from by omega,if_true,VU,hy,Bq,id]
            split<;>rfl)
          (by simp only [ZsR,Int.lt_irrefl,if_false])]
        constructor
        · intro hh;rw [ZjL hh.2]
        · intro hh;rw [Zl6 (fun q=>hh ⟨hC,q⟩)]
      · rw [if_neg hC]
        exact ⟨fun hh=>absurd hh.1 hC,fun _=>rfl⟩)
    (fun _=>by simp only [ZsS,Int.lt_irrefl,if_false]),Zxw]
  congr 1
  refine ZqI ?_
  have:=Zym id l
  rw [List.map_id] at this
  exact this.symm
def ZpY (d:Zp):List (List UInt8):=(Zp.Instances d).map Zz.Name
def Zsv (d:Zp):List (List UInt8):=(Zp.Vk d).map Zah.Name
def ZvN (d:Zp):Prop:=(Zp.Instances d).length≤14∧(Zp.Zbh d).length≤30∧(Zp.Vk d).length≤8∧Zc6 (ZpY d) (ZpY d).length∧Zc6 (Zp.Zbh d) (Zp.Zbh d).length∧Zc6 (Zsv d) (Zsv d).length
theorem gather {α ρ:Type} {l:List α} (hl:l.length≤1048576) (f:α→List UInt8) {step:List (List UInt8)×Int×Unit→Option ((List (List UInt8)×Int×Unit) ⊕ ρ)} {good:ρ}
    (hs:∀ (k:Nat) (x:α) (o:List (List UInt8)),l[k]?=some x→(k:Int)<(l.length:Int)→o.length=k→step (o,(k:Int),())=Zj ((o.length+[f x].length)*16≤140737488355328) (some (.inl (o++[f x],Wq ((k:Int)+1),()))))
    (hx:step (l.map f,(l.length:Int),())=some (.inr good)):ZA step (([]:List (List UInt8)),(0:Int),())=some good:=by
  refine (show ZA step (([]:List (List UInt8)),(0:Int),())=some good from ZgW (l:=l) (fun k=>((l.map f).take k,(k:Int),())) (fun k x hx hk=>?_) ?_)
  · have hn:(l.map f)[k]?=some (f x):=by simp [hx]
    have hlen:((l.map f).take k).length=k:=by rw [List.length_take,List.length_map];omega
    rw [hs k x _ hx (by omega) hlen,ZB (by rw [hlen];simp;omega),JI hn,Zkd (by omega)]
  · have e0:(l.map f).take l.length=l.map f:=by rw [show l.length=(l.map f).length by simp,List.take_length]
    simp only [e0]
    exact hx
/-
  Plain laws: designs.
-/
theorem Zrk {d:Zp} (h:sm ZdN d):sm (.sl ZdO) (Zp.Instances d)∧sm (.sl ZkZ) (Zp.Vk d)∧sm (.sl .str) (Zp.Zbh d):=by
  refine ⟨?_,?_,?_⟩
  · first | exact h.1 | exact h.2.1 | exact h.2.2.1 | exact h.2.2.2.1
  · first | exact h.1 | exact h.2.1 | exact h.2.2.1 | exact h.2.2.2.1
  · first | exact h.1 | exact h.2.1 | exact h.2.2.1 | exact h.2.2.2.1
theorem ZuV {x:Zz} (h:sm ZdO x):sm .str (Zz.Name x)∧sm (.sl (.int .i64)) (Zz.Zbh x):=by
  refine ⟨?_,?_⟩
  · first | exact h.1 | exact h.2.1 | exact h.2.2.1 | exact h.2.2.2.1
  · first | exact h.1 | exact h.2.1 | exact h.2.2.1 | exact h.2.2.2.1
theorem ZAg {x:Zah} (h:sm ZkZ x):sm .str (Zah.Name x):=by
  first | exact h.1 | exact h.2.1 | exact h.2.2.1 | exact h.2.2.2.1
theorem ZuK (d:Zp) (h:sm ZdN d):Zrf d=some (tr (ZvN d)):=by
  obtain ⟨h1,h2,h3⟩:=Zrk h
  have s1:=Zo9 h1
  have s2:=Zo9 h2
  have s3:=Zo9 h3
  unfold Zrf
  refine gather (l:=Zp.Instances d) s1 Zz.Name (fun k x o hx hk ho=>?_) ?_
  · simp only [Zq3,hk,if_true,VU,hx,Bq]
  simp only [Zq3,Int.lt_irrefl,if_false]
  have hi:(ZpY d).length=(Zp.Instances d).length:=by simp [ZpY]
  have hp:(Zsv d).length=(Zp.Vk d).length:=by simp [Zsv]
  refine gather (l:=Zp.Vk d) s2 Zah.Name (fun k x o hx hk ho=>?_) ?_
  · simp only [Zq2,hk,if_true,VU,hx,Bq]
  simp only [Zq2,Int.lt_irrefl,if_false]
  rw [show List.map Zah.Name (Zp.Vk d)=Zsv d from rfl,show List.map Zz.Name (Zp.Instances d)=ZpY d from rfl]
  simp only [hi,hp,ZcN _ (show (ZpY d).length≤4611686018427387904 by omega),ZcN _ (show (Zsv d).length≤4611686018427387904 by omega),ZcN _ (show (Zp.Zbh d).length≤4611686018427387904 by omega),Bq]
  unfold ZvN
  rw [hi,hp]
  by_cases a:(Zp.Instances d).length≤14
  · rw [if_pos (by omega)]
    by_cases b:(Zp.Zbh d).length≤30
    · rw [if_pos (by omega)]
      by_cases c:(Zp.Vk d).length≤8
      · rw [if_pos (by omega)]
        by_cases e:Zc6 (ZpY d) (Zp.Instances d).length
        · rw [if_pos (ZcF e)]
          by_cases f:Zc6 (Zp.Zbh d) (Zp.Zbh d).length
          · rw [if_pos (ZcF f)]
            congr 3
            exact ZqI ⟨fun q=>⟨a,b,c,e,f,q⟩,fun q=>q.2.2.2.2.2⟩
          · rw [if_neg (by rw [Zag f];simp),Zag (fun q=>f q.2.2.2.2.1)]
        · rw [if_neg (by rw [Zag e];simp),Zag (fun q=>e q.2.2.2.1)]
      · rw [if_neg (by omega),Zag (fun q=>c q.2.2.1)]
    · rw [if_neg (by omega),Zag (fun q=>b q.2.1)]
  · rw [if_neg (by omega),Zag (fun q=>a q.1)]
def ZwM (n:Nat) (s:List Int):List Int:=(List.range n).map (fun (j:Nat)=>((s.countP (fun x=>decide (x=(j:Int))):Nat):Int))
theorem ZuJ (n:Nat) (s:List Int):(ZwM n s).length=n:=by simp [ZwM]
theorem ZxZ (n:Nat):ZwM n []=List.replicate n 0:=by
  apply List.ext_getElem?
  intro i
  simp only [ZwM,List.countP_nil,List.getElem?_map,List.getElem?_replicate,List.getElem?_range]
  by_cases h:i<n
  · simp [h]
  · simp [h]
theorem Zvf {n:Nat} {s:List Int} {j:Nat} (h:j<n):(ZwM n s)[j]?=some ((s.countP (fun x=>decide (x=(j:Int))):Nat):Int):=by
  simp [ZwM,h]
theorem ZAm {n:Nat} {s:List Int} {x:Int} (h0:0≤x) (h1:x<(n:Int)):atI (ZwM n s) x=some ((s.countP (fun y=>decide (y=x)):Nat):Int):=by
  refine Zkf h0 ?_
  rw [Zvf (by omega),show ((x.toNat:Nat):Int)=x by omega]
theorem ZzQ {n:Nat} {s:List Int} {x:Int} (h0:0≤x) (h1:x<(n:Int)):List.set (ZwM n s) (Int.toNat x) (((s.countP (fun y=>decide (y=x)):Nat):Int)+1)=ZwM n (s++[x]):=by
  apply List.ext_getElem?
  intro i
  rw [List.getElem?_set]
  by_cases hi:i<n
  · rw [Zvf hi,Zvf hi,List.countP_append,ZuJ]
    by_cases e:x.toNat=i
    · subst e
      rw [if_pos rfl,if_pos (by omega),show ((x.toNat:Nat):Int)=x by omega]
      simp
    · rw [if_neg e]
      have:¬x=(i:Int):=by omega
      simp [List.countP_cons,this]
  · have h1:(ZwM n s)[i]?=none:=by rw [List.getElem?_eq_none];rw [ZuJ];omega
    have h2:(ZwM n (s++[x]))[i]?=none:=by rw [List.getElem?_eq_none];rw [ZuJ];omega
    rw [h1,h2]
    split
    · split
      · rename_i h3;rw [ZuJ] at h3;omega
      · rfl
    · rfl
theorem Zu2 {n:Nat} {s:List Int} {x:Int} (h0:0≤x) (h1:x<(n:Int)) (hs:s.length≤1048576000) {τ:Type} (F:List Int→Option τ) :
    ((atI (ZwM n s) x).bind fun y=>F (List.set (ZwM n s) (Int.toNat x) (Wq (y+1))))=F (ZwM n (s++[x])):=by
  have h2:=List.countP_le_length (p:=fun y=>decide (y=x)) (l:=s)
  rw [ZAm h0 h1,Bq,XD (by omega) (by omega),ZzQ h0 h1]
def ZpZ (x:Zz):Int:=(Zz.Zbh x).getLastD 0
def Zre (d:Zp) (n:Int):Prop:=0≤n∧n≤((Zp.Zbh d).length:Int)-1
def Zvs (a:ZaF) (d:Zp) (x:Zz):Prop :=
  (0≤Zz.Cell x∧Zz.Cell x≤((ZaF.Cells a).length:Int)-1)∧(∃ c,(ZaF.Cells a)[(Zz.Cell x).toNat]?=some c∧(Zz.Zbh x).length=(QG.ZoY c).length)∧∀ n∈Zz.Zbh x,Zre d n
def Zvv (d:Zp) (p:Zah):Prop:=(1≤Zah.Dir p∧Zah.Dir p≤2)∧Zre d (Zah.Net p)
def Zxg (d:Zp):List Int:=(Zp.Instances d).map ZpZ++((Zp.Vk d).filter (fun p=>decide (Zah.Dir p=1))).map Zah.Net
def ZuA (d:Zp):Prop:=∀ x∈ZwM (Zp.Zbh d).length (Zxg d),x=1
def Zqm (a:ZaF) (d:Zp):Prop:=Zyz a∧ZvN d∧(∀ x∈Zp.Instances d,Zvs a d x)∧(∀ p∈Zp.Vk d,Zvv d p)∧ZuA d
theorem Zvs.last {a:ZaF} {d:Zp} {x:Zz} (h:Zvs a d x) (hl:Zyz a) (hsm:(Zz.Zbh x).length≤1048576):atI (Zz.Zbh x) (Wq (((Zz.Zbh x).length:Int)-1))=some (ZpZ x)∧Zre d (ZpZ x):=by
  obtain ⟨_,⟨c,hc,hn⟩,hall⟩:=h
  have h2:2≤(QG.ZoY c).length:=(hl.2.1 c (List.mem_of_getElem? hc)).2.1.1
  unfold ZpZ
  cases hN:Zz.Zbh x with
  | nil=>rw [hN] at hn;simp at hn;omega
  | cons y r =>
    rw [hN] at hsm
    rw [ZAd hsm (by simp),VU]
    have e:(y::r)[(y::r).length-1]?=some ((y::r).getLastD 0):=by
      rw [←List.getLast?_eq_getElem?,List.getLastD_eq_getLast?,List.getLast?_cons];rfl
    exact ⟨e,hall _ (by rw [hN];exact List.mem_of_getElem? e)⟩
theorem Zsu (d:Zp) (n:Int) (h:sm ZdN d):ZpJ d n=some (tr (Zre d n)):=by
  have s3:=Zo9 (Zrk h).2.2
  unfold ZpJ
  rw [show ZpQ (Zp.Zbh d)=some ((Zp.Zbh d).length:Int) from rfl,Bq,XD (by omega) (by omega)]
  exact Zs4 (ZrR _ _ _)
theorem Zuv (d:Zp) (a:ZaF) (x:Zz) (hd:sm ZdN d) (ha:sm Zc3 a) (hx:sm ZdO x):ZqX d a x=some (tr (Zvs a d x)):=by
  have sa:=Zo9 (Zw1 ha)
  unfold ZqX
  rw [show Zp7 (ZaF.Cells a)=some ((ZaF.Cells a).length:Int) from rfl,Bq,XD (by omega) (by omega)]
  refine Zq1 (P:=(0≤Zz.Cell x∧Zz.Cell x≤((ZaF.Cells a).length:Int)-1)∧Zvs a d x) (ZpR (ZrR _ _ _) (fun hw=>?_)) ⟨fun q=>q.2,fun q=>⟨q.1,q⟩⟩
  obtain ⟨c,hc1,hc2⟩:=Zbn hw.1 (show Zz.Cell x<((ZaF.Cells a).length:Int) by omega)
  rw [hc1,Bq]
  refine Zq1 (P:=((Zz.Zbh x).length:Int)=((QG.ZoY c).length:Int)∧∀ n∈Zz.Zbh x,Zre d n) (ZpF (fun he=>?_)) ?_
  · rw [Zqa (ZpW (ZuV hx).2) (fun n=>!tr (Zre d n)) (fun n _=>by
      unfold ZpX
      show (ZpJ d n).bind _=_
      rw [Zsu d n hd];rfl),Bq]
    refine Zs6 ?_
    rw [Bool.not_eq_true',List.any_eq_false]
    constructor
    · intro q n hn
      have:=q n hn
      simp only [Bool.not_eq_true',Bool.not_eq_false] at this
      exact (Zgv _).1 this
    · intro q n hn
      simp only [Bool.not_eq_true',Bool.not_eq_false]
      exact ZcF (q n hn)
  · constructor
    · rintro ⟨q1,q2⟩;exact ⟨hw,⟨c,hc2,by omega⟩,q2⟩
    · rintro ⟨_,⟨c',q1,q2⟩,q3⟩
      rw [hc2] at q1;injection q1 with q1;subst q1
      exact ⟨by omega,q3⟩
theorem ZyO {d:Zp} {k:Nat} {p:Zah} (hx:(Zp.Vk d)[k]?=some p) (s:List Int) :
    s++(((Zp.Vk d).take (k+1)).filter (fun p=>decide (Zah.Dir p=1))).map Zah.Net=(if Zah.Dir p=1 then (s++(((Zp.Vk d).take k).filter (fun p=>decide (Zah.Dir p=1))).map Zah.Net)++[Zah.Net p] else s++(((Zp.Vk d).take k).filter (fun p=>decide (Zah.Dir p=1))).map Zah.Net):=by
  rw [JI hx,List.filter_append,List.map_append]
  by_cases h:Zah.Dir p=1
  · rw [if_pos h];simp [h]
  · rw [if_neg h];simp [h]
theorem Zzq {d:Zp} (k m:Nat):(((Zp.Instances d).take m).map ZpZ++(((Zp.Vk d).take k).filter (fun p=>decide (Zah.Dir p=1))).map Zah.Net).length≤(Zp.Instances d).length+(Zp.Vk d).length:=by
  have h:=List.length_filter_le (fun p=>decide (Zah.Dir p=1)) ((Zp.Vk d).take k)
  simp only [List.length_append,List.length_map,List.length_take] at h ⊢
  omega
theorem ZwX (a:ZaF) (d:Zp) (ha:sm Zc3 a) (hd:sm ZdN d):ZtS a d=some (tr (Zqm a d)):=by
  obtain ⟨h1,h2,h3⟩:=Zrk hd
  have s1:=Zo9 h1
  have s2:=Zo9 h2
  have s3:=Zo9 h3
  unfold ZtS
  refine Zq1 (P:=Zyz a∧ZvN d∧(Zna (Zp.Instances d) (fun _ x=>Zvs a d x)∧(Zna (Zp.Vk d) (fun _ p=>Zvv d p)∧ZuA d))) (ZpR (Zwx a ha) (fun hL=>ZpR (ZuK d hd) (fun hN=>?_))) (by rw [Ztw,Ztw];exact Iff.rfl)
  rw [ZB (by omega),ZB (by omega),ZB (by omega),ZB (by omega)]
  have:=ZkH (l:=Zp.Instances d) (ρ:=Bool) (fun k=>((k:Int),ZwM (Zp.Zbh d).length (((Zp.Instances d).take k).map ZpZ),())) (fun _ x=>Zvs a d x) (step:=fun v=>ZrI a d v.1 v.2.1) (bad:=false) (good:=tr (Zna (Zp.Vk d) (fun _ p=>Zvv d p)∧ZuA d))
    (fun k x hx hk _=>by
      have hsx:=ZqC h1 hx
      simp only [ZrI,show (k:Int)<((Zp.Instances d).length:Int) from by omega,if_true,VU,hx,Bq,Zuv d a x hd ha hsx]
      constructor
      · intro hh
        obtain ⟨e1,e2⟩:=hh.last hL (Zo9 (ZuV hsx).2)
        rw [if_pos (ZcF hh),e1,Bq,Zu2 e2.1 (by have:=e2.2;omega) (by simp only [List.length_map,List.length_take];omega) (F:=fun o=>some (Sum.inl (Wq ((k:Int)+1),o,()))),JI hx,List.map_append,Zkd (by omega)]
        rfl
      · intro hh;rw [if_neg (by rw [Zag hh];simp)])
    (fun hA=>by
      simp only [ZrI,Int.lt_irrefl,if_false,List.take_length]
      have:=ZkH (l:=Zp.Vk d) (ρ:=Int×List Int×Unit ⊕ Bool) (fun k=>((k:Int),ZwM (Zp.Zbh d).length ((Zp.Instances d).map ZpZ++(((Zp.Vk d).take k).filter (fun p=>decide (Zah.Dir p=1))).map Zah.Net),())) (fun _ p=>Zvv d p) (step:=fun v=>ZqQ d v.1 v.2.1) (bad:=.inr false) (good:=.inr (tr (ZuA d)))
        (fun k p hx hk _=>by
          have hl:=Zzq (d:=d) k (Zp.Instances d).length
          rw [List.take_length] at hl
          simp only [ZqQ,show (k:Int)<((Zp.Vk d).length:Int) from by omega,if_true,VU,hx,Bq,Zsu d _ hd,ZyO hx]
          by_cases d1:Zah.Dir p=1
          · simp only [d1,if_true]
            constructor
            · intro hh
              rw [if_pos (ZcF hh.2),Zu2 hh.2.1 (by have:=hh.2.2;omega) (by omega) (F:=fun o=>some (Sum.inl (Wq ((k:Int)+1),o,()))),Zkd (by omega)]
            · intro hh
              rw [if_neg (by rw [Zag (fun q=>hh ⟨by omega,q⟩)];simp)]
          · simp only [d1,if_false]
            by_cases d2:Zah.Dir p=2
            · simp only [d2,if_true]
              constructor
              · intro hh
                rw [if_pos (ZcF hh.2),Zkd (by omega)]
              · intro hh
                rw [if_neg (by rw [Zag (fun q=>hh ⟨by omega,q⟩)];simp)]
            · simp only [d2,if_false]
              exact ⟨fun hh=>by have:=hh.1;omega,fun _=>trivial⟩)
        (fun _=>by
          simp only [ZqQ,Int.lt_irrefl,if_false,List.take_length]
          rw [ZqS (show Len _ by show List.length _≤_;rw [ZuJ];omega) (fun n=>!decide (n=1)) (fun n _=>rfl),Bq]
          congr 3
          refine (Zya ?_).symm
          rw [Bool.not_eq_true',List.any_eq_false]
          simp only [Bool.not_eq_true',Bool.not_eq_false,decide_eq_true_eq,decide_eq_false_iff_not,Classical.not_not]
          exact Iff.rfl)
      refine (show ZA (fun v=>ZqQ d v.1 v.2.1) ((0:Int),ZwM (Zp.Zbh d).length ((Zp.Instances d).map ZpZ),())=_ from (by simpa using this)).trans ?_
      by_cases hP:Zna (Zp.Vk d) (fun _ p=>Zvv d p)
      · rw [ZjL hP];congr 2;exact ZqI ⟨fun q=>⟨hP,q⟩,fun q=>q.2⟩
      · rw [Zl6 hP,Zag (fun q=>hP q.1)])
  rw [Zv1] at this
  refine Eq.trans ?_ this
  rw [List.take_zero,List.map_nil,ZxZ]
  rfl
/-
  Plain laws: designs by the reference; places.
-/
theorem Zw4 (a:ZaF) (d:Zp) (ha:sm Zc3 a) (hd:sm ZdN d):ZtZ a d=some (tr (Zna (Zp.Instances d) (fun _ x=>Zvs a d x)∧Zna (Zp.Vk d) (fun _ p=>Zvv d p))):=by
  obtain ⟨h1,h2,h3⟩:=Zrk hd
  have s1:=Zo9 h1
  have s2:=Zo9 h2
  have s3:=Zo9 h3
  have sa:=Zo9 (Zw1 ha)
  have e1:Wq (((Zp.Zbh d).length:Int)-1)=((Zp.Zbh d).length:Int)-1:=XD (by omega) (by omega)
  have e2:Wq (((ZaF.Cells a).length:Int)-1)=((ZaF.Cells a).length:Int)-1:=XD (by omega) (by omega)
  unfold ZtZ
  rw [Zrc (ZpW h1) (fun _ x=>Zvs a d x) (bad:=false) (good:=tr (Zna (Zp.Vk d) (fun _ p=>Zvv d p)))
    (fun k x hx hk _=>by
      have hsx:=ZqC h1 hx
      simp only [ZsV,show (k:Int)<((Zp.Instances d).length:Int) from by omega,if_true,VU,hx,Bq,ZrJ,e2]
      by_cases hc:0≤Zz.Cell x∧Zz.Cell x≤((ZaF.Cells a).length:Int)-1
      · obtain ⟨c,hc1,hc2⟩:=Zbn hc.1 (show Zz.Cell x<((ZaF.Cells a).length:Int) by omega)
        rw [if_pos (ZcF hc),hc1,Bq]
        by_cases hp:((Zz.Zbh x).length:Int)=((QG.ZoY c).length:Int)
        · rw [if_pos hp,Zrc (ZpW (ZuV hsx).2) (fun _ n=>Zre d n) (bad:=.inr false) (good:=.inl (Wq ((k:Int)+1),()))
            (fun j n hn hj _=>by
              simp only [ZsT,show (j:Int)<((Zz.Zbh x).length:Int) from by omega,if_true,VU,hn,Bq,ZrJ,e1]
              constructor
              · intro hh;exact if_pos (ZcF hh)
              · intro hh;exact if_neg (fun q=>hh ((Zgv _).1 q)))
            (fun _=>by simp only [ZsT,Int.lt_irrefl,if_false])]
          constructor
          · intro hh;rw [ZjL (Ztw.2 hh.2.2)]
          · intro hh;rw [Zl6 (fun q=>hh ⟨hc,⟨c,hc2,by omega⟩,Ztw.1 q⟩)]
        · rw [if_neg hp]
          refine ⟨fun hh=>?_,fun _=>rfl⟩
          obtain ⟨_,⟨c',q1,q2⟩,_⟩:=hh
          rw [hc2] at q1;injection q1 with q1;subst q1
          exact absurd (by omega) hp
      · rw [if_neg (by rw [Zag hc];simp)]
        exact ⟨fun hh=>absurd hh.1 hc,fun _=>rfl⟩)
    (fun _=>by
      simp only [ZsV,Int.lt_irrefl,if_false]
      rw [Zrc (ZpW h2) (fun _ p=>Zvv d p) (bad:=.inr false) (good:=.inr true)
        (fun k p hx hk _=>by
          simp only [ZsU,show (k:Int)<((Zp.Vk d).length:Int) from by omega,if_true,VU,hx,Bq,ZrJ,e1]
          by_cases hc:1≤Zah.Dir p∧Zah.Dir p≤2
          · rw [if_pos (ZcF hc)]
            constructor
            · intro hh;exact if_pos (ZcF hh.2)
            · intro hh;exact if_neg (fun q=>hh ⟨hc,(Zgv _).1 q⟩)
          · rw [if_neg (by rw [Zag hc];simp)]
            exact ⟨fun hh=>absurd hh.1 hc,fun _=>rfl⟩)
        (fun _=>by simp only [ZsU,Int.lt_irrefl,if_false])]
      congr 1
      by_cases hh:Zna (Zp.Vk d) (fun _ p=>Zvv d p)
      · rw [ZjL hh,ZcF hh]
      · rw [Zl6 hh,Zag hh])]
  rw [Zv1]
theorem ZyW {α:Type} {l:List α} {f:α→List UInt8} (h:∀ x∈l,(f x).length≤4611686018427387904):∀ s∈l.map f,s.length≤4611686018427387904:=by
  intro s hs
  obtain ⟨x,hx,rfl⟩:=List.mem_map.1 hs
  exact h x hx
theorem Zw2 (a:ZaF) (d:Zp) (ha:sm Zc3 a) (hd:sm ZdN d):ZtW a d=some (tr (Zqm a d)):=by
  obtain ⟨h1,h2,h3⟩:=Zrk hd
  have s1:=Zo9 h1
  have s2:=Zo9 h2
  have s3:=Zo9 h3
  unfold ZtW
  refine Zq1 (ZpR (ZwE a ha) (fun hL=>ZuI (fun a1=>ZuI (fun a2=>ZuI (fun a3=>ZpR (Zw4 a d ha hd) (fun hP=>?_))))))
    (P:=Zyz a∧¬(14:Int)<((Zp.Instances d).length:Int)∧¬(30:Int)<((Zp.Zbh d).length:Int)∧¬(8:Int)<((Zp.Vk d).length:Int)∧(Zna (Zp.Instances d) (fun _ x=>Zvs a d x)∧Zna (Zp.Vk d) (fun _ p=>Zvv d p))∧(Zc6 (ZpY d) (ZpY d).length∧Zc6 (Zsv d) (Zsv d).length∧Zc6 (Zp.Zbh d) (Zp.Zbh d).length)∧ZuA d) ?_
  · have hi:(ZpY d).length=(Zp.Instances d).length:=by simp [ZpY]
    have hp:(Zsv d).length=(Zp.Vk d).length:=by simp [Zsv]
    refine gather (l:=Zp.Instances d) s1 Zz.Name (fun k x o hx hk ho=>?_) ?_
    · simp only [ZsP,hk,if_true,VU,hx,Bq]
    simp only [ZsP,Int.lt_irrefl,if_false]
    refine gather (l:=Zp.Vk d) s2 Zah.Name (fun k x o hx hk ho=>?_) ?_
    · simp only [ZsO,hk,if_true,VU,hx,Bq]
    simp only [ZsO,Int.lt_irrefl,if_false]
    rw [show List.map Zah.Name (Zp.Vk d)=Zsv d from rfl,show List.map Zz.Name (Zp.Instances d)=ZpY d from rfl]
    simp only [ZtL (ZpY d) (by omega) (ZyW (fun x hx=>Zve (ZuV (Zy3 h1 hx)).1)),ZtL (Zsv d) (by omega) (ZyW (fun x hx=>Zve (ZAg (Zy3 h2 hx)))),ZtL (Zp.Zbh d) (by omega) (fun s hs=>Zve (Zy3 h3 hs)),Bq]
    by_cases n1:Zc6 (ZpY d) (ZpY d).length
    · rw [if_pos (ZcF n1)]
      by_cases n2:Zc6 (Zsv d) (Zsv d).length
      · rw [if_pos (ZcF n2)]
        by_cases n3:Zc6 (Zp.Zbh d) (Zp.Zbh d).length
        · rw [if_pos (ZcF n3),ZB (by omega),ZB (by omega),ZB (by omega),ZB (by omega)]
          have:=ZgW (l:=Zp.Instances d) (ρ:=(List (List UInt8))×Int×Unit ⊕ ((List (List UInt8))×Int×Unit ⊕ Bool)) (fun k=>((k:Int),ZwM (Zp.Zbh d).length (((Zp.Instances d).take k).map ZpZ),())) (step:=fun v=>ZqU d v.1 v.2.1) (good:=.inr (.inr (tr (ZuA d))))
            (fun k x hx hk=>by
              have hsx:=ZqC h1 hx
              obtain ⟨e1,e2⟩:=(hP.1 k x hx).last hL (Zo9 (ZuV hsx).2)
              simp only [ZqU,show (k:Int)<((Zp.Instances d).length:Int) from by omega,if_true,VU,hx,Bq]
              rw [e1,Bq,Zu2 e2.1 (by have:=e2.2;omega) (by simp only [List.length_map,List.length_take];omega) (F:=fun o=>some (Sum.inl (Wq ((k:Int)+1),o,()))),JI hx,List.map_append,Zkd (by omega)]
              rfl)
            (by
              simp only [ZqU,Int.lt_irrefl,if_false,List.take_length]
              have:=ZgW (l:=Zp.Vk d) (ρ:=Int×List Int×Unit ⊕ ((List (List UInt8))×Int×Unit ⊕ ((List (List UInt8))×Int×Unit ⊕ Bool))) (fun k=>((k:Int),ZwM (Zp.Zbh d).length ((Zp.Instances d).map ZpZ++(((Zp.Vk d).take k).filter (fun p=>decide (Zah.Dir p=1))).map Zah.Net),())) (step:=fun v=>ZqT d v.1 v.2.1) (good:=.inr (.inr (.inr (tr (ZuA d)))))
                (fun k p hx hk=>by
                  have hl:=Zzq (d:=d) k (Zp.Instances d).length
                  rw [List.take_length] at hl
                  have hpo:=hP.2 k p hx
                  simp only [ZqT,show (k:Int)<((Zp.Vk d).length:Int) from by omega,if_true,VU,hx,Bq,ZyO hx]
                  by_cases d1:Zah.Dir p=1
                  · simp only [d1,if_true]
                    rw [Zu2 hpo.2.1 (by have:=hpo.2.2;omega) (by omega) (F:=fun o=>some (Sum.inl (Wq ((k:Int)+1),o,()))),Zkd (by omega)]
                  · simp only [d1,if_false]
                    rw [Zkd (by omega)])
                (by
                  simp only [ZqT,Int.lt_irrefl,if_false,List.take_length]
                  rw [Zrc (l:=ZwM (Zp.Zbh d).length ((Zp.Instances d).map ZpZ++((Zp.Vk d).filter (fun p=>decide (Zah.Dir p=1))).map Zah.Net)) (show List.length _≤_ by rw [ZuJ];omega) (fun _ x=>x=1) (bad:=.inr (.inr (.inr (.inr false)))) (good:=.inr (.inr (.inr (.inr true))))
                    (fun k x hx hk _=>by
                      simp only [ZsN,show (k:Int)<((ZwM (Zp.Zbh d).length ((Zp.Instances d).map ZpZ++((Zp.Vk d).filter (fun p=>decide (Zah.Dir p=1))).map Zah.Net)).length:Int) from by omega,if_true,VU,hx,Bq]
                      constructor
                      · intro hh;rw [if_pos hh]
                      · intro hh;rw [if_neg hh])
                    (fun _=>by simp only [ZsN,Int.lt_irrefl,if_false])]
                  congr 1
                  have e:Zna (ZwM (Zp.Zbh d).length ((Zp.Instances d).map ZpZ++((Zp.Vk d).filter (fun p=>decide (Zah.Dir p=1))).map Zah.Net)) (fun _ x=>x=1)↔ZuA d:=by
                    rw [Ztw];exact Iff.rfl
                  by_cases hh:ZuA d
                  · rw [ZjL (e.2 hh),ZcF hh]
                  · rw [Zl6 (fun q=>hh (e.1 q)),Zag hh])
              refine (show ZA (fun v=>ZqT d v.1 v.2.1) ((0:Int),ZwM (Zp.Zbh d).length ((Zp.Instances d).map ZpZ),())=_ from (by simpa using this)).trans ?_
              rfl)
          rw [List.take_zero,List.map_nil,ZxZ] at this
          refine (show ZA (fun v=>ZqU d v.1 v.2.1) ((0:Int),List.replicate (Zp.Zbh d).length 0,())=_ from this).trans ?_
          congr 3
          exact ZqI ⟨fun q=>⟨⟨n1,n2,n3⟩,q⟩,fun q=>q.2⟩
        · rw [if_neg (by rw [Zag n3];simp),Zag (fun q=>n3 q.1.2.2)]
      · rw [if_neg (by rw [Zag n2];simp),Zag (fun q=>n2 q.1.2.1)]
    · rw [if_neg (by rw [Zag n1];simp),Zag (fun q=>n1 q.1.1)]
  · unfold Zqm ZvN
    rw [Ztw,Ztw]
    constructor
    · rintro ⟨q1,q2,q3,q4,⟨q5,q6⟩,⟨q7,q8,q9⟩,q10⟩
      exact ⟨q1,⟨by omega,by omega,by omega,q7,q9,q8⟩,q5,q6,q10⟩
    · rintro ⟨q1,⟨q2,q3,q4,q7,q9,q8⟩,q5,q6,q10⟩
      exact ⟨q1,by omega,by omega,by omega,⟨q5,q6⟩,⟨q7,q8,q9⟩,q10⟩
/-
  Plain laws: places, sinks, wires.
-/
def cat {α β:Type} (f:Nat→α→List β):Nat→List α→List β
  | _,[]=>[]
  | k,x::r=>f k x++cat f (k+1) r
theorem ZeE {α β:Type} (f:Nat→α→List β):∀ (l r:List α) (m:Nat),cat f m (l++r)=cat f m l++cat f (m+l.length) r
  | [],r,m=>by simp [cat]
  | x::l,r,m=>by
    simp only [List.cons_append,cat,List.length_cons,ZeE f l r,List.append_assoc]
    rw [show m+1+l.length=m+(l.length+1) by omega]
theorem Zkj {α β:Type} {f:Nat→α→List β} {l:List α} {k:Nat} {x:α} (hx:l[k]?=some x):cat f 0 (l.take (k+1))=cat f 0 (l.take k)++f k x:=by
  have hk:=(List.getElem?_eq_some_iff.1 hx).1
  rw [JI hx,ZeE]
  simp only [cat,Nat.zero_add,List.length_take,List.append_nil]
  rw [show min k l.length=k by omega]
theorem Zug {α β:Type} {f:Nat→α→List β} {y:β}:∀ {l:List α} {m:Nat},y∈cat f m l↔∃ (k:Nat) (x:α),l[k]?=some x∧y∈f (m+k) x
  | [],m=>by simp [cat]
  | z::r,m=>by
    simp only [cat,List.mem_append,Zug (l:=r)]
    constructor
    · rintro (h | ⟨k,x,h1,h2⟩)
      · exact ⟨0,z,rfl,h⟩
      · exact ⟨k+1,x,by simpa using h1,by rw [show m+(k+1)=m+1+k by omega];exact h2⟩
    · rintro ⟨k,x,h1,h2⟩
      cases k with
      | zero=>simp at h1;subst h1;exact .inl h2
      | succ k=>exact .inr ⟨k,x,by simpa using h1,by rw [show m+1+k=m+(k+1) by omega];exact h2⟩
theorem Zb1 {α β:Type} {f:Nat→α→List β} {c:Nat}:∀ {l:List α} {m:Nat},(∀ k,∀ x∈l,(f k x).length≤c)→(cat f m l).length≤c*l.length
  | [],m,_=>by simp [cat]
  | z::r,m,h=>by
    simp only [cat,List.length_append,List.length_cons]
    have h1:=h m z (by simp)
    have h2:=Zb1 (f:=f) (l:=r) (m:=m+1) (fun k x hx=>h k x (by simp [hx]))
    rw [Nat.mul_add];omega
theorem ZaG {α β ρ:Type} {l:List α} (f:Nat→α→List β) (acc:List β) {step:List β×Int×Unit→Option ((List β×Int×Unit) ⊕ ρ)} {good:ρ}
    (hs:∀ (k:Nat) (x:α),l[k]?=some x→k<l.length→step (acc++cat f 0 (l.take k),(k:Int),())=some (.inl ((acc++cat f 0 (l.take k))++f k x,((k+1:Nat):Int),())))
    (hx:step (acc++cat f 0 l,(l.length:Int),())=some (.inr good)):ZA step (acc,(0:Int),())=some good:=by
  have:=ZgW (l:=l) (ρ:=ρ) (fun k=>(acc++cat f 0 (l.take k),(k:Int),())) (step:=step) (good:=good) (fun k x hx hk=>by
    rw [hs k x hx hk,Zkj hx,List.append_assoc]) (by simp only [List.take_length];exact hx)
  simpa [cat] using this
abbrev Pl:=Int×Int×Int×Bool×Unit
def ZeJ (i:Nat) (x:Zz):List Pl:=cat (fun j n=>[((i:Int),(j:Int),n,decide ((j:Int)=Wq (((Zz.Zbh x).length:Int)-1)),())]) 0 (Zz.Zbh x)
def ZdA (j:Nat) (p:Zah):List Pl:=[((-1:Int),(j:Int),Zah.Net p,decide (Zah.Dir p=1),())]
def places (d:Zp):List Pl:=cat ZeJ 0 (Zp.Instances d)++cat ZdA 0 (Zp.Vk d)
theorem Zh2 (i:Nat) (x:Zz):(ZeJ i x).length≤(Zz.Zbh x).length:=by
  have:=Zb1 (f:=fun j n=>[((i:Int),(j:Int),n,decide ((j:Int)=Wq (((Zz.Zbh x).length:Int)-1)),())]) (c:=1) (l:=Zz.Zbh x) (m:=0) (fun _ _ _=>by simp)
  simpa [ZeJ] using this
structure Few (d:Zp):Prop where
  insts:(Zp.Instances d).length≤14
  ports:(Zp.Vk d).length≤8
  nets:∀ x∈Zp.Instances d,(Zz.Zbh x).length≤5
theorem Zqm.few {a:ZaF} {d:Zp} (h:Zqm a d):Few d:=by
  refine ⟨h.2.1.1,h.2.1.2.2.1,fun x hx=>?_⟩
  obtain ⟨_,⟨c,hc,hn⟩,_⟩:=h.2.2.1 x hx
  have:=(h.1.2.1 c (List.mem_of_getElem? hc)).2.1.2.1
  omega
theorem Zap {d:Zp} (h:Few d) (k:Nat):(cat ZeJ 0 ((Zp.Instances d).take k)).length≤70:=by
  have:=Zb1 (f:=ZeJ) (c:=5) (l:=(Zp.Instances d).take k) (m:=0) (fun i x hx=>by
    have h1:=Zh2 i x
    have h2:=h.nets x (List.mem_of_mem_take hx)
    omega)
  have h1:=h.insts
  rw [List.length_take] at this
  omega
theorem Zcv {d:Zp} (h:Few d) (k:Nat):(cat ZdA 0 ((Zp.Vk d).take k)).length≤8:=by
  have:=Zb1 (f:=ZdA) (c:=1) (l:=(Zp.Vk d).take k) (m:=0) (fun i x hx=>by simp [ZdA])
  have h1:=h.ports
  rw [List.length_take] at this
  omega
theorem Zck {d:Zp} (h:Few d):(places d).length≤78:=by
  have h1:=Zap h (Zp.Instances d).length
  have h2:=Zcv h (Zp.Vk d).length
  rw [List.take_length] at h1 h2
  unfold places
  rw [List.length_append];omega
theorem Zpj (d:Zp) (h:Few d):Zpt d=some (places d):=by
  have h1:=h.insts
  have h2:=h.ports
  unfold Zpt
  refine ZaG (l:=Zp.Instances d) ZeJ [] (fun k x hx hk=>?_) ?_
  · have hn:=h.nets x (List.mem_of_getElem? hx)
    have hl:=Zap h k
    simp only [List.nil_append,Zrs,show (k:Int)<((Zp.Instances d).length:Int) from by omega,if_true,VU,hx,Bq]
    refine ZaG (l:=Zz.Zbh x) (fun j n=>[((k:Int),(j:Int),n,decide ((j:Int)=Wq (((Zz.Zbh x).length:Int)-1)),())]) _ (fun j n hj hk'=>?_) ?_
    · have hl2:=Zb1 (f:=fun j n=>[((k:Int),(j:Int),n,decide ((j:Int)=Wq (((Zz.Zbh x).length:Int)-1)),())]) (c:=1) (l:=(Zz.Zbh x).take j) (m:=0) (fun _ _ _=>by simp)
      rw [List.length_take] at hl2
      simp only [Zrq,show (j:Int)<((Zz.Zbh x).length:Int) from by omega,if_true,VU,hj,Bq]
      rw [ZB (by rw [List.length_append,List.length_singleton];omega),Zkd (by omega)]
    · simp only [Zrq,Int.lt_irrefl,if_false]
      rw [Zkd (by omega)];rfl
  · have hl:=Zap h (Zp.Instances d).length
    rw [List.take_length] at hl
    simp only [List.nil_append,Zrs,Int.lt_irrefl,if_false]
    refine ZaG (l:=Zp.Vk d) ZdA _ (fun j p hj hk'=>?_) ?_
    · have hl2:=Zcv h j
      simp only [Zrr,show (j:Int)<((Zp.Vk d).length:Int) from by omega,if_true,VU,hj,Bq]
      rw [ZB (by rw [List.length_append,List.length_singleton];omega),Zkd (by omega)];rfl
    · simp only [Zrr,Int.lt_irrefl,if_false];rfl
theorem JF (d:Zp) (h:Few d):YJ d=some (places d):=by
  have h1:=h.insts
  have h2:=h.ports
  unfold YJ
  refine ZaG (l:=Zp.Instances d) ZeJ [] (fun k x hx hk=>?_) ?_
  · have hn:=h.nets x (List.mem_of_getElem? hx)
    have hl:=Zap h k
    simp only [List.nil_append,YZ,show (k:Int)<((Zp.Instances d).length:Int) from by omega,if_true,VU,hx,Bq]
    refine ZaG (l:=Zz.Zbh x) (fun j n=>[((k:Int),(j:Int),n,decide ((j:Int)=Wq (((Zz.Zbh x).length:Int)-1)),())]) _ (fun j n hj hk'=>?_) ?_
    · have hl2:=Zb1 (f:=fun j n=>[((k:Int),(j:Int),n,decide ((j:Int)=Wq (((Zz.Zbh x).length:Int)-1)),())]) (c:=1) (l:=(Zz.Zbh x).take j) (m:=0) (fun _ _ _=>by simp)
      rw [List.length_take] at hl2
      simp only [YW,show (j:Int)<((Zz.Zbh x).length:Int) from by omega,if_true,VU,hj,Bq]
      rw [ZB (by rw [List.length_append,List.length_singleton];omega),Zkd (by omega)]
    · simp only [YW,Int.lt_irrefl,if_false]
      rw [Zkd (by omega)];rfl
  · have hl:=Zap h (Zp.Instances d).length
    rw [List.take_length] at hl
    simp only [List.nil_append,YZ,Int.lt_irrefl,if_false]
    refine ZaG (l:=Zp.Vk d) ZdA _ (fun j p hj hk'=>?_) ?_
    · have hl2:=Zcv h j
      simp only [YX,show (j:Int)<((Zp.Vk d).length:Int) from by omega,if_true,VU,hj,Bq]
      rw [ZB (by rw [List.length_append,List.length_singleton];omega),Zkd (by omega)];rfl
    · simp only [YX,Int.lt_irrefl,if_false];rfl
def Zg9 (net:Int) (i:Nat) (x:Pl):List Int:=if x.2.2.1=net then (if x.2.2.2.1=true then [] else [(i:Int)]) else []
def sinks (d:Zp) (net:Int):List Int:=cat (Zg9 net) 0 (places d)
theorem Zgm (net:Int) (l:List Pl) (m:Nat):(cat (Zg9 net) m l).length≤l.length:=by
  have:=Zb1 (f:=Zg9 net) (c:=1) (l:=l) (m:=m) (fun i x _=>by
    unfold Zg9;split
    · split<;>simp
    · simp)
  omega
theorem Zvn (d:Zp) (net:Int) (h:Few d):Zsh d net=some (sinks d net):=by
  have hp:=Zck h
  unfold Zsh
  rw [Zpj d h,Bq]
  refine ZaG (l:=places d) (Zg9 net) [] (fun k x hx hk=>?_) ?_
  · have hl:=Zgm net ((places d).take k) 0
    rw [List.length_take] at hl
    simp only [List.nil_append,ZrG,show (k:Int)<((places d).length:Int) from by omega,if_true,VU,hx,Bq,Zg9,Zkd (show k≤1048576 by omega)]
    split
    · split
      · rw [List.append_nil]
      · rw [ZB (by
          show (List.length _+1)*8≤_
          have:(cat (Zg9 net) 0 ((places d).take k)).length≤78:=by omega
          omega)]
    · rw [List.append_nil]
  · simp only [List.nil_append,ZrG,Int.lt_irrefl,if_false];rfl
theorem ZcT (d:Zp) (net:Int) (h:Few d):QT d net=some (sinks d net):=by
  have hp:=Zck h
  unfold QT
  rw [JF d h,Bq]
  refine ZaG (l:=places d) (Zg9 net) [] (fun k x hx hk=>?_) ?_
  · have hl:=Zgm net ((places d).take k) 0
    rw [List.length_take] at hl
    simp only [List.nil_append,Xc,show (k:Int)<((places d).length:Int) from by omega,if_true,VU,hx,Bq,Zg9,Zkd (show k≤1048576 by omega)]
    split
    · split
      · rw [List.append_nil]
      · rw [ZB (by
          show (List.length _+1)*8≤_
          have:(cat (Zg9 net) 0 ((places d).take k)).length≤78:=by omega
          omega)]
    · rw [List.append_nil]
  · simp only [List.nil_append,Xc,Int.lt_irrefl,if_false];rfl
def loads (d:Zp):List Int:=((places d).filter (fun x=>!x.2.2.2.1)).map (fun x=>x.2.2.1)
theorem Zxx (net:Int):∀ (l:List Pl) (m:Nat),(cat (Zg9 net) m l).length=((l.filter (fun x=>!x.2.2.2.1)).map (fun x=>x.2.2.1)).countP (fun y=>decide (y=net))
  | [],m=>by simp [cat]
  | x::r,m=>by
    simp only [cat,List.length_append,Zxx net r,Zg9]
    obtain ⟨a,b,n,dr,u⟩:=x
    cases dr
    · by_cases e:n=net
      · simp [e,Nat.add_comm]
      · simp [e]
    · simp
/-
  Plain laws: wires, blocks.
-/
theorem Zv3 {w:QH} (h:sm ZjY w):sm (.sl (.int .i64)) (QH.Parent w)∧sm (.sl (.int .i64)) (QH.Res w)∧sm (.sl (.int .i64)) (QH.Cap w)∧sm (.sl (.int .i64)) (QH.ZnH w):=by
  refine ⟨?_,?_,?_,?_⟩
  all_goals first | exact h.1 | exact h.2.1 | exact h.2.2.1 | exact h.2.2.2.1
theorem Zrd {b:Zv} (h:sm ZjX b):sm Zc3 (Zv.Library b)∧sm ZdN (Zv.Design b)∧sm (.sl ZjY) (Zv.ZlA b):=by
  refine ⟨?_,?_,?_⟩
  all_goals first | exact h.1 | exact h.2.1 | exact h.2.2.1 | exact h.2.2.2.1
def Zw8 (w:QH) (k:Nat) (x:Int):Prop:=(k=0→x=-1∧(QH.Res w)[0]?=some 0)∧(0<k→0≤x∧x≤(k:Int)-1)
def ZrY (w:QH) (s:Int):Prop :=
  (1≤(QH.Parent w).length∧(QH.Parent w).length≤8)∧(QH.Res w).length=(QH.Parent w).length∧(QH.Cap w).length=(QH.Parent w).length∧((QH.ZnH w).length:Int)=s∧
  Zna (QH.Parent w) (Zw8 w)∧ZuY (QH.Res w) 0 1000∧ZuY (QH.Cap w) 0 500∧ZuY (QH.ZnH w) 0 (((QH.Parent w).length:Int)-1)
theorem Zu0 (l:List Int) (lo hi:Int) (hl:l.length≤1048576):Qf l lo hi=some (tr (ZuY l lo hi)):=by
  rw [Zcb l lo hi (by omega)]
  exact Zs6 (ZvP _ _ _)
theorem ZvI (w:QH) (hw:sm ZjY w) (h1:1≤(QH.Parent w).length) (h2:(QH.Res w).length=(QH.Parent w).length):ZsE w=some (tr (Zna (QH.Parent w) (Zw8 w))):=by
  obtain ⟨a1,a2,a3,a4⟩:=Zv3 hw
  have s1:=Zo9 a1
  unfold ZsE
  have hr:(QH.Res w)[0]?=some (QH.Res w)[0]:=List.getElem?_eq_getElem (by omega)
  rw [Zrc (ZpW a1) (Zw8 w) (bad:=false) (good:=true)
    (fun k x hx hk _=>by
      simp only [ZrU,show (k:Int)<((QH.Parent w).length:Int) from by omega,if_true,VU,hx,Bq]
      unfold Zw8
      by_cases hk0:k=0
      · subst hk0
        rw [if_pos (by rfl),show atI (QH.Res w) 0=some (QH.Res w)[0] from hr,hr]
        simp only [Bq,Option.some.injEq]
        rw [if_neg (show ¬(0:Int)<((0:Nat):Int) by omega)]
        constructor
        · intro hh
          obtain ⟨q1,q2⟩:=hh.1 trivial
          rw [if_pos q1,if_pos q2]
        · intro hh
          by_cases q1:x=-1
          · rw [if_pos q1,if_neg (fun q2=>hh ⟨fun _=>⟨q1,q2⟩,fun h=>by omega⟩)]
          · rw [if_neg q1]
      · rw [if_neg (by omega),if_pos (by omega),ZrR,Bq,XD (by omega) (by omega)]
        constructor
        · intro hh;rw [if_pos (ZcF (hh.2 (by omega)))]
        · intro hh;rw [if_neg (fun q=>hh ⟨fun h=>absurd h hk0,fun _=>(Zgv _).1 q⟩)])
    (fun _=>by simp only [ZrU,Int.lt_irrefl,if_false]),Zxw]
theorem Zvw (w:QH) (s:Int) (hw:sm ZjY w):Zub w s=some (tr (ZrY w s)):=by
  obtain ⟨a1,a2,a3,a4⟩:=Zv3 hw
  have s1:=Zo9 a1
  have s2:=Zo9 a2
  have s3:=Zo9 a3
  have s4:=Zo9 a4
  unfold Zub
  simp only [Zrj,Bq,XD (show (-9223372036854775808:Int)≤((QH.Parent w).length:Int)-1 by omega) (by omega)]
  refine Zq1 (ZpR (ZrR _ _ _) (fun q1=>ZpF (fun q2=>ZpF (fun q3=>ZpR (ZvI w hw (by omega) (by omega)) (fun q4=>ZpR (Zu0 _ _ _ s2) (fun q5=>ZpR (Zu0 _ _ _ s3) (fun q6=>ZpF (fun q7=>Zs4 (Zu0 _ _ _ s4))))))))) ?_
  unfold ZrY
  constructor
  · rintro ⟨q1,q2,q3,q4,q5,q6,q7,q8⟩
    exact ⟨⟨by omega,by omega⟩,by omega,by omega,q7,q4,q5,q6,q8⟩
  · rintro ⟨q1,q2,q3,q7,q4,q5,q6,q8⟩
    exact ⟨by omega,by omega,by omega,q4,q5,q6,q7,q8⟩
theorem ZyM {l:List Int} {lo hi:Int}:ZuY l lo hi↔∀ (k:Nat) (x:Int),l[k]?=some x→lo≤x∧x≤hi:=by
  unfold ZuY
  constructor
  · intro h k x hx;exact h x (List.mem_of_getElem? hx)
  · intro h x hx
    obtain ⟨k,hk⟩:=List.mem_iff_getElem?.1 hx
    exact h k x hk
theorem Zuw (w:QH) (s:Int) (hw:sm ZjY w):Zui w s=some (tr (ZrY w s)):=by
  obtain ⟨a1,a2,a3,a4⟩:=Zv3 hw
  have s1:=Zo9 a1
  have s2:=Zo9 a2
  have s3:=Zo9 a3
  have s4:=Zo9 a4
  have e1:Wq (((QH.Parent w).length:Int)-1)=((QH.Parent w).length:Int)-1:=XD (by omega) (by omega)
  unfold Zui
  refine Zq1 (ZuI (fun q1=>ZuI (fun q2=>ZpF (fun q3=>ZpF (fun q4=>ZpF (fun q5=>?_)))))) ?_
    (P:=¬((QH.Parent w).length:Int)<1∧¬(8:Int)<((QH.Parent w).length:Int)∧((QH.Res w).length:Int)=((QH.Parent w).length:Int)∧((QH.Cap w).length:Int)=((QH.Parent w).length:Int)∧((QH.ZnH w).length:Int)=s∧
      (Zna (QH.Parent w) (fun k x=>(∀ c,(QH.Cap w)[k]?=some c→0≤c∧c≤500)∧(∀ r,(QH.Res w)[k]?=some r→0≤r∧r≤1000)∧Zw8 w k x)∧ZuY (QH.ZnH w) 0 (((QH.Parent w).length:Int)-1)))
  · rw [Zrc (ZpW a1) (fun k x=>(∀ c,(QH.Cap w)[k]?=some c→0≤c∧c≤500)∧(∀ r,(QH.Res w)[k]?=some r→0≤r∧r≤1000)∧Zw8 w k x) (bad:=false) (good:=tr (ZuY (QH.ZnH w) 0 (((QH.Parent w).length:Int)-1)))
      (fun k x hx hk _=>by
        have hc:(QH.Cap w)[k]?=some (QH.Cap w)[k]:=List.getElem?_eq_getElem (by omega)
        have hr:(QH.Res w)[k]?=some (QH.Res w)[k]:=List.getElem?_eq_getElem (by omega)
        simp only [Ztu,show (k:Int)<((QH.Parent w).length:Int) from by omega,if_true,VU,hc,hr,hx,Bq,ZrJ,Option.some.injEq,forall_eq']
        generalize (QH.Cap w)[k]=c at hc
        generalize (QH.Res w)[k]=r at hr
        by_cases qc:0≤c∧c≤500
        · rw [if_pos (ZcF qc)]
          by_cases qr:0≤r∧r≤1000
          · rw [if_pos (ZcF qr)]
            unfold Zw8
            by_cases hk0:k=0
            · subst hk0
              rw [if_pos (by rfl),hr]
              simp only [Option.some.injEq]
              rw [if_neg (show ¬(0:Int)<((0:Nat):Int) by omega)]
              constructor
              · rintro ⟨_,_,hh⟩
                obtain ⟨q1,q2⟩:=hh.1 trivial
                rw [if_pos q1,if_pos q2]
              · intro hh
                by_cases q1:x=-1
                · rw [if_pos q1,if_neg (fun q2=>hh ⟨qc,qr,fun _=>⟨q1,q2⟩,fun h=>by omega⟩)]
                · rw [if_neg q1]
            · rw [if_neg (by omega),if_pos (by omega),XD (show (-9223372036854775808:Int)≤(k:Int)-1 by omega) (by omega)]
              constructor
              · intro hh;rw [if_pos (ZcF (hh.2.2.2 (by omega)))]
              · intro hh;rw [if_neg (fun q=>hh ⟨qc,qr,fun h=>absurd h hk0,fun _=>(Zgv _).1 q⟩)]
          · rw [if_neg (fun q=>qr ((Zgv _).1 q))]
            exact ⟨fun hh=>absurd hh.2.1 qr,fun _=>rfl⟩
        · rw [if_neg (fun q=>qc ((Zgv _).1 q))]
          exact ⟨fun hh=>absurd hh.1 qc,fun _=>rfl⟩)
      (fun _=>by
        simp only [Ztu,Int.lt_irrefl,if_false]
        rw [Zrc (ZpW a4) (fun _ x=>0≤x∧x≤((QH.Parent w).length:Int)-1) (bad:=.inr false) (good:=.inr true)
          (fun k x hx hk _=>by
            simp only [Ztt,show (k:Int)<((QH.ZnH w).length:Int) from by omega,if_true,VU,hx,Bq,ZrJ,e1]
            constructor
            · intro hh;rw [if_pos (ZcF hh)]
            · intro hh;rw [if_neg (fun q=>hh ((Zgv _).1 q))])
          (fun _=>by simp only [Ztt,Int.lt_irrefl,if_false])]
        congr 1
        have e:Zna (QH.ZnH w) (fun _ x=>0≤x∧x≤((QH.Parent w).length:Int)-1)↔ZuY (QH.ZnH w) 0 (((QH.Parent w).length:Int)-1):=Ztw
        by_cases hh:ZuY (QH.ZnH w) 0 (((QH.Parent w).length:Int)-1)
        · rw [ZjL (e.2 hh),ZcF hh]
        · rw [Zl6 (fun q=>hh (e.1 q)),Zag hh]),Zv1]
  · unfold ZrY
    rw [ZyM (l:=QH.Res w),ZyM (l:=QH.Cap w)]
    constructor
    · rintro ⟨q1,q2,q3,q4,q5,q6,q7⟩
      refine ⟨⟨by omega,by omega⟩,by omega,by omega,q5,fun k x hx=>(q6 k x hx).2.2,fun k r hr=>?_,fun k c hc=>?_,q7⟩
      · have hk:=(List.getElem?_eq_some_iff.1 hr).1
        exact (q6 k _ (List.getElem?_eq_getElem (by omega))).2.1 r hr
      · have hk:=(List.getElem?_eq_some_iff.1 hc).1
        exact (q6 k _ (List.getElem?_eq_getElem (by omega))).1 c hc
    · rintro ⟨q1,q2,q3,q5,q6,q7,q8,q9⟩
      exact ⟨by omega,by omega,by omega,by omega,q5,fun k x hx=>⟨fun c hc=>q8 k c hc,fun r hr=>q7 k r hr,q6 k x hx⟩,q9⟩
def ZvC (b:Zv):Prop :=
  Zqm (Zv.Library b) (Zv.Design b)∧(Zv.ZlA b).length=(Zp.Zbh (Zv.Design b)).length∧Zna (Zv.ZlA b) (fun k w=>ZrY w ((sinks (Zv.Design b) (k:Int)).length:Int))
theorem Zp0 {a:ZaF} {d:Zp} (h:Zqm a d) {x:Pl} (hx:x∈places d):Zre d x.2.2.1:=by
  unfold places at hx
  rcases List.mem_append.1 hx with hx | hx
  · obtain ⟨i,z,hi,hz⟩:=Zug.1 hx
    unfold ZeJ at hz
    obtain ⟨j,n,hj,hn⟩:=Zug.1 hz
    simp only [List.mem_singleton] at hn
    subst hn
    exact (h.2.2.1 z (List.mem_of_getElem? hi)).2.2 n (List.mem_of_getElem? hj)
  · obtain ⟨j,p,hj,hp⟩:=Zug.1 hx
    simp only [ZdA,List.mem_singleton] at hp
    subst hp
    exact (h.2.2.2.1 p (List.mem_of_getElem? hj)).2
theorem Zrz (b:Zv) (hb:sm ZjX b):Zsb b=some (tr (ZvC b)):=by
  obtain ⟨a1,a2,a3⟩:=Zrd hb
  have s3:=Zo9 a3
  unfold Zsb
  refine Zq1 (ZpR (Zw2 _ _ a1 a2) (fun hD=>ZpF (fun q1=>?_))) ?_
    (P:=Zqm (Zv.Library b) (Zv.Design b)∧((Zv.ZlA b).length:Int)=((Zp.Zbh (Zv.Design b)).length:Int)∧Zna (Zv.ZlA b) (fun k w=>ZrY w ((sinks (Zv.Design b) (k:Int)).length:Int)))
  · rw [Zrc (ZpW a3) (fun k w=>ZrY w ((sinks (Zv.Design b) (k:Int)).length:Int)) (bad:=false) (good:=true)
      (fun k w hx hk _=>by
        simp only [Ztg,show (k:Int)<((Zv.ZlA b).length:Int) from by omega,if_true,VU,hx,Bq,ZcT _ _ hD.few,Zuw w _ (ZqC a3 hx)]
        constructor
        · intro hh;rw [if_pos (ZcF hh)]
        · intro hh;rw [if_neg (fun q=>hh ((Zgv _).1 q))])
      (fun _=>by simp only [Ztg,Int.lt_irrefl,if_false]),Zxw]
  · unfold ZvC
    rw [show ((Zv.ZlA b).length:Int)=((Zp.Zbh (Zv.Design b)).length:Int)↔(Zv.ZlA b).length=(Zp.Zbh (Zv.Design b)).length from by omega]
theorem Zzb {l:List Pl} {k:Nat} {x:Pl} (hx:l[k]?=some x) :
    (((l.take (k+1)).filter (fun x=>!x.2.2.2.1)).map (fun x=>x.2.2.1))=if x.2.2.2.1=true then (((l.take k).filter (fun x=>!x.2.2.2.1)).map (fun x=>x.2.2.1)) else (((l.take k).filter (fun x=>!x.2.2.2.1)).map (fun x=>x.2.2.1))++[x.2.2.1]:=by
  rw [JI hx,List.filter_append,List.map_append]
  by_cases h:x.2.2.2.1=true
  · rw [if_pos h];simp [h]
  · rw [if_neg h];simp [h]
theorem Zua (b:Zv) (hb:sm ZjX b):ZtD b=some (tr (ZvC b)):=by
  obtain ⟨a1,a2,a3⟩:=Zrd hb
  have s3:=Zo9 a3
  unfold ZtD
  refine Zq1 (ZpR (ZwX _ _ a1 a2) (fun hD=>ZpF (fun q1=>?_))) ?_
    (P:=Zqm (Zv.Library b) (Zv.Design b)∧((Zv.ZlA b).length:Int)=((Zp.Zbh (Zv.Design b)).length:Int)∧Zna (Zv.ZlA b) (fun k w=>ZrY w ((sinks (Zv.Design b) (k:Int)).length:Int)))
  · rw [ZB (by omega),ZB (by omega),ZB (by omega),ZB (by omega),Zpj _ hD.few,Bq]
    have hpl:=Zck hD.few
    have:=ZgW (l:=places (Zv.Design b)) (ρ:=Bool) (fun k=>((k:Int),ZwM (Zv.ZlA b).length ((((places (Zv.Design b)).take k).filter (fun x=>!x.2.2.2.1)).map (fun x=>x.2.2.1)),())) (step:=fun v=>Zr1 b (places (Zv.Design b)) v.1 v.2.1) (good:=tr (Zna (Zv.ZlA b) (fun k w=>ZrY w ((sinks (Zv.Design b) (k:Int)).length:Int))))
      (fun k x hx hk=>by
        have hn:=Zp0 hD (List.mem_of_getElem? hx)
        have hl1:=List.length_filter_le (fun x:Pl=>!x.2.2.2.1) ((places (Zv.Design b)).take k)
        rw [List.length_take] at hl1
        simp only [Zr1,show (k:Int)<((places (Zv.Design b)).length:Int) from by omega,if_true,VU,hx,Bq,Zzb hx]
        by_cases hd:x.2.2.2.1=true
        · rw [if_pos hd,if_pos hd,Zkd (by omega)]
        · rw [if_neg hd,if_neg hd,Zu2 hn.1 (by have:=hn.2;show x.2.2.1<_;omega) (by rw [List.length_map];omega) (F:=fun o=>some (Sum.inl (Wq ((k:Int)+1),o,()))),Zkd (by omega)])
      (by
        simp only [Zr1,Int.lt_irrefl,if_false,List.take_length]
        rw [Zrc (ZpW a3) (fun k w=>ZrY w ((sinks (Zv.Design b) (k:Int)).length:Int)) (bad:=.inr false) (good:=.inr true)
          (fun k w hx hk _=>by
            have hc:(sinks (Zv.Design b) (k:Int)).length=_:=Zxx (k:Int) (places (Zv.Design b)) 0
            simp only [Zta,show (k:Int)<((Zv.ZlA b).length:Int) from by omega,if_true,VU,hx,Bq]
            rw [Zvf hk,Bq,Zvw w _ (ZqC a3 hx),Bq,hc]
            constructor
            · intro hh;rw [if_pos (ZcF hh)]
            · intro hh;rw [if_neg (fun q=>hh ((Zgv _).1 q))])
          (fun _=>by simp only [Zta,Int.lt_irrefl,if_false])]
        congr 1
        by_cases hh:Zna (Zv.ZlA b) (fun k w=>ZrY w ((sinks (Zv.Design b) (k:Int)).length:Int))
        · rw [ZjL hh,ZcF hh]
        · rw [Zl6 hh,Zag hh])
    rw [List.take_zero,List.filter_nil,List.map_nil,ZxZ] at this
    exact this
  · unfold ZvC
    rw [show ((Zv.ZlA b).length:Int)=((Zp.Zbh (Zv.Design b)).length:Int)↔(Zv.ZlA b).length=(Zp.Zbh (Zv.Design b)).length from by omega]
structure ZqJ (b:Zv):Prop where
  ok:ZvC b
  sm:sm ZjX b
end Go.Proofs.YtnnbgbgapogckaaGreatDoor
