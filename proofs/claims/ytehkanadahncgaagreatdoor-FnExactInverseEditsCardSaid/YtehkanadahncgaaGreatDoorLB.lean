/-
  Plain laws: lists of numbers, tables.
-/
import Derived.Test.YtehkanadahncgaaGreatDoorLA
namespace Go.Proofs.YtehkanadahncgaaGreatDoor
set_option linter.unusedVariables false
set_option linter.unusedSimpArgs false
open Go Go.Sx
theorem Zd4 {a b:Bool} (h:a=true↔b=true):a=b:=by cases a<;>cases b<;>simp_all
theorem V7 {P Q:Prop} (h:P↔Q):tr P=tr Q:=by rw [propext h]
def Inc (l:List Int):Prop:=∀ (k:Nat) (x y:Int),l[k]?=some x→l[k+1]?=some y→x<y
def ZhG (l:List Int) (lo hi:Int):Prop:=∀ x∈l,lo≤x∧x≤hi
theorem Zjd (l:List Int) (lo hi:Int):allIn l lo hi=true↔ZhG l lo hi:=by
  unfold allIn ZhG
  rw [List.all_eq_true]
  simp only [within_iff]
theorem Zay (l:List Int):YK l=some (l.length:Int):=rfl
theorem Zh9 (l:List Int) (hl:Len l):Js l=some (tr (Inc l)):=by
  unfold Js
  have h4:l.length≤4611686018427387904:=hl
  by_cases h0:l.length=0
  · have:l=[]:=List.eq_nil_of_length_eq_zero h0
    subst this
    rw [ZaG (r:=true) (by rfl)]
    have h0:Inc []:=fun k x y h=>by simp at h
    rw [YQ h0]
  have:=ZqQ (ρ:=Bool) 1 l.length (by omega) h4 (fun k=>∀ x y,l[k-1]?=some x→l[k]?=some y→x<y) (step:=fun v=>Y4 l v.1) (bad:=false) (good:=true)
    (fun k h1 h2 _=>by
      obtain ⟨x,hx⟩:∃ x,l[k-1]?=some x:=⟨_,List.getElem?_eq_getElem (by omega)⟩
      obtain ⟨y,hy⟩:∃ y,l[k]?=some y:=⟨_,List.getElem?_eq_getElem h2⟩
      have e1:IntKind.i64.wrap ((k:Int)-1)=((k-1:Nat):Int):=by rw [Vy (by omega) (by omega)];omega
      simp only [Y4,show (k:Int)<(l.length:Int) from by omega,if_true,e1,Zu,hx,hy,Option.bind_some]
      refine ⟨fun h=>?_,fun h=>?_⟩
      · have:=h x y rfl rfl
        rw [if_neg (by omega)]
      · rw [if_pos]
        rcases Int.lt_or_le x y with h' | h'
        · exact absurd (fun a b ha hb=>by injection ha with ha;injection hb with hb;subst ha;subst hb;exact h') h
        · exact h')
    (fun _=>by simp only [Y4,Int.lt_irrefl,if_false])
  refine (show Zt (fun v=>Y4 l v.1) ((1:Int),())=_ from this).trans ?_
  rw [ZmB]
  congr 1
  refine V7 ⟨fun h k x y hx hy=>?_,fun h j h1 h2 x y hx hy=>?_⟩
  · exact h (k+1) (by omega) (List.getElem?_eq_some_iff.1 hy).1 x y (by simpa using hx) hy
  · exact h (j-1) x y hx (by rw [show j-1+1=j by omega];exact hy)
def Ze6 (l:List Int):Prop:=1≤l.length∧l.length≤4∧ZhG l 0 100000∧Inc l
theorem Ziu (l:List Int) (hl:Len l):ZcU l=some (tr (Ze6 l)):=by
  unfold ZcU
  rw [Zay,Option.bind_some,Zbu,Option.bind_some,Zcj l _ _ hl,Option.bind_some,Zh9 l hl,Option.bind_some]
  have e:tr (Ze6 l)=(within (l.length:Int) 1 4&&allIn l 0 100000&&tr (Inc l)):=by
    refine Zof ?_
    simp only [Bool.and_eq_true,within_iff,Zjd,Vi,Ze6]
    exact ⟨fun ⟨⟨⟨a,b⟩,c⟩,d⟩=>⟨by omega,by omega,c,d⟩,fun ⟨a,b,c,d⟩=>⟨⟨⟨by omega,by omega⟩,c⟩,d⟩⟩
  rw [e]
  cases within (l.length:Int) 1 4<;>cases allIn l 0 100000<;>cases tr (Inc l)<;>rfl
theorem ZhJ (l:List Int) (hl:Len l):ZbV l=some (tr (Ze6 l)):=by
  unfold ZbV
  have h4:l.length≤4611686018427387904:=hl
  rw [Zaz hl (fun k x=>(0≤x∧x≤100000)∧(0<k→∀ y,l[k-1]?=some y→y<x)) (bad:=false) (good:=decide (1≤l.length∧l.length≤4))
    (fun k x hx hk _=>by
      simp only [Zam,show (k:Int)<(l.length:Int) from by omega,if_true,Zu,hx,Option.bind_some,Zdu]
      by_cases hw:within x 0 100000=true
      · rw [if_pos hw]
        by_cases h0:0<k
        · obtain ⟨y,hy⟩:∃ y,l[k-1]?=some y:=⟨_,List.getElem?_eq_getElem (by omega)⟩
          have e1:IntKind.i64.wrap ((k:Int)-1)=((k-1:Nat):Int):=by rw [Vy (by omega) (by omega)];omega
          rw [if_pos (by omega),e1,Zu,hy,Option.bind_some]
          refine ⟨fun h=>?_,fun h=>?_⟩
          · rw [if_neg (by have:=h.2 h0 y rfl;omega)]
          · rw [if_pos]
            rcases Int.lt_or_le y x with h' | h'
            · exact absurd ⟨(within_iff _ _ _).1 hw,fun _ z hz=>by injection hz with hz;subst hz;exact h'⟩ h
            · exact h'
        · rw [if_neg (by omega)]
          exact ⟨fun _=>rfl,fun h=>absurd ⟨(within_iff _ _ _).1 hw,fun h'=>absurd h' h0⟩ h⟩
      · rw [if_neg hw]
        exact ⟨fun h=>absurd ((within_iff _ _ _).2 h.1) hw,fun _=>rfl⟩)
    (fun _=>by
      simp only [Zam,Int.lt_irrefl,if_false]
      by_cases h1:1≤l.length
      · rw [if_pos (by omega)]
        congr 2
        rw [decide_eq_decide];omega
      · rw [if_neg (by omega)]
        simp [h1])]
  congr 1
  refine Zd4 ?_
  rw [Vi]
  by_cases h:Zgc l (fun k x=>(0≤x∧x≤100000)∧(0<k→∀ y,l[k-1]?=some y→y<x))
  · rw [Vu h,decide_eq_true_eq]
    constructor
    · rintro ⟨h1,h2⟩
      refine ⟨h1,h2,fun x hx=>?_,fun k x y hx hy=>?_⟩
      · obtain ⟨k,hk⟩:=List.mem_iff_getElem?.1 hx
        exact (h k x hk).1
      · exact (h (k+1) y hy).2 (by omega) x (by simpa using hx)
    · intro hh
      exact ⟨hh.1,hh.2.1⟩
  · rw [Qs h]
    constructor
    · intro hh;cases hh
    · intro hh
      refine absurd ?_ h
      intro k x hk
      refine ⟨hh.2.2.1 x (List.mem_of_getElem? hk),fun h0 y hy=>?_⟩
      exact hh.2.2.2 (k-1) y x hy (by rw [show k-1+1=k by omega];exact hk)
def Zd9 (t:Zv):Prop:=Ze6 (Zv.ZfN t)∧Ze6 (Zv.Loads t)∧(Zv.Values t).length=(Zv.ZfN t).length*(Zv.Loads t).length∧ZhG (Zv.Values t) (-1000000) 1000000
def ZvD (t:Zv):Prop:=Len (Zv.ZfN t)∧Len (Zv.Loads t)∧Len (Zv.Values t)
theorem Ze6.mul {a b:List Int} (ha:Ze6 a) (hb:Ze6 b):a.length*b.length≤16:=by
  have h1:=ha.2.1
  have h2:=hb.2.1
  calc a.length*b.length≤4*4:=Nat.mul_le_mul h1 h2
    _=16:=rfl
theorem ZqG {a b:List Int} (ha:Ze6 a) (hb:Ze6 b):IntKind.i64.wrap ((a.length:Int)*(b.length:Int))=((a.length*b.length:Nat):Int):=by
  have:=ha.mul hb
  have e:(a.length:Int)*(b.length:Int)=((a.length*b.length:Nat):Int):=by simp
  rw [e,Vy (by omega) (by omega)]
theorem ZlD (t:Zv) (h:ZvD t):Zc1 t=some (tr (Zd9 t)):=by
  unfold Zc1
  rw [Ziu _ h.1,Option.bind_some]
  by_cases h1:Ze6 (Zv.ZfN t)
  · rw [if_pos (YQ h1),Ziu _ h.2.1,Option.bind_some]
    by_cases h2:Ze6 (Zv.Loads t)
    · rw [if_pos (YQ h2),ZqG h1 h2]
      by_cases h3:(Zv.Values t).length=(Zv.ZfN t).length*(Zv.Loads t).length
      · rw [if_pos (by rw [h3]),Zcj _ _ _ h.2.2,Option.bind_some]
        congr 1
        refine Zd4 ?_
        rw [Zjd,Vi]
        exact ⟨fun h4=>⟨h1,h2,h3,h4⟩,fun h4=>h4.2.2.2⟩
      · rw [if_neg (by omega),Yn (fun hh=>h3 hh.2.2.1)]
    · rw [if_neg (by rw [Yn h2];simp),Yn (fun hh=>h2 hh.2.1)]
  · rw [if_neg (by rw [Yn h1];simp),Yn (fun hh=>h1 hh.1)]
theorem Zmr (t:Zv) (h:ZvD t):Zdd t=some (tr (Zd9 t)):=by
  unfold Zdd
  rw [ZhJ _ h.1,Option.bind_some]
  by_cases h1:Ze6 (Zv.ZfN t)
  · rw [if_pos (YQ h1),ZhJ _ h.2.1,Option.bind_some]
    by_cases h2:Ze6 (Zv.Loads t)
    · rw [if_pos (YQ h2),ZqG h1 h2]
      by_cases h3:(Zv.Values t).length=(Zv.ZfN t).length*(Zv.Loads t).length
      · rw [if_pos (by rw [h3]),Zaz h.2.2 (fun k x=>-1000000≤x∧x≤1000000) (bad:=false) (good:=true)
          (fun k x hx hk _=>by
            simp only [Zal,show (k:Int)<((Zv.Values t).length:Int) from by omega,if_true,Zu,hx,Option.bind_some,Zdu,within_iff]
            exact ⟨fun hh=>by rw [if_pos hh],fun hh=>by rw [if_neg hh]⟩)
          (fun _=>by simp only [Zal,Int.lt_irrefl,if_false]),ZmB]
        congr 1
        refine V7 ⟨fun h4=>⟨h1,h2,h3,fun x hx=>?_⟩,fun h4 k x hx=>h4.2.2.2 x (List.mem_of_getElem? hx)⟩
        obtain ⟨k,hk⟩:=List.mem_iff_getElem?.1 hx
        exact h4 k x hk
      · rw [if_neg (by omega),Yn (fun hh=>h3 hh.2.2.1)]
    · rw [if_neg (by rw [Yn h2];simp),Yn (fun hh=>h2 hh.2.1)]
  · rw [if_neg (by rw [Yn h1];simp),Yn (fun hh=>h1 hh.1)]
theorem Zoa (x:Int) (l:List Int) (hl:Len (x::l)):Xv (x::l)=some (l.foldl min x):=by
  unfold Xv
  have h4:(x::l).length≤4611686018427387904:=hl
  have e1:¬(((x::l).length:Int)<1):=by simp only [List.length_cons];omega
  have e2:atI (x::l) (0:Int)=some x:=rfl
  rw [if_neg e1,e2,Option.bind_some]
  refine X3 l.length (fun k v=>v.1=(l.take k).foldl min x∧v.2.1=(((k+1:Nat)):Int)) _ ⟨by simp,rfl⟩ ?_ ?_
  · rintro k ⟨m,i,⟨⟩⟩ hk ⟨hm,hi⟩
    simp only at hm hi
    subst hm;subst hi
    have hx:l[k]?=some l[k]:=List.getElem?_eq_getElem hk
    have hx1:(x::l)[k+1]?=some l[k]:=by simp
    simp only [Y7,Zu,hx1,Option.bind_some,show ((k+1:Nat):Int)<((x::l).length:Int) from by simp;omega,if_true]
    refine .inl ⟨_,rfl,?_,?_⟩
    · rw [YA hx,List.foldl_append];rfl
    · simp only [List.length_cons] at h4
      show IntKind.i64.wrap (((k+1:Nat):Int)+1)=((k+1+1:Nat):Int)
      rw [Vy (by omega) (by omega)];omega
  · rintro ⟨m,i,⟨⟩⟩ ⟨hm,hi⟩
    simp only at hm hi
    subst hm;subst hi
    rw [List.take_length]
    simp only [Y7,show ¬(((l.length+1:Nat):Int)<((x::l).length:Int)) from by simp,if_false]
theorem Zjx (x:Int) (l:List Int):l.foldl min x<0↔x<0∨∃ y∈l,y<0:=by
  induction l generalizing x with
  | nil=>simp
  | cons y r ih =>
    simp only [List.foldl_cons,ih,List.mem_cons,exists_eq_or_imp]
    rw [show min x y<0↔x<0∨y<0 by omega,or_assoc]
def ZeO (l:List Zv) (pos:Bool):Prop:=l.length=2∧∀ t∈l,Zd9 t∧(pos=true→∀ v∈Zv.Values t,0≤v)
theorem Zd9.some {t:Zv} (h:Zd9 t):∃ x l,Zv.Values t=x::l:=by
  have h1:=h.1.1
  have h2:=h.2.1.1
  have h3:=h.2.2.1
  have:1*1≤(Zv.ZfN t).length*(Zv.Loads t).length:=Nat.mul_le_mul h1 h2
  cases hv:Zv.Values t with
  | nil=>rw [hv] at h3;simp at h3;omega
  | cons x l=>exact ⟨x,l,rfl⟩
theorem Zh6 (t:Zv) (pos:Bool) (h:ZvD t):Qb t pos=some (! tr (Zd9 t∧(pos=true→∀ v∈Zv.Values t,0≤v))):=by
  unfold Qb
  rw [ZlD _ h,Option.bind_some]
  by_cases h1:Zd9 t
  · rw [if_pos (YQ h1)]
    cases pos
    · rw [if_neg (by simp),YQ ⟨h1,fun e=>by cases e⟩];rfl
    · obtain ⟨x,l,hv⟩:=h1.some
      have hlen:=h.2.2
      rw [if_pos rfl,hv]
      rw [hv] at hlen
      rw [Zoa x l hlen,Option.bind_some]
      congr 1
      refine Zd4 ?_
      rw [decide_eq_true_eq,Zjx,Bool.not_eq_true',←Bool.not_eq_true,Vi]
      constructor
      · rintro (hh | ⟨y,hy,hh⟩) ⟨_,hall⟩
        · have:=hall rfl x (by simp);omega
        · have:=hall rfl y (by simp [hy]);omega
      · intro hh
        apply Classical.byContradiction
        intro hn
        refine hh ⟨h1,fun _ v hvm=>?_⟩
        rcases List.mem_cons.1 hvm with rfl | hvm
        · exact Int.not_lt.1 fun hlt=>hn (.inl hlt)
        · exact Int.not_lt.1 fun hlt=>hn (.inr ⟨v,hvm,hlt⟩)
  · rw [if_neg (by rw [Yn h1];simp),Yn (fun hh=>h1 hh.1)];rfl
def Zvc (l:List Zv):Prop:=Len l∧∀ t∈l,ZvD t
theorem Zep (l:List Zv) (pos:Bool) (h:Zvc l):Jd l pos=some (tr (ZeO l pos)):=by
  unfold Jd
  by_cases h2:l.length=2
  · rw [if_pos (by omega),Qo h.1 (fun t=>! tr (Zd9 t∧(pos=true→∀ v∈Zv.Values t,0≤v))) (fun t ht=>Zh6 t pos (h.2 t ht)),Option.bind_some]
    congr 1
    refine Zd4 ?_
    rw [Bool.not_eq_true',List.any_eq_false,Vi]
    simp only [Bool.not_eq_true',Bool.not_eq_false,Vi,Bool.not_eq_true]
    exact ⟨fun hh=>⟨h2,hh⟩,fun hh=>hh.2⟩
  · rw [if_neg (by omega),Yn (fun hh=>h2 hh.1)]
end Go.Proofs.YtehkanadahncgaaGreatDoor
/-
  Plain laws: pins, arcs, cells.
-/
namespace Go.Proofs.YtehkanadahncgaaGreatDoor
set_option linter.unusedVariables false
set_option linter.unusedSimpArgs false
open Go Go.Sx
theorem ZhU {α τ ρ:Type} {l:List α} (pk:Nat→τ) (P:Nat→α→Prop) {step:τ→Option (τ ⊕ ρ)} {bad good:ρ}
    (hs:∀ (k:Nat) (x:α),l[k]?=some x→k<l.length→(∀ (j:Nat) (y:α),j<k→l[j]?=some y→P j y)→(P k x→step (pk k)=some (.inl (pk (k+1))))∧(¬P k x→step (pk k)=some (.inr bad)))
    (hx:Zgc l P→step (pk l.length)=some (.inr good)):Zt step (pk 0)=some (sel (Zgc l P) good bad):=by
  refine X3 l.length (fun k v=>v=pk k∧∀ (j:Nat) (y:α),j<k→l[j]?=some y→P j y) _ ⟨rfl,fun j y hj=>by omega⟩ ?_ ?_
  · rintro k v hk ⟨rfl,hS⟩
    have hx:l[k]?=some l[k]:=List.getElem?_eq_getElem hk
    obtain ⟨h1,h2⟩:=hs k _ hx hk hS
    by_cases hP:P k l[k]
    · refine .inl ⟨_,h1 hP,rfl,fun j y hj hy=>?_⟩
      by_cases hjk:j<k
      · exact hS j y hjk hy
      · have:j=k:=by omega
        subst this
        rw [hx] at hy;injection hy with hy;subst hy
        exact hP
    · right
      rw [h2 hP,Qs (fun h=>hP (h k _ hx))]
  · rintro v ⟨rfl,hS⟩
    have hA:Zgc l P:=fun k x hk=>hS k x (List.getElem?_eq_some_iff.1 hk).1 hk
    rw [hx hA,Vu hA]
theorem YH {α τ ρ:Type} {l:List α} (pk:Nat→τ) {step:τ→Option (τ ⊕ ρ)} {good:ρ}
    (hs:∀ (k:Nat) (x:α),l[k]?=some x→k<l.length→step (pk k)=some (.inl (pk (k+1)))) (hx:step (pk l.length)=some (.inr good)):Zt step (pk 0)=some good:=by
  have:=ZhU (l:=l) pk (fun _ _=>True) (step:=step) (bad:=good) (good:=good) (fun k x h1 h2 _=>⟨fun _=>hs k x h1 h2,fun h=>absurd trivial h⟩) (fun _=>hx)
  rw [this,Vu (show Zgc l (fun _ _=>True) from fun _ _ _=>trivial)]
theorem Zl7 {ρ:Type} (n:Nat) (hn:n≤4611686018427387904) (P:Nat→Prop) {step:Int×Unit→Option ((Int×Unit) ⊕ ρ)} {bad good:ρ}
    (hs:∀ k:Nat,k<n→(P k→step ((k:Int),())=some (.inl (IntKind.i64.wrap ((k:Int)+1),())))∧(¬P k→step ((k:Int),())=some (.inr bad)))
    (hx:(∀ j,j<n→P j)→step ((n:Int),())=some (.inr good)):Zt step ((0:Int),())=some (sel (∀ j,j<n→P j) good bad):=by
  have:=ZqQ (ρ:=ρ) 0 n (by omega) hn P (step:=step) (bad:=bad) (good:=good) (fun k _ h _=>hs k h) (fun h=>hx (fun j hj=>h j (by omega) hj))
  refine (show Zt step ((0:Int),())=_ from this).trans ?_
  congr 1
  have e:(∀ j,0≤j→j<n→P j)↔(∀ j,j<n→P j):=⟨fun h j hj=>h j (by omega) hj,fun h j _ hj=>h j hj⟩
  rw [propext e]
theorem XD {t:Ty} {l:List t.den} (h:sm (.sl t) l):Len l:=by
  have h1:(l.length:Int)≤1048576:=h.1
  show l.length≤4611686018427387904
  omega
theorem Zhk {s:List UInt8} (h:sm .str s):s.length≤4611686018427387904:=by
  have h1:(s.length:Int)≤1048576:=h
  omega
theorem ZqU {t:Ty} {l:List t.den} (h:sm (.sl t) l) {x:t.den} (hx:x∈l):sm t x:=h.2 x hx
theorem Jz {t:Ty} {l:List t.den} (h:sm (.sl t) l) {k:Nat} {x:t.den} (hx:l[k]?=some x):sm t x:=h.2 x (List.mem_of_getElem? hx)
theorem Zm {t:Ty} {l:List t.den} (h:sm (.sl t) l):l.length≤1048576:=by
  have h1:(l.length:Int)≤1048576:=h.1
  omega
theorem Zrf {t:Zv} (h:sm YP t):ZvD t:=⟨XD (t:=.int .i64) h.1,XD (t:=.int .i64) h.2.1,XD (t:=.int .i64) h.2.2.1⟩
theorem ZgG {l:List Zv} (h:sm (.sl YP) l):Zvc l:=⟨XD h,fun t ht=>Zrf (ZqU h ht)⟩
theorem ZiJ (t:Zv) (h:ZvD t):∃ r,J6 t=some r∧(Zd9 t→r.2=0∧(r.1.1<0↔∃ v∈Zv.Values t,v<0))∧(¬Zd9 t→r.2=1):=by
  unfold J6
  rw [Zmr _ h,Option.bind_some]
  by_cases h1:Zd9 t
  · rw [if_pos (YQ h1)]
    obtain ⟨x,l,hv⟩:=h1.some
    have h4:(x::l).length≤4611686018427387904:=by rw [←hv];exact h.2.2
    have e2:atI (Zv.Values t) (0:Int)=some x:=by rw [hv];rfl
    rw [e2,Option.bind_some]
    have:=YH (l:=l) (ρ:=Zqg×Int) (fun k=>((((k+1:Nat)):Int),(l.take k).foldl min x,(l.take k).foldl max x,())) (step:=fun v=>XL t v.1 v.2.1 v.2.2.1) (good:=((l.foldl min x,l.foldl max x,()),0))
      (fun k y hy hk=>by
        have hx1:(x::l)[k+1]?=some y:=by simpa using hy
        simp only [List.length_cons] at h4
        simp only [XL,hv,Zu,hx1,Option.bind_some,show ((k+1:Nat):Int)<((x::l).length:Int) from by simp;omega,if_true]
        rw [YA hy,List.foldl_append,List.foldl_append,Vy (by omega) (by omega)]
        rfl)
      (by
        simp only [XL,hv,List.take_length,show ¬(((l.length+1:Nat):Int)<((x::l).length:Int)) from by simp,if_false])
    refine ⟨_,this,fun _=>⟨rfl,?_⟩,fun hn=>absurd h1 hn⟩
    rw [hv]
    refine (Zjx x l).trans ?_
    simp
  · rw [if_neg (by rw [Yn h1];simp)]
    exact ⟨_,rfl,fun hn=>absurd hn h1,fun _=>rfl⟩
theorem Zec (l:List Zv) (pos:Bool) (h:Zvc l):Yx l pos=some (tr (ZeO l pos)):=by
  unfold Yx
  by_cases h2:l.length=2
  · rw [if_pos (by omega),Zaz h.1 (fun k t=>Zd9 t∧(pos=true→∀ v∈Zv.Values t,0≤v)) (bad:=false) (good:=true)
      (fun k t hx hk _=>by
        obtain ⟨r,hr,hr1,hr2⟩:=ZiJ t (h.2 t (List.mem_of_getElem? hx))
        simp only [VZ,show (k:Int)<2 from by omega,if_true,Zu,hx,Option.bind_some,hr]
        by_cases ht:Zd9 t
        · obtain ⟨e1,e2⟩:=hr1 ht
          rw [if_pos e1]
          cases pos
          · simp only [Bool.false_eq_true,if_false]
            exact ⟨fun _=>trivial,fun hn=>absurd ⟨ht,fun e=>by cases e⟩ hn⟩
          · simp only [if_true]
            refine ⟨fun hh=>?_,fun hn=>?_⟩
            · rw [if_neg]
              intro hlt
              obtain ⟨v,hv,hv0⟩:=e2.1 hlt
              have:=hh.2 trivial v hv
              omega
            · rw [if_pos]
              apply Classical.byContradiction
              intro hlt
              refine hn ⟨ht,fun _ v hv=>?_⟩
              exact Int.not_lt.1 fun hv0=>hlt (e2.2 ⟨v,hv,hv0⟩)
        · have e1:=hr2 ht
          rw [if_neg (by rw [e1];decide)]
          exact ⟨fun hh=>absurd hh.1 ht,fun _=>rfl⟩)
      (fun _=>by simp only [VZ,h2];rfl),ZmB]
    congr 1
    refine V7 ⟨fun hh=>⟨h2,fun t ht=>?_⟩,fun hh k t hk=>hh.2 t (List.mem_of_getElem? hk)⟩
    obtain ⟨k,hk⟩:=List.mem_iff_getElem?.1 ht
    exact hh k t hk
  · rw [if_neg (by omega),Yn (fun hh=>h2 hh.1)]
def ZeK (l:List YB):List (List UInt8):=l.map YB.Name
def Zk8 (l:List YB):Nat:=l.countP (fun p=>YB.Clock p)
def Zo7 (n k:Nat) (p:YB):Prop:=(0≤YB.Cap p∧YB.Cap p≤500)∧(k+1=n→YB.Dir p=2∧YB.Cap p=0∧YB.Clock p=false)∧(k+1<n→YB.Dir p=1)
def Zio (l:List YB):Prop:=2≤l.length∧l.length≤5∧VK (ZeK l) l.length∧Zgc l (Zo7 l.length)
theorem Zl4 (l:List YB) (h:sm (.sl ZcH) l):Zdf l=some (tr (Zio l)):=by
  unfold Zdf
  have hs:=Zm h
  have:=ZhU (l:=l) (ρ:=Bool) (fun k=>((ZeK l).take k,(k:Int),())) (Zo7 l.length) (step:=fun v=>QE l v.1 v.2.1) (bad:=false) (good:=tr (2≤l.length∧l.length≤5∧VK (ZeK l) l.length))
    (fun k p hx hk _=>by
      have hn:(ZeK l)[k]?=some (YB.Name p):=by simp [ZeK,hx]
      have e1:IntKind.i64.wrap ((l.length:Int)-1)=((l.length-1:Nat):Int):=by rw [Vy (by omega) (by omega)];omega
      simp only [QE,show (k:Int)<(l.length:Int) from by omega,if_true,Zu,hx,Option.bind_some,e1]
      rw [Zi (by simp only [List.length_take,List.length_singleton,ZeK,List.length_map];omega),YA hn,Vy (by omega) (by omega)]
      unfold Zo7
      by_cases hlast:(k:Int)=((l.length-1:Nat):Int)
      · rw [if_pos hlast]
        have hk1:k+1=l.length:=by omega
        constructor
        · rintro ⟨_,h2,_⟩
          obtain ⟨a,b,c⟩:=h2 hk1
          rw [if_pos a,if_pos b,if_neg (by rw [c];simp)]
          rfl
        · intro hh
          split
          · split
            · split
              · rfl
              · rename_i a b c
                exact absurd ⟨by omega,fun _=>⟨a,b,by simpa using c⟩,fun h'=>by omega⟩ hh
            · rfl
          · rfl
      · rw [if_neg hlast,Zbu]
        have hk1:k+1<l.length:=by omega
        simp only [Option.bind_some,within_iff]
        constructor
        · rintro ⟨h1,_,h3⟩
          rw [if_pos (h3 hk1),if_pos h1]
          rfl
        · intro hh
          split
          · split
            · rename_i a b
              exact absurd ⟨b,fun h'=>by omega,fun _=>a⟩ hh
            · rfl
          · rfl)
    (fun hA=>by
      have e0:(ZeK l).take l.length=ZeK l:=by rw [show l.length=(ZeK l).length by simp [ZeK],List.take_length]
      simp only [QE,Int.lt_irrefl,if_false,e0,Zbu,Option.bind_some,show QN l=some (l.length:Int) from rfl]
      have hlen:(ZeK l).length=l.length:=by simp [ZeK]
      by_cases hw:within (l.length:Int) 2 5=true
      · rw [if_pos hw,Zbh _ (by rw [hlen];omega),Option.bind_some,hlen]
        rw [within_iff] at hw
        congr 2
        exact V7 ⟨fun hh=>⟨by omega,by omega,hh⟩,fun hh=>hh.2.2⟩
      · rw [if_neg hw,Yn]
        intro hh
        exact hw ((within_iff _ _ _).2 (by omega)))
  refine (show Zt (fun v=>QE l v.1 v.2.1) (([]:List (List UInt8)),(0:Int),())=_ from this).trans ?_
  congr 1
  refine Zd4 ?_
  rw [Vi]
  by_cases hA:Zgc l (Zo7 l.length)
  · rw [Vu hA,Vi]
    exact ⟨fun hh=>⟨hh.1,hh.2.1,hh.2.2,hA⟩,fun hh=>⟨hh.1,hh.2.1,hh.2.2.1⟩⟩
  · rw [Qs hA]
    exact ⟨fun hh=>(by cases hh),fun hh=>absurd hh.2.2.2 hA⟩
end Go.Proofs.YtehkanadahncgaaGreatDoor
/-
  Plain laws: pins by the reference; arcs.
-/
namespace Go.Proofs.YtehkanadahncgaaGreatDoor
set_option linter.unusedVariables false
set_option linter.unusedSimpArgs false
open Go Go.Sx
theorem ZuH {n:Nat} (h:n≤1048576) (h1:1≤n):IntKind.i64.wrap ((n:Int)-1)=((n-1:Nat):Int):=by rw [Vy (by omega) (by omega)];omega
theorem JJ {n:Nat} (h:n≤1048576):IntKind.i64.wrap ((n:Int)+1)=((n+1:Nat):Int):=by rw [Vy (by omega) (by omega)];omega
theorem ZiB {l:List YB} {k:Nat} {s:List UInt8}:s ∉ (ZeK l).take k↔∀ (j:Nat) (q:YB),j<k→l[j]?=some q→YB.Name q≠s:=by
  constructor
  · intro h j q hj hq e
    refine h (List.mem_iff_getElem?.2 ⟨j,?_⟩)
    rw [List.getElem?_take,if_pos hj]
    simp [ZeK,hq,e]
  · intro h hm
    obtain ⟨j,hj⟩:=List.mem_iff_getElem?.1 hm
    rw [List.getElem?_take] at hj
    split at hj
    · rename_i hjk
      simp only [ZeK,List.getElem?_map,Option.map_eq_some_iff] at hj
      obtain ⟨q,hq,e⟩:=hj
      exact h j q hjk hq e
    · cases hj
theorem Zl2 (c:Zh) (h:sm (.sl ZcH) (Zh.YC c)):Zda c=some (sel (Zio (Zh.YC c)) ((Zk8 (Zh.YC c):Int),true) ((0:Int),false)):=by
  unfold Zda
  have hs:=Zm h
  by_cases h2:((Zh.YC c).length:Int)<2
  · rw [if_pos h2,Qs (fun hh=>by have:=hh.1;omega)]
  by_cases h5:(5:Int)<((Zh.YC c).length:Int)
  · rw [if_neg h2,if_pos h5,Qs (fun hh=>by have:=hh.2.1;omega)]
  rw [if_neg h2,if_neg h5]
  have e1:IntKind.i64.wrap (((Zh.YC c).length:Int)-1)=(((Zh.YC c).length-1:Nat):Int):=ZuH hs (by omega)
  have:=ZhU (l:=Zh.YC c) (ρ:=Int×Bool) (fun k=>((((Zh.YC c).take k).countP (fun p=>YB.Clock p):Int),(k:Int),()))
    (fun k p=>(ZaT (YB.Name p)=true∧∀ (j:Nat) (q:YB),j<k→(Zh.YC c)[j]?=some q→YB.Name q≠YB.Name p)∧Zo7 (Zh.YC c).length k p) (step:=fun v=>QD c v.1 v.2.1) (bad:=((0:Int),false)) (good:=((Zk8 (Zh.YC c):Int),true))
    (fun k p hx hk _=>by
      have hcnt:((Zh.YC c).take k).countP (fun p=>YB.Clock p)≤5:=by
        have h1:=List.countP_le_length (p:=fun p=>YB.Clock p) (l:=(Zh.YC c).take k)
        rw [List.length_take] at h1;omega
      have hnext:((Zh.YC c).take (k+1)).countP (fun p=>YB.Clock p)=((Zh.YC c).take k).countP (fun p=>YB.Clock p)+if YB.Clock p=true then 1 else 0:=by
        rw [YA hx,List.countP_append];simp [List.countP_cons]
      have hname:(YB.Name p).length≤4611686018427387904:=Zhk (Jz h hx).1
      have rest:∀ (v:Int),XI c v (k:Int) p (k:Int)=sel (ZaT (YB.Name p)=true∧Zo7 (Zh.YC c).length k p) (some (Sum.inr (Sum.inl (if YB.Clock p=true then IntKind.i64.wrap (v+1) else v,((k+1:Nat):Int),())))) (some (Sum.inr (Sum.inr (0,false)))):=by
        intro v
        simp only [XI,Int.lt_irrefl,if_false,ZdD _ hname,Zdu,Option.bind_some,e1,JJ (show k≤1048576 by omega),within_iff]
        unfold Zo7
        by_cases hn:ZaT (YB.Name p)=true
        · by_cases hcap:0≤YB.Cap p∧YB.Cap p≤500
          · by_cases hlast:k+1=(Zh.YC c).length
            · have e2:(k:Int)=(((Zh.YC c).length-1:Nat):Int):=by omega
              have e3:¬((k:Int)<(((Zh.YC c).length-1:Nat):Int)):=by omega
              have e4:¬(k+1<(Zh.YC c).length):=by omega
              rw [if_pos hn,if_pos hcap,if_pos e2]
              by_cases a:YB.Dir p=2
              · by_cases b:YB.Cap p=0
                · by_cases d:YB.Clock p=true
                  · rw [if_pos a,if_pos b,if_pos d,Qs]
                    rintro ⟨_,_,h',_⟩
                    have:=(h' hlast).2.2
                    rw [d] at this;cases this
                  · rw [if_pos a,if_pos b,if_neg d,if_neg e3,if_neg d,Vu ⟨hn,hcap,fun _=>⟨a,b,by simpa using d⟩,fun h'=>absurd h' e4⟩]
                    simp [d]
                · rw [if_pos a,if_neg b,Qs]
                  rintro ⟨_,_,h',_⟩
                  exact b (h' hlast).2.1
              · rw [if_neg a,Qs]
                rintro ⟨_,_,h',_⟩
                exact a (h' hlast).1
            · have e2:¬(k:Int)=(((Zh.YC c).length-1:Nat):Int):=by omega
              have e3:(k:Int)<(((Zh.YC c).length-1:Nat):Int):=by omega
              have e4:k+1<(Zh.YC c).length:=by omega
              rw [if_pos hn,if_pos hcap,if_neg e2,if_pos e3]
              by_cases a:YB.Dir p=1
              · rw [if_pos a,Vu ⟨hn,hcap,fun h'=>absurd h' hlast,fun _=>a⟩]
                by_cases d:YB.Clock p=true
                · rw [if_pos d,if_pos d]
                · rw [if_neg d,if_neg d]
              · rw [if_neg a,Qs]
                rintro ⟨_,_,_,h'⟩
                exact a (h' e4)
          · rw [if_pos hn,if_neg hcap,Qs (fun hh=>hcap hh.2.1)]
        · rw [if_neg hn,Qs (fun hh=>hn hh.1)]
      have inner:∀ (v:Int) (good:(Int×Int×Unit) ⊕ (Int×Bool)),((∀ (j:Nat) (q:YB),j<k→(Zh.YC c)[j]?=some q→YB.Name q≠YB.Name p)→XI c v (k:Int) p (k:Int)=some (.inr good))→
          Zt (fun v'=>XI c v (k:Int) p v'.1) ((0:Int),())=some (sel (∀ j,j<k→∀ q,(Zh.YC c)[j]?=some q→YB.Name q≠YB.Name p) good (.inr (0,false))):=by
        intro v good hg
        refine Zl7 k (by omega) (fun j=>∀ q,(Zh.YC c)[j]?=some q→YB.Name q≠YB.Name p) (fun j hj=>?_) (fun hh=>hg (fun j q hj hq=>hh j hj q hq))
        obtain ⟨q,hq⟩:∃ q,(Zh.YC c)[j]?=some q:=⟨_,List.getElem?_eq_getElem (by omega)⟩
        simp only [XI,show (j:Int)<(k:Int) from by omega,if_true,Zu,hq,Option.bind_some]
        refine ⟨fun hh=>by rw [if_neg (hh q rfl)],fun hh=>?_⟩
        rw [if_pos]
        apply Classical.byContradiction
        intro hne
        exact hh (fun q' hq'=>by injection hq' with hq';subst hq';exact hne)
      simp only [QD,show (k:Int)<((Zh.YC c).length:Int) from by omega,if_true,Zu,hx,Option.bind_some]
      constructor
      · rintro ⟨⟨a,b⟩,d⟩
        rw [inner _ (.inl (((((Zh.YC c).take (k+1)).countP (fun p=>YB.Clock p):Nat):Int),((k+1:Nat):Int),())) (fun _=>by
          rw [rest,Vu ⟨a,d⟩,hnext]
          by_cases hc:YB.Clock p=true
          · rw [if_pos hc,if_pos hc,JJ (by omega)]
          · rw [if_neg hc,if_neg hc];rfl),Vu (fun j hj q hq=>b j q hj hq)]
      · intro hh
        rw [inner _ (.inr (0,false)) (fun hn=>by
          rw [rest,Qs (fun h'=>hh ⟨⟨h'.1,hn⟩,h'.2⟩)])]
        by_cases hP:∀ j,j<k→∀ q,(Zh.YC c)[j]?=some q→YB.Name q≠YB.Name p
        · rw [Vu hP]
        · rw [Qs hP])
    (fun _=>by simp only [QD,Int.lt_irrefl,if_false,List.take_length];rfl)
  refine (show Zt (fun v=>QD c v.1 v.2.1) ((0:Int),(0:Int),())=_ from this).trans ?_
  congr 1
  have e:Zgc (Zh.YC c) (fun k p=>(ZaT (YB.Name p)=true∧∀ (j:Nat) (q:YB),j<k→(Zh.YC c)[j]?=some q→YB.Name q≠YB.Name p)∧Zo7 (Zh.YC c).length k p)↔Zio (Zh.YC c):=by
    constructor
    · intro hA
      refine ⟨by omega,by omega,fun j s hj hs'=>?_,fun k p hp=>(hA k p hp).2⟩
      simp only [ZeK,List.getElem?_map,Option.map_eq_some_iff] at hs'
      obtain ⟨q,hq,rfl⟩:=hs'
      exact ⟨(hA j q hq).1.1,ZiB.2 (hA j q hq).1.2⟩
    · intro hh k p hp
      have hk:=(List.getElem?_eq_some_iff.1 hp).1
      have hn:=hh.2.2.1 k (YB.Name p) hk (by simp [ZeK,hp])
      exact ⟨⟨hn.1,ZiB.1 hn.2⟩,hh.2.2.2 k p hp⟩
  rw [propext e]
end Go.Proofs.YtehkanadahncgaaGreatDoor
/-
  Plain laws: arcs.
-/
namespace Go.Proofs.YtehkanadahncgaaGreatDoor
set_option linter.unusedVariables false
set_option linter.unusedSimpArgs false
open Go Go.Sx
def Zn5 (l:List YB) (i:Int):Bool:=match l[i.toNat]? with
  | some p=>YB.Clock p
  | none=>false
def Zj4 (c:Zh) (a:ZT):Prop :=
  (0≤ZT.From a∧ZT.From a≤((Zh.YC c).length:Int)-2)∧(0≤ZT.To a∧ZT.To a≤((Zh.YC c).length:Int)-1)∧
  ((ZT.Kind a=1∧Zn5 (Zh.YC c) (ZT.From a)=false∧ZT.To a=((Zh.YC c).length:Int)-1∧(1≤ZT.ZcB a∧ZT.ZcB a≤3)∧ZeO (ZT.Delay a) true∧ZeO (ZT.Zih a) true)∨
   ((ZT.Kind a=2∨ZT.Kind a=3)∧Zn5 (Zh.YC c) (ZT.From a)=true∧ZT.To a=((Zh.YC c).length:Int)-1∧ZT.ZcB a=0∧ZeO (ZT.Delay a) true∧ZeO (ZT.Zih a) true)∨
   ((ZT.Kind a=4∨ZT.Kind a=5)∧Zn5 (Zh.YC c) (ZT.From a)=true∧ZT.To a<((Zh.YC c).length:Int)-1∧Zn5 (Zh.YC c) (ZT.To a)=false∧ZT.ZcB a=0∧ZeO (ZT.Delay a) false∧(ZT.Zih a).length=0))
theorem Zj4.kind {c:Zh} {a:ZT} (h:Zj4 c a):1≤ZT.Kind a∧ZT.Kind a≤5:=by
  rcases h.2.2 with h | h | h
  · have:=h.1;omega
  · have:=h.1;omega
  · have:=h.1;omega
theorem Zwk {P Q:Prop} {m:Option Bool} (hm:m=some (tr Q)):(if tr P=true then m else some false)=some (tr (P∧Q)):=by
  by_cases h:P
  · rw [if_pos (YQ h),hm];congr 1;exact V7 ⟨fun q=>⟨h,q⟩,fun q=>q.2⟩
  · rw [if_neg (by rw [Yn h];simp),Yn (fun q=>h q.1)]
theorem YG {P Q:Prop} {_:Decidable P} {m:Option Bool} (hm:P→m=some (tr Q)):(if P then m else some false)=some (tr (P∧Q)):=by
  by_cases h:P
  · rw [if_pos h,hm h];congr 1;exact V7 ⟨fun q=>⟨h,q⟩,fun q=>q.2⟩
  · rw [if_neg h,Yn (fun q=>h q.1)]
theorem ZgO {P Q:Prop} {_:Decidable P} {m:Option Bool} (hm:¬P→m=some (tr Q)):(if P then some false else m)=some (tr (¬P∧Q)):=by
  by_cases h:P
  · rw [if_pos h,Yn (fun q=>q.1 h)]
  · rw [if_neg h,hm h];congr 1;exact V7 ⟨fun q=>⟨h,q⟩,fun q=>q.2⟩
theorem ZdR {P:Prop} {b:Bool} (h:b=true↔P):some b=some (tr P):=by rw [Zof h]
theorem JZ {m:Option Bool} {P Q:Prop} (h:m=some (tr P)) (hpq:P↔Q):m=some (tr Q):=by rw [h,propext hpq]
theorem Zkk {Q:Prop} (h:¬Q):(some false:Option Bool)=some (tr Q):=by rw [Yn h]
theorem ZdG {P:Prop} {m:Option Bool} (h:m=some (tr P)):(m.bind fun b=>some b)=some (tr P):=by rw [h];rfl
theorem Xj {P Q:Prop} {m m2:Option Bool} (h:m=some (tr P)) (h2:P→m2=some (tr Q)):(m.bind fun b=>if b=true then m2 else some false)=some (tr (P∧Q)):=by
  rw [h,Option.bind_some]
  by_cases hp:P
  · rw [if_pos (YQ hp),h2 hp];congr 1;exact V7 ⟨fun q=>⟨hp,q⟩,fun q=>q.2⟩
  · rw [if_neg (by rw [Yn hp];simp),Yn (fun q=>hp q.1)]
theorem Za0 (n a b:Int):Yd n a b=some (tr (a≤n∧n≤b)):=by rw [Zdu];exact ZdR (within_iff _ _ _)
theorem Zbf (n a b:Int):Yp n a b=some (tr (a≤n∧n≤b)):=by rw [Zbu];exact ZdR (within_iff _ _ _)
theorem Zsv {l:List YB} {i:Int} (h0:0≤i) (h1:i<l.length):∃ p,atI l i=some p∧Zn5 l i=YB.Clock p:=by
  obtain ⟨p,h2,h3⟩:=Zr0 h0 h1
  exact ⟨p,h2,by simp [Zn5,h3]⟩
theorem Znk (c:Zh) (a:ZT) (hp:sm (.sl ZcH) (Zh.YC c)) (hd:sm (.sl YP) (ZT.Delay a)) (hw:sm (.sl YP) (ZT.Zih a)) (h2:2≤(Zh.YC c).length):Zel c a=some (tr (Zj4 c a)):=by
  unfold Zel
  have hs:=Zm hp
  have e1:IntKind.i64.wrap (((Zh.YC c).length:Int)-1)=((Zh.YC c).length:Int)-1:=Vy (by omega) (by omega)
  have e2:IntKind.i64.wrap (((Zh.YC c).length:Int)-1-1)=((Zh.YC c).length:Int)-2:=by rw [Vy (by omega) (by omega)];omega
  rw [e1,e2]
  refine JZ (Xj (Za0 _ _ _) (fun hF=>Xj (Za0 _ _ _) (fun hT=>?_))) (Q:=Zj4 c a) (P:=(0≤ZT.From a∧ZT.From a≤((Zh.YC c).length:Int)-2)∧(0≤ZT.To a∧ZT.To a≤((Zh.YC c).length:Int)-1)∧Zj4 c a) ⟨fun hh=>hh.2.2,fun hh=>⟨hh.1,hh.2.1,hh⟩⟩
  obtain ⟨p,hp1,hp2⟩:=Zsv (l:=Zh.YC c) hF.1 (by omega)
  rw [hp1,Option.bind_some]
  have hdl:=ZgG hd
  have hsl:=ZgG hw
  have tt:∀ b,(Yx (ZT.Delay a) b).bind (fun x=>if x=true then (Yx (ZT.Zih a) b).bind (fun y=>some y) else some false)=some (tr (ZeO (ZT.Delay a) b∧ZeO (ZT.Zih a) b)):=fun b=>Xj (Zec _ _ hdl) (fun _=>ZdG (Zec _ _ hsl))
  have tz:(Yx (ZT.Delay a) false).bind (fun x=>if x=true then some (Decidable.decide (((ZT.Zih a).length:Int)=(0:Int))) else some false)=some (tr (ZeO (ZT.Delay a) false∧(ZT.Zih a).length=0)):=Xj (Zec _ _ hdl) (fun _=>ZdR (by rw [decide_eq_true_eq];omega))
  unfold Zj4
  rw [hp2]
  by_cases k1:ZT.Kind a=1
  · simp only [k1,if_true]
    refine JZ (ZgO (fun hc=>YG (fun hl=>Xj (Za0 _ _ _) (fun _=>tt true)))) ?_
    grind
  by_cases k2:ZT.Kind a=2
  · simp only [k2,if_true,Int.reduceEq,if_false]
    refine JZ (YG (fun hc=>YG (fun hl=>YG (fun _=>tt true)))) ?_
    grind
  by_cases k3:ZT.Kind a=3
  · simp only [k3,if_true,Int.reduceEq,if_false]
    refine JZ (YG (fun hc=>YG (fun hl=>YG (fun _=>tt true)))) ?_
    grind
  have chk:(if YB.Clock p=true then (if ZT.To a<((Zh.YC c).length:Int)-1 then (atI (Zh.YC c) (ZT.To a)).bind (fun x1=>if YB.Clock x1=true then some false else if ZT.ZcB a=0 then (Yx (ZT.Delay a) false).bind (fun x=>if x=true then some (Decidable.decide (((ZT.Zih a).length:Int)=(0:Int))) else some false) else some false) else some false) else some false) =
      some (tr (YB.Clock p=true∧ZT.To a<((Zh.YC c).length:Int)-1∧Zn5 (Zh.YC c) (ZT.To a)=false∧ZT.ZcB a=0∧ZeO (ZT.Delay a) false∧(ZT.Zih a).length=0)):=by
    refine YG (fun _=>YG (fun hl=>?_))
    obtain ⟨q,hq1,hq2⟩:=Zsv (l:=Zh.YC c) hT.1 (by omega)
    rw [hq1,Option.bind_some,hq2]
    refine JZ (ZgO (fun _=>YG (fun _=>tz))) ?_
    simp only [Bool.not_eq_true]
  by_cases k4:ZT.Kind a=4
  · simp only [k4,if_true,Int.reduceEq,if_false]
    refine JZ chk ?_
    grind
  by_cases k5:ZT.Kind a=5
  · simp only [k5,if_true,Int.reduceEq,if_false]
    refine JZ chk ?_
    grind
  · simp only [k1,k2,k3,k4,k5,if_false]
    refine Zkk ?_
    grind
def Zhq (l:List YB):Int:=Zbe (fun p=>YB.Clock p) l
theorem Zjo (c:Zh) (h:sm (.sl ZcH) (Zh.YC c)):ZaC c=some (Zhq (Zh.YC c)):=by
  unfold ZaC
  rw [Q6 (XD h) (fun p=>YB.Clock p) (fun p _=>rfl),Option.bind_some]
  rfl
theorem ZcV (c:Zh) (h:sm (.sl ZcH) (Zh.YC c)):VL c=some (((Zh.YC c).length:Int)-1):=by
  have hs:=Zm h
  show some (IntKind.i64.wrap (((Zh.YC c).length:Int)-1))=_
  rw [Vy (by omega) (by omega)]
theorem ZeV (c:Zh) (i:Int) (h:sm (.sl ZcH) (Zh.YC c)):Q9 c i=some (tr (0≤i∧i≤((Zh.YC c).length:Int)-2)):=by
  have hs:=Zm h
  unfold Q9
  rw [ZcV c h,Option.bind_some,Vy (by omega) (by omega)]
  refine JZ (ZdG (Zbf _ _ _)) ?_
  omega
def Zti (c:Zh) (a:ZT):Prop :=
  ((ZT.Kind a=4∨ZT.Kind a=5)∧ZT.ZcB a=0∧(ZT.Zih a).length=0∧ZeO (ZT.Delay a) false∧ZT.From a=Zhq (Zh.YC c)∧0≤ZT.From a∧(0≤ZT.To a∧ZT.To a≤((Zh.YC c).length:Int)-2)∧ZT.To a≠ZT.From a)∨
  (¬(ZT.Kind a=4∨ZT.Kind a=5)∧ZeO (ZT.Delay a) true∧ZeO (ZT.Zih a) true∧ZT.To a=((Zh.YC c).length:Int)-1∧(0≤ZT.From a∧ZT.From a≤((Zh.YC c).length:Int)-2)∧
    ((ZT.Kind a=1∧Zn5 (Zh.YC c) (ZT.From a)=false∧(1≤ZT.ZcB a∧ZT.ZcB a≤3))∨((ZT.Kind a=2∨ZT.Kind a=3)∧Zn5 (Zh.YC c) (ZT.From a)=true∧ZT.ZcB a=0)))
theorem ZmL (k:Int):Zc7 k=some (tr (k=4∨k=5)):=by
  unfold Zc7
  split
  · rename_i h;rw [YQ (.inl h)]
  · rename_i h
    exact ZdR (by rw [decide_eq_true_eq];omega)
theorem ZnZ (c:Zh) (a:ZT) (hp:sm (.sl ZcH) (Zh.YC c)) (hd:sm (.sl YP) (ZT.Delay a)) (hw:sm (.sl YP) (ZT.Zih a)):ZaD c a=some (tr (Zti c a)):=by
  unfold ZaD
  have hdl:=ZgG hd
  have hsl:=ZgG hw
  rw [ZmL,Option.bind_some]
  by_cases hk:ZT.Kind a=4∨ZT.Kind a=5
  · rw [if_pos (YQ hk)]
    refine JZ (YG (fun _=>YG (fun _=>Xj (Zep _ _ hdl) (fun _=>?_)))) (P:=ZT.ZcB a=0∧((ZT.Zih a).length:Int)=0∧ZeO (ZT.Delay a) false∧(ZT.From a=Zhq (Zh.YC c)∧0≤ZT.From a∧(0≤ZT.To a∧ZT.To a≤((Zh.YC c).length:Int)-2)∧ZT.To a≠ZT.From a)) ?_
    · rw [Zjo c hp,Option.bind_some]
      refine YG (fun _=>YG (fun _=>Xj (ZeV c _ hp) (fun _=>ZdR ?_)))
      rw [Bool.not_eq_true',decide_eq_false_iff_not]
    · unfold Zti
      constructor
      · rintro ⟨x1,x2,x3,x4⟩
        exact .inl ⟨hk,x1,by omega,x3,x4⟩
      · rintro (⟨_,x1,x2,x3,x4⟩ | ⟨x,_⟩)
        · exact ⟨x1,by omega,x3,x4⟩
        · exact absurd hk x
  · rw [if_neg (by rw [Yn hk];simp)]
    refine JZ (Xj (Zep _ _ hdl) (fun _=>Xj (Zep _ _ hsl) (fun _=>?_))) (P:=ZeO (ZT.Delay a) true∧ZeO (ZT.Zih a) true∧(ZT.To a=((Zh.YC c).length:Int)-1∧(0≤ZT.From a∧ZT.From a≤((Zh.YC c).length:Int)-2)∧
      ((ZT.Kind a=1∧Zn5 (Zh.YC c) (ZT.From a)=false∧(1≤ZT.ZcB a∧ZT.ZcB a≤3))∨((ZT.Kind a=2∨ZT.Kind a=3)∧Zn5 (Zh.YC c) (ZT.From a)=true∧ZT.ZcB a=0)))) ?_
    · rw [ZcV c hp,Option.bind_some]
      refine YG (fun _=>Xj (ZeV c _ hp) (fun hF=>?_))
      obtain ⟨p,hp1,hp2⟩:=Zsv (l:=Zh.YC c) hF.1 (by omega)
      rw [hp1,hp2]
      simp only [Option.bind_some]
      by_cases k1:ZT.Kind a=1
      · simp only [k1,if_true]
        refine JZ (ZgO (fun _=>ZdG (Zbf _ _ _))) ?_
        grind
      by_cases k2:ZT.Kind a=2
      · simp only [k2,if_true,Int.reduceEq,if_false]
        refine JZ (YG (fun _=>ZdR (decide_eq_true_iff))) ?_
        grind
      by_cases k3:ZT.Kind a=3
      · simp only [k3,if_true,Int.reduceEq,if_false]
        refine JZ (YG (fun _=>ZdR (decide_eq_true_iff))) ?_
        grind
      · simp only [k1,k2,k3,if_false]
        refine Zkk ?_
        grind
    · unfold Zti
      constructor
      · intro x;exact .inr ⟨hk,x⟩
      · rintro (⟨x,_⟩ | ⟨_,x⟩)
        · exact absurd x hk
        · exact x
end Go.Proofs.YtehkanadahncgaaGreatDoor
/-
  Plain laws: cells and libraries.
-/
namespace Go.Proofs.YtehkanadahncgaaGreatDoor
set_option linter.unusedVariables false
set_option linter.unusedSimpArgs false
open Go Go.Sx
def Zft (o a:ZT):Prop:=ZT.Kind o=ZT.Kind a∧ZT.From o=ZT.From a∧ZT.To o=ZT.To a
def Apart (l:List ZT) (k:Nat) (a:ZT):Prop:=∀ (j:Nat) (o:ZT),j<k→l[j]?=some o→¬Zft o a
structure ZnH (c:Zh):Prop where
  name:(Zh.Name c).length≤4611686018427387904
  pins:sm (.sl ZcH) (Zh.YC c)
  arcs:sm (.sl ZeP) (Zh.Za7 c)
  truth:sm (.sl (.int .i64)) (Zh.Truth c)
theorem ZsN {c:Zh} (h:sm XY c):ZnH c:=⟨Zhk h.1,h.2.2.1,h.2.2.2.1,h.2.2.2.2.1⟩
theorem ZuE {a:ZT} (h:sm ZeP a):sm (.sl YP) (ZT.Delay a)∧sm (.sl YP) (ZT.Zih a):=⟨h.2.2.2.2.1,h.2.2.2.2.2.1⟩
theorem ZjR (o a:ZT):Xb o a=some (tr (Zft o a)):=by
  unfold Xb Zft
  exact YG (fun _=>YG (fun _=>ZdR decide_eq_true_iff))
theorem Zms (c:Zh) (h:ZnH c):Jl c=some (tr ((Zh.Za7 c).length≤8∧Zgc (Zh.Za7 c) (fun k a=>Zti c a∧Apart (Zh.Za7 c) k a))):=by
  unfold Jl
  have hs:=Zm h.arcs
  rw [Zaz (XD h.arcs) (fun k a=>Zti c a∧Apart (Zh.Za7 c) k a) (bad:=false) (good:=decide ((Zh.Za7 c).length≤8))
    (fun k a hx hk _=>by
      obtain ⟨h1,h2⟩:=ZuE (Jz h.arcs hx)
      simp only [QF,show (k:Int)<((Zh.Za7 c).length:Int) from by omega,if_true,Zu,hx,Option.bind_some,ZnZ c a h.pins h1 h2]
      by_cases hA:Zti c a
      · rw [if_pos (YQ hA),Zi (by omega),Zi (by omega)]
        simp only [Int.toNat_natCast,Int.toNat_zero,List.drop_zero,Nat.sub_zero]
        rw [Qr (by show ((Zh.Za7 c).take k).length≤4611686018427387904;rw [List.length_take];omega) (fun o=>tr (Zft o a)) (fun o _=>ZjR o a),Option.bind_some]
        have e:((Zh.Za7 c).take k).any (fun o=>tr (Zft o a))=true↔¬Apart (Zh.Za7 c) k a:=by
          rw [List.any_eq_true]
          constructor
          · rintro ⟨o,ho,hs⟩ hap
            obtain ⟨j,hj⟩:=List.mem_iff_getElem?.1 ho
            rw [List.getElem?_take] at hj
            split at hj
            · rename_i hjk;exact hap j o hjk hj ((Vi _).1 hs)
            · cases hj
          · intro hn
            apply Classical.byContradiction
            intro hno
            refine hn (fun j o hj ho hs=>hno ⟨o,?_,YQ hs⟩)
            exact List.mem_iff_getElem?.2 ⟨j,by rw [List.getElem?_take,if_pos hj];exact ho⟩
        constructor
        · rintro ⟨_,hap⟩;rw [if_neg (fun hh=>e.1 hh hap)]
        · intro hn;rw [if_pos (e.2 (fun hap=>hn ⟨hA,hap⟩))]
      · rw [if_neg (by rw [Yn hA];simp)]
        exact ⟨fun hh=>absurd hh.1 hA,fun _=>rfl⟩)
    (fun _=>by
      simp only [QF,Int.lt_irrefl,if_false]
      congr 2
      rw [decide_eq_decide];omega)]
  congr 1
  refine Zd4 ?_
  rw [Vi]
  by_cases hA:Zgc (Zh.Za7 c) (fun k a=>Zti c a∧Apart (Zh.Za7 c) k a)
  · rw [Vu hA,decide_eq_true_eq];exact ⟨fun h=>⟨h,hA⟩,fun h=>h.1⟩
  · rw [Qs hA];exact ⟨fun h=>(by cases h),fun h=>absurd h.2 hA⟩
def ZoN (c:Zh) (k:Int):Prop:=∃ a∈Zh.Za7 c,ZT.Kind a=k
theorem Zey (c:Zh) (k:Int) (h:ZnH c):QA c k=some (tr (ZoN c k)):=by
  unfold QA
  rw [QV (XD h.arcs) (fun a=>decide (ZT.Kind a=k)) (fun a _=>rfl),Option.bind_some]
  refine ZdR ?_
  rw [List.any_eq_true]
  simp only [decide_eq_true_eq,ZoN]
def ZfD (c:Zh):Prop :=
  (Zh.Kind c=1∧Zk8 (Zh.YC c)=0∧(Zh.Truth c).length=2 ^ ((Zh.YC c).length-1)∧ZhG (Zh.Truth c) 0 1)∨
  (Zh.Kind c=2∧Zk8 (Zh.YC c)=1∧(Zh.Truth c).length=0∧¬ZoN c 1∧(ZoN c 2↔¬ZoN c 3))∨
  (Zh.Kind c=3∧Zk8 (Zh.YC c)=1∧(Zh.Truth c).length=0∧ZoN c 1∧ZoN c 2∧¬ZoN c 3)
theorem ZsU {n:Nat} (h:n≤4):(2:Nat) ^ n≤16:=by
  calc (2:Nat) ^ n≤2 ^ 4:=Nat.pow_le_pow_right (by omega) h
    _=16:=rfl
theorem Zwd {m:Nat} (h:m≤4):IntKind.i64.wrap ((1:Int)*(2:Int) ^ min m (IntKind.bits IntKind.i64))=((2 ^ m:Nat):Int):=by
  have hb:min m (IntKind.bits IntKind.i64)=m:=Nat.min_eq_left (by show m≤64;omega)
  have e:(1:Int)*(2:Int) ^ m=((2 ^ m:Nat):Int):=by simp
  rw [hb,e]
  have h16:=ZsU h
  clear hb e
  generalize 2 ^ m=g at h16 ⊢
  rw [Vy (by omega) (by omega)]
theorem Zle (c:Zh) (h:ZnH c) (hp:Zio (Zh.YC c)):VG c=some (tr (ZfD c)):=by
  unfold VG
  have h2:=hp.1
  have h5:=hp.2.1
  refine (show Zt (fun v=>Y2 c v.1 v.2.1) ((0:Int),(0:Int),())=_ from YH (l:=Zh.YC c) (ρ:=Bool) (fun k=>((((Zh.YC c).take k).countP (fun p=>YB.Clock p):Int),(k:Int),())) (step:=fun v=>Y2 c v.1 v.2.1)
    (fun k p hx hk=>by
      have hcnt:((Zh.YC c).take k).countP (fun p=>YB.Clock p)≤5:=by
        have h1:=List.countP_le_length (p:=fun p=>YB.Clock p) (l:=(Zh.YC c).take k)
        rw [List.length_take] at h1;omega
      have hnext:((Zh.YC c).take (k+1)).countP (fun p=>YB.Clock p)=((Zh.YC c).take k).countP (fun p=>YB.Clock p)+if YB.Clock p=true then 1 else 0:=by
        rw [YA hx,List.countP_append];simp [List.countP_cons]
      simp only [Y2,show (k:Int)<((Zh.YC c).length:Int) from by omega,if_true,Zu,hx,Option.bind_some,hnext]
      by_cases hc:YB.Clock p=true
      · rw [if_pos hc,if_pos hc,JJ (by omega),JJ (by omega)]
      · rw [if_neg hc,if_neg hc,JJ (by omega)];rfl)
    ?_)
  have hout:=ZcV c h.pins
  simp only [Y2,Int.lt_irrefl,if_false,List.take_length,hout,Option.bind_some,show (((Zh.YC c).length:Int)-1).toNat=(Zh.YC c).length-1 from by omega,Zwd (show (Zh.YC c).length-1≤4 by omega)]
  have e00:((Zh.YC c).countP (fun p=>YB.Clock p):Int)=0↔Zk8 (Zh.YC c)=0:=by unfold Zk8;omega
  have e01:((Zh.YC c).countP (fun p=>YB.Clock p):Int)=1↔Zk8 (Zh.YC c)=1:=by unfold Zk8;omega
  unfold ZfD
  by_cases k1:Zh.Kind c=1
  · simp only [k1,if_true]
    by_cases hc:Zk8 (Zh.YC c)=0
    · rw [if_pos (e00.2 hc),Zi (by omega)]
      by_cases ht:(Zh.Truth c).length=2 ^ ((Zh.YC c).length-1)
      · rw [if_pos (by rw [ht]),Zcj _ _ _ (XD h.truth),Option.bind_some]
        congr 2
        refine (Zof ?_).symm
        rw [Zjd]
        exact ⟨fun hh=>.inl ⟨trivial,hc,ht,hh⟩,fun hh=>by grind⟩
      · rw [if_neg (by omega),Yn (by grind)]
    · rw [if_neg (fun hh=>hc (e00.1 hh)),Yn (by grind)]
  by_cases k2:Zh.Kind c=2
  · simp only [k2,if_true,Int.reduceEq,if_false]
    by_cases hc:Zk8 (Zh.YC c)=1
    · rw [if_pos (e01.2 hc)]
      by_cases ht:(Zh.Truth c).length=0
      · rw [if_pos (by omega),Zey c 1 h,Option.bind_some]
        by_cases h1:ZoN c 1
        · rw [if_pos (YQ h1),Yn (by grind)]
        · rw [if_neg (by rw [Yn h1];simp),Zey c 2 h,Zey c 3 h]
          simp only [Option.bind_some]
          congr 2
          refine (Zof ?_).symm
          by_cases a:ZoN c 2<;>by_cases b:ZoN c 3<;>simp only [YQ,Yn,a,b,not_false_eq_true]<;>grind
      · rw [if_neg (by omega),Yn (by grind)]
    · rw [if_neg (fun hh=>hc (e01.1 hh)),Yn (by grind)]
  by_cases k3:Zh.Kind c=3
  · simp only [k3,if_true,Int.reduceEq,if_false]
    by_cases hc:Zk8 (Zh.YC c)=1
    · rw [if_pos (e01.2 hc)]
      by_cases ht:(Zh.Truth c).length=0
      · rw [if_pos (by omega),Zey c 1 h,Option.bind_some]
        by_cases h1:ZoN c 1
        · rw [if_pos (YQ h1),Zey c 2 h,Option.bind_some]
          by_cases h2:ZoN c 2
          · rw [if_pos (YQ h2),Zey c 3 h,Option.bind_some]
            congr 2
            refine (Zof ?_).symm
            rw [Bool.not_eq_true',←Bool.not_eq_true,Vi]
            grind
          · rw [if_neg (by rw [Yn h2];simp),Yn (by grind)]
        · rw [if_neg (by rw [Yn h1];simp),Yn (by grind)]
      · rw [if_neg (by omega),Yn (by grind)]
    · rw [if_neg (fun hh=>hc (e01.1 hh)),Yn (by grind)]
  · simp only [k1,k2,k3,if_false]
    rw [Yn (by grind)]
def ZvS (c:Zh):Prop:=ZaT (Zh.Name c)=true∧Zio (Zh.YC c)∧((Zh.Za7 c).length≤8∧Zgc (Zh.Za7 c) (fun k a=>Zti c a∧Apart (Zh.Za7 c) k a))∧(0≤Zh.Ztj c∧Zh.Ztj c≤100000)∧(0≤Zh.Zid c∧Zh.Zid c≤100000)∧ZfD c
def Zjl (c:Zh):Prop:=ZaT (Zh.Name c)=true∧Zio (Zh.YC c)∧((Zh.Za7 c).length≤8∧Zgc (Zh.Za7 c) (fun k a=>Zj4 c a∧Apart (Zh.Za7 c) k a))∧(0≤Zh.Ztj c∧Zh.Ztj c≤100000)∧(0≤Zh.Zid c∧Zh.Zid c≤100000)∧ZfD c
theorem ZqE {l:List YB} {i j:Nat} {p q:YB} (hij:i<j) (hp:l[i]?=some p) (hq:l[j]?=some q) (cp:YB.Clock p=true) (cq:YB.Clock q=true):2≤Zk8 l:=by
  unfold Zk8
  have e:l.countP (fun p=>YB.Clock p)=(l.take j).countP (fun p=>YB.Clock p)+(l.drop j).countP (fun p=>YB.Clock p):=by rw [←List.countP_append,List.take_append_drop]
  have h1:0<(l.take j).countP (fun p=>YB.Clock p):=List.countP_pos_iff.2 ⟨p,List.mem_iff_getElem?.2 ⟨i,by rw [List.getElem?_take,if_pos hij];exact hp⟩,cp⟩
  have h2:0<(l.drop j).countP (fun p=>YB.Clock p):=List.countP_pos_iff.2 ⟨q,List.mem_iff_getElem?.2 ⟨0,by rw [List.getElem?_drop];exact hq⟩,cq⟩
  omega
theorem Znz {l:List YB} (h:Zk8 l≤1) {i:Int} (h0:0≤i):Zn5 l i=true↔i=Zhq l:=by
  unfold Zhq Zbe Zn5
  constructor
  · intro hc
    split at hc
    · rename_i p hp
      split
      · rename_i j hj
        obtain ⟨hj1,hj2,hj3⟩:=List.findIdx?_eq_some_iff_getElem.1 hj
        have hjg:l[j]?=some l[j]:=List.getElem?_eq_getElem hj1
        rcases Nat.lt_trichotomy i.toNat j with hlt | heq | hlt
        · have:=ZqE hlt hp hjg hc hj2;omega
        · omega
        · have:=ZqE hlt hjg hp hj2 hc;omega
      · rename_i hn
        rw [List.findIdx?_eq_none_iff] at hn
        have:=hn p (List.mem_of_getElem? hp)
        rw [hc] at this;cases this
    · cases hc
  · intro hi
    split at hi
    · rename_i j hj
      obtain ⟨hj1,hj2,hj3⟩:=List.findIdx?_eq_some_iff_getElem.1 hj
      subst hi
      rw [Int.toNat_natCast,List.getElem?_eq_getElem hj1]
      exact hj2
    · omega
theorem ZrB {l:List YB} (h:Zio l):Zn5 l ((l.length:Int)-1)=false:=by
  have h2:=h.1
  have hp:l[l.length-1]?=some l[l.length-1]:=List.getElem?_eq_getElem (by omega)
  have:=((h.2.2.2 _ _ hp).2.1 (by omega)).2.2
  unfold Zn5
  rw [show ((l.length:Int)-1).toNat=l.length-1 by omega,hp]
  exact this
theorem Zsz {c:Zh} (hp:Zio (Zh.YC c)) (hk:Zk8 (Zh.YC c)≤1) (a:ZT):Zti c a↔Zj4 c a:=by
  have h2:=hp.1
  have hF:0≤ZT.From a→(Zn5 (Zh.YC c) (ZT.From a)=true↔ZT.From a=Zhq (Zh.YC c)):=fun h=>Znz hk h
  have hT:0≤ZT.To a→(Zn5 (Zh.YC c) (ZT.To a)=true↔ZT.To a=Zhq (Zh.YC c)):=fun h=>Znz hk h
  have hlast:=ZrB hp
  have hfr:∀ i,Zn5 (Zh.YC c) i=true→i<((Zh.YC c).length:Int):=by
    intro i hi
    unfold Zn5 at hi
    split at hi
    · rename_i p hp'
      have:=(List.getElem?_eq_some_iff.1 hp').1
      omega
    · cases hi
  unfold Zti Zj4
  generalize Zhq (Zh.YC c)=ck at *
  constructor
  · rintro (⟨k,s,sl,td,fc,f0,⟨t0,t1⟩,ne⟩ | ⟨k,td,ts,te,⟨f0,f1⟩,hh⟩)
    · have hclk:=(hF f0).2 fc
      have hnl:ZT.From a≠((Zh.YC c).length:Int)-1:=fun e=>by rw [e,hlast] at hclk;cases hclk
      have:=hfr _ hclk
      refine ⟨⟨f0,by omega⟩,⟨t0,by omega⟩,.inr (.inr ⟨k,hclk,by omega,?_,s,td,sl⟩)⟩
      rw [←Bool.not_eq_true]
      intro hc
      exact ne (((hT t0).1 hc).trans fc.symm)
    · refine ⟨⟨f0,f1⟩,⟨by omega,by omega⟩,?_⟩
      rcases hh with ⟨k1,c1,s1⟩ | ⟨k1,c1,s1⟩
      · exact .inl ⟨k1,c1,te,s1,td,ts⟩
      · exact .inr (.inl ⟨k1,c1,te,s1,td,ts⟩)
  · rintro ⟨⟨f0,f1⟩,⟨t0,t1⟩,(⟨k,c1,te,s,td,ts⟩ | ⟨k,c1,te,s,td,ts⟩ | ⟨k,c1,tl,c2,s,td,sl⟩)⟩
    · exact .inr ⟨by omega,td,ts,te,⟨f0,f1⟩,.inl ⟨k,c1,s⟩⟩
    · exact .inr ⟨by omega,td,ts,te,⟨f0,f1⟩,.inr ⟨k,c1,s⟩⟩
    · refine .inl ⟨k,s,sl,td,(hF f0).1 c1,f0,⟨t0,by omega⟩,fun e=>?_⟩
      rw [e,c1] at c2;cases c2
theorem ZfD.Zk8 {c:Zh} (h:ZfD c):Zk8 (Zh.YC c)≤1:=by
  rcases h with h | h | h
  · have:=h.2.1;omega
  · have:=h.2.1;omega
  · have:=h.2.1;omega
theorem Zt4 (c:Zh):ZvS c↔Zjl c:=by
  unfold ZvS Zjl
  constructor
  · rintro ⟨a,b,⟨c1,d⟩,e,f,g⟩
    exact ⟨a,b,⟨c1,fun k x hx=>⟨(Zsz b g.Zk8 x).1 (d k x hx).1,(d k x hx).2⟩⟩,e,f,g⟩
  · rintro ⟨a,b,⟨c1,d⟩,e,f,g⟩
    exact ⟨a,b,⟨c1,fun k x hx=>⟨(Zsz b g.Zk8 x).2 (d k x hx).1,(d k x hx).2⟩⟩,e,f,g⟩
theorem Zm1 (c:Zh) (h:sm XY c):Zd7 c=some (tr (Zjl c)):=by
  have hc:=ZsN h
  unfold Zd7
  refine JZ (Xj (by rw [ZfP];exact ZdR Iff.rfl) (fun _=>Xj (Zl4 _ hc.pins) (fun hp=>Xj (Zms c hc) (fun _=>Xj (Zbf _ _ _) (fun _=>Xj (Zbf _ _ _) (fun _=>ZdG (Zle c hc hp))))))) ?_
  exact (Zt4 c)
end Go.Proofs.YtehkanadahncgaaGreatDoor
/-
  Plain laws: cells by the reference; libraries.
-/
namespace Go.Proofs.YtehkanadahncgaaGreatDoor
set_option linter.unusedVariables false
set_option linter.unusedSimpArgs false
open Go Go.Sx
def ZeQ (l:List ZT):List Int:=(List.range 6).map (fun (j:Nat)=>((l.countP (fun a=>decide (ZT.Kind a=(j:Int))):Nat):Int))
theorem ZcQ (l:List ZT) {j:Nat} (h:j<6):(ZeQ l)[j]?=some ((l.countP (fun a=>decide (ZT.Kind a=(j:Int))):Nat):Int):=by
  simp [ZeQ,List.getElem?_range h]
theorem Zk6 (c:Zh) (h:ZnH c) (hk:∀ a∈Zh.Za7 c,1≤ZT.Kind a∧ZT.Kind a≤5):Zcl c=some (ZeQ (Zh.Za7 c)):=by
  unfold Zcl
  have hs:=Zm h.arcs
  have h0:List.replicate (Int.toNat (6:Int)) (0:Int)=ZeQ ((Zh.Za7 c).take 0):=by simp [ZeQ];decide
  rw [h0]
  refine YH (l:=Zh.Za7 c) (ρ:=List Int) (fun k=>((k:Int),ZeQ ((Zh.Za7 c).take k),())) (step:=fun v=>Va c v.1 v.2.1)
    (fun k a hx hlt=>?_) (by simp only [Va,Int.lt_irrefl,if_false,List.take_length])
  obtain ⟨k1,k5⟩:=hk a (List.mem_of_getElem? hx)
  have hkn:ZT.Kind a=(((ZT.Kind a).toNat:Nat):Int):=by omega
  have hcnt:∀ j:Nat,((Zh.Za7 c).take k).countP (fun a=>decide (ZT.Kind a=(j:Int)))≤1048576:=by
    intro j
    have h1:=List.countP_le_length (p:=fun a=>decide (ZT.Kind a=(j:Int))) (l:=(Zh.Za7 c).take k)
    rw [List.length_take] at h1;omega
  simp only [Va,show (k:Int)<((Zh.Za7 c).length:Int) from by omega,if_true,Zu,hx,Option.bind_some]
  rw [QY (by omega) (ZcQ _ (show (ZT.Kind a).toNat<6 by omega)),Option.bind_some,JJ (hcnt _),JJ (by omega)]
  congr 3
  rw [Prod.mk.injEq]
  refine ⟨?_,rfl⟩
  apply List.ext_getElem?
  intro j
  by_cases hj:(ZT.Kind a).toNat=j
  · subst hj
    rw [List.getElem?_set_self (by simp [ZeQ];omega),ZcQ _ (by omega),YA hx,List.countP_append]
    congr 2
    rw [List.countP_cons,List.countP_nil]
    simp [←hkn]
  · rw [List.getElem?_set_ne hj]
    by_cases h6:j<6
    · rw [ZcQ _ h6,ZcQ _ h6,YA hx,List.countP_append]
      congr 2
      rw [List.countP_cons,List.countP_nil]
      have:¬ZT.Kind a=(j:Int):=by omega
      simp [this]
    · rw [List.getElem?_eq_none (by simp [ZeQ];omega),List.getElem?_eq_none (by simp [ZeQ];omega)]
theorem ZmA (c:Zh) (j:Nat):0<(Zh.Za7 c).countP (fun a=>decide (ZT.Kind a=(j:Int)))↔ZoN c j:=by
  rw [List.countP_pos_iff]
  simp only [decide_eq_true_eq,ZoN]
theorem ZjV (c:Zh) (h:ZnH c) (hp:Zio (Zh.YC c)) (hk1:Zh.Kind c=1) :
    Zt (fun v=>Jg c ((Zk8 (Zh.YC c):Int),true) v.1) ((0:Int),())=some (.inr (tr (ZfD c))):=by
  have h2:=hp.1
  have h5:=hp.2.1
  have hs:=Zm h.truth
  have e1:IntKind.i64.wrap (((Zh.YC c).length:Int)-1)=((Zh.YC c).length:Int)-1:=Vy (by omega) (by omega)
  have e2:IntKind.u64.wrap (((Zh.YC c).length:Int)-1)=((Zh.YC c).length:Int)-1:=IntWalk.u64_in _ (by omega)
  rw [Zaz (XD h.truth) (fun k x=>0≤x∧x≤1) (bad:=.inr false) (good:=.inr (tr (Zk8 (Zh.YC c)=0∧(Zh.Truth c).length=2 ^ ((Zh.YC c).length-1))))
    (fun k x hx hk _=>by
      simp only [Jg,show (k:Int)<((Zh.Truth c).length:Int) from by omega,if_true,Zu,hx,Option.bind_some,Zdu,within_iff]
      exact ⟨fun hh=>by rw [if_pos hh],fun hh=>by rw [if_neg hh]⟩)
    (fun _=>by
      simp only [Jg,Int.lt_irrefl,if_false,e1,e2]
      by_cases hc:Zk8 (Zh.YC c)=0
      · rw [if_pos (by omega),Zi (by omega),show (((Zh.YC c).length:Int)-1).toNat=(Zh.YC c).length-1 by omega,Zwd (by omega)]
        congr 2
        congr 1
        refine (Zof ?_).symm
        rw [decide_eq_true_eq]
        constructor
        · intro hh;exact ⟨hc,by omega⟩
        · intro hh;rw [hh.2]
      · rw [if_neg (by omega),Yn (fun hh=>hc hh.1)])]
  congr 1
  by_cases hA:Zgc (Zh.Truth c) (fun k x=>0≤x∧x≤1)
  · rw [Vu hA]
    congr 1
    refine V7 ?_
    have hAll:ZhG (Zh.Truth c) 0 1:=fun x hx=>by
      obtain ⟨k,hk⟩:=List.mem_iff_getElem?.1 hx
      exact hA k x hk
    unfold ZfD
    grind
  · rw [Qs hA,Yn]
    intro hh
    rcases hh with hh | hh | hh
    · exact hA (fun k x hk=>hh.2.2.2 x (List.mem_of_getElem? hk))
    · have:=hh.1;omega
    · have:=hh.1;omega
theorem Zm5 (c:Zh) (hsm:sm XY c):Zen c=some (tr (Zjl c)):=by
  have h:=ZsN hsm
  have hs:=Zm h.arcs
  unfold Zen
  rw [Zl2 c h.pins,Option.bind_some]
  by_cases hp':¬Zio (Zh.YC c)
  · rw [Qs hp',Yn (fun hh=>hp' hh.2.1)];rfl
  have hp:=Classical.not_not.1 hp'
  rw [Vu hp]
  simp only [if_true]
  refine JZ (Xj (P:=ZaT (Zh.Name c)=true) (by rw [ZdD _ h.name];exact ZdR Iff.rfl) (fun hn=>ZgO (fun h8=>Xj (Za0 _ _ _) (fun hl=>Xj (Za0 _ _ _) (fun he=>?_))))) (P:=ZaT (Zh.Name c)=true∧¬((8:Int)<((Zh.Za7 c).length:Int))∧(0≤Zh.Ztj c∧Zh.Ztj c≤100000)∧(0≤Zh.Zid c∧Zh.Zid c≤100000)∧(Zgc (Zh.Za7 c) (fun k a=>Zj4 c a∧Apart (Zh.Za7 c) k a)∧ZfD c)) ?_
  · rw [Zaz (XD h.arcs) (fun k a=>Zj4 c a∧Apart (Zh.Za7 c) k a) (bad:=false) (good:=tr (ZfD c))
      (fun k a hx hk _=>by
        obtain ⟨h1,h2⟩:=ZuE (Jz h.arcs hx)
        simp only [ZaP,show (k:Int)<((Zh.Za7 c).length:Int) from by omega,if_true,Zu,hx,Option.bind_some,Znk c a h.pins h1 h2 hp.1]
        have inner:Zt (fun v=>Jh c (k:Int) a v.1) ((0:Int),())=some (sel (∀ j,j<k→∀ o,(Zh.Za7 c)[j]?=some o→¬Zft o a) (.inl (IntKind.i64.wrap ((k:Int)+1),())) (.inr false)):=by
          refine Zl7 k (by omega) (fun j=>∀ o,(Zh.Za7 c)[j]?=some o→¬Zft o a) (fun j hj=>?_) (fun _=>by simp only [Jh,Int.lt_irrefl,if_false])
          obtain ⟨o,ho⟩:∃ o,(Zh.Za7 c)[j]?=some o:=⟨_,List.getElem?_eq_getElem (by omega)⟩
          simp only [Jh,show (j:Int)<(k:Int) from by omega,if_true,Zu,ho,Option.bind_some]
          have e:(∀ o',some o=some o'→¬Zft o' a)↔¬Zft o a:=⟨fun hh=>hh o rfl,fun hh o' ho'=>by injection ho' with ho';subst ho';exact hh⟩
          rw [e]
          unfold Zft
          constructor
          · intro hh
            split
            · split
              · split
                · exact absurd ⟨‹_›,‹_›,‹_›⟩ hh
                · rfl
              · rfl
            · rfl
          · intro hh
            have hh:=Classical.not_not.1 hh
            rw [if_pos hh.1,if_pos hh.2.1,if_pos hh.2.2]
        have eap:Apart (Zh.Za7 c) k a↔(∀ j,j<k→∀ o,(Zh.Za7 c)[j]?=some o→¬Zft o a):=⟨fun hh j hj o ho=>hh j o hj ho,fun hh j o hj ho=>hh j hj o ho⟩
        by_cases hA:Zj4 c a
        · rw [if_pos (YQ hA),inner]
          constructor
          · intro hh;rw [Vu (eap.1 hh.2)]
          · intro hh;rw [Qs (fun h'=>hh ⟨hA,eap.2 h'⟩)]
        · rw [if_neg (by rw [Yn hA];simp)]
          exact ⟨fun hh=>absurd hh.1 hA,fun _=>rfl⟩)
      (fun hA=>by
        have hkinds:=Zk6 c h (fun a ha=>by
          obtain ⟨k,hk⟩:=List.mem_iff_getElem?.1 ha
          exact (hA k a hk).1.kind)
        have g1:atI (ZeQ (Zh.Za7 c)) (1:Int)=some (((Zh.Za7 c).countP (fun a=>decide (ZT.Kind a=((1:Nat):Int))):Nat):Int):=QY (by omega) (ZcQ _ (by omega))
        have g2:atI (ZeQ (Zh.Za7 c)) (2:Int)=some (((Zh.Za7 c).countP (fun a=>decide (ZT.Kind a=((2:Nat):Int))):Nat):Int):=QY (by omega) (ZcQ _ (by omega))
        have g3:atI (ZeQ (Zh.Za7 c)) (3:Int)=some (((Zh.Za7 c).countP (fun a=>decide (ZT.Kind a=((3:Nat):Int))):Nat):Int):=QY (by omega) (ZcQ _ (by omega))
        have c1:=ZmA c 1
        have c2:=ZmA c 2
        have c3:=ZmA c 3
        simp only [ZaP,Int.lt_irrefl,if_false,hkinds,Option.bind_some,g1,g2,g3]
        generalize (Zh.Za7 c).countP (fun a=>decide (ZT.Kind a=((1:Nat):Int)))=n1 at c1 ⊢
        generalize (Zh.Za7 c).countP (fun a=>decide (ZT.Kind a=((2:Nat):Int)))=n2 at c2 ⊢
        generalize (Zh.Za7 c).countP (fun a=>decide (ZT.Kind a=((3:Nat):Int)))=n3 at c3 ⊢
        by_cases k1:Zh.Kind c=1
        · rw [if_pos k1]
          exact ZjV c h hp k1
        rw [if_neg k1]
        have hgoal:∀ (b:Bool),(b=true↔ZfD c)→(some (.inr b):Option ((Int×Unit) ⊕ Bool))=some (.inr (tr (ZfD c))):=fun b hb=>by rw [Zof hb]
        have c1':ZoN c 1↔0<n1:=c1.symm
        have c2':ZoN c 2↔0<n2:=c2.symm
        have c3':ZoN c 3↔0<n3:=c3.symm
        have hKO:ZfD c↔(Zh.Kind c=2∧Zk8 (Zh.YC c)=1∧(Zh.Truth c).length=0∧¬0<n1∧(0<n2↔¬0<n3))∨(Zh.Kind c=3∧Zk8 (Zh.YC c)=1∧(Zh.Truth c).length=0∧0<n1∧0<n2∧¬0<n3):=by
          unfold ZfD
          rw [c1',c2',c3']
          constructor
          · rintro (hh | hh | hh)
            · exact absurd hh.1 k1
            · exact .inl hh
            · exact .inr hh
          · rintro (hh | hh)
            · exact .inr (.inl hh)
            · exact .inr (.inr hh)
        by_cases k2:Zh.Kind c=2
        · rw [if_pos k2]
          split
          · split
            · split
              · rename_i a b d
                refine hgoal _ ?_
                rw [hKO]
                simp only [beq_iff_eq,decide_eq_decide] at d
                constructor
                · intro hh;cases hh
                · intro hh;omega
              · rename_i a b d
                refine hgoal _ ?_
                rw [hKO,decide_eq_true_eq]
                simp only [beq_iff_eq,decide_eq_decide] at d
                omega
            · refine hgoal _ ?_
              rw [hKO]
              constructor
              · intro hh;cases hh
              · intro hh;omega
          · refine hgoal _ ?_
            rw [hKO]
            constructor
            · intro hh;cases hh
            · intro hh;omega
        rw [if_neg k2]
        repeat' split
        all_goals
          refine hgoal _ ?_
          rw [hKO]
          first
            | (rw [decide_eq_true_eq];omega)
            | (constructor
               · intro hh;cases hh
               · intro hh;omega))]
    congr 1
    by_cases hA:Zgc (Zh.Za7 c) (fun k a=>Zj4 c a∧Apart (Zh.Za7 c) k a)
    · rw [Vu hA];exact V7 ⟨fun x=>⟨hA,x⟩,fun x=>x.2⟩
    · rw [Qs hA,Yn (fun x=>hA x.1)]
  · unfold Zjl
    constructor
    · rintro ⟨a,b,c1,d,e,f⟩
      exact ⟨a,hp,⟨by omega,e⟩,c1,d,f⟩
    · rintro ⟨a,b,⟨c1,d⟩,e,f,g⟩
      exact ⟨a,by omega,e,f,d,g⟩
end Go.Proofs.YtehkanadahncgaaGreatDoor
/-
  Plain laws: libraries; names of a design.
-/
namespace Go.Proofs.YtehkanadahncgaaGreatDoor
set_option linter.unusedVariables false
set_option linter.unusedSimpArgs false
open Go Go.Sx
theorem Zq4 {α:Type} {l:List α} {k:Nat} {s:α}:s ∉ l.take k↔∀ (j:Nat) (q:α),j<k→l[j]?=some q→q≠s:=by
  constructor
  · intro h j q hj hq e
    refine h (List.mem_iff_getElem?.2 ⟨j,?_⟩)
    rw [List.getElem?_take,if_pos hj,hq,e]
  · intro h hm
    obtain ⟨j,hj⟩:=List.mem_iff_getElem?.1 hm
    rw [List.getElem?_take] at hj
    split at hj
    · rename_i hjk;exact h j s hjk hj rfl
    · cases hj
theorem Zpn {α:Type} (f:α→List UInt8) (l:List α):VK (l.map f) l.length↔Zgc l (fun k x=>ZaT (f x)=true∧∀ (j:Nat) (q:α),j<k→l[j]?=some q→f q≠f x):=by
  constructor
  · intro h k x hx
    have hk:=(List.getElem?_eq_some_iff.1 hx).1
    obtain ⟨h1,h2⟩:=h k (f x) hk (by simp [hx])
    refine ⟨h1,fun j q hj hq=>Zq4.1 h2 j (f q) hj (by simp [hq])⟩
  · intro h j s hj hs
    simp only [List.getElem?_map,Option.map_eq_some_iff] at hs
    obtain ⟨x,hx,rfl⟩:=hs
    obtain ⟨h1,h2⟩:=h j x hx
    refine ⟨h1,Zq4.2 (fun i q hi hq=>?_)⟩
    simp only [List.getElem?_map,Option.map_eq_some_iff] at hq
    obtain ⟨y,hy,rfl⟩:=hq
    exact h2 i y hi hy
def ZfW (l:List Zh):List (List UInt8):=l.map Zh.Name
def ZpL (a:Zk):Prop:=(Zk.Cells a).length≤8∧(∀ c∈Zk.Cells a,Zjl c)∧VK (ZfW (Zk.Cells a)) (Zk.Cells a).length
theorem ZmR {a:Zk} (h:sm YE a):sm (.sl XY) (Zk.Cells a):=h.1
theorem ZeE {α:Type} {l:List α} {P:α→Prop}:Zgc l (fun _ x=>P x)↔∀ x∈l,P x:=by
  constructor
  · intro h x hx
    obtain ⟨k,hk⟩:=List.mem_iff_getElem?.1 hx
    exact h k x hk
  · intro h k x hk
    exact h x (List.mem_of_getElem? hk)
theorem Zjv {P Q:Prop}:sel P (tr Q) false=tr (P∧Q):=by
  by_cases h:P
  · rw [Vu h];exact V7 ⟨fun q=>⟨h,q⟩,fun q=>q.2⟩
  · rw [Qs h,Yn (fun q=>h q.1)]
theorem ZkE (a:Zk) (h:sm YE a):Zbz a=some (tr (ZpL a)):=by
  have hc:=ZmR h
  have hs:=Zm hc
  unfold Zbz
  have:=ZhU (l:=Zk.Cells a) (ρ:=Bool) (fun k=>((ZfW (Zk.Cells a)).take k,(k:Int),())) (fun _ c=>Zjl c) (step:=fun v=>XH a v.1 v.2.1) (bad:=false) (good:=tr ((Zk.Cells a).length≤8∧VK (ZfW (Zk.Cells a)) (Zk.Cells a).length))
    (fun k c hx hk _=>by
      have hn:(ZfW (Zk.Cells a))[k]?=some (Zh.Name c):=by simp [ZfW,hx]
      simp only [XH,show (k:Int)<((Zk.Cells a).length:Int) from by omega,if_true,Zu,hx,Option.bind_some,Zm1 c (Jz hc hx)]
      rw [Zi (by simp only [List.length_take,List.length_singleton,ZfW,List.length_map];omega),YA hn,JJ (by omega)]
      constructor
      · intro hh;rw [if_pos (YQ hh)]
      · intro hh;rw [if_neg (by rw [Yn hh];simp)])
    (fun hA=>by
      have e0:(ZfW (Zk.Cells a)).take (Zk.Cells a).length=ZfW (Zk.Cells a):=by rw [show (Zk.Cells a).length=(ZfW (Zk.Cells a)).length by simp [ZfW],List.take_length]
      have hlen:(ZfW (Zk.Cells a)).length=(Zk.Cells a).length:=by simp [ZfW]
      simp only [XH,Int.lt_irrefl,if_false,e0]
      by_cases h8:(Zk.Cells a).length≤8
      · rw [if_pos (by omega),Zbh _ (by rw [hlen];omega),Option.bind_some,hlen]
        congr 2
        exact V7 ⟨fun q=>⟨h8,q⟩,fun q=>q.2⟩
      · rw [if_neg (by omega),Yn (fun q=>h8 q.1)])
  refine (show Zt (fun v=>XH a v.1 v.2.1) (([]:List (List UInt8)),(0:Int),())=_ from this).trans ?_
  rw [Zjv]
  congr 1
  refine V7 ?_
  rw [ZeE]
  exact ⟨fun q=>⟨q.2.1,q.1,q.2.2⟩,fun q=>⟨q.2.1,q.1,q.2.2⟩⟩
theorem ZlP {α ρ:Type} {f:α→List UInt8} {l:List α} {x:α} {k:Nat} (hk:k≤1048576) (hkl:k≤l.length) {step:Int×Unit→Option ((Int×Unit) ⊕ ρ)} {bad good:ρ}
    (hs:∀ (j:Nat) (y:α),j<k→l[j]?=some y→step ((j:Int),())=some (if f y=f x then .inr bad else .inl (IntKind.i64.wrap ((j:Int)+1),())))
    (hx:step ((k:Int),())=some (.inr good)):Zt step ((0:Int),())=some (sel (∀ (j:Nat) (q:α),j<k→l[j]?=some q→f q≠f x) good bad):=by
  rw [Zl7 k (by omega) (fun j=>∀ q,l[j]?=some q→f q≠f x) (bad:=bad) (good:=good) (fun j hj=>by
    have hjl:l[j]?=some l[j]:=List.getElem?_eq_getElem (by omega)
    rw [hs j _ hj hjl]
    constructor
    · intro hh;rw [if_neg (hh _ hjl)]
    · intro hh
      rw [if_pos]
      apply Classical.byContradiction
      intro hne
      refine hh (fun q hq=>?_)
      rw [hjl] at hq;injection hq with hq;subst hq;exact hne) (fun _=>hx)]
  congr 1
  have e:(∀ j,j<k→∀ q,l[j]?=some q→f q≠f x)↔(∀ (j:Nat) (q:α),j<k→l[j]?=some q→f q≠f x):=⟨fun h j q hj hq=>h j hj q hq,fun h j hj q hq=>h j q hj hq⟩
  rw [propext e]
theorem Zj2 (a:Zk) (h:sm YE a):Zbw a=some (tr (ZpL a)):=by
  have hc:=ZmR h
  have hs:=Zm hc
  unfold Zbw
  rw [Zaz (XD hc) (fun k c=>Zjl c∧∀ (j:Nat) (q:Zh),j<k→(Zk.Cells a)[j]?=some q→Zh.Name q≠Zh.Name c) (bad:=false) (good:=tr ((Zk.Cells a).length≤8))
    (fun k c hx hk _=>by
      simp only [VU,show (k:Int)<((Zk.Cells a).length:Int) from by omega,if_true,Zu,hx,Option.bind_some,Zm5 c (Jz hc hx)]
      by_cases hC:Zjl c
      · rw [if_pos (YQ hC),ZlP (f:=Zh.Name) (l:=Zk.Cells a) (x:=c) (k:=k) (by omega) (by omega) (bad:=.inr false) (good:=.inl (IntKind.i64.wrap ((k:Int)+1),()))
          (fun j y hj hy=>by
            simp only [VX,show (j:Int)<(k:Int) from by omega,if_true,Zu,hy,Option.bind_some]
            split<;>rfl)
          (by simp only [VX,Int.lt_irrefl,if_false])]
        constructor
        · intro hh;rw [Vu hh.2]
        · intro hh;rw [Qs (fun q=>hh ⟨hC,q⟩)]
      · rw [if_neg (by rw [Yn hC];simp)]
        exact ⟨fun hh=>absurd hh.1 hC,fun _=>rfl⟩)
    (fun _=>by
      simp only [VU,Int.lt_irrefl,if_false]
      congr 2
      exact (Zof (by rw [decide_eq_true_eq];omega)).symm)]
  rw [Zjv]
  congr 1
  refine V7 ?_
  unfold ZpL
  rw [ZfW,Zpn,←ZeE]
  constructor
  · rintro ⟨q,q8⟩
    exact ⟨q8,fun k x hx=>(q k x hx).1,fun k x hx=>⟨(q k x hx).1.1,(q k x hx).2⟩⟩
  · rintro ⟨q8,q1,q2⟩
    exact ⟨fun k x hx=>⟨q1 k x hx,(q2 k x hx).2⟩,q8⟩
theorem ZeS (l:List (List UInt8)) (hl:l.length≤1048576) (hsm:∀ s∈l,s.length≤4611686018427387904):Zaf l=some (tr (VK l l.length)):=by
  unfold Zaf
  rw [Zaz (show Len l by show l.length≤4611686018427387904;omega) (fun k s=>ZaT s=true∧∀ (j:Nat) (q:List UInt8),j<k→l[j]?=some q→id q≠id s) (bad:=false) (good:=true)
    (fun k s hx hk _=>by
      simp only [JX,show (k:Int)<(l.length:Int) from by omega,if_true,Zu,hx,Option.bind_some,ZdD s (hsm s (List.mem_of_getElem? hx))]
      by_cases hC:ZaT s=true
      · rw [if_pos hC,ZlP (f:=id) (l:=l) (x:=s) (k:=k) (by omega) (by omega) (bad:=.inr false) (good:=.inl (IntKind.i64.wrap ((k:Int)+1),()))
          (fun j y hj hy=>by
            simp only [JL,show (j:Int)<(k:Int) from by omega,if_true,Zu,hy,Option.bind_some,id]
            split<;>rfl)
          (by simp only [JL,Int.lt_irrefl,if_false])]
        constructor
        · intro hh;rw [Vu hh.2]
        · intro hh;rw [Qs (fun q=>hh ⟨hC,q⟩)]
      · rw [if_neg hC]
        exact ⟨fun hh=>absurd hh.1 hC,fun _=>rfl⟩)
    (fun _=>by simp only [JX,Int.lt_irrefl,if_false]),ZmB]
  congr 1
  refine V7 ?_
  have:=Zpn id l
  rw [List.map_id] at this
  exact this.symm
def ZaV (d:Za):List (List UInt8):=(Za.Instances d).map Zd.Name
def Zcz (d:Za):List (List UInt8):=(Za.ZX d).map ZL.Name
def Zje (d:Za):Prop:=(Za.Instances d).length≤14∧(Za.ZM d).length≤30∧(Za.ZX d).length≤8∧VK (ZaV d) (ZaV d).length∧VK (Za.ZM d) (Za.ZM d).length∧VK (Zcz d) (Zcz d).length
structure Zwz (d:Za):Prop where
  insts:sm (.sl Z6) (Za.Instances d)
  ports:sm (.sl Vz) (Za.ZX d)
  nets:sm (.sl .str) (Za.ZM d)
theorem gather {α ρ:Type} {l:List α} (hl:l.length≤1048576) (f:α→List UInt8) {step:List (List UInt8)×Int×Unit→Option ((List (List UInt8)×Int×Unit) ⊕ ρ)} {good:ρ}
    (hs:∀ (k:Nat) (x:α) (o:List (List UInt8)),l[k]?=some x→(k:Int)<(l.length:Int)→o.length=k→step (o,(k:Int),())=Zx ((o.length+[f x].length)*16≤140737488355328) (some (.inl (o++[f x],IntKind.i64.wrap ((k:Int)+1),()))))
    (hx:step (l.map f,(l.length:Int),())=some (.inr good)):Zt step (([]:List (List UInt8)),(0:Int),())=some good:=by
  refine (show Zt step (([]:List (List UInt8)),(0:Int),())=some good from YH (l:=l) (fun k=>((l.map f).take k,(k:Int),())) (fun k x hx hk=>?_) ?_)
  · have hn:(l.map f)[k]?=some (f x):=by simp [hx]
    have hlen:((l.map f).take k).length=k:=by rw [List.length_take,List.length_map];omega
    rw [hs k x _ hx (by omega) hlen,Zi (by rw [hlen];simp;omega),YA hn,JJ (by omega)]
  · have e0:(l.map f).take l.length=l.map f:=by rw [show l.length=(l.map f).length by simp,List.take_length]
    simp only [e0]
    exact hx
end Go.Proofs.YtehkanadahncgaaGreatDoor
