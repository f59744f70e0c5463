/-
  Plain laws: lists of numbers, tables.
-/
import Derived.Test.YtclfgjepbamnlaaGreatDoorLA
namespace Go.Proofs.YtclfgjepbamnlaaGreatDoor
set_option linter.unusedVariables false
set_option linter.unusedSimpArgs false
open Go Go.Sx
theorem ZcS {a b:Bool} (h:a=true↔b=true):a=b:=by cases a<;>cases b<;>simp_all
theorem QI {P Q:Prop} (h:P↔Q):tr P=tr Q:=by rw [propext h]
def Inc (l:List Int):Prop:=∀ (k:Nat) (x y:Int),l[k]?=some x→l[k+1]?=some y→x<y
def Zf0 (l:List Int) (lo hi:Int):Prop:=∀ x∈l,lo≤x∧x≤hi
theorem Zjj (l:List Int) (lo hi:Int):allIn l lo hi=true↔Zf0 l lo hi:=by
  unfold allIn Zf0
  rw [List.all_eq_true]
  simp only [within_iff]
theorem ZaP (l:List Int):XD l=some (l.length:Int):=rfl
theorem Zd4 (l:List Int) (hl:Len l):QN l=some (tr (Inc l)):=by
  unfold QN
  have h4:l.length≤4611686018427387904:=hl
  by_cases h0:l.length=0
  · have:l=[]:=List.eq_nil_of_length_eq_zero h0
    subst this
    rw [Xe (r:=true) (by rfl)]
    have h0:Inc []:=fun k x y h=>by simp at h
    rw [Yc h0]
  have:=Zrx (ρ:=Bool) 1 l.length (by omega) h4 (fun k=>∀ x y,l[k-1]?=some x→l[k]?=some y→x<y) (step:=fun v=>XR l v.1) (bad:=false) (good:=true)
    (fun k h1 h2 _=>by
      obtain ⟨x,hx⟩:∃ x,l[k-1]?=some x:=⟨_,List.getElem?_eq_getElem (by omega)⟩
      obtain ⟨y,hy⟩:∃ y,l[k]?=some y:=⟨_,List.getElem?_eq_getElem h2⟩
      have e1:Wq ((k:Int)-1)=((k-1:Nat):Int):=by rw [YZ (by omega) (by omega)];omega
      simp only [XR,show (k:Int)<(l.length:Int) from by omega,if_true,e1,Zn,hx,hy,Bq]
      refine ⟨fun h=>?_,fun h=>?_⟩
      · have:=h x y rfl rfl
        rw [if_neg (by omega)]
      · rw [if_pos]
        rcases Int.lt_or_le x y with h' | h'
        · exact absurd (fun a b ha hb=>by injection ha with ha;injection hb with hb;subst ha;subst hb;exact h') h
        · exact h')
    (fun _=>by simp only [XR,Int.lt_irrefl,if_false])
  refine (show Zm (fun v=>XR l v.1) ((1:Int),())=_ from this).trans ?_
  rw [ZhM]
  congr 1
  refine QI ⟨fun h k x y hx hy=>?_,fun h j h1 h2 x y hx hy=>?_⟩
  · exact h (k+1) (by omega) (List.getElem?_eq_some_iff.1 hy).1 x y (by simpa using hx) hy
  · exact h (j-1) x y hx (by rw [show j-1+1=j by omega];exact hy)
def Zd0 (l:List Int):Prop:=1≤l.length∧l.length≤4∧Zf0 l 0 100000∧Inc l
theorem Ziz (l:List Int) (hl:Len l):Zez l=some (tr (Zd0 l)):=by
  unfold Zez
  rw [ZaP,Bq,JB,Bq,ZaC l _ _ hl,Bq,Zd4 l hl,Bq]
  have e:tr (Zd0 l)=(within (l.length:Int) 1 4&&allIn l 0 100000&&tr (Inc l)):=by
    refine ZnX ?_
    simp only [Bool.and_eq_true,within_iff,Zjj,Xx,Zd0]
    exact ⟨fun ⟨⟨⟨a,b⟩,c⟩,d⟩=>⟨by omega,by omega,c,d⟩,fun ⟨a,b,c,d⟩=>⟨⟨⟨by omega,by omega⟩,c⟩,d⟩⟩
  rw [e]
  cases within (l.length:Int) 1 4<;>cases allIn l 0 100000<;>cases tr (Inc l)<;>rfl
theorem ZhN (l:List Int) (hl:Len l):ZdI l=some (tr (Zd0 l)):=by
  unfold ZdI
  have h4:l.length≤4611686018427387904:=hl
  rw [QX hl (fun k x=>(0≤x∧x≤100000)∧(0<k→∀ y,l[k-1]?=some y→y<x)) (bad:=false) (good:=decide (1≤l.length∧l.length≤4))
    (fun k x hx hk _=>by
      simp only [ZcE,show (k:Int)<(l.length:Int) from by omega,if_true,Zn,hx,Bq,ZcD]
      by_cases hw:within x 0 100000=true
      · rw [if_pos hw]
        by_cases h0:0<k
        · obtain ⟨y,hy⟩:∃ y,l[k-1]?=some y:=⟨_,List.getElem?_eq_getElem (by omega)⟩
          have e1:Wq ((k:Int)-1)=((k-1:Nat):Int):=by rw [YZ (by omega) (by omega)];omega
          rw [if_pos (by omega),e1,Zn,hy,Bq]
          refine ⟨fun h=>?_,fun h=>?_⟩
          · rw [if_neg (by have:=h.2 h0 y rfl;omega)]
          · rw [if_pos]
            rcases Int.lt_or_le y x with h' | h'
            · exact absurd ⟨(within_iff _ _ _).1 hw,fun _ z hz=>by injection hz with hz;subst hz;exact h'⟩ h
            · exact h'
        · rw [if_neg (by omega)]
          exact ⟨fun _=>rfl,fun h=>absurd ⟨(within_iff _ _ _).1 hw,fun h'=>absurd h' h0⟩ h⟩
      · rw [if_neg hw]
        exact ⟨fun h=>absurd ((within_iff _ _ _).2 h.1) hw,fun _=>rfl⟩)
    (fun _=>by
      simp only [ZcE,Int.lt_irrefl,if_false]
      by_cases h1:1≤l.length
      · rw [if_pos (by omega)]
        congr 2
        rw [decide_eq_decide];omega
      · rw [if_neg (by omega)]
        simp [h1])]
  congr 1
  refine ZcS ?_
  rw [Xx]
  by_cases h:Zeq l (fun k x=>(0≤x∧x≤100000)∧(0<k→∀ y,l[k-1]?=some y→y<x))
  · rw [XU h,decide_eq_true_eq]
    constructor
    · rintro ⟨h1,h2⟩
      refine ⟨h1,h2,fun x hx=>?_,fun k x y hx hy=>?_⟩
      · obtain ⟨k,hk⟩:=List.mem_iff_getElem?.1 hx
        exact (h k x hk).1
      · exact (h (k+1) y hy).2 (by omega) x (by simpa using hx)
    · intro hh
      exact ⟨hh.1,hh.2.1⟩
  · rw [Xu h]
    constructor
    · intro hh;cases hh
    · intro hh
      refine absurd ?_ h
      intro k x hk
      refine ⟨hh.2.2.1 x (List.mem_of_getElem? hk),fun h0 y hy=>?_⟩
      exact hh.2.2.2 (k-1) y x hy (by rw [show k-1+1=k by omega];exact hk)
def QT (t:Zo):Prop:=Zd0 (Zo.Zdy t)∧Zd0 (Zo.Loads t)∧(Zo.Values t).length=(Zo.Zdy t).length*(Zo.Loads t).length∧Zf0 (Zo.Values t) (-1000000) 1000000
def Zw1 (t:Zo):Prop:=Len (Zo.Zdy t)∧Len (Zo.Loads t)∧Len (Zo.Values t)
theorem Zd0.mul {a b:List Int} (ha:Zd0 a) (hb:Zd0 b):a.length*b.length≤16:=by
  have h1:=ha.2.1
  have h2:=hb.2.1
  calc a.length*b.length≤4*4:=Nat.mul_le_mul h1 h2
    _=16:=rfl
theorem ZrD {a b:List Int} (ha:Zd0 a) (hb:Zd0 b):Wq ((a.length:Int)*(b.length:Int))=((a.length*b.length:Nat):Int):=by
  have:=ha.mul hb
  have e:(a.length:Int)*(b.length:Int)=((a.length*b.length:Nat):Int):=by simp
  rw [e,YZ (by omega) (by omega)]
theorem Zmk (t:Zo) (h:Zw1 t):Ze2 t=some (tr (QT t)):=by
  unfold Ze2
  rw [Ziz _ h.1,Bq]
  by_cases h1:Zd0 (Zo.Zdy t)
  · rw [if_pos (Yc h1),Ziz _ h.2.1,Bq]
    by_cases h2:Zd0 (Zo.Loads t)
    · rw [if_pos (Yc h2),ZrD h1 h2]
      by_cases h3:(Zo.Values t).length=(Zo.Zdy t).length*(Zo.Loads t).length
      · rw [if_pos (by rw [h3]),ZaC _ _ _ h.2.2,Bq]
        congr 1
        refine ZcS ?_
        rw [Zjj,Xx]
        exact ⟨fun h4=>⟨h1,h2,h3,h4⟩,fun h4=>h4.2.2.2⟩
      · rw [if_neg (by omega),Z7 (fun hh=>h3 hh.2.2.1)]
    · rw [if_neg (by rw [Z7 h2];simp),Z7 (fun hh=>h2 hh.2.1)]
  · rw [if_neg (by rw [Z7 h1];simp),Z7 (fun hh=>h1 hh.1)]
theorem Zm6 (t:Zo) (h:Zw1 t):Zfn t=some (tr (QT t)):=by
  unfold Zfn
  rw [ZhN _ h.1,Bq]
  by_cases h1:Zd0 (Zo.Zdy t)
  · rw [if_pos (Yc h1),ZhN _ h.2.1,Bq]
    by_cases h2:Zd0 (Zo.Loads t)
    · rw [if_pos (Yc h2),ZrD h1 h2]
      by_cases h3:(Zo.Values t).length=(Zo.Zdy t).length*(Zo.Loads t).length
      · rw [if_pos (by rw [h3]),QX h.2.2 (fun k x=>-1000000≤x∧x≤1000000) (bad:=false) (good:=true)
          (fun k x hx hk _=>by
            simp only [ZcB,show (k:Int)<((Zo.Values t).length:Int) from by omega,if_true,Zn,hx,Bq,ZcD,within_iff]
            exact ⟨fun hh=>by rw [if_pos hh],fun hh=>by rw [if_neg hh]⟩)
          (fun _=>by simp only [ZcB,Int.lt_irrefl,if_false]),ZhM]
        congr 1
        refine QI ⟨fun h4=>⟨h1,h2,h3,fun x hx=>?_⟩,fun h4 k x hx=>h4.2.2.2 x (List.mem_of_getElem? hx)⟩
        obtain ⟨k,hk⟩:=List.mem_iff_getElem?.1 hx
        exact h4 k x hk
      · rw [if_neg (by omega),Z7 (fun hh=>h3 hh.2.2.1)]
    · rw [if_neg (by rw [Z7 h2];simp),Z7 (fun hh=>h2 hh.2.1)]
  · rw [if_neg (by rw [Z7 h1];simp),Z7 (fun hh=>h1 hh.1)]
theorem Zo8 (x:Int) (l:List Int) (hl:Len (x::l)):QG (x::l)=some (l.foldl min x):=by
  unfold QG
  have h4:(x::l).length≤4611686018427387904:=hl
  have e1:¬(((x::l).length:Int)<1):=by simp only [List.length_cons];omega
  have e2:atI (x::l) (0:Int)=some x:=rfl
  rw [if_neg e1,e2,Bq]
  refine ZY l.length (fun k v=>v.1=(l.take k).foldl min x∧v.2.1=(((k+1:Nat)):Int)) _ ⟨by simp,rfl⟩ ?_ ?_
  · rintro k ⟨m,i,⟨⟩⟩ hk ⟨hm,hi⟩
    simp only at hm hi
    subst hm;subst hi
    have hx:l[k]?=some l[k]:=List.getElem?_eq_getElem hk
    have hx1:(x::l)[k+1]?=some l[k]:=by simp
    simp only [Qy,Zn,hx1,Bq,show ((k+1:Nat):Int)<((x::l).length:Int) from by simp;omega,if_true]
    refine .inl ⟨_,rfl,?_,?_⟩
    · rw [YP hx,List.foldl_append];rfl
    · simp only [List.length_cons] at h4
      show Wq (((k+1:Nat):Int)+1)=((k+1+1:Nat):Int)
      rw [YZ (by omega) (by omega)];omega
  · rintro ⟨m,i,⟨⟩⟩ ⟨hm,hi⟩
    simp only at hm hi
    subst hm;subst hi
    rw [List.take_length]
    simp only [Qy,show ¬(((l.length+1:Nat):Int)<((x::l).length:Int)) from by simp,if_false]
theorem Zjv (x:Int) (l:List Int):l.foldl min x<0↔x<0∨∃ y∈l,y<0:=by
  induction l generalizing x with
  | nil=>simp
  | cons y r ih =>
    simp only [List.foldl_cons,ih,List.mem_cons,exists_eq_or_imp]
    rw [show min x y<0↔x<0∨y<0 by omega,or_assoc]
def ZaN (l:List Zo) (pos:Bool):Prop:=l.length=2∧∀ t∈l,QT t∧(pos=true→∀ v∈Zo.Values t,0≤v)
theorem QT.some {t:Zo} (h:QT t):∃ x l,Zo.Values t=x::l:=by
  have h1:=h.1.1
  have h2:=h.2.1.1
  have h3:=h.2.2.1
  have:1*1≤(Zo.Zdy t).length*(Zo.Loads t).length:=Nat.mul_le_mul h1 h2
  cases hv:Zo.Values t with
  | nil=>rw [hv] at h3;simp at h3;omega
  | cons x l=>exact ⟨x,l,rfl⟩
theorem Zii (t:Zo) (pos:Bool) (h:Zw1 t):QM t pos=some (! tr (QT t∧(pos=true→∀ v∈Zo.Values t,0≤v))):=by
  unfold QM
  rw [Zmk _ h,Bq]
  by_cases h1:QT t
  · rw [if_pos (Yc h1)]
    cases pos
    · rw [if_neg (by simp),Yc ⟨h1,fun e=>by cases e⟩];rfl
    · obtain ⟨x,l,hv⟩:=h1.some
      have hlen:=h.2.2
      rw [if_pos rfl,hv]
      rw [hv] at hlen
      rw [Zo8 x l hlen,Bq]
      congr 1
      refine ZcS ?_
      rw [decide_eq_true_eq,Zjv,Bool.not_eq_true',←Bool.not_eq_true,Xx]
      constructor
      · rintro (hh | ⟨y,hy,hh⟩) ⟨_,hall⟩
        · have:=hall rfl x (by simp);omega
        · have:=hall rfl y (by simp [hy]);omega
      · intro hh
        apply Classical.byContradiction
        intro hn
        refine hh ⟨h1,fun _ v hvm=>?_⟩
        rcases List.mem_cons.1 hvm with rfl | hvm
        · exact Int.not_lt.1 fun hlt=>hn (.inl hlt)
        · exact Int.not_lt.1 fun hlt=>hn (.inr ⟨v,hvm,hlt⟩)
  · rw [if_neg (by rw [Z7 h1];simp),Z7 (fun hh=>h1 hh.1)];rfl
def ZvA (l:List Zo):Prop:=Len l∧∀ t∈l,Zw1 t
theorem ZcV (l:List Zo) (pos:Bool) (h:ZvA l):JA l pos=some (tr (ZaN l pos)):=by
  unfold JA
  by_cases h2:l.length=2
  · rw [if_pos (by omega),XF h.1 (fun t=>! tr (QT t∧(pos=true→∀ v∈Zo.Values t,0≤v))) (fun t ht=>Zii t pos (h.2 t ht)),Bq]
    congr 1
    refine ZcS ?_
    rw [Bool.not_eq_true',List.any_eq_false,Xx]
    simp only [Bool.not_eq_true',Bool.not_eq_false,Xx,Bool.not_eq_true]
    exact ⟨fun hh=>⟨h2,hh⟩,fun hh=>hh.2⟩
  · rw [if_neg (by omega),Z7 (fun hh=>h2 hh.1)]
/-
  Plain laws: pins, arcs, cells.
-/
theorem ZhZ {α τ ρ:Type} {l:List α} (pk:Nat→τ) (P:Nat→α→Prop) {step:τ→Option (τ ⊕ ρ)} {bad good:ρ}
    (hs:∀ (k:Nat) (x:α),l[k]?=some x→k<l.length→(∀ (j:Nat) (y:α),j<k→l[j]?=some y→P j y)→(P k x→step (pk k)=some (.inl (pk (k+1))))∧(¬P k x→step (pk k)=some (.inr bad)))
    (hx:Zeq l P→step (pk l.length)=some (.inr good)):Zm step (pk 0)=some (sel (Zeq l P) good bad):=by
  refine ZY l.length (fun k v=>v=pk k∧∀ (j:Nat) (y:α),j<k→l[j]?=some y→P j y) _ ⟨rfl,fun j y hj=>by omega⟩ ?_ ?_
  · rintro k v hk ⟨rfl,hS⟩
    have hx:l[k]?=some l[k]:=List.getElem?_eq_getElem hk
    obtain ⟨h1,h2⟩:=hs k _ hx hk hS
    by_cases hP:P k l[k]
    · refine .inl ⟨_,h1 hP,rfl,fun j y hj hy=>?_⟩
      by_cases hjk:j<k
      · exact hS j y hjk hy
      · have:j=k:=by omega
        subst this
        rw [hx] at hy;injection hy with hy;subst hy
        exact hP
    · right
      rw [h2 hP,Xu (fun h=>hP (h k _ hx))]
  · rintro v ⟨rfl,hS⟩
    have hA:Zeq l P:=fun k x hk=>hS k x (List.getElem?_eq_some_iff.1 hk).1 hk
    rw [hx hA,XU hA]
theorem Jl {α τ ρ:Type} {l:List α} (pk:Nat→τ) {step:τ→Option (τ ⊕ ρ)} {good:ρ}
    (hs:∀ (k:Nat) (x:α),l[k]?=some x→k<l.length→step (pk k)=some (.inl (pk (k+1)))) (hx:step (pk l.length)=some (.inr good)):Zm step (pk 0)=some good:=by
  have:=ZhZ (l:=l) pk (fun _ _=>True) (step:=step) (bad:=good) (good:=good) (fun k x h1 h2 _=>⟨fun _=>hs k x h1 h2,fun h=>absurd trivial h⟩) (fun _=>hx)
  rw [this,XU (show Zeq l (fun _ _=>True) from fun _ _ _=>trivial)]
theorem ZmR {ρ:Type} (n:Nat) (hn:n≤4611686018427387904) (P:Nat→Prop) {step:Int×Unit→Option ((Int×Unit) ⊕ ρ)} {bad good:ρ}
    (hs:∀ k:Nat,k<n→(P k→step ((k:Int),())=some (.inl (Wq ((k:Int)+1),())))∧(¬P k→step ((k:Int),())=some (.inr bad)))
    (hx:(∀ j,j<n→P j)→step ((n:Int),())=some (.inr good)):Zm step ((0:Int),())=some (sel (∀ j,j<n→P j) good bad):=by
  have:=Zrx (ρ:=ρ) 0 n (by omega) hn P (step:=step) (bad:=bad) (good:=good) (fun k _ h _=>hs k h) (fun h=>hx (fun j hj=>h j (by omega) hj))
  refine (show Zm step ((0:Int),())=_ from this).trans ?_
  congr 1
  have e:(∀ j,0≤j→j<n→P j)↔(∀ j,j<n→P j):=⟨fun h j hj=>h j (by omega) hj,fun h j _ hj=>h j hj⟩
  rw [propext e]
theorem XE {t:Ty} {l:List t.den} (h:sm (.sl t) l):Len l:=by
  have h1:(l.length:Int)≤1048576:=h.1
  show l.length≤4611686018427387904
  omega
theorem ZfU {s:List UInt8} (h:sm .str s):s.length≤4611686018427387904:=by
  have h1:(s.length:Int)≤1048576:=h
  omega
theorem Zp4 {t:Ty} {l:List t.den} (h:sm (.sl t) l) {x:t.den} (hx:x∈l):sm t x:=h.2 x hx
theorem ZgO {t:Ty} {l:List t.den} (h:sm (.sl t) l) {k:Nat} {x:t.den} (hx:l[k]?=some x):sm t x:=h.2 x (List.mem_of_getElem? hx)
theorem ZA {t:Ty} {l:List t.den} (h:sm (.sl t) l):l.length≤1048576:=by
  have h1:(l.length:Int)≤1048576:=h.1
  omega
theorem Zsz {t:Zo} (h:sm YE t):Zw1 t:=⟨XE (t:=.int .i64) h.1,XE (t:=.int .i64) h.2.1,XE (t:=.int .i64) h.2.2.1⟩
theorem ZgC {l:List Zo} (h:sm (.sl YE) l):ZvA l:=⟨XE h,fun t ht=>Zsz (Zp4 h ht)⟩
theorem Zi9 (t:Zo) (h:Zw1 t):∃ r,Zbq t=some r∧(QT t→r.2=0∧(r.1.1<0↔∃ v∈Zo.Values t,v<0))∧(¬QT t→r.2=1):=by
  unfold Zbq
  rw [Zm6 _ h,Bq]
  by_cases h1:QT t
  · rw [if_pos (Yc h1)]
    obtain ⟨x,l,hv⟩:=h1.some
    have h4:(x::l).length≤4611686018427387904:=by rw [←hv];exact h.2.2
    have e2:atI (Zo.Values t) (0:Int)=some x:=by rw [hv];rfl
    rw [e2,Bq]
    have:=Jl (l:=l) (ρ:=Zu×Int) (fun k=>((((k+1:Nat)):Int),(l.take k).foldl min x,(l.take k).foldl max x,())) (step:=fun v=>Q8 t v.1 v.2.1 v.2.2.1) (good:=((l.foldl min x,l.foldl max x,()),0))
      (fun k y hy hk=>by
        have hx1:(x::l)[k+1]?=some y:=by simpa using hy
        simp only [List.length_cons] at h4
        simp only [Q8,hv,Zn,hx1,Bq,show ((k+1:Nat):Int)<((x::l).length:Int) from by simp;omega,if_true]
        rw [YP hy,List.foldl_append,List.foldl_append,YZ (by omega) (by omega)]
        rfl)
      (by
        simp only [Q8,hv,List.take_length,show ¬(((l.length+1:Nat):Int)<((x::l).length:Int)) from by simp,if_false])
    refine ⟨_,this,fun _=>⟨rfl,?_⟩,fun hn=>absurd h1 hn⟩
    rw [hv]
    refine (Zjv x l).trans ?_
    simp
  · rw [if_neg (by rw [Z7 h1];simp)]
    exact ⟨_,rfl,fun hn=>absurd hn h1,fun _=>rfl⟩
theorem Zc8 (l:List Zo) (pos:Bool) (h:ZvA l):Ym l pos=some (tr (ZaN l pos)):=by
  unfold Ym
  by_cases h2:l.length=2
  · rw [if_pos (by omega),QX h.1 (fun k t=>QT t∧(pos=true→∀ v∈Zo.Values t,0≤v)) (bad:=false) (good:=true)
      (fun k t hx hk _=>by
        obtain ⟨r,hr,hr1,hr2⟩:=Zi9 t (h.2 t (List.mem_of_getElem? hx))
        simp only [ZaY,show (k:Int)<2 from by omega,if_true,Zn,hx,Bq,hr]
        by_cases ht:QT t
        · obtain ⟨e1,e2⟩:=hr1 ht
          rw [if_pos e1]
          cases pos
          · simp only [Bool.false_eq_true,if_false]
            exact ⟨fun _=>trivial,fun hn=>absurd ⟨ht,fun e=>by cases e⟩ hn⟩
          · simp only [if_true]
            refine ⟨fun hh=>?_,fun hn=>?_⟩
            · rw [if_neg]
              intro hlt
              obtain ⟨v,hv,hv0⟩:=e2.1 hlt
              have:=hh.2 trivial v hv
              omega
            · rw [if_pos]
              apply Classical.byContradiction
              intro hlt
              refine hn ⟨ht,fun _ v hv=>?_⟩
              exact Int.not_lt.1 fun hv0=>hlt (e2.2 ⟨v,hv,hv0⟩)
        · have e1:=hr2 ht
          rw [if_neg (by rw [e1];decide)]
          exact ⟨fun hh=>absurd hh.1 ht,fun _=>rfl⟩)
      (fun _=>by simp only [ZaY,h2];rfl),ZhM]
    congr 1
    refine QI ⟨fun hh=>⟨h2,fun t ht=>?_⟩,fun hh k t hk=>hh.2 t (List.mem_of_getElem? hk)⟩
    obtain ⟨k,hk⟩:=List.mem_iff_getElem?.1 ht
    exact hh k t hk
  · rw [if_neg (by omega),Z7 (fun hh=>h2 hh.1)]
def ZdG (l:List Yn):List (List UInt8):=l.map Yn.Name
def ZlR (l:List Yn):Nat:=l.countP (fun p=>Yn.Clock p)
def Zpm (n k:Nat) (p:Yn):Prop:=(0≤Yn.Cap p∧Yn.Cap p≤500)∧(k+1=n→Yn.Dir p=2∧Yn.Cap p=0∧Yn.Clock p=false)∧(k+1<n→Yn.Dir p=1)
def Zir (l:List Yn):Prop:=2≤l.length∧l.length≤5∧Ja (ZdG l) l.length∧Zeq l (Zpm l.length)
theorem Zmm (l:List Yn) (h:sm (.sl Zdx) l):Ze3 l=some (tr (Zir l)):=by
  unfold Ze3
  have hs:=ZA h
  have:=ZhZ (l:=l) (ρ:=Bool) (fun k=>((ZdG l).take k,(k:Int),())) (Zpm l.length) (step:=fun v=>Vo l v.1 v.2.1) (bad:=false) (good:=tr (2≤l.length∧l.length≤5∧Ja (ZdG l) l.length))
    (fun k p hx hk _=>by
      have hn:(ZdG l)[k]?=some (Yn.Name p):=by simp [ZdG,hx]
      have e1:Wq ((l.length:Int)-1)=((l.length-1:Nat):Int):=by rw [YZ (by omega) (by omega)];omega
      simp only [Vo,show (k:Int)<(l.length:Int) from by omega,if_true,Zn,hx,Bq,e1]
      rw [Zh (by simp only [List.length_take,List.length_singleton,ZdG,List.length_map];omega),YP hn,YZ (by omega) (by omega)]
      unfold Zpm
      by_cases hlast:(k:Int)=((l.length-1:Nat):Int)
      · rw [if_pos hlast]
        have hk1:k+1=l.length:=by omega
        constructor
        · rintro ⟨_,h2,_⟩
          obtain ⟨a,b,c⟩:=h2 hk1
          rw [if_pos a,if_pos b,if_neg (by rw [c];simp)]
          rfl
        · intro hh
          split
          · split
            · split
              · rfl
              · rename_i a b c
                exact absurd ⟨by omega,fun _=>⟨a,b,by simpa using c⟩,fun h'=>by omega⟩ hh
            · rfl
          · rfl
      · rw [if_neg hlast,JB]
        have hk1:k+1<l.length:=by omega
        simp only [Bq,within_iff]
        constructor
        · rintro ⟨h1,_,h3⟩
          rw [if_pos (h3 hk1),if_pos h1]
          rfl
        · intro hh
          split
          · split
            · rename_i a b
              exact absurd ⟨b,fun h'=>by omega,fun _=>a⟩ hh
            · rfl
          · rfl)
    (fun hA=>by
      have e0:(ZdG l).take l.length=ZdG l:=by rw [show l.length=(ZdG l).length by simp [ZdG],List.take_length]
      simp only [Vo,Int.lt_irrefl,if_false,e0,JB,Bq,show VO l=some (l.length:Int) from rfl]
      have hlen:(ZdG l).length=l.length:=by simp [ZdG]
      by_cases hw:within (l.length:Int) 2 5=true
      · rw [if_pos hw,Jt _ (by rw [hlen];omega),Bq,hlen]
        rw [within_iff] at hw
        congr 2
        exact QI ⟨fun hh=>⟨by omega,by omega,hh⟩,fun hh=>hh.2.2⟩
      · rw [if_neg hw,Z7]
        intro hh
        exact hw ((within_iff _ _ _).2 (by omega)))
  refine (show Zm (fun v=>Vo l v.1 v.2.1) (([]:List (List UInt8)),(0:Int),())=_ from this).trans ?_
  congr 1
  refine ZcS ?_
  rw [Xx]
  by_cases hA:Zeq l (Zpm l.length)
  · rw [XU hA,Xx]
    exact ⟨fun hh=>⟨hh.1,hh.2.1,hh.2.2,hA⟩,fun hh=>⟨hh.1,hh.2.1,hh.2.2.1⟩⟩
  · rw [Xu hA]
    exact ⟨fun hh=>(by cases hh),fun hh=>absurd hh.2.2.2 hA⟩
/-
  Plain laws: pins by the reference; arcs.
-/
theorem Ziu {n:Nat} (h:n≤1048576) (h1:1≤n):Wq ((n:Int)-1)=((n-1:Nat):Int):=by rw [YZ (by omega) (by omega)];omega
theorem Xo {n:Nat} (h:n≤1048576):Wq ((n:Int)+1)=((n+1:Nat):Int):=by rw [YZ (by omega) (by omega)];omega
theorem ZiF {l:List Yn} {k:Nat} {s:List UInt8}:s ∉ (ZdG l).take k↔∀ (j:Nat) (q:Yn),j<k→l[j]?=some q→Yn.Name q≠s:=by
  constructor
  · intro h j q hj hq e
    refine h (List.mem_iff_getElem?.2 ⟨j,?_⟩)
    rw [List.getElem?_take,if_pos hj]
    simp [ZdG,hq,e]
  · intro h hm
    obtain ⟨j,hj⟩:=List.mem_iff_getElem?.1 hm
    rw [List.getElem?_take] at hj
    split at hj
    · rename_i hjk
      simp only [ZdG,List.getElem?_map,Option.map_eq_some_iff] at hj
      obtain ⟨q,hq,e⟩:=hj
      exact h j q hjk hq e
    · cases hj
theorem Zm8 (c:Zi) (h:sm (.sl Zdx) (Zi.Yy c)):Zfo c=some (sel (Zir (Zi.Yy c)) ((ZlR (Zi.Yy c):Int),true) ((0:Int),false)):=by
  unfold Zfo
  have hs:=ZA h
  by_cases h2:((Zi.Yy c).length:Int)<2
  · rw [if_pos h2,Xu (fun hh=>by have:=hh.1;omega)]
  by_cases h5:(5:Int)<((Zi.Yy c).length:Int)
  · rw [if_neg h2,if_pos h5,Xu (fun hh=>by have:=hh.2.1;omega)]
  rw [if_neg h2,if_neg h5]
  have e1:Wq (((Zi.Yy c).length:Int)-1)=(((Zi.Yy c).length-1:Nat):Int):=Ziu hs (by omega)
  have:=ZhZ (l:=Zi.Yy c) (ρ:=Int×Bool) (fun k=>((((Zi.Yy c).take k).countP (fun p=>Yn.Clock p):Int),(k:Int),()))
    (fun k p=>(Jv (Yn.Name p)=true∧∀ (j:Nat) (q:Yn),j<k→(Zi.Yy c)[j]?=some q→Yn.Name q≠Yn.Name p)∧Zpm (Zi.Yy c).length k p) (step:=fun v=>Vy c v.1 v.2.1) (bad:=((0:Int),false)) (good:=((ZlR (Zi.Yy c):Int),true))
    (fun k p hx hk _=>by
      have hcnt:((Zi.Yy c).take k).countP (fun p=>Yn.Clock p)≤5:=by
        have h1:=List.countP_le_length (p:=fun p=>Yn.Clock p) (l:=(Zi.Yy c).take k)
        rw [List.length_take] at h1;omega
      have hnext:((Zi.Yy c).take (k+1)).countP (fun p=>Yn.Clock p)=((Zi.Yy c).take k).countP (fun p=>Yn.Clock p)+if Yn.Clock p=true then 1 else 0:=by
        rw [YP hx,List.countP_append];simp [List.countP_cons]
      have hname:(Yn.Name p).length≤4611686018427387904:=ZfU (ZgO h hx).1
      have rest:∀ (v:Int),Qu c v (k:Int) p (k:Int)=sel (Jv (Yn.Name p)=true∧Zpm (Zi.Yy c).length k p) (some (Sum.inr (Sum.inl (if Yn.Clock p=true then Wq (v+1) else v,((k+1:Nat):Int),())))) (some (Sum.inr (Sum.inr (0,false)))):=by
        intro v
        simp only [Qu,Int.lt_irrefl,if_false,ZcF _ hname,ZcD,Bq,e1,Xo (show k≤1048576 by omega),within_iff]
        unfold Zpm
        by_cases hn:Jv (Yn.Name p)=true
        · by_cases hcap:0≤Yn.Cap p∧Yn.Cap p≤500
          · by_cases hlast:k+1=(Zi.Yy c).length
            · have e2:(k:Int)=(((Zi.Yy c).length-1:Nat):Int):=by omega
              have e3:¬((k:Int)<(((Zi.Yy c).length-1:Nat):Int)):=by omega
              have e4:¬(k+1<(Zi.Yy c).length):=by omega
              rw [if_pos hn,if_pos hcap,if_pos e2]
              by_cases a:Yn.Dir p=2
              · by_cases b:Yn.Cap p=0
                · by_cases d:Yn.Clock p=true
                  · rw [if_pos a,if_pos b,if_pos d,Xu]
                    rintro ⟨_,_,h',_⟩
                    have:=(h' hlast).2.2
                    rw [d] at this;cases this
                  · rw [if_pos a,if_pos b,if_neg d,if_neg e3,if_neg d,XU ⟨hn,hcap,fun _=>⟨a,b,by simpa using d⟩,fun h'=>absurd h' e4⟩]
                    simp [d]
                · rw [if_pos a,if_neg b,Xu]
                  rintro ⟨_,_,h',_⟩
                  exact b (h' hlast).2.1
              · rw [if_neg a,Xu]
                rintro ⟨_,_,h',_⟩
                exact a (h' hlast).1
            · have e2:¬(k:Int)=(((Zi.Yy c).length-1:Nat):Int):=by omega
              have e3:(k:Int)<(((Zi.Yy c).length-1:Nat):Int):=by omega
              have e4:k+1<(Zi.Yy c).length:=by omega
              rw [if_pos hn,if_pos hcap,if_neg e2,if_pos e3]
              by_cases a:Yn.Dir p=1
              · rw [if_pos a,XU ⟨hn,hcap,fun h'=>absurd h' hlast,fun _=>a⟩]
                by_cases d:Yn.Clock p=true
                · rw [if_pos d,if_pos d]
                · rw [if_neg d,if_neg d]
              · rw [if_neg a,Xu]
                rintro ⟨_,_,_,h'⟩
                exact a (h' e4)
          · rw [if_pos hn,if_neg hcap,Xu (fun hh=>hcap hh.2.1)]
        · rw [if_neg hn,Xu (fun hh=>hn hh.1)]
      have inner:∀ (v:Int) (good:(Int×Int×Unit) ⊕ (Int×Bool)),((∀ (j:Nat) (q:Yn),j<k→(Zi.Yy c)[j]?=some q→Yn.Name q≠Yn.Name p)→Qu c v (k:Int) p (k:Int)=some (.inr good))→
          Zm (fun v'=>Qu c v (k:Int) p v'.1) ((0:Int),())=some (sel (∀ j,j<k→∀ q,(Zi.Yy c)[j]?=some q→Yn.Name q≠Yn.Name p) good (.inr (0,false))):=by
        intro v good hg
        refine ZmR k (by omega) (fun j=>∀ q,(Zi.Yy c)[j]?=some q→Yn.Name q≠Yn.Name p) (fun j hj=>?_) (fun hh=>hg (fun j q hj hq=>hh j hj q hq))
        obtain ⟨q,hq⟩:∃ q,(Zi.Yy c)[j]?=some q:=⟨_,List.getElem?_eq_getElem (by omega)⟩
        simp only [Qu,show (j:Int)<(k:Int) from by omega,if_true,Zn,hq,Bq]
        refine ⟨fun hh=>by rw [if_neg (hh q rfl)],fun hh=>?_⟩
        rw [if_pos]
        apply Classical.byContradiction
        intro hne
        exact hh (fun q' hq'=>by injection hq' with hq';subst hq';exact hne)
      simp only [Vy,show (k:Int)<((Zi.Yy c).length:Int) from by omega,if_true,Zn,hx,Bq]
      constructor
      · rintro ⟨⟨a,b⟩,d⟩
        rw [inner _ (.inl (((((Zi.Yy c).take (k+1)).countP (fun p=>Yn.Clock p):Nat):Int),((k+1:Nat):Int),())) (fun _=>by
          rw [rest,XU ⟨a,d⟩,hnext]
          by_cases hc:Yn.Clock p=true
          · rw [if_pos hc,if_pos hc,Xo (by omega)]
          · rw [if_neg hc,if_neg hc];rfl),XU (fun j hj q hq=>b j q hj hq)]
      · intro hh
        rw [inner _ (.inr (0,false)) (fun hn=>by
          rw [rest,Xu (fun h'=>hh ⟨⟨h'.1,hn⟩,h'.2⟩)])]
        by_cases hP:∀ j,j<k→∀ q,(Zi.Yy c)[j]?=some q→Yn.Name q≠Yn.Name p
        · rw [XU hP]
        · rw [Xu hP])
    (fun _=>by simp only [Vy,Int.lt_irrefl,if_false,List.take_length];rfl)
  refine (show Zm (fun v=>Vy c v.1 v.2.1) ((0:Int),(0:Int),())=_ from this).trans ?_
  congr 1
  have e:Zeq (Zi.Yy c) (fun k p=>(Jv (Yn.Name p)=true∧∀ (j:Nat) (q:Yn),j<k→(Zi.Yy c)[j]?=some q→Yn.Name q≠Yn.Name p)∧Zpm (Zi.Yy c).length k p)↔Zir (Zi.Yy c):=by
    constructor
    · intro hA
      refine ⟨by omega,by omega,fun j s hj hs'=>?_,fun k p hp=>(hA k p hp).2⟩
      simp only [ZdG,List.getElem?_map,Option.map_eq_some_iff] at hs'
      obtain ⟨q,hq,rfl⟩:=hs'
      exact ⟨(hA j q hq).1.1,ZiF.2 (hA j q hq).1.2⟩
    · intro hh k p hp
      have hk:=(List.getElem?_eq_some_iff.1 hp).1
      have hn:=hh.2.2.1 k (Yn.Name p) hk (by simp [ZdG,hp])
      exact ⟨⟨hn.1,ZiF.1 hn.2⟩,hh.2.2.2 k p hp⟩
  rw [propext e]
/-
  Plain laws: arcs.
-/
def Zoy (l:List Yn) (i:Int):Bool:=match l[i.toNat]? with
  | some p=>Yn.Clock p
  | none=>false
def Zki (c:Zi) (a:Zw):Prop :=
  (0≤Zw.From a∧Zw.From a≤((Zi.Yy c).length:Int)-2)∧(0≤Zw.To a∧Zw.To a≤((Zi.Yy c).length:Int)-1)∧
  ((Zw.Kind a=1∧Zoy (Zi.Yy c) (Zw.From a)=false∧Zw.To a=((Zi.Yy c).length:Int)-1∧(1≤Zw.Vi a∧Zw.Vi a≤3)∧ZaN (Zw.Delay a) true∧ZaN (Zw.X7 a) true)∨
   ((Zw.Kind a=2∨Zw.Kind a=3)∧Zoy (Zi.Yy c) (Zw.From a)=true∧Zw.To a=((Zi.Yy c).length:Int)-1∧Zw.Vi a=0∧ZaN (Zw.Delay a) true∧ZaN (Zw.X7 a) true)∨
   ((Zw.Kind a=4∨Zw.Kind a=5)∧Zoy (Zi.Yy c) (Zw.From a)=true∧Zw.To a<((Zi.Yy c).length:Int)-1∧Zoy (Zi.Yy c) (Zw.To a)=false∧Zw.Vi a=0∧ZaN (Zw.Delay a) false∧(Zw.X7 a).length=0))
theorem Zki.kind {c:Zi} {a:Zw} (h:Zki c a):1≤Zw.Kind a∧Zw.Kind a≤5:=by
  rcases h.2.2 with h | h | h
  · have:=h.1;omega
  · have:=h.1;omega
  · have:=h.1;omega
theorem YK {P Q:Prop} {_:Decidable P} {m:Option Bool} (hm:P→m=some (tr Q)):(if P then m else some false)=some (tr (P∧Q)):=by
  by_cases h:P
  · rw [if_pos h,hm h];congr 1;exact QI ⟨fun q=>⟨h,q⟩,fun q=>q.2⟩
  · rw [if_neg h,Z7 (fun q=>h q.1)]
theorem Zf1 {P Q:Prop} {_:Decidable P} {m:Option Bool} (hm:¬P→m=some (tr Q)):(if P then some false else m)=some (tr (¬P∧Q)):=by
  by_cases h:P
  · rw [if_pos h,Z7 (fun q=>q.1 h)]
  · rw [if_neg h,hm h];congr 1;exact QI ⟨fun q=>⟨h,q⟩,fun q=>q.2⟩
theorem ZcQ {P:Prop} {b:Bool} (h:b=true↔P):some b=some (tr P):=by rw [ZnX h]
theorem Zd7 {m:Option Bool} {P Q:Prop} (h:m=some (tr P)) (hpq:P↔Q):m=some (tr Q):=by rw [h,propext hpq]
theorem Zok {Q:Prop} (h:¬Q):(some false:Option Bool)=some (tr Q):=by rw [Z7 h]
theorem Zb4 {P:Prop} {m:Option Bool} (h:m=some (tr P)):(m.bind fun b=>some b)=some (tr P):=by rw [h];rfl
theorem YL {P Q:Prop} {m m2:Option Bool} (h:m=some (tr P)) (h2:P→m2=some (tr Q)):(m.bind fun b=>if b=true then m2 else some false)=some (tr (P∧Q)):=by
  rw [h,Bq]
  by_cases hp:P
  · rw [if_pos (Yc hp),h2 hp];congr 1;exact QI ⟨fun q=>⟨hp,q⟩,fun q=>q.2⟩
  · rw [if_neg (by rw [Z7 hp];simp),Z7 (fun q=>hp q.1)]
theorem Ji (n a b:Int):Yo n a b=some (tr (a≤n∧n≤b)):=by rw [ZcD];exact ZcQ (within_iff _ _ _)
theorem V7 (n a b:Int):YB n a b=some (tr (a≤n∧n≤b)):=by rw [JB];exact ZcQ (within_iff _ _ _)
theorem ZtK {l:List Yn} {i:Int} (h0:0≤i) (h1:i<l.length):∃ p,atI l i=some p∧Zoy l i=Yn.Clock p:=by
  obtain ⟨p,h2,h3⟩:=Zpq h0 h1
  exact ⟨p,h2,by simp [Zoy,h3]⟩
theorem ZnQ (c:Zi) (a:Zw) (hp:sm (.sl Zdx) (Zi.Yy c)) (hd:sm (.sl YE) (Zw.Delay a)) (hw:sm (.sl YE) (Zw.X7 a)) (h2:2≤(Zi.Yy c).length):Zgw c a=some (tr (Zki c a)):=by
  unfold Zgw
  have hs:=ZA hp
  have e1:Wq (((Zi.Yy c).length:Int)-1)=((Zi.Yy c).length:Int)-1:=YZ (by omega) (by omega)
  have e2:Wq (((Zi.Yy c).length:Int)-1-1)=((Zi.Yy c).length:Int)-2:=by rw [YZ (by omega) (by omega)];omega
  rw [e1,e2]
  refine Zd7 (YL (Ji _ _ _) (fun hF=>YL (Ji _ _ _) (fun hT=>?_))) (Q:=Zki c a) (P:=(0≤Zw.From a∧Zw.From a≤((Zi.Yy c).length:Int)-2)∧(0≤Zw.To a∧Zw.To a≤((Zi.Yy c).length:Int)-1)∧Zki c a) ⟨fun hh=>hh.2.2,fun hh=>⟨hh.1,hh.2.1,hh⟩⟩
  obtain ⟨p,hp1,hp2⟩:=ZtK (l:=Zi.Yy c) hF.1 (by omega)
  rw [hp1,Bq]
  have hdl:=ZgC hd
  have hsl:=ZgC hw
  have tt:∀ b,(Ym (Zw.Delay a) b).bind (fun x=>if x=true then (Ym (Zw.X7 a) b).bind (fun y=>some y) else some false)=some (tr (ZaN (Zw.Delay a) b∧ZaN (Zw.X7 a) b)):=fun b=>YL (Zc8 _ _ hdl) (fun _=>Zb4 (Zc8 _ _ hsl))
  have tz:(Ym (Zw.Delay a) false).bind (fun x=>if x=true then some (Decidable.decide (((Zw.X7 a).length:Int)=(0:Int))) else some false)=some (tr (ZaN (Zw.Delay a) false∧(Zw.X7 a).length=0)):=YL (Zc8 _ _ hdl) (fun _=>ZcQ (by rw [decide_eq_true_eq];omega))
  unfold Zki
  rw [hp2]
  by_cases k1:Zw.Kind a=1
  · simp only [k1,if_true]
    refine Zd7 (Zf1 (fun hc=>YK (fun hl=>YL (Ji _ _ _) (fun _=>tt true)))) ?_
    grind
  by_cases k2:Zw.Kind a=2
  · simp only [k2,if_true,Int.reduceEq,if_false]
    refine Zd7 (YK (fun hc=>YK (fun hl=>YK (fun _=>tt true)))) ?_
    grind
  by_cases k3:Zw.Kind a=3
  · simp only [k3,if_true,Int.reduceEq,if_false]
    refine Zd7 (YK (fun hc=>YK (fun hl=>YK (fun _=>tt true)))) ?_
    grind
  have chk:(if Yn.Clock p=true then (if Zw.To a<((Zi.Yy c).length:Int)-1 then (atI (Zi.Yy c) (Zw.To a)).bind (fun x1=>if Yn.Clock x1=true then some false else if Zw.Vi a=0 then (Ym (Zw.Delay a) false).bind (fun x=>if x=true then some (Decidable.decide (((Zw.X7 a).length:Int)=(0:Int))) else some false) else some false) else some false) else some false) =
      some (tr (Yn.Clock p=true∧Zw.To a<((Zi.Yy c).length:Int)-1∧Zoy (Zi.Yy c) (Zw.To a)=false∧Zw.Vi a=0∧ZaN (Zw.Delay a) false∧(Zw.X7 a).length=0)):=by
    refine YK (fun _=>YK (fun hl=>?_))
    obtain ⟨q,hq1,hq2⟩:=ZtK (l:=Zi.Yy c) hT.1 (by omega)
    rw [hq1,Bq,hq2]
    refine Zd7 (Zf1 (fun _=>YK (fun _=>tz))) ?_
    simp only [Bool.not_eq_true]
  by_cases k4:Zw.Kind a=4
  · simp only [k4,if_true,Int.reduceEq,if_false]
    refine Zd7 chk ?_
    grind
  by_cases k5:Zw.Kind a=5
  · simp only [k5,if_true,Int.reduceEq,if_false]
    refine Zd7 chk ?_
    grind
  · simp only [k1,k2,k3,k4,k5,if_false]
    refine Zok ?_
    grind
def Zg5 (l:List Yn):Int:=ZbR (fun p=>Yn.Clock p) l
theorem Zjz (c:Zi) (h:sm (.sl Zdx) (Zi.Yy c)):Zcc c=some (Zg5 (Zi.Yy c)):=by
  unfold Zcc
  rw [Qe (XE h) (fun p=>Yn.Clock p) (fun p _=>rfl),Bq]
  rfl
theorem Zbs (c:Zi) (h:sm (.sl Zdx) (Zi.Yy c)):Js c=some (((Zi.Yy c).length:Int)-1):=by
  have hs:=ZA h
  show some (Wq (((Zi.Yy c).length:Int)-1))=_
  rw [YZ (by omega) (by omega)]
theorem Zd2 (c:Zi) (i:Int) (h:sm (.sl Zdx) (Zi.Yy c)):VR c i=some (tr (0≤i∧i≤((Zi.Yy c).length:Int)-2)):=by
  have hs:=ZA h
  unfold VR
  rw [Zbs c h,Bq,YZ (by omega) (by omega)]
  refine Zd7 (Zb4 (V7 _ _ _)) ?_
  omega
def Zuh (c:Zi) (a:Zw):Prop :=
  ((Zw.Kind a=4∨Zw.Kind a=5)∧Zw.Vi a=0∧(Zw.X7 a).length=0∧ZaN (Zw.Delay a) false∧Zw.From a=Zg5 (Zi.Yy c)∧0≤Zw.From a∧(0≤Zw.To a∧Zw.To a≤((Zi.Yy c).length:Int)-2)∧Zw.To a≠Zw.From a)∨
  (¬(Zw.Kind a=4∨Zw.Kind a=5)∧ZaN (Zw.Delay a) true∧ZaN (Zw.X7 a) true∧Zw.To a=((Zi.Yy c).length:Int)-1∧(0≤Zw.From a∧Zw.From a≤((Zi.Yy c).length:Int)-2)∧
    ((Zw.Kind a=1∧Zoy (Zi.Yy c) (Zw.From a)=false∧(1≤Zw.Vi a∧Zw.Vi a≤3))∨((Zw.Kind a=2∨Zw.Kind a=3)∧Zoy (Zi.Yy c) (Zw.From a)=true∧Zw.Vi a=0)))
theorem Zmn (k:Int):Ze4 k=some (tr (k=4∨k=5)):=by
  unfold Ze4
  split
  · rename_i h;rw [Yc (.inl h)]
  · rename_i h
    exact ZcQ (by rw [decide_eq_true_eq];omega)
theorem ZoL (c:Zi) (a:Zw) (hp:sm (.sl Zdx) (Zi.Yy c)) (hd:sm (.sl YE) (Zw.Delay a)) (hw:sm (.sl YE) (Zw.X7 a)):Zce c a=some (tr (Zuh c a)):=by
  unfold Zce
  have hdl:=ZgC hd
  have hsl:=ZgC hw
  rw [Zmn,Bq]
  by_cases hk:Zw.Kind a=4∨Zw.Kind a=5
  · rw [if_pos (Yc hk)]
    refine Zd7 (YK (fun _=>YK (fun _=>YL (ZcV _ _ hdl) (fun _=>?_)))) (P:=Zw.Vi a=0∧((Zw.X7 a).length:Int)=0∧ZaN (Zw.Delay a) false∧(Zw.From a=Zg5 (Zi.Yy c)∧0≤Zw.From a∧(0≤Zw.To a∧Zw.To a≤((Zi.Yy c).length:Int)-2)∧Zw.To a≠Zw.From a)) ?_
    · rw [Zjz c hp,Bq]
      refine YK (fun _=>YK (fun _=>YL (Zd2 c _ hp) (fun _=>ZcQ ?_)))
      rw [Bool.not_eq_true',decide_eq_false_iff_not]
    · unfold Zuh
      constructor
      · rintro ⟨x1,x2,x3,x4⟩
        exact .inl ⟨hk,x1,by omega,x3,x4⟩
      · rintro (⟨_,x1,x2,x3,x4⟩ | ⟨x,_⟩)
        · exact ⟨x1,by omega,x3,x4⟩
        · exact absurd hk x
  · rw [if_neg (by rw [Z7 hk];simp)]
    refine Zd7 (YL (ZcV _ _ hdl) (fun _=>YL (ZcV _ _ hsl) (fun _=>?_))) (P:=ZaN (Zw.Delay a) true∧ZaN (Zw.X7 a) true∧(Zw.To a=((Zi.Yy c).length:Int)-1∧(0≤Zw.From a∧Zw.From a≤((Zi.Yy c).length:Int)-2)∧
      ((Zw.Kind a=1∧Zoy (Zi.Yy c) (Zw.From a)=false∧(1≤Zw.Vi a∧Zw.Vi a≤3))∨((Zw.Kind a=2∨Zw.Kind a=3)∧Zoy (Zi.Yy c) (Zw.From a)=true∧Zw.Vi a=0)))) ?_
    · rw [Zbs c hp,Bq]
      refine YK (fun _=>YL (Zd2 c _ hp) (fun hF=>?_))
      obtain ⟨p,hp1,hp2⟩:=ZtK (l:=Zi.Yy c) hF.1 (by omega)
      rw [hp1,hp2]
      simp only [Bq]
      by_cases k1:Zw.Kind a=1
      · simp only [k1,if_true]
        refine Zd7 (Zf1 (fun _=>Zb4 (V7 _ _ _))) ?_
        grind
      by_cases k2:Zw.Kind a=2
      · simp only [k2,if_true,Int.reduceEq,if_false]
        refine Zd7 (YK (fun _=>ZcQ (decide_eq_true_iff))) ?_
        grind
      by_cases k3:Zw.Kind a=3
      · simp only [k3,if_true,Int.reduceEq,if_false]
        refine Zd7 (YK (fun _=>ZcQ (decide_eq_true_iff))) ?_
        grind
      · simp only [k1,k2,k3,if_false]
        refine Zok ?_
        grind
    · unfold Zuh
      constructor
      · intro x;exact .inr ⟨hk,x⟩
      · rintro (⟨x,_⟩ | ⟨_,x⟩)
        · exact absurd x hk
        · exact x
/-
  Plain ground: numbers between the elements of a rising list; a search by halving (no program in sight).
-/
theorem Zvr {l:List Int} (h:Inc l) {i:Nat} {x:Int} (hx:l[i]?=some x):∀ (m:Nat) (y:Int),l[i+m+1]?=some y→x<y
  | 0,y,hy=>h i x y hx hy
  | m+1,y,hy=>by
    have hl:=(List.getElem?_eq_some_iff.1 hy).1
    have hz:l[i+m+1]?=some (l[i+m+1]'(by omega)):=List.getElem?_eq_getElem _
    have h1:=Zvr h hx m _ hz
    have h2:=h (i+m+1) _ y hz hy
    omega
theorem Zkt {l:List Int} (h:Inc l) {i j:Nat} {x y:Int} (hij:i<j) (hx:l[i]?=some x) (hy:l[j]?=some y):x<y :=
  Zvr h hx (j-i-1) y (by rw [show i+(j-i-1)+1=j by omega];exact hy)
def On (l:List Int) (x:Int) (j:Nat):Prop:=l[j]?=some x
def Btw (l:List Int) (x:Int) (j:Nat) (y z:Int):Prop:=l[j]?=some y∧l[j+1]?=some z∧y<x∧x<z
theorem ZxJ {l:List Int} {x a c:Int} (h0:l[0]?=some a) (h1:l[l.length-1]?=some c) (hx0:a≤x) (hx1:x≤c):(∃ j,On l x j)∨∃ j y z,Btw l x j y z:=by
  have key:∀ (k:Nat) (y:Int),l[k]?=some y→y≤x∨((∃ j,On l x j)∨∃ j y z,Btw l x j y z):=by
    intro k
    induction k with
    | zero =>
      intro y hy
      rw [h0] at hy
      injection hy with hy
      exact .inl (by omega)
    | succ k ih =>
      intro y hy
      have hl:=(List.getElem?_eq_some_iff.1 hy).1
      have hz:l[k]?=some (l[k]'(by omega)):=List.getElem?_eq_getElem _
      rcases ih _ hz with q | q
      · by_cases w:y≤x
        · exact .inl w
        · right
          by_cases e:l[k]'(by omega)=x
          · exact .inl ⟨k,by unfold On;rw [hz,e]⟩
          · exact .inr ⟨k,_,y,hz,hy,by omega,by omega⟩
      · exact .inr q
  rcases key _ c h1 with q | q
  · exact .inl ⟨l.length-1,by unfold On;rw [h1];congr 1;omega⟩
  · exact q
structure Fst (l:List Int) (x:Int) (p:Nat):Prop where
  le:p≤l.length
  low:∀ (i:Nat) (y:Int),i<p→l[i]?=some y→y<x
  up:∀ (i:Nat) (y:Int),p≤i→l[i]?=some y→x≤y
theorem Fst.on {l:List Int} {x:Int} {p j:Nat} (h:Fst l x p) (hi:Inc l) (hj:On l x j):p=j:=by
  have hjl:=(List.getElem?_eq_some_iff.1 hj).1
  rcases Nat.lt_trichotomy p j with q | q | q
  · have hp:l[p]?=some (l[p]'(by omega)):=List.getElem?_eq_getElem _
    have h1:=Zkt hi q hp hj
    have h2:=h.up p _ (Nat.le_refl _) hp
    omega
  · exact q
  · have:=h.low j x q hj
    omega
theorem Fst.btw {l:List Int} {x:Int} {p j:Nat} {y z:Int} (h:Fst l x p) (hi:Inc l) (hj:Btw l x j y z):p=j+1:=by
  obtain ⟨h1,h2,h3,h4⟩:=hj
  have hjl:=(List.getElem?_eq_some_iff.1 h2).1
  rcases Nat.lt_trichotomy p (j+1) with q | q | q
  · have:=h.up j y (by omega) h1
    omega
  · exact q
  · have:=h.low (j+1) z q h2
    omega
theorem Zus {ρ:Type} {l:List Int} {x:Int} (hi:Inc l) {step:Int×Int×Unit→Option ((Int×Int×Unit) ⊕ ρ)} {good:Nat→ρ}
    (h1:∀ (i j:Nat) (y:Int),i<j→j≤l.length→l[(i+j) / 2]?=some y→step ((i:Int),(j:Int),())=some (.inl (if y<x then (((i+j) / 2+1:Nat):Int) else (i:Int),if y<x then (j:Int) else (((i+j) / 2:Nat):Int),())))
    (h2:∀ i:Nat,i≤l.length→step ((i:Int),(i:Int),())=some (.inr (good i))):∃ p,Fst l x p∧Zm step ((0:Int),(l.length:Int),())=some (good p):=by
  obtain ⟨r,e,p,rfl,hp⟩:=ZfW (step:=step) (v:=((0:Int),(l.length:Int),())) (fun v=>∃ i j:Nat,v=((i:Int),(j:Int),())∧i≤j∧j≤l.length∧(∀ (k:Nat) (y:Int),k<i→l[k]?=some y→y<x)∧∀ (k:Nat) (y:Int),j≤k→l[k]?=some y→x≤y) (fun v=>(v.2.1-v.1).toNat) (fun r=>∃ p,r=good p∧Fst l x p)
    ⟨0,l.length,rfl,by omega,Nat.le_refl _,fun k y hk=>by omega,fun k y hk hy=>by have:=(List.getElem?_eq_some_iff.1 hy).1;omega⟩ (by
      rintro _ ⟨i,j,rfl,hij,hj,hlo,hup⟩
      by_cases c:i<j
      · left
        have hy:l[(i+j) / 2]?=some (l[(i+j) / 2]'(by omega)):=List.getElem?_eq_getElem _
        generalize l[(i+j) / 2]'(by omega)=y at hy
        refine ⟨_,h1 i j y c hj hy,?_,?_⟩
        · by_cases d:y<x
          · refine ⟨(i+j) / 2+1,j,by rw [if_pos d,if_pos d],by omega,hj,fun k z hk hz=>?_,hup⟩
            by_cases w:k=(i+j) / 2
            · subst w;rw [hy] at hz;injection hz with hz;omega
            · have:=Zkt hi (by omega) hz hy;omega
          · refine ⟨i,(i+j) / 2,by rw [if_neg d,if_neg d],by omega,by omega,hlo,fun k z hk hz=>?_⟩
            by_cases w:k=(i+j) / 2
            · subst w;rw [hy] at hz;injection hz with hz;omega
            · have:=Zkt hi (by omega) hy hz;omega
        · by_cases d:y<x
          · rw [if_pos d,if_pos d];simp only;omega
          · rw [if_neg d,if_neg d];simp only;omega
      · right
        have:i=j:=by omega
        subst this
        exact ⟨_,h2 i hj,i,rfl,hj,hlo,hup⟩)
  exact ⟨p,hp,e⟩
/-
  Plain laws: look-ups in tables.
-/
structure Zyb (l:List Int) (j a b:Int):Prop where
  j0:0≤j
  jl:j<l.length
  jb:0<b→j+1<l.length
  a0:0<a
  b0:0≤b
  ab:a+b≤100000
def wl (j a b:Int):List JG:=if b=0 then [(j,a,())] else [(j,a,()),(j+1,b,())]
theorem ZvV {i j:Nat} (h:i+j≤100):Wq (Int.fdiv (IntKind.wrap IntKind.u64 (Wq ((i:Int)+(j:Int)))) ((2:Int) ^ Min.min (Int.toNat (1:Int)) (IntKind.bits IntKind.u64)))=(((i+j) / 2:Nat):Int):=by
  rw [YZ (n:=(i:Int)+(j:Int)) (by omega) (by omega),show IntKind.wrap IntKind.u64 ((i:Int)+(j:Int))=(i:Int)+(j:Int) from IntWalk.u64_in _ (by omega),show ((2:Int) ^ Min.min (Int.toNat (1:Int)) (IntKind.bits IntKind.u64))=2 from by decide,Int.fdiv_eq_ediv_of_nonneg _ (by omega),YZ (by omega) (by omega)]
  omega
theorem Zv3 (x y:Int):Zdb x y=some (decide (x<y)):=by
  unfold Zdb Zb5
  rw [Bq,decide_eq_true (show x=x from rfl)]
  rfl
theorem Zxz (x:Int):Vv x=some false:=by
  unfold Vv
  rw [decide_eq_true (show x=x from rfl)]
  rfl
theorem ZtT {l:List Int} (hi:Inc l) (hl:l.length≤4) (x:Int):∃ p,Fst l x p∧Y0 l x=some ((p:Int),decide (l[p]?=some x)):=by
  unfold Y0
  refine Zus (x:=x) (good:=fun p=>((p:Int),decide (l[p]?=some x))) hi (fun i j y hij hj hy=>?_) (fun i hi=>?_)
  · simp only [Xc,show (i:Int)<(j:Int) from by omega,if_true,ZvV (show i+j≤100 by omega),Zn,hy,Bq,Zv3,decide_eq_true_eq,Xo (show (i+j) / 2≤1048576 by omega)]
    by_cases c:y<x
    · rw [if_pos c,if_pos c,if_pos c]
    · rw [if_neg c,if_neg c,if_neg c]
  · simp only [Xc,Int.lt_irrefl,if_false]
    by_cases c:i<l.length
    · have hy:l[i]?=some l[i]:=List.getElem?_eq_getElem c
      generalize l[i]=y at hy
      rw [if_pos (show (i:Int)<(l.length:Int) by omega),Zn,hy,Bq]
      by_cases e:y=x
      · rw [if_pos e,decide_eq_true (by rw [e])]
      · rw [if_neg e,Zxz,Bq,if_neg (by simp),decide_eq_false (by rw [Option.some.injEq];exact e)]
    · rw [if_neg (show ¬(i:Int)<(l.length:Int) by omega),List.getElem?_eq_none (by omega)]
      rfl
theorem Zom {l:List Int} (h:Zd0 l) (x:Int):∃ j a b,Zyb l j a b∧Zap l x=some (j,a,b)∧ZdB l x=some (wl j a b,a+b):=by
  obtain ⟨l1,l4,hin,hi⟩:=h
  have h0:l[0]?=some (l[0]'(by omega)):=List.getElem?_eq_getElem _
  have hn:l[l.length-1]?=some (l[l.length-1]'(by omega)):=List.getElem?_eq_getElem _
  generalize l[0]'(by omega)=x1 at h0
  generalize l[l.length-1]'(by omega)=x2 at hn
  have h12:x1≤x2:=by
    by_cases q:l.length=1
    · rw [q] at hn
      rw [h0] at hn
      injection hn with hn
      omega
    · have:=Zkt hi (show 0<l.length-1 by omega) h0 hn
      omega
  have bd:∀ {j:Nat} {y:Int},l[j]?=some y→0≤y∧y≤100000:=fun {j y} hy=>hin y (List.mem_of_getElem? hy)
  have b1:=bd h0
  have b2:=bd hn
  have a0:atI l 0=some x1:=Qj (Int.le_refl _) h0
  have an:atI l (Wq ((↑(List.length l):Int)-(1:Int)))=some x2:=by
    rw [YZ (by omega) (by omega)]
    exact Qj (by omega) (by rw [←hn];congr 1;omega)
  unfold Zap ZdB
  simp only [a0,an,Bq]
  have hc1:x1≤Min.min (Max.max x x1) x2:=by omega
  have hc2:Min.min (Max.max x x1) x2≤x2:=by omega
  have hd:∀ (i0:Int),Vx l x x1 x2 i0=if (0:Int)≤i0 then
      (atI l i0).bind fun x3 =>
      if Min.min (Max.max x x1) x2=x3 then
        some (.inr (i0,(1:Int),(0:Int)))
      else
        if x3<Min.min (Max.max x x1) x2 then
          (atI l (Wq (i0+(1:Int)))).bind fun x4 =>
          some (.inr (i0,Wq (x4-Min.min (Max.max x x1) x2),Wq (Min.min (Max.max x x1) x2-x3)))
        else
          some (.inl (Wq (i0-(1:Int)),()))
    else
      some (.inr ((0:Int),(1:Int),(0:Int))):=fun i0=>rfl
  generalize Min.min (Max.max x x1) x2=c at hc1 hc2 hd ⊢
  obtain ⟨p,hp,hs⟩:=ZtT hi l4 c
  rw [hs,Bq]
  rcases ZxJ h0 hn hc1 hc2 with ⟨j,hj⟩ | ⟨j,y,z,hj⟩
  · have hjl:=(List.getElem?_eq_some_iff.1 hj).1
    have hpj:=hp.on hi hj
    subst hpj
    refine ⟨(p:Int),1,0,⟨by omega,by omega,fun q=>by omega,by omega,by omega,by omega⟩,?_,?_⟩
    · have key:∀ (r:Nat),p+r<l.length→Zm (fun v=>Vx l x x1 x2 v.1) (((p+r:Nat):Int),())=some ((p:Int),(1:Int),(0:Int)):=by
        intro r
        induction r with
        | zero =>
          intro hr
          refine Xe ?_
          simp only [hd,Nat.add_zero,show (0:Int)≤(p:Int) from by omega,if_true,Zn]
          rw [hj,Bq,if_pos rfl]
        | succ r ih =>
          intro hr
          have hy:l[p+(r+1)]?=some (l[p+(r+1)]'hr):=List.getElem?_eq_getElem _
          generalize l[p+(r+1)]'hr=y at hy
          have hlt:=Zkt hi (show p<p+(r+1) by omega) hj hy
          refine (Xh ?_).trans (ih (by omega))
          simp only [hd,show (0:Int)≤((p+(r+1):Nat):Int) from by omega,if_true,Zn,hy,Bq]
          rw [if_neg (by omega),if_neg (by omega),YZ (by omega) (by omega),show ((p+(r+1):Nat):Int)-1=((p+r:Nat):Int) by omega]
      have:=key (l.length-1-p) (by omega)
      rw [show p+(l.length-1-p)=l.length-1 by omega] at this
      rw [YZ (by omega) (by omega),show (l.length:Int)-1=((l.length-1:Nat):Int) by omega]
      exact this
    · rw [if_pos (decide_eq_true (show l[p]?=some c from hj))]
      rfl
  · obtain ⟨h1,h2,h3,h4⟩:=hj
    have hjl:=(List.getElem?_eq_some_iff.1 h2).1
    have hpj:=hp.btw hi ⟨h1,h2,h3,h4⟩
    subst hpj
    have by1:=bd h1
    have bz1:=bd h2
    have hne:¬l[j+1]?=some c:=fun q=>by rw [h2] at q;injection q with q;omega
    refine ⟨(j:Int),z-c,c-y,⟨by omega,by omega,fun q=>by omega,by omega,by omega,by omega⟩,?_,?_⟩
    · have key:∀ (r:Nat),j+r<l.length→Zm (fun v=>Vx l x x1 x2 v.1) (((j+r:Nat):Int),())=some ((j:Int),z-c,c-y):=by
        intro r
        induction r with
        | zero =>
          intro hr
          refine Xe ?_
          simp only [hd,Nat.add_zero,show (0:Int)≤(j:Int) from by omega,if_true,Zn]
          rw [h1,Bq,if_neg (by omega),if_pos h3,Xo (show j≤1048576 by omega),Zn,h2,Bq,YZ (by omega) (by omega),YZ (by omega) (by omega)]
        | succ r ih =>
          intro hr
          have hw:l[j+(r+1)]?=some (l[j+(r+1)]'hr):=List.getElem?_eq_getElem _
          generalize l[j+(r+1)]'hr=w at hw
          have hlt:z≤w:=by
            by_cases q:r=0
            · subst q;rw [h2] at hw;injection hw with hw;omega
            · have:=Zkt hi (show j+1<j+(r+1) by omega) h2 hw;omega
          refine (Xh ?_).trans (ih (by omega))
          simp only [hd,show (0:Int)≤((j+(r+1):Nat):Int) from by omega,if_true,Zn,hw,Bq]
          rw [if_neg (by omega),if_neg (by omega),YZ (by omega) (by omega),show ((j+(r+1):Nat):Int)-1=((j+r:Nat):Int) by omega]
      have:=key (l.length-1-j) (by omega)
      rw [show j+(l.length-1-j)=l.length-1 by omega] at this
      rw [YZ (by omega) (by omega),show (l.length:Int)-1=((l.length-1:Nat):Int) by omega]
      exact this
    · rw [if_neg (by rw [decide_eq_true_eq];exact hne),Zn,h2,Bq,YZ (n:=((j+1:Nat):Int)-1) (by omega) (by omega),show ((j+1:Nat):Int)-1=(j:Int) by omega,Zn,h1,Bq,YZ (by omega) (by omega),YZ (by omega) (by omega),YZ (by omega) (by omega)]
      unfold wl
      rw [if_neg (by omega)]
      simp only [Option.some.injEq,Prod.mk.injEq]
      refine ⟨?_,by omega⟩
      rw [show ((j+1:Nat):Int)=(j:Int)+1 by omega]
/-
  Plain laws: the value of a table, in program and reference; roundings.
-/
theorem Zf7 (a b m:Int):J6 a b m=Yx a b m:=by
  unfold J6 Yx
  by_cases hb:b≠0
  · rw [Zh hb,Zh hb]
    by_cases h1:Int.tmod a b<0
    · have h2:¬(0:Int)<Int.tmod a b:=by omega
      by_cases m0:m=0
      · subst m0;simp only [h1,if_true]
      · by_cases m1:m=1
        · subst m1;simp [h1,h2]
        · simp only [h1,h2,m0,m1,if_true,if_false]
    · by_cases h2:(0:Int)<Int.tmod a b
      · by_cases m0:m=0
        · subst m0;simp [h1,h2]
        · by_cases m1:m=1
          · subst m1;simp [h1,h2]
          · simp only [h1,h2,m0,m1,if_true,if_false]
      · by_cases m0:m=0
        · subst m0;simp [h1,h2]
        · by_cases m1:m=1
          · subst m1;simp [h1,h2]
          · simp only [h1,h2,m0,m1,if_true,if_false]
  · simp only [Zy,if_neg hb]
theorem ZoF {a b m:Int} (hb:0<b) (ha:-4000000000000000000≤a) (ha2:a≤4000000000000000000) (hm:m=0∨m=1):∃ r,Yx a b m=some r∧∀ M:Int,0≤M→M*b≤4000000000000000000→(a≤M*b→r≤M)∧(-(M*b)≤a→-M≤r)∧(0≤a→0≤r):=by
  have e:=Int.mul_tdiv_add_tmod a b
  have m1:=Int.tmod_lt_of_pos a hb
  have m2:=Int.lt_tmod_of_pos a hb
  have up:∀ M:Int,a≤M*b→Int.tdiv a b≤M∧(0<Int.tmod a b→Int.tdiv a b+1≤M):=fun M h=>by
    constructor
    · refine Classical.byContradiction fun q=>?_
      have:=Int.mul_le_mul_of_nonneg_left (show M+1≤Int.tdiv a b by omega) (show 0≤b by omega)
      rw [Int.mul_add,Int.mul_one,Int.mul_comm b M] at this
      omega
    · intro h2
      refine Classical.byContradiction fun q=>?_
      have:=Int.mul_le_mul_of_nonneg_left (show M≤Int.tdiv a b by omega) (show 0≤b by omega)
      rw [Int.mul_comm b M] at this
      omega
  have lo:∀ M:Int,-(M*b)≤a→-M≤Int.tdiv a b∧(Int.tmod a b<0→-M≤Int.tdiv a b-1):=fun M h=>by
    constructor
    · refine Classical.byContradiction fun q=>?_
      have:=Int.mul_le_mul_of_nonneg_left (show Int.tdiv a b≤-(M+1) by omega) (show 0≤b by omega)
      rw [Int.mul_neg,Int.mul_add,Int.mul_one,Int.mul_comm b M] at this
      omega
    · intro h2
      refine Classical.byContradiction fun q=>?_
      have:=Int.mul_le_mul_of_nonneg_left (show Int.tdiv a b≤-M by omega) (show 0≤b by omega)
      rw [Int.mul_neg,Int.mul_comm b M] at this
      omega
  have big:Int.tdiv a b≤4000000000000000000∧-4000000000000000000≤Int.tdiv a b:=by
    have h1:(4000000000000000000:Int)≤4000000000000000000*b:=by omega
    have:=up 4000000000000000000 (by omega)
    have:=lo 4000000000000000000 (by omega)
    omega
  have nn:0≤a→0≤Int.tdiv a b∧¬Int.tmod a b<0:=fun h=>by
    have:=Int.tmod_nonneg b h
    have:=Int.tdiv_nonneg h (show 0≤b by omega)
    omega
  unfold Yx
  rw [Zh (by omega),YZ (n:=Int.tdiv a b) (by omega) (by omega)]
  by_cases h1:Int.tmod a b<0
  · rw [if_pos h1]
    by_cases m0:m=0
    · rw [if_pos m0,YZ (by omega) (by omega)]
      refine ⟨_,rfl,fun M h0 hM=>⟨fun h=>?_,fun h=>?_,fun h=>absurd h1 (nn h).2⟩⟩
      · have:=(up M h).1;omega
      · exact (lo M h).2 h1
    · rw [if_neg m0,if_neg (show ¬(0:Int)<Int.tmod a b by omega)]
      exact ⟨_,rfl,fun M h0 hM=>⟨fun h=>(up M h).1,fun h=>(lo M h).1,fun h=>(nn h).1⟩⟩
  · rw [if_neg h1]
    by_cases h2:(0:Int)<Int.tmod a b
    · rw [if_pos h2]
      by_cases m1':m=1
      · rw [if_pos m1',YZ (by omega) (by omega)]
        refine ⟨_,rfl,fun M h0 hM=>⟨fun h=>(up M h).2 h2,fun h=>?_,fun h=>?_⟩⟩
        · have:=(lo M h).1;omega
        · have:=(nn h).1;omega
      · rw [if_neg m1']
        exact ⟨_,rfl,fun M h0 hM=>⟨fun h=>(up M h).1,fun h=>(lo M h).1,fun h=>(nn h).1⟩⟩
    · rw [if_neg h2]
      exact ⟨_,rfl,fun M h0 hM=>⟨fun h=>(up M h).1,fun h=>(lo M h).1,fun h=>(nn h).1⟩⟩
theorem ZgM {a b A B:Int} (h1:0≤a) (h2:a≤A) (h3:0≤b) (h4:b≤B):0≤a*b∧a*b≤A*B :=
  ⟨Int.mul_nonneg h1 h3,Int.mul_le_mul h2 h4 h3 (by omega)⟩
theorem ZmT {y p M:Int} (h1:-M≤y) (h2:y≤M) (h3:0≤p):-(M*p)≤y*p∧y*p≤M*p:=by
  have a:=Int.mul_le_mul_of_nonneg_right h1 h3
  have b:=Int.mul_le_mul_of_nonneg_right h2 h3
  rw [Int.neg_mul] at a
  exact ⟨a,b⟩
def Zlq (t:Zo) (i k:Int):Int:=(atI (Zo.Values t) (i*((Zo.Loads t).length:Int)+k)).getD 0
def tm (t:Zo) (i k a c:Int):Int:=if 0<a*c then Zlq t i k*(a*c) else 0
theorem Zqr {t:Zo} (h:QT t) {i k:Int} (i0:0≤i) (i1:i<(Zo.Zdy t).length) (k0:0≤k) (k1:k<(Zo.Loads t).length) :
    atI (Zo.Values t) (i*((Zo.Loads t).length:Int)+k)=some (Zlq t i k)∧(-1000000≤Zlq t i k∧Zlq t i k≤1000000)∧0≤i*((Zo.Loads t).length:Int)∧i*((Zo.Loads t).length:Int)≤16:=by
  obtain ⟨h1,h2,h3,h4⟩:=h
  have b:=ZgM i0 (show i≤4 by have:=h1.2.1;omega) (show (0:Int)≤((Zo.Loads t).length:Int) by omega) (show ((Zo.Loads t).length:Int)≤4 by have:=h2.2.1;omega)
  have hlt:i*((Zo.Loads t).length:Int)+k<(Zo.Values t).length:=by
    have e:=Int.mul_le_mul_of_nonneg_right (show i+1≤((Zo.Zdy t).length:Int) by omega) (show (0:Int)≤((Zo.Loads t).length:Int) by omega)
    rw [Int.add_mul,Int.one_mul] at e
    rw [h3,Int.natCast_mul]
    omega
  obtain ⟨x,hx,hx2⟩:=Zpq (l:=Zo.Values t) (i:=i*((Zo.Loads t).length:Int)+k) (by omega) hlt
  have hm:=h4 x (List.mem_of_getElem? hx2)
  have e:Zlq t i k=x:=by unfold Zlq;rw [hx];rfl
  rw [e]
  exact ⟨hx,hm,by omega,by omega⟩
theorem ZqX {t:Zo} (h:QT t) {i k a c:Int} (hi:0<a→0≤i∧i<(Zo.Zdy t).length) (hk:0<c→0≤k∧k<(Zo.Loads t).length) (a0:0≤a) (c0:0≤c):-(1000000*(a*c))≤tm t i k a c∧tm t i k a c≤1000000*(a*c):=by
  unfold tm
  by_cases q:0<a*c
  · rw [if_pos q]
    have ha:0<a:=by
      refine Classical.byContradiction fun z=>?_
      rw [show a=0 by omega,Int.zero_mul] at q;omega
    have hc:0<c:=by
      refine Classical.byContradiction fun z=>?_
      rw [show c=0 by omega,Int.mul_zero] at q;omega
    obtain ⟨_,⟨b1,b2⟩,_⟩:=Zqr h (hi ha).1 (hi ha).2 (hk hc).1 (hk hc).2
    exact ZmT b1 b2 (by omega)
  · rw [if_neg q]
    have:=Int.mul_nonneg a0 c0
    omega
theorem ZwT {t:Zo} {i k a:Int}:tm t i k a 0=0:=by unfold tm;rw [Int.mul_zero,if_neg (by omega)]
theorem ZrW {t:Zo} {i k c:Int}:tm t i k 0 c=0:=by unfold tm;rw [Int.zero_mul,if_neg (by omega)]
def ZsH (t:Zo) (j a b k c d:Int):Int:=tm t j k a c+tm t j (k+1) a d+(tm t (j+1) k b c+tm t (j+1) (k+1) b d)
theorem Zmp {t:Zo} (h:QT t) {w:List JG×Int} {v1 i A s v3 k c:Int} (i0:0≤i) (i1:i<(Zo.Zdy t).length) (A0:0<A) (A1:A≤100000) (hk:atI w.1 v3=some (k,c,())) (hv:v3<w.1.length) (hv2:v3≤10) (hv0:0≤v3) (k0:0≤k) (k1:k<(Zo.Loads t).length) (c0:0<c) (c1:c≤100000) (s1:-100000000000000000≤s) (s2:s≤100000000000000000) :
    Y6 t w v1 (i,A,()) s v3=some (.inl (s+tm t i k A c,v3+1,())):=by
  obtain ⟨hx,⟨b1,b2⟩,b3,b4⟩:=Zqr h i0 i1 k0 k1
  have l4:=h.2.1.2.1
  have p:=ZgM (show 0≤A by omega) A1 (show 0≤c by omega) c1
  have pp:0<A*c:=Int.mul_pos A0 c0
  have q:=ZmT b1 b2 (show 0≤A*c by omega)
  have q1:=ZmT b1 b2 (show 0≤A by omega)
  have e:tm t i k A c=Zlq t i k*(A*c):=by unfold tm;rw [if_pos pp]
  simp only [Y6,if_pos hv,hk,Bq]
  show (atI (Zo.Values t) (Wq (Wq (i*((Zo.Loads t).length:Int))+k))).bind _=_
  rw [YZ (n:=i*((Zo.Loads t).length:Int)) (by omega) (by omega),YZ (n:=i*((Zo.Loads t).length:Int)+k) (by omega) (by omega),hx,Bq]
  show some (Sum.inl (Wq (s+Wq (Wq (Zlq t i k*A)*c)),Wq (v3+1),()))=_
  rw [YZ (n:=Zlq t i k*A) (by omega) (by omega),Int.mul_assoc,YZ (n:=Zlq t i k*(A*c)) (by omega) (by omega),YZ (n:=s+Zlq t i k*(A*c)) (by omega) (by omega),YZ (n:=v3+1) (by omega) (by omega),e]
theorem Zrl {t:Zo} {w:List JG×Int} {v1 s v3:Int} {x:JG} (hv:v3=w.1.length):Y6 t w v1 x s v3=some (.inr (.inl (s,Wq (v1+1),()))):=by
  simp only [Y6,if_neg (show ¬v3<(w.1.length:Int) by omega)]
theorem Zrm {t:Zo} (h:QT t) {w:List JG×Int} {k c d:Int} (hw:w.1=wl k c d) (hk:Zyb (Zo.Loads t) k c d) {v1 i A s:Int} (i0:0≤i) (i1:i<(Zo.Zdy t).length) (A0:0<A) (A1:A≤100000) (s1:-50000000000000000≤s) (s2:s≤50000000000000000) :
    Zm (fun v=>Y6 t w v1 (i,A,()) v.1 v.2.1) (s,(0:Int),())=some (.inl (s+(tm t i k A c+tm t i (k+1) A d),Wq (v1+1),())):=by
  have hab:=hk.ab;have ha0:=hk.a0;have hb0:=hk.b0;have hj0:=hk.j0;have hjl:=hk.jl
  have p:=ZgM (show 0≤A by omega) A1 (show 0≤c by omega) (show c≤100000 by omega)
  have q:=ZqX h (i:=i) (k:=k) (a:=A) (c:=c) (fun _=>⟨i0,i1⟩) (fun _=>⟨hj0,hjl⟩) (by omega) (by omega)
  unfold wl at hw
  by_cases hd:d=0
  · rw [if_pos hd] at hw
    subst hd
    refine (Xh (v':=(s+tm t i k A c,(1:Int),())) ?_).trans (Xe ?_)
    · exact Zmp (s:=s) (v3:=0) h i0 i1 A0 A1 (by rw [hw];rfl) (by rw [hw];show (0:Int)<((1:Nat):Int);omega) (by omega) (by omega) hj0 hjl ha0 (by omega) (by omega) (by omega)
    · rw [ZwT,Int.add_zero]
      exact Zrl (by rw [hw];rfl)
  · rw [if_neg hd] at hw
    have hjb:=hk.jb (by omega)
    refine (Xh (v':=(s+tm t i k A c,(1:Int),())) ?_).trans ((Xh (v':=(s+tm t i k A c+tm t i (k+1) A d,(2:Int),())) ?_).trans (Xe ?_))
    · exact Zmp (s:=s) (v3:=0) h i0 i1 A0 A1 (by rw [hw];rfl) (by rw [hw];show (0:Int)<((2:Nat):Int);omega) (by omega) (by omega) hj0 hjl ha0 (by omega) (by omega) (by omega)
    · exact Zmp (s:=s+tm t i k A c) (v3:=1) h i0 i1 A0 A1 (by rw [hw];rfl) (by rw [hw];show (1:Int)<((2:Nat):Int);omega) (by omega) (by omega) (by omega) hjb (by omega) (by omega) (by omega) (by omega)
    · rw [←Int.add_assoc]
      exact Zrl (by rw [hw];rfl)
theorem Zp5 {t:Zo} (h:QT t) {j k:Int} {v1 v3 s W1 a c:Int} (hv1:v1=0∨v1=1) (hv3:v3=0∨v3=1) (hj:0≤j) (hj1:0<a→j+v1<(Zo.Zdy t).length) (hj4:j≤4) (hk:0≤k) (hk1:0<c→k+v3<(Zo.Loads t).length) (a0:0≤a) (a1:a≤100000) (c0:0≤c) (c1:c≤100000) (s1:-100000000000000000≤s) (s2:s≤100000000000000000) :
    (if (0:Int)<Wq (a*c) then
          (atI (Zo.Values t) (Wq (Wq (Wq (Wq (j+v1)*(↑(List.length (Zo.Loads t)):Int))+k)+v3))).bind fun x0 =>
          some (Sum.inl (Wq (s+Wq (Wq (a*c)*x0)),Wq (v3+(1:Int)),()))
        else
          some (.inl (s,Wq (v3+(1:Int)),())):Option ((Int×Int×Unit) ⊕ ((Int×Int×Unit) ⊕ Int)))=some (.inl (s+tm t (j+v1) (k+v3) a c,v3+1,())):=by
  have p:=ZgM a0 a1 c0 c1
  rw [YZ (n:=a*c) (by omega) (by omega),YZ (n:=v3+1) (by omega) (by omega)]
  by_cases pp:0<a*c
  · have ha:0<a:=by
      refine Classical.byContradiction fun z=>?_
      rw [show a=0 by omega,Int.zero_mul] at pp;omega
    have hc:0<c:=by
      refine Classical.byContradiction fun z=>?_
      rw [show c=0 by omega,Int.mul_zero] at pp;omega
    obtain ⟨hx,⟨b1,b2⟩,b3,b4⟩:=Zqr h (i:=j+v1) (k:=k+v3) (by omega) (hj1 ha) (by omega) (hk1 hc)
    have l4:=h.2.1.2.1
    have kk:=hk1 hc
    have q:=ZmT b1 b2 (show 0≤a*c by omega)
    rw [if_pos pp,YZ (n:=j+v1) (by omega) (by omega),YZ (n:=(j+v1)*((Zo.Loads t).length:Int)) (by omega) (by omega),YZ (n:=(j+v1)*((Zo.Loads t).length:Int)+k) (by omega) (by omega),Int.add_assoc,YZ (n:=(j+v1)*((Zo.Loads t).length:Int)+(k+v3)) (by omega) (by omega),hx,Bq]
    unfold tm
    rw [if_pos pp,Int.mul_comm (a*c),YZ (n:=Zlq t (j+v1) (k+v3)*(a*c)) (by omega) (by omega),YZ (by omega) (by omega)]
  · rw [if_neg pp]
    unfold tm
    rw [if_neg pp,Int.add_zero]
/-
  Plain laws: look-ups in tables: program and reference alike.
-/
theorem ZrS {t:Zo} (h:QT t) {j a b k c d:Int} (hj:Zyb (Zo.Zdy t) j a b) (hk:Zyb (Zo.Loads t) k c d) {v1 s A:Int} (hv:v1=0∧A=a∨v1=1∧A=b) (s1:-50000000000000000≤s) (s2:s≤50000000000000000) :
    Zm (fun v=>Xm t (j,a,b) (k,c,d) v1 v.1 v.2.1) (s,(0:Int),())=some (.inl (s+(tm t (j+v1) k A c+tm t (j+v1) (k+1) A d),Wq (v1+1),())):=by
  have j1:=hj.ab;have j2:=hj.a0;have j3:=hj.b0;have j4:=hj.j0;have j5:=hj.jl;have j6:=hj.jb
  have k1:=hk.ab;have k2:=hk.a0;have k3:=hk.b0;have k4:=hk.j0;have k5:=hk.jl;have k6:=hk.jb
  have l4:=h.1.2.1
  have A0:0≤A∧A≤100000∧(0<A→j+v1<(Zo.Zdy t).length)∧0≤j+v1:=by
    rcases hv with ⟨rfl,rfl⟩ | ⟨rfl,rfl⟩
    · exact ⟨by omega,by omega,fun _=>by omega,by omega⟩
    · exact ⟨by omega,by omega,fun q=>j6 q,by omega⟩
  obtain ⟨A1,A2,A3,A4⟩:=A0
  have p:=ZgM A1 A2 (show 0≤c by omega) (show c≤100000 by omega)
  have q:=ZqX h (i:=j+v1) (k:=k) (a:=A) (c:=c) (fun z=>⟨A4,A3 z⟩) (fun _=>⟨k4,k5⟩) A1 (by omega)
  have p2:=ZgM A1 A2 (show 0≤d by omega) (show d≤100000 by omega)
  have q2:=ZqX h (i:=j+v1) (k:=k+1) (a:=A) (c:=d) (fun z=>⟨A4,A3 z⟩) (fun z=>⟨by omega,k6 z⟩) A1 (by omega)
  have hv1:v1=0∨v1=1:=by omega
  refine (Xh (v':=(s+tm t (j+v1) (k+0) A c,0+1,())) ?_).trans ((Xh (v':=(s+tm t (j+v1) (k+0) A c+tm t (j+v1) (k+1) A d,1+1,())) ?_).trans (Xe ?_))
  · have e:=Zp5 h (v1:=v1) (v3:=0) (s:=s) (W1:=0) (a:=A) (c:=c) hv1 (.inl rfl) j4 A3 (by omega) k4 (fun _=>by omega) A1 A2 (by omega) (by omega) (by omega) (by omega)
    show Xm t (j,a,b) (k,c,d) v1 s 0=_
    unfold Xm
    rw [if_pos (by decide)]
    rcases hv with ⟨rfl,rfl⟩ | ⟨rfl,rfl⟩
    · rw [if_neg (by decide),if_pos rfl];exact e
    · rw [if_pos rfl,if_pos rfl];exact e
  · rw [Int.add_zero]
    have e:=Zp5 h (v1:=v1) (v3:=1) (s:=s+tm t (j+v1) k A c) (W1:=0) (a:=A) (c:=d) hv1 (.inr rfl) j4 A3 (by omega) k4 (fun z=>k6 z) A1 A2 (by omega) (by omega) (by omega) (by omega)
    show Xm t (j,a,b) (k,c,d) v1 (s+tm t (j+v1) k A c) 1=_
    unfold Xm
    rw [if_pos (by decide)]
    rcases hv with ⟨rfl,rfl⟩ | ⟨rfl,rfl⟩
    · rw [if_neg (by decide),if_neg (by decide)];exact e
    · rw [if_pos rfl,if_neg (by decide)];exact e
  · rw [Int.add_zero]
    show Xm t (j,a,b) (k,c,d) v1 (s+tm t (j+v1) k A c+tm t (j+v1) (k+1) A d) 2=_
    unfold Xm
    rw [if_neg (by decide),Int.add_assoc]
theorem look_eq {t:Zo} (h:QT t) (s l:Int) {m:Int} (hm:m=0∨m=1):∃ r,VX t s l m=some r∧Zao t s l m=some r∧-1000000≤r∧r≤1000000:=by
  obtain ⟨j,a,b,hj,e1,e2⟩:=Zom h.1 s
  obtain ⟨k,c,d,hk,e3,e4⟩:=Zom h.2.1 l
  have j1:=hj.ab;have j2:=hj.a0;have j3:=hj.b0;have j4:=hj.j0;have j5:=hj.jl;have j6:=hj.jb
  have k1:=hk.ab;have k2:=hk.a0;have k3:=hk.b0;have k4:=hk.j0;have k5:=hk.jl;have k6:=hk.jb
  have p1:=ZgM (show 0≤a by omega) (show a≤100000 by omega) (show 0≤c by omega) (show c≤100000 by omega)
  have p2:=ZgM (show 0≤a by omega) (show a≤100000 by omega) (show 0≤d by omega) (show d≤100000 by omega)
  have p3:=ZgM (show 0≤b by omega) (show b≤100000 by omega) (show 0≤c by omega) (show c≤100000 by omega)
  have p4:=ZgM (show 0≤b by omega) (show b≤100000 by omega) (show 0≤d by omega) (show d≤100000 by omega)
  have pp:=Int.mul_pos j2 k2
  have q1:=ZqX h (i:=j) (k:=k) (a:=a) (c:=c) (fun _=>⟨j4,j5⟩) (fun _=>⟨k4,k5⟩) (by omega) (by omega)
  have q2:=ZqX h (i:=j) (k:=k+1) (a:=a) (c:=d) (fun _=>⟨j4,j5⟩) (fun z=>⟨by omega,k6 z⟩) (by omega) (by omega)
  have q3:=ZqX h (i:=j+1) (k:=k) (a:=b) (c:=c) (fun z=>⟨by omega,j6 z⟩) (fun _=>⟨k4,k5⟩) (by omega) (by omega)
  have q4:=ZqX h (i:=j+1) (k:=k+1) (a:=b) (c:=d) (fun z=>⟨by omega,j6 z⟩) (fun z=>⟨by omega,k6 z⟩) (by omega) (by omega)
  have eT:(a+b)*(c+d)=a*c+a*d+(b*c+b*d):=by rw [Int.add_mul,Int.mul_add,Int.mul_add]
  obtain ⟨r,hr,hb⟩:=ZoF (a:=ZsH t j a b k c d) (b:=(a+b)*(c+d)) (m:=m) (by omega) (by unfold ZsH;omega) (by unfold ZsH;omega) hm
  have hbd:=hb 1000000 (by omega) (by omega)
  refine ⟨r,?_,?_,hbd.2.1 (by unfold ZsH;omega),hbd.1 (by unfold ZsH;omega)⟩
  · have fin:∀ v1:Int,v1=(wl j a b).length→Yj t m (wl j a b,a+b) (wl k c d,c+d) (ZsH t j a b k c d) v1=some (.inr r):=fun v1 hv=>by
      simp only [Yj,hv,Int.lt_irrefl,if_false]
      rw [YZ (n:=(a+b)*(c+d)) (by omega) (by omega),Zf7,hr,Bq]
    unfold VX
    rw [e2,e4,Bq,Bq]
    have r1:=Zrm h (w:=(wl k c d,c+d)) (v1:=0) (i:=j) (A:=a) (s:=0) rfl hk j4 j5 j2 (by omega) (by omega) (by omega)
    by_cases hz:b=0
    · have ew:wl j a b=[(j,a,())]:=by unfold wl;rw [if_pos hz]
      refine (Xh (v':=(ZsH t j a b k c d,(1:Int),())) ?_).trans (Xe (fin 1 (by rw [ew];rfl)))
      show Yj t m (wl j a b,a+b) (wl k c d,c+d) 0 0=_
      unfold Yj
      rw [if_pos (by rw [ew];show (0:Int)<((1:Nat):Int);omega),show atI (wl j a b,a+b).fst (0:Int)=some (j,a,()) by rw [ew];rfl,Bq]
      refine r1.trans ?_
      unfold ZsH
      rw [hz,ZrW,ZrW,Int.add_zero,Int.add_zero,Int.zero_add]
      rfl
    · have ew:wl j a b=[(j,a,()),(j+1,b,())]:=by unfold wl;rw [if_neg hz]
      have r2:=Zrm h (w:=(wl k c d,c+d)) (v1:=1) (i:=j+1) (A:=b) (s:=tm t j k a c+tm t j (k+1) a d) rfl hk (by omega) (j6 (by omega)) (by omega) (by omega) (by omega) (by omega)
      refine (Xh (v':=(tm t j k a c+tm t j (k+1) a d,(1:Int),())) ?_).trans ((Xh (v':=(ZsH t j a b k c d,(2:Int),())) ?_).trans (Xe (fin 2 (by rw [ew];rfl))))
      · show Yj t m (wl j a b,a+b) (wl k c d,c+d) 0 0=_
        unfold Yj
        rw [if_pos (by rw [ew];show (0:Int)<((2:Nat):Int);omega),show atI (wl j a b,a+b).fst (0:Int)=some (j,a,()) by rw [ew];rfl,Bq]
        refine r1.trans ?_
        rw [Int.zero_add]
        rfl
      · show Yj t m (wl j a b,a+b) (wl k c d,c+d) (tm t j k a c+tm t j (k+1) a d) 1=_
        unfold Yj
        rw [if_pos (by rw [ew];show (1:Int)<((2:Nat):Int);omega),show atI (wl j a b,a+b).fst (1:Int)=some (j+1,b,()) by rw [ew];rfl,Bq]
        exact r2
  · unfold Zao
    rw [e1,e3,Bq,Bq]
    have r1:=ZrS h hj hk (v1:=0) (s:=0) (A:=a) (.inl ⟨rfl,rfl⟩) (by omega) (by omega)
    have r2:=ZrS h hj hk (v1:=1) (s:=tm t j k a c+tm t j (k+1) a d) (A:=b) (.inr ⟨rfl,rfl⟩) (by omega) (by omega)
    refine (Xh (v':=(tm t j k a c+tm t j (k+1) a d,(1:Int),())) ?_).trans ((Xh (v':=(ZsH t j a b k c d,(2:Int),())) ?_).trans (Xe ?_))
    · show X0 t m (j,a,b) (k,c,d) 0 0=_
      unfold X0
      rw [if_pos (by decide)]
      refine r1.trans ?_
      rw [Int.add_zero,Int.zero_add]
      rfl
    · show X0 t m (j,a,b) (k,c,d) (tm t j k a c+tm t j (k+1) a d) 1=_
      unfold X0
      rw [if_pos (by decide)]
      exact r2
    · show X0 t m (j,a,b) (k,c,d) (ZsH t j a b k c d) 2=_
      unfold X0
      rw [if_neg (by decide)]
      show (Yx (ZsH t j a b k c d) (Wq (Wq (a+b)*Wq (c+d))) m).bind _=_
      rw [YZ (n:=a+b) (by omega) (by omega),YZ (n:=c+d) (by omega) (by omega),YZ (n:=(a+b)*(c+d)) (by omega) (by omega),hr]
      rfl
/-
  Plain ground: roots, rounded (no program in sight).
-/
def Zui (n r:Nat):Prop:=r*r≤n∧n<(r+1)*(r+1)
theorem ZxI {n r:Nat} (h:Zui n r) (k:Nat):k≤r↔k*k≤n:=by
  constructor
  · intro q
    exact Nat.le_trans (Nat.mul_le_mul q q) h.1
  · intro q
    by_cases c:k≤r
    · exact c
    · have:(r+1)*(r+1)≤k*k:=Nat.mul_le_mul (by omega) (by omega)
      have:=h.2
      omega
theorem Zvw (k:Nat):(2*k)*(2*k)=4*(k*k):=by
  rw [Nat.mul_mul_mul_comm]
theorem Zu9 {S r R:Nat} (h:Zui S r) (H:Zui (4*S) R):r / 500=R / 1000:=by
  have e:∀ q:Nat,500*q≤r↔1000*q≤R:=fun q=>by
    rw [ZxI h,ZxI H,show 1000*q=2*(500*q) by omega,Zvw]
    omega
  have e1:=e (r / 500)
  have e2:=e (R / 1000)
  omega
def upQ (x n:Nat):Nat:=if x % n=0 then x / n else x / n+1
theorem Zvz {x n q:Nat} (hn:0<n):upQ x n≤q↔x≤n*q:=by
  unfold upQ
  have h1:=Nat.div_add_mod x n
  have h2:=Nat.mod_lt x hn
  constructor
  · intro h
    split at h
    · rename_i c
      have:=Nat.mul_le_mul_left n h
      omega
    · have:=Nat.mul_le_mul_left n h
      rw [Nat.mul_add,Nat.mul_one] at this
      omega
  · intro h
    split
    · rename_i c
      refine Nat.le_of_mul_le_mul_left (c:=n) ?_ hn
      omega
    · rename_i c
      have:n*(x / n)<n*q:=by omega
      have:=Nat.lt_of_mul_lt_mul_left this
      omega
theorem Zwc {S r R:Nat} (h:Zui S r) (H:Zui (4*S) R):(if r*r<S then r / 500+1 else upQ r 500)=upQ (if R*R<4*S then R+1 else R) 1000:=by
  have hup:∀ {n x:Nat},Zui n x→∀ k,(if x*x<n then x+1 else x)≤k↔n≤k*k:=by
    intro n x hx k
    split
    · rename_i c
      constructor
      · intro q
        have:(x+1)*(x+1)≤k*k:=Nat.mul_le_mul q q
        have:=hx.2
        omega
      · intro q
        by_cases w:x+1≤k
        · exact w
        · have:k*k≤x*x:=Nat.mul_le_mul (by omega) (by omega)
          omega
    · rename_i c
      have e:x*x=n:=by have:=hx.1;omega
      constructor
      · intro q
        rw [←e]
        exact Nat.mul_le_mul q q
      · intro q
        by_cases w:x≤k
        · exact w
        · have:(k+1)*(k+1)≤x*x:=Nat.mul_le_mul (by omega) (by omega)
          have:(k+1)*(k+1)=k*k+2*k+1:=by rw [Nat.add_mul,Nat.mul_add];omega
          omega
  have e1:∀ q,(if r*r<S then r / 500+1 else upQ r 500)≤q↔S≤(500*q)*(500*q):=fun q=>by
    rw [←hup h (500*q)]
    split
    · omega
    · exact Zvz (by decide)
  have e2:∀ q,upQ (if R*R<4*S then R+1 else R) 1000≤q↔S≤(500*q)*(500*q):=fun q=>by
    rw [Zvz (by decide),hup H,show 1000*q=2*(500*q) by omega,Zvw]
    omega
  generalize (if r*r<S then r / 500+1 else upQ r 500)=A at e1 ⊢
  generalize upQ (if R*R<4*S then R+1 else R) 1000=B at e2 ⊢
  have a:=(e2 A).2 ((e1 A).1 (Nat.le_refl _))
  have c:=(e1 B).2 ((e2 B).1 (Nat.le_refl _))
  omega
theorem ZpY {ρ:Type} {n H:Nat} (hn:n<(H+1)*(H+1)) {step:Int×Int×Unit→Option ((Int×Int×Unit) ⊕ ρ)} {good:Nat→ρ}
    (h1:∀ lo hi:Nat,lo<hi→hi≤H→step ((lo:Int),(hi:Int),())=some (.inl (if (lo+hi+1) / 2*((lo+hi+1) / 2)≤n then ((((lo+hi+1) / 2:Nat):Int),(hi:Int),()) else ((lo:Int),(((lo+hi+1) / 2-1:Nat):Int),()))))
    (h2:∀ lo:Nat,lo≤H→step ((lo:Int),(lo:Int),())=some (.inr (good lo))):∃ r,Zui n r∧r≤H∧Zm step ((0:Int),(H:Int),())=some (good r):=by
  obtain ⟨x,e,r,rfl,hr,hl⟩:=ZfW (step:=step) (v:=((0:Int),(H:Int),())) (fun v=>∃ lo hi:Nat,v=((lo:Int),(hi:Int),())∧lo≤hi∧hi≤H∧lo*lo≤n∧n<(hi+1)*(hi+1)) (fun v=>(v.2.1-v.1).toNat) (fun x=>∃ r,x=good r∧Zui n r∧r≤H)
    ⟨0,H,rfl,by omega,by omega,by omega,hn⟩ (by
      rintro _ ⟨lo,hi,rfl,hle,hH,hlo,hhi⟩
      by_cases c:lo<hi
      · left
        refine ⟨_,h1 lo hi c hH,?_,?_⟩
        · split
          · rename_i d
            exact ⟨_,_,rfl,by omega,hH,d,hhi⟩
          · rename_i d
            refine ⟨_,_,rfl,by omega,by omega,hlo,?_⟩
            rw [show (lo+hi+1) / 2-1+1=(lo+hi+1) / 2 by omega]
            omega
        · split
          · simp only;omega
          · simp only;omega
      · right
        have:lo=hi:=by omega
        subst this
        exact ⟨_,h2 lo hH,lo,rfl,⟨hlo,hhi⟩,hH⟩)
  exact ⟨r,hr,hl,e⟩
/-
  Plain laws: cells and libraries.
-/
def ZeL (o a:Zw):Prop:=Zw.Kind o=Zw.Kind a∧Zw.From o=Zw.From a∧Zw.To o=Zw.To a
def Apart (l:List Zw) (k:Nat) (a:Zw):Prop:=∀ (j:Nat) (o:Zw),j<k→l[j]?=some o→¬ZeL o a
structure Zn0 (c:Zi):Prop where
  name:(Zi.Name c).length≤4611686018427387904
  pins:sm (.sl Zdx) (Zi.Yy c)
  arcs:sm (.sl ZdP) (Zi.VI c)
  truth:sm (.sl (.int .i64)) (Zi.Truth c)
theorem Zvu {c:Zi} (h:sm Qz c):Zn0 c:=⟨ZfU h.1,h.2.2.1,h.2.2.2.1,h.2.2.2.2.1⟩
theorem ZxP {a:Zw} (h:sm ZdP a):sm (.sl YE) (Zw.Delay a)∧sm (.sl YE) (Zw.X7 a):=⟨h.2.2.2.2.1,h.2.2.2.2.2.1⟩
theorem ZjA (o a:Zw):X4 o a=some (tr (ZeL o a)):=by
  unfold X4 ZeL
  exact YK (fun _=>YK (fun _=>ZcQ decide_eq_true_iff))
theorem Zml (c:Zi) (h:Zn0 c):ZaA c=some (tr ((Zi.VI c).length≤8∧Zeq (Zi.VI c) (fun k a=>Zuh c a∧Apart (Zi.VI c) k a))):=by
  unfold ZaA
  have hs:=ZA h.arcs
  rw [QX (XE h.arcs) (fun k a=>Zuh c a∧Apart (Zi.VI c) k a) (bad:=false) (good:=decide ((Zi.VI c).length≤8))
    (fun k a hx hk _=>by
      obtain ⟨h1,h2⟩:=ZxP (ZgO h.arcs hx)
      simp only [Je,show (k:Int)<((Zi.VI c).length:Int) from by omega,if_true,Zn,hx,Bq,ZoL c a h.pins h1 h2]
      by_cases hA:Zuh c a
      · rw [if_pos (Yc hA),Zh (by omega),Zh (by omega)]
        simp only [Int.toNat_natCast,Int.toNat_zero,List.drop_zero,Nat.sub_zero]
        rw [XI (by show ((Zi.VI c).take k).length≤4611686018427387904;rw [List.length_take];omega) (fun o=>tr (ZeL o a)) (fun o _=>ZjA o a),Bq]
        have e:((Zi.VI c).take k).any (fun o=>tr (ZeL o a))=true↔¬Apart (Zi.VI c) k a:=by
          rw [List.any_eq_true]
          constructor
          · rintro ⟨o,ho,hs⟩ hap
            obtain ⟨j,hj⟩:=List.mem_iff_getElem?.1 ho
            rw [List.getElem?_take] at hj
            split at hj
            · rename_i hjk;exact hap j o hjk hj ((Xx _).1 hs)
            · cases hj
          · intro hn
            apply Classical.byContradiction
            intro hno
            refine hn (fun j o hj ho hs=>hno ⟨o,?_,Yc hs⟩)
            exact List.mem_iff_getElem?.2 ⟨j,by rw [List.getElem?_take,if_pos hj];exact ho⟩
        constructor
        · rintro ⟨_,hap⟩;rw [if_neg (fun hh=>e.1 hh hap)]
        · intro hn;rw [if_pos (e.2 (fun hap=>hn ⟨hA,hap⟩))]
      · rw [if_neg (by rw [Z7 hA];simp)]
        exact ⟨fun hh=>absurd hh.1 hA,fun _=>rfl⟩)
    (fun _=>by
      simp only [Je,Int.lt_irrefl,if_false]
      congr 2
      rw [decide_eq_decide];omega)]
  congr 1
  refine ZcS ?_
  rw [Xx]
  by_cases hA:Zeq (Zi.VI c) (fun k a=>Zuh c a∧Apart (Zi.VI c) k a)
  · rw [XU hA,decide_eq_true_eq];exact ⟨fun h=>⟨h,hA⟩,fun h=>h.1⟩
  · rw [Xu hA];exact ⟨fun h=>(by cases h),fun h=>absurd h.2 hA⟩
def Zpi (c:Zi) (k:Int):Prop:=∃ a∈Zi.VI c,Zw.Kind a=k
theorem ZcX (c:Zi) (k:Int) (h:Zn0 c):QF c k=some (tr (Zpi c k)):=by
  unfold QF
  rw [X8 (XE h.arcs) (fun a=>decide (Zw.Kind a=k)) (fun a _=>rfl),Bq]
  refine ZcQ ?_
  rw [List.any_eq_true]
  simp only [decide_eq_true_eq,Zpi]
def ZeU (c:Zi):Prop :=
  (Zi.Kind c=1∧ZlR (Zi.Yy c)=0∧(Zi.Truth c).length=2 ^ ((Zi.Yy c).length-1)∧Zf0 (Zi.Truth c) 0 1)∨
  (Zi.Kind c=2∧ZlR (Zi.Yy c)=1∧(Zi.Truth c).length=0∧¬Zpi c 1∧(Zpi c 2↔¬Zpi c 3))∨
  (Zi.Kind c=3∧ZlR (Zi.Yy c)=1∧(Zi.Truth c).length=0∧Zpi c 1∧Zpi c 2∧¬Zpi c 3)
theorem ZtN {n:Nat} (h:n≤4):(2:Nat) ^ n≤16:=by
  calc (2:Nat) ^ n≤2 ^ 4:=Nat.pow_le_pow_right (by omega) h
    _=16:=rfl
theorem Zxg {m:Nat} (h:m≤4):Wq ((1:Int)*(2:Int) ^ min m (IntKind.bits IntKind.i64))=((2 ^ m:Nat):Int):=by
  have hb:min m (IntKind.bits IntKind.i64)=m:=Nat.min_eq_left (by show m≤64;omega)
  have e:(1:Int)*(2:Int) ^ m=((2 ^ m:Nat):Int):=by simp
  rw [hb,e]
  have h16:=ZtN h
  clear hb e
  generalize 2 ^ m=g at h16 ⊢
  rw [YZ (by omega) (by omega)]
theorem Zlv (c:Zi) (h:Zn0 c) (hp:Zir (Zi.Yy c)):JN c=some (tr (ZeU c)):=by
  unfold JN
  have h2:=hp.1
  have h5:=hp.2.1
  refine (show Zm (fun v=>XA c v.1 v.2.1) ((0:Int),(0:Int),())=_ from Jl (l:=Zi.Yy c) (ρ:=Bool) (fun k=>((((Zi.Yy c).take k).countP (fun p=>Yn.Clock p):Int),(k:Int),())) (step:=fun v=>XA c v.1 v.2.1)
    (fun k p hx hk=>by
      have hcnt:((Zi.Yy c).take k).countP (fun p=>Yn.Clock p)≤5:=by
        have h1:=List.countP_le_length (p:=fun p=>Yn.Clock p) (l:=(Zi.Yy c).take k)
        rw [List.length_take] at h1;omega
      have hnext:((Zi.Yy c).take (k+1)).countP (fun p=>Yn.Clock p)=((Zi.Yy c).take k).countP (fun p=>Yn.Clock p)+if Yn.Clock p=true then 1 else 0:=by
        rw [YP hx,List.countP_append];simp [List.countP_cons]
      simp only [XA,show (k:Int)<((Zi.Yy c).length:Int) from by omega,if_true,Zn,hx,Bq,hnext]
      by_cases hc:Yn.Clock p=true
      · rw [if_pos hc,if_pos hc,Xo (by omega),Xo (by omega)]
      · rw [if_neg hc,if_neg hc,Xo (by omega)];rfl)
    ?_)
  have hout:=Zbs c h.pins
  simp only [XA,Int.lt_irrefl,if_false,List.take_length,hout,Bq,show (((Zi.Yy c).length:Int)-1).toNat=(Zi.Yy c).length-1 from by omega,Zxg (show (Zi.Yy c).length-1≤4 by omega)]
  have e00:((Zi.Yy c).countP (fun p=>Yn.Clock p):Int)=0↔ZlR (Zi.Yy c)=0:=by unfold ZlR;omega
  have e01:((Zi.Yy c).countP (fun p=>Yn.Clock p):Int)=1↔ZlR (Zi.Yy c)=1:=by unfold ZlR;omega
  unfold ZeU
  by_cases k1:Zi.Kind c=1
  · simp only [k1,if_true]
    by_cases hc:ZlR (Zi.Yy c)=0
    · rw [if_pos (e00.2 hc),Zh (by omega)]
      by_cases ht:(Zi.Truth c).length=2 ^ ((Zi.Yy c).length-1)
      · rw [if_pos (by rw [ht]),ZaC _ _ _ (XE h.truth),Bq]
        congr 2
        refine (ZnX ?_).symm
        rw [Zjj]
        exact ⟨fun hh=>.inl ⟨trivial,hc,ht,hh⟩,fun hh=>by grind⟩
      · rw [if_neg (by omega),Z7 (by grind)]
    · rw [if_neg (fun hh=>hc (e00.1 hh)),Z7 (by grind)]
  by_cases k2:Zi.Kind c=2
  · simp only [k2,if_true,Int.reduceEq,if_false]
    by_cases hc:ZlR (Zi.Yy c)=1
    · rw [if_pos (e01.2 hc)]
      by_cases ht:(Zi.Truth c).length=0
      · rw [if_pos (by omega),ZcX c 1 h,Bq]
        by_cases h1:Zpi c 1
        · rw [if_pos (Yc h1),Z7 (by grind)]
        · rw [if_neg (by rw [Z7 h1];simp),ZcX c 2 h,ZcX c 3 h]
          simp only [Bq]
          congr 2
          refine (ZnX ?_).symm
          by_cases a:Zpi c 2<;>by_cases b:Zpi c 3<;>simp only [Yc,Z7,a,b,not_false_eq_true]<;>grind
      · rw [if_neg (by omega),Z7 (by grind)]
    · rw [if_neg (fun hh=>hc (e01.1 hh)),Z7 (by grind)]
  by_cases k3:Zi.Kind c=3
  · simp only [k3,if_true,Int.reduceEq,if_false]
    by_cases hc:ZlR (Zi.Yy c)=1
    · rw [if_pos (e01.2 hc)]
      by_cases ht:(Zi.Truth c).length=0
      · rw [if_pos (by omega),ZcX c 1 h,Bq]
        by_cases h1:Zpi c 1
        · rw [if_pos (Yc h1),ZcX c 2 h,Bq]
          by_cases h2:Zpi c 2
          · rw [if_pos (Yc h2),ZcX c 3 h,Bq]
            congr 2
            refine (ZnX ?_).symm
            rw [Bool.not_eq_true',←Bool.not_eq_true,Xx]
            grind
          · rw [if_neg (by rw [Z7 h2];simp),Z7 (by grind)]
        · rw [if_neg (by rw [Z7 h1];simp),Z7 (by grind)]
      · rw [if_neg (by omega),Z7 (by grind)]
    · rw [if_neg (fun hh=>hc (e01.1 hh)),Z7 (by grind)]
  · simp only [k1,k2,k3,if_false]
    rw [Z7 (by grind)]
def Zxc (c:Zi):Prop:=Jv (Zi.Name c)=true∧Zir (Zi.Yy c)∧((Zi.VI c).length≤8∧Zeq (Zi.VI c) (fun k a=>Zuh c a∧Apart (Zi.VI c) k a))∧(0≤Zi.Zuj c∧Zi.Zuj c≤100000)∧(0≤Zi.Ziq c∧Zi.Ziq c≤100000)∧ZeU c
def Zio (c:Zi):Prop:=Jv (Zi.Name c)=true∧Zir (Zi.Yy c)∧((Zi.VI c).length≤8∧Zeq (Zi.VI c) (fun k a=>Zki c a∧Apart (Zi.VI c) k a))∧(0≤Zi.Zuj c∧Zi.Zuj c≤100000)∧(0≤Zi.Ziq c∧Zi.Ziq c≤100000)∧ZeU c
theorem ZrF {l:List Yn} {i j:Nat} {p q:Yn} (hij:i<j) (hp:l[i]?=some p) (hq:l[j]?=some q) (cp:Yn.Clock p=true) (cq:Yn.Clock q=true):2≤ZlR l:=by
  unfold ZlR
  have e:l.countP (fun p=>Yn.Clock p)=(l.take j).countP (fun p=>Yn.Clock p)+(l.drop j).countP (fun p=>Yn.Clock p):=by rw [←List.countP_append,List.take_append_drop]
  have h1:0<(l.take j).countP (fun p=>Yn.Clock p):=List.countP_pos_iff.2 ⟨p,List.mem_iff_getElem?.2 ⟨i,by rw [List.getElem?_take,if_pos hij];exact hp⟩,cp⟩
  have h2:0<(l.drop j).countP (fun p=>Yn.Clock p):=List.countP_pos_iff.2 ⟨q,List.mem_iff_getElem?.2 ⟨0,by rw [List.getElem?_drop];exact hq⟩,cq⟩
  omega
theorem Zn5 {l:List Yn} (h:ZlR l≤1) {i:Int} (h0:0≤i):Zoy l i=true↔i=Zg5 l:=by
  unfold Zg5 ZbR Zoy
  constructor
  · intro hc
    split at hc
    · rename_i p hp
      split
      · rename_i j hj
        obtain ⟨hj1,hj2,hj3⟩:=List.findIdx?_eq_some_iff_getElem.1 hj
        have hjg:l[j]?=some l[j]:=List.getElem?_eq_getElem hj1
        rcases Nat.lt_trichotomy i.toNat j with hlt | heq | hlt
        · have:=ZrF hlt hp hjg hc hj2;omega
        · omega
        · have:=ZrF hlt hjg hp hj2 hc;omega
      · rename_i hn
        rw [List.findIdx?_eq_none_iff] at hn
        have:=hn p (List.mem_of_getElem? hp)
        rw [hc] at this;cases this
    · cases hc
  · intro hi
    split at hi
    · rename_i j hj
      obtain ⟨hj1,hj2,hj3⟩:=List.findIdx?_eq_some_iff_getElem.1 hj
      subst hi
      rw [Int.toNat_natCast,List.getElem?_eq_getElem hj1]
      exact hj2
    · omega
theorem Zr5 {l:List Yn} (h:Zir l):Zoy l ((l.length:Int)-1)=false:=by
  have h2:=h.1
  have hp:l[l.length-1]?=some l[l.length-1]:=List.getElem?_eq_getElem (by omega)
  have:=((h.2.2.2 _ _ hp).2.1 (by omega)).2.2
  unfold Zoy
  rw [show ((l.length:Int)-1).toNat=l.length-1 by omega,hp]
  exact this
theorem ZsP {c:Zi} (hp:Zir (Zi.Yy c)) (hk:ZlR (Zi.Yy c)≤1) (a:Zw):Zuh c a↔Zki c a:=by
  have h2:=hp.1
  have hF:0≤Zw.From a→(Zoy (Zi.Yy c) (Zw.From a)=true↔Zw.From a=Zg5 (Zi.Yy c)):=fun h=>Zn5 hk h
  have hT:0≤Zw.To a→(Zoy (Zi.Yy c) (Zw.To a)=true↔Zw.To a=Zg5 (Zi.Yy c)):=fun h=>Zn5 hk h
  have hlast:=Zr5 hp
  have hfr:∀ i,Zoy (Zi.Yy c) i=true→i<((Zi.Yy c).length:Int):=by
    intro i hi
    unfold Zoy at hi
    split at hi
    · rename_i p hp'
      have:=(List.getElem?_eq_some_iff.1 hp').1
      omega
    · cases hi
  unfold Zuh Zki
  generalize Zg5 (Zi.Yy c)=ck at *
  constructor
  · rintro (⟨k,s,sl,td,fc,f0,⟨t0,t1⟩,ne⟩ | ⟨k,td,ts,te,⟨f0,f1⟩,hh⟩)
    · have hclk:=(hF f0).2 fc
      have hnl:Zw.From a≠((Zi.Yy c).length:Int)-1:=fun e=>by rw [e,hlast] at hclk;cases hclk
      have:=hfr _ hclk
      refine ⟨⟨f0,by omega⟩,⟨t0,by omega⟩,.inr (.inr ⟨k,hclk,by omega,?_,s,td,sl⟩)⟩
      rw [←Bool.not_eq_true]
      intro hc
      exact ne (((hT t0).1 hc).trans fc.symm)
    · refine ⟨⟨f0,f1⟩,⟨by omega,by omega⟩,?_⟩
      rcases hh with ⟨k1,c1,s1⟩ | ⟨k1,c1,s1⟩
      · exact .inl ⟨k1,c1,te,s1,td,ts⟩
      · exact .inr (.inl ⟨k1,c1,te,s1,td,ts⟩)
  · rintro ⟨⟨f0,f1⟩,⟨t0,t1⟩,(⟨k,c1,te,s,td,ts⟩ | ⟨k,c1,te,s,td,ts⟩ | ⟨k,c1,tl,c2,s,td,sl⟩)⟩
    · exact .inr ⟨by omega,td,ts,te,⟨f0,f1⟩,.inl ⟨k,c1,s⟩⟩
    · exact .inr ⟨by omega,td,ts,te,⟨f0,f1⟩,.inr ⟨k,c1,s⟩⟩
    · refine .inl ⟨k,s,sl,td,(hF f0).1 c1,f0,⟨t0,by omega⟩,fun e=>?_⟩
      rw [e,c1] at c2;cases c2
theorem ZeU.ZlR {c:Zi} (h:ZeU c):ZlR (Zi.Yy c)≤1:=by
  rcases h with h | h | h
  · have:=h.2.1;omega
  · have:=h.2.1;omega
  · have:=h.2.1;omega
theorem Zuu (c:Zi):Zxc c↔Zio c:=by
  unfold Zxc Zio
  constructor
  · rintro ⟨a,b,⟨c1,d⟩,e,f,g⟩
    exact ⟨a,b,⟨c1,fun k x hx=>⟨(ZsP b g.ZlR x).1 (d k x hx).1,(d k x hx).2⟩⟩,e,f,g⟩
  · rintro ⟨a,b,⟨c1,d⟩,e,f,g⟩
    exact ⟨a,b,⟨c1,fun k x hx=>⟨(ZsP b g.ZlR x).2 (d k x hx).1,(d k x hx).2⟩⟩,e,f,g⟩
theorem Znt (c:Zi) (h:sm Qz c):Zgc c=some (tr (Zio c)):=by
  have hc:=Zvu h
  unfold Zgc
  refine Zd7 (YL (by rw [Zfx];exact ZcQ Iff.rfl) (fun _=>YL (Zmm _ hc.pins) (fun hp=>YL (Zml c hc) (fun _=>YL (V7 _ _ _) (fun _=>YL (V7 _ _ _) (fun _=>Zb4 (Zlv c hc hp))))))) ?_
  exact (Zuu c)
/-
  Plain laws: cells by the reference; libraries.
-/
def ZdU (l:List Zw):List Int:=(List.range 6).map (fun (j:Nat)=>((l.countP (fun a=>decide (Zw.Kind a=(j:Int))):Nat):Int))
theorem Zbv (l:List Zw) {j:Nat} (h:j<6):(ZdU l)[j]?=some ((l.countP (fun a=>decide (Zw.Kind a=(j:Int))):Nat):Int):=by
  simp [ZdU,List.getElem?_range h]
theorem ZlV (c:Zi) (h:Zn0 c) (hk:∀ a∈Zi.VI c,1≤Zw.Kind a∧Zw.Kind a≤5):Zel c=some (ZdU (Zi.VI c)):=by
  unfold Zel
  have hs:=ZA h.arcs
  have h0:List.replicate (Int.toNat (6:Int)) (0:Int)=ZdU ((Zi.VI c).take 0):=by simp [ZdU];decide
  rw [h0]
  refine Jl (l:=Zi.VI c) (ρ:=List Int) (fun k=>((k:Int),ZdU ((Zi.VI c).take k),())) (step:=fun v=>Jm c v.1 v.2.1)
    (fun k a hx hlt=>?_) (by simp only [Jm,Int.lt_irrefl,if_false,List.take_length])
  obtain ⟨k1,k5⟩:=hk a (List.mem_of_getElem? hx)
  have hkn:Zw.Kind a=(((Zw.Kind a).toNat:Nat):Int):=by omega
  have hcnt:∀ j:Nat,((Zi.VI c).take k).countP (fun a=>decide (Zw.Kind a=(j:Int)))≤1048576:=by
    intro j
    have h1:=List.countP_le_length (p:=fun a=>decide (Zw.Kind a=(j:Int))) (l:=(Zi.VI c).take k)
    rw [List.length_take] at h1;omega
  simp only [Jm,show (k:Int)<((Zi.VI c).length:Int) from by omega,if_true,Zn,hx,Bq]
  rw [Qj (by omega) (Zbv _ (show (Zw.Kind a).toNat<6 by omega)),Bq,Xo (hcnt _),Xo (by omega)]
  congr 3
  rw [Prod.mk.injEq]
  refine ⟨?_,rfl⟩
  apply List.ext_getElem?
  intro j
  by_cases hj:(Zw.Kind a).toNat=j
  · subst hj
    rw [List.getElem?_set_self (by simp [ZdU];omega),Zbv _ (by omega),YP hx,List.countP_append]
    congr 2
    rw [List.countP_cons,List.countP_nil]
    simp [←hkn]
  · rw [List.getElem?_set_ne hj]
    by_cases h6:j<6
    · rw [Zbv _ h6,Zbv _ h6,YP hx,List.countP_append]
      congr 2
      rw [List.countP_cons,List.countP_nil]
      have:¬Zw.Kind a=(j:Int):=by omega
      simp [this]
    · rw [List.getElem?_eq_none (by simp [ZdU];omega),List.getElem?_eq_none (by simp [ZdU];omega)]
theorem Zl9 (c:Zi) (j:Nat):0<(Zi.VI c).countP (fun a=>decide (Zw.Kind a=(j:Int)))↔Zpi c j:=by
  rw [List.countP_pos_iff]
  simp only [decide_eq_true_eq,Zpi]
theorem Zk5 (c:Zi) (h:Zn0 c) (hp:Zir (Zi.Yy c)) (hk1:Zi.Kind c=1) :
    Zm (fun v=>ZaH c ((ZlR (Zi.Yy c):Int),true) v.1) ((0:Int),())=some (.inr (tr (ZeU c))):=by
  have h2:=hp.1
  have h5:=hp.2.1
  have hs:=ZA h.truth
  have e1:Wq (((Zi.Yy c).length:Int)-1)=((Zi.Yy c).length:Int)-1:=YZ (by omega) (by omega)
  have e2:IntKind.u64.wrap (((Zi.Yy c).length:Int)-1)=((Zi.Yy c).length:Int)-1:=IntWalk.u64_in _ (by omega)
  rw [QX (XE h.truth) (fun k x=>0≤x∧x≤1) (bad:=.inr false) (good:=.inr (tr (ZlR (Zi.Yy c)=0∧(Zi.Truth c).length=2 ^ ((Zi.Yy c).length-1))))
    (fun k x hx hk _=>by
      simp only [ZaH,show (k:Int)<((Zi.Truth c).length:Int) from by omega,if_true,Zn,hx,Bq,ZcD,within_iff]
      exact ⟨fun hh=>by rw [if_pos hh],fun hh=>by rw [if_neg hh]⟩)
    (fun _=>by
      simp only [ZaH,Int.lt_irrefl,if_false,e1,e2]
      by_cases hc:ZlR (Zi.Yy c)=0
      · rw [if_pos (by omega),Zh (by omega),show (((Zi.Yy c).length:Int)-1).toNat=(Zi.Yy c).length-1 by omega,Zxg (by omega)]
        congr 2
        congr 1
        refine (ZnX ?_).symm
        rw [decide_eq_true_eq]
        constructor
        · intro hh;exact ⟨hc,by omega⟩
        · intro hh;rw [hh.2]
      · rw [if_neg (by omega),Z7 (fun hh=>hc hh.1)])]
  congr 1
  by_cases hA:Zeq (Zi.Truth c) (fun k x=>0≤x∧x≤1)
  · rw [XU hA]
    congr 1
    refine QI ?_
    have hAll:Zf0 (Zi.Truth c) 0 1:=fun x hx=>by
      obtain ⟨k,hk⟩:=List.mem_iff_getElem?.1 hx
      exact hA k x hk
    unfold ZeU
    grind
  · rw [Xu hA,Z7]
    intro hh
    rcases hh with hh | hh | hh
    · exact hA (fun k x hk=>hh.2.2.2 x (List.mem_of_getElem? hk))
    · have:=hh.1;omega
    · have:=hh.1;omega
theorem ZnO (c:Zi) (hsm:sm Qz c):Zgu c=some (tr (Zio c)):=by
  have h:=Zvu hsm
  have hs:=ZA h.arcs
  unfold Zgu
  rw [Zm8 c h.pins,Bq]
  by_cases hp':¬Zir (Zi.Yy c)
  · rw [Xu hp',Z7 (fun hh=>hp' hh.2.1)];rfl
  have hp:=Classical.not_not.1 hp'
  rw [XU hp]
  simp only [if_true]
  refine Zd7 (YL (P:=Jv (Zi.Name c)=true) (by rw [ZcF _ h.name];exact ZcQ Iff.rfl) (fun hn=>Zf1 (fun h8=>YL (Ji _ _ _) (fun hl=>YL (Ji _ _ _) (fun he=>?_))))) (P:=Jv (Zi.Name c)=true∧¬((8:Int)<((Zi.VI c).length:Int))∧(0≤Zi.Zuj c∧Zi.Zuj c≤100000)∧(0≤Zi.Ziq c∧Zi.Ziq c≤100000)∧(Zeq (Zi.VI c) (fun k a=>Zki c a∧Apart (Zi.VI c) k a)∧ZeU c)) ?_
  · rw [QX (XE h.arcs) (fun k a=>Zki c a∧Apart (Zi.VI c) k a) (bad:=false) (good:=tr (ZeU c))
      (fun k a hx hk _=>by
        obtain ⟨h1,h2⟩:=ZxP (ZgO h.arcs hx)
        simp only [Zc4,show (k:Int)<((Zi.VI c).length:Int) from by omega,if_true,Zn,hx,Bq,ZnQ c a h.pins h1 h2 hp.1]
        have inner:Zm (fun v=>ZaG c (k:Int) a v.1) ((0:Int),())=some (sel (∀ j,j<k→∀ o,(Zi.VI c)[j]?=some o→¬ZeL o a) (.inl (Wq ((k:Int)+1),())) (.inr false)):=by
          refine ZmR k (by omega) (fun j=>∀ o,(Zi.VI c)[j]?=some o→¬ZeL o a) (fun j hj=>?_) (fun _=>by simp only [ZaG,Int.lt_irrefl,if_false])
          obtain ⟨o,ho⟩:∃ o,(Zi.VI c)[j]?=some o:=⟨_,List.getElem?_eq_getElem (by omega)⟩
          simp only [ZaG,show (j:Int)<(k:Int) from by omega,if_true,Zn,ho,Bq]
          have e:(∀ o',some o=some o'→¬ZeL o' a)↔¬ZeL o a:=⟨fun hh=>hh o rfl,fun hh o' ho'=>by injection ho' with ho';subst ho';exact hh⟩
          rw [e]
          unfold ZeL
          constructor
          · intro hh
            split
            · split
              · split
                · exact absurd ⟨‹_›,‹_›,‹_›⟩ hh
                · rfl
              · rfl
            · rfl
          · intro hh
            have hh:=Classical.not_not.1 hh
            rw [if_pos hh.1,if_pos hh.2.1,if_pos hh.2.2]
        have eap:Apart (Zi.VI c) k a↔(∀ j,j<k→∀ o,(Zi.VI c)[j]?=some o→¬ZeL o a):=⟨fun hh j hj o ho=>hh j o hj ho,fun hh j o hj ho=>hh j hj o ho⟩
        by_cases hA:Zki c a
        · rw [if_pos (Yc hA),inner]
          constructor
          · intro hh;rw [XU (eap.1 hh.2)]
          · intro hh;rw [Xu (fun h'=>hh ⟨hA,eap.2 h'⟩)]
        · rw [if_neg (by rw [Z7 hA];simp)]
          exact ⟨fun hh=>absurd hh.1 hA,fun _=>rfl⟩)
      (fun hA=>by
        have hkinds:=ZlV c h (fun a ha=>by
          obtain ⟨k,hk⟩:=List.mem_iff_getElem?.1 ha
          exact (hA k a hk).1.kind)
        have g1:atI (ZdU (Zi.VI c)) (1:Int)=some (((Zi.VI c).countP (fun a=>decide (Zw.Kind a=((1:Nat):Int))):Nat):Int):=Qj (by omega) (Zbv _ (by omega))
        have g2:atI (ZdU (Zi.VI c)) (2:Int)=some (((Zi.VI c).countP (fun a=>decide (Zw.Kind a=((2:Nat):Int))):Nat):Int):=Qj (by omega) (Zbv _ (by omega))
        have g3:atI (ZdU (Zi.VI c)) (3:Int)=some (((Zi.VI c).countP (fun a=>decide (Zw.Kind a=((3:Nat):Int))):Nat):Int):=Qj (by omega) (Zbv _ (by omega))
        have c1:=Zl9 c 1
        have c2:=Zl9 c 2
        have c3:=Zl9 c 3
        simp only [Zc4,Int.lt_irrefl,if_false,hkinds,Bq,g1,g2,g3]
        generalize (Zi.VI c).countP (fun a=>decide (Zw.Kind a=((1:Nat):Int)))=n1 at c1 ⊢
        generalize (Zi.VI c).countP (fun a=>decide (Zw.Kind a=((2:Nat):Int)))=n2 at c2 ⊢
        generalize (Zi.VI c).countP (fun a=>decide (Zw.Kind a=((3:Nat):Int)))=n3 at c3 ⊢
        by_cases k1:Zi.Kind c=1
        · rw [if_pos k1]
          exact Zk5 c h hp k1
        rw [if_neg k1]
        have hgoal:∀ (b:Bool),(b=true↔ZeU c)→(some (.inr b):Option ((Int×Unit) ⊕ Bool))=some (.inr (tr (ZeU c))):=fun b hb=>by rw [ZnX hb]
        have c1':Zpi c 1↔0<n1:=c1.symm
        have c2':Zpi c 2↔0<n2:=c2.symm
        have c3':Zpi c 3↔0<n3:=c3.symm
        have hKO:ZeU c↔(Zi.Kind c=2∧ZlR (Zi.Yy c)=1∧(Zi.Truth c).length=0∧¬0<n1∧(0<n2↔¬0<n3))∨(Zi.Kind c=3∧ZlR (Zi.Yy c)=1∧(Zi.Truth c).length=0∧0<n1∧0<n2∧¬0<n3):=by
          unfold ZeU
          rw [c1',c2',c3']
          constructor
          · rintro (hh | hh | hh)
            · exact absurd hh.1 k1
            · exact .inl hh
            · exact .inr hh
          · rintro (hh | hh)
            · exact .inr (.inl hh)
            · exact .inr (.inr hh)
        by_cases k2:Zi.Kind c=2
        · rw [if_pos k2]
          split
          · split
            · split
              · rename_i a b d
                refine hgoal _ ?_
                rw [hKO]
                simp only [beq_iff_eq,decide_eq_decide] at d
                constructor
                · intro hh;cases hh
                · intro hh;omega
              · rename_i a b d
                refine hgoal _ ?_
                rw [hKO,decide_eq_true_eq]
                simp only [beq_iff_eq,decide_eq_decide] at d
                omega
            · refine hgoal _ ?_
              rw [hKO]
              constructor
              · intro hh;cases hh
              · intro hh;omega
          · refine hgoal _ ?_
            rw [hKO]
            constructor
            · intro hh;cases hh
            · intro hh;omega
        rw [if_neg k2]
        repeat' split
        all_goals
          refine hgoal _ ?_
          rw [hKO]
          first
            | (rw [decide_eq_true_eq];omega)
            | (constructor
               · intro hh;cases hh
               · intro hh;omega))]
    congr 1
    by_cases hA:Zeq (Zi.VI c) (fun k a=>Zki c a∧Apart (Zi.VI c) k a)
    · rw [XU hA];exact QI ⟨fun x=>⟨hA,x⟩,fun x=>x.2⟩
    · rw [Xu hA,Z7 (fun x=>hA x.1)]
  · unfold Zio
    constructor
    · rintro ⟨a,b,c1,d,e,f⟩
      exact ⟨a,hp,⟨by omega,e⟩,c1,d,f⟩
    · rintro ⟨a,b,⟨c1,d⟩,e,f,g⟩
      exact ⟨a,by omega,e,f,d,g⟩
/-
  Plain laws: libraries; names of a design.
-/
theorem ZrC {α:Type} {l:List α} {k:Nat} {s:α}:s ∉ l.take k↔∀ (j:Nat) (q:α),j<k→l[j]?=some q→q≠s:=by
  constructor
  · intro h j q hj hq e
    refine h (List.mem_iff_getElem?.2 ⟨j,?_⟩)
    rw [List.getElem?_take,if_pos hj,hq,e]
  · intro h hm
    obtain ⟨j,hj⟩:=List.mem_iff_getElem?.1 hm
    rw [List.getElem?_take] at hj
    split at hj
    · rename_i hjk;exact h j s hjk hj rfl
    · cases hj
theorem ZpM {α:Type} (f:α→List UInt8) (l:List α):Ja (l.map f) l.length↔Zeq l (fun k x=>Jv (f x)=true∧∀ (j:Nat) (q:α),j<k→l[j]?=some q→f q≠f x):=by
  constructor
  · intro h k x hx
    have hk:=(List.getElem?_eq_some_iff.1 hx).1
    obtain ⟨h1,h2⟩:=h k (f x) hk (by simp [hx])
    refine ⟨h1,fun j q hj hq=>ZrC.1 h2 j (f q) hj (by simp [hq])⟩
  · intro h j s hj hs
    simp only [List.getElem?_map,Option.map_eq_some_iff] at hs
    obtain ⟨x,hx,rfl⟩:=hs
    obtain ⟨h1,h2⟩:=h j x hx
    refine ⟨h1,ZrC.2 (fun i q hi hq=>?_)⟩
    simp only [List.getElem?_map,Option.map_eq_some_iff] at hq
    obtain ⟨y,hy,rfl⟩:=hq
    exact h2 i y hi hy
def ZfQ (l:List Zi):List (List UInt8):=l.map Zi.Name
def Zpl (a:Zt):Prop:=(Zt.Cells a).length≤8∧(∀ c∈Zt.Cells a,Zio c)∧Ja (ZfQ (Zt.Cells a)) (Zt.Cells a).length
theorem Zvb {a:Zt} (h:sm Yz a):sm (.sl Qz) (Zt.Cells a):=h.1
theorem Zbf {α:Type} {l:List α} {P:α→Prop}:Zeq l (fun _ x=>P x)↔∀ x∈l,P x:=by
  constructor
  · intro h x hx
    obtain ⟨k,hk⟩:=List.mem_iff_getElem?.1 hx
    exact h k x hk
  · intro h k x hk
    exact h x (List.mem_of_getElem? hk)
theorem Zh3 {P Q:Prop}:sel P (tr Q) false=tr (P∧Q):=by
  by_cases h:P
  · rw [XU h];exact QI ⟨fun q=>⟨h,q⟩,fun q=>q.2⟩
  · rw [Xu h,Z7 (fun q=>h q.1)]
theorem Zks (a:Zt) (h:sm Yz a):Zde a=some (tr (Zpl a)):=by
  have hc:=Zvb h
  have hs:=ZA hc
  unfold Zde
  have:=ZhZ (l:=Zt.Cells a) (ρ:=Bool) (fun k=>((ZfQ (Zt.Cells a)).take k,(k:Int),())) (fun _ c=>Zio c) (step:=fun v=>QA a v.1 v.2.1) (bad:=false) (good:=tr ((Zt.Cells a).length≤8∧Ja (ZfQ (Zt.Cells a)) (Zt.Cells a).length))
    (fun k c hx hk _=>by
      have hn:(ZfQ (Zt.Cells a))[k]?=some (Zi.Name c):=by simp [ZfQ,hx]
      simp only [QA,show (k:Int)<((Zt.Cells a).length:Int) from by omega,if_true,Zn,hx,Bq,Znt c (ZgO hc hx)]
      rw [Zh (by simp only [List.length_take,List.length_singleton,ZfQ,List.length_map];omega),YP hn,Xo (by omega)]
      constructor
      · intro hh;rw [if_pos (Yc hh)]
      · intro hh;rw [if_neg (by rw [Z7 hh];simp)])
    (fun hA=>by
      have e0:(ZfQ (Zt.Cells a)).take (Zt.Cells a).length=ZfQ (Zt.Cells a):=by rw [show (Zt.Cells a).length=(ZfQ (Zt.Cells a)).length by simp [ZfQ],List.take_length]
      have hlen:(ZfQ (Zt.Cells a)).length=(Zt.Cells a).length:=by simp [ZfQ]
      simp only [QA,Int.lt_irrefl,if_false,e0]
      by_cases h8:(Zt.Cells a).length≤8
      · rw [if_pos (by omega),Jt _ (by rw [hlen];omega),Bq,hlen]
        congr 2
        exact QI ⟨fun q=>⟨h8,q⟩,fun q=>q.2⟩
      · rw [if_neg (by omega),Z7 (fun q=>h8 q.1)])
  refine (show Zm (fun v=>QA a v.1 v.2.1) (([]:List (List UInt8)),(0:Int),())=_ from this).trans ?_
  rw [Zh3]
  congr 1
  refine QI ?_
  rw [Zbf]
  exact ⟨fun q=>⟨q.2.1,q.1,q.2.2⟩,fun q=>⟨q.2.1,q.1,q.2.2⟩⟩
theorem Zmq {α ρ:Type} {f:α→List UInt8} {l:List α} {x:α} {k:Nat} (hk:k≤1048576) (hkl:k≤l.length) {step:Int×Unit→Option ((Int×Unit) ⊕ ρ)} {bad good:ρ}
    (hs:∀ (j:Nat) (y:α),j<k→l[j]?=some y→step ((j:Int),())=some (if f y=f x then .inr bad else .inl (Wq ((j:Int)+1),())))
    (hx:step ((k:Int),())=some (.inr good)):Zm step ((0:Int),())=some (sel (∀ (j:Nat) (q:α),j<k→l[j]?=some q→f q≠f x) good bad):=by
  rw [ZmR k (by omega) (fun j=>∀ q,l[j]?=some q→f q≠f x) (bad:=bad) (good:=good) (fun j hj=>by
    have hjl:l[j]?=some l[j]:=List.getElem?_eq_getElem (by omega)
    rw [hs j _ hj hjl]
    constructor
    · intro hh;rw [if_neg (hh _ hjl)]
    · intro hh
      rw [if_pos]
      apply Classical.byContradiction
      intro hne
      refine hh (fun q hq=>?_)
      rw [hjl] at hq;injection hq with hq;subst hq;exact hne) (fun _=>hx)]
  congr 1
  have e:(∀ j,j<k→∀ q,l[j]?=some q→f q≠f x)↔(∀ (j:Nat) (q:α),j<k→l[j]?=some q→f q≠f x):=⟨fun h j q hj hq=>h j hj q hq,fun h j hj q hq=>h j q hj hq⟩
  rw [propext e]
theorem Zk6 (a:Zt) (h:sm Yz a):Zdu a=some (tr (Zpl a)):=by
  have hc:=Zvb h
  have hs:=ZA hc
  unfold Zdu
  rw [QX (XE hc) (fun k c=>Zio c∧∀ (j:Nat) (q:Zi),j<k→(Zt.Cells a)[j]?=some q→Zi.Name q≠Zi.Name c) (bad:=false) (good:=tr ((Zt.Cells a).length≤8))
    (fun k c hx hk _=>by
      simp only [ZaX,show (k:Int)<((Zt.Cells a).length:Int) from by omega,if_true,Zn,hx,Bq,ZnO c (ZgO hc hx)]
      by_cases hC:Zio c
      · rw [if_pos (Yc hC),Zmq (f:=Zi.Name) (l:=Zt.Cells a) (x:=c) (k:=k) (by omega) (by omega) (bad:=.inr false) (good:=.inl (Wq ((k:Int)+1),()))
          (fun j y hj hy=>by
            simp only [ZaW,show (j:Int)<(k:Int) from by omega,if_true,Zn,hy,Bq]
            split<;>rfl)
          (by simp only [ZaW,Int.lt_irrefl,if_false])]
        constructor
        · intro hh;rw [XU hh.2]
        · intro hh;rw [Xu (fun q=>hh ⟨hC,q⟩)]
      · rw [if_neg (by rw [Z7 hC];simp)]
        exact ⟨fun hh=>absurd hh.1 hC,fun _=>rfl⟩)
    (fun _=>by
      simp only [ZaX,Int.lt_irrefl,if_false]
      congr 2
      exact (ZnX (by rw [decide_eq_true_eq];omega)).symm)]
  rw [Zh3]
  congr 1
  refine QI ?_
  unfold Zpl
  rw [ZfQ,ZpM,←Zbf]
  constructor
  · rintro ⟨q,q8⟩
    exact ⟨q8,fun k x hx=>(q k x hx).1,fun k x hx=>⟨(q k x hx).1.1,(q k x hx).2⟩⟩
  · rintro ⟨q8,q1,q2⟩
    exact ⟨fun k x hx=>⟨q1 k x hx,(q2 k x hx).2⟩,q8⟩
theorem ZdV (l:List (List UInt8)) (hl:l.length≤1048576) (hsm:∀ s∈l,s.length≤4611686018427387904):ZaI l=some (tr (Ja l l.length)):=by
  unfold ZaI
  rw [QX (show Len l by show l.length≤4611686018427387904;omega) (fun k s=>Jv s=true∧∀ (j:Nat) (q:List UInt8),j<k→l[j]?=some q→id q≠id s) (bad:=false) (good:=true)
    (fun k s hx hk _=>by
      simp only [ZbH,show (k:Int)<(l.length:Int) from by omega,if_true,Zn,hx,Bq,ZcF s (hsm s (List.mem_of_getElem? hx))]
      by_cases hC:Jv s=true
      · rw [if_pos hC,Zmq (f:=id) (l:=l) (x:=s) (k:=k) (by omega) (by omega) (bad:=.inr false) (good:=.inl (Wq ((k:Int)+1),()))
          (fun j y hj hy=>by
            simp only [ZbG,show (j:Int)<(k:Int) from by omega,if_true,Zn,hy,Bq,id]
            split<;>rfl)
          (by simp only [ZbG,Int.lt_irrefl,if_false])]
        constructor
        · intro hh;rw [XU hh.2]
        · intro hh;rw [Xu (fun q=>hh ⟨hC,q⟩)]
      · rw [if_neg hC]
        exact ⟨fun hh=>absurd hh.1 hC,fun _=>rfl⟩)
    (fun _=>by simp only [ZbH,Int.lt_irrefl,if_false]),ZhM]
  congr 1
  refine QI ?_
  have:=ZpM id l
  rw [List.map_id] at this
  exact this.symm
def ZeA (d:Zc):List (List UInt8):=(Zc.Instances d).map Zg.Name
def Zcw (d:Zc):List (List UInt8):=(Zc.Xi d).map ZP.Name
def Zjg (d:Zc):Prop:=(Zc.Instances d).length≤14∧(Zc.Xf d).length≤30∧(Zc.Xi d).length≤8∧Ja (ZeA d) (ZeA d).length∧Ja (Zc.Xf d) (Zc.Xf d).length∧Ja (Zcw d) (Zcw d).length
theorem gather {α ρ:Type} {l:List α} (hl:l.length≤1048576) (f:α→List UInt8) {step:List (List UInt8)×Int×Unit→Option ((List (List UInt8)×Int×Unit) ⊕ ρ)} {good:ρ}
    (hs:∀ (k:Nat) (x:α) (o:List (List UInt8)),l[k]?=some x→(k:Int)<(l.length:Int)→o.length=k→step (o,(k:Int),())=Zy ((o.length+[f x].length)*16≤140737488355328) (some (.inl (o++[f x],Wq ((k:Int)+1),()))))
    (hx:step (l.map f,(l.length:Int),())=some (.inr good)):Zm step (([]:List (List UInt8)),(0:Int),())=some good:=by
  refine (show Zm step (([]:List (List UInt8)),(0:Int),())=some good from Jl (l:=l) (fun k=>((l.map f).take k,(k:Int),())) (fun k x hx hk=>?_) ?_)
  · have hn:(l.map f)[k]?=some (f x):=by simp [hx]
    have hlen:((l.map f).take k).length=k:=by rw [List.length_take,List.length_map];omega
    rw [hs k x _ hx (by omega) hlen,Zh (by rw [hlen];simp;omega),YP hn,Xo (by omega)]
  · have e0:(l.map f).take l.length=l.map f:=by rw [show l.length=(l.map f).length by simp,List.take_length]
    simp only [e0]
    exact hx
end Go.Proofs.YtclfgjepbamnlaaGreatDoor
