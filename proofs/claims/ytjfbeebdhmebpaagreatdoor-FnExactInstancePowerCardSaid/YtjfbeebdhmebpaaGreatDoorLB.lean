/-
  Plain laws: lists of numbers, tables.
-/
import Derived.Test.YtjfbeebdhmebpaaGreatDoorLA
namespace Go.Proofs.YtjfbeebdhmebpaaGreatDoor
set_option linter.unusedVariables false
set_option linter.unusedSimpArgs false
open Go Go.Sx
theorem Zan {a b:Bool} (h:a=true↔b=true):a=b:=by cases a<;>cases b<;>simp_all
theorem Xu {P Q:Prop} (h:P↔Q):tr P=tr Q:=by rw [propext h]
def Inc (l:List Int):Prop:=∀ (k:Nat) (x y:Int),l[k]?=some x→l[k+1]?=some y→x<y
def Zcu (l:List Int) (lo hi:Int):Prop:=∀ x∈l,lo≤x∧x≤hi
theorem ZfP (l:List Int) (lo hi:Int):allIn l lo hi=true↔Zcu l lo hi:=by
  unfold allIn Zcu
  rw [List.all_eq_true]
  simp only [within_iff]
theorem VI (l:List Int):Yq l=some (l.length:Int):=rfl
theorem ZeZ (l:List Int) (hl:Len l):Vt l=some (tr (Inc l)):=by
  unfold Vt
  have h4:l.length≤4611686018427387904:=hl
  by_cases h0:l.length=0
  · have:l=[]:=List.eq_nil_of_length_eq_zero h0
    subst this
    rw [ZeU (r:=true) (by rfl)]
    have h0:Inc []:=fun k x y h=>by simp at h
    rw [Z5 h0]
  have:=ZmQ (ρ:=Bool) 1 l.length (by omega) h4 (fun k=>∀ x y,l[k-1]?=some x→l[k]?=some y→x<y) (step:=fun v=>Y4 l v.1) (bad:=false) (good:=true)
    (fun k h1 h2 _=>by
      obtain ⟨x,hx⟩:∃ x,l[k-1]?=some x:=⟨_,List.getElem?_eq_getElem (by omega)⟩
      obtain ⟨y,hy⟩:∃ y,l[k]?=some y:=⟨_,List.getElem?_eq_getElem h2⟩
      have e1:Wq ((k:Int)-1)=((k-1:Nat):Int):=by rw [ZdP (by omega) (by omega)];omega
      simp only [Y4,show (k:Int)<(l.length:Int) from by omega,if_true,e1,Zo,hx,hy,Bq]
      refine ⟨fun h=>?_,fun h=>?_⟩
      · have:=h x y rfl rfl
        rw [if_neg (by omega)]
      · rw [if_pos]
        rcases Int.lt_or_le x y with h' | h'
        · exact absurd (fun a b ha hb=>by injection ha with ha;injection hb with hb;subst ha;subst hb;exact h') h
        · exact h')
    (fun _=>by simp only [Y4,Int.lt_irrefl,if_false])
  refine (show Zl (fun v=>Y4 l v.1) ((1:Int),())=_ from this).trans ?_
  rw [ZiO]
  congr 1
  refine Xu ⟨fun h k x y hx hy=>?_,fun h j h1 h2 x y hx hy=>?_⟩
  · exact h (k+1) (by omega) (List.getElem?_eq_some_iff.1 hy).1 x y (by simpa using hx) hy
  · exact h (j-1) x y hx (by rw [show j-1+1=j by omega];exact hy)
def Zbw (l:List Int):Prop:=1≤l.length∧l.length≤4∧Zcu l 0 100000∧Inc l
theorem Zfc (l:List Int) (hl:Len l):ZbD l=some (tr (Zbw l)):=by
  unfold ZbD
  rw [VI,Bq,QK,Bq,Vs l _ _ hl,Bq,ZeZ l hl,Bq]
  have e:tr (Zbw l)=(within (l.length:Int) 1 4&&allIn l 0 100000&&tr (Inc l)):=by
    refine ZjA ?_
    simp only [Bool.and_eq_true,within_iff,ZfP,YK,Zbw]
    exact ⟨fun ⟨⟨⟨a,b⟩,c⟩,d⟩=>⟨by omega,by omega,c,d⟩,fun ⟨a,b,c,d⟩=>⟨⟨⟨by omega,by omega⟩,c⟩,d⟩⟩
  rw [e]
  cases within (l.length:Int) 1 4<;>cases allIn l 0 100000<;>cases tr (Inc l)<;>rfl
theorem ZeB (l:List Int) (hl:Len l):Za1 l=some (tr (Zbw l)):=by
  unfold Za1
  have h4:l.length≤4611686018427387904:=hl
  rw [Qz hl (fun k x=>(0≤x∧x≤100000)∧(0<k→∀ y,l[k-1]?=some y→y<x)) (bad:=false) (good:=decide (1≤l.length∧l.length≤4))
    (fun k x hx hk _=>by
      simp only [Zag,show (k:Int)<(l.length:Int) from by omega,if_true,Zo,hx,Bq,Zaf]
      by_cases hw:within x 0 100000=true
      · rw [if_pos hw]
        by_cases h0:0<k
        · obtain ⟨y,hy⟩:∃ y,l[k-1]?=some y:=⟨_,List.getElem?_eq_getElem (by omega)⟩
          have e1:Wq ((k:Int)-1)=((k-1:Nat):Int):=by rw [ZdP (by omega) (by omega)];omega
          rw [if_pos (by omega),e1,Zo,hy,Bq]
          refine ⟨fun h=>?_,fun h=>?_⟩
          · rw [if_neg (by have:=h.2 h0 y rfl;omega)]
          · rw [if_pos]
            rcases Int.lt_or_le y x with h' | h'
            · exact absurd ⟨(within_iff _ _ _).1 hw,fun _ z hz=>by injection hz with hz;subst hz;exact h'⟩ h
            · exact h'
        · rw [if_neg (by omega)]
          exact ⟨fun _=>rfl,fun h=>absurd ⟨(within_iff _ _ _).1 hw,fun h'=>absurd h' h0⟩ h⟩
      · rw [if_neg hw]
        exact ⟨fun h=>absurd ((within_iff _ _ _).2 h.1) hw,fun _=>rfl⟩)
    (fun _=>by
      simp only [Zag,Int.lt_irrefl,if_false]
      by_cases h1:1≤l.length
      · rw [if_pos (by omega)]
        congr 2
        rw [decide_eq_decide];omega
      · rw [if_neg (by omega)]
        simp [h1])]
  congr 1
  refine Zan ?_
  rw [YK]
  by_cases h:ZcB l (fun k x=>(0≤x∧x≤100000)∧(0<k→∀ y,l[k-1]?=some y→y<x))
  · rw [Xk h,decide_eq_true_eq]
    constructor
    · rintro ⟨h1,h2⟩
      refine ⟨h1,h2,fun x hx=>?_,fun k x y hx hy=>?_⟩
      · obtain ⟨k,hk⟩:=List.mem_iff_getElem?.1 hx
        exact (h k x hk).1
      · exact (h (k+1) y hy).2 (by omega) x (by simpa using hx)
    · intro hh
      exact ⟨hh.1,hh.2.1⟩
  · rw [YT h]
    constructor
    · intro hh;cases hh
    · intro hh
      refine absurd ?_ h
      intro k x hk
      refine ⟨hh.2.2.1 x (List.mem_of_getElem? hk),fun h0 y hy=>?_⟩
      exact hh.2.2.2 (k-1) y x hy (by rw [show k-1+1=k by omega];exact hk)
def Zam (t:Zq):Prop:=Zbw (Zq.ZeW t)∧Zbw (Zq.Loads t)∧(Zq.Values t).length=(Zq.ZeW t).length*(Zq.Loads t).length∧Zcu (Zq.Values t) (-1000000) 1000000
def Zrv (t:Zq):Prop:=Len (Zq.ZeW t)∧Len (Zq.Loads t)∧Len (Zq.Values t)
theorem Zbw.mul {a b:List Int} (ha:Zbw a) (hb:Zbw b):a.length*b.length≤16:=by
  have h1:=ha.2.1
  have h2:=hb.2.1
  calc a.length*b.length≤4*4:=Nat.mul_le_mul h1 h2
    _=16:=rfl
theorem ZmV {a b:List Int} (ha:Zbw a) (hb:Zbw b):Wq ((a.length:Int)*(b.length:Int))=((a.length*b.length:Nat):Int):=by
  have:=ha.mul hb
  have e:(a.length:Int)*(b.length:Int)=((a.length*b.length:Nat):Int):=by simp
  rw [e,ZdP (by omega) (by omega)]
theorem Zh7 (t:Zq) (h:Zrv t):Zb6 t=some (tr (Zam t)):=by
  unfold Zb6
  rw [Zfc _ h.1,Bq]
  by_cases h1:Zbw (Zq.ZeW t)
  · rw [if_pos (Z5 h1),Zfc _ h.2.1,Bq]
    by_cases h2:Zbw (Zq.Loads t)
    · rw [if_pos (Z5 h2),ZmV h1 h2]
      by_cases h3:(Zq.Values t).length=(Zq.ZeW t).length*(Zq.Loads t).length
      · rw [if_pos (by rw [h3]),Vs _ _ _ h.2.2,Bq]
        congr 1
        refine Zan ?_
        rw [ZfP,YK]
        exact ⟨fun h4=>⟨h1,h2,h3,h4⟩,fun h4=>h4.2.2.2⟩
      · rw [if_neg (by omega),ZR (fun hh=>h3 hh.2.2.1)]
    · rw [if_neg (by rw [ZR h2];simp),ZR (fun hh=>h2 hh.2.1)]
  · rw [if_neg (by rw [ZR h1];simp),ZR (fun hh=>h1 hh.1)]
theorem ZiT (t:Zq) (h:Zrv t):Zcr t=some (tr (Zam t)):=by
  unfold Zcr
  rw [ZeB _ h.1,Bq]
  by_cases h1:Zbw (Zq.ZeW t)
  · rw [if_pos (Z5 h1),ZeB _ h.2.1,Bq]
    by_cases h2:Zbw (Zq.Loads t)
    · rw [if_pos (Z5 h2),ZmV h1 h2]
      by_cases h3:(Zq.Values t).length=(Zq.ZeW t).length*(Zq.Loads t).length
      · rw [if_pos (by rw [h3]),Qz h.2.2 (fun k x=>-1000000≤x∧x≤1000000) (bad:=false) (good:=true)
          (fun k x hx hk _=>by
            simp only [Zae,show (k:Int)<((Zq.Values t).length:Int) from by omega,if_true,Zo,hx,Bq,Zaf,within_iff]
            exact ⟨fun hh=>by rw [if_pos hh],fun hh=>by rw [if_neg hh]⟩)
          (fun _=>by simp only [Zae,Int.lt_irrefl,if_false]),ZiO]
        congr 1
        refine Xu ⟨fun h4=>⟨h1,h2,h3,fun x hx=>?_⟩,fun h4 k x hx=>h4.2.2.2 x (List.mem_of_getElem? hx)⟩
        obtain ⟨k,hk⟩:=List.mem_iff_getElem?.1 hx
        exact h4 k x hk
      · rw [if_neg (by omega),ZR (fun hh=>h3 hh.2.2.1)]
    · rw [if_neg (by rw [ZR h2];simp),ZR (fun hh=>h2 hh.2.1)]
  · rw [if_neg (by rw [ZR h1];simp),ZR (fun hh=>h1 hh.1)]
theorem ZkF (x:Int) (l:List Int) (hl:Len (x::l)):XD (x::l)=some (l.foldl min x):=by
  unfold XD
  have h4:(x::l).length≤4611686018427387904:=hl
  have e1:¬(((x::l).length:Int)<1):=by simp only [List.length_cons];omega
  have e2:atI (x::l) (0:Int)=some x:=rfl
  rw [if_neg e1,e2,Bq]
  refine YS l.length (fun k v=>v.1=(l.take k).foldl min x∧v.2.1=(((k+1:Nat)):Int)) _ ⟨by simp,rfl⟩ ?_ ?_
  · rintro k ⟨m,i,⟨⟩⟩ hk ⟨hm,hi⟩
    simp only at hm hi
    subst hm;subst hi
    have hx:l[k]?=some l[k]:=List.getElem?_eq_getElem hk
    have hx1:(x::l)[k+1]?=some l[k]:=by simp
    simp only [Xw,Zo,hx1,Bq,show ((k+1:Nat):Int)<((x::l).length:Int) from by simp;omega,if_true]
    refine .inl ⟨_,rfl,?_,?_⟩
    · rw [Yo hx,List.foldl_append];rfl
    · simp only [List.length_cons] at h4
      show Wq (((k+1:Nat):Int)+1)=((k+1+1:Nat):Int)
      rw [ZdP (by omega) (by omega)];omega
  · rintro ⟨m,i,⟨⟩⟩ ⟨hm,hi⟩
    simp only at hm hi
    subst hm;subst hi
    rw [List.take_length]
    simp only [Xw,show ¬(((l.length+1:Nat):Int)<((x::l).length:Int)) from by simp,if_false]
theorem ZfY (x:Int) (l:List Int):l.foldl min x<0↔x<0∨∃ y∈l,y<0:=by
  induction l generalizing x with
  | nil=>simp
  | cons y r ih =>
    simp only [List.foldl_cons,ih,List.mem_cons,exists_eq_or_imp]
    rw [show min x y<0↔x<0∨y<0 by omega,or_assoc]
def ZaS (l:List Zq) (pos:Bool):Prop:=l.length=2∧∀ t∈l,Zam t∧(pos=true→∀ v∈Zq.Values t,0≤v)
theorem Zam.some {t:Zq} (h:Zam t):∃ x l,Zq.Values t=x::l:=by
  have h1:=h.1.1
  have h2:=h.2.1.1
  have h3:=h.2.2.1
  have:1*1≤(Zq.ZeW t).length*(Zq.Loads t).length:=Nat.mul_le_mul h1 h2
  cases hv:Zq.Values t with
  | nil=>rw [hv] at h3;simp at h3;omega
  | cons x l=>exact ⟨x,l,rfl⟩
theorem ZeX (t:Zq) (pos:Bool) (h:Zrv t):XH t pos=some (! tr (Zam t∧(pos=true→∀ v∈Zq.Values t,0≤v))):=by
  unfold XH
  rw [Zh7 _ h,Bq]
  by_cases h1:Zam t
  · rw [if_pos (Z5 h1)]
    cases pos
    · rw [if_neg (by simp),Z5 ⟨h1,fun e=>by cases e⟩];rfl
    · obtain ⟨x,l,hv⟩:=h1.some
      have hlen:=h.2.2
      rw [if_pos rfl,hv]
      rw [hv] at hlen
      rw [ZkF x l hlen,Bq]
      congr 1
      refine Zan ?_
      rw [decide_eq_true_eq,ZfY,Bool.not_eq_true',←Bool.not_eq_true,YK]
      constructor
      · rintro (hh | ⟨y,hy,hh⟩) ⟨_,hall⟩
        · have:=hall rfl x (by simp);omega
        · have:=hall rfl y (by simp [hy]);omega
      · intro hh
        apply Classical.byContradiction
        intro hn
        refine hh ⟨h1,fun _ v hvm=>?_⟩
        rcases List.mem_cons.1 hvm with rfl | hvm
        · exact Int.not_lt.1 fun hlt=>hn (.inl hlt)
        · exact Int.not_lt.1 fun hlt=>hn (.inr ⟨v,hvm,hlt⟩)
  · rw [if_neg (by rw [ZR h1];simp),ZR (fun hh=>h1 hh.1)];rfl
def Zqt (l:List Zq):Prop:=Len l∧∀ t∈l,Zrv t
theorem Zao (l:List Zq) (pos:Bool) (h:Zqt l):QJ l pos=some (tr (ZaS l pos)):=by
  unfold QJ
  by_cases h2:l.length=2
  · rw [if_pos (by omega),YZ h.1 (fun t=>! tr (Zam t∧(pos=true→∀ v∈Zq.Values t,0≤v))) (fun t ht=>ZeX t pos (h.2 t ht)),Bq]
    congr 1
    refine Zan ?_
    rw [Bool.not_eq_true',List.any_eq_false,YK]
    simp only [Bool.not_eq_true',Bool.not_eq_false,YK,Bool.not_eq_true]
    exact ⟨fun hh=>⟨h2,hh⟩,fun hh=>hh.2⟩
  · rw [if_neg (by omega),ZR (fun hh=>h2 hh.1)]
/-
  Plain laws: pins, arcs, cells.
-/
theorem ZeJ {α τ ρ:Type} {l:List α} (pk:Nat→τ) (P:Nat→α→Prop) {step:τ→Option (τ ⊕ ρ)} {bad good:ρ}
    (hs:∀ (k:Nat) (x:α),l[k]?=some x→k<l.length→(∀ (j:Nat) (y:α),j<k→l[j]?=some y→P j y)→(P k x→step (pk k)=some (.inl (pk (k+1))))∧(¬P k x→step (pk k)=some (.inr bad)))
    (hx:ZcB l P→step (pk l.length)=some (.inr good)):Zl step (pk 0)=some (sel (ZcB l P) good bad):=by
  refine YS l.length (fun k v=>v=pk k∧∀ (j:Nat) (y:α),j<k→l[j]?=some y→P j y) _ ⟨rfl,fun j y hj=>by omega⟩ ?_ ?_
  · rintro k v hk ⟨rfl,hS⟩
    have hx:l[k]?=some l[k]:=List.getElem?_eq_getElem hk
    obtain ⟨h1,h2⟩:=hs k _ hx hk hS
    by_cases hP:P k l[k]
    · refine .inl ⟨_,h1 hP,rfl,fun j y hj hy=>?_⟩
      by_cases hjk:j<k
      · exact hS j y hjk hy
      · have:j=k:=by omega
        subst this
        rw [hx] at hy;injection hy with hy;subst hy
        exact hP
    · right
      rw [h2 hP,YT (fun h=>hP (h k _ hx))]
  · rintro v ⟨rfl,hS⟩
    have hA:ZcB l P:=fun k x hk=>hS k x (List.getElem?_eq_some_iff.1 hk).1 hk
    rw [hx hA,Xk hA]
theorem Xi {α τ ρ:Type} {l:List α} (pk:Nat→τ) {step:τ→Option (τ ⊕ ρ)} {good:ρ}
    (hs:∀ (k:Nat) (x:α),l[k]?=some x→k<l.length→step (pk k)=some (.inl (pk (k+1)))) (hx:step (pk l.length)=some (.inr good)):Zl step (pk 0)=some good:=by
  have:=ZeJ (l:=l) pk (fun _ _=>True) (step:=step) (bad:=good) (good:=good) (fun k x h1 h2 _=>⟨fun _=>hs k x h1 h2,fun h=>absurd trivial h⟩) (fun _=>hx)
  rw [this,Xk (show ZcB l (fun _ _=>True) from fun _ _ _=>trivial)]
theorem Ziy {ρ:Type} (n:Nat) (hn:n≤4611686018427387904) (P:Nat→Prop) {step:Int×Unit→Option ((Int×Unit) ⊕ ρ)} {bad good:ρ}
    (hs:∀ k:Nat,k<n→(P k→step ((k:Int),())=some (.inl (Wq ((k:Int)+1),())))∧(¬P k→step ((k:Int),())=some (.inr bad)))
    (hx:(∀ j,j<n→P j)→step ((n:Int),())=some (.inr good)):Zl step ((0:Int),())=some (sel (∀ j,j<n→P j) good bad):=by
  have:=ZmQ (ρ:=ρ) 0 n (by omega) hn P (step:=step) (bad:=bad) (good:=good) (fun k _ h _=>hs k h) (fun h=>hx (fun j hj=>h j (by omega) hj))
  refine (show Zl step ((0:Int),())=_ from this).trans ?_
  congr 1
  have e:(∀ j,0≤j→j<n→P j)↔(∀ j,j<n→P j):=⟨fun h j hj=>h j (by omega) hj,fun h j _ hj=>h j hj⟩
  rw [propext e]
theorem YX {t:Ty} {l:List t.den} (h:sm (.sl t) l):Len l:=by
  have h1:(l.length:Int)≤1048576:=h.1
  show l.length≤4611686018427387904
  omega
theorem ZeC {s:List UInt8} (h:sm .str s):s.length≤4611686018427387904:=by
  have h1:(s.length:Int)≤1048576:=h
  omega
theorem Zlx {t:Ty} {l:List t.den} (h:sm (.sl t) l) {x:t.den} (hx:x∈l):sm t x:=h.2 x hx
theorem Zfk {t:Ty} {l:List t.den} (h:sm (.sl t) l) {k:Nat} {x:t.den} (hx:l[k]?=some x):sm t x:=h.2 x (List.mem_of_getElem? hx)
theorem Zv {t:Ty} {l:List t.den} (h:sm (.sl t) l):l.length≤1048576:=by
  have h1:(l.length:Int)≤1048576:=h.1
  omega
theorem ZnO {t:Zq} (h:sm Xa t):Zrv t:=⟨YX (t:=.int .i64) h.1,YX (t:=.int .i64) h.2.1,YX (t:=.int .i64) h.2.2.1⟩
theorem ZdN {l:List Zq} (h:sm (.sl Xa) l):Zqt l:=⟨YX h,fun t ht=>ZnO (Zlx h ht)⟩
theorem ZfH (t:Zq) (h:Zrv t):∃ r,Jl t=some r∧(Zam t→r.2=0∧(r.1.1<0↔∃ v∈Zq.Values t,v<0))∧(¬Zam t→r.2=1):=by
  unfold Jl
  rw [ZiT _ h,Bq]
  by_cases h1:Zam t
  · rw [if_pos (Z5 h1)]
    obtain ⟨x,l,hv⟩:=h1.some
    have h4:(x::l).length≤4611686018427387904:=by rw [←hv];exact h.2.2
    have e2:atI (Zq.Values t) (0:Int)=some x:=by rw [hv];rfl
    rw [e2,Bq]
    have:=Xi (l:=l) (ρ:=ZlK×Int) (fun k=>((((k+1:Nat)):Int),(l.take k).foldl min x,(l.take k).foldl max x,())) (step:=fun v=>XR t v.1 v.2.1 v.2.2.1) (good:=((l.foldl min x,l.foldl max x,()),0))
      (fun k y hy hk=>by
        have hx1:(x::l)[k+1]?=some y:=by simpa using hy
        simp only [List.length_cons] at h4
        simp only [XR,hv,Zo,hx1,Bq,show ((k+1:Nat):Int)<((x::l).length:Int) from by simp;omega,if_true]
        rw [Yo hy,List.foldl_append,List.foldl_append,ZdP (by omega) (by omega)]
        rfl)
      (by
        simp only [XR,hv,List.take_length,show ¬(((l.length+1:Nat):Int)<((x::l).length:Int)) from by simp,if_false])
    refine ⟨_,this,fun _=>⟨rfl,?_⟩,fun hn=>absurd h1 hn⟩
    rw [hv]
    refine (ZfY x l).trans ?_
    simp
  · rw [if_neg (by rw [ZR h1];simp)]
    exact ⟨_,rfl,fun hn=>absurd hn h1,fun _=>rfl⟩
theorem Zaz (l:List Zq) (pos:Bool) (h:Zqt l):Z8 l pos=some (tr (ZaS l pos)):=by
  unfold Z8
  by_cases h2:l.length=2
  · rw [if_pos (by omega),Qz h.1 (fun k t=>Zam t∧(pos=true→∀ v∈Zq.Values t,0≤v)) (bad:=false) (good:=true)
      (fun k t hx hk _=>by
        obtain ⟨r,hr,hr1,hr2⟩:=ZfH t (h.2 t (List.mem_of_getElem? hx))
        simp only [VP,show (k:Int)<2 from by omega,if_true,Zo,hx,Bq,hr]
        by_cases ht:Zam t
        · obtain ⟨e1,e2⟩:=hr1 ht
          rw [if_pos e1]
          cases pos
          · simp only [Bool.false_eq_true,if_false]
            exact ⟨fun _=>trivial,fun hn=>absurd ⟨ht,fun e=>by cases e⟩ hn⟩
          · simp only [if_true]
            refine ⟨fun hh=>?_,fun hn=>?_⟩
            · rw [if_neg]
              intro hlt
              obtain ⟨v,hv,hv0⟩:=e2.1 hlt
              have:=hh.2 trivial v hv
              omega
            · rw [if_pos]
              apply Classical.byContradiction
              intro hlt
              refine hn ⟨ht,fun _ v hv=>?_⟩
              exact Int.not_lt.1 fun hv0=>hlt (e2.2 ⟨v,hv,hv0⟩)
        · have e1:=hr2 ht
          rw [if_neg (by rw [e1];decide)]
          exact ⟨fun hh=>absurd hh.1 ht,fun _=>rfl⟩)
      (fun _=>by simp only [VP,h2];rfl),ZiO]
    congr 1
    refine Xu ⟨fun hh=>⟨h2,fun t ht=>?_⟩,fun hh k t hk=>hh.2 t (List.mem_of_getElem? hk)⟩
    obtain ⟨k,hk⟩:=List.mem_iff_getElem?.1 ht
    exact hh k t hk
  · rw [if_neg (by omega),ZR (fun hh=>h2 hh.1)]
def ZaZ (l:List Yf):List (List UInt8):=l.map Yf.Name
def Zhz (l:List Yf):Nat:=l.countP (fun p=>Yf.Clock p)
def ZkV (n k:Nat) (p:Yf):Prop:=(0≤Yf.Cap p∧Yf.Cap p≤500)∧(k+1=n→Yf.Dir p=2∧Yf.Cap p=0∧Yf.Clock p=false)∧(k+1<n→Yf.Dir p=1)
def Ze5 (l:List Yf):Prop:=2≤l.length∧l.length≤5∧Qq (ZaZ l) l.length∧ZcB l (ZkV l.length)
theorem Zh9 (l:List Yf) (h:sm (.sl Zef) l):Zb7 l=some (tr (Ze5 l)):=by
  unfold Zb7
  have hs:=Zv h
  have:=ZeJ (l:=l) (ρ:=Bool) (fun k=>((ZaZ l).take k,(k:Int),())) (ZkV l.length) (step:=fun v=>X4 l v.1 v.2.1) (bad:=false) (good:=tr (2≤l.length∧l.length≤5∧Qq (ZaZ l) l.length))
    (fun k p hx hk _=>by
      have hn:(ZaZ l)[k]?=some (Yf.Name p):=by simp [ZaZ,hx]
      have e1:Wq ((l.length:Int)-1)=((l.length-1:Nat):Int):=by rw [ZdP (by omega) (by omega)];omega
      simp only [X4,show (k:Int)<(l.length:Int) from by omega,if_true,Zo,hx,Bq,e1]
      rw [Zi (by simp only [List.length_take,List.length_singleton,ZaZ,List.length_map];omega),Yo hn,ZdP (by omega) (by omega)]
      unfold ZkV
      by_cases hlast:(k:Int)=((l.length-1:Nat):Int)
      · rw [if_pos hlast]
        have hk1:k+1=l.length:=by omega
        constructor
        · rintro ⟨_,h2,_⟩
          obtain ⟨a,b,c⟩:=h2 hk1
          rw [if_pos a,if_pos b,if_neg (by rw [c];simp)]
          rfl
        · intro hh
          split
          · split
            · split
              · rfl
              · rename_i a b c
                exact absurd ⟨by omega,fun _=>⟨a,b,by simpa using c⟩,fun h'=>by omega⟩ hh
            · rfl
          · rfl
      · rw [if_neg hlast,QK]
        have hk1:k+1<l.length:=by omega
        simp only [Bq,within_iff]
        constructor
        · rintro ⟨h1,_,h3⟩
          rw [if_pos (h3 hk1),if_pos h1]
          rfl
        · intro hh
          split
          · split
            · rename_i a b
              exact absurd ⟨b,fun h'=>by omega,fun _=>a⟩ hh
            · rfl
          · rfl)
    (fun hA=>by
      have e0:(ZaZ l).take l.length=ZaZ l:=by rw [show l.length=(ZaZ l).length by simp [ZaZ],List.take_length]
      simp only [X4,Int.lt_irrefl,if_false,e0,QK,Bq,show Qe l=some (l.length:Int) from rfl]
      have hlen:(ZaZ l).length=l.length:=by simp [ZaZ]
      by_cases hw:within (l.length:Int) 2 5=true
      · rw [if_pos hw,QG _ (by rw [hlen];omega),Bq,hlen]
        rw [within_iff] at hw
        congr 2
        exact Xu ⟨fun hh=>⟨by omega,by omega,hh⟩,fun hh=>hh.2.2⟩
      · rw [if_neg hw,ZR]
        intro hh
        exact hw ((within_iff _ _ _).2 (by omega)))
  refine (show Zl (fun v=>X4 l v.1 v.2.1) (([]:List (List UInt8)),(0:Int),())=_ from this).trans ?_
  congr 1
  refine Zan ?_
  rw [YK]
  by_cases hA:ZcB l (ZkV l.length)
  · rw [Xk hA,YK]
    exact ⟨fun hh=>⟨hh.1,hh.2.1,hh.2.2,hA⟩,fun hh=>⟨hh.1,hh.2.1,hh.2.2.1⟩⟩
  · rw [YT hA]
    exact ⟨fun hh=>(by cases hh),fun hh=>absurd hh.2.2.2 hA⟩
/-
  Plain laws: pins by the reference; arcs.
-/
theorem ZkX {n:Nat} (h:n≤1048576) (h1:1≤n):Wq ((n:Int)-1)=((n-1:Nat):Int):=by rw [ZdP (by omega) (by omega)];omega
theorem Qb {n:Nat} (h:n≤1048576):Wq ((n:Int)+1)=((n+1:Nat):Int):=by rw [ZdP (by omega) (by omega)];omega
theorem Zfg {l:List Yf} {k:Nat} {s:List UInt8}:s ∉ (ZaZ l).take k↔∀ (j:Nat) (q:Yf),j<k→l[j]?=some q→Yf.Name q≠s:=by
  constructor
  · intro h j q hj hq e
    refine h (List.mem_iff_getElem?.2 ⟨j,?_⟩)
    rw [List.getElem?_take,if_pos hj]
    simp [ZaZ,hq,e]
  · intro h hm
    obtain ⟨j,hj⟩:=List.mem_iff_getElem?.1 hm
    rw [List.getElem?_take] at hj
    split at hj
    · rename_i hjk
      simp only [ZaZ,List.getElem?_map,Option.map_eq_some_iff] at hj
      obtain ⟨q,hq,e⟩:=hj
      exact h j q hjk hq e
    · cases hj
theorem ZiU (c:Zf) (h:sm (.sl Zef) (Zf.Ye c)):Zcs c=some (sel (Ze5 (Zf.Ye c)) ((Zhz (Zf.Ye c):Int),true) ((0:Int),false)):=by
  unfold Zcs
  have hs:=Zv h
  by_cases h2:((Zf.Ye c).length:Int)<2
  · rw [if_pos h2,YT (fun hh=>by have:=hh.1;omega)]
  by_cases h5:(5:Int)<((Zf.Ye c).length:Int)
  · rw [if_neg h2,if_pos h5,YT (fun hh=>by have:=hh.2.1;omega)]
  rw [if_neg h2,if_neg h5]
  have e1:Wq (((Zf.Ye c).length:Int)-1)=(((Zf.Ye c).length-1:Nat):Int):=ZkX hs (by omega)
  have:=ZeJ (l:=Zf.Ye c) (ρ:=Int×Bool) (fun k=>((((Zf.Ye c).take k).countP (fun p=>Yf.Clock p):Int),(k:Int),()))
    (fun k p=>(VD (Yf.Name p)=true∧∀ (j:Nat) (q:Yf),j<k→(Zf.Ye c)[j]?=some q→Yf.Name q≠Yf.Name p)∧ZkV (Zf.Ye c).length k p) (step:=fun v=>X9 c v.1 v.2.1) (bad:=((0:Int),false)) (good:=((Zhz (Zf.Ye c):Int),true))
    (fun k p hx hk _=>by
      have hcnt:((Zf.Ye c).take k).countP (fun p=>Yf.Clock p)≤5:=by
        have h1:=List.countP_le_length (p:=fun p=>Yf.Clock p) (l:=(Zf.Ye c).take k)
        rw [List.length_take] at h1;omega
      have hnext:((Zf.Ye c).take (k+1)).countP (fun p=>Yf.Clock p)=((Zf.Ye c).take k).countP (fun p=>Yf.Clock p)+if Yf.Clock p=true then 1 else 0:=by
        rw [Yo hx,List.countP_append];simp [List.countP_cons]
      have hname:(Yf.Name p).length≤4611686018427387904:=ZeC (Zfk h hx).1
      have rest:∀ (v:Int),Xt c v (k:Int) p (k:Int)=sel (VD (Yf.Name p)=true∧ZkV (Zf.Ye c).length k p) (some (Sum.inr (Sum.inl (if Yf.Clock p=true then Wq (v+1) else v,((k+1:Nat):Int),())))) (some (Sum.inr (Sum.inr (0,false)))):=by
        intro v
        simp only [Xt,Int.lt_irrefl,if_false,ZbS _ hname,Zaf,Bq,e1,Qb (show k≤1048576 by omega),within_iff]
        unfold ZkV
        by_cases hn:VD (Yf.Name p)=true
        · by_cases hcap:0≤Yf.Cap p∧Yf.Cap p≤500
          · by_cases hlast:k+1=(Zf.Ye c).length
            · have e2:(k:Int)=(((Zf.Ye c).length-1:Nat):Int):=by omega
              have e3:¬((k:Int)<(((Zf.Ye c).length-1:Nat):Int)):=by omega
              have e4:¬(k+1<(Zf.Ye c).length):=by omega
              rw [if_pos hn,if_pos hcap,if_pos e2]
              by_cases a:Yf.Dir p=2
              · by_cases b:Yf.Cap p=0
                · by_cases d:Yf.Clock p=true
                  · rw [if_pos a,if_pos b,if_pos d,YT]
                    rintro ⟨_,_,h',_⟩
                    have:=(h' hlast).2.2
                    rw [d] at this;cases this
                  · rw [if_pos a,if_pos b,if_neg d,if_neg e3,if_neg d,Xk ⟨hn,hcap,fun _=>⟨a,b,by simpa using d⟩,fun h'=>absurd h' e4⟩]
                    simp [d]
                · rw [if_pos a,if_neg b,YT]
                  rintro ⟨_,_,h',_⟩
                  exact b (h' hlast).2.1
              · rw [if_neg a,YT]
                rintro ⟨_,_,h',_⟩
                exact a (h' hlast).1
            · have e2:¬(k:Int)=(((Zf.Ye c).length-1:Nat):Int):=by omega
              have e3:(k:Int)<(((Zf.Ye c).length-1:Nat):Int):=by omega
              have e4:k+1<(Zf.Ye c).length:=by omega
              rw [if_pos hn,if_pos hcap,if_neg e2,if_pos e3]
              by_cases a:Yf.Dir p=1
              · rw [if_pos a,Xk ⟨hn,hcap,fun h'=>absurd h' hlast,fun _=>a⟩]
                by_cases d:Yf.Clock p=true
                · rw [if_pos d,if_pos d]
                · rw [if_neg d,if_neg d]
              · rw [if_neg a,YT]
                rintro ⟨_,_,_,h'⟩
                exact a (h' e4)
          · rw [if_pos hn,if_neg hcap,YT (fun hh=>hcap hh.2.1)]
        · rw [if_neg hn,YT (fun hh=>hn hh.1)]
      have inner:∀ (v:Int) (good:(Int×Int×Unit) ⊕ (Int×Bool)),((∀ (j:Nat) (q:Yf),j<k→(Zf.Ye c)[j]?=some q→Yf.Name q≠Yf.Name p)→Xt c v (k:Int) p (k:Int)=some (.inr good))→
          Zl (fun v'=>Xt c v (k:Int) p v'.1) ((0:Int),())=some (sel (∀ j,j<k→∀ q,(Zf.Ye c)[j]?=some q→Yf.Name q≠Yf.Name p) good (.inr (0,false))):=by
        intro v good hg
        refine Ziy k (by omega) (fun j=>∀ q,(Zf.Ye c)[j]?=some q→Yf.Name q≠Yf.Name p) (fun j hj=>?_) (fun hh=>hg (fun j q hj hq=>hh j hj q hq))
        obtain ⟨q,hq⟩:∃ q,(Zf.Ye c)[j]?=some q:=⟨_,List.getElem?_eq_getElem (by omega)⟩
        simp only [Xt,show (j:Int)<(k:Int) from by omega,if_true,Zo,hq,Bq]
        refine ⟨fun hh=>by rw [if_neg (hh q rfl)],fun hh=>?_⟩
        rw [if_pos]
        apply Classical.byContradiction
        intro hne
        exact hh (fun q' hq'=>by injection hq' with hq';subst hq';exact hne)
      simp only [X9,show (k:Int)<((Zf.Ye c).length:Int) from by omega,if_true,Zo,hx,Bq]
      constructor
      · rintro ⟨⟨a,b⟩,d⟩
        rw [inner _ (.inl (((((Zf.Ye c).take (k+1)).countP (fun p=>Yf.Clock p):Nat):Int),((k+1:Nat):Int),())) (fun _=>by
          rw [rest,Xk ⟨a,d⟩,hnext]
          by_cases hc:Yf.Clock p=true
          · rw [if_pos hc,if_pos hc,Qb (by omega)]
          · rw [if_neg hc,if_neg hc];rfl),Xk (fun j hj q hq=>b j q hj hq)]
      · intro hh
        rw [inner _ (.inr (0,false)) (fun hn=>by
          rw [rest,YT (fun h'=>hh ⟨⟨h'.1,hn⟩,h'.2⟩)])]
        by_cases hP:∀ j,j<k→∀ q,(Zf.Ye c)[j]?=some q→Yf.Name q≠Yf.Name p
        · rw [Xk hP]
        · rw [YT hP])
    (fun _=>by simp only [X9,Int.lt_irrefl,if_false,List.take_length];rfl)
  refine (show Zl (fun v=>X9 c v.1 v.2.1) ((0:Int),(0:Int),())=_ from this).trans ?_
  congr 1
  have e:ZcB (Zf.Ye c) (fun k p=>(VD (Yf.Name p)=true∧∀ (j:Nat) (q:Yf),j<k→(Zf.Ye c)[j]?=some q→Yf.Name q≠Yf.Name p)∧ZkV (Zf.Ye c).length k p)↔Ze5 (Zf.Ye c):=by
    constructor
    · intro hA
      refine ⟨by omega,by omega,fun j s hj hs'=>?_,fun k p hp=>(hA k p hp).2⟩
      simp only [ZaZ,List.getElem?_map,Option.map_eq_some_iff] at hs'
      obtain ⟨q,hq,rfl⟩:=hs'
      exact ⟨(hA j q hq).1.1,Zfg.2 (hA j q hq).1.2⟩
    · intro hh k p hp
      have hk:=(List.getElem?_eq_some_iff.1 hp).1
      have hn:=hh.2.2.1 k (Yf.Name p) hk (by simp [ZaZ,hp])
      exact ⟨⟨hn.1,Zfg.1 hn.2⟩,hh.2.2.2 k p hp⟩
  rw [propext e]
/-
  Plain laws: arcs.
-/
def Zkb (l:List Yf) (i:Int):Bool:=match l[i.toNat]? with
  | some p=>Yf.Clock p
  | none=>false
def ZgB (c:Zf) (a:Zw):Prop :=
  (0≤Zw.From a∧Zw.From a≤((Zf.Ye c).length:Int)-2)∧(0≤Zw.To a∧Zw.To a≤((Zf.Ye c).length:Int)-1)∧
  ((Zw.Kind a=1∧Zkb (Zf.Ye c) (Zw.From a)=false∧Zw.To a=((Zf.Ye c).length:Int)-1∧(1≤Zw.Zak a∧Zw.Zak a≤3)∧ZaS (Zw.Delay a) true∧ZaS (Zw.ZfO a) true)∨
   ((Zw.Kind a=2∨Zw.Kind a=3)∧Zkb (Zf.Ye c) (Zw.From a)=true∧Zw.To a=((Zf.Ye c).length:Int)-1∧Zw.Zak a=0∧ZaS (Zw.Delay a) true∧ZaS (Zw.ZfO a) true)∨
   ((Zw.Kind a=4∨Zw.Kind a=5)∧Zkb (Zf.Ye c) (Zw.From a)=true∧Zw.To a<((Zf.Ye c).length:Int)-1∧Zkb (Zf.Ye c) (Zw.To a)=false∧Zw.Zak a=0∧ZaS (Zw.Delay a) false∧(Zw.ZfO a).length=0))
theorem ZgB.kind {c:Zf} {a:Zw} (h:ZgB c a):1≤Zw.Kind a∧Zw.Kind a≤5:=by
  rcases h.2.2 with h | h | h
  · have:=h.1;omega
  · have:=h.1;omega
  · have:=h.1;omega
theorem Y0 {P Q:Prop} {_:Decidable P} {m:Option Bool} (hm:P→m=some (tr Q)):(if P then m else some false)=some (tr (P∧Q)):=by
  by_cases h:P
  · rw [if_pos h,hm h];congr 1;exact Xu ⟨fun q=>⟨h,q⟩,fun q=>q.2⟩
  · rw [if_neg h,ZR (fun q=>h q.1)]
theorem ZcT {P Q:Prop} {_:Decidable P} {m:Option Bool} (hm:¬P→m=some (tr Q)):(if P then some false else m)=some (tr (¬P∧Q)):=by
  by_cases h:P
  · rw [if_pos h,ZR (fun q=>q.1 h)]
  · rw [if_neg h,hm h];congr 1;exact Xu ⟨fun q=>⟨h,q⟩,fun q=>q.2⟩
theorem Zbd {P:Prop} {b:Bool} (h:b=true↔P):some b=some (tr P):=by rw [ZjA h]
theorem Za8 {m:Option Bool} {P Q:Prop} (h:m=some (tr P)) (hpq:P↔Q):m=some (tr Q):=by rw [h,propext hpq]
theorem ZjY {Q:Prop} (h:¬Q):(some false:Option Bool)=some (tr Q):=by rw [ZR h]
theorem ZgD {P:Prop} {m:Option Bool} (h:m=some (tr P)):(m.bind fun b=>some b)=some (tr P):=by rw [h];rfl
theorem YC {P Q:Prop} {m m2:Option Bool} (h:m=some (tr P)) (h2:P→m2=some (tr Q)):(m.bind fun b=>if b=true then m2 else some false)=some (tr (P∧Q)):=by
  rw [h,Bq]
  by_cases hp:P
  · rw [if_pos (Z5 hp),h2 hp];congr 1;exact Xu ⟨fun q=>⟨hp,q⟩,fun q=>q.2⟩
  · rw [if_neg (by rw [ZR hp];simp),ZR (fun q=>hp q.1)]
theorem Qx (n a b:Int):Z9 n a b=some (tr (a≤n∧n≤b)):=by rw [Zaf];exact Zbd (within_iff _ _ _)
theorem Vh (n a b:Int):Yd n a b=some (tr (a≤n∧n≤b)):=by rw [QK];exact Zbd (within_iff _ _ _)
theorem ZoV {l:List Yf} {i:Int} (h0:0≤i) (h1:i<l.length):∃ p,atI l i=some p∧Zkb l i=Yf.Clock p:=by
  obtain ⟨p,h2,h3⟩:=Zn4 h0 h1
  exact ⟨p,h2,by simp [Zkb,h3]⟩
theorem Zjx (c:Zf) (a:Zw) (hp:sm (.sl Zef) (Zf.Ye c)) (hd:sm (.sl Xa) (Zw.Delay a)) (hw:sm (.sl Xa) (Zw.ZfO a)) (h2:2≤(Zf.Ye c).length):ZdK c a=some (tr (ZgB c a)):=by
  unfold ZdK
  have hs:=Zv hp
  have e1:Wq (((Zf.Ye c).length:Int)-1)=((Zf.Ye c).length:Int)-1:=ZdP (by omega) (by omega)
  have e2:Wq (((Zf.Ye c).length:Int)-1-1)=((Zf.Ye c).length:Int)-2:=by rw [ZdP (by omega) (by omega)];omega
  rw [e1,e2]
  refine Za8 (YC (Qx _ _ _) (fun hF=>YC (Qx _ _ _) (fun hT=>?_))) (Q:=ZgB c a) (P:=(0≤Zw.From a∧Zw.From a≤((Zf.Ye c).length:Int)-2)∧(0≤Zw.To a∧Zw.To a≤((Zf.Ye c).length:Int)-1)∧ZgB c a) ⟨fun hh=>hh.2.2,fun hh=>⟨hh.1,hh.2.1,hh⟩⟩
  obtain ⟨p,hp1,hp2⟩:=ZoV (l:=Zf.Ye c) hF.1 (by omega)
  rw [hp1,Bq]
  have hdl:=ZdN hd
  have hsl:=ZdN hw
  have tt:∀ b,(Z8 (Zw.Delay a) b).bind (fun x=>if x=true then (Z8 (Zw.ZfO a) b).bind (fun y=>some y) else some false)=some (tr (ZaS (Zw.Delay a) b∧ZaS (Zw.ZfO a) b)):=fun b=>YC (Zaz _ _ hdl) (fun _=>ZgD (Zaz _ _ hsl))
  have tz:(Z8 (Zw.Delay a) false).bind (fun x=>if x=true then some (Decidable.decide (((Zw.ZfO a).length:Int)=(0:Int))) else some false)=some (tr (ZaS (Zw.Delay a) false∧(Zw.ZfO a).length=0)):=YC (Zaz _ _ hdl) (fun _=>Zbd (by rw [decide_eq_true_eq];omega))
  unfold ZgB
  rw [hp2]
  by_cases k1:Zw.Kind a=1
  · simp only [k1,if_true]
    refine Za8 (ZcT (fun hc=>Y0 (fun hl=>YC (Qx _ _ _) (fun _=>tt true)))) ?_
    grind
  by_cases k2:Zw.Kind a=2
  · simp only [k2,if_true,Int.reduceEq,if_false]
    refine Za8 (Y0 (fun hc=>Y0 (fun hl=>Y0 (fun _=>tt true)))) ?_
    grind
  by_cases k3:Zw.Kind a=3
  · simp only [k3,if_true,Int.reduceEq,if_false]
    refine Za8 (Y0 (fun hc=>Y0 (fun hl=>Y0 (fun _=>tt true)))) ?_
    grind
  have chk:(if Yf.Clock p=true then (if Zw.To a<((Zf.Ye c).length:Int)-1 then (atI (Zf.Ye c) (Zw.To a)).bind (fun x1=>if Yf.Clock x1=true then some false else if Zw.Zak a=0 then (Z8 (Zw.Delay a) false).bind (fun x=>if x=true then some (Decidable.decide (((Zw.ZfO a).length:Int)=(0:Int))) else some false) else some false) else some false) else some false) =
      some (tr (Yf.Clock p=true∧Zw.To a<((Zf.Ye c).length:Int)-1∧Zkb (Zf.Ye c) (Zw.To a)=false∧Zw.Zak a=0∧ZaS (Zw.Delay a) false∧(Zw.ZfO a).length=0)):=by
    refine Y0 (fun _=>Y0 (fun hl=>?_))
    obtain ⟨q,hq1,hq2⟩:=ZoV (l:=Zf.Ye c) hT.1 (by omega)
    rw [hq1,Bq,hq2]
    refine Za8 (ZcT (fun _=>Y0 (fun _=>tz))) ?_
    simp only [Bool.not_eq_true]
  by_cases k4:Zw.Kind a=4
  · simp only [k4,if_true,Int.reduceEq,if_false]
    refine Za8 chk ?_
    grind
  by_cases k5:Zw.Kind a=5
  · simp only [k5,if_true,Int.reduceEq,if_false]
    refine Za8 chk ?_
    grind
  · simp only [k1,k2,k3,k4,k5,if_false]
    refine ZjY ?_
    grind
def Zek (l:List Yf):Int:=Xd (fun p=>Yf.Clock p) l
theorem Zf2 (c:Zf) (h:sm (.sl Zef) (Zf.Ye c)):JQ c=some (Zek (Zf.Ye c)):=by
  unfold JQ
  rw [Xf (YX h) (fun p=>Yf.Clock p) (fun p _=>rfl),Bq]
  rfl
theorem Jo (c:Zf) (h:sm (.sl Zef) (Zf.Ye c)):QF c=some (((Zf.Ye c).length:Int)-1):=by
  have hs:=Zv h
  show some (Wq (((Zf.Ye c).length:Int)-1))=_
  rw [ZdP (by omega) (by omega)]
theorem Zbe (c:Zf) (i:Int) (h:sm (.sl Zef) (Zf.Ye c)):Qh c i=some (tr (0≤i∧i≤((Zf.Ye c).length:Int)-2)):=by
  have hs:=Zv h
  unfold Qh
  rw [Jo c h,Bq,ZdP (by omega) (by omega)]
  refine Za8 (ZgD (Vh _ _ _)) ?_
  omega
def Zpr (c:Zf) (a:Zw):Prop :=
  ((Zw.Kind a=4∨Zw.Kind a=5)∧Zw.Zak a=0∧(Zw.ZfO a).length=0∧ZaS (Zw.Delay a) false∧Zw.From a=Zek (Zf.Ye c)∧0≤Zw.From a∧(0≤Zw.To a∧Zw.To a≤((Zf.Ye c).length:Int)-2)∧Zw.To a≠Zw.From a)∨
  (¬(Zw.Kind a=4∨Zw.Kind a=5)∧ZaS (Zw.Delay a) true∧ZaS (Zw.ZfO a) true∧Zw.To a=((Zf.Ye c).length:Int)-1∧(0≤Zw.From a∧Zw.From a≤((Zf.Ye c).length:Int)-2)∧
    ((Zw.Kind a=1∧Zkb (Zf.Ye c) (Zw.From a)=false∧(1≤Zw.Zak a∧Zw.Zak a≤3))∨((Zw.Kind a=2∨Zw.Kind a=3)∧Zkb (Zf.Ye c) (Zw.From a)=true∧Zw.Zak a=0)))
theorem Zia (k:Int):Zb8 k=some (tr (k=4∨k=5)):=by
  unfold Zb8
  split
  · rename_i h;rw [Z5 (.inl h)]
  · rename_i h
    exact Zbd (by rw [decide_eq_true_eq];omega)
theorem Zkm (c:Zf) (a:Zw) (hp:sm (.sl Zef) (Zf.Ye c)) (hd:sm (.sl Xa) (Zw.Delay a)) (hw:sm (.sl Xa) (Zw.ZfO a)):JU c a=some (tr (Zpr c a)):=by
  unfold JU
  have hdl:=ZdN hd
  have hsl:=ZdN hw
  rw [Zia,Bq]
  by_cases hk:Zw.Kind a=4∨Zw.Kind a=5
  · rw [if_pos (Z5 hk)]
    refine Za8 (Y0 (fun _=>Y0 (fun _=>YC (Zao _ _ hdl) (fun _=>?_)))) (P:=Zw.Zak a=0∧((Zw.ZfO a).length:Int)=0∧ZaS (Zw.Delay a) false∧(Zw.From a=Zek (Zf.Ye c)∧0≤Zw.From a∧(0≤Zw.To a∧Zw.To a≤((Zf.Ye c).length:Int)-2)∧Zw.To a≠Zw.From a)) ?_
    · rw [Zf2 c hp,Bq]
      refine Y0 (fun _=>Y0 (fun _=>YC (Zbe c _ hp) (fun _=>Zbd ?_)))
      rw [Bool.not_eq_true',decide_eq_false_iff_not]
    · unfold Zpr
      constructor
      · rintro ⟨x1,x2,x3,x4⟩
        exact .inl ⟨hk,x1,by omega,x3,x4⟩
      · rintro (⟨_,x1,x2,x3,x4⟩ | ⟨x,_⟩)
        · exact ⟨x1,by omega,x3,x4⟩
        · exact absurd hk x
  · rw [if_neg (by rw [ZR hk];simp)]
    refine Za8 (YC (Zao _ _ hdl) (fun _=>YC (Zao _ _ hsl) (fun _=>?_))) (P:=ZaS (Zw.Delay a) true∧ZaS (Zw.ZfO a) true∧(Zw.To a=((Zf.Ye c).length:Int)-1∧(0≤Zw.From a∧Zw.From a≤((Zf.Ye c).length:Int)-2)∧
      ((Zw.Kind a=1∧Zkb (Zf.Ye c) (Zw.From a)=false∧(1≤Zw.Zak a∧Zw.Zak a≤3))∨((Zw.Kind a=2∨Zw.Kind a=3)∧Zkb (Zf.Ye c) (Zw.From a)=true∧Zw.Zak a=0)))) ?_
    · rw [Jo c hp,Bq]
      refine Y0 (fun _=>YC (Zbe c _ hp) (fun hF=>?_))
      obtain ⟨p,hp1,hp2⟩:=ZoV (l:=Zf.Ye c) hF.1 (by omega)
      rw [hp1,hp2]
      simp only [Bq]
      by_cases k1:Zw.Kind a=1
      · simp only [k1,if_true]
        refine Za8 (ZcT (fun _=>ZgD (Vh _ _ _))) ?_
        grind
      by_cases k2:Zw.Kind a=2
      · simp only [k2,if_true,Int.reduceEq,if_false]
        refine Za8 (Y0 (fun _=>Zbd (decide_eq_true_iff))) ?_
        grind
      by_cases k3:Zw.Kind a=3
      · simp only [k3,if_true,Int.reduceEq,if_false]
        refine Za8 (Y0 (fun _=>Zbd (decide_eq_true_iff))) ?_
        grind
      · simp only [k1,k2,k3,if_false]
        refine ZjY ?_
        grind
    · unfold Zpr
      constructor
      · intro x;exact .inr ⟨hk,x⟩
      · rintro (⟨x,_⟩ | ⟨_,x⟩)
        · exact absurd x hk
        · exact x
/-
  Plain laws: cells and libraries.
-/
def ZbR (o a:Zw):Prop:=Zw.Kind o=Zw.Kind a∧Zw.From o=Zw.From a∧Zw.To o=Zw.To a
def Apart (l:List Zw) (k:Nat) (a:Zw):Prop:=∀ (j:Nat) (o:Zw),j<k→l[j]?=some o→¬ZbR o a
structure ZjB (c:Zf):Prop where
  name:(Zf.Name c).length≤4611686018427387904
  pins:sm (.sl Zef) (Zf.Ye c)
  arcs:sm (.sl ZeT) (Zf.VX c)
  truth:sm (.sl (.int .i64)) (Zf.Truth c)
theorem Zqr {c:Zf} (h:sm QC c):ZjB c:=⟨ZeC h.1,h.2.2.1,h.2.2.2.1,h.2.2.2.2.1⟩
theorem Zr7 {a:Zw} (h:sm ZeT a):sm (.sl Xa) (Zw.Delay a)∧sm (.sl Xa) (Zw.ZfO a):=⟨h.2.2.2.2.1,h.2.2.2.2.2.1⟩
theorem Zf4 (o a:Zw):Y8 o a=some (tr (ZbR o a)):=by
  unfold Y8 ZbR
  exact Y0 (fun _=>Y0 (fun _=>Zbd decide_eq_true_iff))
theorem Zh8 (c:Zf) (h:ZjB c):Vq c=some (tr ((Zf.VX c).length≤8∧ZcB (Zf.VX c) (fun k a=>Zpr c a∧Apart (Zf.VX c) k a))):=by
  unfold Vq
  have hs:=Zv h.arcs
  rw [Qz (YX h.arcs) (fun k a=>Zpr c a∧Apart (Zf.VX c) k a) (bad:=false) (good:=decide ((Zf.VX c).length≤8))
    (fun k a hx hk _=>by
      obtain ⟨h1,h2⟩:=Zr7 (Zfk h.arcs hx)
      simp only [Qt,show (k:Int)<((Zf.VX c).length:Int) from by omega,if_true,Zo,hx,Bq,Zkm c a h.pins h1 h2]
      by_cases hA:Zpr c a
      · rw [if_pos (Z5 hA),Zi (by omega),Zi (by omega)]
        simp only [Int.toNat_natCast,Int.toNat_zero,List.drop_zero,Nat.sub_zero]
        rw [Y1 (by show ((Zf.VX c).take k).length≤4611686018427387904;rw [List.length_take];omega) (fun o=>tr (ZbR o a)) (fun o _=>Zf4 o a),Bq]
        have e:((Zf.VX c).take k).any (fun o=>tr (ZbR o a))=true↔¬Apart (Zf.VX c) k a:=by
          rw [List.any_eq_true]
          constructor
          · rintro ⟨o,ho,hs⟩ hap
            obtain ⟨j,hj⟩:=List.mem_iff_getElem?.1 ho
            rw [List.getElem?_take] at hj
            split at hj
            · rename_i hjk;exact hap j o hjk hj ((YK _).1 hs)
            · cases hj
          · intro hn
            apply Classical.byContradiction
            intro hno
            refine hn (fun j o hj ho hs=>hno ⟨o,?_,Z5 hs⟩)
            exact List.mem_iff_getElem?.2 ⟨j,by rw [List.getElem?_take,if_pos hj];exact ho⟩
        constructor
        · rintro ⟨_,hap⟩;rw [if_neg (fun hh=>e.1 hh hap)]
        · intro hn;rw [if_pos (e.2 (fun hap=>hn ⟨hA,hap⟩))]
      · rw [if_neg (by rw [ZR hA];simp)]
        exact ⟨fun hh=>absurd hh.1 hA,fun _=>rfl⟩)
    (fun _=>by
      simp only [Qt,Int.lt_irrefl,if_false]
      congr 2
      rw [decide_eq_decide];omega)]
  congr 1
  refine Zan ?_
  rw [YK]
  by_cases hA:ZcB (Zf.VX c) (fun k a=>Zpr c a∧Apart (Zf.VX c) k a)
  · rw [Xk hA,decide_eq_true_eq];exact ⟨fun h=>⟨h,hA⟩,fun h=>h.1⟩
  · rw [YT hA];exact ⟨fun h=>(by cases h),fun h=>absurd h.2 hA⟩
def ZkP (c:Zf) (k:Int):Prop:=∃ a∈Zf.VX c,Zw.Kind a=k
theorem Zaq (c:Zf) (k:Int) (h:ZjB c):XB c k=some (tr (ZkP c k)):=by
  unfold XB
  rw [Xb (YX h.arcs) (fun a=>decide (Zw.Kind a=k)) (fun a _=>rfl),Bq]
  refine Zbd ?_
  rw [List.any_eq_true]
  simp only [decide_eq_true_eq,ZkP]
def ZbZ (c:Zf):Prop :=
  (Zf.Kind c=1∧Zhz (Zf.Ye c)=0∧(Zf.Truth c).length=2 ^ ((Zf.Ye c).length-1)∧Zcu (Zf.Truth c) 0 1)∨
  (Zf.Kind c=2∧Zhz (Zf.Ye c)=1∧(Zf.Truth c).length=0∧¬ZkP c 1∧(ZkP c 2↔¬ZkP c 3))∨
  (Zf.Kind c=3∧Zhz (Zf.Ye c)=1∧(Zf.Truth c).length=0∧ZkP c 1∧ZkP c 2∧¬ZkP c 3)
theorem ZoZ {n:Nat} (h:n≤4):(2:Nat) ^ n≤16:=by
  calc (2:Nat) ^ n≤2 ^ 4:=Nat.pow_le_pow_right (by omega) h
    _=16:=rfl
theorem ZrN {m:Nat} (h:m≤4):Wq ((1:Int)*(2:Int) ^ min m (IntKind.bits IntKind.i64))=((2 ^ m:Nat):Int):=by
  have hb:min m (IntKind.bits IntKind.i64)=m:=Nat.min_eq_left (by show m≤64;omega)
  have e:(1:Int)*(2:Int) ^ m=((2 ^ m:Nat):Int):=by simp
  rw [hb,e]
  have h16:=ZoZ h
  clear hb e
  generalize 2 ^ m=g at h16 ⊢
  rw [ZdP (by omega) (by omega)]
theorem Zhu (c:Zf) (h:ZjB c) (hp:Ze5 (Zf.Ye c)):QT c=some (tr (ZbZ c)):=by
  unfold QT
  have h2:=hp.1
  have h5:=hp.2.1
  refine (show Zl (fun v=>YV c v.1 v.2.1) ((0:Int),(0:Int),())=_ from Xi (l:=Zf.Ye c) (ρ:=Bool) (fun k=>((((Zf.Ye c).take k).countP (fun p=>Yf.Clock p):Int),(k:Int),())) (step:=fun v=>YV c v.1 v.2.1)
    (fun k p hx hk=>by
      have hcnt:((Zf.Ye c).take k).countP (fun p=>Yf.Clock p)≤5:=by
        have h1:=List.countP_le_length (p:=fun p=>Yf.Clock p) (l:=(Zf.Ye c).take k)
        rw [List.length_take] at h1;omega
      have hnext:((Zf.Ye c).take (k+1)).countP (fun p=>Yf.Clock p)=((Zf.Ye c).take k).countP (fun p=>Yf.Clock p)+if Yf.Clock p=true then 1 else 0:=by
        rw [Yo hx,List.countP_append];simp [List.countP_cons]
      simp only [YV,show (k:Int)<((Zf.Ye c).length:Int) from by omega,if_true,Zo,hx,Bq,hnext]
      by_cases hc:Yf.Clock p=true
      · rw [if_pos hc,if_pos hc,Qb (by omega),Qb (by omega)]
      · rw [if_neg hc,if_neg hc,Qb (by omega)];rfl)
    ?_)
  have hout:=Jo c h.pins
  simp only [YV,Int.lt_irrefl,if_false,List.take_length,hout,Bq,show (((Zf.Ye c).length:Int)-1).toNat=(Zf.Ye c).length-1 from by omega,ZrN (show (Zf.Ye c).length-1≤4 by omega)]
  have e00:((Zf.Ye c).countP (fun p=>Yf.Clock p):Int)=0↔Zhz (Zf.Ye c)=0:=by unfold Zhz;omega
  have e01:((Zf.Ye c).countP (fun p=>Yf.Clock p):Int)=1↔Zhz (Zf.Ye c)=1:=by unfold Zhz;omega
  unfold ZbZ
  by_cases k1:Zf.Kind c=1
  · simp only [k1,if_true]
    by_cases hc:Zhz (Zf.Ye c)=0
    · rw [if_pos (e00.2 hc),Zi (by omega)]
      by_cases ht:(Zf.Truth c).length=2 ^ ((Zf.Ye c).length-1)
      · rw [if_pos (by rw [ht]),Vs _ _ _ (YX h.truth),Bq]
        congr 2
        refine (ZjA ?_).symm
        rw [ZfP]
        exact ⟨fun hh=>.inl ⟨trivial,hc,ht,hh⟩,fun hh=>by grind⟩
      · rw [if_neg (by omega),ZR (by grind)]
    · rw [if_neg (fun hh=>hc (e00.1 hh)),ZR (by grind)]
  by_cases k2:Zf.Kind c=2
  · simp only [k2,if_true,Int.reduceEq,if_false]
    by_cases hc:Zhz (Zf.Ye c)=1
    · rw [if_pos (e01.2 hc)]
      by_cases ht:(Zf.Truth c).length=0
      · rw [if_pos (by omega),Zaq c 1 h,Bq]
        by_cases h1:ZkP c 1
        · rw [if_pos (Z5 h1),ZR (by grind)]
        · rw [if_neg (by rw [ZR h1];simp),Zaq c 2 h,Zaq c 3 h]
          simp only [Bq]
          congr 2
          refine (ZjA ?_).symm
          by_cases a:ZkP c 2<;>by_cases b:ZkP c 3<;>simp only [Z5,ZR,a,b,not_false_eq_true]<;>grind
      · rw [if_neg (by omega),ZR (by grind)]
    · rw [if_neg (fun hh=>hc (e01.1 hh)),ZR (by grind)]
  by_cases k3:Zf.Kind c=3
  · simp only [k3,if_true,Int.reduceEq,if_false]
    by_cases hc:Zhz (Zf.Ye c)=1
    · rw [if_pos (e01.2 hc)]
      by_cases ht:(Zf.Truth c).length=0
      · rw [if_pos (by omega),Zaq c 1 h,Bq]
        by_cases h1:ZkP c 1
        · rw [if_pos (Z5 h1),Zaq c 2 h,Bq]
          by_cases h2:ZkP c 2
          · rw [if_pos (Z5 h2),Zaq c 3 h,Bq]
            congr 2
            refine (ZjA ?_).symm
            rw [Bool.not_eq_true',←Bool.not_eq_true,YK]
            grind
          · rw [if_neg (by rw [ZR h2];simp),ZR (by grind)]
        · rw [if_neg (by rw [ZR h1];simp),ZR (by grind)]
      · rw [if_neg (by omega),ZR (by grind)]
    · rw [if_neg (fun hh=>hc (e01.1 hh)),ZR (by grind)]
  · simp only [k1,k2,k3,if_false]
    rw [ZR (by grind)]
def ZrJ (c:Zf):Prop:=VD (Zf.Name c)=true∧Ze5 (Zf.Ye c)∧((Zf.VX c).length≤8∧ZcB (Zf.VX c) (fun k a=>Zpr c a∧Apart (Zf.VX c) k a))∧(0≤Zf.Zps c∧Zf.Zps c≤100000)∧(0≤Zf.Ze4 c∧Zf.Ze4 c≤100000)∧ZbZ c
def Ze3 (c:Zf):Prop:=VD (Zf.Name c)=true∧Ze5 (Zf.Ye c)∧((Zf.VX c).length≤8∧ZcB (Zf.VX c) (fun k a=>ZgB c a∧Apart (Zf.VX c) k a))∧(0≤Zf.Zps c∧Zf.Zps c≤100000)∧(0≤Zf.Ze4 c∧Zf.Ze4 c≤100000)∧ZbZ c
theorem ZmX {l:List Yf} {i j:Nat} {p q:Yf} (hij:i<j) (hp:l[i]?=some p) (hq:l[j]?=some q) (cp:Yf.Clock p=true) (cq:Yf.Clock q=true):2≤Zhz l:=by
  unfold Zhz
  have e:l.countP (fun p=>Yf.Clock p)=(l.take j).countP (fun p=>Yf.Clock p)+(l.drop j).countP (fun p=>Yf.Clock p):=by rw [←List.countP_append,List.take_append_drop]
  have h1:0<(l.take j).countP (fun p=>Yf.Clock p):=List.countP_pos_iff.2 ⟨p,List.mem_iff_getElem?.2 ⟨i,by rw [List.getElem?_take,if_pos hij];exact hp⟩,cp⟩
  have h2:0<(l.drop j).countP (fun p=>Yf.Clock p):=List.countP_pos_iff.2 ⟨q,List.mem_iff_getElem?.2 ⟨0,by rw [List.getElem?_drop];exact hq⟩,cq⟩
  omega
theorem ZjH {l:List Yf} (h:Zhz l≤1) {i:Int} (h0:0≤i):Zkb l i=true↔i=Zek l:=by
  unfold Zek Xd Zkb
  constructor
  · intro hc
    split at hc
    · rename_i p hp
      split
      · rename_i j hj
        obtain ⟨hj1,hj2,hj3⟩:=List.findIdx?_eq_some_iff_getElem.1 hj
        have hjg:l[j]?=some l[j]:=List.getElem?_eq_getElem hj1
        rcases Nat.lt_trichotomy i.toNat j with hlt | heq | hlt
        · have:=ZmX hlt hp hjg hc hj2;omega
        · omega
        · have:=ZmX hlt hjg hp hj2 hc;omega
      · rename_i hn
        rw [List.findIdx?_eq_none_iff] at hn
        have:=hn p (List.mem_of_getElem? hp)
        rw [hc] at this;cases this
    · cases hc
  · intro hi
    split at hi
    · rename_i j hj
      obtain ⟨hj1,hj2,hj3⟩:=List.findIdx?_eq_some_iff_getElem.1 hj
      subst hi
      rw [Int.toNat_natCast,List.getElem?_eq_getElem hj1]
      exact hj2
    · omega
theorem Zng {l:List Yf} (h:Ze5 l):Zkb l ((l.length:Int)-1)=false:=by
  have h2:=h.1
  have hp:l[l.length-1]?=some l[l.length-1]:=List.getElem?_eq_getElem (by omega)
  have:=((h.2.2.2 _ _ hp).2.1 (by omega)).2.2
  unfold Zkb
  rw [show ((l.length:Int)-1).toNat=l.length-1 by omega,hp]
  exact this
theorem Zn2 {c:Zf} (hp:Ze5 (Zf.Ye c)) (hk:Zhz (Zf.Ye c)≤1) (a:Zw):Zpr c a↔ZgB c a:=by
  have h2:=hp.1
  have hF:0≤Zw.From a→(Zkb (Zf.Ye c) (Zw.From a)=true↔Zw.From a=Zek (Zf.Ye c)):=fun h=>ZjH hk h
  have hT:0≤Zw.To a→(Zkb (Zf.Ye c) (Zw.To a)=true↔Zw.To a=Zek (Zf.Ye c)):=fun h=>ZjH hk h
  have hlast:=Zng hp
  have hfr:∀ i,Zkb (Zf.Ye c) i=true→i<((Zf.Ye c).length:Int):=by
    intro i hi
    unfold Zkb at hi
    split at hi
    · rename_i p hp'
      have:=(List.getElem?_eq_some_iff.1 hp').1
      omega
    · cases hi
  unfold Zpr ZgB
  generalize Zek (Zf.Ye c)=ck at *
  constructor
  · rintro (⟨k,s,sl,td,fc,f0,⟨t0,t1⟩,ne⟩ | ⟨k,td,ts,te,⟨f0,f1⟩,hh⟩)
    · have hclk:=(hF f0).2 fc
      have hnl:Zw.From a≠((Zf.Ye c).length:Int)-1:=fun e=>by rw [e,hlast] at hclk;cases hclk
      have:=hfr _ hclk
      refine ⟨⟨f0,by omega⟩,⟨t0,by omega⟩,.inr (.inr ⟨k,hclk,by omega,?_,s,td,sl⟩)⟩
      rw [←Bool.not_eq_true]
      intro hc
      exact ne (((hT t0).1 hc).trans fc.symm)
    · refine ⟨⟨f0,f1⟩,⟨by omega,by omega⟩,?_⟩
      rcases hh with ⟨k1,c1,s1⟩ | ⟨k1,c1,s1⟩
      · exact .inl ⟨k1,c1,te,s1,td,ts⟩
      · exact .inr (.inl ⟨k1,c1,te,s1,td,ts⟩)
  · rintro ⟨⟨f0,f1⟩,⟨t0,t1⟩,(⟨k,c1,te,s,td,ts⟩ | ⟨k,c1,te,s,td,ts⟩ | ⟨k,c1,tl,c2,s,td,sl⟩)⟩
    · exact .inr ⟨by omega,td,ts,te,⟨f0,f1⟩,.inl ⟨k,c1,s⟩⟩
    · exact .inr ⟨by omega,td,ts,te,⟨f0,f1⟩,.inr ⟨k,c1,s⟩⟩
    · refine .inl ⟨k,s,sl,td,(hF f0).1 c1,f0,⟨t0,by omega⟩,fun e=>?_⟩
      rw [e,c1] at c2;cases c2
theorem ZbZ.Zhz {c:Zf} (h:ZbZ c):Zhz (Zf.Ye c)≤1:=by
  rcases h with h | h | h
  · have:=h.2.1;omega
  · have:=h.2.1;omega
  · have:=h.2.1;omega
theorem Zpw (c:Zf):ZrJ c↔Ze3 c:=by
  unfold ZrJ Ze3
  constructor
  · rintro ⟨a,b,⟨c1,d⟩,e,f,g⟩
    exact ⟨a,b,⟨c1,fun k x hx=>⟨(Zn2 b g.Zhz x).1 (d k x hx).1,(d k x hx).2⟩⟩,e,f,g⟩
  · rintro ⟨a,b,⟨c1,d⟩,e,f,g⟩
    exact ⟨a,b,⟨c1,fun k x hx=>⟨(Zn2 b g.Zhz x).2 (d k x hx).1,(d k x hx).2⟩⟩,e,f,g⟩
theorem Zi8 (c:Zf) (h:sm QC c):Zdn c=some (tr (Ze3 c)):=by
  have hc:=Zqr h
  unfold Zdn
  refine Za8 (YC (by rw [Zfd];exact Zbd Iff.rfl) (fun _=>YC (Zh9 _ hc.pins) (fun hp=>YC (Zh8 c hc) (fun _=>YC (Vh _ _ _) (fun _=>YC (Vh _ _ _) (fun _=>ZgD (Zhu c hc hp))))))) ?_
  exact (Zpw c)
/-
  Plain laws: cells by the reference; libraries.
-/
def Zba (l:List Zw):List Int:=(List.range 6).map (fun (j:Nat)=>((l.countP (fun a=>decide (Zw.Kind a=(j:Int))):Nat):Int))
theorem Js (l:List Zw) {j:Nat} (h:j<6):(Zba l)[j]?=some ((l.countP (fun a=>decide (Zw.Kind a=(j:Int))):Nat):Int):=by
  simp [Zba,List.getElem?_range h]
theorem ZhC (c:Zf) (h:ZjB c) (hk:∀ a∈Zf.VX c,1≤Zw.Kind a∧Zw.Kind a≤5):Zbo c=some (Zba (Zf.VX c)):=by
  unfold Zbo
  have hs:=Zv h.arcs
  have h0:List.replicate (Int.toNat (6:Int)) (0:Int)=Zba ((Zf.VX c).take 0):=by simp [Zba];decide
  rw [h0]
  refine Xi (l:=Zf.VX c) (ρ:=List Int) (fun k=>((k:Int),Zba ((Zf.VX c).take k),())) (step:=fun v=>QB c v.1 v.2.1)
    (fun k a hx hlt=>?_) (by simp only [QB,Int.lt_irrefl,if_false,List.take_length])
  obtain ⟨k1,k5⟩:=hk a (List.mem_of_getElem? hx)
  have hkn:Zw.Kind a=(((Zw.Kind a).toNat:Nat):Int):=by omega
  have hcnt:∀ j:Nat,((Zf.VX c).take k).countP (fun a=>decide (Zw.Kind a=(j:Int)))≤1048576:=by
    intro j
    have h1:=List.countP_le_length (p:=fun a=>decide (Zw.Kind a=(j:Int))) (l:=(Zf.VX c).take k)
    rw [List.length_take] at h1;omega
  simp only [QB,show (k:Int)<((Zf.VX c).length:Int) from by omega,if_true,Zo,hx,Bq]
  rw [Zbh (by omega) (Js _ (show (Zw.Kind a).toNat<6 by omega)),Bq,Qb (hcnt _),Qb (by omega)]
  congr 3
  rw [Prod.mk.injEq]
  refine ⟨?_,rfl⟩
  apply List.ext_getElem?
  intro j
  by_cases hj:(Zw.Kind a).toNat=j
  · subst hj
    rw [List.getElem?_set_self (by simp [Zba];omega),Js _ (by omega),Yo hx,List.countP_append]
    congr 2
    rw [List.countP_cons,List.countP_nil]
    simp [←hkn]
  · rw [List.getElem?_set_ne hj]
    by_cases h6:j<6
    · rw [Js _ h6,Js _ h6,Yo hx,List.countP_append]
      congr 2
      rw [List.countP_cons,List.countP_nil]
      have:¬Zw.Kind a=(j:Int):=by omega
      simp [this]
    · rw [List.getElem?_eq_none (by simp [Zba];omega),List.getElem?_eq_none (by simp [Zba];omega)]
theorem ZhW (c:Zf) (j:Nat):0<(Zf.VX c).countP (fun a=>decide (Zw.Kind a=(j:Int)))↔ZkP c j:=by
  rw [List.countP_pos_iff]
  simp only [decide_eq_true_eq,ZkP]
theorem Zg9 (c:Zf) (h:ZjB c) (hp:Ze5 (Zf.Ye c)) (hk1:Zf.Kind c=1) :
    Zl (fun v=>Vz c ((Zhz (Zf.Ye c):Int),true) v.1) ((0:Int),())=some (.inr (tr (ZbZ c))):=by
  have h2:=hp.1
  have h5:=hp.2.1
  have hs:=Zv h.truth
  have e1:Wq (((Zf.Ye c).length:Int)-1)=((Zf.Ye c).length:Int)-1:=ZdP (by omega) (by omega)
  have e2:IntKind.u64.wrap (((Zf.Ye c).length:Int)-1)=((Zf.Ye c).length:Int)-1:=IntWalk.u64_in _ (by omega)
  rw [Qz (YX h.truth) (fun k x=>0≤x∧x≤1) (bad:=.inr false) (good:=.inr (tr (Zhz (Zf.Ye c)=0∧(Zf.Truth c).length=2 ^ ((Zf.Ye c).length-1))))
    (fun k x hx hk _=>by
      simp only [Vz,show (k:Int)<((Zf.Truth c).length:Int) from by omega,if_true,Zo,hx,Bq,Zaf,within_iff]
      exact ⟨fun hh=>by rw [if_pos hh],fun hh=>by rw [if_neg hh]⟩)
    (fun _=>by
      simp only [Vz,Int.lt_irrefl,if_false,e1,e2]
      by_cases hc:Zhz (Zf.Ye c)=0
      · rw [if_pos (by omega),Zi (by omega),show (((Zf.Ye c).length:Int)-1).toNat=(Zf.Ye c).length-1 by omega,ZrN (by omega)]
        congr 2
        congr 1
        refine (ZjA ?_).symm
        rw [decide_eq_true_eq]
        constructor
        · intro hh;exact ⟨hc,by omega⟩
        · intro hh;rw [hh.2]
      · rw [if_neg (by omega),ZR (fun hh=>hc hh.1)])]
  congr 1
  by_cases hA:ZcB (Zf.Truth c) (fun k x=>0≤x∧x≤1)
  · rw [Xk hA]
    congr 1
    refine Xu ?_
    have hAll:Zcu (Zf.Truth c) 0 1:=fun x hx=>by
      obtain ⟨k,hk⟩:=List.mem_iff_getElem?.1 hx
      exact hA k x hk
    unfold ZbZ
    grind
  · rw [YT hA,ZR]
    intro hh
    rcases hh with hh | hh | hh
    · exact hA (fun k x hk=>hh.2.2.2 x (List.mem_of_getElem? hk))
    · have:=hh.1;omega
    · have:=hh.1;omega
theorem Zjv (c:Zf) (hsm:sm QC c):ZdI c=some (tr (Ze3 c)):=by
  have h:=Zqr hsm
  have hs:=Zv h.arcs
  unfold ZdI
  rw [ZiU c h.pins,Bq]
  by_cases hp':¬Ze5 (Zf.Ye c)
  · rw [YT hp',ZR (fun hh=>hp' hh.2.1)];rfl
  have hp:=Classical.not_not.1 hp'
  rw [Xk hp]
  simp only [if_true]
  refine Za8 (YC (P:=VD (Zf.Name c)=true) (by rw [ZbS _ h.name];exact Zbd Iff.rfl) (fun hn=>ZcT (fun h8=>YC (Qx _ _ _) (fun hl=>YC (Qx _ _ _) (fun he=>?_))))) (P:=VD (Zf.Name c)=true∧¬((8:Int)<((Zf.VX c).length:Int))∧(0≤Zf.Zps c∧Zf.Zps c≤100000)∧(0≤Zf.Ze4 c∧Zf.Ze4 c≤100000)∧(ZcB (Zf.VX c) (fun k a=>ZgB c a∧Apart (Zf.VX c) k a)∧ZbZ c)) ?_
  · rw [Qz (YX h.arcs) (fun k a=>ZgB c a∧Apart (Zf.VX c) k a) (bad:=false) (good:=tr (ZbZ c))
      (fun k a hx hk _=>by
        obtain ⟨h1,h2⟩:=Zr7 (Zfk h.arcs hx)
        simp only [Zaw,show (k:Int)<((Zf.VX c).length:Int) from by omega,if_true,Zo,hx,Bq,Zjx c a h.pins h1 h2 hp.1]
        have inner:Zl (fun v=>Vy c (k:Int) a v.1) ((0:Int),())=some (sel (∀ j,j<k→∀ o,(Zf.VX c)[j]?=some o→¬ZbR o a) (.inl (Wq ((k:Int)+1),())) (.inr false)):=by
          refine Ziy k (by omega) (fun j=>∀ o,(Zf.VX c)[j]?=some o→¬ZbR o a) (fun j hj=>?_) (fun _=>by simp only [Vy,Int.lt_irrefl,if_false])
          obtain ⟨o,ho⟩:∃ o,(Zf.VX c)[j]?=some o:=⟨_,List.getElem?_eq_getElem (by omega)⟩
          simp only [Vy,show (j:Int)<(k:Int) from by omega,if_true,Zo,ho,Bq]
          have e:(∀ o',some o=some o'→¬ZbR o' a)↔¬ZbR o a:=⟨fun hh=>hh o rfl,fun hh o' ho'=>by injection ho' with ho';subst ho';exact hh⟩
          rw [e]
          unfold ZbR
          constructor
          · intro hh
            split
            · split
              · split
                · exact absurd ⟨‹_›,‹_›,‹_›⟩ hh
                · rfl
              · rfl
            · rfl
          · intro hh
            have hh:=Classical.not_not.1 hh
            rw [if_pos hh.1,if_pos hh.2.1,if_pos hh.2.2]
        have eap:Apart (Zf.VX c) k a↔(∀ j,j<k→∀ o,(Zf.VX c)[j]?=some o→¬ZbR o a):=⟨fun hh j hj o ho=>hh j o hj ho,fun hh j o hj ho=>hh j hj o ho⟩
        by_cases hA:ZgB c a
        · rw [if_pos (Z5 hA),inner]
          constructor
          · intro hh;rw [Xk (eap.1 hh.2)]
          · intro hh;rw [YT (fun h'=>hh ⟨hA,eap.2 h'⟩)]
        · rw [if_neg (by rw [ZR hA];simp)]
          exact ⟨fun hh=>absurd hh.1 hA,fun _=>rfl⟩)
      (fun hA=>by
        have hkinds:=ZhC c h (fun a ha=>by
          obtain ⟨k,hk⟩:=List.mem_iff_getElem?.1 ha
          exact (hA k a hk).1.kind)
        have g1:atI (Zba (Zf.VX c)) (1:Int)=some (((Zf.VX c).countP (fun a=>decide (Zw.Kind a=((1:Nat):Int))):Nat):Int):=Zbh (by omega) (Js _ (by omega))
        have g2:atI (Zba (Zf.VX c)) (2:Int)=some (((Zf.VX c).countP (fun a=>decide (Zw.Kind a=((2:Nat):Int))):Nat):Int):=Zbh (by omega) (Js _ (by omega))
        have g3:atI (Zba (Zf.VX c)) (3:Int)=some (((Zf.VX c).countP (fun a=>decide (Zw.Kind a=((3:Nat):Int))):Nat):Int):=Zbh (by omega) (Js _ (by omega))
        have c1:=ZhW c 1
        have c2:=ZhW c 2
        have c3:=ZhW c 3
        simp only [Zaw,Int.lt_irrefl,if_false,hkinds,Bq,g1,g2,g3]
        generalize (Zf.VX c).countP (fun a=>decide (Zw.Kind a=((1:Nat):Int)))=n1 at c1 ⊢
        generalize (Zf.VX c).countP (fun a=>decide (Zw.Kind a=((2:Nat):Int)))=n2 at c2 ⊢
        generalize (Zf.VX c).countP (fun a=>decide (Zw.Kind a=((3:Nat):Int)))=n3 at c3 ⊢
        by_cases k1:Zf.Kind c=1
        · rw [if_pos k1]
          exact Zg9 c h hp k1
        rw [if_neg k1]
        have hgoal:∀ (b:Bool),(b=true↔ZbZ c)→(some (.inr b):Option ((Int×Unit) ⊕ Bool))=some (.inr (tr (ZbZ c))):=fun b hb=>by rw [ZjA hb]
        have c1':ZkP c 1↔0<n1:=c1.symm
        have c2':ZkP c 2↔0<n2:=c2.symm
        have c3':ZkP c 3↔0<n3:=c3.symm
        have hKO:ZbZ c↔(Zf.Kind c=2∧Zhz (Zf.Ye c)=1∧(Zf.Truth c).length=0∧¬0<n1∧(0<n2↔¬0<n3))∨(Zf.Kind c=3∧Zhz (Zf.Ye c)=1∧(Zf.Truth c).length=0∧0<n1∧0<n2∧¬0<n3):=by
          unfold ZbZ
          rw [c1',c2',c3']
          constructor
          · rintro (hh | hh | hh)
            · exact absurd hh.1 k1
            · exact .inl hh
            · exact .inr hh
          · rintro (hh | hh)
            · exact .inr (.inl hh)
            · exact .inr (.inr hh)
        by_cases k2:Zf.Kind c=2
        · rw [if_pos k2]
          split
          · split
            · split
              · rename_i a b d
                refine hgoal _ ?_
                rw [hKO]
                simp only [beq_iff_eq,decide_eq_decide] at d
                constructor
                · intro hh;cases hh
                · intro hh;omega
              · rename_i a b d
                refine hgoal _ ?_
                rw [hKO,decide_eq_true_eq]
                simp only [beq_iff_eq,decide_eq_decide] at d
                omega
            · refine hgoal _ ?_
              rw [hKO]
              constructor
              · intro hh;cases hh
              · intro hh;omega
          · refine hgoal _ ?_
            rw [hKO]
            constructor
            · intro hh;cases hh
            · intro hh;omega
        rw [if_neg k2]
        repeat' split
        all_goals
          refine hgoal _ ?_
          rw [hKO]
          first
            | (rw [decide_eq_true_eq];omega)
            | (constructor
               · intro hh;cases hh
               · intro hh;omega))]
    congr 1
    by_cases hA:ZcB (Zf.VX c) (fun k a=>ZgB c a∧Apart (Zf.VX c) k a)
    · rw [Xk hA];exact Xu ⟨fun x=>⟨hA,x⟩,fun x=>x.2⟩
    · rw [YT hA,ZR (fun x=>hA x.1)]
  · unfold Ze3
    constructor
    · rintro ⟨a,b,c1,d,e,f⟩
      exact ⟨a,hp,⟨by omega,e⟩,c1,d,f⟩
    · rintro ⟨a,b,⟨c1,d⟩,e,f,g⟩
      exact ⟨a,by omega,e,f,d,g⟩
/-
  Plain laws: libraries; names of a design.
-/
theorem ZmT {α:Type} {l:List α} {k:Nat} {s:α}:s ∉ l.take k↔∀ (j:Nat) (q:α),j<k→l[j]?=some q→q≠s:=by
  constructor
  · intro h j q hj hq e
    refine h (List.mem_iff_getElem?.2 ⟨j,?_⟩)
    rw [List.getElem?_take,if_pos hj,hq,e]
  · intro h hm
    obtain ⟨j,hj⟩:=List.mem_iff_getElem?.1 hm
    rw [List.getElem?_take] at hj
    split at hj
    · rename_i hjk;exact h j s hjk hj rfl
    · cases hj
theorem Zll {α:Type} (f:α→List UInt8) (l:List α):Qq (l.map f) l.length↔ZcB l (fun k x=>VD (f x)=true∧∀ (j:Nat) (q:α),j<k→l[j]?=some q→f q≠f x):=by
  constructor
  · intro h k x hx
    have hk:=(List.getElem?_eq_some_iff.1 hx).1
    obtain ⟨h1,h2⟩:=h k (f x) hk (by simp [hx])
    refine ⟨h1,fun j q hj hq=>ZmT.1 h2 j (f q) hj (by simp [hq])⟩
  · intro h j s hj hs
    simp only [List.getElem?_map,Option.map_eq_some_iff] at hs
    obtain ⟨x,hx,rfl⟩:=hs
    obtain ⟨h1,h2⟩:=h j x hx
    refine ⟨h1,ZmT.2 (fun i q hi hq=>?_)⟩
    simp only [List.getElem?_map,Option.map_eq_some_iff] at hq
    obtain ⟨y,hy,rfl⟩:=hq
    exact h2 i y hi hy
def ZcM (l:List Zf):List (List UInt8):=l.map Zf.Name
def ZkU (a:Zn):Prop:=(Zn.Cells a).length≤8∧(∀ c∈Zn.Cells a,Ze3 c)∧Qq (ZcM (Zn.Cells a)) (Zn.Cells a).length
theorem Zp7 {a:Zn} (h:sm YR a):sm (.sl QC) (Zn.Cells a):=h.1
theorem Ja {α:Type} {l:List α} {P:α→Prop}:ZcB l (fun _ x=>P x)↔∀ x∈l,P x:=by
  constructor
  · intro h x hx
    obtain ⟨k,hk⟩:=List.mem_iff_getElem?.1 hx
    exact h k x hk
  · intro h k x hk
    exact h x (List.mem_of_getElem? hk)
theorem Zgu {P Q:Prop}:sel P (tr Q) false=tr (P∧Q):=by
  by_cases h:P
  · rw [Xk h];exact Xu ⟨fun q=>⟨h,q⟩,fun q=>q.2⟩
  · rw [YT h,ZR (fun q=>h q.1)]
theorem ZgK (a:Zn) (h:sm YR a):ZaF a=some (tr (ZkU a)):=by
  have hc:=Zp7 h
  have hs:=Zv hc
  unfold ZaF
  have:=ZeJ (l:=Zn.Cells a) (ρ:=Bool) (fun k=>((ZcM (Zn.Cells a)).take k,(k:Int),())) (fun _ c=>Ze3 c) (step:=fun v=>Xx a v.1 v.2.1) (bad:=false) (good:=tr ((Zn.Cells a).length≤8∧Qq (ZcM (Zn.Cells a)) (Zn.Cells a).length))
    (fun k c hx hk _=>by
      have hn:(ZcM (Zn.Cells a))[k]?=some (Zf.Name c):=by simp [ZcM,hx]
      simp only [Xx,show (k:Int)<((Zn.Cells a).length:Int) from by omega,if_true,Zo,hx,Bq,Zi8 c (Zfk hc hx)]
      rw [Zi (by simp only [List.length_take,List.length_singleton,ZcM,List.length_map];omega),Yo hn,Qb (by omega)]
      constructor
      · intro hh;rw [if_pos (Z5 hh)]
      · intro hh;rw [if_neg (by rw [ZR hh];simp)])
    (fun hA=>by
      have e0:(ZcM (Zn.Cells a)).take (Zn.Cells a).length=ZcM (Zn.Cells a):=by rw [show (Zn.Cells a).length=(ZcM (Zn.Cells a)).length by simp [ZcM],List.take_length]
      have hlen:(ZcM (Zn.Cells a)).length=(Zn.Cells a).length:=by simp [ZcM]
      simp only [Xx,Int.lt_irrefl,if_false,e0]
      by_cases h8:(Zn.Cells a).length≤8
      · rw [if_pos (by omega),QG _ (by rw [hlen];omega),Bq,hlen]
        congr 2
        exact Xu ⟨fun q=>⟨h8,q⟩,fun q=>q.2⟩
      · rw [if_neg (by omega),ZR (fun q=>h8 q.1)])
  refine (show Zl (fun v=>Xx a v.1 v.2.1) (([]:List (List UInt8)),(0:Int),())=_ from this).trans ?_
  rw [Zgu]
  congr 1
  refine Xu ?_
  rw [Ja]
  exact ⟨fun q=>⟨q.2.1,q.1,q.2.2⟩,fun q=>⟨q.2.1,q.1,q.2.2⟩⟩
theorem Zic {α ρ:Type} {f:α→List UInt8} {l:List α} {x:α} {k:Nat} (hk:k≤1048576) (hkl:k≤l.length) {step:Int×Unit→Option ((Int×Unit) ⊕ ρ)} {bad good:ρ}
    (hs:∀ (j:Nat) (y:α),j<k→l[j]?=some y→step ((j:Int),())=some (if f y=f x then .inr bad else .inl (Wq ((j:Int)+1),())))
    (hx:step ((k:Int),())=some (.inr good)):Zl step ((0:Int),())=some (sel (∀ (j:Nat) (q:α),j<k→l[j]?=some q→f q≠f x) good bad):=by
  rw [Ziy k (by omega) (fun j=>∀ q,l[j]?=some q→f q≠f x) (bad:=bad) (good:=good) (fun j hj=>by
    have hjl:l[j]?=some l[j]:=List.getElem?_eq_getElem (by omega)
    rw [hs j _ hj hjl]
    constructor
    · intro hh;rw [if_neg (hh _ hjl)]
    · intro hh
      rw [if_pos]
      apply Classical.byContradiction
      intro hne
      refine hh (fun q hq=>?_)
      rw [hjl] at hq;injection hq with hq;subst hq;exact hne) (fun _=>hx)]
  congr 1
  have e:(∀ j,j<k→∀ q,l[j]?=some q→f q≠f x)↔(∀ (j:Nat) (q:α),j<k→l[j]?=some q→f q≠f x):=⟨fun h j q hj hq=>h j hj q hq,fun h j hj q hq=>h j q hj hq⟩
  rw [propext e]
theorem Zha (a:Zn) (h:sm YR a):ZaN a=some (tr (ZkU a)):=by
  have hc:=Zp7 h
  have hs:=Zv hc
  unfold ZaN
  rw [Qz (YX hc) (fun k c=>Ze3 c∧∀ (j:Nat) (q:Zf),j<k→(Zn.Cells a)[j]?=some q→Zf.Name q≠Zf.Name c) (bad:=false) (good:=tr ((Zn.Cells a).length≤8))
    (fun k c hx hk _=>by
      simp only [VO,show (k:Int)<((Zn.Cells a).length:Int) from by omega,if_true,Zo,hx,Bq,Zjv c (Zfk hc hx)]
      by_cases hC:Ze3 c
      · rw [if_pos (Z5 hC),Zic (f:=Zf.Name) (l:=Zn.Cells a) (x:=c) (k:=k) (by omega) (by omega) (bad:=.inr false) (good:=.inl (Wq ((k:Int)+1),()))
          (fun j y hj hy=>by
            simp only [VN,show (j:Int)<(k:Int) from by omega,if_true,Zo,hy,Bq]
            split<;>rfl)
          (by simp only [VN,Int.lt_irrefl,if_false])]
        constructor
        · intro hh;rw [Xk hh.2]
        · intro hh;rw [YT (fun q=>hh ⟨hC,q⟩)]
      · rw [if_neg (by rw [ZR hC];simp)]
        exact ⟨fun hh=>absurd hh.1 hC,fun _=>rfl⟩)
    (fun _=>by
      simp only [VO,Int.lt_irrefl,if_false]
      congr 2
      exact (ZjA (by rw [decide_eq_true_eq];omega)).symm)]
  rw [Zgu]
  congr 1
  refine Xu ?_
  unfold ZkU
  rw [ZcM,Zll,←Ja]
  constructor
  · rintro ⟨q,q8⟩
    exact ⟨q8,fun k x hx=>(q k x hx).1,fun k x hx=>⟨(q k x hx).1.1,(q k x hx).2⟩⟩
  · rintro ⟨q8,q1,q2⟩
    exact ⟨fun k x hx=>⟨q1 k x hx,(q2 k x hx).2⟩,q8⟩
theorem Zbb (l:List (List UInt8)) (hl:l.length≤1048576) (hsm:∀ s∈l,s.length≤4611686018427387904):VA l=some (tr (Qq l l.length)):=by
  unfold VA
  rw [Qz (show Len l by show l.length≤4611686018427387904;omega) (fun k s=>VD s=true∧∀ (j:Nat) (q:List UInt8),j<k→l[j]?=some q→id q≠id s) (bad:=false) (good:=true)
    (fun k s hx hk _=>by
      simp only [JA,show (k:Int)<(l.length:Int) from by omega,if_true,Zo,hx,Bq,ZbS s (hsm s (List.mem_of_getElem? hx))]
      by_cases hC:VD s=true
      · rw [if_pos hC,Zic (f:=id) (l:=l) (x:=s) (k:=k) (by omega) (by omega) (bad:=.inr false) (good:=.inl (Wq ((k:Int)+1),()))
          (fun j y hj hy=>by
            simp only [Jz,show (j:Int)<(k:Int) from by omega,if_true,Zo,hy,Bq,id]
            split<;>rfl)
          (by simp only [Jz,Int.lt_irrefl,if_false])]
        constructor
        · intro hh;rw [Xk hh.2]
        · intro hh;rw [YT (fun q=>hh ⟨hC,q⟩)]
      · rw [if_neg hC]
        exact ⟨fun hh=>absurd hh.1 hC,fun _=>rfl⟩)
    (fun _=>by simp only [JA,Int.lt_irrefl,if_false]),ZiO]
  congr 1
  refine Xu ?_
  have:=Zll id l
  rw [List.map_id] at this
  exact this.symm
def ZbF (d:Zb):List (List UInt8):=(Zb.Instances d).map Zd.Name
def J7 (d:Zb):List (List UInt8):=(Zb.YB d).map ZN.Name
def ZfM (d:Zb):Prop:=(Zb.Instances d).length≤14∧(Zb.Yb d).length≤30∧(Zb.YB d).length≤8∧Qq (ZbF d) (ZbF d).length∧Qq (Zb.Yb d) (Zb.Yb d).length∧Qq (J7 d) (J7 d).length
theorem gather {α ρ:Type} {l:List α} (hl:l.length≤1048576) (f:α→List UInt8) {step:List (List UInt8)×Int×Unit→Option ((List (List UInt8)×Int×Unit) ⊕ ρ)} {good:ρ}
    (hs:∀ (k:Nat) (x:α) (o:List (List UInt8)),l[k]?=some x→(k:Int)<(l.length:Int)→o.length=k→step (o,(k:Int),())=Zu ((o.length+[f x].length)*16≤140737488355328) (some (.inl (o++[f x],Wq ((k:Int)+1),()))))
    (hx:step (l.map f,(l.length:Int),())=some (.inr good)):Zl step (([]:List (List UInt8)),(0:Int),())=some good:=by
  refine (show Zl step (([]:List (List UInt8)),(0:Int),())=some good from Xi (l:=l) (fun k=>((l.map f).take k,(k:Int),())) (fun k x hx hk=>?_) ?_)
  · have hn:(l.map f)[k]?=some (f x):=by simp [hx]
    have hlen:((l.map f).take k).length=k:=by rw [List.length_take,List.length_map];omega
    rw [hs k x _ hx (by omega) hlen,Zi (by rw [hlen];simp;omega),Yo hn,Qb (by omega)]
  · have e0:(l.map f).take l.length=l.map f:=by rw [show l.length=(l.map f).length by simp,List.take_length]
    simp only [e0]
    exact hx
end Go.Proofs.YtjfbeebdhmebpaaGreatDoor
