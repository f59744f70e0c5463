/-
  Plain laws: lists of numbers, tables.
-/
import Derived.Test.YtehkanadahncgaaGreatDoorLA
namespace Go.Proofs.YtehkanadahncgaaGreatDoor
set_option linter.unusedVariables false
set_option linter.unusedSimpArgs false
open Go Go.Sx
theorem Zeb {a b:Bool} (h:a=true↔b=true):a=b:=by cases a<;>cases b<;>simp_all
theorem Jd {P Q:Prop} (h:P↔Q):tr P=tr Q:=by rw [propext h]
def Inc (l:List Int):Prop:=∀ (k:Nat) (x y:Int),l[k]?=some x→l[k+1]?=some y→x<y
def Zg8 (l:List Int) (lo hi:Int):Prop:=∀ x∈l,lo≤x∧x≤hi
theorem Zjd (l:List Int) (lo hi:Int):allIn l lo hi=true↔Zg8 l lo hi:=by
  unfold allIn Zg8
  rw [List.all_eq_true]
  simp only [within_iff]
theorem ZaF (l:List Int):YH l=some (l.length:Int):=rfl
theorem ZhK (l:List Int) (hl:Len l):Jr l=some (tr (Inc l)):=by
  unfold Jr
  have h4:l.length≤4611686018427387904:=hl
  by_cases h0:l.length=0
  · have:l=[]:=List.eq_nil_of_length_eq_zero h0
    subst this
    rw [Zhl (r:=true) (by rfl)]
    have h0:Inc []:=fun k x y h=>by simp at h
    rw [YR h0]
  have:=Zqx (ρ:=Bool) 1 l.length (by omega) h4 (fun k=>∀ x y,l[k-1]?=some x→l[k]?=some y→x<y) (step:=fun v=>Y4 l v.1) (bad:=false) (good:=true)
    (fun k h1 h2 _=>by
      obtain ⟨x,hx⟩:∃ x,l[k-1]?=some x:=⟨_,List.getElem?_eq_getElem (by omega)⟩
      obtain ⟨y,hy⟩:∃ y,l[k]?=some y:=⟨_,List.getElem?_eq_getElem h2⟩
      have e1:IntKind.i64.wrap ((k:Int)-1)=((k-1:Nat):Int):=by rw [V8 (by omega) (by omega)];omega
      simp only [Y4,show (k:Int)<(l.length:Int) from by omega,if_true,e1,Zu,hx,hy,Option.bind_some]
      refine ⟨fun h=>?_,fun h=>?_⟩
      · have:=h x y rfl rfl
        rw [if_neg (by omega)]
      · rw [if_pos]
        rcases Int.lt_or_le x y with h' | h'
        · exact absurd (fun a b ha hb=>by injection ha with ha;injection hb with hb;subst ha;subst hb;exact h') h
        · exact h')
    (fun _=>by simp only [Y4,Int.lt_irrefl,if_false])
  refine (show Zw (fun v=>Y4 l v.1) ((1:Int),())=_ from this).trans ?_
  rw [ZlK]
  congr 1
  refine Jd ⟨fun h k x y hx hy=>?_,fun h j h1 h2 x y hx hy=>?_⟩
  · exact h (k+1) (by omega) (List.getElem?_eq_some_iff.1 hy).1 x y (by simpa using hx) hy
  · exact h (j-1) x y hx (by rw [show j-1+1=j by omega];exact hy)
def Zfc (l:List Int):Prop:=1≤l.length∧l.length≤4∧Zg8 l 0 100000∧Inc l
theorem Zh6 (l:List Int) (hl:Len l):ZcT l=some (tr (Zfc l)):=by
  unfold ZcT
  rw [ZaF,Option.bind_some,Zbk,Option.bind_some,Zcv l _ _ hl,Option.bind_some,ZhK l hl,Option.bind_some]
  have e:tr (Zfc l)=(within (l.length:Int) 1 4&&allIn l 0 100000&&tr (Inc l)):=by
    refine Zol ?_
    simp only [Bool.and_eq_true,within_iff,Zjd,Vp,Zfc]
    exact ⟨fun ⟨⟨⟨a,b⟩,c⟩,d⟩=>⟨by omega,by omega,c,d⟩,fun ⟨a,b,c,d⟩=>⟨⟨⟨by omega,by omega⟩,c⟩,d⟩⟩
  rw [e]
  cases within (l.length:Int) 1 4<;>cases allIn l 0 100000<;>cases tr (Inc l)<;>rfl
theorem ZgU (l:List Int) (hl:Len l):ZbX l=some (tr (Zfc l)):=by
  unfold ZbX
  have h4:l.length≤4611686018427387904:=hl
  rw [ZaP hl (fun k x=>(0≤x∧x≤100000)∧(0<k→∀ y,l[k-1]?=some y→y<x)) (bad:=false) (good:=decide (1≤l.length∧l.length≤4))
    (fun k x hx hk _=>by
      simp only [Zal,show (k:Int)<(l.length:Int) from by omega,if_true,Zu,hx,Option.bind_some,ZdO]
      by_cases hw:within x 0 100000=true
      · rw [if_pos hw]
        by_cases h0:0<k
        · obtain ⟨y,hy⟩:∃ y,l[k-1]?=some y:=⟨_,List.getElem?_eq_getElem (by omega)⟩
          have e1:IntKind.i64.wrap ((k:Int)-1)=((k-1:Nat):Int):=by rw [V8 (by omega) (by omega)];omega
          rw [if_pos (by omega),e1,Zu,hy,Option.bind_some]
          refine ⟨fun h=>?_,fun h=>?_⟩
          · rw [if_neg (by have:=h.2 h0 y rfl;omega)]
          · rw [if_pos]
            rcases Int.lt_or_le y x with h' | h'
            · exact absurd ⟨(within_iff _ _ _).1 hw,fun _ z hz=>by injection hz with hz;subst hz;exact h'⟩ h
            · exact h'
        · rw [if_neg (by omega)]
          exact ⟨fun _=>rfl,fun h=>absurd ⟨(within_iff _ _ _).1 hw,fun h'=>absurd h' h0⟩ h⟩
      · rw [if_neg hw]
        exact ⟨fun h=>absurd ((within_iff _ _ _).2 h.1) hw,fun _=>rfl⟩)
    (fun _=>by
      simp only [Zal,Int.lt_irrefl,if_false]
      by_cases h1:1≤l.length
      · rw [if_pos (by omega)]
        congr 2
        rw [decide_eq_decide];omega
      · rw [if_neg (by omega)]
        simp [h1])]
  congr 1
  refine Zeb ?_
  rw [Vp]
  by_cases h:ZfZ l (fun k x=>(0≤x∧x≤100000)∧(0<k→∀ y,l[k-1]?=some y→y<x))
  · rw [VB h,decide_eq_true_eq]
    constructor
    · rintro ⟨h1,h2⟩
      refine ⟨h1,h2,fun x hx=>?_,fun k x y hx hy=>?_⟩
      · obtain ⟨k,hk⟩:=List.mem_iff_getElem?.1 hx
        exact (h k x hk).1
      · exact (h (k+1) y hy).2 (by omega) x (by simpa using hx)
    · intro hh
      exact ⟨hh.1,hh.2.1⟩
  · rw [Qu h]
    constructor
    · intro hh;cases hh
    · intro hh
      refine absurd ?_ h
      intro k x hk
      refine ⟨hh.2.2.1 x (List.mem_of_getElem? hk),fun h0 y hy=>?_⟩
      exact hh.2.2.2 (k-1) y x hy (by rw [show k-1+1=k by omega];exact hk)
def Zd8 (t:Zr):Prop:=Zfc (Zr.Zfk t)∧Zfc (Zr.Loads t)∧(Zr.Values t).length=(Zr.Zfk t).length*(Zr.Loads t).length∧Zg8 (Zr.Values t) (-1000000) 1000000
def Zvl (t:Zr):Prop:=Len (Zr.Zfk t)∧Len (Zr.Loads t)∧Len (Zr.Values t)
theorem Zfc.mul {a b:List Int} (ha:Zfc a) (hb:Zfc b):a.length*b.length≤16:=by
  have h1:=ha.2.1
  have h2:=hb.2.1
  calc a.length*b.length≤4*4:=Nat.mul_le_mul h1 h2
    _=16:=rfl
theorem Zql {a b:List Int} (ha:Zfc a) (hb:Zfc b):IntKind.i64.wrap ((a.length:Int)*(b.length:Int))=((a.length*b.length:Nat):Int):=by
  have:=ha.mul hb
  have e:(a.length:Int)*(b.length:Int)=((a.length*b.length:Nat):Int):=by simp
  rw [e,V8 (by omega) (by omega)]
theorem Zmr (t:Zr) (h:Zvl t):Zdb t=some (tr (Zd8 t)):=by
  unfold Zdb
  rw [Zh6 _ h.1,Option.bind_some]
  by_cases h1:Zfc (Zr.Zfk t)
  · rw [if_pos (YR h1),Zh6 _ h.2.1,Option.bind_some]
    by_cases h2:Zfc (Zr.Loads t)
    · rw [if_pos (YR h2),Zql h1 h2]
      by_cases h3:(Zr.Values t).length=(Zr.Zfk t).length*(Zr.Loads t).length
      · rw [if_pos (by rw [h3]),Zcv _ _ _ h.2.2,Option.bind_some]
        congr 1
        refine Zeb ?_
        rw [Zjd,Vp]
        exact ⟨fun h4=>⟨h1,h2,h3,h4⟩,fun h4=>h4.2.2.2⟩
      · rw [if_neg (by omega),Yp (fun hh=>h3 hh.2.2.1)]
    · rw [if_neg (by rw [Yp h2];simp),Yp (fun hh=>h2 hh.2.1)]
  · rw [if_neg (by rw [Yp h1];simp),Yp (fun hh=>h1 hh.1)]
theorem Zmp (t:Zr) (h:Zvl t):Zc2 t=some (tr (Zd8 t)):=by
  unfold Zc2
  rw [ZgU _ h.1,Option.bind_some]
  by_cases h1:Zfc (Zr.Zfk t)
  · rw [if_pos (YR h1),ZgU _ h.2.1,Option.bind_some]
    by_cases h2:Zfc (Zr.Loads t)
    · rw [if_pos (YR h2),Zql h1 h2]
      by_cases h3:(Zr.Values t).length=(Zr.Zfk t).length*(Zr.Loads t).length
      · rw [if_pos (by rw [h3]),ZaP h.2.2 (fun k x=>-1000000≤x∧x≤1000000) (bad:=false) (good:=true)
          (fun k x hx hk _=>by
            simp only [Zar,show (k:Int)<((Zr.Values t).length:Int) from by omega,if_true,Zu,hx,Option.bind_some,ZdO,within_iff]
            exact ⟨fun hh=>by rw [if_pos hh],fun hh=>by rw [if_neg hh]⟩)
          (fun _=>by simp only [Zar,Int.lt_irrefl,if_false]),ZlK]
        congr 1
        refine Jd ⟨fun h4=>⟨h1,h2,h3,fun x hx=>?_⟩,fun h4 k x hx=>h4.2.2.2 x (List.mem_of_getElem? hx)⟩
        obtain ⟨k,hk⟩:=List.mem_iff_getElem?.1 hx
        exact h4 k x hk
      · rw [if_neg (by omega),Yp (fun hh=>h3 hh.2.2.1)]
    · rw [if_neg (by rw [Yp h2];simp),Yp (fun hh=>h2 hh.2.1)]
  · rw [if_neg (by rw [Yp h1];simp),Yp (fun hh=>h1 hh.1)]
theorem Zok (x:Int) (l:List Int) (hl:Len (x::l)):XB (x::l)=some (l.foldl min x):=by
  unfold XB
  have h4:(x::l).length≤4611686018427387904:=hl
  have e1:¬(((x::l).length:Int)<1):=by simp only [List.length_cons];omega
  have e2:atI (x::l) (0:Int)=some x:=rfl
  rw [if_neg e1,e2,Option.bind_some]
  refine X8 l.length (fun k v=>v.1=(l.take k).foldl min x∧v.2.1=(((k+1:Nat)):Int)) _ ⟨by simp,rfl⟩ ?_ ?_
  · rintro k ⟨m,i,⟨⟩⟩ hk ⟨hm,hi⟩
    simp only at hm hi
    subst hm;subst hi
    have hx:l[k]?=some l[k]:=List.getElem?_eq_getElem hk
    have hx1:(x::l)[k+1]?=some l[k]:=by simp
    simp only [Y6,Zu,hx1,Option.bind_some,show ((k+1:Nat):Int)<((x::l).length:Int) from by simp;omega,if_true]
    refine .inl ⟨_,rfl,?_,?_⟩
    · rw [Yz hx,List.foldl_append];rfl
    · simp only [List.length_cons] at h4
      show IntKind.i64.wrap (((k+1:Nat):Int)+1)=((k+1+1:Nat):Int)
      rw [V8 (by omega) (by omega)];omega
  · rintro ⟨m,i,⟨⟩⟩ ⟨hm,hi⟩
    simp only at hm hi
    subst hm;subst hi
    rw [List.take_length]
    simp only [Y6,show ¬(((l.length+1:Nat):Int)<((x::l).length:Int)) from by simp,if_false]
theorem ZjJ (x:Int) (l:List Int):l.foldl min x<0↔x<0∨∃ y∈l,y<0:=by
  induction l generalizing x with
  | nil=>simp
  | cons y r ih =>
    simp only [List.foldl_cons,ih,List.mem_cons,exists_eq_or_imp]
    rw [show min x y<0↔x<0∨y<0 by omega,or_assoc]
def ZeJ (l:List Zr) (pos:Bool):Prop:=l.length=2∧∀ t∈l,Zd8 t∧(pos=true→∀ v∈Zr.Values t,0≤v)
theorem Zd8.some {t:Zr} (h:Zd8 t):∃ x l,Zr.Values t=x::l:=by
  have h1:=h.1.1
  have h2:=h.2.1.1
  have h3:=h.2.2.1
  have:1*1≤(Zr.Zfk t).length*(Zr.Loads t).length:=Nat.mul_le_mul h1 h2
  cases hv:Zr.Values t with
  | nil=>rw [hv] at h3;simp at h3;omega
  | cons x l=>exact ⟨x,l,rfl⟩
theorem ZhJ (t:Zr) (pos:Bool) (h:Zvl t):Qi t pos=some (! tr (Zd8 t∧(pos=true→∀ v∈Zr.Values t,0≤v))):=by
  unfold Qi
  rw [Zmr _ h,Option.bind_some]
  by_cases h1:Zd8 t
  · rw [if_pos (YR h1)]
    cases pos
    · rw [if_neg (by simp),YR ⟨h1,fun e=>by cases e⟩];rfl
    · obtain ⟨x,l,hv⟩:=h1.some
      have hlen:=h.2.2
      rw [if_pos rfl,hv]
      rw [hv] at hlen
      rw [Zok x l hlen,Option.bind_some]
      congr 1
      refine Zeb ?_
      rw [decide_eq_true_eq,ZjJ,Bool.not_eq_true',←Bool.not_eq_true,Vp]
      constructor
      · rintro (hh | ⟨y,hy,hh⟩) ⟨_,hall⟩
        · have:=hall rfl x (by simp);omega
        · have:=hall rfl y (by simp [hy]);omega
      · intro hh
        apply Classical.byContradiction
        intro hn
        refine hh ⟨h1,fun _ v hvm=>?_⟩
        rcases List.mem_cons.1 hvm with rfl | hvm
        · exact Int.not_lt.1 fun hlt=>hn (.inl hlt)
        · exact Int.not_lt.1 fun hlt=>hn (.inr ⟨v,hvm,hlt⟩)
  · rw [if_neg (by rw [Yp h1];simp),Yp (fun hh=>h1 hh.1)];rfl
def ZuO (l:List Zr):Prop:=Len l∧∀ t∈l,Zvl t
theorem Zd4 (l:List Zr) (pos:Bool) (h:ZuO l):Jk l pos=some (tr (ZeJ l pos)):=by
  unfold Jk
  by_cases h2:l.length=2
  · rw [if_pos (by omega),Qh h.1 (fun t=>! tr (Zd8 t∧(pos=true→∀ v∈Zr.Values t,0≤v))) (fun t ht=>ZhJ t pos (h.2 t ht)),Option.bind_some]
    congr 1
    refine Zeb ?_
    rw [Bool.not_eq_true',List.any_eq_false,Vp]
    simp only [Bool.not_eq_true',Bool.not_eq_false,Vp,Bool.not_eq_true]
    exact ⟨fun hh=>⟨h2,hh⟩,fun hh=>hh.2⟩
  · rw [if_neg (by omega),Yp (fun hh=>h2 hh.1)]
end Go.Proofs.YtehkanadahncgaaGreatDoor
/-
  Plain laws: pins, arcs, cells.
-/
namespace Go.Proofs.YtehkanadahncgaaGreatDoor
set_option linter.unusedVariables false
set_option linter.unusedSimpArgs false
open Go Go.Sx
theorem Zhg {α τ ρ:Type} {l:List α} (pk:Nat→τ) (P:Nat→α→Prop) {step:τ→Option (τ ⊕ ρ)} {bad good:ρ}
    (hs:∀ (k:Nat) (x:α),l[k]?=some x→k<l.length→(∀ (j:Nat) (y:α),j<k→l[j]?=some y→P j y)→(P k x→step (pk k)=some (.inl (pk (k+1))))∧(¬P k x→step (pk k)=some (.inr bad)))
    (hx:ZfZ l P→step (pk l.length)=some (.inr good)):Zw step (pk 0)=some (sel (ZfZ l P) good bad):=by
  refine X8 l.length (fun k v=>v=pk k∧∀ (j:Nat) (y:α),j<k→l[j]?=some y→P j y) _ ⟨rfl,fun j y hj=>by omega⟩ ?_ ?_
  · rintro k v hk ⟨rfl,hS⟩
    have hx:l[k]?=some l[k]:=List.getElem?_eq_getElem hk
    obtain ⟨h1,h2⟩:=hs k _ hx hk hS
    by_cases hP:P k l[k]
    · refine .inl ⟨_,h1 hP,rfl,fun j y hj hy=>?_⟩
      by_cases hjk:j<k
      · exact hS j y hjk hy
      · have:j=k:=by omega
        subst this
        rw [hx] at hy;injection hy with hy;subst hy
        exact hP
    · right
      rw [h2 hP,Qu (fun h=>hP (h k _ hx))]
  · rintro v ⟨rfl,hS⟩
    have hA:ZfZ l P:=fun k x hk=>hS k x (List.getElem?_eq_some_iff.1 hk).1 hk
    rw [hx hA,VB hA]
theorem YF {α τ ρ:Type} {l:List α} (pk:Nat→τ) {step:τ→Option (τ ⊕ ρ)} {good:ρ}
    (hs:∀ (k:Nat) (x:α),l[k]?=some x→k<l.length→step (pk k)=some (.inl (pk (k+1)))) (hx:step (pk l.length)=some (.inr good)):Zw step (pk 0)=some good:=by
  have:=Zhg (l:=l) pk (fun _ _=>True) (step:=step) (bad:=good) (good:=good) (fun k x h1 h2 _=>⟨fun _=>hs k x h1 h2,fun h=>absurd trivial h⟩) (fun _=>hx)
  rw [this,VB (show ZfZ l (fun _ _=>True) from fun _ _ _=>trivial)]
theorem ZlU {ρ:Type} (n:Nat) (hn:n≤4611686018427387904) (P:Nat→Prop) {step:Int×Unit→Option ((Int×Unit) ⊕ ρ)} {bad good:ρ}
    (hs:∀ k:Nat,k<n→(P k→step ((k:Int),())=some (.inl (IntKind.i64.wrap ((k:Int)+1),())))∧(¬P k→step ((k:Int),())=some (.inr bad)))
    (hx:(∀ j,j<n→P j)→step ((n:Int),())=some (.inr good)):Zw step ((0:Int),())=some (sel (∀ j,j<n→P j) good bad):=by
  have:=Zqx (ρ:=ρ) 0 n (by omega) hn P (step:=step) (bad:=bad) (good:=good) (fun k _ h _=>hs k h) (fun h=>hx (fun j hj=>h j (by omega) hj))
  refine (show Zw step ((0:Int),())=_ from this).trans ?_
  congr 1
  have e:(∀ j,0≤j→j<n→P j)↔(∀ j,j<n→P j):=⟨fun h j hj=>h j (by omega) hj,fun h j _ hj=>h j hj⟩
  rw [propext e]
theorem XF {t:Ty} {l:List t.den} (h:sm (.sl t) l):Len l:=by
  have h1:(l.length:Int)≤1048576:=h.1
  show l.length≤4611686018427387904
  omega
theorem Zg3 {s:List UInt8} (h:sm .str s):s.length≤4611686018427387904:=by
  have h1:(s.length:Int)≤1048576:=h
  omega
theorem ZqE {t:Ty} {l:List t.den} (h:sm (.sl t) l) {x:t.den} (hx:x∈l):sm t x:=h.2 x hx
theorem ZaR {t:Ty} {l:List t.den} (h:sm (.sl t) l) {k:Nat} {x:t.den} (hx:l[k]?=some x):sm t x:=h.2 x (List.mem_of_getElem? hx)
theorem Zm {t:Ty} {l:List t.den} (h:sm (.sl t) l):l.length≤1048576:=by
  have h1:(l.length:Int)≤1048576:=h.1
  omega
theorem Zro {t:Zr} (h:sm Yf t):Zvl t:=⟨XF (t:=.int .i64) h.1,XF (t:=.int .i64) h.2.1,XF (t:=.int .i64) h.2.2.1⟩
theorem Zgd {l:List Zr} (h:sm (.sl Yf) l):ZuO l:=⟨XF h,fun t ht=>Zro (ZqE h ht)⟩
theorem Ziq (t:Zr) (h:Zvl t):∃ r,J7 t=some r∧(Zd8 t→r.2=0∧(r.1.1<0↔∃ v∈Zr.Values t,v<0))∧(¬Zd8 t→r.2=1):=by
  unfold J7
  rw [Zmp _ h,Option.bind_some]
  by_cases h1:Zd8 t
  · rw [if_pos (YR h1)]
    obtain ⟨x,l,hv⟩:=h1.some
    have h4:(x::l).length≤4611686018427387904:=by rw [←hv];exact h.2.2
    have e2:atI (Zr.Values t) (0:Int)=some x:=by rw [hv];rfl
    rw [e2,Option.bind_some]
    have:=YF (l:=l) (ρ:=ZpS×Int) (fun k=>((((k+1:Nat)):Int),(l.take k).foldl min x,(l.take k).foldl max x,())) (step:=fun v=>XV t v.1 v.2.1 v.2.2.1) (good:=((l.foldl min x,l.foldl max x,()),0))
      (fun k y hy hk=>by
        have hx1:(x::l)[k+1]?=some y:=by simpa using hy
        simp only [List.length_cons] at h4
        simp only [XV,hv,Zu,hx1,Option.bind_some,show ((k+1:Nat):Int)<((x::l).length:Int) from by simp;omega,if_true]
        rw [Yz hy,List.foldl_append,List.foldl_append,V8 (by omega) (by omega)]
        rfl)
      (by
        simp only [XV,hv,List.take_length,show ¬(((l.length+1:Nat):Int)<((x::l).length:Int)) from by simp,if_false])
    refine ⟨_,this,fun _=>⟨rfl,?_⟩,fun hn=>absurd h1 hn⟩
    rw [hv]
    refine (ZjJ x l).trans ?_
    simp
  · rw [if_neg (by rw [Yp h1];simp)]
    exact ⟨_,rfl,fun hn=>absurd hn h1,fun _=>rfl⟩
theorem Zed (l:List Zr) (pos:Bool) (h:ZuO l):Yx l pos=some (tr (ZeJ l pos)):=by
  unfold Yx
  by_cases h2:l.length=2
  · rw [if_pos (by omega),ZaP h.1 (fun k t=>Zd8 t∧(pos=true→∀ v∈Zr.Values t,0≤v)) (bad:=false) (good:=true)
      (fun k t hx hk _=>by
        obtain ⟨r,hr,hr1,hr2⟩:=Ziq t (h.2 t (List.mem_of_getElem? hx))
        simp only [VX,show (k:Int)<2 from by omega,if_true,Zu,hx,Option.bind_some,hr]
        by_cases ht:Zd8 t
        · obtain ⟨e1,e2⟩:=hr1 ht
          rw [if_pos e1]
          cases pos
          · simp only [Bool.false_eq_true,if_false]
            exact ⟨fun _=>trivial,fun hn=>absurd ⟨ht,fun e=>by cases e⟩ hn⟩
          · simp only [if_true]
            refine ⟨fun hh=>?_,fun hn=>?_⟩
            · rw [if_neg]
              intro hlt
              obtain ⟨v,hv,hv0⟩:=e2.1 hlt
              have:=hh.2 trivial v hv
              omega
            · rw [if_pos]
              apply Classical.byContradiction
              intro hlt
              refine hn ⟨ht,fun _ v hv=>?_⟩
              exact Int.not_lt.1 fun hv0=>hlt (e2.2 ⟨v,hv,hv0⟩)
        · have e1:=hr2 ht
          rw [if_neg (by rw [e1];decide)]
          exact ⟨fun hh=>absurd hh.1 ht,fun _=>rfl⟩)
      (fun _=>by simp only [VX,h2];rfl),ZlK]
    congr 1
    refine Jd ⟨fun hh=>⟨h2,fun t ht=>?_⟩,fun hh k t hk=>hh.2 t (List.mem_of_getElem? hk)⟩
    obtain ⟨k,hk⟩:=List.mem_iff_getElem?.1 ht
    exact hh k t hk
  · rw [if_neg (by omega),Yp (fun hh=>h2 hh.1)]
def ZeE (l:List Yu):List (List UInt8):=l.map Yu.Name
def Zk0 (l:List Yu):Nat:=l.countP (fun p=>Yu.Clock p)
def Zpm (n k:Nat) (p:Yu):Prop:=(0≤Yu.Cap p∧Yu.Cap p≤500)∧(k+1=n→Yu.Dir p=2∧Yu.Cap p=0∧Yu.Clock p=false)∧(k+1<n→Yu.Dir p=1)
def Zic (l:List Yu):Prop:=2≤l.length∧l.length≤5∧VU (ZeE l) l.length∧ZfZ l (Zpm l.length)
theorem Zl3 (l:List Yu) (h:sm (.sl V9) l):Zc5 l=some (tr (Zic l)):=by
  unfold Zc5
  have hs:=Zm h
  have:=Zhg (l:=l) (ρ:=Bool) (fun k=>((ZeE l).take k,(k:Int),())) (Zpm l.length) (step:=fun v=>QA l v.1 v.2.1) (bad:=false) (good:=tr (2≤l.length∧l.length≤5∧VU (ZeE l) l.length))
    (fun k p hx hk _=>by
      have hn:(ZeE l)[k]?=some (Yu.Name p):=by simp [ZeE,hx]
      have e1:IntKind.i64.wrap ((l.length:Int)-1)=((l.length-1:Nat):Int):=by rw [V8 (by omega) (by omega)];omega
      simp only [QA,show (k:Int)<(l.length:Int) from by omega,if_true,Zu,hx,Option.bind_some,e1]
      rw [Zi (by simp only [List.length_take,List.length_singleton,ZeE,List.length_map];omega),Yz hn,V8 (by omega) (by omega)]
      unfold Zpm
      by_cases hlast:(k:Int)=((l.length-1:Nat):Int)
      · rw [if_pos hlast]
        have hk1:k+1=l.length:=by omega
        constructor
        · rintro ⟨_,h2,_⟩
          obtain ⟨a,b,c⟩:=h2 hk1
          rw [if_pos a,if_pos b,if_neg (by rw [c];simp)]
          rfl
        · intro hh
          split
          · split
            · split
              · rfl
              · rename_i a b c
                exact absurd ⟨by omega,fun _=>⟨a,b,by simpa using c⟩,fun h'=>by omega⟩ hh
            · rfl
          · rfl
      · rw [if_neg hlast,Zbk]
        have hk1:k+1<l.length:=by omega
        simp only [Option.bind_some,within_iff]
        constructor
        · rintro ⟨h1,_,h3⟩
          rw [if_pos (h3 hk1),if_pos h1]
          rfl
        · intro hh
          split
          · split
            · rename_i a b
              exact absurd ⟨b,fun h'=>by omega,fun _=>a⟩ hh
            · rfl
          · rfl)
    (fun hA=>by
      have e0:(ZeE l).take l.length=ZeE l:=by rw [show l.length=(ZeE l).length by simp [ZeE],List.take_length]
      simp only [QA,Int.lt_irrefl,if_false,e0,Zbk,Option.bind_some,show QM l=some (l.length:Int) from rfl]
      have hlen:(ZeE l).length=l.length:=by simp [ZeE]
      by_cases hw:within (l.length:Int) 2 5=true
      · rw [if_pos hw,Zbb _ (by rw [hlen];omega),Option.bind_some,hlen]
        rw [within_iff] at hw
        congr 2
        exact Jd ⟨fun hh=>⟨by omega,by omega,hh⟩,fun hh=>hh.2.2⟩
      · rw [if_neg hw,Yp]
        intro hh
        exact hw ((within_iff _ _ _).2 (by omega)))
  refine (show Zw (fun v=>QA l v.1 v.2.1) (([]:List (List UInt8)),(0:Int),())=_ from this).trans ?_
  congr 1
  refine Zeb ?_
  rw [Vp]
  by_cases hA:ZfZ l (Zpm l.length)
  · rw [VB hA,Vp]
    exact ⟨fun hh=>⟨hh.1,hh.2.1,hh.2.2,hA⟩,fun hh=>⟨hh.1,hh.2.1,hh.2.2.1⟩⟩
  · rw [Qu hA]
    exact ⟨fun hh=>(by cases hh),fun hh=>absurd hh.2.2.2 hA⟩
end Go.Proofs.YtehkanadahncgaaGreatDoor
/-
  Plain laws: pins by the reference; arcs.
-/
namespace Go.Proofs.YtehkanadahncgaaGreatDoor
set_option linter.unusedVariables false
set_option linter.unusedSimpArgs false
open Go Go.Sx
theorem ZuE {n:Nat} (h:n≤1048576) (h1:1≤n):IntKind.i64.wrap ((n:Int)-1)=((n-1:Nat):Int):=by rw [V8 (by omega) (by omega)];omega
theorem Zax {n:Nat} (h:n≤1048576):IntKind.i64.wrap ((n:Int)+1)=((n+1:Nat):Int):=by rw [V8 (by omega) (by omega)];omega
theorem Zid {l:List Yu} {k:Nat} {s:List UInt8}:s ∉ (ZeE l).take k↔∀ (j:Nat) (q:Yu),j<k→l[j]?=some q→Yu.Name q≠s:=by
  constructor
  · intro h j q hj hq e
    refine h (List.mem_iff_getElem?.2 ⟨j,?_⟩)
    rw [List.getElem?_take,if_pos hj]
    simp [ZeE,hq,e]
  · intro h hm
    obtain ⟨j,hj⟩:=List.mem_iff_getElem?.1 hm
    rw [List.getElem?_take] at hj
    split at hj
    · rename_i hjk
      simp only [ZeE,List.getElem?_map,Option.map_eq_some_iff] at hj
      obtain ⟨q,hq,e⟩:=hj
      exact h j q hjk hq e
    · cases hj
theorem Zl6 (c:Zh) (h:sm (.sl V9) (Zh.Yy c)):Zdf c=some (sel (Zic (Zh.Yy c)) ((Zk0 (Zh.Yy c):Int),true) ((0:Int),false)):=by
  unfold Zdf
  have hs:=Zm h
  by_cases h2:((Zh.Yy c).length:Int)<2
  · rw [if_pos h2,Qu (fun hh=>by have:=hh.1;omega)]
  by_cases h5:(5:Int)<((Zh.Yy c).length:Int)
  · rw [if_neg h2,if_pos h5,Qu (fun hh=>by have:=hh.2.1;omega)]
  rw [if_neg h2,if_neg h5]
  have e1:IntKind.i64.wrap (((Zh.Yy c).length:Int)-1)=(((Zh.Yy c).length-1:Nat):Int):=ZuE hs (by omega)
  have:=Zhg (l:=Zh.Yy c) (ρ:=Int×Bool) (fun k=>((((Zh.Yy c).take k).countP (fun p=>Yu.Clock p):Int),(k:Int),()))
    (fun k p=>(ZaZ (Yu.Name p)=true∧∀ (j:Nat) (q:Yu),j<k→(Zh.Yy c)[j]?=some q→Yu.Name q≠Yu.Name p)∧Zpm (Zh.Yy c).length k p) (step:=fun v=>QH c v.1 v.2.1) (bad:=((0:Int),false)) (good:=((Zk0 (Zh.Yy c):Int),true))
    (fun k p hx hk _=>by
      have hcnt:((Zh.Yy c).take k).countP (fun p=>Yu.Clock p)≤5:=by
        have h1:=List.countP_le_length (p:=fun p=>Yu.Clock p) (l:=(Zh.Yy c).take k)
        rw [List.length_take] at h1;omega
      have hnext:((Zh.Yy c).take (k+1)).countP (fun p=>Yu.Clock p)=((Zh.Yy c).take k).countP (fun p=>Yu.Clock p)+if Yu.Clock p=true then 1 else 0:=by
        rw [Yz hx,List.countP_append];simp [List.countP_cons]
      have hname:(Yu.Name p).length≤4611686018427387904:=Zg3 (ZaR h hx).1
      have rest:∀ (v:Int),XP c v (k:Int) p (k:Int)=sel (ZaZ (Yu.Name p)=true∧Zpm (Zh.Yy c).length k p) (some (Sum.inr (Sum.inl (if Yu.Clock p=true then IntKind.i64.wrap (v+1) else v,((k+1:Nat):Int),())))) (some (Sum.inr (Sum.inr (0,false)))):=by
        intro v
        simp only [XP,Int.lt_irrefl,if_false,Zds _ hname,ZdO,Option.bind_some,e1,Zax (show k≤1048576 by omega),within_iff]
        unfold Zpm
        by_cases hn:ZaZ (Yu.Name p)=true
        · by_cases hcap:0≤Yu.Cap p∧Yu.Cap p≤500
          · by_cases hlast:k+1=(Zh.Yy c).length
            · have e2:(k:Int)=(((Zh.Yy c).length-1:Nat):Int):=by omega
              have e3:¬((k:Int)<(((Zh.Yy c).length-1:Nat):Int)):=by omega
              have e4:¬(k+1<(Zh.Yy c).length):=by omega
              rw [if_pos hn,if_pos hcap,if_pos e2]
              by_cases a:Yu.Dir p=2
              · by_cases b:Yu.Cap p=0
                · by_cases d:Yu.Clock p=true
                  · rw [if_pos a,if_pos b,if_pos d,Qu]
                    rintro ⟨_,_,h',_⟩
                    have:=(h' hlast).2.2
                    rw [d] at this;cases this
                  · rw [if_pos a,if_pos b,if_neg d,if_neg e3,if_neg d,VB ⟨hn,hcap,fun _=>⟨a,b,by simpa using d⟩,fun h'=>absurd h' e4⟩]
                    simp [d]
                · rw [if_pos a,if_neg b,Qu]
                  rintro ⟨_,_,h',_⟩
                  exact b (h' hlast).2.1
              · rw [if_neg a,Qu]
                rintro ⟨_,_,h',_⟩
                exact a (h' hlast).1
            · have e2:¬(k:Int)=(((Zh.Yy c).length-1:Nat):Int):=by omega
              have e3:(k:Int)<(((Zh.Yy c).length-1:Nat):Int):=by omega
              have e4:k+1<(Zh.Yy c).length:=by omega
              rw [if_pos hn,if_pos hcap,if_neg e2,if_pos e3]
              by_cases a:Yu.Dir p=1
              · rw [if_pos a,VB ⟨hn,hcap,fun h'=>absurd h' hlast,fun _=>a⟩]
                by_cases d:Yu.Clock p=true
                · rw [if_pos d,if_pos d]
                · rw [if_neg d,if_neg d]
              · rw [if_neg a,Qu]
                rintro ⟨_,_,_,h'⟩
                exact a (h' e4)
          · rw [if_pos hn,if_neg hcap,Qu (fun hh=>hcap hh.2.1)]
        · rw [if_neg hn,Qu (fun hh=>hn hh.1)]
      have inner:∀ (v:Int) (good:(Int×Int×Unit) ⊕ (Int×Bool)),((∀ (j:Nat) (q:Yu),j<k→(Zh.Yy c)[j]?=some q→Yu.Name q≠Yu.Name p)→XP c v (k:Int) p (k:Int)=some (.inr good))→
          Zw (fun v'=>XP c v (k:Int) p v'.1) ((0:Int),())=some (sel (∀ j,j<k→∀ q,(Zh.Yy c)[j]?=some q→Yu.Name q≠Yu.Name p) good (.inr (0,false))):=by
        intro v good hg
        refine ZlU k (by omega) (fun j=>∀ q,(Zh.Yy c)[j]?=some q→Yu.Name q≠Yu.Name p) (fun j hj=>?_) (fun hh=>hg (fun j q hj hq=>hh j hj q hq))
        obtain ⟨q,hq⟩:∃ q,(Zh.Yy c)[j]?=some q:=⟨_,List.getElem?_eq_getElem (by omega)⟩
        simp only [XP,show (j:Int)<(k:Int) from by omega,if_true,Zu,hq,Option.bind_some]
        refine ⟨fun hh=>by rw [if_neg (hh q rfl)],fun hh=>?_⟩
        rw [if_pos]
        apply Classical.byContradiction
        intro hne
        exact hh (fun q' hq'=>by injection hq' with hq';subst hq';exact hne)
      simp only [QH,show (k:Int)<((Zh.Yy c).length:Int) from by omega,if_true,Zu,hx,Option.bind_some]
      constructor
      · rintro ⟨⟨a,b⟩,d⟩
        rw [inner _ (.inl (((((Zh.Yy c).take (k+1)).countP (fun p=>Yu.Clock p):Nat):Int),((k+1:Nat):Int),())) (fun _=>by
          rw [rest,VB ⟨a,d⟩,hnext]
          by_cases hc:Yu.Clock p=true
          · rw [if_pos hc,if_pos hc,Zax (by omega)]
          · rw [if_neg hc,if_neg hc];rfl),VB (fun j hj q hq=>b j q hj hq)]
      · intro hh
        rw [inner _ (.inr (0,false)) (fun hn=>by
          rw [rest,Qu (fun h'=>hh ⟨⟨h'.1,hn⟩,h'.2⟩)])]
        by_cases hP:∀ j,j<k→∀ q,(Zh.Yy c)[j]?=some q→Yu.Name q≠Yu.Name p
        · rw [VB hP]
        · rw [Qu hP])
    (fun _=>by simp only [QH,Int.lt_irrefl,if_false,List.take_length];rfl)
  refine (show Zw (fun v=>QH c v.1 v.2.1) ((0:Int),(0:Int),())=_ from this).trans ?_
  congr 1
  have e:ZfZ (Zh.Yy c) (fun k p=>(ZaZ (Yu.Name p)=true∧∀ (j:Nat) (q:Yu),j<k→(Zh.Yy c)[j]?=some q→Yu.Name q≠Yu.Name p)∧Zpm (Zh.Yy c).length k p)↔Zic (Zh.Yy c):=by
    constructor
    · intro hA
      refine ⟨by omega,by omega,fun j s hj hs'=>?_,fun k p hp=>(hA k p hp).2⟩
      simp only [ZeE,List.getElem?_map,Option.map_eq_some_iff] at hs'
      obtain ⟨q,hq,rfl⟩:=hs'
      exact ⟨(hA j q hq).1.1,Zid.2 (hA j q hq).1.2⟩
    · intro hh k p hp
      have hk:=(List.getElem?_eq_some_iff.1 hp).1
      have hn:=hh.2.2.1 k (Yu.Name p) hk (by simp [ZeE,hp])
      exact ⟨⟨hn.1,Zid.1 hn.2⟩,hh.2.2.2 k p hp⟩
  rw [propext e]
end Go.Proofs.YtehkanadahncgaaGreatDoor
/-
  Plain laws: arcs.
-/
namespace Go.Proofs.YtehkanadahncgaaGreatDoor
set_option linter.unusedVariables false
set_option linter.unusedSimpArgs false
open Go Go.Sx
def Zoh (l:List Yu) (i:Int):Bool:=match l[i.toNat]? with
  | some p=>Yu.Clock p
  | none=>false
def ZjO (c:Zh) (a:ZM):Prop :=
  (0≤ZM.From a∧ZM.From a≤((Zh.Yy c).length:Int)-2)∧(0≤ZM.To a∧ZM.To a≤((Zh.Yy c).length:Int)-1)∧
  ((ZM.Kind a=1∧Zoh (Zh.Yy c) (ZM.From a)=false∧ZM.To a=((Zh.Yy c).length:Int)-1∧(1≤ZM.Zb5 a∧ZM.Zb5 a≤3)∧ZeJ (ZM.Delay a) true∧ZeJ (ZM.Zhn a) true)∨
   ((ZM.Kind a=2∨ZM.Kind a=3)∧Zoh (Zh.Yy c) (ZM.From a)=true∧ZM.To a=((Zh.Yy c).length:Int)-1∧ZM.Zb5 a=0∧ZeJ (ZM.Delay a) true∧ZeJ (ZM.Zhn a) true)∨
   ((ZM.Kind a=4∨ZM.Kind a=5)∧Zoh (Zh.Yy c) (ZM.From a)=true∧ZM.To a<((Zh.Yy c).length:Int)-1∧Zoh (Zh.Yy c) (ZM.To a)=false∧ZM.Zb5 a=0∧ZeJ (ZM.Delay a) false∧(ZM.Zhn a).length=0))
theorem ZjO.kind {c:Zh} {a:ZM} (h:ZjO c a):1≤ZM.Kind a∧ZM.Kind a≤5:=by
  rcases h.2.2 with h | h | h
  · have:=h.1;omega
  · have:=h.1;omega
  · have:=h.1;omega
theorem ZvY {P Q:Prop} {m:Option Bool} (hm:m=some (tr Q)):(if tr P=true then m else some false)=some (tr (P∧Q)):=by
  by_cases h:P
  · rw [if_pos (YR h),hm];congr 1;exact Jd ⟨fun q=>⟨h,q⟩,fun q=>q.2⟩
  · rw [if_neg (by rw [Yp h];simp),Yp (fun q=>h q.1)]
theorem YE {P Q:Prop} {_:Decidable P} {m:Option Bool} (hm:P→m=some (tr Q)):(if P then m else some false)=some (tr (P∧Q)):=by
  by_cases h:P
  · rw [if_pos h,hm h];congr 1;exact Jd ⟨fun q=>⟨h,q⟩,fun q=>q.2⟩
  · rw [if_neg h,Yp (fun q=>h q.1)]
theorem Zgv {P Q:Prop} {_:Decidable P} {m:Option Bool} (hm:¬P→m=some (tr Q)):(if P then some false else m)=some (tr (¬P∧Q)):=by
  by_cases h:P
  · rw [if_pos h,Yp (fun q=>q.1 h)]
  · rw [if_neg h,hm h];congr 1;exact Jd ⟨fun q=>⟨h,q⟩,fun q=>q.2⟩
theorem ZdB {P:Prop} {b:Bool} (h:b=true↔P):some b=some (tr P):=by rw [Zol h]
theorem J2 {m:Option Bool} {P Q:Prop} (h:m=some (tr P)) (hpq:P↔Q):m=some (tr Q):=by rw [h,propext hpq]
theorem Zj6 {Q:Prop} (h:¬Q):(some false:Option Bool)=some (tr Q):=by rw [Yp h]
theorem Zdn {P:Prop} {m:Option Bool} (h:m=some (tr P)):(m.bind fun b=>some b)=some (tr P):=by rw [h];rfl
theorem Xl {P Q:Prop} {m m2:Option Bool} (h:m=some (tr P)) (h2:P→m2=some (tr Q)):(m.bind fun b=>if b=true then m2 else some false)=some (tr (P∧Q)):=by
  rw [h,Option.bind_some]
  by_cases hp:P
  · rw [if_pos (YR hp),h2 hp];congr 1;exact Jd ⟨fun q=>⟨hp,q⟩,fun q=>q.2⟩
  · rw [if_neg (by rw [Yp hp];simp),Yp (fun q=>hp q.1)]
theorem Za8 (n a b:Int):Yc n a b=some (tr (a≤n∧n≤b)):=by rw [ZdO];exact ZdB (within_iff _ _ _)
theorem Zbd (n a b:Int):Yl n a b=some (tr (a≤n∧n≤b)):=by rw [Zbk];exact ZdB (within_iff _ _ _)
theorem Zsu {l:List Yu} {i:Int} (h0:0≤i) (h1:i<l.length):∃ p,atI l i=some p∧Zoh l i=Yu.Clock p:=by
  obtain ⟨p,h2,h3⟩:=ZrZ h0 h1
  exact ⟨p,h2,by simp [Zoh,h3]⟩
theorem ZmQ (c:Zh) (a:ZM) (hp:sm (.sl V9) (Zh.Yy c)) (hd:sm (.sl Yf) (ZM.Delay a)) (hw:sm (.sl Yf) (ZM.Zhn a)) (h2:2≤(Zh.Yy c).length):Zeo c a=some (tr (ZjO c a)):=by
  unfold Zeo
  have hs:=Zm hp
  have e1:IntKind.i64.wrap (((Zh.Yy c).length:Int)-1)=((Zh.Yy c).length:Int)-1:=V8 (by omega) (by omega)
  have e2:IntKind.i64.wrap (((Zh.Yy c).length:Int)-1-1)=((Zh.Yy c).length:Int)-2:=by rw [V8 (by omega) (by omega)];omega
  rw [e1,e2]
  refine J2 (Xl (Za8 _ _ _) (fun hF=>Xl (Za8 _ _ _) (fun hT=>?_))) (Q:=ZjO c a) (P:=(0≤ZM.From a∧ZM.From a≤((Zh.Yy c).length:Int)-2)∧(0≤ZM.To a∧ZM.To a≤((Zh.Yy c).length:Int)-1)∧ZjO c a) ⟨fun hh=>hh.2.2,fun hh=>⟨hh.1,hh.2.1,hh⟩⟩
  obtain ⟨p,hp1,hp2⟩:=Zsu (l:=Zh.Yy c) hF.1 (by omega)
  rw [hp1,Option.bind_some]
  have hdl:=Zgd hd
  have hsl:=Zgd hw
  have tt:∀ b,(Yx (ZM.Delay a) b).bind (fun x=>if x=true then (Yx (ZM.Zhn a) b).bind (fun y=>some y) else some false)=some (tr (ZeJ (ZM.Delay a) b∧ZeJ (ZM.Zhn a) b)):=fun b=>Xl (Zed _ _ hdl) (fun _=>Zdn (Zed _ _ hsl))
  have tz:(Yx (ZM.Delay a) false).bind (fun x=>if x=true then some (Decidable.decide (((ZM.Zhn a).length:Int)=(0:Int))) else some false)=some (tr (ZeJ (ZM.Delay a) false∧(ZM.Zhn a).length=0)):=Xl (Zed _ _ hdl) (fun _=>ZdB (by rw [decide_eq_true_eq];omega))
  unfold ZjO
  rw [hp2]
  by_cases k1:ZM.Kind a=1
  · simp only [k1,if_true]
    refine J2 (Zgv (fun hc=>YE (fun hl=>Xl (Za8 _ _ _) (fun _=>tt true)))) ?_
    grind
  by_cases k2:ZM.Kind a=2
  · simp only [k2,if_true,Int.reduceEq,if_false]
    refine J2 (YE (fun hc=>YE (fun hl=>YE (fun _=>tt true)))) ?_
    grind
  by_cases k3:ZM.Kind a=3
  · simp only [k3,if_true,Int.reduceEq,if_false]
    refine J2 (YE (fun hc=>YE (fun hl=>YE (fun _=>tt true)))) ?_
    grind
  have chk:(if Yu.Clock p=true then (if ZM.To a<((Zh.Yy c).length:Int)-1 then (atI (Zh.Yy c) (ZM.To a)).bind (fun x1=>if Yu.Clock x1=true then some false else if ZM.Zb5 a=0 then (Yx (ZM.Delay a) false).bind (fun x=>if x=true then some (Decidable.decide (((ZM.Zhn a).length:Int)=(0:Int))) else some false) else some false) else some false) else some false) =
      some (tr (Yu.Clock p=true∧ZM.To a<((Zh.Yy c).length:Int)-1∧Zoh (Zh.Yy c) (ZM.To a)=false∧ZM.Zb5 a=0∧ZeJ (ZM.Delay a) false∧(ZM.Zhn a).length=0)):=by
    refine YE (fun _=>YE (fun hl=>?_))
    obtain ⟨q,hq1,hq2⟩:=Zsu (l:=Zh.Yy c) hT.1 (by omega)
    rw [hq1,Option.bind_some,hq2]
    refine J2 (Zgv (fun _=>YE (fun _=>tz))) ?_
    simp only [Bool.not_eq_true]
  by_cases k4:ZM.Kind a=4
  · simp only [k4,if_true,Int.reduceEq,if_false]
    refine J2 chk ?_
    grind
  by_cases k5:ZM.Kind a=5
  · simp only [k5,if_true,Int.reduceEq,if_false]
    refine J2 chk ?_
    grind
  · simp only [k1,k2,k3,k4,k5,if_false]
    refine Zj6 ?_
    grind
def Zg7 (l:List Yu):Int:=Zcz (fun p=>Yu.Clock p) l
theorem Zjr (c:Zh) (h:sm (.sl V9) (Zh.Yy c)):ZaQ c=some (Zg7 (Zh.Yy c)):=by
  unfold ZaQ
  rw [Va (XF h) (fun p=>Yu.Clock p) (fun p _=>rfl),Option.bind_some]
  rfl
theorem ZcM (c:Zh) (h:sm (.sl V9) (Zh.Yy c)):VQ c=some (((Zh.Yy c).length:Int)-1):=by
  have hs:=Zm h
  show some (IntKind.i64.wrap (((Zh.Yy c).length:Int)-1))=_
  rw [V8 (by omega) (by omega)]
theorem ZeP (c:Zh) (i:Int) (h:sm (.sl V9) (Zh.Yy c)):Vd c i=some (tr (0≤i∧i≤((Zh.Yy c).length:Int)-2)):=by
  have hs:=Zm h
  unfold Vd
  rw [ZcM c h,Option.bind_some,V8 (by omega) (by omega)]
  refine J2 (Zdn (Zbd _ _ _)) ?_
  omega
def Ztb (c:Zh) (a:ZM):Prop :=
  ((ZM.Kind a=4∨ZM.Kind a=5)∧ZM.Zb5 a=0∧(ZM.Zhn a).length=0∧ZeJ (ZM.Delay a) false∧ZM.From a=Zg7 (Zh.Yy c)∧0≤ZM.From a∧(0≤ZM.To a∧ZM.To a≤((Zh.Yy c).length:Int)-2)∧ZM.To a≠ZM.From a)∨
  (¬(ZM.Kind a=4∨ZM.Kind a=5)∧ZeJ (ZM.Delay a) true∧ZeJ (ZM.Zhn a) true∧ZM.To a=((Zh.Yy c).length:Int)-1∧(0≤ZM.From a∧ZM.From a≤((Zh.Yy c).length:Int)-2)∧
    ((ZM.Kind a=1∧Zoh (Zh.Yy c) (ZM.From a)=false∧(1≤ZM.Zb5 a∧ZM.Zb5 a≤3))∨((ZM.Kind a=2∨ZM.Kind a=3)∧Zoh (Zh.Yy c) (ZM.From a)=true∧ZM.Zb5 a=0)))
theorem ZlZ (k:Int):Zdd k=some (tr (k=4∨k=5)):=by
  unfold Zdd
  split
  · rename_i h;rw [YR (.inl h)]
  · rename_i h
    exact ZdB (by rw [decide_eq_true_eq];omega)
theorem Zoj (c:Zh) (a:ZM) (hp:sm (.sl V9) (Zh.Yy c)) (hd:sm (.sl Yf) (ZM.Delay a)) (hw:sm (.sl Yf) (ZM.Zhn a)):ZaI c a=some (tr (Ztb c a)):=by
  unfold ZaI
  have hdl:=Zgd hd
  have hsl:=Zgd hw
  rw [ZlZ,Option.bind_some]
  by_cases hk:ZM.Kind a=4∨ZM.Kind a=5
  · rw [if_pos (YR hk)]
    refine J2 (YE (fun _=>YE (fun _=>Xl (Zd4 _ _ hdl) (fun _=>?_)))) (P:=ZM.Zb5 a=0∧((ZM.Zhn a).length:Int)=0∧ZeJ (ZM.Delay a) false∧(ZM.From a=Zg7 (Zh.Yy c)∧0≤ZM.From a∧(0≤ZM.To a∧ZM.To a≤((Zh.Yy c).length:Int)-2)∧ZM.To a≠ZM.From a)) ?_
    · rw [Zjr c hp,Option.bind_some]
      refine YE (fun _=>YE (fun _=>Xl (ZeP c _ hp) (fun _=>ZdB ?_)))
      rw [Bool.not_eq_true',decide_eq_false_iff_not]
    · unfold Ztb
      constructor
      · rintro ⟨x1,x2,x3,x4⟩
        exact .inl ⟨hk,x1,by omega,x3,x4⟩
      · rintro (⟨_,x1,x2,x3,x4⟩ | ⟨x,_⟩)
        · exact ⟨x1,by omega,x3,x4⟩
        · exact absurd hk x
  · rw [if_neg (by rw [Yp hk];simp)]
    refine J2 (Xl (Zd4 _ _ hdl) (fun _=>Xl (Zd4 _ _ hsl) (fun _=>?_))) (P:=ZeJ (ZM.Delay a) true∧ZeJ (ZM.Zhn a) true∧(ZM.To a=((Zh.Yy c).length:Int)-1∧(0≤ZM.From a∧ZM.From a≤((Zh.Yy c).length:Int)-2)∧
      ((ZM.Kind a=1∧Zoh (Zh.Yy c) (ZM.From a)=false∧(1≤ZM.Zb5 a∧ZM.Zb5 a≤3))∨((ZM.Kind a=2∨ZM.Kind a=3)∧Zoh (Zh.Yy c) (ZM.From a)=true∧ZM.Zb5 a=0)))) ?_
    · rw [ZcM c hp,Option.bind_some]
      refine YE (fun _=>Xl (ZeP c _ hp) (fun hF=>?_))
      obtain ⟨p,hp1,hp2⟩:=Zsu (l:=Zh.Yy c) hF.1 (by omega)
      rw [hp1,hp2]
      simp only [Option.bind_some]
      by_cases k1:ZM.Kind a=1
      · simp only [k1,if_true]
        refine J2 (Zgv (fun _=>Zdn (Zbd _ _ _))) ?_
        grind
      by_cases k2:ZM.Kind a=2
      · simp only [k2,if_true,Int.reduceEq,if_false]
        refine J2 (YE (fun _=>ZdB (decide_eq_true_iff))) ?_
        grind
      by_cases k3:ZM.Kind a=3
      · simp only [k3,if_true,Int.reduceEq,if_false]
        refine J2 (YE (fun _=>ZdB (decide_eq_true_iff))) ?_
        grind
      · simp only [k1,k2,k3,if_false]
        refine Zj6 ?_
        grind
    · unfold Ztb
      constructor
      · intro x;exact .inr ⟨hk,x⟩
      · rintro (⟨x,_⟩ | ⟨_,x⟩)
        · exact absurd x hk
        · exact x
end Go.Proofs.YtehkanadahncgaaGreatDoor
/-
  Plain laws: cells and libraries.
-/
namespace Go.Proofs.YtehkanadahncgaaGreatDoor
set_option linter.unusedVariables false
set_option linter.unusedSimpArgs false
open Go Go.Sx
def Zfm (o a:ZM):Prop:=ZM.Kind o=ZM.Kind a∧ZM.From o=ZM.From a∧ZM.To o=ZM.To a
def Apart (l:List ZM) (k:Nat) (a:ZM):Prop:=∀ (j:Nat) (o:ZM),j<k→l[j]?=some o→¬Zfm o a
structure Znx (c:Zh):Prop where
  name:(Zh.Name c).length≤4611686018427387904
  pins:sm (.sl V9) (Zh.Yy c)
  arcs:sm (.sl Zaw) (Zh.ZaS c)
  truth:sm (.sl (.int .i64)) (Zh.Truth c)
theorem ZrI {c:Zh} (h:sm YL c):Znx c:=⟨Zg3 h.1,h.2.2.1,h.2.2.2.1,h.2.2.2.2.1⟩
theorem Ztd {a:ZM} (h:sm Zaw a):sm (.sl Yf) (ZM.Delay a)∧sm (.sl Yf) (ZM.Zhn a):=⟨h.2.2.2.2.1,h.2.2.2.2.2.1⟩
theorem ZjK (o a:ZM):Xb o a=some (tr (Zfm o a)):=by
  unfold Xb Zfm
  exact YE (fun _=>YE (fun _=>ZdB decide_eq_true_iff))
theorem Zl0 (c:Zh) (h:Znx c):Jm c=some (tr ((Zh.ZaS c).length≤8∧ZfZ (Zh.ZaS c) (fun k a=>Ztb c a∧Apart (Zh.ZaS c) k a))):=by
  unfold Jm
  have hs:=Zm h.arcs
  rw [ZaP (XF h.arcs) (fun k a=>Ztb c a∧Apart (Zh.ZaS c) k a) (bad:=false) (good:=decide ((Zh.ZaS c).length≤8))
    (fun k a hx hk _=>by
      obtain ⟨h1,h2⟩:=Ztd (ZaR h.arcs hx)
      simp only [Qy,show (k:Int)<((Zh.ZaS c).length:Int) from by omega,if_true,Zu,hx,Option.bind_some,Zoj c a h.pins h1 h2]
      by_cases hA:Ztb c a
      · rw [if_pos (YR hA),Zi (by omega),Zi (by omega)]
        simp only [Int.toNat_natCast,Int.toNat_zero,List.drop_zero,Nat.sub_zero]
        rw [Qv (by show ((Zh.ZaS c).take k).length≤4611686018427387904;rw [List.length_take];omega) (fun o=>tr (Zfm o a)) (fun o _=>ZjK o a),Option.bind_some]
        have e:((Zh.ZaS c).take k).any (fun o=>tr (Zfm o a))=true↔¬Apart (Zh.ZaS c) k a:=by
          rw [List.any_eq_true]
          constructor
          · rintro ⟨o,ho,hs⟩ hap
            obtain ⟨j,hj⟩:=List.mem_iff_getElem?.1 ho
            rw [List.getElem?_take] at hj
            split at hj
            · rename_i hjk;exact hap j o hjk hj ((Vp _).1 hs)
            · cases hj
          · intro hn
            apply Classical.byContradiction
            intro hno
            refine hn (fun j o hj ho hs=>hno ⟨o,?_,YR hs⟩)
            exact List.mem_iff_getElem?.2 ⟨j,by rw [List.getElem?_take,if_pos hj];exact ho⟩
        constructor
        · rintro ⟨_,hap⟩;rw [if_neg (fun hh=>e.1 hh hap)]
        · intro hn;rw [if_pos (e.2 (fun hap=>hn ⟨hA,hap⟩))]
      · rw [if_neg (by rw [Yp hA];simp)]
        exact ⟨fun hh=>absurd hh.1 hA,fun _=>rfl⟩)
    (fun _=>by
      simp only [Qy,Int.lt_irrefl,if_false]
      congr 2
      rw [decide_eq_decide];omega)]
  congr 1
  refine Zeb ?_
  rw [Vp]
  by_cases hA:ZfZ (Zh.ZaS c) (fun k a=>Ztb c a∧Apart (Zh.ZaS c) k a)
  · rw [VB hA,decide_eq_true_eq];exact ⟨fun h=>⟨h,hA⟩,fun h=>h.1⟩
  · rw [Qu hA];exact ⟨fun h=>(by cases h),fun h=>absurd h.2 hA⟩
def ZoD (c:Zh) (k:Int):Prop:=∃ a∈Zh.ZaS c,ZM.Kind a=k
theorem ZdX (c:Zh) (k:Int) (h:Znx c):QG c k=some (tr (ZoD c k)):=by
  unfold QG
  rw [Q0 (XF h.arcs) (fun a=>decide (ZM.Kind a=k)) (fun a _=>rfl),Option.bind_some]
  refine ZdB ?_
  rw [List.any_eq_true]
  simp only [decide_eq_true_eq,ZoD]
def Zfu (c:Zh):Prop :=
  (Zh.Kind c=1∧Zk0 (Zh.Yy c)=0∧(Zh.Truth c).length=2 ^ ((Zh.Yy c).length-1)∧Zg8 (Zh.Truth c) 0 1)∨
  (Zh.Kind c=2∧Zk0 (Zh.Yy c)=1∧(Zh.Truth c).length=0∧¬ZoD c 1∧(ZoD c 2↔¬ZoD c 3))∨
  (Zh.Kind c=3∧Zk0 (Zh.Yy c)=1∧(Zh.Truth c).length=0∧ZoD c 1∧ZoD c 2∧¬ZoD c 3)
theorem Zs0 {n:Nat} (h:n≤4):(2:Nat) ^ n≤16:=by
  calc (2:Nat) ^ n≤2 ^ 4:=Nat.pow_le_pow_right (by omega) h
    _=16:=rfl
theorem Zv0 {m:Nat} (h:m≤4):IntKind.i64.wrap ((1:Int)*(2:Int) ^ min m (IntKind.bits IntKind.i64))=((2 ^ m:Nat):Int):=by
  have hb:min m (IntKind.bits IntKind.i64)=m:=Nat.min_eq_left (by show m≤64;omega)
  have e:(1:Int)*(2:Int) ^ m=((2 ^ m:Nat):Int):=by simp
  rw [hb,e]
  have h16:=Zs0 h
  clear hb e
  generalize 2 ^ m=g at h16 ⊢
  rw [V8 (by omega) (by omega)]
theorem ZkX (c:Zh) (h:Znx c) (hp:Zic (Zh.Yy c)):VG c=some (tr (Zfu c)):=by
  unfold VG
  have h2:=hp.1
  have h5:=hp.2.1
  refine (show Zw (fun v=>Y0 c v.1 v.2.1) ((0:Int),(0:Int),())=_ from YF (l:=Zh.Yy c) (ρ:=Bool) (fun k=>((((Zh.Yy c).take k).countP (fun p=>Yu.Clock p):Int),(k:Int),())) (step:=fun v=>Y0 c v.1 v.2.1)
    (fun k p hx hk=>by
      have hcnt:((Zh.Yy c).take k).countP (fun p=>Yu.Clock p)≤5:=by
        have h1:=List.countP_le_length (p:=fun p=>Yu.Clock p) (l:=(Zh.Yy c).take k)
        rw [List.length_take] at h1;omega
      have hnext:((Zh.Yy c).take (k+1)).countP (fun p=>Yu.Clock p)=((Zh.Yy c).take k).countP (fun p=>Yu.Clock p)+if Yu.Clock p=true then 1 else 0:=by
        rw [Yz hx,List.countP_append];simp [List.countP_cons]
      simp only [Y0,show (k:Int)<((Zh.Yy c).length:Int) from by omega,if_true,Zu,hx,Option.bind_some,hnext]
      by_cases hc:Yu.Clock p=true
      · rw [if_pos hc,if_pos hc,Zax (by omega),Zax (by omega)]
      · rw [if_neg hc,if_neg hc,Zax (by omega)];rfl)
    ?_)
  have hout:=ZcM c h.pins
  simp only [Y0,Int.lt_irrefl,if_false,List.take_length,hout,Option.bind_some,show (((Zh.Yy c).length:Int)-1).toNat=(Zh.Yy c).length-1 from by omega,Zv0 (show (Zh.Yy c).length-1≤4 by omega)]
  have e00:((Zh.Yy c).countP (fun p=>Yu.Clock p):Int)=0↔Zk0 (Zh.Yy c)=0:=by unfold Zk0;omega
  have e01:((Zh.Yy c).countP (fun p=>Yu.Clock p):Int)=1↔Zk0 (Zh.Yy c)=1:=by unfold Zk0;omega
  unfold Zfu
  by_cases k1:Zh.Kind c=1
  · simp only [k1,if_true]
    by_cases hc:Zk0 (Zh.Yy c)=0
    · rw [if_pos (e00.2 hc),Zi (by omega)]
      by_cases ht:(Zh.Truth c).length=2 ^ ((Zh.Yy c).length-1)
      · rw [if_pos (by rw [ht]),Zcv _ _ _ (XF h.truth),Option.bind_some]
        congr 2
        refine (Zol ?_).symm
        rw [Zjd]
        exact ⟨fun hh=>.inl ⟨trivial,hc,ht,hh⟩,fun hh=>by grind⟩
      · rw [if_neg (by omega),Yp (by grind)]
    · rw [if_neg (fun hh=>hc (e00.1 hh)),Yp (by grind)]
  by_cases k2:Zh.Kind c=2
  · simp only [k2,if_true,Int.reduceEq,if_false]
    by_cases hc:Zk0 (Zh.Yy c)=1
    · rw [if_pos (e01.2 hc)]
      by_cases ht:(Zh.Truth c).length=0
      · rw [if_pos (by omega),ZdX c 1 h,Option.bind_some]
        by_cases h1:ZoD c 1
        · rw [if_pos (YR h1),Yp (by grind)]
        · rw [if_neg (by rw [Yp h1];simp),ZdX c 2 h,ZdX c 3 h]
          simp only [Option.bind_some]
          congr 2
          refine (Zol ?_).symm
          by_cases a:ZoD c 2<;>by_cases b:ZoD c 3<;>simp only [YR,Yp,a,b,not_false_eq_true]<;>grind
      · rw [if_neg (by omega),Yp (by grind)]
    · rw [if_neg (fun hh=>hc (e01.1 hh)),Yp (by grind)]
  by_cases k3:Zh.Kind c=3
  · simp only [k3,if_true,Int.reduceEq,if_false]
    by_cases hc:Zk0 (Zh.Yy c)=1
    · rw [if_pos (e01.2 hc)]
      by_cases ht:(Zh.Truth c).length=0
      · rw [if_pos (by omega),ZdX c 1 h,Option.bind_some]
        by_cases h1:ZoD c 1
        · rw [if_pos (YR h1),ZdX c 2 h,Option.bind_some]
          by_cases h2:ZoD c 2
          · rw [if_pos (YR h2),ZdX c 3 h,Option.bind_some]
            congr 2
            refine (Zol ?_).symm
            rw [Bool.not_eq_true',←Bool.not_eq_true,Vp]
            grind
          · rw [if_neg (by rw [Yp h2];simp),Yp (by grind)]
        · rw [if_neg (by rw [Yp h1];simp),Yp (by grind)]
      · rw [if_neg (by omega),Yp (by grind)]
    · rw [if_neg (fun hh=>hc (e01.1 hh)),Yp (by grind)]
  · simp only [k1,k2,k3,if_false]
    rw [Yp (by grind)]
def Zwb (c:Zh):Prop:=ZaZ (Zh.Name c)=true∧Zic (Zh.Yy c)∧((Zh.ZaS c).length≤8∧ZfZ (Zh.ZaS c) (fun k a=>Ztb c a∧Apart (Zh.ZaS c) k a))∧(0≤Zh.ZrB c∧Zh.ZrB c≤100000)∧(0≤Zh.Zgy c∧Zh.Zgy c≤100000)∧Zfu c
def Zju (c:Zh):Prop:=ZaZ (Zh.Name c)=true∧Zic (Zh.Yy c)∧((Zh.ZaS c).length≤8∧ZfZ (Zh.ZaS c) (fun k a=>ZjO c a∧Apart (Zh.ZaS c) k a))∧(0≤Zh.ZrB c∧Zh.ZrB c≤100000)∧(0≤Zh.Zgy c∧Zh.Zgy c≤100000)∧Zfu c
theorem ZqK {l:List Yu} {i j:Nat} {p q:Yu} (hij:i<j) (hp:l[i]?=some p) (hq:l[j]?=some q) (cp:Yu.Clock p=true) (cq:Yu.Clock q=true):2≤Zk0 l:=by
  unfold Zk0
  have e:l.countP (fun p=>Yu.Clock p)=(l.take j).countP (fun p=>Yu.Clock p)+(l.drop j).countP (fun p=>Yu.Clock p):=by rw [←List.countP_append,List.take_append_drop]
  have h1:0<(l.take j).countP (fun p=>Yu.Clock p):=List.countP_pos_iff.2 ⟨p,List.mem_iff_getElem?.2 ⟨i,by rw [List.getElem?_take,if_pos hij];exact hp⟩,cp⟩
  have h2:0<(l.drop j).countP (fun p=>Yu.Clock p):=List.countP_pos_iff.2 ⟨q,List.mem_iff_getElem?.2 ⟨0,by rw [List.getElem?_drop];exact hq⟩,cq⟩
  omega
theorem ZnA {l:List Yu} (h:Zk0 l≤1) {i:Int} (h0:0≤i):Zoh l i=true↔i=Zg7 l:=by
  unfold Zg7 Zcz Zoh
  constructor
  · intro hc
    split at hc
    · rename_i p hp
      split
      · rename_i j hj
        obtain ⟨hj1,hj2,hj3⟩:=List.findIdx?_eq_some_iff_getElem.1 hj
        have hjg:l[j]?=some l[j]:=List.getElem?_eq_getElem hj1
        rcases Nat.lt_trichotomy i.toNat j with hlt | heq | hlt
        · have:=ZqK hlt hp hjg hc hj2;omega
        · omega
        · have:=ZqK hlt hjg hp hj2 hc;omega
      · rename_i hn
        rw [List.findIdx?_eq_none_iff] at hn
        have:=hn p (List.mem_of_getElem? hp)
        rw [hc] at this;cases this
    · cases hc
  · intro hi
    split at hi
    · rename_i j hj
      obtain ⟨hj1,hj2,hj3⟩:=List.findIdx?_eq_some_iff_getElem.1 hj
      subst hi
      rw [Int.toNat_natCast,List.getElem?_eq_getElem hj1]
      exact hj2
    · omega
theorem Zrs {l:List Yu} (h:Zic l):Zoh l ((l.length:Int)-1)=false:=by
  have h2:=h.1
  have hp:l[l.length-1]?=some l[l.length-1]:=List.getElem?_eq_getElem (by omega)
  have:=((h.2.2.2 _ _ hp).2.1 (by omega)).2.2
  unfold Zoh
  rw [show ((l.length:Int)-1).toNat=l.length-1 by omega,hp]
  exact this
theorem ZrL {c:Zh} (hp:Zic (Zh.Yy c)) (hk:Zk0 (Zh.Yy c)≤1) (a:ZM):Ztb c a↔ZjO c a:=by
  have h2:=hp.1
  have hF:0≤ZM.From a→(Zoh (Zh.Yy c) (ZM.From a)=true↔ZM.From a=Zg7 (Zh.Yy c)):=fun h=>ZnA hk h
  have hT:0≤ZM.To a→(Zoh (Zh.Yy c) (ZM.To a)=true↔ZM.To a=Zg7 (Zh.Yy c)):=fun h=>ZnA hk h
  have hlast:=Zrs hp
  have hfr:∀ i,Zoh (Zh.Yy c) i=true→i<((Zh.Yy c).length:Int):=by
    intro i hi
    unfold Zoh at hi
    split at hi
    · rename_i p hp'
      have:=(List.getElem?_eq_some_iff.1 hp').1
      omega
    · cases hi
  unfold Ztb ZjO
  generalize Zg7 (Zh.Yy c)=ck at *
  constructor
  · rintro (⟨k,s,sl,td,fc,f0,⟨t0,t1⟩,ne⟩ | ⟨k,td,ts,te,⟨f0,f1⟩,hh⟩)
    · have hclk:=(hF f0).2 fc
      have hnl:ZM.From a≠((Zh.Yy c).length:Int)-1:=fun e=>by rw [e,hlast] at hclk;cases hclk
      have:=hfr _ hclk
      refine ⟨⟨f0,by omega⟩,⟨t0,by omega⟩,.inr (.inr ⟨k,hclk,by omega,?_,s,td,sl⟩)⟩
      rw [←Bool.not_eq_true]
      intro hc
      exact ne (((hT t0).1 hc).trans fc.symm)
    · refine ⟨⟨f0,f1⟩,⟨by omega,by omega⟩,?_⟩
      rcases hh with ⟨k1,c1,s1⟩ | ⟨k1,c1,s1⟩
      · exact .inl ⟨k1,c1,te,s1,td,ts⟩
      · exact .inr (.inl ⟨k1,c1,te,s1,td,ts⟩)
  · rintro ⟨⟨f0,f1⟩,⟨t0,t1⟩,(⟨k,c1,te,s,td,ts⟩ | ⟨k,c1,te,s,td,ts⟩ | ⟨k,c1,tl,c2,s,td,sl⟩)⟩
    · exact .inr ⟨by omega,td,ts,te,⟨f0,f1⟩,.inl ⟨k,c1,s⟩⟩
    · exact .inr ⟨by omega,td,ts,te,⟨f0,f1⟩,.inr ⟨k,c1,s⟩⟩
    · refine .inl ⟨k,s,sl,td,(hF f0).1 c1,f0,⟨t0,by omega⟩,fun e=>?_⟩
      rw [e,c1] at c2;cases c2
theorem Zfu.Zk0 {c:Zh} (h:Zfu c):Zk0 (Zh.Yy c)≤1:=by
  rcases h with h | h | h
  · have:=h.2.1;omega
  · have:=h.2.1;omega
  · have:=h.2.1;omega
theorem Zuu (c:Zh):Zwb c↔Zju c:=by
  unfold Zwb Zju
  constructor
  · rintro ⟨a,b,⟨c1,d⟩,e,f,g⟩
    exact ⟨a,b,⟨c1,fun k x hx=>⟨(ZrL b g.Zk0 x).1 (d k x hx).1,(d k x hx).2⟩⟩,e,f,g⟩
  · rintro ⟨a,b,⟨c1,d⟩,e,f,g⟩
    exact ⟨a,b,⟨c1,fun k x hx=>⟨(ZrL b g.Zk0 x).2 (d k x hx).1,(d k x hx).2⟩⟩,e,f,g⟩
theorem Zm9 (c:Zh) (h:sm YL c):Zd3 c=some (tr (Zju c)):=by
  have hc:=ZrI h
  unfold Zd3
  refine J2 (Xl (by rw [ZfL];exact ZdB Iff.rfl) (fun _=>Xl (Zl3 _ hc.pins) (fun hp=>Xl (Zl0 c hc) (fun _=>Xl (Zbd _ _ _) (fun _=>Xl (Zbd _ _ _) (fun _=>Zdn (ZkX c hc hp))))))) ?_
  exact (Zuu c)
end Go.Proofs.YtehkanadahncgaaGreatDoor
/-
  Plain laws: cells by the reference; libraries.
-/
namespace Go.Proofs.YtehkanadahncgaaGreatDoor
set_option linter.unusedVariables false
set_option linter.unusedSimpArgs false
open Go Go.Sx
def ZeN (l:List ZM):List Int:=(List.range 6).map (fun (j:Nat)=>((l.countP (fun a=>decide (ZM.Kind a=(j:Int))):Nat):Int))
theorem ZcX (l:List ZM) {j:Nat} (h:j<6):(ZeN l)[j]?=some ((l.countP (fun a=>decide (ZM.Kind a=(j:Int))):Nat):Int):=by
  simp [ZeN,List.getElem?_range h]
theorem Zlr (c:Zh) (h:Znx c) (hk:∀ a∈Zh.ZaS c,1≤ZM.Kind a∧ZM.Kind a≤5):Zcl c=some (ZeN (Zh.ZaS c)):=by
  unfold Zcl
  have hs:=Zm h.arcs
  have h0:List.replicate (Int.toNat (6:Int)) (0:Int)=ZeN ((Zh.ZaS c).take 0):=by simp [ZeN];decide
  rw [h0]
  refine YF (l:=Zh.ZaS c) (ρ:=List Int) (fun k=>((k:Int),ZeN ((Zh.ZaS c).take k),())) (step:=fun v=>Vg c v.1 v.2.1)
    (fun k a hx hlt=>?_) (by simp only [Vg,Int.lt_irrefl,if_false,List.take_length])
  obtain ⟨k1,k5⟩:=hk a (List.mem_of_getElem? hx)
  have hkn:ZM.Kind a=(((ZM.Kind a).toNat:Nat):Int):=by omega
  have hcnt:∀ j:Nat,((Zh.ZaS c).take k).countP (fun a=>decide (ZM.Kind a=(j:Int)))≤1048576:=by
    intro j
    have h1:=List.countP_le_length (p:=fun a=>decide (ZM.Kind a=(j:Int))) (l:=(Zh.ZaS c).take k)
    rw [List.length_take] at h1;omega
  simp only [Vg,show (k:Int)<((Zh.ZaS c).length:Int) from by omega,if_true,Zu,hx,Option.bind_some]
  rw [VJ (by omega) (ZcX _ (show (ZM.Kind a).toNat<6 by omega)),Option.bind_some,Zax (hcnt _),Zax (by omega)]
  congr 3
  rw [Prod.mk.injEq]
  refine ⟨?_,rfl⟩
  apply List.ext_getElem?
  intro j
  by_cases hj:(ZM.Kind a).toNat=j
  · subst hj
    rw [List.getElem?_set_self (by simp [ZeN];omega),ZcX _ (by omega),Yz hx,List.countP_append]
    congr 2
    rw [List.countP_cons,List.countP_nil]
    simp [←hkn]
  · rw [List.getElem?_set_ne hj]
    by_cases h6:j<6
    · rw [ZcX _ h6,ZcX _ h6,Yz hx,List.countP_append]
      congr 2
      rw [List.countP_cons,List.countP_nil]
      have:¬ZM.Kind a=(j:Int):=by omega
      simp [this]
    · rw [List.getElem?_eq_none (by simp [ZeN];omega),List.getElem?_eq_none (by simp [ZeN];omega)]
theorem Zmq (c:Zh) (j:Nat):0<(Zh.ZaS c).countP (fun a=>decide (ZM.Kind a=(j:Int)))↔ZoD c j:=by
  rw [List.countP_pos_iff]
  simp only [decide_eq_true_eq,ZoD]
theorem Zj8 (c:Zh) (h:Znx c) (hp:Zic (Zh.Yy c)) (hk1:Zh.Kind c=1) :
    Zw (fun v=>Jp c ((Zk0 (Zh.Yy c):Int),true) v.1) ((0:Int),())=some (.inr (tr (Zfu c))):=by
  have h2:=hp.1
  have h5:=hp.2.1
  have hs:=Zm h.truth
  have e1:IntKind.i64.wrap (((Zh.Yy c).length:Int)-1)=((Zh.Yy c).length:Int)-1:=V8 (by omega) (by omega)
  have e2:IntKind.u64.wrap (((Zh.Yy c).length:Int)-1)=((Zh.Yy c).length:Int)-1:=IntWalk.u64_in _ (by omega)
  rw [ZaP (XF h.truth) (fun k x=>0≤x∧x≤1) (bad:=.inr false) (good:=.inr (tr (Zk0 (Zh.Yy c)=0∧(Zh.Truth c).length=2 ^ ((Zh.Yy c).length-1))))
    (fun k x hx hk _=>by
      simp only [Jp,show (k:Int)<((Zh.Truth c).length:Int) from by omega,if_true,Zu,hx,Option.bind_some,ZdO,within_iff]
      exact ⟨fun hh=>by rw [if_pos hh],fun hh=>by rw [if_neg hh]⟩)
    (fun _=>by
      simp only [Jp,Int.lt_irrefl,if_false,e1,e2]
      by_cases hc:Zk0 (Zh.Yy c)=0
      · rw [if_pos (by omega),Zi (by omega),show (((Zh.Yy c).length:Int)-1).toNat=(Zh.Yy c).length-1 by omega,Zv0 (by omega)]
        congr 2
        congr 1
        refine (Zol ?_).symm
        rw [decide_eq_true_eq]
        constructor
        · intro hh;exact ⟨hc,by omega⟩
        · intro hh;rw [hh.2]
      · rw [if_neg (by omega),Yp (fun hh=>hc hh.1)])]
  congr 1
  by_cases hA:ZfZ (Zh.Truth c) (fun k x=>0≤x∧x≤1)
  · rw [VB hA]
    congr 1
    refine Jd ?_
    have hAll:Zg8 (Zh.Truth c) 0 1:=fun x hx=>by
      obtain ⟨k,hk⟩:=List.mem_iff_getElem?.1 hx
      exact hA k x hk
    unfold Zfu
    grind
  · rw [Qu hA,Yp]
    intro hh
    rcases hh with hh | hh | hh
    · exact hA (fun k x hk=>hh.2.2.2 x (List.mem_of_getElem? hk))
    · have:=hh.1;omega
    · have:=hh.1;omega
theorem ZmN (c:Zh) (hsm:sm YL c):Zeh c=some (tr (Zju c)):=by
  have h:=ZrI hsm
  have hs:=Zm h.arcs
  unfold Zeh
  rw [Zl6 c h.pins,Option.bind_some]
  by_cases hp':¬Zic (Zh.Yy c)
  · rw [Qu hp',Yp (fun hh=>hp' hh.2.1)];rfl
  have hp:=Classical.not_not.1 hp'
  rw [VB hp]
  simp only [if_true]
  refine J2 (Xl (P:=ZaZ (Zh.Name c)=true) (by rw [Zds _ h.name];exact ZdB Iff.rfl) (fun hn=>Zgv (fun h8=>Xl (Za8 _ _ _) (fun hl=>Xl (Za8 _ _ _) (fun he=>?_))))) (P:=ZaZ (Zh.Name c)=true∧¬((8:Int)<((Zh.ZaS c).length:Int))∧(0≤Zh.ZrB c∧Zh.ZrB c≤100000)∧(0≤Zh.Zgy c∧Zh.Zgy c≤100000)∧(ZfZ (Zh.ZaS c) (fun k a=>ZjO c a∧Apart (Zh.ZaS c) k a)∧Zfu c)) ?_
  · rw [ZaP (XF h.arcs) (fun k a=>ZjO c a∧Apart (Zh.ZaS c) k a) (bad:=false) (good:=tr (Zfu c))
      (fun k a hx hk _=>by
        obtain ⟨h1,h2⟩:=Ztd (ZaR h.arcs hx)
        simp only [ZaH,show (k:Int)<((Zh.ZaS c).length:Int) from by omega,if_true,Zu,hx,Option.bind_some,ZmQ c a h.pins h1 h2 hp.1]
        have inner:Zw (fun v=>Jt c (k:Int) a v.1) ((0:Int),())=some (sel (∀ j,j<k→∀ o,(Zh.ZaS c)[j]?=some o→¬Zfm o a) (.inl (IntKind.i64.wrap ((k:Int)+1),())) (.inr false)):=by
          refine ZlU k (by omega) (fun j=>∀ o,(Zh.ZaS c)[j]?=some o→¬Zfm o a) (fun j hj=>?_) (fun _=>by simp only [Jt,Int.lt_irrefl,if_false])
          obtain ⟨o,ho⟩:∃ o,(Zh.ZaS c)[j]?=some o:=⟨_,List.getElem?_eq_getElem (by omega)⟩
          simp only [Jt,show (j:Int)<(k:Int) from by omega,if_true,Zu,ho,Option.bind_some]
          have e:(∀ o',some o=some o'→¬Zfm o' a)↔¬Zfm o a:=⟨fun hh=>hh o rfl,fun hh o' ho'=>by injection ho' with ho';subst ho';exact hh⟩
          rw [e]
          unfold Zfm
          constructor
          · intro hh
            split
            · split
              · split
                · exact absurd ⟨‹_›,‹_›,‹_›⟩ hh
                · rfl
              · rfl
            · rfl
          · intro hh
            have hh:=Classical.not_not.1 hh
            rw [if_pos hh.1,if_pos hh.2.1,if_pos hh.2.2]
        have eap:Apart (Zh.ZaS c) k a↔(∀ j,j<k→∀ o,(Zh.ZaS c)[j]?=some o→¬Zfm o a):=⟨fun hh j hj o ho=>hh j o hj ho,fun hh j o hj ho=>hh j hj o ho⟩
        by_cases hA:ZjO c a
        · rw [if_pos (YR hA),inner]
          constructor
          · intro hh;rw [VB (eap.1 hh.2)]
          · intro hh;rw [Qu (fun h'=>hh ⟨hA,eap.2 h'⟩)]
        · rw [if_neg (by rw [Yp hA];simp)]
          exact ⟨fun hh=>absurd hh.1 hA,fun _=>rfl⟩)
      (fun hA=>by
        have hkinds:=Zlr c h (fun a ha=>by
          obtain ⟨k,hk⟩:=List.mem_iff_getElem?.1 ha
          exact (hA k a hk).1.kind)
        have g1:atI (ZeN (Zh.ZaS c)) (1:Int)=some (((Zh.ZaS c).countP (fun a=>decide (ZM.Kind a=((1:Nat):Int))):Nat):Int):=VJ (by omega) (ZcX _ (by omega))
        have g2:atI (ZeN (Zh.ZaS c)) (2:Int)=some (((Zh.ZaS c).countP (fun a=>decide (ZM.Kind a=((2:Nat):Int))):Nat):Int):=VJ (by omega) (ZcX _ (by omega))
        have g3:atI (ZeN (Zh.ZaS c)) (3:Int)=some (((Zh.ZaS c).countP (fun a=>decide (ZM.Kind a=((3:Nat):Int))):Nat):Int):=VJ (by omega) (ZcX _ (by omega))
        have c1:=Zmq c 1
        have c2:=Zmq c 2
        have c3:=Zmq c 3
        simp only [ZaH,Int.lt_irrefl,if_false,hkinds,Option.bind_some,g1,g2,g3]
        generalize (Zh.ZaS c).countP (fun a=>decide (ZM.Kind a=((1:Nat):Int)))=n1 at c1 ⊢
        generalize (Zh.ZaS c).countP (fun a=>decide (ZM.Kind a=((2:Nat):Int)))=n2 at c2 ⊢
        generalize (Zh.ZaS c).countP (fun a=>decide (ZM.Kind a=((3:Nat):Int)))=n3 at c3 ⊢
        by_cases k1:Zh.Kind c=1
        · rw [if_pos k1]
          exact Zj8 c h hp k1
        rw [if_neg k1]
        have hgoal:∀ (b:Bool),(b=true↔Zfu c)→(some (.inr b):Option ((Int×Unit) ⊕ Bool))=some (.inr (tr (Zfu c))):=fun b hb=>by rw [Zol hb]
        have c1':ZoD c 1↔0<n1:=c1.symm
        have c2':ZoD c 2↔0<n2:=c2.symm
        have c3':ZoD c 3↔0<n3:=c3.symm
        have hKO:Zfu c↔(Zh.Kind c=2∧Zk0 (Zh.Yy c)=1∧(Zh.Truth c).length=0∧¬0<n1∧(0<n2↔¬0<n3))∨(Zh.Kind c=3∧Zk0 (Zh.Yy c)=1∧(Zh.Truth c).length=0∧0<n1∧0<n2∧¬0<n3):=by
          unfold Zfu
          rw [c1',c2',c3']
          constructor
          · rintro (hh | hh | hh)
            · exact absurd hh.1 k1
            · exact .inl hh
            · exact .inr hh
          · rintro (hh | hh)
            · exact .inr (.inl hh)
            · exact .inr (.inr hh)
        by_cases k2:Zh.Kind c=2
        · rw [if_pos k2]
          split
          · split
            · split
              · rename_i a b d
                refine hgoal _ ?_
                rw [hKO]
                simp only [beq_iff_eq,decide_eq_decide] at d
                constructor
                · intro hh;cases hh
                · intro hh;omega
              · rename_i a b d
                refine hgoal _ ?_
                rw [hKO,decide_eq_true_eq]
                simp only [beq_iff_eq,decide_eq_decide] at d
                omega
            · refine hgoal _ ?_
              rw [hKO]
              constructor
              · intro hh;cases hh
              · intro hh;omega
          · refine hgoal _ ?_
            rw [hKO]
            constructor
            · intro hh;cases hh
            · intro hh;omega
        rw [if_neg k2]
        repeat' split
        all_goals
          refine hgoal _ ?_
          rw [hKO]
          first
            | (rw [decide_eq_true_eq];omega)
            | (constructor
               · intro hh;cases hh
               · intro hh;omega))]
    congr 1
    by_cases hA:ZfZ (Zh.ZaS c) (fun k a=>ZjO c a∧Apart (Zh.ZaS c) k a)
    · rw [VB hA];exact Jd ⟨fun x=>⟨hA,x⟩,fun x=>x.2⟩
    · rw [Qu hA,Yp (fun x=>hA x.1)]
  · unfold Zju
    constructor
    · rintro ⟨a,b,c1,d,e,f⟩
      exact ⟨a,hp,⟨by omega,e⟩,c1,d,f⟩
    · rintro ⟨a,b,⟨c1,d⟩,e,f,g⟩
      exact ⟨a,by omega,e,f,d,g⟩
end Go.Proofs.YtehkanadahncgaaGreatDoor
/-
  Plain laws: libraries; names of a design.
-/
namespace Go.Proofs.YtehkanadahncgaaGreatDoor
set_option linter.unusedVariables false
set_option linter.unusedSimpArgs false
open Go Go.Sx
theorem Zqq {α:Type} {l:List α} {k:Nat} {s:α}:s ∉ l.take k↔∀ (j:Nat) (q:α),j<k→l[j]?=some q→q≠s:=by
  constructor
  · intro h j q hj hq e
    refine h (List.mem_iff_getElem?.2 ⟨j,?_⟩)
    rw [List.getElem?_take,if_pos hj,hq,e]
  · intro h hm
    obtain ⟨j,hj⟩:=List.mem_iff_getElem?.1 hm
    rw [List.getElem?_take] at hj
    split at hj
    · rename_i hjk;exact h j s hjk hj rfl
    · cases hj
theorem ZoE {α:Type} (f:α→List UInt8) (l:List α):VU (l.map f) l.length↔ZfZ l (fun k x=>ZaZ (f x)=true∧∀ (j:Nat) (q:α),j<k→l[j]?=some q→f q≠f x):=by
  constructor
  · intro h k x hx
    have hk:=(List.getElem?_eq_some_iff.1 hx).1
    obtain ⟨h1,h2⟩:=h k (f x) hk (by simp [hx])
    refine ⟨h1,fun j q hj hq=>Zqq.1 h2 j (f q) hj (by simp [hq])⟩
  · intro h j s hj hs
    simp only [List.getElem?_map,Option.map_eq_some_iff] at hs
    obtain ⟨x,hx,rfl⟩:=hs
    obtain ⟨h1,h2⟩:=h j x hx
    refine ⟨h1,Zqq.2 (fun i q hi hq=>?_)⟩
    simp only [List.getElem?_map,Option.map_eq_some_iff] at hq
    obtain ⟨y,hy,rfl⟩:=hq
    exact h2 i y hi hy
def ZfR (l:List Zh):List (List UInt8):=l.map Zh.Name
def ZpB (a:Zl):Prop:=(Zl.Cells a).length≤8∧(∀ c∈Zl.Cells a,Zju c)∧VU (ZfR (Zl.Cells a)) (Zl.Cells a).length
theorem Zm6 {a:Zl} (h:sm Z0 a):sm (.sl YL) (Zl.Cells a):=h.1
theorem Zez {α:Type} {l:List α} {P:α→Prop}:ZfZ l (fun _ x=>P x)↔∀ x∈l,P x:=by
  constructor
  · intro h x hx
    obtain ⟨k,hk⟩:=List.mem_iff_getElem?.1 hx
    exact h k x hk
  · intro h k x hk
    exact h x (List.mem_of_getElem? hk)
theorem Zi8 {P Q:Prop}:sel P (tr Q) false=tr (P∧Q):=by
  by_cases h:P
  · rw [VB h];exact Jd ⟨fun q=>⟨h,q⟩,fun q=>q.2⟩
  · rw [Qu h,Yp (fun q=>h q.1)]
theorem Zkx (a:Zl) (h:sm Z0 a):Zbj a=some (tr (ZpB a)):=by
  have hc:=Zm6 h
  have hs:=Zm hc
  unfold Zbj
  have:=Zhg (l:=Zl.Cells a) (ρ:=Bool) (fun k=>((ZfR (Zl.Cells a)).take k,(k:Int),())) (fun _ c=>Zju c) (step:=fun v=>XG a v.1 v.2.1) (bad:=false) (good:=tr ((Zl.Cells a).length≤8∧VU (ZfR (Zl.Cells a)) (Zl.Cells a).length))
    (fun k c hx hk _=>by
      have hn:(ZfR (Zl.Cells a))[k]?=some (Zh.Name c):=by simp [ZfR,hx]
      simp only [XG,show (k:Int)<((Zl.Cells a).length:Int) from by omega,if_true,Zu,hx,Option.bind_some,Zm9 c (ZaR hc hx)]
      rw [Zi (by simp only [List.length_take,List.length_singleton,ZfR,List.length_map];omega),Yz hn,Zax (by omega)]
      constructor
      · intro hh;rw [if_pos (YR hh)]
      · intro hh;rw [if_neg (by rw [Yp hh];simp)])
    (fun hA=>by
      have e0:(ZfR (Zl.Cells a)).take (Zl.Cells a).length=ZfR (Zl.Cells a):=by rw [show (Zl.Cells a).length=(ZfR (Zl.Cells a)).length by simp [ZfR],List.take_length]
      have hlen:(ZfR (Zl.Cells a)).length=(Zl.Cells a).length:=by simp [ZfR]
      simp only [XG,Int.lt_irrefl,if_false,e0]
      by_cases h8:(Zl.Cells a).length≤8
      · rw [if_pos (by omega),Zbb _ (by rw [hlen];omega),Option.bind_some,hlen]
        congr 2
        exact Jd ⟨fun q=>⟨h8,q⟩,fun q=>q.2⟩
      · rw [if_neg (by omega),Yp (fun q=>h8 q.1)])
  refine (show Zw (fun v=>XG a v.1 v.2.1) (([]:List (List UInt8)),(0:Int),())=_ from this).trans ?_
  rw [Zi8]
  congr 1
  refine Jd ?_
  rw [Zez]
  exact ⟨fun q=>⟨q.2.1,q.1,q.2.2⟩,fun q=>⟨q.2.1,q.1,q.2.2⟩⟩
theorem Zmd {α ρ:Type} {f:α→List UInt8} {l:List α} {x:α} {k:Nat} (hk:k≤1048576) (hkl:k≤l.length) {step:Int×Unit→Option ((Int×Unit) ⊕ ρ)} {bad good:ρ}
    (hs:∀ (j:Nat) (y:α),j<k→l[j]?=some y→step ((j:Int),())=some (if f y=f x then .inr bad else .inl (IntKind.i64.wrap ((j:Int)+1),())))
    (hx:step ((k:Int),())=some (.inr good)):Zw step ((0:Int),())=some (sel (∀ (j:Nat) (q:α),j<k→l[j]?=some q→f q≠f x) good bad):=by
  rw [ZlU k (by omega) (fun j=>∀ q,l[j]?=some q→f q≠f x) (bad:=bad) (good:=good) (fun j hj=>by
    have hjl:l[j]?=some l[j]:=List.getElem?_eq_getElem (by omega)
    rw [hs j _ hj hjl]
    constructor
    · intro hh;rw [if_neg (hh _ hjl)]
    · intro hh
      rw [if_pos]
      apply Classical.byContradiction
      intro hne
      refine hh (fun q hq=>?_)
      rw [hjl] at hq;injection hq with hq;subst hq;exact hne) (fun _=>hx)]
  congr 1
  have e:(∀ j,j<k→∀ q,l[j]?=some q→f q≠f x)↔(∀ (j:Nat) (q:α),j<k→l[j]?=some q→f q≠f x):=⟨fun h j q hj hq=>h j hj q hq,fun h j hj q hq=>h j q hj hq⟩
  rw [propext e]
theorem Zkc (a:Zl) (h:sm Z0 a):Zbu a=some (tr (ZpB a)):=by
  have hc:=Zm6 h
  have hs:=Zm hc
  unfold Zbu
  rw [ZaP (XF hc) (fun k c=>Zju c∧∀ (j:Nat) (q:Zh),j<k→(Zl.Cells a)[j]?=some q→Zh.Name q≠Zh.Name c) (bad:=false) (good:=tr ((Zl.Cells a).length≤8))
    (fun k c hx hk _=>by
      simp only [VZ,show (k:Int)<((Zl.Cells a).length:Int) from by omega,if_true,Zu,hx,Option.bind_some,ZmN c (ZaR hc hx)]
      by_cases hC:Zju c
      · rw [if_pos (YR hC),Zmd (f:=Zh.Name) (l:=Zl.Cells a) (x:=c) (k:=k) (by omega) (by omega) (bad:=.inr false) (good:=.inl (IntKind.i64.wrap ((k:Int)+1),()))
          (fun j y hj hy=>by
            simp only [V4,show (j:Int)<(k:Int) from by omega,if_true,Zu,hy,Option.bind_some]
            split<;>rfl)
          (by simp only [V4,Int.lt_irrefl,if_false])]
        constructor
        · intro hh;rw [VB hh.2]
        · intro hh;rw [Qu (fun q=>hh ⟨hC,q⟩)]
      · rw [if_neg (by rw [Yp hC];simp)]
        exact ⟨fun hh=>absurd hh.1 hC,fun _=>rfl⟩)
    (fun _=>by
      simp only [VZ,Int.lt_irrefl,if_false]
      congr 2
      exact (Zol (by rw [decide_eq_true_eq];omega)).symm)]
  rw [Zi8]
  congr 1
  refine Jd ?_
  unfold ZpB
  rw [ZfR,ZoE,←Zez]
  constructor
  · rintro ⟨q,q8⟩
    exact ⟨q8,fun k x hx=>(q k x hx).1,fun k x hx=>⟨(q k x hx).1.1,(q k x hx).2⟩⟩
  · rintro ⟨q8,q1,q2⟩
    exact ⟨fun k x hx=>⟨q1 k x hx,(q2 k x hx).2⟩,q8⟩
theorem ZeL (l:List (List UInt8)) (hl:l.length≤1048576) (hsm:∀ s∈l,s.length≤4611686018427387904):Zan l=some (tr (VU l l.length)):=by
  unfold Zan
  rw [ZaP (show Len l by show l.length≤4611686018427387904;omega) (fun k s=>ZaZ s=true∧∀ (j:Nat) (q:List UInt8),j<k→l[j]?=some q→id q≠id s) (bad:=false) (good:=true)
    (fun k s hx hk _=>by
      simp only [JV,show (k:Int)<(l.length:Int) from by omega,if_true,Zu,hx,Option.bind_some,Zds s (hsm s (List.mem_of_getElem? hx))]
      by_cases hC:ZaZ s=true
      · rw [if_pos hC,Zmd (f:=id) (l:=l) (x:=s) (k:=k) (by omega) (by omega) (bad:=.inr false) (good:=.inl (IntKind.i64.wrap ((k:Int)+1),()))
          (fun j y hj hy=>by
            simp only [JK,show (j:Int)<(k:Int) from by omega,if_true,Zu,hy,Option.bind_some,id]
            split<;>rfl)
          (by simp only [JK,Int.lt_irrefl,if_false])]
        constructor
        · intro hh;rw [VB hh.2]
        · intro hh;rw [Qu (fun q=>hh ⟨hC,q⟩)]
      · rw [if_neg hC]
        exact ⟨fun hh=>absurd hh.1 hC,fun _=>rfl⟩)
    (fun _=>by simp only [JV,Int.lt_irrefl,if_false]),ZlK]
  congr 1
  refine Jd ?_
  have:=ZoE id l
  rw [List.map_id] at this
  exact this.symm
def ZaY (d:Za):List (List UInt8):=(Za.Instances d).map Zd.Name
def ZcB (d:Za):List (List UInt8):=(Za.Z5 d).map ZU.Name
def Zje (d:Za):Prop:=(Za.Instances d).length≤14∧(Za.ZQ d).length≤30∧(Za.Z5 d).length≤8∧VU (ZaY d) (ZaY d).length∧VU (Za.ZQ d) (Za.ZQ d).length∧VU (ZcB d) (ZcB d).length
structure Zwx (d:Za):Prop where
  insts:sm (.sl Zv) (Za.Instances d)
  ports:sm (.sl Xk) (Za.Z5 d)
  nets:sm (.sl .str) (Za.ZQ d)
theorem gather {α ρ:Type} {l:List α} (hl:l.length≤1048576) (f:α→List UInt8) {step:List (List UInt8)×Int×Unit→Option ((List (List UInt8)×Int×Unit) ⊕ ρ)} {good:ρ}
    (hs:∀ (k:Nat) (x:α) (o:List (List UInt8)),l[k]?=some x→(k:Int)<(l.length:Int)→o.length=k→step (o,(k:Int),())=ZA ((o.length+[f x].length)*16≤140737488355328) (some (.inl (o++[f x],IntKind.i64.wrap ((k:Int)+1),()))))
    (hx:step (l.map f,(l.length:Int),())=some (.inr good)):Zw step (([]:List (List UInt8)),(0:Int),())=some good:=by
  refine (show Zw step (([]:List (List UInt8)),(0:Int),())=some good from YF (l:=l) (fun k=>((l.map f).take k,(k:Int),())) (fun k x hx hk=>?_) ?_)
  · have hn:(l.map f)[k]?=some (f x):=by simp [hx]
    have hlen:((l.map f).take k).length=k:=by rw [List.length_take,List.length_map];omega
    rw [hs k x _ hx (by omega) hlen,Zi (by rw [hlen];simp;omega),Yz hn,Zax (by omega)]
  · have e0:(l.map f).take l.length=l.map f:=by rw [show l.length=(l.map f).length by simp,List.take_length]
    simp only [e0]
    exact hx
end Go.Proofs.YtehkanadahncgaaGreatDoor
